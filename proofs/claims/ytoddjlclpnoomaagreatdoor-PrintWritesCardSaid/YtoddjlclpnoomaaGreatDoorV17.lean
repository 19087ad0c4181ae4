import Derived.Recover
import Derived.Test.YtoddjlclpnoomaaGreatDoorV16
set_option linter.unusedVariables false
set_option linter.unusedSimpArgs false
set_option maxRecDepth 100000
open Go.Proofs.Tryz
open Go.Instr (storeAt field typeAssert)
open List (drop_eq_getElem_cons getElem?_eq_getElem mem_map length_cons take_succ_eq_append_getElem takeWhile_cons toList_toArray isPrefixOf take_succ_cons drop_eq_nil_of_le length_nil set_cons_zero set_cons_succ take_zero dropWhile_cons length_drop)
open Nat (le_refl)
open Go.Builtin (append_)
open Array (replicate)
open Go.Value (cells int)
open Bool (and_eq_true not_eq_true' false_eq_true)
open Option (mem_toList mem_def)
namespace Go.Proofs.YtoddjlclpnoomaaGreatDoor
open Go.Sh
theorem vF:∀s:By,-1<=Lib.index s [10]/\(0<=Lib.index s [10]->s.take (Lib.index s [10]).toNat=s.takeWhile (λc=>!(c==10)))/\(Lib.index s [10]<0->s.takeWhile (λc=>!(c==10))=s)
 |[]=>by simp[Lib.index]
 |b::l=>by
  obtain⟨h1,h2,h3⟩:=vF l;unfold Lib.index;by_cases h:b=10
  .subst h;simp[isPrefixOf]
  .have e1:((10:UInt8)==b)=false:=by simp;exact λe=>h e.symm
   have e2:(b==10)=false:=by simpa using h
   simp only[isPrefixOf,e1,Bool.false_and,false_eq_true,if_false,takeWhile_cons,e2,Bool.not_false,if_true];by_cases h4:Lib.index l [10]=-1
   .rw[h4]at h2 h3⊢;simp
    exact h3 aj
   .have h5:(Lib.index l [10]==-1)=false:=by simpa using h4
    rw[h5];simp only[false_eq_true,if_false];refine⟨by omega,λ_=>?_,λh=>by omega⟩;rw[show(Lib.index l [10]+1).toNat=(Lib.index l [10]).toNat+1 by omega,take_succ_cons,h2 aj]
theorem Nz(s:By):(Lib.cut s [10]).1=s.takeWhile (λc=>!(c==10)):=by
 obtain⟨h1,h2,h3⟩:=vF s;unfold Lib.cut;split
 .rename_i h;exact h2 h
 .rename_i h;exact(h3 aj).symm
theorem pr{s:By}{k:Nat}(hk:k<(s.takeWhile (λc=>!(c==10))).length):(s.takeWhile (λc=>!(c==10))).take (k+1)=s.take (k+1):=by
 have:=List.takeWhile_append_dropWhile (p:=λc:UInt8=>!(c==10)) (l:=s);conv=>rhs;rw[←this]
 rw[List.take_append_of_le_length aj]
theorem c91(w:Wd)(s:By)(g:GL w)(hl:s.length<=60000)(h0:s.headD 0=34):Calls prog 91 #[str s] w (aZ (λv w'=>WQ (mF s) v/\aD [] w w') NP):=by
 refine s91 ?_;unfold ZE;refine V1.new (fB _) λb1 w1 N1=>?_;have qm:=N1.ge;have qZ:=N1.lt;have rf:=N1.aA.size;have a1:=N1.at_;try simp only[cells,toList_toArray]at a1
 have g1:=g.new N1.aA;refine KW (TS w1 s [10] g1 aj) ?_ (NP.no (e:=_));rintro _ w2 ⟨rfl,K2⟩;rw[Nz];refine V1.i ah ?_;refine V1.i ah ?_;refine V1.i ah ?_;have kk:=N1.aA.trans K2;replace a1:=K2.at a1 ak;have lb1:=a1.lt;unfold mF;generalize hL:s.takeWhile (λc=>!(c==10))=L;have hLs:L.length<=s.length:=by rw[←hL];exact(List.takeWhile_sublist _).length_le
 have hfail:∀R:Va->Prop,(∀x n,R (.tuple #[dx x,n,.iface 23 (.int .i64 14)]))->True:=λ_ _=>trivial;refine L3.i (λt e a w'=>w'=w2/\∃k:Nat,a=.int .i64 k/\1<=k/\k<=L.length+1/\fb (L.drop 1) 1=fb (L.drop k) k) (λt e a w'=>match a with|.int _ n=>(L.length+1-n.toNat)|_=>0) ⟨rfl,1,rfl,by omega,by omega,rfl⟩ ?_;rintro t e a w' ⟨rfl,k,rfl,ue,km,hq⟩;rw[hq];by_cases bO:k<L.length
 .refine V1.i ah ?_;refine V1.bt ay ?_;refine If.t ?_;refine J3.go ?_;refine V1.i (dU _ L k bO) ?_;rw[drop_eq_getElem_cons bO]at hq⊢;have Rw:=(L[k]).toNat_lt;have MT:(((L[k]).toNat:Int)==34)=decide (L[k]=34):=by
   by_cases h:L[k]=34
   .rw[h];rfl
   .have:¬((L[k]).toNat:Int)=34:=λe=>h (UInt8.toNat_inj.1 al);simp[h,this]
  have MQ:(((L[k]).toNat:Int)==92)=decide (L[k]=92):=by
   by_cases h:L[k]=92
   .rw[h];rfl
   .have:¬((L[k]).toNat:Int)=92:=λe=>h (UInt8.toNat_inj.1 al);simp[h,this]
  refine V1.i (v:=.bool (decide (L[k]=34))) (w':=w') (by simp[go_sem,←MT]) ?_;by_cases jR:L[k]=34
  .have NA:fb (L[k]::L.drop (k+1)) k=some k:=by unfold fb;rw[if_pos jR]
   rw[NA];simp only[jR,decide_true];refine If.t ?_;refine V1.i (cC _ _ _ _ _ _ aj aj) ?_;refine V1.i (BN _ L (k+1) aj) ?_;have hm:L.take (k+1)=34::((s.take k).drop 1++[34]):=by
    have e1:L.take (k+1)=s.take (k+1):=by rw[←hL];exact pr (by rw[hL];exact bO)
    rw[take_succ_eq_append_getElem bO,jR];have e2:L.take k=s.take k:=by
     have:=congrArg (List.take k) e1;rwa [List.take_take,List.take_take,Nat.min_eq_left aj]at this
    rw[e2]
    cases s with
    |nil=>rw[length_nil]at hLs;omega
    |cons c s=>
     simp at h0
     subst h0;obtain⟨k',rfl⟩:∃k',k=k'+1:=⟨k-1,by omega⟩;simp
   rw[hm];have hml:((s.take k).drop 1).length<=60000:=by simp;omega
   generalize(s.take k).drop 1=m at*;refine KE (US w' m aj) ?_ (NP.no (e:=_));rintro _ w3 ⟨rfl,K3⟩;replace a1:=K3.at a1 ak;have kk:=kk.trans K3;have lb3:=a1.lt;generalize iH m=r at*;obtain⟨tx,ec⟩:=r;refine V1.i ah ?_;refine V1.i ah ?_;refine V1.i (v:=.bool (!(ec==0))) (w':=w3) (by simp[go_sem];rfl) ?_
   cases AY:(ec==0)with
   |true=>
    have AY:ec=0:=by simpa using AY
    refine If.f ?_;refine V1.i ah ?_;refine V1.i (cC _ _ _ _ _ _ aj aj) ?_;refine U1.tok (t:=⟨3,tx,0,0⟩) a1 rfl λw4 U4=>?_;refine⟨_,cE U4.at_,?_,kk.then U4.aA ak al⟩;simp only[AY,if_true,WQ];rfl
   |false=>
    have AY:¬ec=0:=by simpa using AY
    refine If.t ?_;refine V1.i ah ?_;refine KG (UT w3 ec) ?_ (NP.no (e:=_));rintro _ w4 ⟨rfl,rfl⟩;refine U1.tok (t:=⟨0,[],0,0⟩) a1 rfl λw5 U4=>?_;refine⟨_,cE U4.at_,?_,kk.then U4.aA ak al⟩;simp only[AY,if_false];by_cases h4:ec=4
    .simp only[h4,if_true];exact⟨⟨0,[],0,0⟩,_,rfl⟩
    .simp only[h4,if_false];exact⟨⟨0,[],0,0⟩,_,rfl⟩
  .simp only[jR,decide_false];refine If.f ?_;refine V1.i (v:=.bool (decide (L[k]=92))) (w':=w') (by simp[go_sem,←MQ]) ?_;by_cases qp:L[k]=92
   .have NA:fb (L[k]::L.drop (k+1)) k=fb (L.drop (k+2)) (k+2):=by
     conv=>lhs;unfold fb
     rw[if_neg jR,if_pos qp];by_cases h2:k+1<L.length
     .rw[drop_eq_getElem_cons h2]
     .rw[drop_eq_nil_of_le aj,drop_eq_nil_of_le aj];simp[fb]
    rw[NA];simp only[qp,decide_true];refine If.t ?_;refine V1.i (cC _ _ _ _ _ _ aj aj) ?_;refine V1.i (cC _ _ _ _ _ _ aj aj) ?_;exact⟨⟨rfl,k+2,by congr 1,by omega,by omega,rfl⟩,by simp;omega⟩
   .have NA:fb (L[k]::L.drop (k+1)) k=fb (L.drop (k+1)) (k+1):=by
     conv=>lhs;unfold fb
     rw[if_neg jR,if_neg qp]
    rw[NA];simp only[qp,decide_false];refine If.f ?_;refine V1.i (cC _ _ _ _ _ _ aj aj) ?_;exact⟨⟨rfl,k+1,by simp,by omega,by omega,rfl⟩,by simp;omega⟩
 .refine V1.i ah ?_;refine V1.bf ay ?_;refine If.f ?_;refine V1.i ah ?_;refine V1.i ah ?_;refine U1.tok (t:=⟨0,[],0,0⟩) a1 rfl λw5 U4=>?_;refine⟨_,cE U4.at_,?_,kk.then U4.aA ak al⟩;rw[drop_eq_nil_of_le aj];exact⟨⟨0,[],0,0⟩,_,rfl⟩
theorem c54(w:Wd)(s:By)(g:GL w)(hl:s.length<=60000)(h0:s≠[]):Calls prog 54 #[str s] w (aZ (λv w'=>WQ (eT s) v/\aD [] w w') NP):=by
 refine s54 ?_;unfold Zy;obtain⟨c,l,hs⟩:=List.exists_cons_of_ne_nil h0;have Rw:=c.toNat_lt;have It:s.headD 0=c:=by rw[hs];rfl
 have hs0:∀(h:0<s.length),s[0]=c:=by intro h;subst hs;rfl
 have hp:0<s.length:=by rw[hs];simp
 have kk:=aD.refl [] w;refine V1.new (bx9 _ _) λb1 w1 N1=>?_;have qm:=N1.ge;have qZ:=N1.lt;have rf:=N1.aA.size;have a1:=N1.at_;try simp only[cells,toList_toArray]at a1
 replace kk:=N1.kp kk;refine V1.new (fB _) λb2 w2 N2=>?_;have DZ:=N2.ge;have D0:=N2.lt;have B3:=N2.aA.size;have a2:=N2.at_;try simp only[cells,toList_toArray]at a2
 replace kk:=N2.kp kk;replace a1:=N2.a a1;have g2:=g.new kk;refine V1.i ah ?_;refine V1.load (aC rfl) (a1) rfl ?_;refine V1.i (dU _ s 0 hp) ?_;rw[hs0 hp];have MT:((c.toNat:Int)==34)=decide (c=34):=by
  by_cases h:c=34
  .subst h;rfl
  .have:¬(c.toNat:Int)=34:=λe=>h (UInt8.toNat_inj.1 al);simp[h,this]
 have lb2:=a2.lt;refine tY (c51 w2 c du) ?_ (NP.no (e:=_));rintro _ w3 ⟨rfl,rfl⟩
 cases hL:du.contains c with
 |true=>
  refine If.t ?_;refine V1.load (aC rfl) (a1) rfl ?_;refine Kp (ZZ w3 s (du++cA) aj) ?_ (NP.no (e:=_));rintro _ w4 ⟨rfl,rfl⟩;have hn:=lS s (du++cA);have yS:eT s=(if 24<ia s (du++cA)then .err 14 else .tok ⟨if gY (s.take (ia s (du++cA)))=true then 4 else 1,s.take (ia s (du++cA)),0,0⟩ (ia s (du++cA))):=by
   unfold eT;rw[It,if_pos hL]
  generalize ia s (du++cA)=n at*;refine V1.i (v:=.bool (decide (24<n))) (w':=w4) (by simp[go_sem];congr 1;omega) ?_;by_cases A6:24<n
  .have hw:=yS.trans (if_pos A6);simp only[A6,decide_true];refine If.t ?_;refine V1.i ah ?_;refine V1.i ah ?_;refine U1.tok (t:=⟨0,[],0,0⟩) a2 rfl λw5 U4=>?_;refine⟨_,cE U4.at_,?_,kk.then U4.aA ak al⟩;rw[hw];exact⟨⟨0,[],0,0⟩,_,rfl⟩
  .rw[if_neg A6]at yS;simp only[A6,decide_false];refine If.f ?_;refine V1.load (aC rfl) (a1) rfl ?_;refine V1.i (BN _ s n hn) ?_;refine Kq (Z0 w4 (s.take n) g2 al) ?_ (NP.no (e:=_));rintro _ w5 ⟨rfl,rfl⟩
   cases hR:gY (s.take n)with
   |true=>
    have hw:=yS;rw[hR,if_pos rfl]at hw;refine If.t ?_;refine Up.c (aJ func87 (c:=bA f87) ai ai _ _) (aZ.sf (c87 s 4 n a1 hn) ?_ (NP.no (e:=_)));rintro _ w6 ⟨rfl,K6⟩;have z6:=K6.size;have mr:=K6.size;replace kk:=kk.trans' K6 af;replace a1:=K6.at a1 af;replace a2:=K6.at a2 af;refine V1.i ah ?_;refine V1.i ah ?_;refine V1.i ah ?_;refine U1.tok (t:=⟨4,s.take (n),0,0⟩) a2 rfl λw7 U7=>?_;refine⟨_,cE U7.at_,?_,kk.then U7.aA ak al⟩;rw[hw];rfl
   |false=>
    have hw:=yS;rw[hR,if_neg ak]at hw;refine If.f ?_;refine Up.c (aJ func87 (c:=bA f87) ai ai _ _) (aZ.sf (c87 s 1 n a1 hn) ?_ (NP.no (e:=_)));rintro _ w6 ⟨rfl,K6⟩;have z6:=K6.size;have mr:=K6.size;replace kk:=kk.trans' K6 af;replace a1:=K6.at a1 af;replace a2:=K6.at a2 af;refine V1.i ah ?_;refine V1.i ah ?_;refine V1.i ah ?_;refine U1.tok (t:=⟨1,s.take (n),0,0⟩) a2 rfl λw7 U7=>?_;refine⟨_,cE U7.at_,?_,kk.then U7.aA ak al⟩;rw[hw];rfl
 |false=>
  refine If.f ?_;refine tY (c51 w3 c cA) ?_ (NP.no (e:=_));rintro _ w4 ⟨rfl,rfl⟩;have VT:¬du.contains c=true:=by rw[hL];simp
  cases hD:cA.contains c with
  |true=>
   have hw:eT s=mG s:=by unfold eT;rw[It,if_neg VT,if_pos hD]
   refine If.t ?_;refine V1.load (aC rfl) (a1) rfl ?_;refine Tw (c90 w4 s g2 aj (by rw[It];exact hD)) ?_ (NP.no (e:=_));rintro _ w3 ⟨hW,K3⟩;have z3:=K3.size;have tG:=K3.size;replace kk:=kk.trans' K3 af;replace a1:=K3.at a1 af;replace a2:=K3.at a2 af;rw[hw];generalize mG s=r at*
   cases r with
   |tok t n=>
    replace hW:_=_:=hW;subst hW;refine V1.i ah ?_;refine V1.i ah ?_;refine V1.i ah ?_;refine U1.tok (t:=t) a2 rfl λw7 U7=>?_;exact⟨_,cE U7.at_,rfl,kk.then U7.aA ak al⟩
   |err e=>
    obtain⟨x,n,rfl⟩:=hW;refine V1.i ah ?_;refine V1.i ah ?_;refine V1.i ah ?_;refine U1.tok (t:=x) a2 rfl λw7 U7=>?_;exact⟨_,cE U7.at_,⟨x,n,rfl⟩,kk.then U7.aA ak al⟩
  |false=>
   refine If.f ?_;have hDn:¬cA.contains c=true:=by rw[hD];simp
   refine V1.i (v:=.bool (decide (c=34))) (w':=w4) (by simp[go_sem,←MT]) ?_;by_cases jR:c=34
   .have hw:eT s=mF s:=by unfold eT;rw[It,if_neg VT,if_neg hDn,if_pos jR]
    simp only[jR,decide_true];refine If.t ?_;refine V1.load (aC rfl) (a1) rfl ?_;refine Tx (c91 w4 s g2 hl (by rw[It];exact jR)) ?_ (NP.no (e:=_));rintro _ w3 ⟨hW,K3⟩;have z3:=K3.size;have tG:=K3.size;replace kk:=kk.trans' K3 af;replace a1:=K3.at a1 af;replace a2:=K3.at a2 af;rw[hw];generalize mF s=r at*
    cases r with
    |tok t n=>
     replace hW:_=_:=hW;subst hW;refine V1.i ah ?_;refine V1.i ah ?_;refine V1.i ah ?_;refine U1.tok (t:=t) a2 rfl λw7 U7=>?_;exact⟨_,cE U7.at_,rfl,kk.then U7.aA ak al⟩
    |err e=>
     obtain⟨x,n,rfl⟩:=hW;refine V1.i ah ?_;refine V1.i ah ?_;refine V1.i ah ?_;refine U1.tok (t:=x) a2 rfl λw7 U7=>?_;exact⟨_,cE U7.at_,⟨x,n,rfl⟩,kk.then U7.aA ak al⟩
   .simp only[jR,decide_false];refine If.f ?_;refine V1.load (aC rfl) (a1) rfl ?_;refine V1.i ah ?_;refine V1.i (v:=.bool (decide (1<s.length))) (w':=w4) (by simp[go_sem];congr 1;omega) ?_;refine J1.gd (!((s.take 2).contains 32)) (λh k hk=>?_) ?_
    .have h2:1<s.length:=by simpa using h
     refine V1.load (aC rfl) (a1) rfl ?_;refine V1.i (BN _ s 2 aj) ?_;refine tY (c51 w4 32 (s.take 2)) ?_ (NP.no (e:=_));rintro _ w5 ⟨rfl,rfl⟩;refine V1.i (v:=.bool (!((s.take 2).contains 32))) (w':=w5) au ?_;exact hk
    refine V1.i (gi _ _ _) ?_;refine J1.gd (Lib.contains gX (s.take 2)) (λh k hk=>?_) ?_
    .have h2:1<s.length:=by simp at h;omega
     refine V1.load (aC rfl) (a1) rfl ?_;refine V1.i (BN _ s 2 aj) ?_;refine BP (Ru w4 gX (s.take 2) g2 az) ?_ (NP.no (e:=_));rintro _ w5 ⟨rfl,rfl⟩;exact hk
    refine V1.i (gi _ _ _) ?_;have yS:eT s=if 1<s.length/\(s.take 2).contains 32=false/\Lib.contains gX (s.take 2)=true then .tok ⟨4,s.take 2,0,0⟩ 2
     else if iX.contains c=true then .tok ⟨4,s.take 1,0,0⟩ 1 else .err 14:=by
     unfold eT;rw[It,if_neg VT,if_neg hDn,if_neg jR]
    by_cases hP:1<s.length/\(s.take 2).contains 32=false/\Lib.contains gX (s.take 2)=true
    .have hw:=yS.trans (if_pos hP);have:(decide (1<s.length)&&!((s.take 2).contains 32)&&Lib.contains gX (s.take 2))=true:=by
      rw[hP.2.1,hP.2.2];simp[hP.1]
     rw[this];refine If.t ?_;refine Up.c (aJ func87 (c:=bA f87) ai ai _ _) (aZ.sf (c87 s 4 2 a1 aj) ?_ (NP.no (e:=_)));rintro _ w6 ⟨rfl,K6⟩;have z6:=K6.size;have mr:=K6.size;replace kk:=kk.trans' K6 af;replace a1:=K6.at a1 af;replace a2:=K6.at a2 af;refine V1.i ah ?_;refine V1.i ah ?_;refine V1.i ah ?_;refine U1.tok (t:=⟨4,s.take (2),0,0⟩) a2 rfl λw7 U7=>?_;refine⟨_,cE U7.at_,?_,kk.then U7.aA ak al⟩;rw[hw];rfl
    .rw[if_neg hP]at yS;have:(decide (1<s.length)&&!((s.take 2).contains 32)&&Lib.contains gX (s.take 2))=false:=by
      cases h1:(decide (1<s.length)&&!((s.take 2).contains 32)&&Lib.contains gX (s.take 2))with
      |false=>rfl
      |true=>
       simp only[and_eq_true,decide_eq_true_eq,not_eq_true']at h1;exact absurd ⟨h1.1.1,h1.1.2,h1.2⟩ hP
     rw[this];refine If.f ?_;refine tY (c51 w4 c iX) ?_ (NP.no (e:=_));rintro _ w5 ⟨rfl,rfl⟩
     cases hS:iX.contains c with
     |true=>
      have hw:=yS.trans (if_pos hS);refine If.t ?_;refine Up.c (aJ func87 (c:=bA f87) ai ai _ _) (aZ.sf (c87 s 4 1 a1 aj) ?_ (NP.no (e:=_)));rintro _ w6 ⟨rfl,K6⟩;have z6:=K6.size;have mr:=K6.size;replace kk:=kk.trans' K6 af;replace a1:=K6.at a1 af;replace a2:=K6.at a2 af;refine V1.i ah ?_;refine V1.i ah ?_;refine V1.i ah ?_;refine U1.tok (t:=⟨4,s.take (1),0,0⟩) a2 rfl λw7 U7=>?_;refine⟨_,cE U7.at_,?_,kk.then U7.aA ak al⟩;rw[hw];rfl
     |false=>
      have hw:=yS.trans (if_neg (by rw[hS];simp));refine If.f ?_;refine V1.i ah ?_;refine V1.i ah ?_;refine U1.tok (t:=⟨0,[],0,0⟩) a2 rfl λw5 U4=>?_;refine⟨_,cE U4.at_,?_,kk.then U4.aA ak al⟩;rw[hw];exact⟨⟨0,[],0,0⟩,_,rfl⟩
def ik(t:Tok):LV:=[.int .i64 t.kind,str t.text,.int .i64 t.n,.int .i64 t.line]
def iL(lo:Nat)(w:Wd)(v:Va)(ts:LT):Prop:=
 w.ownsRow 0 86 4 v ts.length (ts.flatMap ik)/\∀g,v.ownBlock=some g->lo<=g
theorem iL.nil(lo:Nat)(w:Wd):iL lo w (.slice none 0 0) []:=⟨World.ownsRow_nil w 0 86 4,λg h=>by cases h⟩
theorem iL.lt{lo:Nat}{w:Wd}{v:Va}{ts:LT}(h:iL lo w v ts){g:Nat}(hg:v.ownBlock=some g):lo<=g/\g<w.heap.size:=⟨h.2 g hg,(h.1.lt g hg).2⟩
theorem iL.fr{lo:Nat}{M:List Nat}{w w':Wd}{v:Va}{ts:LT}(h:iL lo w v ts)(hk:aD M w w')(hM:∀i∈M,i<lo\/w.heap.size<=i):iL lo w' v ts:=
 ⟨ig h.1 hk λg hg Gf=>by
  have:=h.lt hg;have:=hM g Gf;omega,h.2⟩
theorem iL.f0{lo:Nat}{w w':Wd}{v:Va}{ts:LT}(h:iL lo w v ts)(hk:aD [] w w'):iL lo w' v ts:=h.fr hk ak
theorem iL.RJ{lo:Nat}{M:List Nat}{w w':Wd}{v:Va}{ts:LT}(h:iL lo w v ts)(hk:aD M w w')(hM:∀g,v.ownBlock=some g->g∉M):iL lo w' v ts:=⟨ig h.1 hk hM,h.2⟩
theorem vG{lo:Nat}{w:Wd}{v:Va}{ts:LT}{t:Tok}{b n:Nat}(h:iL lo w v ts)(hb:At w b (ik t))(hn:ts.length<=n)(mI:n<=1099511627776)(eW:lo<=w.heap.size):
  ∃v' w',(append_ #[73,73] 73 #[v,.slice (some ⟨b,0,none⟩) 1 1]).run prog w=.ok v' w'/\iL lo w' v' (ts++[t])/\aD v.ownBlock.toList w w':=by
 obtain⟨v',w',hr,ho,hk,hv⟩:=gC (P:=prog) 73 73 86 ((prog.info? 86).getD default) (.agg #[.int .i64 0,.string ⟨#[]⟩,.int .i64 0,.int .i64 0]) 4 40 ai ai ai ai ai ai aj v ts.length (ts.flatMap ik) h.1 ⟨b,0,none⟩ 1 1 (ik t) rfl (λj a hj=>by
  have hc:=hb.cell j;rw[hj]at hc;simp only[Addr.add];split
  .rename_i h
   obtain rfl:j=0:=by simpa using h
   exact hc
  .simpa using hc) (by simp[ik];exact⟨rfl,rfl,rfl,rfl⟩) (by simp only[maxLen];omega) aj
 refine⟨v',w',hr,⟨by simpa using ho,?_⟩,hk⟩;intro g hg;rcases hv with hv|⟨g',hv,Bn⟩
 .exact h.2 g (by rw[←hv,hg])
 .rw[hv]at hg;cases hg;omega
theorem vH(w:Wd)(b:Nat):∀(ts:LT) (o:Nat),(∀j u,(ts.flatMap ik)[j]?=some u->w.cell? ⟨b,o+j,none⟩=some u)->dm w b o ts
 |[],_,_=>trivial
 |t::ts,o,h=>by
  refine⟨⟨by simpa using h 0 _ (by simp[ik]),h 1 _ (by simp[ik]),h 2 _ (by simp[ik]),h 3 _ (by simp[ik])⟩,vH w b ts (o+4) λj u hj=>?_⟩;have:=h (4+j) u (by
   simp only[List.flatMap_cons];rw[List.getElem?_append_right (by simp[ik])];simpa[ik]using hj)
  rwa [show o+4+j=o+(4+j)by omega]
theorem iL.NB{lo:Nat}{w:Wd}{v:Va}{ts:LT}(h:iL lo w v ts)(aI:ts≠[]):∃b c,v=.slice (some ⟨b,0,none⟩) ts.length c/\dm w b 0 ts/\ts.length<=c/\lo<=b/\b<w.heap.size:=by
 have hl:∀g,v.ownBlock=some g->lo<=g/\g<w.heap.size:=λg hg=>h.lt hg;rcases h.1.2 with⟨h1,h2⟩|⟨g,cap,cur,rfl,hb,hg,hn,_⟩
 .exact absurd (List.eq_nil_of_length_eq_zero h2) aI
 .have hc:=h.1.cells (g:=g) rfl;refine⟨g,cap,rfl,vH w g ts 0 (λj u hj=>?_),hn,(hl _ rfl).1,(hl _ rfl).2⟩;have:=hc j u hj;simp only[Addr.add]at this;split at this
  .rename_i h0
   obtain rfl:j=0:=by simpa using h0
   exact this
  .simpa using this
def LR.app(acc:LT):LR->LR
 |.ok ts=>.ok (acc++ts)
 |.fail c=>.fail c
theorem LR.sB(acc:LT)(t:Tok)(r:LR):(r.cons t).app acc=r.app (acc++[t]):=by cases r<;>simp[LR.app,LR.cons]
def TQ(w0:Wd)(r:LR)(v:Va)(w':Wd):Prop:=match r with
 |.ok ts=>∃b c,v=.tuple #[.slice (some ⟨b,0,none⟩) ts.length c,.nilIface]/\dm w' b 0 ts/\ts.length<=c/\w0.heap.size<=b/\b<w'.heap.size/\ts≠[]
 |.fail c=>∃b line,v=.tuple #[.slice none 0 0,.iface 76 (ptr b)]/\At w' b [.int .i64 c,.int .i64 line]/\w0.heap.size<=b
theorem VU(s:By):Lib.hasPrefix s [45,45]=decide (s.take 2=[45,45]):=by
 rcases s with _|⟨a,_|⟨b,s⟩⟩
 .rfl
 .simp[Lib.hasPrefix,isPrefixOf]
 .simp only[Lib.hasPrefix,isPrefixOf,take_succ_cons,take_zero,Bool.and_true];have:∀x y:UInt8,(x==y)=decide (y=x):=λx y=>by by_cases h:y=x<;>simp[h];exact λe=>h e.symm
  rw[this,this];simp
theorem yT:∀s:By,0<=Lib.indexByte s 10->s.drop (Lib.indexByte s 10).toNat=s.dropWhile (λc=>!(c==10))
 |[],h=>by simp[Lib.indexByte]
 |a::s,h=>by
  unfold Lib.indexByte at h⊢;by_cases ha:a=10
  .subst ha;simp
  .have e:(a==10)=false:=by simpa using ha
   rw[e]at h⊢;simp only[false_eq_true,if_false]at h⊢;split at h
   .omega
   .rename_i h1
    rw[if_neg h1];have h2:=indexByte_ge 10 s;have h3:Lib.indexByte s 10≠-1:=by simpa using h1
    rw[show(Lib.indexByte s 10+1).toNat=(Lib.indexByte s 10).toNat+1 by omega,List.drop_succ_cons,yT s aj,dropWhile_cons];simp[e]
theorem jG:∀(l:By) (j k:Nat),fb l j=some k->j<=k/\k<j+l.length
 |[],j,k,h=>by simp[fb]at h
 |[c],j,k,h=>by
  unfold fb at h;split at h
  .simp only[Option.some.injEq]at h;subst h;simp
  .split at h
   .cases h
   .simp[fb]at h
 |c::d::l,j,k,h=>by
  unfold fb at h;split at h
  .simp only[Option.some.injEq]at h;subst h;simp
  .split at h
   .have:=jG l _ _ h;simp only[length_cons];omega
   .have:=jG (d::l) _ _ h;simp only[length_cons]at this⊢;omega
theorem qx{c:UInt8}{l set:By}(h:set.contains c=true):1<=ia (c::l) set:=by rw[jB h];omega
theorem uz(c:UInt8)(l:By):eT (c::l)=
 if du.contains c=true then
  (if 24<ia (c::l) (du++cA)then .err 14 else .tok ⟨if gY ((c::l).take (ia (c::l) (du++cA)))=true then 4 else 1,(c::l).take (ia (c::l) (du++cA)),0,0⟩ (ia (c::l) (du++cA)))
 else if cA.contains c=true then mG (c::l)
 else if c=34 then mF (c::l)
 else if 1<(c::l).length/\((c::l).take 2).contains 32=false/\Lib.contains gX ((c::l).take 2)=true then .tok ⟨4,(c::l).take 2,0,0⟩ 2
 else if iX.contains c=true then .tok ⟨4,(c::l).take 1,0,0⟩ 1
 else .err 14:=rfl
theorem pt(s:By)(hs:s≠[])(t:Tok)(k:Nat)(h:eT s=.tok t k):1<=k/\k<=s.length:=by
 obtain⟨c,l,rfl⟩:=List.exists_cons_of_ne_nil hs;rw[uz]at h;by_cases hc:du.contains c=true
 .rw[if_pos hc]at h;by_cases A6:24<ia (c::l) (du++cA)
  .rw[if_pos A6]at h;cases h
  .rw[if_neg A6]at h;injection h with _ h;subst h;exact⟨qx (by simp at hc⊢;exact .inl hc),lS _ _⟩
 .rw[if_neg hc]at h;by_cases hd:cA.contains c=true
  .rw[if_pos hd]at h;unfold mG at h;generalize iG _=r at h;obtain⟨v,e⟩:=r;simp only at h;split at h
   .cases h
   .split at h
    .injection h with _ h;subst h;exact⟨qx hd,lS _ _⟩
    .cases h
  .rw[if_neg hd]at h;by_cases jR:c=34
   .rw[if_pos jR]at h;unfold mF at h;split at h
    .cases h
    .rename_i k' hq
     have:=jG _ _ _ hq;have h2:((c::l).takeWhile (λc=>!(c==10))).length<=(c::l).length:=(List.takeWhile_sublist _).length_le;generalize iH _=r at h;obtain⟨v,e⟩:=r;simp only at h;split at h
     .injection h with _ h;subst h;simp only[length_drop]at this;omega
     .split at h<;>cases h
   .rw[if_neg jR]at h;split at h
    .rename_i h2
     injection h with _ h;subst h;omega
    .split at h
     .injection h with _ h;subst h;simp
     .cases h
theorem c27(w:Wd)(s:By)(g:GL w):Calls prog 27 #[str s] w (aZ (λv w'=>TQ w (kF s) v w'/\aD [] w w') NP):=by
 refine s27 ?_;unfold Zw;have kk:=aD.refl [] w;refine V1.i ah ?_;refine V1.i (v:=.bool (decide (32768<s.length))) (w':=w) (by simp[go_sem];congr 1;omega) ?_;by_cases hlen:32768<s.length
 .simp only[hlen,decide_true];refine If.t ?_;refine V1.i ah ?_;refine V1.new (FX _ _) λb1 w1 N1=>?_;have qm:=N1.ge;have qZ:=N1.lt;have rf:=N1.aA.size;have a1:=N1.at_;try simp only[cells,toList_toArray]at a1
  replace kk:=N1.kp kk;refine V1.i ah ?_;unfold kF;rw[if_pos hlen];exact⟨⟨b1,_,rfl,a1,qm⟩,kk⟩
 simp only[hlen,decide_false];refine If.f ?_;have GM:kF s=(dF (s.length+1) s 0).app []:=by
  unfold kF;rw[if_neg hlen]
  cases dF (s.length+1) s 0<;>rfl
 rw[GM];generalize hT:(dF (s.length+1) s 0).app []=T;refine J4.cut (λa5 a2 a3 a4 w'=>∃line acc,a5=.int .i64 line/\iL w.heap.size w' a4 acc/\acc.length<=32768/\(LR.ok [jK line]).app acc=T/\aD [] w w') ?_ ?_;rotate_left
 .rintro a5 a2 a3 a4 w1 ⟨line,acc,rfl,ha,VV,hT2,kk⟩;have z1:=kk.size;refine V1.i ah ?_;refine V1.aG ah λb2 w2 N2=>?_;have a2:At w2 b2 (ik (jK line)):=by simpa[ik,jK,str]using N2.at_
  have D2:=ha.fr N2.aA ak;have B3:=N2.aA.size;obtain⟨v',w3,hr,UR,k3⟩:=vG (n:=65536) D2 a2 aj aj aj;refine V1.i hr ?_;obtain⟨b,c,rfl,ht,hc,Iu,sC⟩:=UR.NB ak;have kw:aD [] w w3:=(kk.trans N2.aA).trans' k3 (λi hi bO=>by
   simp only[mem_toList,mem_def]at hi;have:=(ha.lt hi).1;omega)
  rw[←hT2];exact⟨⟨b,c,rfl,ht,hc,Iu,sC,by simp⟩,kw⟩
 refine L5.g (λn a5 a2 a3 a4 a0 w'=>∃line s acc,a5=.int .i64 line/\a0=str s/\iL w.heap.size w' a4 acc/\0<=line/\line+s.length<=32768/\acc.length+s.length<=32768/\s.length<n/\(dF n s line).app acc=T/\aD [] w w') (s.length+1) ⟨0,s,[],rfl,rfl,iL.nil _ _,by omega,by omega,by simp;omega,by omega,hT,kk⟩ ?_;clear hT GM hlen kk;rintro n a5 a2 a3 a4 a0 w1 K ⟨line,s,acc,rfl,rfl,ha,VW,vI,gI,hn,hT,kk⟩ hK;have z1:=kk.size;obtain⟨n,rfl⟩:∃k,n=k+1:=⟨n-1,by omega⟩;have g1:=g.new kk;rcases s with _|⟨c,l⟩
 .refine V1.i ah ?_;refine If.f ?_;exact⟨line,acc,rfl,ha,by simp at gI;exact gI,by simpa[dF]using hT,kk⟩
 refine V1.i ah ?_;refine If.t ?_;refine V1.i (dU _ (c::l) 0 ak) ?_;simp only[List.getElem_cons_zero];have Rw:=c.toNat_lt;have e10:((c.toNat:Int)==10)=decide (c=10):=by
  by_cases h:c=10
  .subst h;rfl
  .have:¬(c.toNat:Int)=10:=λe=>h (UInt8.toNat_inj.1 al);simp[h,this]
 have xV:dF (n+1) (c::l) line=(if c=10 then dF n l (line+1)
  else if[32,9,13].contains c=true then dF n l line
  else if(c::l).take 2=[45,45]then(if(c::l).contains 10=true then dF n ((c::l).dropWhile (λc=>!(c==10))) line else .ok [jK line])
  else match eT (c::l)with
   |.err c=>.fail c
   |.tok t k=>(dF n ((c::l).drop k) line).cons (t.at line)):=by
  conv=>lhs;unfold dF
  rw[if_neg ak];rfl
 rw[xV]at hT;simp only[length_cons]at vI gI hn;refine V1.i (v:=.bool (decide (c=10))) (w':=w1) (by simp[go_sem,←e10]) ?_;by_cases jS:c=10
 .rw[if_pos jS]at hT;simp only[jS,decide_true];refine If.t ?_;refine V1.i (cC _ _ _ _ _ _ aj aj) ?_;refine V1.i (nr _ (10::l) 1 ak) ?_;exact hK n _ _ _ _ _ _ aj ⟨line+1,l,acc,rfl,rfl,ha,by omega,by omega,by omega,by omega,hT,kk⟩
 rw[if_neg jS]at hT;simp only[jS,decide_false];refine If.f ?_;refine V1.i (dU _ (c::l) 0 ak) ?_;simp only[List.getElem_cons_zero];refine tY (c51 w1 c [32,9,13]) ?_ (NP.no (e:=_));rintro _ w2 ⟨rfl,rfl⟩
 cases hb:([32,9,13]:By).contains c with
 |true=>
  rw[if_pos hb]at hT;refine If.t ?_;refine V1.i (nr _ (c::l) 1 ak) ?_;exact hK n _ _ _ _ _ _ aj ⟨line,l,acc,rfl,rfl,ha,by omega,by omega,by omega,by omega,hT,kk⟩
 |false=>
 rw[if_neg (by rw[hb];simp)]at hT;refine If.f ?_;refine TO (c52 w2 (c::l) [45,45]) ?_ (NP.no (e:=_));rintro _ w3 ⟨rfl,rfl⟩;rw[VU];by_cases h2:(c::l).take 2=[45,45]
 .rw[if_pos h2]at hT;simp only[h2,decide_true];refine If.t ?_;refine KU (c53 w3 (c::l) 10) ?_ (NP.no (e:=_));rintro _ w4 ⟨rfl,rfl⟩;refine V1.i (v:=.bool ((c::l).contains 10)) (w':=w4) (by rw[←fJ];simp[go_sem]) ?_
  cases h3:(c::l).contains 10 with
  |true=>
   rw[if_pos h3]at hT;have h4:0<=Lib.indexByte (c::l) 10:=by
    have:=fJ 10 (c::l);rw[h3]at this;simpa using this
   have h5:=indexByte_ge 10 (c::l);refine If.t ?_;rw[show Lib.indexByte (c::l) 10=((Lib.indexByte (c::l) 10).toNat:Int)by omega];refine V1.i (nr _ (c::l) _ aj) ?_;rw[yT _ h4];have bO:((c::l).dropWhile (λc=>!(c==10))).length<=l.length:=by
    rw[dropWhile_cons];have:(!(c==10))=true:=by simpa using jS
    rw[if_pos this];exact(List.dropWhile_sublist _).length_le
   exact hK n _ _ _ _ _ _ aj ⟨line,_,acc,rfl,rfl,ha,by omega,by omega,by omega,by omega,hT,kk⟩
  |false=>
   rw[if_neg (by rw[h3];simp)]at hT;refine If.f ?_;exact⟨line,acc,rfl,ha,by omega,hT,kk⟩
 rw[if_neg h2]at hT;simp only[h2,decide_false];refine If.f ?_;refine Tv (c54 w3 (c::l) g1 al ak) ?_ (NP.no (e:=_));rintro _ w4 ⟨hW,K4⟩;have GN:=pt (c::l) ak;have z4:=K4.size;have py:=kk.trans K4;have GO:=ha.fr K4 ak;generalize eT (c::l)=r at*
 cases r with
 |err e=>
  obtain⟨x,nn,rfl⟩:=hW;simp only at hT;refine V1.i ah ?_;refine V1.i ah ?_;refine V1.i ah ?_;refine V1.new (fB _) λb5 w5 N5=>?_;have B5:=N5.ge;have AZ:=N5.lt;have Eb:=N5.aA.size;have a5:=N5.at_;try simp only[cells,toList_toArray]at a5
  replace py:=N5.kp py;refine U1.tok (t:=x) a5 rfl λw6 U6=>?_;have z6:=U6.size;replace py:=py.trans' U6.aA af;refine V1.i (DR _ _ _ _) ?_;refine If.t ?_;refine V1.new (Jx _) λb7 w7 N7=>?_;have VB:=N7.ge;have VC:=N7.lt;have VD:=N7.aA.size;have a7:=N7.at_;try simp only[cells,toList_toArray]at a7
  replace py:=N7.kp py;refine V1.i ah ?_;refine SV (c55 (g.new py) a7) ?_ (NP.no (e:=_));rintro _ w8 ⟨rfl,a8,K8⟩;have z8:=K8.size;have A7:aD [] w w8:=py.trans' K8 al;have yU:=A7.drew;have a9:At w8.drew b7 [.int .i64 e]:=a8;refine⟨λw'=>At w' b7 [.int .i64 e],a9,?_⟩;refine Xw.i _ (λw' hw=>(aC rfl) _ _ _ (by rw[hw.cell];rfl)) ?_;refine Xw.i _ (λw' _=>by simp[go_sem]<;>trivial) ?_;generalize w8.drew=w9 at*;have z9:=yU.size;refine V1.new (FX _ _) λA4 ei eD=>?_;have Gz:=eD.ge;have GA:=eD.lt;have GB:=eD.aA.size;have iS:=eD.at_;try simp only[cells,toList_toArray]at iS
  replace yU:=eD.kp yU;replace a9:=eD.a a9;refine⟨a9,?_⟩;refine Xw.i _ (λw' _=>by simp[go_sem]<;>trivial) ?_;rw[←hT];exact⟨⟨A4,line,rfl,iS,by omega⟩,yU⟩
 |tok t k=>
  replace hW:_=_:=hW;subst hW;simp only at hT;obtain⟨ue,km⟩:=GN t k rfl;refine V1.i ah ?_;refine V1.i ah ?_;refine V1.i ah ?_;refine V1.new (fB _) λb5 w5 N5=>?_;have B5:=N5.ge;have AZ:=N5.lt;have Eb:=N5.aA.size;have a5:=N5.at_;try simp only[cells,toList_toArray]at a5
  replace py:=N5.kp py;have VX:=GO.fr N5.aA ak;refine U1.tok (t:=t) a5 rfl λw6 U6=>?_;have z6:=U6.size;replace py:=py.trans' U6.aA af;have VY:=VX.RJ U6.aA (λg hg=>by have:=(GO.lt hg).2;simp;omega);have a6:=U6.at_;refine V1.i (F8 _ _) ?_;refine If.f ?_;refine V1.i ah ?_;refine U1.store (aH rfl rfl) a6 ak λw7 U7=>?_;have Io:=U7.size;replace py:=py.trans' U7.aA af;replace a6:=U7.at_;simp only[set_cons_zero,set_cons_succ]at a6;have VZ:=VY.RJ U7.aA (λg hg=>by have:=(GO.lt hg).2;simp;omega);refine V1.i (cE (t:=t.at line) a6) ?_;refine V1.aG (z:=(ik (t.at line)).toArray) (by simp[go_sem,dx,ik];repeat' (first|rfl|apply And.intro)) λb8 w8 N8=>?_
  have z8:=N8.aA.size;have En:=VZ.fr N8.aA ak;have A7:=py.trans N8.aA;obtain⟨v',w9,hr,NC,k9⟩:=vG (n:=65536) En N8.at_ aj aj aj;refine V1.i hr ?_;refine V1.i (nr _ (c::l) k km) ?_;have z9:=k9.size;have yU:aD [] w w9:=A7.trans' k9 (λi hi bO=>by
   simp only[mem_toList,mem_def]at hi;have:=(En.lt hi).1;omega)
  simp only[length_cons]at km;refine hK n _ _ _ _ _ _ aj ⟨line,(c::l).drop k,_,rfl,rfl,NC,by omega,by simp;omega,by simp;omega,by simp;omega,?_,yU⟩;rw[←LR.sB];exact hT
theorem all_zero:nK 0:=by
 constructor
 all_goals first
  |(intro a;intro w x ts deep own r p hd hn hr aI;exact absurd hr.symm aI)
  |(intro w x ts deep own r p hd hn hr aI;exact absurd hr.symm aI)
  |(intro k hk w x ts deep own r l la lo p hd hn hr aI;exact absurd hr.symm aI)
  |(intro w x ts deep own r l la lo p hd hn hr aI;exact absurd hr.symm aI)
  |(intro w x ts deep own r bs line p hd hn hr aI;exact absurd hr.symm aI)
theorem all(n:Nat):nK n:=by
 induction n using Nat.strongRecOn with
 |_ n ih=>
  cases n with
  |zero=>exact all_zero
  |succ n=>
   have h:∀m,m<=n->nK m:=λm hm=>ih m aj;have h0:=h n (le_refl _);exact⟨g30 h,g105 h0,g108 h,g162 h0,g156 h,g199 h0,g220 h,λk hk=>g163 h0 k hk,g200 h0,g58 h,g100 h0,g101 h,g109 h0⟩
def opsL:List (By×Int):=[([111,114],1),([97,110,100],2),([60],3),([60,61],3),([62],3),([62,61],3),([61,61],3),([126,61],3),([124],4),([126],5),([38],6),([60,60],7),([62,62],7),([46,46],8),([43],9),([45],9),([42],10),([47,47],10),([37],10)]
def jc:LB:=[[111,114],[97,110,100],[60,32,60,61,32,62,32,62,61,32,61,61,32,126,61],[124],[126],[38],[60,60,32,62,62],[46,46],[43,32,45],[42,32,47,47,32,37]]
def laid(k:Nat):List (By×Int):=((jc.take k).zipIdx).flatMap λp=>(Lib.fields p.1).map λs=>(s,(p.2:Int)+1)
def yV(l:List (By×Int)):List (Va×Va):=l.map λp=>(str p.1,.int .i64 p.2)
theorem yW:laid 10=opsL:=by decide
theorem pA:∀p∈opsL,bD p.1=p.2:=by decide
theorem pB(s:By)(h:∀p∈opsL,p.1≠s):bD s=0:=by
 have h':∀a b,(a,b)∈opsL->¬s=a:=λa b hm e=>h (a,b) hm e.symm;unfold bD;simp only[h' [111,114] 1 az,h' [97,110,100] 2 az,h' [60] 3 az,h' [60,61] 3 az,h' [62] 3 az,h' [62,61] 3 az,h' [61,61] 3 az,h' [126,61] 3 az,h' [124] 4 az,h' [126] 5 az,h' [38] 6 az,h' [60,60] 7 az,h' [62,62] 7 az,h' [46,46] 8 az,h' [43] 9 az,h' [45] 9 az,h' [42] 10 az,h' [47,47] 10 az,h' [37] 10 az,or_self,if_false]
theorem str_inj{a b:By}(h:str a=str b):a=b:=by
 unfold str at h;injection h with h;injection h with h;simpa using h
theorem GP{w:Wd}{b:Nat}(h:dR w b (yV opsL)):Ie bD w b:=by
 refine⟨_,_,h,λs w1 h1=>?_⟩;have hm:prog.underlying 80=some (.map 9 3):=ai
 have hd:prog.underlying 9=some .string:=ai
 have mS:∀p∈yV opsL,MapKept.IsKey .string p.1:=by
  intro p hp;obtain⟨q,_,rfl⟩:=mem_map.1 hp;exact trivial
 by_cases hex:∃p∈opsL,p.1=s
 .obtain⟨p,hp,rfl⟩:=hex;have:=nD (w:=w1) (v:=.int .i64 (bD p.1)) hm hd h1 (show MapKept.IsKey .string (str p.1)from trivial) mS (by
   intro q hq e;obtain⟨q',sj,rfl⟩:=mem_map.1 hq;have e':=str_inj e;show int .i64 q'.2=_
   rw[←pA q' sj,e']) ⟨_,mem_map.2 ⟨p,hp,rfl⟩,rfl⟩ false
  simpa using this
 .have iw:∀p∈opsL,p.1≠s:=λp hp e=>hex ⟨p,hp,e⟩;have:=lR (w:=w1) (z:=.int .i64 0) hm hd h1 (show MapKept.IsKey .string (str s)from trivial) mS (by
   intro q hq e;obtain⟨q',sj,rfl⟩:=mem_map.1 hq;exact iw q' sj (str_inj e)) au false
  rw[pB s iw];simpa using this
def mU(k:Nat):LB:=Lib.fields (jc.getD k [])
theorem wO(k:Nat)(hk:k<10):laid (k+1)=laid k++(mU k).map λs=>(s,(k:Int)+1):=by
 have:∀k,k<10->laid (k+1)=laid k++(mU k).map λs=>(s,(k:Int)+1):=by decide
 exact this k hk
theorem fresh:∀k,k<10->∀j,j<(mU k).length->∀p∈laid k++((mU k).take j).map (λs=>(s,(k:Int)+1)),p.1≠(mU k).getD j []:=by decide
theorem yX:∀k,k<10->(jc.getD k []).length<=100/\∀b∈jc.getD k [],b.toNat<128:=by decide
theorem yY:∀k,k<10->(mU k).length<=6:=by decide
theorem c29(w:Wd)(g:GL w):Calls prog 29 #[] w (aZ (λv w'=>∃b,v=.map (some b)/\Ie bD w' b/\w.heap.size<=b/\b<w'.heap.size/\aD [] w w') NP):=by
 refine s29 ?_;unfold ZL;refine V1.map λbm w1 m1 gb k1=>?_;have lb:=m1.lt;have kk:=k1;refine V1.aG ah λb7 w2 N2=>?_;have DZ:=N2.ge;have D0:=N2.lt;have B3:=N2.aA.size;have a7:=N2.at_;try simp only[cells,toList_toArray]at a7
 replace kk:=N2.kp kk;replace m1:=m1.aA N2.aA ak;replace a7:At w2 b7 (jc.map str):=by simpa[jc,str]using a7
 refine V1.i ah ?_;refine L1.i (λv w'=>∃k:Nat,k<=10/\v=.int .i64 k/\dR w' bm (yV (laid k))/\At w' b7 (jc.map str)/\aD [] w w'/\w2.heap.size<=w'.heap.size) (λv w'=>match v with|.int _ n=>(10-n.toNat)|_=>0) ⟨0,by omega,rfl,m1,a7,kk,le_refl _⟩ ?_;rintro v w3 ⟨k,hk,rfl,m3,a7,kk,z3⟩;by_cases bO:k<10
 .refine V1.bt ay ?_;refine If.t ?_;refine V1.i (mD _ bO) ?_;have hlv:(jc.map str)[k]?=some (str (jc.getD k [])):=by
   rw[List.getElem?_map,List.getD_eq_getElem?_getD,getElem?_eq_getElem (by simpa[jc]using bO)];rfl
  refine V1.load (aC rfl) a7 hlv ?_;obtain⟨ND,wK⟩:=yX k bO;refine KV (ZJ w3 (jc.getD k []) (g.new kk) aj wK) ?_ (NP.no (e:=_));rintro _ w4 ⟨b4,rfl,N4⟩;have Vo:=N4.aA.size;have Vn:=N4.ge;have a4:=N4.at_;have hf6:=yY k bO;have e1:Lib.fields (jc.getD k [])=mU k:=rfl;rw[e1]at*;replace a7:=N4.a a7;replace m3:=m3.aA N4.aA ak;have py:=kk.trans N4.aA;refine V1.i ah ?_
  refine L1.i (λv w'=>∃j:Nat,j<=(mU k).length/\v=.int .i64 j/\dR w' bm (yV (laid k++((mU k).take j).map (λs=>(s,(k:Int)+1))))/\At w' b7 (jc.map str)/\At w' b4 ((mU k).map str)/\aD [] w w'/\w2.heap.size<=w'.heap.size) (λv w'=>match v with|.int _ n=>((mU k).length-n.toNat)|_=>0) ⟨0,by omega,rfl,by simpa using m3,a7,a4,py,by omega⟩ ?_;rintro v w5 ⟨j,hj,rfl,m5,a7,a4,Ry,z5⟩;by_cases mn:j<(mU k).length
  .refine V1.bt ay ?_;refine If.t ?_;refine V1.i (mD _ mn) ?_;have hjv:((mU k).map str)[j]?=some (str ((mU k).getD j [])):=by
    rw[List.getElem?_map,List.getD_eq_getElem?_getD,getElem?_eq_getElem mn];rfl
   refine V1.load (aC rfl) a4 hjv ?_;refine V1.i (cC _ _ _ _ _ _ aj aj) ?_;refine U1.iI (kt:=9) (et:=3) (d:=.string) ai ai m5 (show MapKept.IsKey .string (str _)from trivial) (by
    intro p hp;obtain⟨q,_,rfl⟩:=mem_map.1 hp;exact trivial) (by
    intro p hp e;obtain⟨q,hq,rfl⟩:=mem_map.1 hp;exact fresh k bO j mn q hq (str_inj e)) λw6 m6 z6 k6=>?_
   refine V1.i (cC _ _ _ _ _ _ aj aj) ?_;have vw:=m5.lt;refine⟨⟨j+1,by omega,by simp,?_,k6.at a7 al,k6.at a4 al,Ry.trans' k6 al,by omega⟩,by simp;omega⟩;rw[take_succ_eq_append_getElem mn];have e2:(mU k)[j]=(mU k).getD j []:=by rw[List.getD_eq_getElem?_getD,getElem?_eq_getElem mn];rfl
   rw[e2];simpa[yV]using m6
  .have:j=(mU k).length:=by omega
   subst this;refine V1.bf au ?_;refine If.f ?_;refine V1.i (cC _ _ _ _ _ _ aj aj) ?_;refine⟨⟨k+1,by omega,by simp,?_,a7,Ry,z5⟩,by simp;omega⟩;rw[wO k bO];simpa using m5
 .have:k=10:=by omega
  subst this;refine V1.bf au ?_;refine If.f ?_;rw[yW]at m3;exact⟨bm,rfl,GP m3,gb,m3.lt,kk⟩
def tl:Code->Code|.seq _ b=>b|c=>c
def NF(R:ER)(a0 a1 a2:Va)(w:Wd):Prop:=
 V1 prog (Bo .neq 20 false true a2 .nilIface) w (λa w=>If a (∃S1:WP,S1 w.drew/\Xw prog S1 (typeAssert a2 20 78 false) λb=>Xw prog (λ_=>True) (field 78 b 0) λc=>Xw prog S1 (Instr.makeInterface 76 c) λd=>U1 prog (storeAt 26 a0 (.slice none 0 0)) w.drew (λw=>S1 w/\U1 prog (storeAt 31 a1 d) w (λw=>cz R (.tuple #[]) w) (pn R)) (pn R)) (cz R (.tuple #[]) w)) (pn R)
theorem e28(R:ER)(a0 a1 a2:Va)(w:Wd):body prog 10 [2] [] (tl (bA f28)) [a0,a1,a2] R w=NF R a0 a1 a2 w:=ai
theorem mV{fn:Func}{c:Code}{n:Nat}{hd:List Nat}{args:LV}{w:Wd}{a:Act}{c0:Frame}{cs cs':List Frame}{u':FrameMode}{R:ER}{R':Ending->FrameMode->WP}
  (h:body prog n hd [] c args R w) (ha:Ag n (eS 0 args) a) (RM:a.defers=[]) (jn:cs'={c0 with mode:=u'}::cs) (Cm:fn.results=#[])
  (hr:∀w',R (.returned (.tuple #[])) w'->R' (.returned (.tuple #[])) u' w') (hp:∀ch w',R (.panicked ch) w'->R' (.panicked ch) u' w'):
  c.wpS prog (bodyPostS prog fn c0 cs R') a cs' w:=by
 have hv:∀(a':Act) (w':Wd),(results fn a'.tmps).run prog w'=.ok (.tuple #[]) w':=by
  intro a' w';unfold results;rw[Cm];simp[go_sem]
 refine wpS_of_wp ?_;refine pU (M:=Dm.no) (n:=n) (ps:=[]) (rs:=[]) (hd:=hd) mixed c none [] (eS 0 args) () w _ a _ c rfl h ha RM ?_ ⟨?_,?_,?_,?_,?_⟩
 .intro c' a' w' d v _ hq;exact⟨hq.1,hq.2⟩
 .intro ρ d w' a' fH eg _ hk;exact⟨eg,u',jn,_,hv a' w',hr w' hk⟩
 .intro i ρ d w' a' _ _ _ hk;exact hk.elim
 .intro i ρ d w' a' _ _ _ hk;exact hk.elim
 .intro ρ d w' a' fH eg _ hk;exact⟨eg,u',jn,_,hv a' w',hr w' hk⟩
 .intro c' ρ d w' a' fH eg _ hk;exact⟨eg,u',jn,hp c' w' hk⟩
theorem ag3(p0 p1 v:Va):Ag 10 (eS 0 [p0,p1,v]) {tmps:=#[p0,p1]++((replicate 8 undef).setIfInBounds 1 v).setIfInBounds 0 v,defers:=[]}:=by
 refine⟨by simp,?_⟩;intro t x ht;simp only[eS,List.lookup]at ht;split at ht
 .rename_i h;have:=eq_of_beq h;subst this;cases ht;rfl
 .split at ht
  .rename_i h;have:=eq_of_beq h;subst this;cases ht;rfl
  .split at ht
   .rename_i h;have:=eq_of_beq h;subst this;cases ht;rfl
   .cases ht
theorem yZ{p0 p1:Va}{w:Wd}{R:ER}(h:NF R p0 p1 .nilIface w){R':Ending->FrameMode->WP}
  (hr:∀w',R (.returned (.tuple #[])) w'->R' (.returned (.tuple #[])) .returning w') (hp:∀ch w',R (.panicked ch) w'->R' (.panicked ch) .returning w'):
  CallsD prog 28 #[p0,p1] .returning w R':=by
 refine callsD_of_wpS (c:=bA f28) func28 ai λc₀ cs hu=>?_;show(Code.seq _ (tl (bA f28))).wpS _ _ _ _ _
 apply wpS_seq
 apply wpS_region
 simp[wpOpsS,go_sem,recoverD,hu,Exit.thenS]
 refine mV (n:=10) (hd:=[2]) (args:=[p0,p1,.nilIface]) (u':=.returning) (by rw[e28];exact h) (ag3 p0 p1 .nilIface) rfl ?_ ai hr hp
 cases c₀
 simp_all
theorem y8{p0 p1 v:Va}{w:Wd}{R:ER}(h:NF R p0 p1 v w){R':Ending->FrameMode->WP}
  (hr:∀w',R (.returned (.tuple #[])) w'->R' (.returned (.tuple #[])) (.panicking [{v,recovered:=true}]) w') (hp:∀ch w',R (.panicked ch) w'->R' (.panicked ch) (.panicking [{v,recovered:=true}]) w'):
  CallsD prog 28 #[p0,p1] (.panicking [{v,recovered:=false}]) w R':=by
 refine callsD_of_wpS (c:=bA f28) func28 ai λc₀ cs hu=>?_;show(Code.seq _ (tl (bA f28))).wpS _ _ _ _ _
 apply wpS_seq
 apply wpS_region
 simp[wpOpsS,go_sem,recoverD,hu,Exit.thenS]
 exact mV (n:=10) (hd:=[2]) (args:=[p0,p1,v]) (u':=.panicking [{v,recovered:=true}]) (by rw[e28];exact h) (ag3 p0 p1 v) rfl rfl ai hr hp
end Go.Proofs.YtoddjlclpnoomaaGreatDoor

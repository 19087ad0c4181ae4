import Derived.Recover
import Derived.Test.YtoddjlclpnoomaaGreatDoorU16
set_option linter.unusedVariables false
set_option linter.unusedSimpArgs false
set_option maxRecDepth 100000
open Go.Proofs.Tryz
open Go.Instr (storeAt field typeAssert)
open List (drop_eq_getElem_cons getElem?_eq_getElem mem_map length_cons take_succ_eq_append_getElem takeWhile_cons toList_toArray isPrefixOf take_succ_cons drop_eq_nil_of_le length_nil set_cons_zero set_cons_succ take_zero dropWhile_cons length_drop)
open Nat (le_refl)
open Go.Builtin (append_)
open Array (replicate)
open Go.Value (cells int)
open Bool (and_eq_true not_eq_true' false_eq_true)
open Option (mem_toList mem_def)
namespace Go.Proofs.YtoddjlclpnoomaaGreatDoor
open Go.Sh
theorem tT:∀s:By,-1<=Lib.index s [10]/\(0<=Lib.index s [10]->s.take (Lib.index s [10]).toNat=s.takeWhile (λc=>!(c==10)))/\(Lib.index s [10]<0->s.takeWhile (λc=>!(c==10))=s)
 |[]=>by simp[Lib.index]
 |b::l=>by
  obtain⟨h1,h2,h3⟩:=tT l;unfold Lib.index;by_cases h:b=10
  .subst h;simp[isPrefixOf]
  .have e1:((10:UInt8)==b)=false:=by simp;exact λe=>h e.symm
   have e2:(b==10)=false:=by simpa using h
   simp only[isPrefixOf,e1,Bool.false_and,false_eq_true,if_false,takeWhile_cons,e2,Bool.not_false,if_true];by_cases h4:Lib.index l [10]=-1
   .rw[h4]at h2 h3⊢;simp
    exact h3 aj
   .have h5:(Lib.index l [10]==-1)=false:=by simpa using h4
    rw[h5];simp only[false_eq_true,if_false];refine⟨by omega,λ_=>?_,λh=>by omega⟩;rw[show(Lib.index l [10]+1).toNat=(Lib.index l [10]).toNat+1 by omega,take_succ_cons,h2 aj]
theorem Ku(s:By):(Lib.cut s [10]).1=s.takeWhile (λc=>!(c==10)):=by
 obtain⟨h1,h2,h3⟩:=tT s;unfold Lib.cut;split
 .rename_i h;exact h2 h
 .rename_i h;exact(h3 aj).symm
theorem nS{s:By}{k:Nat}(hk:k<(s.takeWhile (λc=>!(c==10))).length):(s.takeWhile (λc=>!(c==10))).take (k+1)=s.take (k+1):=by
 have:=List.takeWhile_append_dropWhile (p:=λc:UInt8=>!(c==10)) (l:=s);conv=>rhs;rw[←this]
 rw[List.take_append_of_le_length aj]
theorem c91(w:Wd)(s:By)(g:GL w)(hl:s.length<=60000)(h0:s.headD 0=34):Calls prog 91 #[str s] w (aZ (λv w'=>WQ (lI s) v/\aD [] w w') NP):=by
 refine YU ?_;unfold Wc;refine V1.new (eW _) λb1 w1 N1=>?_;have oR:=N1.ge;have pJ:=N1.lt;have pK:=N1.aA.size;have a1:=N1.at_;try simp only[cells,toList_toArray]at a1
 have g1:=g.new N1.aA;refine H8 (Qf w1 s [10] g1 aj) ?_ (NP.no (e:=_));rintro _ w2 ⟨rfl,K2⟩;rw[Ku];refine V1.i ah ?_;refine V1.i ah ?_;refine V1.i ah ?_;have kk:=N1.aA.trans K2;replace a1:=K2.at a1 ak;have Zd:=a1.lt;unfold lI;generalize hL:s.takeWhile (λc=>!(c==10))=L;have ZX:L.length<=s.length:=by rw[←hL];exact(List.takeWhile_sublist _).length_le
 have hfail:∀R:Va->Prop,(∀x n,R (.tuple #[dm x,n,.iface 23 (.int .i64 14)]))->True:=λ_ _=>trivial;refine L3.i (λt e a w'=>w'=w2/\∃k:Nat,a=.int .i64 k/\1<=k/\k<=L.length+1/\eH (L.drop 1) 1=eH (L.drop k) k) (λt e a w'=>match a with|.int _ n=>(L.length+1-n.toNat)|_=>0) ⟨rfl,1,rfl,by omega,by omega,rfl⟩ ?_;rintro t e a w' ⟨rfl,k,rfl,uB,jy,hq⟩;rw[hq];by_cases bO:k<L.length
 .refine V1.i ah ?_;refine V1.bt ax ?_;refine If.t ?_;refine J3.go ?_;refine V1.i (dL _ L k bO) ?_;rw[drop_eq_getElem_cons bO]at hq⊢;have Om:=(L[k]).toNat_lt;have JK:(((L[k]).toNat:Int)==34)=decide (L[k]=34):=by
   by_cases h:L[k]=34
   .rw[h];rfl
   .have:¬((L[k]).toNat:Int)=34:=λe=>h (UInt8.toNat_inj.1 al);simp[h,this]
  have JJ:(((L[k]).toNat:Int)==92)=decide (L[k]=92):=by
   by_cases h:L[k]=92
   .rw[h];rfl
   .have:¬((L[k]).toNat:Int)=92:=λe=>h (UInt8.toNat_inj.1 al);simp[h,this]
  refine V1.i (v:=.bool (decide (L[k]=34))) (w':=w') (by simp[go_sem,←JK]) ?_;by_cases ji:L[k]=34
  .have Kv:eH (L[k]::L.drop (k+1)) k=some k:=by unfold eH;rw[if_pos ji]
   rw[Kv];simp only[ji,decide_true];refine If.t ?_;refine V1.i (cC _ _ _ _ _ _ aj aj) ?_;refine V1.i (yW _ L (k+1) aj) ?_;have hm:L.take (k+1)=34::((s.take k).drop 1++[34]):=by
    have e1:L.take (k+1)=s.take (k+1):=by rw[←hL];exact nS (by rw[hL];exact bO)
    rw[take_succ_eq_append_getElem bO,ji];have e2:L.take k=s.take k:=by
     have:=congrArg (List.take k) e1;rwa [List.take_take,List.take_take,Nat.min_eq_left aj]at this
    rw[e2]
    cases s with
    |nil=>rw[length_nil]at ZX;omega
    |cons c s=>
     simp at h0
     subst h0;obtain⟨k',rfl⟩:∃k',k=k'+1:=⟨k-1,by omega⟩;simp
   rw[hm];have ZY:((s.take k).drop 1).length<=60000:=by simp;omega
   generalize(s.take k).drop 1=m at*;refine HT (Ri w' m aj) ?_ (NP.no (e:=_));rintro _ w3 ⟨rfl,K3⟩;replace a1:=K3.at a1 ak;have kk:=kk.trans K3;have lb3:=a1.lt;generalize gZ m=r at*;obtain⟨tx,ec⟩:=r;refine V1.i ah ?_;refine V1.i ah ?_;refine V1.i (v:=.bool (!(ec==0))) (w':=w3) (by simp[go_sem];rfl) ?_
   cases y5:(ec==0)with
   |true=>
    have y5:ec=0:=by simpa using y5
    refine If.f ?_;refine V1.i ah ?_;refine V1.i (cC _ _ _ _ _ _ aj aj) ?_;refine U1.tok (t:=⟨3,tx,0,0⟩) a1 rfl λw4 U4=>?_;refine⟨_,cA U4.at_,?_,kk.then U4.aA ak al⟩;simp only[y5,if_true,WQ];rfl
   |false=>
    have y5:¬ec=0:=by simpa using y5
    refine If.t ?_;refine V1.i ah ?_;refine HV (Rj w3 ec) ?_ (NP.no (e:=_));rintro _ w4 ⟨rfl,rfl⟩;refine U1.tok (t:=⟨0,[],0,0⟩) a1 rfl λw5 U4=>?_;refine⟨_,cA U4.at_,?_,kk.then U4.aA ak al⟩;simp only[y5,if_false];by_cases h4:ec=4
    .simp only[h4,if_true];exact⟨⟨0,[],0,0⟩,_,rfl⟩
    .simp only[h4,if_false];exact⟨⟨0,[],0,0⟩,_,rfl⟩
  .simp only[ji,decide_false];refine If.f ?_;refine V1.i (v:=.bool (decide (L[k]=92))) (w':=w') (by simp[go_sem,←JJ]) ?_;by_cases oT:L[k]=92
   .have Kv:eH (L[k]::L.drop (k+1)) k=eH (L.drop (k+2)) (k+2):=by
     conv=>lhs;unfold eH
     rw[if_neg ji,if_pos oT];by_cases h2:k+1<L.length
     .rw[drop_eq_getElem_cons h2]
     .rw[drop_eq_nil_of_le aj,drop_eq_nil_of_le aj];simp[eH]
    rw[Kv];simp only[oT,decide_true];refine If.t ?_;refine V1.i (cC _ _ _ _ _ _ aj aj) ?_;refine V1.i (cC _ _ _ _ _ _ aj aj) ?_;exact⟨⟨rfl,k+2,by congr 1,by omega,by omega,rfl⟩,by simp;omega⟩
   .have Kv:eH (L[k]::L.drop (k+1)) k=eH (L.drop (k+1)) (k+1):=by
     conv=>lhs;unfold eH
     rw[if_neg ji,if_neg oT]
    rw[Kv];simp only[oT,decide_false];refine If.f ?_;refine V1.i (cC _ _ _ _ _ _ aj aj) ?_;exact⟨⟨rfl,k+1,by simp,by omega,by omega,rfl⟩,by simp;omega⟩
 .refine V1.i ah ?_;refine V1.bf ax ?_;refine If.f ?_;refine V1.i ah ?_;refine V1.i ah ?_;refine U1.tok (t:=⟨0,[],0,0⟩) a1 rfl λw5 U4=>?_;refine⟨_,cA U4.at_,?_,kk.then U4.aA ak al⟩;rw[drop_eq_nil_of_le aj];exact⟨⟨0,[],0,0⟩,_,rfl⟩
theorem ZZ(w:Wd)(s:By)(g:GL w)(hl:s.length<=60000)(h0:s≠[]):Calls prog 54 #[str s] w (aZ (λv w'=>WQ (eA s) v/\aD [] w w') NP):=by
 refine YP ?_;unfold V7;obtain⟨c,l,hs⟩:=List.exists_cons_of_ne_nil h0;have Om:=c.toNat_lt;have F0:s.headD 0=c:=by rw[hs];rfl
 have Z0:∀(h:0<s.length),s[0]=c:=by intro h;subst hs;rfl
 have hp:0<s.length:=by rw[hs];simp
 have kk:=aD.refl [] w;refine V1.new (Yn _ _) λb1 w1 N1=>?_;have oR:=N1.ge;have pJ:=N1.lt;have pK:=N1.aA.size;have a1:=N1.at_;try simp only[cells,toList_toArray]at a1
 replace kk:=N1.kp kk;refine V1.new (eW _) λb2 w2 N2=>?_;have BZ:=N2.ge;have B1:=N2.lt;have Ac:=N2.aA.size;have a2:=N2.at_;try simp only[cells,toList_toArray]at a2
 replace kk:=N2.kp kk;replace a1:=N2.a a1;have g2:=g.new kk;refine V1.i ah ?_;refine V1.load (aC rfl) (a1) rfl ?_;refine V1.i (dL _ s 0 hp) ?_;rw[Z0 hp];have JK:((c.toNat:Int)==34)=decide (c=34):=by
  by_cases h:c=34
  .subst h;rfl
  .have:¬(c.toNat:Int)=34:=λe=>h (UInt8.toNat_inj.1 al);simp[h,this]
 have lb2:=a2.lt;refine rZ (c51 w2 c di) ?_ (NP.no (e:=_));rintro _ w3 ⟨rfl,rfl⟩
 cases hL:di.contains c with
 |true=>
  refine If.t ?_;refine V1.load (aC rfl) (a1) rfl ?_;refine HG (Ww w3 s (di++bW) aj) ?_ (NP.no (e:=_));rintro _ w4 ⟨rfl,rfl⟩;have hn:=kJ s (di++bW);have xi:eA s=(if 24<gC s (di++bW)then .err 14 else .tok ⟨if gx (s.take (gC s (di++bW)))=true then 4 else 1,s.take (gC s (di++bW)),0,0⟩ (gC s (di++bW))):=by
   unfold eA;rw[F0,if_pos hL]
  generalize gC s (di++bW)=n at*;refine V1.i (v:=.bool (decide (24<n))) (w':=w4) (by simp[go_sem];congr 1;omega) ?_;by_cases za:24<n
  .have hw:=xi.trans (if_pos za);simp only[za,decide_true];refine If.t ?_;refine V1.i ah ?_;refine V1.i ah ?_;refine U1.tok (t:=⟨0,[],0,0⟩) a2 rfl λw5 U4=>?_;refine⟨_,cA U4.at_,?_,kk.then U4.aA ak al⟩;rw[hw];exact⟨⟨0,[],0,0⟩,_,rfl⟩
  .rw[if_neg za]at xi;simp only[za,decide_false];refine If.f ?_;refine V1.load (aC rfl) (a1) rfl ?_;refine V1.i (yW _ s n hn) ?_;refine HH (Wx w4 (s.take n) g2 al) ?_ (NP.no (e:=_));rintro _ w5 ⟨rfl,rfl⟩
   cases hR:gx (s.take n)with
   |true=>
    have hw:=xi;rw[hR,if_pos rfl]at hw;refine If.t ?_;refine Up.c (aH func87 (c:=bC f87) ai ai _ _) (aZ.qz (c87 s 4 n a1 hn) ?_ (NP.no (e:=_)));rintro _ w6 ⟨rfl,K6⟩;have z6:=K6.size;have lP:=K6.size;replace kk:=kk.trans' K6 af;replace a1:=K6.at a1 af;replace a2:=K6.at a2 af;refine V1.i ah ?_;refine V1.i ah ?_;refine V1.i ah ?_;refine U1.tok (t:=⟨4,s.take (n),0,0⟩) a2 rfl λw7 U7=>?_;refine⟨_,cA U7.at_,?_,kk.then U7.aA ak al⟩;rw[hw];rfl
   |false=>
    have hw:=xi;rw[hR,if_neg ak]at hw;refine If.f ?_;refine Up.c (aH func87 (c:=bC f87) ai ai _ _) (aZ.qz (c87 s 1 n a1 hn) ?_ (NP.no (e:=_)));rintro _ w6 ⟨rfl,K6⟩;have z6:=K6.size;have lP:=K6.size;replace kk:=kk.trans' K6 af;replace a1:=K6.at a1 af;replace a2:=K6.at a2 af;refine V1.i ah ?_;refine V1.i ah ?_;refine V1.i ah ?_;refine U1.tok (t:=⟨1,s.take (n),0,0⟩) a2 rfl λw7 U7=>?_;refine⟨_,cA U7.at_,?_,kk.then U7.aA ak al⟩;rw[hw];rfl
 |false=>
  refine If.f ?_;refine rZ (c51 w3 c bW) ?_ (NP.no (e:=_));rintro _ w4 ⟨rfl,rfl⟩;have Sv:¬di.contains c=true:=by rw[hL];simp
  cases hD:bW.contains c with
  |true=>
   have hw:eA s=lJ s:=by unfold eA;rw[F0,if_neg Sv,if_pos hD]
   refine If.t ?_;refine V1.load (aC rfl) (a1) rfl ?_;refine PU (Zc w4 s g2 aj (by rw[F0];exact hD)) ?_ (NP.no (e:=_));rintro _ w3 ⟨hW,K3⟩;have z3:=K3.size;have sB:=K3.size;replace kk:=kk.trans' K3 af;replace a1:=K3.at a1 af;replace a2:=K3.at a2 af;rw[hw];generalize lJ s=r at*
   cases r with
   |tok t n=>
    replace hW:_=_:=hW;subst hW;refine V1.i ah ?_;refine V1.i ah ?_;refine V1.i ah ?_;refine U1.tok (t:=t) a2 rfl λw7 U7=>?_;exact⟨_,cA U7.at_,rfl,kk.then U7.aA ak al⟩
   |err e=>
    obtain⟨x,n,rfl⟩:=hW;refine V1.i ah ?_;refine V1.i ah ?_;refine V1.i ah ?_;refine U1.tok (t:=x) a2 rfl λw7 U7=>?_;exact⟨_,cA U7.at_,⟨x,n,rfl⟩,kk.then U7.aA ak al⟩
  |false=>
   refine If.f ?_;have W2:¬bW.contains c=true:=by rw[hD];simp
   refine V1.i (v:=.bool (decide (c=34))) (w':=w4) (by simp[go_sem,←JK]) ?_;by_cases ji:c=34
   .have hw:eA s=lI s:=by unfold eA;rw[F0,if_neg Sv,if_neg W2,if_pos ji]
    simp only[ji,decide_true];refine If.t ?_;refine V1.load (aC rfl) (a1) rfl ?_;refine PV (c91 w4 s g2 hl (by rw[F0];exact ji)) ?_ (NP.no (e:=_));rintro _ w3 ⟨hW,K3⟩;have z3:=K3.size;have sB:=K3.size;replace kk:=kk.trans' K3 af;replace a1:=K3.at a1 af;replace a2:=K3.at a2 af;rw[hw];generalize lI s=r at*
    cases r with
    |tok t n=>
     replace hW:_=_:=hW;subst hW;refine V1.i ah ?_;refine V1.i ah ?_;refine V1.i ah ?_;refine U1.tok (t:=t) a2 rfl λw7 U7=>?_;exact⟨_,cA U7.at_,rfl,kk.then U7.aA ak al⟩
    |err e=>
     obtain⟨x,n,rfl⟩:=hW;refine V1.i ah ?_;refine V1.i ah ?_;refine V1.i ah ?_;refine U1.tok (t:=x) a2 rfl λw7 U7=>?_;exact⟨_,cA U7.at_,⟨x,n,rfl⟩,kk.then U7.aA ak al⟩
   .simp only[ji,decide_false];refine If.f ?_;refine V1.load (aC rfl) (a1) rfl ?_;refine V1.i ah ?_;refine V1.i (v:=.bool (decide (1<s.length))) (w':=w4) (by simp[go_sem];congr 1;omega) ?_;refine J1.gd (!((s.take 2).contains 32)) (λh k hk=>?_) ?_
    .have h2:1<s.length:=by simpa using h
     refine V1.load (aC rfl) (a1) rfl ?_;refine V1.i (yW _ s 2 aj) ?_;refine rZ (c51 w4 32 (s.take 2)) ?_ (NP.no (e:=_));rintro _ w5 ⟨rfl,rfl⟩;refine V1.i (v:=.bool (!((s.take 2).contains 32))) (w':=w5) am ?_;exact hk
    refine V1.i (fP _ _ _) ?_;refine J1.gd (Lib.contains gw (s.take 2)) (λh k hk=>?_) ?_
    .have h2:1<s.length:=by simp at h;omega
     refine V1.load (aC rfl) (a1) rfl ?_;refine V1.i (yW _ s 2 aj) ?_;refine zS (Oj w4 gw (s.take 2) g2 ay) ?_ (NP.no (e:=_));rintro _ w5 ⟨rfl,rfl⟩;exact hk
    refine V1.i (fP _ _ _) ?_;have xi:eA s=if 1<s.length/\(s.take 2).contains 32=false/\Lib.contains gw (s.take 2)=true then .tok ⟨4,s.take 2,0,0⟩ 2
     else if iw.contains c=true then .tok ⟨4,s.take 1,0,0⟩ 1 else .err 14:=by
     unfold eA;rw[F0,if_neg Sv,if_neg W2,if_neg ji]
    by_cases hP:1<s.length/\(s.take 2).contains 32=false/\Lib.contains gw (s.take 2)=true
    .have hw:=xi.trans (if_pos hP);have:(decide (1<s.length)&&!((s.take 2).contains 32)&&Lib.contains gw (s.take 2))=true:=by
      rw[hP.2.1,hP.2.2];simp[hP.1]
     rw[this];refine If.t ?_;refine Up.c (aH func87 (c:=bC f87) ai ai _ _) (aZ.qz (c87 s 4 2 a1 aj) ?_ (NP.no (e:=_)));rintro _ w6 ⟨rfl,K6⟩;have z6:=K6.size;have lP:=K6.size;replace kk:=kk.trans' K6 af;replace a1:=K6.at a1 af;replace a2:=K6.at a2 af;refine V1.i ah ?_;refine V1.i ah ?_;refine V1.i ah ?_;refine U1.tok (t:=⟨4,s.take (2),0,0⟩) a2 rfl λw7 U7=>?_;refine⟨_,cA U7.at_,?_,kk.then U7.aA ak al⟩;rw[hw];rfl
    .rw[if_neg hP]at xi;have:(decide (1<s.length)&&!((s.take 2).contains 32)&&Lib.contains gw (s.take 2))=false:=by
      cases h1:(decide (1<s.length)&&!((s.take 2).contains 32)&&Lib.contains gw (s.take 2))with
      |false=>rfl
      |true=>
       simp only[and_eq_true,decide_eq_true_eq,not_eq_true']at h1;exact absurd ⟨h1.1.1,h1.1.2,h1.2⟩ hP
     rw[this];refine If.f ?_;refine rZ (c51 w4 c iw) ?_ (NP.no (e:=_));rintro _ w5 ⟨rfl,rfl⟩
     cases hS:iw.contains c with
     |true=>
      have hw:=xi.trans (if_pos hS);refine If.t ?_;refine Up.c (aH func87 (c:=bC f87) ai ai _ _) (aZ.qz (c87 s 4 1 a1 aj) ?_ (NP.no (e:=_)));rintro _ w6 ⟨rfl,K6⟩;have z6:=K6.size;have lP:=K6.size;replace kk:=kk.trans' K6 af;replace a1:=K6.at a1 af;replace a2:=K6.at a2 af;refine V1.i ah ?_;refine V1.i ah ?_;refine V1.i ah ?_;refine U1.tok (t:=⟨4,s.take (1),0,0⟩) a2 rfl λw7 U7=>?_;refine⟨_,cA U7.at_,?_,kk.then U7.aA ak al⟩;rw[hw];rfl
     |false=>
      have hw:=xi.trans (if_neg (by rw[hS];simp));refine If.f ?_;refine V1.i ah ?_;refine V1.i ah ?_;refine U1.tok (t:=⟨0,[],0,0⟩) a2 rfl λw5 U4=>?_;refine⟨_,cA U4.at_,?_,kk.then U4.aA ak al⟩;rw[hw];exact⟨⟨0,[],0,0⟩,_,rfl⟩
def gJ(t:Tok):LV:=[.int .i64 t.kind,str t.text,.int .i64 t.n,.int .i64 t.line]
def ie(lo:Nat)(w:Wd)(v:Va)(ts:LT):Prop:=
 w.ownsRow 0 86 4 v ts.length (ts.flatMap gJ)/\∀g,v.ownBlock=some g->lo<=g
theorem ie.nil(lo:Nat)(w:Wd):ie lo w (.slice none 0 0) []:=⟨World.ownsRow_nil w 0 86 4,λg h=>by cases h⟩
theorem ie.lt{lo:Nat}{w:Wd}{v:Va}{ts:LT}(h:ie lo w v ts){g:Nat}(hg:v.ownBlock=some g):lo<=g/\g<w.heap.size:=⟨h.2 g hg,(h.1.lt g hg).2⟩
theorem ie.fr{lo:Nat}{M:List Nat}{w w':Wd}{v:Va}{ts:LT}(h:ie lo w v ts)(hk:aD M w w')(hM:∀i∈M,i<lo\/w.heap.size<=i):ie lo w' v ts:=
 ⟨gH h.1 hk λg hg DZ=>by
  have:=h.lt hg;have:=hM g DZ;omega,h.2⟩
theorem ie.f0{lo:Nat}{w w':Wd}{v:Va}{ts:LT}(h:ie lo w v ts)(hk:aD [] w w'):ie lo w' v ts:=h.fr hk ak
theorem ie.Ox{lo:Nat}{M:List Nat}{w w':Wd}{v:Va}{ts:LT}(h:ie lo w v ts)(hk:aD M w w')(hM:∀g,v.ownBlock=some g->g∉M):ie lo w' v ts:=⟨gH h.1 hk hM,h.2⟩
theorem tU{lo:Nat}{w:Wd}{v:Va}{ts:LT}{t:Tok}{b n:Nat}(h:ie lo w v ts)(hb:At w b (gJ t))(hn:ts.length<=n)(lO:n<=1099511627776)(eQ:lo<=w.heap.size):
  ∃v' w',(append_ #[73,73] 73 #[v,.slice (some ⟨b,0,none⟩) 1 1]).run prog w=.ok v' w'/\ie lo w' v' (ts++[t])/\aD v.ownBlock.toList w w':=by
 obtain⟨v',w',hr,ho,hk,hv⟩:=fO (P:=prog) 73 73 86 ((prog.info? 86).getD default) (.agg #[.int .i64 0,.string ⟨#[]⟩,.int .i64 0,.int .i64 0]) 4 40 ai ai ai ai ai ai aj v ts.length (ts.flatMap gJ) h.1 ⟨b,0,none⟩ 1 1 (gJ t) rfl (λj a hj=>by
  have hc:=hb.cell j;rw[hj]at hc;simp only[Addr.add];split
  .rename_i h
   obtain rfl:j=0:=by simpa using h
   exact hc
  .simpa using hc) (by simp[gJ];exact⟨rfl,rfl,rfl,rfl⟩) (by simp only[maxLen];omega) aj
 refine⟨v',w',hr,⟨by simpa using ho,?_⟩,hk⟩;intro g hg;rcases hv with hv|⟨g',hv,zq⟩
 .exact h.2 g (by rw[←hv,hg])
 .rw[hv]at hg;cases hg;omega
theorem tV(w:Wd)(b:Nat):∀(ts:LT) (o:Nat),(∀j u,(ts.flatMap gJ)[j]?=some u->w.cell? ⟨b,o+j,none⟩=some u)->cW w b o ts
 |[],_,_=>trivial
 |t::ts,o,h=>by
  refine⟨⟨by simpa using h 0 _ (by simp[gJ]),h 1 _ (by simp[gJ]),h 2 _ (by simp[gJ]),h 3 _ (by simp[gJ])⟩,tV w b ts (o+4) λj u hj=>?_⟩;have:=h (4+j) u (by
   simp only[List.flatMap_cons];rw[List.getElem?_append_right (by simp[gJ])];simpa[gJ]using hj)
  rwa [show o+4+j=o+(4+j)by omega]
theorem ie.Kw{lo:Nat}{w:Wd}{v:Va}{ts:LT}(h:ie lo w v ts)(aI:ts≠[]):∃b c,v=.slice (some ⟨b,0,none⟩) ts.length c/\cW w b 0 ts/\ts.length<=c/\lo<=b/\b<w.heap.size:=by
 have hl:∀g,v.ownBlock=some g->lo<=g/\g<w.heap.size:=λg hg=>h.lt hg;rcases h.1.2 with⟨h1,h2⟩|⟨g,cap,cur,rfl,hb,hg,hn,_⟩
 .exact absurd (List.eq_nil_of_length_eq_zero h2) aI
 .have hc:=h.1.cells (g:=g) rfl;refine⟨g,cap,rfl,tV w g ts 0 (λj u hj=>?_),hn,(hl _ rfl).1,(hl _ rfl).2⟩;have:=hc j u hj;simp only[Addr.add]at this;split at this
  .rename_i h0
   obtain rfl:j=0:=by simpa using h0
   exact this
  .simpa using this
def LR.app(acc:LT):LR->LR
 |.ok ts=>.ok (acc++ts)
 |.fail c=>.fail c
theorem LR.qK(acc:LT)(t:Tok)(r:LR):(r.cons t).app acc=r.app (acc++[t]):=by cases r<;>simp[LR.app,LR.cons]
def TQ(w0:Wd)(r:LR)(v:Va)(w':Wd):Prop:=match r with
 |.ok ts=>∃b c,v=.tuple #[.slice (some ⟨b,0,none⟩) ts.length c,.nilIface]/\cW w' b 0 ts/\ts.length<=c/\w0.heap.size<=b/\b<w'.heap.size/\ts≠[]
 |.fail c=>∃b line,v=.tuple #[.slice none 0 0,.iface 76 (ptr b)]/\At w' b [.int .i64 c,.int .i64 line]/\w0.heap.size<=b
theorem Sw(s:By):Lib.hasPrefix s [45,45]=decide (s.take 2=[45,45]):=by
 rcases s with _|⟨a,_|⟨b,s⟩⟩
 .rfl
 .simp[Lib.hasPrefix,isPrefixOf]
 .simp only[Lib.hasPrefix,isPrefixOf,take_succ_cons,take_zero,Bool.and_true];have:∀x y:UInt8,(x==y)=decide (y=x):=λx y=>by by_cases h:y=x<;>simp[h];exact λe=>h e.symm
  rw[this,this];simp
theorem xj:∀s:By,0<=Lib.indexByte s 10->s.drop (Lib.indexByte s 10).toNat=s.dropWhile (λc=>!(c==10))
 |[],h=>by simp[Lib.indexByte]
 |a::s,h=>by
  unfold Lib.indexByte at h⊢;by_cases ha:a=10
  .subst ha;simp
  .have e:(a==10)=false:=by simpa using ha
   rw[e]at h⊢;simp only[false_eq_true,if_false]at h⊢;split at h
   .omega
   .rename_i h1
    rw[if_neg h1];have h2:=indexByte_ge 10 s;have h3:Lib.indexByte s 10≠-1:=by simpa using h1
    rw[show(Lib.indexByte s 10+1).toNat=(Lib.indexByte s 10).toNat+1 by omega,List.drop_succ_cons,xj s aj,dropWhile_cons];simp[e]
theorem iV:∀(l:By) (j k:Nat),eH l j=some k->j<=k/\k<j+l.length
 |[],j,k,h=>by simp[eH]at h
 |[c],j,k,h=>by
  unfold eH at h;split at h
  .simp only[Option.some.injEq]at h;subst h;simp
  .split at h
   .cases h
   .simp[eH]at h
 |c::d::l,j,k,h=>by
  unfold eH at h;split at h
  .simp only[Option.some.injEq]at h;subst h;simp
  .split at h
   .have:=iV l _ _ h;simp only[length_cons];omega
   .have:=iV (d::l) _ _ h;simp only[length_cons]at this⊢;omega
theorem oZ{c:UInt8}{l set:By}(h:set.contains c=true):1<=gC (c::l) set:=by rw[iS h];omega
theorem sH(c:UInt8)(l:By):eA (c::l)=
 if di.contains c=true then
  (if 24<gC (c::l) (di++bW)then .err 14 else .tok ⟨if gx ((c::l).take (gC (c::l) (di++bW)))=true then 4 else 1,(c::l).take (gC (c::l) (di++bW)),0,0⟩ (gC (c::l) (di++bW)))
 else if bW.contains c=true then lJ (c::l)
 else if c=34 then lI (c::l)
 else if 1<(c::l).length/\((c::l).take 2).contains 32=false/\Lib.contains gw ((c::l).take 2)=true then .tok ⟨4,(c::l).take 2,0,0⟩ 2
 else if iw.contains c=true then .tok ⟨4,(c::l).take 1,0,0⟩ 1
 else .err 14:=rfl
theorem nT(s:By)(hs:s≠[])(t:Tok)(k:Nat)(h:eA s=.tok t k):1<=k/\k<=s.length:=by
 obtain⟨c,l,rfl⟩:=List.exists_cons_of_ne_nil hs;rw[sH]at h;by_cases hc:di.contains c=true
 .rw[if_pos hc]at h;by_cases za:24<gC (c::l) (di++bW)
  .rw[if_pos za]at h;cases h
  .rw[if_neg za]at h;injection h with _ h;subst h;exact⟨oZ (by simp at hc⊢;exact .inl hc),kJ _ _⟩
 .rw[if_neg hc]at h;by_cases hd:bW.contains c=true
  .rw[if_pos hd]at h;unfold lJ at h;generalize gY _=r at h;obtain⟨v,e⟩:=r;simp only at h;split at h
   .cases h
   .split at h
    .injection h with _ h;subst h;exact⟨oZ hd,kJ _ _⟩
    .cases h
  .rw[if_neg hd]at h;by_cases ji:c=34
   .rw[if_pos ji]at h;unfold lI at h;split at h
    .cases h
    .rename_i k' hq
     have:=iV _ _ _ hq;have h2:((c::l).takeWhile (λc=>!(c==10))).length<=(c::l).length:=(List.takeWhile_sublist _).length_le;generalize gZ _=r at h;obtain⟨v,e⟩:=r;simp only at h;split at h
     .injection h with _ h;subst h;simp only[length_drop]at this;omega
     .split at h<;>cases h
   .rw[if_neg ji]at h;split at h
    .rename_i h2
     injection h with _ h;subst h;omega
    .split at h
     .injection h with _ h;subst h;simp
     .cases h
theorem Z3(w:Wd)(s:By)(g:GL w):Calls prog 27 #[str s] w (aZ (λv w'=>TQ w (jL s) v w'/\aD [] w w') NP):=by
 refine YN ?_;unfold V5;have kk:=aD.refl [] w;refine V1.i ah ?_;refine V1.i (v:=.bool (decide (32768<s.length))) (w':=w) (by simp[go_sem];congr 1;omega) ?_;by_cases hlen:32768<s.length
 .simp only[hlen,decide_true];refine If.t ?_;refine V1.i ah ?_;refine V1.new (DI _ _) λb1 w1 N1=>?_;have oR:=N1.ge;have pJ:=N1.lt;have pK:=N1.aA.size;have a1:=N1.at_;try simp only[cells,toList_toArray]at a1
  replace kk:=N1.kp kk;refine V1.i ah ?_;unfold jL;rw[if_pos hlen];exact⟨⟨b1,_,rfl,a1,oR⟩,kk⟩
 simp only[hlen,decide_false];refine If.f ?_;have Ez:jL s=(dv (s.length+1) s 0).app []:=by
  unfold jL;rw[if_neg hlen]
  cases dv (s.length+1) s 0<;>rfl
 rw[Ez];generalize hT:(dv (s.length+1) s 0).app []=T;refine J4.cut (λa5 a2 a3 a4 w'=>∃line acc,a5=.int .i64 line/\ie w.heap.size w' a4 acc/\acc.length<=32768/\(LR.ok [iZ line]).app acc=T/\aD [] w w') ?_ ?_;rotate_left
 .rintro a5 a2 a3 a4 w1 ⟨line,acc,rfl,ha,Sx,Z4,kk⟩;have z1:=kk.size;refine V1.i ah ?_;refine V1.aG ah λb2 w2 N2=>?_;have a2:At w2 b2 (gJ (iZ line)):=by simpa[gJ,iZ,str]using N2.at_
  have B2:=ha.fr N2.aA ak;have Ac:=N2.aA.size;obtain⟨v',w3,hr,Rh,k3⟩:=tU (n:=65536) B2 a2 aj aj aj;refine V1.i hr ?_;obtain⟨b,c,rfl,ht,hc,F1,uP⟩:=Rh.Kw ak;have kw:aD [] w w3:=(kk.trans N2.aA).trans' k3 (λi hi bO=>by
   simp only[mem_toList,mem_def]at hi;have:=(ha.lt hi).1;omega)
  rw[←Z4];exact⟨⟨b,c,rfl,ht,hc,F1,uP,by simp⟩,kw⟩
 refine L5.g (λn a5 a2 a3 a4 a0 w'=>∃line s acc,a5=.int .i64 line/\a0=str s/\ie w.heap.size w' a4 acc/\0<=line/\line+s.length<=32768/\acc.length+s.length<=32768/\s.length<n/\(dv n s line).app acc=T/\aD [] w w') (s.length+1) ⟨0,s,[],rfl,rfl,ie.nil _ _,by omega,by omega,by simp;omega,by omega,hT,kk⟩ ?_;clear hT Ez hlen kk;rintro n a5 a2 a3 a4 a0 w1 K ⟨line,s,acc,rfl,rfl,ha,Sy,uQ,fY,hn,hT,kk⟩ hK;have z1:=kk.size;obtain⟨n,rfl⟩:∃k,n=k+1:=⟨n-1,by omega⟩;have g1:=g.new kk;rcases s with _|⟨c,l⟩
 .refine V1.i ah ?_;refine If.f ?_;exact⟨line,acc,rfl,ha,by simp at fY;exact fY,by simpa[dv]using hT,kk⟩
 refine V1.i ah ?_;refine If.t ?_;refine V1.i (dL _ (c::l) 0 ak) ?_;simp only[List.getElem_cons_zero];have Om:=c.toNat_lt;have Z5:((c.toNat:Int)==10)=decide (c=10):=by
  by_cases h:c=10
  .subst h;rfl
  .have:¬(c.toNat:Int)=10:=λe=>h (UInt8.toNat_inj.1 al);simp[h,this]
 have vX:dv (n+1) (c::l) line=(if c=10 then dv n l (line+1)
  else if[32,9,13].contains c=true then dv n l line
  else if(c::l).take 2=[45,45]then(if(c::l).contains 10=true then dv n ((c::l).dropWhile (λc=>!(c==10))) line else .ok [iZ line])
  else match eA (c::l)with
   |.err c=>.fail c
   |.tok t k=>(dv n ((c::l).drop k) line).cons (t.at line)):=by
  conv=>lhs;unfold dv
  rw[if_neg ak];rfl
 rw[vX]at hT;simp only[length_cons]at uQ fY hn;refine V1.i (v:=.bool (decide (c=10))) (w':=w1) (by simp[go_sem,←Z5]) ?_;by_cases jj:c=10
 .rw[if_pos jj]at hT;simp only[jj,decide_true];refine If.t ?_;refine V1.i (cC _ _ _ _ _ _ aj aj) ?_;refine V1.i (mv _ (10::l) 1 ak) ?_;exact hK n _ _ _ _ _ _ aj ⟨line+1,l,acc,rfl,rfl,ha,by omega,by omega,by omega,by omega,hT,kk⟩
 rw[if_neg jj]at hT;simp only[jj,decide_false];refine If.f ?_;refine V1.i (dL _ (c::l) 0 ak) ?_;simp only[List.getElem_cons_zero];refine rZ (c51 w1 c [32,9,13]) ?_ (NP.no (e:=_));rintro _ w2 ⟨rfl,rfl⟩
 cases hb:([32,9,13]:By).contains c with
 |true=>
  rw[if_pos hb]at hT;refine If.t ?_;refine V1.i (mv _ (c::l) 1 ak) ?_;exact hK n _ _ _ _ _ _ aj ⟨line,l,acc,rfl,rfl,ha,by omega,by omega,by omega,by omega,hT,kk⟩
 |false=>
 rw[if_neg (by rw[hb];simp)]at hT;refine If.f ?_;refine Qc (YW w2 (c::l) [45,45]) ?_ (NP.no (e:=_));rintro _ w3 ⟨rfl,rfl⟩;rw[Sw];by_cases h2:(c::l).take 2=[45,45]
 .rw[if_pos h2]at hT;simp only[h2,decide_true];refine If.t ?_;refine H6 (c53 w3 (c::l) 10) ?_ (NP.no (e:=_));rintro _ w4 ⟨rfl,rfl⟩;refine V1.i (v:=.bool ((c::l).contains 10)) (w':=w4) (by rw[←fb];simp[go_sem]) ?_
  cases h3:(c::l).contains 10 with
  |true=>
   rw[if_pos h3]at hT;have h4:0<=Lib.indexByte (c::l) 10:=by
    have:=fb 10 (c::l);rw[h3]at this;simpa using this
   have h5:=indexByte_ge 10 (c::l);refine If.t ?_;rw[show Lib.indexByte (c::l) 10=((Lib.indexByte (c::l) 10).toNat:Int)by omega];refine V1.i (mv _ (c::l) _ aj) ?_;rw[xj _ h4];have bO:((c::l).dropWhile (λc=>!(c==10))).length<=l.length:=by
    rw[dropWhile_cons];have:(!(c==10))=true:=by simpa using jj
    rw[if_pos this];exact(List.dropWhile_sublist _).length_le
   exact hK n _ _ _ _ _ _ aj ⟨line,_,acc,rfl,rfl,ha,by omega,by omega,by omega,by omega,hT,kk⟩
  |false=>
   rw[if_neg (by rw[h3];simp)]at hT;refine If.f ?_;exact⟨line,acc,rfl,ha,by omega,hT,kk⟩
 rw[if_neg h2]at hT;simp only[h2,decide_false];refine If.f ?_;refine PT (ZZ w3 (c::l) g1 al ak) ?_ (NP.no (e:=_));rintro _ w4 ⟨hW,K4⟩;have EA:=nT (c::l) ak;have z4:=K4.size;have nU:=kk.trans K4;have EB:=ha.fr K4 ak;generalize eA (c::l)=r at*
 cases r with
 |err e=>
  obtain⟨x,nn,rfl⟩:=hW;simp only at hT;refine V1.i ah ?_;refine V1.i ah ?_;refine V1.i ah ?_;refine V1.new (eW _) λb5 w5 N5=>?_;have B6:=N5.ge;have Af:=N5.lt;have Ei:=N5.aA.size;have a5:=N5.at_;try simp only[cells,toList_toArray]at a5
  replace nU:=N5.kp nU;refine U1.tok (t:=x) a5 rfl λw6 U6=>?_;have z6:=U6.size;replace nU:=nU.trans' U6.aA af;refine V1.i (wF _ _ _ _) ?_;refine If.t ?_;refine V1.new (GW _) λb7 w7 N7=>?_;have R6:=N7.ge;have R7:=N7.lt;have R8:=N7.aA.size;have a7:=N7.at_;try simp only[cells,toList_toArray]at a7
  replace nU:=N7.kp nU;refine V1.i ah ?_;refine Po (Y9 (g.new nU) a7) ?_ (NP.no (e:=_));rintro _ w8 ⟨rfl,a8,K8⟩;have z8:=K8.size;have zc:aD [] w w8:=nU.trans' K8 al;have xk:=zc.drew;have a9:At w8.drew b7 [.int .i64 e]:=a8;refine⟨λw'=>At w' b7 [.int .i64 e],a9,?_⟩;refine Xw.i _ (λw' hw=>(aC rfl) _ _ _ (by rw[hw.cell];rfl)) ?_;refine Xw.i _ (λw' _=>by simp[go_sem]<;>trivial) ?_;generalize w8.drew=w9 at*;have z9:=xk.size;refine V1.new (DI _ _) λy8 eo iz=>?_;have Ek:=iz.ge;have El:=iz.lt;have Em:=iz.aA.size;have jA:=iz.at_;try simp only[cells,toList_toArray]at jA
  replace xk:=iz.kp xk;replace a9:=iz.a a9;refine⟨a9,?_⟩;refine Xw.i _ (λw' _=>by simp[go_sem]<;>trivial) ?_;rw[←hT];exact⟨⟨y8,line,rfl,jA,by omega⟩,xk⟩
 |tok t k=>
  replace hW:_=_:=hW;subst hW;simp only at hT;obtain⟨uB,jy⟩:=EA t k rfl;refine V1.i ah ?_;refine V1.i ah ?_;refine V1.i ah ?_;refine V1.new (eW _) λb5 w5 N5=>?_;have B6:=N5.ge;have Af:=N5.lt;have Ei:=N5.aA.size;have a5:=N5.at_;try simp only[cells,toList_toArray]at a5
  replace nU:=N5.kp nU;have Sz:=EB.fr N5.aA ak;refine U1.tok (t:=t) a5 rfl λw6 U6=>?_;have z6:=U6.size;replace nU:=nU.trans' U6.aA af;have SA:=Sz.Ox U6.aA (λg hg=>by have:=(EB.lt hg).2;simp;omega);have a6:=U6.at_;refine V1.i (Aa _ _) ?_;refine If.f ?_;refine V1.i ah ?_;refine U1.store (aO rfl rfl) a6 ak λw7 U7=>?_;have Kl:=U7.size;replace nU:=nU.trans' U7.aA af;replace a6:=U7.at_;simp only[set_cons_zero,set_cons_succ]at a6;have SB:=SA.Ox U7.aA (λg hg=>by have:=(EB.lt hg).2;simp;omega);refine V1.i (cA (t:=t.at line) a6) ?_;refine V1.aG (z:=(gJ (t.at line)).toArray) (by simp[go_sem,dm,gJ];repeat' (first|rfl|apply And.intro)) λb8 w8 N8=>?_
  have z8:=N8.aA.size;have Cq:=SB.fr N8.aA ak;have zc:=nU.trans N8.aA;obtain⟨v',w9,hr,Kx,k9⟩:=tU (n:=65536) Cq N8.at_ aj aj aj;refine V1.i hr ?_;refine V1.i (mv _ (c::l) k jy) ?_;have z9:=k9.size;have xk:aD [] w w9:=zc.trans' k9 (λi hi bO=>by
   simp only[mem_toList,mem_def]at hi;have:=(Cq.lt hi).1;omega)
  simp only[length_cons]at jy;refine hK n _ _ _ _ _ _ aj ⟨line,(c::l).drop k,_,rfl,rfl,Kx,by omega,by simp;omega,by simp;omega,by simp;omega,?_,xk⟩;rw[←LR.qK];exact hT
theorem all_zero:mM 0:=by
 constructor
 all_goals first
  |(intro a;intro w x ts deep own r p hd hn hr aI;exact absurd hr.symm aI)
  |(intro w x ts deep own r p hd hn hr aI;exact absurd hr.symm aI)
  |(intro k hk w x ts deep own r l la lo p hd hn hr aI;exact absurd hr.symm aI)
  |(intro w x ts deep own r l la lo p hd hn hr aI;exact absurd hr.symm aI)
  |(intro w x ts deep own r bs line p hd hn hr aI;exact absurd hr.symm aI)
theorem all(n:Nat):mM n:=by
 induction n using Nat.strongRecOn with
 |_ n ih=>
  cases n with
  |zero=>exact all_zero
  |succ n=>
   have h:∀m,m<=n->mM m:=λm hm=>ih m aj;have h0:=h n (le_refl _);exact⟨g30 h,g105 h0,g108 h,g162 h0,g156 h,g199 h0,g220 h,λk hk=>g163 h0 k hk,g200 h0,g58 h,g100 h0,g101 h,g109 h0⟩
def opsL:List (By×Int):=[([111,114],1),([97,110,100],2),([60],3),([60,61],3),([62],3),([62,61],3),([61,61],3),([126,61],3),([124],4),([126],5),([38],6),([60,60],7),([62,62],7),([46,46],8),([43],9),([45],9),([42],10),([47,47],10),([37],10)]
def iB:LB:=[[111,114],[97,110,100],[60,32,60,61,32,62,32,62,61,32,61,61,32,126,61],[124],[126],[38],[60,60,32,62,62],[46,46],[43,32,45],[42,32,47,47,32,37]]
def laid(k:Nat):List (By×Int):=((iB.take k).zipIdx).flatMap λp=>(Lib.fields p.1).map λs=>(s,(p.2:Int)+1)
def xl(l:List (By×Int)):List (Va×Va):=l.map λp=>(str p.1,.int .i64 p.2)
theorem xm:laid 10=opsL:=by decide
theorem nV:∀p∈opsL,bD p.1=p.2:=by decide
theorem nW(s:By)(h:∀p∈opsL,p.1≠s):bD s=0:=by
 have h':∀a b,(a,b)∈opsL->¬s=a:=λa b hm e=>h (a,b) hm e.symm;unfold bD;simp only[h' [111,114] 1 ay,h' [97,110,100] 2 ay,h' [60] 3 ay,h' [60,61] 3 ay,h' [62] 3 ay,h' [62,61] 3 ay,h' [61,61] 3 ay,h' [126,61] 3 ay,h' [124] 4 ay,h' [126] 5 ay,h' [38] 6 ay,h' [60,60] 7 ay,h' [62,62] 7 ay,h' [46,46] 8 ay,h' [43] 9 ay,h' [45] 9 ay,h' [42] 10 ay,h' [47,47] 10 ay,h' [37] 10 ay,or_self,if_false]
theorem str_inj{a b:By}(h:str a=str b):a=b:=by
 unfold str at h;injection h with h;injection h with h;simpa using h
theorem EC{w:Wd}{b:Nat}(h:dJ w b (xl opsL)):FL bD w b:=by
 refine⟨_,_,h,λs w1 h1=>?_⟩;have hm:prog.underlying 80=some (.map 9 3):=ai
 have hd:prog.underlying 9=some .string:=ai
 have lX:∀p∈xl opsL,MapKept.IsKey .string p.1:=by
  intro p hp;obtain⟨q,_,rfl⟩:=mem_map.1 hp;exact trivial
 by_cases hex:∃p∈opsL,p.1=s
 .obtain⟨p,hp,rfl⟩:=hex;have:=mF (w:=w1) (v:=.int .i64 (bD p.1)) hm hd h1 (show MapKept.IsKey .string (str p.1)from trivial) lX (by
   intro q hq e;obtain⟨q',qD,rfl⟩:=mem_map.1 hq;have e':=str_inj e;show int .i64 q'.2=_
   rw[←nV q' qD,e']) ⟨_,mem_map.2 ⟨p,hp,rfl⟩,rfl⟩ false
  simpa using this
 .have gP:∀p∈opsL,p.1≠s:=λp hp e=>hex ⟨p,hp,e⟩;have:=kI (w:=w1) (z:=.int .i64 0) hm hd h1 (show MapKept.IsKey .string (str s)from trivial) lX (by
   intro q hq e;obtain⟨q',qD,rfl⟩:=mem_map.1 hq;exact gP q' qD (str_inj e)) am false
  rw[nW s gP];simpa using this
def ma(k:Nat):LB:=Lib.fields (iB.getD k [])
theorem uR(k:Nat)(hk:k<10):laid (k+1)=laid k++(ma k).map λs=>(s,(k:Int)+1):=by
 have:∀k,k<10->laid (k+1)=laid k++(ma k).map λs=>(s,(k:Int)+1):=by decide
 exact this k hk
theorem fresh:∀k,k<10->∀j,j<(ma k).length->∀p∈laid k++((ma k).take j).map (λs=>(s,(k:Int)+1)),p.1≠(ma k).getD j []:=by decide
theorem xn:∀k,k<10->(iB.getD k []).length<=100/\∀b∈iB.getD k [],b.toNat<128:=by decide
theorem xo:∀k,k<10->(ma k).length<=6:=by decide
theorem Z6(w:Wd)(g:GL w):Calls prog 29 #[] w (aZ (λv w'=>∃b,v=.map (some b)/\FL bD w' b/\w.heap.size<=b/\b<w'.heap.size/\aD [] w w') NP):=by
 refine YX ?_;unfold Wj;refine V1.map λbm w1 m1 gb k1=>?_;have lb:=m1.lt;have kk:=k1;refine V1.aG ah λb7 w2 N2=>?_;have BZ:=N2.ge;have B1:=N2.lt;have Ac:=N2.aA.size;have a7:=N2.at_;try simp only[cells,toList_toArray]at a7
 replace kk:=N2.kp kk;replace m1:=m1.aA N2.aA ak;replace a7:At w2 b7 (iB.map str):=by simpa[iB,str]using a7
 refine V1.i ah ?_;refine L1.i (λv w'=>∃k:Nat,k<=10/\v=.int .i64 k/\dJ w' bm (xl (laid k))/\At w' b7 (iB.map str)/\aD [] w w'/\w2.heap.size<=w'.heap.size) (λv w'=>match v with|.int _ n=>(10-n.toNat)|_=>0) ⟨0,by omega,rfl,m1,a7,kk,le_refl _⟩ ?_;rintro v w3 ⟨k,hk,rfl,m3,a7,kk,z3⟩;by_cases bO:k<10
 .refine V1.bt ax ?_;refine If.t ?_;refine V1.i (lG _ bO) ?_;have Z7:(iB.map str)[k]?=some (str (iB.getD k [])):=by
   rw[List.getElem?_map,List.getD_eq_getElem?_getD,getElem?_eq_getElem (by simpa[iB]using bO)];rfl
  refine V1.load (aC rfl) a7 Z7 ?_;obtain⟨Ky,wW⟩:=xn k bO;refine H7 (Wh w3 (iB.getD k []) (g.new kk) aj wW) ?_ (NP.no (e:=_));rintro _ w4 ⟨b4,rfl,N4⟩;have RQ:=N4.aA.size;have RP:=N4.ge;have a4:=N4.at_;have Z8:=xo k bO;have e1:Lib.fields (iB.getD k [])=ma k:=rfl;rw[e1]at*;replace a7:=N4.a a7;replace m3:=m3.aA N4.aA ak;have nU:=kk.trans N4.aA;refine V1.i ah ?_
  refine L1.i (λv w'=>∃j:Nat,j<=(ma k).length/\v=.int .i64 j/\dJ w' bm (xl (laid k++((ma k).take j).map (λs=>(s,(k:Int)+1))))/\At w' b7 (iB.map str)/\At w' b4 ((ma k).map str)/\aD [] w w'/\w2.heap.size<=w'.heap.size) (λv w'=>match v with|.int _ n=>((ma k).length-n.toNat)|_=>0) ⟨0,by omega,rfl,by simpa using m3,a7,a4,nU,by omega⟩ ?_;rintro v w5 ⟨j,hj,rfl,m5,a7,a4,Oo,z5⟩;by_cases lh:j<(ma k).length
  .refine V1.bt ax ?_;refine If.t ?_;refine V1.i (lG _ lh) ?_;have Z9:((ma k).map str)[j]?=some (str ((ma k).getD j [])):=by
    rw[List.getElem?_map,List.getD_eq_getElem?_getD,getElem?_eq_getElem lh];rfl
   refine V1.load (aC rfl) a4 Z9 ?_;refine V1.i (cC _ _ _ _ _ _ aj aj) ?_;refine U1.hO (kt:=9) (et:=3) (d:=.string) ai ai m5 (show MapKept.IsKey .string (str _)from trivial) (by
    intro p hp;obtain⟨q,_,rfl⟩:=mem_map.1 hp;exact trivial) (by
    intro p hp e;obtain⟨q,hq,rfl⟩:=mem_map.1 hp;exact fresh k bO j lh q hq (str_inj e)) λw6 m6 z6 k6=>?_
   refine V1.i (cC _ _ _ _ _ _ aj aj) ?_;have Rc:=m5.lt;refine⟨⟨j+1,by omega,by simp,?_,k6.at a7 al,k6.at a4 al,Oo.trans' k6 al,by omega⟩,by simp;omega⟩;rw[take_succ_eq_append_getElem lh];have e2:(ma k)[j]=(ma k).getD j []:=by rw[List.getD_eq_getElem?_getD,getElem?_eq_getElem lh];rfl
   rw[e2];simpa[xl]using m6
  .have:j=(ma k).length:=by omega
   subst this;refine V1.bf am ?_;refine If.f ?_;refine V1.i (cC _ _ _ _ _ _ aj aj) ?_;refine⟨⟨k+1,by omega,by simp,?_,a7,Oo,z5⟩,by simp;omega⟩;rw[uR k bO];simpa using m5
 .have:k=10:=by omega
  subst this;refine V1.bf am ?_;refine If.f ?_;rw[xm]at m3;exact⟨bm,rfl,EC m3,gb,m3.lt,kk⟩
def tl:Code->Code|.seq _ b=>b|c=>c
def Kz(R:ER)(a0 a1 a2:Va)(w:Wd):Prop:=
 V1 prog (Bo .neq 20 false true a2 .nilIface) w (λa w=>If a (∃S1:WP,S1 w.drew/\Xw prog S1 (typeAssert a2 20 78 false) λb=>Xw prog (λ_=>True) (field 78 b 0) λc=>Xw prog S1 (Instr.makeInterface 76 c) λd=>U1 prog (storeAt 26 a0 (.slice none 0 0)) w.drew (λw=>S1 w/\U1 prog (storeAt 31 a1 d) w (λw=>cu R (.tuple #[]) w) (pn R)) (pn R)) (cu R (.tuple #[]) w)) (pn R)
theorem W3(R:ER)(a0 a1 a2:Va)(w:Wd):body prog 10 [2] [] (tl (bC f28)) [a0,a1,a2] R w=Kz R a0 a1 a2 w:=ai
theorem mb{fn:Func}{c:Code}{n:Nat}{hd:List Nat}{args:LV}{w:Wd}{a:Act}{c0:Frame}{cs W4:List Frame}{u':FrameMode}{R:ER}{R':Ending->FrameMode->WP}
  (h:body prog n hd [] c args R w) (ha:Ag n (ez 0 args) a) (SC:a.defers=[]) (lK:W4={c0 with mode:=u'}::cs) (Av:fn.results=#[])
  (hr:∀w',R (.returned (.tuple #[])) w'->R' (.returned (.tuple #[])) u' w') (hp:∀ch w',R (.panicked ch) w'->R' (.panicked ch) u' w'):
  c.wpS prog (bodyPostS prog fn c0 cs R') a W4 w:=by
 have hv:∀(a':Act) (w':Wd),(results fn a'.tmps).run prog w'=.ok (.tuple #[]) w':=by
  intro a' w';unfold results;rw[Av];simp[go_sem]
 refine wpS_of_wp ?_;refine oF (M:=Dm.no) (n:=n) (ps:=[]) (rs:=[]) (hd:=hd) mixed c none [] (ez 0 args) () w _ a _ c rfl h ha SC ?_ ⟨?_,?_,?_,?_,?_⟩
 .intro c' a' w' d v _ hq;exact⟨hq.1,hq.2⟩
 .intro ρ d w' a' fk dQ _ hk;exact⟨dQ,u',lK,_,hv a' w',hr w' hk⟩
 .intro i ρ d w' a' _ _ _ hk;exact hk.elim
 .intro i ρ d w' a' _ _ _ hk;exact hk.elim
 .intro ρ d w' a' fk dQ _ hk;exact⟨dQ,u',lK,_,hv a' w',hr w' hk⟩
 .intro c' ρ d w' a' fk dQ _ hk;exact⟨dQ,u',lK,hp c' w' hk⟩
theorem W5(p0 p1 v:Va):Ag 10 (ez 0 [p0,p1,v]) {tmps:=#[p0,p1]++((replicate 8 undef).setIfInBounds 1 v).setIfInBounds 0 v,defers:=[]}:=by
 refine⟨by simp,?_⟩;intro t x ht;simp only[ez,List.lookup]at ht;split at ht
 .rename_i h;have:=eq_of_beq h;subst this;cases ht;rfl
 .split at ht
  .rename_i h;have:=eq_of_beq h;subst this;cases ht;rfl
  .split at ht
   .rename_i h;have:=eq_of_beq h;subst this;cases ht;rfl
   .cases ht
theorem xp{p0 p1:Va}{w:Wd}{R:ER}(h:Kz R p0 p1 .nilIface w){R':Ending->FrameMode->WP}
  (hr:∀w',R (.returned (.tuple #[])) w'->R' (.returned (.tuple #[])) .returning w') (hp:∀ch w',R (.panicked ch) w'->R' (.panicked ch) .returning w'):
  CallsD prog 28 #[p0,p1] .returning w R':=by
 refine callsD_of_wpS (c:=bC f28) func28 ai λc₀ cs hu=>?_;show(Code.seq _ (tl (bC f28))).wpS _ _ _ _ _
 apply wpS_seq
 apply wpS_region
 simp[wpOpsS,go_sem,recoverD,hu,Exit.thenS]
 refine mb (n:=10) (hd:=[2]) (args:=[p0,p1,.nilIface]) (u':=.returning) (by rw[W3];exact h) (W5 p0 p1 .nilIface) rfl ?_ ai hr hp
 cases c₀
 simp_all
theorem xr{p0 p1 v:Va}{w:Wd}{R:ER}(h:Kz R p0 p1 v w){R':Ending->FrameMode->WP}
  (hr:∀w',R (.returned (.tuple #[])) w'->R' (.returned (.tuple #[])) (.panicking [{v,recovered:=true}]) w') (hp:∀ch w',R (.panicked ch) w'->R' (.panicked ch) (.panicking [{v,recovered:=true}]) w'):
  CallsD prog 28 #[p0,p1] (.panicking [{v,recovered:=false}]) w R':=by
 refine callsD_of_wpS (c:=bC f28) func28 ai λc₀ cs hu=>?_;show(Code.seq _ (tl (bC f28))).wpS _ _ _ _ _
 apply wpS_seq
 apply wpS_region
 simp[wpOpsS,go_sem,recoverD,hu,Exit.thenS]
 exact mb (n:=10) (hd:=[2]) (args:=[p0,p1,v]) (u':=.panicking [{v,recovered:=true}]) (by rw[W3];exact h) (W5 p0 p1 v) rfl rfl ai hr hp
end Go.Proofs.YtoddjlclpnoomaaGreatDoor

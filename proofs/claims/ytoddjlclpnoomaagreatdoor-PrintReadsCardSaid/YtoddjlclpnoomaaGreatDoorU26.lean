import Derived.Test.YtoddjlclpnoomaaGreatDoorU25
set_option linter.unusedVariables false
set_option linter.unusedSimpArgs false
set_option maxRecDepth 100000
open Go.Proofs.Tryz
open Go.Instr (loadAt storeAt)
open List (contains_cons drop_eq_getElem_cons getElem?_eq_getElem length_cons take_succ_eq_append_getElem takeWhile_cons toList_toArray drop_eq_nil_of_le set_cons_zero set_cons_succ dropWhile_cons length_drop)
open Nat (lt_or_ge)
open Go.Value (cells)
open Bool (and_eq_true not_eq_true' or_eq_true or_eq_false_iff)
open Option (mem_toList mem_def)
open Go.World (setCell)
namespace Go.Proofs.YtoddjlclpnoomaaGreatDoor
open Go.Sh
def T7(r:WR)(v:Va):Prop:=match r with
 |.tok t n=>v=.tuple #[dm t,.int .i64 n,.int .i64 0]
 |.err c=>c≠0/\∃x n,v=.tuple #[dm x,n,.int .i64 c]
theorem vf(d:By):(gY d).2=0\/(gY d).2=4\/(gY d).2=15:=by
 unfold gY;split
 .exact .inr (.inl rfl)
 .split
  .exact .inr (.inr rfl)
  .exact .inl rfl
theorem gO(s:By)(i n:Nat):(s.drop i).take (i+n-i)=(s.drop i).take n:=by rw[Nat.add_sub_cancel_left]
set_option maxHeartbeats 1000000 in
theorem T8(w:Wd)(s:By)(i:Nat)(hi:i<s.length)(hl:s.length<=65536)(h0:bW.contains s[i]=true):Calls prog 133 #[str s,.int .i64 i] w (aZ (λv w'=>T7 (lJ (s.drop i)) v/\aD [] w w') NP):=by
 refine TD ?_;unfold LC;refine V1.new (eW _) λb1 w1 N1=>?_;have oR:=N1.ge;have pJ:=N1.lt;have pK:=N1.aA.size;have a1:=N1.at_;try simp only[cells,toList_toArray]at a1
 have yh:s.drop i=s[i]::s.drop (i+1):=drop_eq_getElem_cons hi;have hlen:(s.drop i).length=s.length-i:=length_drop;have hd:=mH (s.drop i);have hle:=kJ (s.drop i) bW;have Ow:1<=gC (s.drop i) bW:=by rw[yh];exact oZ h0
 unfold lJ;generalize hn:gC (s.drop i) bW=n at*;refine L1.i (λx w'=>w'=w1/\∃j:Nat,x=.int .i64 j/\i+j<=s.length/\n=j+gC (s.drop (i+j)) bW) (λx _=>match x with|.int _ n=>s.length-n.toNat|_=>0) ⟨rfl,0,rfl,by omega,by rw[←hn];simp⟩ ?_;rintro x w' ⟨rfl,j,rfl,hj,he⟩;refine V1.i (gM _ _ _ _ _ aj) ?_;refine V1.i (eX _ _ _) ?_;refine V1.i (iE _ _ _ _) ?_;refine J1.gd (c:=true) (bW.contains ((s.drop (i+j)).headD 0)) (λh kx dO=>?_) ?_
 .have h:i+j<s.length:=by
   have:=of_decide_eq_true h;omega
  refine V1.i (gM _ _ _ _ _ aj) ?_;refine V1.i (dL _ s (i+j) h) ?_;refine x9 (EZ _ _) ?_ (NP.no (e:=_));rintro _ w2 ⟨rfl,rfl⟩;rw[drop_eq_getElem_cons h]at dO;exact dO
 refine V1.i (fP _ _ _) ?_;refine If.b (λh=>?_) (λh=>?_)
 .rw[and_eq_true,decide_eq_true_eq]at h;have bO:i+j<s.length:=by omega
  have h2:=h.2;rw[drop_eq_getElem_cons bO]at h2 he;replace h2:bW.contains s[i+j]=true:=h2;rw[iS h2]at he;refine V1.i (cC _ _ _ _ _ _ aj aj) ?_;exact⟨⟨rfl,j+1,by simp,by omega,by rw[he,show i+(j+1)=i+j+1 by omega];omega⟩,by simp;omega⟩
 have OK:n=j:=by
  by_cases bO:i+j<s.length
  .rw[decide_eq_true aj,Bool.true_and]at h;rw[drop_eq_getElem_cons bO]at h he;replace h:bW.contains s[i+j]=false:=h;rw[oQ h]at he;exact he
  .rw[drop_eq_nil_of_le aj]at he;exact he
 subst OK;clear he h;refine V1.i (gM _ _ _ _ _ aj) ?_;refine V1.i (qT _ s i (i+n) aj aj) ?_;rw[gO];have Xm:((s.drop i).take n).length=n:=by simp;omega
 refine LO (T3 w' ((s.drop i).take n) hd (by intro h;rw[h]at Xm;simp at Xm;omega) aj) ?_ (NP.no (e:=_));rintro _ w2 ⟨rfl,rfl⟩;have yi:=vf ((s.drop i).take n);generalize hp:gY ((s.drop i).take n)=r at*;obtain⟨v,e⟩:=r;dsimp only at yi;refine V1.i ah ?_;refine V1.i ah ?_;refine V1.i (v:=.bool (e==4)) (w':=w2) am ?_;refine qS (b6:=decide (i+n<s.length)) (b7:=di.contains ((s.drop (i+n)).headD 0)) (λ_ k hk=>?_) (λ_ hb k hk=>?_) ?_
 .refine V1.i (gM _ _ _ _ _ aj) ?_;refine V1.i (eX _ _ _) ?_;exact V1.i (v:=.bool (decide (i+n<s.length))) (w':=w2) (by rw[iE];congr 2;rw[decide_eq_decide];omega) hk
 .have h:i+n<s.length:=of_decide_eq_true hb;refine V1.i (gM _ _ _ _ _ aj) ?_;refine V1.i (dL _ s (i+n) h) ?_;refine x8 (EY _ _) ?_ (NP.no (e:=_));rintro _ w2 ⟨rfl,rfl⟩;rw[drop_eq_getElem_cons h]at hk;exact hk
 have hb:((e==4)||(decide (i+n<s.length)&&di.contains ((s.drop (i+n)).headD 0)))=decide (e=4\/di.contains (((s.drop i).drop n).headD 0)=true):=by
  rw[List.drop_drop,Bool.eq_iff_iff,decide_eq_true_eq,or_eq_true,beq_iff_eq,and_eq_true,decide_eq_true_eq];constructor
  .rintro(h|h)
   .exact .inl h
   .exact .inr h.2
  .rintro(h|h)
   .exact .inl h
   .refine .inr ⟨?_,h⟩;by_cases h3:i+n<s.length
    .exact h3
    .rw[drop_eq_nil_of_le aj]at h
     cases h
 rw[hb];dsimp only;have kk:=N1.aA;have ln:=N1.lt;refine If.b (λh=>?_) (λh=>?_)
 .rw[if_pos (of_decide_eq_true h)];refine V1.i ah ?_;refine U1.tok (t:=⟨0,[],0,0⟩) a1 rfl λw4 U4=>?_;exact⟨_,cA U4.at_,⟨by omega,⟨0,[],0,0⟩,_,rfl⟩,kk.then U4.aA ak (by simp;exact N1.ge)⟩
 .have h:=of_decide_eq_false h;rw[if_neg h];refine V1.i (gM _ _ _ _ _ aj) ?_;refine V1.i (qT _ s i (i+n) aj aj) ?_;rw[gO];refine V1.i ah ?_;refine U1.tok (t:=⟨2,(s.drop i).take n,v,0⟩) a1 rfl λw4 U4=>?_;refine⟨_,cA U4.at_,?_,kk.then U4.aA ak (by simp;exact N1.ge)⟩;by_cases AR:e=0
  .subst AR;rw[if_pos rfl];rfl
  .rw[if_neg AR];exact⟨AR,_,_,rfl⟩
theorem po:∀(l:By) (j k:Nat),eH l j=some k->l[k-j]?=some 34
 |[],j,k,h=>by simp[eH]at h
 |c::l,j,k,h=>by
  unfold eH at h;by_cases ji:c=34
  .rw[if_pos ji]at h;injection h with h;subst h;rw[Nat.sub_self,ji];rfl
  rw[if_neg ji]at h;by_cases oT:c=92
  .rw[if_pos oT]at h;match l,h with
   |d::l',h=>
    have h1:=po l' _ _ h;have h2:=(iV l' _ _ h).1;rw[show k-j=(k-(j+2))+1+1 by omega,List.getElem?_cons_succ,List.getElem?_cons_succ];exact h1
  .rw[if_neg oT]at h;have h1:=po l _ _ h;have h2:=(iV l _ _ h).1;rw[show k-j=(k-(j+1))+1 by omega,List.getElem?_cons_succ];exact h1
theorem vg(m:By):(gZ m).2=0\/(gZ m).2=4\/(gZ m).2=3:=by
 unfold gZ;split
 .exact .inr (.inl rfl)
 .split
  .exact .inr (.inr rfl)
  .exact .inl rfl
theorem T9(w:Wd)(s:By)(i:Nat)(hi:i<s.length)(hl:s.length<=60000)(ji:s[i]=34):Calls prog 134 #[str s,.int .i64 i] w (aZ (λv w'=>T7 (lI (s.drop i)) v/\aD [] w w') NP):=by
 refine TE ?_;unfold LG;refine V1.new (eW _) λb1 w1 N1=>?_;have oR:=N1.ge;have pJ:=N1.lt;have pK:=N1.aA.size;have a1:=N1.at_;try simp only[cells,toList_toArray]at a1
 have kk:=N1.aA;have ln:=N1.lt;refine LQ (c182 w1 s i hi aj ji) ?_ (NP.no (e:=_));rintro _ w2 ⟨rfl,rfl⟩;have hlen:(s.drop i).length=s.length-i:=length_drop;have hL0:tw (s.drop i)=34::tw (s.drop (i+1)):=by
  rw[drop_eq_getElem_cons hi];unfold tw;rw[takeWhile_cons,ji];rfl
 have Mk:∃s2,s.drop i=34::s2:=⟨_,by rw[drop_eq_getElem_cons hi,ji]⟩;unfold lI;refine V1.i (ya _ _ _ _) ?_
 cases hQ:eH ((tw (s.drop i)).drop 1) 1 with
 |none=>
  refine If.t ?_;refine V1.i ah ?_;refine U1.tok (t:=⟨0,[],0,0⟩) a1 rfl λw4 U4=>?_;exact⟨_,cA U4.at_,⟨by omega,⟨0,[],0,0⟩,_,rfl⟩,kk.then U4.aA ak (by simp;exact N1.ge)⟩
 |some k=>
  have uB:=iV _ _ _ hQ;have Xn:=po _ _ _ hQ;have hLle:(tw (s.drop i)).length<=(s.drop i).length:=(List.takeWhile_sublist _).length_le;rw[length_drop]at uB;have F5:k<(tw (s.drop i)).length:=by omega
  have hLk:(tw (s.drop i))[k]=34:=by
   rw[List.getElem?_drop,show 1+(k-1)=k by omega,getElem?_eq_getElem F5]at Xn
   injection Xn
  rw[show qL (some k)=((k+1:Nat):Int)by simp[qL]];rw[show((((k+1:Nat):Int))==0)=false by rw[beq_eq_false_iff_ne];omega];refine If.f ?_;refine V1.i (gM _ _ _ _ _ aj) ?_;refine V1.i (qT _ s i (i+(k+1)) aj aj) ?_;rw[gO];have hm:(s.drop i).take (k+1)=34::(((s.drop i).take k).drop 1++[34]):=by
   have e1:(tw (s.drop i)).take (k+1)=(s.drop i).take (k+1):=nS F5;have e2:(tw (s.drop i)).take k=(s.drop i).take k:=by
    have:=congrArg (List.take k) e1;rwa [List.take_take,List.take_take,Nat.min_eq_left aj]at this
   rw[←e1,take_succ_eq_append_getElem F5,hLk,e2];obtain⟨s2,tO⟩:=Mk;rw[tO];obtain⟨k',rfl⟩:∃k',k=k'+1:=⟨k-1,by omega⟩;simp
  rw[hm];have ZY:(((s.drop i).take k).drop 1).length<=60000:=by simp;omega
  dsimp only;generalize((s.drop i).take k).drop 1=m at*;refine LU (c183 w2 m aj) ?_ (NP.no (e:=_));rintro _ w3 ⟨rfl,K3⟩;replace a1:=K3.at a1 ak;replace kk:=kk.trans K3;have hz:=K3.size;have yi:=vg m;generalize gZ m=r at*;obtain⟨tx,ec⟩:=r;dsimp only at yi;refine V1.i ah ?_;refine V1.i ah ?_;refine V1.i (v:=.bool (ec==4)) (w':=w3) am ?_;dsimp only;by_cases h4:ec=4
  .subst h4;rw[if_neg aj,if_pos rfl];refine If.t ?_;refine V1.i ah ?_;refine U1.tok (t:=⟨0,[],0,0⟩) a1 rfl λw4 U4=>?_;exact⟨_,cA U4.at_,⟨by omega,⟨0,[],0,0⟩,_,rfl⟩,kk.then U4.aA ak (by simp;exact N1.ge)⟩
  .rw[show(ec==4)=false by simpa using h4];refine If.f ?_;refine V1.i ah ?_;refine U1.tok (t:=⟨3,tx,0,0⟩) a1 rfl λw4 U4=>?_;refine⟨_,cA U4.at_,?_,kk.then U4.aA ak (by simp;exact N1.ge)⟩;by_cases AR:ec=0
   .subst AR;rw[if_pos rfl];rfl
   .rw[if_neg AR,if_neg h4];exact⟨AR,_,_,rfl⟩
theorem c82(w:Wd)(s:By)(i:Nat)(hi:i<s.length)(hl:s.length<=60000):Calls prog 82 #[str s,.int .i64 i] w (aZ (λv w'=>T7 (eA (s.drop i)) v/\aD [] w w') NP):=by
 refine s82 ?_;unfold Xi;refine V1.new (eW _) λb1 w1 N1=>?_;have oR:=N1.ge;have pJ:=N1.lt;have pK:=N1.aA.size;have a1:=N1.at_;try simp only[cells,toList_toArray]at a1
 have kk:=N1.aA;have ln:=N1.lt;have hlen:(s.drop i).length=s.length-i:=length_drop;have yh:s.drop i=s[i]::s.drop (i+1):=drop_eq_getElem_cons hi;have Mk:(s.drop i).headD 0=s[i]:=by rw[yh];rfl
 have hle:=kJ (s.drop i) (di++bW);refine V1.i (dL _ s i hi) ?_;refine x8 (EY _ _) ?_ (NP.no (e:=_));rintro _ w2 ⟨rfl,rfl⟩;unfold eA;rw[Mk]
 cases Ua:di.contains s[i]with
 |true=>
  rw[if_pos rfl];refine If.t (Lz (c130 w2 s i aj aj) ?_ (NP.no (e:=_)));rintro _ w2 ⟨rfl,rfl⟩;generalize hn:gC (s.drop i) (di++bW)=n at*;refine V1.i (sT _ _ _ _) ?_;by_cases za:24<n
  .rw[show decide ((24:Int)<(n:Int))=true by simp;omega,if_pos za];refine If.t ?_;refine V1.i ah ?_;refine U1.tok (t:=⟨0,[],0,0⟩) a1 rfl λw4 U4=>?_;exact⟨_,cA U4.at_,⟨by omega,⟨0,[],0,0⟩,_,rfl⟩,kk.then U4.aA ak (by simp;exact N1.ge)⟩
  rw[show decide ((24:Int)<(n:Int))=false by simp;omega,if_neg za];refine If.f ?_;refine J1.cut (λv w'=>v=.int .i64 (if gx ((s.drop i).take n)=true then 4 else 1)/\aD [] w2 w') ?_ ?_
  .refine V1.i (gM _ _ _ _ _ aj) ?_;refine V1.i (qT _ s i (i+n) aj aj) ?_;rw[gO];refine CC (c131 w2 _) ?_ (NP.no (e:=_));rintro _ w3 ⟨rfl,K3⟩;exact If.b (λh=>⟨by rw[if_pos h],K3⟩) (λh=>⟨by rw[if_neg (by rw[h];simp)],K3⟩)
  rintro _ w3 ⟨rfl,K3⟩;replace a1:=K3.at a1 ak;replace kk:=kk.trans K3;have hz:=K3.size;refine V1.i (gM _ _ _ _ _ aj) ?_;refine V1.i (qT _ s i (i+n) aj aj) ?_;rw[gO];refine V1.i (v:=dm ⟨if gx ((s.drop i).take n)=true then 4 else 1,(s.drop i).take n,0,0⟩) (w':=w3) (by simp[go_sem,dm]) ?_;refine U1.tok (t:=⟨if gx ((s.drop i).take n)=true then 4 else 1,(s.drop i).take n,0,0⟩) a1 rfl λw4 U4=>?_;exact⟨_,cA U4.at_,rfl,kk.then U4.aA ak (by simp;exact N1.ge)⟩
 |false=>
 rw[if_neg ak];refine If.f (x9 (EZ _ _) ?_ (NP.no (e:=_)));rintro _ w2 ⟨rfl,rfl⟩
 cases Ml:bW.contains s[i]with
 |true=>
  rw[if_pos rfl];refine If.t (LF (T8 w2 s i hi aj Ml) ?_ (NP.no (e:=_)));rintro v w3 ⟨hv,K3⟩;replace a1:=K3.at a1 ak;replace kk:=kk.trans K3
  cases hr:lJ (s.drop i)with
  |tok t n=>
   rw[hr]at hv;obtain rfl:=hv;refine V1.i ah ?_;refine V1.i ah ?_;refine V1.i ah ?_;refine U1.tok (t:=t) a1 rfl λw4 U4=>?_;exact⟨_,cA U4.at_,rfl,kk.then U4.aA ak (by simp;exact N1.ge)⟩
  |err c=>
   rw[hr]at hv;obtain⟨hc,x,n,rfl⟩:=hv;refine V1.i ah ?_;refine V1.i ah ?_;refine V1.i ah ?_;refine U1.tok (t:=x) a1 rfl λw4 U4=>?_;exact⟨_,cA U4.at_,⟨hc,_,_,rfl⟩,kk.then U4.aA ak (by simp;exact N1.ge)⟩
 |false=>
 rw[if_neg ak];refine If.f (V1.i (lA _ _ _) ?_);rw[show((s[i].toNat:Int)==34)=(s[i]==34)from nj s[i] 34];by_cases ji:s[i]=34
 .rw[if_pos ji,show(s[i]==34)=true by simpa using ji];refine If.t (LH (T9 w2 s i hi hl ji) ?_ (NP.no (e:=_)));rintro v w3 ⟨hv,K3⟩;replace a1:=K3.at a1 ak;replace kk:=kk.trans K3
  cases hr:lI (s.drop i)with
  |tok t n=>
   rw[hr]at hv;obtain rfl:=hv;refine V1.i ah ?_;refine V1.i ah ?_;refine V1.i ah ?_;refine U1.tok (t:=t) a1 rfl λw4 U4=>?_;exact⟨_,cA U4.at_,rfl,kk.then U4.aA ak (by simp;exact N1.ge)⟩
  |err c=>
   rw[hr]at hv;obtain⟨hc,x,n,rfl⟩:=hv;refine V1.i ah ?_;refine V1.i ah ?_;refine V1.i ah ?_;refine U1.tok (t:=x) a1 rfl λw4 U4=>?_;exact⟨_,cA U4.at_,⟨hc,_,_,rfl⟩,kk.then U4.aA ak (by simp;exact N1.ge)⟩
 rw[if_neg ji,show(s[i]==34)=false by simpa using ji];refine If.f (LI (T6 w2 s i hi aj) ?_ (NP.no (e:=_)));rintro _ w3 ⟨rfl,K3⟩;replace a1:=K3.at a1 ak;replace kk:=kk.trans K3;have hw:(if 1<(s.drop i).length/\((s.drop i).take 2).contains 32=false/\Lib.contains gw ((s.drop i).take 2)=true then WR.tok ⟨4,(s.drop i).take 2,0,0⟩ 2
   else if iw.contains s[i]=true then .tok ⟨4,(s.drop i).take 1,0,0⟩ 1 else .err 14)=if ir (s.drop i)=0 then .err 14 else .tok ⟨4,(s.drop i).take (ir (s.drop i)),0,0⟩ (ir (s.drop i)):=by
  unfold ir;rw[Mk];clear Ua Ml ji K3 a1 kk hle hlen yh Mk;generalize s.drop i=s';generalize s[i]=c0;have Xo:1<s'.length->(((s'.take 2).contains 32=false/\Lib.contains gw (s'.take 2)=true)↔(p7.contains (s'.take 2)||(s'.take 2==[46,46]))=true):=by
   intro h;rcases s' with _|⟨a,_|⟨b,r⟩⟩
   .simp at h
   .simp at h
   rw[show(a::b::r).take 2=[a,b]from rfl,←AQ a b,and_eq_true,not_eq_true']
  by_cases h1:1<s'.length
  .by_cases h2:(p7.contains (s'.take 2)||(s'.take 2==[46,46]))=true
   .have hA:1<s'.length/\(s'.take 2).contains 32=false/\Lib.contains gw (s'.take 2)=true:=⟨h1,(Xo h1).2 h2⟩;have hB:1<s'.length/\(p7.contains (s'.take 2)||(s'.take 2==[46,46]))=true:=⟨h1,h2⟩;simp only[if_pos hA,if_pos hB];simp
   .have hA:¬(1<s'.length/\(s'.take 2).contains 32=false/\Lib.contains gw (s'.take 2)=true):=λh=>h2 ((Xo h1).1 h.2);have hB:¬(1<s'.length/\(p7.contains (s'.take 2)||(s'.take 2==[46,46]))=true):=λh=>h2 h.2;simp only[if_neg hA,if_neg hB]
    cases hs:iw.contains c0<;>simp
  .have hA:¬(1<s'.length/\(s'.take 2).contains 32=false/\Lib.contains gw (s'.take 2)=true):=λh=>h1 h.1;have hB:¬(1<s'.length/\(p7.contains (s'.take 2)||(s'.take 2==[46,46]))=true):=λh=>h1 h.1;simp only[if_neg hA,if_neg hB]
   cases hs:iw.contains c0<;>simp
 rw[hw];have Xl:ir (s.drop i)<=(s.drop i).length:=by
  unfold ir;split
  .omega
  .split<;>omega
 generalize ir (s.drop i)=n at*;refine V1.i (ya _ _ _ _) ?_;by_cases Xp:n=0
 .subst Xp;rw[if_pos rfl];refine If.t ?_;refine V1.i ah ?_;refine U1.tok (t:=⟨0,[],0,0⟩) a1 rfl λw4 U4=>?_;exact⟨_,cA U4.at_,⟨by omega,⟨0,[],0,0⟩,_,rfl⟩,kk.then U4.aA ak (by simp;exact N1.ge)⟩
 .rw[if_neg Xp,show((n:Int)==0)=false by rw[beq_eq_false_iff_ne];omega];refine If.f ?_;refine V1.i (gM _ _ _ _ _ aj) ?_;refine V1.i (qT _ s i (i+n) aj aj) ?_;rw[gO];refine V1.i ah ?_;refine U1.tok (t:=⟨4,(s.drop i).take n,0,0⟩) a1 rfl λw4 U4=>?_;exact⟨_,cA U4.at_,rfl,kk.then U4.aA ak (by simp;exact N1.ge)⟩
def iM(c l:Int):Va:=.agg #[.int .i64 c,.int .i64 l]
def E3(c l:Int):LV:=[.int .i64 c,.int .i64 l]
theorem U1.zh{w:Wd}{b:Nat}{x y:Va}{c l:Int}{k:WP}{e:EK}(hA:At w b [x,y])
  (hk:∀w',tB w b (E3 c l) w'->k w'):U1 prog (storeAt 69 (ptr b) (iM c l)) w k e:=by
 have h0:=hA.set 0 (.int .i64 c);have h1:=h0.set 1 (.int .i64 l);refine U1.i (w':=(w.setCell ⟨b,0,none⟩ (.int .i64 c)).setCell ⟨b,1,none⟩ (.int .i64 l)) (v:=()) ?_ (hk _ ⟨h1,by simp[setCell],?_,λq=>by simp only[fH]⟩)
 .simp[go_sem,iM,ptr,hA.cell,hA.fr]
 .exact((aD.refl _ _).set _ (.inl ak)).set _ (.inl ak)
theorem jv{w:Wd}{b:Nat}{c l:Int}(hA:At w b (E3 c l)):(loadAt 69 (ptr b)).run prog w=.ok (iM c l) w:=Bu w b 0 _ _ (by rw[hA.cell];rfl) (by rw[hA.cell];rfl)
def TQr(w0:Wd)(r:LR)(v:Va)(w':Wd):Prop:=match r with
 |.ok ts=>∃b c,v=.tuple #[.slice (some ⟨b,0,none⟩) ts.length c,iM 0 0]/\cW w' b 0 ts/\ts.length<=c/\w0.heap.size<=b/\b<w'.heap.size/\ts≠[]
 |.fail c=>c≠0/\∃line,v=.tuple #[.slice none 0 0,iM c line]
theorem Mm:∀l:By,l.contains 10=false->l.dropWhile (λc=>!(c==10))=[]
 |[],_=>rfl
 |c::l,h=>by
  rw[contains_cons,or_eq_false_iff]at h;have h1:(c==10)=false:=by
   have:=h.1;simp only[beq_eq_false_iff_ne]at this⊢;exact λe=>this e.symm
  rw[dropWhile_cons,if_pos (by rw[h1];rfl)];exact Mm l h.2
set_option maxHeartbeats 1000000 in
theorem c46(w:Wd)(s:By)(hs:s.length<=60000):Calls prog 46 #[str s] w (aZ (λv w'=>TQr w (jL s) v w'/\aD [] w w') NP):=by
 refine s46 ?_;unfold Xh;refine V1.new (ux _) λb1 w1 N1=>?_;have oR:=N1.ge;have pJ:=N1.lt;have pK:=N1.aA.size;have a1:=N1.at_;try simp only[cells,toList_toArray]at a1
 have kk:=N1.aA;have lb:=N1.lt;have gb:=N1.ge;refine V1.i (eX _ _ _) ?_;refine V1.i (sT _ _ _ _) ?_;by_cases hlen:32768<s.length
 .rw[show decide ((32768:Int)<(s.length:Int))=true by simp;omega];refine If.t ?_;refine V1.i (v:=iM 3 0) (w':=w1) (by simp[go_sem,iM]) ?_;refine U1.zh a1 λw2 U2=>?_;unfold jL;rw[if_pos hlen];exact⟨_,jv U2.at_,⟨by omega,0,rfl⟩,kk.then U2.aA ak (by simp;exact gb)⟩
 rw[show decide ((32768:Int)<(s.length:Int))=false by simp;omega];refine If.f ?_;have Ez:jL s=(dv (s.length+1) s 0).app []:=by
  unfold jL;rw[if_neg hlen]
  cases dv (s.length+1) s 0<;>rfl
 rw[Ez];generalize hT:(dv (s.length+1) s 0).app []=T;refine L4.g (λn a5 a2 a4 a6 w'=>∃(line:Int) (i:Nat) (acc:LT),a5=.int .i64 line/\a6=.int .i64 i/\i<=s.length/\ie w1.heap.size w' a4 acc/\0<=line/\line<=i/\acc.length<=i/\s.length-i<n/\(dv n (s.drop i) line).app acc=T/\aD [] w1 w') (s.length+1) ⟨0,0,[],rfl,rfl,by omega,ie.nil _ _,by omega,by omega,by simp,by omega,hT,aD.refl _ _⟩ ?_;clear hT Ez;rintro n a5 a2 a4 a6 w2 KK ⟨line,i,acc,rfl,rfl,hi,ha,Sy,uQ,fY,hn,hT,K⟩ hK;have z2:=K.size;have aF:=K.at a1 ak;obtain⟨n,rfl⟩:∃k,n=k+1:=⟨n-1,by omega⟩;refine V1.i (eX _ _ _) ?_;refine V1.i (iE _ _ _ _) ?_;by_cases bO:i<s.length
 rotate_left
 .rw[show decide ((i:Int)<(s.length:Int))=false by simp;omega];refine If.f ?_;rw[drop_eq_nil_of_le aj]at hT;have hT:(LR.ok [iZ line]).app acc=T:=by rw[←hT];unfold dv;simp
  refine V1.i (v:=dm (iZ line)) (w':=w2) (by simp[go_sem,dm,iZ,str]) ?_;refine V1.aG (z:=(gJ (iZ line)).toArray) (by simp[go_sem,dm,gJ,iZ,str];repeat' (first|rfl|apply And.intro)) λb8 w8 N8=>?_;have z8:=N8.aA.size;have Cq:=ha.fr N8.aA ak;obtain⟨v',w9,hr,Kx,k9⟩:=tU (n:=65536) Cq N8.at_ aj aj aj;refine V1.i hr ?_;have z9:=k9.size;have xk:aD [] w1 w9:=(K.trans N8.aA).trans' k9 (λi hi bO=>by
   simp only[mem_toList,mem_def]at hi;have:=(Cq.lt hi).1;omega)
  obtain⟨b,c,rfl,ht,hc,F1,uP⟩:=Kx.Kw ak;refine V1.i (v:=iM 0 0) (w':=w9) (by simp[go_sem,iM]) ?_;refine U1.zh (xk.at a1 ak) λeo ic=>?_;rw[←hT];refine⟨_,jv ic.at_,⟨b,c,rfl,?_,hc,by omega,by have:=ic.size;omega,by simp⟩,(kk.trans xk).then ic.aA ak (by simp;exact gb)⟩;exact ht.aA ic.aA al
 rw[show decide ((i:Int)<(s.length:Int))=true by simp;omega];have h0:∀{R:ER}{w:Wd}{k:VK},k (.int .u8 (s[i]).toNat) w->v1 R (Instr.index 9 (str s) (.int .i64 i)) w k:=λhk=>V1.i (dL _ s i bO) hk;have yh:s.drop i=s[i]::s.drop (i+1):=drop_eq_getElem_cons bO;generalize hc:s[i]=c at h0 yh;generalize hl:s.drop (i+1)=l at yh;have vX:dv (n+1) (c::l) line=(if c=10 then dv n l (line+1)
  else if[32,9,13].contains c=true then dv n l line
  else if(c::l).take 2=[45,45]then(if(c::l).contains 10=true then dv n ((c::l).dropWhile (λc=>!(c==10))) line else .ok [iZ line])
  else match eA (c::l)with
   |.err c=>.fail c
   |.tok t k=>(dv n ((c::l).drop k) line).cons (t.at line)):=by
  conv=>lhs;unfold dv
  rw[if_neg ak];rfl
 rw[yh,vX]at hT;refine If.t ?_;refine J1.cut (λv w'=>v=.int .i64 (if c=10 then line+1 else line)/\w'=w2) ?_ ?_
 .refine h0 (V1.i (lA _ _ _) ?_);rw[show((c.toNat:Int)==10)=(c==10)from nj c 10];refine If.b (λh=>?_) (λh=>?_)
  .refine V1.i (cC _ _ _ _ _ _ aj aj) ?_;exact⟨by rw[if_pos (by simpa using h)],rfl⟩
  .exact⟨by rw[if_neg (by simpa using h)],rfl⟩
 rintro _ w2 ⟨rfl,rfl⟩;refine h0 (V1.i (lA _ _ _) ?_);refine J1.gd (c:=false) _ (λ_ k hk=>h0 (V1.i (lA _ _ _) hk)) ?_;refine V1.i (fm _ _ _) ?_;refine J1.gd (c:=false) _ (λ_ k hk=>h0 (V1.i (lA _ _ _) hk)) ?_;refine V1.i (fm _ _ _) ?_;refine J1.gd (c:=false) _ (λ_ k hk=>h0 (V1.i (lA _ _ _) hk)) ?_;refine V1.i (fm _ _ _) ?_;rw[show((c.toNat:Int)==32)=(c==32)from nj c 32,show((c.toNat:Int)==9)=(c==9)from nj c 9,show((c.toNat:Int)==13)=(c==13)from nj c 13,show((c.toNat:Int)==10)=(c==10)from nj c 10];refine If.b (λh=>?_) (λh=>?_)
 .refine V1.i (cC _ _ _ _ _ _ aj aj) ?_;refine hK n _ _ _ _ _ aj ⟨_,i+1,acc,rfl,by simp,by omega,ha,by split<;>omega,by split<;>(simp;omega),by omega,by omega,?_,K⟩;rw[hl];by_cases jj:c=10
  .rw[if_pos jj]at hT⊢;exact hT
  .rw[if_neg jj]at hT⊢;rw[if_pos (by
    have jj:(c==10)=false:=by simpa using jj
    rw[jj,Bool.or_false,or_eq_true,or_eq_true]at h;simp only[contains_cons,or_eq_true];rcases h with(h|h)|h
    .exact .inl h
    .exact .inr (.inl h)
    .exact .inr (.inr (.inl h)))]at hT
   exact hT
 rw[or_eq_false_iff,or_eq_false_iff,or_eq_false_iff]at h;have jj:c≠10:=by simpa using h.2
 rw[if_neg jj]at hT⊢;rw[if_neg (by simp only[contains_cons,h.1.1.1,h.1.1.2,h.1.2];simp)]at hT;refine V1.i (cC _ _ _ _ _ _ aj aj) ?_;refine V1.i (eX _ _ _) ?_;refine V1.i (iE _ _ _ _) ?_;refine J1.gd (c:=true) _ (λ_ k hk=>h0 (V1.i (lA _ _ _) hk)) ?_;refine V1.i (fP _ _ _) ?_;rw[show((c.toNat:Int)==45)=(c==45)from nj c 45];refine J1.gd (c:=true) (l.headD 0==45) (λh k hk=>?_) ?_
 .rw[and_eq_true,decide_eq_true_eq]at h;have fY:i+1<s.length:=by omega
  refine V1.i (cC _ _ _ _ _ _ aj aj) ?_;refine V1.i (v:=.int .u8 (s[i+1]).toNat) (w':=w2) (by have:=dL w2 s (i+1) fY;simpa using this) ?_;refine V1.i (lA _ _ _) ?_;rw[show((s[i+1].toNat:Int)==45)=(s[i+1]==45)from nj _ 45];rw[←hl,drop_eq_getElem_cons fY]at hk;exact hk
 refine V1.i (fP _ _ _) ?_;have Ky:l.length=s.length-(i+1):=by rw[←hl,length_drop]
 rw[show((decide ((i:Int)+1<(s.length:Int))&&(c==45))&&(l.headD 0==45))=decide ((c::l).take 2=[45,45])by
  rw[Bool.eq_iff_iff,decide_eq_true_eq,and_eq_true,and_eq_true,decide_eq_true_eq,beq_iff_eq,beq_iff_eq];rcases l with _|⟨d,l⟩
  .simp at Ky⊢
  .simp only[length_cons]at Ky;have:(i:Int)+1<s.length:=by omega
   simp[this]]
 by_cases h2:(c::l).take 2=[45,45]
 .rw[if_pos h2]at hT;rw[decide_eq_true h2];refine If.t ?_;have ja:∀j:Nat,i<j->j<=s.length->s.drop j=(c::l).dropWhile (λc=>!(c==10))->KK (.int .i64 line) a2 a4 (.int .i64 j) w2:=by
   intro j rH hj he;refine hK n _ _ _ _ _ aj ⟨line,j,acc,rfl,rfl,hj,ha,Sy,by omega,by omega,by omega,?_,K⟩;rw[he]
   cases h3:(c::l).contains 10 with
   |true=>rw[if_pos h3]at hT;exact hT
   |false=>
    rw[if_neg (by rw[h3];simp)]at hT;have:(c::l).dropWhile (λc=>!(c==10))=[]:=by
     exact Mm _ h3
    rw[this]
    cases n with
    |zero=>exact hT
    |succ n=>rw[←hT];unfold dv;simp
  refine L1.i (λx w'=>w'=w2/\∃j:Nat,x=.int .i64 j/\i<=j/\j<=s.length/\(s.drop j).dropWhile (λc=>!(c==10))=(c::l).dropWhile (λc=>!(c==10))) (λx _=>match x with|.int _ n=>s.length-n.toNat|_=>0) ⟨rfl,i,rfl,by omega,by omega,by rw[yh]⟩ ?_;rintro x w3 ⟨rfl,j,rfl,rH,hj,he⟩;refine V1.i (eX _ _ _) ?_;refine V1.i (iE _ _ _ _) ?_;by_cases lh:j<s.length
  rotate_left
  .rw[show decide ((j:Int)<(s.length:Int))=false by simp;omega];refine J1.go (Gd.ft ?_);refine V1.bf am ?_;refine If.f (ja j aj hj ?_);rw[←he,drop_eq_nil_of_le aj];rfl
  rw[show decide ((j:Int)<(s.length:Int))=true by simp;omega];refine J1.go (Gd.tt (V1.i (dL _ s j lh) (V1.i (OJ _ _ _) ?_)));rw[show((s[j].toNat:Int)==10)=(s[j]==10)from nj _ 10];refine V1.i (v:=.bool (!(s[j]==10))) (w':=w3) am ?_;rw[drop_eq_getElem_cons lh,dropWhile_cons]at he;refine If.b (λh=>?_) (λh=>?_)
  .rw[if_pos h]at he;refine V1.i (cC _ _ _ _ _ _ aj aj) ?_;exact⟨⟨rfl,j+1,by simp,by omega,by omega,he⟩,by simp;omega⟩
  .rw[if_neg (by rw[h];simp)]at he;refine ja j ?_ hj (by rw[←he];exact drop_eq_getElem_cons lh);rcases lt_or_ge i j with h5|h5
   .exact h5
   .obtain rfl:j=i:=by omega
    rw[hc]at h;exact absurd (by simpa using h) jj
 rw[if_neg h2]at hT;rw[decide_eq_false h2];refine If.f ?_;refine Tw (c82 w2 s i bO hs) ?_ (NP.no (e:=_));rintro v w4 ⟨hW,K4⟩;rw[yh]at hW;have EA:=nT (c::l) ak;have z4:=K4.size;have nU:=K.trans K4;have EB:=ha.fr K4 ak;generalize eA (c::l)=r at*;have Xr:=K4.at aF ak
 cases r with
 |err e=>
  obtain⟨he,x,nn,rfl⟩:=hW;simp only at hT;refine V1.i ah ?_;refine V1.i ah ?_;refine V1.i ah ?_;refine V1.new (eW _) λb5 w5 N5=>?_;have z5:=N5.aA.size;refine U1.tok (t:=x) (N5.at_) rfl λw6 U6=>?_;have z6:=U6.size;have lF:=Xr.lt;have aF6:=U6.aA.at (N5.aA.at Xr ak) (by simp;have:=N5.ge;omega);refine V1.bt (by simp[go_sem,he]) ?_;refine If.t ?_;refine V1.i (v:=iM e line) (w':=w6) (by simp[go_sem,iM]) ?_;refine U1.zh aF6 λw7 U7=>?_;rw[←hT];have k6:aD [] w1 w6:=(nU.trans N5.aA).then U6.aA ak (by simp;have:=N5.ge;omega)
  exact⟨_,jv U7.at_,⟨he,line,rfl⟩,(kk.trans k6).then U7.aA ak (by simp;exact gb)⟩
 |tok t k=>
  replace hW:_=_:=hW;subst hW;simp only at hT;obtain⟨uB,jy⟩:=EA t k rfl;refine V1.i ah ?_;refine V1.i ah ?_;refine V1.i ah ?_;refine V1.new (eW _) λb5 w5 N5=>?_;have z5:=N5.aA.size;have Sz:=EB.fr N5.aA ak;refine U1.tok (t:=t) (N5.at_) rfl λw6 U6=>?_;have z6:=U6.size;have g5:=N5.ge;have SA:=Sz.Ox U6.aA (λg hg=>by have:=(EB.lt hg).2;simp;omega);have a6:=U6.at_;refine V1.bf am ?_;refine If.f ?_;refine V1.i ah ?_;refine U1.store (aO rfl rfl) a6 ak λw7 U7=>?_;have z7:=U7.size;have a7:=U7.at_;simp only[set_cons_zero,set_cons_succ]at a7;have SB:=SA.Ox U7.aA (λg hg=>by have:=(EB.lt hg).2;simp;omega)
  refine V1.i (cA (t:=t.at line) a7) ?_;refine V1.aG (z:=(gJ (t.at line)).toArray) (by simp[go_sem,dm,gJ];repeat' (first|rfl|apply And.intro)) λb8 w8 N8=>?_;have z8:=N8.aA.size;have Cq:=SB.fr N8.aA ak;have k6:aD [] w1 w6:=(nU.trans N5.aA).then U6.aA ak al
  have k7:aD [] w1 w7:=k6.then U7.aA ak al
  have zc:=k7.trans N8.aA;obtain⟨v',w9,hr,Kx,k9⟩:=tU (n:=65536) Cq N8.at_ aj aj aj;refine V1.i hr ?_;have z9:=k9.size;have xk:aD [] w1 w9:=zc.trans' k9 (λi hi bO=>by
   simp only[mem_toList,mem_def]at hi;have:=(Cq.lt hi).1;omega)
  simp only[length_cons]at jy;refine V1.i (gM _ _ _ _ _ aj) ?_;refine hK n _ _ _ _ _ aj ⟨line,i+k,_,rfl,rfl,by omega,Kx,Sy,by omega,by simp;omega,by omega,?_,xk⟩;rw[←List.drop_drop,yh,←LR.qK];exact hT
end Go.Proofs.YtoddjlclpnoomaaGreatDoor

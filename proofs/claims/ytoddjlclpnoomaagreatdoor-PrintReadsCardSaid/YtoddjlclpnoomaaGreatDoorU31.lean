import Derived.Test.YtoddjlclpnoomaaGreatDoorU30
set_option linter.unusedVariables false
set_option linter.unusedSimpArgs false
set_option maxRecDepth 100000
open Go.Proofs.Tryz
open List (cons_append map_cons contains_cons length_cons contains_nil take_succ_eq_append_getElem take_succ_cons length_append take_length length take_zero map_nil sum_cons sum_nil)
open Nat (lt_or_ge)
open Bool (and_eq_true or_eq_true or_eq_false_iff)
namespace Go.Proofs.YtoddjlclpnoomaaGreatDoor
set_option maxRecDepth 100000
def jZ(t:Tok):Int:=if t.kind=4/\t.text=[40]then 1 else if t.kind=4/\t.text=[41]then-1 else 0
def fE(l:LT):Int:=(l.map jZ).sum
def rf(l:LT):Prop:=fE l=0/\∀k,0<=fE (l.take k)
def E5:LT->Prop
 |[]=>False
 |[t]=>t.kind=5
 |_::u::l=>E5 (u::l)
def Bl(ts bU:LT):Prop:=E5 ts->E5 bU/\∃pre,ts=pre++bU/\rf pre
theorem rh(a b:LT):fE (a++b)=fE a+fE b:=by simp[fE]
theorem rf.nil:rf []:=⟨rfl,λk=>by simp[fE]⟩
theorem rf.app{a b:LT}(ha:rf a)(hb:rf b):rf (a++b):=⟨by rw[rh,ha.1,hb.1];rfl,λk=>by
 rw[List.take_append,rh];have:=ha.2 k;have:=hb.2 (k-a.length);omega⟩
theorem rf.one{t:Tok}(h:jZ t=0):rf [t]:=⟨by simp[fE,h],λk=>by cases k<;>simp[fE,h]⟩
theorem rf.paren{t u:Tok}{l:LT}(ht:jZ t=1)(hu:jZ u=-1)(hl:rf l):rf (t::(l++[u])):=by
 refine⟨?_,λk=>?_⟩
 .have:=hl.1;simp only[fE,map_cons,sum_cons,List.map_append,List.sum_append,map_nil,sum_nil]at this⊢;omega
 .cases k with
  |zero=>simp[fE]
  |succ k=>
   have h1:=hl.2 k;have h2:=hl.1;rw[take_succ_cons,List.take_append];have e:fE (t::(l.take k++[u].take (k-l.length)))=1+fE (l.take k)+fE ([u].take (k-l.length)):=by
    simp only[fE,map_cons,sum_cons,List.map_append,List.sum_append,ht];omega
   rw[e];rcases lt_or_ge l.length k with h|h
   .rw[List.take_of_length_le (by omega:l.length<=k),h2];obtain⟨j,hj⟩:∃j,k-l.length=j+1:=⟨k-l.length-1,by omega⟩;rw[hj];simp[fE,hu]
   .rw[show k-l.length=0 by omega];simp only[take_zero,fE,map_nil,sum_nil];simp only[fE]at h1;omega
theorem Bl.refl(ts:LT):Bl ts ts:=λh=>⟨h,[],rfl,rf.nil⟩
theorem Bl.trans{a b c:LT}(h:Bl a b)(h2:Bl b c):Bl a c:=λha=>by
 obtain⟨hb,p,rfl,hp⟩:=h ha;obtain⟨hc,q,rfl,hq⟩:=h2 hb;exact⟨hc,p++q,by simp,hp.app hq⟩
theorem Bl.ad{ts t0:LT}(h:Bl ts t0)(hp:jZ (hd t0)=0):Bl ts (bF t0):=h.trans λh0=>by
 match t0,h0 with
 |[t],h0=>exact⟨h0,[],rfl,rf.nil⟩
 |t::u::l,h0=>exact⟨h0,[t],rfl,rf.one hp⟩
theorem Bb{q:By}{ts:LT}(h:bB q ts=true)(h1:q≠[40])(h2:q≠[41]):jZ (hd ts)=0:=by
 simp[bB,fI]at h
 unfold jZ;rw[if_neg (by rw[h.2];simp[h1]),if_neg (by rw[h.2];simp[h2])]
theorem cB{t:Tok}(h:t.kind≠4):jZ t=0:=by
 unfold jZ;rw[if_neg (λe=>h e.1),if_neg (λe=>h e.1)]
theorem ri{t:Tok}{q:By}(h:t.text=q)(h1:q≠[40])(h2:q≠[41]):jZ t=0:=by
 unfold jZ;rw[if_neg (by rw[h];simp[h1]),if_neg (by rw[h];simp[h2])]
theorem rj{ts:LT}(h:((hd ts).kind==1)=true):jZ (hd ts)=0:=cB (by simp at h;omega)
theorem cS{ts:LT}(h:fI (hd ts) [lH,[45],[35],[126]]=true):jZ (hd ts)=0:=by
 simp only[fI,contains_cons,contains_nil,Bool.or_false,and_eq_true,or_eq_true,beq_iff_eq]at h;rcases h.2 with h|h|h|h<;>exact ri h (by simp[lH];done) (by simp[lH];done)
theorem yC{t:Tok}{a:Int}(h:decide (bD t.text<=a)=false)(ha:0<=a):jZ t=0:=by
 have h:a<bD t.text:=by simpa using h
 unfold jZ;rw[if_neg,if_neg]
 .rintro⟨_,e⟩;rw[e]at h;simp[bD]at h;omega
 .rintro⟨_,e⟩;rw[e]at h;simp[bD]at h;omega
theorem nf{ts:LT}(h:bB [40] ts=true):jZ (hd ts)=1:=by
 simp[bB,fI]at h
 unfold jZ;rw[if_pos h]
theorem lE{ts:LT}(h:bB [41] ts=true):jZ (hd ts)=-1:=by
 simp[bB,fI]at h
 unfold jZ;rw[if_neg (by rw[h.2];simp),if_pos h]
theorem E5.step{ts:LT}(h:E5 ts)(hk:(hd ts).kind≠5):∃u l,ts=hd ts::u::l/\bF ts=u::l/\E5 (u::l):=by
 match ts,h with
 |[t],h=>exact absurd h hk
 |t::u::l,h=>exact⟨u,l,rfl,rfl,h⟩
theorem iP{q:By}{ts:LT}(h:bB q ts=true):(hd ts).kind≠5:=by simp[bB,fI]at h;omega
theorem Bl.paren{ts t0 t1:LT}(h:Bl ts t0)(lO:bB [40] t0=true)(h1:Bl (bF t0) t1)(Fp:bB [41] t1=true):Bl ts (bF t1):=h.trans λh0=>by
 obtain⟨u,l,e,ea,h2⟩:=h0.step (iP lO);obtain⟨h3,p,ep,hp⟩:=h1 (ea▸h2);obtain⟨u2,l2,e2,OS,h4⟩:=h3.step (iP Fp);refine⟨OS▸h4,hd t0::(p++[hd t1]),?_,rf.paren (nf lO) (lE Fp) hp⟩;rw[OS];rw[e,←ea,ep];conv=>lhs;rw[e2]
 simp
 rfl
def vl(q:By):Bool:=q !=[40]&&q !=[41]
theorem aY{q:By}{ts:LT}(h:bB q ts=true)(hq:vl q=true):jZ (hd ts)=0:=by
 simp[vl]at hq
 exact Bb h hq.1 hq.2
theorem bV{t:Tok}{q:By}(h:t.text=q)(hq:vl q=true):jZ t=0:=by
 simp[vl]at hq
 exact ri h hq.1 hq.2
def ej(ts:LT)(r:bL):Prop:=∀t bU o,r=.ok t bU o->Bl ts bU
section
variable {ts t0 t1:LT}
theorem ej.ok{t:Tr}{o:Bool}(h:Bl ts t0):ej ts (.ok t t0 o):=λ_ _ _ e=>by cases e;exact h
theorem ej.fail{c:Int}:ej ts (.fail c):=λ_ _ _ e=>by cases e
theorem ej.bH:ej ts .bH:=λ_ _ _ e=>by cases e
theorem ej.of{r:bL}(h:Bl ts t0)(h1:ej t0 r):ej ts r:=λ_ _ _ e=>h.trans (h1 _ _ _ e)
theorem ej.bind{r:bL}{f:Tr->LT->Bool->bL}(h:Bl ts t0)(h1:ej t0 r)(h2:∀t bU o,Bl ts bU->ej ts (f t bU o)):ej ts (r.bind f):=by
 cases r with
 |ok t bU o=>exact h2 _ _ _ (h.trans (h1 _ _ _ rfl))
 |fail c=>exact ej.fail
 |bH=>exact ej.bH
theorem ej.M4{r:bL}{f:Tr->LT->Bool->bL}(h1:ej t0 r)(h2:∀t bU o,Bl t0 bU->ej ts (f t bU o)):ej ts (r.bind f):=by
 cases r with
 |ok t bU o=>exact h2 _ _ _ (h1 _ _ _ rfl)
 |fail c=>exact ej.fail
 |bH=>exact ej.bH
theorem ej.cI{q:By}{f:LT->bL}(h:Bl ts t0)(hq:vl q=true)(hf:Bl ts (bF t0)->ej ts (f (bF t0))):ej ts (aP q t0 f):=by
 unfold aP;split
 .exact hf (h.ad (aY au hq))
 .exact ej.fail
theorem ej.name{f:By->LT->bL}(h:Bl ts t0)(hf:∀nm,Bl ts (bF t0)->ej ts (f nm (bF t0))):ej ts (cP t0 f):=by
 unfold cP;split
 .exact hf _ (h.ad (rj au))
 .exact ej.fail
theorem ej.open{d:Int}{f:Int->bL}(hf:∀d,ej ts (f d)):ej ts (bY d f):=by
 unfold bY;split
 .exact ej.fail
 .exact hf _
theorem ej.yD{f:LT->bL}(h:Bl ts t0)(lO:bB [40] t0=true)(h1:Bl (bF t0) t1)(hf:Bl ts (bF t1)->ej ts (f (bF t1))):ej ts (aP [41] t1 f):=by
 unfold aP;split
 .exact hf (h.paren lO h1 au)
 .exact ej.fail
end
def CO:Cl->LT->Prop
 |.expr a,_=>0<=a
 |.exprL _ a,_=>0<=a
 |.bin _ k,ts=>1<=k/\jZ (hd ts)=0
 |.kE,ts=>jZ (hd ts)=0
 |.inner s,_=>vl s=true
 |_,_=>True
theorem vn{t:Tok}{a:Int}(h:decide (bD t.text<=a)=false)(ha:0<=a):1<=bD t.text:=by
 have:a<bD t.text:=by simpa using h
 omega
set_option maxHeartbeats 4000000 in
theorem im:∀(n:Nat) (cl:Cl) (d:Int) (ts:LT),CO cl ts->ej ts (run n cl d ts)
 |0,cl,d,ts,hs=>ej.bH
 |n+1,cl,d,ts,hs=>by
  have H:=im n
  cases cl<;>simp only[run]<;>simp only[CO]at hs
  case exprL l a=>
   split
   .exact ej.ok (Bl.refl _)
   .rename_i hc
    rw[or_eq_false_iff]at hc;refine ej.bind (Bl.refl _) (H _ _ _ ⟨by have:=vn hc.2 hs;omega,yC hc.2 hs⟩) λ_ _ _ hb=>?_;exact ej.of hb (H _ _ _ hs)
  case item=>
   split
   .rename_i hc
    refine ej.bind (Bl.ad (Bl.ad (Bl.refl _) (cB aj)) (aY hc.2.2 rfl)) (H _ _ _ (show(0:Int)<=_ by omega)) λ_ _ _ hb=>ej.ok hb
   split
   .refine ej.bind (Bl.refl _) (H _ _ _ trivial) λ_ _ _ _=>?_;split
    .refine ej.cI au rfl λ_=>?_;refine ej.bind au (H _ _ _ (show(0:Int)<=_ by omega)) λ_ _ _ hb=>ej.ok hb
    .exact ej.bH
   .refine ej.bind (Bl.refl _) (H _ _ _ (show(0:Int)<=_ by omega)) λ_ _ _ hb=>ej.ok hb
  case simple=>
   refine ej.bind (Bl.refl _) (H _ _ _ trivial) λe t1 own hb=>?_;split
   .rename_i hc
    rw[and_eq_true,and_eq_true]at hc;refine ej.bind (Bl.ad hb (aY hc.1.1 rfl)) (H _ _ _ (show(0:Int)<=_ by omega)) λ_ _ _ hb=>ej.ok hb
   .split
    .exact ej.ok hb
    .exact ej.fail
  all_goals repeat' (first
   |exact ej.fail
   |exact ej.bH
   |exact ej.ok (by first|assumption|exact Bl.refl _|exact Bl.paren (Bl.refl _) au (Bl.refl _) au|exact Bl.paren au au (Bl.refl _) au|exact Bl.ad au (by first|exact aY au rfl|exact aY au hs|exact bV au rfl|exact cS au|exact cB aj|assumption|exact hs|exact hs.2)|exact Bl.ad (Bl.refl _) (by first|exact aY au rfl|exact aY au hs|exact bV au rfl|exact cS au|exact cB aj|assumption|exact hs|exact hs.2)|exact Bl.ad (Bl.ad (Bl.refl _) (by first|exact aY au rfl|exact aY au hs|exact bV au rfl|exact cS au|exact cB aj|assumption|exact hs|exact hs.2)) (by first|exact aY au rfl|exact aY au hs|exact bV au rfl|exact cS au|exact cB aj|assumption|exact hs|exact hs.2))
   |exact ej.of (by first|assumption|exact Bl.refl _|exact Bl.paren (Bl.refl _) au (Bl.refl _) au|exact Bl.paren au au (Bl.refl _) au|exact Bl.ad au (by first|exact aY au rfl|exact aY au hs|exact bV au rfl|exact cS au|exact cB aj|assumption|exact hs|exact hs.2)|exact Bl.ad (Bl.refl _) (by first|exact aY au rfl|exact aY au hs|exact bV au rfl|exact cS au|exact cB aj|assumption|exact hs|exact hs.2)|exact Bl.ad (Bl.ad (Bl.refl _) (by first|exact aY au rfl|exact aY au hs|exact bV au rfl|exact cS au|exact cB aj|assumption|exact hs|exact hs.2)) (by first|exact aY au rfl|exact aY au hs|exact bV au rfl|exact cS au|exact cB aj|assumption|exact hs|exact hs.2)) (H _ _ _ (by first|trivial|exact hs|exact rfl|(show(0:Int)<=_;omega)|exact(by first|exact aY au rfl|exact aY au hs|exact bV au rfl|exact cS au|exact cB aj|assumption|exact hs|exact hs.2)))
   |refine ej.open λ_=>?_
   |refine ej.name (by first|assumption|exact Bl.refl _|exact Bl.paren (Bl.refl _) au (Bl.refl _) au|exact Bl.paren au au (Bl.refl _) au|exact Bl.ad au (by first|exact aY au rfl|exact aY au hs|exact bV au rfl|exact cS au|exact cB aj|assumption|exact hs|exact hs.2)|exact Bl.ad (Bl.refl _) (by first|exact aY au rfl|exact aY au hs|exact bV au rfl|exact cS au|exact cB aj|assumption|exact hs|exact hs.2)|exact Bl.ad (Bl.ad (Bl.refl _) (by first|exact aY au rfl|exact aY au hs|exact bV au rfl|exact cS au|exact cB aj|assumption|exact hs|exact hs.2)) (by first|exact aY au rfl|exact aY au hs|exact bV au rfl|exact cS au|exact cB aj|assumption|exact hs|exact hs.2)) λ_ _=>?_
   |refine ej.bind (by first|assumption|exact Bl.refl _|exact Bl.paren (Bl.refl _) au (Bl.refl _) au|exact Bl.paren au au (Bl.refl _) au|exact Bl.ad au (by first|exact aY au rfl|exact aY au hs|exact bV au rfl|exact cS au|exact cB aj|assumption|exact hs|exact hs.2)|exact Bl.ad (Bl.refl _) (by first|exact aY au rfl|exact aY au hs|exact bV au rfl|exact cS au|exact cB aj|assumption|exact hs|exact hs.2)|exact Bl.ad (Bl.ad (Bl.refl _) (by first|exact aY au rfl|exact aY au hs|exact bV au rfl|exact cS au|exact cB aj|assumption|exact hs|exact hs.2)) (by first|exact aY au rfl|exact aY au hs|exact bV au rfl|exact cS au|exact cB aj|assumption|exact hs|exact hs.2)) (H _ _ _ (by first|trivial|exact hs|exact rfl|(show(0:Int)<=_;omega)|exact(by first|exact aY au rfl|exact aY au hs|exact bV au rfl|exact cS au|exact cB aj|assumption|exact hs|exact hs.2))) λ_ _ _ _=>?_
   |refine ej.cI (by first|assumption|exact Bl.refl _|exact Bl.paren (Bl.refl _) au (Bl.refl _) au|exact Bl.paren au au (Bl.refl _) au|exact Bl.ad au (by first|exact aY au rfl|exact aY au hs|exact bV au rfl|exact cS au|exact cB aj|assumption|exact hs|exact hs.2)|exact Bl.ad (Bl.refl _) (by first|exact aY au rfl|exact aY au hs|exact bV au rfl|exact cS au|exact cB aj|assumption|exact hs|exact hs.2)|exact Bl.ad (Bl.ad (Bl.refl _) (by first|exact aY au rfl|exact aY au hs|exact bV au rfl|exact cS au|exact cB aj|assumption|exact hs|exact hs.2)) (by first|exact aY au rfl|exact aY au hs|exact bV au rfl|exact cS au|exact cB aj|assumption|exact hs|exact hs.2)) rfl λ_=>?_
   |refine ej.M4 (H _ _ _ (by first|trivial|exact hs|exact rfl|(show(0:Int)<=_;omega)|exact(by first|exact aY au rfl|exact aY au hs|exact bV au rfl|exact cS au|exact cB aj|assumption|exact hs|exact hs.2))) λ_ _ _ _=>?_
   |refine ej.yD (Bl.refl _) au au λ_=>?_
   |refine ej.yD au au au λ_=>?_
   |split)
end Go.Proofs.YtoddjlclpnoomaaGreatDoor

namespace Go.Proofs.YtoddjlclpnoomaaGreatDoor
open Go.Sh
def iF:LT->Int->Bool
 |[],_=>false
 |t::l,d=>if jZ t=-1/\d-1=0 then l.isEmpty else iF l (d+jZ t)
theorem rn:∀(p l:LT) (d:Int),(∀k,1<=d+fE (p.take k))->iF (p++l) d=iF l (d+fE p)
 |[],l,d,h=>by simp[fE]
 |t::p,l,d,h=>by
  have h1:=h 1;simp only[take_succ_cons,take_zero,fE,map_cons,map_nil,sum_cons,sum_nil]at h1;simp only[cons_append,iF];rw[if_neg (by rintro⟨h2,h3⟩;omega)];rw[rn p l (d+jZ t) (λk=>by
   have:=h (k+1);simp only[take_succ_cons,fE,map_cons,sum_cons]at this⊢;omega)]
  simp only[fE,map_cons,sum_cons];congr 1
  omega
theorem kQ:∀(n:Nat) (e:Tr) (ob:Bool) (d:Int) (ts:LT) (t:Tr) (bU:LT) (o:Bool),E5 ts->run n (.dy e ob) d ts=.ok t bU o->
  (bU=ts/\o=ob)\/(bU.length<ts.length/\o=false)
 |0,e,ob,d,ts,t,bU,o,h,hr=>by cases hr
 |n+1,e,ob,d,ts,t,bU,o,h,hr=>by
  have IH:∀e bX,Bl (bF ts) bX->(hd ts).kind≠5->run n (.dy e false) d bX=.ok t bU o->bU.length<ts.length/\o=false:=by
   intro e bX hb hk hr;obtain⟨u,l,e1,e2,h2⟩:=h.step hk;obtain⟨h3,p,e3,_⟩:=hb (e2▸h2);have hl:bX.length<ts.length:=by
    have:(bF ts).length+1=ts.length:=by have h1:=congrArg length e1;rw[e2];simp only[length_cons]at h1⊢;omega
    rw[e3,length_append]at this;omega
   rcases kQ n e false d bX t bU o h3 hr with⟨rfl,rfl⟩|⟨h4,rfl⟩
   .exact⟨hl,rfl⟩
   .exact⟨by omega,rfl⟩
  simp only[run]at hr
  cases h1:bB [91] ts with
  |true=>
   simp only[h1]at hr
   cases n with
   |zero=>cases hr
   |succ m=>
   simp only[show run (m+1) (.bracket e) d ts=bY d λd'=>aP [91] ts λts=>(run m (.expr 0) d' ts).bind λr ts _=>aP [93] ts λts=>.ok (.ex 7 0 [] e r .nil .nil [] .nil) ts false from rfl,ik,jx,ed,eL]at hr;unfold bY at hr;split at hr
   .cases hr
   dsimp only at hr;rw[cR h1]at hr
   cases hx:run m (.expr 0) (d+1) (bF ts)with
   |fail c=>rw[hx]at hr;cases hr
   |bH=>rw[hx]at hr;cases hr
   |ok a bX o1=>
    rw[hx,eL]at hr;have hb:=im m (.expr 0) (d+1) (bF ts) (show(0:Int)<=0 by omega) _ _ _ hx;unfold aP at hr;split at hr
    .exact .inr (IH _ _ (hb.ad (aY au rfl)) (iP h1) hr)
    .cases hr
  |false=>
  simp only[h1]at hr
  cases h2:bB [46] ts with
  |true=>
   simp only[h2]at hr;unfold cP at hr;split at hr
   .exact .inr (IH _ _ (Bl.ad (Bl.refl _) (rj au)) (iP h2) hr)
   .cases hr
  |false=>
  simp only[h2]at hr
  cases h3:bB [40] ts with
  |false=>
   simp only[h3]at hr;injection hr with e1 e2 e3;exact .inl ⟨e2.symm,e3.symm⟩
  |true=>
  simp only[h3]at hr;unfold bY at hr;split at hr
  .cases hr
  dsimp only at hr;have uc:∀bX,Bl (bF ts) bX->bB [41] bX=true->(∃e,run n (.dy e false) d (bF bX)=.ok t bU o)->bU.length<ts.length/\o=false:=by
   rintro bX hb Fp ⟨e,hr⟩;obtain⟨u,l,e1,e2,h5⟩:=h.step (iP h3);obtain⟨h6,p,e3,_⟩:=hb (e2▸h5);obtain⟨u2,l2,e4,e5,h7⟩:=h6.step (iP Fp);have l1:(bF ts).length+1=ts.length:=by have h1:=congrArg length e1;rw[e2];simp only[length_cons]at h1⊢;omega
   have l2':(bF bX).length+1=bX.length:=by have h1:=congrArg length e4;rw[e5];simp only[length_cons]at h1⊢;omega
   have l3:=congrArg length e3;rw[length_append]at l3;rcases kQ n e false d (bF bX) t bU o (e5▸h7) hr with⟨rfl,rfl⟩|⟨h8,rfl⟩
   .exact⟨by omega,rfl⟩
   .exact⟨by omega,rfl⟩
  cases h4:bB [41] (bF ts)with
  |true=>
   simp only[h4]at hr;exact .inr (uc _ (Bl.refl _) h4 ⟨_,hr⟩)
  |false=>
   simp only[h4]at hr
   cases hx:run n (.args .nil) (d+1) (bF ts)with
   |fail c=>rw[hx]at hr;cases hr
   |bH=>rw[hx]at hr;cases hr
   |ok a bX o1=>
    rw[hx,eL]at hr;have hb:=im n (.args .nil) (d+1) (bF ts) trivial _ _ _ hx;unfold aP at hr;split at hr
    .exact .inr (uc _ hb au ⟨_,hr⟩)
    .cases hr
theorem yE{n:Nat}{d:Int}{ts bU:LT}{t:Tr}{o:Bool}(h:E5 ts)(hr:run n .post d ts=.ok t bU o):
  ∃pre,ts=pre++bU/\o=(bB [40] ts&&iF pre 0):=by
 have hB:=im n .post d ts trivial _ _ _ hr;obtain⟨h',pre,hp,-⟩:=hB h;refine⟨pre,hp,?_⟩
 cases n with
 |zero=>cases hr
 |succ n=>
 simp only[run]at hr
 cases hx:run n .dq d ts with
 |fail c=>rw[hx]at hr;cases hr
 |bH=>rw[hx]at hr;cases hr
 |ok e bX o1=>
 rw[hx,eL]at hr;have F1:=im n .dq d ts trivial _ _ _ hx;obtain⟨h1,p1,vz,-⟩:=F1 h;have uP:=im n (.dy e (bB [40] ts)) d bX trivial _ _ _ hr;obtain⟨h2,p2,uM,-⟩:=uP h1;have hH:=kQ n e _ d bX t bU o h1 hr
 cases lO:bB [40] ts with
 |false=>
  rw[lO]at hH;rcases hH with⟨_,rfl⟩|⟨_,rfl⟩<;>rfl
 |true=>
 rw[lO]at hH;have hk4:(hd ts).kind=4:=by simp[bB,fI]at lO;exact lO.1
 have htx:(hd ts).text=[40]:=by simp[bB,fI]at lO;exact lO.2
 obtain⟨pe,u,M5,hu,Bc⟩:∃pe u,p1=hd ts::(pe++[u])/\jZ u=-1/\rf pe:=by
  cases n with
  |zero=>cases hx
  |succ n=>
  simp only[run]at hx;rw[if_neg aj,if_neg aj,if_neg aj]at hx
  cases n with
  |zero=>cases hx
  |succ n=>
  rw[oq]at hx;have gP:∀q,q≠[40]->bB q ts=false:=λq hq=>pt lO (Ne.symm hq);rw[gP kF (by simp[kF]),if_neg ak,gP gG (by simp[gG]),if_neg ak,gP eZ (by simp[eZ]),if_neg ak,lO,if_pos rfl]at hx;unfold bY at hx;split at hx
  .cases hx
  dsimp only at hx
  cases hy:run n (.expr 0) (d+1) (bF ts)with
  |fail c=>rw[hy]at hx;cases hx
  |bH=>rw[hy]at hx;cases hx
  |ok a dA o2=>
  rw[hy,eL]at hx;have Eh:=im n (.expr 0) (d+1) (bF ts) (show(0:Int)<=0 by omega) _ _ _ hy;unfold aP at hx;split at hx
  .rename_i Fp
   injection hx with e1 e2 e3;obtain⟨v,l,ee,ea,h5⟩:=h.step (iP lO);obtain⟨h6,p3,Si,Bc⟩:=Eh (ea▸h5);obtain⟨v2,l2,ee2,OS,h7⟩:=h6.step (iP Fp);refine⟨p3,hd dA,?_,lE Fp,Bc⟩;have:ts=(hd ts::(p3++[hd dA]))++bX:=by
    rw[←e2,OS];conv=>lhs;rw[ee,←ea,Si]
    conv=>lhs;rw[ee2]
    simp
   exact List.append_cancel_right (vz.symm.trans this)
  .cases hx
 have sS:pre=hd ts::(pe++[u])++p2:=by
  have:pre++bU=(hd ts::(pe++[u])++p2)++bU:=by
   rw[←hp];conv=>lhs;rw[vz,M5,uM]
   simp
  exact List.append_cancel_right this
 have ou:iF pre 0=p2.isEmpty:=by
  rw[sS];simp only[cons_append,List.append_assoc,iF,nf lO];rw[if_neg ak];rw[rn pe _ _ (λk=>by have:=Bc.2 k;omega),Bc.1];simp only[List.singleton_append,cons_append,List.nil_append,iF,hu];simp
 rw[ou,Bool.true_and];rcases hH with⟨e1,rfl⟩|⟨e1,rfl⟩
 .have:p2=[]:=by
   have:=congrArg length uM;rw[e1,length_append]at this;exact List.eq_nil_of_length_eq_zero aj
  rw[this];rfl
 .have:p2≠[]:=by
   rintro rfl;rw[List.nil_append]at uM;rw[uM]at e1;omega
  cases p2 with
  |nil=>exact absurd rfl this
  |cons a l=>rfl
theorem yF{C:WP}{b:Bool}{X:(Va->Prop)->Prop}{g:Va->Prop}(hg:g (.bool b)):
  Q1 (λk3=>Gd (.bool b) false (k3 (.bool false)) (k3 undef)) (λXJ=>Q1 (λk4=>Gd XJ true (X k4) (k4 undef)) (λEJ=>Q1 (λk5=>Gd (.bool b) false (Xv prog C (Pk XJ EJ (.bool false)) λGa=>k5 Ga) (k5 undef)) (λGa=>Xv prog C (Pk (.bool b) (.bool true) Ga) λa44=>g a44))):=by
 cases b with
 |true=>
  refine Q1.go (Gd.tf ?_);refine Q1.go (Gd.u ?_);refine Q1.go (Gd.tf ?_);exact Xv.i (.bool true) (λw' _=>by simp[go_sem]) hg
 |false=>
  refine Q1.go (Gd.ff ?_);refine Q1.go (Gd.ft ?_);refine Q1.go (Gd.ff ?_);refine Xv.i (.bool false) (λw' _=>by simp[go_sem]) ?_;exact Xv.i (.bool false) (λw' _=>by simp[go_sem]) hg
theorem yG(w:Wd)(cx cy:Bool)(a b:Int):(Bo .neq 3 cx cy (.int .i64 a) (.int .i64 b)).run prog w=.ok (.bool (!(a==b))) w:=by simp[go_sem,Bo];rfl
theorem UM(w:Wd)(cx cy:Bool)(a b:Int):(Bo .neq 2 cx cy (.int .i64 a) (.int .i64 b)).run prog w=.ok (.bool (!(a==b))) w:=by simp[go_sem,Bo];rfl
theorem If.t'{v:Bool}{x y:Prop}(h:v=true)(hx:x):If (.bool v) x y:=by subst h;exact If.t hx
theorem If.f'{v:Bool}{x y:Prop}(h:v=false)(hy:y):If (.bool v) x y:=by subst h;exact If.f hy
structure Fq(n:Nat):Prop where
 expr:∀{F:Nat->Prop}{w:Wd}{s t:Tr}{u v:Va},tz s<=n->wf s 0=true->wf t 0=true->aU F w s (.P u)->aU F w t (.P v)->Calls prog 50 #[u,v,.bool false] w (aZ (λx w'=>x=.bool (cZ s t)/\aD [] w w') NP)
 Bd:∀{F:Nat->Prop}{w:Wd}{s t:Tr}{u v:Va},tz s<=n->wf s 3=true->wf t 3=true->aU F w s (.L u)->aU F w t (.L v)->Calls prog 26 #[u,v,.bool false] w (aZ (λx w'=>x=.bool (cZ s t)/\aD [] w w') NP)
set_option maxHeartbeats 4000000 in
theorem c50{n:Nat}(hn:n<=aX)(H:Fq n){F:Nat->Prop}{w:Wd}{s t:Tr}{u v:Va}(hz:tz s<=n+1)(hs:wf s 0=true)(ht:wf t 0=true)(rs:aU F w s (.P u))(rt:aU F w t (.P v)):
  Calls prog 50 #[u,v,.bool false] w (aZ (λx w'=>x=.bool (cZ s t)/\aD [] w w') NP):=by
 refine s50 ?_;unfold XA;rcases bM hs with rfl|⟨k,nn,x,l,r,ks,gs,ps,b,rfl⟩
 .obtain rfl:u=.pointer none:=rs;rcases bM ht with rfl|⟨k2,zg,x2,l2,r2,nh,ni,gQ,b2,rfl⟩
  .obtain rfl:v=.pointer none:=rt;repeat(first|refine J1.go ?_|refine J0.go ?_|refine Gd.tt ?_|refine Gd.ff ?_|refine Gd.tf ?_|refine Gd.ft ?_|refine Gd.u ?_|refine If.t ?_|refine If.f ?_|refine Up.i (Nc.p _ _) ?_|refine V1.load (aC rfl) au rfl ?_|refine V1.i (w':=w) aw ?_)
   exact⟨by rw[eu],aD.refl _ _⟩
  .obtain⟨q2,gK,sL,sM,AD,sN,zd,sO,rfl,_,a2,rO,rP,AG,AH,Cx,rQ⟩:=rt;rw[fx az];unfold ptr;repeat(first|refine J1.go ?_|refine J0.go ?_|refine Gd.tt ?_|refine Gd.ff ?_|refine Gd.tf ?_|refine Gd.ft ?_|refine Gd.u ?_|refine If.t ?_|refine If.f ?_|refine Up.i (Nc.p _ _) ?_|refine V1.load (aC rfl) au rfl ?_|refine V1.i (w':=w) aw ?_)
   exact⟨rfl,aD.refl _ _⟩
 obtain⟨q,line,lv,rv,kv,av,pv,bv,rfl,_,a1,rl,rr,rk,rg,rp,rb⟩:=rs;rcases bM ht with rfl|⟨k2,zg,x2,l2,r2,nh,ni,gQ,b2,rfl⟩
 .obtain rfl:v=.pointer none:=rt;rw[fx az];unfold ptr;repeat(first|refine J1.go ?_|refine J0.go ?_|refine Gd.tt ?_|refine Gd.ff ?_|refine Gd.tf ?_|refine Gd.ft ?_|refine Gd.u ?_|refine If.t ?_|refine If.f ?_|refine Up.i (Nc.p _ _) ?_|refine V1.load (aC rfl) au rfl ?_|refine V1.i (w':=w) aw ?_)
  exact⟨rfl,aD.refl _ _⟩
 obtain⟨q2,gK,sL,sM,AD,sN,zd,sO,rfl,_,a2,rO,rP,AG,AH,Cx,rQ⟩:=rt;simp only[wf,and_eq_true]at hs ht;obtain⟨⟨⟨⟨⟨_,hl⟩,hr⟩,hk⟩,hg⟩,hb⟩:=hs;obtain⟨⟨⟨⟨⟨_,fY⟩,gh⟩,jy⟩,Ae⟩,uP⟩:=ht;have Fs:=cG 1 ak hk;have Ft:=cG 1 ak hg;have UN:=cG 1 ak jy;have UO:=cG 1 ak Ae;obtain⟨ka,kc,rfl⟩:=rk.oc Fs;obtain⟨ga,gc,rfl⟩:=rg.oc Ft;obtain⟨UP,kc2,rfl⟩:=AG.oc UN;obtain⟨ga2,gc2,rfl⟩:=AH.oc UO;obtain⟨pa,pc,rfl⟩:=rp.sl;obtain⟨pa2,pc2,rfl⟩:=Cx.sl;simp only[tz]at hz;unfold ptr;refine V1.bf am ?_;refine J1.go (Gd.ff ?_);refine V1.bf am ?_;refine V1.bf am ?_;refine If.f ?_
 refine⟨λw'=>aD [] w w',(aD.refl _ _).drew,?_⟩;refine qF.i (λ_ hw=>aD.at hw a1 ak) ?_;refine qF.i (λ_ hw=>aD.at hw a2 ak) ?_;refine Xv.i (.bool (!(k==k2))) (λw' _=>yG w' _ _ _ _) ?_;refine yF ?_;refine Q1.gd (!(nn==zg)) (λ_ kx dO=>?_) ?_
 .refine qF.i (λ_ hw=>aD.at hw a1 ak) ?_;refine qF.i (λ_ hw=>aD.at hw a2 ak) ?_;refine Xv.i (.bool (!(nn==zg))) (λw' _=>UM w' _ _ _ _) ?_;exact dO
 refine Xv.i _ (λw' _=>fm w' _ _) ?_;refine Q1.gd (!(x==x2)) (λ_ kx dO=>?_) ?_
 .refine qF.i (λ_ hw=>aD.at hw a1 ak) ?_;refine qF.i (λ_ hw=>aD.at hw a2 ak) ?_;refine Xv.i (.bool (!(x==x2))) (λw' _=>H0 w' _ _ _ _) ?_;exact dO
 refine Xv.i _ (λw' _=>fm w' _ _) ?_;refine Q1.gd (!decide ((len ks)=(len nh))) (λ_ kx dO=>?_) ?_
 .refine qF.i (λ_ hw=>aD.at hw a1 ak) ?_;refine Xv.i (.int .i64 ((len ks):Nat)) (λw' _=>by simp[go_sem]) ?_;refine qF.i (λ_ hw=>aD.at hw a2 ak) ?_;refine Xv.i (.int .i64 ((len nh):Nat)) (λw' _=>by simp[go_sem]) ?_;refine Xv.i _ (λw' _=>Cw w' _ _ _ _) ?_;exact dO
 refine Xv.i _ (λw' _=>fm w' _ _) ?_;refine Q1.gd (!decide ((len gs)=(len ni))) (λ_ kx dO=>?_) ?_
 .refine qF.i (λ_ hw=>aD.at hw a1 ak) ?_;refine Xv.i (.int .i64 ((len gs):Nat)) (λw' _=>by simp[go_sem]) ?_;refine qF.i (λ_ hw=>aD.at hw a2 ak) ?_;refine Xv.i (.int .i64 ((len ni):Nat)) (λw' _=>by simp[go_sem]) ?_;refine Xv.i _ (λw' _=>Cw w' _ _ _ _) ?_;exact dO
 refine Xv.i _ (λw' _=>fm w' _ _) ?_;refine Q1.gd (!decide (ps.length=gQ.length)) (λ_ kx dO=>?_) ?_
 .refine qF.i (λ_ hw=>aD.at hw a1 ak) ?_;refine Xv.i (.int .i64 (ps.length:Nat)) (λw' _=>by simp[go_sem]) ?_;refine qF.i (λ_ hw=>aD.at hw a2 ak) ?_;refine Xv.i (.int .i64 (gQ.length:Nat)) (λw' _=>by simp[go_sem]) ?_;refine Xv.i _ (λw' _=>Cw w' _ _ _ _) ?_;exact dO
 refine Xv.i _ (λw' _=>fm w' _ _) ?_;intro w1 K1;by_cases fM:k=k2/\nn=zg/\x=x2/\len ks=len nh/\len gs=len ni/\ps.length=gQ.length
 rotate_left
 .refine If.t' ?_ ⟨?_,K1⟩
  .clear H rk AG rg AH rp Cx rl rO rr rP rb rQ a1 a2 K1 hk jy hg Ae hl fY hr gh hb uP Fs Ft UN UO hz hn;by_cases h1:k=k2<;>by_cases h2:nn=zg<;>by_cases h3:x=x2<;>by_cases h4:len ks=len nh<;>by_cases h5:len gs=len ni<;>by_cases h6:ps.length=gQ.length<;>simp_all
  .rw[fx];intro e;injection e with e1 e2 e3 e4 e5 e6 e7 e8 e9;subst e1 e2 e3 e6 e7 e8;exact fM ⟨rfl,rfl,rfl,rfl,rfl,rfl⟩
 obtain⟨rfl,rfl,rfl,tR,OO,XK⟩:=fM;refine If.f' (by simp[tR,OO,XK]) ?_;rw[xM];simp only[BEq.rfl,Bool.true_and];replace a1:=K1.at a1 ak;replace a2:=K1.at a2 ak;have su:=Strs.aA K1 (λb h1 _=>⟨by simp,h1⟩) rp;have sv:=Strs.aA K1 (λb h1 _=>⟨by simp,h1⟩) Cx;replace rl:=aU.new K1 _ _ rl;replace rO:=aU.new K1 _ _ rO;replace rr:=aU.new K1 _ _ rr;replace rP:=aU.new K1 _ _ rP;replace rk:=aU.new K1 _ _ rk;replace AG:=aU.new K1 _ _ AG;replace rg:=aU.new K1 _ _ rg;replace AH:=aU.new K1 _ _ AH;replace rb:=aU.new K1 _ _ rb;replace rQ:=aU.new K1 _ _ rQ;clear rp Cx;unfold aX at hn
 refine L2.i (λx0 x1 w'=>∃i:Nat,x1=.int .i64 (i:Nat)/\i<=ps.length/\ps.take i=gQ.take i/\aD [] w1 w') (λ_ v _=>match v with|.int _ n=>(ps.length-n.toNat)|_=>0) ⟨0,rfl,by omega,by simp,aD.refl _ _⟩ ?_;rintro x0 x1 w2 ⟨i,rfl,hi,M5,K2⟩;have ud:=K2.at a1 ak;have yH:=K2.at a2 ak;refine lF.i ud ?_;refine V1.i ah ?_;by_cases bO:i<ps.length
 .refine V1.bt ax ?_;refine If.t ?_;have ns:i<gQ.length:=by omega
  obtain⟨qa,rfl,_⟩:=su.get bO;obtain⟨qb,rfl,_⟩:=sv.get ns;have Tc:=Strs.aA K2 (λb h1 _=>⟨by simp,h1⟩) su;have Td:=Strs.aA K2 (λb h1 _=>⟨by simp,h1⟩) sv;refine⟨λw'=>aD [] w2 w',(aD.refl _ _).drew,?_⟩;refine qF.i (λ_ hw=>aD.at hw ud ak) ?_;refine Xv.i _ (λw' _=>lG w' bO) ?_;refine Xv.i (str ps[i]) (λw' hw=>(aC rfl) _ _ _ (Strs.cell (Strs.aA hw (λb h1 _=>⟨by simp,h1⟩) Tc) bO)) ?_;refine qF.i (λ_ hw=>aD.at hw yH ak) ?_;refine Xv.i _ (λw' _=>lG w' ns) ?_;refine Xv.i (str gQ[i]) (λw' hw=>(aC rfl) _ _ _ (Strs.cell (Strs.aA hw (λb h1 _=>⟨by simp,h1⟩) Td) ns)) ?_;refine Xv.i _ (λw' _=>H0 w' _ _ _ _) ?_;intro w3 K3;by_cases hx:ps[i]=gQ[i]
  .rw[show(!(ps[i]==gQ[i]))=false by simp[hx]];refine If.f ?_;refine V1.i (cC _ _ _ _ _ _ aj aj) ?_;refine⟨⟨i+1,by simp,by omega,?_,K2.trans K3⟩,by simp;omega⟩;rw[take_succ_eq_append_getElem bO,take_succ_eq_append_getElem ns,M5,hx]
  .rw[show(!(ps[i]==gQ[i]))=true by simp[hx]];refine If.t ⟨?_,(K1.trans K2).trans K3⟩;rw[show(ps==gQ)=false by simp;rintro rfl;exact hx rfl];simp
 obtain rfl:i=ps.length:=by omega
 refine V1.bf am ?_;refine If.f ?_;rw[take_length,XK,take_length]at M5;subst M5;simp only[BEq.rfl,Bool.and_true];clear bO hi;refine L2.i (λx0 x1 w'=>∃i j s' t',x1=.int .i64 (i:Nat)/\i+j=len ks/\i+tz s'<=n/\wf s' 1=true/\wf t' 1=true/\cE F w' s' ka i j/\cE F w' t' UP i j/\aD [] w1 w'/\cZ ks nh=cZ s' t') (λ_ v _=>match v with|.int _ n=>(len ks-n.toNat)|_=>0) ⟨0,len ks,ks,nh,rfl,by omega,by omega,hk,jy,(aU.new K2 _ _ rk).rowAt Fs,by rw[tR];exact(aU.new K2 _ _ AG).rowAt UN,K2,rfl⟩ ?_;rintro x0 x1 w4 ⟨i,j,s',t',rfl,rH,xO,Fu,vF,os,ot,K4,he⟩;have ud:=K4.at a1 ak;have yH:=K4.at a2 ak;refine lF.i ud ?_;refine V1.i ah ?_;rcases cX Fu with rfl|⟨x',l',rfl,hx,AF⟩
 rotate_left
 .rcases os with⟨h,_⟩|⟨q0,rfl,j',u,rfl,hc,hf,rx,CP⟩
  .cases h
  have ol:cE F w4 l' (some ⟨q0,0,none⟩) (i+1) j':=.inr ⟨q0,rfl,CP⟩;rcases cX vF with rfl|⟨y,m,rfl,hy,hm⟩
  .rcases ot with⟨_,h⟩|⟨q0,_,h⟩
   .omega
   .exact absurd (show j'+1=0 from h) aj
  rcases ot with⟨h,_⟩|⟨q3,rfl,j2,u2,e2,lM,F6,ry,rm⟩
  .cases h
  obtain rfl:j'=j2:=by omega
  have om:cE F w4 m (some ⟨q3,0,none⟩) (i+1) j':=.inr ⟨q3,rfl,rm⟩;clear CP rm;have zf:=xO;simp only[tz]at zf;have vz:=bE x';have uM:=bE l';refine V1.bt ax ?_;refine If.t ?_;refine⟨λw'=>aD [] w4 w',(aD.refl _ _).drew,?_⟩;refine qF.i (λ_ hw=>aD.at hw ud ak) ?_;refine Xv.i _ (λw' _=>lR aj) ?_;refine Xv.i u (λw' hw=>(aC rfl) _ _ _ (hw.cell hc ak)) ?_;refine qF.i (λ_ hw=>aD.at hw yH ak) ?_;refine Xv.i _ (λw' _=>lR aj) ?_;refine Xv.i u2 (λw' hw=>(aC rfl) _ _ _ (hw.cell lM ak)) ?_
  refine Xq.call (fn:=f50) (.bool (cZ x' y)) (aH func50 (c:=bC f50) ai ai _) (λw' hw=>(H.expr aj hx hy (aU.new hw _ _ rx) (aU.new hw _ _ ry)).mono ?_) ?_
  .exact cN hw
  refine Xv.i (.bool (!(cZ x' y))) (λw' _=>by simp[go_sem]) ?_;intro w4x OT;rw[gL]at he
  cases sQ:cZ x' y with
  |false=>
   rw[sQ,Bool.false_and]at he;refine If.t ⟨?_,(K1.trans K4).trans OT⟩;rw[he];simp
  |true=>
   rw[sQ,Bool.true_and]at he;refine If.f ?_;refine V1.i (cC _ _ _ _ _ _ aj aj) ?_;exact⟨⟨i+1,j',l',m,by simp,by omega,by omega,AF,hm,ol.aA OT,om.aA OT,K4.trans OT,he⟩,by simp;omega⟩
 have hj:j=0:=by
  rcases os with⟨_,h⟩|⟨q0,_,h⟩
  .exact h
  .exact h
 subst hj;have het:cZ ks nh=true:=by
  rw[he];rcases cX vF with rfl|⟨y,m,rfl,hy,hm⟩
  .rw[eu]
  .rcases ot with⟨h,_⟩|⟨q0,_,j',u,h,_⟩
   .cases h
   .omega
 refine V1.bf ax ?_;refine If.f ?_;rw[het];simp only[Bool.true_and,Bool.and_true];clear os ot he rH xO Fu vF ud yH;refine L2.i (λx0 x1 w'=>∃i j s' t',x1=.int .i64 (i:Nat)/\i+j=len gs/\i+tz s'<=n/\wf s' 1=true/\wf t' 1=true/\cE F w' s' ga i j/\cE F w' t' ga2 i j/\aD [] w1 w'/\cZ gs ni=cZ s' t') (λ_ v _=>match v with|.int _ n=>(len gs-n.toNat)|_=>0) ⟨0,len gs,gs,ni,rfl,by omega,by omega,hg,Ae,(aU.new K4 _ _ rg).rowAt Ft,by rw[OO];exact(aU.new K4 _ _ AH).rowAt UO,K4,rfl⟩ ?_;rintro x0 x1 w6 ⟨i,j,s',t',rfl,rH,xO,Fu,vF,os,ot,K6,he⟩;have ud:=K6.at a1 ak;have yH:=K6.at a2 ak;refine lF.i ud ?_;refine V1.i ah ?_;rcases cX Fu with rfl|⟨x',l',rfl,hx,AF⟩
 rotate_left
 .rcases os with⟨h,_⟩|⟨q0,rfl,j',u,rfl,hc,hf,rx,CP⟩
  .cases h
  have ol:cE F w6 l' (some ⟨q0,0,none⟩) (i+1) j':=.inr ⟨q0,rfl,CP⟩;rcases cX vF with rfl|⟨y,m,rfl,hy,hm⟩
  .rcases ot with⟨_,h⟩|⟨q0,_,h⟩
   .omega
   .exact absurd (show j'+1=0 from h) aj
  rcases ot with⟨h,_⟩|⟨q3,rfl,j2,u2,e2,lM,F6,ry,rm⟩
  .cases h
  obtain rfl:j'=j2:=by omega
  have om:cE F w6 m (some ⟨q3,0,none⟩) (i+1) j':=.inr ⟨q3,rfl,rm⟩;clear CP rm;have zf:=xO;simp only[tz]at zf;have vz:=bE x';have uM:=bE l';refine V1.bt ax ?_;refine If.t ?_;refine⟨λw'=>aD [] w6 w',(aD.refl _ _).drew,?_⟩;refine qF.i (λ_ hw=>aD.at hw ud ak) ?_;refine Xv.i _ (λw' _=>lR aj) ?_;refine Xv.i u (λw' hw=>(aC rfl) _ _ _ (hw.cell hc ak)) ?_;refine qF.i (λ_ hw=>aD.at hw yH ak) ?_;refine Xv.i _ (λw' _=>lR aj) ?_;refine Xv.i u2 (λw' hw=>(aC rfl) _ _ _ (hw.cell lM ak)) ?_
  refine Xq.call (fn:=f50) (.bool (cZ x' y)) (aH func50 (c:=bC f50) ai ai _) (λw' hw=>(H.expr aj hx hy (aU.new hw _ _ rx) (aU.new hw _ _ ry)).mono ?_) ?_
  .exact cN hw
  refine Xv.i (.bool (!(cZ x' y))) (λw' _=>by simp[go_sem]) ?_;intro w6x OU;rw[gL]at he
  cases sQ:cZ x' y with
  |false=>
   rw[sQ,Bool.false_and]at he;refine If.t ⟨?_,(K1.trans K6).trans OU⟩;rw[he];simp
  |true=>
   rw[sQ,Bool.true_and]at he;refine If.f ?_;refine V1.i (cC _ _ _ _ _ _ aj aj) ?_;exact⟨⟨i+1,j',l',m,by simp,by omega,by omega,AF,hm,ol.aA OU,om.aA OU,K6.trans OU,he⟩,by simp;omega⟩
 have hj:j=0:=by
  rcases os with⟨_,h⟩|⟨q0,_,h⟩
  .exact h
  .exact h
 subst hj;have het:cZ gs ni=true:=by
  rw[he];rcases cX vF with rfl|⟨y,m,rfl,hy,hm⟩
  .rw[eu]
  .rcases ot with⟨h,_⟩|⟨q0,_,j',u,h,_⟩
   .cases h
   .omega
 refine V1.bf ax ?_;refine If.f ?_;rw[het];simp only[Bool.true_and,Bool.and_true];clear os ot he rH xO Fu vF ud yH;have ud:=K6.at a1 ak;have yH:=K6.at a2 ak;replace rl:=aU.new K6 _ _ rl;replace rO:=aU.new K6 _ _ rO;replace rr:=aU.new K6 _ _ rr;replace rP:=aU.new K6 _ _ rP;replace rb:=aU.new K6 _ _ rb;replace rQ:=aU.new K6 _ _ rQ;refine⟨λw'=>aD [] w6 w',(aD.refl _ _).drew,?_⟩;refine qF.i (λ_ hw=>aD.at hw ud ak) ?_;refine qF.i (λ_ hw=>aD.at hw yH ak) ?_;refine Xq.call (fn:=f50) (.bool (cZ l l2)) (aH func50 (c:=bC f50) ai ai _) (λw' hw=>(H.expr aj hl fY (aU.new hw _ _ rl) (aU.new hw _ _ rO)).mono ?_) ?_
 .exact cN hw
 refine Q1.gd (cZ r r2) (λ_ kx dO=>?_) ?_
 .refine qF.i (λ_ hw=>aD.at hw ud ak) ?_;refine qF.i (λ_ hw=>aD.at hw yH ak) ?_;refine Xq.call (fn:=f50) (.bool (cZ r r2)) (aH func50 (c:=bC f50) ai ai _) (λw' hw=>(H.expr aj hr gh (aU.new hw _ _ rr) (aU.new hw _ _ rP)).mono ?_) ?_
  .exact cN hw
  exact dO
 refine Xv.i _ (λw' _=>fP w' _ _) ?_;refine Q1.gd (cZ b b2) (λ_ kx dO=>?_) ?_
 .refine qF.i (λ_ hw=>aD.at hw ud ak) ?_;refine qF.i (λ_ hw=>aD.at hw yH ak) ?_;refine Xq.call (fn:=f26) (.bool (cZ b b2)) (aH func26 (c:=bC f26) ai ai _) (λw' hw=>(H.Bd aj hb uP (aU.new hw _ _ rb) (aU.new hw _ _ rQ)).mono ?_) ?_
  .exact cN hw
  exact dO
 refine Xv.i _ (λw' _=>fP w' _ _) ?_;intro w8 K8;exact⟨rfl,(K1.trans K6).trans K8⟩
set_option maxHeartbeats 4000000 in
theorem c26{n:Nat}(hn:n<=aX)(H:Fq n){F:Nat->Prop}{w:Wd}{s t:Tr}{u v:Va}(hz:tz s<=n+1)(hs:wf s 3=true)(ht:wf t 3=true)(rs:aU F w s (.L u))(rt:aU F w t (.L v)):
  Calls prog 26 #[u,v,.bool false] w (aZ (λx w'=>x=.bool (cZ s t)/\aD [] w w') NP):=by
 refine s26 ?_;unfold Xu;have is:=cG 3 ak hs;have it:=cG 3 ak ht;obtain⟨ka,kc,rfl⟩:=rs.oc is;obtain⟨UP,kc2,rfl⟩:=rt.oc it;have os:=rs.rowAt is;have ot:=rt.rowAt it;refine V1.i ah ?_;refine V1.i ah ?_;refine V1.i (Cw _ _ _ _ _) ?_;by_cases hl:len s=len t
 rotate_left
 .rw[show decide (len s=len t)=false by simpa using hl];refine If.t ⟨?_,aD.refl _ _⟩;rw[fx (λh=>hl (by rw[h]))]
 rw[show decide (len s=len t)=true by simpa using hl];refine If.f ?_;rw[←hl]at ot;unfold aX at hn;refine L2.i (λx0 x1 w'=>∃i j s' t',x1=.int .i64 (i:Nat)/\i+j=len s/\i+tz s'<=n+1/\wf s' 3=true/\wf t' 3=true/\cE F w' s' ka i j/\cE F w' t' UP i j/\aD [] w w'/\cZ s t=cZ s' t') (λ_ v _=>match v with|.int _ n=>(len s-n.toNat)|_=>0) ⟨0,len s,s,t,rfl,by omega,by omega,hs,ht,os,ot,aD.refl _ _,rfl⟩ ?_;clear os ot hs ht rs rt is it hz;rintro x0 x1 w1 ⟨i,j,s',t',rfl,rH,xO,Fu,vF,os,ot,K1,he⟩;refine V1.i ah ?_;rcases cY Fu with rfl|⟨x',l',rfl,hx,AF⟩
 .have hj:j=0:=by
   rcases os with⟨_,h⟩|⟨q0,_,h⟩
   .exact h
   .exact h
  subst hj;refine V1.bf ax ?_;refine If.f ⟨?_,K1⟩;rw[he];rcases cY vF with rfl|⟨y,m,rfl,hy,hm⟩
  .rw[eu]
  .rcases ot with⟨h,_⟩|⟨q0,_,j',u,h,_⟩
   .cases h
   .omega
 rcases os with⟨h,_⟩|⟨q0,rfl,j',u,rfl,hc,hf,rx,CP⟩
 .cases h
 have ol:cE F w1 l' (some ⟨q0,0,none⟩) (i+1) j':=.inr ⟨q0,rfl,CP⟩;rcases cY vF with rfl|⟨y,m,rfl,hy,hm⟩
 .rcases ot with⟨_,h⟩|⟨q0,_,h⟩
  .omega
  .exact absurd (show j'+1=0 from h) aj
 rcases ot with⟨h,_⟩|⟨q3,rfl,j2,u2,e2,lM,F6,ry,rm⟩
 .cases h
 obtain rfl:j'=j2:=by omega
 have om:cE F w1 m (some ⟨q3,0,none⟩) (i+1) j':=.inr ⟨q3,rfl,rm⟩;clear CP rm;have zf:=xO;simp only[tz]at zf;have vz:=bE x';have uM:=bE l';refine V1.bt ax ?_;refine If.t ?_;refine J1.cut (λx w'=>cZ x' y=true/\aD [] w1 w') ?_ ?_;rotate_left
 .rintro x w2 ⟨sQ,K2⟩;rw[gL,sQ,Bool.true_and]at he;refine V1.i (cC _ _ _ _ _ _ aj aj) ?_;exact⟨⟨i+1,j',l',m,by simp,by omega,by omega,AF,hm,ol.aA K2,om.aA K2,K1.trans K2,he⟩,by simp;omega⟩
 refine⟨λw'=>aD [] w1 w',(aD.refl _ _).drew,?_⟩;refine Xv.i _ (λw' _=>sK aj) ?_;refine Xv.i u (λw' hw=>(aC rfl) _ _ _ (hw.cell hc ak)) ?_;refine Xv.i _ (λw' _=>sK aj) ?_;refine Xv.i u2 (λw' hw=>(aC rfl) _ _ _ (hw.cell lM ak)) ?_;intro w2 K2;replace rx:=aU.new K2 _ _ rx;replace ry:=aU.new K2 _ _ ry;have xE:cZ x' y=false->cZ s t=false:=λh=>by rw[he,gL,h,Bool.false_and]
 rcases dr hx with rfl|⟨k,x,l,r,t0,a,c,rfl⟩
 .obtain rfl:u=.pointer none:=rx;rcases dr hy with rfl|⟨k2,x2,l2,r2,t2,b,d,rfl⟩
  .obtain rfl:u2=.pointer none:=ry;repeat(first|refine J1.go ?_|refine J0.go ?_|refine Gd.tt ?_|refine Gd.ff ?_|refine Gd.tf ?_|refine Gd.ft ?_|refine Gd.u ?_|refine If.t ?_|refine If.f ?_|refine Up.i (Nc.p _ _) ?_|refine V1.load (aC rfl) au rfl ?_|refine V1.i (w':=w2) aw ?_)
   exact⟨eu _,K2⟩
  .obtain⟨qq2,gK,sL,sM,KZ,sN,sO,rfl,_,b2,rO,rP,Ld,Le,rQ⟩:=ry;unfold ptr;repeat(first|refine J1.go ?_|refine J0.go ?_|refine Gd.tt ?_|refine Gd.ff ?_|refine Gd.tf ?_|refine Gd.ft ?_|refine Gd.u ?_|refine If.t ?_|refine If.f ?_|refine Up.i (Nc.p _ _) ?_|refine V1.load (aC rfl) au rfl ?_|refine V1.i (w':=w2) aw ?_)
   exact⟨by rw[xE (fx az)],K1.trans K2⟩
 .obtain⟨qq,line,lv,rv,tv,av,bv,rfl,_,b1,rl,rr,Tg,ra,rb⟩:=rx;rcases dr hy with rfl|⟨k2,x2,l2,r2,t2,b,d,rfl⟩
  .obtain rfl:u2=.pointer none:=ry;unfold ptr;repeat(first|refine J1.go ?_|refine J0.go ?_|refine Gd.tt ?_|refine Gd.ff ?_|refine Gd.tf ?_|refine Gd.ft ?_|refine Gd.u ?_|refine If.t ?_|refine If.f ?_|refine Up.i (Nc.p _ _) ?_|refine V1.load (aC rfl) au rfl ?_|refine V1.i (w':=w2) aw ?_)
   exact⟨by rw[xE (fx az)],K1.trans K2⟩
  obtain⟨qq2,gK,sL,sM,KZ,sN,sO,rfl,_,b2,rO,rP,Ld,Le,rQ⟩:=ry;simp only[wf,and_eq_true]at hx hy;obtain⟨⟨⟨⟨hl,hr⟩,Th⟩,ha⟩,hb⟩:=hx;obtain⟨⟨⟨⟨fY,gh⟩,Cz⟩,B2⟩,uP⟩:=hy;simp only[tz]at zf;unfold ptr;refine V1.bf am ?_;refine J1.go (Gd.ff ?_);refine V1.bf am ?_;refine V1.bf am ?_;refine If.f ?_;refine⟨λw'=>aD [] w2 w',(aD.refl _ _).drew,?_⟩;refine qF.i (λ_ hw=>aD.at hw b1 ak) ?_;refine qF.i (λ_ hw=>aD.at hw b2 ak) ?_;refine Xv.i (.bool (!(k==k2))) (λw' _=>yG w' _ _ _ _) ?_;refine yF ?_;refine Q1.gd (!(x==x2)) (λ_ kx dO=>?_) ?_
  .refine qF.i (λ_ hw=>aD.at hw b1 ak) ?_;refine qF.i (λ_ hw=>aD.at hw b2 ak) ?_;refine Xv.i (.bool (!(x==x2))) (λw' _=>H0 w' _ _ _ _) ?_;exact dO
  refine Xv.i _ (λw' _=>fm w' _ _) ?_;refine Q1.gd (!(cZ l l2)) (λ_ kx dO=>?_) ?_
  .refine qF.i (λ_ hw=>aD.at hw b1 ak) ?_;refine qF.i (λ_ hw=>aD.at hw b2 ak) ?_;refine Xq.call (fn:=f50) (.bool (cZ l l2)) (aH func50 (c:=bC f50) ai ai _) (λw' hw=>(H.expr aj hl fY (aU.new hw _ _ rl) (aU.new hw _ _ rO)).mono ?_) ?_
   .exact cN hw
   refine Xv.i (.bool (!(cZ l l2))) (λw' _=>by simp[go_sem]) ?_;exact dO
  refine Xv.i _ (λw' _=>fm w' _ _) ?_;refine Q1.gd (!(cZ r r2)) (λ_ kx dO=>?_) ?_
  .refine qF.i (λ_ hw=>aD.at hw b1 ak) ?_;refine qF.i (λ_ hw=>aD.at hw b2 ak) ?_;refine Xq.call (fn:=f50) (.bool (cZ r r2)) (aH func50 (c:=bC f50) ai ai _) (λw' hw=>(H.expr aj hr gh (aU.new hw _ _ rr) (aU.new hw _ _ rP)).mono ?_) ?_
   .exact cN hw
   refine Xv.i (.bool (!(cZ r r2))) (λw' _=>by simp[go_sem]) ?_;exact dO
  refine Xv.i _ (λw' _=>fm w' _ _) ?_;refine Q1.gd (!(cZ t0 t2)) (λ_ kx dO=>?_) ?_
  .refine qF.i (λ_ hw=>aD.at hw b1 ak) ?_;refine qF.i (λ_ hw=>aD.at hw b2 ak) ?_;refine Xq.call (fn:=f50) (.bool (cZ t0 t2)) (aH func50 (c:=bC f50) ai ai _) (λw' hw=>(H.expr aj Th Cz (aU.new hw _ _ Tg) (aU.new hw _ _ Ld)).mono ?_) ?_
   .exact cN hw
   refine Xv.i (.bool (!(cZ t0 t2))) (λw' _=>by simp[go_sem]) ?_;exact dO
  refine Xv.i _ (λw' _=>fm w' _ _) ?_;refine Q1.gd (!(cZ a b)) (λ_ kx dO=>?_) ?_
  .refine qF.i (λ_ hw=>aD.at hw b1 ak) ?_;refine qF.i (λ_ hw=>aD.at hw b2 ak) ?_;refine Xq.call (fn:=f26) (.bool (cZ a b)) (aH func26 (c:=bC f26) ai ai _) (λw' hw=>(H.Bd aj ha B2 (aU.new hw _ _ ra) (aU.new hw _ _ Le)).mono ?_) ?_
   .exact cN hw
   refine Xv.i (.bool (!(cZ a b))) (λw' _=>by simp[go_sem]) ?_;exact dO
  refine Xv.i _ (λw' _=>fm w' _ _) ?_;refine Q1.gd (!(cZ c d)) (λ_ kx dO=>?_) ?_
  .refine qF.i (λ_ hw=>aD.at hw b1 ak) ?_;refine qF.i (λ_ hw=>aD.at hw b2 ak) ?_;refine Xq.call (fn:=f26) (.bool (cZ c d)) (aH func26 (c:=bC f26) ai ai _) (λw' hw=>(H.Bd aj hb uP (aU.new hw _ _ rb) (aU.new hw _ _ rQ)).mono ?_) ?_
   .exact cN hw
   refine Xv.i (.bool (!(cZ c d))) (λw' _=>by simp[go_sem]) ?_;exact dO
  refine Xv.i _ (λw' _=>fm w' _ _) ?_;intro w3 K3;have lU:(((((((!(k==k2))||!(x==x2))||!(cZ l l2))||!(cZ r r2))||!(cZ t0 t2))||!(cZ a b))||!(cZ c d))=!(cZ (.st k x l r t0 a c) (.st k2 x2 l2 r2 t2 b d)):=by
   rw[xN];simp only[Bool.not_and]
  rw[lU]
  cases sQ:cZ (.st k x l r t0 a c) (.st k2 x2 l2 r2 t2 b d)with
  |true=>exact If.f ⟨rfl,K2.trans K3⟩
  |false=>
   refine If.t ⟨?_,(K1.trans K2).trans K3⟩;rw[xE sQ]
theorem pA:∀n,n<=aX->Fq n
 |0,_=>⟨fun{_ _ s _ _ _} h=>absurd h (by have:=bE s;omega),fun{_ _ s _ _ _} h=>absurd h (by have:=bE s;omega)⟩
 |n+1,hn=>⟨c50 aj (pA n aj),c26 aj (pA n aj)⟩
end Go.Proofs.YtoddjlclpnoomaaGreatDoor

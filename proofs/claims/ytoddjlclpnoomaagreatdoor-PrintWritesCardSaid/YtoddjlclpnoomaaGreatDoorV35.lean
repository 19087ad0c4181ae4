import Derived.Test.YtoddjlclpnoomaaGreatDoorV34
set_option linter.unusedVariables false
set_option linter.unusedSimpArgs false
set_option maxRecDepth 100000
open Go.Proofs.Tryz
open List (cons_append map_cons contains_cons length_cons contains_nil take_succ_eq_append_getElem take_succ_cons length_append take_length length take_zero map_nil sum_cons sum_nil)
open Nat (lt_or_ge)
open Bool (and_eq_true or_eq_true or_eq_false_iff)
namespace Go.Proofs.YtoddjlclpnoomaaGreatDoor
set_option maxRecDepth 100000
def ld(t:Tok):Int:=if t.kind=4/\t.text=[40]then 1 else if t.kind=4/\t.text=[41]then-1 else 0
def gn(l:LT):Int:=(l.map ld).sum
def sY(l:LT):Prop:=gn l=0/\∀k,0<=gn (l.take k)
def E5:LT->Prop
 |[]=>False
 |[t]=>t.kind=5
 |_::u::l=>E5 (u::l)
def Bl(ts bX:LT):Prop:=E5 ts->E5 bX/\∃pre,ts=pre++bX/\sY pre
theorem sZ(a b:LT):gn (a++b)=gn a+gn b:=by simp[gn]
theorem sY.nil:sY []:=⟨rfl,λk=>by simp[gn]⟩
theorem sY.app{a b:LT}(ha:sY a)(hb:sY b):sY (a++b):=⟨by rw[sZ,ha.1,hb.1];rfl,λk=>by
 rw[List.take_append,sZ];have:=ha.2 k;have:=hb.2 (k-a.length);omega⟩
theorem sY.one{t:Tok}(h:ld t=0):sY [t]:=⟨by simp[gn,h],λk=>by cases k<;>simp[gn,h]⟩
theorem sY.paren{t u:Tok}{l:LT}(ht:ld t=1)(hu:ld u=-1)(hl:sY l):sY (t::(l++[u])):=by
 refine⟨?_,λk=>?_⟩
 .have:=hl.1;simp only[gn,map_cons,sum_cons,List.map_append,List.sum_append,map_nil,sum_nil]at this⊢;omega
 .cases k with
  |zero=>simp[gn]
  |succ k=>
   have h1:=hl.2 k;have h2:=hl.1;rw[take_succ_cons,List.take_append];have e:gn (t::(l.take k++[u].take (k-l.length)))=1+gn (l.take k)+gn ([u].take (k-l.length)):=by
    simp only[gn,map_cons,sum_cons,List.map_append,List.sum_append,ht];omega
   rw[e];rcases lt_or_ge l.length k with h|h
   .rw[List.take_of_length_le (by omega:l.length<=k),h2];obtain⟨j,hj⟩:∃j,k-l.length=j+1:=⟨k-l.length-1,by omega⟩;rw[hj];simp[gn,hu]
   .rw[show k-l.length=0 by omega];simp only[take_zero,gn,map_nil,sum_nil];simp only[gn]at h1;omega
theorem Bl.refl(ts:LT):Bl ts ts:=λh=>⟨h,[],rfl,sY.nil⟩
theorem Bl.trans{a b c:LT}(h:Bl a b)(h2:Bl b c):Bl a c:=λha=>by
 obtain⟨hb,p,rfl,hp⟩:=h ha;obtain⟨hc,q,rfl,hq⟩:=h2 hb;exact⟨hc,p++q,by simp,hp.app hq⟩
theorem Bl.ad{ts t0:LT}(h:Bl ts t0)(hp:ld (hd t0)=0):Bl ts (bG t0):=h.trans λh0=>by
 match t0,h0 with
 |[t],h0=>exact⟨h0,[],rfl,sY.nil⟩
 |t::u::l,h0=>exact⟨h0,[t],rfl,sY.one hp⟩
theorem Df{q:By}{ts:LT}(h:bC q ts=true)(h1:q≠[40])(h2:q≠[41]):ld (hd ts)=0:=by
 simp[bC,gw]at h
 unfold ld;rw[if_neg (by rw[h.2];simp[h1]),if_neg (by rw[h.2];simp[h2])]
theorem cF{t:Tok}(h:t.kind≠4):ld t=0:=by
 unfold ld;rw[if_neg (λe=>h e.1),if_neg (λe=>h e.1)]
theorem s0{t:Tok}{q:By}(h:t.text=q)(h1:q≠[40])(h2:q≠[41]):ld t=0:=by
 unfold ld;rw[if_neg (by rw[h];simp[h1]),if_neg (by rw[h];simp[h2])]
theorem s5{ts:LT}(h:((hd ts).kind==1)=true):ld (hd ts)=0:=cF (by simp at h;omega)
theorem cX{ts:LT}(h:gw (hd ts) [mE,[45],[35],[126]]=true):ld (hd ts)=0:=by
 simp only[gw,contains_cons,contains_nil,Bool.or_false,and_eq_true,or_eq_true,beq_iff_eq]at h;rcases h.2 with h|h|h|h<;>exact s0 h (by simp[mE];done) (by simp[mE];done)
theorem Ax{t:Tok}{a:Int}(h:decide (bD t.text<=a)=false)(ha:0<=a):ld t=0:=by
 have h:a<bD t.text:=by simpa using h
 unfold ld;rw[if_neg,if_neg]
 .rintro⟨_,e⟩;rw[e]at h;simp[bD]at h;omega
 .rintro⟨_,e⟩;rw[e]at h;simp[bD]at h;omega
theorem ov{ts:LT}(h:bC [40] ts=true):ld (hd ts)=1:=by
 simp[bC,gw]at h
 unfold ld;rw[if_pos h]
theorem mB{ts:LT}(h:bC [41] ts=true):ld (hd ts)=-1:=by
 simp[bC,gw]at h
 unfold ld;rw[if_neg (by rw[h.2];simp),if_pos h]
theorem E5.step{ts:LT}(h:E5 ts)(hk:(hd ts).kind≠5):∃u l,ts=hd ts::u::l/\bG ts=u::l/\E5 (u::l):=by
 match ts,h with
 |[t],h=>exact absurd h hk
 |t::u::l,h=>exact⟨u,l,rfl,rfl,h⟩
theorem jy{q:By}{ts:LT}(h:bC q ts=true):(hd ts).kind≠5:=by simp[bC,gw]at h;omega
theorem Bl.paren{ts t0 t1:LT}(h:Bl ts t0)(mI:bC [40] t0=true)(h1:Bl (bG t0) t1)(HU:bC [41] t1=true):Bl ts (bG t1):=h.trans λh0=>by
 obtain⟨u,l,e,ea,h2⟩:=h0.step (jy mI);obtain⟨h3,p,ep,hp⟩:=h1 (ea▸h2);obtain⟨u2,l2,e2,Sm,h4⟩:=h3.step (jy HU);refine⟨Sm▸h4,hd t0::(p++[hd t1]),?_,sY.paren (ov mI) (mB HU) hp⟩;rw[Sm];rw[e,←ea,ep];conv=>lhs;rw[e2]
 simp
 rfl
def xk(q:By):Bool:=q !=[40]&&q !=[41]
theorem aY{q:By}{ts:LT}(h:bC q ts=true)(hq:xk q=true):ld (hd ts)=0:=by
 simp[xk]at hq
 exact Df h hq.1 hq.2
theorem bY{t:Tok}{q:By}(h:t.text=q)(hq:xk q=true):ld t=0:=by
 simp[xk]at hq
 exact s0 h hq.1 hq.2
def eM(ts:LT)(r:bN):Prop:=∀t bX o,r=.ok t bX o->Bl ts bX
section
variable {ts t0 t1:LT}
theorem eM.ok{t:Tr}{o:Bool}(h:Bl ts t0):eM ts (.ok t t0 o):=λ_ _ _ e=>by cases e;exact h
theorem eM.fail{c:Int}:eM ts (.fail c):=λ_ _ _ e=>by cases e
theorem eM.bH:eM ts .bH:=λ_ _ _ e=>by cases e
theorem eM.of{r:bN}(h:Bl ts t0)(h1:eM t0 r):eM ts r:=λ_ _ _ e=>h.trans (h1 _ _ _ e)
theorem eM.bind{r:bN}{f:Tr->LT->Bool->bN}(h:Bl ts t0)(h1:eM t0 r)(h2:∀t bX o,Bl ts bX->eM ts (f t bX o)):eM ts (r.bind f):=by
 cases r with
 |ok t bX o=>exact h2 _ _ _ (h.trans (h1 _ _ _ rfl))
 |fail c=>exact eM.fail
 |bH=>exact eM.bH
theorem eM.Qp{r:bN}{f:Tr->LT->Bool->bN}(h1:eM t0 r)(h2:∀t bX o,Bl t0 bX->eM ts (f t bX o)):eM ts (r.bind f):=by
 cases r with
 |ok t bX o=>exact h2 _ _ _ (h1 _ _ _ rfl)
 |fail c=>exact eM.fail
 |bH=>exact eM.bH
theorem eM.cM{q:By}{f:LT->bN}(h:Bl ts t0)(hq:xk q=true)(hf:Bl ts (bG t0)->eM ts (f (bG t0))):eM ts (aR q t0 f):=by
 unfold aR;split
 .exact hf (h.ad (aY aw hq))
 .exact eM.fail
theorem eM.name{f:By->LT->bN}(h:Bl ts t0)(hf:∀nm,Bl ts (bG t0)->eM ts (f nm (bG t0))):eM ts (cU t0 f):=by
 unfold cU;split
 .exact hf _ (h.ad (s5 aw))
 .exact eM.fail
theorem eM.open{d:Int}{f:Int->bN}(hf:∀d,eM ts (f d)):eM ts (cD d f):=by
 unfold cD;split
 .exact eM.fail
 .exact hf _
theorem eM.Ay{f:LT->bN}(h:Bl ts t0)(mI:bC [40] t0=true)(h1:Bl (bG t0) t1)(hf:Bl ts (bG t1)->eM ts (f (bG t1))):eM ts (aR [41] t1 f):=by
 unfold aR;split
 .exact hf (h.paren mI h1 aw)
 .exact eM.fail
end
def E0:Cl->LT->Prop
 |.expr a,_=>0<=a
 |.exprL _ a,_=>0<=a
 |.bin _ k,ts=>1<=k/\ld (hd ts)=0
 |.lM,ts=>ld (hd ts)=0
 |.inner s,_=>xk s=true
 |_,_=>True
theorem xl{t:Tok}{a:Int}(h:decide (bD t.text<=a)=false)(ha:0<=a):1<=bD t.text:=by
 have:a<bD t.text:=by simpa using h
 omega
set_option maxHeartbeats 4000000 in
theorem iQ:∀(n:Nat) (cl:Cl) (d:Int) (ts:LT),E0 cl ts->eM ts (run n cl d ts)
 |0,cl,d,ts,hs=>eM.bH
 |n+1,cl,d,ts,hs=>by
  have H:=iQ n
  cases cl<;>simp only[run]<;>simp only[E0]at hs
  case exprL l a=>
   split
   .exact eM.ok (Bl.refl _)
   .rename_i hc
    rw[or_eq_false_iff]at hc;refine eM.bind (Bl.refl _) (H _ _ _ ⟨by have:=xl hc.2 hs;omega,Ax hc.2 hs⟩) λ_ _ _ hb=>?_;exact eM.of hb (H _ _ _ hs)
  case item=>
   split
   .rename_i hc
    refine eM.bind (Bl.ad (Bl.ad (Bl.refl _) (cF aj)) (aY hc.2.2 rfl)) (H _ _ _ (show(0:Int)<=_ by omega)) λ_ _ _ hb=>eM.ok hb
   split
   .refine eM.bind (Bl.refl _) (H _ _ _ trivial) λ_ _ _ _=>?_;split
    .refine eM.cM aw rfl λ_=>?_;refine eM.bind aw (H _ _ _ (show(0:Int)<=_ by omega)) λ_ _ _ hb=>eM.ok hb
    .exact eM.bH
   .refine eM.bind (Bl.refl _) (H _ _ _ (show(0:Int)<=_ by omega)) λ_ _ _ hb=>eM.ok hb
  case simple=>
   refine eM.bind (Bl.refl _) (H _ _ _ trivial) λe t1 own hb=>?_;split
   .rename_i hc
    rw[and_eq_true,and_eq_true]at hc;refine eM.bind (Bl.ad hb (aY hc.1.1 rfl)) (H _ _ _ (show(0:Int)<=_ by omega)) λ_ _ _ hb=>eM.ok hb
   .split
    .exact eM.ok hb
    .exact eM.fail
  all_goals repeat' (first
   |exact eM.fail
   |exact eM.bH
   |exact eM.ok (by first|assumption|exact Bl.refl _|exact Bl.paren (Bl.refl _) aw (Bl.refl _) aw|exact Bl.paren aw aw (Bl.refl _) aw|exact Bl.ad aw (by first|exact aY aw rfl|exact aY aw hs|exact bY aw rfl|exact cX aw|exact cF aj|assumption|exact hs|exact hs.2)|exact Bl.ad (Bl.refl _) (by first|exact aY aw rfl|exact aY aw hs|exact bY aw rfl|exact cX aw|exact cF aj|assumption|exact hs|exact hs.2)|exact Bl.ad (Bl.ad (Bl.refl _) (by first|exact aY aw rfl|exact aY aw hs|exact bY aw rfl|exact cX aw|exact cF aj|assumption|exact hs|exact hs.2)) (by first|exact aY aw rfl|exact aY aw hs|exact bY aw rfl|exact cX aw|exact cF aj|assumption|exact hs|exact hs.2))
   |exact eM.of (by first|assumption|exact Bl.refl _|exact Bl.paren (Bl.refl _) aw (Bl.refl _) aw|exact Bl.paren aw aw (Bl.refl _) aw|exact Bl.ad aw (by first|exact aY aw rfl|exact aY aw hs|exact bY aw rfl|exact cX aw|exact cF aj|assumption|exact hs|exact hs.2)|exact Bl.ad (Bl.refl _) (by first|exact aY aw rfl|exact aY aw hs|exact bY aw rfl|exact cX aw|exact cF aj|assumption|exact hs|exact hs.2)|exact Bl.ad (Bl.ad (Bl.refl _) (by first|exact aY aw rfl|exact aY aw hs|exact bY aw rfl|exact cX aw|exact cF aj|assumption|exact hs|exact hs.2)) (by first|exact aY aw rfl|exact aY aw hs|exact bY aw rfl|exact cX aw|exact cF aj|assumption|exact hs|exact hs.2)) (H _ _ _ (by first|trivial|exact hs|exact rfl|(show(0:Int)<=_;omega)|exact(by first|exact aY aw rfl|exact aY aw hs|exact bY aw rfl|exact cX aw|exact cF aj|assumption|exact hs|exact hs.2)))
   |refine eM.open λ_=>?_
   |refine eM.name (by first|assumption|exact Bl.refl _|exact Bl.paren (Bl.refl _) aw (Bl.refl _) aw|exact Bl.paren aw aw (Bl.refl _) aw|exact Bl.ad aw (by first|exact aY aw rfl|exact aY aw hs|exact bY aw rfl|exact cX aw|exact cF aj|assumption|exact hs|exact hs.2)|exact Bl.ad (Bl.refl _) (by first|exact aY aw rfl|exact aY aw hs|exact bY aw rfl|exact cX aw|exact cF aj|assumption|exact hs|exact hs.2)|exact Bl.ad (Bl.ad (Bl.refl _) (by first|exact aY aw rfl|exact aY aw hs|exact bY aw rfl|exact cX aw|exact cF aj|assumption|exact hs|exact hs.2)) (by first|exact aY aw rfl|exact aY aw hs|exact bY aw rfl|exact cX aw|exact cF aj|assumption|exact hs|exact hs.2)) λ_ _=>?_
   |refine eM.bind (by first|assumption|exact Bl.refl _|exact Bl.paren (Bl.refl _) aw (Bl.refl _) aw|exact Bl.paren aw aw (Bl.refl _) aw|exact Bl.ad aw (by first|exact aY aw rfl|exact aY aw hs|exact bY aw rfl|exact cX aw|exact cF aj|assumption|exact hs|exact hs.2)|exact Bl.ad (Bl.refl _) (by first|exact aY aw rfl|exact aY aw hs|exact bY aw rfl|exact cX aw|exact cF aj|assumption|exact hs|exact hs.2)|exact Bl.ad (Bl.ad (Bl.refl _) (by first|exact aY aw rfl|exact aY aw hs|exact bY aw rfl|exact cX aw|exact cF aj|assumption|exact hs|exact hs.2)) (by first|exact aY aw rfl|exact aY aw hs|exact bY aw rfl|exact cX aw|exact cF aj|assumption|exact hs|exact hs.2)) (H _ _ _ (by first|trivial|exact hs|exact rfl|(show(0:Int)<=_;omega)|exact(by first|exact aY aw rfl|exact aY aw hs|exact bY aw rfl|exact cX aw|exact cF aj|assumption|exact hs|exact hs.2))) λ_ _ _ _=>?_
   |refine eM.cM (by first|assumption|exact Bl.refl _|exact Bl.paren (Bl.refl _) aw (Bl.refl _) aw|exact Bl.paren aw aw (Bl.refl _) aw|exact Bl.ad aw (by first|exact aY aw rfl|exact aY aw hs|exact bY aw rfl|exact cX aw|exact cF aj|assumption|exact hs|exact hs.2)|exact Bl.ad (Bl.refl _) (by first|exact aY aw rfl|exact aY aw hs|exact bY aw rfl|exact cX aw|exact cF aj|assumption|exact hs|exact hs.2)|exact Bl.ad (Bl.ad (Bl.refl _) (by first|exact aY aw rfl|exact aY aw hs|exact bY aw rfl|exact cX aw|exact cF aj|assumption|exact hs|exact hs.2)) (by first|exact aY aw rfl|exact aY aw hs|exact bY aw rfl|exact cX aw|exact cF aj|assumption|exact hs|exact hs.2)) rfl λ_=>?_
   |refine eM.Qp (H _ _ _ (by first|trivial|exact hs|exact rfl|(show(0:Int)<=_;omega)|exact(by first|exact aY aw rfl|exact aY aw hs|exact bY aw rfl|exact cX aw|exact cF aj|assumption|exact hs|exact hs.2))) λ_ _ _ _=>?_
   |refine eM.Ay (Bl.refl _) aw aw λ_=>?_
   |refine eM.Ay aw aw aw λ_=>?_
   |split)
end Go.Proofs.YtoddjlclpnoomaaGreatDoor

namespace Go.Proofs.YtoddjlclpnoomaaGreatDoor
open Go.Sh
def jh:LT->Int->Bool
 |[],_=>false
 |t::l,d=>if ld t=-1/\d-1=0 then l.isEmpty else jh l (d+ld t)
theorem tc:∀(p l:LT) (d:Int),(∀k,1<=d+gn (p.take k))->jh (p++l) d=jh l (d+gn p)
 |[],l,d,h=>by simp[gn]
 |t::p,l,d,h=>by
  have h1:=h 1;simp only[take_succ_cons,take_zero,gn,map_cons,map_nil,sum_cons,sum_nil]at h1;simp only[cons_append,jh];rw[if_neg (by rintro⟨h2,h3⟩;omega)];rw[tc p l (d+ld t) (λk=>by
   have:=h (k+1);simp only[take_succ_cons,gn,map_cons,sum_cons]at this⊢;omega)]
  simp only[gn,map_cons,sum_cons];congr 1
  omega
theorem mb:∀(n:Nat) (e:Tr) (ob:Bool) (d:Int) (ts:LT) (t:Tr) (bX:LT) (o:Bool),E5 ts->run n (.dH e ob) d ts=.ok t bX o->
  (bX=ts/\o=ob)\/(bX.length<ts.length/\o=false)
 |0,e,ob,d,ts,t,bX,o,h,hr=>by cases hr
 |n+1,e,ob,d,ts,t,bX,o,h,hr=>by
  have IH:∀e cB,Bl (bG ts) cB->(hd ts).kind≠5->run n (.dH e false) d cB=.ok t bX o->bX.length<ts.length/\o=false:=by
   intro e cB hb hk hr;obtain⟨u,l,e1,e2,h2⟩:=h.step hk;obtain⟨h3,p,e3,_⟩:=hb (e2▸h2);have hl:cB.length<ts.length:=by
    have:(bG ts).length+1=ts.length:=by have h1:=congrArg length e1;rw[e2];simp only[length_cons]at h1⊢;omega
    rw[e3,length_append]at this;omega
   rcases mb n e false d cB t bX o h3 hr with⟨rfl,rfl⟩|⟨h4,rfl⟩
   .exact⟨hl,rfl⟩
   .exact⟨by omega,rfl⟩
  simp only[run]at hr
  cases h1:bC [91] ts with
  |true=>
   simp only[h1]at hr
   cases n with
   |zero=>cases hr
   |succ m=>
   simp only[show run (m+1) (.bracket e) d ts=cD d λd'=>aR [91] ts λts=>(run m (.expr 0) d' ts).bind λr ts _=>aR [93] ts λts=>.ok (.ex 7 0 [] e r .nil .nil [] .nil) ts false from rfl,iP,kj,eH,fi]at hr;unfold cD at hr;split at hr
   .cases hr
   dsimp only at hr;rw[cW h1]at hr
   cases hx:run m (.expr 0) (d+1) (bG ts)with
   |fail c=>rw[hx]at hr;cases hr
   |bH=>rw[hx]at hr;cases hr
   |ok a cB o1=>
    rw[hx,fi]at hr;have hb:=iQ m (.expr 0) (d+1) (bG ts) (show(0:Int)<=0 by omega) _ _ _ hx;unfold aR at hr;split at hr
    .exact .inr (IH _ _ (hb.ad (aY aw rfl)) (jy h1) hr)
    .cases hr
  |false=>
  simp only[h1]at hr
  cases h2:bC [46] ts with
  |true=>
   simp only[h2]at hr;unfold cU at hr;split at hr
   .exact .inr (IH _ _ (Bl.ad (Bl.refl _) (s5 aw)) (jy h2) hr)
   .cases hr
  |false=>
  simp only[h2]at hr
  cases h3:bC [40] ts with
  |false=>
   simp only[h3]at hr;injection hr with e1 e2 e3;exact .inl ⟨e2.symm,e3.symm⟩
  |true=>
  simp only[h3]at hr;unfold cD at hr;split at hr
  .cases hr
  dsimp only at hr;have vR:∀cB,Bl (bG ts) cB->bC [41] cB=true->(∃e,run n (.dH e false) d (bG cB)=.ok t bX o)->bX.length<ts.length/\o=false:=by
   rintro cB hb HU ⟨e,hr⟩;obtain⟨u,l,e1,e2,h5⟩:=h.step (jy h3);obtain⟨h6,p,e3,_⟩:=hb (e2▸h5);obtain⟨u2,l2,e4,e5,h7⟩:=h6.step (jy HU);have l1:(bG ts).length+1=ts.length:=by have h1:=congrArg length e1;rw[e2];simp only[length_cons]at h1⊢;omega
   have l2':(bG cB).length+1=cB.length:=by have h1:=congrArg length e4;rw[e5];simp only[length_cons]at h1⊢;omega
   have l3:=congrArg length e3;rw[length_append]at l3;rcases mb n e false d (bG cB) t bX o (e5▸h7) hr with⟨rfl,rfl⟩|⟨h8,rfl⟩
   .exact⟨by omega,rfl⟩
   .exact⟨by omega,rfl⟩
  cases h4:bC [41] (bG ts)with
  |true=>
   simp only[h4]at hr;exact .inr (vR _ (Bl.refl _) h4 ⟨_,hr⟩)
  |false=>
   simp only[h4]at hr
   cases hx:run n (.args .nil) (d+1) (bG ts)with
   |fail c=>rw[hx]at hr;cases hr
   |bH=>rw[hx]at hr;cases hr
   |ok a cB o1=>
    rw[hx,fi]at hr;have hb:=iQ n (.args .nil) (d+1) (bG ts) trivial _ _ _ hx;unfold aR at hr;split at hr
    .exact .inr (vR _ hb aw ⟨_,hr⟩)
    .cases hr
theorem Az{n:Nat}{d:Int}{ts bX:LT}{t:Tr}{o:Bool}(h:E5 ts)(hr:run n .post d ts=.ok t bX o):
  ∃pre,ts=pre++bX/\o=(bC [40] ts&&jh pre 0):=by
 have hB:=iQ n .post d ts trivial _ _ _ hr;obtain⟨h',pre,hp,-⟩:=hB h;refine⟨pre,hp,?_⟩
 cases n with
 |zero=>cases hr
 |succ n=>
 simp only[run]at hr
 cases hx:run n .dz d ts with
 |fail c=>rw[hx]at hr;cases hr
 |bH=>rw[hx]at hr;cases hr
 |ok e cB o1=>
 rw[hx,fi]at hr;have Iu:=iQ n .dz d ts trivial _ _ _ hx;obtain⟨h1,p1,xt,-⟩:=Iu h;have sC:=iQ n (.dH e (bC [40] ts)) d cB trivial _ _ _ hr;obtain⟨h2,p2,wL,-⟩:=sC h1;have fV:=mb n e _ d cB t bX o h1 hr
 cases mI:bC [40] ts with
 |false=>
  rw[mI]at fV;rcases fV with⟨_,rfl⟩|⟨_,rfl⟩<;>rfl
 |true=>
 rw[mI]at fV;have hk4:(hd ts).kind=4:=by simp[bC,gw]at mI;exact mI.1
 have htx:(hd ts).text=[40]:=by simp[bC,gw]at mI;exact mI.2
 obtain⟨pe,u,Qq,hu,Dg⟩:∃pe u,p1=hd ts::(pe++[u])/\ld u=-1/\sY pe:=by
  cases n with
  |zero=>cases hx
  |succ n=>
  simp only[run]at hx;rw[if_neg aj,if_neg aj,if_neg aj]at hx
  cases n with
  |zero=>cases hx
  |succ n=>
  rw[pK]at hx;have iw:∀q,q≠[40]->bC q ts=false:=λq hq=>qN mI (Ne.symm hq);rw[iw lO (by simp[lO]),if_neg ak,iw ie (by simp[ie]),if_neg ak,iw fE (by simp[fE]),if_neg ak,mI,if_pos rfl]at hx;unfold cD at hx;split at hx
  .cases hx
  dsimp only at hx
  cases hy:run n (.expr 0) (d+1) (bG ts)with
  |fail c=>rw[hy]at hx;cases hx
  |bH=>rw[hy]at hx;cases hx
  |ok a dI o2=>
  rw[hy,fi]at hx;have Gx:=iQ n (.expr 0) (d+1) (bG ts) (show(0:Int)<=0 by omega) _ _ _ hy;unfold aR at hx;split at hx
  .rename_i HU
   injection hx with e1 e2 e3;obtain⟨v,l,ee,ea,h5⟩:=h.step (jy mI);obtain⟨h6,p3,VH,Dg⟩:=Gx (ea▸h5);obtain⟨v2,l2,ee2,Sm,h7⟩:=h6.step (jy HU);refine⟨p3,hd dI,?_,mB HU,Dg⟩;have:ts=(hd ts::(p3++[hd dI]))++cB:=by
    rw[←e2,Sm];conv=>lhs;rw[ee,←ea,VH]
    conv=>lhs;rw[ee2]
    simp
   exact List.append_cancel_right (xt.symm.trans this)
  .cases hx
 have oN:pre=hd ts::(pe++[u])++p2:=by
  have:pre++bX=(hd ts::(pe++[u])++p2)++bX:=by
   rw[←hp];conv=>lhs;rw[xt,Qq,wL]
   simp
  exact List.append_cancel_right this
 have pL:jh pre 0=p2.isEmpty:=by
  rw[oN];simp only[cons_append,List.append_assoc,jh,ov mI];rw[if_neg ak];rw[tc pe _ _ (λk=>by have:=Dg.2 k;omega),Dg.1];simp only[List.singleton_append,cons_append,List.nil_append,jh,hu];simp
 rw[pL,Bool.true_and];rcases fV with⟨e1,rfl⟩|⟨e1,rfl⟩
 .have:p2=[]:=by
   have:=congrArg length wL;rw[e1,length_append]at this;exact List.eq_nil_of_length_eq_zero aj
  rw[this];rfl
 .have:p2≠[]:=by
   rintro rfl;rw[List.nil_append]at wL;rw[wL]at e1;omega
  cases p2 with
  |nil=>exact absurd rfl this
  |cons a l=>rfl
theorem AA{C:WP}{b:Bool}{X:(Va->Prop)->Prop}{g:Va->Prop}(hg:g (.bool b)):
  Q1 (λk3=>Gd (.bool b) false (k3 (.bool false)) (k3 undef)) (λa33=>Q1 (λk4=>Gd a33 true (X k4) (k4 undef)) (λG3=>Q1 (λk5=>Gd (.bool b) false (Xv prog C (Pk a33 G3 (.bool false)) λIK=>k5 IK) (k5 undef)) (λIK=>Xv prog C (Pk (.bool b) (.bool true) IK) λa44=>g a44))):=by
 cases b with
 |true=>
  refine Q1.go (Gd.tf ?_);refine Q1.go (Gd.u ?_);refine Q1.go (Gd.tf ?_);exact Xv.i (.bool true) (λw' _=>by simp[go_sem]) hg
 |false=>
  refine Q1.go (Gd.ff ?_);refine Q1.go (Gd.ft ?_);refine Q1.go (Gd.ff ?_);refine Xv.i (.bool false) (λw' _=>by simp[go_sem]) ?_;exact Xv.i (.bool false) (λw' _=>by simp[go_sem]) hg
theorem AB(w:Wd)(cx cy:Bool)(a b:Int):(Bo .neq 3 cx cy (.int .i64 a) (.int .i64 b)).run prog w=.ok (.bool (!(a==b))) w:=by simp[go_sem,Bo];rfl
theorem Yr(w:Wd)(cx cy:Bool)(a b:Int):(Bo .neq 2 cx cy (.int .i64 a) (.int .i64 b)).run prog w=.ok (.bool (!(a==b))) w:=by simp[go_sem,Bo];rfl
theorem If.t'{v:Bool}{x y:Prop}(h:v=true)(hx:x):If (.bool v) x y:=by subst h;exact If.t hx
theorem If.f'{v:Bool}{x y:Prop}(h:v=false)(hy:y):If (.bool v) x y:=by subst h;exact If.f hy
structure HV(n:Nat):Prop where
 expr:∀{F:Nat->Prop}{w:Wd}{s t:Tr}{u v:Va},tz s<=n->wf s 0=true->wf t 0=true->aP F w s (.P u)->aP F w t (.P v)->Calls prog 50 #[u,v,.bool false] w (aZ (λx w'=>x=.bool (dr s t)/\aD [] w w') NP)
 Dh:∀{F:Nat->Prop}{w:Wd}{s t:Tr}{u v:Va},tz s<=n->wf s 3=true->wf t 3=true->aP F w s (.L u)->aP F w t (.L v)->Calls prog 26 #[u,v,.bool false] w (aZ (λx w'=>x=.bool (dr s t)/\aD [] w w') NP)
set_option maxHeartbeats 4000000 in
theorem c50{n:Nat}(hn:n<=aX)(H:HV n){F:Nat->Prop}{w:Wd}{s t:Tr}{u v:Va}(hz:tz s<=n+1)(hs:wf s 0=true)(ht:wf t 0=true)(rs:aP F w s (.P u))(rt:aP F w t (.P v)):
  Calls prog 50 #[u,v,.bool false] w (aZ (λx w'=>x=.bool (dr s t)/\aD [] w w') NP):=by
 refine s50 ?_;unfold S50;rcases bM hs with rfl|⟨k,nn,x,l,r,ks,gs,ps,b,rfl⟩
 .obtain rfl:u=.pointer none:=rs;rcases bM ht with rfl|⟨k2,Bc,x2,l2,r2,oy,oz,ix,b2,rfl⟩
  .obtain rfl:v=.pointer none:=rt;repeat(first|refine J1.go ?_|refine J0.go ?_|refine Gd.tt ?_|refine Gd.ff ?_|refine Gd.tf ?_|refine Gd.ft ?_|refine Gd.u ?_|refine If.t ?_|refine If.f ?_|refine Up.i (Nc.p _ _) ?_|refine V1.load (aC rfl) aw rfl ?_|refine V1.i (w':=w) ax ?_)
   exact⟨by rw[eQ],aD.refl _ _⟩
  .obtain⟨q2,iq,uE,uF,Cx,uG,A9,uH,rfl,_,a2,tK,tL,CA,CB,Ex,tM⟩:=rt;rw[fX bg];unfold ptr;repeat(first|refine J1.go ?_|refine J0.go ?_|refine Gd.tt ?_|refine Gd.ff ?_|refine Gd.tf ?_|refine Gd.ft ?_|refine Gd.u ?_|refine If.t ?_|refine If.f ?_|refine Up.i (Nc.p _ _) ?_|refine V1.load (aC rfl) aw rfl ?_|refine V1.i (w':=w) ax ?_)
   exact⟨rfl,aD.refl _ _⟩
 obtain⟨q,line,lv,rv,kv,av,pv,bv,rfl,_,a1,rl,rr,rk,rg,rp,rb⟩:=rs;rcases bM ht with rfl|⟨k2,Bc,x2,l2,r2,oy,oz,ix,b2,rfl⟩
 .obtain rfl:v=.pointer none:=rt;rw[fX bg];unfold ptr;repeat(first|refine J1.go ?_|refine J0.go ?_|refine Gd.tt ?_|refine Gd.ff ?_|refine Gd.tf ?_|refine Gd.ft ?_|refine Gd.u ?_|refine If.t ?_|refine If.f ?_|refine Up.i (Nc.p _ _) ?_|refine V1.load (aC rfl) aw rfl ?_|refine V1.i (w':=w) ax ?_)
  exact⟨rfl,aD.refl _ _⟩
 obtain⟨q2,iq,uE,uF,Cx,uG,A9,uH,rfl,_,a2,tK,tL,CA,CB,Ex,tM⟩:=rt;simp only[wf,and_eq_true]at hs ht;obtain⟨⟨⟨⟨⟨_,hl⟩,hr⟩,hk⟩,hg⟩,hb⟩:=hs;obtain⟨⟨⟨⟨⟨_,gI⟩,gO⟩,km⟩,yA⟩,sC⟩:=ht;have HW:=bF 1 ak hk;have HX:=bF 1 ak hg;have Ys:=bF 1 ak km;have Yt:=bF 1 ak yA;obtain⟨ka,kc,rfl⟩:=rk.oK HW;obtain⟨ga,gc,rfl⟩:=rg.oK HX;obtain⟨Yu,kc2,rfl⟩:=CA.oK Ys;obtain⟨ga2,gc2,rfl⟩:=CB.oK Yt;obtain⟨pa,pc,rfl⟩:=rp.sl;obtain⟨pa2,pc2,rfl⟩:=Ex.sl;simp only[tz]at hz;unfold ptr;refine V1.bf au ?_;refine J1.go (Gd.ff ?_);refine V1.bf au ?_;refine V1.bf au ?_;refine If.f ?_
 refine⟨λw'=>aD [] w w',(aD.refl _ _).drew,?_⟩;refine qF.i (λ_ hw=>aD.at hw a1 ak) ?_;refine qF.i (λ_ hw=>aD.at hw a2 ak) ?_;refine Xv.i (.bool (!(k==k2))) (λw' _=>AB w' _ _ _ _) ?_;refine AA ?_;refine Q1.gd (!(nn==Bc)) (λ_ kx ed=>?_) ?_
 .refine qF.i (λ_ hw=>aD.at hw a1 ak) ?_;refine qF.i (λ_ hw=>aD.at hw a2 ak) ?_;refine Xv.i (.bool (!(nn==Bc))) (λw' _=>Yr w' _ _ _ _) ?_;exact ed
 refine Xv.i _ (λw' _=>fI w' _ _) ?_;refine Q1.gd (!(x==x2)) (λ_ kx ed=>?_) ?_
 .refine qF.i (λ_ hw=>aD.at hw a1 ak) ?_;refine qF.i (λ_ hw=>aD.at hw a2 ak) ?_;refine Xv.i (.bool (!(x==x2))) (λw' _=>KN w' _ _ _ _) ?_;exact ed
 refine Xv.i _ (λw' _=>fI w' _ _) ?_;refine Q1.gd (!decide ((len ks)=(len oy))) (λ_ kx ed=>?_) ?_
 .refine qF.i (λ_ hw=>aD.at hw a1 ak) ?_;refine Xv.i (.int .i64 ((len ks):Nat)) (λw' _=>by simp[go_sem]) ?_;refine qF.i (λ_ hw=>aD.at hw a2 ak) ?_;refine Xv.i (.int .i64 ((len oy):Nat)) (λw' _=>by simp[go_sem]) ?_;refine Xv.i _ (λw' _=>Ew w' _ _ _ _) ?_;exact ed
 refine Xv.i _ (λw' _=>fI w' _ _) ?_;refine Q1.gd (!decide ((len gs)=(len oz))) (λ_ kx ed=>?_) ?_
 .refine qF.i (λ_ hw=>aD.at hw a1 ak) ?_;refine Xv.i (.int .i64 ((len gs):Nat)) (λw' _=>by simp[go_sem]) ?_;refine qF.i (λ_ hw=>aD.at hw a2 ak) ?_;refine Xv.i (.int .i64 ((len oz):Nat)) (λw' _=>by simp[go_sem]) ?_;refine Xv.i _ (λw' _=>Ew w' _ _ _ _) ?_;exact ed
 refine Xv.i _ (λw' _=>fI w' _ _) ?_;refine Q1.gd (!decide (ps.length=ix.length)) (λ_ kx ed=>?_) ?_
 .refine qF.i (λ_ hw=>aD.at hw a1 ak) ?_;refine Xv.i (.int .i64 (ps.length:Nat)) (λw' _=>by simp[go_sem]) ?_;refine qF.i (λ_ hw=>aD.at hw a2 ak) ?_;refine Xv.i (.int .i64 (ix.length:Nat)) (λw' _=>by simp[go_sem]) ?_;refine Xv.i _ (λw' _=>Ew w' _ _ _ _) ?_;exact ed
 refine Xv.i _ (λw' _=>fI w' _ _) ?_;intro w1 K1;by_cases eY:k=k2/\nn=Bc/\x=x2/\len ks=len oy/\len gs=len oz/\ps.length=ix.length
 rotate_left
 .refine If.t' ?_ ⟨?_,K1⟩
  .clear H rk CA rg CB rp Ex rl tK rr tL rb tM a1 a2 K1 hk km hg yA hl gI hr gO hb sC HW HX Ys Yt hz hn;by_cases h1:k=k2<;>by_cases h2:nn=Bc<;>by_cases h3:x=x2<;>by_cases h4:len ks=len oy<;>by_cases h5:len gs=len oz<;>by_cases h6:ps.length=ix.length<;>simp_all
  .rw[fX];intro e;injection e with e1 e2 e3 e4 e5 e6 e7 e8 e9;subst e1 e2 e3 e6 e7 e8;exact eY ⟨rfl,rfl,rfl,rfl,rfl,rfl⟩
 obtain⟨rfl,rfl,rfl,ux,OI,hlp⟩:=eY;refine If.f' (by simp[ux,OI,hlp]) ?_;rw[zu];simp only[BEq.rfl,Bool.true_and];replace a1:=K1.at a1 ak;replace a2:=K1.at a2 ak;have su:=Strs.aA K1 (λb h1 _=>⟨by simp,h1⟩) rp;have sv:=Strs.aA K1 (λb h1 _=>⟨by simp,h1⟩) Ex;replace rl:=aP.new K1 _ _ rl;replace tK:=aP.new K1 _ _ tK;replace rr:=aP.new K1 _ _ rr;replace tL:=aP.new K1 _ _ tL;replace rk:=aP.new K1 _ _ rk;replace CA:=aP.new K1 _ _ CA;replace rg:=aP.new K1 _ _ rg;replace CB:=aP.new K1 _ _ CB;replace rb:=aP.new K1 _ _ rb;replace tM:=aP.new K1 _ _ tM;clear rp Ex;unfold aX at hn
 refine L2.i (λx0 x1 w'=>∃i:Nat,x1=.int .i64 (i:Nat)/\i<=ps.length/\ps.take i=ix.take i/\aD [] w1 w') (λ_ v _=>match v with|.int _ n=>(ps.length-n.toNat)|_=>0) ⟨0,rfl,by omega,by simp,aD.refl _ _⟩ ?_;rintro x0 x1 w2 ⟨i,rfl,hi,Qq,K2⟩;have vS:=K2.at a1 ak;have AD:=K2.at a2 ak;refine lF.i vS ?_;refine V1.i ah ?_;by_cases bO:i<ps.length
 .refine V1.bt ay ?_;refine If.t ?_;have oF:i<ix.length:=by omega
  obtain⟨qa,rfl,_⟩:=su.get bO;obtain⟨qb,rfl,_⟩:=sv.get oF;have Wp:=Strs.aA K2 (λb h1 _=>⟨by simp,h1⟩) su;have Wq:=Strs.aA K2 (λb h1 _=>⟨by simp,h1⟩) sv;refine⟨λw'=>aD [] w2 w',(aD.refl _ _).drew,?_⟩;refine qF.i (λ_ hw=>aD.at hw vS ak) ?_;refine Xv.i _ (λw' _=>mD w' bO) ?_;refine Xv.i (str ps[i]) (λw' hw=>(aC rfl) _ _ _ (Strs.cell (Strs.aA hw (λb h1 _=>⟨by simp,h1⟩) Wp) bO)) ?_;refine qF.i (λ_ hw=>aD.at hw AD ak) ?_;refine Xv.i _ (λw' _=>mD w' oF) ?_;refine Xv.i (str ix[i]) (λw' hw=>(aC rfl) _ _ _ (Strs.cell (Strs.aA hw (λb h1 _=>⟨by simp,h1⟩) Wq) oF)) ?_;refine Xv.i _ (λw' _=>KN w' _ _ _ _) ?_;intro w3 K3;by_cases hx:ps[i]=ix[i]
  .rw[show(!(ps[i]==ix[i]))=false by simp[hx]];refine If.f ?_;refine V1.i (cC _ _ _ _ _ _ aj aj) ?_;refine⟨⟨i+1,by simp,by omega,?_,K2.trans K3⟩,by simp;omega⟩;rw[take_succ_eq_append_getElem bO,take_succ_eq_append_getElem oF,Qq,hx]
  .rw[show(!(ps[i]==ix[i]))=true by simp[hx]];refine If.t ⟨?_,(K1.trans K2).trans K3⟩;rw[show(ps==ix)=false by simp;rintro rfl;exact hx rfl];simp
 obtain rfl:i=ps.length:=by omega
 refine V1.bf au ?_;refine If.f ?_;rw[take_length,hlp,take_length]at Qq;subst Qq;simp only[BEq.rfl,Bool.and_true];clear bO hi;refine L2.i (λx0 x1 w'=>∃i j s' t',x1=.int .i64 (i:Nat)/\i+j=len ks/\i+tz s'<=n/\wf s' 1=true/\wf t' 1=true/\cI F w' s' ka i j/\cI F w' t' Yu i j/\aD [] w1 w'/\dr ks oy=dr s' t') (λ_ v _=>match v with|.int _ n=>(len ks-n.toNat)|_=>0) ⟨0,len ks,ks,oy,rfl,by omega,by omega,hk,km,(aP.new K2 _ _ rk).rowAt HW,by rw[ux];exact(aP.new K2 _ _ CA).rowAt Ys,K2,rfl⟩ ?_;rintro x0 x1 w4 ⟨i,j,s',t',rfl,tC,zw,CN,xB,os,ot,K4,he⟩;have vS:=K4.at a1 ak;have AD:=K4.at a2 ak;refine lF.i vS ?_;refine V1.i ah ?_;rcases dn CN with rfl|⟨x',l',rfl,hx,Cz⟩
 rotate_left
 .rcases os with⟨h,_⟩|⟨q0,rfl,j',u,rfl,hc,hf,rx,E1⟩
  .cases h
  have ol:cI F w4 l' (some ⟨q0,0,none⟩) (i+1) j':=.inr ⟨q0,rfl,E1⟩;rcases dn xB with rfl|⟨y,m,rfl,hy,hm⟩
  .rcases ot with⟨_,h⟩|⟨q0,_,h⟩
   .omega
   .exact absurd (show j'+1=0 from h) aj
  rcases ot with⟨h,_⟩|⟨q3,rfl,j2,u2,e2,kI,IA,ry,rm⟩
  .cases h
  obtain rfl:j'=j2:=by omega
  have om:cI F w4 m (some ⟨q3,0,none⟩) (i+1) j':=.inr ⟨q3,rfl,rm⟩;clear E1 rm;have Bb:=zw;simp only[tz]at Bb;have xt:=bE x';have wL:=bE l';refine V1.bt ay ?_;refine If.t ?_;refine⟨λw'=>aD [] w4 w',(aD.refl _ _).drew,?_⟩;refine qF.i (λ_ hw=>aD.at hw vS ak) ?_;refine Xv.i _ (λw' _=>mL aj) ?_;refine Xv.i u (λw' hw=>(aC rfl) _ _ _ (hw.cell hc ak)) ?_;refine qF.i (λ_ hw=>aD.at hw AD ak) ?_;refine Xv.i _ (λw' _=>mL aj) ?_;refine Xv.i u2 (λw' hw=>(aC rfl) _ _ _ (hw.cell kI ak)) ?_
  refine Xq.call (fn:=f50) (.bool (dr x' y)) (aJ func50 (c:=bA f50) ai ai _) (λw' hw=>(H.expr aj hx hy (aP.new hw _ _ rx) (aP.new hw _ _ ry)).mono ?_) ?_
  .exact cS hw
  refine Xv.i (.bool (!(dr x' y))) (λw' _=>by simp[go_sem]) ?_;intro w4x Sn;rw[ir]at he
  cases uJ:dr x' y with
  |false=>
   rw[uJ,Bool.false_and]at he;refine If.t ⟨?_,(K1.trans K4).trans Sn⟩;rw[he];simp
  |true=>
   rw[uJ,Bool.true_and]at he;refine If.f ?_;refine V1.i (cC _ _ _ _ _ _ aj aj) ?_;exact⟨⟨i+1,j',l',m,by simp,by omega,by omega,Cz,hm,ol.aA Sn,om.aA Sn,K4.trans Sn,he⟩,by simp;omega⟩
 have hj:j=0:=by
  rcases os with⟨_,h⟩|⟨q0,_,h⟩
  .exact h
  .exact h
 subst hj;have het:dr ks oy=true:=by
  rw[he];rcases dn xB with rfl|⟨y,m,rfl,hy,hm⟩
  .rw[eQ]
  .rcases ot with⟨h,_⟩|⟨q0,_,j',u,h,_⟩
   .cases h
   .omega
 refine V1.bf ay ?_;refine If.f ?_;rw[het];simp only[Bool.true_and,Bool.and_true];clear os ot he tC zw CN xB vS AD;refine L2.i (λx0 x1 w'=>∃i j s' t',x1=.int .i64 (i:Nat)/\i+j=len gs/\i+tz s'<=n/\wf s' 1=true/\wf t' 1=true/\cI F w' s' ga i j/\cI F w' t' ga2 i j/\aD [] w1 w'/\dr gs oz=dr s' t') (λ_ v _=>match v with|.int _ n=>(len gs-n.toNat)|_=>0) ⟨0,len gs,gs,oz,rfl,by omega,by omega,hg,yA,(aP.new K4 _ _ rg).rowAt HX,by rw[OI];exact(aP.new K4 _ _ CB).rowAt Yt,K4,rfl⟩ ?_;rintro x0 x1 w6 ⟨i,j,s',t',rfl,tC,zw,CN,xB,os,ot,K6,he⟩;have vS:=K6.at a1 ak;have AD:=K6.at a2 ak;refine lF.i vS ?_;refine V1.i ah ?_;rcases dn CN with rfl|⟨x',l',rfl,hx,Cz⟩
 rotate_left
 .rcases os with⟨h,_⟩|⟨q0,rfl,j',u,rfl,hc,hf,rx,E1⟩
  .cases h
  have ol:cI F w6 l' (some ⟨q0,0,none⟩) (i+1) j':=.inr ⟨q0,rfl,E1⟩;rcases dn xB with rfl|⟨y,m,rfl,hy,hm⟩
  .rcases ot with⟨_,h⟩|⟨q0,_,h⟩
   .omega
   .exact absurd (show j'+1=0 from h) aj
  rcases ot with⟨h,_⟩|⟨q3,rfl,j2,u2,e2,kI,IA,ry,rm⟩
  .cases h
  obtain rfl:j'=j2:=by omega
  have om:cI F w6 m (some ⟨q3,0,none⟩) (i+1) j':=.inr ⟨q3,rfl,rm⟩;clear E1 rm;have Bb:=zw;simp only[tz]at Bb;have xt:=bE x';have wL:=bE l';refine V1.bt ay ?_;refine If.t ?_;refine⟨λw'=>aD [] w6 w',(aD.refl _ _).drew,?_⟩;refine qF.i (λ_ hw=>aD.at hw vS ak) ?_;refine Xv.i _ (λw' _=>mL aj) ?_;refine Xv.i u (λw' hw=>(aC rfl) _ _ _ (hw.cell hc ak)) ?_;refine qF.i (λ_ hw=>aD.at hw AD ak) ?_;refine Xv.i _ (λw' _=>mL aj) ?_;refine Xv.i u2 (λw' hw=>(aC rfl) _ _ _ (hw.cell kI ak)) ?_
  refine Xq.call (fn:=f50) (.bool (dr x' y)) (aJ func50 (c:=bA f50) ai ai _) (λw' hw=>(H.expr aj hx hy (aP.new hw _ _ rx) (aP.new hw _ _ ry)).mono ?_) ?_
  .exact cS hw
  refine Xv.i (.bool (!(dr x' y))) (λw' _=>by simp[go_sem]) ?_;intro w6x So;rw[ir]at he
  cases uJ:dr x' y with
  |false=>
   rw[uJ,Bool.false_and]at he;refine If.t ⟨?_,(K1.trans K6).trans So⟩;rw[he];simp
  |true=>
   rw[uJ,Bool.true_and]at he;refine If.f ?_;refine V1.i (cC _ _ _ _ _ _ aj aj) ?_;exact⟨⟨i+1,j',l',m,by simp,by omega,by omega,Cz,hm,ol.aA So,om.aA So,K6.trans So,he⟩,by simp;omega⟩
 have hj:j=0:=by
  rcases os with⟨_,h⟩|⟨q0,_,h⟩
  .exact h
  .exact h
 subst hj;have het:dr gs oz=true:=by
  rw[he];rcases dn xB with rfl|⟨y,m,rfl,hy,hm⟩
  .rw[eQ]
  .rcases ot with⟨h,_⟩|⟨q0,_,j',u,h,_⟩
   .cases h
   .omega
 refine V1.bf ay ?_;refine If.f ?_;rw[het];simp only[Bool.true_and,Bool.and_true];clear os ot he tC zw CN xB vS AD;have vS:=K6.at a1 ak;have AD:=K6.at a2 ak;replace rl:=aP.new K6 _ _ rl;replace tK:=aP.new K6 _ _ tK;replace rr:=aP.new K6 _ _ rr;replace tL:=aP.new K6 _ _ tL;replace rb:=aP.new K6 _ _ rb;replace tM:=aP.new K6 _ _ tM;refine⟨λw'=>aD [] w6 w',(aD.refl _ _).drew,?_⟩;refine qF.i (λ_ hw=>aD.at hw vS ak) ?_;refine qF.i (λ_ hw=>aD.at hw AD ak) ?_;refine Xq.call (fn:=f50) (.bool (dr l l2)) (aJ func50 (c:=bA f50) ai ai _) (λw' hw=>(H.expr aj hl gI (aP.new hw _ _ rl) (aP.new hw _ _ tK)).mono ?_) ?_
 .exact cS hw
 refine Q1.gd (dr r r2) (λ_ kx ed=>?_) ?_
 .refine qF.i (λ_ hw=>aD.at hw vS ak) ?_;refine qF.i (λ_ hw=>aD.at hw AD ak) ?_;refine Xq.call (fn:=f50) (.bool (dr r r2)) (aJ func50 (c:=bA f50) ai ai _) (λw' hw=>(H.expr aj hr gO (aP.new hw _ _ rr) (aP.new hw _ _ tL)).mono ?_) ?_
  .exact cS hw
  exact ed
 refine Xv.i _ (λw' _=>gi w' _ _) ?_;refine Q1.gd (dr b b2) (λ_ kx ed=>?_) ?_
 .refine qF.i (λ_ hw=>aD.at hw vS ak) ?_;refine qF.i (λ_ hw=>aD.at hw AD ak) ?_;refine Xq.call (fn:=f26) (.bool (dr b b2)) (aJ func26 (c:=bA f26) ai ai _) (λw' hw=>(H.Dh aj hb sC (aP.new hw _ _ rb) (aP.new hw _ _ tM)).mono ?_) ?_
  .exact cS hw
  exact ed
 refine Xv.i _ (λw' _=>gi w' _ _) ?_;intro w8 K8;exact⟨rfl,(K1.trans K6).trans K8⟩
set_option maxHeartbeats 4000000 in
theorem c26{n:Nat}(hn:n<=aX)(H:HV n){F:Nat->Prop}{w:Wd}{s t:Tr}{u v:Va}(hz:tz s<=n+1)(hs:wf s 3=true)(ht:wf t 3=true)(rs:aP F w s (.L u))(rt:aP F w t (.L v)):
  Calls prog 26 #[u,v,.bool false] w (aZ (λx w'=>x=.bool (dr s t)/\aD [] w w') NP):=by
 refine s26 ?_;unfold S26;have is:=bF 3 ak hs;have it:=bF 3 ak ht;obtain⟨ka,kc,rfl⟩:=rs.oK is;obtain⟨Yu,kc2,rfl⟩:=rt.oK it;have os:=rs.rowAt is;have ot:=rt.rowAt it;refine V1.i ah ?_;refine V1.i ah ?_;refine V1.i (Ew _ _ _ _ _) ?_;by_cases hl:len s=len t
 rotate_left
 .rw[show decide (len s=len t)=false by simpa using hl];refine If.t ⟨?_,aD.refl _ _⟩;rw[fX (λh=>hl (by rw[h]))]
 rw[show decide (len s=len t)=true by simpa using hl];refine If.f ?_;rw[←hl]at ot;unfold aX at hn;refine L2.i (λx0 x1 w'=>∃i j s' t',x1=.int .i64 (i:Nat)/\i+j=len s/\i+tz s'<=n+1/\wf s' 3=true/\wf t' 3=true/\cI F w' s' ka i j/\cI F w' t' Yu i j/\aD [] w w'/\dr s t=dr s' t') (λ_ v _=>match v with|.int _ n=>(len s-n.toNat)|_=>0) ⟨0,len s,s,t,rfl,by omega,by omega,hs,ht,os,ot,aD.refl _ _,rfl⟩ ?_;clear os ot hs ht rs rt is it hz;rintro x0 x1 w1 ⟨i,j,s',t',rfl,tC,zw,CN,xB,os,ot,K1,he⟩;refine V1.i ah ?_;rcases dq CN with rfl|⟨x',l',rfl,hx,Cz⟩
 .have hj:j=0:=by
   rcases os with⟨_,h⟩|⟨q0,_,h⟩
   .exact h
   .exact h
  subst hj;refine V1.bf ay ?_;refine If.f ⟨?_,K1⟩;rw[he];rcases dq xB with rfl|⟨y,m,rfl,hy,hm⟩
  .rw[eQ]
  .rcases ot with⟨h,_⟩|⟨q0,_,j',u,h,_⟩
   .cases h
   .omega
 rcases os with⟨h,_⟩|⟨q0,rfl,j',u,rfl,hc,hf,rx,E1⟩
 .cases h
 have ol:cI F w1 l' (some ⟨q0,0,none⟩) (i+1) j':=.inr ⟨q0,rfl,E1⟩;rcases dq xB with rfl|⟨y,m,rfl,hy,hm⟩
 .rcases ot with⟨_,h⟩|⟨q0,_,h⟩
  .omega
  .exact absurd (show j'+1=0 from h) aj
 rcases ot with⟨h,_⟩|⟨q3,rfl,j2,u2,e2,kI,IA,ry,rm⟩
 .cases h
 obtain rfl:j'=j2:=by omega
 have om:cI F w1 m (some ⟨q3,0,none⟩) (i+1) j':=.inr ⟨q3,rfl,rm⟩;clear E1 rm;have Bb:=zw;simp only[tz]at Bb;have xt:=bE x';have wL:=bE l';refine V1.bt ay ?_;refine If.t ?_;refine J1.cut (λx w'=>dr x' y=true/\aD [] w1 w') ?_ ?_;rotate_left
 .rintro x w2 ⟨uJ,K2⟩;rw[ir,uJ,Bool.true_and]at he;refine V1.i (cC _ _ _ _ _ _ aj aj) ?_;exact⟨⟨i+1,j',l',m,by simp,by omega,by omega,Cz,hm,ol.aA K2,om.aA K2,K1.trans K2,he⟩,by simp;omega⟩
 refine⟨λw'=>aD [] w1 w',(aD.refl _ _).drew,?_⟩;refine Xv.i _ (λw' _=>uD aj) ?_;refine Xv.i u (λw' hw=>(aC rfl) _ _ _ (hw.cell hc ak)) ?_;refine Xv.i _ (λw' _=>uD aj) ?_;refine Xv.i u2 (λw' hw=>(aC rfl) _ _ _ (hw.cell kI ak)) ?_;intro w2 K2;replace rx:=aP.new K2 _ _ rx;replace ry:=aP.new K2 _ _ ry;have zl:dr x' y=false->dr s t=false:=λh=>by rw[he,ir,h,Bool.false_and]
 rcases dC hx with rfl|⟨k,x,l,r,t0,a,c,rfl⟩
 .obtain rfl:u=.pointer none:=rx;rcases dC hy with rfl|⟨k2,x2,l2,r2,t2,b,d,rfl⟩
  .obtain rfl:u2=.pointer none:=ry;repeat(first|refine J1.go ?_|refine J0.go ?_|refine Gd.tt ?_|refine Gd.ff ?_|refine Gd.tf ?_|refine Gd.ft ?_|refine Gd.u ?_|refine If.t ?_|refine If.f ?_|refine Up.i (Nc.p _ _) ?_|refine V1.load (aC rfl) aw rfl ?_|refine V1.i (w':=w2) ax ?_)
   exact⟨eQ _,K2⟩
  .obtain⟨qq2,iq,uE,uF,Oc,uG,uH,rfl,_,b2,tK,tL,Og,Oh,tM⟩:=ry;unfold ptr;repeat(first|refine J1.go ?_|refine J0.go ?_|refine Gd.tt ?_|refine Gd.ff ?_|refine Gd.tf ?_|refine Gd.ft ?_|refine Gd.u ?_|refine If.t ?_|refine If.f ?_|refine Up.i (Nc.p _ _) ?_|refine V1.load (aC rfl) aw rfl ?_|refine V1.i (w':=w2) ax ?_)
   exact⟨by rw[zl (fX bg)],K1.trans K2⟩
 .obtain⟨qq,line,lv,rv,tv,av,bv,rfl,_,b1,rl,rr,Wt,ra,rb⟩:=rx;rcases dC hy with rfl|⟨k2,x2,l2,r2,t2,b,d,rfl⟩
  .obtain rfl:u2=.pointer none:=ry;unfold ptr;repeat(first|refine J1.go ?_|refine J0.go ?_|refine Gd.tt ?_|refine Gd.ff ?_|refine Gd.tf ?_|refine Gd.ft ?_|refine Gd.u ?_|refine If.t ?_|refine If.f ?_|refine Up.i (Nc.p _ _) ?_|refine V1.load (aC rfl) aw rfl ?_|refine V1.i (w':=w2) ax ?_)
   exact⟨by rw[zl (fX bg)],K1.trans K2⟩
  obtain⟨qq2,iq,uE,uF,Oc,uG,uH,rfl,_,b2,tK,tL,Og,Oh,tM⟩:=ry;simp only[wf,and_eq_true]at hx hy;obtain⟨⟨⟨⟨hl,hr⟩,Wu⟩,ha⟩,hb⟩:=hx;obtain⟨⟨⟨⟨gI,gO⟩,Ez⟩,D2⟩,sC⟩:=hy;simp only[tz]at Bb;unfold ptr;refine V1.bf au ?_;refine J1.go (Gd.ff ?_);refine V1.bf au ?_;refine V1.bf au ?_;refine If.f ?_;refine⟨λw'=>aD [] w2 w',(aD.refl _ _).drew,?_⟩;refine qF.i (λ_ hw=>aD.at hw b1 ak) ?_;refine qF.i (λ_ hw=>aD.at hw b2 ak) ?_;refine Xv.i (.bool (!(k==k2))) (λw' _=>AB w' _ _ _ _) ?_;refine AA ?_;refine Q1.gd (!(x==x2)) (λ_ kx ed=>?_) ?_
  .refine qF.i (λ_ hw=>aD.at hw b1 ak) ?_;refine qF.i (λ_ hw=>aD.at hw b2 ak) ?_;refine Xv.i (.bool (!(x==x2))) (λw' _=>KN w' _ _ _ _) ?_;exact ed
  refine Xv.i _ (λw' _=>fI w' _ _) ?_;refine Q1.gd (!(dr l l2)) (λ_ kx ed=>?_) ?_
  .refine qF.i (λ_ hw=>aD.at hw b1 ak) ?_;refine qF.i (λ_ hw=>aD.at hw b2 ak) ?_;refine Xq.call (fn:=f50) (.bool (dr l l2)) (aJ func50 (c:=bA f50) ai ai _) (λw' hw=>(H.expr aj hl gI (aP.new hw _ _ rl) (aP.new hw _ _ tK)).mono ?_) ?_
   .exact cS hw
   refine Xv.i (.bool (!(dr l l2))) (λw' _=>by simp[go_sem]) ?_;exact ed
  refine Xv.i _ (λw' _=>fI w' _ _) ?_;refine Q1.gd (!(dr r r2)) (λ_ kx ed=>?_) ?_
  .refine qF.i (λ_ hw=>aD.at hw b1 ak) ?_;refine qF.i (λ_ hw=>aD.at hw b2 ak) ?_;refine Xq.call (fn:=f50) (.bool (dr r r2)) (aJ func50 (c:=bA f50) ai ai _) (λw' hw=>(H.expr aj hr gO (aP.new hw _ _ rr) (aP.new hw _ _ tL)).mono ?_) ?_
   .exact cS hw
   refine Xv.i (.bool (!(dr r r2))) (λw' _=>by simp[go_sem]) ?_;exact ed
  refine Xv.i _ (λw' _=>fI w' _ _) ?_;refine Q1.gd (!(dr t0 t2)) (λ_ kx ed=>?_) ?_
  .refine qF.i (λ_ hw=>aD.at hw b1 ak) ?_;refine qF.i (λ_ hw=>aD.at hw b2 ak) ?_;refine Xq.call (fn:=f50) (.bool (dr t0 t2)) (aJ func50 (c:=bA f50) ai ai _) (λw' hw=>(H.expr aj Wu Ez (aP.new hw _ _ Wt) (aP.new hw _ _ Og)).mono ?_) ?_
   .exact cS hw
   refine Xv.i (.bool (!(dr t0 t2))) (λw' _=>by simp[go_sem]) ?_;exact ed
  refine Xv.i _ (λw' _=>fI w' _ _) ?_;refine Q1.gd (!(dr a b)) (λ_ kx ed=>?_) ?_
  .refine qF.i (λ_ hw=>aD.at hw b1 ak) ?_;refine qF.i (λ_ hw=>aD.at hw b2 ak) ?_;refine Xq.call (fn:=f26) (.bool (dr a b)) (aJ func26 (c:=bA f26) ai ai _) (λw' hw=>(H.Dh aj ha D2 (aP.new hw _ _ ra) (aP.new hw _ _ Oh)).mono ?_) ?_
   .exact cS hw
   refine Xv.i (.bool (!(dr a b))) (λw' _=>by simp[go_sem]) ?_;exact ed
  refine Xv.i _ (λw' _=>fI w' _ _) ?_;refine Q1.gd (!(dr c d)) (λ_ kx ed=>?_) ?_
  .refine qF.i (λ_ hw=>aD.at hw b1 ak) ?_;refine qF.i (λ_ hw=>aD.at hw b2 ak) ?_;refine Xq.call (fn:=f26) (.bool (dr c d)) (aJ func26 (c:=bA f26) ai ai _) (λw' hw=>(H.Dh aj hb sC (aP.new hw _ _ rb) (aP.new hw _ _ tM)).mono ?_) ?_
   .exact cS hw
   refine Xv.i (.bool (!(dr c d))) (λw' _=>by simp[go_sem]) ?_;exact ed
  refine Xv.i _ (λw' _=>fI w' _ _) ?_;intro w3 K3;have mC:(((((((!(k==k2))||!(x==x2))||!(dr l l2))||!(dr r r2))||!(dr t0 t2))||!(dr a b))||!(dr c d))=!(dr (.st k x l r t0 a c) (.st k2 x2 l2 r2 t2 b d)):=by
   rw[zv];simp only[Bool.not_and]
  rw[mC]
  cases uJ:dr (.st k x l r t0 a c) (.st k2 x2 l2 r2 t2 b d)with
  |true=>exact If.f ⟨rfl,K2.trans K3⟩
  |false=>
   refine If.t ⟨?_,(K1.trans K2).trans K3⟩;rw[zl uJ]
theorem qQ:∀n,n<=aX->HV n
 |0,_=>⟨fun{_ _ s _ _ _} h=>absurd h (by have:=bE s;omega),fun{_ _ s _ _ _} h=>absurd h (by have:=bE s;omega)⟩
 |n+1,hn=>⟨c50 aj (qQ n aj),c26 aj (qQ n aj)⟩
end Go.Proofs.YtoddjlclpnoomaaGreatDoor

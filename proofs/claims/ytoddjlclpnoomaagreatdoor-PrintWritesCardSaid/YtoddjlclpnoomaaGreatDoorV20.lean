import Derived.Deep.WholeRow
import Derived.Laws.RangeAny
import Derived.Lib.OthersKept
import Derived.Lib.TrimAscii
import Derived.Lib.TrimUEq
import Derived.Test.YtoddjlclpnoomaaGreatDoorV19
set_option linter.unusedVariables false
set_option linter.unusedSimpArgs false
set_option maxRecDepth 100000
open Go.Proofs.Tryz
open List (mem_cons cons_append contains_cons drop_eq_getElem_cons getElem_mem take_succ_eq_append_getElem toList_toArray length_nil take_length set_cons_zero set_cons_succ dropWhile_cons length_drop)
open Nat (le_refl le_trans)
open Go.Value (cells)
open Bool (false_eq_true)
open Option (mem_toList mem_def)
namespace Go.Proofs.YtoddjlclpnoomaaGreatDoor
def bV(n:Nat)(l:By):Nat:=match l with
 |[]=>0
 |c::_=>c.toNat%n
def Iw:LB:=[[97],[98],[99],[97],[101,110,100],[49,120]]
def GU:LB:=[[97],[101,110,100],[49,120],[],[34,10,255]]
def NL:LB:=[[45],[110,111,116],[35],[126],[43]]
def zg:LB:=[[111,114],[97,110,100],[60],[61,61],[126,61],[124],[126],[38],[60,60],[46,46],[46,46],[43],[45],[42],[47,47],[37],[46,46],[47]]
def dZ(l:By):By:=if bV 9 l<8 then Iw.getD (bV 4 l.tail) []else Iw.getD (bV 6 l.tail) []
def nN(u:Bool)(l:By):By:=if u=true then NL.getD (bV 40 l%9%5) []else zg.getD (bV 100 l%35%18) []
def gj:Nat->By->LB
 |0,_=>[]
 |n+1,l=>dZ l::gj n l.tail.tail
def nO:Nat->By->By
 |0,l=>l
 |n+1,l=>nO n l.tail.tail
inductive MR where
 |ok (t:Tr) (l:By) (p:Nat)
 |bH
def MR.bind(r:MR)(f:Tr->By->Nat->MR):MR:=match r with
 |.ok t l p=>f t l p
 |.bH=>.bH
inductive MC where
 |expr (d:Int)|args (k:Nat) (acc:Tr) (d:Int)|items (k:Nat) (ks gs:Tr) (d:Int)|stmts (d:Int)|dO (k:Nat) (acc:Tr) (d:Int)|fill (k:Nat) (d:Int)
def fF(k n:Nat)(l:By):Nat:=if k=8/\1<n/\bV 9 l<8 then 9 else k
def js(k n:Nat)(l:By):By:=if k=8/\1<n then l.tail else l
def setKind(t:Tr)(k:Nat):Tr:=match t with
 |.st _ nm l r t a b=>.st k nm l r t a b
 |t=>t
def mk:Nat->MC->By->Nat->MR
 |0,_,_,_=>.bH
 |n+1,c,l,p=>match c with
  |.expr d=>if bV 90 l.tail=89 then .ok .nil l.tail.tail (p+1)
   else if d<1\/300<p+1 then .ok (lf 6 0 (dZ l.tail.tail.tail)) l.tail.tail.tail.tail.tail (p+1)
   else match bV 12 l with
    |3=>.ok (lf 4 (if bV 8 l.tail.tail.tail=7 then-5 else bV 8 l.tail.tail.tail) []) l.tail.tail.tail.tail (p+1)
    |4=>.ok (lf 5 0 (GU.getD (bV 5 l.tail.tail.tail) [])) l.tail.tail.tail.tail (p+1)
    |5=>.ok (lf 6 0 (dZ l.tail.tail.tail)) l.tail.tail.tail.tail.tail (p+1)
    |6=>(mk n (.expr (d-1)) l.tail.tail.tail (p+1)).bind λa l p=>(mk n (.expr (d-1)) l p).bind λb l p=>.ok (.ex 7 0 [] a b .nil .nil [] .nil) l p
    |7=>(mk n (.expr (d-1)) l.tail.tail.tail (p+1)).bind λa l p=>(mk n (.args (bV 3 l) .nil d) l.tail p).bind λgs l p=>.ok (.ex 8 0 [] a .nil .nil gs [] .nil) l p
    |8=>(mk n (.stmts (d-1)) (nO (bV 3 l.tail.tail.tail) l.tail.tail.tail.tail) (p+1)).bind λb l' p=>.ok (.ex 9 0 [] .nil .nil .nil .nil (gj (bV 3 l.tail.tail.tail) l.tail.tail.tail.tail) b) l' p
    |9=>(mk n (.expr (d-1)) l.tail.tail.tail.tail (p+1)).bind λb l' p=>.ok (.ex 10 0 (nN true l.tail.tail.tail) .nil b .nil .nil [] .nil) l' p
    |10=>(mk n (.expr (d-1)) l.tail.tail.tail.tail (p+1)).bind λa l' p=>(mk n (.expr (d-1)) l' p).bind λb l' p=>.ok (.ex 11 0 (nN false l.tail.tail.tail) a b .nil .nil [] .nil) l' p
    |11=>(mk n (.items (bV 4 l.tail.tail.tail) .nil .nil d) l.tail.tail.tail.tail (p+1)).bind λr l p=>match r with
     |.cons ks (.cons gs .nil)=>.ok (.ex 12 0 [] .nil .nil (if bV 90 l=89 then snoc ks .nil else ks) gs [] .nil) l.tail p
     |_=>.bH
    |k=>.ok (lf (1+k) 0 []) l.tail.tail.tail (p+1)
  |.args k acc d=>match k with
   |0=>.ok acc l p
   |k+1=>(mk n (.expr (d-1)) l p).bind λa l p=>mk n (.args k (snoc acc a) d) l p
  |.items k ks gs d=>match k with
   |0=>.ok (.cons ks (.cons gs .nil)) l p
   |k+1=>(if bV 2 l=1 then mk n (.expr (d-1)) l.tail p else .ok .nil l.tail p).bind λx l p=>(mk n (.expr (d-1)) l p).bind λa l p=>mk n (.items k (snoc ks x) (snoc gs a) d) l p
  |.stmts d=>(mk n (.dO (bV 4 l) .nil d) l.tail p).bind λt l p=>.ok (if bV 120 l=119 then snoc t .nil else t) l.tail p
  |.dO k acc d=>match k with
   |0=>.ok acc l p
   |k+1=>(mk n (.fill (if d<1\/300<p+1 then 9 else fF (1+bV 11 l) (k+1) l.tail.tail) (d-1)) (js (1+bV 11 l) (k+1) l.tail.tail) (p+1)).bind λs l p=>
    if bV 60 l=59 then mk n (.dO k (snoc acc (setKind s (bV 14 l.tail))) d) l.tail.tail p else mk n (.dO k (snoc acc s) d) l.tail p
  |.fill k d=>match k with
   |1=>if bV 2 l.tail.tail=1 then(mk n (.expr d) l.tail.tail.tail p).bind λr l' p=>.ok (.st 1 (dZ l) .nil r .nil .nil .nil) l' p else .ok (.st 1 (dZ l) .nil .nil .nil .nil .nil) l.tail.tail.tail p
   |2=>(if bV 2 l.tail.tail=1 then(mk n (.expr d) l.tail.tail.tail p).bind λa l p=>(mk n (.expr d) l p).bind λb l p=>.ok (.ex 7 0 [] a b .nil .nil [] .nil) l p else .ok (lf 6 0 (dZ l)) l.tail.tail.tail p).bind λx l p=>
     (mk n (.expr d) l p).bind λr l p=>.ok (.st 2 [] x r .nil .nil .nil) l p
   |3=>(mk n (.expr d) l p).bind λa l p=>.ok (.st 3 [] .nil (.ex 8 0 [] a .nil .nil .nil [] .nil) .nil .nil .nil) l p
   |4=>(mk n (.stmts d) l p).bind λa l p=>.ok (.st 4 [] .nil .nil .nil a .nil) l p
   |5=>(mk n (.expr d) l p).bind λr l p=>(mk n (.stmts d) l p).bind λa l p=>.ok (.st 5 [] .nil r .nil a .nil) l p
   |6=>(mk n (.expr d) l p).bind λr l p=>(mk n (.stmts d) l p).bind λa l p=>(mk n (.stmts d) l p).bind λb l p=>.ok (.st 6 [] .nil r .nil a b) l p
   |7=>(mk n (.expr d) l.tail.tail p).bind λr l' p=>(mk n (.expr d) l' p).bind λt l' p=>(mk n (.stmts d) l' p).bind λa l' p=>.ok (.st 7 (dZ l) .nil r t a .nil) l' p
   |8=>if bV 2 l=1 then(mk n (.expr d) l.tail p).bind λr l p=>.ok (.st 8 [] .nil r .nil .nil .nil) l p else .ok (.st 8 [] .nil .nil .nil .nil .nil) l.tail p
   |10=>(mk n (.stmts d) l p).bind λa l p=>(mk n (.stmts d) l.tail.tail p).bind λb l' p=>.ok (.st 10 (dZ l) .nil .nil .nil a b) l' p
   |11=>(mk n (.stmts d) l.tail.tail p).bind λb l' p=>.ok (.st 11 (dZ l) .nil (.ex 9 0 [] .nil .nil .nil .nil [] b) .nil .nil .nil) l' p
   |k=>.ok (.st k [] .nil .nil .nil .nil .nil) l p
theorem fe(n:Nat)(l:By)(h:0<n):bV n l<n:=by
 cases l with
 |nil=>exact h
 |cons c l=>exact Nat.mod_lt _ h
theorem qy(n:Nat)(l:By):(bV n l=0/\l.tail.length<=l.length)\/l.tail.length+1=l.length:=by
 cases l with
 |nil=>exact .inl ⟨rfl,le_refl _⟩
 |cons c l=>exact .inr rfl
theorem bP(l:By):l.tail.length<=l.length:=by
 cases l with
 |nil=>exact le_refl _
 |cons c l=>exact Nat.le_succ _
theorem nP:∀(n:Nat) (l:By),(nO n l).length<=l.length
 |0,l=>le_refl _
 |n+1,l=>le_trans (nP n _) (le_trans (bP _) (bP _))
theorem mu:∀(n:Nat) (l:By),(gj n l).length=n
 |0,l=>rfl
 |n+1,l=>by simp[gj,mu n]
def cG:MC->Nat
 |.expr d=>12*(d+1).toNat+16
 |.args k _ d=>12*d.toNat+17+k
 |.items k _ _ d=>12*d.toNat+17+k
 |.stmts d=>12*(d+1).toNat+26
 |.dO k _ d=>if d<1 then 3+k else 12*d.toNat+28+k
 |.fill k d=>if k=9 then 1 else 12*(d+1).toNat+27
def sG:MC->Prop
 |.args _ acc d=>wf acc 1=true/\1<=d
 |.items _ ks gs d=>wf ks 1=true/\wf gs 1=true/\1<=d
 |.dO _ acc _=>wf acc 3=true
 |.fill k d=>k=9\/0<=d
 |_=>True
def nQ:MC->By->Nat->Tr->By->Nat->Prop
 |.expr _,l,p,t,l',p'=>wf t 0=true/\cn t+40*l'.length<=40*l.length+1/\p'+40*l'.length<=p+40*l.length+1
 |.args k acc _,l,p,t,l',p'=>wf t 1=true/\cn t+40*l'.length<=cn acc+40*l.length+2*k/\p'+40*l'.length<=p+40*l.length+k
 |.items k ks gs _,l,p,t,l',p'=>(∃a b,t=.cons a (.cons b .nil)/\wf a 1=true/\wf b 1=true/\cn a+cn b+40*l'.length<=cn ks+cn gs+40*l.length+4*k)/\p'+40*l'.length<=p+40*l.length+2*k
 |.stmts _,l,p,t,l',p'=>wf t 3=true/\cn t+40*l'.length<=40*l.length+1/\p'+40*l'.length<=p+40*l.length
 |.dO k acc _,l,p,t,l',p'=>wf t 3=true/\cn t+40*l'.length<=cn acc+40*l.length+8*k/\p'+40*l'.length<=p+40*l.length+8*k
 |.fill k _,l,p,t,l',p'=>(∃nm x r tt a b,t=.st k nm x r tt a b/\wf t 2=true)/\cn t+40*l'.length<=40*l.length+6/\p'+40*l'.length<=p+40*l.length+4
def MG(P:Tr->By->Nat->Prop):MR->Prop
 |.ok t l p=>P t l p
 |.bH=>False
theorem MG.bind{P Q:Tr->By->Nat->Prop}{r:MR}{f:Tr->By->Nat->MR}(h:MG P r)(hf:∀t l p,P t l p->MG Q (f t l p)):MG Q (r.bind f):=by
 cases r with
 |ok t l p=>exact hf t l p h
 |bH=>exact h.elim
theorem MG.imp{P Q:Tr->By->Nat->Prop}{r:MR}(h:MG P r)(hf:∀t l p,P t l p->Q t l p):MG Q r:=by
 cases r with
 |ok t l p=>exact hf t l p h
 |bH=>exact h.elim
theorem MG.ite{P:Tr->By->Nat->Prop}{c:Prop}{hd:Decidable c}{x y:MR}(hx:c->MG P x)(hy:¬c->MG P y):MG P (@ite MR c hd x y):=by
 by_cases h:c
 .rw[if_pos h];exact hx h
 .rw[if_neg h];exact hy h
theorem pD(k n:Int)(x:By)(h:i64 n=true):wf (lf k n x) 0=true/\cn (lf k n x)=1:=by simp[lf,wf,h,cn]
theorem pE(k n:Nat)(l:By):(js k n l).length<=l.length:=by
 unfold js;split
 .exact bP l
 .exact le_refl _
theorem dX:∀(n:Nat) (c:MC) (l:By) (p:Nat),cG c<=n->sG c->MG (nQ c l p) (mk n c l p)
 |0,c,l,p,hn,hp=>by
  exfalso
  cases c<;>simp only[cG]at hn<;>first|omega|(split at hn<;>omega)
 |n+1,.expr d,l,p,hn,hp=>by
  simp only[cG]at hn;simp only[mk];have t1:=bP l;have t2:=bP l.tail;have t3:=bP l.tail.tail;have t4:=bP l.tail.tail.tail;have t5:=bP l.tail.tail.tail.tail;have u:=qy 12 l;refine MG.ite (λ_=>?_) λ_=>?_
  .exact⟨rfl,by simp only[cn];omega,by omega⟩
  refine MG.ite (λ_=>?_) λhd=>?_
  .have:=pD 6 0 (dZ l.tail.tail.tail) az;exact⟨this.1,by rw[this.2];omega,by omega⟩
  have zh:1<=d:=by omega
  have hz:(d-1+1).toNat+1=(d+1).toNat:=by omega
  have A8:d.toNat+1=(d+1).toNat:=by omega
  have ex:∀l p,MG (nQ (.expr (d-1)) l p) (mk n (.expr (d-1)) l p):=λl p=>dX n (.expr (d-1)) l p (by simp only[cG];omega) trivial;split
  .have h8:=fe 8 l.tail.tail.tail az;have:=pD 4 (if bV 8 l.tail.tail.tail=7 then-5 else bV 8 l.tail.tail.tail) [] (by split<;>simp[i64]<;>omega);exact⟨this.1,by rw[this.2];omega,by omega⟩
  .have:=pD 5 0 (GU.getD (bV 5 l.tail.tail.tail) []) az;exact⟨this.1,by rw[this.2];omega,by omega⟩
  .have:=pD 6 0 (dZ l.tail.tail.tail) az;exact⟨this.1,by rw[this.2];omega,by omega⟩
  .rename_i hk
   refine(ex _ _).bind λa l1 p1 ⟨ha,GV,Ix⟩=>(ex _ _).bind λb l2 p2 ⟨hb,rG,Cr⟩=>⟨by simp[wf,ha,hb];decide,?_,by omega⟩;simp only[cn,length_nil];omega
  .rename_i hk
   refine(ex _ _).bind λa l1 p1 ⟨ha,GV,Ix⟩=>?_;have h3:=fe 3 l1 az;have t6:=bP l1;refine(dX n (.args (bV 3 l1) .nil d) l1.tail p1 (by simp only[cG];omega) ⟨rfl,zh⟩).bind λb l2 p2 ⟨hb,rG,Cr⟩=>⟨by simp[wf,ha,hb];decide,?_,by omega⟩;simp only[cn,length_nil]at*;omega
  .rename_i hk
   have h3:=fe 3 l.tail.tail.tail az;have h4:=nP (bV 3 l.tail.tail.tail) l.tail.tail.tail.tail;refine(dX n (.stmts (d-1)) _ _ (by simp only[cG];omega) trivial).bind λb l2 p2 ⟨hb,rG,Cr⟩=>⟨by simp[wf,hb];decide,?_,by omega⟩;simp only[cn,mu]at*;omega
  .rename_i hk
   refine(ex _ _).bind λa l1 p1 ⟨ha,GV,Ix⟩=>⟨by simp[wf,ha];decide,?_,by omega⟩;simp only[cn,length_nil];omega
  .rename_i hk
   refine(ex _ _).bind λa l1 p1 ⟨ha,GV,Ix⟩=>(ex _ _).bind λb l2 p2 ⟨hb,rG,Cr⟩=>⟨by simp[wf,ha,hb];decide,?_,by omega⟩;simp only[cn,length_nil];omega
  .rename_i hk
   have h4:=fe 4 l.tail.tail.tail az;refine(dX n (.items (bV 4 l.tail.tail.tail) .nil .nil d) _ _ (by simp only[cG];omega) ⟨rfl,rfl,zh⟩).bind λb l2 p2 hq=>?_;obtain⟨⟨x,y,rfl,e1,e2,hc⟩,hpc⟩:=hq;have t6:=bP l2;have vL:=eC x .nil e1 rfl;refine⟨?_,?_,by omega⟩
   .split<;>simp[wf,e1,e2,vL]<;>decide
   .simp only[cn,length_nil]at*;split<;>omega
  .rename_i k _ _ _ _ _ _ _ _ _
   have:=pD (1+(bV 12 l:Nat)) 0 [] az;exact⟨this.1,by rw[this.2];omega,by omega⟩
 |n+1,.args k acc d,l,p,hn,hp=>by
  simp only[cG]at hn;simp only[mk];have zh:=hp.2
  cases k with
  |zero=>exact⟨hp.1,by omega,by omega⟩
  |succ k=>
   refine(dX n (.expr (d-1)) l p (by simp only[cG];omega) trivial).bind λa l1 p1 ⟨ha,GV,Ix⟩=>?_;have hq:=eC acc a hp.1 ha;refine(dX n (.args k (snoc acc a) d) l1 p1 (by simp only[cG];omega) ⟨hq.1,zh⟩).imp λt l2 p2 ⟨hb,rG,Cr⟩=>⟨hb,?_,by omega⟩;rw[hq.2]at rG;omega
 |n+1,.items k ks gs d,l,p,hn,hp=>by
  simp only[cG]at hn;simp only[mk];obtain⟨hk,hg,zh⟩:=hp
  cases k with
  |zero=>exact⟨⟨_,_,rfl,hk,hg,by omega⟩,by omega⟩
  |succ k=>
   have t1:=bP l;have ex:∀l p,MG (nQ (.expr (d-1)) l p) (mk n (.expr (d-1)) l p):=λl p=>dX n (.expr (d-1)) l p (by simp only[cG];omega) trivial;have Gu:MG (nQ (.expr (d-1)) l p) (if bV 2 l=1 then mk n (.expr (d-1)) l.tail p else .ok .nil l.tail p):=
    MG.ite (λ_=>(ex _ _).imp λt l1 p1 ⟨h1,h2,h3⟩=>⟨h1,by omega,by omega⟩) λ_=>⟨rfl,by simp only[cn];omega,by omega⟩
   refine Gu.bind λx l1 p1 ⟨hx,hcx,hpx⟩=>(ex _ _).bind λa l2 p2 ⟨ha,GV,Ix⟩=>?_;have hq:=eC ks x hk hx;have ji:=eC gs a hg ha;refine(dX n (.items k (snoc ks x) (snoc gs a) d) l2 p2 (by simp only[cG];omega) ⟨hq.1,ji.1,zh⟩).imp λt l3 p3 NM=>?_;obtain⟨⟨x',y',rfl,e1,e2,hc⟩,hpc⟩:=NM;rw[hq.2,ji.2]at hc;exact⟨⟨_,_,rfl,e1,e2,by omega⟩,by omega⟩
 |n+1,.stmts d,l,p,hn,hp=>by
  simp only[cG]at hn;simp only[mk];have t1:=bP l;have u:=qy 4 l;have h4:=fe 4 l az;refine(dX n (.dO (bV 4 l) .nil d) l.tail p (by simp only[cG];split<;>omega) rfl).bind λt l1 p1 ⟨ha,GV,Ix⟩=>?_;have t2:=bP l1;have vL:=im t .nil ha rfl;simp only[cn]at GV;refine⟨?_,?_,by omega⟩
  .split
   .exact vL.1
   .exact ha
  .split
   .rw[vL.2];simp only[cn];omega
   .omega
 |n+1,.dO k acc d,l,p,hn,hp=>by
  simp only[cG]at hn;simp only[mk]
  cases k with
  |zero=>exact⟨hp,by omega,by omega⟩
  |succ k=>
   have t1:=bP l;have t2:=bP l.tail;have t3:=pE (1+bV 11 l) (k+1) l.tail.tail;have Eo:cG (.fill (if d<1\/300<p+1 then 9 else fF (1+bV 11 l) (k+1) l.tail.tail) (d-1))<=n:=by
    simp only[cG];by_cases h:d<1
    .have hK:(if d<1\/300<p+1 then 9 else fF (1+bV 11 l) (k+1) l.tail.tail)=9:=if_pos (Or.inl h);rw[if_pos hK];rw[if_pos h]at hn;omega
    .rw[if_neg h]at hn;by_cases hK:(if d<1\/300<p+1 then 9 else fF (1+bV 11 l) (k+1) l.tail.tail)=9
     .rw[if_pos hK];omega
     .rw[if_neg hK];have:d-1+1=d:=by omega
      rw[this];omega
   have RQ:sG (.fill (if d<1\/300<p+1 then 9 else fF (1+bV 11 l) (k+1) l.tail.tail) (d-1)):=by
    simp only[sG];by_cases h:d<1
    .rw[if_pos (.inl h)];exact .inl rfl
    .exact .inr aj
   refine(dX n _ _ _ Eo RQ).bind λs l1 p1 hq=>?_;obtain⟨⟨nm,x,r,tt,a,b,rfl,hw⟩,hc,hpc⟩:=hq;have t4:=bP l1;have t5:=bP l1.tail;have Ig:∀acc,cG (.dO k acc d)<=n:=λacc=>by
    simp only[cG];split at hn
    .rw[if_pos aw];omega
    .rw[if_neg aw];omega
   refine MG.ite (λ_=>?_) λ_=>?_
   .have wR:wf (setKind (.st (if d<1\/300<p+1 then 9 else fF (1+bV 11 l) (k+1) l.tail.tail:Nat) nm x r tt a b) (bV 14 l1.tail)) 2=true:=by simpa[setKind,wf]using hw
    have kI:cn (setKind (.st (if d<1\/300<p+1 then 9 else fF (1+bV 11 l) (k+1) l.tail.tail:Nat) nm x r tt a b) (bV 14 l1.tail))=cn (.st (if d<1\/300<p+1 then 9 else fF (1+bV 11 l) (k+1) l.tail.tail:Nat) nm x r tt a b):=rfl;have vL:=im acc _ hp wR;refine(dX n (.dO k _ d) _ _ (Ig _) vL.1).imp λt l3 p3 ⟨h1,h2,h3⟩=>⟨h1,?_,by omega⟩;rw[vL.2,kI]at h2;omega
   .have vL:=im acc _ hp hw;refine(dX n (.dO k _ d) _ _ (Ig _) vL.1).imp λt l3 p3 ⟨h1,h2,h3⟩=>⟨h1,?_,by omega⟩;rw[vL.2]at h2;omega
 |n+1,.fill k d,l,p,hn,hp=>by
  simp only[mk];have t1:=bP l;have t2:=bP l.tail;have t3:=bP l.tail.tail;by_cases h9:k=9
  .subst h9;exact⟨⟨_,_,_,_,_,_,rfl,rfl⟩,by simp only[cn];omega,by omega⟩
  have hd:0<=d:=by rcases hp with h|h;exact absurd h h9;exact h
  simp only[cG,if_neg h9]at hn;have ex:∀l p,MG (nQ (.expr d) l p) (mk n (.expr d) l p):=λl p=>dX n (.expr d) l p (by simp only[cG];omega) trivial;have ss:∀l p,MG (nQ (.stmts d) l p) (mk n (.stmts d) l p):=λl p=>dX n (.stmts d) l p (by simp only[cG];omega) trivial;split
  .refine MG.ite (λ_=>(ex _ _).bind λa l1 p1 ⟨h1,h2,h3⟩=>⟨⟨_,_,_,_,_,_,rfl,by simp[wf,h1]⟩,by simp only[cn];omega,by omega⟩) λ_=>⟨⟨_,_,_,_,_,_,rfl,rfl⟩,by simp only[cn];omega,by omega⟩
  .have hx:MG (λt l' p'=>wf t 0=true/\cn t+40*l'.length<=40*l.length+3/\p'+40*l'.length<=p+40*l.length+2) (if bV 2 l.tail.tail=1 then(mk n (.expr d) l.tail.tail.tail p).bind λa l p=>(mk n (.expr d) l p).bind λb l p=>.ok (.ex 7 0 [] a b .nil .nil [] .nil) l p else .ok (lf 6 0 (dZ l)) l.tail.tail.tail p):=by
    refine MG.ite (λ_=>(ex _ _).bind λa l1 p1 ⟨h1,h2,h3⟩=>(ex _ _).bind λb l2 p2 ⟨h4,h5,h6⟩=>⟨by simp[wf,h1,h4];decide,by simp only[cn,length_nil];omega,by omega⟩) λ_=>?_;have:=pD 6 0 (dZ l) az;exact⟨this.1,by rw[this.2];omega,by omega⟩
   exact hx.bind λx l1 p1 ⟨h1,h2,h3⟩=>(ex _ _).bind λb l2 p2 ⟨h4,h5,h6⟩=>⟨⟨_,_,_,_,_,_,rfl,by simp[wf,h1,h4]⟩,by simp only[cn];omega,by omega⟩
  .exact(ex _ _).bind λa l1 p1 ⟨h1,h2,h3⟩=>⟨⟨_,_,_,_,_,_,rfl,by simp[wf,h1];decide⟩,by simp only[cn,length_nil];omega,by omega⟩
  .exact(ss _ _).bind λa l1 p1 ⟨h1,h2,h3⟩=>⟨⟨_,_,_,_,_,_,rfl,by simp[wf,h1]⟩,by simp only[cn];omega,by omega⟩
  .exact(ex _ _).bind λa l1 p1 ⟨h1,h2,h3⟩=>(ss _ _).bind λb l2 p2 ⟨h4,h5,h6⟩=>⟨⟨_,_,_,_,_,_,rfl,by simp[wf,h1,h4]⟩,by simp only[cn];omega,by omega⟩
  .exact(ex _ _).bind λa l1 p1 ⟨h1,h2,h3⟩=>(ss _ _).bind λb l2 p2 ⟨h4,h5,h6⟩=>(ss _ _).bind λc l3 p3 ⟨h7,h8,h9⟩=>⟨⟨_,_,_,_,_,_,rfl,by simp[wf,h1,h4,h7]⟩,by simp only[cn];omega,by omega⟩
  .exact(ex _ _).bind λa l1 p1 ⟨h1,h2,h3⟩=>(ex _ _).bind λb l2 p2 ⟨h4,h5,h6⟩=>(ss _ _).bind λc l3 p3 ⟨h7,h8,h9⟩=>⟨⟨_,_,_,_,_,_,rfl,by simp[wf,h1,h4,h7]⟩,by simp only[cn];omega,by omega⟩
  .refine MG.ite (λ_=>(ex _ _).bind λa l1 p1 ⟨h1,h2,h3⟩=>⟨⟨_,_,_,_,_,_,rfl,by simp[wf,h1]⟩,by simp only[cn];omega,by omega⟩) λ_=>⟨⟨_,_,_,_,_,_,rfl,rfl⟩,by simp only[cn];omega,by omega⟩
  .refine(ss _ _).bind λa l1 p1 ⟨h1,h2,h3⟩=>?_;have t4:=bP l1;have t5:=bP l1.tail;exact(ss _ _).bind λb l2 p2 ⟨h4,h5,h6⟩=>⟨⟨_,_,_,_,_,_,rfl,by simp[wf,h1,h4]⟩,by simp only[cn];omega,by omega⟩
  .exact(ss _ _).bind λa l1 p1 ⟨h1,h2,h3⟩=>⟨⟨_,_,_,_,_,_,rfl,by simp[wf,h1];decide⟩,by simp only[cn,length_nil];omega,by omega⟩
  .exact⟨⟨_,_,_,_,_,_,rfl,rfl⟩,by simp only[cn];omega,by omega⟩
end Go.Proofs.YtoddjlclpnoomaaGreatDoor
namespace Go.Proofs.YtoddjlclpnoomaaGreatDoor
open Go.Sh
def TX(w:Wd)(b:Nat)(buf:By)(parts:Nat):Prop:=
 ∃lo,BX lo w b [.int .i64 parts] buf/\GL w/\12<=b/\buf.length<=32768/\parts<=65536
theorem TX.ab{w:Wd}{b:Nat}{buf:By}{parts:Nat}(h:TX w b buf parts):∃ad v rest,At w b (ad::v::rest):=by
 obtain⟨lo,⟨ad,v,ab,_⟩,_⟩:=h;exact⟨ad,v,_,ab⟩
theorem TX.gl{w:Wd}{b:Nat}{buf:By}{parts:Nat}(h:TX w b buf parts):GL w:=by
 obtain⟨lo,_,g,_⟩:=h;exact g
theorem TX.len{w:Wd}{b:Nat}{buf:By}{parts:Nat}(h:TX w b buf parts):buf.length<=32768:=by
 obtain⟨lo,_,g,_,h1,h2⟩:=h;exact h1
theorem TX.xz{w:Wd}{b:Nat}{buf:By}{parts:Nat}(h:TX w b buf parts):parts<=65536:=by
 obtain⟨lo,_,g,_,h1,h2⟩:=h;exact h2
theorem BX.aA{lo:Nat}{w w':Wd}{b:Nat}{rest:LV}{buf:By}(h:BX lo w b rest buf)(hk:aD [] w w'):BX lo w' b rest buf:=by
 obtain⟨ad,v,ab,uo,hv,aI,hb,eW⟩:=h;have z:=hk.size;refine⟨ad,v,hk.at ab ak,?_,hv.fr hk ak,aI,hb,by omega⟩;rcases uo with⟨h1,e,n,h2,h3⟩|h
 .refine .inl ⟨h1,e,n,?_,h3⟩;rw[←h2];unfold World.shape?;rw[hk.same b aj ak]
 .exact .inr h
theorem TX.aA{w w':Wd}{b:Nat}{buf:By}{parts:Nat}(h:TX w b buf parts)(hk:aD [] w w'):TX w' b buf parts:=by
 obtain⟨lo,h1,g,h2⟩:=h;exact⟨lo,h1.aA hk,g.new hk,h2⟩
def RR(e:Int):List PanicEntry:=[{v:=.iface 49 (.agg #[.int .i64 e]),recovered:=false}]
theorem c20(w:Wd)(b:Bool)(e:Int):Calls prog 20 #[.bool b,.int .i64 e] w (aZ (λ_ w'=>b=true/\w'=w) (λc w'=>b=false/\c=RR e/\w'=w)):=by
 refine s20 ?_;unfold Zc;refine V1.i ah ?_
 cases b with
 |true=>exact If.f ⟨rfl,rfl⟩
 |false=>
  refine If.t ?_;refine V1.i ah ?_;refine V1.i ah ?_;refine V1.p (by simp[go_sem];first|done|exact⟨rfl,rfl⟩) ?_;exact⟨rfl,rfl,rfl⟩
def cO(w:Wd)(b:Nat)(r:PR)(w':Wd):Prop:=match r with
 |.ok buf parts=>TX w' b buf parts/\KO b w w'
 |_=>False
def cN(w:Wd)(b:Nat)(r:PR)(c:List PanicEntry)(w':Wd):Prop:=match r with
 |.fail e=>c=RR e/\KO b w w'/\(∃ad v rest,At w' b (ad::v::rest))/\GL w'
 |_=>False
theorem KO.gl{b:Nat}{w w':Wd}{buf:By}{parts:Nat}(h:KO b w w')(ht:TX w b buf parts):GL w':=by
 obtain⟨lo,⟨ad,v,ab,uo,hv,aI,xo,eW⟩,g,Ep,_⟩:=ht;refine g.aA (h.2 ad v _ ab).1 λi hi=>?_;simp only[mem_cons,mem_toList,mem_def]at hi;rcases hi with hi|hi
 .omega
 .have:=(hv.lt hi).1;omega
theorem cO.out{w:Wd}{b:Nat}{r:PR}{w':Wd}(h:cO w b r w'):∃buf parts,r=.ok buf parts/\TX w' b buf parts/\KO b w w':=by
 cases r with
 |ok b p=>exact⟨b,p,rfl,h⟩
 |fail c=>exact h.elim
 |bH=>exact h.elim
theorem cN.up{w0 w:Wd}{b:Nat}{r1 r:PR}{f:By->Nat->PR}{c:List PanicEntry}{w':Wd}{buf:By}{parts:Nat}(h:cN w b r1 c w')(hr:r1.bind f=r)(hk:KO b w0 w)(ht:TX w b buf parts):cN w0 b r c w':=by
 cases r1 with
 |fail e=>subst hr;exact⟨h.1,hk.trans h.2.1 ht.ab,h.2.2⟩
 |ok _ _=>exact h.elim
 |bH=>exact h.elim
theorem cO.pre{w0 w:Wd}{b:Nat}{r:PR}{w':Wd}{buf:By}{parts:Nat}(h:cO w b r w')(hk:KO b w0 w)(ht:TX w b buf parts):cO w0 b r w':=by
 cases r with
 |ok b p=>exact⟨h.1,hk.trans h.2 ht.ab⟩
 |fail c=>exact h.elim
 |bH=>exact h.elim
theorem cN.pre{w0 w:Wd}{b:Nat}{r:PR}{c:List PanicEntry}{w':Wd}{buf:By}{parts:Nat}(h:cN w b r c w')(hk:KO b w0 w)(ht:TX w b buf parts):cN w0 b r c w':=by
 cases r with
 |fail e=>exact⟨h.1,hk.trans h.2.1 ht.ab,h.2.2⟩
 |ok _ _=>exact h.elim
 |bH=>exact h.elim
theorem PR.aM{r1 r:PR}{f:By->Nat->PR}(hr:r1.bind f=r)(aI:r≠.bH):r1≠.bH:=by
 rintro rfl;exact aI hr.symm
theorem PR.aL{b:By}{p:Nat}{f:By->Nat->PR}:(PR.ok b p).bind f=f b p:=rfl
theorem fQ{w:Wd}{b bs:Nat}{buf:By}{parts:Nat}{ss:LB}{r:PR}(h:TX w b buf parts)(hs:At w bs (ss.map str))(hf:FO b w bs)(hn:ss.length<=100)(hr:aO ss buf parts=r)(aI:r≠.bH):
  Calls prog 36 #[ptr b,strs bs ss.length] w (aZ (λ_=>cO w b r) (cN w b r)):=by
 refine s36 ?_;unfold Zg strs;refine V1.i ah ?_;refine L1.i (λv w'=>∃i buf parts,i<=ss.length/\v=.int .i64 (i:Nat)/\TX w' b buf parts/\At w' bs (ss.map str)/\FO b w' bs/\KO b w w'/\aO (ss.drop i) buf parts=r) (λv w'=>match v with|.int _ n=>(ss.length-n.toNat)|_=>0) ⟨0,buf,parts,by omega,rfl,h,hs,hf,KO.refl _ _,by simpa using hr⟩ ?_;clear h hs hf hr;rintro v w1 ⟨i,buf,parts,hi,rfl,h,hs,hf,kk,hr⟩;by_cases bO:i<ss.length
 .rw[drop_eq_getElem_cons bO]at hr;refine V1.bt ay ?_;refine If.t ?_;refine V1.i (mD _ bO) ?_;refine V1.load (aC rfl) hs (v:=str ss[i]) (by simp[bO]) ?_;generalize ss[i]=s at*;refine V1.i ah ?_;unfold ptr;refine Up.i (Nc.p _ _) ?_;refine V1.i ah ?_;have h':=h;obtain⟨lo,hb,g,Ep,hlen,lW⟩:=h';refine SW (c69 hb) ?_ (NP.no (e:=_));rintro _ w2 ⟨rfl,rfl⟩;refine V1.i (fP _ _ _ _ _ _ aj aj) ?_;refine V1.i (v:=.bool (decide (s.length+buf.length<=32768))) (w':=w2) ay ?_;simp only[aO,oI]at hr;refine iF (c20 w2 _ 3) ?_ ?_;rotate_left
  .rintro c w3 ⟨kQ,rfl,rfl⟩;have:¬s.length+buf.length<=32768:=by simpa using kQ
   rw[if_neg this]at hr;subst hr;exact⟨rfl,kk,h.ab,g⟩
  rintro _ w3 ⟨kQ,rfl⟩;have hle:s.length+buf.length<=32768:=by simpa using kQ
  rw[if_pos hle,PR.aL]at hr;refine Up.i (Nc.p _ _) ?_;refine V1.i ah ?_;refine JN (c70 hb s aj) ?_ (NP.no (e:=_));rintro _ w4 ⟨hb4,K4⟩;refine V1.i (cC _ _ _ _ _ _ aj aj) ?_;obtain⟨M,hM,hMF⟩:=K4.same h.ab (M:=[]);obtain⟨hm1,BV⟩:=hMF bs hf hs.lt;exact⟨⟨i+1,buf++s,parts,by omega,by simp,⟨lo,hb4,K4.gl h,Ep,by simp;omega,lW⟩,hM.at hs hm1,BV,kk.trans K4 h.ab,hr⟩,by simp;omega⟩
 .have:i=ss.length:=by omega
  subst this;rw[List.drop_length]at hr;refine V1.bf au ?_;refine If.f ?_;subst hr;exact⟨h,kk⟩
def uB(w:Wd)(r:Nat)(s:By)(pos:Nat):Prop:=w.heap[r]?=some (.stringIter ⟨s.toArray⟩ pos)
theorem uB.lt{w:Wd}{r:Nat}{s:By}{pos:Nat}(h:uB w r s pos):r<w.heap.size:=(Array.getElem?_eq_some_iff.1 h).1
theorem uB.aA{M:List Nat}{w w':Wd}{r:Nat}{s:By}{pos:Nat}(h:uB w r s pos)(hk:aD M w w')(hr:r∉M):uB w' r s pos:=by
 unfold uB at*;rw[hk.same r (uB.lt h) hr,h]
theorem V1.uC{w:Wd}{s:By}{k:VK}{e:EK}(hk:∀r w',uB w' r s 0->w.heap.size<=r->aD [] w w'->k (ptr r) w'):V1 prog (Instr.range 9 (str s)) w k e:=
 V1.i (run_range_string (P:=prog) w 9 ⟨s.toArray⟩ ai) (hk _ _ (by unfold uB World.iter;rw[gu,if_pos rfl]) (le_refl _) ((aD.refl _ _).alloc _))
def RC(b:UInt8)(c n:Nat):Prop:=(b.toNat<128/\c=b.toNat/\n=1)\/(128<=b.toNat/\128<=c/\1<=n)
theorem Es(s:By)(pos:Nat)(h:pos<s.length):RC s[pos] (Utf8.decode ⟨s.toArray⟩ pos).1 (Utf8.decode ⟨s.toArray⟩ pos).2:=by
 by_cases hb:s[pos].toNat<128
 .left
  rw[decode_ascii ⟨s.toArray⟩ pos h hb];exact⟨hb,rfl,rfl⟩
 .right
  exact⟨by omega,decode_high ⟨s.toArray⟩ pos h (by show 128<=s[pos].toNat;omega)⟩
theorem V1.zi{w:Wd}{r pos:Nat}{s:By}{k:VK}{e:EK}(h:uB w r s pos)
  (hk:∀(hp:pos<s.length) c n w',RC s[pos] c n->uB w' r s (pos+n)->aD [r] w w'->k (.tuple #[.bool true,.int .i64 pos,.int .i32 c]) w')
  (he:s.length<=pos->k (.tuple #[.bool false]) w):V1 prog (Instr.next (ptr r) true 0) w k e:=by
 by_cases hp:pos<s.length
 .refine V1.i (Lib.run_next_any_at (P:=prog) w r ⟨s.toArray⟩ pos 0 h hp) (hk hp _ _ _ (Es s pos hp) (Lib.iterAt_heap _ _ _ _ _ h) ⟨by rw[Lib.iterAt_size];exact le_refl _,λi hi hm=>Lib.iterAt_other _ _ _ _ _ (by simpa using hm),rfl,rfl⟩)
 .exact V1.i (Lib.run_next_end_at (P:=prog) w r ⟨s.toArray⟩ pos 0 h hp) (he aj)
def xA(c:Nat)(set:By):Bool:=set.any λd=>d.toNat==c
theorem wS(b:UInt8)(set:By):xA b.toNat set=set.contains b:=by
 unfold xA;induction set with
 |nil=>rfl
 |cons d l ih=>
  simp only[List.any_cons,contains_cons,ih];congr 1
  by_cases h:b=d
  .subst h;simp
  .have h1:(b==d)=false:=by simpa using h
   have h2:(d.toNat==b.toNat)=false:=by simpa using λe=>h (UInt8.toNat_inj.1 e).symm
   rw[h1,h2]
theorem zj{c:Nat}{set:By}(ha:∀b∈set,b.toNat<128)(hc:128<=c):xA c set=false:=by
 unfold xA;rw[List.any_eq_false];intro d hd;have:=ha d hd;simp;omega
theorem zk{b:UInt8}{c n:Nat}{set:By}(ha:∀b∈set,b.toNat<128)(h:RC b c n):xA c set=set.contains b:=by
 rcases h with⟨h1,rfl,_⟩|⟨h1,h2,_⟩
 .exact wS b set
 .rw[zj ha h2];symm
  rw[Bool.eq_false_iff];intro hc;have:=ha b (List.contains_iff_mem.1 hc);omega
theorem sH(c:Nat)(set:By)(j:Nat)(h:j<set.length):(xA c (set.take j)||(c==set[j].toNat))=xA c (set.take (j+1)):=by
 unfold xA;rw[take_succ_eq_append_getElem h,List.any_append];simp only[List.any_cons,List.any_nil,Bool.or_false];congr 1
 exact Bool.beq_comm
theorem NN(w:Wd)(cx cy:Bool)(a b:Nat):(Bo .eql 21 cx cy (.int .i32 a) (.int .i32 b)).run prog w=.ok (.bool (a==b)) w:=by
 have:((a:Int)==(b:Int))=(a==b):=by
  by_cases h:a=b
  .subst h;simp
  .have h2:(a==b)=false:=by simpa using h
   rw[h2];simp;omega
 simp[go_sem,Bo,this]
theorem c168(w:Wd)(s set:By)(hs:s.length<=1099511627776)(ha:∀b∈set,b.toNat<128):
  Calls prog 168 #[str s,str set] w (aZ (λv w'=>v=str (s.dropWhile (λb=>set.contains b))/\aD [] w w') NP):=by
 refine Tg ?_;unfold J7;refine V1.uC λr w1 hr gr K1=>?_;refine L1.i (λv w'=>∃pos,pos<=s.length/\uB w' r s pos/\aD [] w w'/\s.dropWhile (λb=>set.contains b)=(s.drop pos).dropWhile (λb=>set.contains b)) (λv w'=>s.length-(match w'.heap[r]? with|some (.stringIter _ p)=>p|_=>0)) ⟨0,by omega,hr,K1,rfl⟩ ?_;clear hr K1;rintro v w1 ⟨pos,hp,hr,K1,hd⟩;have hlr:=hr.lt;refine V1.zi hr (λbO c n w2 GW gO K2=>?_) (λBn=>?_)
 .have dB:aD [] w w2:=K1.trans' K2 al;rw[drop_eq_getElem_cons bO]at hd;refine V1.i ah ?_;refine If.t ?_;refine V1.i ah ?_;refine V1.i ah ?_;refine V1.uC λq w3 hq gq K3=>?_;have z2:=dB.size;have z21:=K2.size;have ja:aD [] w w3:=dB.trans' K3 ak;have Cg:=gO.aA K3 ak;have zl:q≠r:=by omega
  refine L1.i (λv w'=>∃j,j<=set.length/\v=.bool (xA c (set.take j))/\uB w' q set j/\uB w' r s (pos+n)/\aD [] w w') (λv w'=>set.length-(match w'.heap[q]? with|some (.stringIter _ p)=>p|_=>0)) ⟨0,by omega,by simp[xA],hq,Cg,ja⟩ ?_;rintro v w4 ⟨j,hj,rfl,NQ,V9,K4⟩;refine V1.zi NQ (λmn d m w5 v7 NR K5=>?_) (λBn=>?_)
  .have hda:=ha set[j] (getElem_mem _);rcases v7 with⟨_,rfl,rfl⟩|⟨h1,_⟩
   .refine V1.i ah ?_;refine If.t ?_;refine V1.i ah ?_;refine J1.gd (c==set[j].toNat) (λh k hk=>?_) ?_
    .exact V1.i (NN _ _ _ c set[j].toNat) hk
    refine V1.i (fI _ _ _) ?_;rw[sH c set j mn];have e4:w4.heap[q]?=_:=NQ;have e5:w5.heap[q]?=_:=NR;exact⟨⟨j+1,by omega,rfl,NR,V9.aA K5 (by simpa using λe=>zl e.symm),K4.trans' K5 al⟩,by rw[e4,e5];simp;omega⟩
   .omega
  .refine V1.i ah ?_;refine If.f ?_;refine V1.i ah ?_;have:j=set.length:=by omega
   subst this;rw[take_length,zk ha GW]
   cases jn:set.contains s[pos]with
   |false=>
    refine If.t ?_;refine V1.i (nr _ s pos aj) ?_;refine⟨?_,K4⟩;rw[hd,dropWhile_cons,jn,←drop_eq_getElem_cons bO];rfl
   |true=>
    refine If.f ?_;have e1:w1.heap[r]?=_:=hr;have e4:w4.heap[r]?=_:=V9;rcases GW with⟨_,rfl,rfl⟩|⟨h1,_⟩
    .exact⟨⟨pos+1,by omega,V9,K4,by rw[hd,dropWhile_cons,jn];rfl⟩,by rw[e1,e4];simp;omega⟩
    .have:=ha _ (List.contains_iff_mem.1 jn);omega
 .refine V1.i ah ?_;refine If.f ?_;have:pos=s.length:=by omega
  subst this;rw[List.drop_length]at hd;exact⟨by rw[hd];rfl,K1⟩
def nR(s set:By):By:=(s.reverse.dropWhile (λb=>set.contains b)).reverse
theorem zm{s set:By}{b:UInt8}(h:set.contains b=true):nR (s++[b]) set=nR s set:=by
 simp only[nR,List.reverse_append,List.reverse_cons,List.reverse_nil,List.nil_append,cons_append,dropWhile_cons,h,if_true]
theorem Cs{s set:By}{b:UInt8}(h:set.contains b=false):nR (s++[b]) set=s++[b]:=by
 simp only[nR,List.reverse_append,List.reverse_cons,List.reverse_nil,List.nil_append,cons_append,dropWhile_cons,h,false_eq_true,if_false,List.reverse_reverse]
theorem Ct(t:By)(b:UInt8):RC b (Lib.decodeLastL (t++[b])).1 (Lib.decodeLastL (t++[b])).2:=by
 by_cases hb:b.toNat<128
 .left
  rw[Lib.decodeLastL_ascii t b hb];exact⟨hb,rfl,rfl⟩
 .right
  have hw:=(Lib.decodeLastL_width (t++[b]) ak).1;refine⟨by omega,?_,hw⟩;have hg:(t++[b]).getD ((t++[b]).length-1) 0=b:=by simp[List.getD]
  unfold Lib.decodeLastL;rw[if_neg ak,hg,if_neg hb];simp only
  split
  .rename_i hl
   have Wa:Lib.lastStart (t++[b])+2<=(t++[b]).length\/Lib.lastStart (t++[b])=0:=by
    unfold Lib.lastStart;simp only
    repeat' split
    all_goals omega
   have aI:Lib.lastStart (t++[b])<(t++[b]).length:=by
    rcases Wa with h|h
    .omega
    .rw[h];simp
   have GW:=Es ((t++[b]).drop (Lib.lastStart (t++[b]))) 0 (by rw[length_drop];omega);rcases GW with⟨h1,h2,h3⟩|⟨h1,h2,h3⟩
   .exfalso
    unfold Lib.decodeL at hl;rw[h3]at hl;have e:Lib.lastStart (t++[b])=t.length:=by simp at hl;omega
    have e2:((t++[b]).drop (Lib.lastStart (t++[b])))[0]'(by rw[length_drop];omega)=b:=by simp[e]
    rw[e2]at h1;omega
   .exact h2
  .simp[Utf8.runeError]
theorem c167(w:Wd)(s set:By)(g:GL w)(hs:s.length<=1099511627776)(ha:∀b∈set,b.toNat<128):
  Calls prog 167 #[str s,str set] w (aZ (λv w'=>v=str (nR s set)/\aD [] w w') NP):=by
 refine Tf ?_;unfold J5;refine L2.i (λu v w'=>∃t,t.length<=s.length/\v=str t/\aD [] w w'/\nR s set=nR t set) (λu v w'=>match v with|.string b=>b.size|_=>0) ⟨s,by omega,rfl,aD.refl _ _,rfl⟩ ?_;rintro u v w1 ⟨t,ht,rfl,K1,hd⟩;have g1:=g.new K1;rcases List.eq_nil_or_concat t with rfl|⟨l,b,Cu⟩
 .refine V1.i ah ?_;refine If.b (λh=>by simp at h) (λ_=>?_);exact⟨by rw[hd];rfl,K1⟩
 rw[List.concat_eq_append]at Cu;subst Cu
 .refine V1.i ah ?_;refine If.b (λh=>?_) (λh=>absurd h ak);have NT:(l++[b]).length<=9223372036854775807:=le_trans (le_trans ht hs) az;have Wb:=c206 w1 (l++[b]) g1 NT;refine Lb (Wb) ?_ (NP.no (e:=_));rintro _ w2 ⟨rfl,K2⟩;have GW:=Ct l b;generalize(Lib.decodeLastL (l++[b])).1=c at*;generalize(Lib.decodeLastL (l++[b])).2=n at*;refine V1.i ah ?_;refine V1.i ah ?_;refine V1.uC λq w3 hq gq K3=>?_;have ja:aD [] w w3:=(K1.trans' K2 ak).trans' K3 ak;have z2:=(K1.trans' K2 ak).size
  refine L1.i (λv w'=>∃j,j<=set.length/\v=.bool (xA c (set.take j))/\uB w' q set j/\aD [] w w') (λv w'=>set.length-(match w'.heap[q]? with|some (.stringIter _ p)=>p|_=>0)) ⟨0,by omega,by simp[xA],hq,ja⟩ ?_;rintro v w4 ⟨j,hj,rfl,NQ,K4⟩;refine V1.zi NQ (λmn d m w5 v7 NR K5=>?_) (λBn=>?_)
  .have hda:=ha set[j] (getElem_mem _);rcases v7 with⟨_,rfl,rfl⟩|⟨h1,_⟩
   .refine V1.i ah ?_;refine If.t ?_;refine V1.i ah ?_;refine J1.gd (c==set[j].toNat) (λh k hk=>?_) ?_
    .exact V1.i (NN _ _ _ c set[j].toNat) hk
    refine V1.i (fI _ _ _) ?_;rw[sH c set j mn];have e4:w4.heap[q]?=_:=NQ;have e5:w5.heap[q]?=_:=NR;exact⟨⟨j+1,by omega,rfl,NR,K4.trans' K5 al⟩,by rw[e4,e5];simp;omega⟩
   .omega
  .refine V1.i ah ?_;refine If.f ?_;refine V1.i ah ?_;have:j=set.length:=by omega
   subst this;rw[take_length,zk ha GW]
   cases jn:set.contains b with
   |false=>
    refine If.t ?_;exact⟨by rw[hd,Cs jn],K4⟩
   |true=>
    refine If.f ?_;rcases GW with⟨_,rfl,rfl⟩|⟨h1,_⟩
    .refine V1.i ah ?_;refine V1.i (v:=.int .i64 l.length) (w':=w4) (by rw[fP];simp;all_goals(simp at ht⊢<;>omega)) ?_;refine V1.i (BN _ (l++[b]) l.length ak) ?_;rw[List.take_left];exact⟨⟨l,by simp at ht;omega,rfl,K4,by rw[hd,zm jn]⟩,by simp[str,ByteArray.size]⟩
    .have:=ha _ (List.contains_iff_mem.1 jn);omega
theorem qz{p:UInt8->Bool}:∀{l:By},l.dropWhile p=[]↔l.all p=true
 |[]=>by simp
 |b::l=>by
  rw[dropWhile_cons,List.all_cons]
  cases h:p b with
  |true=>simpa using qz
  |false=>simp
theorem Cw(s set:By):(nR (s.dropWhile (λb=>set.contains b)) set==[])=s.all (λb=>set.contains b):=by
 have h1:(nR (s.dropWhile (λb=>set.contains b)) set=[])↔s.all (λb=>set.contains b)=true:=by
  constructor
  .intro h;have h2:(s.dropWhile (λb=>set.contains b)).all (λb=>set.contains b)=true:=by
    rw[nR,List.reverse_eq_nil_iff,qz,List.all_reverse]at h;exact h
   cases hs:s.dropWhile (λb=>set.contains b)with
   |nil=>exact qz.1 hs
   |cons b l=>
    rw[hs,List.all_cons]at h2;have h3:=List.head?_dropWhile_not (λb=>set.contains b) s;rw[hs]at h3;simp only[List.head?_cons]at h3;rw[h3]at h2;simp at h2
  .intro h;rw[qz.2 h];rfl
 cases hb:s.all (λb=>set.contains b)with
 |true=>rw[h1.2 hb];rfl
 |false=>
  rw[Bool.eq_false_iff];intro h;have:=h1.1 (by simpa using h);rw[hb]at this
  cases this
theorem TX.fo{w:Wd}{b q:Nat}{buf:By}{parts:Nat}(h:TX w b buf parts)(hq:w.heap.size<=q):FO b w q:=by
 obtain⟨lo,⟨ad,v,ab,uo,hv,aI,xo,eW⟩,g,Ep,_⟩:=h;refine⟨by omega,λtE v' gf h' e=>?_⟩;have:=iK ab h';injection this with h1 h2;injection h2 with h2 h3;subst h2;have:=(hv.lt e).2;omega
theorem TX.fu{w w':Wd}{b q:Nat}{buf:By}{parts:Nat}(h:TX w b buf parts)(hk:aD [] w w')(hq:w.heap.size<=q):FO b w' q:=by
 have h1:=h.fo hq;refine⟨h1.1,λad v rest h' e=>?_⟩;obtain⟨ad0,v0,rest0,MX⟩:=h.ab;have:=iK (hk.at MX ak) h';injection this with e1 e2;injection e2 with e2 e3;subst e2;exact h1.2 _ _ _ MX e
theorem KO.rep{b:Nat}{w w':Wd}{t:Tr}{m:Md}{buf:By}{parts:Nat}(h:KO b w w')(ht:TX w b buf parts)(hr:aP (FO b w) w t m):aP (FO b w') w' t m:=by
 obtain⟨M,hk,hM⟩:=h.same ht.ab (M:=[]);exact aP.aA hk hM t m hr
theorem KO.strs{b:Nat}{w w':Wd}{v:Va}{ss:LB}{buf:By}{parts:Nat}(h:KO b w w')(ht:TX w b buf parts)(hr:Strs (FO b w) w v ss):Strs (FO b w') w' v ss:=by
 obtain⟨M,hk,hM⟩:=h.same ht.ab (M:=[]);exact Strs.aA hk hM hr
theorem KO.at{b q:Nat}{w w':Wd}{cs:LV}{buf:By}{parts:Nat}(h:KO b w w')(ht:TX w b buf parts)(ha:At w q cs)(hq:FO b w q):At w' q cs/\FO b w' q:=by
 obtain⟨M,hk,hM⟩:=h.same ht.ab (M:=[]);exact⟨hk.at ha (hM q hq ha.lt).1,(hM q hq ha.lt).2⟩
theorem Iy{w:Wd}{b:Nat}{buf:By}{parts:Nat}{r:PR}(h:TX w b buf parts)(hr:fx buf parts=r):
  Calls prog 61 #[ptr b] w (aZ (λ_=>cO w b r) (cN w b r)):=by
 refine s61 ?_;unfold Zl ptr;have h':=h;obtain⟨lo,⟨ad,v,ab,uo,hv,aI,xo,eW⟩,g,Ep,hlen,lW⟩:=h';refine Up.i (Nc.p _ _) ?_;refine V1.i ah ?_;refine V1.load (aC rfl) (ab) rfl ?_;refine V1.i (cC _ _ _ _ _ _ aj aj) ?_;refine Up.i (Nc.p _ _) ?_;refine V1.i ah ?_;refine U1.store (aH rfl rfl) (ab) ak λw1 U1=>?_;have NU:=U1.at_;simp only[set_cons_zero,set_cons_succ]at NU;refine Up.i (Nc.p _ _) ?_;refine V1.i ah ?_;refine V1.load (aC rfl) (NU) rfl ?_;have Iu:BX lo w1 b [.int .i64 (parts+1:Nat)] buf:=by
  refine⟨ad,v,by simpa using NU,?_,hv.fr U1.aA al,aI,xo,by have:=U1.size;omega⟩;rcases uo with⟨rfl,e,n,si,DP⟩|rfl
  .exact .inl ⟨rfl,e,n,by rw[U1.shp];exact si,DP⟩
  .exact .inr rfl
 have g1:GL w1:=g.aA U1.aA al;have K1:KO b w w1:=by
  refine KO.of ab (U1.aA.mono ak) λtE v' gf h' g hg=>?_;have:=iK NU h';injection this with h1 h2;injection h2 with h2 h3;subst h2;exact .inl hg
 refine V1.i (v:=.bool (decide (parts+1<=65536))) (w':=w1) ay ?_;unfold fx at hr;refine iF (c20 w1 _ 3) ?_ ?_;rotate_left
 .rintro c w3 ⟨kQ,rfl,rfl⟩;have:¬parts+1<=65536:=by simpa using kQ
  rw[if_neg this]at hr;subst hr;exact⟨rfl,K1,⟨_,_,_,NU⟩,g1⟩
 rintro _ w3 ⟨kQ,rfl⟩;have hle:parts+1<=65536:=by simpa using kQ
 rw[if_pos hle]at hr;subst hr;exact⟨⟨lo,Iu,g1,Ep,hlen,by omega⟩,K1⟩
theorem NV{w:Wd}{b:Nat}{buf:By}{parts:Nat}{e:Tr}{v:Va}(h:TX w b buf parts)(hr:aP (FO b w) w e (.P v))(hk:kn e=true):
  Calls prog 64 #[v] w (aZ (λv' w'=>aP (FO b w') w' (eJ e) (.P v')/\aD [] w w') NP):=by
 refine s64 ?_;unfold S64
 cases e with
 |nil=>
  obtain rfl:v=.pointer none:=hr;refine V1.i ah ?_;refine If.t ?_;refine V1.i ah ?_;refine V1.new (iE _ _) λb1 w1 N1=>?_;have qm:=N1.ge;have qZ:=N1.lt;have rf:=N1.aA.size;have a1:=N1.at_;try simp only[cells,toList_toArray]at a1
  refine⟨⟨b1,0,.pointer none,.pointer none,.slice none 0 0,.slice none 0 0,.slice none 0 0,.slice none 0 0,rfl,?_,?_,rfl,rfl,.inl rfl,.inl rfl,.inl ⟨rfl,rfl⟩,.inl rfl⟩,N1.aA⟩
  .exact h.fu N1.aA N1.ge
  .have:=N1.at_;simpa[cells,str]using this
 |ex k n text l r keys args params body=>
  obtain⟨c,line,lv,rv,kv,av,pv,bv,rfl,h1,h2,h3⟩:=hr;unfold ptr;refine V1.i ah ?_;refine If.f ?_;exact⟨⟨c,line,lv,rv,kv,av,pv,bv,rfl,h1,h2,h3⟩,aD.refl _ _⟩
 |hole=>cases hk
 |cons=>cases hk
 |st=>cases hk
theorem c227{w:Wd}{b:Nat}{ss:LB}(hb:At w b (ss.map str))(hn:ss.length<=100)(s:By):
  Calls prog 227 #[strs b ss.length,str s] w (aZ (λv w'=>(∃i:Int,v=.int .i64 i/\decide (0<=i)=ss.contains s)/\w'=w) NP):=by
 refine Tp ?_;unfold Kk strs;refine V1.i ah ?_;refine L2.i (λu v w'=>w'=w/\∃j:Nat,j<=ss.length/\v=.int .i64 j/\ss.contains s=(ss.drop j).contains s) (λu v w'=>match v with|.int _ n=>(ss.length-n.toNat)|_=>0) ⟨rfl,0,by omega,rfl,by simp⟩ ?_;rintro u v w1 ⟨rfl,j,hj,rfl,hm⟩;by_cases bO:j<ss.length
 .rw[drop_eq_getElem_cons bO,contains_cons]at hm;refine V1.bt ay ?_;refine If.t ?_;refine V1.i (mD _ bO) ?_;refine V1.load (aC rfl) hb (v:=str ss[j]) (by simp[bO]) ?_;refine V1.i (BM _ _ _ s ss[j]) ?_
  cases he:(s==ss[j])with
  |true=>
   refine If.t ?_;exact⟨⟨j,rfl,by rw[hm,he];simp⟩,rfl⟩
  |false=>
   refine If.f ?_;refine V1.i (cC _ _ _ _ _ _ aj aj) ?_;exact⟨⟨rfl,j+1,by omega,by simp,by rw[hm,he];simp⟩,by simp;omega⟩
 .have:j=ss.length:=by omega
  subst this;refine V1.bf au ?_;refine If.f ?_;exact⟨⟨-1,rfl,by rw[hm];simp⟩,rfl⟩
theorem Wc{w:Wd}{b:Nat}{ss:LB}(hb:At w b (ss.map str))(hn:ss.length<=100)(s:By):
  Calls prog 207 #[strs b ss.length,str s] w (aZ (λv w'=>v=.bool (ss.contains s)/\w'=w) NP):=by
 refine To ?_;unfold Ki;refine Kl (c227 hb hn s) ?_ (NP.no (e:=_));rintro _ w1 ⟨⟨i,rfl,hi⟩,rfl⟩;refine V1.i (v:=.bool (decide (0<=i))) (w':=w1) au ?_;exact⟨by rw[hi],rfl⟩
def zn:AV:=(jc.map str).toArray
theorem NW:(prog.info? 235).map (·.size)=some 10:=ai
theorem We:prog.underlying 235=some (.array 10 9):=ai
theorem NX(w:Wd)(k:Nat)(h:k<10):(Instr.index 235 (.agg zn) (.int .i64 k)).run prog w=.ok (str (jc.getD k [])) w:=by
 have:k=0\/k=1\/k=2\/k=3\/k=4\/k=5\/k=6\/k=7\/k=8\/k=9:=by omega
 rcases this with rfl|rfl|rfl|rfl|rfl|rfl|rfl|rfl|rfl|rfl<;>(show _=_;kernel_rfl)
theorem zo(s:By):∀k:Nat,k<=10->(∀j,j<k->(mU j).contains s=false)->(k<10->(mU k).contains s=true->bD s=k+1)/\(k=10->bD s=0):=by
 intro k hk iw;constructor
 .intro bO hc;have oG:(s,(k:Int)+1)∈opsL:=by
   have h1:∀k,k<10->∀x∈mU k,(x,(k:Int)+1)∈opsL:=by decide
   exact h1 k bO s (List.contains_iff_mem.1 hc)
  exact pA _ oG
 .rintro rfl;refine pB s λp hp e=>?_;subst e;have h1:∀p∈opsL,∃j,j<10/\(mU j).contains p.1=true:=by decide
  obtain⟨j,hj,hc⟩:=h1 p hp;rw[iw j hj]at hc
  cases hc
theorem c171(w:Wd)(s:By)(g:GL w):Calls prog 171 #[str s] w (aZ (λv w'=>v=.int .i64 (bD s)/\aD [] w w') NP):=by
 refine Tk ?_;unfold FZ;refine V1.i (v:=.agg zn) (w':=w) (by simp[go_sem];rfl) ?_;refine V1.i (JE w) ?_;have K0:aD [] w (w.alloc (.cells zn 235)):=(aD.refl _ _).alloc _;refine U1.i (run_storeAt_new w 235 _ zn NW rfl ai) ?_;refine V1.i (run_loadAt_new w 235 zn 10 9 We NW) ?_;refine L2.i (λu v w'=>∃k:Nat,k<=10/\v=.int .i64 k/\aD [] w w'/\∀j,j<k->(mU j).contains s=false) (λu v w'=>match v with|.int _ n=>(10-n.toNat)|_=>0) ⟨0,by omega,rfl,K0,λj hj=>by omega⟩ ?_;rintro u v w1 ⟨k,hk,rfl,K1,iw⟩;have Cu:=zo s k hk iw;by_cases bO:k<10
 .refine V1.bt ay ?_;refine If.t ?_;refine V1.i (v:=str (jc.getD k [])) (w':=w1) (NX w1 k bO) ?_;obtain⟨ND,wK⟩:=yX k bO;refine KV (ZJ w1 (jc.getD k []) (g.new K1) aj wK) ?_ (NP.no (e:=_));rintro _ w4 ⟨b4,rfl,N4⟩;have hf6:=yY k bO;have e1:Lib.fields (jc.getD k [])=mU k:=rfl;rw[e1]at N4⊢;have K4:=K1.trans' N4.aA ak;refine Kj (Wc (N4.at_) aj s) ?_ (NP.no (e:=_));rintro _ w5 ⟨rfl,rfl⟩
  cases hc:(mU k).contains s with
  |true=>
   refine If.t ?_;refine V1.i (cC _ _ _ _ _ _ aj aj) ?_;exact⟨by rw[Cu.1 bO hc],K4⟩
  |false=>
   refine If.f ?_;refine V1.i (cC _ _ _ _ _ _ aj aj) ?_;exact⟨⟨k+1,by omega,by simp,K4,λj hj=>by
    rcases Nat.lt_or_eq_of_le (Nat.lt_succ_iff.1 hj)with h|rfl
    .exact iw j h
    .exact hc⟩,by simp;omega⟩
 .have:k=10:=by omega
  subst this;refine V1.bf au ?_;refine If.f ?_;exact⟨by rw[Cu.2 rfl],K1⟩
end Go.Proofs.YtoddjlclpnoomaaGreatDoor

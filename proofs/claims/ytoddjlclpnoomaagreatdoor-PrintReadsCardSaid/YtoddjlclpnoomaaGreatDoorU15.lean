import Derived.Test.YtoddjlclpnoomaaGreatDoorU14
set_option linter.unusedVariables false
set_option linter.unusedSimpArgs false
set_option maxRecDepth 100000
open Go.Proofs.Tryz
open List (mem_cons not_mem_nil mem_singleton toList_toArray set_cons_zero set_cons_succ)
open Nat (le_refl)
open Go.Value (cells)
open Bool (and_eq_true)
namespace Go.Proofs.YtoddjlclpnoomaaGreatDoor
open Go.Sh
def l3:List (Va×Va):=[(str kF,.int .i64 1),(str gG,.int .i64 2),(str eZ,.int .i64 3)]
theorem sG{a b:By}{ts:LT}(h:bB a ts=true)(uH:a≠b):bB b ts=false:=by
 simp only[bB,fI,and_eq_true,List.contains_eq_mem,mem_singleton,decide_eq_true_eq]at h;simp only[bB,fI,List.contains_eq_mem,mem_singleton,h.2];simp[uH]
def TF:Tr->LT->Bool->bL:=λr ts _=>match r with
 |.cons ks (.cons dV .nil)=>aP [125] ts λts=>.ok (.ex 12 0 [] .nil .nil ks dV [] .nil) ts false
 |_=>.bH
theorem Ep{ks dV:Tr}{ts:LT}{o:Bool}:TF (.cons ks (.cons dV .nil)) ts o=aP [125] ts λts=>.ok (.ex 12 0 [] .nil .nil ks dV [] .nil) ts false:=rfl
theorem g220{n:Nat}(ih:∀m,m<=n->mM m):G0 (n+1) .signed 220 [] .P eh false:=by
 intro w x ts deep own r p dN hn hr aI;refine QG ?_;unfold IK;simp only[run]at hr;have lp:=p.lW;have lt:=p.kf;have lm:=p.pI;have kk:=aD.refl [x.p] w;refine V1.new (uy _ _) λb1 w1 N1=>?_;have oR:=N1.ge;have pJ:=N1.lt;have pK:=N1.aA.size;have a1:=N1.at_;try simp only[cells,toList_toArray]at a1
 replace p:=p.new N1.aA;replace kk:=N1.kp kk;refine V1.map λbm w2 m2 WJ K2=>?_;have WK:=m2.lt;have vr:=K2.size;replace p:=p.aA K2 af af af;replace kk:=kk.trans' K2 af;replace a1:=K2.at a1 af;refine U1.hO (kt:=9) (et:=3) (d:=.string) ai ai m2 trivial ak ak λw3 m3 z3 K3=>?_;have sB:=K3.size;replace p:=p.aA K3 af af af;replace kk:=kk.trans' K3 af;replace a1:=K3.at a1 af;refine U1.hO (kt:=9) (et:=3) (d:=.string) ai ai m3 trivial (by simp[MapKept.IsKey]) ak λw4 m4 z4 K4=>?_
 have B9:=K4.size;replace p:=p.aA K4 af af af;replace kk:=kk.trans' K4 af;replace a1:=K4.at a1 af;refine U1.hO (kt:=9) (et:=3) (d:=.string) ai ai m4 trivial (by simp[MapKept.IsKey]) ak λw5 m5 z5 K5=>?_;have vu:=K5.size;replace p:=p.aA K5 af af af;replace kk:=kk.trans' K5 af;replace a1:=K5.at a1 af;refine V1.rangeMap (kt:=9) (et:=3) ai m5 λr6 w6 i6 gr6 K6=>?_;replace m5:dJ w6 bm l3:=m5.aA K6 ak;replace i6:mG w6 r6 bm l3 l3:=i6;have lP:=K6.size;replace p:=p.aA K6 af af af;replace kk:=kk.trans' K6 af
 replace a1:=K6.at a1 af;have li:=i6.lt;refine FI.g (λm v ds w'=>ds=[]/\v=.pointer none/\∃left,mG w' r6 bm l3 left/\dJ w' bm l3/\PS w' x ts deep own/\aD [x.p] w w'/\At w' b1 [ptr x.p]/\(∀q∈l3,q∈left\/∀s,q.1=str s->bB s ts=false)/\(∀q∈left,q∈l3)/\left.length=m/\w6.heap.size<=w'.heap.size) 3
  ⟨rfl,rfl,l3,i6,m5,p,kk,a1,λq hq=>.inl hq,λq hq=>hq,rfl,le_refl _⟩ ?_
 clear m2 m3 m4 m5 i6 p kk a1 K2 K3 K4 K5 K6;rintro m v ds w7 K ⟨rfl,rfl,left,i7,m7,p,kk,a1,hs,hl,hm,z7⟩ hK;refine V1.tH i7 m7 aj ?_ ?_
 .rintro rfl;have ZN:=kk.size;have h1:bB kF ts=false:=by
   rcases hs (str kF,.int .i64 1) (by simp[l3])with h|h
   .cases h
   .exact h _ rfl
  have h2:bB gG ts=false:=by
   rcases hs (str gG,.int .i64 2) (by simp[l3])with h|h
   .cases h
   .exact h _ rfl
  have h3:bB eZ ts=false:=by
   rcases hs (str eZ,.int .i64 3) (by simp[l3])with h|h
   .cases h
   .exact h _ rfl
  rw[if_neg (by simp[h1]),if_neg (by simp[h2]),if_neg (by simp[h3])]at hr;clear hs hl i7 m7;refine V1.i ah ?_;refine If.f ?_;refine V1.load (aC rfl) (a1) rfl ?_;refine V1.aG ah λb8 w8 N8=>?_;have Zx:=N8.ge;have Zy:=N8.lt;have Zz:=N8.aA.size;have a8:=N8.at_;try simp only[cells,toList_toArray]at a8
  replace p:=p.new N8.aA;replace kk:=N8.kp kk;replace a1:=N8.a a1;refine fw (gy p a8) ?_ (NP.no (e:=_));rintro _ w9 ⟨rfl,K9⟩;have Ce:=K9.size;replace p:=p.aA K9 af af af;replace kk:=kk.trans' K9 af;replace a1:=K9.at a1 af;replace a8:=K9.at a8 af;refine If.b (λhb=>?_) (λhb=>?_)
  .rw[if_pos hb]at hr;refine V1.load (aC rfl) (a1) rfl ?_;refine kY (d159 p dN) ?_ ?_;rotate_left
   .intro c eo hF;exact(Er.all hF hr).pre kk ak
   rintro _ eo ⟨fA,y8,rfl,hb10,jA,p,dE⟩;have sA:deep+1<=64:=by simpa using fA
   have l10:=jA.lt;have qH:=dE.size;replace kk:=kk.trans' dE af;replace a1:=dE.at a1 af;rw[fe fA]at hr;refine D1.i (by simp[go_sem,Ah,Deferred.ofValue];exact⟨rfl,rfl⟩) ?_;refine V1.load (aC rfl) (a1) rfl ?_;refine dR (d107 p) ?_ (NP.no (e:=_));rintro _ fB ⟨rfl,p,dz⟩;have lQ:=dz.size;replace kk:=kk.trans' dz af;replace a1:=dz.at a1 af;replace jA:=dz.at jA af;refine V1.load (aC rfl) (a1) rfl ?_;refine gi ((ih n aj).expr 0 _ _ _ _ _ _ p aj aj rfl (aL hr aI)) ?_ ?_;rotate_left
   .intro c gz h;exact dD (h.next hr) lp ak jA al kk ak
   intro rv gz h;obtain⟨t,bX,o,eI,r1,S1,⟨o',-,p⟩,dw⟩:=h.out;rw[eI,aJ]at hr;have oX:=dw.size;replace kk:=kk.trans' dw af;replace a1:=dw.at a1 af;replace jA:=dw.at jA af;refine V1.load (aC rfl) (a1) rfl ?_;refine fQ (d106 [41] p) ?_ ?_;rotate_left
   .intro c lZ hF;exact dD (Er.all hF hr) lp ak jA al kk ak
   rintro _ lZ ⟨hi,rfl,p,iA⟩;have Eo:=iA.size;replace kk:=kk.trans' iA af;replace a1:=iA.at a1 af;replace jA:=iA.at jA af;replace r1:=r1.fr iA af;rw[cR hi]at hr;refine ll p dN jA λlu ZO mO=>?_;have Sd:=mO.size;replace kk:=kk.trans' mO af;replace a1:=mO.at a1 af;replace jA:=mO.at jA af;replace r1:=r1.fr mO af;subst hr;exact⟨r1.fit aj ak,S1,⟨_,by simp,ZO⟩,kk⟩
  rw[if_neg (by simp[hb])]at hr;refine V1.load (aC rfl) (a1) rfl ?_;refine V1.aG ah λy8 eo iz=>?_;have Ek:=iz.ge;have El:=iz.lt;have Em:=iz.aA.size;have jA:=iz.at_;try simp only[cells,toList_toArray]at jA
  replace p:=p.new iz.aA;replace kk:=iz.kp kk;replace a1:=iz.a a1;refine fw (gy (s:=bP) p jA) ?_ (NP.no (e:=_));rintro _ fB ⟨rfl,dz⟩;have lQ:=dz.size;replace p:=p.aA dz af af af;replace kk:=kk.trans' dz af;replace a1:=dz.at a1 af;replace jA:=dz.at jA af;refine If.b (λhb=>?_) (λhb=>?_)
  .rw[if_pos hb]at hr;refine V1.load (aC rfl) (a1) rfl ?_
   cases n with
   |zero=>exact absurd hr.symm aI
   |succ n=>
   rw[run]at hr;have q1:=p.tp;have q2:=p.mp;have pL:(bY deep λd=>aP bP ts λts=>FT n d (λpl b=>.ex 9 0 [] .nil .nil .nil .nil pl b) ts)=r:=hr;refine wq (g102 (n:=n) (ih n aj) aj (M:=[x.p]) (kc:=238) (cap:=#[]) (Y:=λbe H w=>H=λpl b=>.ex 9 0 [] .nil .nil .nil .nil pl b) p dN aI (aH func238 (c:=bC f238) ai ai _) ak al al al (λd ts=>FT n d (λpl b=>.ex 9 0 [] .nil .nil .nil .nil pl b) ts) pL ?_ ?_) ?_ ?_
   .intro be w' bU eD _ _ K' p' hG;exact QI ⟨bU,eD,_,hG,p',aD.refl _ _,rfl⟩
   .intro be H w1 w2 _ h _;exact h
   .rintro v gz ⟨be,H,pl,b,bX,eI,R1,⟨o',p⟩,dw,rfl⟩;have oX:=dw.size;replace kk:=kk.trans' dw af;rw[eI];exact⟨R1.fit aj ak,rfl,⟨_,by simp,p⟩,kk⟩
   .intro c gz h;exact h.pre kk ak
  rw[if_neg (by simp[hb])]at hr;refine V1.load (aC rfl) (a1) rfl ?_;refine V1.aG ah λwU gz gA=>?_;have Ai:=gA.ge;have Aj:=gA.lt;have Ak:=gA.aA.size;have a12:=gA.at_;try simp only[cells,toList_toArray]at a12
  replace p:=p.new gA.aA;replace kk:=gA.kp kk;replace a1:=gA.a a1;refine fw (gy p a12) ?_ (NP.no (e:=_));rintro _ lZ ⟨rfl,iA⟩;have Eo:=iA.size;replace p:=p.aA iA af af af;replace kk:=kk.trans' iA af;replace a1:=iA.at a1 af;replace a12:=iA.at a12 af;refine If.b (λhb=>?_) (λhb=>?_)
  .rw[if_pos hb]at hr;have pL:(bY deep λd=>match bB [125] (bF ts)with
    |true=>.ok (.ex 12 0 [] .nil .nil .nil .nil [] .nil) (bF (bF ts)) false
    |false=>(run n (.items .nil .nil) d (bF ts)).bind TF)=r:=hr
   clear hr;have q1:=p.tp;have q2:=p.mp;refine V1.i ah ?_;refine V1.new (jJ _ _) λAl lu rK=>?_;have RU:=rK.ge;have RV:=rK.lt;have RX:=rK.aA.size;have nQ:=rK.at_;try simp only[cells,toList_toArray]at nQ
   replace p:=p.new rK.aA;replace kk:=rK.kp kk;replace a1:=rK.a a1;refine V1.new (DH _) λOv sE pM=>?_;have RY:=pM.ge;have RZ:=pM.lt;have R0:=pM.aA.size;have ny:=pM.at_;try simp only[cells,toList_toArray]at ny
   replace p:=p.new pM.aA;replace kk:=pM.kp kk;replace a1:=pM.a a1;replace nQ:=pM.a nQ;refine U1.store (aO rfl rfl) ny ak λwV FX=>?_;have zU16:=FX.size;replace p:=p.aA FX.aA af af af;replace kk:=kk.trans' FX.aA af;replace a1:=FX.aA.at a1 af;replace nQ:=FX.aA.at nQ af;replace ny:=FX.at_;simp only[set_cons_zero,set_cons_succ]at ny;have nR:aD [] wV wV.drew:=(aD.refl _ _).drew;generalize wV.drew=En at nR⊢;have Se:=nR.size;replace p:=p.aA nR af af af
   replace kk:=kk.trans' nR af;replace a1:=nR.at a1 af;replace nQ:=nR.at nQ af;replace ny:=nR.at ny af;refine⟨λw'=>At w' Ov [ptr Al]/\At w' b1 [ptr x.p],⟨ny,a1⟩,?_⟩;refine Xw.i _ (λw' hw=>(aC rfl) _ _ _ (by rw[hw.1.cell];rfl)) ?_;refine Xw.i _ (λw' hw=>(aC rfl) _ _ _ (by rw[hw.2.cell];rfl)) ?_;refine Xw.i _ (λw' _=>by simp[go_sem]<;>trivial) ?_;have q3:=p.kf;refine wt (g160 (M:=[x.p,Al]) (N:=n) (r:=r) (kc:=239) (cap:=#[ptr b1,ptr Ov]) (J:=JI x r deep n Al TF) (Z:=ZI x r Al TF) p dN (aH func239 (c:=bC f239) ai ai _) ak al al al hb ?_ ?_ ?_ ?_ ?_) ?_ ?_
   .intro h;simp only[bY,h]at pL;exact pL.symm
   .intro wb Kb pb fA;rw[fe fA]at pL;have zb:=Kb.size;have WV:=Kb.size;replace nQ:=Kb.at nQ af;constructor
    .intro h;simp only[h]at pL;exact⟨.nil,.nil,_,_,nQ,Acc.nil _ _ _ _,Acc.nil _ _ _ _,by rw[Ep,cR h];exact pL,by omega⟩
    .intro h;simp only[h]at pL;exact⟨.nil,.nil,_,_,nQ,Acc.nil _ _ _ _,Acc.nil _ _ _ _,pL,by simp[len],by simp[len]⟩
   .intro wb m' bU w' eD Kb hJ p' kM fA;have zb:=Kb.size;exact g239 ih aj aI (λ_ _=>rfl) ⟨dN.1,by simpa using fA⟩ aj hJ p' kM (Kb.at ny al) (Kb.at a1 al) aj aj aj aj aj aj aj aj aj aj
   .rintro wb bU w' ⟨ks,dV,kv,av,ac,ck,ca,hF,hl⟩ h;rw[Ep]at hF;simp only[aP,h]at hF;exact hF.symm
   .intro wb bU w1 w2 hZ hk;exact hZ.aA hk aj
   .rintro v Es ⟨rfl,fA,wb,dA,kK,Kb,p,hi,⟨ks,dV,kv,av,ac,ck,ca,hF,hl⟩,FY⟩;have zb:=Kb.size;have zK18:=FY.size;replace kk:=kk.trans' FY af;replace a1:=FY.at a1 af;replace ny:=FY.at ny af;rw[Ep,cR hi]at hF;refine⟨⟨ny,a1⟩,?_⟩;unfold oY at ac;rw[show ptr Al=.pointer (some ⟨Al,0,none⟩)from rfl];refine⟨_,λw' _=>Nc.p _ w',?_⟩;refine Xw.i _ (λw' _=>by simp[go_sem]<;>trivial) ?_;refine U1.store (aO rfl rfl) ac ak λWW Cn=>?_;have zU19:=Cn.size;replace kk:=kk.trans' Cn.aA af;replace a1:=Cn.aA.at a1 af;replace ny:=Cn.aA.at ny af;replace p:=p.aA Cn.aA af af af
    replace ck:=ck.fr Cn.aA af;replace ca:=ca.fr Cn.aA af;replace ac:=Cn.at_;simp only[set_cons_zero,set_cons_succ]at ac;refine V1.load (aC rfl) (ny) rfl ?_;subst hF;exact⟨⟨Al,_,_,_,_,_,_,_,rfl,⟨by omega,by simp⟩,ac,rfl,rfl,ck.rep.fit aj ak,ca.rep.fit aj ak,.inl ⟨rfl,rfl⟩,.inl rfl⟩,rfl,⟨_,by simp,p⟩,kk⟩
   .intro c Es hF;exact hF.pre kk al
  rw[if_neg (by simp[hb])]at hr;refine V1.load (aC rfl) (a1) rfl ?_;subst hr;refine kH (d32 4 p) ?_ ?_
  .rintro _ _ h;exact h.elim
  .intro c lu hF;exact hF.pre kk ak
 .intro key val iJ w8 nu hlen Ed tO i8 m8 K8 z8 Ee _;have ZN:=kk.size;have wR:=K8.size;replace p:=p.aA K8 af af af;replace kk:=kk.trans' K8 af;replace a1:=K8.at a1 af;obtain⟨s,kd,rfl,rfl,ZQ⟩:∃s kd,key=str s/\val=.int .i64 kd/\(bB s ts=true->bL.ok (lf kd 0 []) (bF ts) false=r):=by
   have nt:=hl _ nu;simp only[l3,mem_cons,Prod.mk.injEq,not_mem_nil,or_false]at nt;rcases nt with⟨rfl,rfl⟩|⟨rfl,rfl⟩|⟨rfl,rfl⟩
   .exact⟨_,_,rfl,rfl,λh=>by rw[if_pos h]at hr;exact hr⟩
   .exact⟨_,_,rfl,rfl,λh=>by rw[if_neg (by rw[sG h ay];simp),if_pos h]at hr;exact hr⟩
   .exact⟨_,_,rfl,rfl,λh=>by rw[if_neg (by rw[sG h ay];simp),if_neg (by rw[sG h ay];simp),if_pos h]at hr;exact hr⟩
  refine V1.i ah ?_;refine If.t ?_;refine V1.i (Ee _ (aD.refl _ _)) ?_;refine V1.i ah ?_;refine V1.i ah ?_;refine V1.load (aC rfl) (a1) rfl ?_;refine V1.aG ah λb9 w9 N9=>?_;have RJ:=N9.ge;have RM:=N9.lt;have RO:=N9.aA.size;have a9:=N9.at_;try simp only[cells,toList_toArray]at a9
  replace p:=p.new N9.aA;replace kk:=N9.kp kk;replace a1:=N9.a a1;replace i8:=i8.aA N9.aA ak;replace m8:=m8.aA N9.aA ak;refine fw (gy p a9) ?_ (NP.no (e:=_));rintro _ eo ⟨rfl,dE⟩;have qH:=dE.size;replace p:=p.aA dE af af af;replace kk:=kk.trans' dE af;replace a1:=dE.at a1 af;replace a9:=dE.at a9 af;replace i8:=i8.aA dE ak;replace m8:=m8.aA dE ak;refine If.b (λhb=>?_) (λhb=>?_)
  .refine V1.load (aC rfl) (a1) rfl ?_;refine dR (d107 p) ?_ (NP.no (e:=_));rintro _ fB ⟨rfl,p,dz⟩;have lQ:=dz.size;replace kk:=kk.trans' dz af;rw[dm];refine V1.i ah ?_;refine V1.i ah ?_;refine V1.new (jJ _ _) λwU gz gA=>?_;have Ai:=gA.ge;have Aj:=gA.lt;have Ak:=gA.aA.size;have a12:=gA.at_;try simp only[cells,toList_toArray]at a12
   replace kk:=gA.kp kk;replace p:=p.new gA.aA;rw[←ZQ hb];exact⟨⟨wU,_,_,_,_,_,_,_,rfl,⟨by omega,by simp⟩,a12,rfl,rfl,.inl rfl,.inl rfl,.inl ⟨rfl,rfl⟩,.inl rfl⟩,rfl,⟨_,by simp,p⟩,kk⟩
  .refine hK iJ.length _ _ _ aj ⟨rfl,rfl,iJ,i8,m8,p,kk,a1,λq hq=>?_,λq hq=>hl q (tO q hq),rfl,by omega⟩;rcases hs q hq with h|h
   .rcases Ed q h with rfl|h
    .right
     intro s' rU;have:s=s':=by simpa[str]using rU
     rw[←this];exact hb
    .exact .inl h
   .exact .inr h
theorem aU.st{lo n bs:Nat}{X:List Nat}{w:Wd}{t:Tr}{m:Md}(h:aU (Fr lo X) w t m)(hl:n<=lo):aU (λq=>q=bs\/n<=q) w t m:=aU.imp (λq hq _=>.inr (by have:=hq.1;omega)) t m h
theorem g109{n:Nat}(ih:mM n):GS (n+1) .branch 109:=by
 intro w x ts deep own r bs line p dN hn hr aI aR h1 h2 h3;refine Qs ?_;unfold It;simp only[run]at hr;have lp:=p.lW;have lt:=p.kf;have lm:=p.pI;have Ko:=aR.lt;unfold qG at aR;have kk:=aD.refl [x.p,bs] w;refine gi (ih.expr 0 _ _ _ _ _ _ p dN aj rfl (aL hr aI)) ?_ ?_;rotate_left
 .intro c w2 h;exact h.up hr kk ak
 intro rv w2 h;obtain⟨t,bX,o,eI,r1,S1,⟨o',-,p⟩,K2⟩:=h.out;rw[eI,aJ]at hr;have vr:=K2.size;replace kk:=kk.trans' K2 af;replace aR:=K2.at aR af;obtain⟨br,rfl,-,-⟩:=r1.kind S1;unfold ptr at*;refine Up.i (Nc.p _ _) ?_;refine V1.i ah ?_;refine U1.store (aO rfl rfl) aR ak λw3 U3=>?_;have zU3:=U3.size;replace kk:=kk.trans' U3.aA af;replace r1:=r1.fr U3.aA af;replace p:=p.aA U3.aA af af af;replace aR:=U3.at_;simp only[set_cons_zero,set_cons_succ]at aR;refine Up.i (Nc.p _ _) ?_;refine V1.i ah ?_;refine U1.store (aO rfl rfl) aR ak λw4 U4=>?_;have Ot:=U4.size
 replace kk:=kk.trans' U4.aA af;replace r1:=r1.fr U4.aA af;replace p:=p.aA U4.aA af af af;replace aR:=U4.at_;simp only[set_cons_zero,set_cons_succ]at aR;have z4:=kk.size;refine nL (ih.inner qs _ _ _ _ _ _ p dN aj rfl (aL hr aI)) ?_ ?_;rotate_left
 .intro c w5 h;exact h.up hr kk ak
 intro av w5 h;obtain⟨ta,dA,o,gh,r2,S2,⟨o',-,p⟩,K5⟩:=h.out;rw[gh,aJ]at hr;have vu:=K5.size;replace kk:=kk.trans' K5 af;replace r1:=r1.fr K5 af;replace aR:=K5.at aR af;refine Up.i (Nc.p _ _) ?_;refine V1.i ah ?_;have tN:=r2.y7 S2;refine U1.store (aO rfl tN) aR ak λw6 U6=>?_;have Cd:=U6.size;replace kk:=kk.trans' U6.aA af;replace r1:=r1.fr U6.aA af;replace r2:=r2.fr U6.aA af;replace p:=p.aA U6.aA af af af;replace aR:=U6.at_;simp only[set_cons_zero,set_cons_succ]at aR;refine V1.aG ah λb7 w7 N7=>?_;have R6:=N7.ge;have R7:=N7.lt;have R8:=N7.aA.size
 have a7:=N7.at_;try simp only[cells,toList_toArray]at a7
 replace kk:=N7.kp kk;replace r1:=r1.nw N7;replace r2:=r2.nw N7;replace p:=p.new N7.aA;replace aR:=N7.a aR;refine fw (gy (s:=ew) p a7) ?_ (NP.no (e:=_));rintro _ w8 ⟨rfl,K8⟩;have wR:=K8.size;replace kk:=kk.trans' K8 af;replace r1:=r1.fr K8 af;replace r2:=r2.fr K8 af;replace p:=p.aA K8 af af af;replace aR:=K8.at aR af;replace a7:=K8.at a7 af;refine If.b (λhb=>?_) (λhb=>?_)
 .rw[hb]at hr;refine dR (d107 p) ?_ (NP.no (e:=_));rintro _ w9 ⟨rfl,p,K9⟩;have Ce:=K9.size;replace kk:=kk.trans' K9 af;replace r1:=r1.fr K9 af;replace r2:=r2.fr K9 af;replace aR:=K9.at aR af;rw[dm];refine V1.i ah ?_;refine V1.i ah ?_;refine V1.new (zF _ _) λy8 eo iz=>?_;have Ek:=iz.ge;have El:=iz.lt;have Em:=iz.aA.size;have jA:=iz.at_;try simp only[cells,toList_toArray]at jA
  replace kk:=iz.kp kk;replace r1:=r1.nw iz;replace r2:=r2.nw iz;replace aR:=iz.a aR;replace p:=p.new iz.aA;have q1:=p.kf;refine BG (ih.branch _ _ _ _ _ _ y8 _ p dN aj rfl (aL hr aI) jA aj aj aj) ?_ ?_;rotate_left
  .intro c fB h;exact h.up hr kk al
  rintro _ fB h;obtain⟨tb,vw,o,Ao,r3,S3,⟨o',p⟩,dz⟩:=h.out;rw[Ao,aJ]at hr;have lQ:=dz.size;replace kk:=kk.trans' dz af;replace r1:=r1.fr dz af;replace r2:=r2.fr dz af;replace aR:=dz.at aR af;replace r3:aU (Fr w9.heap.size []) fB tb (.P (ptr y8)):=aU.imp (λq hq _=>⟨by omega,by simp⟩) _ _ r3;refine V1.aG ah λwU gz gA=>?_;have Ai:=gA.ge;have Aj:=gA.lt;have Ak:=gA.aA.size;have a12:=gA.at_;try simp only[cells,toList_toArray]at a12
  replace kk:=gA.kp kk;replace r1:=r1.nw gA;replace r2:=r2.nw gA;replace r3:=r3.nw gA;replace aR:=gA.a aR;replace p:=p.new gA.aA;refine Up.i (Nc.p _ _) ?_;refine V1.i ah ?_;refine U1.store (aO rfl rfl) aR ak λlZ fT=>?_;have Ap:=fT.size;replace kk:=kk.trans' fT.aA af;replace r1:=r1.fr fT.aA af;replace r2:=r2.fr fT.aA af;replace r3:=r3.fr fT.aA af;replace a12:=fT.aA.at a12 af;replace p:=p.aA fT.aA af af af;replace aR:=fT.at_;simp only[set_cons_zero,set_cons_succ]at aR;subst hr
  exact⟨⟨bs,_,_,_,_,_,_,rfl,.inl rfl,aR,rfl,r1.st aj,rfl,r2.st aj,⟨wU,0,1,_,rfl,by omega,.inr aj,by rw[a12.cell];rfl,r3.st aj,rfl⟩⟩,rfl,⟨_,p⟩,kk⟩
 rw[hb]at hr;refine V1.aG ah λb9 w9 N9=>?_;have RJ:=N9.ge;have RM:=N9.lt;have RO:=N9.aA.size;have a9:=N9.at_;try simp only[cells,toList_toArray]at a9
 replace kk:=N9.kp kk;replace r1:=r1.nw N9;replace r2:=r2.nw N9;replace p:=p.new N9.aA;replace aR:=N9.a aR;refine fw (gy (s:=dU) p a9) ?_ (NP.no (e:=_));rintro _ eo ⟨rfl,dE⟩;have qH:=dE.size;replace kk:=kk.trans' dE af;replace r1:=r1.fr dE af;replace r2:=r2.fr dE af;replace p:=p.aA dE af af af;replace aR:=dE.at aR af;replace a9:=dE.at a9 af;refine If.b (λhb=>?_) (λhb=>?_)
 .rw[hb]at hr;refine nL (ih.inner dU _ _ _ _ _ _ p dN aj rfl (aL hr aI)) ?_ ?_;rotate_left
  .intro c w5 h;exact h.up hr kk ak
  intro bv fB h;obtain⟨tb,vw,o,Ao,r3,S3,⟨o',-,p⟩,dz⟩:=h.out;rw[Ao,aJ]at hr;have lQ:=dz.size;replace kk:=kk.trans' dz af;replace r1:=r1.fr dz af;replace r2:=r2.fr dz af;replace aR:=dz.at aR af;refine Up.i (Nc.p _ _) ?_;refine V1.i ah ?_;have tN:=r3.y7 S3;refine U1.store (aO rfl tN) aR ak λgz Et=>?_;have zU12:=Et.size;replace kk:=kk.trans' Et.aA af;replace r1:=r1.fr Et.aA af;replace r2:=r2.fr Et.aA af;replace r3:=r3.fr Et.aA af;replace p:=p.aA Et.aA af af af;replace aR:=Et.at_;simp only[set_cons_zero,set_cons_succ]at aR;subst hr
  exact⟨⟨bs,_,_,_,_,_,_,rfl,.inl rfl,aR,rfl,r1.st aj,rfl,r2.st aj,r3.st aj⟩,rfl,⟨_,p⟩,kk⟩
 .rw[hb]at hr;subst hr;exact⟨⟨bs,_,_,_,_,_,_,rfl,.inl rfl,aR,rfl,r1.st aj,rfl,r2.st aj,.inl rfl⟩,rfl,⟨_,p⟩,kk⟩
def Aq(line:Int)(nm:By)(av bv:Va):LV:=[.int .i64 10,.int .i64 line,str nm,.pointer none,.pointer none,.pointer none,av,bv]
theorem g110{n:Nat}(ih:mM n)(hn:n<=aX){w:Wd}{x:eO}{ts:LT}{deep:Int}{own:Bool}{r:bL}{bs:Nat}{line:Int}{av:Va}{Fc:By->Tr->LT->bL}(p:PS w x ts deep own)(dN:0<=deep/\deep<=64)(aI:r≠.bH)
  (aR:At w bs (Aq line [] av (.slice none 0 0))) (h1:bs≠x.p) (h2:bs≠x.bt) (h3:bs≠x.bm)
  (hr:(match bB eG ts with|false=>bL.fail 4|true=>bY deep λd=>cP (bF ts) λnm ts=>(run n .block d ts).bind λb ts _=>Fc nm b ts)=r):
  Calls prog 110 #[ptr x.p,ptr bs] w (aZ (λ_ w'=>∃nm b bv bU o',Fc nm b bU=r/\At w' bs (Aq line nm av bv)/\aU (Fr w.heap.size []) w' b (.L bv)/\dG b=true/\PS w' x bU deep o'/\aD [x.p,bs] w w') (Er [x.p,bs] x w r)):=by
 refine Qt ?_;unfold Iu;have lp:=p.lW;have lt:=p.kf;have lm:=p.pI;have Ko:=aR.lt;unfold Aq at aR;have kk:=aD.refl [x.p,bs] w;refine yV.go ?_;refine V1.aG ah λb1 w1 N1=>?_;have oR:=N1.ge;have pJ:=N1.lt;have pK:=N1.aA.size;have a1:=N1.at_;try simp only[cells,toList_toArray]at a1
 replace p:=p.new N1.aA;replace kk:=N1.kp kk;replace aR:=N1.a aR;refine fw (gy (s:=eG) p a1) ?_ (NP.no (e:=_));rintro _ w2 ⟨rfl,K2⟩;have vr:=K2.size;replace p:=p.aA K2 af af af;replace kk:=kk.trans' K2 af;replace aR:=K2.at aR af;replace a1:=K2.at a1 af;repeat(first|refine Up.i (Nc.p _ _) ?_|refine V1.load (aC rfl) au rfl ?_|refine V1.i ah ?_)
 refine If.b (λhb=>?_) (λhb=>?_)
 .have dZ:bB eG ts=false:=by simpa using hb
  rw[dZ]at hr;subst hr;refine kH (d32 4 p) ?_ ?_
  .rintro _ _ h;exact h.elim
  .intro c w3 hF;exact hF.pre kk ak
 have dZ:bB eG ts=true:=by simpa using hb
 rw[dZ]at hr;refine kY (d159 p dN) ?_ ?_;rotate_left
 .intro c w3 hF;exact(Er.all hF hr).pre kk ak
 rintro _ w3 ⟨fA,b3,rfl,Eh,a3,p,K3⟩;have sA:deep+1<=64:=by simpa using fA
 have l3:=a3.lt;have sB:=K3.size;replace kk:=kk.trans' K3 af;replace aR:=K3.at aR af;dsimp only at hr;rw[fe fA]at hr;refine D1.i (by simp[go_sem,Ah,Deferred.ofValue];exact⟨rfl,rfl⟩) ?_;refine dR (d107 p) ?_ (NP.no (e:=_));rintro _ w4 ⟨rfl,p,K4⟩;have B9:=K4.size;replace kk:=kk.trans' K4 af;replace aR:=K4.at aR af;replace a3:=K4.at a3 af;refine mE (d104 p) ?_ ?_;rotate_left
 .intro c w5 hF;exact dD (Er.all hF hr) lp ak a3 al kk ak
 rintro _ w5 ⟨hi,rfl,p,K5⟩;have vu:=K5.size;replace kk:=kk.trans' K5 af;replace aR:=K5.at aR af;replace a3:=K5.at a3 af;rw[fc hi]at hr;rw[dm];unfold ptr at*;refine V1.i ah ?_;refine Up.i (Nc.p _ _) ?_;refine V1.i ah ?_;refine U1.store (aO rfl rfl) aR ak λw6 U6=>?_;have Cd:=U6.size;replace kk:=kk.trans' U6.aA af;replace a3:=U6.aA.at a3 af;replace p:=p.aA U6.aA af af af;replace aR:=U6.at_;simp only[set_cons_zero,set_cons_succ]at aR;refine zU (ih.block _ _ _ _ _ _ p aj aj rfl (aL hr aI)) ?_ ?_;rotate_left
 .intro c w7 h;exact dD (h.next hr) lp ak a3 al kk ak
 intro bv w7 h;obtain⟨tb,vw,o,Ao,r3,S3,⟨o',-,p⟩,K7⟩:=h.out;rw[Ao,aJ]at hr;have kg:=K7.size;replace kk:=kk.trans' K7 af;replace aR:=K7.at aR af;replace a3:=K7.at a3 af;refine Up.i (Nc.p _ _) ?_;refine V1.i ah ?_;have tN:=r3.y7 S3;have z7:=kk.size;refine U1.store (aO rfl tN) aR ak λw8 U8=>?_;have wS:=U8.size;replace kk:=kk.trans' U8.aA af;replace a3:=U8.aA.at a3 af;replace r3:=r3.fr U8.aA af;replace p:=p.aA U8.aA af af af;replace aR:=U8.at_;simp only[set_cons_zero,set_cons_succ]at aR;refine ll p dN a3 λw9 p9 K9=>?_;have Ce:=K9.size;replace kk:=kk.trans' K9 af
 replace aR:=K9.at aR af;replace r3:=r3.fr K9 af;exact⟨_,_,_,_,_,hr,aR,r3.fit aj ak,S3,p9,kk⟩
def wZ(line:Int)(nm:By):LV:=[.int .i64 11,.int .i64 line,str nm,.pointer none,.pointer none,.pointer none,.slice none 0 0,.slice none 0 0]
theorem g157{w:Wd}{x:eO}{ts:LT}{deep:Int}{own:Bool}{b1 b2 bs:Nat}{line:Int}(p:PS w x ts deep own)(a1:At w b1 [ptr x.p])(a2:At w b2 [ptr bs])(aR:At w bs (wZ line []))
  (h1:bs≠x.p) (h2:bs≠x.bt) (h3:bs≠x.bm) (h4:b1≠x.p) (h5:b2≠x.p):
  Calls prog 157 #[ptr b1,ptr b2] w (aZ (λ_ w'=>((hd ts).kind==1)=true/\PS w' x (bF ts) deep own/\At w' bs (wZ line (hd ts).text)/\aD [x.p,bs] w w') (λc w'=>∀f,Er [x.p,bs] x w (cP ts f) c w')):=by
 refine Qv ?_;unfold Ix;have kk:=aD.refl [x.p,bs] w;unfold wZ at aR;have K1:aD [] w w.drew:=(aD.refl _ _).drew;generalize w.drew=w1 at K1⊢;have WT:=K1.size;replace p:=p.aA K1 af af af;replace kk:=kk.trans' K1 af;replace a1:=K1.at a1 af;replace a2:=K1.at a2 af;replace aR:=K1.at aR af;refine⟨λw'=>At w' b2 [ptr bs]/\At w' b1 [ptr x.p],⟨a2,a1⟩,?_⟩;refine Xw.i _ (λw' hw=>(aC rfl) _ _ _ (by rw[hw.1.cell];rfl)) ?_;refine Xw.i _ (λw' hw=>(aC rfl) _ _ _ (by rw[hw.2.cell];rfl)) ?_;refine mE (d104 p) ?_ ?_;rotate_left
 .intro c w7 hF f;exact(hF f).pre kk ak
 rintro _ w7 ⟨hi,rfl,p,K7⟩;have kg:=K7.size;replace kk:=kk.trans' K7 af;replace a1:=K7.at a1 af;replace a2:=K7.at a2 af;replace aR:=K7.at aR af;refine⟨⟨a2,a1⟩,?_⟩;rw[dm];refine Xw.i _ (λw' _=>by simp[go_sem]<;>trivial) ?_;unfold ptr at*;refine⟨_,λw' _=>Nc.p _ w',?_⟩;refine Xw.i _ (λw' _=>by simp[go_sem]<;>trivial) ?_;refine U1.store (aO rfl rfl) aR ak λw8 U8=>?_;have wS:=U8.size;replace kk:=kk.trans' U8.aA af;replace p:=p.aA U8.aA af af af;replace aR:=U8.at_;simp only[set_cons_zero,set_cons_succ]at aR;exact⟨hi,p,aR,kk⟩
theorem g101{n:Nat}(ih:∀m,m<=n->mM m):GS (n+1) .kE 101:=by
 intro w x ts deep own r bs line p dN hn hr aI aR h1 h2 h3;refine Qk ?_;unfold Ii;simp only[run]at hr;have lp:=p.lW;have lt:=p.kf;have lm:=p.pI;have Ko:=aR.lt;unfold qG at aR;have kk:=aD.refl [x.p,bs] w;refine V1.new (uy _ _) λb1 w1 N1=>?_;have oR:=N1.ge;have pJ:=N1.lt;have pK:=N1.aA.size;have a1:=N1.at_;try simp only[cells,toList_toArray]at a1
 replace p:=p.new N1.aA;replace kk:=N1.kp kk;replace aR:=N1.a aR;refine V1.new (G4 _ _) λb2 w2 N2=>?_;have BZ:=N2.ge;have B1:=N2.lt;have Ac:=N2.aA.size;have a2:=N2.at_;try simp only[cells,toList_toArray]at a2
 replace p:=p.new N2.aA;replace kk:=N2.kp kk;replace aR:=N2.a aR;replace a1:=N2.a a1;refine V1.load (aC rfl) (a1) rfl ?_;refine dR (d107 p) ?_ (NP.no (e:=_));rintro _ w3 ⟨rfl,p,K3⟩;have sB:=K3.size;replace kk:=kk.trans' K3 af;replace aR:=K3.at aR af;replace a1:=K3.at a1 af;replace a2:=K3.at a2 af;refine V1.load (aC rfl) (a1) rfl ?_;refine V1.aG ah λb4 w4 N4=>?_;have RP:=N4.ge;have WM:=N4.lt;have RQ:=N4.aA.size;have a4:=N4.at_;try simp only[cells,toList_toArray]at a4
 replace p:=p.new N4.aA;replace kk:=N4.kp kk;replace aR:=N4.a aR;replace a1:=N4.a a1;replace a2:=N4.a a2;refine fw (gy (s:=bP) p a4) ?_ (NP.no (e:=_));rintro _ w5 ⟨rfl,K5⟩;have vu:=K5.size;replace p:=p.aA K5 af af af;replace kk:=kk.trans' K5 af;replace aR:=K5.at aR af;replace a1:=K5.at a1 af;replace a2:=K5.at a2 af;replace a4:=K5.at a4 af;refine If.b (λhb=>?_) (λhb=>?_)
 .rw[hb]at hr;dsimp only at hr
  cases n with
  |zero=>exact absurd hr.symm aI
  |succ n=>
  unfold ptr at*;refine V1.load (aC rfl) (a2) rfl ?_;refine Up.i (Nc.p _ _) ?_;refine V1.i ah ?_;refine U1.store (aO rfl rfl) aR ak λw6 U6=>?_;have Cd:=U6.size;replace p:=p.aA U6.aA af af af;replace kk:=kk.trans' U6.aA af;replace a1:=U6.aA.at a1 af;replace a2:=U6.aA.at a2 af;replace aR:=U6.at_;simp only[set_cons_zero,set_cons_succ]at aR;have K7:aD [] w6 w6.drew:=(aD.refl _ _).drew;generalize w6.drew=w7 at K7⊢;have kg:=K7.size;replace p:=p.aA K7 af af af;replace kk:=kk.trans' K7 af;replace a1:=K7.at a1 af;replace a2:=K7.at a2 af
  replace aR:=K7.at aR af;refine⟨λw'=>At w' b2 [ptr bs]/\At w' b1 [ptr x.p],⟨a2,a1⟩,?_⟩;refine Xw.i _ (λw' hw=>(aC rfl) _ _ _ (by rw[hw.1.cell];rfl)) ?_;refine Xw.i _ (λw' hw=>(aC rfl) _ _ _ (by rw[hw.2.cell];rfl)) ?_;refine Xw.i _ (λw' _=>by simp[go_sem]<;>trivial) ?_;have q1:=p.tp;have q2:=p.mp;have z7:=kk.size
  refine wq (g102 (n:=n) (r:=run (n+1) (.func true) deep (bF ts)) (ih n aj) aj (M:=[x.p,bs]) (kc:=157) (cap:=#[ptr b1,ptr b2]) (Y:=λbe H w'=>∃nm,(H=λpl b=>.cons (.ex 9 0 [] .nil .nil .nil .nil pl b) (.cons (lf 6 0 nm) .nil))/\At w' bs (wZ line nm)) p dN (aL hr aI) (aH func157 (c:=bC Tryz.f157) ai ai _) ak al al al (λd ts=>cP ts λnm ts=>FT n d (λpl b=>.cons (.ex 9 0 [] .nil .nil .nil .nil pl b) (.cons (lf 6 0 nm) .nil)) ts) (by rw[run];rfl) ?_ ?_) ?_ ?_
  .intro be w' bU eD _ _ K' p' hG;refine aZ.imp (g157 p' (K'.at a1 al) (K'.at a2 al) (K'.at aR al) h1 h2 h3 aj aj) ?_ ?_
   .rintro _ w2 ⟨hk,p2,Co,K2⟩;rw[fc hk]at hG;exact⟨_,_,_,hG,p2,K2,_,rfl,Co⟩
   .intro c w2 hF;exact Er.all hF hG
  .rintro be H w1 w2 Sb ⟨nm,rfl,Co⟩ K';exact⟨nm,rfl,K'.at Co al⟩
  .rintro v gz ⟨be,H,pl,b,bX,eI,R1,⟨o',p⟩,dw,nm,rfl,aR⟩;rw[eI,aJ]at hr;dsimp only[lf]at hr;have oX:=dw.size;replace kk:=kk.trans' dw af;replace a1:=dw.at a1 af;replace a2:=dw.at a2 af;obtain⟨br,rfl,-,-⟩:=R1.kind rfl;refine⟨⟨a2,a1⟩,?_⟩;unfold wZ at aR;unfold ptr at*;refine⟨_,λw' _=>Nc.p _ w',?_⟩;refine Xw.i _ (λw' _=>by simp[go_sem]<;>trivial) ?_;replace R1:=R1.fit (lo':=w7.heap.size) (Y:=[]) aj ak;refine U1.store (aO rfl rfl) aR ak λlZ fT=>?_;have Ap:=fT.size;replace kk:=kk.trans' fT.aA af;replace p:=p.aA fT.aA af af af;replace aR:=fT.at_;simp only[set_cons_zero,set_cons_succ]at aR
   replace R1:=R1.fr fT.aA al;subst hr;exact⟨⟨bs,_,_,_,_,_,_,rfl,.inl rfl,aR,rfl,R1.st aj,rfl,.inl rfl,.inl rfl⟩,rfl,⟨_,p⟩,kk⟩
  .intro c gz h;exact h.up hr kk ak
 rw[hb]at hr;have K6:aD [] w5 w5.drew:=(aD.refl _ _).drew;generalize w5.drew=w6 at K6⊢;have lP:=K6.size;replace p:=p.aA K6 af af af;replace kk:=kk.trans' K6 af;replace aR:=K6.at aR af;replace a1:=K6.at a1 af;replace a2:=K6.at a2 af;refine⟨λw'=>At w' b2 [ptr bs]/\At w' b1 [ptr x.p],⟨a2,a1⟩,?_⟩;refine Xw.i _ (λw' hw=>(aC rfl) _ _ _ (by rw[hw.1.cell];rfl)) ?_;refine Xw.i _ (λw' hw=>(aC rfl) _ _ _ (by rw[hw.1.cell];rfl)) ?_;refine Xw.i _ (λw' hw=>(aC rfl) _ _ _ (by rw[hw.2.cell];rfl)) ?_;refine mE (d104 p) ?_ ?_;rotate_left
 .intro c w7 hF;exact(Er.all hF hr).pre kk ak
 rintro _ w7 ⟨hi,rfl,p,K7⟩;have kg:=K7.size;replace kk:=kk.trans' K7 af;replace aR:=K7.at aR af;replace a1:=K7.at a1 af;replace a2:=K7.at a2 af;dsimp only at hr;rw[fc hi]at hr;refine⟨⟨a2,a1⟩,?_⟩;rw[dm];refine Xw.i _ (λw' _=>by simp[go_sem]<;>trivial) ?_;unfold ptr at*;refine⟨_,λw' _=>Nc.p _ w',?_⟩;refine Xw.i _ (λw' _=>by simp[go_sem]<;>trivial) ?_;refine U1.store (aO rfl rfl) aR ak λw8 U8=>?_;have wS:=U8.size;replace kk:=kk.trans' U8.aA af;replace a1:=U8.aA.at a1 af;replace a2:=U8.aA.at a2 af;replace p:=p.aA U8.aA af af af;replace aR:=U8.at_;simp only[set_cons_zero,set_cons_succ]at aR
 refine⟨⟨a2,a1⟩,?_⟩;refine⟨_,λw' _=>Nc.p _ w',?_⟩;refine Xw.i _ (λw' _=>by simp[go_sem]<;>trivial) ?_;refine U1.store (aO rfl rfl) aR ak λw9 U9=>?_;have An:=U9.size;replace kk:=kk.trans' U9.aA af;replace a1:=U9.aA.at a1 af;replace a2:=U9.aA.at a2 af;replace p:=p.aA U9.aA af af af;replace aR:=U9.at_;simp only[set_cons_zero,set_cons_succ]at aR;refine V1.load (aC rfl) (a1) rfl ?_;refine BI (d158 [61] p) ?_ (NP.no (e:=_));rintro _ eo ⟨rfl,p,dE⟩;have qH:=dE.size;replace kk:=kk.trans' dE af;replace a1:=dE.at a1 af;replace a2:=dE.at a2 af;replace aR:=dE.at aR af;refine If.b (λhb=>?_) (λhb=>?_)
 .rw[hb]at hr p;rw[if_pos rfl]at p;dsimp only at hr;have Sf:=kk.size;have dz:aD [] eo eo.drew:=(aD.refl _ _).drew;generalize eo.drew=fB at dz⊢;have lQ:=dz.size;replace p:=p.aA dz af af af;replace kk:=kk.trans' dz af;replace a1:=dz.at a1 af;replace a2:=dz.at a2 af;replace aR:=dz.at aR af;refine⟨λw'=>At w' b2 [.pointer (some ⟨bs,0,none⟩)]/\At w' b1 [.pointer (some ⟨x.p,0,none⟩)],⟨a2,a1⟩,?_⟩;refine Xw.i _ (λw' hw=>(aC rfl) _ _ _ (by rw[hw.1.cell];rfl)) ?_;refine Xw.i _ (λw' hw=>(aC rfl) _ _ _ (by rw[hw.2.cell];rfl)) ?_;refine gi ((ih n aj).expr 0 _ _ _ _ _ _ p dN aj rfl (aL hr aI)) ?_ ?_;rotate_left
  .intro c gz h;exact h.up hr kk ak
  intro rv gz h;obtain⟨t,bX,o,eI,r1,S1,⟨o',-,p⟩,dw⟩:=h.out;rw[eI,aJ]at hr;have oX:=dw.size;replace kk:=kk.trans' dw af;replace a1:=dw.at a1 af;replace a2:=dw.at a2 af;replace aR:=dw.at aR af;refine⟨⟨a2,a1⟩,?_⟩;obtain⟨br,rfl,-,-⟩:=r1.kind S1;unfold ptr at*;refine⟨_,λw' _=>Nc.p _ w',?_⟩;refine Xw.i _ (λw' _=>by simp[go_sem]<;>trivial) ?_;refine U1.store (aO rfl rfl) aR ak λlZ fT=>?_;have Ap:=fT.size;replace kk:=kk.trans' fT.aA af;replace r1:=r1.fr fT.aA af;replace p:=p.aA fT.aA af af af;replace aR:=fT.at_;simp only[set_cons_zero,set_cons_succ]at aR;subst hr
  exact⟨⟨bs,_,_,_,_,_,_,rfl,.inl rfl,aR,rfl,r1.st aj,rfl,.inl rfl,.inl rfl⟩,rfl,⟨_,p⟩,kk⟩
 .rw[hb]at hr p;subst hr;exact⟨⟨bs,_,_,_,_,_,_,rfl,.inl rfl,aR,rfl,rfl,rfl,.inl rfl,.inl rfl⟩,rfl,⟨_,p⟩,kk⟩
end Go.Proofs.YtoddjlclpnoomaaGreatDoor

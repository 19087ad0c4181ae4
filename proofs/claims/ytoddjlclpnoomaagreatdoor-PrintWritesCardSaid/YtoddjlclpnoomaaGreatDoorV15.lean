import Derived.Test.YtoddjlclpnoomaaGreatDoorV14
set_option linter.unusedVariables false
set_option linter.unusedSimpArgs false
set_option maxRecDepth 100000
open Go.Proofs.Tryz
open List (mem_cons not_mem_nil mem_singleton toList_toArray set_cons_zero set_cons_succ)
open Nat (le_refl)
open Go.Value (cells)
open Bool (and_eq_true)
namespace Go.Proofs.YtoddjlclpnoomaaGreatDoor
open Go.Sh
def l3:List (Va×Va):=[(str lO,.int .i64 1),(str ie,.int .i64 2),(str fE,.int .i64 3)]
theorem uy{a b:By}{ts:LT}(h:bC a ts=true)(wE:a≠b):bC b ts=false:=by
 simp only[bC,gw,and_eq_true,List.contains_eq_mem,mem_singleton,decide_eq_true_eq]at h;simp only[bC,gw,List.contains_eq_mem,mem_singleton,h.2];simp[wE]
def TF:Tr->LT->Bool->bN:=λr ts _=>match r with
 |.cons ks (.cons ew .nil)=>aR [125] ts λts=>.ok (.ex 12 0 [] .nil .nil ks ew [] .nil) ts false
 |_=>.bH
theorem GD{ks ew:Tr}{ts:LT}{o:Bool}:TF (.cons ks (.cons ew .nil)) ts o=aR [125] ts λts=>.ok (.ex 12 0 [] .nil .nil ks ew [] .nil) ts false:=rfl
theorem g220{n:Nat}(ih:∀m,m<=n->nK m):G0 (n+1) .signed 220 [] .P eK false:=by
 intro w x ts deep own r p dW hn hr aI;refine Um ?_;unfold LK;simp only[run]at hr;have lp:=p.mR;have lt:=p.ll;have lm:=p.qY;have kk:=aD.refl [x.p] w;refine V1.new (wq _ _) λb1 w1 N1=>?_;have qm:=N1.ge;have qZ:=N1.lt;have rf:=N1.aA.size;have a1:=N1.at_;try simp only[cells,toList_toArray]at a1
 replace p:=p.new N1.aA;replace kk:=N1.kp kk;refine V1.map λbm w2 m2 gbm K2=>?_;have lbm:=m2.lt;have wH:=K2.size;replace p:=p.aA K2 af af af;replace kk:=kk.trans' K2 af;replace a1:=K2.at a1 af;refine U1.iI (kt:=9) (et:=3) (d:=.string) ai ai m2 trivial ak ak λw3 m3 z3 K3=>?_;have tG:=K3.size;replace p:=p.aA K3 af af af;replace kk:=kk.trans' K3 af;replace a1:=K3.at a1 af;refine U1.iI (kt:=9) (et:=3) (d:=.string) ai ai m3 trivial (by simp[MapKept.IsKey]) ak λw4 m4 z4 K4=>?_
 have A0:=K4.size;replace p:=p.aA K4 af af af;replace kk:=kk.trans' K4 af;replace a1:=K4.at a1 af;refine U1.iI (kt:=9) (et:=3) (d:=.string) ai ai m4 trivial (by simp[MapKept.IsKey]) ak λw5 m5 z5 K5=>?_;have wI:=K5.size;replace p:=p.aA K5 af af af;replace kk:=kk.trans' K5 af;replace a1:=K5.at a1 af;refine V1.rangeMap (kt:=9) (et:=3) ai m5 λr6 w6 i6 gr6 K6=>?_;replace m5:dR w6 bm l3:=m5.aA K6 ak;replace i6:nE w6 r6 bm l3 l3:=i6;have mr:=K6.size;replace p:=p.aA K6 af af af;replace kk:=kk.trans' K6 af
 replace a1:=K6.at a1 af;have li:=i6.lt;refine Ib.g (λm v ds w'=>ds=[]/\v=.pointer none/\∃left,nE w' r6 bm l3 left/\dR w' bm l3/\PS w' x ts deep own/\aD [x.p] w w'/\At w' b1 [ptr x.p]/\(∀q∈l3,q∈left\/∀s,q.1=str s->bC s ts=false)/\(∀q∈left,q∈l3)/\left.length=m/\w6.heap.size<=w'.heap.size) 3
  ⟨rfl,rfl,l3,i6,m5,p,kk,a1,λq hq=>.inl hq,λq hq=>hq,rfl,le_refl _⟩ ?_
 clear m2 m3 m4 m5 i6 p kk a1 K2 K3 K4 K5 K6;rintro m v ds w7 K ⟨rfl,rfl,left,i7,m7,p,kk,a1,hs,hl,hm,z7⟩ hK;refine V1.vo i7 m7 aj ?_ ?_
 .rintro rfl;have z7':=kk.size;have h1:bC lO ts=false:=by
   rcases hs (str lO,.int .i64 1) (by simp[l3])with h|h
   .cases h
   .exact h _ rfl
  have h2:bC ie ts=false:=by
   rcases hs (str ie,.int .i64 2) (by simp[l3])with h|h
   .cases h
   .exact h _ rfl
  have h3:bC fE ts=false:=by
   rcases hs (str fE,.int .i64 3) (by simp[l3])with h|h
   .cases h
   .exact h _ rfl
  rw[if_neg (by simp[h1]),if_neg (by simp[h2]),if_neg (by simp[h3])]at hr;clear hs hl i7 m7;refine V1.i ah ?_;refine If.f ?_;refine V1.load (aC rfl) (a1) rfl ?_;refine V1.aG ah λb8 w8 N8=>?_;have gN8:=N8.ge;have lN8:=N8.lt;have zN8:=N8.aA.size;have a8:=N8.at_;try simp only[cells,toList_toArray]at a8
  replace p:=p.new N8.aA;replace kk:=N8.kp kk;replace a1:=N8.a a1;refine fW (gZ p a8) ?_ (NP.no (e:=_));rintro _ w9 ⟨rfl,K9⟩;have Ec:=K9.size;replace p:=p.aA K9 af af af;replace kk:=kk.trans' K9 af;replace a1:=K9.at a1 af;replace a8:=K9.at a8 af;refine If.b (λhb=>?_) (λhb=>?_)
  .rw[if_pos hb]at hr;refine V1.load (aC rfl) (a1) rfl ?_;refine mj (d159 p dW) ?_ ?_;rotate_left
   .intro c ei hF;exact(Er.all hF hr).pre kk ak
   rintro _ ei ⟨gg,A4,rfl,hb10,iS,p,dA⟩;have ur:deep+1<=64:=by simpa using gg
   have l10:=iS.lt;have sr:=dA.size;replace kk:=kk.trans' dA af;replace a1:=dA.at a1 af;rw[fL gg]at hr;refine D1.i (by simp[go_sem,B7,Deferred.ofValue];exact⟨rfl,rfl⟩) ?_;refine V1.load (aC rfl) (a1) rfl ?_;refine eh (d107 p) ?_ (NP.no (e:=_));rintro _ fp ⟨rfl,p,cR⟩;have mJ:=cR.size;replace kk:=kk.trans' cR af;replace a1:=cR.at a1 af;replace iS:=cR.at iS af;refine V1.load (aC rfl) (a1) rfl ?_;refine gP ((ih n aj).expr 0 _ _ _ _ _ _ p aj aj rfl (aM hr aI)) ?_ ?_;rotate_left
   .intro c fT h;exact dK (h.next hr) lp ak iS al kk ak
   intro rv fT h;obtain⟨t,cB,o,fc,r1,S1,⟨o',-,p⟩,dB⟩:=h.out;rw[fc,aL]at hr;have qv:=dB.size;replace kk:=kk.trans' dB af;replace a1:=dB.at a1 af;replace iS:=dB.at iS af;refine V1.load (aC rfl) (a1) rfl ?_;refine gD (d106 [41] p) ?_ ?_;rotate_left
   .intro c mK hF;exact dK (Er.all hF hr) lp ak iS al kk ak
   rintro _ mK ⟨hi,rfl,p,ja⟩;have GC:=ja.size;replace kk:=kk.trans' ja af;replace a1:=ja.at a1 af;replace iS:=ja.at iS af;replace r1:=r1.fr ja af;rw[cW hi]at hr;refine mq p dW iS λlu p14 kN=>?_;have VF:=kN.size;replace kk:=kk.trans' kN af;replace a1:=kN.at a1 af;replace iS:=kN.at iS af;replace r1:=r1.fr kN af;subst hr;exact⟨r1.fit aj ak,S1,⟨_,by simp,p14⟩,kk⟩
  rw[if_neg (by simp[hb])]at hr;refine V1.load (aC rfl) (a1) rfl ?_;refine V1.aG ah λA4 ei eD=>?_;have Gz:=eD.ge;have GA:=eD.lt;have GB:=eD.aA.size;have iS:=eD.at_;try simp only[cells,toList_toArray]at iS
  replace p:=p.new eD.aA;replace kk:=eD.kp kk;replace a1:=eD.a a1;refine fW (gZ (s:=bR) p iS) ?_ (NP.no (e:=_));rintro _ fp ⟨rfl,cR⟩;have mJ:=cR.size;replace p:=p.aA cR af af af;replace kk:=kk.trans' cR af;replace a1:=cR.at a1 af;replace iS:=cR.at iS af;refine If.b (λhb=>?_) (λhb=>?_)
  .rw[if_pos hb]at hr;refine V1.load (aC rfl) (a1) rfl ?_
   cases n with
   |zero=>exact absurd hr.symm aI
   |succ n=>
   rw[run]at hr;have q1:=p.tp;have q2:=p.mp;have rh:(cD deep λd=>aR bR ts λts=>FT n d (λpl b=>.ex 9 0 [] .nil .nil .nil .nil pl b) ts)=r:=hr;refine yg (g102 (n:=n) (ih n aj) aj (M:=[x.p]) (kc:=238) (cap:=#[]) (Y:=λbe H w=>H=λpl b=>.ex 9 0 [] .nil .nil .nil .nil pl b) p dW aI (aJ func238 (c:=bA f238) ai ai _) ak al al al (λd ts=>FT n d (λpl b=>.ex 9 0 [] .nil .nil .nil .nil pl b) ts) rh ?_ ?_) ?_ ?_
   .intro be w' bX own' _ _ K' p' hG;exact Uo ⟨bX,own',_,hG,p',aD.refl _ _,rfl⟩
   .intro be H w1 w2 _ h _;exact h
   .rintro v fT ⟨be,H,pl,b,cB,fc,R1,⟨o',p⟩,dB,rfl⟩;have qv:=dB.size;replace kk:=kk.trans' dB af;rw[fc];exact⟨R1.fit aj ak,rfl,⟨_,by simp,p⟩,kk⟩
   .intro c fT h;exact h.pre kk ak
  rw[if_neg (by simp[hb])]at hr;refine V1.load (aC rfl) (a1) rfl ?_;refine V1.aG ah λyF fT hH=>?_;have B9:=hH.ge;have Ca:=hH.lt;have Cb:=hH.aA.size;have a12:=hH.at_;try simp only[cells,toList_toArray]at a12
  replace p:=p.new hH.aA;replace kk:=hH.kp kk;replace a1:=hH.a a1;refine fW (gZ p a12) ?_ (NP.no (e:=_));rintro _ mK ⟨rfl,ja⟩;have GC:=ja.size;replace p:=p.aA ja af af af;replace kk:=kk.trans' ja af;replace a1:=ja.at a1 af;replace a12:=ja.at a12 af;refine If.b (λhb=>?_) (λhb=>?_)
  .rw[if_pos hb]at hr;have rh:(cD deep λd=>match bC [125] (bG ts)with
    |true=>.ok (.ex 12 0 [] .nil .nil .nil .nil [] .nil) (bG (bG ts)) false
    |false=>(run n (.items .nil .nil) d (bG ts)).bind TF)=r:=hr
   clear hr;have q1:=p.tp;have q2:=p.mp;refine V1.i ah ?_;refine V1.new (iE _ _) λCc lu tH=>?_;have Vr:=tH.ge;have Vs:=tH.lt;have Vt:=tH.aA.size;have po:=tH.at_;try simp only[cells,toList_toArray]at po
   replace p:=p.new tH.aA;replace kk:=tH.kp kk;replace a1:=tH.a a1;refine V1.new (FW _) λRF sx lU=>?_;have Vu:=lU.ge;have Vv:=lU.lt;have Vw:=lU.aA.size;have nL:=lU.at_;try simp only[cells,toList_toArray]at nL
   replace p:=p.new lU.aA;replace kk:=lU.kp kk;replace a1:=lU.a a1;replace po:=lU.a po;refine U1.store (aH rfl rfl) nL ak λxp Ip=>?_;have zU16:=Ip.size;replace p:=p.aA Ip.aA af af af;replace kk:=kk.trans' Ip.aA af;replace a1:=Ip.aA.at a1 af;replace po:=Ip.aA.at po af;replace nL:=Ip.at_;simp only[set_cons_zero,set_cons_succ]at nL;have pq:aD [] xp xp.drew:=(aD.refl _ _).drew;generalize xp.drew=Ef at pq⊢;have VG:=pq.size;replace p:=p.aA pq af af af
   replace kk:=kk.trans' pq af;replace a1:=pq.at a1 af;replace po:=pq.at po af;replace nL:=pq.at nL af;refine⟨λw'=>At w' RF [ptr Cc]/\At w' b1 [ptr x.p],⟨nL,a1⟩,?_⟩;refine Xw.i _ (λw' hw=>(aC rfl) _ _ _ (by rw[hw.1.cell];rfl)) ?_;refine Xw.i _ (λw' hw=>(aC rfl) _ _ _ (by rw[hw.2.cell];rfl)) ?_;refine Xw.i _ (λw' _=>by simp[go_sem]<;>trivial) ?_;have q3:=p.ll;refine yh (g160 (M:=[x.p,Cc]) (N:=n) (r:=r) (kc:=239) (cap:=#[ptr b1,ptr RF]) (J:=JI x r deep n Cc TF) (Z:=ZI x r Cc TF) p dW (aJ func239 (c:=bA f239) ai ai _) ak al al al hb ?_ ?_ ?_ ?_ ?_) ?_ ?_
   .intro h;simp only[cD,h]at rh;exact rh.symm
   .intro wb Kb pb gg;rw[fL gg]at rh;have zb:=Kb.size;have zKb:=Kb.size;replace po:=Kb.at po af;constructor
    .intro h;simp only[h]at rh;exact⟨.nil,.nil,_,_,po,Acc.nil _ _ _ _,Acc.nil _ _ _ _,by rw[GD,cW h];exact rh,by omega⟩
    .intro h;simp only[h]at rh;exact⟨.nil,.nil,_,_,po,Acc.nil _ _ _ _,Acc.nil _ _ _ _,rh,by simp[len],by simp[len]⟩
   .intro wb m' bX w' own' Kb hJ p' kM gg;have zb:=Kb.size;exact g239 ih aj aI (λ_ _=>rfl) ⟨dW.1,by simpa using gg⟩ aj hJ p' kM (Kb.at nL al) (Kb.at a1 al) aj aj aj aj aj aj aj aj aj aj
   .rintro wb bX w' ⟨ks,ew,kv,av,ac,ck,ca,hF,hl⟩ h;rw[GD]at hF;simp only[aR,h]at hF;exact hF.symm
   .intro wb bX w1 w2 hZ hk;exact hZ.aA hk aj
   .rintro v GF ⟨rfl,gg,wb,dI,lT,Kb,p,hi,⟨ks,ew,kv,av,ac,ck,ca,hF,hl⟩,Iq⟩;have zb:=Kb.size;have zK18:=Iq.size;replace kk:=kk.trans' Iq af;replace a1:=Iq.at a1 af;replace nL:=Iq.at nL af;rw[GD,cW hi]at hF;refine⟨⟨nL,a1⟩,?_⟩;unfold qw at ac;rw[show ptr Cc=.pointer (some ⟨Cc,0,none⟩)from rfl];refine⟨_,λw' _=>Nc.p _ w',?_⟩;refine Xw.i _ (λw' _=>by simp[go_sem]<;>trivial) ?_;refine U1.store (aH rfl rfl) ac ak λw19 Ej=>?_;have zU19:=Ej.size;replace kk:=kk.trans' Ej.aA af;replace a1:=Ej.aA.at a1 af;replace nL:=Ej.aA.at nL af;replace p:=p.aA Ej.aA af af af
    replace ck:=ck.fr Ej.aA af;replace ca:=ca.fr Ej.aA af;replace ac:=Ej.at_;simp only[set_cons_zero,set_cons_succ]at ac;refine V1.load (aC rfl) (nL) rfl ?_;subst hF;exact⟨⟨Cc,_,_,_,_,_,_,_,rfl,⟨by omega,by simp⟩,ac,rfl,rfl,ck.rep.fit aj ak,ca.rep.fit aj ak,.inl ⟨rfl,rfl⟩,.inl rfl⟩,rfl,⟨_,by simp,p⟩,kk⟩
   .intro c GF hF;exact hF.pre kk al
  rw[if_neg (by simp[hb])]at hr;refine V1.load (aC rfl) (a1) rfl ?_;subst hr;refine lQ (d32 4 p) ?_ ?_
  .rintro _ _ h;exact h.elim
  .intro c lu hF;exact hF.pre kk ak
 .intro key val jo w8 oH hlen B6 tF i8 m8 K8 z8 Gt _;have z7':=kk.size;have yC:=K8.size;replace p:=p.aA K8 af af af;replace kk:=kk.trans' K8 af;replace a1:=K8.at a1 af;obtain⟨s,kd,rfl,rfl,hsr⟩:∃s kd,key=str s/\val=.int .i64 kd/\(bC s ts=true->bN.ok (lf kd 0 []) (bG ts) false=r):=by
   have oG:=hl _ oH;simp only[l3,mem_cons,Prod.mk.injEq,not_mem_nil,or_false]at oG;rcases oG with⟨rfl,rfl⟩|⟨rfl,rfl⟩|⟨rfl,rfl⟩
   .exact⟨_,_,rfl,rfl,λh=>by rw[if_pos h]at hr;exact hr⟩
   .exact⟨_,_,rfl,rfl,λh=>by rw[if_neg (by rw[uy h az];simp),if_pos h]at hr;exact hr⟩
   .exact⟨_,_,rfl,rfl,λh=>by rw[if_neg (by rw[uy h az];simp),if_neg (by rw[uy h az];simp),if_pos h]at hr;exact hr⟩
  refine V1.i ah ?_;refine If.t ?_;refine V1.i (Gt _ (aD.refl _ _)) ?_;refine V1.i ah ?_;refine V1.i ah ?_;refine V1.load (aC rfl) (a1) rfl ?_;refine V1.aG ah λb9 w9 N9=>?_;have Vk:=N9.ge;have Vl:=N9.lt;have Vm:=N9.aA.size;have a9:=N9.at_;try simp only[cells,toList_toArray]at a9
  replace p:=p.new N9.aA;replace kk:=N9.kp kk;replace a1:=N9.a a1;replace i8:=i8.aA N9.aA ak;replace m8:=m8.aA N9.aA ak;refine fW (gZ p a9) ?_ (NP.no (e:=_));rintro _ ei ⟨rfl,dA⟩;have sr:=dA.size;replace p:=p.aA dA af af af;replace kk:=kk.trans' dA af;replace a1:=dA.at a1 af;replace a9:=dA.at a9 af;replace i8:=i8.aA dA ak;replace m8:=m8.aA dA ak;refine If.b (λhb=>?_) (λhb=>?_)
  .refine V1.load (aC rfl) (a1) rfl ?_;refine eh (d107 p) ?_ (NP.no (e:=_));rintro _ fp ⟨rfl,p,cR⟩;have mJ:=cR.size;replace kk:=kk.trans' cR af;rw[dx];refine V1.i ah ?_;refine V1.i ah ?_;refine V1.new (iE _ _) λyF fT hH=>?_;have B9:=hH.ge;have Ca:=hH.lt;have Cb:=hH.aA.size;have a12:=hH.at_;try simp only[cells,toList_toArray]at a12
   replace kk:=hH.kp kk;replace p:=p.new hH.aA;rw[←hsr hb];exact⟨⟨yF,_,_,_,_,_,_,_,rfl,⟨by omega,by simp⟩,a12,rfl,rfl,.inl rfl,.inl rfl,.inl ⟨rfl,rfl⟩,.inl rfl⟩,rfl,⟨_,by simp,p⟩,kk⟩
  .refine hK jo.length _ _ _ aj ⟨rfl,rfl,jo,i8,m8,p,kk,a1,λq hq=>?_,λq hq=>hl q (tF q hq),rfl,by omega⟩;rcases hs q hq with h|h
   .rcases B6 q h with rfl|h
    .right
     intro s' tR;have:s=s':=by simpa[str]using tR
     rw[←this];exact hb
    .exact .inl h
   .exact .inr h
theorem aP.st{lo n bs:Nat}{X:List Nat}{w:Wd}{t:Tr}{m:Md}(h:aP (Fr lo X) w t m)(hl:n<=lo):aP (λq=>q=bs\/n<=q) w t m:=aP.imp (λq hq _=>.inr (by have:=hq.1;omega)) t m h
theorem g109{n:Nat}(ih:nK n):GS (n+1) .branch 109:=by
 intro w x ts deep own r bs line p dW hn hr aI aU h1 h2 h3;refine T6 ?_;unfold Lq;simp only[run]at hr;have lp:=p.mR;have lt:=p.ll;have lm:=p.qY;have Nu:=aU.lt;unfold sq at aU;have kk:=aD.refl [x.p,bs] w;refine gP (ih.expr 0 _ _ _ _ _ _ p dW aj rfl (aM hr aI)) ?_ ?_;rotate_left
 .intro c w2 h;exact h.up hr kk ak
 intro rv w2 h;obtain⟨t,cB,o,fc,r1,S1,⟨o',-,p⟩,K2⟩:=h.out;rw[fc,aL]at hr;have wH:=K2.size;replace kk:=kk.trans' K2 af;replace aU:=K2.at aU af;obtain⟨br,rfl,-,-⟩:=r1.kind S1;unfold ptr at*;refine Up.i (Nc.p _ _) ?_;refine V1.i ah ?_;refine U1.store (aH rfl rfl) aU ak λw3 U3=>?_;have zU3:=U3.size;replace kk:=kk.trans' U3.aA af;replace r1:=r1.fr U3.aA af;replace p:=p.aA U3.aA af af af;replace aU:=U3.at_;simp only[set_cons_zero,set_cons_succ]at aU;refine Up.i (Nc.p _ _) ?_;refine V1.i ah ?_;refine U1.store (aH rfl rfl) aU ak λw4 U4=>?_;have RB:=U4.size
 replace kk:=kk.trans' U4.aA af;replace r1:=r1.fr U4.aA af;replace p:=p.aA U4.aA af af af;replace aU:=U4.at_;simp only[set_cons_zero,set_cons_succ]at aU;have z4:=kk.size;refine pd (ih.inner rW _ _ _ _ _ _ p dW aj rfl (aM hr aI)) ?_ ?_;rotate_left
 .intro c w5 h;exact h.up hr kk ak
 intro av w5 h;obtain⟨ta,dI,o,gO,r2,S2,⟨o',-,p⟩,K5⟩:=h.out;rw[gO,aL]at hr;have wI:=K5.size;replace kk:=kk.trans' K5 af;replace r1:=r1.fr K5 af;replace aU:=K5.at aU af;refine Up.i (Nc.p _ _) ?_;refine V1.i ah ?_;have vB:=r2.qo S2;refine U1.store (aH rfl vB) aU ak λw6 U6=>?_;have B8:=U6.size;replace kk:=kk.trans' U6.aA af;replace r1:=r1.fr U6.aA af;replace r2:=r2.fr U6.aA af;replace p:=p.aA U6.aA af af af;replace aU:=U6.at_;simp only[set_cons_zero,set_cons_succ]at aU;refine V1.aG ah λb7 w7 N7=>?_;have VB:=N7.ge;have VC:=N7.lt;have VD:=N7.aA.size
 have a7:=N7.at_;try simp only[cells,toList_toArray]at a7
 replace kk:=N7.kp kk;replace r1:=r1.nw N7;replace r2:=r2.nw N7;replace p:=p.new N7.aA;replace aU:=N7.a aU;refine fW (gZ (s:=eR) p a7) ?_ (NP.no (e:=_));rintro _ w8 ⟨rfl,K8⟩;have yC:=K8.size;replace kk:=kk.trans' K8 af;replace r1:=r1.fr K8 af;replace r2:=r2.fr K8 af;replace p:=p.aA K8 af af af;replace aU:=K8.at aU af;replace a7:=K8.at a7 af;refine If.b (λhb=>?_) (λhb=>?_)
 .rw[hb]at hr;refine eh (d107 p) ?_ (NP.no (e:=_));rintro _ w9 ⟨rfl,p,K9⟩;have Ec:=K9.size;replace kk:=kk.trans' K9 af;replace r1:=r1.fr K9 af;replace r2:=r2.fr K9 af;replace aU:=K9.at aU af;rw[dx];refine V1.i ah ?_;refine V1.i ah ?_;refine V1.new (wo _ _) λA4 ei eD=>?_;have Gz:=eD.ge;have GA:=eD.lt;have GB:=eD.aA.size;have iS:=eD.at_;try simp only[cells,toList_toArray]at iS
  replace kk:=eD.kp kk;replace r1:=r1.nw eD;replace r2:=r2.nw eD;replace aU:=eD.a aU;replace p:=p.new eD.aA;have q1:=p.ll;refine DK (ih.branch _ _ _ _ _ _ A4 _ p dW aj rfl (aM hr aI) iS aj aj aj) ?_ ?_;rotate_left
  .intro c fp h;exact h.up hr kk al
  rintro _ fp h;obtain⟨tb,xr,o,Cg,r3,S3,⟨o',p⟩,cR⟩:=h.out;rw[Cg,aL]at hr;have mJ:=cR.size;replace kk:=kk.trans' cR af;replace r1:=r1.fr cR af;replace r2:=r2.fr cR af;replace aU:=cR.at aU af;replace r3:aP (Fr w9.heap.size []) fp tb (.P (ptr A4)):=aP.imp (λq hq _=>⟨by omega,by simp⟩) _ _ r3;refine V1.aG ah λyF fT hH=>?_;have B9:=hH.ge;have Ca:=hH.lt;have Cb:=hH.aA.size;have a12:=hH.at_;try simp only[cells,toList_toArray]at a12
  replace kk:=hH.kp kk;replace r1:=r1.nw hH;replace r2:=r2.nw hH;replace r3:=r3.nw hH;replace aU:=hH.a aU;replace p:=p.new hH.aA;refine Up.i (Nc.p _ _) ?_;refine V1.i ah ?_;refine U1.store (aH rfl rfl) aU ak λmK gE=>?_;have Ch:=gE.size;replace kk:=kk.trans' gE.aA af;replace r1:=r1.fr gE.aA af;replace r2:=r2.fr gE.aA af;replace r3:=r3.fr gE.aA af;replace a12:=gE.aA.at a12 af;replace p:=p.aA gE.aA af af af;replace aU:=gE.at_;simp only[set_cons_zero,set_cons_succ]at aU;subst hr
  exact⟨⟨bs,_,_,_,_,_,_,rfl,.inl rfl,aU,rfl,r1.st aj,rfl,r2.st aj,⟨yF,0,1,_,rfl,by omega,.inr aj,by rw[a12.cell];rfl,r3.st aj,rfl⟩⟩,rfl,⟨_,p⟩,kk⟩
 rw[hb]at hr;refine V1.aG ah λb9 w9 N9=>?_;have Vk:=N9.ge;have Vl:=N9.lt;have Vm:=N9.aA.size;have a9:=N9.at_;try simp only[cells,toList_toArray]at a9
 replace kk:=N9.kp kk;replace r1:=r1.nw N9;replace r2:=r2.nw N9;replace p:=p.new N9.aA;replace aU:=N9.a aU;refine fW (gZ (s:=eu) p a9) ?_ (NP.no (e:=_));rintro _ ei ⟨rfl,dA⟩;have sr:=dA.size;replace kk:=kk.trans' dA af;replace r1:=r1.fr dA af;replace r2:=r2.fr dA af;replace p:=p.aA dA af af af;replace aU:=dA.at aU af;replace a9:=dA.at a9 af;refine If.b (λhb=>?_) (λhb=>?_)
 .rw[hb]at hr;refine pd (ih.inner eu _ _ _ _ _ _ p dW aj rfl (aM hr aI)) ?_ ?_;rotate_left
  .intro c w5 h;exact h.up hr kk ak
  intro bv fp h;obtain⟨tb,xr,o,Cg,r3,S3,⟨o',-,p⟩,cR⟩:=h.out;rw[Cg,aL]at hr;have mJ:=cR.size;replace kk:=kk.trans' cR af;replace r1:=r1.fr cR af;replace r2:=r2.fr cR af;replace aU:=cR.at aU af;refine Up.i (Nc.p _ _) ?_;refine V1.i ah ?_;have vB:=r3.qo S3;refine U1.store (aH rfl vB) aU ak λfT jF=>?_;have Ci:=jF.size;replace kk:=kk.trans' jF.aA af;replace r1:=r1.fr jF.aA af;replace r2:=r2.fr jF.aA af;replace r3:=r3.fr jF.aA af;replace p:=p.aA jF.aA af af af;replace aU:=jF.at_;simp only[set_cons_zero,set_cons_succ]at aU;subst hr
  exact⟨⟨bs,_,_,_,_,_,_,rfl,.inl rfl,aU,rfl,r1.st aj,rfl,r2.st aj,r3.st aj⟩,rfl,⟨_,p⟩,kk⟩
 .rw[hb]at hr;subst hr;exact⟨⟨bs,_,_,_,_,_,_,rfl,.inl rfl,aU,rfl,r1.st aj,rfl,r2.st aj,.inl rfl⟩,rfl,⟨_,p⟩,kk⟩
def Cj(line:Int)(nm:By)(av bv:Va):LV:=[.int .i64 10,.int .i64 line,str nm,.pointer none,.pointer none,.pointer none,av,bv]
theorem g110{n:Nat}(ih:nK n)(hn:n<=aX){w:Wd}{x:fk}{ts:LT}{deep:Int}{own:Bool}{r:bN}{bs:Nat}{line:Int}{av:Va}{Fc:By->Tr->LT->bN}(p:PS w x ts deep own)(dW:0<=deep/\deep<=64)(aI:r≠.bH)
  (aU:At w bs (Cj line [] av (.slice none 0 0))) (h1:bs≠x.p) (h2:bs≠x.bt) (h3:bs≠x.bm)
  (hr:(match bC fa ts with|false=>bN.fail 4|true=>cD deep λd=>cU (bG ts) λnm ts=>(run n .block d ts).bind λb ts _=>Fc nm b ts)=r):
  Calls prog 110 #[ptr x.p,ptr bs] w (aZ (λ_ w'=>∃nm b bv bX o',Fc nm b bX=r/\At w' bs (Cj line nm av bv)/\aP (Fr w.heap.size []) w' b (.L bv)/\dM b=true/\PS w' x bX deep o'/\aD [x.p,bs] w w') (Er [x.p,bs] x w r)):=by
 refine T7 ?_;unfold Lr;have lp:=p.mR;have lt:=p.ll;have lm:=p.qY;have Nu:=aU.lt;unfold Cj at aU;have kk:=aD.refl [x.p,bs] w;refine AR.go ?_;refine V1.aG ah λb1 w1 N1=>?_;have qm:=N1.ge;have qZ:=N1.lt;have rf:=N1.aA.size;have a1:=N1.at_;try simp only[cells,toList_toArray]at a1
 replace p:=p.new N1.aA;replace kk:=N1.kp kk;replace aU:=N1.a aU;refine fW (gZ (s:=fa) p a1) ?_ (NP.no (e:=_));rintro _ w2 ⟨rfl,K2⟩;have wH:=K2.size;replace p:=p.aA K2 af af af;replace kk:=kk.trans' K2 af;replace aU:=K2.at aU af;replace a1:=K2.at a1 af;repeat(first|refine Up.i (Nc.p _ _) ?_|refine V1.load (aC rfl) aw rfl ?_|refine V1.i ah ?_)
 refine If.b (λhb=>?_) (λhb=>?_)
 .have eF:bC fa ts=false:=by simpa using hb
  rw[eF]at hr;subst hr;refine lQ (d32 4 p) ?_ ?_
  .rintro _ _ h;exact h.elim
  .intro c w3 hF;exact hF.pre kk ak
 have eF:bC fa ts=true:=by simpa using hb
 rw[eF]at hr;refine mj (d159 p dW) ?_ ?_;rotate_left
 .intro c w3 hF;exact(Er.all hF hr).pre kk ak
 rintro _ w3 ⟨gg,b3,rfl,Gx,a3,p,K3⟩;have ur:deep+1<=64:=by simpa using gg
 have l3:=a3.lt;have tG:=K3.size;replace kk:=kk.trans' K3 af;replace aU:=K3.at aU af;dsimp only at hr;rw[fL gg]at hr;refine D1.i (by simp[go_sem,B7,Deferred.ofValue];exact⟨rfl,rfl⟩) ?_;refine eh (d107 p) ?_ (NP.no (e:=_));rintro _ w4 ⟨rfl,p,K4⟩;have A0:=K4.size;replace kk:=kk.trans' K4 af;replace aU:=K4.at aU af;replace a3:=K4.at a3 af;refine nC (d104 p) ?_ ?_;rotate_left
 .intro c w5 hF;exact dK (Er.all hF hr) lp ak a3 al kk ak
 rintro _ w5 ⟨hi,rfl,p,K5⟩;have wI:=K5.size;replace kk:=kk.trans' K5 af;replace aU:=K5.at aU af;replace a3:=K5.at a3 af;rw[fK hi]at hr;rw[dx];unfold ptr at*;refine V1.i ah ?_;refine Up.i (Nc.p _ _) ?_;refine V1.i ah ?_;refine U1.store (aH rfl rfl) aU ak λw6 U6=>?_;have B8:=U6.size;replace kk:=kk.trans' U6.aA af;replace a3:=U6.aA.at a3 af;replace p:=p.aA U6.aA af af af;replace aU:=U6.at_;simp only[set_cons_zero,set_cons_succ]at aU;refine BR (ih.block _ _ _ _ _ _ p aj aj rfl (aM hr aI)) ?_ ?_;rotate_left
 .intro c w7 h;exact dK (h.next hr) lp ak a3 al kk ak
 intro bv w7 h;obtain⟨tb,xr,o,Cg,r3,S3,⟨o',-,p⟩,K7⟩:=h.out;rw[Cg,aL]at hr;have jj:=K7.size;replace kk:=kk.trans' K7 af;replace aU:=K7.at aU af;replace a3:=K7.at a3 af;refine Up.i (Nc.p _ _) ?_;refine V1.i ah ?_;have vB:=r3.qo S3;have z7:=kk.size;refine U1.store (aH rfl vB) aU ak λw8 U8=>?_;have yD:=U8.size;replace kk:=kk.trans' U8.aA af;replace a3:=U8.aA.at a3 af;replace r3:=r3.fr U8.aA af;replace p:=p.aA U8.aA af af af;replace aU:=U8.at_;simp only[set_cons_zero,set_cons_succ]at aU;refine mq p dW a3 λw9 p9 K9=>?_;have Ec:=K9.size;replace kk:=kk.trans' K9 af
 replace aU:=K9.at aU af;replace r3:=r3.fr K9 af;exact⟨_,_,_,_,_,hr,aU,r3.fit aj ak,S3,p9,kk⟩
def yI(line:Int)(nm:By):LV:=[.int .i64 11,.int .i64 line,str nm,.pointer none,.pointer none,.pointer none,.slice none 0 0,.slice none 0 0]
theorem g157{w:Wd}{x:fk}{ts:LT}{deep:Int}{own:Bool}{b1 b2 bs:Nat}{line:Int}(p:PS w x ts deep own)(a1:At w b1 [ptr x.p])(a2:At w b2 [ptr bs])(aU:At w bs (yI line []))
  (h1:bs≠x.p) (h2:bs≠x.bt) (h3:bs≠x.bm) (h4:b1≠x.p) (h5:b2≠x.p):
  Calls prog 157 #[ptr b1,ptr b2] w (aZ (λ_ w'=>((hd ts).kind==1)=true/\PS w' x (bG ts) deep own/\At w' bs (yI line (hd ts).text)/\aD [x.p,bs] w w') (λc w'=>∀f,Er [x.p,bs] x w (cU ts f) c w')):=by
 refine T9 ?_;unfold Lu;have kk:=aD.refl [x.p,bs] w;unfold yI at aU;have K1:aD [] w w.drew:=(aD.refl _ _).drew;generalize w.drew=w1 at K1⊢;have Vq:=K1.size;replace p:=p.aA K1 af af af;replace kk:=kk.trans' K1 af;replace a1:=K1.at a1 af;replace a2:=K1.at a2 af;replace aU:=K1.at aU af;refine⟨λw'=>At w' b2 [ptr bs]/\At w' b1 [ptr x.p],⟨a2,a1⟩,?_⟩;refine Xw.i _ (λw' hw=>(aC rfl) _ _ _ (by rw[hw.1.cell];rfl)) ?_;refine Xw.i _ (λw' hw=>(aC rfl) _ _ _ (by rw[hw.2.cell];rfl)) ?_;refine nC (d104 p) ?_ ?_;rotate_left
 .intro c w7 hF f;exact(hF f).pre kk ak
 rintro _ w7 ⟨hi,rfl,p,K7⟩;have jj:=K7.size;replace kk:=kk.trans' K7 af;replace a1:=K7.at a1 af;replace a2:=K7.at a2 af;replace aU:=K7.at aU af;refine⟨⟨a2,a1⟩,?_⟩;rw[dx];refine Xw.i _ (λw' _=>by simp[go_sem]<;>trivial) ?_;unfold ptr at*;refine⟨_,λw' _=>Nc.p _ w',?_⟩;refine Xw.i _ (λw' _=>by simp[go_sem]<;>trivial) ?_;refine U1.store (aH rfl rfl) aU ak λw8 U8=>?_;have yD:=U8.size;replace kk:=kk.trans' U8.aA af;replace p:=p.aA U8.aA af af af;replace aU:=U8.at_;simp only[set_cons_zero,set_cons_succ]at aU;exact⟨hi,p,aU,kk⟩
theorem g101{n:Nat}(ih:∀m,m<=n->nK m):GS (n+1) .lM 101:=by
 intro w x ts deep own r bs line p dW hn hr aI aU h1 h2 h3;refine TY ?_;unfold Lf;simp only[run]at hr;have lp:=p.mR;have lt:=p.ll;have lm:=p.qY;have Nu:=aU.lt;unfold sq at aU;have kk:=aD.refl [x.p,bs] w;refine V1.new (wq _ _) λb1 w1 N1=>?_;have qm:=N1.ge;have qZ:=N1.lt;have rf:=N1.aA.size;have a1:=N1.at_;try simp only[cells,toList_toArray]at a1
 replace p:=p.new N1.aA;replace kk:=N1.kp kk;replace aU:=N1.a aU;refine V1.new (JF _ _) λb2 w2 N2=>?_;have DZ:=N2.ge;have D0:=N2.lt;have B3:=N2.aA.size;have a2:=N2.at_;try simp only[cells,toList_toArray]at a2
 replace p:=p.new N2.aA;replace kk:=N2.kp kk;replace aU:=N2.a aU;replace a1:=N2.a a1;refine V1.load (aC rfl) (a1) rfl ?_;refine eh (d107 p) ?_ (NP.no (e:=_));rintro _ w3 ⟨rfl,p,K3⟩;have tG:=K3.size;replace kk:=kk.trans' K3 af;replace aU:=K3.at aU af;replace a1:=K3.at a1 af;replace a2:=K3.at a2 af;refine V1.load (aC rfl) (a1) rfl ?_;refine V1.aG ah λb4 w4 N4=>?_;have Vn:=N4.ge;have lN4:=N4.lt;have Vo:=N4.aA.size;have a4:=N4.at_;try simp only[cells,toList_toArray]at a4
 replace p:=p.new N4.aA;replace kk:=N4.kp kk;replace aU:=N4.a aU;replace a1:=N4.a a1;replace a2:=N4.a a2;refine fW (gZ (s:=bR) p a4) ?_ (NP.no (e:=_));rintro _ w5 ⟨rfl,K5⟩;have wI:=K5.size;replace p:=p.aA K5 af af af;replace kk:=kk.trans' K5 af;replace aU:=K5.at aU af;replace a1:=K5.at a1 af;replace a2:=K5.at a2 af;replace a4:=K5.at a4 af;refine If.b (λhb=>?_) (λhb=>?_)
 .rw[hb]at hr;dsimp only at hr
  cases n with
  |zero=>exact absurd hr.symm aI
  |succ n=>
  unfold ptr at*;refine V1.load (aC rfl) (a2) rfl ?_;refine Up.i (Nc.p _ _) ?_;refine V1.i ah ?_;refine U1.store (aH rfl rfl) aU ak λw6 U6=>?_;have B8:=U6.size;replace p:=p.aA U6.aA af af af;replace kk:=kk.trans' U6.aA af;replace a1:=U6.aA.at a1 af;replace a2:=U6.aA.at a2 af;replace aU:=U6.at_;simp only[set_cons_zero,set_cons_succ]at aU;have K7:aD [] w6 w6.drew:=(aD.refl _ _).drew;generalize w6.drew=w7 at K7⊢;have jj:=K7.size;replace p:=p.aA K7 af af af;replace kk:=kk.trans' K7 af;replace a1:=K7.at a1 af;replace a2:=K7.at a2 af
  replace aU:=K7.at aU af;refine⟨λw'=>At w' b2 [ptr bs]/\At w' b1 [ptr x.p],⟨a2,a1⟩,?_⟩;refine Xw.i _ (λw' hw=>(aC rfl) _ _ _ (by rw[hw.1.cell];rfl)) ?_;refine Xw.i _ (λw' hw=>(aC rfl) _ _ _ (by rw[hw.2.cell];rfl)) ?_;refine Xw.i _ (λw' _=>by simp[go_sem]<;>trivial) ?_;have q1:=p.tp;have q2:=p.mp;have z7:=kk.size
  refine yg (g102 (n:=n) (r:=run (n+1) (.func true) deep (bG ts)) (ih n aj) aj (M:=[x.p,bs]) (kc:=157) (cap:=#[ptr b1,ptr b2]) (Y:=λbe H w'=>∃nm,(H=λpl b=>.cons (.ex 9 0 [] .nil .nil .nil .nil pl b) (.cons (lf 6 0 nm) .nil))/\At w' bs (yI line nm)) p dW (aM hr aI) (aJ func157 (c:=bA Tryz.f157) ai ai _) ak al al al (λd ts=>cU ts λnm ts=>FT n d (λpl b=>.cons (.ex 9 0 [] .nil .nil .nil .nil pl b) (.cons (lf 6 0 nm) .nil)) ts) (by rw[run];rfl) ?_ ?_) ?_ ?_
  .intro be w' bX own' _ _ K' p' hG;refine aZ.imp (g157 p' (K'.at a1 al) (K'.at a2 al) (K'.at aU al) h1 h2 h3 aj aj) ?_ ?_
   .rintro _ w2 ⟨hk,p2,Ek,K2⟩;rw[fK hk]at hG;exact⟨_,_,_,hG,p2,K2,_,rfl,Ek⟩
   .intro c w2 hF;exact Er.all hF hG
  .rintro be H w1 w2 RH ⟨nm,rfl,Ek⟩ K';exact⟨nm,rfl,K'.at Ek al⟩
  .rintro v fT ⟨be,H,pl,b,cB,fc,R1,⟨o',p⟩,dB,nm,rfl,aU⟩;rw[fc,aL]at hr;dsimp only[lf]at hr;have qv:=dB.size;replace kk:=kk.trans' dB af;replace a1:=dB.at a1 af;replace a2:=dB.at a2 af;obtain⟨br,rfl,-,-⟩:=R1.kind rfl;refine⟨⟨a2,a1⟩,?_⟩;unfold yI at aU;unfold ptr at*;refine⟨_,λw' _=>Nc.p _ w',?_⟩;refine Xw.i _ (λw' _=>by simp[go_sem]<;>trivial) ?_;replace R1:=R1.fit (lo':=w7.heap.size) (Y:=[]) aj ak;refine U1.store (aH rfl rfl) aU ak λmK gE=>?_;have Ch:=gE.size;replace kk:=kk.trans' gE.aA af;replace p:=p.aA gE.aA af af af;replace aU:=gE.at_;simp only[set_cons_zero,set_cons_succ]at aU
   replace R1:=R1.fr gE.aA al;subst hr;exact⟨⟨bs,_,_,_,_,_,_,rfl,.inl rfl,aU,rfl,R1.st aj,rfl,.inl rfl,.inl rfl⟩,rfl,⟨_,p⟩,kk⟩
  .intro c fT h;exact h.up hr kk ak
 rw[hb]at hr;have K6:aD [] w5 w5.drew:=(aD.refl _ _).drew;generalize w5.drew=w6 at K6⊢;have mr:=K6.size;replace p:=p.aA K6 af af af;replace kk:=kk.trans' K6 af;replace aU:=K6.at aU af;replace a1:=K6.at a1 af;replace a2:=K6.at a2 af;refine⟨λw'=>At w' b2 [ptr bs]/\At w' b1 [ptr x.p],⟨a2,a1⟩,?_⟩;refine Xw.i _ (λw' hw=>(aC rfl) _ _ _ (by rw[hw.1.cell];rfl)) ?_;refine Xw.i _ (λw' hw=>(aC rfl) _ _ _ (by rw[hw.1.cell];rfl)) ?_;refine Xw.i _ (λw' hw=>(aC rfl) _ _ _ (by rw[hw.2.cell];rfl)) ?_;refine nC (d104 p) ?_ ?_;rotate_left
 .intro c w7 hF;exact(Er.all hF hr).pre kk ak
 rintro _ w7 ⟨hi,rfl,p,K7⟩;have jj:=K7.size;replace kk:=kk.trans' K7 af;replace aU:=K7.at aU af;replace a1:=K7.at a1 af;replace a2:=K7.at a2 af;dsimp only at hr;rw[fK hi]at hr;refine⟨⟨a2,a1⟩,?_⟩;rw[dx];refine Xw.i _ (λw' _=>by simp[go_sem]<;>trivial) ?_;unfold ptr at*;refine⟨_,λw' _=>Nc.p _ w',?_⟩;refine Xw.i _ (λw' _=>by simp[go_sem]<;>trivial) ?_;refine U1.store (aH rfl rfl) aU ak λw8 U8=>?_;have yD:=U8.size;replace kk:=kk.trans' U8.aA af;replace a1:=U8.aA.at a1 af;replace a2:=U8.aA.at a2 af;replace p:=p.aA U8.aA af af af;replace aU:=U8.at_;simp only[set_cons_zero,set_cons_succ]at aU
 refine⟨⟨a2,a1⟩,?_⟩;refine⟨_,λw' _=>Nc.p _ w',?_⟩;refine Xw.i _ (λw' _=>by simp[go_sem]<;>trivial) ?_;refine U1.store (aH rfl rfl) aU ak λw9 U9=>?_;have A5:=U9.size;replace kk:=kk.trans' U9.aA af;replace a1:=U9.aA.at a1 af;replace a2:=U9.aA.at a2 af;replace p:=p.aA U9.aA af af af;replace aU:=U9.at_;simp only[set_cons_zero,set_cons_succ]at aU;refine V1.load (aC rfl) (a1) rfl ?_;refine DM (d158 [61] p) ?_ (NP.no (e:=_));rintro _ ei ⟨rfl,p,dA⟩;have sr:=dA.size;replace kk:=kk.trans' dA af;replace a1:=dA.at a1 af;replace a2:=dA.at a2 af;replace aU:=dA.at aU af;refine If.b (λhb=>?_) (λhb=>?_)
 .rw[hb]at hr p;rw[if_pos rfl]at p;dsimp only at hr;have El:=kk.size;have cR:aD [] ei ei.drew:=(aD.refl _ _).drew;generalize ei.drew=fp at cR⊢;have mJ:=cR.size;replace p:=p.aA cR af af af;replace kk:=kk.trans' cR af;replace a1:=cR.at a1 af;replace a2:=cR.at a2 af;replace aU:=cR.at aU af;refine⟨λw'=>At w' b2 [.pointer (some ⟨bs,0,none⟩)]/\At w' b1 [.pointer (some ⟨x.p,0,none⟩)],⟨a2,a1⟩,?_⟩;refine Xw.i _ (λw' hw=>(aC rfl) _ _ _ (by rw[hw.1.cell];rfl)) ?_;refine Xw.i _ (λw' hw=>(aC rfl) _ _ _ (by rw[hw.2.cell];rfl)) ?_;refine gP ((ih n aj).expr 0 _ _ _ _ _ _ p dW aj rfl (aM hr aI)) ?_ ?_;rotate_left
  .intro c fT h;exact h.up hr kk ak
  intro rv fT h;obtain⟨t,cB,o,fc,r1,S1,⟨o',-,p⟩,dB⟩:=h.out;rw[fc,aL]at hr;have qv:=dB.size;replace kk:=kk.trans' dB af;replace a1:=dB.at a1 af;replace a2:=dB.at a2 af;replace aU:=dB.at aU af;refine⟨⟨a2,a1⟩,?_⟩;obtain⟨br,rfl,-,-⟩:=r1.kind S1;unfold ptr at*;refine⟨_,λw' _=>Nc.p _ w',?_⟩;refine Xw.i _ (λw' _=>by simp[go_sem]<;>trivial) ?_;refine U1.store (aH rfl rfl) aU ak λmK gE=>?_;have Ch:=gE.size;replace kk:=kk.trans' gE.aA af;replace r1:=r1.fr gE.aA af;replace p:=p.aA gE.aA af af af;replace aU:=gE.at_;simp only[set_cons_zero,set_cons_succ]at aU;subst hr
  exact⟨⟨bs,_,_,_,_,_,_,rfl,.inl rfl,aU,rfl,r1.st aj,rfl,.inl rfl,.inl rfl⟩,rfl,⟨_,p⟩,kk⟩
 .rw[hb]at hr p;subst hr;exact⟨⟨bs,_,_,_,_,_,_,rfl,.inl rfl,aU,rfl,rfl,rfl,.inl rfl,.inl rfl⟩,rfl,⟨_,p⟩,kk⟩
end Go.Proofs.YtoddjlclpnoomaaGreatDoor

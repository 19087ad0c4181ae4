import Derived.Test.YtoddjlclpnoomaaGreatDoorV15
set_option linter.unusedVariables false
set_option linter.unusedSimpArgs false
set_option maxRecDepth 100000
open Go.Proofs.Tryz
open List (toList_toArray set_cons_zero set_cons_succ)
open Go.Value (cells)
open Bool (or_eq_false_iff)
namespace Go.Proofs.YtoddjlclpnoomaaGreatDoor
open Go.Sh
theorem D6.pre{bs:Nat}{x:fk}{w0 w:Wd}{deep:Int}{r:bN}{w':Wd}(h:D6 bs x w deep r w')(hk:aD [x.p,bs] w0 w):D6 bs x w0 deep r w':=by
 cases r with
 |ok t ts o=>
  have z:=hk.size;exact⟨aP.imp (λq hq _=>hq.elim .inl λh=>.inr aj) _ _ h.1,h.2.1,h.2.2.1,hk.trans' h.2.2.2 (λi hi _=>hi)⟩
 |fail c=>exact h.elim
 |bH=>exact h.elim
theorem Er.Nv{bs:Nat}{x:fk}{w0 w:Wd}{r:bN}{c:List PanicEntry}{w':Wd}(h:Er [x.p,bs] x w r c w')(hk:aD [x.p,bs] w0 w):Er [x.p,bs] x w0 r c w':=h.pre hk (λi hi _=>hi)
def yJ(line:Int)(lv:Va):LV:=[.int .i64 2,.int .i64 line,str [],lv,.pointer none,.pointer none,.slice none 0 0,.slice none 0 0]
def yK(line:Int)(nm:By):LV:=[.int .i64 6,.int .i64 line,.int .i64 0,str nm,.pointer none,.pointer none,.slice none 0 0,.slice none 0 0,.slice none 0 0,.slice none 0 0]
theorem g103{w:Wd}{x:fk}{ts:LT}{deep:Int}{own:Bool}{b1 b2 bs:Nat}{line:Int}(p:PS w x ts deep own)(a1:At w b1 [ptr x.p])(a2:At w b2 [ptr bs])(aU:At w bs (yJ line (.pointer none)))
  (h1:bs≠x.p) (h2:bs≠x.bt) (h3:bs≠x.bm) (h4:b1≠x.p) (h5:b2≠x.p):
  Calls prog 103 #[ptr b1,ptr b2] w (aZ (λ_ w'=>((hd ts).kind==1)=true/\PS w' x (bG ts) deep own/\(∃bn l,At w' bs (yJ line (ptr bn))/\At w' bn (yK l (hd ts).text)/\w.heap.size<=bn/\bn<w'.heap.size)/\aD [x.p,bs] w w') (λc w'=>∀f,Er [x.p,bs] x w (cU ts f) c w')):=by
 refine T0 ?_;unfold Li;have kk:=aD.refl [x.p,bs] w;unfold yJ at aU;have Nu:=aU.lt;have lp:=p.mR;have lt:=p.ll;have lm:=p.qY;have l1:=a1.lt;have l2:=a2.lt;refine V1.load (aC rfl) (a1) rfl ?_;refine nC (d104 p) ?_ ?_;rotate_left
 .intro c w7 hF f;exact(hF f).pre kk ak
 rintro _ w7 ⟨hi,rfl,p,K7⟩;have jj:=K7.size;replace kk:=kk.trans' K7 af;replace a1:=K7.at a1 af;replace a2:=K7.at a2 af;replace aU:=K7.at aU af;refine V1.new (fB _) λb3 w3 N3=>?_;have Ik:=N3.ge;have Il:=N3.lt;have Im:=N3.aA.size;have a3:=N3.at_;try simp only[cells,toList_toArray]at a3
 replace kk:=N3.kp kk;replace a1:=N3.a a1;replace a2:=N3.a a2;replace aU:=N3.a aU;replace p:=p.new N3.aA;refine U1.tok (t:=hd ts) a3 rfl λw4 U4=>?_;have z4:=U4.size;replace kk:=kk.trans' U4.aA af;replace a1:=U4.aA.at a1 af;replace a2:=U4.aA.at a2 af;replace aU:=U4.aA.at aU af;replace p:=p.aA U4.aA af af af;have a3:=U4.at_;refine V1.load (aC rfl) (a2) rfl ?_;refine V1.i ah ?_;refine V1.load (aC rfl) (a3) rfl ?_;refine V1.i ah ?_;refine V1.load (aC rfl) (a3) rfl ?_
 refine V1.i ah ?_;refine V1.new (iE _ _) λb5 w5 N5=>?_;have B5:=N5.ge;have AZ:=N5.lt;have Eb:=N5.aA.size;have a5:=N5.at_;try simp only[cells,toList_toArray]at a5
 replace kk:=N5.kp kk;replace a2:=N5.a a2;replace aU:=N5.a aU;replace p:=p.new N5.aA;unfold ptr at*;refine Up.i (Nc.p _ _) ?_;refine V1.i ah ?_;refine U1.store (aH rfl rfl) aU ak λw6 U6=>?_;have B8:=U6.size;replace kk:=kk.trans' U6.aA af;replace p:=p.aA U6.aA af af af;replace a5:=U6.aA.at a5 af;replace aU:=U6.at_;simp only[set_cons_zero,set_cons_succ]at aU;exact⟨hi,p,⟨b5,_,aU,a5,by omega,by omega⟩,kk⟩
set_option maxHeartbeats 1000000 in
theorem g100{n:Nat}(ih:nK n):GS (n+1) .simple 100:=by
 intro w x ts deep own r bs line p dW hn hr aI aU h1 h2 h3;refine TW ?_;unfold Ld;simp only[run]at hr;have lp:=p.mR;have lt:=p.ll;have lm:=p.qY;have Nu:=aU.lt;unfold sq at aU;have kk:=aD.refl [x.p,bs] w;refine DL (ih.post _ _ _ _ _ _ p dW aj rfl (aM hr aI)) ?_ ?_;rotate_left
 .intro c w2 h;exact h.up hr kk ak
 intro ev w2 h;obtain⟨t,cB,o,fc,r1,S1,⟨o',ho,p⟩,K2⟩:=h.out;obtain rfl:=ho rfl;rw[fc,aL]at hr;have wH:=K2.size;replace kk:=kk.trans' K2 af;replace aU:=K2.at aU af;obtain⟨o1,c1,xt,wL,VH⟩:=p.ex;unfold ptr at*;refine Up.i (Nc.p _ _) ?_;refine V1.i ah ?_;refine V1.load (aC rfl) (xt) rfl ?_;refine V1.aG ah λb3 w3 N3=>?_;have Ik:=N3.ge;have Il:=N3.lt;have Im:=N3.aA.size;have a3:=N3.at_;try simp only[cells,toList_toArray]at a3
 replace kk:=N3.kp kk;replace aU:=N3.a aU;replace p:=p.new N3.aA;replace r1:=r1.nw N3;refine fW (gZ (s:=[61]) p a3) ?_ (NP.no (e:=_));rintro _ w4 ⟨rfl,K4⟩;have A0:=K4.size;replace kk:=kk.trans' K4 af;replace aU:=K4.at aU af;replace p:=p.aA K4 af af af;replace r1:=r1.fr K4 af;replace a3:=K4.at a3 af;obtain⟨br,rfl,-,hk⟩:=r1.kind S1;unfold ptr at*;generalize kindOf t=k at hk hr;have hc:∀k:Int,(k==6||k==7)=false->¬k=6/\¬k=7:=by
  intro k h;simp only[or_eq_false_iff,beq_eq_false_iff_ne]at h;exact h
 cases hb:bC [61] cB<;>cases o'<;>rw[hb]at hr<;>simp only[Bool.false_and,Bool.not_false,Bool.not_true,Bool.and_false,Bool.true_and]at hr
 .repeat(first|refine J1.go ?_|refine Gd.tt ?_|refine Gd.ff ?_|refine Gd.tf ?_|refine Gd.ft ?_|refine Gd.u ?_|refine If.t ?_|refine If.f ?_|refine Up.i (Nc.p _ _) ?_|refine V1.i ((aC rfl) _ _ _ hk) ?_|refine V1.i (w':=w4) ax ?_|rw[yL]|rw[yM]|rw[xu])
  refine V1.aG ah λb6 w6 N6=>?_;have D8:=N6.ge;have D9:=N6.lt;have Ea:=N6.aA.size;have a6:=N6.at_;try simp only[cells,toList_toArray]at a6
  replace kk:=N6.kp kk;replace aU:=N6.a aU;replace p:=p.new N6.aA;replace r1:=r1.nw N6;refine fW (gZ (s:=[61]) p a6) ?_ (NP.no (e:=_));rintro _ w7 ⟨rfl,K7⟩;have jj:=K7.size;replace kk:=kk.trans' K7 af;replace aU:=K7.at aU af;replace p:=p.aA K7 af af af;replace r1:=r1.fr K7 af;replace a6:=K7.at a6 af;rw[hb];replace hk:=(N6.aA.trans K7).cell hk ak;by_cases h8:k=8
  .subst h8;repeat(first|refine J1.go ?_|refine Gd.tt ?_|refine Gd.ff ?_|refine Gd.tf ?_|refine Gd.ft ?_|refine Gd.u ?_|refine If.t ?_|refine If.f ?_|refine Up.i (Nc.p _ _) ?_|refine V1.i ((aC rfl) _ _ _ hk) ?_|refine V1.i (w':=w7) ax ?_|rw[yL]|rw[yM]|rw[xu])
   refine U1.store (aH rfl rfl) aU ak λw8 U8=>?_;have yD:=U8.size;replace kk:=kk.trans' U8.aA af;replace r1:=r1.fr U8.aA af;replace p:=p.aA U8.aA af af af;replace aU:=U8.at_;simp only[set_cons_zero,set_cons_succ]at aU;refine Up.i (Nc.p _ _) ?_;refine V1.i ah ?_;refine U1.store (aH rfl rfl) aU ak λw9 U9=>?_;have A5:=U9.size;replace kk:=kk.trans' U9.aA af;replace r1:=r1.fr U9.aA af;replace p:=p.aA U9.aA af af af;replace aU:=U9.at_;simp only[set_cons_zero,set_cons_succ]at aU;have z9:=kk.size;subst hr
   exact⟨⟨bs,_,_,_,_,_,_,rfl,.inl rfl,aU,rfl,r1.st aj,rfl,.inl rfl,.inl rfl⟩,rfl,⟨_,p⟩,kk⟩
  .have xu:(k==8)=false:=by simpa using h8
   rw[xu]at hr;repeat(first|refine J1.go ?_|refine Gd.tt ?_|refine Gd.ff ?_|refine Gd.tf ?_|refine Gd.ft ?_|refine Gd.u ?_|refine If.t ?_|refine If.f ?_|refine Up.i (Nc.p _ _) ?_|refine V1.i ((aC rfl) _ _ _ hk) ?_|refine V1.i (w':=w7) (by simp[go_sem,h8];first|done|rfl|exact⟨rfl,rfl⟩) ?_|rw[yL]|rw[yM]|rw[xu])
   subst hr;refine lQ (d32 4 p) ?_ ?_
   .rintro _ _ h;exact h.elim
   .intro c w8 hF;exact hF.pre kk ak
 .repeat(first|refine J1.go ?_|refine Gd.tt ?_|refine Gd.ff ?_|refine Gd.tf ?_|refine Gd.ft ?_|refine Gd.u ?_|refine If.t ?_|refine If.f ?_|refine Up.i (Nc.p _ _) ?_|refine V1.i ((aC rfl) _ _ _ hk) ?_|refine V1.i (w':=w4) ax ?_|rw[yL]|rw[yM]|rw[xu])
  refine V1.aG ah λb6 w6 N6=>?_;have D8:=N6.ge;have D9:=N6.lt;have Ea:=N6.aA.size;have a6:=N6.at_;try simp only[cells,toList_toArray]at a6
  replace kk:=N6.kp kk;replace aU:=N6.a aU;replace p:=p.new N6.aA;replace r1:=r1.nw N6;refine fW (gZ (s:=[61]) p a6) ?_ (NP.no (e:=_));rintro _ w7 ⟨rfl,K7⟩;have jj:=K7.size;replace kk:=kk.trans' K7 af;replace aU:=K7.at aU af;replace p:=p.aA K7 af af af;replace r1:=r1.fr K7 af;replace a6:=K7.at a6 af;rw[hb];replace hk:=(N6.aA.trans K7).cell hk ak
  repeat(first|refine J1.go ?_|refine Gd.tt ?_|refine Gd.ff ?_|refine Gd.tf ?_|refine Gd.ft ?_|refine Gd.u ?_|refine If.t ?_|refine If.f ?_|refine Up.i (Nc.p _ _) ?_|refine V1.i ((aC rfl) _ _ _ hk) ?_|refine V1.i (w':=w7) ax ?_|rw[yL]|rw[yM]|rw[xu])
  subst hr;refine lQ (d32 4 p) ?_ ?_
  .rintro _ _ h;exact h.elim
  .intro c w8 hF;exact hF.pre kk ak
 .by_cases h6:k=6
  .subst h6;repeat(first|refine J1.go ?_|refine Gd.tt ?_|refine Gd.ff ?_|refine Gd.tf ?_|refine Gd.ft ?_|refine Gd.u ?_|refine If.t ?_|refine If.f ?_|refine Up.i (Nc.p _ _) ?_|refine V1.i ((aC rfl) _ _ _ hk) ?_|refine V1.i (w':=w4) ax ?_|rw[yL]|rw[yM]|rw[xu])
   refine eh (d107 p) ?_ (NP.no (e:=_));rintro _ w6 ⟨rfl,p,K6⟩;have mr:=K6.size;replace kk:=kk.trans' K6 af;replace aU:=K6.at aU af;replace r1:=r1.fr K6 af;refine gP (ih.expr 0 _ _ _ _ _ _ p dW aj rfl (aM hr aI)) ?_ ?_;rotate_left
   .intro c w7 h;exact h.up hr kk ak
   intro rv w7 h;obtain⟨t2,dI,o2,gO,r2,S2,⟨o'',-,p⟩,K7⟩:=h.out;rw[gO,aL]at hr;have jj:=K7.size;replace kk:=kk.trans' K7 af;replace aU:=K7.at aU af;replace r1:=r1.fr K7 af;obtain⟨br2,rfl,-,-⟩:=r2.kind S2;unfold ptr at*;refine Up.i (Nc.p _ _) ?_;refine V1.i ah ?_;refine U1.store (aH rfl rfl) aU ak λw8 U8=>?_;have yD:=U8.size;replace kk:=kk.trans' U8.aA af;replace r1:=r1.fr U8.aA af;replace r2:=r2.fr U8.aA af;replace p:=p.aA U8.aA af af af;replace aU:=U8.at_;simp only[set_cons_zero,set_cons_succ]at aU;refine Up.i (Nc.p _ _) ?_;refine V1.i ah ?_
   refine U1.store (aH rfl rfl) aU ak λw9 U9=>?_;have A5:=U9.size;replace kk:=kk.trans' U9.aA af;replace r1:=r1.fr U9.aA af;replace r2:=r2.fr U9.aA af;replace p:=p.aA U9.aA af af af;replace aU:=U9.at_;simp only[set_cons_zero,set_cons_succ]at aU;refine Up.i (Nc.p _ _) ?_;refine V1.i ah ?_;refine U1.store (aH rfl rfl) aU ak λei gH=>?_;have yN:=gH.size;replace kk:=kk.trans' gH.aA af;replace r1:=r1.fr gH.aA af;replace r2:=r2.fr gH.aA af;replace p:=p.aA gH.aA af af af;replace aU:=gH.at_
   simp only[set_cons_zero,set_cons_succ]at aU;have El:=kk.size;subst hr;exact⟨⟨bs,_,_,_,_,_,_,rfl,.inl rfl,aU,r1.st aj,r2.st aj,rfl,.inl rfl,.inl rfl⟩,rfl,⟨_,p⟩,kk⟩
  .by_cases h7:k=7
   .subst h7;repeat(first|refine J1.go ?_|refine Gd.tt ?_|refine Gd.ff ?_|refine Gd.tf ?_|refine Gd.ft ?_|refine Gd.u ?_|refine If.t ?_|refine If.f ?_|refine Up.i (Nc.p _ _) ?_|refine V1.i ((aC rfl) _ _ _ hk) ?_|refine V1.i (w':=w4) ax ?_|rw[yL]|rw[yM]|rw[xu])
    refine eh (d107 p) ?_ (NP.no (e:=_));rintro _ w6 ⟨rfl,p,K6⟩;have mr:=K6.size;replace kk:=kk.trans' K6 af;replace aU:=K6.at aU af;replace r1:=r1.fr K6 af;refine gP (ih.expr 0 _ _ _ _ _ _ p dW aj rfl (aM hr aI)) ?_ ?_;rotate_left
    .intro c w7 h;exact h.up hr kk ak
    intro rv w7 h;obtain⟨t2,dI,o2,gO,r2,S2,⟨o'',-,p⟩,K7⟩:=h.out;rw[gO,aL]at hr;have jj:=K7.size;replace kk:=kk.trans' K7 af;replace aU:=K7.at aU af;replace r1:=r1.fr K7 af;obtain⟨br2,rfl,-,-⟩:=r2.kind S2;unfold ptr at*;refine Up.i (Nc.p _ _) ?_;refine V1.i ah ?_;refine U1.store (aH rfl rfl) aU ak λw8 U8=>?_;have yD:=U8.size;replace kk:=kk.trans' U8.aA af;replace r1:=r1.fr U8.aA af;replace r2:=r2.fr U8.aA af;replace p:=p.aA U8.aA af af af;replace aU:=U8.at_;simp only[set_cons_zero,set_cons_succ]at aU;refine Up.i (Nc.p _ _) ?_;refine V1.i ah ?_
    refine U1.store (aH rfl rfl) aU ak λw9 U9=>?_;have A5:=U9.size;replace kk:=kk.trans' U9.aA af;replace r1:=r1.fr U9.aA af;replace r2:=r2.fr U9.aA af;replace p:=p.aA U9.aA af af af;replace aU:=U9.at_;simp only[set_cons_zero,set_cons_succ]at aU;refine Up.i (Nc.p _ _) ?_;refine V1.i ah ?_;refine U1.store (aH rfl rfl) aU ak λei gH=>?_;have yN:=gH.size;replace kk:=kk.trans' gH.aA af;replace r1:=r1.fr gH.aA af;replace r2:=r2.fr gH.aA af;replace p:=p.aA gH.aA af af af;replace aU:=gH.at_
    simp only[set_cons_zero,set_cons_succ]at aU;have El:=kk.size;subst hr;exact⟨⟨bs,_,_,_,_,_,_,rfl,.inl rfl,aU,r1.st aj,r2.st aj,rfl,.inl rfl,.inl rfl⟩,rfl,⟨_,p⟩,kk⟩
   .have h67:(k==6||k==7)=false:=by simp[h6,h7]
    have yL:(k==6)=false:=by simpa using h6
    have yM:(k==7)=false:=by simpa using h7
    rw[h67]at hr;repeat(first|refine J1.go ?_|refine Gd.tt ?_|refine Gd.ff ?_|refine Gd.tf ?_|refine Gd.ft ?_|refine Gd.u ?_|refine If.t ?_|refine If.f ?_|refine Up.i (Nc.p _ _) ?_|refine V1.i ((aC rfl) _ _ _ hk) ?_|refine V1.i (w':=w4) (by simp[go_sem,h6,h7];first|done|rfl|exact⟨rfl,rfl⟩) ?_|rw[yL]|rw[yM]|rw[xu])
    refine V1.aG ah λb6 w6 N6=>?_;have D8:=N6.ge;have D9:=N6.lt;have Ea:=N6.aA.size;have a6:=N6.at_;try simp only[cells,toList_toArray]at a6
    replace kk:=N6.kp kk;replace aU:=N6.a aU;replace p:=p.new N6.aA;replace r1:=r1.nw N6;refine fW (gZ (s:=[61]) p a6) ?_ (NP.no (e:=_));rintro _ w7 ⟨rfl,K7⟩;have jj:=K7.size;replace kk:=kk.trans' K7 af;replace aU:=K7.at aU af;replace p:=p.aA K7 af af af;replace r1:=r1.fr K7 af;replace a6:=K7.at a6 af;rw[hb];replace hk:=(N6.aA.trans K7).cell hk ak
    repeat(first|refine J1.go ?_|refine Gd.tt ?_|refine Gd.ff ?_|refine Gd.tf ?_|refine Gd.ft ?_|refine Gd.u ?_|refine If.t ?_|refine If.f ?_|refine Up.i (Nc.p _ _) ?_|refine V1.i ((aC rfl) _ _ _ hk) ?_|refine V1.i (w':=w7) (by simp[go_sem,h6,h7];first|done|rfl|exact⟨rfl,rfl⟩) ?_|rw[yL]|rw[yM]|rw[xu])
    subst hr;refine lQ (d32 4 p) ?_ ?_
    .rintro _ _ h;exact h.elim
    .intro c w8 hF;exact hF.pre kk ak
 .repeat(first|refine J1.go ?_|refine Gd.tt ?_|refine Gd.ff ?_|refine Gd.tf ?_|refine Gd.ft ?_|refine Gd.u ?_|refine If.t ?_|refine If.f ?_|refine Up.i (Nc.p _ _) ?_|refine V1.i ((aC rfl) _ _ _ hk) ?_|refine V1.i (w':=w4) ax ?_|rw[yL]|rw[yM]|rw[xu])
  refine V1.aG ah λb6 w6 N6=>?_;have D8:=N6.ge;have D9:=N6.lt;have Ea:=N6.aA.size;have a6:=N6.at_;try simp only[cells,toList_toArray]at a6
  replace kk:=N6.kp kk;replace aU:=N6.a aU;replace p:=p.new N6.aA;replace r1:=r1.nw N6;refine fW (gZ (s:=[61]) p a6) ?_ (NP.no (e:=_));rintro _ w7 ⟨rfl,K7⟩;have jj:=K7.size;replace kk:=kk.trans' K7 af;replace aU:=K7.at aU af;replace p:=p.aA K7 af af af;replace r1:=r1.fr K7 af;replace a6:=K7.at a6 af;rw[hb];replace hk:=(N6.aA.trans K7).cell hk ak
  repeat(first|refine J1.go ?_|refine Gd.tt ?_|refine Gd.ff ?_|refine Gd.tf ?_|refine Gd.ft ?_|refine Gd.u ?_|refine If.t ?_|refine If.f ?_|refine Up.i (Nc.p _ _) ?_|refine V1.i ((aC rfl) _ _ _ hk) ?_|refine V1.i (w':=w7) ax ?_|rw[yL]|rw[yM]|rw[xu])
  subst hr;refine lQ (d32 4 p) ?_ ?_
  .rintro _ _ h;exact h.elim
  .intro c w8 hF;exact hF.pre kk ak
set_option maxHeartbeats 2000000 in
theorem g58{n:Nat}(ih:∀m,m<=n->nK m):GS (n+1) .stmt 58:=by
 intro w x ts deep own r bs line p dW hn hr aI aU h1 h2 h3;refine s58 ?_;unfold ZR;simp only[run]at hr;have lp:=p.mR;have lt:=p.ll;have lm:=p.qY;have Nu:=aU.lt;unfold sq at aU;have kk:=aD.refl [x.p,bs] w;have hnf:n<=aX:=by omega
 refine V1.new (wq _ _) λb1 w1 N1=>?_;have qm:=N1.ge;have qZ:=N1.lt;have rf:=N1.aA.size;have a1:=N1.at_;try simp only[cells,toList_toArray]at a1
 replace p:=p.new N1.aA;replace kk:=N1.kp kk;replace aU:=N1.a aU;refine V1.new (JF _ _) λb2 w2 N2=>?_;have DZ:=N2.ge;have D0:=N2.lt;have B3:=N2.aA.size;have a2:=N2.at_;try simp only[cells,toList_toArray]at a2
 replace p:=p.new N2.aA;replace kk:=N2.kp kk;replace aU:=N2.a aU;replace a1:=N2.a a1;unfold ptr at*;refine V1.load (aC rfl) (a1) rfl ?_;refine mH (d31 p) ?_ (NP.no (e:=_));rintro _ w3 ⟨rfl,K3⟩;have tG:=K3.size;replace p:=p.aA K3 af af af;replace kk:=kk.trans' K3 af;replace aU:=K3.at aU af;replace a1:=K3.at a1 af;replace a2:=K3.at a2 af;refine V1.new (fB _) λb4 w4 N4=>?_;have Vn:=N4.ge;have lN4:=N4.lt;have Vo:=N4.aA.size;have a4:=N4.at_;try simp only[cells,toList_toArray]at a4
 replace p:=p.new N4.aA;replace kk:=N4.kp kk;replace aU:=N4.a aU;replace a1:=N4.a a1;replace a2:=N4.a a2;refine U1.tok (t:=hd ts) a4 rfl λw5 U5=>?_;have z5:=U5.size;replace p:=p.aA U5.aA af af af;replace kk:=kk.trans' U5.aA af;replace aU:=U5.aA.at aU af;replace a1:=U5.aA.at a1 af;replace a2:=U5.aA.at a2 af;have a4:=U5.at_;refine V1.i ah ?_;refine V1.load (aC rfl) (a4) rfl ?_;refine V1.i ah ?_
 have vE:∀w6,aD [x.p,bs] w w6->PS w6 x ts deep own->At w6 bs [.int .i64 0,.int .i64 line,str [],.pointer none,.pointer none,.pointer none,.slice none 0 0,.slice none 0 0]->run n .simple deep ts=r->Cf prog 100 #[.pointer (some ⟨x.p,0,none⟩),.pointer (some ⟨bs,0,none⟩)] w6 (λoJ w'=>aZ (λ_=>D6 bs x w deep r) (Er [x.p,bs] x w r) (.returned (.tuple #[])) w') (pn (aZ (λ_=>D6 bs x w deep r) (Er [x.p,bs] x w r))):=by
  intro w6 k6 p6 as6 hr;refine Le ((ih n aj).simple _ _ _ _ _ _ _ _ p6 dW aj hr aI as6 aj aj aj) ?_ ?_
  .intro v w7 h;exact h.pre k6
  .intro c w7 h;exact h.Nv k6
 refine If.b (λhb=>?_) (λhb=>?_)
 .have eF:((hd ts).kind==4)=false:=by simpa using hb
  rw[eF]at hr;refine V1.load (aC rfl) (a1) rfl ?_;refine V1.load (aC rfl) (a2) rfl ?_;exact vE _ kk p aU hr
 have eF:((hd ts).kind==4)=true:=by simpa using hb
 rw[eF]at hr;dsimp only at hr;refine V1.i ah ?_;refine V1.load (aC rfl) (a4) rfl ?_;refine V1.i ah ?_;refine If.b (λhb=>?_) (λhb=>?_)
 .have eF:(hd ts).text=nt:=eq_of_beq hb;rw[if_pos eF]at hr;refine V1.load (aC rfl) (a1) rfl ?_;refine V1.load (aC rfl) (a2) rfl ?_;refine Lg ((ih n aj).lM _ _ _ _ _ _ _ _ p dW aj hr aI aU aj aj aj) ?_ ?_
  .intro v w7 h;exact h.pre kk
  .intro c w7 h;exact h.Nv kk
 have yO:¬(hd ts).text=nt:=ne_of_beq_false hb;rw[if_neg yO]at hr;refine V1.i ah ?_;refine V1.load (aC rfl) (a4) rfl ?_;refine V1.i ah ?_;refine If.b (λhb=>?_) (λhb=>?_)
 .have eF:(hd ts).text=bR:=eq_of_beq hb;rw[if_pos eF]at hr
  cases n with
  |zero=>exact absurd hr.symm aI
  |succ n=>
  refine V1.load (aC rfl) (a2) rfl ?_;refine Up.i (Nc.p _ _) ?_;refine V1.i ah ?_;refine U1.store (aH rfl rfl) aU ak λw6 U6=>?_;have B8:=U6.size;replace p:=p.aA U6.aA af af af;replace kk:=kk.trans' U6.aA af;replace a1:=U6.aA.at a1 af;replace a2:=U6.aA.at a2 af;replace aU:=U6.at_;simp only[set_cons_zero,set_cons_succ]at aU;have q1:=p.tp;have q2:=p.mp;have K7:aD [] w6 w6.drew:=(aD.refl _ _).drew;generalize w6.drew=w7 at K7⊢;have jj:=K7.size;replace kk:=kk.trans' K7 af;replace aU:=K7.at aU af;replace a1:=K7.at a1 af;replace a2:=K7.at a2 af
  replace p:=p.aA K7 af af af;refine⟨λw'=>At w' b2 [.pointer (some ⟨bs,0,none⟩)]/\At w' b1 [.pointer (some ⟨x.p,0,none⟩)],⟨a2,a1⟩,?_⟩;refine Xw.i _ (λw' hw=>(aC rfl) _ _ _ (by rw[hw.1.cell];rfl)) ?_;refine Xw.i _ (λw' hw=>(aC rfl) _ _ _ (by rw[hw.2.cell];rfl)) ?_;refine Xw.i _ (λw' _=>by simp[go_sem]<;>trivial) ?_;have z7:=kk.size
  refine yg (g102 (n:=n) (r:=run (n+1) (.func true) deep ts) (ih n aj) aj (M:=[x.p,bs]) (kc:=103) (cap:=#[ptr b1,ptr b2]) (Y:=λbe H w'=>∃nm bn l,(H=λpl b=>.cons (.ex 9 0 [] .nil .nil .nil .nil pl b) (.cons (lf 6 0 nm) .nil))/\At w' bs (yJ line (ptr bn))/\At w' bn (yK l nm)/\w7.heap.size<=bn/\bn≠be) p dW (aM hr aI) (aJ func103 (c:=bA Tryz.f103) ai ai _) ak al al al (λd ts=>cU ts λnm ts=>FT n d (λpl b=>.cons (.ex 9 0 [] .nil .nil .nil .nil pl b) (.cons (lf 6 0 nm) .nil)) ts) (by rw[run];rfl) ?_ ?_) ?_ ?_
  .intro be w' bX own' RH xo K' p' hG;have zz:=K'.size;refine aZ.imp (g103 p' (K'.at a1 al) (K'.at a2 al) (K'.at aU al) h1 h2 h3 aj aj) ?_ ?_
   .rintro _ w2 ⟨hk,p2,⟨bn,l,Ek,VI,RI,Ii⟩,K2⟩;rw[fK hk]at hG;exact⟨_,_,_,hG,p2,K2,_,bn,l,rfl,Ek,VI,by omega,by omega⟩
   .intro c w2 hF;exact Er.all hF hG
  .rintro be H w1 w2 RH ⟨nm,bn,l,rfl,Ek,VI,RI,Ii⟩ K';exact⟨nm,bn,l,rfl,K'.at Ek al,K'.at VI al,RI,Ii⟩
  .rintro v fT ⟨be,H,pl,b,cB,fc,R1,⟨o',p⟩,dB,nm,bn,l,rfl,aU,an,RI,Ii⟩;rw[fc,aL]at hr;dsimp only at hr;have qv:=dB.size;replace kk:=kk.trans' dB af;replace a1:=dB.at a1 af;replace a2:=dB.at a2 af;obtain⟨br,rfl,-,-⟩:=R1.kind rfl;refine⟨⟨a2,a1⟩,?_⟩;unfold yJ at aU;unfold yK at an;unfold ptr at*;refine⟨_,λw' _=>Nc.p _ w',?_⟩;refine Xw.i _ (λw' _=>by simp[go_sem]<;>trivial) ?_;replace R1:=R1.fit (lo':=w7.heap.size) (Y:=[]) aj ak;refine U1.store (aH rfl rfl) aU ak λmK gE=>?_;have Ch:=gE.size;replace kk:=kk.trans' gE.aA af;replace p:=p.aA gE.aA af af af;replace aU:=gE.at_
   simp only[set_cons_zero,set_cons_succ]at aU;replace R1:=R1.fr gE.aA al;replace an:=gE.aA.at an al;subst hr;exact⟨⟨bs,_,_,_,_,_,_,rfl,.inl rfl,aU,⟨bn,_,_,_,_,_,_,_,rfl,.inr aj,an,rfl,rfl,.inl rfl,.inl rfl,.inl ⟨rfl,rfl⟩,.inl rfl⟩,R1.st aj,rfl,.inl rfl,.inl rfl⟩,rfl,⟨_,p⟩,kk⟩
  .intro c fT h;exact h.up hr kk ak
 have sA:¬(hd ts).text=bR:=ne_of_beq_false hb;rw[if_neg sA]at hr;refine V1.i ah ?_;refine V1.load (aC rfl) (a4) rfl ?_;refine V1.i ah ?_;refine If.b (λhb=>?_) (λhb=>?_)
 .have eF:(hd ts).text=qd:=eq_of_beq hb;rw[if_pos eF]at hr;have K6:aD [] w5 w5.drew:=(aD.refl _ _).drew;generalize w5.drew=w6 at K6⊢;have mr:=K6.size;replace kk:=kk.trans' K6 af;replace aU:=K6.at aU af;replace a1:=K6.at a1 af;replace a2:=K6.at a2 af;replace p:=p.aA K6 af af af;refine⟨λw'=>At w' b2 [.pointer (some ⟨bs,0,none⟩)]/\At w' b1 [.pointer (some ⟨x.p,0,none⟩)],⟨a2,a1⟩,?_⟩;refine Xw.i _ (λw' hw=>(aC rfl) _ _ _ (by rw[hw.1.cell];rfl)) ?_;refine Xw.i _ (λw' hw=>(aC rfl) _ _ _ (by rw[hw.1.cell];rfl)) ?_;refine Xw.i _ (λw' hw=>(aC rfl) _ _ _ (by rw[hw.2.cell];rfl)) ?_;refine pd ((ih n aj).inner qd _ _ _ _ _ _ p dW aj rfl (aM hr aI)) ?_ ?_
  rotate_left
  .intro c w7 h;exact h.up hr kk ak
  intro v1 w7 h;obtain⟨t1,cB,o,fc,r1,S1,⟨o',-,p⟩,K7⟩:=h.out;rw[fc,aL]at hr;have jj:=K7.size;replace kk:=kk.trans' K7 af;replace aU:=K7.at aU af;replace a1:=K7.at a1 af;replace a2:=K7.at a2 af;have GG:=r1.qo S1;refine⟨⟨a2,a1⟩,?_⟩;refine⟨_,λw' _=>Nc.p _ w',?_⟩;refine Xw.i _ (λw' _=>by simp[go_sem]<;>trivial) ?_;refine U1.store (aH rfl rfl) aU ak λw8 U8=>?_;have yD:=U8.size;replace kk:=kk.trans' U8.aA af;replace a1:=U8.aA.at a1 af;replace a2:=U8.aA.at a2 af;replace p:=p.aA U8.aA af af af;replace r1:=r1.fr U8.aA af;replace aU:=U8.at_
  simp only[set_cons_zero,set_cons_succ]at aU;have z'8:=kk.size;refine⟨⟨a2,a1⟩,?_⟩;refine⟨_,λw' _=>Nc.p _ w',?_⟩;refine Xw.i _ (λw' _=>by simp[go_sem]<;>trivial) ?_;refine U1.store (aH rfl GG) aU ak λw9 U9=>?_;have A5:=U9.size;replace kk:=kk.trans' U9.aA af;replace a1:=U9.aA.at a1 af;replace a2:=U9.aA.at a2 af;replace p:=p.aA U9.aA af af af;replace r1:=r1.fr U9.aA af;replace aU:=U9.at_;simp only[set_cons_zero,set_cons_succ]at aU;have z'9:=kk.size;refine V1.load (aC rfl) (a1) rfl ?_;refine gD (d106 cT p) ?_ ?_;rotate_left
  .intro c ei h;exact(Er.all h hr).pre kk ak
  rintro _ ei ⟨GH,rfl,p,dA⟩;have sr:=dA.size;replace kk:=kk.trans' dA af;replace aU:=dA.at aU af;replace r1:=r1.fr dA af;rw[cW GH]at hr;subst hr;exact⟨⟨bs,_,_,_,_,_,_,rfl,.inl rfl,aU,rfl,rfl,rfl,r1.st aj,.inl rfl⟩,rfl,⟨_,p⟩,kk⟩
 have Nw:¬(hd ts).text=qd:=ne_of_beq_false hb;rw[if_neg Nw]at hr;refine V1.i ah ?_;refine V1.load (aC rfl) (a4) rfl ?_;refine V1.i ah ?_;refine If.b (λhb=>?_) (λhb=>?_)
 .have eF:(hd ts).text=nu:=eq_of_beq hb;rw[if_pos eF]at hr;refine V1.load (aC rfl) (a1) rfl ?_;refine eh (d107 p) ?_ (NP.no (e:=_));rintro _ w6 ⟨rfl,p,K6⟩;have mr:=K6.size;replace kk:=kk.trans' K6 af;replace aU:=K6.at aU af;replace a1:=K6.at a1 af;replace a2:=K6.at a2 af;have K7:aD [] w6 w6.drew:=(aD.refl _ _).drew;generalize w6.drew=w7 at K7⊢;have jj:=K7.size;replace kk:=kk.trans' K7 af;replace aU:=K7.at aU af;replace a1:=K7.at a1 af;replace a2:=K7.at a2 af;replace p:=p.aA K7 af af af;refine⟨λw'=>At w' b2 [.pointer (some ⟨bs,0,none⟩)]/\At w' b1 [.pointer (some ⟨x.p,0,none⟩)],⟨a2,a1⟩,?_⟩
  refine Xw.i _ (λw' hw=>(aC rfl) _ _ _ (by rw[hw.1.cell];rfl)) ?_;refine Xw.i _ (λw' hw=>(aC rfl) _ _ _ (by rw[hw.1.cell];rfl)) ?_;refine Xw.i _ (λw' hw=>(aC rfl) _ _ _ (by rw[hw.2.cell];rfl)) ?_;refine gP ((ih n aj).expr 0 _ _ _ _ _ _ p dW aj rfl (aM hr aI)) ?_ ?_;rotate_left
  .intro c w8 h;exact h.up hr kk ak
  intro v1 w8 h;obtain⟨t1,cB,o,fc,r1,S1,⟨o',-,p⟩,K8⟩:=h.out;rw[fc,aL]at hr;have yC:=K8.size;replace kk:=kk.trans' K8 af;replace aU:=K8.at aU af;replace a1:=K8.at a1 af;replace a2:=K8.at a2 af;obtain⟨br1,rfl,-,-⟩:=r1.kind S1;unfold ptr at*;refine⟨⟨a2,a1⟩,?_⟩;refine⟨_,λw' _=>Nc.p _ w',?_⟩;refine Xw.i _ (λw' _=>by simp[go_sem]<;>trivial) ?_;refine U1.store (aH rfl rfl) aU ak λw9 U9=>?_;have A5:=U9.size;replace kk:=kk.trans' U9.aA af;replace a1:=U9.aA.at a1 af;replace a2:=U9.aA.at a2 af;replace p:=p.aA U9.aA af af af;replace r1:=r1.fr U9.aA af;replace aU:=U9.at_
  simp only[set_cons_zero,set_cons_succ]at aU;have z'9:=kk.size;refine⟨⟨a2,a1⟩,?_⟩;refine⟨_,λw' _=>Nc.p _ w',?_⟩;refine Xw.i _ (λw' _=>by simp[go_sem]<;>trivial) ?_;refine U1.store (aH rfl rfl) aU ak λei gH=>?_;have yN:=gH.size;replace kk:=kk.trans' gH.aA af;replace a1:=gH.aA.at a1 af;replace a2:=gH.aA.at a2 af;replace p:=p.aA gH.aA af af af;replace r1:=r1.fr gH.aA af;replace aU:=gH.at_;simp only[set_cons_zero,set_cons_succ]at aU;have VJ:=kk.size;have cR:aD [] ei ei.drew:=(aD.refl _ _).drew;generalize ei.drew=fp at cR⊢;have mJ:=cR.size;replace kk:=kk.trans' cR af
  replace aU:=cR.at aU af;replace a1:=cR.at a1 af;replace a2:=cR.at a2 af;replace p:=p.aA cR af af af;replace r1:=r1.fr cR af;refine⟨λw'=>At w' b2 [.pointer (some ⟨bs,0,none⟩)]/\At w' b1 [.pointer (some ⟨x.p,0,none⟩)],⟨a2,a1⟩,?_⟩;refine Xw.i _ (λw' hw=>(aC rfl) _ _ _ (by rw[hw.1.cell];rfl)) ?_;refine Xw.i _ (λw' hw=>(aC rfl) _ _ _ (by rw[hw.2.cell];rfl)) ?_;refine pd ((ih n aj).inner qd _ _ _ _ _ _ p dW aj rfl (aM hr aI)) ?_ ?_;rotate_left
  .intro c fT h;exact h.up hr kk ak
  intro v2 fT h;obtain⟨t2,dI,o,gO,r2,S2,⟨o',-,p⟩,dB⟩:=h.out;rw[gO,aL]at hr;have qv:=dB.size;replace kk:=kk.trans' dB af;replace aU:=dB.at aU af;replace a1:=dB.at a1 af;replace a2:=dB.at a2 af;replace r1:=r1.fr dB af;have Nx:=r2.qo S2;refine⟨⟨a2,a1⟩,?_⟩;refine⟨_,λw' _=>Nc.p _ w',?_⟩;refine Xw.i _ (λw' _=>by simp[go_sem]<;>trivial) ?_;refine U1.store (aH rfl Nx) aU ak λmK gE=>?_;have Ch:=gE.size;replace kk:=kk.trans' gE.aA af;replace a1:=gE.aA.at a1 af;replace a2:=gE.aA.at a2 af;replace p:=p.aA gE.aA af af af;replace r1:=r1.fr gE.aA af
  replace r2:=r2.fr gE.aA af;replace aU:=gE.at_;simp only[set_cons_zero,set_cons_succ]at aU;have z'13:=kk.size;refine V1.load (aC rfl) (a1) rfl ?_;refine gD (d106 cT p) ?_ ?_;rotate_left
  .intro c lu h;exact(Er.all h hr).pre kk ak
  rintro _ lu ⟨VL,rfl,p,kN⟩;have VF:=kN.size;replace kk:=kk.trans' kN af;replace aU:=kN.at aU af;replace r1:=r1.fr kN af;replace r2:=r2.fr kN af;rw[cW VL]at hr;subst hr;exact⟨⟨bs,_,_,_,_,_,_,rfl,.inl rfl,aU,rfl,r1.st aj,rfl,r2.st aj,.inl rfl⟩,rfl,⟨_,p⟩,kk⟩
 have yP:¬(hd ts).text=nu:=ne_of_beq_false hb;rw[if_neg yP]at hr;refine V1.i ah ?_;refine V1.load (aC rfl) (a4) rfl ?_;refine V1.i ah ?_;refine If.b (λhb=>?_) (λhb=>?_)
 .have eF:(hd ts).text=ye:=eq_of_beq hb;rw[if_pos eF]at hr;refine V1.load (aC rfl) (a1) rfl ?_;refine eh (d107 p) ?_ (NP.no (e:=_));rintro _ w6 ⟨rfl,p,K6⟩;have mr:=K6.size;replace kk:=kk.trans' K6 af;replace aU:=K6.at aU af;replace a1:=K6.at a1 af;replace a2:=K6.at a2 af;have K7:aD [] w6 w6.drew:=(aD.refl _ _).drew;generalize w6.drew=w7 at K7⊢;have jj:=K7.size;replace kk:=kk.trans' K7 af;replace aU:=K7.at aU af;replace a1:=K7.at a1 af;replace a2:=K7.at a2 af;replace p:=p.aA K7 af af af;refine⟨λw'=>At w' b2 [.pointer (some ⟨bs,0,none⟩)]/\At w' b1 [.pointer (some ⟨x.p,0,none⟩)],⟨a2,a1⟩,?_⟩
  refine Xw.i _ (λw' hw=>(aC rfl) _ _ _ (by rw[hw.1.cell];rfl)) ?_;refine Xw.i _ (λw' hw=>(aC rfl) _ _ _ (by rw[hw.1.cell];rfl)) ?_;refine Xw.i _ (λw' hw=>(aC rfl) _ _ _ (by rw[hw.2.cell];rfl)) ?_;refine nC (d104 p) ?_ ?_;rotate_left
  .intro c w8 hF;exact(Er.all hF hr).pre kk ak
  rintro _ w8 ⟨VM,rfl,p,K8⟩;have yC:=K8.size;replace kk:=kk.trans' K8 af;replace aU:=K8.at aU af;replace a1:=K8.at a1 af;replace a2:=K8.at a2 af;rw[fK VM]at hr;rw[dx];refine⟨⟨a2,a1⟩,?_⟩;refine Xw.i _ (λw' _=>by simp[go_sem]<;>trivial) ?_;refine⟨_,λw' _=>Nc.p _ w',?_⟩;refine Xw.i _ (λw' _=>by simp[go_sem]<;>trivial) ?_;refine U1.store (aH rfl rfl) aU ak λw9 U9=>?_;have A5:=U9.size;replace kk:=kk.trans' U9.aA af;replace a1:=U9.aA.at a1 af;replace a2:=U9.aA.at a2 af;replace p:=p.aA U9.aA af af af;replace aU:=U9.at_;simp only[set_cons_zero,set_cons_succ]at aU;refine⟨⟨a2,a1⟩,?_⟩
  refine⟨_,λw' _=>Nc.p _ w',?_⟩;refine Xw.i _ (λw' _=>by simp[go_sem]<;>trivial) ?_;refine U1.store (aH rfl rfl) aU ak λei gH=>?_;have yN:=gH.size;replace kk:=kk.trans' gH.aA af;replace a1:=gH.aA.at a1 af;replace a2:=gH.aA.at a2 af;replace p:=p.aA gH.aA af af af;replace aU:=gH.at_;simp only[set_cons_zero,set_cons_succ]at aU;have VJ:=kk.size;refine V1.load (aC rfl) (a1) rfl ?_;refine gD (d106 [61] p) ?_ ?_;rotate_left
  .intro c fp h;exact(Er.all h hr).pre kk ak
  rintro _ fp ⟨VN,rfl,p,cR⟩;have mJ:=cR.size;replace kk:=kk.trans' cR af;replace aU:=cR.at aU af;replace a1:=cR.at a1 af;replace a2:=cR.at a2 af;rw[cW VN]at hr;have dB:aD [] fp fp.drew:=(aD.refl _ _).drew;generalize fp.drew=fT at dB⊢;have qv:=dB.size;replace kk:=kk.trans' dB af;replace aU:=dB.at aU af;replace a1:=dB.at a1 af;replace a2:=dB.at a2 af;replace p:=p.aA dB af af af;refine⟨λw'=>At w' b2 [.pointer (some ⟨bs,0,none⟩)]/\At w' b1 [.pointer (some ⟨x.p,0,none⟩)],⟨a2,a1⟩,?_⟩;refine Xw.i _ (λw' hw=>(aC rfl) _ _ _ (by rw[hw.1.cell];rfl)) ?_
  refine Xw.i _ (λw' hw=>(aC rfl) _ _ _ (by rw[hw.2.cell];rfl)) ?_;refine gP ((ih n aj).expr 0 _ _ _ _ _ _ p dW aj rfl (aM hr aI)) ?_ ?_;rotate_left
  .intro c mK h;exact h.up hr kk ak
  intro v1 mK h;obtain⟨t1,cB,o,fc,r1,S1,⟨o',-,p⟩,ja⟩:=h.out;rw[fc,aL]at hr;have GC:=ja.size;replace kk:=kk.trans' ja af;replace aU:=ja.at aU af;replace a1:=ja.at a1 af;replace a2:=ja.at a2 af;obtain⟨br1,rfl,-,-⟩:=r1.kind S1;unfold ptr at*;refine⟨⟨a2,a1⟩,?_⟩;refine⟨_,λw' _=>Nc.p _ w',?_⟩;refine Xw.i _ (λw' _=>by simp[go_sem]<;>trivial) ?_;refine U1.store (aH rfl rfl) aU ak λlu ky=>?_;have Np:=ky.size;replace kk:=kk.trans' ky.aA af;replace a1:=ky.aA.at a1 af;replace a2:=ky.aA.at a2 af;replace p:=p.aA ky.aA af af af;replace r1:=r1.fr ky.aA af;replace aU:=ky.at_
  simp only[set_cons_zero,set_cons_succ]at aU;have z'14:=kk.size;refine V1.load (aC rfl) (a1) rfl ?_;refine gD (d106 [44] p) ?_ ?_;rotate_left
  .intro c sx h;exact(Er.all h hr).pre kk ak
  rintro _ sx ⟨VO,rfl,p,jD⟩;have Nq:=jD.size;replace kk:=kk.trans' jD af;replace aU:=jD.at aU af;replace a1:=jD.at a1 af;replace a2:=jD.at a2 af;replace r1:=r1.fr jD af;rw[cW VO]at hr;have jk:aD [] sx sx.drew:=(aD.refl _ _).drew;generalize sx.drew=xp at jk⊢;have Nr:=jk.size;replace kk:=kk.trans' jk af;replace aU:=jk.at aU af;replace a1:=jk.at a1 af;replace a2:=jk.at a2 af;replace p:=p.aA jk af af af;replace r1:=r1.fr jk af;refine⟨λw'=>At w' b2 [.pointer (some ⟨bs,0,none⟩)]/\At w' b1 [.pointer (some ⟨x.p,0,none⟩)],⟨a2,a1⟩,?_⟩
  refine Xw.i _ (λw' hw=>(aC rfl) _ _ _ (by rw[hw.1.cell];rfl)) ?_;refine Xw.i _ (λw' hw=>(aC rfl) _ _ _ (by rw[hw.2.cell];rfl)) ?_;refine gP ((ih n aj).expr 0 _ _ _ _ _ _ p dW aj rfl (aM hr aI)) ?_ ?_;rotate_left
  .intro c Ef h;exact h.up hr kk ak
  intro v2 Ef h;obtain⟨t2,dI,o,gO,r2,S2,⟨o',-,p⟩,pq⟩:=h.out;rw[gO,aL]at hr;have VG:=pq.size;replace kk:=kk.trans' pq af;replace aU:=pq.at aU af;replace a1:=pq.at a1 af;replace a2:=pq.at a2 af;replace r1:=r1.fr pq af;obtain⟨br2,rfl,-,-⟩:=r2.kind S2;unfold ptr at*;refine⟨⟨a2,a1⟩,?_⟩;refine⟨_,λw' _=>Nc.p _ w',?_⟩;refine Xw.i _ (λw' _=>by simp[go_sem]<;>trivial) ?_;refine U1.store (aH rfl rfl) aU ak λGF Em=>?_;have zU18:=Em.size;replace kk:=kk.trans' Em.aA af;replace a1:=Em.aA.at a1 af;replace a2:=Em.aA.at a2 af;replace p:=p.aA Em.aA af af af
  replace r1:=r1.fr Em.aA af;replace r2:=r2.fr Em.aA af;replace aU:=Em.at_;simp only[set_cons_zero,set_cons_succ]at aU;have z'18:=kk.size;have yQ:aD [] GF GF.drew:=(aD.refl _ _).drew;generalize GF.drew=w19 at yQ⊢;have zK19:=yQ.size;replace kk:=kk.trans' yQ af;replace aU:=yQ.at aU af;replace a1:=yQ.at a1 af;replace a2:=yQ.at a2 af;replace p:=p.aA yQ af af af;replace r1:=r1.fr yQ af;replace r2:=r2.fr yQ af;refine⟨λw'=>At w' b2 [.pointer (some ⟨bs,0,none⟩)]/\At w' b1 [.pointer (some ⟨x.p,0,none⟩)],⟨a2,a1⟩,?_⟩;refine Xw.i _ (λw' hw=>(aC rfl) _ _ _ (by rw[hw.1.cell];rfl)) ?_
  refine Xw.i _ (λw' hw=>(aC rfl) _ _ _ (by rw[hw.2.cell];rfl)) ?_;refine pd ((ih n aj).inner qd _ _ _ _ _ _ p dW aj rfl (aM hr aI)) ?_ ?_;rotate_left
  .intro c tI h;exact h.up hr kk ak
  intro v3 tI h;obtain⟨t3,xr,o,Cg,r3,S3,⟨o',-,p⟩,GI⟩:=h.out;rw[Cg,aL]at hr;have zK20:=GI.size;replace kk:=kk.trans' GI af;replace aU:=GI.at aU af;replace a1:=GI.at a1 af;replace a2:=GI.at a2 af;replace r1:=r1.fr GI af;replace r2:=r2.fr GI af;have VP:=r3.qo S3;refine⟨⟨a2,a1⟩,?_⟩;refine⟨_,λw' _=>Nc.p _ w',?_⟩;refine Xw.i _ (λw' _=>by simp[go_sem]<;>trivial) ?_;refine U1.store (aH rfl VP) aU ak λw21 Ck=>?_;have zU21:=Ck.size;replace kk:=kk.trans' Ck.aA af;replace a1:=Ck.aA.at a1 af;replace a2:=Ck.aA.at a2 af;replace p:=p.aA Ck.aA af af af
  replace r1:=r1.fr Ck.aA af;replace r2:=r2.fr Ck.aA af;replace r3:=r3.fr Ck.aA af;replace aU:=Ck.at_;simp only[set_cons_zero,set_cons_succ]at aU;have z'21:=kk.size;refine V1.load (aC rfl) (a1) rfl ?_;refine gD (d106 cT p) ?_ ?_;rotate_left
  .intro c w22 h;exact(Er.all h hr).pre kk ak
  rintro _ w22 ⟨VQ,rfl,p,Ir⟩;have zK22:=Ir.size;replace kk:=kk.trans' Ir af;replace aU:=Ir.at aU af;replace r1:=r1.fr Ir af;replace r2:=r2.fr Ir af;replace r3:=r3.fr Ir af;rw[cW VQ]at hr;subst hr;exact⟨⟨bs,_,_,_,_,_,_,rfl,.inl rfl,aU,rfl,r1.st aj,r2.st aj,r3.st aj,.inl rfl⟩,rfl,⟨_,p⟩,kk⟩
 have GJ:¬(hd ts).text=ye:=ne_of_beq_false hb;rw[if_neg GJ]at hr;refine V1.i ah ?_;refine V1.load (aC rfl) (a4) rfl ?_;refine V1.i ah ?_;refine If.b (λhb=>?_) (λhb=>?_)
 .have eF:(hd ts).text=DG:=eq_of_beq hb;rw[if_pos eF]at hr;refine V1.load (aC rfl) (a1) rfl ?_;refine eh (d107 p) ?_ (NP.no (e:=_));rintro _ w6 ⟨rfl,p,K6⟩;have mr:=K6.size;replace kk:=kk.trans' K6 af;replace aU:=K6.at aU af;replace a1:=K6.at a1 af;replace a2:=K6.at a2 af;refine V1.load (aC rfl) (a1) rfl ?_;refine V1.load (aC rfl) (a2) rfl ?_;refine DK ((ih n aj).branch _ _ _ _ _ _ _ _ p dW aj rfl (aM hr aI) aU aj aj aj) ?_ ?_;rotate_left
  .intro c w7 h;exact h.up hr kk ak
  rintro _ w7 h;obtain⟨t1,cB,o,fc,r1,S1,⟨o',p⟩,K7⟩:=h.out;rw[fc,aL]at hr;have jj:=K7.size;replace kk:=kk.trans' K7 af;replace a1:=K7.at a1 af;replace a2:=K7.at a2 af;refine V1.load (aC rfl) (a1) rfl ?_;refine gD (d106 cT p) ?_ ?_;rotate_left
  .intro c w8 h;exact(Er.all h hr).pre kk ak
  rintro _ w8 ⟨VM,rfl,p,K8⟩;have yC:=K8.size;replace kk:=kk.trans' K8 af;rw[cW VM]at hr;subst hr;exact⟨aP.imp (λq hq _=>hq.elim .inl λh=>.inr aj) _ _ (aP.aA (G:=λq=>q=bs\/w6.heap.size<=q) K8 (λq hq _=>⟨by simp;rcases hq with h|h<;>omega,hq⟩) _ _ r1),S1,⟨_,p⟩,kk⟩
 have Ny:¬(hd ts).text=DG:=ne_of_beq_false hb;rw[if_neg Ny]at hr;refine V1.i ah ?_;refine V1.load (aC rfl) (a4) rfl ?_;refine V1.i ah ?_;refine If.b (λhb=>?_) (λhb=>?_)
 .have eF:(hd ts).text=gM:=eq_of_beq hb;rw[if_pos eF]at hr;refine V1.load (aC rfl) (a1) rfl ?_;refine eh (d107 p) ?_ (NP.no (e:=_));rintro _ w6 ⟨rfl,p,K6⟩;have mr:=K6.size;replace kk:=kk.trans' K6 af;replace aU:=K6.at aU af;replace a1:=K6.at a1 af;replace a2:=K6.at a2 af;refine V1.load (aC rfl) (a2) rfl ?_;refine Up.i (Nc.p _ _) ?_;refine V1.i ah ?_;refine U1.store (aH rfl rfl) aU ak λw7 U7=>?_;have Io:=U7.size;replace kk:=kk.trans' U7.aA af;replace a1:=U7.aA.at a1 af;replace a2:=U7.aA.at a2 af;replace p:=p.aA U7.aA af af af;replace aU:=U7.at_
  simp only[set_cons_zero,set_cons_succ]at aU;have z7:=kk.size;refine J0.cut (λw'=>∃t rv cB o1,PS w' x cB deep o1/\aD [x.p,bs] w w'/\At w' b1 [.pointer (some ⟨x.p,0,none⟩)]/\At w' bs [.int .i64 8,.int .i64 line,str [],.pointer none,rv,.pointer none,.slice none 0 0,.slice none 0 0]/\aP (Fr w.heap.size []) w' t (.P rv)/\
   (match dQ (hd cB)with|true=>bN.ok (.st 8 [] .nil t .nil .nil .nil) cB false|false=>.fail 4)=r) ?_ ?_
  .refine V1.load (aC rfl) (a1) rfl ?_;refine F4 (d57 p) ?_ (NP.no (e:=_));rintro _ w8 ⟨rfl,K8⟩;have yC:=K8.size;replace kk:=kk.trans' K8 af;replace a1:=K8.at a1 af;replace a2:=K8.at a2 af;replace p:=p.aA K8 af af af;replace aU:=K8.at aU af;refine V1.i ah ?_;refine If.b (λhb=>?_) (λhb=>?_)
   .have eF:dQ (hd (bG ts))=false:=by simpa using hb
    rw[eF]at hr;have K9:aD [] w8 w8.drew:=(aD.refl _ _).drew;generalize w8.drew=w9 at K9⊢;have Ec:=K9.size;replace kk:=kk.trans' K9 af;replace aU:=K9.at aU af;replace a1:=K9.at a1 af;replace a2:=K9.at a2 af;replace p:=p.aA K9 af af af;refine⟨λw'=>At w' b2 [.pointer (some ⟨bs,0,none⟩)]/\At w' b1 [.pointer (some ⟨x.p,0,none⟩)],⟨a2,a1⟩,?_⟩;refine Xw.i _ (λw' hw=>(aC rfl) _ _ _ (by rw[hw.1.cell];rfl)) ?_;refine Xw.i _ (λw' hw=>(aC rfl) _ _ _ (by rw[hw.2.cell];rfl)) ?_;refine gP ((ih n aj).expr 0 _ _ _ _ _ _ p dW aj rfl (aM hr aI)) ?_ ?_;rotate_left
    .intro c ei h;exact h.up hr kk ak
    intro v1 ei h;obtain⟨t1,cB,o,fc,r1,S1,⟨o',-,p⟩,dA⟩:=h.out;rw[fc,aL]at hr;have sr:=dA.size;replace kk:=kk.trans' dA af;replace aU:=dA.at aU af;replace a1:=dA.at a1 af;replace a2:=dA.at a2 af;obtain⟨br1,rfl,-,-⟩:=r1.kind S1;unfold ptr at*;refine⟨⟨a2,a1⟩,?_⟩;refine⟨_,λw' _=>Nc.p _ w',?_⟩;refine Xw.i _ (λw' _=>by simp[go_sem]<;>trivial) ?_;refine U1.store (aH rfl rfl) aU ak λfp wM=>?_;have VR:=wM.size;replace kk:=kk.trans' wM.aA af;replace a1:=wM.aA.at a1 af;replace a2:=wM.aA.at a2 af;replace p:=p.aA wM.aA af af af;replace r1:=r1.fr wM.aA af
    replace aU:=wM.at_;simp only[set_cons_zero,set_cons_succ]at aU;have z'11:=kk.size;exact⟨_,_,_,_,p,kk,a1,aU,r1.fit aj ak,hr⟩
   .have eF:dQ (hd (bG ts))=true:=by simpa using hb
    rw[eF]at hr;exact⟨.nil,_,_,_,p,kk,a1,aU,rfl,by rw[eF];exact hr⟩
  rintro w8 ⟨t,rv,cB,o1,p,kk,a1,aU,rr,hr⟩;have z8:=kk.size;refine V1.load (aC rfl) (a1) rfl ?_;refine F4 (d57 p) ?_ (NP.no (e:=_));rintro _ w9 ⟨rfl,K9⟩;have Ec:=K9.size;replace kk:=kk.trans' K9 af;replace p:=p.aA K9 af af af;replace aU:=K9.at aU af;replace a1:=K9.at a1 af;replace rr:=rr.fr K9 af;refine V1.i ah ?_;refine If.b (λhb=>?_) (λhb=>?_)
  .have eF:dQ (hd cB)=false:=by simpa using hb
   rw[eF]at hr;subst hr;refine V1.load (aC rfl) (a1) rfl ?_;refine lQ (d32 4 p) ?_ ?_
   .rintro _ _ h;exact h.elim
   .intro c w3 hF;exact hF.pre kk ak
  .have eF:dQ (hd cB)=true:=by simpa using hb
   rw[eF]at hr;subst hr;exact⟨⟨bs,_,_,_,_,_,_,rfl,.inl rfl,aU,rfl,rr.st aj,rfl,.inl rfl,.inl rfl⟩,rfl,⟨_,p⟩,kk⟩
 have wN:¬(hd ts).text=gM:=ne_of_beq_false hb;rw[if_neg wN]at hr;refine V1.i ah ?_;refine V1.load (aC rfl) (a4) rfl ?_;refine V1.i ah ?_;refine If.b (λhb=>?_) (λhb=>?_)
 .have eF:(hd ts).text=ke:=eq_of_beq hb;rw[if_pos eF]at hr;refine V1.load (aC rfl) (a1) rfl ?_;refine eh (d107 p) ?_ (NP.no (e:=_));rintro _ w6 ⟨rfl,p,K6⟩;have mr:=K6.size;replace kk:=kk.trans' K6 af;replace aU:=K6.at aU af;replace a1:=K6.at a1 af;replace a2:=K6.at a2 af;refine V1.load (aC rfl) (a2) rfl ?_;refine Up.i (Nc.p _ _) ?_;refine V1.i ah ?_;refine U1.store (aH rfl rfl) aU ak λw7 U7=>?_;have Io:=U7.size;replace kk:=kk.trans' U7.aA af;replace a1:=U7.aA.at a1 af;replace a2:=U7.aA.at a2 af;replace p:=p.aA U7.aA af af af;replace aU:=U7.at_
  simp only[set_cons_zero,set_cons_succ]at aU;subst hr;exact⟨⟨bs,_,_,_,_,_,_,rfl,.inl rfl,aU,rfl,rfl,rfl,.inl rfl,.inl rfl⟩,rfl,⟨_,p⟩,kk⟩
 have yR:¬(hd ts).text=ke:=ne_of_beq_false hb;rw[if_neg yR]at hr;refine V1.i ah ?_;refine V1.load (aC rfl) (a4) rfl ?_;refine V1.i ah ?_;refine If.b (λhb=>?_) (λhb=>?_)
 .have eF:(hd ts).text=nv:=eq_of_beq hb;rw[if_pos eF]at hr;have K6:aD [] w5 w5.drew:=(aD.refl _ _).drew;generalize w5.drew=w6 at K6⊢;have mr:=K6.size;replace kk:=kk.trans' K6 af;replace aU:=K6.at aU af;replace a1:=K6.at a1 af;replace a2:=K6.at a2 af;replace p:=p.aA K6 af af af;refine⟨λw'=>At w' b2 [.pointer (some ⟨bs,0,none⟩)]/\At w' b1 [.pointer (some ⟨x.p,0,none⟩)],⟨a2,a1⟩,?_⟩;refine Xw.i _ (λw' hw=>(aC rfl) _ _ _ (by rw[hw.1.cell];rfl)) ?_;refine Xw.i _ (λw' hw=>(aC rfl) _ _ _ (by rw[hw.1.cell];rfl)) ?_;refine Xw.i _ (λw' hw=>(aC rfl) _ _ _ (by rw[hw.2.cell];rfl)) ?_;refine pd ((ih n aj).inner nv _ _ _ _ _ _ p dW aj rfl (aM hr aI)) ?_ ?_
  rotate_left
  .intro c w7 h;exact h.up hr kk ak
  intro v1 w7 h;obtain⟨t1,cB,o,fc,r1,S1,⟨o',-,p⟩,K7⟩:=h.out;rw[fc,aL]at hr;have jj:=K7.size;replace kk:=kk.trans' K7 af;replace aU:=K7.at aU af;replace a1:=K7.at a1 af;replace a2:=K7.at a2 af;have GG:=r1.qo S1;refine⟨⟨a2,a1⟩,?_⟩;refine⟨_,λw' _=>Nc.p _ w',?_⟩;refine Xw.i _ (λw' _=>by simp[go_sem]<;>trivial) ?_;refine U1.store (aH rfl rfl) aU ak λw8 U8=>?_;have yD:=U8.size;replace kk:=kk.trans' U8.aA af;replace a1:=U8.aA.at a1 af;replace a2:=U8.aA.at a2 af;replace p:=p.aA U8.aA af af af;replace r1:=r1.fr U8.aA af;replace aU:=U8.at_
  simp only[set_cons_zero,set_cons_succ]at aU;have z'8:=kk.size;refine⟨⟨a2,a1⟩,?_⟩;refine⟨_,λw' _=>Nc.p _ w',?_⟩;refine Xw.i _ (λw' _=>by simp[go_sem]<;>trivial) ?_;refine U1.store (aH rfl GG) aU ak λw9 U9=>?_;have A5:=U9.size;replace kk:=kk.trans' U9.aA af;replace a1:=U9.aA.at a1 af;replace a2:=U9.aA.at a2 af;replace p:=p.aA U9.aA af af af;replace r1:=r1.fr U9.aA af;replace aU:=U9.at_;simp only[set_cons_zero,set_cons_succ]at aU;have z'9:=kk.size;refine V1.load (aC rfl) (a1) rfl ?_;refine V1.load (aC rfl) (a2) rfl ?_
  refine Ls (g110 (n:=n) (r:=r) (line:=line) (av:=v1) (Fc:=λnm b ts=>aR cT ts λts=>.ok (.st 10 nm .nil .nil .nil t1 b) ts false) (ih n aj) hnf p dW aI aU aj aj aj hr) ?_ ?_;rotate_left
  .intro c fp h;exact h.pre kk ak
  rintro _ fp ⟨nm,tb,bv,bX,o',hr,aU,r2,S2,p,cR⟩;unfold Cj at aU;have Nx:=r2.qo S2;have mJ:=cR.size;replace kk:=kk.trans' cR af;replace a1:=cR.at a1 af;replace r1:=r1.fr cR af;refine V1.load (aC rfl) (a1) rfl ?_;refine gD (d106 cT p) ?_ ?_;rotate_left
  .intro c fT h;exact(Er.all h hr).pre kk ak
  rintro _ fT ⟨VS,rfl,p,dB⟩;have qv:=dB.size;replace kk:=kk.trans' dB af;replace aU:=dB.at aU af;replace r1:=r1.fr dB af;replace r2:=r2.fr dB af;rw[cW VS]at hr;subst hr;exact⟨⟨bs,_,_,_,_,_,_,rfl,.inl rfl,aU,rfl,rfl,rfl,r1.st aj,r2.st aj⟩,rfl,⟨_,p⟩,kk⟩
 have GK:¬(hd ts).text=nv:=ne_of_beq_false hb;rw[if_neg GK]at hr;refine V1.load (aC rfl) (a1) rfl ?_;refine V1.load (aC rfl) (a2) rfl ?_;exact vE _ kk p aU hr
end Go.Proofs.YtoddjlclpnoomaaGreatDoor

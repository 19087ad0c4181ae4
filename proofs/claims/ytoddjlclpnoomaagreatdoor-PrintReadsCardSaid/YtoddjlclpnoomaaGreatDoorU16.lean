import Derived.Test.YtoddjlclpnoomaaGreatDoorU15
set_option linter.unusedVariables false
set_option linter.unusedSimpArgs false
set_option maxRecDepth 100000
open Go.Proofs.Tryz
open List (toList_toArray set_cons_zero set_cons_succ)
open Go.Value (cells)
open Bool (or_eq_false_iff)
namespace Go.Proofs.YtoddjlclpnoomaaGreatDoor
open Go.Sh
theorem B7.pre{bs:Nat}{x:eO}{w0 w:Wd}{deep:Int}{r:bL}{w':Wd}(h:B7 bs x w deep r w')(hk:aD [x.p,bs] w0 w):B7 bs x w0 deep r w':=by
 cases r with
 |ok t ts o=>
  have z:=hk.size;exact⟨aU.imp (λq hq _=>hq.elim .inl λh=>.inr aj) _ _ h.1,h.2.1,h.2.2.1,hk.trans' h.2.2.2 (λi hi _=>hi)⟩
 |fail c=>exact h.elim
 |bH=>exact h.elim
theorem Er.Kp{bs:Nat}{x:eO}{w0 w:Wd}{r:bL}{c:List PanicEntry}{w':Wd}(h:Er [x.p,bs] x w r c w')(hk:aD [x.p,bs] w0 w):Er [x.p,bs] x w0 r c w':=h.pre hk (λi hi _=>hi)
def xa(line:Int)(lv:Va):LV:=[.int .i64 2,.int .i64 line,str [],lv,.pointer none,.pointer none,.slice none 0 0,.slice none 0 0]
def xb(line:Int)(nm:By):LV:=[.int .i64 6,.int .i64 line,.int .i64 0,str nm,.pointer none,.pointer none,.slice none 0 0,.slice none 0 0,.slice none 0 0,.slice none 0 0]
theorem g103{w:Wd}{x:eO}{ts:LT}{deep:Int}{own:Bool}{b1 b2 bs:Nat}{line:Int}(p:PS w x ts deep own)(a1:At w b1 [ptr x.p])(a2:At w b2 [ptr bs])(aR:At w bs (xa line (.pointer none)))
  (h1:bs≠x.p) (h2:bs≠x.bt) (h3:bs≠x.bm) (h4:b1≠x.p) (h5:b2≠x.p):
  Calls prog 103 #[ptr b1,ptr b2] w (aZ (λ_ w'=>((hd ts).kind==1)=true/\PS w' x (bF ts) deep own/\(∃bn l,At w' bs (xa line (ptr bn))/\At w' bn (xb l (hd ts).text)/\w.heap.size<=bn/\bn<w'.heap.size)/\aD [x.p,bs] w w') (λc w'=>∀f,Er [x.p,bs] x w (cP ts f) c w')):=by
 refine Qm ?_;unfold Il;have kk:=aD.refl [x.p,bs] w;unfold xa at aR;have Ko:=aR.lt;have lp:=p.lW;have lt:=p.kf;have lm:=p.pI;have l1:=a1.lt;have l2:=a2.lt;refine V1.load (aC rfl) (a1) rfl ?_;refine mE (d104 p) ?_ ?_;rotate_left
 .intro c w7 hF f;exact(hF f).pre kk ak
 rintro _ w7 ⟨hi,rfl,p,K7⟩;have kg:=K7.size;replace kk:=kk.trans' K7 af;replace a1:=K7.at a1 af;replace a2:=K7.at a2 af;replace aR:=K7.at aR af;refine V1.new (eW _) λb3 w3 N3=>?_;have FR:=N3.ge;have FU:=N3.lt;have FV:=N3.aA.size;have a3:=N3.at_;try simp only[cells,toList_toArray]at a3
 replace kk:=N3.kp kk;replace a1:=N3.a a1;replace a2:=N3.a a2;replace aR:=N3.a aR;replace p:=p.new N3.aA;refine U1.tok (t:=hd ts) a3 rfl λw4 U4=>?_;have z4:=U4.size;replace kk:=kk.trans' U4.aA af;replace a1:=U4.aA.at a1 af;replace a2:=U4.aA.at a2 af;replace aR:=U4.aA.at aR af;replace p:=p.aA U4.aA af af af;have a3:=U4.at_;refine V1.load (aC rfl) (a2) rfl ?_;refine V1.i ah ?_;refine V1.load (aC rfl) (a3) rfl ?_;refine V1.i ah ?_;refine V1.load (aC rfl) (a3) rfl ?_
 refine V1.i ah ?_;refine V1.new (jJ _ _) λb5 w5 N5=>?_;have B6:=N5.ge;have Af:=N5.lt;have Ei:=N5.aA.size;have a5:=N5.at_;try simp only[cells,toList_toArray]at a5
 replace kk:=N5.kp kk;replace a2:=N5.a a2;replace aR:=N5.a aR;replace p:=p.new N5.aA;unfold ptr at*;refine Up.i (Nc.p _ _) ?_;refine V1.i ah ?_;refine U1.store (aO rfl rfl) aR ak λw6 U6=>?_;have Cd:=U6.size;replace kk:=kk.trans' U6.aA af;replace p:=p.aA U6.aA af af af;replace a5:=U6.aA.at a5 af;replace aR:=U6.at_;simp only[set_cons_zero,set_cons_succ]at aR;exact⟨hi,p,⟨b5,_,aR,a5,by omega,by omega⟩,kk⟩
set_option maxHeartbeats 1000000 in
theorem g100{n:Nat}(ih:mM n):GS (n+1) .simple 100:=by
 intro w x ts deep own r bs line p dN hn hr aI aR h1 h2 h3;refine Qj ?_;unfold Ig;simp only[run]at hr;have lp:=p.lW;have lt:=p.kf;have lm:=p.pI;have Ko:=aR.lt;unfold qG at aR;have kk:=aD.refl [x.p,bs] w;refine BH (ih.post _ _ _ _ _ _ p dN aj rfl (aL hr aI)) ?_ ?_;rotate_left
 .intro c w2 h;exact h.up hr kk ak
 intro ev w2 h;obtain⟨t,bX,o,eI,r1,S1,⟨o',ho,p⟩,K2⟩:=h.out;obtain rfl:=ho rfl;rw[eI,aJ]at hr;have vr:=K2.size;replace kk:=kk.trans' K2 af;replace aR:=K2.at aR af;obtain⟨o1,c1,vz,uM,Si⟩:=p.ex;unfold ptr at*;refine Up.i (Nc.p _ _) ?_;refine V1.i ah ?_;refine V1.load (aC rfl) (vz) rfl ?_;refine V1.aG ah λb3 w3 N3=>?_;have FR:=N3.ge;have FU:=N3.lt;have FV:=N3.aA.size;have a3:=N3.at_;try simp only[cells,toList_toArray]at a3
 replace kk:=N3.kp kk;replace aR:=N3.a aR;replace p:=p.new N3.aA;replace r1:=r1.nw N3;refine fw (gy (s:=[61]) p a3) ?_ (NP.no (e:=_));rintro _ w4 ⟨rfl,K4⟩;have B9:=K4.size;replace kk:=kk.trans' K4 af;replace aR:=K4.at aR af;replace p:=p.aA K4 af af af;replace r1:=r1.fr K4 af;replace a3:=K4.at a3 af;obtain⟨br,rfl,-,hk⟩:=r1.kind S1;unfold ptr at*;generalize kindOf t=k at hk hr;have hc:∀k:Int,(k==6||k==7)=false->¬k=6/\¬k=7:=by
  intro k h;simp only[or_eq_false_iff,beq_eq_false_iff_ne]at h;exact h
 cases hb:bB [61] bX<;>cases o'<;>rw[hb]at hr<;>simp only[Bool.false_and,Bool.not_false,Bool.not_true,Bool.and_false,Bool.true_and]at hr
 .repeat(first|refine J1.go ?_|refine Gd.tt ?_|refine Gd.ff ?_|refine Gd.tf ?_|refine Gd.ft ?_|refine Gd.u ?_|refine If.t ?_|refine If.f ?_|refine Up.i (Nc.p _ _) ?_|refine V1.i ((aC rfl) _ _ _ hk) ?_|refine V1.i (w':=w4) aw ?_|rw[xc]|rw[xd]|rw[vA])
  refine V1.aG ah λb6 w6 N6=>?_;have Ca:=N6.ge;have Cb:=N6.lt;have Cc:=N6.aA.size;have a6:=N6.at_;try simp only[cells,toList_toArray]at a6
  replace kk:=N6.kp kk;replace aR:=N6.a aR;replace p:=p.new N6.aA;replace r1:=r1.nw N6;refine fw (gy (s:=[61]) p a6) ?_ (NP.no (e:=_));rintro _ w7 ⟨rfl,K7⟩;have kg:=K7.size;replace kk:=kk.trans' K7 af;replace aR:=K7.at aR af;replace p:=p.aA K7 af af af;replace r1:=r1.fr K7 af;replace a6:=K7.at a6 af;rw[hb];replace hk:=(N6.aA.trans K7).cell hk ak;by_cases h8:k=8
  .subst h8;repeat(first|refine J1.go ?_|refine Gd.tt ?_|refine Gd.ff ?_|refine Gd.tf ?_|refine Gd.ft ?_|refine Gd.u ?_|refine If.t ?_|refine If.f ?_|refine Up.i (Nc.p _ _) ?_|refine V1.i ((aC rfl) _ _ _ hk) ?_|refine V1.i (w':=w7) aw ?_|rw[xc]|rw[xd]|rw[vA])
   refine U1.store (aO rfl rfl) aR ak λw8 U8=>?_;have wS:=U8.size;replace kk:=kk.trans' U8.aA af;replace r1:=r1.fr U8.aA af;replace p:=p.aA U8.aA af af af;replace aR:=U8.at_;simp only[set_cons_zero,set_cons_succ]at aR;refine Up.i (Nc.p _ _) ?_;refine V1.i ah ?_;refine U1.store (aO rfl rfl) aR ak λw9 U9=>?_;have An:=U9.size;replace kk:=kk.trans' U9.aA af;replace r1:=r1.fr U9.aA af;replace p:=p.aA U9.aA af af af;replace aR:=U9.at_;simp only[set_cons_zero,set_cons_succ]at aR;have z9:=kk.size;subst hr
   exact⟨⟨bs,_,_,_,_,_,_,rfl,.inl rfl,aR,rfl,r1.st aj,rfl,.inl rfl,.inl rfl⟩,rfl,⟨_,p⟩,kk⟩
  .have vA:(k==8)=false:=by simpa using h8
   rw[vA]at hr;repeat(first|refine J1.go ?_|refine Gd.tt ?_|refine Gd.ff ?_|refine Gd.tf ?_|refine Gd.ft ?_|refine Gd.u ?_|refine If.t ?_|refine If.f ?_|refine Up.i (Nc.p _ _) ?_|refine V1.i ((aC rfl) _ _ _ hk) ?_|refine V1.i (w':=w7) (by simp[go_sem,h8];first|done|rfl|exact⟨rfl,rfl⟩) ?_|rw[xc]|rw[xd]|rw[vA])
   subst hr;refine kH (d32 4 p) ?_ ?_
   .rintro _ _ h;exact h.elim
   .intro c w8 hF;exact hF.pre kk ak
 .repeat(first|refine J1.go ?_|refine Gd.tt ?_|refine Gd.ff ?_|refine Gd.tf ?_|refine Gd.ft ?_|refine Gd.u ?_|refine If.t ?_|refine If.f ?_|refine Up.i (Nc.p _ _) ?_|refine V1.i ((aC rfl) _ _ _ hk) ?_|refine V1.i (w':=w4) aw ?_|rw[xc]|rw[xd]|rw[vA])
  refine V1.aG ah λb6 w6 N6=>?_;have Ca:=N6.ge;have Cb:=N6.lt;have Cc:=N6.aA.size;have a6:=N6.at_;try simp only[cells,toList_toArray]at a6
  replace kk:=N6.kp kk;replace aR:=N6.a aR;replace p:=p.new N6.aA;replace r1:=r1.nw N6;refine fw (gy (s:=[61]) p a6) ?_ (NP.no (e:=_));rintro _ w7 ⟨rfl,K7⟩;have kg:=K7.size;replace kk:=kk.trans' K7 af;replace aR:=K7.at aR af;replace p:=p.aA K7 af af af;replace r1:=r1.fr K7 af;replace a6:=K7.at a6 af;rw[hb];replace hk:=(N6.aA.trans K7).cell hk ak
  repeat(first|refine J1.go ?_|refine Gd.tt ?_|refine Gd.ff ?_|refine Gd.tf ?_|refine Gd.ft ?_|refine Gd.u ?_|refine If.t ?_|refine If.f ?_|refine Up.i (Nc.p _ _) ?_|refine V1.i ((aC rfl) _ _ _ hk) ?_|refine V1.i (w':=w7) aw ?_|rw[xc]|rw[xd]|rw[vA])
  subst hr;refine kH (d32 4 p) ?_ ?_
  .rintro _ _ h;exact h.elim
  .intro c w8 hF;exact hF.pre kk ak
 .by_cases h6:k=6
  .subst h6;repeat(first|refine J1.go ?_|refine Gd.tt ?_|refine Gd.ff ?_|refine Gd.tf ?_|refine Gd.ft ?_|refine Gd.u ?_|refine If.t ?_|refine If.f ?_|refine Up.i (Nc.p _ _) ?_|refine V1.i ((aC rfl) _ _ _ hk) ?_|refine V1.i (w':=w4) aw ?_|rw[xc]|rw[xd]|rw[vA])
   refine dR (d107 p) ?_ (NP.no (e:=_));rintro _ w6 ⟨rfl,p,K6⟩;have lP:=K6.size;replace kk:=kk.trans' K6 af;replace aR:=K6.at aR af;replace r1:=r1.fr K6 af;refine gi (ih.expr 0 _ _ _ _ _ _ p dN aj rfl (aL hr aI)) ?_ ?_;rotate_left
   .intro c w7 h;exact h.up hr kk ak
   intro rv w7 h;obtain⟨t2,dA,o2,gh,r2,S2,⟨ZR,-,p⟩,K7⟩:=h.out;rw[gh,aJ]at hr;have kg:=K7.size;replace kk:=kk.trans' K7 af;replace aR:=K7.at aR af;replace r1:=r1.fr K7 af;obtain⟨WY,rfl,-,-⟩:=r2.kind S2;unfold ptr at*;refine Up.i (Nc.p _ _) ?_;refine V1.i ah ?_;refine U1.store (aO rfl rfl) aR ak λw8 U8=>?_;have wS:=U8.size;replace kk:=kk.trans' U8.aA af;replace r1:=r1.fr U8.aA af;replace r2:=r2.fr U8.aA af;replace p:=p.aA U8.aA af af af;replace aR:=U8.at_;simp only[set_cons_zero,set_cons_succ]at aR;refine Up.i (Nc.p _ _) ?_;refine V1.i ah ?_
   refine U1.store (aO rfl rfl) aR ak λw9 U9=>?_;have An:=U9.size;replace kk:=kk.trans' U9.aA af;replace r1:=r1.fr U9.aA af;replace r2:=r2.fr U9.aA af;replace p:=p.aA U9.aA af af af;replace aR:=U9.at_;simp only[set_cons_zero,set_cons_succ]at aR;refine Up.i (Nc.p _ _) ?_;refine V1.i ah ?_;refine U1.store (aO rfl rfl) aR ak λeo ic=>?_;have Ar:=ic.size;replace kk:=kk.trans' ic.aA af;replace r1:=r1.fr ic.aA af;replace r2:=r2.fr ic.aA af;replace p:=p.aA ic.aA af af af;replace aR:=ic.at_
   simp only[set_cons_zero,set_cons_succ]at aR;have Sf:=kk.size;subst hr;exact⟨⟨bs,_,_,_,_,_,_,rfl,.inl rfl,aR,r1.st aj,r2.st aj,rfl,.inl rfl,.inl rfl⟩,rfl,⟨_,p⟩,kk⟩
  .by_cases h7:k=7
   .subst h7;repeat(first|refine J1.go ?_|refine Gd.tt ?_|refine Gd.ff ?_|refine Gd.tf ?_|refine Gd.ft ?_|refine Gd.u ?_|refine If.t ?_|refine If.f ?_|refine Up.i (Nc.p _ _) ?_|refine V1.i ((aC rfl) _ _ _ hk) ?_|refine V1.i (w':=w4) aw ?_|rw[xc]|rw[xd]|rw[vA])
    refine dR (d107 p) ?_ (NP.no (e:=_));rintro _ w6 ⟨rfl,p,K6⟩;have lP:=K6.size;replace kk:=kk.trans' K6 af;replace aR:=K6.at aR af;replace r1:=r1.fr K6 af;refine gi (ih.expr 0 _ _ _ _ _ _ p dN aj rfl (aL hr aI)) ?_ ?_;rotate_left
    .intro c w7 h;exact h.up hr kk ak
    intro rv w7 h;obtain⟨t2,dA,o2,gh,r2,S2,⟨ZR,-,p⟩,K7⟩:=h.out;rw[gh,aJ]at hr;have kg:=K7.size;replace kk:=kk.trans' K7 af;replace aR:=K7.at aR af;replace r1:=r1.fr K7 af;obtain⟨WY,rfl,-,-⟩:=r2.kind S2;unfold ptr at*;refine Up.i (Nc.p _ _) ?_;refine V1.i ah ?_;refine U1.store (aO rfl rfl) aR ak λw8 U8=>?_;have wS:=U8.size;replace kk:=kk.trans' U8.aA af;replace r1:=r1.fr U8.aA af;replace r2:=r2.fr U8.aA af;replace p:=p.aA U8.aA af af af;replace aR:=U8.at_;simp only[set_cons_zero,set_cons_succ]at aR;refine Up.i (Nc.p _ _) ?_;refine V1.i ah ?_
    refine U1.store (aO rfl rfl) aR ak λw9 U9=>?_;have An:=U9.size;replace kk:=kk.trans' U9.aA af;replace r1:=r1.fr U9.aA af;replace r2:=r2.fr U9.aA af;replace p:=p.aA U9.aA af af af;replace aR:=U9.at_;simp only[set_cons_zero,set_cons_succ]at aR;refine Up.i (Nc.p _ _) ?_;refine V1.i ah ?_;refine U1.store (aO rfl rfl) aR ak λeo ic=>?_;have Ar:=ic.size;replace kk:=kk.trans' ic.aA af;replace r1:=r1.fr ic.aA af;replace r2:=r2.fr ic.aA af;replace p:=p.aA ic.aA af af af;replace aR:=ic.at_
    simp only[set_cons_zero,set_cons_succ]at aR;have Sf:=kk.size;subst hr;exact⟨⟨bs,_,_,_,_,_,_,rfl,.inl rfl,aR,r1.st aj,r2.st aj,rfl,.inl rfl,.inl rfl⟩,rfl,⟨_,p⟩,kk⟩
   .have ZS:(k==6||k==7)=false:=by simp[h6,h7]
    have xc:(k==6)=false:=by simpa using h6
    have xd:(k==7)=false:=by simpa using h7
    rw[ZS]at hr;repeat(first|refine J1.go ?_|refine Gd.tt ?_|refine Gd.ff ?_|refine Gd.tf ?_|refine Gd.ft ?_|refine Gd.u ?_|refine If.t ?_|refine If.f ?_|refine Up.i (Nc.p _ _) ?_|refine V1.i ((aC rfl) _ _ _ hk) ?_|refine V1.i (w':=w4) (by simp[go_sem,h6,h7];first|done|rfl|exact⟨rfl,rfl⟩) ?_|rw[xc]|rw[xd]|rw[vA])
    refine V1.aG ah λb6 w6 N6=>?_;have Ca:=N6.ge;have Cb:=N6.lt;have Cc:=N6.aA.size;have a6:=N6.at_;try simp only[cells,toList_toArray]at a6
    replace kk:=N6.kp kk;replace aR:=N6.a aR;replace p:=p.new N6.aA;replace r1:=r1.nw N6;refine fw (gy (s:=[61]) p a6) ?_ (NP.no (e:=_));rintro _ w7 ⟨rfl,K7⟩;have kg:=K7.size;replace kk:=kk.trans' K7 af;replace aR:=K7.at aR af;replace p:=p.aA K7 af af af;replace r1:=r1.fr K7 af;replace a6:=K7.at a6 af;rw[hb];replace hk:=(N6.aA.trans K7).cell hk ak
    repeat(first|refine J1.go ?_|refine Gd.tt ?_|refine Gd.ff ?_|refine Gd.tf ?_|refine Gd.ft ?_|refine Gd.u ?_|refine If.t ?_|refine If.f ?_|refine Up.i (Nc.p _ _) ?_|refine V1.i ((aC rfl) _ _ _ hk) ?_|refine V1.i (w':=w7) (by simp[go_sem,h6,h7];first|done|rfl|exact⟨rfl,rfl⟩) ?_|rw[xc]|rw[xd]|rw[vA])
    subst hr;refine kH (d32 4 p) ?_ ?_
    .rintro _ _ h;exact h.elim
    .intro c w8 hF;exact hF.pre kk ak
 .repeat(first|refine J1.go ?_|refine Gd.tt ?_|refine Gd.ff ?_|refine Gd.tf ?_|refine Gd.ft ?_|refine Gd.u ?_|refine If.t ?_|refine If.f ?_|refine Up.i (Nc.p _ _) ?_|refine V1.i ((aC rfl) _ _ _ hk) ?_|refine V1.i (w':=w4) aw ?_|rw[xc]|rw[xd]|rw[vA])
  refine V1.aG ah λb6 w6 N6=>?_;have Ca:=N6.ge;have Cb:=N6.lt;have Cc:=N6.aA.size;have a6:=N6.at_;try simp only[cells,toList_toArray]at a6
  replace kk:=N6.kp kk;replace aR:=N6.a aR;replace p:=p.new N6.aA;replace r1:=r1.nw N6;refine fw (gy (s:=[61]) p a6) ?_ (NP.no (e:=_));rintro _ w7 ⟨rfl,K7⟩;have kg:=K7.size;replace kk:=kk.trans' K7 af;replace aR:=K7.at aR af;replace p:=p.aA K7 af af af;replace r1:=r1.fr K7 af;replace a6:=K7.at a6 af;rw[hb];replace hk:=(N6.aA.trans K7).cell hk ak
  repeat(first|refine J1.go ?_|refine Gd.tt ?_|refine Gd.ff ?_|refine Gd.tf ?_|refine Gd.ft ?_|refine Gd.u ?_|refine If.t ?_|refine If.f ?_|refine Up.i (Nc.p _ _) ?_|refine V1.i ((aC rfl) _ _ _ hk) ?_|refine V1.i (w':=w7) aw ?_|rw[xc]|rw[xd]|rw[vA])
  subst hr;refine kH (d32 4 p) ?_ ?_
  .rintro _ _ h;exact h.elim
  .intro c w8 hF;exact hF.pre kk ak
set_option maxHeartbeats 2000000 in
theorem g58{n:Nat}(ih:∀m,m<=n->mM m):GS (n+1) .stmt 58:=by
 intro w x ts deep own r bs line p dN hn hr aI aR h1 h2 h3;refine Y2 ?_;unfold Wo;simp only[run]at hr;have lp:=p.lW;have lt:=p.kf;have lm:=p.pI;have Ko:=aR.lt;unfold qG at aR;have kk:=aD.refl [x.p,bs] w;have ZT:n<=aX:=by omega
 refine V1.new (uy _ _) λb1 w1 N1=>?_;have oR:=N1.ge;have pJ:=N1.lt;have pK:=N1.aA.size;have a1:=N1.at_;try simp only[cells,toList_toArray]at a1
 replace p:=p.new N1.aA;replace kk:=N1.kp kk;replace aR:=N1.a aR;refine V1.new (G4 _ _) λb2 w2 N2=>?_;have BZ:=N2.ge;have B1:=N2.lt;have Ac:=N2.aA.size;have a2:=N2.at_;try simp only[cells,toList_toArray]at a2
 replace p:=p.new N2.aA;replace kk:=N2.kp kk;replace aR:=N2.a aR;replace a1:=N2.a a1;unfold ptr at*;refine V1.load (aC rfl) (a1) rfl ?_;refine lL (d31 p) ?_ (NP.no (e:=_));rintro _ w3 ⟨rfl,K3⟩;have sB:=K3.size;replace p:=p.aA K3 af af af;replace kk:=kk.trans' K3 af;replace aR:=K3.at aR af;replace a1:=K3.at a1 af;replace a2:=K3.at a2 af;refine V1.new (eW _) λb4 w4 N4=>?_;have RP:=N4.ge;have WM:=N4.lt;have RQ:=N4.aA.size;have a4:=N4.at_;try simp only[cells,toList_toArray]at a4
 replace p:=p.new N4.aA;replace kk:=N4.kp kk;replace aR:=N4.a aR;replace a1:=N4.a a1;replace a2:=N4.a a2;refine U1.tok (t:=hd ts) a4 rfl λw5 U5=>?_;have z5:=U5.size;replace p:=p.aA U5.aA af af af;replace kk:=kk.trans' U5.aA af;replace aR:=U5.aA.at aR af;replace a1:=U5.aA.at a1 af;replace a2:=U5.aA.at a2 af;have a4:=U5.at_;refine V1.i ah ?_;refine V1.load (aC rfl) (a4) rfl ?_;refine V1.i ah ?_
 have tS:∀w6,aD [x.p,bs] w w6->PS w6 x ts deep own->At w6 bs [.int .i64 0,.int .i64 line,str [],.pointer none,.pointer none,.pointer none,.slice none 0 0,.slice none 0 0]->run n .simple deep ts=r->Cf prog 100 #[.pointer (some ⟨x.p,0,none⟩),.pointer (some ⟨bs,0,none⟩)] w6 (λnz w'=>aZ (λ_=>B7 bs x w deep r) (Er [x.p,bs] x w r) (.returned (.tuple #[])) w') (pn (aZ (λ_=>B7 bs x w deep r) (Er [x.p,bs] x w r))):=by
  intro w6 k6 p6 ZU hr;refine Ih ((ih n aj).simple _ _ _ _ _ _ _ _ p6 dN aj hr aI ZU aj aj aj) ?_ ?_
  .intro v w7 h;exact h.pre k6
  .intro c w7 h;exact h.Kp k6
 refine If.b (λhb=>?_) (λhb=>?_)
 .have dZ:((hd ts).kind==4)=false:=by simpa using hb
  rw[dZ]at hr;refine V1.load (aC rfl) (a1) rfl ?_;refine V1.load (aC rfl) (a2) rfl ?_;exact tS _ kk p aR hr
 have dZ:((hd ts).kind==4)=true:=by simpa using hb
 rw[dZ]at hr;dsimp only at hr;refine V1.i ah ?_;refine V1.load (aC rfl) (a4) rfl ?_;refine V1.i ah ?_;refine If.b (λhb=>?_) (λhb=>?_)
 .have dZ:(hd ts).text=mw:=eq_of_beq hb;rw[if_pos dZ]at hr;refine V1.load (aC rfl) (a1) rfl ?_;refine V1.load (aC rfl) (a2) rfl ?_;refine Ij ((ih n aj).kE _ _ _ _ _ _ _ _ p dN aj hr aI aR aj aj aj) ?_ ?_
  .intro v w7 h;exact h.pre kk
  .intro c w7 h;exact h.Kp kk
 have xe:¬(hd ts).text=mw:=ne_of_beq_false hb;rw[if_neg xe]at hr;refine V1.i ah ?_;refine V1.load (aC rfl) (a4) rfl ?_;refine V1.i ah ?_;refine If.b (λhb=>?_) (λhb=>?_)
 .have dZ:(hd ts).text=bP:=eq_of_beq hb;rw[if_pos dZ]at hr
  cases n with
  |zero=>exact absurd hr.symm aI
  |succ n=>
  refine V1.load (aC rfl) (a2) rfl ?_;refine Up.i (Nc.p _ _) ?_;refine V1.i ah ?_;refine U1.store (aO rfl rfl) aR ak λw6 U6=>?_;have Cd:=U6.size;replace p:=p.aA U6.aA af af af;replace kk:=kk.trans' U6.aA af;replace a1:=U6.aA.at a1 af;replace a2:=U6.aA.at a2 af;replace aR:=U6.at_;simp only[set_cons_zero,set_cons_succ]at aR;have q1:=p.tp;have q2:=p.mp;have K7:aD [] w6 w6.drew:=(aD.refl _ _).drew;generalize w6.drew=w7 at K7⊢;have kg:=K7.size;replace kk:=kk.trans' K7 af;replace aR:=K7.at aR af;replace a1:=K7.at a1 af;replace a2:=K7.at a2 af
  replace p:=p.aA K7 af af af;refine⟨λw'=>At w' b2 [.pointer (some ⟨bs,0,none⟩)]/\At w' b1 [.pointer (some ⟨x.p,0,none⟩)],⟨a2,a1⟩,?_⟩;refine Xw.i _ (λw' hw=>(aC rfl) _ _ _ (by rw[hw.1.cell];rfl)) ?_;refine Xw.i _ (λw' hw=>(aC rfl) _ _ _ (by rw[hw.2.cell];rfl)) ?_;refine Xw.i _ (λw' _=>by simp[go_sem]<;>trivial) ?_;have z7:=kk.size
  refine wq (g102 (n:=n) (r:=run (n+1) (.func true) deep ts) (ih n aj) aj (M:=[x.p,bs]) (kc:=103) (cap:=#[ptr b1,ptr b2]) (Y:=λbe H w'=>∃nm bn l,(H=λpl b=>.cons (.ex 9 0 [] .nil .nil .nil .nil pl b) (.cons (lf 6 0 nm) .nil))/\At w' bs (xa line (ptr bn))/\At w' bn (xb l nm)/\w7.heap.size<=bn/\bn≠be) p dN (aL hr aI) (aH func103 (c:=bC Tryz.f103) ai ai _) ak al al al (λd ts=>cP ts λnm ts=>FT n d (λpl b=>.cons (.ex 9 0 [] .nil .nil .nil .nil pl b) (.cons (lf 6 0 nm) .nil)) ts) (by rw[run];rfl) ?_ ?_) ?_ ?_
  .intro be w' bU eD Sb vq K' p' hG;have zz:=K'.size;refine aZ.imp (g103 p' (K'.at a1 al) (K'.at a2 al) (K'.at aR al) h1 h2 h3 aj aj) ?_ ?_
   .rintro _ w2 ⟨hk,p2,⟨bn,l,Co,Sj,Ow,FN⟩,K2⟩;rw[fc hk]at hG;exact⟨_,_,_,hG,p2,K2,_,bn,l,rfl,Co,Sj,by omega,by omega⟩
   .intro c w2 hF;exact Er.all hF hG
  .rintro be H w1 w2 Sb ⟨nm,bn,l,rfl,Co,Sj,Ow,FN⟩ K';exact⟨nm,bn,l,rfl,K'.at Co al,K'.at Sj al,Ow,FN⟩
  .rintro v gz ⟨be,H,pl,b,bX,eI,R1,⟨o',p⟩,dw,nm,bn,l,rfl,aR,an,Ow,FN⟩;rw[eI,aJ]at hr;dsimp only at hr;have oX:=dw.size;replace kk:=kk.trans' dw af;replace a1:=dw.at a1 af;replace a2:=dw.at a2 af;obtain⟨br,rfl,-,-⟩:=R1.kind rfl;refine⟨⟨a2,a1⟩,?_⟩;unfold xa at aR;unfold xb at an;unfold ptr at*;refine⟨_,λw' _=>Nc.p _ w',?_⟩;refine Xw.i _ (λw' _=>by simp[go_sem]<;>trivial) ?_;replace R1:=R1.fit (lo':=w7.heap.size) (Y:=[]) aj ak;refine U1.store (aO rfl rfl) aR ak λlZ fT=>?_;have Ap:=fT.size;replace kk:=kk.trans' fT.aA af;replace p:=p.aA fT.aA af af af;replace aR:=fT.at_
   simp only[set_cons_zero,set_cons_succ]at aR;replace R1:=R1.fr fT.aA al;replace an:=fT.aA.at an al;subst hr;exact⟨⟨bs,_,_,_,_,_,_,rfl,.inl rfl,aR,⟨bn,_,_,_,_,_,_,_,rfl,.inr aj,an,rfl,rfl,.inl rfl,.inl rfl,.inl ⟨rfl,rfl⟩,.inl rfl⟩,R1.st aj,rfl,.inl rfl,.inl rfl⟩,rfl,⟨_,p⟩,kk⟩
  .intro c gz h;exact h.up hr kk ak
 have qJ:¬(hd ts).text=bP:=ne_of_beq_false hb;rw[if_neg qJ]at hr;refine V1.i ah ?_;refine V1.load (aC rfl) (a4) rfl ?_;refine V1.i ah ?_;refine If.b (λhb=>?_) (λhb=>?_)
 .have dZ:(hd ts).text=oL:=eq_of_beq hb;rw[if_pos dZ]at hr;have K6:aD [] w5 w5.drew:=(aD.refl _ _).drew;generalize w5.drew=w6 at K6⊢;have lP:=K6.size;replace kk:=kk.trans' K6 af;replace aR:=K6.at aR af;replace a1:=K6.at a1 af;replace a2:=K6.at a2 af;replace p:=p.aA K6 af af af;refine⟨λw'=>At w' b2 [.pointer (some ⟨bs,0,none⟩)]/\At w' b1 [.pointer (some ⟨x.p,0,none⟩)],⟨a2,a1⟩,?_⟩;refine Xw.i _ (λw' hw=>(aC rfl) _ _ _ (by rw[hw.1.cell];rfl)) ?_;refine Xw.i _ (λw' hw=>(aC rfl) _ _ _ (by rw[hw.1.cell];rfl)) ?_;refine Xw.i _ (λw' hw=>(aC rfl) _ _ _ (by rw[hw.2.cell];rfl)) ?_;refine nL ((ih n aj).inner oL _ _ _ _ _ _ p dN aj rfl (aL hr aI)) ?_ ?_
  rotate_left
  .intro c w7 h;exact h.up hr kk ak
  intro v1 w7 h;obtain⟨t1,bX,o,eI,r1,S1,⟨o',-,p⟩,K7⟩:=h.out;rw[eI,aJ]at hr;have kg:=K7.size;replace kk:=kk.trans' K7 af;replace aR:=K7.at aR af;replace a1:=K7.at a1 af;replace a2:=K7.at a2 af;have Eu:=r1.y7 S1;refine⟨⟨a2,a1⟩,?_⟩;refine⟨_,λw' _=>Nc.p _ w',?_⟩;refine Xw.i _ (λw' _=>by simp[go_sem]<;>trivial) ?_;refine U1.store (aO rfl rfl) aR ak λw8 U8=>?_;have wS:=U8.size;replace kk:=kk.trans' U8.aA af;replace a1:=U8.aA.at a1 af;replace a2:=U8.aA.at a2 af;replace p:=p.aA U8.aA af af af;replace r1:=r1.fr U8.aA af;replace aR:=U8.at_
  simp only[set_cons_zero,set_cons_succ]at aR;have ZV:=kk.size;refine⟨⟨a2,a1⟩,?_⟩;refine⟨_,λw' _=>Nc.p _ w',?_⟩;refine Xw.i _ (λw' _=>by simp[go_sem]<;>trivial) ?_;refine U1.store (aO rfl Eu) aR ak λw9 U9=>?_;have An:=U9.size;replace kk:=kk.trans' U9.aA af;replace a1:=U9.aA.at a1 af;replace a2:=U9.aA.at a2 af;replace p:=p.aA U9.aA af af af;replace r1:=r1.fr U9.aA af;replace aR:=U9.at_;simp only[set_cons_zero,set_cons_succ]at aR;have WZ:=kk.size;refine V1.load (aC rfl) (a1) rfl ?_;refine fQ (d106 cO p) ?_ ?_;rotate_left
  .intro c eo h;exact(Er.all h hr).pre kk ak
  rintro _ eo ⟨Ev,rfl,p,dE⟩;have qH:=dE.size;replace kk:=kk.trans' dE af;replace aR:=dE.at aR af;replace r1:=r1.fr dE af;rw[cR Ev]at hr;subst hr;exact⟨⟨bs,_,_,_,_,_,_,rfl,.inl rfl,aR,rfl,rfl,rfl,r1.st aj,.inl rfl⟩,rfl,⟨_,p⟩,kk⟩
 have Kq:¬(hd ts).text=oL:=ne_of_beq_false hb;rw[if_neg Kq]at hr;refine V1.i ah ?_;refine V1.load (aC rfl) (a4) rfl ?_;refine V1.i ah ?_;refine If.b (λhb=>?_) (λhb=>?_)
 .have dZ:(hd ts).text=my:=eq_of_beq hb;rw[if_pos dZ]at hr;refine V1.load (aC rfl) (a1) rfl ?_;refine dR (d107 p) ?_ (NP.no (e:=_));rintro _ w6 ⟨rfl,p,K6⟩;have lP:=K6.size;replace kk:=kk.trans' K6 af;replace aR:=K6.at aR af;replace a1:=K6.at a1 af;replace a2:=K6.at a2 af;have K7:aD [] w6 w6.drew:=(aD.refl _ _).drew;generalize w6.drew=w7 at K7⊢;have kg:=K7.size;replace kk:=kk.trans' K7 af;replace aR:=K7.at aR af;replace a1:=K7.at a1 af;replace a2:=K7.at a2 af;replace p:=p.aA K7 af af af;refine⟨λw'=>At w' b2 [.pointer (some ⟨bs,0,none⟩)]/\At w' b1 [.pointer (some ⟨x.p,0,none⟩)],⟨a2,a1⟩,?_⟩
  refine Xw.i _ (λw' hw=>(aC rfl) _ _ _ (by rw[hw.1.cell];rfl)) ?_;refine Xw.i _ (λw' hw=>(aC rfl) _ _ _ (by rw[hw.1.cell];rfl)) ?_;refine Xw.i _ (λw' hw=>(aC rfl) _ _ _ (by rw[hw.2.cell];rfl)) ?_;refine gi ((ih n aj).expr 0 _ _ _ _ _ _ p dN aj rfl (aL hr aI)) ?_ ?_;rotate_left
  .intro c w8 h;exact h.up hr kk ak
  intro v1 w8 h;obtain⟨t1,bX,o,eI,r1,S1,⟨o',-,p⟩,K8⟩:=h.out;rw[eI,aJ]at hr;have wR:=K8.size;replace kk:=kk.trans' K8 af;replace aR:=K8.at aR af;replace a1:=K8.at a1 af;replace a2:=K8.at a2 af;obtain⟨W1,rfl,-,-⟩:=r1.kind S1;unfold ptr at*;refine⟨⟨a2,a1⟩,?_⟩;refine⟨_,λw' _=>Nc.p _ w',?_⟩;refine Xw.i _ (λw' _=>by simp[go_sem]<;>trivial) ?_;refine U1.store (aO rfl rfl) aR ak λw9 U9=>?_;have An:=U9.size;replace kk:=kk.trans' U9.aA af;replace a1:=U9.aA.at a1 af;replace a2:=U9.aA.at a2 af;replace p:=p.aA U9.aA af af af;replace r1:=r1.fr U9.aA af;replace aR:=U9.at_
  simp only[set_cons_zero,set_cons_succ]at aR;have WZ:=kk.size;refine⟨⟨a2,a1⟩,?_⟩;refine⟨_,λw' _=>Nc.p _ w',?_⟩;refine Xw.i _ (λw' _=>by simp[go_sem]<;>trivial) ?_;refine U1.store (aO rfl rfl) aR ak λeo ic=>?_;have Ar:=ic.size;replace kk:=kk.trans' ic.aA af;replace a1:=ic.aA.at a1 af;replace a2:=ic.aA.at a2 af;replace p:=p.aA ic.aA af af af;replace r1:=r1.fr ic.aA af;replace aR:=ic.at_;simp only[set_cons_zero,set_cons_succ]at aR;have Sk:=kk.size;have dz:aD [] eo eo.drew:=(aD.refl _ _).drew;generalize eo.drew=fB at dz⊢;have lQ:=dz.size;replace kk:=kk.trans' dz af
  replace aR:=dz.at aR af;replace a1:=dz.at a1 af;replace a2:=dz.at a2 af;replace p:=p.aA dz af af af;replace r1:=r1.fr dz af;refine⟨λw'=>At w' b2 [.pointer (some ⟨bs,0,none⟩)]/\At w' b1 [.pointer (some ⟨x.p,0,none⟩)],⟨a2,a1⟩,?_⟩;refine Xw.i _ (λw' hw=>(aC rfl) _ _ _ (by rw[hw.1.cell];rfl)) ?_;refine Xw.i _ (λw' hw=>(aC rfl) _ _ _ (by rw[hw.2.cell];rfl)) ?_;refine nL ((ih n aj).inner oL _ _ _ _ _ _ p dN aj rfl (aL hr aI)) ?_ ?_;rotate_left
  .intro c gz h;exact h.up hr kk ak
  intro v2 gz h;obtain⟨t2,dA,o,gh,r2,S2,⟨o',-,p⟩,dw⟩:=h.out;rw[gh,aJ]at hr;have oX:=dw.size;replace kk:=kk.trans' dw af;replace aR:=dw.at aR af;replace a1:=dw.at a1 af;replace a2:=dw.at a2 af;replace r1:=r1.fr dw af;have Kr:=r2.y7 S2;refine⟨⟨a2,a1⟩,?_⟩;refine⟨_,λw' _=>Nc.p _ w',?_⟩;refine Xw.i _ (λw' _=>by simp[go_sem]<;>trivial) ?_;refine U1.store (aO rfl Kr) aR ak λlZ fT=>?_;have Ap:=fT.size;replace kk:=kk.trans' fT.aA af;replace a1:=fT.aA.at a1 af;replace a2:=fT.aA.at a2 af;replace p:=p.aA fT.aA af af af;replace r1:=r1.fr fT.aA af
  replace r2:=r2.fr fT.aA af;replace aR:=fT.at_;simp only[set_cons_zero,set_cons_succ]at aR;have z'13:=kk.size;refine V1.load (aC rfl) (a1) rfl ?_;refine fQ (d106 cO p) ?_ ?_;rotate_left
  .intro c lu h;exact(Er.all h hr).pre kk ak
  rintro _ lu ⟨Sl,rfl,p,mO⟩;have Sd:=mO.size;replace kk:=kk.trans' mO af;replace aR:=mO.at aR af;replace r1:=r1.fr mO af;replace r2:=r2.fr mO af;rw[cR Sl]at hr;subst hr;exact⟨⟨bs,_,_,_,_,_,_,rfl,.inl rfl,aR,rfl,r1.st aj,rfl,r2.st aj,.inl rfl⟩,rfl,⟨_,p⟩,kk⟩
 have xf:¬(hd ts).text=my:=ne_of_beq_false hb;rw[if_neg xf]at hr;refine V1.i ah ?_;refine V1.load (aC rfl) (a4) rfl ?_;refine V1.i ah ?_;refine If.b (λhb=>?_) (λhb=>?_)
 .have dZ:(hd ts).text=wm:=eq_of_beq hb;rw[if_pos dZ]at hr;refine V1.load (aC rfl) (a1) rfl ?_;refine dR (d107 p) ?_ (NP.no (e:=_));rintro _ w6 ⟨rfl,p,K6⟩;have lP:=K6.size;replace kk:=kk.trans' K6 af;replace aR:=K6.at aR af;replace a1:=K6.at a1 af;replace a2:=K6.at a2 af;have K7:aD [] w6 w6.drew:=(aD.refl _ _).drew;generalize w6.drew=w7 at K7⊢;have kg:=K7.size;replace kk:=kk.trans' K7 af;replace aR:=K7.at aR af;replace a1:=K7.at a1 af;replace a2:=K7.at a2 af;replace p:=p.aA K7 af af af;refine⟨λw'=>At w' b2 [.pointer (some ⟨bs,0,none⟩)]/\At w' b1 [.pointer (some ⟨x.p,0,none⟩)],⟨a2,a1⟩,?_⟩
  refine Xw.i _ (λw' hw=>(aC rfl) _ _ _ (by rw[hw.1.cell];rfl)) ?_;refine Xw.i _ (λw' hw=>(aC rfl) _ _ _ (by rw[hw.1.cell];rfl)) ?_;refine Xw.i _ (λw' hw=>(aC rfl) _ _ _ (by rw[hw.2.cell];rfl)) ?_;refine mE (d104 p) ?_ ?_;rotate_left
  .intro c w8 hF;exact(Er.all hF hr).pre kk ak
  rintro _ w8 ⟨Sm,rfl,p,K8⟩;have wR:=K8.size;replace kk:=kk.trans' K8 af;replace aR:=K8.at aR af;replace a1:=K8.at a1 af;replace a2:=K8.at a2 af;rw[fc Sm]at hr;rw[dm];refine⟨⟨a2,a1⟩,?_⟩;refine Xw.i _ (λw' _=>by simp[go_sem]<;>trivial) ?_;refine⟨_,λw' _=>Nc.p _ w',?_⟩;refine Xw.i _ (λw' _=>by simp[go_sem]<;>trivial) ?_;refine U1.store (aO rfl rfl) aR ak λw9 U9=>?_;have An:=U9.size;replace kk:=kk.trans' U9.aA af;replace a1:=U9.aA.at a1 af;replace a2:=U9.aA.at a2 af;replace p:=p.aA U9.aA af af af;replace aR:=U9.at_;simp only[set_cons_zero,set_cons_succ]at aR;refine⟨⟨a2,a1⟩,?_⟩
  refine⟨_,λw' _=>Nc.p _ w',?_⟩;refine Xw.i _ (λw' _=>by simp[go_sem]<;>trivial) ?_;refine U1.store (aO rfl rfl) aR ak λeo ic=>?_;have Ar:=ic.size;replace kk:=kk.trans' ic.aA af;replace a1:=ic.aA.at a1 af;replace a2:=ic.aA.at a2 af;replace p:=p.aA ic.aA af af af;replace aR:=ic.at_;simp only[set_cons_zero,set_cons_succ]at aR;have Sk:=kk.size;refine V1.load (aC rfl) (a1) rfl ?_;refine fQ (d106 [61] p) ?_ ?_;rotate_left
  .intro c fB h;exact(Er.all h hr).pre kk ak
  rintro _ fB ⟨Sn,rfl,p,dz⟩;have lQ:=dz.size;replace kk:=kk.trans' dz af;replace aR:=dz.at aR af;replace a1:=dz.at a1 af;replace a2:=dz.at a2 af;rw[cR Sn]at hr;have dw:aD [] fB fB.drew:=(aD.refl _ _).drew;generalize fB.drew=gz at dw⊢;have oX:=dw.size;replace kk:=kk.trans' dw af;replace aR:=dw.at aR af;replace a1:=dw.at a1 af;replace a2:=dw.at a2 af;replace p:=p.aA dw af af af;refine⟨λw'=>At w' b2 [.pointer (some ⟨bs,0,none⟩)]/\At w' b1 [.pointer (some ⟨x.p,0,none⟩)],⟨a2,a1⟩,?_⟩;refine Xw.i _ (λw' hw=>(aC rfl) _ _ _ (by rw[hw.1.cell];rfl)) ?_
  refine Xw.i _ (λw' hw=>(aC rfl) _ _ _ (by rw[hw.2.cell];rfl)) ?_;refine gi ((ih n aj).expr 0 _ _ _ _ _ _ p dN aj rfl (aL hr aI)) ?_ ?_;rotate_left
  .intro c lZ h;exact h.up hr kk ak
  intro v1 lZ h;obtain⟨t1,bX,o,eI,r1,S1,⟨o',-,p⟩,iA⟩:=h.out;rw[eI,aJ]at hr;have Eo:=iA.size;replace kk:=kk.trans' iA af;replace aR:=iA.at aR af;replace a1:=iA.at a1 af;replace a2:=iA.at a2 af;obtain⟨W1,rfl,-,-⟩:=r1.kind S1;unfold ptr at*;refine⟨⟨a2,a1⟩,?_⟩;refine⟨_,λw' _=>Nc.p _ w',?_⟩;refine Xw.i _ (λw' _=>by simp[go_sem]<;>trivial) ?_;refine U1.store (aO rfl rfl) aR ak λlu jB=>?_;have Ki:=jB.size;replace kk:=kk.trans' jB.aA af;replace a1:=jB.aA.at a1 af;replace a2:=jB.aA.at a2 af;replace p:=p.aA jB.aA af af af;replace r1:=r1.fr jB.aA af;replace aR:=jB.at_
  simp only[set_cons_zero,set_cons_succ]at aR;have z'14:=kk.size;refine V1.load (aC rfl) (a1) rfl ?_;refine fQ (d106 [44] p) ?_ ?_;rotate_left
  .intro c sE h;exact(Er.all h hr).pre kk ak
  rintro _ sE ⟨So,rfl,p,iU⟩;have Kj:=iU.size;replace kk:=kk.trans' iU af;replace aR:=iU.at aR af;replace a1:=iU.at a1 af;replace a2:=iU.at a2 af;replace r1:=r1.fr iU af;rw[cR So]at hr;have jC:aD [] sE sE.drew:=(aD.refl _ _).drew;generalize sE.drew=wV at jC⊢;have Kk:=jC.size;replace kk:=kk.trans' jC af;replace aR:=jC.at aR af;replace a1:=jC.at a1 af;replace a2:=jC.at a2 af;replace p:=p.aA jC af af af;replace r1:=r1.fr jC af;refine⟨λw'=>At w' b2 [.pointer (some ⟨bs,0,none⟩)]/\At w' b1 [.pointer (some ⟨x.p,0,none⟩)],⟨a2,a1⟩,?_⟩
  refine Xw.i _ (λw' hw=>(aC rfl) _ _ _ (by rw[hw.1.cell];rfl)) ?_;refine Xw.i _ (λw' hw=>(aC rfl) _ _ _ (by rw[hw.2.cell];rfl)) ?_;refine gi ((ih n aj).expr 0 _ _ _ _ _ _ p dN aj rfl (aL hr aI)) ?_ ?_;rotate_left
  .intro c En h;exact h.up hr kk ak
  intro v2 En h;obtain⟨t2,dA,o,gh,r2,S2,⟨o',-,p⟩,nR⟩:=h.out;rw[gh,aJ]at hr;have Se:=nR.size;replace kk:=kk.trans' nR af;replace aR:=nR.at aR af;replace a1:=nR.at a1 af;replace a2:=nR.at a2 af;replace r1:=r1.fr nR af;obtain⟨WY,rfl,-,-⟩:=r2.kind S2;unfold ptr at*;refine⟨⟨a2,a1⟩,?_⟩;refine⟨_,λw' _=>Nc.p _ w',?_⟩;refine Xw.i _ (λw' _=>by simp[go_sem]<;>trivial) ?_;refine U1.store (aO rfl rfl) aR ak λEs Cp=>?_;have zU18:=Cp.size;replace kk:=kk.trans' Cp.aA af;replace a1:=Cp.aA.at a1 af;replace a2:=Cp.aA.at a2 af;replace p:=p.aA Cp.aA af af af
  replace r1:=r1.fr Cp.aA af;replace r2:=r2.fr Cp.aA af;replace aR:=Cp.at_;simp only[set_cons_zero,set_cons_succ]at aR;have z'18:=kk.size;have xg:aD [] Es Es.drew:=(aD.refl _ _).drew;generalize Es.drew=WW at xg⊢;have zK19:=xg.size;replace kk:=kk.trans' xg af;replace aR:=xg.at aR af;replace a1:=xg.at a1 af;replace a2:=xg.at a2 af;replace p:=p.aA xg af af af;replace r1:=r1.fr xg af;replace r2:=r2.fr xg af;refine⟨λw'=>At w' b2 [.pointer (some ⟨bs,0,none⟩)]/\At w' b1 [.pointer (some ⟨x.p,0,none⟩)],⟨a2,a1⟩,?_⟩;refine Xw.i _ (λw' hw=>(aC rfl) _ _ _ (by rw[hw.1.cell];rfl)) ?_
  refine Xw.i _ (λw' hw=>(aC rfl) _ _ _ (by rw[hw.2.cell];rfl)) ?_;refine nL ((ih n aj).inner oL _ _ _ _ _ _ p dN aj rfl (aL hr aI)) ?_ ?_;rotate_left
  .intro c rL h;exact h.up hr kk ak
  intro v3 rL h;obtain⟨t3,vw,o,Ao,r3,S3,⟨o',-,p⟩,Ew⟩:=h.out;rw[Ao,aJ]at hr;have zK20:=Ew.size;replace kk:=kk.trans' Ew af;replace aR:=Ew.at aR af;replace a1:=Ew.at a1 af;replace a2:=Ew.at a2 af;replace r1:=r1.fr Ew af;replace r2:=r2.fr Ew af;have Sq:=r3.y7 S3;refine⟨⟨a2,a1⟩,?_⟩;refine⟨_,λw' _=>Nc.p _ w',?_⟩;refine Xw.i _ (λw' _=>by simp[go_sem]<;>trivial) ?_;refine U1.store (aO rfl Sq) aR ak λw21 Au=>?_;have zU21:=Au.size;replace kk:=kk.trans' Au.aA af;replace a1:=Au.aA.at a1 af;replace a2:=Au.aA.at a2 af;replace p:=p.aA Au.aA af af af
  replace r1:=r1.fr Au.aA af;replace r2:=r2.fr Au.aA af;replace r3:=r3.fr Au.aA af;replace aR:=Au.at_;simp only[set_cons_zero,set_cons_succ]at aR;have z'21:=kk.size;refine V1.load (aC rfl) (a1) rfl ?_;refine fQ (d106 cO p) ?_ ?_;rotate_left
  .intro c ZW h;exact(Er.all h hr).pre kk ak
  rintro _ ZW ⟨Sr,rfl,p,FZ⟩;have zK22:=FZ.size;replace kk:=kk.trans' FZ af;replace aR:=FZ.at aR af;replace r1:=r1.fr FZ af;replace r2:=r2.fr FZ af;replace r3:=r3.fr FZ af;rw[cR Sr]at hr;subst hr;exact⟨⟨bs,_,_,_,_,_,_,rfl,.inl rfl,aR,rfl,r1.st aj,r2.st aj,r3.st aj,.inl rfl⟩,rfl,⟨_,p⟩,kk⟩
 have Ex:¬(hd ts).text=wm:=ne_of_beq_false hb;rw[if_neg Ex]at hr;refine V1.i ah ?_;refine V1.load (aC rfl) (a4) rfl ?_;refine V1.i ah ?_;refine If.b (λhb=>?_) (λhb=>?_)
 .have dZ:(hd ts).text=BB:=eq_of_beq hb;rw[if_pos dZ]at hr;refine V1.load (aC rfl) (a1) rfl ?_;refine dR (d107 p) ?_ (NP.no (e:=_));rintro _ w6 ⟨rfl,p,K6⟩;have lP:=K6.size;replace kk:=kk.trans' K6 af;replace aR:=K6.at aR af;replace a1:=K6.at a1 af;replace a2:=K6.at a2 af;refine V1.load (aC rfl) (a1) rfl ?_;refine V1.load (aC rfl) (a2) rfl ?_;refine BG ((ih n aj).branch _ _ _ _ _ _ _ _ p dN aj rfl (aL hr aI) aR aj aj aj) ?_ ?_;rotate_left
  .intro c w7 h;exact h.up hr kk ak
  rintro _ w7 h;obtain⟨t1,bX,o,eI,r1,S1,⟨o',p⟩,K7⟩:=h.out;rw[eI,aJ]at hr;have kg:=K7.size;replace kk:=kk.trans' K7 af;replace a1:=K7.at a1 af;replace a2:=K7.at a2 af;refine V1.load (aC rfl) (a1) rfl ?_;refine fQ (d106 cO p) ?_ ?_;rotate_left
  .intro c w8 h;exact(Er.all h hr).pre kk ak
  rintro _ w8 ⟨Sm,rfl,p,K8⟩;have wR:=K8.size;replace kk:=kk.trans' K8 af;rw[cR Sm]at hr;subst hr;exact⟨aU.imp (λq hq _=>hq.elim .inl λh=>.inr aj) _ _ (aU.aA (G:=λq=>q=bs\/w6.heap.size<=q) K8 (λq hq _=>⟨by simp;rcases hq with h|h<;>omega,hq⟩) _ _ r1),S1,⟨_,p⟩,kk⟩
 have Kt:¬(hd ts).text=BB:=ne_of_beq_false hb;rw[if_neg Kt]at hr;refine V1.i ah ?_;refine V1.load (aC rfl) (a4) rfl ?_;refine V1.i ah ?_;refine If.b (λhb=>?_) (λhb=>?_)
 .have dZ:(hd ts).text=gg:=eq_of_beq hb;rw[if_pos dZ]at hr;refine V1.load (aC rfl) (a1) rfl ?_;refine dR (d107 p) ?_ (NP.no (e:=_));rintro _ w6 ⟨rfl,p,K6⟩;have lP:=K6.size;replace kk:=kk.trans' K6 af;replace aR:=K6.at aR af;replace a1:=K6.at a1 af;replace a2:=K6.at a2 af;refine V1.load (aC rfl) (a2) rfl ?_;refine Up.i (Nc.p _ _) ?_;refine V1.i ah ?_;refine U1.store (aO rfl rfl) aR ak λw7 U7=>?_;have Kl:=U7.size;replace kk:=kk.trans' U7.aA af;replace a1:=U7.aA.at a1 af;replace a2:=U7.aA.at a2 af;replace p:=p.aA U7.aA af af af;replace aR:=U7.at_
  simp only[set_cons_zero,set_cons_succ]at aR;have z7:=kk.size;refine J0.cut (λw'=>∃t rv bX o1,PS w' x bX deep o1/\aD [x.p,bs] w w'/\At w' b1 [.pointer (some ⟨x.p,0,none⟩)]/\At w' bs [.int .i64 8,.int .i64 line,str [],.pointer none,rv,.pointer none,.slice none 0 0,.slice none 0 0]/\aU (Fr w.heap.size []) w' t (.P rv)/\
   (match dI (hd bX)with|true=>bL.ok (.st 8 [] .nil t .nil .nil .nil) bX false|false=>.fail 4)=r) ?_ ?_
  .refine V1.load (aC rfl) (a1) rfl ?_;refine DQ (d57 p) ?_ (NP.no (e:=_));rintro _ w8 ⟨rfl,K8⟩;have wR:=K8.size;replace kk:=kk.trans' K8 af;replace a1:=K8.at a1 af;replace a2:=K8.at a2 af;replace p:=p.aA K8 af af af;replace aR:=K8.at aR af;refine V1.i ah ?_;refine If.b (λhb=>?_) (λhb=>?_)
   .have dZ:dI (hd (bF ts))=false:=by simpa using hb
    rw[dZ]at hr;have K9:aD [] w8 w8.drew:=(aD.refl _ _).drew;generalize w8.drew=w9 at K9⊢;have Ce:=K9.size;replace kk:=kk.trans' K9 af;replace aR:=K9.at aR af;replace a1:=K9.at a1 af;replace a2:=K9.at a2 af;replace p:=p.aA K9 af af af;refine⟨λw'=>At w' b2 [.pointer (some ⟨bs,0,none⟩)]/\At w' b1 [.pointer (some ⟨x.p,0,none⟩)],⟨a2,a1⟩,?_⟩;refine Xw.i _ (λw' hw=>(aC rfl) _ _ _ (by rw[hw.1.cell];rfl)) ?_;refine Xw.i _ (λw' hw=>(aC rfl) _ _ _ (by rw[hw.2.cell];rfl)) ?_;refine gi ((ih n aj).expr 0 _ _ _ _ _ _ p dN aj rfl (aL hr aI)) ?_ ?_;rotate_left
    .intro c eo h;exact h.up hr kk ak
    intro v1 eo h;obtain⟨t1,bX,o,eI,r1,S1,⟨o',-,p⟩,dE⟩:=h.out;rw[eI,aJ]at hr;have qH:=dE.size;replace kk:=kk.trans' dE af;replace aR:=dE.at aR af;replace a1:=dE.at a1 af;replace a2:=dE.at a2 af;obtain⟨W1,rfl,-,-⟩:=r1.kind S1;unfold ptr at*;refine⟨⟨a2,a1⟩,?_⟩;refine⟨_,λw' _=>Nc.p _ w',?_⟩;refine Xw.i _ (λw' _=>by simp[go_sem]<;>trivial) ?_;refine U1.store (aO rfl rfl) aR ak λfB uN=>?_;have Ss:=uN.size;replace kk:=kk.trans' uN.aA af;replace a1:=uN.aA.at a1 af;replace a2:=uN.aA.at a2 af;replace p:=p.aA uN.aA af af af;replace r1:=r1.fr uN.aA af
    replace aR:=uN.at_;simp only[set_cons_zero,set_cons_succ]at aR;have z'11:=kk.size;exact⟨_,_,_,_,p,kk,a1,aR,r1.fit aj ak,hr⟩
   .have dZ:dI (hd (bF ts))=true:=by simpa using hb
    rw[dZ]at hr;exact⟨.nil,_,_,_,p,kk,a1,aR,rfl,by rw[dZ];exact hr⟩
  rintro w8 ⟨t,rv,bX,o1,p,kk,a1,aR,rr,hr⟩;have z8:=kk.size;refine V1.load (aC rfl) (a1) rfl ?_;refine DQ (d57 p) ?_ (NP.no (e:=_));rintro _ w9 ⟨rfl,K9⟩;have Ce:=K9.size;replace kk:=kk.trans' K9 af;replace p:=p.aA K9 af af af;replace aR:=K9.at aR af;replace a1:=K9.at a1 af;replace rr:=rr.fr K9 af;refine V1.i ah ?_;refine If.b (λhb=>?_) (λhb=>?_)
  .have dZ:dI (hd bX)=false:=by simpa using hb
   rw[dZ]at hr;subst hr;refine V1.load (aC rfl) (a1) rfl ?_;refine kH (d32 4 p) ?_ ?_
   .rintro _ _ h;exact h.elim
   .intro c w3 hF;exact hF.pre kk ak
  .have dZ:dI (hd bX)=true:=by simpa using hb
   rw[dZ]at hr;subst hr;exact⟨⟨bs,_,_,_,_,_,_,rfl,.inl rfl,aR,rfl,rr.st aj,rfl,.inl rfl,.inl rfl⟩,rfl,⟨_,p⟩,kk⟩
 have uO:¬(hd ts).text=gg:=ne_of_beq_false hb;rw[if_neg uO]at hr;refine V1.i ah ?_;refine V1.load (aC rfl) (a4) rfl ?_;refine V1.i ah ?_;refine If.b (λhb=>?_) (λhb=>?_)
 .have dZ:(hd ts).text=jt:=eq_of_beq hb;rw[if_pos dZ]at hr;refine V1.load (aC rfl) (a1) rfl ?_;refine dR (d107 p) ?_ (NP.no (e:=_));rintro _ w6 ⟨rfl,p,K6⟩;have lP:=K6.size;replace kk:=kk.trans' K6 af;replace aR:=K6.at aR af;replace a1:=K6.at a1 af;replace a2:=K6.at a2 af;refine V1.load (aC rfl) (a2) rfl ?_;refine Up.i (Nc.p _ _) ?_;refine V1.i ah ?_;refine U1.store (aO rfl rfl) aR ak λw7 U7=>?_;have Kl:=U7.size;replace kk:=kk.trans' U7.aA af;replace a1:=U7.aA.at a1 af;replace a2:=U7.aA.at a2 af;replace p:=p.aA U7.aA af af af;replace aR:=U7.at_
  simp only[set_cons_zero,set_cons_succ]at aR;subst hr;exact⟨⟨bs,_,_,_,_,_,_,rfl,.inl rfl,aR,rfl,rfl,rfl,.inl rfl,.inl rfl⟩,rfl,⟨_,p⟩,kk⟩
 have xh:¬(hd ts).text=jt:=ne_of_beq_false hb;rw[if_neg xh]at hr;refine V1.i ah ?_;refine V1.load (aC rfl) (a4) rfl ?_;refine V1.i ah ?_;refine If.b (λhb=>?_) (λhb=>?_)
 .have dZ:(hd ts).text=mz:=eq_of_beq hb;rw[if_pos dZ]at hr;have K6:aD [] w5 w5.drew:=(aD.refl _ _).drew;generalize w5.drew=w6 at K6⊢;have lP:=K6.size;replace kk:=kk.trans' K6 af;replace aR:=K6.at aR af;replace a1:=K6.at a1 af;replace a2:=K6.at a2 af;replace p:=p.aA K6 af af af;refine⟨λw'=>At w' b2 [.pointer (some ⟨bs,0,none⟩)]/\At w' b1 [.pointer (some ⟨x.p,0,none⟩)],⟨a2,a1⟩,?_⟩;refine Xw.i _ (λw' hw=>(aC rfl) _ _ _ (by rw[hw.1.cell];rfl)) ?_;refine Xw.i _ (λw' hw=>(aC rfl) _ _ _ (by rw[hw.1.cell];rfl)) ?_;refine Xw.i _ (λw' hw=>(aC rfl) _ _ _ (by rw[hw.2.cell];rfl)) ?_;refine nL ((ih n aj).inner mz _ _ _ _ _ _ p dN aj rfl (aL hr aI)) ?_ ?_
  rotate_left
  .intro c w7 h;exact h.up hr kk ak
  intro v1 w7 h;obtain⟨t1,bX,o,eI,r1,S1,⟨o',-,p⟩,K7⟩:=h.out;rw[eI,aJ]at hr;have kg:=K7.size;replace kk:=kk.trans' K7 af;replace aR:=K7.at aR af;replace a1:=K7.at a1 af;replace a2:=K7.at a2 af;have Eu:=r1.y7 S1;refine⟨⟨a2,a1⟩,?_⟩;refine⟨_,λw' _=>Nc.p _ w',?_⟩;refine Xw.i _ (λw' _=>by simp[go_sem]<;>trivial) ?_;refine U1.store (aO rfl rfl) aR ak λw8 U8=>?_;have wS:=U8.size;replace kk:=kk.trans' U8.aA af;replace a1:=U8.aA.at a1 af;replace a2:=U8.aA.at a2 af;replace p:=p.aA U8.aA af af af;replace r1:=r1.fr U8.aA af;replace aR:=U8.at_
  simp only[set_cons_zero,set_cons_succ]at aR;have ZV:=kk.size;refine⟨⟨a2,a1⟩,?_⟩;refine⟨_,λw' _=>Nc.p _ w',?_⟩;refine Xw.i _ (λw' _=>by simp[go_sem]<;>trivial) ?_;refine U1.store (aO rfl Eu) aR ak λw9 U9=>?_;have An:=U9.size;replace kk:=kk.trans' U9.aA af;replace a1:=U9.aA.at a1 af;replace a2:=U9.aA.at a2 af;replace p:=p.aA U9.aA af af af;replace r1:=r1.fr U9.aA af;replace aR:=U9.at_;simp only[set_cons_zero,set_cons_succ]at aR;have WZ:=kk.size;refine V1.load (aC rfl) (a1) rfl ?_;refine V1.load (aC rfl) (a2) rfl ?_
  refine Iv (g110 (n:=n) (r:=r) (line:=line) (av:=v1) (Fc:=λnm b ts=>aP cO ts λts=>.ok (.st 10 nm .nil .nil .nil t1 b) ts false) (ih n aj) ZT p dN aI aR aj aj aj hr) ?_ ?_;rotate_left
  .intro c fB h;exact h.pre kk ak
  rintro _ fB ⟨nm,tb,bv,bU,o',hr,aR,r2,S2,p,dz⟩;unfold Aq at aR;have Kr:=r2.y7 S2;have lQ:=dz.size;replace kk:=kk.trans' dz af;replace a1:=dz.at a1 af;replace r1:=r1.fr dz af;refine V1.load (aC rfl) (a1) rfl ?_;refine fQ (d106 cO p) ?_ ?_;rotate_left
  .intro c gz h;exact(Er.all h hr).pre kk ak
  rintro _ gz ⟨Su,rfl,p,dw⟩;have oX:=dw.size;replace kk:=kk.trans' dw af;replace aR:=dw.at aR af;replace r1:=r1.fr dw af;replace r2:=r2.fr dw af;rw[cR Su]at hr;subst hr;exact⟨⟨bs,_,_,_,_,_,_,rfl,.inl rfl,aR,rfl,rfl,rfl,r1.st aj,r2.st aj⟩,rfl,⟨_,p⟩,kk⟩
 have Ey:¬(hd ts).text=mz:=ne_of_beq_false hb;rw[if_neg Ey]at hr;refine V1.load (aC rfl) (a1) rfl ?_;refine V1.load (aC rfl) (a2) rfl ?_;exact tS _ kk p aR hr
end Go.Proofs.YtoddjlclpnoomaaGreatDoor

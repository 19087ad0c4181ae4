import Derived.Test.YtoddjlclpnoomaaGreatDoorV21
set_option linter.unusedVariables false
set_option linter.unusedSimpArgs false
set_option maxRecDepth 100000
open Go.Proofs.Tryz
open Go.Instr (indexAt)
open List (map_cons length_cons length_nil map_nil sum_cons sum_nil)
open Int (reduceEq)
open Bool (and_eq_true)
namespace Go.Proofs.YtoddjlclpnoomaaGreatDoor
open Go.Sh
theorem aP.fst{F:Nat->Prop}{w:Wd}{x t:Tr}{q:Nat}{m c:Nat}(h:aP F w (.cons x t) (.L (.slice (some ⟨q,0,none⟩) m c))):∃u,w.cell? ⟨q,0,none⟩=some u/\aP F w x (.P u):=by
 obtain⟨q',n',c',u,e1,h2,h3,h4,h5,h6⟩:=h;injection e1 with e1 _ _;injection e1 with e1;injection e1 with e1 _ _;subst e1;exact⟨u,h4,h5⟩
theorem pG(w:Wd){b n c:Nat}(h:0<n):(indexAt 26 (.slice (some ⟨b,0,none⟩) n c) (.int .i64 0)).run prog w=.ok (.pointer (some ⟨b,0,none⟩)) w:=uD (k:=0) h
theorem cJ(w:Wd)(a b:Int):(Bo .eql 3 false true (.int .i64 a) (.int .i64 b)).run prog w=.ok (.bool (a==b)) w:=by simp[go_sem,Bo]
theorem kR{n:Nat}{word:By}{e:Tr}{buf:By}{parts:Nat}{f:By->Nat->PR}{r:PR}(hr:(bK n (.more word (eJ e)) buf parts).bind f=r)(aI:r≠.bH):kn e=true:=by
 cases n with
 |zero=>simp only[bK]at hr;exact absurd hr.symm aI
 |succ n=>
  cases e<;>first|rfl|(simp only[bK,eJ]at hr;exact absurd hr.symm aI)
theorem p66{n:Nat}(H:jM n){w:Wd}{b:Nat}{buf:By}{parts:Nat}{k:Int}{nm:By}{l rr t a bb:Tr}{v:Va}{r:PR}(ht:TX w b buf parts)(re:aP (FO b w) w (.st k nm l rr t a bb) (.P v))(hr:bK (n+1) (.branch rr a bb) buf parts=r)(aI:r≠.bH):
  Calls prog 66 #[ptr b,v] w (aZ (λ_=>cO w b r) (cN w b r)):=by
 refine s66 ?_;unfold Zp;have kk:=KO.refl b w;simp only[bK]at hr;have hk:=kR hr aI;obtain⟨c,line,lv,rv,tv,av,bv,rfl,qe,ae,_,rq,_,ra,rb⟩:=re;refine Up.i (Nc.p _ _) ?_;refine V1.i ah ?_;refine V1.load (aC rfl) (ae) rfl ?_;refine yb (NV ht rq hk) ?_ (NP.no (e:=_));rintro _ w2 ⟨rN,K2⟩;have kS:=KO.aA (b:=b) K2;obtain⟨ae,qe⟩:=kS.at ht ae qe;replace ra:=kS.rep ht ra;replace rb:=kS.rep ht rb;replace kk:=kk.trans kS ht.ab;replace ht:=ht.aA K2;clear kS;have hK:=H.more ht rN rfl (PR.aM hr aI);refine tW hK ?_ (λc w' h=>cN.up h hr kk ht);clear hK;rintro _ wP hP;obtain⟨cV,bB,eP,bU,kP⟩:=cO.out hP;have hA:=cQ _ _ _ _ _ _ eP;rw[eP,PR.aL]at hr;obtain⟨ae,qe⟩:=kP.at ht ae qe
 replace ra:=kP.rep ht ra;replace rb:=kP.rep ht rb;replace kk:=kk.trans kP ht.ab;replace ht:=bU;clear hP eP bU kP;refine V1.aG ah λbs ws NS=>?_;have fS:=ht.fu NS.aA NS.ge;have aS:At ws bs (List.map str [[32,116,104,101,110]]):=NS.at_;have kS:=KO.aA (b:=b) NS.aA;obtain⟨ae,qe⟩:=kS.at ht ae qe;replace ra:=kS.rep ht ra;replace rb:=kS.rep ht rb;replace kk:=kk.trans kS ht.ab;replace ht:=ht.aA NS.aA;have cK:=fQ ht aS fS ak rfl (PR.aM hr aI);refine dw cK ?_ (λc w' h=>cN.up h hr kk ht);clear cK;rintro _ wP hP;obtain⟨cV,bB,eP,bU,kP⟩:=cO.out hP;have jN:=(bW.aO _ _ _ _ _ eP).2;have hA:=bJ eP;simp only[map_cons,map_nil,sum_cons,sum_nil,length_cons,length_nil]at hA
 rw[eP,PR.aL]at hr;obtain⟨ae,qe⟩:=kP.at ht ae qe;replace ra:=kP.rep ht ra;replace rb:=kP.rep ht rb;replace kk:=kk.trans kP ht.ab;replace ht:=bU;clear hP eP bU kP;clear aS fS NS kS;refine Up.i (Nc.p _ _) ?_;refine V1.i ah ?_;refine V1.load (aC rfl) (ae) rfl ?_;have hK:=H.block ht ra rfl (PR.aM hr aI);refine tX hK ?_ (λc w' h=>cN.up h hr kk ht);clear hK;rintro _ wP hP;obtain⟨cV,bB,eP,bU,kP⟩:=cO.out hP;have hA:=cQ _ _ _ _ _ _ eP;rw[eP,PR.aL]at hr;obtain⟨ae,qe⟩:=kP.at ht ae qe;replace ra:=kP.rep ht ra;replace rb:=kP.rep ht rb;replace kk:=kk.trans kP ht.ab;replace ht:=bU;clear hP eP bU kP;refine Up.i (Nc.p _ _) ?_;refine V1.i ah ?_
 refine V1.load (aC rfl) (ae) rfl ?_
 cases bb with
 |nil=>
  have hb:∃a c,bv=.slice a 0 c:=by rcases rb with rfl|⟨b,c,rfl⟩<;>exact⟨_,_,rfl⟩
  obtain⟨ba,bc,rfl⟩:=hb;refine V1.i ah ?_;refine V1.i ah ?_;refine J1.go (Gd.ft ?_);refine V1.i ah ?_;refine J1.go (Gd.ft ?_);refine V1.i ah ?_;refine If.f ?_;refine J0.go ?_;refine Up.i (Nc.p _ _) ?_;refine V1.i ah ?_;refine V1.load (aC rfl) (ae) rfl ?_;refine V1.i ah ?_;refine V1.i ah ?_;refine If.f ?_;dsimp only at hr;refine V1.aG ah λbs ws NS=>?_;have fS:=ht.fu NS.aA NS.ge;have aS:At ws bs (List.map str [cT]):=NS.at_;have kS:=KO.aA (b:=b) NS.aA;obtain⟨ae,qe⟩:=kS.at ht ae qe;replace ra:=kS.rep ht ra;replace rb:=kS.rep ht rb;replace kk:=kk.trans kS ht.ab
  replace ht:=ht.aA NS.aA;have cK:=fQ ht aS fS ak hr aI;refine dw cK (λv w' h=>cO.pre h kk ht) (λc w' h=>cN.pre h kk ht)
 |cons x y=>
  have hb:∃q m c,bv=.slice (some ⟨q,0,none⟩) (m+1) c/\aP (FO b wP) wP y (.E q 1 m):=by
   obtain⟨q,m,c,u,e1,h2,h3,h4,h5,h6⟩:=rb;exact⟨q,m,c,e1,h6⟩
  obtain⟨q,m,bc,rfl,ry⟩:=hb;refine V1.i ah ?_
  cases y with
  |cons y1 y2=>
   obtain⟨m',_,rfl,_⟩:=ry;have rh:((aO [eu] cV bB).bind λb p=>(bK n (.block (.cons x (.cons y1 y2))) b p).bind λb p=>aO [cT] b p)=r:=by
    cases x<;>exact hr
   clear hr;have hr:=rh;clear rh;refine V1.i (cJ _ _ _) ?_;rw[show(((m'+1:Nat):Int)+1==1)=false by simp;omega];refine J1.go (Gd.ft ?_);refine V1.i ah ?_;refine J1.go (Gd.ft ?_);refine V1.i ah ?_;refine If.f ?_;refine J0.go ?_;refine Up.i (Nc.p _ _) ?_;refine V1.i ah ?_;refine V1.load (aC rfl) (ae) rfl ?_;refine V1.i ah ?_;refine V1.bt (by simp[go_sem];first|done|rfl|omega|exact⟨by omega,rfl⟩) ?_;refine If.t ?_;refine V1.aG ah λbs ws NS=>?_;have fS:=ht.fu NS.aA NS.ge;have aS:At ws bs (List.map str [eu]):=NS.at_;have kS:=KO.aA (b:=b) NS.aA;obtain⟨ae,qe⟩:=kS.at ht ae qe;replace rb:=kS.rep ht rb
   replace kk:=kk.trans kS ht.ab;replace ht:=ht.aA NS.aA;have cK:=fQ ht aS fS ak rfl (PR.aM hr aI);refine dw cK ?_ (λc w' h=>cN.up h hr kk ht);clear cK;rintro _ wP hP;obtain⟨cV,bB,eP,bU,kP⟩:=cO.out hP;have jN:=(bW.aO _ _ _ _ _ eP).2;have hA:=bJ eP;simp only[map_cons,map_nil,sum_cons,sum_nil,length_cons,length_nil]at hA;rw[eP,PR.aL]at hr;obtain⟨ae,qe⟩:=kP.at ht ae qe;replace rb:=kP.rep ht rb;replace kk:=kk.trans kP ht.ab;replace ht:=bU;clear hP eP bU kP;clear aS fS NS kS;refine Up.i (Nc.p _ _) ?_;refine V1.i ah ?_;refine V1.load (aC rfl) (ae) rfl ?_;have hK:=H.block ht rb rfl (PR.aM hr aI);refine tX hK ?_ (λc w' h=>cN.up h hr kk ht);clear hK;rintro _ wP hP
   obtain⟨cV,bB,eP,bU,kP⟩:=cO.out hP;have hA:=cQ _ _ _ _ _ _ eP;rw[eP,PR.aL]at hr;obtain⟨ae,qe⟩:=kP.at ht ae qe;replace rb:=kP.rep ht rb;replace kk:=kk.trans kP ht.ab;replace ht:=bU;clear hP eP bU kP;refine V1.aG ah λbs ws NS=>?_;have fS:=ht.fu NS.aA NS.ge;have aS:At ws bs (List.map str [cT]):=NS.at_;have kS:=KO.aA (b:=b) NS.aA;obtain⟨ae,qe⟩:=kS.at ht ae qe;replace rb:=kS.rep ht rb;replace kk:=kk.trans kS ht.ab;replace ht:=ht.aA NS.aA;have cK:=fQ ht aS fS ak hr aI;refine dw cK (λv w' h=>cO.pre h kk ht) (λc w' h=>cN.pre h kk ht)
  |nil=>
   obtain rfl:m=0:=ry;obtain⟨u,hc,rx⟩:=rb.fst;refine V1.i ah ?_;refine J1.go (Gd.tt ?_);refine Up.i (Nc.p _ _) ?_;refine V1.i ah ?_;refine V1.load (aC rfl) (ae) rfl ?_;refine V1.i (pG _ aj) ?_;refine V1.i ((aC rfl) _ _ _ hc) ?_
   cases x with
   |nil=>
    obtain rfl:u=.pointer none:=rx;refine V1.i ah ?_;refine V1.i ah ?_;refine J1.go (Gd.ft ?_);refine V1.i ah ?_;refine If.f ?_;dsimp only at hr;refine J0.go ?_;refine Up.i (Nc.p _ _) ?_;refine V1.i ah ?_;refine V1.load (aC rfl) (ae) rfl ?_;refine V1.i ah ?_;refine V1.bt (by simp[go_sem];first|done|rfl|omega|exact⟨by omega,rfl⟩) ?_;refine If.t ?_;refine V1.aG ah λbs ws NS=>?_;have fS:=ht.fu NS.aA NS.ge;have aS:At ws bs (List.map str [eu]):=NS.at_;have kS:=KO.aA (b:=b) NS.aA;obtain⟨ae,qe⟩:=kS.at ht ae qe;replace rb:=kS.rep ht rb;replace kk:=kk.trans kS ht.ab
    replace ht:=ht.aA NS.aA;have cK:=fQ ht aS fS ak rfl (PR.aM hr aI);refine dw cK ?_ (λc w' h=>cN.up h hr kk ht);clear cK;rintro _ wP hP;obtain⟨cV,bB,eP,bU,kP⟩:=cO.out hP;have jN:=(bW.aO _ _ _ _ _ eP).2;have hA:=bJ eP;simp only[map_cons,map_nil,sum_cons,sum_nil,length_cons,length_nil]at hA;rw[eP,PR.aL]at hr;obtain⟨ae,qe⟩:=kP.at ht ae qe;replace rb:=kP.rep ht rb;replace kk:=kk.trans kP ht.ab;replace ht:=bU;clear hP eP bU kP;clear aS fS NS kS;refine Up.i (Nc.p _ _) ?_;refine V1.i ah ?_;refine V1.load (aC rfl) (ae) rfl ?_;have hK:=H.block ht rb rfl (PR.aM hr aI);refine tX hK ?_ (λc w' h=>cN.up h hr kk ht);clear hK;rintro _ wP hP
    obtain⟨cV,bB,eP,bU,kP⟩:=cO.out hP;have hA:=cQ _ _ _ _ _ _ eP;rw[eP,PR.aL]at hr;obtain⟨ae,qe⟩:=kP.at ht ae qe;replace rb:=kP.rep ht rb;replace kk:=kk.trans kP ht.ab;replace ht:=bU;clear hP eP bU kP;refine V1.aG ah λbs ws NS=>?_;have fS:=ht.fu NS.aA NS.ge;have aS:At ws bs (List.map str [cT]):=NS.at_;have kS:=KO.aA (b:=b) NS.aA;obtain⟨ae,qe⟩:=kS.at ht ae qe;replace rb:=kS.rep ht rb;replace kk:=kk.trans kS ht.ab;replace ht:=ht.aA NS.aA;have cK:=fQ ht aS fS ak hr aI;refine dw cK (λv w' h=>cO.pre h kk ht) (λc w' h=>cN.pre h kk ht)
   |st k2 nm2 l2 r2 t2 a2 b2=>
    have hu:∃c2 line lv rv tv av bv,u=ptr c2/\At wP c2 [.int .i64 k2,.int .i64 line,str nm2,lv,rv,tv,av,bv]:=by
     obtain⟨c2,line,lv,rv,tv,av,bv,rfl,q2,mv,_⟩:=rx;exact⟨c2,line,lv,rv,tv,av,bv,rfl,mv⟩
    obtain⟨c2,iq,uE,uF,Oc,uG,uH,rfl,mv⟩:=hu;refine V1.bt (by simp[go_sem,ptr];first|done|rfl|exact⟨rfl,rfl⟩) ?_;refine V1.i ah ?_;refine J1.go (Gd.tt ?_);refine Up.i (Nc.p _ _) ?_;refine V1.i ah ?_;refine V1.load (aC rfl) (ae) rfl ?_;refine V1.i (pG _ aj) ?_;refine V1.i ((aC rfl) _ _ _ hc) ?_;refine Up.i (Nc.p _ _) ?_;refine V1.i ah ?_;refine V1.load (aC rfl) (mv) rfl ?_;refine V1.i (v:=.bool (k2==6)) (w':=_) (by simp[go_sem];first|done|rfl) ?_;refine V1.i (v:=.bool (k2==6)) (w':=_) (by simp[go_sem];first|done|rfl) ?_;dsimp only at hr;by_cases h6:k2=6
    .subst h6;rw[if_pos rfl]at hr;refine If.t ?_;refine wt (Iy ht rfl) ?_ (λc w' h=>cN.up h hr kk ht);rintro _ wP hP;obtain⟨cV,bB,eP,bU,kP⟩:=cO.out hP;have hA:=bW.part _ _ eP;rw[eP,PR.aL]at hr;obtain⟨ae,qe⟩:=kP.at ht ae qe;replace rx:=kP.rep ht rx;replace rb:=kP.rep ht rb;replace kk:=kk.trans kP ht.ab;replace ht:=bU;clear hP eP bU kP;refine V1.aG ah λbs ws NS=>?_;have fS:=ht.fu NS.aA NS.ge;have aS:At ws bs (List.map str [eR]):=NS.at_;have kS:=KO.aA (b:=b) NS.aA;obtain⟨ae,qe⟩:=kS.at ht ae qe;replace rx:=kS.rep ht rx;replace rb:=kS.rep ht rb;replace kk:=kk.trans kS ht.ab;replace ht:=ht.aA NS.aA;have cK:=fQ ht aS fS ak rfl (PR.aM hr aI)
     refine dw cK ?_ (λc w' h=>cN.up h hr kk ht);clear cK;rintro _ wP hP;obtain⟨cV,bB,eP,bU,kP⟩:=cO.out hP;have jN:=(bW.aO _ _ _ _ _ eP).2;have hA:=bJ eP;simp only[map_cons,map_nil,sum_cons,sum_nil,length_cons,length_nil]at hA;rw[eP,PR.aL]at hr;obtain⟨ae,qe⟩:=kP.at ht ae qe;replace rx:=kP.rep ht rx;replace rb:=kP.rep ht rb;replace kk:=kk.trans kP ht.ab;replace ht:=bU;clear hP eP bU kP;clear aS fS NS kS;refine Up.i (Nc.p _ _) ?_;refine V1.i ah ?_;refine V1.load (aC rfl) (ae) rfl ?_;obtain⟨u',hc,rx'⟩:=rb.fst;refine V1.i (pG _ aj) ?_;refine V1.i ((aC rfl) _ _ _ hc) ?_;have hK:=H.branch ht rx' hr aI;refine JL hK (λv w' h=>cO.pre h kk ht) (λc w' h=>cN.pre h kk ht)
    .rw[if_neg h6]at hr;rw[show(k2==6)=false by simpa using h6];refine If.f ?_;refine J0.go ?_;refine Up.i (Nc.p _ _) ?_;refine V1.i ah ?_;refine V1.load (aC rfl) (ae) rfl ?_;refine V1.i ah ?_;refine V1.bt (by simp[go_sem];first|done|rfl|omega|exact⟨by omega,rfl⟩) ?_;refine If.t ?_;refine V1.aG ah λbs ws NS=>?_;have fS:=ht.fu NS.aA NS.ge;have aS:At ws bs (List.map str [eu]):=NS.at_;have kS:=KO.aA (b:=b) NS.aA;obtain⟨ae,qe⟩:=kS.at ht ae qe;replace rb:=kS.rep ht rb;replace kk:=kk.trans kS ht.ab;replace ht:=ht.aA NS.aA;have cK:=fQ ht aS fS ak rfl (PR.aM hr aI);refine dw cK ?_ (λc w' h=>cN.up h hr kk ht);clear cK;rintro _ wP hP
     obtain⟨cV,bB,eP,bU,kP⟩:=cO.out hP;have jN:=(bW.aO _ _ _ _ _ eP).2;have hA:=bJ eP;simp only[map_cons,map_nil,sum_cons,sum_nil,length_cons,length_nil]at hA;rw[eP,PR.aL]at hr;obtain⟨ae,qe⟩:=kP.at ht ae qe;replace rb:=kP.rep ht rb;replace kk:=kk.trans kP ht.ab;replace ht:=bU;clear hP eP bU kP;clear aS fS NS kS;refine Up.i (Nc.p _ _) ?_;refine V1.i ah ?_;refine V1.load (aC rfl) (ae) rfl ?_;have hK:=H.block ht rb rfl (PR.aM hr aI);refine tX hK ?_ (λc w' h=>cN.up h hr kk ht);clear hK;rintro _ wP hP;obtain⟨cV,bB,eP,bU,kP⟩:=cO.out hP;have hA:=cQ _ _ _ _ _ _ eP;rw[eP,PR.aL]at hr;obtain⟨ae,qe⟩:=kP.at ht ae qe;replace rb:=kP.rep ht rb
     replace kk:=kk.trans kP ht.ab;replace ht:=bU;clear hP eP bU kP;refine V1.aG ah λbs ws NS=>?_;have fS:=ht.fu NS.aA NS.ge;have aS:At ws bs (List.map str [cT]):=NS.at_;have kS:=KO.aA (b:=b) NS.aA;obtain⟨ae,qe⟩:=kS.at ht ae qe;replace rb:=kS.rep ht rb;replace kk:=kk.trans kS ht.ab;replace ht:=ht.aA NS.aA;have cK:=fQ ht aS fS ak hr aI;refine dw cK (λv w' h=>cO.pre h kk ht) (λc w' h=>cN.pre h kk ht)
   |hole=>dsimp only at hr;exact absurd hr.symm aI
   |ex=>dsimp only at hr;exact absurd hr.symm aI
   |cons=>exact rx.elim
  |hole=>cases x<;>(dsimp only at hr;exact absurd hr.symm aI)
  |ex=>exact ry.elim
  |st=>exact ry.elim
 |hole=>dsimp only at hr;exact absurd hr.symm aI
 |ex=>exact rb.elim
 |st=>exact rb.elim
theorem zq{n:Nat}{word:By}{e:Tr}{buf:By}{parts:Nat}{r:PR}(hr:bK n (.more word (eJ e)) buf parts=r)(aI:r≠.bH):kn e=true:=
 kR (f:=.ok) (r:=r) (by rw[hr];cases r<;>rfl) aI
theorem p35{n:Nat}(H:jM n){w:Wd}{b:Nat}{buf:By}{parts:Nat}{e:Tr}{v:Va}{r:PR}(ht:TX w b buf parts)(re:aP (FO b w) w e (.P v))(hr:bK (n+1) (.stmt e) buf parts=r)(aI:r≠.bH):
  Calls prog 35 #[ptr b,v] w (aZ (λ_=>cO w b r) (cN w b r)):=by
 refine s35 ?_;unfold Zf;have kk:=KO.refl b w;simp only[bK]at hr
 cases e with
 |nil=>
  dsimp only at hr;obtain rfl:v=.pointer none:=re;refine V1.i ah ?_;refine J1.go (Gd.ft ?_);refine V1.i ah ?_;refine J1.go (Gd.ft ?_);refine V1.i ah ?_;refine iF (c20 w false 2) ?_ ?_
  .rintro _ w3 ⟨kQ,_⟩
   cases kQ
  .rintro c w3 ⟨_,rfl,rfl⟩;subst hr;exact⟨rfl,kk,ht.ab,ht.gl⟩
 |st k nm l rr t a bb=>
  dsimp only at hr;obtain⟨c,line,lv,rv,tv,av,bv,rfl,qe,ae,rl,rq,rt,ra,rb⟩:=re;refine V1.bt (by simp[go_sem,ptr];first|done|rfl|exact⟨rfl,rfl⟩) ?_;refine J1.go (Gd.tt ?_);refine Up.i (Nc.p _ _) ?_;refine V1.i ah ?_;refine V1.load (aC rfl) (ae) rfl ?_;refine V1.i (v:=.bool (decide (1<=k))) (w':=w) au ?_;refine V1.i (v:=.bool (decide (1<=k))) (w':=w) au ?_;refine J1.gd (decide (k<=11)) (λh kx ed=>?_) ?_
  .refine Up.i (Nc.p _ _) ?_;refine V1.i ah ?_;refine V1.load (aC rfl) (ae) rfl ?_;refine V1.i (v:=.bool (decide (k<=11))) (w':=w) au ?_;exact ed
  refine V1.i (gi _ _ _) ?_;by_cases hk:k<1\/11<k
  .rw[if_pos hk]at hr;have hb:(decide (1<=k)&&decide (k<=11))=false:=by
    rw[Bool.and_eq_false_iff];simp;omega
   rw[hb];refine iF (c20 w false 2) ?_ ?_
   .rintro _ w3 ⟨kQ,_⟩
    cases kQ
   .rintro c w3 ⟨_,rfl,rfl⟩;subst hr;exact⟨rfl,kk,ht.ab,ht.gl⟩
  rw[if_neg hk]at hr;have hb:(decide (1<=k)&&decide (k<=11))=true:=by
   rw[and_eq_true];simp;omega
  rw[hb];refine iF (c20 w true 2) ?_ ?_;rotate_left
  .rintro c w3 ⟨kQ,_⟩
   cases kQ
  rintro _ w3 ⟨_,rfl⟩;refine wt (Iy ht rfl) ?_ (λc w' h=>cN.up h hr kk ht);rintro _ wP hP;obtain⟨cV,bB,eP,bU,kP⟩:=cO.out hP;have hA:=bW.part _ _ eP;rw[eP,PR.aL]at hr;obtain⟨ae,qe⟩:=kP.at ht ae qe;replace rl:=kP.rep ht rl;replace rq:=kP.rep ht rq;replace rt:=kP.rep ht rt;replace ra:=kP.rep ht ra;replace rb:=kP.rep ht rb;replace kk:=kk.trans kP ht.ab;replace ht:=bU;clear hP eP bU kP;refine Up.i (Nc.p _ _) ?_;refine V1.i ah ?_;refine V1.load (aC rfl) (ae) rfl ?_;have jn:k=1\/k=2\/k=3\/k=4\/k=5\/k=6\/k=7\/k=8\/k=9\/k=10\/k=11:=by omega
  clear hb hk;rcases jn with rfl|rfl|rfl|rfl|rfl|rfl|rfl|rfl|rfl|rfl|rfl
  .refine V1.i (cJ _ _ _) ?_;refine If.t ?_;simp only[reduceIte,reduceEq]at hr;refine Up.i (Nc.p _ _) ?_;refine V1.i ah ?_;refine V1.load (aC rfl) (ae) rfl ?_;refine V1.aG ah λbs ws NS=>?_;have fS:=ht.fu NS.aA NS.ge;have aS:At ws bs (List.map str [[108,111,99,97,108,32],nm]):=NS.at_;have kS:=KO.aA (b:=b) NS.aA;obtain⟨ae,qe⟩:=kS.at ht ae qe;replace rl:=kS.rep ht rl;replace rq:=kS.rep ht rq;replace rt:=kS.rep ht rt;replace ra:=kS.rep ht ra;replace rb:=kS.rep ht rb;replace kk:=kk.trans kS ht.ab;replace ht:=ht.aA NS.aA;have cK:=fQ ht aS fS ak rfl (PR.aM hr aI);refine dw cK ?_ (λc w' h=>cN.up h hr kk ht);clear cK;rintro _ wP hP;obtain⟨cV,bB,eP,bU,kP⟩:=cO.out hP
   have jN:=(bW.aO _ _ _ _ _ eP).2;have hA:=bJ eP;simp only[map_cons,map_nil,sum_cons,sum_nil,length_cons,length_nil]at hA;rw[eP,PR.aL]at hr;obtain⟨ae,qe⟩:=kP.at ht ae qe;replace rl:=kP.rep ht rl;replace rq:=kP.rep ht rq;replace rt:=kP.rep ht rt;replace ra:=kP.rep ht ra;replace rb:=kP.rep ht rb;replace kk:=kk.trans kP ht.ab;replace ht:=bU;clear hP eP bU kP;clear aS fS NS kS;refine Up.i (Nc.p _ _) ?_;refine V1.i ah ?_;refine V1.load (aC rfl) (ae) rfl ?_;have hK:=H.more ht rq hr aI;refine tW hK (λv w' h=>cO.pre h kk ht) (λc w' h=>cN.pre h kk ht)
  .iterate 1 (refine V1.i (cJ _ _ _) ?_;refine If.f ?_)
   refine V1.i (cJ _ _ _) ?_;refine If.t ?_;simp only[reduceIte,reduceEq]at hr;refine Up.i (Nc.p _ _) ?_;refine V1.i ah ?_;refine V1.load (aC rfl) (ae) rfl ?_;have hK:=H.expr ht rl rfl (PR.aM hr aI);refine pW hK ?_ (λc w' h=>cN.up h hr kk ht);clear hK;rintro _ wP hP;obtain⟨cV,bB,eP,bU,kP⟩:=cO.out hP;have hA:=cQ _ _ _ _ _ _ eP;rw[eP,PR.aL]at hr;obtain⟨ae,qe⟩:=kP.at ht ae qe;replace rl:=kP.rep ht rl;replace rq:=kP.rep ht rq;replace rt:=kP.rep ht rt;replace ra:=kP.rep ht ra;replace rb:=kP.rep ht rb;replace kk:=kk.trans kP ht.ab;replace ht:=bU;clear hP eP bU kP;refine Up.i (Nc.p _ _) ?_;refine V1.i ah ?_;refine V1.load (aC rfl) (ae) rfl ?_;have hk:=zq hr aI
   refine yb (NV ht rq hk) ?_ (NP.no (e:=_));rintro _ w2 ⟨rN,K2⟩;have kS:=KO.aA (b:=b) K2;obtain⟨ae,qe⟩:=kS.at ht ae qe;replace rl:=kS.rep ht rl;replace rq:=kS.rep ht rq;replace rt:=kS.rep ht rt;replace ra:=kS.rep ht ra;replace rb:=kS.rep ht rb;replace kk:=kk.trans kS ht.ab;replace ht:=ht.aA K2;clear kS;have hK:=H.more ht rN hr aI;refine tW hK (λv w' h=>cO.pre h kk ht) (λc w' h=>cN.pre h kk ht)
  .iterate 2 (refine V1.i (cJ _ _ _) ?_;refine If.f ?_)
   refine V1.i (cJ _ _ _) ?_;refine If.t ?_;simp only[reduceIte,reduceEq]at hr;refine Up.i (Nc.p _ _) ?_;refine V1.i ah ?_;refine V1.load (aC rfl) (ae) rfl ?_;have hK:=H.expr ht rq hr aI;refine pW hK (λv w' h=>cO.pre h kk ht) (λc w' h=>cN.pre h kk ht)
  .iterate 3 (refine V1.i (cJ _ _ _) ?_;refine If.f ?_)
   refine V1.i (cJ _ _ _) ?_;refine If.t ?_;simp only[reduceIte,reduceEq]at hr;refine Up.i (Nc.p _ _) ?_;refine V1.i ah ?_;refine V1.load (aC rfl) (ae) rfl ?_;have hK:=H.within ht ra hr aI;refine BC hK (λv w' h=>cO.pre h kk ht) (λc w' h=>cN.pre h kk ht)
  .iterate 4 (refine V1.i (cJ _ _ _) ?_;refine If.f ?_)
   refine V1.i (cJ _ _ _) ?_;refine If.t ?_;simp only[reduceIte,reduceEq]at hr;refine Up.i (Nc.p _ _) ?_;refine V1.i ah ?_;refine V1.load (aC rfl) (ae) rfl ?_;have hk:=kR hr aI;refine yb (NV ht rq hk) ?_ (NP.no (e:=_));rintro _ w2 ⟨rN,K2⟩;have kS:=KO.aA (b:=b) K2;obtain⟨ae,qe⟩:=kS.at ht ae qe;replace rl:=kS.rep ht rl;replace rq:=kS.rep ht rq;replace rt:=kS.rep ht rt;replace ra:=kS.rep ht ra;replace rb:=kS.rep ht rb;replace kk:=kk.trans kS ht.ab;replace ht:=ht.aA K2;clear kS;have hK:=H.more ht rN rfl (PR.aM hr aI);refine tW hK ?_ (λc w' h=>cN.up h hr kk ht);clear hK;rintro _ wP hP;obtain⟨cV,bB,eP,bU,kP⟩:=cO.out hP;have hA:=cQ _ _ _ _ _ _ eP;rw[eP,PR.aL]at hr;have Od:=kP.at ht ae qe;clear ae qe
   obtain⟨ae,qe⟩:=Od;replace rl:=kP.rep ht rl;replace rq:=kP.rep ht rq;replace rt:=kP.rep ht rt;replace ra:=kP.rep ht ra;replace rb:=kP.rep ht rb;replace kk:=kk.trans kP ht.ab;replace ht:=bU;clear hP eP bU kP;refine Up.i (Nc.p _ _) ?_;refine V1.i ah ?_;refine V1.load (aC rfl) (ae) rfl ?_;have hK:=H.within ht ra hr aI;refine BC hK (λv w' h=>cO.pre h kk ht) (λc w' h=>cN.pre h kk ht)
  .iterate 5 (refine V1.i (cJ _ _ _) ?_;refine If.f ?_)
   refine V1.i (cJ _ _ _) ?_;refine If.t ?_;simp only[reduceIte,reduceEq]at hr;refine V1.aG ah λbs ws NS=>?_;have fS:=ht.fu NS.aA NS.ge;have aS:At ws bs (List.map str [DG]):=NS.at_;have kS:=KO.aA (b:=b) NS.aA;obtain⟨ae,qe⟩:=kS.at ht ae qe;replace rl:=kS.rep ht rl;replace rq:=kS.rep ht rq;replace rt:=kS.rep ht rt;replace ra:=kS.rep ht ra;replace rb:=kS.rep ht rb;replace kk:=kk.trans kS ht.ab;replace ht:=ht.aA NS.aA;have cK:=fQ ht aS fS ak rfl (PR.aM hr aI);refine dw cK ?_ (λc w' h=>cN.up h hr kk ht);clear cK;rintro _ wP hP;obtain⟨cV,bB,eP,bU,kP⟩:=cO.out hP;have jN:=(bW.aO _ _ _ _ _ eP).2;have hA:=bJ eP
   simp only[map_cons,map_nil,sum_cons,sum_nil,length_cons,length_nil]at hA;rw[eP,PR.aL]at hr;obtain⟨ae,qe⟩:=kP.at ht ae qe;replace rl:=kP.rep ht rl;replace rq:=kP.rep ht rq;replace rt:=kP.rep ht rt;replace ra:=kP.rep ht ra;replace rb:=kP.rep ht rb;replace kk:=kk.trans kP ht.ab;replace ht:=bU;clear hP eP bU kP;clear aS fS NS kS;have hK:=H.branch ht ⟨c,line,lv,rv,tv,av,bv,rfl,qe,ae,rl,rq,rt,ra,rb⟩ hr aI;refine JL hK (λv w' h=>cO.pre h kk ht) (λc w' h=>cN.pre h kk ht)
  .iterate 6 (refine V1.i (cJ _ _ _) ?_;refine If.f ?_)
   refine V1.i (cJ _ _ _) ?_;refine If.t ?_;simp only[reduceIte,reduceEq]at hr;refine Up.i (Nc.p _ _) ?_;refine V1.i ah ?_;refine V1.load (aC rfl) (ae) rfl ?_;refine V1.aG ah λbs ws NS=>?_;have fS:=ht.fu NS.aA NS.ge;have aS:At ws bs (List.map str [[102,111,114,32],nm]):=NS.at_;have kS:=KO.aA (b:=b) NS.aA;obtain⟨ae,qe⟩:=kS.at ht ae qe;replace rl:=kS.rep ht rl;replace rq:=kS.rep ht rq;replace rt:=kS.rep ht rt;replace ra:=kS.rep ht ra;replace rb:=kS.rep ht rb;replace kk:=kk.trans kS ht.ab;replace ht:=ht.aA NS.aA;have cK:=fQ ht aS fS ak rfl (PR.aM hr aI);refine dw cK ?_ (λc w' h=>cN.up h hr kk ht);clear cK;rintro _ wP hP;obtain⟨cV,bB,eP,bU,kP⟩:=cO.out hP
   have jN:=(bW.aO _ _ _ _ _ eP).2;have hA:=bJ eP;simp only[map_cons,map_nil,sum_cons,sum_nil,length_cons,length_nil]at hA;rw[eP,PR.aL]at hr;obtain⟨ae,qe⟩:=kP.at ht ae qe;replace rl:=kP.rep ht rl;replace rq:=kP.rep ht rq;replace rt:=kP.rep ht rt;replace ra:=kP.rep ht ra;replace rb:=kP.rep ht rb;replace kk:=kk.trans kP ht.ab;replace ht:=bU;clear hP eP bU kP;clear aS fS NS kS;refine Up.i (Nc.p _ _) ?_;refine V1.i ah ?_;refine V1.load (aC rfl) (ae) rfl ?_;have hk:=kR hr aI;refine yb (NV ht rq hk) ?_ (NP.no (e:=_));rintro _ w2 ⟨rN,K2⟩;have kS:=KO.aA (b:=b) K2;obtain⟨ae,qe⟩:=kS.at ht ae qe;replace rl:=kS.rep ht rl;replace rq:=kS.rep ht rq;replace rt:=kS.rep ht rt
   replace ra:=kS.rep ht ra;replace rb:=kS.rep ht rb;replace kk:=kk.trans kS ht.ab;replace ht:=ht.aA K2;clear kS;have hK:=H.more ht rN rfl (PR.aM hr aI);refine tW hK ?_ (λc w' h=>cN.up h hr kk ht);clear hK;rintro _ wP hP;obtain⟨cV,bB,eP,bU,kP⟩:=cO.out hP;have hA:=cQ _ _ _ _ _ _ eP;rw[eP,PR.aL]at hr;obtain⟨ae,qe⟩:=kP.at ht ae qe;replace rl:=kP.rep ht rl;replace rq:=kP.rep ht rq;replace rt:=kP.rep ht rt;replace ra:=kP.rep ht ra;replace rb:=kP.rep ht rb;replace kk:=kk.trans kP ht.ab;replace ht:=bU;clear hP eP bU kP;refine Up.i (Nc.p _ _) ?_;refine V1.i ah ?_;refine V1.load (aC rfl) (ae) rfl ?_;have hk:=kR hr aI;refine yb (NV ht rt hk) ?_ (NP.no (e:=_));rintro _ w2 ⟨rN,K2⟩;have kS:=KO.aA (b:=b) K2
   obtain⟨ae,qe⟩:=kS.at ht ae qe;replace rl:=kS.rep ht rl;replace rq:=kS.rep ht rq;replace rt:=kS.rep ht rt;replace ra:=kS.rep ht ra;replace rb:=kS.rep ht rb;replace kk:=kk.trans kS ht.ab;replace ht:=ht.aA K2;clear kS;have hK:=H.more ht rN rfl (PR.aM hr aI);refine tW hK ?_ (λc w' h=>cN.up h hr kk ht);clear hK;rintro _ wP hP;obtain⟨cV,bB,eP,bU,kP⟩:=cO.out hP;have hA:=cQ _ _ _ _ _ _ eP;rw[eP,PR.aL]at hr;obtain⟨ae,qe⟩:=kP.at ht ae qe;replace rl:=kP.rep ht rl;replace rq:=kP.rep ht rq;replace rt:=kP.rep ht rt;replace ra:=kP.rep ht ra;replace rb:=kP.rep ht rb;replace kk:=kk.trans kP ht.ab;replace ht:=bU;clear hP eP bU kP;refine Up.i (Nc.p _ _) ?_;refine V1.i ah ?_
   refine V1.load (aC rfl) (ae) rfl ?_;have hK:=H.within ht ra hr aI;refine BC hK (λv w' h=>cO.pre h kk ht) (λc w' h=>cN.pre h kk ht)
  .iterate 7 (refine V1.i (cJ _ _ _) ?_;refine If.f ?_)
   refine V1.i (cJ _ _ _) ?_;refine If.t ?_;simp only[reduceIte,reduceEq]at hr;refine V1.aG ah λbs ws NS=>?_;have fS:=ht.fu NS.aA NS.ge;have aS:At ws bs (List.map str [gM]):=NS.at_;have kS:=KO.aA (b:=b) NS.aA;obtain⟨ae,qe⟩:=kS.at ht ae qe;replace rl:=kS.rep ht rl;replace rq:=kS.rep ht rq;replace rt:=kS.rep ht rt;replace ra:=kS.rep ht ra;replace rb:=kS.rep ht rb;replace kk:=kk.trans kS ht.ab;replace ht:=ht.aA NS.aA;have cK:=fQ ht aS fS ak rfl (PR.aM hr aI);refine dw cK ?_ (λc w' h=>cN.up h hr kk ht);clear cK;rintro _ wP hP;obtain⟨cV,bB,eP,bU,kP⟩:=cO.out hP;have jN:=(bW.aO _ _ _ _ _ eP).2;have hA:=bJ eP
   simp only[map_cons,map_nil,sum_cons,sum_nil,length_cons,length_nil]at hA;rw[eP,PR.aL]at hr;obtain⟨ae,qe⟩:=kP.at ht ae qe;replace rl:=kP.rep ht rl;replace rq:=kP.rep ht rq;replace rt:=kP.rep ht rt;replace ra:=kP.rep ht ra;replace rb:=kP.rep ht rb;replace kk:=kk.trans kP ht.ab;replace ht:=bU;clear hP eP bU kP;clear aS fS NS kS;refine Up.i (Nc.p _ _) ?_;refine V1.i ah ?_;refine V1.load (aC rfl) (ae) rfl ?_;have hK:=H.more ht rq hr aI;refine tW hK (λv w' h=>cO.pre h kk ht) (λc w' h=>cN.pre h kk ht)
  .iterate 8 (refine V1.i (cJ _ _ _) ?_;refine If.f ?_)
   refine V1.i (cJ _ _ _) ?_;refine If.t ?_;simp only[reduceIte,reduceEq]at hr;refine V1.aG ah λbs ws NS=>?_;have fS:=ht.fu NS.aA NS.ge;have aS:At ws bs (List.map str [ke]):=NS.at_;have kS:=KO.aA (b:=b) NS.aA;obtain⟨ae,qe⟩:=kS.at ht ae qe;replace rl:=kS.rep ht rl;replace rq:=kS.rep ht rq;replace rt:=kS.rep ht rt;replace ra:=kS.rep ht ra;replace rb:=kS.rep ht rb;replace kk:=kk.trans kS ht.ab;replace ht:=ht.aA NS.aA;have cK:=fQ ht aS fS ak hr aI;refine dw cK (λv w' h=>cO.pre h kk ht) (λc w' h=>cN.pre h kk ht)
  .iterate 9 (refine V1.i (cJ _ _ _) ?_;refine If.f ?_)
   refine V1.i (cJ _ _ _) ?_;refine If.t ?_;simp only[reduceIte,reduceEq]at hr;refine V1.aG ah λbs ws NS=>?_;have fS:=ht.fu NS.aA NS.ge;have aS:At ws bs (List.map str [nv]):=NS.at_;have kS:=KO.aA (b:=b) NS.aA;obtain⟨ae,qe⟩:=kS.at ht ae qe;replace rl:=kS.rep ht rl;replace rq:=kS.rep ht rq;replace rt:=kS.rep ht rt;replace ra:=kS.rep ht ra;replace rb:=kS.rep ht rb;replace kk:=kk.trans kS ht.ab;replace ht:=ht.aA NS.aA;have cK:=fQ ht aS fS ak rfl (PR.aM hr aI);refine dw cK ?_ (λc w' h=>cN.up h hr kk ht);clear cK;rintro _ wP hP;obtain⟨cV,bB,eP,bU,kP⟩:=cO.out hP;have jN:=(bW.aO _ _ _ _ _ eP).2;have hA:=bJ eP
   simp only[map_cons,map_nil,sum_cons,sum_nil,length_cons,length_nil]at hA;rw[eP,PR.aL]at hr;obtain⟨ae,qe⟩:=kP.at ht ae qe;replace rl:=kP.rep ht rl;replace rq:=kP.rep ht rq;replace rt:=kP.rep ht rt;replace ra:=kP.rep ht ra;replace rb:=kP.rep ht rb;replace kk:=kk.trans kP ht.ab;replace ht:=bU;clear hP eP bU kP;clear aS fS NS kS;refine Up.i (Nc.p _ _) ?_;refine V1.i ah ?_;refine V1.load (aC rfl) (ae) rfl ?_;have hK:=H.block ht ra rfl (PR.aM hr aI);refine tX hK ?_ (λc w' h=>cN.up h hr kk ht);clear hK;rintro _ wP hP;obtain⟨cV,bB,eP,bU,kP⟩:=cO.out hP;have hA:=cQ _ _ _ _ _ _ eP;rw[eP,PR.aL]at hr;obtain⟨ae,qe⟩:=kP.at ht ae qe;replace rl:=kP.rep ht rl
   replace rq:=kP.rep ht rq;replace rt:=kP.rep ht rt;replace ra:=kP.rep ht ra;replace rb:=kP.rep ht rb;replace kk:=kk.trans kP ht.ab;replace ht:=bU;clear hP eP bU kP;refine Up.i (Nc.p _ _) ?_;refine V1.i ah ?_;refine V1.load (aC rfl) (ae) rfl ?_;refine V1.aG ah λbs ws NS=>?_;have fS:=ht.fu NS.aA NS.ge;have aS:At ws bs (List.map str [[99,97,116,99,104,32],nm]):=NS.at_;have kS:=KO.aA (b:=b) NS.aA;obtain⟨ae,qe⟩:=kS.at ht ae qe;replace rl:=kS.rep ht rl;replace rq:=kS.rep ht rq;replace rt:=kS.rep ht rt;replace ra:=kS.rep ht ra;replace rb:=kS.rep ht rb;replace kk:=kk.trans kS ht.ab;replace ht:=ht.aA NS.aA;have cK:=fQ ht aS fS ak rfl (PR.aM hr aI)
   refine dw cK ?_ (λc w' h=>cN.up h hr kk ht);clear cK;rintro _ wP hP;obtain⟨cV,bB,eP,bU,kP⟩:=cO.out hP;have jN:=(bW.aO _ _ _ _ _ eP).2;have hA:=bJ eP;simp only[map_cons,map_nil,sum_cons,sum_nil,length_cons,length_nil]at hA;rw[eP,PR.aL]at hr;obtain⟨ae,qe⟩:=kP.at ht ae qe;replace rl:=kP.rep ht rl;replace rq:=kP.rep ht rq;replace rt:=kP.rep ht rt;replace ra:=kP.rep ht ra;replace rb:=kP.rep ht rb;replace kk:=kk.trans kP ht.ab;replace ht:=bU;clear hP eP bU kP;clear aS fS NS kS;refine Up.i (Nc.p _ _) ?_;refine V1.i ah ?_;refine V1.load (aC rfl) (ae) rfl ?_;have hK:=H.within ht rb hr aI;refine BC hK (λv w' h=>cO.pre h kk ht) (λc w' h=>cN.pre h kk ht)
  .iterate 10 (refine V1.i (cJ _ _ _) ?_;refine If.f ?_)
   refine V1.i (cJ _ _ _) ?_;refine If.t ?_;simp only[reduceIte,reduceEq]at hr;refine Up.i (Nc.p _ _) ?_;refine V1.i ah ?_;refine V1.load (aC rfl) (ae) rfl ?_;refine V1.aG ah λbs ws NS=>?_;have fS:=ht.fu NS.aA NS.ge;have aS:At ws bs (List.map str [[108,111,99,97,108,32,102,117,110,99,116,105,111,110,32],nm]):=NS.at_;have kS:=KO.aA (b:=b) NS.aA;obtain⟨ae,qe⟩:=kS.at ht ae qe;replace rl:=kS.rep ht rl;replace rq:=kS.rep ht rq;replace rt:=kS.rep ht rt;replace ra:=kS.rep ht ra;replace rb:=kS.rep ht rb;replace kk:=kk.trans kS ht.ab;replace ht:=ht.aA NS.aA;have cK:=fQ ht aS fS ak rfl (PR.aM hr aI);refine dw cK ?_ (λc w' h=>cN.up h hr kk ht);clear cK;rintro _ wP hP
   obtain⟨cV,bB,eP,bU,kP⟩:=cO.out hP;have jN:=(bW.aO _ _ _ _ _ eP).2;have hA:=bJ eP;simp only[map_cons,map_nil,sum_cons,sum_nil,length_cons,length_nil]at hA;rw[eP,PR.aL]at hr;obtain⟨ae,qe⟩:=kP.at ht ae qe;replace rl:=kP.rep ht rl;replace rq:=kP.rep ht rq;replace rt:=kP.rep ht rt;replace ra:=kP.rep ht ra;replace rb:=kP.rep ht rb;replace kk:=kk.trans kP ht.ab;replace ht:=bU;clear hP eP bU kP;clear aS fS NS kS;refine Up.i (Nc.p _ _) ?_;refine V1.i ah ?_;refine V1.load (aC rfl) (ae) rfl ?_
   cases rr with
   |nil=>
    dsimp only at hr;obtain rfl:rv=.pointer none:=rq;refine V1.i ah ?_;refine J1.go (Gd.ft ?_);refine V1.i ah ?_;refine iF (c20 _ false 2) ?_ ?_
    .rintro _ w3 ⟨kQ,_⟩
     cases kQ
    .rintro c w3 ⟨_,rfl,rfl⟩;subst hr;exact⟨rfl,kk,ht.ab,ht.gl⟩
   |ex k2 n2 text l2 r2 oy Ek ix body2=>
    dsimp only at hr;have hu:∃c2 u1 u2 u3 u4 u5 u6 u7,rv=ptr c2/\At wP c2 [.int .i64 k2,.int .i64 u1,.int .i64 n2,str text,u2,u3,u4,u5,u6,u7]:=by
     obtain⟨c2,u1,u2,u3,u4,u5,u6,u7,ri,q2,mv,_⟩:=rq;exact⟨c2,u1,u2,u3,u4,u5,u6,u7,ri,mv⟩
    obtain⟨c2,iq,uE,uF,Cx,uG,A9,uH,ri,mv⟩:=hu;refine V1.bt (by rw[ri];simp[go_sem,ptr];first|done|rfl|exact⟨rfl,rfl⟩) ?_;refine J1.go (Gd.tt ?_);refine Up.i (Nc.p _ _) ?_;refine V1.i ah ?_;refine V1.load (aC rfl) (ae) rfl ?_;rw[ri];refine Up.i (Nc.p _ _) ?_;refine V1.i ah ?_;refine V1.load (aC rfl) (mv) rfl ?_;refine V1.i (cJ _ _ _) ?_;refine V1.i (v:=.bool (k2==9)) (w':=wP) au ?_;by_cases h9:k2=9
    .subst h9;rw[if_pos rfl]at hr;refine iF (c20 _ true 2) ?_ ?_;rotate_left
     .rintro c w3 ⟨kQ,_⟩
      cases kQ
     rintro _ w3 ⟨_,rfl⟩;refine wt (Iy ht rfl) ?_ (λc w' h=>cN.up h hr kk ht);rintro _ wP hP;obtain⟨cV,bB,eP,bU,kP⟩:=cO.out hP;have hA:=bW.part _ _ eP;rw[eP,PR.aL]at hr;obtain⟨ae,qe⟩:=kP.at ht ae qe;replace rq:=kP.rep ht rq;replace kk:=kk.trans kP ht.ab;replace ht:=bU;clear hP eP bU kP;refine Up.i (Nc.p _ _) ?_;refine V1.i ah ?_;refine V1.load (aC rfl) (ae) rfl ?_;have hK:=H.func ht rq hr aI;refine JM hK (λv w' h=>cO.pre h kk ht) (λc w' h=>cN.pre h kk ht)
    .rw[if_neg h9]at hr;rw[show(k2==9)=false by simpa using h9];refine iF (c20 _ false 2) ?_ ?_
     .rintro _ w3 ⟨kQ,_⟩
      cases kQ
     .rintro c w3 ⟨_,rfl,rfl⟩;subst hr;exact⟨rfl,kk,ht.ab,ht.gl⟩
   |hole=>exact absurd hr.symm aI
   |cons=>exact absurd hr.symm aI
   |st=>exact absurd hr.symm aI
 |hole=>exact absurd hr.symm aI
 |cons=>exact absurd hr.symm aI
 |ex=>exact absurd hr.symm aI
theorem ltInt(w:Wd)(cx cy:Bool)(a b:Int):(Bo .lss 3 cx cy (.int .i64 a) (.int .i64 b)).run prog w=.ok (.bool (decide (a<b))) w:=by simp[go_sem,Bo]
theorem lX(w:Wd)(cx cy:Bool)(a b:Int):(Bo .eql 3 cx cy (.int .i64 a) (.int .i64 b)).run prog w=.ok (.bool (a==b)) w:=by simp[go_sem,Bo]
theorem Eu{p q z:Bool}{w:Wd}{X:(VK)->Prop}{E:Sem Va}{e:EK}{g:VK}(hX:∀k:VK,k (.bool q) w->X k)(hE:E.run prog w=.ok (.bool z) w)(hg:g (.bool (p||(q&&z))) w):
  J1 (λk1=>Gd (.bool p) false (X k1) (k1 undef w)) (λBa w=>J1 (λk2=>Gd Ba true (V1 prog E w (λWm w=>k2 Wm w) e) (k2 undef w)) (λWm w=>J1 (λk3=>Gd (.bool p) false (V1 prog (Pk Ba Wm (.bool false)) w (λG3 w=>k3 G3 w) e) (k3 undef w)) (λG3 w=>V1 prog (Pk (.bool p) (.bool true) G3) w g e))):=by
 cases p with
 |true=>
  refine J1.go (Gd.tf ?_);refine J1.go (Gd.u ?_);refine J1.go (Gd.tf ?_);exact V1.bt au hg
 |false=>
  refine J1.go (Gd.ff (hX _ ?_))
  cases q with
  |true=>
   refine J1.go (Gd.tt (V1.i hE ?_));refine J1.go (Gd.ff (V1.i (v:=.bool z) (w':=w) au ?_));exact V1.i (v:=.bool z) (w':=w) au hg
  |false=>
   refine J1.go (Gd.ft ?_);refine J1.go (Gd.ff (V1.bf au ?_));exact V1.bf au hg
theorem Wn{n:Nat}(H:jM n){w:Wd}{b:Nat}{buf:By}{parts:Nat}{k nn:Int}{text:By}{l rr ks gs:Tr}{ps:LB}{body:Tr}{v:Va}{r:PR}(ht:TX w b buf parts)(re:aP (FO b w) w (.ex k nn text l rr ks gs ps body) (.P v))(Iz:kn l=true)(hkr:kn rr=true)
  (hr:((bK n (.inner l (decide (aW l<bD text)||(text==[46,46]&&aW l==bD text))) buf parts).bind λb p=>(aO [[32],text,[32]] b p).bind λb p=>
      bK n (.inner rr (decide (aW rr<bD text)||(!(text==[46,46])&&aW rr==bD text))) b p)=r) (aI:r≠.bH):
  Calls prog 117 #[ptr b,v] w (aZ (λ_=>cO w b r) (cN w b r)):=by
 refine Tc ?_;unfold JU;have kk:=KO.refl b w;obtain⟨c,line,lv,rv,kv,av,pv,bv,rfl,qe,ae,rl,rq,_⟩:=re;have g:=ht.gl;refine⟨λw'=>aD [] w w',(aD.refl _ _).drew,?_⟩;refine⟨_,λw' _=>⟨rfl,rfl⟩,?_⟩;refine Xv.i _ (λw' _=>by simp[go_sem]<;>trivial) ?_;refine Xv.i (str text) (λw' hw=>(aC rfl) _ _ _ (by rw[(aD.at hw ae ak).cell];rfl)) ?_;refine Xq.call (fn:=Tryz.f171) (.int .i64 (bD text)) (aJ func171 (c:=bA Tryz.f171) ai ai _) (λw' hw=>(c171 w' text (g.new hw)).mono ?_) ?_
 .intro e w2 h
  cases e<;>first|exact(False.elim h)|(obtain⟨rfl,h2⟩:=h;exact⟨rfl,aD.trans hw h2⟩)
 refine⟨_,λw' _=>⟨rfl,rfl⟩,?_⟩;refine Xv.i _ (λw' _=>by simp[go_sem]<;>trivial) ?_;refine Xv.i (str text) (λw' hw=>(aC rfl) _ _ _ (by rw[(aD.at hw ae ak).cell];rfl)) ?_;refine Xv.i (.bool (text==[46,46])) (λw' hw=>nq w' _ _ text [46,46]) ?_;intro w1 K1;have kS:=KO.aA (b:=b) K1;obtain⟨ae,qe⟩:=kS.at ht ae qe;replace rl:=kS.rep ht rl;replace rq:=kS.rep ht rq;replace kk:=kk.trans kS ht.ab;replace ht:=ht.aA K1;clear kS;have g1:=g.new K1;refine⟨λw'=>aD [] w1 w',(aD.refl _ _).drew,?_⟩;refine⟨_,λw' _=>⟨rfl,rfl⟩,?_⟩;refine Xv.i _ (λw' _=>by simp[go_sem]<;>trivial) ?_;refine Xv.i lv (λw' hw=>(aC rfl) _ _ _ (by rw[(aD.at hw ae ak).cell];rfl)) ?_
 refine Xq.call (fn:=f172) (.int .i64 (aW l)) (aJ func172 (c:=bA f172) ai ai _) (λw' hw=>(NY (aP.new hw _ _ rl) Iz (g1.new hw)).mono ?_) ?_
 .intro e w2 h
  cases e<;>first|exact(False.elim h)|(obtain⟨rfl,h2⟩:=h;exact⟨rfl,aD.trans hw h2⟩)
 refine⟨_,λw' _=>⟨rfl,rfl⟩,?_⟩;refine Xv.i _ (λw' _=>by simp[go_sem]<;>trivial) ?_;refine Xv.i rv (λw' hw=>(aC rfl) _ _ _ (by rw[(aD.at hw ae ak).cell];rfl)) ?_;refine Xq.call (fn:=f172) (.int .i64 (aW rr)) (aJ func172 (c:=bA f172) ai ai _) (λw' hw=>(NY (aP.new hw _ _ rq) hkr (g1.new hw)).mono ?_) ?_
 .intro e w2 h
  cases e<;>first|exact(False.elim h)|(obtain⟨rfl,h2⟩:=h;exact⟨rfl,aD.trans hw h2⟩)
 intro w2 K2;have kS:=KO.aA (b:=b) K2;obtain⟨ae,qe⟩:=kS.at ht ae qe;replace rl:=kS.rep ht rl;replace rq:=kS.rep ht rq;replace kk:=kk.trans kS ht.ab;replace ht:=ht.aA K2;clear kS;refine Up.i (Nc.p _ _) ?_;refine V1.i ah ?_;refine V1.load (aC rfl) (ae) rfl ?_;refine V1.i (ltInt _ _ _ _ _) ?_;refine Eu (q:=text==[46,46]) (z:=aW l==bD text) (λk h=>h) (lX _ _ _ _ _) ?_;have hK:=H.inner Iz ht rl rfl (PR.aM hr aI);refine oY hK ?_ (λc w' h=>cN.up h hr kk ht);clear hK;rintro _ wP hP;obtain⟨cV,bB,eP,bU,kP⟩:=cO.out hP;have hA:=cQ _ _ _ _ _ _ eP;rw[eP,PR.aL]at hr;obtain⟨ae,qe⟩:=kP.at ht ae qe;replace rl:=kP.rep ht rl;replace rq:=kP.rep ht rq;replace kk:=kk.trans kP ht.ab
 replace ht:=bU;clear hP eP bU kP;refine Up.i (Nc.p _ _) ?_;refine V1.i ah ?_;refine V1.load (aC rfl) (ae) rfl ?_;refine V1.aG ah λbs ws NS=>?_;have fS:=ht.fu NS.aA NS.ge;have aS:At ws bs (List.map str [[32],text,[32]]):=NS.at_;have kS:=KO.aA (b:=b) NS.aA;obtain⟨ae,qe⟩:=kS.at ht ae qe;replace rl:=kS.rep ht rl;replace rq:=kS.rep ht rq;replace kk:=kk.trans kS ht.ab;replace ht:=ht.aA NS.aA;have cK:=fQ ht aS fS ak rfl (PR.aM hr aI);refine dw cK ?_ (λc w' h=>cN.up h hr kk ht);clear cK;rintro _ wP hP;obtain⟨cV,bB,eP,bU,kP⟩:=cO.out hP;have jN:=(bW.aO _ _ _ _ _ eP).2;have hA:=bJ eP
 simp only[map_cons,map_nil,sum_cons,sum_nil,length_cons,length_nil]at hA;rw[eP,PR.aL]at hr;obtain⟨ae,qe⟩:=kP.at ht ae qe;replace rl:=kP.rep ht rl;replace rq:=kP.rep ht rq;replace kk:=kk.trans kP ht.ab;replace ht:=bU;clear hP eP bU kP;clear aS fS NS kS;refine Up.i (Nc.p _ _) ?_;refine V1.i ah ?_;refine V1.load (aC rfl) (ae) rfl ?_;refine V1.i (ltInt _ _ _ _ _) ?_;refine Eu (q:=!(text==[46,46])) (z:=aW rr==bD text) (λk h=>V1.i (v:=.bool (!(text==[46,46]))) au h) (lX _ _ _ _ _) ?_;have hK:=H.inner hkr ht rq hr aI;refine oY hK (λv w' h=>cO.pre h kk ht) (λc w' h=>cN.pre h kk ht)
end Go.Proofs.YtoddjlclpnoomaaGreatDoor

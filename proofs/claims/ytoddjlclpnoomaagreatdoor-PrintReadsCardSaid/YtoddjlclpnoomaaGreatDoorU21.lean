import Derived.Test.YtoddjlclpnoomaaGreatDoorU20
set_option linter.unusedVariables false
set_option linter.unusedSimpArgs false
set_option maxRecDepth 100000
open Go.Proofs.Tryz
open Go.Instr (indexAt)
open List (map_cons length_cons length_nil map_nil sum_cons sum_nil)
open Int (reduceEq)
open Bool (and_eq_true)
namespace Go.Proofs.YtoddjlclpnoomaaGreatDoor
open Go.Sh
theorem KW{n:Nat}(H:jd n){w:Wd}{b b1 b2:Nat}{buf:By}{parts:Nat}{e:Tr}{v:Va}{r:PR}(ht:TX w b buf parts)(re:aU (FO b w) w e (.P v))(a1:At w b1 [ptr b])(a2:At w b2 [v])(hr:bJ n (.expr e) buf parts=r)(aI:r≠.bH):
  Calls prog 169 #[ptr b1,ptr b2] w (aZ (λ_=>cK w b r) (cJ w b r)):=by
 refine PB ?_;unfold Hs;have kk:=KO.refl b w;refine V1.load (aC rfl) (a1) rfl ?_;refine V1.load (aC rfl) (a2) rfl ?_;have hK:=H.expr ht re hr aI;refine oH hK (λv w' h=>cK.pre h kk ht) (λc w' h=>cJ.pre h kk ht)
def OA(b1 b2:Nat):Va:=.func (.func 169) #[] #[ptr b1,ptr b2]
theorem Cs(w:Wd)(b1 b2:Nat):(Cv (OA b1 b2) #[]).run prog w=.ok (.enter 169 #[ptr b1,ptr b2]) w:=ai
theorem KX(w:Wd)(b1 b2:Nat):(Cv (.func (.func 170) #[] #[ptr b1,ptr b2]) #[]).run prog w=.ok (.enter 170 #[ptr b1,ptr b2]) w:=ai
theorem SW{n:Nat}(H:jd n){w:Wd}{b b1 b2 b7:Nat}{buf:By}{parts:Nat}{e:Tr}{v:Va}{r:PR}(ht:TX w b buf parts)(re:aU (FO b w) w e (.P v))(a1:At w b1 [ptr b])(q1:FO b w b1)(a2:At w b2 [v])(q2:FO b w b2)(a7:At w b7 [OA b1 b2])(q7:FO b w b7)
  (hr:((aM [[40]] buf parts).bind λb p=>(bJ n (.expr e) b p).bind λb p=>aM [[41]] b p)=r) (aI:r≠.bH):
  Calls prog 170 #[ptr b1,ptr b7] w (aZ (λ_=>cK w b r) (cJ w b r)):=by
 refine PC ?_;unfold Ht;have kk:=KO.refl b w;refine V1.load (aC rfl) (a1) rfl ?_;refine V1.aG ah λbs ws NS=>?_;have fS:=ht.eR NS.aA NS.ge;have aS:At ws bs (List.map str [[40]]):=NS.at_;have kS:=KO.aA (b:=b) NS.aA;replace re:=kS.rep ht re;obtain⟨a1,q1⟩:=kS.at ht a1 q1;obtain⟨a2,q2⟩:=kS.at ht a2 q2;obtain⟨a7,q7⟩:=kS.at ht a7 q7;replace kk:=kk.trans kS ht.ab;replace ht:=ht.aA NS.aA;have cH:=fj ht aS fS ak rfl (PR.aL hr aI);refine dk cH ?_ (λc w' h=>cJ.up h hr kk ht);clear cH;rintro _ wP hP;obtain⟨cQ,bA,eP,bS,kP⟩:=cK.out hP;have je:=(bT.aM _ _ _ _ _ eP).2;have hA:=bI eP
 simp only[map_cons,map_nil,sum_cons,sum_nil,length_cons,length_nil]at hA;rw[eP,PR.aJ]at hr;replace re:=kP.rep ht re;obtain⟨a1,q1⟩:=kP.at ht a1 q1;obtain⟨a2,q2⟩:=kP.at ht a2 q2;obtain⟨a7,q7⟩:=kP.at ht a7 q7;replace kk:=kk.trans kP ht.ab;replace ht:=bS;clear hP eP bS kP;clear aS fS NS kS;refine V1.load (aC rfl) (a7) rfl ?_;refine Up.c (Cs _ b1 b2) ?_;have EI:=KW H ht re a1 a2 rfl (PR.aL hr aI);refine aZ.imp EI ?_ (λc w' h=>cJ.up h hr kk ht);rintro _ wP hP;obtain⟨cQ,bA,eP,bS,kP⟩:=cK.out hP;rw[eP,PR.aJ]at hr;obtain⟨a1,q1⟩:=kP.at ht a1 q1;replace kk:=kk.trans kP ht.ab;replace ht:=bS;refine V1.load (aC rfl) (a1) rfl ?_
 refine V1.aG ah λbs ws NS=>?_;have fS:=ht.eR NS.aA NS.ge;have aS:At ws bs (List.map str [[41]]):=NS.at_;have kS:=KO.aA (b:=b) NS.aA;obtain⟨a1,q1⟩:=kS.at ht a1 q1;replace kk:=kk.trans kS ht.ab;replace ht:=ht.aA NS.aA;have cH:=fj ht aS fS ak hr aI;refine dk cH (λv w' h=>cK.pre h kk ht) (λc w' h=>cJ.pre h kk ht)
theorem SX{n:Nat}(H:jd n){w:Wd}{b:Nat}{buf:By}{parts:Nat}{e:Tr}{v:Va}{r:PR}{around:Bool}(hv:Sc v=true)(ht:TX w b buf parts)(re:aU (FO b w) w e (.P v))(hr:bJ (n+1) (.inner e around) buf parts=r)(aI:r≠.bH):
  Calls prog 116 #[ptr b,v,.bool around] w (aZ (λ_=>cK w b r) (cJ w b r)):=by
 refine Pv ?_;unfold Hg;have kk:=KO.refl b w;refine V1.new (Pc _ _) λb1 w1 N1=>?_;have a1:At w1 b1 [ptr b]:=N1.at_;have q1:=ht.eR N1.aA N1.ge;have kS:=KO.aA (b:=b) N1.aA;replace re:=kS.rep ht re;replace kk:=kk.trans kS ht.ab;replace ht:=ht.aA N1.aA;clear kS;refine V1.new (Pb _ _) λb2 w2 N2=>?_;have a2:At w2 b2 [v]:=by
  have:=N2.at_
  cases v<;>first|exact this|cases hv
 have q2:=ht.eR N2.aA N2.ge;have kS:=KO.aA (b:=b) N2.aA;replace re:=kS.rep ht re;obtain⟨a1,q1⟩:=kS.at ht a1 q1;replace kk:=kk.trans kS ht.ab;replace ht:=ht.aA N2.aA;clear kS;refine V1.i (v:=OA b1 b2) (w':=w2) (by simp[go_sem];rfl) ?_;refine J1.go ?_
 cases around with
 |false=>
  refine If.f ?_;simp only[bJ]at hr;refine Up.c (Cs _ b1 b2) ?_;have EI:=KW H ht re a1 a2 hr aI;exact aZ.imp EI (λv w' h=>cK.pre h kk ht) (λc w' h=>cJ.pre h kk ht)
 |true=>
  refine If.t ?_;simp only[bJ]at hr;refine V1.new (Yl _) λb7 w7 N7=>?_;refine U1.store (aO rfl rfl) N7.at_ ak λw8 U8=>?_;have a7:At w8 b7 [OA b1 b2]:=U8.at_;have K8:aD [] w2 w8:=N7.aA.trans' U8.aA (by have:=N7.ge;simp;omega);have q7:=ht.eR K8 N7.ge;have kS:=KO.aA (b:=b) K8;replace re:=kS.rep ht re;obtain⟨a1,q1⟩:=kS.at ht a1 q1;obtain⟨a2,q2⟩:=kS.at ht a2 q2;replace kk:=kk.trans kS ht.ab;replace ht:=ht.aA K8;clear kS;refine V1.i (v:=.func (.func 170) #[] #[ptr b1,ptr b7]) (w':=w8) (by simp[go_sem];exact⟨rfl,rfl⟩) ?_;refine Up.c (KX _ b1 b7) ?_;have SY:=SW H ht re a1 q1 a2 q2 a7 q7 hr aI;exact aZ.imp SY (λv w' h=>cK.pre h kk ht) (λc w' h=>cJ.pre h kk ht)
theorem aU.scP{F:Nat->Prop}{w:Wd}{t:Tr}{v:Va}(h:aU F w t (.P v))(hk:t≠.hole):Sc v=true:=by
 cases t with
 |nil=>cases h;rfl
 |ex=>obtain⟨c,line,lv,rv,kv,av,pv,bv,rfl,_⟩:=h;rfl
 |st=>obtain⟨c,line,lv,rv,kv,av,pv,rfl,_⟩:=h;rfl
 |cons=>exact h.elim
 |hole=>exact absurd rfl hk
theorem KY{n:Nat}(H:jd n){w:Wd}{b:Nat}{buf:By}{parts:Nat}{e:Tr}{v:Va}{r:PR}(hk:kn e=true)(ht:TX w b buf parts)(re:aU (FO b w) w e (.P v))(hr:bJ n (.inner e (tP e)) buf parts=r)(aI:r≠.bH):
  Calls prog 114 #[ptr b,v] w (aZ (λ_=>cK w b r) (cJ w b r)):=by
 refine Pt ?_;unfold He;have kk:=KO.refl b w
 cases e with
 |nil=>
  have hv:v=.pointer none:=re;refine V1.bf (by rw[hv];simp[go_sem]) ?_;refine J1.go (Gd.ft ?_);refine V1.i ah ?_;have hK:=H.inner hk ht re hr aI;refine nI hK (λv w' h=>cK.pre h kk ht) (λc w' h=>cJ.pre h kk ht)
 |ex k nn text l rr keys args params body=>
  have hv:∃c line lv rv kv av pv bv,v=ptr c/\FO b w c/\At w c [.int .i64 k,.int .i64 line,.int .i64 nn,str text,lv,rv,kv,av,pv,bv]:=by
   obtain⟨c,line,lv,rv,kv,av,pv,bv,rfl,q,a,_⟩:=re;exact⟨c,line,lv,rv,kv,av,pv,bv,rfl,q,a⟩
  obtain⟨c,line,lv,rv,kv,av,pv,bv,rfl,q1,a1⟩:=hv;refine V1.bt (by simp[go_sem,ptr];first|done|rfl|exact⟨rfl,rfl⟩) ?_;refine J1.go (Gd.tt ?_);refine V1.aG (by simp[go_sem];first|done|rfl|exact⟨rfl,rfl⟩|(repeat' (first|rfl|apply And.intro))) λbs ws NS=>?_;have aS:At ws bs [.int .i64 10,.int .i64 11,.int .i64 9]:=NS.at_;have kS:=KO.aA (b:=b) NS.aA;replace re:=kS.rep ht re;obtain⟨a1,q1⟩:=kS.at ht a1 q1;replace kk:=kk.trans kS ht.ab;replace ht:=ht.aA NS.aA;clear kS;refine Up.i (Nc.p _ _) ?_;refine V1.i ah ?_;refine V1.load (aC rfl) (a1) rfl ?_;refine Hm (SR aS k) ?_ (NP.no (e:=_));rintro _ w2 ⟨rfl,rfl⟩;refine V1.i ah ?_;have hK:=H.inner hk ht re hr aI
  refine nI hK (λv w' h=>cK.pre h kk ht) (λc w' h=>cJ.pre h kk ht)
 |hole=>cases hk
 |cons=>cases hk
 |st=>cases hk
theorem aU.fst{F:Nat->Prop}{w:Wd}{x t:Tr}{q:Nat}{m c:Nat}(h:aU F w (.cons x t) (.L (.slice (some ⟨q,0,none⟩) m c))):∃u,w.cell? ⟨q,0,none⟩=some u/\aU F w x (.P u):=by
 obtain⟨q',n',c',u,e1,h2,h3,h4,h5,h6⟩:=h;injection e1 with e1 _ _;injection e1 with e1;injection e1 with e1 _ _;subst e1;exact⟨u,h4,h5⟩
theorem nZ(w:Wd){b n c:Nat}(h:0<n):(indexAt 26 (.slice (some ⟨b,0,none⟩) n c) (.int .i64 0)).run prog w=.ok (.pointer (some ⟨b,0,none⟩)) w:=sK (k:=0) h
theorem cF(w:Wd)(a b:Int):(Bo .eql 3 false true (.int .i64 a) (.int .i64 b)).run prog w=.ok (.bool (a==b)) w:=by simp[go_sem,Bo]
theorem jT{n:Nat}{word:By}{e:Tr}{buf:By}{parts:Nat}{f:By->Nat->PR}{r:PR}(hr:(bJ n (.more word (eg e)) buf parts).bind f=r)(aI:r≠.bH):kn e=true:=by
 cases n with
 |zero=>simp only[bJ]at hr;exact absurd hr.symm aI
 |succ n=>
  cases e<;>first|rfl|(simp only[bJ,eg]at hr;exact absurd hr.symm aI)
theorem p66{n:Nat}(H:jd n){w:Wd}{b:Nat}{buf:By}{parts:Nat}{k:Int}{nm:By}{l rr t a bb:Tr}{v:Va}{r:PR}(ht:TX w b buf parts)(re:aU (FO b w) w (.st k nm l rr t a bb) (.P v))(hr:bJ (n+1) (.branch rr a bb) buf parts=r)(aI:r≠.bH):
  Calls prog 66 #[ptr b,v] w (aZ (λ_=>cK w b r) (cJ w b r)):=by
 refine YE ?_;unfold VX;have kk:=KO.refl b w;simp only[bJ]at hr;have hk:=jT hr aI;obtain⟨c,line,lv,rv,tv,av,bv,rfl,qe,ae,_,rq,_,ra,rb⟩:=re;refine Up.i (Nc.p _ _) ?_;refine V1.i ah ?_;refine V1.load (aC rfl) (ae) rfl ?_;refine we (KS ht rq hk) ?_ (NP.no (e:=_));rintro _ w2 ⟨rN,K2⟩;have kS:=KO.aA (b:=b) K2;obtain⟨ae,qe⟩:=kS.at ht ae qe;replace ra:=kS.rep ht ra;replace rb:=kS.rep ht rb;replace kk:=kk.trans kS ht.ab;replace ht:=ht.aA K2;clear kS;have hK:=H.more ht rN rfl (PR.aL hr aI);refine rX hK ?_ (λc w' h=>cJ.up h hr kk ht);clear hK;rintro _ wP hP;obtain⟨cQ,bA,eP,bS,kP⟩:=cK.out hP;have hA:=cM _ _ _ _ _ _ eP;rw[eP,PR.aJ]at hr;obtain⟨ae,qe⟩:=kP.at ht ae qe
 replace ra:=kP.rep ht ra;replace rb:=kP.rep ht rb;replace kk:=kk.trans kP ht.ab;replace ht:=bS;clear hP eP bS kP;refine V1.aG ah λbs ws NS=>?_;have fS:=ht.eR NS.aA NS.ge;have aS:At ws bs (List.map str [[32,116,104,101,110]]):=NS.at_;have kS:=KO.aA (b:=b) NS.aA;obtain⟨ae,qe⟩:=kS.at ht ae qe;replace ra:=kS.rep ht ra;replace rb:=kS.rep ht rb;replace kk:=kk.trans kS ht.ab;replace ht:=ht.aA NS.aA;have cH:=fj ht aS fS ak rfl (PR.aL hr aI);refine dk cH ?_ (λc w' h=>cJ.up h hr kk ht);clear cH;rintro _ wP hP;obtain⟨cQ,bA,eP,bS,kP⟩:=cK.out hP;have je:=(bT.aM _ _ _ _ _ eP).2;have hA:=bI eP;simp only[map_cons,map_nil,sum_cons,sum_nil,length_cons,length_nil]at hA
 rw[eP,PR.aJ]at hr;obtain⟨ae,qe⟩:=kP.at ht ae qe;replace ra:=kP.rep ht ra;replace rb:=kP.rep ht rb;replace kk:=kk.trans kP ht.ab;replace ht:=bS;clear hP eP bS kP;clear aS fS NS kS;refine Up.i (Nc.p _ _) ?_;refine V1.i ah ?_;refine V1.load (aC rfl) (ae) rfl ?_;have hK:=H.block ht ra rfl (PR.aL hr aI);refine rY hK ?_ (λc w' h=>cJ.up h hr kk ht);clear hK;rintro _ wP hP;obtain⟨cQ,bA,eP,bS,kP⟩:=cK.out hP;have hA:=cM _ _ _ _ _ _ eP;rw[eP,PR.aJ]at hr;obtain⟨ae,qe⟩:=kP.at ht ae qe;replace ra:=kP.rep ht ra;replace rb:=kP.rep ht rb;replace kk:=kk.trans kP ht.ab;replace ht:=bS;clear hP eP bS kP;refine Up.i (Nc.p _ _) ?_;refine V1.i ah ?_
 refine V1.load (aC rfl) (ae) rfl ?_
 cases bb with
 |nil=>
  have hb:∃a c,bv=.slice a 0 c:=by rcases rb with rfl|⟨b,c,rfl⟩<;>exact⟨_,_,rfl⟩
  obtain⟨ba,bc,rfl⟩:=hb;refine V1.i ah ?_;refine V1.i ah ?_;refine J1.go (Gd.ft ?_);refine V1.i ah ?_;refine J1.go (Gd.ft ?_);refine V1.i ah ?_;refine If.f ?_;refine J0.go ?_;refine Up.i (Nc.p _ _) ?_;refine V1.i ah ?_;refine V1.load (aC rfl) (ae) rfl ?_;refine V1.i ah ?_;refine V1.i ah ?_;refine If.f ?_;dsimp only at hr;refine V1.aG ah λbs ws NS=>?_;have fS:=ht.eR NS.aA NS.ge;have aS:At ws bs (List.map str [cO]):=NS.at_;have kS:=KO.aA (b:=b) NS.aA;obtain⟨ae,qe⟩:=kS.at ht ae qe;replace ra:=kS.rep ht ra;replace rb:=kS.rep ht rb;replace kk:=kk.trans kS ht.ab
  replace ht:=ht.aA NS.aA;have cH:=fj ht aS fS ak hr aI;refine dk cH (λv w' h=>cK.pre h kk ht) (λc w' h=>cJ.pre h kk ht)
 |cons x y=>
  have hb:∃q m c,bv=.slice (some ⟨q,0,none⟩) (m+1) c/\aU (FO b wP) wP y (.E q 1 m):=by
   obtain⟨q,m,c,u,e1,h2,h3,h4,h5,h6⟩:=rb;exact⟨q,m,c,e1,h6⟩
  obtain⟨q,m,bc,rfl,ry⟩:=hb;refine V1.i ah ?_
  cases y with
  |cons y1 y2=>
   obtain⟨m',_,rfl,_⟩:=ry;have pL:((aM [dU] cQ bA).bind λb p=>(bJ n (.block (.cons x (.cons y1 y2))) b p).bind λb p=>aM [cO] b p)=r:=by
    cases x<;>exact hr
   clear hr;have hr:=pL;clear pL;refine V1.i (cF _ _ _) ?_;rw[show(((m'+1:Nat):Int)+1==1)=false by simp;omega];refine J1.go (Gd.ft ?_);refine V1.i ah ?_;refine J1.go (Gd.ft ?_);refine V1.i ah ?_;refine If.f ?_;refine J0.go ?_;refine Up.i (Nc.p _ _) ?_;refine V1.i ah ?_;refine V1.load (aC rfl) (ae) rfl ?_;refine V1.i ah ?_;refine V1.bt (by simp[go_sem];first|done|rfl|omega|exact⟨by omega,rfl⟩) ?_;refine If.t ?_;refine V1.aG ah λbs ws NS=>?_;have fS:=ht.eR NS.aA NS.ge;have aS:At ws bs (List.map str [dU]):=NS.at_;have kS:=KO.aA (b:=b) NS.aA;obtain⟨ae,qe⟩:=kS.at ht ae qe;replace rb:=kS.rep ht rb
   replace kk:=kk.trans kS ht.ab;replace ht:=ht.aA NS.aA;have cH:=fj ht aS fS ak rfl (PR.aL hr aI);refine dk cH ?_ (λc w' h=>cJ.up h hr kk ht);clear cH;rintro _ wP hP;obtain⟨cQ,bA,eP,bS,kP⟩:=cK.out hP;have je:=(bT.aM _ _ _ _ _ eP).2;have hA:=bI eP;simp only[map_cons,map_nil,sum_cons,sum_nil,length_cons,length_nil]at hA;rw[eP,PR.aJ]at hr;obtain⟨ae,qe⟩:=kP.at ht ae qe;replace rb:=kP.rep ht rb;replace kk:=kk.trans kP ht.ab;replace ht:=bS;clear hP eP bS kP;clear aS fS NS kS;refine Up.i (Nc.p _ _) ?_;refine V1.i ah ?_;refine V1.load (aC rfl) (ae) rfl ?_;have hK:=H.block ht rb rfl (PR.aL hr aI);refine rY hK ?_ (λc w' h=>cJ.up h hr kk ht);clear hK;rintro _ wP hP
   obtain⟨cQ,bA,eP,bS,kP⟩:=cK.out hP;have hA:=cM _ _ _ _ _ _ eP;rw[eP,PR.aJ]at hr;obtain⟨ae,qe⟩:=kP.at ht ae qe;replace rb:=kP.rep ht rb;replace kk:=kk.trans kP ht.ab;replace ht:=bS;clear hP eP bS kP;refine V1.aG ah λbs ws NS=>?_;have fS:=ht.eR NS.aA NS.ge;have aS:At ws bs (List.map str [cO]):=NS.at_;have kS:=KO.aA (b:=b) NS.aA;obtain⟨ae,qe⟩:=kS.at ht ae qe;replace rb:=kS.rep ht rb;replace kk:=kk.trans kS ht.ab;replace ht:=ht.aA NS.aA;have cH:=fj ht aS fS ak hr aI;refine dk cH (λv w' h=>cK.pre h kk ht) (λc w' h=>cJ.pre h kk ht)
  |nil=>
   obtain rfl:m=0:=ry;obtain⟨u,hc,rx⟩:=rb.fst;refine V1.i ah ?_;refine J1.go (Gd.tt ?_);refine Up.i (Nc.p _ _) ?_;refine V1.i ah ?_;refine V1.load (aC rfl) (ae) rfl ?_;refine V1.i (nZ _ aj) ?_;refine V1.i ((aC rfl) _ _ _ hc) ?_
   cases x with
   |nil=>
    obtain rfl:u=.pointer none:=rx;refine V1.i ah ?_;refine V1.i ah ?_;refine J1.go (Gd.ft ?_);refine V1.i ah ?_;refine If.f ?_;dsimp only at hr;refine J0.go ?_;refine Up.i (Nc.p _ _) ?_;refine V1.i ah ?_;refine V1.load (aC rfl) (ae) rfl ?_;refine V1.i ah ?_;refine V1.bt (by simp[go_sem];first|done|rfl|omega|exact⟨by omega,rfl⟩) ?_;refine If.t ?_;refine V1.aG ah λbs ws NS=>?_;have fS:=ht.eR NS.aA NS.ge;have aS:At ws bs (List.map str [dU]):=NS.at_;have kS:=KO.aA (b:=b) NS.aA;obtain⟨ae,qe⟩:=kS.at ht ae qe;replace rb:=kS.rep ht rb;replace kk:=kk.trans kS ht.ab
    replace ht:=ht.aA NS.aA;have cH:=fj ht aS fS ak rfl (PR.aL hr aI);refine dk cH ?_ (λc w' h=>cJ.up h hr kk ht);clear cH;rintro _ wP hP;obtain⟨cQ,bA,eP,bS,kP⟩:=cK.out hP;have je:=(bT.aM _ _ _ _ _ eP).2;have hA:=bI eP;simp only[map_cons,map_nil,sum_cons,sum_nil,length_cons,length_nil]at hA;rw[eP,PR.aJ]at hr;obtain⟨ae,qe⟩:=kP.at ht ae qe;replace rb:=kP.rep ht rb;replace kk:=kk.trans kP ht.ab;replace ht:=bS;clear hP eP bS kP;clear aS fS NS kS;refine Up.i (Nc.p _ _) ?_;refine V1.i ah ?_;refine V1.load (aC rfl) (ae) rfl ?_;have hK:=H.block ht rb rfl (PR.aL hr aI);refine rY hK ?_ (λc w' h=>cJ.up h hr kk ht);clear hK;rintro _ wP hP
    obtain⟨cQ,bA,eP,bS,kP⟩:=cK.out hP;have hA:=cM _ _ _ _ _ _ eP;rw[eP,PR.aJ]at hr;obtain⟨ae,qe⟩:=kP.at ht ae qe;replace rb:=kP.rep ht rb;replace kk:=kk.trans kP ht.ab;replace ht:=bS;clear hP eP bS kP;refine V1.aG ah λbs ws NS=>?_;have fS:=ht.eR NS.aA NS.ge;have aS:At ws bs (List.map str [cO]):=NS.at_;have kS:=KO.aA (b:=b) NS.aA;obtain⟨ae,qe⟩:=kS.at ht ae qe;replace rb:=kS.rep ht rb;replace kk:=kk.trans kS ht.ab;replace ht:=ht.aA NS.aA;have cH:=fj ht aS fS ak hr aI;refine dk cH (λv w' h=>cK.pre h kk ht) (λc w' h=>cJ.pre h kk ht)
   |st k2 nm2 l2 r2 t2 a2 b2=>
    have hu:∃c2 line lv rv tv av bv,u=ptr c2/\At wP c2 [.int .i64 k2,.int .i64 line,str nm2,lv,rv,tv,av,bv]:=by
     obtain⟨c2,line,lv,rv,tv,av,bv,rfl,q2,oa,_⟩:=rx;exact⟨c2,line,lv,rv,tv,av,bv,rfl,oa⟩
    obtain⟨c2,gK,sL,sM,KZ,sN,sO,rfl,oa⟩:=hu;refine V1.bt (by simp[go_sem,ptr];first|done|rfl|exact⟨rfl,rfl⟩) ?_;refine V1.i ah ?_;refine J1.go (Gd.tt ?_);refine Up.i (Nc.p _ _) ?_;refine V1.i ah ?_;refine V1.load (aC rfl) (ae) rfl ?_;refine V1.i (nZ _ aj) ?_;refine V1.i ((aC rfl) _ _ _ hc) ?_;refine Up.i (Nc.p _ _) ?_;refine V1.i ah ?_;refine V1.load (aC rfl) (oa) rfl ?_;refine V1.i (v:=.bool (k2==6)) (w':=_) (by simp[go_sem];first|done|rfl) ?_;refine V1.i (v:=.bool (k2==6)) (w':=_) (by simp[go_sem];first|done|rfl) ?_;dsimp only at hr;by_cases h6:k2=6
    .subst h6;rw[if_pos rfl]at hr;refine If.t ?_;refine uz (F4 ht rfl) ?_ (λc w' h=>cJ.up h hr kk ht);rintro _ wP hP;obtain⟨cQ,bA,eP,bS,kP⟩:=cK.out hP;have hA:=bT.part _ _ eP;rw[eP,PR.aJ]at hr;obtain⟨ae,qe⟩:=kP.at ht ae qe;replace rx:=kP.rep ht rx;replace rb:=kP.rep ht rb;replace kk:=kk.trans kP ht.ab;replace ht:=bS;clear hP eP bS kP;refine V1.aG ah λbs ws NS=>?_;have fS:=ht.eR NS.aA NS.ge;have aS:At ws bs (List.map str [ew]):=NS.at_;have kS:=KO.aA (b:=b) NS.aA;obtain⟨ae,qe⟩:=kS.at ht ae qe;replace rx:=kS.rep ht rx;replace rb:=kS.rep ht rb;replace kk:=kk.trans kS ht.ab;replace ht:=ht.aA NS.aA;have cH:=fj ht aS fS ak rfl (PR.aL hr aI)
     refine dk cH ?_ (λc w' h=>cJ.up h hr kk ht);clear cH;rintro _ wP hP;obtain⟨cQ,bA,eP,bS,kP⟩:=cK.out hP;have je:=(bT.aM _ _ _ _ _ eP).2;have hA:=bI eP;simp only[map_cons,map_nil,sum_cons,sum_nil,length_cons,length_nil]at hA;rw[eP,PR.aJ]at hr;obtain⟨ae,qe⟩:=kP.at ht ae qe;replace rx:=kP.rep ht rx;replace rb:=kP.rep ht rb;replace kk:=kk.trans kP ht.ab;replace ht:=bS;clear hP eP bS kP;clear aS fS NS kS;refine Up.i (Nc.p _ _) ?_;refine V1.i ah ?_;refine V1.load (aC rfl) (ae) rfl ?_;obtain⟨u',hc,rx'⟩:=rb.fst;refine V1.i (nZ _ aj) ?_;refine V1.i ((aC rfl) _ _ _ hc) ?_;have hK:=H.branch ht rx' hr aI;refine G9 hK (λv w' h=>cK.pre h kk ht) (λc w' h=>cJ.pre h kk ht)
    .rw[if_neg h6]at hr;rw[show(k2==6)=false by simpa using h6];refine If.f ?_;refine J0.go ?_;refine Up.i (Nc.p _ _) ?_;refine V1.i ah ?_;refine V1.load (aC rfl) (ae) rfl ?_;refine V1.i ah ?_;refine V1.bt (by simp[go_sem];first|done|rfl|omega|exact⟨by omega,rfl⟩) ?_;refine If.t ?_;refine V1.aG ah λbs ws NS=>?_;have fS:=ht.eR NS.aA NS.ge;have aS:At ws bs (List.map str [dU]):=NS.at_;have kS:=KO.aA (b:=b) NS.aA;obtain⟨ae,qe⟩:=kS.at ht ae qe;replace rb:=kS.rep ht rb;replace kk:=kk.trans kS ht.ab;replace ht:=ht.aA NS.aA;have cH:=fj ht aS fS ak rfl (PR.aL hr aI);refine dk cH ?_ (λc w' h=>cJ.up h hr kk ht);clear cH;rintro _ wP hP
     obtain⟨cQ,bA,eP,bS,kP⟩:=cK.out hP;have je:=(bT.aM _ _ _ _ _ eP).2;have hA:=bI eP;simp only[map_cons,map_nil,sum_cons,sum_nil,length_cons,length_nil]at hA;rw[eP,PR.aJ]at hr;obtain⟨ae,qe⟩:=kP.at ht ae qe;replace rb:=kP.rep ht rb;replace kk:=kk.trans kP ht.ab;replace ht:=bS;clear hP eP bS kP;clear aS fS NS kS;refine Up.i (Nc.p _ _) ?_;refine V1.i ah ?_;refine V1.load (aC rfl) (ae) rfl ?_;have hK:=H.block ht rb rfl (PR.aL hr aI);refine rY hK ?_ (λc w' h=>cJ.up h hr kk ht);clear hK;rintro _ wP hP;obtain⟨cQ,bA,eP,bS,kP⟩:=cK.out hP;have hA:=cM _ _ _ _ _ _ eP;rw[eP,PR.aJ]at hr;obtain⟨ae,qe⟩:=kP.at ht ae qe;replace rb:=kP.rep ht rb
     replace kk:=kk.trans kP ht.ab;replace ht:=bS;clear hP eP bS kP;refine V1.aG ah λbs ws NS=>?_;have fS:=ht.eR NS.aA NS.ge;have aS:At ws bs (List.map str [cO]):=NS.at_;have kS:=KO.aA (b:=b) NS.aA;obtain⟨ae,qe⟩:=kS.at ht ae qe;replace rb:=kS.rep ht rb;replace kk:=kk.trans kS ht.ab;replace ht:=ht.aA NS.aA;have cH:=fj ht aS fS ak hr aI;refine dk cH (λv w' h=>cK.pre h kk ht) (λc w' h=>cJ.pre h kk ht)
   |hole=>dsimp only at hr;exact absurd hr.symm aI
   |ex=>dsimp only at hr;exact absurd hr.symm aI
   |cons=>exact rx.elim
  |hole=>cases x<;>(dsimp only at hr;exact absurd hr.symm aI)
  |ex=>exact ry.elim
  |st=>exact ry.elim
 |hole=>dsimp only at hr;exact absurd hr.symm aI
 |ex=>exact rb.elim
 |st=>exact rb.elim
theorem xK{n:Nat}{word:By}{e:Tr}{buf:By}{parts:Nat}{r:PR}(hr:bJ n (.more word (eg e)) buf parts=r)(aI:r≠.bH):kn e=true:=
 jT (f:=.ok) (r:=r) (by rw[hr];cases r<;>rfl) aI
theorem p35{n:Nat}(H:jd n){w:Wd}{b:Nat}{buf:By}{parts:Nat}{e:Tr}{v:Va}{r:PR}(ht:TX w b buf parts)(re:aU (FO b w) w e (.P v))(hr:bJ (n+1) (.stmt e) buf parts=r)(aI:r≠.bH):
  Calls prog 35 #[ptr b,v] w (aZ (λ_=>cK w b r) (cJ w b r)):=by
 refine Ys ?_;unfold VN;have kk:=KO.refl b w;simp only[bJ]at hr
 cases e with
 |nil=>
  dsimp only at hr;obtain rfl:v=.pointer none:=re;refine V1.i ah ?_;refine J1.go (Gd.ft ?_);refine V1.i ah ?_;refine J1.go (Gd.ft ?_);refine V1.i ah ?_;refine gX (c20 w false 2) ?_ ?_
  .rintro _ w3 ⟨jS,_⟩
   cases jS
  .rintro c w3 ⟨_,rfl,rfl⟩;subst hr;exact⟨rfl,kk,ht.ab,ht.gl⟩
 |st k nm l rr t a bb=>
  dsimp only at hr;obtain⟨c,line,lv,rv,tv,av,bv,rfl,qe,ae,rl,rq,rt,ra,rb⟩:=re;refine V1.bt (by simp[go_sem,ptr];first|done|rfl|exact⟨rfl,rfl⟩) ?_;refine J1.go (Gd.tt ?_);refine Up.i (Nc.p _ _) ?_;refine V1.i ah ?_;refine V1.load (aC rfl) (ae) rfl ?_;refine V1.i (v:=.bool (decide (1<=k))) (w':=w) am ?_;refine V1.i (v:=.bool (decide (1<=k))) (w':=w) am ?_;refine J1.gd (decide (k<=11)) (λh kx dO=>?_) ?_
  .refine Up.i (Nc.p _ _) ?_;refine V1.i ah ?_;refine V1.load (aC rfl) (ae) rfl ?_;refine V1.i (v:=.bool (decide (k<=11))) (w':=w) am ?_;exact dO
  refine V1.i (fP _ _ _) ?_;by_cases hk:k<1\/11<k
  .rw[if_pos hk]at hr;have hb:(decide (1<=k)&&decide (k<=11))=false:=by
    rw[Bool.and_eq_false_iff];simp;omega
   rw[hb];refine gX (c20 w false 2) ?_ ?_
   .rintro _ w3 ⟨jS,_⟩
    cases jS
   .rintro c w3 ⟨_,rfl,rfl⟩;subst hr;exact⟨rfl,kk,ht.ab,ht.gl⟩
  rw[if_neg hk]at hr;have hb:(decide (1<=k)&&decide (k<=11))=true:=by
   rw[and_eq_true];simp;omega
  rw[hb];refine gX (c20 w true 2) ?_ ?_;rotate_left
  .rintro c w3 ⟨jS,_⟩
   cases jS
  rintro _ w3 ⟨_,rfl⟩;refine uz (F4 ht rfl) ?_ (λc w' h=>cJ.up h hr kk ht);rintro _ wP hP;obtain⟨cQ,bA,eP,bS,kP⟩:=cK.out hP;have hA:=bT.part _ _ eP;rw[eP,PR.aJ]at hr;obtain⟨ae,qe⟩:=kP.at ht ae qe;replace rl:=kP.rep ht rl;replace rq:=kP.rep ht rq;replace rt:=kP.rep ht rt;replace ra:=kP.rep ht ra;replace rb:=kP.rep ht rb;replace kk:=kk.trans kP ht.ab;replace ht:=bS;clear hP eP bS kP;refine Up.i (Nc.p _ _) ?_;refine V1.i ah ?_;refine V1.load (aC rfl) (ae) rfl ?_;have lK:k=1\/k=2\/k=3\/k=4\/k=5\/k=6\/k=7\/k=8\/k=9\/k=10\/k=11:=by omega
  clear hb hk;rcases lK with rfl|rfl|rfl|rfl|rfl|rfl|rfl|rfl|rfl|rfl|rfl
  .refine V1.i (cF _ _ _) ?_;refine If.t ?_;simp only[reduceIte,reduceEq]at hr;refine Up.i (Nc.p _ _) ?_;refine V1.i ah ?_;refine V1.load (aC rfl) (ae) rfl ?_;refine V1.aG ah λbs ws NS=>?_;have fS:=ht.eR NS.aA NS.ge;have aS:At ws bs (List.map str [[108,111,99,97,108,32],nm]):=NS.at_;have kS:=KO.aA (b:=b) NS.aA;obtain⟨ae,qe⟩:=kS.at ht ae qe;replace rl:=kS.rep ht rl;replace rq:=kS.rep ht rq;replace rt:=kS.rep ht rt;replace ra:=kS.rep ht ra;replace rb:=kS.rep ht rb;replace kk:=kk.trans kS ht.ab;replace ht:=ht.aA NS.aA;have cH:=fj ht aS fS ak rfl (PR.aL hr aI);refine dk cH ?_ (λc w' h=>cJ.up h hr kk ht);clear cH;rintro _ wP hP;obtain⟨cQ,bA,eP,bS,kP⟩:=cK.out hP
   have je:=(bT.aM _ _ _ _ _ eP).2;have hA:=bI eP;simp only[map_cons,map_nil,sum_cons,sum_nil,length_cons,length_nil]at hA;rw[eP,PR.aJ]at hr;obtain⟨ae,qe⟩:=kP.at ht ae qe;replace rl:=kP.rep ht rl;replace rq:=kP.rep ht rq;replace rt:=kP.rep ht rt;replace ra:=kP.rep ht ra;replace rb:=kP.rep ht rb;replace kk:=kk.trans kP ht.ab;replace ht:=bS;clear hP eP bS kP;clear aS fS NS kS;refine Up.i (Nc.p _ _) ?_;refine V1.i ah ?_;refine V1.load (aC rfl) (ae) rfl ?_;have hK:=H.more ht rq hr aI;refine rX hK (λv w' h=>cK.pre h kk ht) (λc w' h=>cJ.pre h kk ht)
  .iterate 1 (refine V1.i (cF _ _ _) ?_;refine If.f ?_)
   refine V1.i (cF _ _ _) ?_;refine If.t ?_;simp only[reduceIte,reduceEq]at hr;refine Up.i (Nc.p _ _) ?_;refine V1.i ah ?_;refine V1.load (aC rfl) (ae) rfl ?_;have hK:=H.expr ht rl rfl (PR.aL hr aI);refine oH hK ?_ (λc w' h=>cJ.up h hr kk ht);clear hK;rintro _ wP hP;obtain⟨cQ,bA,eP,bS,kP⟩:=cK.out hP;have hA:=cM _ _ _ _ _ _ eP;rw[eP,PR.aJ]at hr;obtain⟨ae,qe⟩:=kP.at ht ae qe;replace rl:=kP.rep ht rl;replace rq:=kP.rep ht rq;replace rt:=kP.rep ht rt;replace ra:=kP.rep ht ra;replace rb:=kP.rep ht rb;replace kk:=kk.trans kP ht.ab;replace ht:=bS;clear hP eP bS kP;refine Up.i (Nc.p _ _) ?_;refine V1.i ah ?_;refine V1.load (aC rfl) (ae) rfl ?_;have hk:=xK hr aI
   refine we (KS ht rq hk) ?_ (NP.no (e:=_));rintro _ w2 ⟨rN,K2⟩;have kS:=KO.aA (b:=b) K2;obtain⟨ae,qe⟩:=kS.at ht ae qe;replace rl:=kS.rep ht rl;replace rq:=kS.rep ht rq;replace rt:=kS.rep ht rt;replace ra:=kS.rep ht ra;replace rb:=kS.rep ht rb;replace kk:=kk.trans kS ht.ab;replace ht:=ht.aA K2;clear kS;have hK:=H.more ht rN hr aI;refine rX hK (λv w' h=>cK.pre h kk ht) (λc w' h=>cJ.pre h kk ht)
  .iterate 2 (refine V1.i (cF _ _ _) ?_;refine If.f ?_)
   refine V1.i (cF _ _ _) ?_;refine If.t ?_;simp only[reduceIte,reduceEq]at hr;refine Up.i (Nc.p _ _) ?_;refine V1.i ah ?_;refine V1.load (aC rfl) (ae) rfl ?_;have hK:=H.expr ht rq hr aI;refine oH hK (λv w' h=>cK.pre h kk ht) (λc w' h=>cJ.pre h kk ht)
  .iterate 3 (refine V1.i (cF _ _ _) ?_;refine If.f ?_)
   refine V1.i (cF _ _ _) ?_;refine If.t ?_;simp only[reduceIte,reduceEq]at hr;refine Up.i (Nc.p _ _) ?_;refine V1.i ah ?_;refine V1.load (aC rfl) (ae) rfl ?_;have hK:=H.within ht ra hr aI;refine zG hK (λv w' h=>cK.pre h kk ht) (λc w' h=>cJ.pre h kk ht)
  .iterate 4 (refine V1.i (cF _ _ _) ?_;refine If.f ?_)
   refine V1.i (cF _ _ _) ?_;refine If.t ?_;simp only[reduceIte,reduceEq]at hr;refine Up.i (Nc.p _ _) ?_;refine V1.i ah ?_;refine V1.load (aC rfl) (ae) rfl ?_;have hk:=jT hr aI;refine we (KS ht rq hk) ?_ (NP.no (e:=_));rintro _ w2 ⟨rN,K2⟩;have kS:=KO.aA (b:=b) K2;obtain⟨ae,qe⟩:=kS.at ht ae qe;replace rl:=kS.rep ht rl;replace rq:=kS.rep ht rq;replace rt:=kS.rep ht rt;replace ra:=kS.rep ht ra;replace rb:=kS.rep ht rb;replace kk:=kk.trans kS ht.ab;replace ht:=ht.aA K2;clear kS;have hK:=H.more ht rN rfl (PR.aL hr aI);refine rX hK ?_ (λc w' h=>cJ.up h hr kk ht);clear hK;rintro _ wP hP;obtain⟨cQ,bA,eP,bS,kP⟩:=cK.out hP;have hA:=cM _ _ _ _ _ _ eP;rw[eP,PR.aJ]at hr;have La:=kP.at ht ae qe;clear ae qe
   obtain⟨ae,qe⟩:=La;replace rl:=kP.rep ht rl;replace rq:=kP.rep ht rq;replace rt:=kP.rep ht rt;replace ra:=kP.rep ht ra;replace rb:=kP.rep ht rb;replace kk:=kk.trans kP ht.ab;replace ht:=bS;clear hP eP bS kP;refine Up.i (Nc.p _ _) ?_;refine V1.i ah ?_;refine V1.load (aC rfl) (ae) rfl ?_;have hK:=H.within ht ra hr aI;refine zG hK (λv w' h=>cK.pre h kk ht) (λc w' h=>cJ.pre h kk ht)
  .iterate 5 (refine V1.i (cF _ _ _) ?_;refine If.f ?_)
   refine V1.i (cF _ _ _) ?_;refine If.t ?_;simp only[reduceIte,reduceEq]at hr;refine V1.aG ah λbs ws NS=>?_;have fS:=ht.eR NS.aA NS.ge;have aS:At ws bs (List.map str [BB]):=NS.at_;have kS:=KO.aA (b:=b) NS.aA;obtain⟨ae,qe⟩:=kS.at ht ae qe;replace rl:=kS.rep ht rl;replace rq:=kS.rep ht rq;replace rt:=kS.rep ht rt;replace ra:=kS.rep ht ra;replace rb:=kS.rep ht rb;replace kk:=kk.trans kS ht.ab;replace ht:=ht.aA NS.aA;have cH:=fj ht aS fS ak rfl (PR.aL hr aI);refine dk cH ?_ (λc w' h=>cJ.up h hr kk ht);clear cH;rintro _ wP hP;obtain⟨cQ,bA,eP,bS,kP⟩:=cK.out hP;have je:=(bT.aM _ _ _ _ _ eP).2;have hA:=bI eP
   simp only[map_cons,map_nil,sum_cons,sum_nil,length_cons,length_nil]at hA;rw[eP,PR.aJ]at hr;obtain⟨ae,qe⟩:=kP.at ht ae qe;replace rl:=kP.rep ht rl;replace rq:=kP.rep ht rq;replace rt:=kP.rep ht rt;replace ra:=kP.rep ht ra;replace rb:=kP.rep ht rb;replace kk:=kk.trans kP ht.ab;replace ht:=bS;clear hP eP bS kP;clear aS fS NS kS;have hK:=H.branch ht ⟨c,line,lv,rv,tv,av,bv,rfl,qe,ae,rl,rq,rt,ra,rb⟩ hr aI;refine G9 hK (λv w' h=>cK.pre h kk ht) (λc w' h=>cJ.pre h kk ht)
  .iterate 6 (refine V1.i (cF _ _ _) ?_;refine If.f ?_)
   refine V1.i (cF _ _ _) ?_;refine If.t ?_;simp only[reduceIte,reduceEq]at hr;refine Up.i (Nc.p _ _) ?_;refine V1.i ah ?_;refine V1.load (aC rfl) (ae) rfl ?_;refine V1.aG ah λbs ws NS=>?_;have fS:=ht.eR NS.aA NS.ge;have aS:At ws bs (List.map str [[102,111,114,32],nm]):=NS.at_;have kS:=KO.aA (b:=b) NS.aA;obtain⟨ae,qe⟩:=kS.at ht ae qe;replace rl:=kS.rep ht rl;replace rq:=kS.rep ht rq;replace rt:=kS.rep ht rt;replace ra:=kS.rep ht ra;replace rb:=kS.rep ht rb;replace kk:=kk.trans kS ht.ab;replace ht:=ht.aA NS.aA;have cH:=fj ht aS fS ak rfl (PR.aL hr aI);refine dk cH ?_ (λc w' h=>cJ.up h hr kk ht);clear cH;rintro _ wP hP;obtain⟨cQ,bA,eP,bS,kP⟩:=cK.out hP
   have je:=(bT.aM _ _ _ _ _ eP).2;have hA:=bI eP;simp only[map_cons,map_nil,sum_cons,sum_nil,length_cons,length_nil]at hA;rw[eP,PR.aJ]at hr;obtain⟨ae,qe⟩:=kP.at ht ae qe;replace rl:=kP.rep ht rl;replace rq:=kP.rep ht rq;replace rt:=kP.rep ht rt;replace ra:=kP.rep ht ra;replace rb:=kP.rep ht rb;replace kk:=kk.trans kP ht.ab;replace ht:=bS;clear hP eP bS kP;clear aS fS NS kS;refine Up.i (Nc.p _ _) ?_;refine V1.i ah ?_;refine V1.load (aC rfl) (ae) rfl ?_;have hk:=jT hr aI;refine we (KS ht rq hk) ?_ (NP.no (e:=_));rintro _ w2 ⟨rN,K2⟩;have kS:=KO.aA (b:=b) K2;obtain⟨ae,qe⟩:=kS.at ht ae qe;replace rl:=kS.rep ht rl;replace rq:=kS.rep ht rq;replace rt:=kS.rep ht rt
   replace ra:=kS.rep ht ra;replace rb:=kS.rep ht rb;replace kk:=kk.trans kS ht.ab;replace ht:=ht.aA K2;clear kS;have hK:=H.more ht rN rfl (PR.aL hr aI);refine rX hK ?_ (λc w' h=>cJ.up h hr kk ht);clear hK;rintro _ wP hP;obtain⟨cQ,bA,eP,bS,kP⟩:=cK.out hP;have hA:=cM _ _ _ _ _ _ eP;rw[eP,PR.aJ]at hr;obtain⟨ae,qe⟩:=kP.at ht ae qe;replace rl:=kP.rep ht rl;replace rq:=kP.rep ht rq;replace rt:=kP.rep ht rt;replace ra:=kP.rep ht ra;replace rb:=kP.rep ht rb;replace kk:=kk.trans kP ht.ab;replace ht:=bS;clear hP eP bS kP;refine Up.i (Nc.p _ _) ?_;refine V1.i ah ?_;refine V1.load (aC rfl) (ae) rfl ?_;have hk:=jT hr aI;refine we (KS ht rt hk) ?_ (NP.no (e:=_));rintro _ w2 ⟨rN,K2⟩;have kS:=KO.aA (b:=b) K2
   obtain⟨ae,qe⟩:=kS.at ht ae qe;replace rl:=kS.rep ht rl;replace rq:=kS.rep ht rq;replace rt:=kS.rep ht rt;replace ra:=kS.rep ht ra;replace rb:=kS.rep ht rb;replace kk:=kk.trans kS ht.ab;replace ht:=ht.aA K2;clear kS;have hK:=H.more ht rN rfl (PR.aL hr aI);refine rX hK ?_ (λc w' h=>cJ.up h hr kk ht);clear hK;rintro _ wP hP;obtain⟨cQ,bA,eP,bS,kP⟩:=cK.out hP;have hA:=cM _ _ _ _ _ _ eP;rw[eP,PR.aJ]at hr;obtain⟨ae,qe⟩:=kP.at ht ae qe;replace rl:=kP.rep ht rl;replace rq:=kP.rep ht rq;replace rt:=kP.rep ht rt;replace ra:=kP.rep ht ra;replace rb:=kP.rep ht rb;replace kk:=kk.trans kP ht.ab;replace ht:=bS;clear hP eP bS kP;refine Up.i (Nc.p _ _) ?_;refine V1.i ah ?_
   refine V1.load (aC rfl) (ae) rfl ?_;have hK:=H.within ht ra hr aI;refine zG hK (λv w' h=>cK.pre h kk ht) (λc w' h=>cJ.pre h kk ht)
  .iterate 7 (refine V1.i (cF _ _ _) ?_;refine If.f ?_)
   refine V1.i (cF _ _ _) ?_;refine If.t ?_;simp only[reduceIte,reduceEq]at hr;refine V1.aG ah λbs ws NS=>?_;have fS:=ht.eR NS.aA NS.ge;have aS:At ws bs (List.map str [gg]):=NS.at_;have kS:=KO.aA (b:=b) NS.aA;obtain⟨ae,qe⟩:=kS.at ht ae qe;replace rl:=kS.rep ht rl;replace rq:=kS.rep ht rq;replace rt:=kS.rep ht rt;replace ra:=kS.rep ht ra;replace rb:=kS.rep ht rb;replace kk:=kk.trans kS ht.ab;replace ht:=ht.aA NS.aA;have cH:=fj ht aS fS ak rfl (PR.aL hr aI);refine dk cH ?_ (λc w' h=>cJ.up h hr kk ht);clear cH;rintro _ wP hP;obtain⟨cQ,bA,eP,bS,kP⟩:=cK.out hP;have je:=(bT.aM _ _ _ _ _ eP).2;have hA:=bI eP
   simp only[map_cons,map_nil,sum_cons,sum_nil,length_cons,length_nil]at hA;rw[eP,PR.aJ]at hr;obtain⟨ae,qe⟩:=kP.at ht ae qe;replace rl:=kP.rep ht rl;replace rq:=kP.rep ht rq;replace rt:=kP.rep ht rt;replace ra:=kP.rep ht ra;replace rb:=kP.rep ht rb;replace kk:=kk.trans kP ht.ab;replace ht:=bS;clear hP eP bS kP;clear aS fS NS kS;refine Up.i (Nc.p _ _) ?_;refine V1.i ah ?_;refine V1.load (aC rfl) (ae) rfl ?_;have hK:=H.more ht rq hr aI;refine rX hK (λv w' h=>cK.pre h kk ht) (λc w' h=>cJ.pre h kk ht)
  .iterate 8 (refine V1.i (cF _ _ _) ?_;refine If.f ?_)
   refine V1.i (cF _ _ _) ?_;refine If.t ?_;simp only[reduceIte,reduceEq]at hr;refine V1.aG ah λbs ws NS=>?_;have fS:=ht.eR NS.aA NS.ge;have aS:At ws bs (List.map str [jt]):=NS.at_;have kS:=KO.aA (b:=b) NS.aA;obtain⟨ae,qe⟩:=kS.at ht ae qe;replace rl:=kS.rep ht rl;replace rq:=kS.rep ht rq;replace rt:=kS.rep ht rt;replace ra:=kS.rep ht ra;replace rb:=kS.rep ht rb;replace kk:=kk.trans kS ht.ab;replace ht:=ht.aA NS.aA;have cH:=fj ht aS fS ak hr aI;refine dk cH (λv w' h=>cK.pre h kk ht) (λc w' h=>cJ.pre h kk ht)
  .iterate 9 (refine V1.i (cF _ _ _) ?_;refine If.f ?_)
   refine V1.i (cF _ _ _) ?_;refine If.t ?_;simp only[reduceIte,reduceEq]at hr;refine V1.aG ah λbs ws NS=>?_;have fS:=ht.eR NS.aA NS.ge;have aS:At ws bs (List.map str [mz]):=NS.at_;have kS:=KO.aA (b:=b) NS.aA;obtain⟨ae,qe⟩:=kS.at ht ae qe;replace rl:=kS.rep ht rl;replace rq:=kS.rep ht rq;replace rt:=kS.rep ht rt;replace ra:=kS.rep ht ra;replace rb:=kS.rep ht rb;replace kk:=kk.trans kS ht.ab;replace ht:=ht.aA NS.aA;have cH:=fj ht aS fS ak rfl (PR.aL hr aI);refine dk cH ?_ (λc w' h=>cJ.up h hr kk ht);clear cH;rintro _ wP hP;obtain⟨cQ,bA,eP,bS,kP⟩:=cK.out hP;have je:=(bT.aM _ _ _ _ _ eP).2;have hA:=bI eP
   simp only[map_cons,map_nil,sum_cons,sum_nil,length_cons,length_nil]at hA;rw[eP,PR.aJ]at hr;obtain⟨ae,qe⟩:=kP.at ht ae qe;replace rl:=kP.rep ht rl;replace rq:=kP.rep ht rq;replace rt:=kP.rep ht rt;replace ra:=kP.rep ht ra;replace rb:=kP.rep ht rb;replace kk:=kk.trans kP ht.ab;replace ht:=bS;clear hP eP bS kP;clear aS fS NS kS;refine Up.i (Nc.p _ _) ?_;refine V1.i ah ?_;refine V1.load (aC rfl) (ae) rfl ?_;have hK:=H.block ht ra rfl (PR.aL hr aI);refine rY hK ?_ (λc w' h=>cJ.up h hr kk ht);clear hK;rintro _ wP hP;obtain⟨cQ,bA,eP,bS,kP⟩:=cK.out hP;have hA:=cM _ _ _ _ _ _ eP;rw[eP,PR.aJ]at hr;obtain⟨ae,qe⟩:=kP.at ht ae qe;replace rl:=kP.rep ht rl
   replace rq:=kP.rep ht rq;replace rt:=kP.rep ht rt;replace ra:=kP.rep ht ra;replace rb:=kP.rep ht rb;replace kk:=kk.trans kP ht.ab;replace ht:=bS;clear hP eP bS kP;refine Up.i (Nc.p _ _) ?_;refine V1.i ah ?_;refine V1.load (aC rfl) (ae) rfl ?_;refine V1.aG ah λbs ws NS=>?_;have fS:=ht.eR NS.aA NS.ge;have aS:At ws bs (List.map str [[99,97,116,99,104,32],nm]):=NS.at_;have kS:=KO.aA (b:=b) NS.aA;obtain⟨ae,qe⟩:=kS.at ht ae qe;replace rl:=kS.rep ht rl;replace rq:=kS.rep ht rq;replace rt:=kS.rep ht rt;replace ra:=kS.rep ht ra;replace rb:=kS.rep ht rb;replace kk:=kk.trans kS ht.ab;replace ht:=ht.aA NS.aA;have cH:=fj ht aS fS ak rfl (PR.aL hr aI)
   refine dk cH ?_ (λc w' h=>cJ.up h hr kk ht);clear cH;rintro _ wP hP;obtain⟨cQ,bA,eP,bS,kP⟩:=cK.out hP;have je:=(bT.aM _ _ _ _ _ eP).2;have hA:=bI eP;simp only[map_cons,map_nil,sum_cons,sum_nil,length_cons,length_nil]at hA;rw[eP,PR.aJ]at hr;obtain⟨ae,qe⟩:=kP.at ht ae qe;replace rl:=kP.rep ht rl;replace rq:=kP.rep ht rq;replace rt:=kP.rep ht rt;replace ra:=kP.rep ht ra;replace rb:=kP.rep ht rb;replace kk:=kk.trans kP ht.ab;replace ht:=bS;clear hP eP bS kP;clear aS fS NS kS;refine Up.i (Nc.p _ _) ?_;refine V1.i ah ?_;refine V1.load (aC rfl) (ae) rfl ?_;have hK:=H.within ht rb hr aI;refine zG hK (λv w' h=>cK.pre h kk ht) (λc w' h=>cJ.pre h kk ht)
  .iterate 10 (refine V1.i (cF _ _ _) ?_;refine If.f ?_)
   refine V1.i (cF _ _ _) ?_;refine If.t ?_;simp only[reduceIte,reduceEq]at hr;refine Up.i (Nc.p _ _) ?_;refine V1.i ah ?_;refine V1.load (aC rfl) (ae) rfl ?_;refine V1.aG ah λbs ws NS=>?_;have fS:=ht.eR NS.aA NS.ge;have aS:At ws bs (List.map str [[108,111,99,97,108,32,102,117,110,99,116,105,111,110,32],nm]):=NS.at_;have kS:=KO.aA (b:=b) NS.aA;obtain⟨ae,qe⟩:=kS.at ht ae qe;replace rl:=kS.rep ht rl;replace rq:=kS.rep ht rq;replace rt:=kS.rep ht rt;replace ra:=kS.rep ht ra;replace rb:=kS.rep ht rb;replace kk:=kk.trans kS ht.ab;replace ht:=ht.aA NS.aA;have cH:=fj ht aS fS ak rfl (PR.aL hr aI);refine dk cH ?_ (λc w' h=>cJ.up h hr kk ht);clear cH;rintro _ wP hP
   obtain⟨cQ,bA,eP,bS,kP⟩:=cK.out hP;have je:=(bT.aM _ _ _ _ _ eP).2;have hA:=bI eP;simp only[map_cons,map_nil,sum_cons,sum_nil,length_cons,length_nil]at hA;rw[eP,PR.aJ]at hr;obtain⟨ae,qe⟩:=kP.at ht ae qe;replace rl:=kP.rep ht rl;replace rq:=kP.rep ht rq;replace rt:=kP.rep ht rt;replace ra:=kP.rep ht ra;replace rb:=kP.rep ht rb;replace kk:=kk.trans kP ht.ab;replace ht:=bS;clear hP eP bS kP;clear aS fS NS kS;refine Up.i (Nc.p _ _) ?_;refine V1.i ah ?_;refine V1.load (aC rfl) (ae) rfl ?_
   cases rr with
   |nil=>
    dsimp only at hr;obtain rfl:rv=.pointer none:=rq;refine V1.i ah ?_;refine J1.go (Gd.ft ?_);refine V1.i ah ?_;refine gX (c20 _ false 2) ?_ ?_
    .rintro _ w3 ⟨jS,_⟩
     cases jS
    .rintro c w3 ⟨_,rfl,rfl⟩;subst hr;exact⟨rfl,kk,ht.ab,ht.gl⟩
   |ex k2 n2 text l2 r2 nh Co gQ body2=>
    dsimp only at hr;have hu:∃c2 u1 u2 u3 u4 u5 u6 u7,rv=ptr c2/\At wP c2 [.int .i64 k2,.int .i64 u1,.int .i64 n2,str text,u2,u3,u4,u5,u6,u7]:=by
     obtain⟨c2,u1,u2,u3,u4,u5,u6,u7,pN,q2,oa,_⟩:=rq;exact⟨c2,u1,u2,u3,u4,u5,u6,u7,pN,oa⟩
    obtain⟨c2,gK,sL,sM,AD,sN,zd,sO,pN,oa⟩:=hu;refine V1.bt (by rw[pN];simp[go_sem,ptr];first|done|rfl|exact⟨rfl,rfl⟩) ?_;refine J1.go (Gd.tt ?_);refine Up.i (Nc.p _ _) ?_;refine V1.i ah ?_;refine V1.load (aC rfl) (ae) rfl ?_;rw[pN];refine Up.i (Nc.p _ _) ?_;refine V1.i ah ?_;refine V1.load (aC rfl) (oa) rfl ?_;refine V1.i (cF _ _ _) ?_;refine V1.i (v:=.bool (k2==9)) (w':=wP) am ?_;by_cases h9:k2=9
    .subst h9;rw[if_pos rfl]at hr;refine gX (c20 _ true 2) ?_ ?_;rotate_left
     .rintro c w3 ⟨jS,_⟩
      cases jS
     rintro _ w3 ⟨_,rfl⟩;refine uz (F4 ht rfl) ?_ (λc w' h=>cJ.up h hr kk ht);rintro _ wP hP;obtain⟨cQ,bA,eP,bS,kP⟩:=cK.out hP;have hA:=bT.part _ _ eP;rw[eP,PR.aJ]at hr;obtain⟨ae,qe⟩:=kP.at ht ae qe;replace rq:=kP.rep ht rq;replace kk:=kk.trans kP ht.ab;replace ht:=bS;clear hP eP bS kP;refine Up.i (Nc.p _ _) ?_;refine V1.i ah ?_;refine V1.load (aC rfl) (ae) rfl ?_;have hK:=H.func ht rq hr aI;refine Ha hK (λv w' h=>cK.pre h kk ht) (λc w' h=>cJ.pre h kk ht)
    .rw[if_neg h9]at hr;rw[show(k2==9)=false by simpa using h9];refine gX (c20 _ false 2) ?_ ?_
     .rintro _ w3 ⟨jS,_⟩
      cases jS
     .rintro c w3 ⟨_,rfl,rfl⟩;subst hr;exact⟨rfl,kk,ht.ab,ht.gl⟩
   |hole=>exact absurd hr.symm aI
   |cons=>exact absurd hr.symm aI
   |st=>exact absurd hr.symm aI
 |hole=>exact absurd hr.symm aI
 |cons=>exact absurd hr.symm aI
 |ex=>exact absurd hr.symm aI
theorem ltInt(w:Wd)(cx cy:Bool)(a b:Int):(Bo .lss 3 cx cy (.int .i64 a) (.int .i64 b)).run prog w=.ok (.bool (decide (a<b))) w:=by simp[go_sem,Bo]
theorem mR(w:Wd)(cx cy:Bool)(a b:Int):(Bo .eql 3 cx cy (.int .i64 a) (.int .i64 b)).run prog w=.ok (.bool (a==b)) w:=by simp[go_sem,Bo]
theorem Ct{p q z:Bool}{w:Wd}{X:(VK)->Prop}{E:Sem Va}{e:EK}{g:VK}(hX:∀k:VK,k (.bool q) w->X k)(hE:E.run prog w=.ok (.bool z) w)(hg:g (.bool (p||(q&&z))) w):
  J1 (λk1=>Gd (.bool p) false (X k1) (k1 undef w)) (λze w=>J1 (λk2=>Gd ze true (V1 prog E w (λSZ w=>k2 SZ w) e) (k2 undef w)) (λSZ w=>J1 (λk3=>Gd (.bool p) false (V1 prog (Pk ze SZ (.bool false)) w (λEJ w=>k3 EJ w) e) (k3 undef w)) (λEJ w=>V1 prog (Pk (.bool p) (.bool true) EJ) w g e))):=by
 cases p with
 |true=>
  refine J1.go (Gd.tf ?_);refine J1.go (Gd.u ?_);refine J1.go (Gd.tf ?_);exact V1.bt am hg
 |false=>
  refine J1.go (Gd.ff (hX _ ?_))
  cases q with
  |true=>
   refine J1.go (Gd.tt (V1.i hE ?_));refine J1.go (Gd.ff (V1.i (v:=.bool z) (w':=w) am ?_));exact V1.i (v:=.bool z) (w':=w) am hg
  |false=>
   refine J1.go (Gd.ft ?_);refine J1.go (Gd.ff (V1.bf am ?_));exact V1.bf am hg
theorem S0{n:Nat}(H:jd n){w:Wd}{b:Nat}{buf:By}{parts:Nat}{k nn:Int}{text:By}{l rr ks gs:Tr}{ps:LB}{body:Tr}{v:Va}{r:PR}(ht:TX w b buf parts)(re:aU (FO b w) w (.ex k nn text l rr ks gs ps body) (.P v))(F5:kn l=true)(W9:kn rr=true)
  (hr:((bJ n (.inner l (decide (aW l<bD text)||(text==[46,46]&&aW l==bD text))) buf parts).bind λb p=>(aM [[32],text,[32]] b p).bind λb p=>
      bJ n (.inner rr (decide (aW rr<bD text)||(!(text==[46,46])&&aW rr==bD text))) b p)=r) (aI:r≠.bH):
  Calls prog 117 #[ptr b,v] w (aZ (λ_=>cK w b r) (cJ w b r)):=by
 refine Pw ?_;unfold Hh;have kk:=KO.refl b w;obtain⟨c,line,lv,rv,kv,av,pv,bv,rfl,qe,ae,rl,rq,_⟩:=re;have g:=ht.gl;refine⟨λw'=>aD [] w w',(aD.refl _ _).drew,?_⟩;refine⟨_,λw' _=>⟨rfl,rfl⟩,?_⟩;refine Xv.i _ (λw' _=>by simp[go_sem]<;>trivial) ?_;refine Xv.i (str text) (λw' hw=>(aC rfl) _ _ _ (by rw[(aD.at hw ae ak).cell];rfl)) ?_;refine Xq.call (fn:=Tryz.f171) (.int .i64 (bD text)) (aH func171 (c:=bC Tryz.f171) ai ai _) (λw' hw=>(c171 w' text (g.new hw)).mono ?_) ?_
 .intro e w2 h
  cases e<;>first|exact(False.elim h)|(obtain⟨rfl,h2⟩:=h;exact⟨rfl,aD.trans hw h2⟩)
 refine⟨_,λw' _=>⟨rfl,rfl⟩,?_⟩;refine Xv.i _ (λw' _=>by simp[go_sem]<;>trivial) ?_;refine Xv.i (str text) (λw' hw=>(aC rfl) _ _ _ (by rw[(aD.at hw ae ak).cell];rfl)) ?_;refine Xv.i (.bool (text==[46,46])) (λw' hw=>mu w' _ _ text [46,46]) ?_;intro w1 K1;have kS:=KO.aA (b:=b) K1;obtain⟨ae,qe⟩:=kS.at ht ae qe;replace rl:=kS.rep ht rl;replace rq:=kS.rep ht rq;replace kk:=kk.trans kS ht.ab;replace ht:=ht.aA K1;clear kS;have g1:=g.new K1;refine⟨λw'=>aD [] w1 w',(aD.refl _ _).drew,?_⟩;refine⟨_,λw' _=>⟨rfl,rfl⟩,?_⟩;refine Xv.i _ (λw' _=>by simp[go_sem]<;>trivial) ?_;refine Xv.i lv (λw' hw=>(aC rfl) _ _ _ (by rw[(aD.at hw ae ak).cell];rfl)) ?_
 refine Xq.call (fn:=f172) (.int .i64 (aW l)) (aH func172 (c:=bC f172) ai ai _) (λw' hw=>(KV (aU.new hw _ _ rl) F5 (g1.new hw)).mono ?_) ?_
 .intro e w2 h
  cases e<;>first|exact(False.elim h)|(obtain⟨rfl,h2⟩:=h;exact⟨rfl,aD.trans hw h2⟩)
 refine⟨_,λw' _=>⟨rfl,rfl⟩,?_⟩;refine Xv.i _ (λw' _=>by simp[go_sem]<;>trivial) ?_;refine Xv.i rv (λw' hw=>(aC rfl) _ _ _ (by rw[(aD.at hw ae ak).cell];rfl)) ?_;refine Xq.call (fn:=f172) (.int .i64 (aW rr)) (aH func172 (c:=bC f172) ai ai _) (λw' hw=>(KV (aU.new hw _ _ rq) W9 (g1.new hw)).mono ?_) ?_
 .intro e w2 h
  cases e<;>first|exact(False.elim h)|(obtain⟨rfl,h2⟩:=h;exact⟨rfl,aD.trans hw h2⟩)
 intro w2 K2;have kS:=KO.aA (b:=b) K2;obtain⟨ae,qe⟩:=kS.at ht ae qe;replace rl:=kS.rep ht rl;replace rq:=kS.rep ht rq;replace kk:=kk.trans kS ht.ab;replace ht:=ht.aA K2;clear kS;refine Up.i (Nc.p _ _) ?_;refine V1.i ah ?_;refine V1.load (aC rfl) (ae) rfl ?_;refine V1.i (ltInt _ _ _ _ _) ?_;refine Ct (q:=text==[46,46]) (z:=aW l==bD text) (λk h=>h) (mR _ _ _ _ _) ?_;have hK:=H.inner F5 ht rl rfl (PR.aL hr aI);refine nI hK ?_ (λc w' h=>cJ.up h hr kk ht);clear hK;rintro _ wP hP;obtain⟨cQ,bA,eP,bS,kP⟩:=cK.out hP;have hA:=cM _ _ _ _ _ _ eP;rw[eP,PR.aJ]at hr;obtain⟨ae,qe⟩:=kP.at ht ae qe;replace rl:=kP.rep ht rl;replace rq:=kP.rep ht rq;replace kk:=kk.trans kP ht.ab
 replace ht:=bS;clear hP eP bS kP;refine Up.i (Nc.p _ _) ?_;refine V1.i ah ?_;refine V1.load (aC rfl) (ae) rfl ?_;refine V1.aG ah λbs ws NS=>?_;have fS:=ht.eR NS.aA NS.ge;have aS:At ws bs (List.map str [[32],text,[32]]):=NS.at_;have kS:=KO.aA (b:=b) NS.aA;obtain⟨ae,qe⟩:=kS.at ht ae qe;replace rl:=kS.rep ht rl;replace rq:=kS.rep ht rq;replace kk:=kk.trans kS ht.ab;replace ht:=ht.aA NS.aA;have cH:=fj ht aS fS ak rfl (PR.aL hr aI);refine dk cH ?_ (λc w' h=>cJ.up h hr kk ht);clear cH;rintro _ wP hP;obtain⟨cQ,bA,eP,bS,kP⟩:=cK.out hP;have je:=(bT.aM _ _ _ _ _ eP).2;have hA:=bI eP
 simp only[map_cons,map_nil,sum_cons,sum_nil,length_cons,length_nil]at hA;rw[eP,PR.aJ]at hr;obtain⟨ae,qe⟩:=kP.at ht ae qe;replace rl:=kP.rep ht rl;replace rq:=kP.rep ht rq;replace kk:=kk.trans kP ht.ab;replace ht:=bS;clear hP eP bS kP;clear aS fS NS kS;refine Up.i (Nc.p _ _) ?_;refine V1.i ah ?_;refine V1.load (aC rfl) (ae) rfl ?_;refine V1.i (ltInt _ _ _ _ _) ?_;refine Ct (q:=!(text==[46,46])) (z:=aW rr==bD text) (λk h=>V1.i (v:=.bool (!(text==[46,46]))) am h) (mR _ _ _ _ _) ?_;have hK:=H.inner W9 ht rq hr aI;refine nI hK (λv w' h=>cK.pre h kk ht) (λc w' h=>cJ.pre h kk ht)
end Go.Proofs.YtoddjlclpnoomaaGreatDoor

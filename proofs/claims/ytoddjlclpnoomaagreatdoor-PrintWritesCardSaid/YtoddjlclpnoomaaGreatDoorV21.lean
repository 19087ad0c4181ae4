import Derived.Test.YtoddjlclpnoomaaGreatDoorV20
set_option linter.unusedVariables false
set_option linter.unusedSimpArgs false
set_option maxRecDepth 100000
open Go.Proofs.Tryz
open Go.Instr (indexAt)
open List (map_cons drop_eq_getElem_cons length_cons take_succ_cons length_nil take_zero map_nil sum_cons sum_nil)
open Nat (le_refl le_trans)
open Bool (false_eq_true or_eq_false_iff)
namespace Go.Proofs.YtoddjlclpnoomaaGreatDoor
open Go.Sh
theorem Wf{w:Wd}{b:Nat}(hb:At w b [.int .i64 10,.int .i64 11,.int .i64 9])(k:Int):
  Calls prog 205 #[.slice (some ⟨b,0,none⟩) 3 3,.int .i64 k] w (aZ (λv w'=>(∃i:Int,v=.int .i64 i/\decide (0<=i)=(k==10||k==11||k==9))/\w'=w) NP):=by
 refine Tn ?_;unfold Kg;refine V1.i ah ?_;refine L2.i (λu v w'=>w'=w/\∃j:Nat,j<=3/\v=.int .i64 j/\((k==10||k==11||k==9)=((([10,11,9]:List Int).drop j).any λx=>k==x))) (λu v w'=>match v with|.int _ n=>(3-n.toNat)|_=>0) ⟨rfl,0,by omega,rfl,by simp[Bool.or_assoc]⟩ ?_;rintro u v w1 ⟨rfl,j,hj,rfl,hm⟩;have Wg:∀j:Nat,j<3->(indexAt 199 (.slice (some ⟨b,0,none⟩) 3 3) (.int .i64 j)).run prog w1=.ok (.pointer (some ⟨b,j,none⟩)) w1:=by
  intro j hj;have h1:(j:Int)<3:=by omega
  simp[go_sem,hj,h1,Addr.add]
  try(rintro rfl;rfl)
 have hj4:j=0\/j=1\/j=2\/j=3:=by omega
 rcases hj4 with rfl|rfl|rfl|rfl
 .refine V1.i ah ?_;refine If.t ?_;refine V1.i (Wg 0 aj) ?_;refine V1.load (aC rfl) (hb) rfl ?_;refine V1.i (v:=.bool (k==10)) (w':=w1) au ?_
  cases he:(k==10)with
  |true=>exact If.t ⟨⟨0,rfl,by rfl⟩,rfl⟩
  |false=>
   refine If.f ?_;refine V1.i (cC _ _ _ _ _ _ aj aj) ?_;exact⟨⟨rfl,1,by omega,rfl,by rw[he]at hm;simp[Bool.or_assoc]⟩,by simp⟩
 .refine V1.i ah ?_;refine If.t ?_;refine V1.i (Wg 1 aj) ?_;refine V1.load (aC rfl) (hb) rfl ?_;refine V1.i (v:=.bool (k==11)) (w':=w1) au ?_
  cases he:(k==11)with
  |true=>exact If.t ⟨⟨1,rfl,by simp⟩,rfl⟩
  |false=>
   refine If.f ?_;refine V1.i (cC _ _ _ _ _ _ aj aj) ?_;exact⟨⟨rfl,2,by omega,rfl,by rw[he]at hm;simpa[he]using hm⟩,by simp⟩
 .refine V1.i ah ?_;refine If.t ?_;refine V1.i (Wg 2 aj) ?_;refine V1.load (aC rfl) (hb) rfl ?_;refine V1.i (v:=.bool (k==9)) (w':=w1) au ?_
  cases he:(k==9)with
  |true=>exact If.t ⟨⟨2,rfl,by simp⟩,rfl⟩
  |false=>
   refine If.f ?_;refine V1.i (cC _ _ _ _ _ _ aj aj) ?_;exact⟨⟨rfl,3,by omega,rfl,by rw[he]at hm;simpa[he]using hm⟩,by simp⟩
 .refine V1.i ah ?_;refine If.f ?_;exact⟨⟨-1,rfl,by rw[hm];simp⟩,rfl⟩
theorem Wh{w:Wd}{b:Nat}(hb:At w b [.int .i64 10,.int .i64 11,.int .i64 9])(k:Int):
  Calls prog 166 #[.slice (some ⟨b,0,none⟩) 3 3,.int .i64 k] w (aZ (λv w'=>v=.bool (k==10||k==11||k==9)/\w'=w) NP):=by
 refine Te ?_;unfold JY;refine Kh (Wf hb k) ?_ (NP.no (e:=_));rintro _ w1 ⟨⟨i,rfl,hi⟩,rfl⟩;refine V1.i (v:=.bool (decide (0<=i))) (w':=w1) au ?_;exact⟨by rw[hi],rfl⟩
theorem Wi(w:Wd)(s:By):Calls prog 113 #[str s] w (aZ (λv w'=>v=str (jC s)/\aD [] w w') NP):=by
 refine SZ ?_;unfold JO;unfold jC;by_cases h:32768<s.length
 .refine V1.i (v:=.int .i64 s.length) (w':=w) au ?_;refine V1.bt ay ?_;rw[if_pos h];exact If.t ⟨rfl,aD.refl _ _⟩
 .refine V1.i (v:=.int .i64 s.length) (w':=w) au ?_;refine V1.bf ay ?_;rw[if_neg h];refine If.f ?_;refine KI (Ve w s aj) ?_ (NP.no (e:=_));rintro _ w1 ⟨rfl,K1⟩;exact⟨rfl,K1⟩
theorem NY{F:Nat->Prop}{w:Wd}{e:Tr}{v:Va}(hr:aP F w e (.P v))(hk:kn e=true)(g:GL w):
  Calls prog 172 #[v] w (aZ (λu w'=>u=.int .i64 (aW e)/\aD [] w w') NP):=by
 refine Tl ?_;unfold Kd
 cases e with
 |nil=>
  obtain rfl:v=.pointer none:=hr;refine V1.i ah ?_;refine J1.go (Gd.ft ?_);refine V1.i ah ?_;refine If.f ?_;refine V1.i ah ?_;refine J1.go (Gd.ft ?_);refine V1.i ah ?_;refine If.f ?_;exact⟨rfl,aD.refl _ _⟩
 |ex k n text l r keys args params body=>
  obtain⟨c,line,lv,rv,kv,av,pv,bv,rfl,h1,h2,h3⟩:=hr;unfold ptr;refine V1.i ah ?_;refine J1.go (Gd.tt ?_);refine Up.i (Nc.p _ _) ?_;refine V1.i ah ?_;refine V1.load (aC rfl) (h2) rfl ?_;refine V1.i (v:=.bool (k==11)) (w':=w) au ?_;refine V1.i (v:=.bool (k==11)) (w':=w) au ?_;by_cases RU:k=11
  .subst RU;refine If.t ?_;refine Up.i (Nc.p _ _) ?_;refine V1.i ah ?_;refine V1.load (aC rfl) (h2) rfl ?_;refine Kc (c171 w text g) ?_ (NP.no (e:=_));rintro _ w1 ⟨rfl,K1⟩;exact⟨by simp[aW],K1⟩
  .rw[show(k==11)=false by simpa using RU];refine If.f ?_;refine V1.i ah ?_;refine J1.go (Gd.tt ?_);refine Up.i (Nc.p _ _) ?_;refine V1.i ah ?_;refine V1.load (aC rfl) (h2) rfl ?_;refine V1.i (v:=.bool (k==10)) (w':=w) au ?_;refine V1.i (v:=.bool (k==10)) (w':=w) au ?_;by_cases jS:k=10
   .subst jS;exact If.t ⟨by simp[aW],aD.refl _ _⟩
   .rw[show(k==10)=false by simpa using jS];exact If.f ⟨by simp[aW,jS,RU],aD.refl _ _⟩
 |hole=>cases hk
 |cons=>cases hk
 |st=>cases hk
theorem zp(c:UInt8):Lib.contains cA [c]=cA.contains c:=by
 have:∀n:Nat,n<256->Lib.contains cA [UInt8.ofNat n]=cA.contains (UInt8.ofNat n):=by decide
 have h:=this c.toNat c.toNat_lt;rwa [UInt8.ofNat_toNat]at h
theorem pF:∀b∈du++cA,b.toNat<128:=by decide
theorem GX{F:Nat->Prop}{w:Wd}{e:Tr}{v:Va}(hr:aP F w e (.P v))(hk:kn e=true)(g:GL w):
  Calls prog 115 #[v] w (aZ (λu w'=>u=.bool (ij e)/\aD [] w w') NP):=by
 refine Ta ?_;unfold JS
 cases e with
 |nil=>
  obtain rfl:v=.pointer none:=hr;refine V1.i ah ?_;refine J1.go (Gd.tf ?_);refine V1.i ah ?_;refine J1.go (Gd.tf ?_);refine V1.i ah ?_;refine J1.go (Gd.tf ?_);refine V1.i ah ?_;refine J1.go (Gd.tf ?_);refine V1.i ah ?_;refine If.t ?_;exact⟨rfl,aD.refl _ _⟩
 |ex k n text l r keys args params body=>
  obtain⟨c,line,lv,rv,kv,av,pv,bv,rfl,h1,h2,h3⟩:=hr;clear h3;have e1:str []=Value.string ⟨#[]⟩:=rfl;unfold ptr;refine V1.i ah ?_;refine J1.gd (!(k==5)) (λh kk GY=>?_) ?_
  .refine Up.i (Nc.p _ _) ?_;refine V1.i ah ?_;refine V1.load (aC rfl) (h2) rfl ?_;refine V1.i (v:=.bool (!(k==5))) (w':=w) (by simp[go_sem];rfl) ?_;exact GY
  refine V1.i (fI _ _ _) ?_;refine J1.gd (text==[]) (λh kk GY=>?_) ?_
  .refine Up.i (Nc.p _ _) ?_;refine V1.i ah ?_;refine V1.load (aC rfl) (h2) rfl ?_;refine V1.i (nq _ _ _ text []) ?_;exact GY
  refine V1.i (fI _ _ _) ?_;refine J1.gd (decide (24<text.length)) (λh kk GY=>?_) ?_
  .refine Up.i (Nc.p _ _) ?_;refine V1.i ah ?_;refine V1.load (aC rfl) (h2) rfl ?_;refine V1.i (v:=.int .i64 text.length) (w':=w) au ?_;refine V1.i (v:=.bool (decide (24<text.length))) (w':=w) ay ?_;exact GY
  refine V1.i (fI _ _ _) ?_;refine J1.gd (gY text) (λh kk GY=>?_) ?_
  .refine Up.i (Nc.p _ _) ?_;refine V1.i ah ?_;refine V1.load (aC rfl) (h2) rfl ?_;have hl:text.length<=24:=by
    simp only[or_eq_false_iff,decide_eq_false_iff_not]at h;omega
   refine Kq (Z0 w text g aj) ?_ (NP.no (e:=_));rintro _ w1 ⟨rfl,rfl⟩;exact GY
  refine V1.i (fI _ _ _) ?_;have eN:ij (.ex k n text l r keys args params body)=(!(false||!(k==5)||(text==[])||decide (24<text.length)||gY text)&&(text.all (λc=>(du++cA).contains c)&&!(cA.contains (text.headD 0)))):=by
   simp only[ij,ph];rw[show decide (text.length<=24)=!decide (24<text.length)by rw[←decide_not];congr 1;apply propext;omega];simp only[Bool.false_or,Bool.not_or,Bool.not_not,Bool.and_assoc]
  cases hb:(false||!(k==5)||(text==[])||decide (24<text.length)||gY text)with
  |true=>
   refine If.t ?_;exact⟨by rw[eN,hb];rfl,aD.refl _ _⟩
  |false=>
   rw[hb]at eN;refine If.f ?_;simp only[or_eq_false_iff,decide_eq_false_iff_not]at hb;have aI:text≠[]:=by simpa using hb.1.1.2
   have hl:text.length<=24:=by omega
   refine Up.i (Nc.p _ _) ?_;refine V1.i ah ?_;refine V1.load (aC rfl) (h2) rfl ?_;refine J8 (c168 w text (du++cA) aj pF) ?_ (NP.no (e:=_));rintro _ w1 ⟨rfl,K1⟩;have vI:(text.dropWhile (λb=>(du++cA).contains b)).length<=1099511627776:=le_trans (List.dropWhile_sublist _).length_le aj;refine J6 (c167 w1 _ (du++cA) (g.new K1) vI pF) ?_ (NP.no (e:=_));rintro _ w2 ⟨rfl,K2⟩;refine V1.i (nq _ _ _ _ []) ?_;rw[Cw];have dB:=K1.trans' K2 ak;have Ih:=dB.at h2 ak;rw[eN];obtain⟨c0,l0,rfl⟩:=List.exists_cons_of_ne_nil aI
   cases eY:(c0::l0).all (λb=>(du++cA).contains b)with
   |false=>
    refine J1.go (Gd.ft ?_);refine V1.i ah ?_;exact⟨by simp[eY],dB⟩
   |true=>
    refine J1.go (Gd.tt ?_);refine Up.i (Nc.p _ _) ?_;refine V1.i ah ?_;refine V1.load (aC rfl) (Ih) rfl ?_;refine V1.i (BN _ (c0::l0) 1 ak) ?_;refine BP (Ru w2 cA ((c0::l0).take 1) (g.new dB) az) ?_ (NP.no (e:=_));rintro _ w3 ⟨rfl,rfl⟩;refine V1.i ah ?_;refine V1.i ah ?_;have hd:Lib.contains cA ((c0::l0).take 1)=cA.contains c0:=by
     simp only[take_succ_cons,take_zero];exact zp c0
    simp only[take_succ_cons,take_zero]at hd;exact⟨by rw[hd];simp,dB⟩
 |hole=>cases hk
 |cons=>cases hk
 |st=>cases hk
structure jM(n:Nat):Prop where
 expr:∀{w:Wd}{b:Nat}{buf:By}{parts:Nat}{e:Tr}{v:Va}{r:PR},TX w b buf parts->aP (FO b w) w e (.P v)->bK n (.expr e) buf parts=r->r≠.bH->Calls prog 63 #[ptr b,v] w (aZ (λ_=>cO w b r) (cN w b r))
 stmt:∀{w:Wd}{b:Nat}{buf:By}{parts:Nat}{e:Tr}{v:Va}{r:PR},TX w b buf parts->aP (FO b w) w e (.P v)->bK n (.stmt e) buf parts=r->r≠.bH->Calls prog 35 #[ptr b,v] w (aZ (λ_=>cO w b r) (cN w b r))
 stmts:∀{w:Wd}{b:Nat}{buf:By}{parts:Nat}{e:Tr}{v:Va}{r:PR},TX w b buf parts->aP (FO b w) w e (.L v)->bK n (.stmts e) buf parts=r->r≠.bH->Calls prog 18 #[ptr b,v] w (aZ (λ_=>cO w b r) (cN w b r))
 block:∀{w:Wd}{b:Nat}{buf:By}{parts:Nat}{e:Tr}{v:Va}{r:PR},TX w b buf parts->aP (FO b w) w e (.L v)->bK n (.block e) buf parts=r->r≠.bH->Calls prog 67 #[ptr b,v] w (aZ (λ_=>cO w b r) (cN w b r))
 more:∀{w:Wd}{b:Nat}{buf:By}{parts:Nat}{e:Tr}{v:Va}{r:PR}{word:By},TX w b buf parts->aP (FO b w) w e (.P v)->bK n (.more word e) buf parts=r->r≠.bH->Calls prog 62 #[ptr b,str word,v] w (aZ (λ_=>cO w b r) (cN w b r))
 within:∀{w:Wd}{b:Nat}{buf:By}{parts:Nat}{e:Tr}{v:Va}{r:PR}{word:By},TX w b buf parts->aP (FO b w) w e (.L v)->bK n (.within word e) buf parts=r->r≠.bH->Calls prog 65 #[ptr b,str word,v] w (aZ (λ_=>cO w b r) (cN w b r))
 branch:∀{w:Wd}{b:Nat}{buf:By}{parts:Nat}{k:Int}{nm:By}{l rr t a bb:Tr}{v:Va}{r:PR},TX w b buf parts->aP (FO b w) w (.st k nm l rr t a bb) (.P v)->bK n (.branch rr a bb) buf parts=r->r≠.bH->Calls prog 66 #[ptr b,v] w (aZ (λ_=>cO w b r) (cN w b r))
 func:∀{w:Wd}{b:Nat}{buf:By}{parts:Nat}{k nn:Int}{text:By}{l rr ks gs:Tr}{ps:LB}{body:Tr}{v:Va}{r:PR},TX w b buf parts->aP (FO b w) w (.ex k nn text l rr ks gs ps body) (.P v)->bK n (.func ps body) buf parts=r->r≠.bH->Calls prog 68 #[ptr b,v] w (aZ (λ_=>cO w b r) (cN w b r))
 inner:∀{w:Wd}{b:Nat}{buf:By}{parts:Nat}{e:Tr}{v:Va}{r:PR}{around:Bool},kn e=true->TX w b buf parts->aP (FO b w) w e (.P v)->bK n (.inner e around) buf parts=r->r≠.bH->Calls prog 116 #[ptr b,v,.bool around] w (aZ (λ_=>cO w b r) (cN w b r))
theorem p67{n:Nat}(H:jM n){w:Wd}{b:Nat}{buf:By}{parts:Nat}{e:Tr}{v:Va}{r:PR}(ht:TX w b buf parts)(rl:aP (FO b w) w e (.L v))(hr:bK (n+1) (.block e) buf parts=r)(aI:r≠.bH):
  Calls prog 67 #[ptr b,v] w (aZ (λ_=>cO w b r) (cN w b r)):=by
 refine s67 ?_;unfold Zq;have kk:=KO.refl b w;simp only[bK]at hr;refine V1.aG ah λbs ws NS=>?_;have fS:=ht.fu NS.aA NS.ge;have aS:At ws bs (List.map str [[10]]):=NS.at_;have kS:=KO.aA (b:=b) NS.aA;replace rl:=kS.rep ht rl;replace kk:=kk.trans kS ht.ab;replace ht:=ht.aA NS.aA;have cK:=fQ ht aS fS ak rfl (PR.aM hr aI);refine dw cK ?_ (λc w' h=>cN.up h hr kk ht);clear cK;rintro _ wP hP;obtain⟨cV,bB,eP,bU,kP⟩:=cO.out hP;have jN:=(bW.aO _ _ _ _ _ eP).2;have hA:=bJ eP;simp only[map_cons,map_nil,sum_cons,sum_nil,length_cons,length_nil]at hA;rw[eP,PR.aL]at hr;replace rl:=kP.rep ht rl;replace kk:=kk.trans kP ht.ab;replace ht:=bU;clear hP eP bU kP;clear aS fS NS kS
 have hK:=H.stmts ht rl hr aI;refine JJ hK (λv w' h=>cO.pre h kk ht) (λc w' h=>cN.pre h kk ht)
theorem p65{n:Nat}(H:jM n){w:Wd}{b:Nat}{buf:By}{parts:Nat}{e:Tr}{v:Va}{r:PR}{word:By}(ht:TX w b buf parts)(rl:aP (FO b w) w e (.L v))(hr:bK (n+1) (.within word e) buf parts=r)(aI:r≠.bH):
  Calls prog 65 #[ptr b,str word,v] w (aZ (λ_=>cO w b r) (cN w b r)):=by
 refine s65 ?_;unfold Zo;have kk:=KO.refl b w;simp only[bK]at hr;refine V1.aG ah λbs ws NS=>?_;have fS:=ht.fu NS.aA NS.ge;have aS:At ws bs (List.map str [word]):=NS.at_;have kS:=KO.aA (b:=b) NS.aA;replace rl:=kS.rep ht rl;replace kk:=kk.trans kS ht.ab;replace ht:=ht.aA NS.aA;have cK:=fQ ht aS fS ak rfl (PR.aM hr aI);refine dw cK ?_ (λc w' h=>cN.up h hr kk ht);clear cK;rintro _ wP hP;obtain⟨cV,bB,eP,bU,kP⟩:=cO.out hP;have jN:=(bW.aO _ _ _ _ _ eP).2;have hA:=bJ eP;simp only[map_cons,map_nil,sum_cons,sum_nil,length_cons,length_nil]at hA;rw[eP,PR.aL]at hr;replace rl:=kP.rep ht rl;replace kk:=kk.trans kP ht.ab;replace ht:=bU;clear hP eP bU kP;clear aS fS NS kS
 have hK:=H.block ht rl rfl (PR.aM hr aI);refine tX hK ?_ (λc w' h=>cN.up h hr kk ht);clear hK;rintro _ wP hP;obtain⟨cV,bB,eP,bU,kP⟩:=cO.out hP;have hA:=cQ _ _ _ _ _ _ eP;rw[eP,PR.aL]at hr;replace rl:=kP.rep ht rl;replace kk:=kk.trans kP ht.ab;replace ht:=bU;clear hP eP bU kP;refine V1.aG ah λbs ws NS=>?_;have fS:=ht.fu NS.aA NS.ge;have aS:At ws bs (List.map str [cT]):=NS.at_;have kS:=KO.aA (b:=b) NS.aA;replace rl:=kS.rep ht rl;replace kk:=kk.trans kS ht.ab;replace ht:=ht.aA NS.aA;have cK:=fQ ht aS fS ak hr aI;refine dw cK (λv w' h=>cO.pre h kk ht) (λc w' h=>cN.pre h kk ht)
theorem p62{n:Nat}(H:jM n){w:Wd}{b:Nat}{buf:By}{parts:Nat}{e:Tr}{v:Va}{r:PR}{word:By}(ht:TX w b buf parts)(re:aP (FO b w) w e (.P v))(hr:bK (n+1) (.more word e) buf parts=r)(aI:r≠.bH):
  Calls prog 62 #[ptr b,str word,v] w (aZ (λ_=>cO w b r) (cN w b r)):=by
 refine s62 ?_;unfold Zm;have kk:=KO.refl b w
 cases e with
 |nil=>
  obtain rfl:v=.pointer none:=re;simp only[bK]at hr;subst hr;refine V1.i ah ?_;exact If.f ⟨ht,kk⟩
 |ex k nn text l rr keys args params body=>
  simp only[bK]at hr;have hv:∃c,v=ptr c:=by
   obtain⟨c,line,lv,rv,kv,av,pv,bv,rfl,_⟩:=re;exact⟨c,rfl⟩
  obtain⟨c,rfl⟩:=hv;refine V1.bt (by simp[go_sem,ptr];first|done|rfl|exact⟨rfl,rfl⟩) ?_;refine If.t ?_;refine V1.aG ah λbs ws NS=>?_;have fS:=ht.fu NS.aA NS.ge;have aS:At ws bs (List.map str [word]):=NS.at_;have kS:=KO.aA (b:=b) NS.aA;replace re:=kS.rep ht re;replace kk:=kk.trans kS ht.ab;replace ht:=ht.aA NS.aA;have cK:=fQ ht aS fS ak rfl (PR.aM hr aI);refine dw cK ?_ (λc w' h=>cN.up h hr kk ht);clear cK;rintro _ wP hP;obtain⟨cV,bB,eP,bU,kP⟩:=cO.out hP;have jN:=(bW.aO _ _ _ _ _ eP).2;have hA:=bJ eP;simp only[map_cons,map_nil,sum_cons,sum_nil,length_cons,length_nil]at hA;rw[eP,PR.aL]at hr;replace re:=kP.rep ht re;replace kk:=kk.trans kP ht.ab
  replace ht:=bU;clear hP eP bU kP;clear aS fS NS kS;have hK:=H.expr ht re hr aI;refine pW hK (λv w' h=>cO.pre h kk ht) (λc w' h=>cN.pre h kk ht)
 |hole=>simp only[bK]at hr;exact absurd hr.symm aI
 |cons=>simp only[bK]at hr;exact absurd hr.symm aI
 |st=>simp only[bK]at hr;exact absurd hr.symm aI
theorem aP.row{F:Nat->Prop}{w:Wd}{l:Tr}{v:Va}(h:aP F w l (.L v))(hh:l≠.hole):
  (∃a c,v=.slice a 0 c/\l=.nil)\/∃b n c,v=.slice (some ⟨b,0,none⟩) n c/\aP F w l (.E b 0 n)/\l≠.nil:=by
 cases l with
 |nil=>rcases h with rfl|⟨b,c,rfl⟩<;>exact .inl ⟨_,_,rfl,rfl⟩
 |cons x t=>
  obtain⟨b,n,c,u,rfl,h1,h2,h3,h4,h5⟩:=h;exact .inr ⟨b,n+1,c,rfl,⟨n,u,rfl,h3,h2,h4,h5⟩,by simp⟩
 |hole=>exact absurd rfl hh
 |ex=>exact h.elim
 |st=>exact h.elim
theorem uD{w:Wd}{b n c k:Nat}(h:k<n):(indexAt 26 (.slice (some ⟨b,0,none⟩) n c) (.int .i64 k)).run prog w=.ok (.pointer (some ⟨b,k,none⟩)) w:=by
 have:(k:Int)<n:=by omega
 simp[go_sem,h,Addr.add]
 rintro rfl;rfl
theorem mL{w:Wd}{b n c k:Nat}(h:k<n):(indexAt 44 (.slice (some ⟨b,0,none⟩) n c) (.int .i64 k)).run prog w=.ok (.pointer (some ⟨b,k,none⟩)) w:=by
 have:(k:Int)<n:=by omega
 simp[go_sem,h,Addr.add]
 rintro rfl;rfl
theorem p18{n:Nat}(H:∀m,m<=n->jM m){w:Wd}{b:Nat}{buf:By}{parts:Nat}{e:Tr}{v:Va}{r:PR}(ht:TX w b buf parts)(rl:aP (FO b w) w e (.L v))(hr:bK (n+1) (.stmts e) buf parts=r)(aI:r≠.bH):
  Calls prog 18 #[ptr b,v] w (aZ (λ_=>cO w b r) (cN w b r)):=by
 refine s18 ?_;unfold Za;have kk:=KO.refl b w;have hh:e≠.hole:=by
  rintro rfl;simp only[bK]at hr;exact absurd hr.symm aI
 rcases rl.row hh with⟨a,c,rfl,rfl⟩|⟨q,xz,c,rfl,re,_⟩
 .refine V1.i ah ?_;refine L1.i (λv w'=>v=.int .i64 0/\w'=w) (λv w'=>0) ⟨rfl,rfl⟩ ?_;rintro v w1 ⟨rfl,rfl⟩;refine V1.i ah ?_;refine If.f ?_;simp only[bK]at hr;subst hr;exact⟨ht,kk⟩
 .refine V1.i ah ?_;refine L1.i (λv w'=>∃i k m rest buf parts,v=.int .i64 (i:Nat)/\i+k=xz/\i<=buf.length/\m<=n+1/\TX w' b buf parts/\aP (FO b w') w' rest (.E q i k)/\KO b w w'/\bK m (.stmts rest) buf parts=r) (λv w'=>match v with|.int _ n=>(xz-n.toNat)|_=>0) ⟨0,xz,n+1,e,buf,parts,rfl,by omega,by omega,le_refl _,ht,re,kk,hr⟩ ?_;clear ht rl hr kk re;rintro v w1 ⟨i,k,m,rest,buf,parts,rfl,hik,hib,hm,ht,rl,kk,hr⟩
  cases m with
  |zero=>simp only[bK]at hr;exact absurd hr.symm aI
  |succ m=>
   cases rest with
   |nil=>
    obtain rfl:k=0:=rl;refine V1.bf ay ?_;refine If.f ?_;simp only[bK]at hr;subst hr;exact⟨ht,kk⟩
   |cons s l=>
    obtain⟨k',u,rfl,hc,hf,rs,rl⟩:=rl;simp only[bK]at hr;refine V1.bt ay ?_;refine If.t ?_;refine V1.i (uD aj) ?_;refine V1.i ((aC rfl) _ _ _ hc) ?_;have hK:=(H m aj).stmt ht rs rfl (PR.aM hr aI);refine SP hK ?_ (λc w' h=>cN.up h hr kk ht);clear hK;rintro _ wP hP;obtain⟨cV,bB,eP,bU,kP⟩:=cO.out hP;have hA:=cQ _ _ _ _ _ _ eP;rw[eP,PR.aL]at hr;replace rs:=kP.rep ht rs;replace rl:=kP.rep ht rl;replace kk:=kk.trans kP ht.ab;replace ht:=bU;clear hP eP bU kP;refine V1.aG ah λbs ws NS=>?_;have fS:=ht.fu NS.aA NS.ge;have aS:At ws bs (List.map str [[10]]):=NS.at_;have kS:=KO.aA (b:=b) NS.aA;replace rs:=kS.rep ht rs;replace rl:=kS.rep ht rl;replace kk:=kk.trans kS ht.ab
    replace ht:=ht.aA NS.aA;have cK:=fQ ht aS fS ak rfl (PR.aM hr aI);refine dw cK ?_ (λc w' h=>cN.up h hr kk ht);clear cK;rintro _ wP hP;obtain⟨cV,bB,eP,bU,kP⟩:=cO.out hP;have jN:=(bW.aO _ _ _ _ _ eP).2;have hA:=bJ eP;simp only[map_cons,map_nil,sum_cons,sum_nil,length_cons,length_nil]at hA;rw[eP,PR.aL]at hr;replace rs:=kP.rep ht rs;replace rl:=kP.rep ht rl;replace kk:=kk.trans kP ht.ab;replace ht:=bU;clear hP eP bU kP;clear aS fS NS kS;have NH:_<=32768:=ht.len;refine V1.i (cC _ _ _ _ _ _ aj aj) ?_;exact⟨⟨i+1,k',m,l,_,_,by simp,by omega,by omega,by omega,ht,rl,kk,hr⟩,by simp;omega⟩
   |hole=>simp only[bK]at hr;exact absurd hr.symm aI
   |ex=>exact rl.elim
   |st=>exact rl.elim
theorem PR.bind_assoc(r:PR)(f g:By->Nat->PR):(r.bind f).bind g=r.bind λb p=>(f b p).bind g:=by cases r<;>rfl
theorem wT(s:By)(l:LB)(b:By)(p:Nat):aO (s::l) b p=(aO [s] b p).bind λb p=>aO l b p:=by
 simp only[aO,PR.bind_assoc];rfl
theorem Strs.sl{F:Nat->Prop}{w:Wd}{v:Va}{ss:LB}(h:Strs F w v ss):∃a c,v=.slice a ss.length c:=by
 rcases h with⟨rfl,rfl⟩|⟨b,c,cs,rfl,_⟩
 .exact⟨_,_,rfl⟩
 .exact⟨_,_,rfl⟩
theorem Strs.get{F:Nat->Prop}{w:Wd}{a:Option Addr}{n c:Nat}{ss:LB}(h:Strs F w (.slice a n c) ss){i:Nat}(hi:i<ss.length):∃q,a=some ⟨q,0,none⟩/\w.cell? ⟨q,i,none⟩=some (str ss[i]):=by
 rcases h with⟨_,rfl⟩|⟨b,c,cs,h1,h2,h3,h4,h5⟩
 .simp at hi
 .injection h1 with h1 h6 h7;refine⟨b,h1,?_⟩;rw[h3.cell];have:(cs.take ss.length)[i]?=some (str ss[i]):=by rw[h4];simp[hi]
  rwa [List.getElem?_take_of_lt hi]at this
theorem p68{n:Nat}(H:jM n){w:Wd}{b:Nat}{buf:By}{parts:Nat}{k nn:Int}{text:By}{l rr ks gs:Tr}{ps:LB}{body:Tr}{v:Va}{r:PR}(ht:TX w b buf parts)(re:aP (FO b w) w (.ex k nn text l rr ks gs ps body) (.P v))(hr:bK (n+1) (.func ps body) buf parts=r)(aI:r≠.bH):
  Calls prog 68 #[ptr b,v] w (aZ (λ_=>cO w b r) (cN w b r)):=by
 refine s68 ?_;unfold Zr;have kk:=KO.refl b w;simp only[bK]at hr;obtain⟨c,line,lv,rv,kv,av,pv,bv,rfl,qe,ae,_,_,_,_,sp,rb⟩:=re;refine V1.aG ah λbs ws NS=>?_;have fS:=ht.fu NS.aA NS.ge;have aS:At ws bs (List.map str [[40]]):=NS.at_;have kS:=KO.aA (b:=b) NS.aA;obtain⟨ae,qe⟩:=kS.at ht ae qe;replace sp:=kS.strs ht sp;replace rb:=kS.rep ht rb;replace kk:=kk.trans kS ht.ab;replace ht:=ht.aA NS.aA;have cK:=fQ ht aS fS ak rfl (PR.aM hr aI);refine dw cK ?_ (λc w' h=>cN.up h hr kk ht);clear cK;rintro _ wP hP;obtain⟨cV,bB,eP,bU,kP⟩:=cO.out hP;have jN:=(bW.aO _ _ _ _ _ eP).2;have hA:=bJ eP;simp only[map_cons,map_nil,sum_cons,sum_nil,length_cons,length_nil]at hA
 rw[eP,PR.aL]at hr;obtain⟨ae,qe⟩:=kP.at ht ae qe;replace sp:=kP.strs ht sp;replace rb:=kP.rep ht rb;replace kk:=kk.trans kP ht.ab;replace ht:=bU;clear hP eP bU kP;clear aS fS NS kS;refine Up.i (Nc.p _ _) ?_;refine V1.i ah ?_;refine V1.load (aC rfl) (ae) rfl ?_;obtain⟨base,cp,rfl⟩:=sp.sl;refine V1.i ah ?_
 refine L1.i (λv w'=>∃i buf parts,v=.int .i64 (i:Nat)/\i<=ps.length/\i<=buf.length+1/\TX w' b buf parts/\At w' c [.int .i64 k,.int .i64 line,.int .i64 nn,str text,lv,rv,kv,av,.slice base ps.length cp,bv]/\FO b w' c/\Strs (FO b w') w' (.slice base ps.length cp) ps/\aP (FO b w') w' body (.L bv)/\KO b w w'/\(gS (ps.drop i) (decide (i=0)) buf parts).bind (λb p=>(aO [[41]] b p).bind λb p=>(bK n (.block body) b p).bind λb p=>aO [cT] b p)=r) (λv w'=>match v with|.int _ n=>(ps.length-n.toNat)|_=>0) ⟨0,_,_,rfl,by omega,by omega,ht,ae,qe,sp,rb,kk,hr⟩ ?_;clear ht ae qe sp rb kk hr;rintro v w1 ⟨i,buf,parts,rfl,hi,hib,ht,ae,qe,sp,rb,kk,hr⟩;by_cases bO:i<ps.length
 .rw[drop_eq_getElem_cons bO]at hr;obtain⟨q,rfl,hc⟩:=sp.get bO;have NH:=ht.len;refine V1.bt ay ?_;refine If.t ?_;refine V1.i (mD _ bO) ?_;refine V1.i ((aC rfl) _ _ _ hc) ?_;generalize ps[i]=s at*;refine J0.go ?_;rcases Nat.eq_zero_or_pos i with rfl|h0
  .refine V1.i ah ?_;refine If.f ?_;simp only[gS,decide_true,if_true,PR.bind_assoc]at hr;refine V1.aG ah λbs ws NS=>?_;have fS:=ht.fu NS.aA NS.ge;have aS:At ws bs (List.map str [s]):=NS.at_;have kS:=KO.aA (b:=b) NS.aA;obtain⟨ae,qe⟩:=kS.at ht ae qe;replace sp:=kS.strs ht sp;replace rb:=kS.rep ht rb;replace kk:=kk.trans kS ht.ab;replace ht:=ht.aA NS.aA;have cK:=fQ ht aS fS ak rfl (PR.aM hr aI);refine dw cK ?_ (λc w' h=>cN.up h hr kk ht);clear cK;rintro _ wP hP;obtain⟨cV,bB,eP,bU,kP⟩:=cO.out hP;have jN:=(bW.aO _ _ _ _ _ eP).2;have hA:=bJ eP;simp only[map_cons,map_nil,sum_cons,sum_nil,length_cons,length_nil]at hA;rw[eP,PR.aL]at hr
   obtain⟨ae,qe⟩:=kP.at ht ae qe;replace sp:=kP.strs ht sp;replace rb:=kP.rep ht rb;replace kk:=kk.trans kP ht.ab;replace ht:=bU;clear hP eP bU kP;clear aS fS NS kS;refine V1.i (cC _ _ _ _ _ _ aj aj) ?_;exact⟨⟨1,_,_,by simp,by omega,by omega,ht,ae,qe,sp,rb,kk,by simpa using hr⟩,by simp;omega⟩
  .have RM:decide (i=0)=false:=by simp;omega
   refine V1.bt ay ?_;refine If.t ?_;rw[RM]at hr;simp only[gS,false_eq_true,if_false]at hr;rw[wT]at hr;simp only[PR.bind_assoc]at hr;refine V1.aG ah λbs ws NS=>?_;have fS:=ht.fu NS.aA NS.ge;have aS:At ws bs (List.map str [[44,32]]):=NS.at_;have kS:=KO.aA (b:=b) NS.aA;obtain⟨ae,qe⟩:=kS.at ht ae qe;replace sp:=kS.strs ht sp;replace rb:=kS.rep ht rb;replace kk:=kk.trans kS ht.ab;replace ht:=ht.aA NS.aA;have cK:=fQ ht aS fS ak rfl (PR.aM hr aI);refine dw cK ?_ (λc w' h=>cN.up h hr kk ht);clear cK;rintro _ wP hP;obtain⟨cV,bB,eP,bU,kP⟩:=cO.out hP;have jN:=(bW.aO _ _ _ _ _ eP).2;have hA:=bJ eP
   simp only[map_cons,map_nil,sum_cons,sum_nil,length_cons,length_nil]at hA;rw[eP,PR.aL]at hr;obtain⟨ae,qe⟩:=kP.at ht ae qe;replace sp:=kP.strs ht sp;replace rb:=kP.rep ht rb;replace kk:=kk.trans kP ht.ab;replace ht:=bU;clear hP eP bU kP;clear aS fS NS kS;refine V1.aG ah λbs ws NS=>?_;have fS:=ht.fu NS.aA NS.ge;have aS:At ws bs (List.map str [s]):=NS.at_;have kS:=KO.aA (b:=b) NS.aA;obtain⟨ae,qe⟩:=kS.at ht ae qe;replace sp:=kS.strs ht sp;replace rb:=kS.rep ht rb;replace kk:=kk.trans kS ht.ab;replace ht:=ht.aA NS.aA;have cK:=fQ ht aS fS ak rfl (PR.aM hr aI);refine dw cK ?_ (λc w' h=>cN.up h hr kk ht);clear cK;rintro _ wP hP
   obtain⟨cV,bB,eP,bU,kP⟩:=cO.out hP;have jN:=(bW.aO _ _ _ _ _ eP).2;have hA:=bJ eP;simp only[map_cons,map_nil,sum_cons,sum_nil,length_cons,length_nil]at hA;rw[eP,PR.aL]at hr;obtain⟨ae,qe⟩:=kP.at ht ae qe;replace sp:=kP.strs ht sp;replace rb:=kP.rep ht rb;replace kk:=kk.trans kP ht.ab;replace ht:=bU;clear hP eP bU kP;clear aS fS NS kS;have zh:decide (i+1=0)=false:=by simp
   refine V1.i (cC _ _ _ _ _ _ aj aj) ?_;exact⟨⟨i+1,_,_,by simp,by omega,by omega,ht,ae,qe,sp,rb,kk,by rw[zh];exact hr⟩,by simp;omega⟩
 .have:i=ps.length:=by omega
  subst this;rw[List.drop_length]at hr;simp only[gS,PR.aL]at hr;refine V1.bf au ?_;refine If.f ?_;refine V1.aG ah λbs ws NS=>?_;have fS:=ht.fu NS.aA NS.ge;have aS:At ws bs (List.map str [[41]]):=NS.at_;have kS:=KO.aA (b:=b) NS.aA;obtain⟨ae,qe⟩:=kS.at ht ae qe;replace sp:=kS.strs ht sp;replace rb:=kS.rep ht rb;replace kk:=kk.trans kS ht.ab;replace ht:=ht.aA NS.aA;have cK:=fQ ht aS fS ak rfl (PR.aM hr aI);refine dw cK ?_ (λc w' h=>cN.up h hr kk ht);clear cK;rintro _ wP hP;obtain⟨cV,bB,eP,bU,kP⟩:=cO.out hP;have jN:=(bW.aO _ _ _ _ _ eP).2;have hA:=bJ eP
  simp only[map_cons,map_nil,sum_cons,sum_nil,length_cons,length_nil]at hA;rw[eP,PR.aL]at hr;obtain⟨ae,qe⟩:=kP.at ht ae qe;replace sp:=kP.strs ht sp;replace rb:=kP.rep ht rb;replace kk:=kk.trans kP ht.ab;replace ht:=bU;clear hP eP bU kP;clear aS fS NS kS;refine Up.i (Nc.p _ _) ?_;refine V1.i ah ?_;refine V1.load (aC rfl) (ae) rfl ?_;have hK:=H.block ht rb rfl (PR.aM hr aI);refine tX hK ?_ (λc w' h=>cN.up h hr kk ht);clear hK;rintro _ wP hP;obtain⟨cV,bB,eP,bU,kP⟩:=cO.out hP;have hA:=cQ _ _ _ _ _ _ eP;rw[eP,PR.aL]at hr;obtain⟨ae,qe⟩:=kP.at ht ae qe;replace sp:=kP.strs ht sp;replace rb:=kP.rep ht rb;replace kk:=kk.trans kP ht.ab;replace ht:=bU
  clear hP eP bU kP;refine V1.aG ah λbs ws NS=>?_;have fS:=ht.fu NS.aA NS.ge;have aS:At ws bs (List.map str [cT]):=NS.at_;have kS:=KO.aA (b:=b) NS.aA;obtain⟨ae,qe⟩:=kS.at ht ae qe;replace sp:=kS.strs ht sp;replace rb:=kS.rep ht rb;replace kk:=kk.trans kS ht.ab;replace ht:=ht.aA NS.aA;have cK:=fQ ht aS fS ak hr aI;refine dw cK (λv w' h=>cO.pre h kk ht) (λc w' h=>cN.pre h kk ht)
theorem NZ{n:Nat}(H:jM n){w:Wd}{b b1 b2:Nat}{buf:By}{parts:Nat}{e:Tr}{v:Va}{r:PR}(ht:TX w b buf parts)(re:aP (FO b w) w e (.P v))(a1:At w b1 [ptr b])(a2:At w b2 [v])(hr:bK n (.expr e) buf parts=r)(aI:r≠.bH):
  Calls prog 169 #[ptr b1,ptr b2] w (aZ (λ_=>cO w b r) (cN w b r)):=by
 refine Th ?_;unfold J9;have kk:=KO.refl b w;refine V1.load (aC rfl) (a1) rfl ?_;refine V1.load (aC rfl) (a2) rfl ?_;have hK:=H.expr ht re hr aI;refine pW hK (λv w' h=>cO.pre h kk ht) (λc w' h=>cN.pre h kk ht)
def RV(b1 b2:Nat):Va:=.func (.func 169) #[] #[ptr b1,ptr b2]
theorem Et(w:Wd)(b1 b2:Nat):(Cv (RV b1 b2) #[]).run prog w=.ok (.enter 169 #[ptr b1,ptr b2]) w:=ai
theorem Oa(w:Wd)(b1 b2:Nat):(Cv (.func (.func 170) #[] #[ptr b1,ptr b2]) #[]).run prog w=.ok (.enter 170 #[ptr b1,ptr b2]) w:=ai
theorem Wj{n:Nat}(H:jM n){w:Wd}{b b1 b2 b7:Nat}{buf:By}{parts:Nat}{e:Tr}{v:Va}{r:PR}(ht:TX w b buf parts)(re:aP (FO b w) w e (.P v))(a1:At w b1 [ptr b])(q1:FO b w b1)(a2:At w b2 [v])(q2:FO b w b2)(a7:At w b7 [RV b1 b2])(q7:FO b w b7)
  (hr:((aO [[40]] buf parts).bind λb p=>(bK n (.expr e) b p).bind λb p=>aO [[41]] b p)=r) (aI:r≠.bH):
  Calls prog 170 #[ptr b1,ptr b7] w (aZ (λ_=>cO w b r) (cN w b r)):=by
 refine Ti ?_;unfold Ka;have kk:=KO.refl b w;refine V1.load (aC rfl) (a1) rfl ?_;refine V1.aG ah λbs ws NS=>?_;have fS:=ht.fu NS.aA NS.ge;have aS:At ws bs (List.map str [[40]]):=NS.at_;have kS:=KO.aA (b:=b) NS.aA;replace re:=kS.rep ht re;obtain⟨a1,q1⟩:=kS.at ht a1 q1;obtain⟨a2,q2⟩:=kS.at ht a2 q2;obtain⟨a7,q7⟩:=kS.at ht a7 q7;replace kk:=kk.trans kS ht.ab;replace ht:=ht.aA NS.aA;have cK:=fQ ht aS fS ak rfl (PR.aM hr aI);refine dw cK ?_ (λc w' h=>cN.up h hr kk ht);clear cK;rintro _ wP hP;obtain⟨cV,bB,eP,bU,kP⟩:=cO.out hP;have jN:=(bW.aO _ _ _ _ _ eP).2;have hA:=bJ eP
 simp only[map_cons,map_nil,sum_cons,sum_nil,length_cons,length_nil]at hA;rw[eP,PR.aL]at hr;replace re:=kP.rep ht re;obtain⟨a1,q1⟩:=kP.at ht a1 q1;obtain⟨a2,q2⟩:=kP.at ht a2 q2;obtain⟨a7,q7⟩:=kP.at ht a7 q7;replace kk:=kk.trans kP ht.ab;replace ht:=bU;clear hP eP bU kP;clear aS fS NS kS;refine V1.load (aC rfl) (a7) rfl ?_;refine Up.c (Et _ b1 b2) ?_;have GZ:=NZ H ht re a1 a2 rfl (PR.aM hr aI);refine aZ.imp GZ ?_ (λc w' h=>cN.up h hr kk ht);rintro _ wP hP;obtain⟨cV,bB,eP,bU,kP⟩:=cO.out hP;rw[eP,PR.aL]at hr;obtain⟨a1,q1⟩:=kP.at ht a1 q1;replace kk:=kk.trans kP ht.ab;replace ht:=bU;refine V1.load (aC rfl) (a1) rfl ?_
 refine V1.aG ah λbs ws NS=>?_;have fS:=ht.fu NS.aA NS.ge;have aS:At ws bs (List.map str [[41]]):=NS.at_;have kS:=KO.aA (b:=b) NS.aA;obtain⟨a1,q1⟩:=kS.at ht a1 q1;replace kk:=kk.trans kS ht.ab;replace ht:=ht.aA NS.aA;have cK:=fQ ht aS fS ak hr aI;refine dw cK (λv w' h=>cO.pre h kk ht) (λc w' h=>cN.pre h kk ht)
theorem Wk{n:Nat}(H:jM n){w:Wd}{b:Nat}{buf:By}{parts:Nat}{e:Tr}{v:Va}{r:PR}{around:Bool}(hv:Sc v=true)(ht:TX w b buf parts)(re:aP (FO b w) w e (.P v))(hr:bK (n+1) (.inner e around) buf parts=r)(aI:r≠.bH):
  Calls prog 116 #[ptr b,v,.bool around] w (aZ (λ_=>cO w b r) (cN w b r)):=by
 refine Tb ?_;unfold JT;have kk:=KO.refl b w;refine V1.new (SI _ _) λb1 w1 N1=>?_;have a1:At w1 b1 [ptr b]:=N1.at_;have q1:=ht.fu N1.aA N1.ge;have kS:=KO.aA (b:=b) N1.aA;replace re:=kS.rep ht re;replace kk:=kk.trans kS ht.ab;replace ht:=ht.aA N1.aA;clear kS;refine V1.new (SH _ _) λb2 w2 N2=>?_;have a2:At w2 b2 [v]:=by
  have:=N2.at_
  cases v<;>first|exact this|cases hv
 have q2:=ht.fu N2.aA N2.ge;have kS:=KO.aA (b:=b) N2.aA;replace re:=kS.rep ht re;obtain⟨a1,q1⟩:=kS.at ht a1 q1;replace kk:=kk.trans kS ht.ab;replace ht:=ht.aA N2.aA;clear kS;refine V1.i (v:=RV b1 b2) (w':=w2) (by simp[go_sem];rfl) ?_;refine J1.go ?_
 cases around with
 |false=>
  refine If.f ?_;simp only[bK]at hr;refine Up.c (Et _ b1 b2) ?_;have GZ:=NZ H ht re a1 a2 hr aI;exact aZ.imp GZ (λv w' h=>cO.pre h kk ht) (λc w' h=>cN.pre h kk ht)
 |true=>
  refine If.t ?_;simp only[bK]at hr;refine V1.new (al1 _) λb7 w7 N7=>?_;refine U1.store (aH rfl rfl) N7.at_ ak λw8 U8=>?_;have a7:At w8 b7 [RV b1 b2]:=U8.at_;have K8:aD [] w2 w8:=N7.aA.trans' U8.aA (by have:=N7.ge;simp;omega);have q7:=ht.fu K8 N7.ge;have kS:=KO.aA (b:=b) K8;replace re:=kS.rep ht re;obtain⟨a1,q1⟩:=kS.at ht a1 q1;obtain⟨a2,q2⟩:=kS.at ht a2 q2;replace kk:=kk.trans kS ht.ab;replace ht:=ht.aA K8;clear kS;refine V1.i (v:=.func (.func 170) #[] #[ptr b1,ptr b7]) (w':=w8) (by simp[go_sem];exact⟨rfl,rfl⟩) ?_;refine Up.c (Oa _ b1 b7) ?_;have Wl:=Wj H ht re a1 q1 a2 q2 a7 q7 hr aI;exact aZ.imp Wl (λv w' h=>cO.pre h kk ht) (λc w' h=>cN.pre h kk ht)
theorem aP.sI{F:Nat->Prop}{w:Wd}{t:Tr}{v:Va}(h:aP F w t (.P v))(hk:t≠.hole):Sc v=true:=by
 cases t with
 |nil=>cases h;rfl
 |ex=>obtain⟨c,line,lv,rv,kv,av,pv,bv,rfl,_⟩:=h;rfl
 |st=>obtain⟨c,line,lv,rv,kv,av,pv,rfl,_⟩:=h;rfl
 |cons=>exact h.elim
 |hole=>exact absurd rfl hk
theorem Ob{n:Nat}(H:jM n){w:Wd}{b:Nat}{buf:By}{parts:Nat}{e:Tr}{v:Va}{r:PR}(hk:kn e=true)(ht:TX w b buf parts)(re:aP (FO b w) w e (.P v))(hr:bK n (.inner e (vC e)) buf parts=r)(aI:r≠.bH):
  Calls prog 114 #[ptr b,v] w (aZ (λ_=>cO w b r) (cN w b r)):=by
 refine S0 ?_;unfold JR;have kk:=KO.refl b w
 cases e with
 |nil=>
  have hv:v=.pointer none:=re;refine V1.bf (by rw[hv];simp[go_sem]) ?_;refine J1.go (Gd.ft ?_);refine V1.i ah ?_;have hK:=H.inner hk ht re hr aI;refine oY hK (λv w' h=>cO.pre h kk ht) (λc w' h=>cN.pre h kk ht)
 |ex k nn text l rr keys args params body=>
  have hv:∃c line lv rv kv av pv bv,v=ptr c/\FO b w c/\At w c [.int .i64 k,.int .i64 line,.int .i64 nn,str text,lv,rv,kv,av,pv,bv]:=by
   obtain⟨c,line,lv,rv,kv,av,pv,bv,rfl,q,a,_⟩:=re;exact⟨c,line,lv,rv,kv,av,pv,bv,rfl,q,a⟩
  obtain⟨c,line,lv,rv,kv,av,pv,bv,rfl,q1,a1⟩:=hv;refine V1.bt (by simp[go_sem,ptr];first|done|rfl|exact⟨rfl,rfl⟩) ?_;refine J1.go (Gd.tt ?_);refine V1.aG (by simp[go_sem];first|done|rfl|exact⟨rfl,rfl⟩|(repeat' (first|rfl|apply And.intro))) λbs ws NS=>?_;have aS:At ws bs [.int .i64 10,.int .i64 11,.int .i64 9]:=NS.at_;have kS:=KO.aA (b:=b) NS.aA;replace re:=kS.rep ht re;obtain⟨a1,q1⟩:=kS.at ht a1 q1;replace kk:=kk.trans kS ht.ab;replace ht:=ht.aA NS.aA;clear kS;refine Up.i (Nc.p _ _) ?_;refine V1.i ah ?_;refine V1.load (aC rfl) (a1) rfl ?_;refine JZ (Wh aS k) ?_ (NP.no (e:=_));rintro _ w2 ⟨rfl,rfl⟩;refine V1.i ah ?_;have hK:=H.inner hk ht re hr aI
  refine oY hK (λv w' h=>cO.pre h kk ht) (λc w' h=>cN.pre h kk ht)
 |hole=>cases hk
 |cons=>cases hk
 |st=>cases hk
end Go.Proofs.YtoddjlclpnoomaaGreatDoor

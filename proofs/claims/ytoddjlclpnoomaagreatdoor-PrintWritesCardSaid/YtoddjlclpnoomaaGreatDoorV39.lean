/- PrintWrites proved: for whatever choices, the statements that are made of them have the text, or the reason for none, that the reference gives. No condition beside the row's own. -/
import Derived.Test.YtoddjlclpnoomaaGreatDoorV38
set_option linter.unusedVariables false
set_option linter.unusedSimpArgs false
set_option maxRecDepth 100000
open Go.Proofs.Tryz
open List (all_eq_true)
open Nat (le_refl)
open Int (reduceEq)
open Bool (and_eq_true or_eq_false_iff)
namespace Go.Proofs.YtoddjlclpnoomaaGreatDoor
open Go.Sh
set_option maxRecDepth 100000
section
variable {z lo:Nat}{w0:Wd}
set_option maxHeartbeats 1000000 in
theorem g44(H:lj z){n:Nat}{t:Tr}{u:Va}(hz:tz t<=z+1)(hw:wf t 2=true)(hR:aP (Fo lo) w0 t (.P u)):WG 44 [u] lo w0 (tz t) (bK n (.stmt t)):=by
 intro w b σ B rr c hB hr aI;refine s44 ?_;unfold S44;unfold W0 at hB;obtain⟨n,hr⟩:=fM hr aI;rcases dC hw with rfl|⟨k,nm,l,r,t,x,y,rfl⟩
 .have hu:u=.pointer none:=hR;subst hu;refine V1.bt au ?_;refine J1.go (Gd.tf ?_);refine V1.bt au ?_;refine J1.go (Gd.tf ?_);refine V1.bt au ?_;exact If.t (c.fail 2 aj hr λ_ w2 c=>c.more aj)
 obtain⟨q,line,lv,rv,tv,av,bv,rfl,hq,a,hl,th,ht,ha,hb⟩:=id hR;have yS:=hw;simp only[wf,and_eq_true]at hw;obtain⟨⟨⟨⟨f1,f2⟩,f3⟩,f4⟩,f5⟩:=hw;have a1:=c.kl.at a hq;have hz0:=hz;simp only[tz]at hz hB⊢;have p1:=bE l;have p2:=bE r;have p3:=bE t;have p4:=bE x;have p5:=bE y;refine V1.bf (by simp[go_sem,ptr]) ?_;refine J1.gd (c:=false) (decide (k<1)) (λ_ kx ed=>lF.i a1 (V1.i (Q4 _ _ _) ed)) ?_;refine V1.i (fI _ _ _) ?_;rw[Bool.false_or];refine J1.gd (c:=false) (decide (11<k)) (λ_ kx ed=>lF.i a1 (V1.i (H4 _ _ _) ed)) ?_;refine V1.i (fI _ _ _) ?_;by_cases hk:k<1\/11<k
 .rw[show(decide (k<1)||decide (11<k))=true by simpa using hk];simp only[bK,if_pos hk]at hr;exact If.t (c.fail 2 aj hr λ_ w2 c=>c.more aj)
 rw[show(decide (k<1)||decide (11<k))=false by
  rw[or_eq_false_iff];simp;omega]
 refine If.f ?_;simp only[bK,if_neg hk]at hr;refine c.part aj hr λ_ w2 σ2 c gO=>?_;clear hr a1;have hr:=gO;clear gO;refine c.lf a hq ?_;have jn:k=1\/k=2\/k=3\/k=4\/k=5\/k=6\/k=7\/k=8\/k=9\/k=10\/k=11:=by omega
 clear hk;rcases jn with rfl|rfl|rfl|rfl|rfl|rfl|rfl|rfl|rfl|rfl|rfl<;>simp only[reduceIte,reduceEq]at hr<;>(repeat(first|refine V1.i (fG _ _ _) (If.t ?_)|refine V1.i (fG _ _ _) (If.f ?_)))
 .refine c.qT _ hr λ_ w3 σ3 c hr=>?_;refine c.lf a hq ?_;refine c.put nm hr λ_ w4 σ4 c hr=>?_;refine c.lf a hq ?_;exact(c77 (n:=n) H [32,61,32] aj f2 th).qU QB c (by unfold W0;omega) hr aI λ_ _ c=>c.more aj
 .refine c.lf a hq ?_;refine(H.expr (n:=n) aj f1 hl).go lh c (by unfold W0;omega) hr aI λ_ w3 σ3 c hr=>?_;obtain⟨n1,hr⟩:=tq (f:=λb p=>.ok b p) f2 (by rw[←hr];exact tj) aI;refine c.put _ hr λ_ w4 σ4 c hr=>?_;refine c.lf a hq ?_;exact(H.expr (n:=n1) aj f2 th).qU lh c (by unfold W0;omega) (by rw[←hr];exact tj.symm) aI λ_ _ c=>c.more aj
 .refine c.lf a hq ?_;exact(H.expr (n:=n) aj f2 th).qU lh c (by unfold W0;omega) hr aI λ_ _ c=>c.more aj
 .obtain⟨n1,hr⟩:=nb hr aI;refine c.put _ hr λ_ w4 σ4 c hr=>?_;refine c.lf a hq ?_;refine(E9 (n:=n1) H aj f4 ha).go td c (by unfold W0;omega) hr aI λ_ w5 σ5 c hr=>?_;exact c.iR cT hr λ_ _ c=>c.more aj
 .obtain⟨n1,hr⟩:=tq f2 hr aI;refine c.put _ hr λ_ w3 σ3 c hr=>?_;refine c.lf a hq ?_;refine(H.expr (n:=n1) aj f2 th).go lh c (by unfold W0;omega) hr aI λ_ w4 σ4 c hr=>?_;obtain⟨n2,hr⟩:=nb hr aI;refine c.put _ hr λ_ w5 σ5 c hr=>?_;refine c.lf a hq ?_;refine(E9 (n:=n2) H aj f4 ha).go td c (by unfold W0;omega) hr aI λ_ w6 σ6 c hr=>?_;exact c.iR cT hr λ_ _ c=>c.more aj
 .refine c.put DG hr λ_ w3 σ3 c hr=>?_;exact(g80 (n:=n) H hz0 yS hR).qU QC c (by unfold W0;omega) hr aI λ_ _ c=>c.more aj
 .refine c.qT _ hr λ_ w3 σ3 c hr=>?_;refine c.lf a hq ?_;refine c.put nm hr λ_ w4 σ4 c hr=>?_;obtain⟨n1,hr⟩:=tq f2 hr aI;refine c.put _ hr λ_ w5 σ5 c hr=>?_;refine c.lf a hq ?_;refine(H.expr (n:=n1) aj f2 th).go lh c (by unfold W0;omega) hr aI λ_ w6 σ6 c hr=>?_;obtain⟨n2,hr⟩:=tq f3 hr aI;refine c.put _ hr λ_ w7 σ7 c hr=>?_;refine c.lf a hq ?_;refine(H.expr (n:=n2) aj f3 ht).go lh c (by unfold W0;omega) hr aI λ_ w8 σ8 c hr=>?_;obtain⟨n3,hr⟩:=nb hr aI;refine c.put _ hr λ_ w9 σ9 c hr=>?_;refine c.lf a hq ?_;refine(E9 (n:=n3) H aj f4 ha).go td c (by unfold W0;omega) hr aI λ_ ei σ10 c hr=>?_;exact c.iR cT hr λ_ _ c=>c.more aj
 .refine c.put _ hr λ_ w3 σ3 c hr=>?_;refine c.lf a hq ?_;exact(c77 (n:=n) H [32] aj f2 th).qU QB c (by unfold W0;omega) hr aI λ_ _ c=>c.more aj
 .exact c.iR _ hr λ_ _ c=>c.more aj
 .refine c.put _ hr λ_ w3 σ3 c hr=>?_;refine c.lf a hq ?_;refine(E9 (n:=n) H aj f4 ha).go td c (by unfold W0;omega) hr aI λ_ w4 σ4 c hr=>?_;refine c.qT _ hr λ_ w5 σ5 c hr=>?_;refine c.lf a hq ?_;refine c.put nm hr λ_ w6 σ6 c hr=>?_;obtain⟨n1,hr⟩:=nb hr aI;replace hr:=YV c hr;refine c.lf a hq ?_;refine(E9 (n:=n1) H aj f5 hb).go td c (by unfold W0;omega) hr aI λ_ w7 σ7 c hr=>?_;exact c.iR cT hr λ_ _ c=>c.more aj
 .refine c.qT _ hr λ_ w3 σ3 c hr=>?_;refine c.lf a hq ?_;refine c.put nm hr λ_ w4 σ4 c hr=>?_;refine c.lf a hq ?_;rcases bM f2 with rfl|⟨k2,n2,IP,l2,r2,oy,oz,ix,Q6,rfl⟩
  .obtain rfl:rv=.pointer none:=th;refine V1.bt au ?_;refine J1.go (Gd.tf ?_);refine V1.bt au ?_;exact If.t (c.fail 2 aj hr λ_ _ c=>c.more aj)
  obtain⟨q2,iq,uE,uF,Cx,uG,A9,uH,rfl,ji,a2,gI,hrr2,hks2,hgs2,YX,YY⟩:=th;simp only[wf,and_eq_true]at f2;obtain⟨_,f6⟩:=f2;simp only[tz]at hz hB p2⊢;refine V1.bf (by simp[go_sem,ptr]) ?_;refine J1.gd (c:=false) (!(k2==9)) (λ_ kx ed=>c.lf a hq (c.lf a2 ji (V1.i (AE _ _ _) ed))) ?_;refine V1.i (fI _ _ _) ?_
  cases h9:(k2==9)with
  |false=>
   have h9:k2≠9:=by simpa using h9
   simp only[if_neg h9]at hr;exact If.t (c.fail 2 aj hr λ_ _ c=>c.more aj)
  |true=>
   obtain rfl:k2=9:=by simpa using h9
   simp only[if_true]at hr;refine If.f (c.part aj hr λ_ w5 σ5 c hr=>?_);refine c.lf a hq ?_;exact(c81 (n:=n) H aj f6 aj a2 ji YX YY).qU QD c (by unfold W0;omega) hr aI λ_ _ c=>c.more aj
theorem jz(hW:WH):∀z,lj z
 |0=>{
   expr:=fun{n lo w0 t u} hz _ _=>absurd (bE t) aj
   stmt:=fun{n lo w0 t u} hz _ _=>absurd (bE t) aj
   stmts:=fun{n lo w0 t u} hz _ _=>absurd (bE t) aj
   branch:=fun{n lo w0 k nm l r t a b u} hz _ _=>absurd (bE (.st k nm l r t a b)) aj}
 |z+1=>{
   expr:=g78 hW (jz hW z)
   stmt:=g44 (jz hW z)
   stmts:=g24 (jz hW z)
   branch:=g80 (jz hW z)}
end
end Go.Proofs.YtoddjlclpnoomaaGreatDoor

namespace Go.Proofs.YtoddjlclpnoomaaGreatDoor
open Go.Sh
theorem Qj{F:Nat->Prop}{w:Wd}{l:Tr}{v:Va}(n:Nat)(rl:aP F w l (.L v))(EA:wf l 3=true)(hz:tz l<=1000000000)(aI:bK n (.stmts l) [] 0≠.bH):
  Calls prog 11 #[v] w (aZ (λu w'=>u=.tuple #[str (je n l).1,.int .i64 (je n l).2]/\aD [] w w') NP):=by
 refine s11 ?_;unfold S11;refine V1.i ah ?_;refine V1.new (SL _ _) λb w1 N1=>?_;have z1:=N1.aA.size;have g1:=N1.ge;have a1:At w1 b [.slice none 0 0,.int .i64 0,.int .i64 0]:=N1.at_;have c:WC w1 w1 w.heap.size b (.ok [] 0) 0:=WC.mk' ⟨⟨_,0,0,[],a1,dS.nil _ _,.inl rfl,(λg hg=>by cases hg),by omega,(λbf p h=>by cases h;exact⟨rfl,rfl,rfl⟩),λc h=>by cases h⟩,PR.noConfusion,g1,z1,λbf p h=>by cases h;simp⟩;have rl1:aP (Fo w.heap.size) w1 l (.L v):=aP.aA N1.aA (λq hq bO=>⟨by simp,bO⟩) _ _ rl;refine(((jz wh (tz l)).stmts (n:=n) (le_refl _) EA rl1).qU QA c (by unfold W0;omega) rfl aI) λ_ w2 c=>?_;have kl:=c.kl
 have kw:aD [] w w2:=⟨by have:=kl.size;omega,λq hq _=>(kl.same q hq).trans (N1.aA.same q hq ak),kl.io.1.trans N1.aA.io.1,kl.io.2.trans N1.aA.io.2⟩;have hb:=c.wx.hb;have eW:=c.wx.eW;unfold je;have hr:(PR.ok [] 0).bind (bK n (.stmts l))=bK n (.stmts l) [] 0:=rfl;rw[hr]at c;generalize bK n (.stmts l) [] 0=r at*;obtain⟨vv,q,e,buf,a2,acc,hv,B4,hq,ho,hf⟩:=c.wx.ex;refine lF.i a2 ?_;refine V1.i (v:=.bool (!(e==0))) (w':=w2) (by simp[go_sem];rfl) ?_
 cases r with
 |bH=>exact absurd rfl aI
 |fail cd=>
  obtain⟨rfl,hc⟩:=hf _ rfl;rw[show(!(e==0))=true by simpa using hc];refine If.t ?_;have KD:aD [] w2 w2.drew:=(aD.refl _ _).drew;refine⟨λw'=>At w' b _/\aD [] w w',⟨KD.at a2 ak,kw.trans KD⟩,qF.i (λ_ hw=>hw.1) ?_⟩;rintro w' ⟨_,hk⟩;exact⟨rfl,hk⟩
 |ok bf p=>
  obtain⟨rfl,rfl,rfl⟩:=ho _ _ rfl;have hlen:=(c.wx.len _ _ rfl).1;refine If.f (lF.i a2 (V1.i acc.str ?_));have vX:=mw hlen;have zC:dN fR buf≠.bH:=by
   intro h;rw[h]at vX;exact vX
  refine XR (c25 w2 buf aj fR (by unfold fR aX;omega) _ rfl zC) ?_ (NP.no (e:=_));rintro _ w3 ⟨hP,K3⟩;have z3:=K3.size;have a3:=K3.at a2 ak;have YZ:=acc.fr K3 ak;dsimp only
  cases hp:dN fR buf with
  |bH=>exact absurd hp zC
  |fail cd=>
   rw[hp]at hP;obtain⟨line,rfl⟩:=hP;refine V1.i ah ?_;refine V1.i ah ?_;refine V1.i ah ?_;refine V1.new (wm _) λb4 w4 N4=>?_;have g4:=N4.ge;refine U1.Bd (c:=cd) (l:=line) N4.at_ λw5 U5=>?_;have kk:aD [] w w5:=((kw.trans K3).trans N4.aA).then U5.aA ak al
   refine J1.go (Gd.tt (lD.i U5.at_ ?_));refine V1.i (v:=.bool (cd==3)) (w':=w5) au ?_;refine V1.i (v:=.bool (cd==3)) (w':=w5) au ?_;refine If.b (λh=>?_) (λh=>?_)
   .have h:cd=3:=by simpa using h
    exact⟨by dsimp only;rw[if_pos h];rfl,kk⟩
   .have h:cd≠3:=by simpa using h
    refine J1.go (Gd.tf ?_);refine V1.bt au ?_;exact If.t ⟨by dsimp only;rw[if_neg h];rfl,kk⟩
  |ok t ts o=>
   rw[hp]at hP vX;obtain⟨lv,rfl,rt⟩:=hP;obtain⟨_,ht1,Ez⟩:=vX;refine V1.i ah ?_;refine V1.i ah ?_;refine V1.i ah ?_;refine V1.new (wm _) λb4 w4 N4=>?_;have g4:=N4.ge;refine U1.Bd (c:=0) (l:=0) N4.at_ λw5 U5=>?_;have Sr:aD [] w3 w5:=N4.aA.then U5.aA ak al
   have kk:aD [] w w5:=(kw.trans K3).trans Sr;have a5:=Sr.at a3 ak;have Y0:=YZ.fr Sr ak;refine J1.go (Gd.ft ?_);refine V1.bf au ?_;refine If.f ?_;refine J1.cut (λv w'=>v=.bool (!(dr t l))/\aD [] w5 w') ?_ ?_
   .refine Gd.ff (XS ((qQ aX (le_refl _)).Dh (F:=λ_=>True) Ez ht1 EA (aP.aA Sr (λq _ _=>⟨by simp,trivial⟩) _ _ rt) (aP.aA kk (λq _ _=>⟨by simp,trivial⟩) _ _ rl)) ?_ (NP.no (e:=_)));rintro _ w6 ⟨rfl,K6⟩;exact V1.i (v:=.bool (!(dr t l))) (w':=w6) au ⟨rfl,K6⟩
   rintro _ w6 ⟨rfl,K6⟩;refine V1.i (v:=.bool (!(dr t l))) (w':=w6) au ?_
   cases he:dr t l with
   |false=>
    exact If.t ⟨by dsimp only;rw[if_neg (by rw[he];simp)];rfl,kk.trans K6⟩
   |true=>
    refine If.f (lF.i (K6.at a5 ak) (V1.i (Y0.fr K6 ak).str ?_));exact⟨by dsimp only;rw[if_pos he],kk.trans K6⟩
end Go.Proofs.YtoddjlclpnoomaaGreatDoor
namespace Go.Proofs.YtoddjlclpnoomaaGreatDoor
theorem ret(k:Nat)(d:Int)(a:Tr)(x y:Int):run (k+2) (.fD a) d [⟨4,gM,0,x⟩,jK y]=.ok (snoc a (.st 8 [] .nil .nil .nil .nil .nil)) [jK y] false:=rfl
end Go.Proofs.YtoddjlclpnoomaaGreatDoor
namespace Go.Proofs.YtoddjlclpnoomaaGreatDoor
open Go.Sh
theorem Q7(w:Wd)(a:Int)(x y:Bool):(Bo .eql 23 x y (.int .i64 a) (.int .i64 a)).run prog w=.ok (.bool true) w:=by simp[go_sem]
theorem Y1{w:Wd}{v:Va}{l:By}(g:GL w)(h:mY w v l):Calls prog 3 #[v] w (aZ (λu w'=>u=.bool true/\aD [] w w') NP):=by
 refine s3 ?_;unfold S3;have hB:∀{w':Wd},aD [] w w'->mY w' v l:=λK1=>by
  obtain⟨a,c,e,hc,hlen,nW⟩:=h;refine⟨a,c,e,hc,hlen,λi hi=>?_⟩;obtain⟨b,e2,hb⟩:=nW i hi;exact⟨b,e2,K1.cell hb ak⟩
 refine Oq (nV h) ?_ (NP.no (e:=_));rintro x w2 ⟨rx,K2⟩;obtain⟨_,_,_,hw,hcn⟩:=kU l;have hz:tz (eG l)<=1000000000:=by have:=gT (eG l);omega
 have aI:bK (8*tz (eG l)+2) (.stmts (eG l)) [] 0≠.bH:=bT _ _ _ _ hw (by simp only[pz];omega);refine Y9 (c9 (g.new K2) (8*tz (eG l)+2) rx aI (λ_ _ _=>hw)) ?_ (NP.no (e:=_));rintro _ w3 ⟨rfl,K3⟩;have kk:=K2.trans K3;refine V1.i ah ?_;refine V1.i ah ?_;refine Oq (nV (hB kk)) ?_ (NP.no (e:=_));rintro x2 w4 ⟨rx2,K4⟩;replace kk:=kk.trans K4;refine YA (Qj (8*tz (eG l)+2) rx2 hw hz aI) ?_ (NP.no (e:=_));rintro _ w5 ⟨rfl,K5⟩;replace kk:=kk.trans K5;generalize je (8*tz (eG l)+2) (eG l)=r;refine V1.i ah ?_;refine V1.i ah ?_;refine V1.i (BM _ _ _ _ _) ?_;rw[beq_self_eq_true];refine J1.go (Gd.tt (V1.i (Q7 _ _ _ _) ?_))
 refine V1.bt au ?_;refine J1.go (Gd.tt (WD (c12 (g.new kk)) ?_ (NP.no (e:=_))));rintro _ w6 ⟨rfl,K6⟩;refine V1.bt au ?_;exact⟨rfl,kk.trans K6⟩
end Go.Proofs.YtoddjlclpnoomaaGreatDoor
namespace Go.Proofs.YtoddjlclpnoomaaGreatDoor
open Go.Sh Go.RowKit Go.Lib Go.Shelf Go.ChangeShapes Go.WideShapes Go.ChangeAt
theorem oS(os:Os)(started:os.Started)(H:Type)(enc:TypeId×Va->H):
  ReturnsInHanded {} checked os 3 .any (λw args=>(Rows.printWritesSpec.pre enc prog Tryz.f3 [] false w args/\laidMetH prog kV w)/\sizedMet enc prog Tryz.f3 (OpenSpec.ofChange Rows.printWritesSpec) false w args)
   (Rows.printWritesSpec.post enc prog Tryz.f3 false true false false):=by
 refine zL (C:=checked) (X:=λw _=>laidMetH prog kV w) (λw w' _ hh h=>xe w w' hh h) own started ai func3
  (ChangeSpec.witness_shaped (enc:=enc) (C:=checked) (os:=os) (X:=λw _=>laidMetH prog kV w) false (lZ os) #[.slice none 0 0] 8 (xc os) (qI os _) ai ai ai (xd os _)) ?_
 intro W base args ds gs before hs Q8 hW hL;have fz:∀(j:Nat) t v,Tryz.f3.params[j]?=some t->args[j]?=some v->Value.okWide prog W .any base t v:=Q8;have Y2:=hW;obtain⟨p,q,hA0,hV,rfl,_,_⟩:=hW;have hA:DataW.TrodAll enc prog W 0 (λ_=>true) true Tryz.f3.params.toList args.toList ds p:=hA0;rw[params3]at hA fz;obtain⟨v0,d0,rfl,rfl,h0⟩:=trodAll_one hA;obtain⟨rfl,rfl⟩:=trodVars_none hV;clear hA0;simp only[List.append_nil]at Y2;have bO:∀x∈p,x.block<W.heap.size:=λx hx=>by simpa using Y2.lt x hx
 obtain⟨l,hb⟩:=zO (fz 0 22 v0 rfl rfl) h0;refine(Y1 (uO hL hs) hb).mono ?_;rintro e W' h
 cases e with
 |returned u=>
  obtain⟨rfl,K⟩:=h;exact⟨_,rfl,_,_,_,[],_,[],Y2,trodAll_mk1 (shut_bool underlying4 true),trodAll_mk1 (xb ai (of_decide_eq_true ai) h0 K bO),rfl,qH K _,λh=>by cases h⟩
 |panicked c=>exact h.elim
 |outgrown=>exact h.elim
theorem qW:Rows.PrintWritesSaid:=
 OpenClaim.holds_of_wide 3 Tryz.f3 rfl rfl rfl rfl rfl rfl rfl ⟨rfl,rfl,rfl,rfl,rfl⟩ rfl rfl rfl rfl rfl ai func3 ai
  (of_decide_eq_true ai) (by unfold Func.isWrapper;first|(rw[if_pos (by decide+kernel)];kernel_rfl)|(rw[if_neg (by decide+kernel)];exact⟨rfl,rfl⟩))
  (λos started H enc _=>oS os started H enc)
theorem writes_card:Rows.PrintWritesCardSaid:=
 Claim7.holds_tied_plain_at .later [] [.data,.data,.data,.data,.handle,.sentinel,.sentinel,.listed,.data,.pinned] true (true, "069f827847f5d06f74c88ef4072bea09f2cf19a41c1836ac65fb1bb81358d246") true
  qW (λ_ h=>by cases h) ai (λ_ h=>by cases h) printWrites_row_tie rfl ⟨rfl,rfl⟩ ai rfl
  (λf fn hf Eo=>by
   obtain rfl:f=3:=Option.some.inj ((show prog.funcNamed "tallow/tallowlaw06.PrintWrites"=some 3 by kernel_rfl).symm.trans hf) |>.symm
   obtain rfl:fn=Tryz.f3:=(Option.some.inj (func3.symm.trans Eo)).symm;exact⟨by kernel_rfl,λj t ht=>by
    rw[params3]at ht;have hm:t∈[22]:=by simpa using Array.mem_of_getElem? ht
    have eY:([22].all λu=>!Tryz.prog.wantsStandIn u)=true:=ai
    exact(show prog.wantsStandIn t=false by simpa using all_eq_true.1 eY t hm)⟩)
  ai
end Go.Proofs.YtoddjlclpnoomaaGreatDoor

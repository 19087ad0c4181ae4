/- PrintReads proved: the text of what any source is. -/
import Derived.Test.YtoddjlclpnoomaaGreatDoorU34
set_option linter.unusedVariables false
set_option linter.unusedSimpArgs false
set_option maxRecDepth 100000
open Go.Proofs.Tryz
open List (all_eq_true)
open Nat (le_refl)
open Int (reduceEq)
open Bool (and_eq_true or_eq_false_iff)
namespace Go.Proofs.YtoddjlclpnoomaaGreatDoor
open Go.Sh
set_option maxRecDepth 100000
section
variable {z lo:Nat}{w0:Wd}
set_option maxHeartbeats 1000000 in
theorem g44(H:ke z){n:Nat}{t:Tr}{u:Va}(hz:tz t<=z+1)(hw:wf t 2=true)(hR:aU (Fo lo) w0 t (.P u)):WG 44 [u] lo w0 (tz t) (bJ n (.stmt t)):=by
 intro w b σ B rr c hB hr aI;refine s44 ?_;unfold XR;unfold W0 at hB;obtain⟨n,hr⟩:=fg hr aI;rcases dr hw with rfl|⟨k,nm,l,r,t,x,y,rfl⟩
 .have hu:u=.pointer none:=hR;subst hu;refine V1.bt am ?_;refine J1.go (Gd.tf ?_);refine V1.bt am ?_;refine J1.go (Gd.tf ?_);refine V1.bt am ?_;exact If.t (c.fail 2 aj hr λ_ w2 c=>c.more aj)
 obtain⟨q,line,lv,rv,tv,av,bv,rfl,hq,a,hl,rA,ht,ha,hb⟩:=id hR;have xi:=hw;simp only[wf,and_eq_true]at hw;obtain⟨⟨⟨⟨f1,f2⟩,f3⟩,f4⟩,f5⟩:=hw;have a1:=c.kl.at a hq;have WL:=hz;simp only[tz]at hz hB⊢;have p1:=bE l;have p2:=bE r;have p3:=bE t;have p4:=bE x;have p5:=bE y;refine V1.bf (by simp[go_sem,ptr]) ?_;refine J1.gd (c:=false) (decide (k<1)) (λ_ kx dO=>lF.i a1 (V1.i (NR _ _ _) dO)) ?_;refine V1.i (fm _ _ _) ?_;rw[Bool.false_or];refine J1.gd (c:=false) (decide (11<k)) (λ_ kx dO=>lF.i a1 (V1.i (FA _ _ _) dO)) ?_;refine V1.i (fm _ _ _) ?_;by_cases hk:k<1\/11<k
 .rw[show(decide (k<1)||decide (11<k))=true by simpa using hk];simp only[bJ,if_pos hk]at hr;exact If.t (c.fail 2 aj hr λ_ w2 c=>c.more aj)
 rw[show(decide (k<1)||decide (11<k))=false by
  rw[or_eq_false_iff];simp;omega]
 refine If.f ?_;simp only[bJ,if_neg hk]at hr;refine c.part aj hr λ_ w2 σ2 c gh=>?_;clear hr a1;have hr:=gh;clear gh;refine c.lf a hq ?_;have lK:k=1\/k=2\/k=3\/k=4\/k=5\/k=6\/k=7\/k=8\/k=9\/k=10\/k=11:=by omega
 clear hk;rcases lK with rfl|rfl|rfl|rfl|rfl|rfl|rfl|rfl|rfl|rfl|rfl<;>simp only[reduceIte,reduceEq]at hr<;>(repeat(first|refine V1.i (fa _ _ _) (If.t ?_)|refine V1.i (fa _ _ _) (If.f ?_)))
 .refine c.pD _ hr λ_ w3 σ3 c hr=>?_;refine c.lf a hq ?_;refine c.put nm hr λ_ w4 σ4 c hr=>?_;refine c.lf a hq ?_;exact(X0 (n:=n) H [32,61,32] aj f2 rA).pE Nj c (by unfold W0;omega) hr aI λ_ _ c=>c.more aj
 .refine c.lf a hq ?_;refine(H.expr (n:=n) aj f1 hl).go j0 c (by unfold W0;omega) hr aI λ_ w3 σ3 c hr=>?_;obtain⟨n1,hr⟩:=rC (f:=λb p=>.ok b p) f2 (by rw[←hr];exact rB) aI;refine c.put _ hr λ_ w4 σ4 c hr=>?_;refine c.lf a hq ?_;exact(H.expr (n:=n1) aj f2 rA).pE j0 c (by unfold W0;omega) (by rw[←hr];exact rB.symm) aI λ_ _ c=>c.more aj
 .refine c.lf a hq ?_;exact(H.expr (n:=n) aj f2 rA).pE j0 c (by unfold W0;omega) hr aI λ_ _ c=>c.more aj
 .obtain⟨n1,hr⟩:=mg hr aI;refine c.put _ hr λ_ w4 σ4 c hr=>?_;refine c.lf a hq ?_;refine(CW (n:=n1) H aj f4 ha).go ru c (by unfold W0;omega) hr aI λ_ w5 σ5 c hr=>?_;exact c.iq cO hr λ_ _ c=>c.more aj
 .obtain⟨n1,hr⟩:=rC f2 hr aI;refine c.put _ hr λ_ w3 σ3 c hr=>?_;refine c.lf a hq ?_;refine(H.expr (n:=n1) aj f2 rA).go j0 c (by unfold W0;omega) hr aI λ_ w4 σ4 c hr=>?_;obtain⟨n2,hr⟩:=mg hr aI;refine c.put _ hr λ_ w5 σ5 c hr=>?_;refine c.lf a hq ?_;refine(CW (n:=n2) H aj f4 ha).go ru c (by unfold W0;omega) hr aI λ_ w6 σ6 c hr=>?_;exact c.iq cO hr λ_ _ c=>c.more aj
 .refine c.put BB hr λ_ w3 σ3 c hr=>?_;exact(g80 (n:=n) H WL xi hR).pE Nk c (by unfold W0;omega) hr aI λ_ _ c=>c.more aj
 .refine c.pD _ hr λ_ w3 σ3 c hr=>?_;refine c.lf a hq ?_;refine c.put nm hr λ_ w4 σ4 c hr=>?_;obtain⟨n1,hr⟩:=rC f2 hr aI;refine c.put _ hr λ_ w5 σ5 c hr=>?_;refine c.lf a hq ?_;refine(H.expr (n:=n1) aj f2 rA).go j0 c (by unfold W0;omega) hr aI λ_ w6 σ6 c hr=>?_;obtain⟨n2,hr⟩:=rC f3 hr aI;refine c.put _ hr λ_ w7 σ7 c hr=>?_;refine c.lf a hq ?_;refine(H.expr (n:=n2) aj f3 ht).go j0 c (by unfold W0;omega) hr aI λ_ w8 σ8 c hr=>?_;obtain⟨n3,hr⟩:=mg hr aI;refine c.put _ hr λ_ w9 σ9 c hr=>?_;refine c.lf a hq ?_;refine(CW (n:=n3) H aj f4 ha).go ru c (by unfold W0;omega) hr aI λ_ eo σ10 c hr=>?_;exact c.iq cO hr λ_ _ c=>c.more aj
 .refine c.put _ hr λ_ w3 σ3 c hr=>?_;refine c.lf a hq ?_;exact(X0 (n:=n) H [32] aj f2 rA).pE Nj c (by unfold W0;omega) hr aI λ_ _ c=>c.more aj
 .exact c.iq _ hr λ_ _ c=>c.more aj
 .refine c.put _ hr λ_ w3 σ3 c hr=>?_;refine c.lf a hq ?_;refine(CW (n:=n) H aj f4 ha).go ru c (by unfold W0;omega) hr aI λ_ w4 σ4 c hr=>?_;refine c.pD _ hr λ_ w5 σ5 c hr=>?_;refine c.lf a hq ?_;refine c.put nm hr λ_ w6 σ6 c hr=>?_;obtain⟨n1,hr⟩:=mg hr aI;replace hr:=Vs c hr;refine c.lf a hq ?_;refine(CW (n:=n1) H aj f5 hb).go ru c (by unfold W0;omega) hr aI λ_ w7 σ7 c hr=>?_;exact c.iq cO hr λ_ _ c=>c.more aj
 .refine c.pD _ hr λ_ w3 σ3 c hr=>?_;refine c.lf a hq ?_;refine c.put nm hr λ_ w4 σ4 c hr=>?_;refine c.lf a hq ?_;rcases bM f2 with rfl|⟨k2,n2,Ge,l2,r2,nh,ni,gQ,NU,rfl⟩
  .obtain rfl:rv=.pointer none:=rA;refine V1.bt am ?_;refine J1.go (Gd.tf ?_);refine V1.bt am ?_;exact If.t (c.fail 2 aj hr λ_ _ c=>c.more aj)
  obtain⟨q2,gK,sL,sM,AD,sN,zd,sO,rfl,jc,a2,fY,hrr2,hks2,hgs2,Vu,Vv⟩:=rA;simp only[wf,and_eq_true]at f2;obtain⟨_,f6⟩:=f2;simp only[tz]at hz hB p2⊢;refine V1.bf (by simp[go_sem,ptr]) ?_;refine J1.gd (c:=false) (!(k2==9)) (λ_ kx dO=>c.lf a hq (c.lf a2 jc (V1.i (yI _ _ _) dO))) ?_;refine V1.i (fm _ _ _) ?_
  cases h9:(k2==9)with
  |false=>
   have h9:k2≠9:=by simpa using h9
   simp only[if_neg h9]at hr;exact If.t (c.fail 2 aj hr λ_ _ c=>c.more aj)
  |true=>
   obtain rfl:k2=9:=by simpa using h9
   simp only[if_true]at hr;refine If.f (c.part aj hr λ_ w5 σ5 c hr=>?_);refine c.lf a hq ?_;exact(X1 (n:=n) H aj f6 aj a2 jc Vu Vv).pE Nl c (by unfold W0;omega) hr aI λ_ _ c=>c.more aj
theorem iQ(hW:WH):∀z,ke z
 |0=>{
   expr:=fun{n lo w0 t u} hz _ _=>absurd (bE t) aj
   stmt:=fun{n lo w0 t u} hz _ _=>absurd (bE t) aj
   stmts:=fun{n lo w0 t u} hz _ _=>absurd (bE t) aj
   branch:=fun{n lo w0 k nm l r t a b u} hz _ _=>absurd (bE (.st k nm l r t a b)) aj}
 |z+1=>{
   expr:=g78 hW (iQ hW z)
   stmt:=g44 (iQ hW z)
   stmts:=g24 (iQ hW z)
   branch:=g80 (iQ hW z)}
end
end Go.Proofs.YtoddjlclpnoomaaGreatDoor

namespace Go.Proofs.YtoddjlclpnoomaaGreatDoor
open Go.Sh
theorem MX{F:Nat->Prop}{w:Wd}{l:Tr}{v:Va}(n:Nat)(rl:aU F w l (.L v))(CA:wf l 3=true)(hz:tz l<=1000000000)(aI:bJ n (.stmts l) [] 0≠.bH):
  Calls prog 11 #[v] w (aZ (λu w'=>u=.tuple #[str (iD n l).1,.int .i64 (iD n l).2]/\aD [] w w') NP):=by
 refine s11 ?_;unfold XP;refine V1.i ah ?_;refine V1.new (Pe _ _) λb w1 N1=>?_;have z1:=N1.aA.size;have g1:=N1.ge;have a1:At w1 b [.slice none 0 0,.int .i64 0,.int .i64 0]:=N1.at_;have c:WC w1 w1 w.heap.size b (.ok [] 0) 0:=WC.mk' ⟨⟨_,0,0,[],a1,dK.nil _ _,.inl rfl,(λg hg=>by cases hg),by omega,(λbf p h=>by cases h;exact⟨rfl,rfl,rfl⟩),λc h=>by cases h⟩,PR.noConfusion,g1,z1,λbf p h=>by cases h;simp⟩;have rl1:aU (Fo w.heap.size) w1 l (.L v):=aU.aA N1.aA (λq hq bO=>⟨by simp,bO⟩) _ _ rl;refine(((iQ wh (tz l)).stmts (n:=n) (le_refl _) CA rl1).pE Ni c (by unfold W0;omega) rfl aI) λ_ w2 c=>?_;have kl:=c.kl
 have kw:aD [] w w2:=⟨by have:=kl.size;omega,λq hq _=>(kl.same q hq).trans (N1.aA.same q hq ak),kl.io.1.trans N1.aA.io.1,kl.io.2.trans N1.aA.io.2⟩;have hb:=c.wx.hb;have eQ:=c.wx.eQ;unfold iD;have hr:(PR.ok [] 0).bind (bJ n (.stmts l))=bJ n (.stmts l) [] 0:=rfl;rw[hr]at c;generalize bJ n (.stmts l) [] 0=r at*;obtain⟨vv,q,e,buf,a2,acc,hv,Ad,hq,ho,hf⟩:=c.wx.ex;refine lF.i a2 ?_;refine V1.i (v:=.bool (!(e==0))) (w':=w2) (by simp[go_sem];rfl) ?_
 cases r with
 |bH=>exact absurd rfl aI
 |fail cd=>
  obtain⟨rfl,hc⟩:=hf _ rfl;rw[show(!(e==0))=true by simpa using hc];refine If.t ?_;have KD:aD [] w2 w2.drew:=(aD.refl _ _).drew;refine⟨λw'=>At w' b _/\aD [] w w',⟨KD.at a2 ak,kw.trans KD⟩,qF.i (λ_ hw=>hw.1) ?_⟩;rintro w' ⟨_,hk⟩;exact⟨rfl,hk⟩
 |ok bf p=>
  obtain⟨rfl,rfl,rfl⟩:=ho _ _ rfl;have hlen:=(c.wx.len _ _ rfl).1;refine If.f (lF.i a2 (V1.i acc.str ?_));have ui:=lz hlen;have xT:dC ei buf≠.bH:=by
   intro h;rw[h]at ui;exact ui
  refine Ub (c25 w2 buf aj ei (by unfold ei aX;omega) _ rfl xT) ?_ (NP.no (e:=_));rintro _ w3 ⟨hP,K3⟩;have z3:=K3.size;have a3:=K3.at a2 ak;have Vw:=acc.fr K3 ak;dsimp only
  cases hp:dC ei buf with
  |bH=>exact absurd hp xT
  |fail cd=>
   rw[hp]at hP;obtain⟨line,rfl⟩:=hP;refine V1.i ah ?_;refine V1.i ah ?_;refine V1.i ah ?_;refine V1.new (ux _) λb4 w4 N4=>?_;have g4:=N4.ge;refine U1.zh (c:=cd) (l:=line) N4.at_ λw5 U5=>?_;have kk:aD [] w w5:=((kw.trans K3).trans N4.aA).then U5.aA ak al
   refine J1.go (Gd.tt (lD.i U5.at_ ?_));refine V1.i (v:=.bool (cd==3)) (w':=w5) am ?_;refine V1.i (v:=.bool (cd==3)) (w':=w5) am ?_;refine If.b (λh=>?_) (λh=>?_)
   .have h:cd=3:=by simpa using h
    exact⟨by dsimp only;rw[if_pos h];rfl,kk⟩
   .have h:cd≠3:=by simpa using h
    refine J1.go (Gd.tf ?_);refine V1.bt am ?_;exact If.t ⟨by dsimp only;rw[if_neg h];rfl,kk⟩
  |ok t ts o=>
   rw[hp]at hP ui;obtain⟨lv,rfl,rt⟩:=hP;obtain⟨_,ht1,Cz⟩:=ui;refine V1.i ah ?_;refine V1.i ah ?_;refine V1.i ah ?_;refine V1.new (ux _) λb4 w4 N4=>?_;have g4:=N4.ge;refine U1.zh (c:=0) (l:=0) N4.at_ λw5 U5=>?_;have OW:aD [] w3 w5:=N4.aA.then U5.aA ak al
   have kk:aD [] w w5:=(kw.trans K3).trans OW;have a5:=OW.at a3 ak;have Vx:=Vw.fr OW ak;refine J1.go (Gd.ft ?_);refine V1.bf am ?_;refine If.f ?_;refine J1.cut (λv w'=>v=.bool (!(cZ t l))/\aD [] w5 w') ?_ ?_
   .refine Gd.ff (Uc ((pA aX (le_refl _)).Bd (F:=λ_=>True) Cz ht1 CA (aU.aA OW (λq _ _=>⟨by simp,trivial⟩) _ _ rt) (aU.aA kk (λq _ _=>⟨by simp,trivial⟩) _ _ rl)) ?_ (NP.no (e:=_)));rintro _ w6 ⟨rfl,K6⟩;exact V1.i (v:=.bool (!(cZ t l))) (w':=w6) am ⟨rfl,K6⟩
   rintro _ w6 ⟨rfl,K6⟩;refine V1.i (v:=.bool (!(cZ t l))) (w':=w6) am ?_
   cases he:cZ t l with
   |false=>
    exact If.t ⟨by dsimp only;rw[if_neg (by rw[he];simp)];rfl,kk.trans K6⟩
   |true=>
    refine If.f (lF.i (K6.at a5 ak) (V1.i (Vx.fr K6 ak).str ?_));exact⟨by dsimp only;rw[if_pos he],kk.trans K6⟩
end Go.Proofs.YtoddjlclpnoomaaGreatDoor
namespace Go.Proofs.YtoddjlclpnoomaaGreatDoor
theorem ret(k:Nat)(d:Int)(a:Tr)(x y:Int):run (k+2) (.eY a) d [⟨4,gg,0,x⟩,iZ y]=.ok (snoc a (.st 8 [] .nil .nil .nil .nil .nil)) [iZ y] false:=rfl
end Go.Proofs.YtoddjlclpnoomaaGreatDoor
namespace Go.Proofs.YtoddjlclpnoomaaGreatDoor
open Go.Sh
theorem NV(w:Wd)(a:Int)(x y:Bool):(Bo .eql 23 x y (.int .i64 a) (.int .i64 a)).run prog w=.ok (.bool true) w:=by simp[go_sem]
theorem Vy{w:Wd}{T:By}(g:GL w):Calls prog 4 #[str T] w (aZ (λu w'=>u=.bool true/\aD [] w w') NP):=by
 refine s4 ?_;unfold S4;refine V1.i ah ?_;refine V1.i (v:=.int .i64 ((min T.length 4000:Nat):Int)) (w':=w) ax ?_;refine V1.i (yW w T (min T.length 4000) (Nat.min_le_left _ _)) ?_;have hU:(T.take (min T.length 4000)).length<=4000:=by rw[List.length_take];omega
 generalize T.take (min T.length 4000)=U at hU⊢;have b1:=mP (s:=U) (n:=ei) (by unfold ei;omega);refine DP (KA w U g ei (by unfold ei aX;omega) _ rfl (λh=>by rw[h]at b1;exact b1)) ?_ (NP.no (e:=_));rintro v w2 ⟨q1,K2⟩
 cases h1:dC ei U with
 |bH=>rw[h1]at b1;exact b1.elim
 |fail c=>
  rw[h1]at q1;obtain⟨bb,line,rfl,_,_⟩:=q1;refine V1.i ah ?_;refine V1.i ah ?_;refine V1.i (wF _ _ _ _) ?_;refine If.t (Lm (c12 (g.new K2)) ?_ (NP.no (e:=_)));rintro _ w6 ⟨rfl,K6⟩;exact⟨rfl,K2.trans K6⟩
 |ok t ts o=>
  rw[h1]at q1 b1;obtain⟨lv,rfl,rt,_⟩:=q1;obtain⟨_,hw,hcn,_⟩:=b1;have hz:tz t<=1000000000:=by have:=gn t;omega
  refine V1.i ah ?_;refine V1.i ah ?_;refine V1.i (Aa _ _) ?_;refine If.f ?_;have aI:bJ (8*tz t+2) (.stmts t) [] 0≠.bH:=bR _ _ _ _ hw (by simp only[pz];omega);refine VG (c9 (g.new K2) (8*tz t+2) rt aI (λ_ _ _=>hw)) ?_ (NP.no (e:=_));rintro _ w3 ⟨rfl,K3⟩;have kk:=K2.trans K3;refine V1.i ah ?_;refine V1.i ah ?_;refine UW (MX (8*tz t+2) (aU.new K3 _ _ rt) hw hz aI) ?_ (NP.no (e:=_));rintro _ w5 ⟨rfl,K5⟩;replace kk:=kk.trans K5;generalize iD (8*tz t+2) t=r;refine V1.i ah ?_;refine V1.i ah ?_;refine V1.i (zQ _ _ _ _ _) ?_;rw[beq_self_eq_true];refine J1.go (Gd.tt (V1.i (NV _ _ _ _) ?_))
  refine V1.bt am ?_;refine J1.go (Gd.tt (Lm (c12 (g.new kk)) ?_ (NP.no (e:=_))));rintro _ w6 ⟨rfl,K6⟩;refine V1.bt am ?_;exact⟨rfl,kk.trans K6⟩
end Go.Proofs.YtoddjlclpnoomaaGreatDoor
namespace Go.Proofs.YtoddjlclpnoomaaGreatDoor
open Go.Sh Go.RowKit Go.Lib Go.Shelf Go.ChangeShapes Go.WideShapes Go.ChangeAt
theorem pG(os:Os)(started:os.Started)(H:Type)(enc:TypeId×Va->H):
  ReturnsInHanded {} checked os 4 .any (λw args=>(Rows.printReadsSpec.pre enc prog Tryz.f4 [] false w args/\laidMetH prog jU w)/\sizedMet enc prog Tryz.f4 (OpenSpec.ofChange Rows.printReadsSpec) false w args)
   (Rows.printReadsSpec.post enc prog Tryz.f4 false true false false):=by
 refine xW (C:=checked) (X:=λw _=>laidMetH prog jU w) (λw w' _ hh h=>vd w w' hh h) own started ai func4
  (ChangeSpec.witness_shaped (enc:=enc) (C:=checked) (os:=os) (X:=λw _=>laidMetH prog jU w) false (kN os) #[.string ⟨#[]⟩] 8 (u0 os) (pj os _) ai ai ai (u9 os _)) ?_
 intro W base args ds gs before hs NW hW hL;have fu:∀(j:Nat) t v,Tryz.f4.params[j]?=some t->args[j]?=some v->Value.okWide prog W .any base t v:=NW;have Vz:=hW;obtain⟨p,q,X3,hV,rfl,_,_⟩:=hW;have hA:DataW.TrodAll enc prog W 0 (λ_=>true) true Tryz.f4.params.toList args.toList ds p:=X3;rw[params4]at hA fu;obtain⟨v0,d0,rfl,rfl,h0⟩:=trodAll_one hA;obtain⟨rfl,rfl⟩:=trodVars_none hV;clear X3;simp only[List.append_nil]at Vz;have bO:∀x∈p,x.block<W.heap.size:=λx hx=>by simpa using Vz.lt x hx
 obtain⟨s,rfl⟩:=okWide_string underlying9 (fu 0 9 v0 rfl rfl);refine(Vy (T:=s.data.toList) (sR hL hs)).mono ?_;rintro e W' h
 cases e with
 |returned u=>
  obtain⟨rfl,K⟩:=h;exact⟨_,rfl,_,_,_,[],_,[],Vz,trodAll_mk1 (shut_bool underlying4 true),trodAll_mk1 (uZ ai (of_decide_eq_true ai) h0 K bO),rfl,ph K _,λh=>by cases h⟩
 |panicked c=>exact h.elim
 |outgrown=>exact h.elim
theorem rD:Rows.PrintReadsSaid:=
 OpenClaim.holds_of_wide 4 Tryz.f4 rfl rfl rfl rfl rfl rfl rfl ⟨rfl,rfl,rfl,rfl,rfl⟩ rfl rfl rfl rfl rfl ai func4 ai
  (of_decide_eq_true ai) (by unfold Func.isWrapper;first|(rw[if_pos (by decide+kernel)];kernel_rfl)|(rw[if_neg (by decide+kernel)];exact⟨rfl,rfl⟩))
  (λos started H enc _=>pG os started H enc)
theorem reads_card:Rows.PrintReadsCardSaid:=
 Claim7.holds_tied_plain_at .later [] [.data,.data,.data,.data,.handle,.sentinel,.sentinel,.listed,.data,.pinned] true (true, "069f827847f5d06f74c88ef4072bea09f2cf19a41c1836ac65fb1bb81358d246") true
  rD (λ_ h=>by cases h) ai (λ_ h=>by cases h) printReads_row_tie rfl ⟨rfl,rfl⟩ ai rfl
  (λf fn hf Tt=>by
   obtain rfl:f=4:=Option.some.inj ((show prog.funcNamed "tallow/tallowlaw06.PrintReads"=some 4 by kernel_rfl).symm.trans hf) |>.symm
   obtain rfl:fn=Tryz.f4:=(Option.some.inj (func4.symm.trans Tt)).symm;exact⟨by kernel_rfl,λj t ht=>by
    rw[params4]at ht;have hm:t∈[9]:=by simpa using Array.mem_of_getElem? ht
    have fM:([9].all λu=>!Tryz.prog.wantsStandIn u)=true:=ai
    exact(show prog.wantsStandIn t=false by simpa using all_eq_true.1 fM t hm)⟩)
  ai
end Go.Proofs.YtoddjlclpnoomaaGreatDoor

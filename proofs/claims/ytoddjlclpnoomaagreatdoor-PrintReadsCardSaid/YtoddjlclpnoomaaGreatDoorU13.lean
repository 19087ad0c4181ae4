import Derived.Test.YtoddjlclpnoomaaGreatDoorU12
set_option linter.unusedVariables false
set_option linter.unusedSimpArgs false
set_option maxRecDepth 100000
open Go.Proofs.Tryz
open Go.Instr (alloc loadAt storeAt fieldAt)
open List (toList_toArray set_cons_zero set_cons_succ)
open Nat (le_refl)
open Go.Value (cells)
namespace Go.Proofs.YtoddjlclpnoomaaGreatDoor
open Go.Sh
theorem g200{n:Nat}(ih:mM n):G1 (n+1) .bracket 200 [] idx:=by
 intro w x ts deep own r l la lo p dN hn hr aI rl eQ Zr;refine QD ?_;unfold II;simp only[run]at hr;have lp:=p.lW;have lt:=p.kf;have lm:=p.pI;have kk:=aD.refl [x.p] w;refine kY (d159 p dN) ?_ ?_;rotate_left
 .intro c w3 hF;rw[←hr];exact(hF _).pre kk ak
 rintro _ w3 ⟨fA,b3,rfl,Eh,a3,p,K3⟩;have sA:deep+1<=64:=by simpa using fA
 have l3:=a3.lt;have sB:=K3.size;replace kk:=kk.trans' K3 af;replace rl:=rl.fr K3 af;rw[fe fA]at hr;refine D1.i (by simp[go_sem,Ah,Deferred.ofValue];exact⟨rfl,rfl⟩) ?_;refine fQ (d106 [91] p) ?_ ?_;rotate_left
 .intro c w4 hF;exact dD (Er.all hF hr) lp ak a3 al kk ak
 rintro _ w4 ⟨hi,rfl,p,K4⟩;have B9:=K4.size;replace kk:=kk.trans' K4 af;replace rl:=rl.fr K4 af;replace a3:=K4.at a3 af;rw[cR hi]at hr;refine gi (ih.expr 0 _ _ _ _ _ _ p aj aj rfl (aL hr aI)) ?_ ?_;rotate_left
 .intro c w5 h;exact dD (h.next hr) lp ak a3 al kk ak
 intro rv w5 h;obtain⟨t,bX,o,eI,r1,S1,⟨o',-,p⟩,K5⟩:=h.out;simp only[eI,bL.bind]at hr;have vu:=K5.size;replace kk:=kk.trans' K5 af;replace rl:=rl.fr K5 af;replace a3:=K5.at a3 af;obtain⟨br,rfl,-,-⟩:=r1.kind S1;unfold ptr;refine V1.i ah ?_;refine V1.new (jJ _ _) λb6 w6 N6=>?_;have Ca:=N6.ge;have Cb:=N6.lt;have Cc:=N6.aA.size;have a6:=N6.at_;try simp only[cells,toList_toArray]at a6
 replace kk:=N6.kp kk;replace rl:=rl.nw N6;replace a3:=N6.a a3;replace r1:=r1.nw N6;replace p:=p.new N6.aA;refine fQ (d106 [93] p) ?_ ?_;rotate_left
 .intro c w7 hF;exact dD (Er.all hF hr) lp ak a3 al kk ak
 rintro _ w7 ⟨hi,rfl,p,K7⟩;have kg:=K7.size;replace kk:=kk.trans' K7 af;replace rl:=rl.fr K7 af;replace a3:=K7.at a3 af;replace r1:=r1.fr K7 af;replace a6:=K7.at a6 af;rw[cR hi]at hr;refine ll p dN a3 λw8 p8 K8=>?_;have wR:=K8.size;replace kk:=kk.trans' K8 af;replace rl:=rl.fr K8 af;replace a3:=K8.at a3 af;replace r1:=r1.fr K8 af;replace a6:=K8.at a6 af;subst hr;exact⟨⟨b6,_,_,_,_,_,_,_,rfl,⟨by omega,by simp⟩,a6,rl.fit aj ak,r1.fit aj ak,.inl rfl,.inl rfl,.inl ⟨rfl,rfl⟩,.inl rfl⟩,S1,⟨_,by simp,p8⟩,kk⟩
theorem g162{n:Nat}(ih:mM n):G0 (n+1) .operand 162 [] .P eh false:=by
 intro w x ts deep own r p dN hn hr aI;refine QA ?_;unfold IC;simp only[run]at hr;have lp:=p.lW;have lt:=p.kf;have lm:=p.pI;have kk:=aD.refl [x.p] w;refine V1.aG ah λb w1 N=>?_;have gN:=N.ge;have lN:=N.lt;have zN:=N.aA.size;have a1:=N.at_;try simp only[cells,toList_toArray]at a1
 replace p:=p.new N.aA;replace kk:=N.kp kk;refine fw (d99 (ss:=[[110,111,116],[45],[35],[126]]) p a1 ak) ?_ (NP.no (e:=_));rintro _ w2 ⟨rfl,K2⟩;have vr:=K2.size;replace p:=p.aA K2 af af af;replace kk:=kk.trans' K2 af;replace a1:=K2.at a1 af;repeat(first|refine Up.i (Nc.p _ _) ?_|refine V1.load (aC rfl) au rfl ?_|refine V1.i ah ?_)
 refine If.b (λhb=>?_) (λhb=>?_)
 .have dZ:fI (hd ts) [lH,[45],[35],[126]]=false:=(by simpa using hb:fI (hd ts) [[110,111,116],[45],[35],[126]]=false);simp only[dZ]at hr;refine BH (ih.post _ _ _ _ _ _ p dN aj hr aI) ?_ ?_
  .intro v w3 h;exact(h.pre kk ak aj).RI
  .intro c w3 hF;exact hF.pre kk ak
 .have dZ:fI (hd ts) [lH,[45],[35],[126]]=true:=(by simpa using hb:fI (hd ts) [[110,111,116],[45],[35],[126]]=true);simp only[dZ]at hr;refine kY (d159 p dN) ?_ ?_;rotate_left
  .intro c w3 hF;exact(Er.all hF hr).pre kk ak
  rintro _ w3 ⟨fA,b3,rfl,Eh,a3,p,K3⟩;have sA:deep+1<=64:=by simpa using fA
  have l3:=a3.lt;have sB:=K3.size;replace kk:=kk.trans' K3 af;rw[fe fA]at hr;refine D1.i (by simp[go_sem,Ah,Deferred.ofValue];exact⟨rfl,rfl⟩) ?_;refine dR (d107 p) ?_ (NP.no (e:=_));rintro _ w4 ⟨rfl,p,K4⟩;have B9:=K4.size;replace kk:=kk.trans' K4 af;replace a3:=K4.at a3 af;refine V1.new (eW _) λb5 w5 N5=>?_;have B6:=N5.ge;have Af:=N5.lt;have Ei:=N5.aA.size;have a5:=N5.at_;try simp only[cells,toList_toArray]at a5
  replace kk:=N5.kp kk;replace a3:=N5.a a3;replace p:=p.new N5.aA;refine U1.tok (t:=hd ts) a5 rfl λw6 U6=>?_;have Cd:=U6.size;replace kk:=kk.trans' U6.aA af;replace a3:=U6.aA.at a3 af;replace p:=p.aA U6.aA af af af;have a5:=U6.at_;refine⟨λw'=>At w' b5 [.int .i64 (hd ts).kind,str (hd ts).text,.int .i64 (hd ts).n,.int .i64 (hd ts).line],a5,?_⟩;have K7:aD [] w6 w6.drew:=(aD.refl _ _).drew;generalize w6.drew=w7 at K7⊢;have kg:=K7.size;replace kk:=kk.trans' K7 af;replace a3:=K7.at a3 af;replace p:=p.aA K7 af af af
  replace a5:=K7.at a5 af;refine Xw.i _ (λw' _=>by simp[go_sem]<;>trivial) ?_;refine Xw.i _ (λw' hw=>(aC rfl) _ _ _ (by rw[hw.cell];rfl)) ?_;refine Xw.i _ (λw' _=>by simp[go_sem]<;>trivial) ?_;refine Xw.i _ (λw' hw=>(aC rfl) _ _ _ (by rw[hw.cell];rfl)) ?_;refine BJ (ih.operand _ _ _ _ _ _ p aj aj rfl (aL hr aI)) ?_ ?_;rotate_left
  .intro c w8 h;exact dD (h.next hr) lp ak a3 al kk ak
  intro rv w8 h;obtain⟨t,bX,o,eI,r1,S1,⟨o',-,p⟩,K8⟩:=h.out;simp only[eI,bL.bind]at hr;have wR:=K8.size;replace kk:=kk.trans' K8 af;replace a3:=K8.at a3 af;replace a5:=K8.at a5 af;refine⟨a5,?_⟩;obtain⟨br,rfl,-,-⟩:=r1.kind S1;unfold ptr;refine Xw.i _ (λw' _=>by simp[go_sem]<;>trivial) ?_;refine V1.new (jJ _ _) λb9 w9 N9=>?_;have RJ:=N9.ge;have RM:=N9.lt;have RO:=N9.aA.size;have a9:=N9.at_;try simp only[cells,toList_toArray]at a9
  replace kk:=N9.kp kk;replace a3:=N9.a a3;replace r1:=r1.nw N9;replace p:=p.new N9.aA;refine ll p dN a3 λeo p8 dE=>?_;have qH:=dE.size;replace kk:=kk.trans' dE af;replace a3:=dE.at a3 af;replace r1:=r1.fr dE af;replace a9:=dE.at a9 af;subst hr;exact⟨⟨b9,_,_,_,_,_,_,_,rfl,⟨by omega,by simp⟩,a9,rfl,r1.fit aj ak,.inl rfl,.inl rfl,.inl ⟨rfl,rfl⟩,.inl rfl⟩,rfl,⟨_,by simp,p8⟩,kk⟩
theorem g163{n:Nat}(ih:mM n)(k:Int)(VF:0<=k/\k<=100):G1 (n+1) (λl=>.bin l k) 163 [.int .i64 k] eh:=by
 intro w x ts deep own r l la lo p dN hn hr aI rl eQ Zr;refine QB ?_;unfold ID;simp only[run]at hr;have lp:=p.lW;have lt:=p.kf;have lm:=p.pI;have kk:=aD.refl [x.p] w;refine lL (d31 p) ?_ (NP.no (e:=_));rintro _ w2 ⟨rfl,K2⟩;have vr:=K2.size;replace kk:=kk.trans' K2 af;replace rl:=rl.fr K2 af;replace p:=p.aA K2 af af af;rw[dm];refine V1.i ah ?_;refine lL (d31 p) ?_ (NP.no (e:=_));rintro _ w3 ⟨rfl,K3⟩;have sB:=K3.size;replace kk:=kk.trans' K3 af;replace rl:=rl.fr K3 af;replace p:=p.aA K3 af af af;rw[dm];refine V1.i ah ?_;refine V1.i ah ?_
 refine V1.new (jJ _ _) λb4 w4 N4=>?_;have RP:=N4.ge;have WM:=N4.lt;have RQ:=N4.aA.size;have a4:=N4.at_;try simp only[cells,toList_toArray]at a4
 replace kk:=N4.kp kk;replace rl:=rl.nw N4;replace p:=p.new N4.aA;refine Dh.go ?_;repeat(first|refine Up.i (Nc.p _ _) ?_|refine V1.load (aC rfl) au rfl ?_|refine V1.i ah ?_)
 refine If.b (λhb=>?_) (λhb=>?_)
 .have dZ:((hd ts).text==[46,46])=true:=by simpa using hb
  simp only[dZ]at hr;refine kY (d159 p dN) ?_ ?_;rotate_left
  .intro c w3 hF;exact(Er.all hF hr).pre kk ak
  rintro _ w5 ⟨fA,b5,rfl,hb5,a5,p,K5⟩;have sA:deep+1<=64:=by simpa using fA
  have l5:=a5.lt;have vu:=K5.size;replace kk:=kk.trans' K5 af;replace rl:=rl.fr K5 af;replace a4:=K5.at a4 af;rw[fe fA]at hr;refine D1.i (by simp[go_sem,Ah,Deferred.ofValue];exact⟨rfl,rfl⟩) ?_;refine V1.i (jK _ _ _ _ _ _ aj aj) ?_;refine dR (d107 p) ?_ (NP.no (e:=_));rintro _ w6 ⟨rfl,p,K6⟩;have lP:=K6.size;replace kk:=kk.trans' K6 af;replace rl:=rl.fr K6 af;replace a4:=K6.at a4 af;replace a5:=K6.at a5 af;refine gi (ih.expr _ _ _ _ _ _ _ p aj aj rfl (aL hr aI)) ?_ ?_;rotate_left
  .intro c w7 h;exact dD (h.next hr) lp ak a5 al kk ak
  intro rv w7 h;obtain⟨t,bX,o,eI,r1,S1,⟨o',-,p⟩,K7⟩:=h.out;simp only[eI,bL.bind]at hr;have kg:=K7.size;replace kk:=kk.trans' K7 af;replace rl:=rl.fr K7 af;replace a4:=K7.at a4 af;replace a5:=K7.at a5 af;obtain⟨br,rfl,-,-⟩:=r1.kind S1;unfold ptr at*;repeat(first|refine Up.i (Nc.p _ _) ?_|refine V1.load (aC rfl) au rfl ?_|refine V1.i ah ?_)
  refine U1.store (aO rfl rfl) a4 ak λw8 U8=>?_;have wS:=U8.size;replace kk:=kk.trans' U8.aA af;replace rl:=rl.fr U8.aA af;replace a5:=U8.aA.at a5 af;replace r1:=r1.fr U8.aA af;replace p:=p.aA U8.aA af af af;replace a4:=U8.at_;simp only[set_cons_zero,set_cons_succ]at a4;refine ll p dN a5 λw9 p9 K9=>?_;have Ce:=K9.size;replace kk:=kk.trans' K9 af;replace rl:=rl.fr K9 af;replace a4:=K9.at a4 af;replace r1:=r1.fr K9 af;subst hr
  exact⟨⟨b4,_,_,_,_,_,_,_,rfl,⟨by omega,by simp⟩,a4,rl.fit aj ak,r1.fit aj ak,.inl rfl,.inl rfl,.inl ⟨rfl,rfl⟩,.inl rfl⟩,rfl,⟨_,by simp,p9⟩,kk⟩
 .have dZ:((hd ts).text==[46,46])=false:=by simpa using hb
  simp only[dZ]at hr;refine dR (d107 p) ?_ (NP.no (e:=_));rintro _ w6 ⟨rfl,p,K6⟩;have lP:=K6.size;replace kk:=kk.trans' K6 af;replace rl:=rl.fr K6 af;replace a4:=K6.at a4 af;refine gi (ih.expr _ _ _ _ _ _ _ p aj aj rfl (aL hr aI)) ?_ ?_;rotate_left
  .intro c w7 h;exact(h.next hr).pre kk ak
  intro rv w7 h;obtain⟨t,bX,o,eI,r1,S1,⟨o',-,p⟩,K7⟩:=h.out;simp only[eI,bL.bind]at hr;have kg:=K7.size;replace kk:=kk.trans' K7 af;replace rl:=rl.fr K7 af;replace a4:=K7.at a4 af;obtain⟨br,rfl,-,-⟩:=r1.kind S1;unfold ptr at*;repeat(first|refine Up.i (Nc.p _ _) ?_|refine V1.load (aC rfl) au rfl ?_|refine V1.i ah ?_)
  refine U1.store (aO rfl rfl) a4 ak λw8 U8=>?_;have wS:=U8.size;replace kk:=kk.trans' U8.aA af;replace rl:=rl.fr U8.aA af;replace r1:=r1.fr U8.aA af;replace p:=p.aA U8.aA af af af;replace a4:=U8.at_;simp only[set_cons_zero,set_cons_succ]at a4;subst hr;exact⟨⟨b4,_,_,_,_,_,_,_,rfl,⟨by omega,by simp⟩,a4,rl.fit aj ak,r1.fit aj ak,.inl rfl,.inl rfl,.inl ⟨rfl,rfl⟩,.inl rfl⟩,rfl,⟨_,by simp,p⟩,kk⟩
theorem sD{R:ER}{k:WP}{w:Wd}{x:eO}{ts:LT}{deep:Int}{own:Bool}(b:Bool)(p:PS w x ts deep own)(hk:∀w',PS w' x ts deep b->aD [x.p] w w'->k w'):
  Up prog (Nc (ptr x.p)) w (λa w=>V1 prog (fieldAt 83 a 3) w (λa w=>U1 prog (storeAt 4 a (.bool b)) w k (pn R)) (pn R)) (pn R):=by
 obtain⟨o,c,h1,h2,h3⟩:=p.ex;unfold ptr;repeat(first|refine Up.i (Nc.p _ _) ?_|refine V1.load (aC rfl) au rfl ?_|refine V1.i ah ?_)
 refine U1.store (aO rfl rfl) (h1) ak λw1 U=>?_;refine hk w1 (p.deep λo' c' Eg=>?_) U.aA;obtain⟨T,hT⟩:=h1;obtain⟨T',B8⟩:=Eg;rw[hT]at B8;injection B8 with e1;simp at e1
 obtain⟨h1,h2⟩:o=o'/\c=c':=by grind
 subst h1 h2;exact U
theorem qI(s:By):0<=bD s/\bD s<=100:=by
 unfold bD;repeat' split
 all_goals omega
def JX(R:ER)(a0 a1:Va)(j1:Va->VK)(a4 a5:Va)(w:Wd):Prop:=
 Cf prog 31 #[a0] w (λJY w=>
 V1 prog (alloc 86 true (.tuple #[])) w (λEj w=>
 U1 prog (storeAt 86 Ej JY) w (λw=>
 ∃C2:WP,C2 w.drew/\
 Xq prog C2 (Nc a0) λJZ=>Xv prog C2 (fieldAt 83 JZ 1) λJ5=>Xv prog C2 (loadAt 80 J5) λJ6=>Xv prog C2 (fieldAt 86 Ej 1) λJ7=>Xv prog C2 (loadAt 9 J7) λJ8=>Xv prog C2 (Instr.lookup 80 J6 J8 false) λCg=>∀w,C2 w->V1 prog (fieldAt 86 Ej 0) w (λJ9 w=>
 V1 prog (loadAt 3 J9) w (λKa w=>
 V1 prog (Bo .neq 3 false true Ka (.int .i64 4)) w (λCh w=>
 J1 (λk2=>
 Gd Ch false (V1 prog (Bo .leq 3 false false Cg a1) w (λKc w=>
 k2 Kc w) (pn R)) (k2 undef w)) (λKd w=>
 V1 prog (Pk Ch (.bool true) Kd) w (λKe w=>
 If Ke (
 Up prog (Nc a0) w (λKg w=>
 V1 prog (fieldAt 83 Kg 3) w (λwI w=>
 U1 prog (storeAt 4 wI (.bool false)) w (λw=>
 R (.returned a5) w) (pn R)) (pn R)) (pn R)) (
 Cf prog 163 #[a0,a5,Cg] w (λwJ w=>
 j1 a4 wJ w) (pn R))) (pn R))) (pn R)) (pn R)) (pn R)) (pn R)) (pn R)) (pn R)
theorem Kh{n m:Nat}(ih:∀m,m<=n->mM m)(hm:m<=n){K:Va->VK}{v1 v2:Va}{w w0:Wd}{x:eO}{ts:LT}{deep dP:Int}{own:Bool}{r:bL}{e:Tr}(p:PS w x ts deep own)(dN:0<=deep/\deep<=64)(hn:n<=aX)
  (hr:run (m+1) (.exprL e dP) deep ts=r) (aI:r≠.bH) (re:aU (Fr w0.heap.size []) w e (.P v2)) (hs:eh e=true) (kk:aD [x.p] w0 w) (lp:x.p<w0.heap.size)
  (hK:∀v2 w' bU eD e',PS w' x bU deep eD->aU (Fr w0.heap.size []) w' e' (.P v2)->eh e'=true->aD [x.p] w0 w'->run m (.exprL e' dP) deep bU=r->K v1 v2 w'):
  JX (aZ (Ok [x.p] w0.heap.size x w0 deep .P eh false r) (Er [x.p] x w0 r)) (ptr x.p) (.int .i64 dP) K v1 v2 w:=by
 unfold JX;simp only[run]at hr;have z0:=kk.size;have lt:=p.kf;have lm:=p.pI;refine lL (d31 p) ?_ (NP.no (e:=_));rintro _ w2 ⟨rfl,K2⟩;have vr:=K2.size;replace kk:=kk.trans' K2 af;replace re:=re.fr K2 af;replace p:=p.aA K2 af af af;refine V1.new (eW _) λb3 w3 N3=>?_;have FR:=N3.ge;have FU:=N3.lt;have FV:=N3.aA.size;have a3:=N3.at_;try simp only[cells,toList_toArray]at a3
 replace kk:=N3.kp kk;replace re:=re.nw N3;replace p:=p.new N3.aA;refine U1.tok (t:=hd ts) a3 rfl λw4 U4=>?_;have Ot:=U4.size;replace kk:=kk.trans' U4.aA af;replace re:=re.fr U4.aA af;replace p:=p.aA U4.aA af af af;have a3:=U4.at_;replace re:=re.fit (lo':=w0.heap.size) (Y:=[]) aj ak;have K5:aD [] w4 w4.drew:=(aD.refl _ _).drew;generalize w4.drew=w5 at K5⊢;have vu:=K5.size;replace kk:=kk.trans' K5 af;replace re:=re.fr K5 af;replace p:=p.aA K5 af af af;replace a3:=K5.at a3 af;refine⟨λw'=>w'=w5,rfl,?_⟩
 refine⟨_,λw' _=>⟨rfl,rfl⟩,?_⟩;obtain⟨o,c,h1,h2,h3⟩:=p.ex;obtain⟨es,c',Zs,hl⟩:=p.sat
 refine Xv.i _ (λw' _=>by simp[go_sem]<;>trivial) ?_;refine Xv.i _ (λw' hw=>by subst hw;exact(aC rfl) _ _ _ (by rw[h1.cell];rfl)) ?_;refine Xv.i _ (λw' _=>by simp[go_sem]<;>trivial) ?_;refine Xv.i _ (λw' hw=>by subst hw;exact(aC rfl) _ _ _ (by rw[a3.cell];rfl)) ?_;refine Xv.i _ (λw' hw=>by subst hw;exact hl _ _ Zs) ?_;intro w6 WN;rw[WN];clear WN w6;repeat(first|refine Up.i (Nc.p _ _) ?_|refine V1.load (aC rfl) au rfl ?_|refine V1.i ah ?_)
 refine J1.go (Gd.b (λhc=>?_) (λhc=>?_))
 .have yY:((hd ts).kind==4)=true:=by simpa using hc
  rw[yY]at hr;repeat(first|refine Up.i (Nc.p _ _) ?_|refine V1.load (aC rfl) au rfl ?_|refine V1.i (by simp[go_sem,hc]<;>trivial) ?_)
  refine If.b (λhb=>?_) (λhb=>?_)
  .rw[hb]at hr;refine sD false p λw6 p6 K6=>?_;simp only[Bool.not_true,Bool.false_or]at hr;have lP:=K6.size;replace kk:=kk.trans' K6 af;replace re:=re.fr K6 af;subst hr;exact⟨re,hs,⟨_,by simp,p6⟩,kk⟩
  .rw[hb]at hr;simp only[Bool.not_true,Bool.false_or]at hr;obtain⟨b2,rfl,-,-⟩:=re.kind hs;refine IE ((ih m hm).bin _ (qI _) _ _ _ _ _ _ _ _ w0.heap.size p dN aj rfl (aL hr aI) re aj aj) ?_ ?_
   .intro v w7 h;obtain⟨t,bX,o,eI,r1,S1,⟨o',-,p⟩,K7⟩:=h.out;simp only[eI,bL.bind]at hr;have kg:=K7.size;replace kk:=kk.trans' K7 af;exact hK _ _ _ _ _ p r1 S1 kk hr
   .intro c w7 h;exact h.up hr kk ak
 .have yY:((hd ts).kind==4)=false:=by simpa using hc
  rw[yY]at hr;repeat(first|refine Up.i (Nc.p _ _) ?_|refine V1.load (aC rfl) au rfl ?_|refine V1.i (by simp[go_sem,hc]<;>trivial) ?_)
  refine If.t ?_;refine sD false p λw6 p6 K6=>?_;simp only[Bool.not_false,Bool.true_or]at hr;have lP:=K6.size;replace kk:=kk.trans' K6 af;replace re:=re.fr K6 af;subst hr;exact⟨re,hs,⟨_,by simp,p6⟩,kk⟩
theorem g108{n:Nat}(ih:∀m,m<=n->mM m)(dP:Int):G0 (n+1) (.expr dP) 108 [.int .i64 dP] .P eh false:=by
 intro w x ts deep own r p dN hn hr aI;refine Qr ?_;unfold Ir;simp only[run]at hr;have lp:=p.lW;refine P2.g (λm v1 v2 w'=>∃e bU eD,PS w' x bU deep eD/\aU (Fr w.heap.size []) w' e (.P v2)/\eh e=true/\aD [x.p] w w'/\run m (.exprL e dP) deep bU=r/\m<=n) ?_ ?_
 .intro K hK;refine BJ ((ih n aj).operand _ _ _ _ _ _ p dN aj rfl (aL hr aI)) ?_ ?_
  .intro v w2 h;obtain⟨t,bX,o,eI,r1,S1,⟨o',-,p⟩,K2⟩:=h.out;simp only[eI,bL.bind]at hr
   cases n with
   |zero=>exact absurd hr.symm aI
   |succ m=>
    exact Kh ih aj p dN aj hr aI r1 S1 K2 lp λv2 w' bU eD e' h1 h2 h3 h4 h5=>hK m _ _ _ ⟨e',bU,eD,h1,h2,h3,h4,h5,by omega⟩
  .intro c w3 hF;exact hF.next hr
 .rintro m v1 v2 w2 K ⟨e,bX,uK,p,r1,S1,K2,hr,hm⟩ hK
  cases m with
  |zero=>exact absurd hr.symm aI
  |succ m=>
   exact Kh ih aj p dN aj hr aI r1 S1 K2 lp λv2 w' bU eD e' h1 h2 h3 h4 h5=>hK m _ _ _ aj ⟨e',bU,eD,h1,h2,h3,h4,h5,by omega⟩
theorem aZ.imp{f:FuncId}{args:AV}{w:Wd}{k Q:VK}{e E:EK}(h:Calls prog f args w (aZ Q E))(hk:∀v w',Q v w'->k v w')(he:∀c w',E c w'->e c w'):Calls prog f args w (aZ k e):=
 h.mono λen w' hr=>by
  cases en with
  |returned v=>exact hk v w' hr
  |panicked c=>exact he c w' hr
  |outgrown=>exact hr
theorem g160{w:Wd}{x:eO}{ts:LT}{deep:Int}{own:Bool}{r:bL}{fs ls:By}{cv:Va}{kc:FuncId}{cap:AV}{M:List Nat}{N:Nat}{J:Wd->Nat->LT->WP}{Z:Wd->LT->WP}
  (p:PS w x ts deep own) (dN:0<=deep/\deep<=64) (RR:∀w',(Cv cv #[]).run prog w'=.ok (.enter kc cap) w') (jz:x.p∈M) (wT:∀i∈M,i<w.heap.size) (Zt:x.bt∉M) (Zu:x.bm∉M) (hf:bB fs ts=true)
  (ho:decide (64<deep+1)=true->r=.fail 3)
  (h0:∀wb,aD [x.p] w wb->PS wb x (bF ts) (deep+1) own->decide (64<deep+1)=false->(bB ls (bF ts)=true->Z wb (bF ts) wb)/\(bB ls (bF ts)=false->J wb N (bF ts) wb))
  (hj:∀wb m bU w' eD,aD [x.p] w wb->J wb m bU w'->PS w' x bU (deep+1) eD->aD M wb w'->decide (64<deep+1)=false->
   Calls prog kc cap w' (aZ (λ_ w2=>∃dA kK,PS w2 x dA (deep+1) kK/\aD M wb w2/\∀w3,aD [x.p] w2 w3->(bB [44] dA=true->∃m',m'<m/\J wb m' (bF dA) w3)/\(bB [44] dA=false->Z wb dA w3)) (λc w2=>Er M x wb r c w2)))
  (hz:∀wb bU w',Z wb bU w'->bB ls bU=false->r=.fail 4)
  (WO:∀wb bU w1 w2,Z wb bU w1->aD [x.p] w1 w2->Z wb bU w2):
  Calls prog 160 #[ptr x.p,str fs,str ls,cv] w (aZ (λv w'=>v=.int .i64 (hd ts).line/\decide (64<deep+1)=false/\∃wb bX uK,aD [x.p] w wb/\PS w' x (bF bX) deep uK/\bB ls bX=true/\Z wb bX w'/\aD M w w') (Er M x w r)):=by
 refine Qy ?_;unfold IA;have lp:=p.lW;have kk:=aD.refl [x.p] w;refine kY (d159 p dN) ?_ ?_;rotate_left
 .intro c w3 hF;have hF:=hF λ_=>.bH
  cases fA:decide (64<deep+1)with
  |true=>
   rw[ho fA];simp only[bY,fA]at hF;exact hF.pre (aD.refl M w) (by simp[jz])
  |false=>
   simp only[bY,fA]at hF;exact hF.elim
 rintro _ w3 ⟨fA,b3,rfl,Eh,a3,p,K3⟩;have sA:deep+1<=64:=by simpa using fA
 have l3:=a3.lt;have sB:=K3.size;replace kk:=kk.trans' K3 af;refine D1.i (by simp[go_sem,Ah,Deferred.ofValue];exact⟨rfl,rfl⟩) ?_;refine fQ (d106 fs p) ?_ ?_;rotate_left
 .intro c w4 hF;have hF:=hF λ_=>.bH;simp only[aP,hf]at hF;exact hF.elim
 rintro _ w4 ⟨hi,rfl,p,K4⟩;have B9:=K4.size;replace kk:=kk.trans' K4 af;replace a3:=K4.at a3 af;refine V1.aG ah λb5 w5 N5=>?_;have B6:=N5.ge;have Af:=N5.lt;have Ei:=N5.aA.size;have a5:=N5.at_;try simp only[cells,toList_toArray]at a5
 replace kk:=N5.kp kk;replace a3:=N5.a a3;replace p:=p.new N5.aA;refine fw (gy p a5) ?_ (NP.no (e:=_));rintro _ w6 ⟨rfl,K6⟩;have lP:=K6.size;replace kk:=kk.trans' K6 af;replace a3:=K6.at a3 af;replace p:=p.aA K6 af af af;replace a5:=K6.at a5 af;repeat(first|refine Up.i (Nc.p _ _) ?_|refine V1.load (aC rfl) au rfl ?_|refine V1.i ah ?_)
 have h1:=h0 w6 kk p fA;refine FI.g (λm v ds w'=>ds=[⟨.fn (.func 202) #[ptr b3],#[]⟩]/\∃bU eD,PS w' x bU (deep+1) eD/\aD M w6 w'/\((v=.bool true/\∃k,m=k+1/\J w6 k bU w')\/(v=.bool false/\Z w6 bU w'))) (N+1)
  ⟨rfl,_,_,p,aD.refl _ _,by
   cases h:bB ls (bF ts)with
   |true=>exact .inr ⟨rfl,h1.1 h⟩
   |false=>exact .inl ⟨rfl,N,rfl,h1.2 h⟩⟩ ?_
 rintro m v ds w7 K ⟨rfl,bU,eD,p,kM,hv⟩ hK;have z7:=kM.size;have Ou:=a3;have a3:=kM.at a3 (λh=>by have:=wT _ h;omega);have kx:=(kk.mono (N:=M) (by simp[jz])).trans' kM (λi hi _=>hi);rcases hv with⟨rfl,k,rfl,hJ⟩|⟨rfl,hZ⟩
 .refine If.t ?_;refine Up.c (RR _) (aZ.imp (hj w6 k bU w7 eD kk hJ p kM fA) ?_ ?_)
  .rintro _ w8 ⟨dA,kK,p,kM,h3⟩;refine BI (d158 [44] p) ?_ (NP.no (e:=_));rintro _ w9 ⟨rfl,p,K9⟩;have h4:=h3 w9 K9;have kM:=kM.trans' K9 (by simp[jz])
   cases h5:bB [44] dA with
   |true=>
    rw[h5]at p;obtain⟨m',hm,Zv⟩:=h4.1 h5;exact hK (m'+1) _ _ _ aj ⟨rfl,_,_,p,kM,.inl ⟨rfl,m',rfl,Zv⟩⟩
   |false=>
    rw[h5]at p;exact hK 0 _ _ _ aj ⟨rfl,_,_,p,kM,.inr ⟨rfl,h4.2 h5⟩⟩
  .intro c w8 hF;exact dD hF lp jz Ou (λh=>by have:=wT _ h;omega) (kk.mono (by simp[jz])) (λi hi _=>hi)
 .refine If.f ?_;refine fQ (d106 ls p) ?_ ?_;rotate_left
  .intro c w8 hF;have hF:=hF λ_=>.bH
   cases h5:bB ls bU with
   |true=>
    simp only[aP,h5]at hF;exact hF.elim
   |false=>
    simp only[aP,h5]at hF;rw[hz _ _ _ hZ h5];exact dD hF lp jz a3 al kx (by simp[jz])
  rintro _ w8 ⟨hi,rfl,p,K8⟩;have wR:=K8.size;replace a3:=K8.at a3 af;refine ll p dN a3 λw9 p9 K9=>?_;exact⟨rfl,fA,w6,bU,_,kk,p9,hi,WO _ _ _ _ (WO _ _ _ _ hZ K8) K9,(kx.trans' K8 (by simp[jz])).trans' K9 (by simp[jz])⟩
def JA(x:eO)(r:bL)(deep:Int)(n bc:Nat)(line:Int)(lv:Va)(F:Tr->LT->Bool->bL)(wb:Wd)(m:Nat)(ts:LT)(w:Wd):Prop:=
 ∃acc av,At w bc [.int .i64 8,.int .i64 line,.int .i64 0,str [],lv,.pointer none,.slice none 0 0,av,.slice none 0 0,.slice none 0 0]/\Acc 41 wb.heap.size [] w av acc/\(run m (.args acc) (deep+1) ts).bind F=r/\len acc+m<=n
def ZA(x:eO)(r:bL)(bc:Nat)(line:Int)(lv:Va)(F:Tr->LT->Bool->bL)(wb:Wd)(ts:LT)(w:Wd):Prop:=
 ∃acc av,At w bc [.int .i64 8,.int .i64 line,.int .i64 0,str [],lv,.pointer none,.slice none 0 0,av,.slice none 0 0,.slice none 0 0]/\Acc 41 wb.heap.size [] w av acc/\F acc ts false=r/\x.p<wb.heap.size
theorem g201{n:Nat}(ih:∀m,m<=n->mM m)(hn:n<=aX){x:eO}{r:bL}{deep:Int}{bc ba bp:Nat}{line:Int}{lv:Va}{F:Tr->LT->Bool->bL}{wb w:Wd}{m:Nat}{ts:LT}{own:Bool}(aI:r≠.bH)(hd:0<=deep/\deep+1<=64)
  (lp:x.p<wb.heap.size) (hJ:JA x r deep n bc line lv F wb m ts w) (p:PS w x ts (deep+1) own) (kM:aD [x.p,bc] wb w) (aa:At wb ba [ptr bc]) (ap:At wb bp [ptr x.p]) (hc:bc<wb.heap.size) (h1:ba≠x.p) (h2:ba≠bc) (h3:bp≠x.p) (h4:bp≠bc) (h5:bc≠x.p) (h6:bc≠x.bt) (h7:bc≠x.bm) (h8:x.bt<wb.heap.size) (h9:x.bm<wb.heap.size):
  Calls prog 201 #[ptr ba,ptr bp] w (aZ (λ_ w2=>∃dA kK,PS w2 x dA (deep+1) kK/\aD [x.p,bc] wb w2/\∀w3,aD [x.p] w2 w3->(bB [44] dA=true->∃m',m'<m/\JA x r deep n bc line lv F wb m' (bF dA) w3)/\(bB [44] dA=false->ZA x r bc line lv F wb dA w3)) (λc w2=>Er [x.p,bc] x wb r c w2)):=by
 obtain⟨acc,av,ac,ca,hr,hm⟩:=hJ
 cases m with
 |zero=>exact absurd hr.symm aI
 |succ m=>
 simp only[run]at hr;refine QE ?_;unfold IJ;have z0:=kM.size;have la:=aa.lt;have WS:=ap.lt;replace aa:=kM.at aa al;replace ap:=kM.at ap al;have K1:aD [] w w.drew:=(aD.refl _ _).drew;generalize w.drew=w1 at K1⊢;have WT:=K1.size;replace kM:=kM.trans' K1 af;replace aa:=K1.at aa af;replace ap:=K1.at ap af;replace ac:=K1.at ac af;replace ca:=ca.fr K1 af;replace p:=p.aA K1 af af af;refine⟨λw'=>At w' ba [ptr bc]/\At w' bp [ptr x.p]/\At w' bc [.int .i64 8,.int .i64 line,.int .i64 0,str [],lv,.pointer none,.slice none 0 0,av,.slice none 0 0,.slice none 0 0],⟨aa,ap,ac⟩,?_⟩;refine Xw.i _ (λw' hw=>(aC rfl) _ _ _ (by rw[hw.1.cell];rfl)) ?_
 refine Xw.i _ (λw' hw=>(aC rfl) _ _ _ (by rw[hw.1.cell];rfl)) ?_;refine⟨_,λw' _=>Nc.p _ w',?_⟩;refine Xw.i _ (λw' _=>by simp[go_sem]<;>trivial) ?_;refine Xw.i _ (λw' hw=>(aC rfl) _ _ _ (by rw[hw.2.2.cell];rfl)) ?_;refine Xw.i _ (λw' hw=>(aC rfl) _ _ _ (by rw[hw.2.1.cell];rfl)) ?_;have bO:∀g,av.ownBlock=some g->wb.heap.size<=g/\g<w1.heap.size:=λg hg=>ca.lt hg;have pL:∃f,(run m (.expr 0) (deep+1) ts).bind f=r:=by
  cases h:run m (.expr 0) (deep+1) ts with
  |ok t ts o=>rw[h]at hr;exact⟨λ_ _ _=>r,rfl⟩
  |fail c=>rw[h]at hr;exact⟨λ_ _ _=>.bH,hr⟩
  |bH=>rw[h]at hr;exact absurd hr.symm aI
 obtain⟨f,hf⟩:=pL;refine gi ((ih m aj).expr 0 _ _ _ _ _ _ p aj aj rfl (aL hf aI)) ?_ ?_;rotate_left
 .intro c w2 h;exact h.up hf kM ak
 intro v w2 h;obtain⟨t,bX,o,eI,r1,S1,⟨o',-,p⟩,K2⟩:=h.out;simp only[eI,bL.bind]at hr;have vr:=K2.size;replace kM:=kM.trans' K2 af;replace aa:=K2.at aa af;replace ap:=K2.at ap af;replace ac:=K2.at ac af;replace ca:=ca.fr K2 af;refine⟨⟨aa,ap,ac⟩,?_⟩;obtain⟨br,rfl,-,-⟩:=r1.kind S1;have r2:aU (Fr wb.heap.size (av.ownBlock.toList++[])) w2 t (.P (ptr br)):=aU.imp (λq hq _=>⟨by have:=hq.1;omega,by
  simp
  intro hm;have:=bO q hm;have:=hq.1;omega⟩) _ _ r1
 refine V1.aG ah λb3 w3 N3=>?_;have FR:=N3.ge;have FU:=N3.lt;have FV:=N3.aA.size;have a3:=N3.at_;try simp only[cells,toList_toArray]at a3
 replace kM:=N3.kp kM;replace aa:=N3.a aa;replace ap:=N3.a ap;replace ac:=N3.a ac;replace p:=p.new N3.aA;replace ca:=ca.f0 N3.aA;replace r2:=r2.f0 N3.aA;refine⟨⟨aa,ap,ac⟩,?_⟩;obtain⟨v',w4,fR,fW,K4,hg⟩:=qA (n:=n) ca a3 rfl r2 aj (by simp only[aX]at hn;omega) ak aj;refine V1.i fR ?_;have hM:∀i∈av.ownBlock.toList,wb.heap.size<=i/\i<w1.heap.size:=by
  intro i hi;simp at hi;exact bO i hi
 replace p:=p.aA K4 (λh=>by have:=hM _ h;omega) (λh=>by have:=hM _ h;omega) (λh=>by have:=hM _ h;omega);replace kM:=kM.trans' K4 (λi hi h=>by have:=hM i hi;omega);replace aa:=K4.at aa (λh=>by have:=hM _ h;omega);replace ap:=K4.at ap (λh=>by have:=hM _ h;omega);replace ac:=K4.at ac (λh=>by have:=hM _ h;omega);have z4:=K4.size;refine⟨⟨aa,ap,ac⟩,?_⟩;refine⟨_,λw' _=>Nc.p _ w',?_⟩;refine Xw.i _ (λw' _=>by simp[go_sem]<;>trivial) ?_;refine U1.store (aO rfl fW.sc) ac ak λw5 U5=>?_;have Zw:=U5.size;replace kM:=kM.trans' U5.aA af;replace p:=p.aA U5.aA af af af;replace ac:=U5.at_;simp only[set_cons_zero,set_cons_succ]at ac;replace fW:=fW.fr U5.aA al
 refine⟨bX,_,p,kM,λw6 K6=>?_⟩;have lP:=K6.size;replace ac:=K6.at ac af;replace fW:=fW.fr K6 af;refine⟨λh=>⟨m,by omega,_,_,ac,fW,?_,by rw[eJ _ _ ca.uG];omega⟩,λh=>⟨_,_,ac,fW,?_⟩⟩
 .rw[h]at hr;exact hr
 .rw[h]at hr;exact⟨hr,lp⟩
theorem ZA.aA{x:eO}{r:bL}{bc:Nat}{line:Int}{lv:Va}{F:Tr->LT->Bool->bL}{wb w w':Wd}{ts:LT}(h:ZA x r bc line lv F wb ts w)(hk:aD [x.p] w w')(h5:bc≠x.p):ZA x r bc line lv F wb ts w':=by
 obtain⟨acc,av,h1,h2,h3,h4⟩:=h;exact⟨acc,av,hk.at h1 al,h2.fr hk al,h3,h4⟩
theorem g156{n:Nat}(ih:∀m,m<=n->mM m):G0 (n+1) .post 156 [] .P eh true:=by
 intro w x ts deep own r p dN hn hr aI;refine Qu ?_;unfold Iw;simp only[run]at hr;have lp:=p.lW;have lt:=p.kf;have lm:=p.pI;have kk:=aD.refl [x.p] w;refine V1.new (uy _ _) λb1 w1 N1=>?_;have oR:=N1.ge;have pJ:=N1.lt;have pK:=N1.aA.size;have a1:=N1.at_;try simp only[cells,toList_toArray]at a1
 replace p:=p.new N1.aA;replace kk:=N1.kp kk;refine V1.load (aC rfl) (a1) rfl ?_;refine V1.aG ah λb2 w2 N2=>?_;have BZ:=N2.ge;have B1:=N2.lt;have Ac:=N2.aA.size;have a2:=N2.at_;try simp only[cells,toList_toArray]at a2
 replace p:=p.new N2.aA;replace kk:=N2.kp kk;replace a1:=N2.a a1;refine fw (gy p a2) ?_ (NP.no (e:=_));rintro _ w3 ⟨rfl,K3⟩;have sB:=K3.size;replace p:=p.aA K3 af af af;replace kk:=kk.trans' K3 af;replace a1:=K3.at a1 af;replace a2:=K3.at a2 af;refine V1.load (aC rfl) (a1) rfl ?_;refine IG ((ih n aj).dq _ _ _ _ _ _ p dN aj rfl (aL hr aI)) ?_ ?_;rotate_left
 .intro c w4 h;exact h.up hr kk ak
 intro v w4 h;obtain⟨t,bX,o,eI,r1,S1,⟨o',-,p⟩,K4⟩:=h.out;simp only[eI,bL.bind]at hr;have B9:=K4.size;replace a1:=K4.at a1 af;replace kk:=kk.trans' K4 af;refine L3.g (λm v4 v2 v3 w'=>∃e bU eD ob,v3=.bool ob/\PS w' x bU deep eD/\aU (Fr w.heap.size []) w' e (.P v4)/\eh e=true/\aD [x.p] w w'/\At w' b1 [ptr x.p]/\run m (.dy e ob) deep bU=r/\m<=n) n
  ⟨t,bX,o',_,rfl,p,r1.fit aj ak,S1,kk,a1,hr,le_refl _⟩ ?_
 clear eI r1 S1 p kk a1 hr h K4 a2 t bX o o' K3;rintro m v4 v2 v3 w5 K ⟨e,bX,uK,ob,rfl,p,re,se,kk,a1,hr,hm⟩ hK
 cases m with
 |zero=>exact absurd hr.symm aI
 |succ m=>
 simp only[run]at hr;have z5:=kk.size;have lb:=a1.lt;refine J2.go ?_;refine V1.load (aC rfl) (a1) rfl ?_;refine V1.aG ah λb6 w6 N6=>?_;have Ca:=N6.ge;have Cb:=N6.lt;have Cc:=N6.aA.size;have a6:=N6.at_;try simp only[cells,toList_toArray]at a6
 replace p:=p.new N6.aA;replace kk:=N6.kp kk;replace a1:=N6.a a1;replace re:=re.nw N6;refine fw (gy p a6) ?_ (NP.no (e:=_));rintro _ w7 ⟨rfl,K7⟩;have kg:=K7.size;replace p:=p.aA K7 af af af;replace kk:=kk.trans' K7 af;replace a1:=K7.at a1 af;replace re:=re.fr K7 af;replace a6:=K7.at a6 af;refine If.b (λhb=>?_) (λhb=>?_)
 .simp only[hb]at hr;refine V1.load (aC rfl) (a1) rfl ?_;obtain⟨br,rfl,-,-⟩:=re.kind se;refine BK ((ih m aj).bracket _ _ _ _ _ _ _ _ w.heap.size p dN aj rfl (aL hr aI) (re.fit aj ak) aj aj) ?_ ?_
  .intro v w8 h;obtain⟨t,dA,o,eI,r1,S1,⟨o',-,p⟩,K8⟩:=h.out;simp only[eI,bL.bind]at hr;have wR:=K8.size;replace kk:=kk.trans' K8 af;replace a1:=K8.at a1 af;exact hK m _ _ _ _ aj ⟨_,_,_,_,rfl,p,r1,uJ S1,kk,a1,hr,by omega⟩
  .intro c w8 h;exact h.up hr kk ak
 simp only[hb]at hr;refine V1.load (aC rfl) (a1) rfl ?_;refine V1.aG ah λb8 w8 N8=>?_;have Zx:=N8.ge;have Zy:=N8.lt;have Zz:=N8.aA.size;have a8:=N8.at_;try simp only[cells,toList_toArray]at a8
 replace p:=p.new N8.aA;replace kk:=N8.kp kk;replace a1:=N8.a a1;replace re:=re.nw N8;refine fw (gy p a8) ?_ (NP.no (e:=_));rintro _ w9 ⟨rfl,K9⟩;have Ce:=K9.size;replace p:=p.aA K9 af af af;replace kk:=kk.trans' K9 af;replace a1:=K9.at a1 af;replace re:=re.fr K9 af;replace a8:=K9.at a8 af;refine If.b (λhb=>?_) (λhb=>?_)
 .simp only[hb]at hr;refine V1.load (aC rfl) (a1) rfl ?_;refine dR (d107 p) ?_ (NP.no (e:=_));rintro _ eo ⟨rfl,p,dE⟩;have qH:=dE.size;replace kk:=kk.trans' dE af;replace a1:=dE.at a1 af;replace re:=re.fr dE af;rw[dm];refine V1.i ah ?_;refine V1.load (aC rfl) (a1) rfl ?_;refine mE (d104 p) ?_ ?_;rotate_left
  .intro c fB hF;exact(Er.all hF hr).pre kk ak
  rintro _ fB ⟨hi,rfl,p,dz⟩;have lQ:=dz.size;replace kk:=kk.trans' dz af;replace a1:=dz.at a1 af;replace re:=re.fr dz af;rw[fc hi]at hr;refine V1.new (eW _) λwU gz gA=>?_;have Ai:=gA.ge;have Aj:=gA.lt;have Ak:=gA.aA.size;have a12:=gA.at_;try simp only[cells,toList_toArray]at a12
  replace p:=p.new gA.aA;replace kk:=gA.kp kk;replace a1:=gA.a a1;replace re:=re.nw gA;refine U1.tok (t:=hd (bF bX)) a12 rfl λlZ fT=>?_;have z13:=fT.size;replace p:=p.aA fT.aA af af af;replace kk:=kk.trans' fT.aA af;replace a1:=fT.aA.at a1 af;replace re:=re.fr fT.aA af;have a12:=fT.at_;refine V1.i ah ?_;refine V1.load (aC rfl) (a12) rfl ?_;refine V1.i ah ?_;refine V1.load (aC rfl) (a12) rfl ?_;refine V1.i ah ?_;refine V1.new (jJ _ _) λAl lu rK=>?_;have RU:=rK.ge;have RV:=rK.lt
  have RX:=rK.aA.size;have nQ:=rK.at_;try simp only[cells,toList_toArray]at nQ
  replace p:=p.new rK.aA;replace kk:=rK.kp kk;replace a1:=rK.a a1;replace re:=re.nw rK;obtain⟨br,rfl,-,-⟩:=re.kind se;unfold ptr at*;refine V1.i ah ?_;refine V1.new (jJ _ _) λOv sE pM=>?_;have RY:=pM.ge;have RZ:=pM.lt;have R0:=pM.aA.size;have ny:=pM.at_;try simp only[cells,toList_toArray]at ny
  replace p:=p.new pM.aA;replace kk:=pM.kp kk;replace a1:=pM.a a1;replace re:=re.nw pM;replace nQ:=pM.a nQ;exact hK m _ _ _ _ aj ⟨.ex 7 0 [] e (lf 5 0 (hd (bF bX)).text) .nil .nil [] .nil,_,_,_,rfl,p,⟨Ov,_,_,_,_,_,_,_,rfl,⟨by omega,by simp⟩,ny,re.fit aj ak,⟨Al,_,_,_,_,_,_,_,rfl,⟨by omega,by simp⟩,nQ,rfl,rfl,.inl rfl,.inl rfl,.inl ⟨rfl,rfl⟩,.inl rfl⟩,.inl rfl,.inl rfl,.inl ⟨rfl,rfl⟩,.inl rfl⟩,rfl,kk,a1,hr,by omega⟩
 simp only[hb]at hr;refine V1.load (aC rfl) (a1) rfl ?_;refine V1.aG ah λy8 eo iz=>?_;have Ek:=iz.ge;have El:=iz.lt;have Em:=iz.aA.size;have jA:=iz.at_;try simp only[cells,toList_toArray]at jA
 replace p:=p.new iz.aA;replace kk:=iz.kp kk;replace a1:=iz.a a1;replace re:=re.nw iz;refine fw (gy p jA) ?_ (NP.no (e:=_));rintro _ fB ⟨rfl,dz⟩;have lQ:=dz.size;replace p:=p.aA dz af af af;replace kk:=kk.trans' dz af;replace a1:=dz.at a1 af;replace re:=re.fr dz af;replace jA:=dz.at jA af;refine If.b (λhb=>?_) (λhb=>?_)
 .simp only[hb]at hr;obtain⟨br,rfl,-,-⟩:=re.kind se;unfold ptr at*;refine V1.i ah ?_;refine V1.new (jJ _ _) λwU gz gA=>?_;have Ai:=gA.ge;have Aj:=gA.lt;have Ak:=gA.aA.size;have a12:=gA.at_;try simp only[cells,toList_toArray]at a12
  replace p:=p.new gA.aA;replace kk:=gA.kp kk;replace a1:=gA.a a1;replace re:=re.nw gA;refine V1.new (DH _) λWU lZ Am=>?_;have gN13:=Am.ge;have lN13:=Am.lt;have zN13:=Am.aA.size;have nz:=Am.at_;try simp only[cells,toList_toArray]at nz
  replace p:=p.new Am.aA;replace kk:=Am.kp kk;replace a1:=Am.a a1;replace re:=re.nw Am;replace a12:=Am.a a12;refine U1.store (aO rfl rfl) nz ak λlu jB=>?_;have Ki:=jB.size;replace p:=p.aA jB.aA af af af;replace kk:=kk.trans' jB.aA af;replace a1:=jB.aA.at a1 af;replace re:=re.fr jB.aA af;replace a12:=jB.aA.at a12 af;replace nz:=jB.at_;simp only[set_cons_zero,set_cons_succ]at nz;have iU:aD [] lu lu.drew:=(aD.refl _ _).drew;generalize lu.drew=sE at iU⊢;have Kj:=iU.size
  replace p:=p.aA iU af af af;replace kk:=kk.trans' iU af;replace a1:=iU.at a1 af;replace re:=re.fr iU af;replace a12:=iU.at a12 af;replace nz:=iU.at nz af;refine⟨λw'=>At w' WU [ptr wU]/\At w' b1 [ptr x.p],⟨nz,a1⟩,?_⟩;refine Xw.i _ (λw' hw=>(aC rfl) _ _ _ (by rw[hw.1.cell];rfl)) ?_;refine Xw.i _ (λw' hw=>(aC rfl) _ _ _ (by rw[hw.2.cell];rfl)) ?_;refine Xw.i _ (λw' _=>by simp[go_sem]<;>trivial) ?_;have q1:=p.kf;have q2:=p.tp;have q3:=p.mp
  refine wt (g160 (M:=[x.p,wU]) (N:=m) (r:=r) (kc:=201) (cap:=#[ptr WU,ptr b1]) (J:=JA x r deep n wU 0 (ptr br) λdV ts _=>aP [41] ts λts=>run m (.dy (.ex 8 0 [] e .nil .nil dV [] .nil) false) deep ts) (Z:=ZA x r wU 0 (ptr br) λdV ts _=>aP [41] ts λts=>run m (.dy (.ex 8 0 [] e .nil .nil dV [] .nil) false) deep ts) p dN (aH func201 (c:=bC f201) ai ai _) ak al al al hb ?_ ?_ ?_ ?_ ?_) ?_ ?_
  .intro h;simp only[bY,h]at hr;exact hr.symm
  .intro wb Kb pb fA;rw[fe fA]at hr;have zb:=Kb.size;have WV:=Kb.size;replace a12:=Kb.at a12 af;constructor
   .intro h;simp only[h]at hr;exact⟨.nil,_,a12,Acc.nil _ _ _ _,(cR h).trans hr,by omega⟩
   .intro h;simp only[h]at hr;exact⟨.nil,_,a12,Acc.nil _ _ _ _,hr,by simp[len];omega⟩
  .intro wb m' bU w' eD Kb hJ p' kM fA;have zb:=Kb.size;exact g201 ih aj aI ⟨dN.1,by simpa using fA⟩ aj hJ p' kM (Kb.at nz al) (Kb.at a1 al) aj aj aj aj aj aj aj aj aj aj
  .rintro wb bU w' ⟨acc,av,ac,ca,hF,hl⟩ h;simp only[aP,h]at hF;exact hF.symm
  .intro wb bU w1 w2 hZ hk;exact hZ.aA hk aj
  .rintro v wV ⟨rfl,fA,wb,dA,kK,Kb,p,hi,⟨acc,av,ac,ca,hF,hl⟩,jC⟩;have zb:=Kb.size;have Kk:=jC.size;replace kk:=kk.trans' jC af;replace a1:=jC.at a1 af;replace re:=re.fr jC af;replace nz:=jC.at nz af;replace hF:=(cR hi).symm.trans hF;refine⟨⟨nz,a1⟩,?_⟩;unfold ptr at*;refine⟨_,λw' _=>Nc.p _ w',?_⟩;refine Xw.i _ (λw' _=>by simp[go_sem]<;>trivial) ?_;refine U1.store (aO rfl rfl) ac ak λEn Ci=>?_;have zU17:=Ci.size;replace kk:=kk.trans' Ci.aA af;replace a1:=Ci.aA.at a1 af;replace re:=re.fr Ci.aA af;replace nz:=Ci.aA.at nz af;replace p:=p.aA Ci.aA af af af
   replace ca:=ca.fr Ci.aA af;replace ac:=Ci.at_;simp only[set_cons_zero,set_cons_succ]at ac;refine V1.load (aC rfl) (nz) rfl ?_;exact hK m _ _ _ _ aj ⟨.ex 8 0 [] e .nil .nil acc [] .nil,_,_,_,rfl,p,⟨wU,_,_,_,_,_,_,_,rfl,⟨by omega,by simp⟩,ac,re.fit aj ak,rfl,.inl rfl,ca.rep.fit aj ak,.inl ⟨rfl,rfl⟩,.inl rfl⟩,rfl,kk,a1,hF,by omega⟩
  .intro c wV hF;exact hF.pre kk al
 simp only[hb]at hr;refine V1.load (aC rfl) (a1) rfl ?_;refine sD _ p λgz ZB dw=>?_;have oX:=dw.size;replace kk:=kk.trans' dw af;replace re:=re.fr dw af;subst hr;exact⟨re.fit aj ak,se,⟨_,by simp,ZB⟩,kk⟩
end Go.Proofs.YtoddjlclpnoomaaGreatDoor

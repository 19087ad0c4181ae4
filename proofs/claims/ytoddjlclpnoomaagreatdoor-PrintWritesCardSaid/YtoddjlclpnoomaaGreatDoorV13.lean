import Derived.Test.YtoddjlclpnoomaaGreatDoorV12
set_option linter.unusedVariables false
set_option linter.unusedSimpArgs false
set_option maxRecDepth 100000
open Go.Proofs.Tryz
open Go.Instr (alloc loadAt storeAt fieldAt)
open List (toList_toArray set_cons_zero set_cons_succ)
open Nat (le_refl)
open Go.Value (cells)
namespace Go.Proofs.YtoddjlclpnoomaaGreatDoor
open Go.Sh
theorem g200{n:Nat}(ih:nK n):G1 (n+1) .bracket 200 [] idx:=by
 intro w x ts deep own r l la lo p dW hn hr aI rl eW hxp;refine Uj ?_;unfold LI;simp only[run]at hr;have lp:=p.mR;have lt:=p.ll;have lm:=p.qY;have kk:=aD.refl [x.p] w;refine mj (d159 p dW) ?_ ?_;rotate_left
 .intro c w3 hF;rw[←hr];exact(hF _).pre kk ak
 rintro _ w3 ⟨gg,b3,rfl,Gx,a3,p,K3⟩;have ur:deep+1<=64:=by simpa using gg
 have l3:=a3.lt;have tG:=K3.size;replace kk:=kk.trans' K3 af;replace rl:=rl.fr K3 af;rw[fL gg]at hr;refine D1.i (by simp[go_sem,B7,Deferred.ofValue];exact⟨rfl,rfl⟩) ?_;refine gD (d106 [91] p) ?_ ?_;rotate_left
 .intro c w4 hF;exact dK (Er.all hF hr) lp ak a3 al kk ak
 rintro _ w4 ⟨hi,rfl,p,K4⟩;have A0:=K4.size;replace kk:=kk.trans' K4 af;replace rl:=rl.fr K4 af;replace a3:=K4.at a3 af;rw[cW hi]at hr;refine gP (ih.expr 0 _ _ _ _ _ _ p aj aj rfl (aM hr aI)) ?_ ?_;rotate_left
 .intro c w5 h;exact dK (h.next hr) lp ak a3 al kk ak
 intro rv w5 h;obtain⟨t,cB,o,fc,r1,S1,⟨o',-,p⟩,K5⟩:=h.out;simp only[fc,bN.bind]at hr;have wI:=K5.size;replace kk:=kk.trans' K5 af;replace rl:=rl.fr K5 af;replace a3:=K5.at a3 af;obtain⟨br,rfl,-,-⟩:=r1.kind S1;unfold ptr;refine V1.i ah ?_;refine V1.new (iE _ _) λb6 w6 N6=>?_;have D8:=N6.ge;have D9:=N6.lt;have Ea:=N6.aA.size;have a6:=N6.at_;try simp only[cells,toList_toArray]at a6
 replace kk:=N6.kp kk;replace rl:=rl.nw N6;replace a3:=N6.a a3;replace r1:=r1.nw N6;replace p:=p.new N6.aA;refine gD (d106 [93] p) ?_ ?_;rotate_left
 .intro c w7 hF;exact dK (Er.all hF hr) lp ak a3 al kk ak
 rintro _ w7 ⟨hi,rfl,p,K7⟩;have jj:=K7.size;replace kk:=kk.trans' K7 af;replace rl:=rl.fr K7 af;replace a3:=K7.at a3 af;replace r1:=r1.fr K7 af;replace a6:=K7.at a6 af;rw[cW hi]at hr;refine mq p dW a3 λw8 p8 K8=>?_;have yC:=K8.size;replace kk:=kk.trans' K8 af;replace rl:=rl.fr K8 af;replace a3:=K8.at a3 af;replace r1:=r1.fr K8 af;replace a6:=K8.at a6 af;subst hr;exact⟨⟨b6,_,_,_,_,_,_,_,rfl,⟨by omega,by simp⟩,a6,rl.fit aj ak,r1.fit aj ak,.inl rfl,.inl rfl,.inl ⟨rfl,rfl⟩,.inl rfl⟩,S1,⟨_,by simp,p8⟩,kk⟩
theorem g162{n:Nat}(ih:nK n):G0 (n+1) .operand 162 [] .P eK false:=by
 intro w x ts deep own r p dW hn hr aI;refine Ug ?_;unfold LA;simp only[run]at hr;have lp:=p.mR;have lt:=p.ll;have lm:=p.qY;have kk:=aD.refl [x.p] w;refine V1.aG ah λb w1 N=>?_;have gN:=N.ge;have lN:=N.lt;have zN:=N.aA.size;have a1:=N.at_;try simp only[cells,toList_toArray]at a1
 replace p:=p.new N.aA;replace kk:=N.kp kk;refine fW (d99 (ss:=[[110,111,116],[45],[35],[126]]) p a1 ak) ?_ (NP.no (e:=_));rintro _ w2 ⟨rfl,K2⟩;have wH:=K2.size;replace p:=p.aA K2 af af af;replace kk:=kk.trans' K2 af;replace a1:=K2.at a1 af;repeat(first|refine Up.i (Nc.p _ _) ?_|refine V1.load (aC rfl) aw rfl ?_|refine V1.i ah ?_)
 refine If.b (λhb=>?_) (λhb=>?_)
 .have eF:gw (hd ts) [mE,[45],[35],[126]]=false:=(by simpa using hb:gw (hd ts) [[110,111,116],[45],[35],[126]]=false);simp only[eF]at hr;refine DL (ih.post _ _ _ _ _ _ p dW aj hr aI) ?_ ?_
  .intro v w3 h;exact(h.pre kk ak aj).Vj
  .intro c w3 hF;exact hF.pre kk ak
 .have eF:gw (hd ts) [mE,[45],[35],[126]]=true:=(by simpa using hb:gw (hd ts) [[110,111,116],[45],[35],[126]]=true);simp only[eF]at hr;refine mj (d159 p dW) ?_ ?_;rotate_left
  .intro c w3 hF;exact(Er.all hF hr).pre kk ak
  rintro _ w3 ⟨gg,b3,rfl,Gx,a3,p,K3⟩;have ur:deep+1<=64:=by simpa using gg
  have l3:=a3.lt;have tG:=K3.size;replace kk:=kk.trans' K3 af;rw[fL gg]at hr;refine D1.i (by simp[go_sem,B7,Deferred.ofValue];exact⟨rfl,rfl⟩) ?_;refine eh (d107 p) ?_ (NP.no (e:=_));rintro _ w4 ⟨rfl,p,K4⟩;have A0:=K4.size;replace kk:=kk.trans' K4 af;replace a3:=K4.at a3 af;refine V1.new (fB _) λb5 w5 N5=>?_;have B5:=N5.ge;have AZ:=N5.lt;have Eb:=N5.aA.size;have a5:=N5.at_;try simp only[cells,toList_toArray]at a5
  replace kk:=N5.kp kk;replace a3:=N5.a a3;replace p:=p.new N5.aA;refine U1.tok (t:=hd ts) a5 rfl λw6 U6=>?_;have B8:=U6.size;replace kk:=kk.trans' U6.aA af;replace a3:=U6.aA.at a3 af;replace p:=p.aA U6.aA af af af;have a5:=U6.at_;refine⟨λw'=>At w' b5 [.int .i64 (hd ts).kind,str (hd ts).text,.int .i64 (hd ts).n,.int .i64 (hd ts).line],a5,?_⟩;have K7:aD [] w6 w6.drew:=(aD.refl _ _).drew;generalize w6.drew=w7 at K7⊢;have jj:=K7.size;replace kk:=kk.trans' K7 af;replace a3:=K7.at a3 af;replace p:=p.aA K7 af af af
  replace a5:=K7.at a5 af;refine Xw.i _ (λw' _=>by simp[go_sem]<;>trivial) ?_;refine Xw.i _ (λw' hw=>(aC rfl) _ _ _ (by rw[hw.cell];rfl)) ?_;refine Xw.i _ (λw' _=>by simp[go_sem]<;>trivial) ?_;refine Xw.i _ (λw' hw=>(aC rfl) _ _ _ (by rw[hw.cell];rfl)) ?_;refine DN (ih.operand _ _ _ _ _ _ p aj aj rfl (aM hr aI)) ?_ ?_;rotate_left
  .intro c w8 h;exact dK (h.next hr) lp ak a3 al kk ak
  intro rv w8 h;obtain⟨t,cB,o,fc,r1,S1,⟨o',-,p⟩,K8⟩:=h.out;simp only[fc,bN.bind]at hr;have yC:=K8.size;replace kk:=kk.trans' K8 af;replace a3:=K8.at a3 af;replace a5:=K8.at a5 af;refine⟨a5,?_⟩;obtain⟨br,rfl,-,-⟩:=r1.kind S1;unfold ptr;refine Xw.i _ (λw' _=>by simp[go_sem]<;>trivial) ?_;refine V1.new (iE _ _) λb9 w9 N9=>?_;have Vk:=N9.ge;have Vl:=N9.lt;have Vm:=N9.aA.size;have a9:=N9.at_;try simp only[cells,toList_toArray]at a9
  replace kk:=N9.kp kk;replace a3:=N9.a a3;replace r1:=r1.nw N9;replace p:=p.new N9.aA;refine mq p dW a3 λei p8 dA=>?_;have sr:=dA.size;replace kk:=kk.trans' dA af;replace a3:=dA.at a3 af;replace r1:=r1.fr dA af;replace a9:=dA.at a9 af;subst hr;exact⟨⟨b9,_,_,_,_,_,_,_,rfl,⟨by omega,by simp⟩,a9,rfl,r1.fit aj ak,.inl rfl,.inl rfl,.inl ⟨rfl,rfl⟩,.inl rfl⟩,rfl,⟨_,by simp,p8⟩,kk⟩
theorem g163{n:Nat}(ih:nK n)(k:Int)(Y8:0<=k/\k<=100):G1 (n+1) (λl=>.bin l k) 163 [.int .i64 k] eK:=by
 intro w x ts deep own r l la lo p dW hn hr aI rl eW hxp;refine Uh ?_;unfold LC;simp only[run]at hr;have lp:=p.mR;have lt:=p.ll;have lm:=p.qY;have kk:=aD.refl [x.p] w;refine mH (d31 p) ?_ (NP.no (e:=_));rintro _ w2 ⟨rfl,K2⟩;have wH:=K2.size;replace kk:=kk.trans' K2 af;replace rl:=rl.fr K2 af;replace p:=p.aA K2 af af af;rw[dx];refine V1.i ah ?_;refine mH (d31 p) ?_ (NP.no (e:=_));rintro _ w3 ⟨rfl,K3⟩;have tG:=K3.size;replace kk:=kk.trans' K3 af;replace rl:=rl.fr K3 af;replace p:=p.aA K3 af af af;rw[dx];refine V1.i ah ?_;refine V1.i ah ?_
 refine V1.new (iE _ _) λb4 w4 N4=>?_;have Vn:=N4.ge;have lN4:=N4.lt;have Vo:=N4.aA.size;have a4:=N4.at_;try simp only[cells,toList_toArray]at a4
 replace kk:=N4.kp kk;replace rl:=rl.nw N4;replace p:=p.new N4.aA;refine Fu.go ?_;repeat(first|refine Up.i (Nc.p _ _) ?_|refine V1.load (aC rfl) aw rfl ?_|refine V1.i ah ?_)
 refine If.b (λhb=>?_) (λhb=>?_)
 .have eF:((hd ts).text==[46,46])=true:=by simpa using hb
  simp only[eF]at hr;refine mj (d159 p dW) ?_ ?_;rotate_left
  .intro c w3 hF;exact(Er.all hF hr).pre kk ak
  rintro _ w5 ⟨gg,b5,rfl,hb5,a5,p,K5⟩;have ur:deep+1<=64:=by simpa using gg
  have l5:=a5.lt;have wI:=K5.size;replace kk:=kk.trans' K5 af;replace rl:=rl.fr K5 af;replace a4:=K5.at a4 af;rw[fL gg]at hr;refine D1.i (by simp[go_sem,B7,Deferred.ofValue];exact⟨rfl,rfl⟩) ?_;refine V1.i (fP _ _ _ _ _ _ aj aj) ?_;refine eh (d107 p) ?_ (NP.no (e:=_));rintro _ w6 ⟨rfl,p,K6⟩;have mr:=K6.size;replace kk:=kk.trans' K6 af;replace rl:=rl.fr K6 af;replace a4:=K6.at a4 af;replace a5:=K6.at a5 af;refine gP (ih.expr _ _ _ _ _ _ _ p aj aj rfl (aM hr aI)) ?_ ?_;rotate_left
  .intro c w7 h;exact dK (h.next hr) lp ak a5 al kk ak
  intro rv w7 h;obtain⟨t,cB,o,fc,r1,S1,⟨o',-,p⟩,K7⟩:=h.out;simp only[fc,bN.bind]at hr;have jj:=K7.size;replace kk:=kk.trans' K7 af;replace rl:=rl.fr K7 af;replace a4:=K7.at a4 af;replace a5:=K7.at a5 af;obtain⟨br,rfl,-,-⟩:=r1.kind S1;unfold ptr at*;repeat(first|refine Up.i (Nc.p _ _) ?_|refine V1.load (aC rfl) aw rfl ?_|refine V1.i ah ?_)
  refine U1.store (aH rfl rfl) a4 ak λw8 U8=>?_;have yD:=U8.size;replace kk:=kk.trans' U8.aA af;replace rl:=rl.fr U8.aA af;replace a5:=U8.aA.at a5 af;replace r1:=r1.fr U8.aA af;replace p:=p.aA U8.aA af af af;replace a4:=U8.at_;simp only[set_cons_zero,set_cons_succ]at a4;refine mq p dW a5 λw9 p9 K9=>?_;have Ec:=K9.size;replace kk:=kk.trans' K9 af;replace rl:=rl.fr K9 af;replace a4:=K9.at a4 af;replace r1:=r1.fr K9 af;subst hr
  exact⟨⟨b4,_,_,_,_,_,_,_,rfl,⟨by omega,by simp⟩,a4,rl.fit aj ak,r1.fit aj ak,.inl rfl,.inl rfl,.inl ⟨rfl,rfl⟩,.inl rfl⟩,rfl,⟨_,by simp,p9⟩,kk⟩
 .have eF:((hd ts).text==[46,46])=false:=by simpa using hb
  simp only[eF]at hr;refine eh (d107 p) ?_ (NP.no (e:=_));rintro _ w6 ⟨rfl,p,K6⟩;have mr:=K6.size;replace kk:=kk.trans' K6 af;replace rl:=rl.fr K6 af;replace a4:=K6.at a4 af;refine gP (ih.expr _ _ _ _ _ _ _ p aj aj rfl (aM hr aI)) ?_ ?_;rotate_left
  .intro c w7 h;exact(h.next hr).pre kk ak
  intro rv w7 h;obtain⟨t,cB,o,fc,r1,S1,⟨o',-,p⟩,K7⟩:=h.out;simp only[fc,bN.bind]at hr;have jj:=K7.size;replace kk:=kk.trans' K7 af;replace rl:=rl.fr K7 af;replace a4:=K7.at a4 af;obtain⟨br,rfl,-,-⟩:=r1.kind S1;unfold ptr at*;repeat(first|refine Up.i (Nc.p _ _) ?_|refine V1.load (aC rfl) aw rfl ?_|refine V1.i ah ?_)
  refine U1.store (aH rfl rfl) a4 ak λw8 U8=>?_;have yD:=U8.size;replace kk:=kk.trans' U8.aA af;replace rl:=rl.fr U8.aA af;replace r1:=r1.fr U8.aA af;replace p:=p.aA U8.aA af af af;replace a4:=U8.at_;simp only[set_cons_zero,set_cons_succ]at a4;subst hr;exact⟨⟨b4,_,_,_,_,_,_,_,rfl,⟨by omega,by simp⟩,a4,rl.fit aj ak,r1.fit aj ak,.inl rfl,.inl rfl,.inl ⟨rfl,rfl⟩,.inl rfl⟩,rfl,⟨_,by simp,p⟩,kk⟩
theorem uv{R:ER}{k:WP}{w:Wd}{x:fk}{ts:LT}{deep:Int}{own:Bool}(b:Bool)(p:PS w x ts deep own)(hk:∀w',PS w' x ts deep b->aD [x.p] w w'->k w'):
  Up prog (Nc (ptr x.p)) w (λa w=>V1 prog (fieldAt 83 a 3) w (λa w=>U1 prog (storeAt 4 a (.bool b)) w k (pn R)) (pn R)) (pn R):=by
 obtain⟨o,c,h1,h2,h3⟩:=p.ex;unfold ptr;repeat(first|refine Up.i (Nc.p _ _) ?_|refine V1.load (aC rfl) aw rfl ?_|refine V1.i ah ?_)
 refine U1.store (aH rfl rfl) (h1) ak λw1 U=>?_;refine hk w1 (p.deep λo' c' Gw=>?_) U.aA;obtain⟨T,hT⟩:=h1;obtain⟨T',D7⟩:=Gw;rw[hT]at D7;injection D7 with e1;simp at e1
 obtain⟨h1,h2⟩:o=o'/\c=c':=by grind
 subst h1 h2;exact U
theorem sw(s:By):0<=bD s/\bD s<=100:=by
 unfold bD;repeat' split
 all_goals omega
def M6(R:ER)(a0 a1:Va)(j1:Va->VK)(a4 a5:Va)(w:Wd):Prop:=
 Cf prog 31 #[a0] w (λM8 w=>
 V1 prog (alloc 86 true (.tuple #[])) w (λGy w=>
 U1 prog (storeAt 86 Gy M8) w (λw=>
 ∃C2:WP,C2 w.drew/\
 Xq prog C2 (Nc a0) λM9=>Xv prog C2 (fieldAt 83 M9 1) λNa=>Xv prog C2 (loadAt 80 Na) λNb=>Xv prog C2 (fieldAt 86 Gy 1) λNd=>Xv prog C2 (loadAt 9 Nd) λNf=>Xv prog C2 (Instr.lookup 80 Nb Nf false) λEd=>∀w,C2 w->V1 prog (fieldAt 86 Gy 0) w (λNg w=>
 V1 prog (loadAt 3 Ng) w (λNh w=>
 V1 prog (Bo .neq 3 false true Nh (.int .i64 4)) w (λEe w=>
 J1 (λk2=>
 Gd Ee false (V1 prog (Bo .leq 3 false false Ed a1) w (λNi w=>
 k2 Ni w) (pn R)) (k2 undef w)) (λNj w=>
 V1 prog (Pk Ee (.bool true) Nj) w (λNk w=>
 If Nk (
 Up prog (Nc a0) w (λNl w=>
 V1 prog (fieldAt 83 Nl 3) w (λys w=>
 U1 prog (storeAt 4 ys (.bool false)) w (λw=>
 R (.returned a5) w) (pn R)) (pn R)) (pn R)) (
 Cf prog 163 #[a0,a5,Ed] w (λyt w=>
 j1 a4 yt w) (pn R))) (pn R))) (pn R)) (pn R)) (pn R)) (pn R)) (pn R)) (pn R)
theorem Nn{n m:Nat}(ih:∀m,m<=n->nK m)(hm:m<=n){K:Va->VK}{v1 v2:Va}{w w0:Wd}{x:fk}{ts:LT}{deep ef:Int}{own:Bool}{r:bN}{e:Tr}(p:PS w x ts deep own)(dW:0<=deep/\deep<=64)(hn:n<=aX)
  (hr:run (m+1) (.exprL e ef) deep ts=r) (aI:r≠.bH) (re:aP (Fr w0.heap.size []) w e (.P v2)) (hs:eK e=true) (kk:aD [x.p] w0 w) (lp:x.p<w0.heap.size)
  (hK:∀v2 w' bX own' e',PS w' x bX deep own'->aP (Fr w0.heap.size []) w' e' (.P v2)->eK e'=true->aD [x.p] w0 w'->run m (.exprL e' ef) deep bX=r->K v1 v2 w'):
  M6 (aZ (Ok [x.p] w0.heap.size x w0 deep .P eK false r) (Er [x.p] x w0 r)) (ptr x.p) (.int .i64 ef) K v1 v2 w:=by
 unfold M6;simp only[run]at hr;have z0:=kk.size;have lt:=p.ll;have lm:=p.qY;refine mH (d31 p) ?_ (NP.no (e:=_));rintro _ w2 ⟨rfl,K2⟩;have wH:=K2.size;replace kk:=kk.trans' K2 af;replace re:=re.fr K2 af;replace p:=p.aA K2 af af af;refine V1.new (fB _) λb3 w3 N3=>?_;have Ik:=N3.ge;have Il:=N3.lt;have Im:=N3.aA.size;have a3:=N3.at_;try simp only[cells,toList_toArray]at a3
 replace kk:=N3.kp kk;replace re:=re.nw N3;replace p:=p.new N3.aA;refine U1.tok (t:=hd ts) a3 rfl λw4 U4=>?_;have RB:=U4.size;replace kk:=kk.trans' U4.aA af;replace re:=re.fr U4.aA af;replace p:=p.aA U4.aA af af af;have a3:=U4.at_;replace re:=re.fit (lo':=w0.heap.size) (Y:=[]) aj ak;have K5:aD [] w4 w4.drew:=(aD.refl _ _).drew;generalize w4.drew=w5 at K5⊢;have wI:=K5.size;replace kk:=kk.trans' K5 af;replace re:=re.fr K5 af;replace p:=p.aA K5 af af af;replace a3:=K5.at a3 af;refine⟨λw'=>w'=w5,rfl,?_⟩
 refine⟨_,λw' _=>⟨rfl,rfl⟩,?_⟩;obtain⟨o,c,h1,h2,h3⟩:=p.ex;obtain⟨es,c',hm',hl⟩:=p.sat
 refine Xv.i _ (λw' _=>by simp[go_sem]<;>trivial) ?_;refine Xv.i _ (λw' hw=>by subst hw;exact(aC rfl) _ _ _ (by rw[h1.cell];rfl)) ?_;refine Xv.i _ (λw' _=>by simp[go_sem]<;>trivial) ?_;refine Xv.i _ (λw' hw=>by subst hw;exact(aC rfl) _ _ _ (by rw[a3.cell];rfl)) ?_;refine Xv.i _ (λw' hw=>by subst hw;exact hl _ _ hm') ?_;intro w6 hw6;rw[hw6];clear hw6 w6;repeat(first|refine Up.i (Nc.p _ _) ?_|refine V1.load (aC rfl) aw rfl ?_|refine V1.i ah ?_)
 refine J1.go (Gd.b (λhc=>?_) (λhc=>?_))
 .have AW:((hd ts).kind==4)=true:=by simpa using hc
  rw[AW]at hr;repeat(first|refine Up.i (Nc.p _ _) ?_|refine V1.load (aC rfl) aw rfl ?_|refine V1.i (by simp[go_sem,hc]<;>trivial) ?_)
  refine If.b (λhb=>?_) (λhb=>?_)
  .rw[hb]at hr;refine uv false p λw6 p6 K6=>?_;simp only[Bool.not_true,Bool.false_or]at hr;have mr:=K6.size;replace kk:=kk.trans' K6 af;replace re:=re.fr K6 af;subst hr;exact⟨re,hs,⟨_,by simp,p6⟩,kk⟩
  .rw[hb]at hr;simp only[Bool.not_true,Bool.false_or]at hr;obtain⟨b2,rfl,-,-⟩:=re.kind hs;refine LF ((ih m hm).bin _ (sw _) _ _ _ _ _ _ _ _ w0.heap.size p dW aj rfl (aM hr aI) re aj aj) ?_ ?_
   .intro v w7 h;obtain⟨t,cB,o,fc,r1,S1,⟨o',-,p⟩,K7⟩:=h.out;simp only[fc,bN.bind]at hr;have jj:=K7.size;replace kk:=kk.trans' K7 af;exact hK _ _ _ _ _ p r1 S1 kk hr
   .intro c w7 h;exact h.up hr kk ak
 .have AW:((hd ts).kind==4)=false:=by simpa using hc
  rw[AW]at hr;repeat(first|refine Up.i (Nc.p _ _) ?_|refine V1.load (aC rfl) aw rfl ?_|refine V1.i (by simp[go_sem,hc]<;>trivial) ?_)
  refine If.t ?_;refine uv false p λw6 p6 K6=>?_;simp only[Bool.not_false,Bool.true_or]at hr;have mr:=K6.size;replace kk:=kk.trans' K6 af;replace re:=re.fr K6 af;subst hr;exact⟨re,hs,⟨_,by simp,p6⟩,kk⟩
theorem g108{n:Nat}(ih:∀m,m<=n->nK m)(ef:Int):G0 (n+1) (.expr ef) 108 [.int .i64 ef] .P eK false:=by
 intro w x ts deep own r p dW hn hr aI;refine T5 ?_;unfold Lo;simp only[run]at hr;have lp:=p.mR;refine P2.g (λm v1 v2 w'=>∃e bX own',PS w' x bX deep own'/\aP (Fr w.heap.size []) w' e (.P v2)/\eK e=true/\aD [x.p] w w'/\run m (.exprL e ef) deep bX=r/\m<=n) ?_ ?_
 .intro K hK;refine DN ((ih n aj).operand _ _ _ _ _ _ p dW aj rfl (aM hr aI)) ?_ ?_
  .intro v w2 h;obtain⟨t,cB,o,fc,r1,S1,⟨o',-,p⟩,K2⟩:=h.out;simp only[fc,bN.bind]at hr
   cases n with
   |zero=>exact absurd hr.symm aI
   |succ m=>
    exact Nn ih aj p dW aj hr aI r1 S1 K2 lp λv2 w' bX own' e' h1 h2 h3 h4 h5=>hK m _ _ _ ⟨e',bX,own',h1,h2,h3,h4,h5,by omega⟩
  .intro c w3 hF;exact hF.next hr
 .rintro m v1 v2 w2 K ⟨e,cB,wJ,p,r1,S1,K2,hr,hm⟩ hK
  cases m with
  |zero=>exact absurd hr.symm aI
  |succ m=>
   exact Nn ih aj p dW aj hr aI r1 S1 K2 lp λv2 w' bX own' e' h1 h2 h3 h4 h5=>hK m _ _ _ aj ⟨e',bX,own',h1,h2,h3,h4,h5,by omega⟩
theorem aZ.imp{f:FuncId}{args:AV}{w:Wd}{k Q:VK}{e E:EK}(h:Calls prog f args w (aZ Q E))(hk:∀v w',Q v w'->k v w')(he:∀c w',E c w'->e c w'):Calls prog f args w (aZ k e):=
 h.mono λen w' hr=>by
  cases en with
  |returned v=>exact hk v w' hr
  |panicked c=>exact he c w' hr
  |outgrown=>exact hr
theorem g160{w:Wd}{x:fk}{ts:LT}{deep:Int}{own:Bool}{r:bN}{fs ls:By}{cv:Va}{kc:FuncId}{cap:AV}{M:List Nat}{N:Nat}{J:Wd->Nat->LT->WP}{Z:Wd->LT->WP}
  (p:PS w x ts deep own) (dW:0<=deep/\deep<=64) (Vp:∀w',(Cv cv #[]).run prog w'=.ok (.enter kc cap) w') (kq:x.p∈M) (yE:∀i∈M,i<w.heap.size) (htM:x.bt∉M) (hmM:x.bm∉M) (hf:bC fs ts=true)
  (ho:decide (64<deep+1)=true->r=.fail 3)
  (h0:∀wb,aD [x.p] w wb->PS wb x (bG ts) (deep+1) own->decide (64<deep+1)=false->(bC ls (bG ts)=true->Z wb (bG ts) wb)/\(bC ls (bG ts)=false->J wb N (bG ts) wb))
  (hj:∀wb m bX w' own',aD [x.p] w wb->J wb m bX w'->PS w' x bX (deep+1) own'->aD M wb w'->decide (64<deep+1)=false->
   Calls prog kc cap w' (aZ (λ_ w2=>∃dI lT,PS w2 x dI (deep+1) lT/\aD M wb w2/\∀w3,aD [x.p] w2 w3->(bC [44] dI=true->∃m',m'<m/\J wb m' (bG dI) w3)/\(bC [44] dI=false->Z wb dI w3)) (λc w2=>Er M x wb r c w2)))
  (hz:∀wb bX w',Z wb bX w'->bC ls bX=false->r=.fail 4)
  (hzk:∀wb bX w1 w2,Z wb bX w1->aD [x.p] w1 w2->Z wb bX w2):
  Calls prog 160 #[ptr x.p,str fs,str ls,cv] w (aZ (λv w'=>v=.int .i64 (hd ts).line/\decide (64<deep+1)=false/\∃wb cB wJ,aD [x.p] w wb/\PS w' x (bG cB) deep wJ/\bC ls cB=true/\Z wb cB w'/\aD M w w') (Er M x w r)):=by
 refine Ue ?_;unfold Ly;have lp:=p.mR;have kk:=aD.refl [x.p] w;refine mj (d159 p dW) ?_ ?_;rotate_left
 .intro c w3 hF;have hF:=hF λ_=>.bH
  cases gg:decide (64<deep+1)with
  |true=>
   rw[ho gg];simp only[cD,gg]at hF;exact hF.pre (aD.refl M w) (by simp[kq])
  |false=>
   simp only[cD,gg]at hF;exact hF.elim
 rintro _ w3 ⟨gg,b3,rfl,Gx,a3,p,K3⟩;have ur:deep+1<=64:=by simpa using gg
 have l3:=a3.lt;have tG:=K3.size;replace kk:=kk.trans' K3 af;refine D1.i (by simp[go_sem,B7,Deferred.ofValue];exact⟨rfl,rfl⟩) ?_;refine gD (d106 fs p) ?_ ?_;rotate_left
 .intro c w4 hF;have hF:=hF λ_=>.bH;simp only[aR,hf]at hF;exact hF.elim
 rintro _ w4 ⟨hi,rfl,p,K4⟩;have A0:=K4.size;replace kk:=kk.trans' K4 af;replace a3:=K4.at a3 af;refine V1.aG ah λb5 w5 N5=>?_;have B5:=N5.ge;have AZ:=N5.lt;have Eb:=N5.aA.size;have a5:=N5.at_;try simp only[cells,toList_toArray]at a5
 replace kk:=N5.kp kk;replace a3:=N5.a a3;replace p:=p.new N5.aA;refine fW (gZ p a5) ?_ (NP.no (e:=_));rintro _ w6 ⟨rfl,K6⟩;have mr:=K6.size;replace kk:=kk.trans' K6 af;replace a3:=K6.at a3 af;replace p:=p.aA K6 af af af;replace a5:=K6.at a5 af;repeat(first|refine Up.i (Nc.p _ _) ?_|refine V1.load (aC rfl) aw rfl ?_|refine V1.i ah ?_)
 have h1:=h0 w6 kk p gg;refine Ib.g (λm v ds w'=>ds=[⟨.fn (.func 202) #[ptr b3],#[]⟩]/\∃bX own',PS w' x bX (deep+1) own'/\aD M w6 w'/\((v=.bool true/\∃k,m=k+1/\J w6 k bX w')\/(v=.bool false/\Z w6 bX w'))) (N+1)
  ⟨rfl,_,_,p,aD.refl _ _,by
   cases h:bC ls (bG ts)with
   |true=>exact .inr ⟨rfl,h1.1 h⟩
   |false=>exact .inl ⟨rfl,N,rfl,h1.2 h⟩⟩ ?_
 rintro m v ds w7 K ⟨rfl,bX,own',p,kM,hv⟩ hK;have z7:=kM.size;have RD:=a3;have a3:=kM.at a3 (λh=>by have:=yE _ h;omega);have kx:=(kk.mono (N:=M) (by simp[kq])).trans' kM (λi hi _=>hi);rcases hv with⟨rfl,k,rfl,hJ⟩|⟨rfl,hZ⟩
 .refine If.t ?_;refine Up.c (Vp _) (aZ.imp (hj w6 k bX w7 own' kk hJ p kM gg) ?_ ?_)
  .rintro _ w8 ⟨dI,lT,p,kM,h3⟩;refine DM (d158 [44] p) ?_ (NP.no (e:=_));rintro _ w9 ⟨rfl,p,K9⟩;have h4:=h3 w9 K9;have kM:=kM.trans' K9 (by simp[kq])
   cases h5:bC [44] dI with
   |true=>
    rw[h5]at p;obtain⟨m',hm,hJ'⟩:=h4.1 h5;exact hK (m'+1) _ _ _ aj ⟨rfl,_,_,p,kM,.inl ⟨rfl,m',rfl,hJ'⟩⟩
   |false=>
    rw[h5]at p;exact hK 0 _ _ _ aj ⟨rfl,_,_,p,kM,.inr ⟨rfl,h4.2 h5⟩⟩
  .intro c w8 hF;exact dK hF lp kq RD (λh=>by have:=yE _ h;omega) (kk.mono (by simp[kq])) (λi hi _=>hi)
 .refine If.f ?_;refine gD (d106 ls p) ?_ ?_;rotate_left
  .intro c w8 hF;have hF:=hF λ_=>.bH
   cases h5:bC ls bX with
   |true=>
    simp only[aR,h5]at hF;exact hF.elim
   |false=>
    simp only[aR,h5]at hF;rw[hz _ _ _ hZ h5];exact dK hF lp kq a3 al kx (by simp[kq])
  rintro _ w8 ⟨hi,rfl,p,K8⟩;have yC:=K8.size;replace a3:=K8.at a3 af;refine mq p dW a3 λw9 p9 K9=>?_;exact⟨rfl,gg,w6,bX,_,kk,p9,hi,hzk _ _ _ _ (hzk _ _ _ _ hZ K8) K9,(kx.trans' K8 (by simp[kq])).trans' K9 (by simp[kq])⟩
def JA(x:fk)(r:bN)(deep:Int)(n bc:Nat)(line:Int)(lv:Va)(F:Tr->LT->Bool->bN)(wb:Wd)(m:Nat)(ts:LT)(w:Wd):Prop:=
 ∃acc av,At w bc [.int .i64 8,.int .i64 line,.int .i64 0,str [],lv,.pointer none,.slice none 0 0,av,.slice none 0 0,.slice none 0 0]/\Acc 41 wb.heap.size [] w av acc/\(run m (.args acc) (deep+1) ts).bind F=r/\len acc+m<=n
def ZA(x:fk)(r:bN)(bc:Nat)(line:Int)(lv:Va)(F:Tr->LT->Bool->bN)(wb:Wd)(ts:LT)(w:Wd):Prop:=
 ∃acc av,At w bc [.int .i64 8,.int .i64 line,.int .i64 0,str [],lv,.pointer none,.slice none 0 0,av,.slice none 0 0,.slice none 0 0]/\Acc 41 wb.heap.size [] w av acc/\F acc ts false=r/\x.p<wb.heap.size
theorem g201{n:Nat}(ih:∀m,m<=n->nK m)(hn:n<=aX){x:fk}{r:bN}{deep:Int}{bc ba bp:Nat}{line:Int}{lv:Va}{F:Tr->LT->Bool->bN}{wb w:Wd}{m:Nat}{ts:LT}{own:Bool}(aI:r≠.bH)(hd:0<=deep/\deep+1<=64)
  (lp:x.p<wb.heap.size) (hJ:JA x r deep n bc line lv F wb m ts w) (p:PS w x ts (deep+1) own) (kM:aD [x.p,bc] wb w) (aa:At wb ba [ptr bc]) (ap:At wb bp [ptr x.p]) (hc:bc<wb.heap.size) (h1:ba≠x.p) (h2:ba≠bc) (h3:bp≠x.p) (h4:bp≠bc) (h5:bc≠x.p) (h6:bc≠x.bt) (h7:bc≠x.bm) (h8:x.bt<wb.heap.size) (h9:x.bm<wb.heap.size):
  Calls prog 201 #[ptr ba,ptr bp] w (aZ (λ_ w2=>∃dI lT,PS w2 x dI (deep+1) lT/\aD [x.p,bc] wb w2/\∀w3,aD [x.p] w2 w3->(bC [44] dI=true->∃m',m'<m/\JA x r deep n bc line lv F wb m' (bG dI) w3)/\(bC [44] dI=false->ZA x r bc line lv F wb dI w3)) (λc w2=>Er [x.p,bc] x wb r c w2)):=by
 obtain⟨acc,av,ac,ca,hr,hm⟩:=hJ
 cases m with
 |zero=>exact absurd hr.symm aI
 |succ m=>
 simp only[run]at hr;refine Uk ?_;unfold LJ;have z0:=kM.size;have la:=aa.lt;have lpp:=ap.lt;replace aa:=kM.at aa al;replace ap:=kM.at ap al;have K1:aD [] w w.drew:=(aD.refl _ _).drew;generalize w.drew=w1 at K1⊢;have Vq:=K1.size;replace kM:=kM.trans' K1 af;replace aa:=K1.at aa af;replace ap:=K1.at ap af;replace ac:=K1.at ac af;replace ca:=ca.fr K1 af;replace p:=p.aA K1 af af af;refine⟨λw'=>At w' ba [ptr bc]/\At w' bp [ptr x.p]/\At w' bc [.int .i64 8,.int .i64 line,.int .i64 0,str [],lv,.pointer none,.slice none 0 0,av,.slice none 0 0,.slice none 0 0],⟨aa,ap,ac⟩,?_⟩;refine Xw.i _ (λw' hw=>(aC rfl) _ _ _ (by rw[hw.1.cell];rfl)) ?_
 refine Xw.i _ (λw' hw=>(aC rfl) _ _ _ (by rw[hw.1.cell];rfl)) ?_;refine⟨_,λw' _=>Nc.p _ w',?_⟩;refine Xw.i _ (λw' _=>by simp[go_sem]<;>trivial) ?_;refine Xw.i _ (λw' hw=>(aC rfl) _ _ _ (by rw[hw.2.2.cell];rfl)) ?_;refine Xw.i _ (λw' hw=>(aC rfl) _ _ _ (by rw[hw.2.1.cell];rfl)) ?_;have bO:∀g,av.ownBlock=some g->wb.heap.size<=g/\g<w1.heap.size:=λg hg=>ca.lt hg;have rh:∃f,(run m (.expr 0) (deep+1) ts).bind f=r:=by
  cases h:run m (.expr 0) (deep+1) ts with
  |ok t ts o=>rw[h]at hr;exact⟨λ_ _ _=>r,rfl⟩
  |fail c=>rw[h]at hr;exact⟨λ_ _ _=>.bH,hr⟩
  |bH=>rw[h]at hr;exact absurd hr.symm aI
 obtain⟨f,hf⟩:=rh;refine gP ((ih m aj).expr 0 _ _ _ _ _ _ p aj aj rfl (aM hf aI)) ?_ ?_;rotate_left
 .intro c w2 h;exact h.up hf kM ak
 intro v w2 h;obtain⟨t,cB,o,fc,r1,S1,⟨o',-,p⟩,K2⟩:=h.out;simp only[fc,bN.bind]at hr;have wH:=K2.size;replace kM:=kM.trans' K2 af;replace aa:=K2.at aa af;replace ap:=K2.at ap af;replace ac:=K2.at ac af;replace ca:=ca.fr K2 af;refine⟨⟨aa,ap,ac⟩,?_⟩;obtain⟨br,rfl,-,-⟩:=r1.kind S1;have r2:aP (Fr wb.heap.size (av.ownBlock.toList++[])) w2 t (.P (ptr br)):=aP.imp (λq hq _=>⟨by have:=hq.1;omega,by
  simp
  intro hm;have:=bO q hm;have:=hq.1;omega⟩) _ _ r1
 refine V1.aG ah λb3 w3 N3=>?_;have Ik:=N3.ge;have Il:=N3.lt;have Im:=N3.aA.size;have a3:=N3.at_;try simp only[cells,toList_toArray]at a3
 replace kM:=N3.kp kM;replace aa:=N3.a aa;replace ap:=N3.a ap;replace ac:=N3.a ac;replace p:=p.new N3.aA;replace ca:=ca.f0 N3.aA;replace r2:=r2.f0 N3.aA;refine⟨⟨aa,ap,ac⟩,?_⟩;obtain⟨v',w4,eB,eO,K4,hg⟩:=kJ (n:=n) ca a3 rfl r2 aj (by simp only[aX]at hn;omega) ak aj;refine V1.i eB ?_;have hM:∀i∈av.ownBlock.toList,wb.heap.size<=i/\i<w1.heap.size:=by
  intro i hi;simp at hi;exact bO i hi
 replace p:=p.aA K4 (λh=>by have:=hM _ h;omega) (λh=>by have:=hM _ h;omega) (λh=>by have:=hM _ h;omega);replace kM:=kM.trans' K4 (λi hi h=>by have:=hM i hi;omega);replace aa:=K4.at aa (λh=>by have:=hM _ h;omega);replace ap:=K4.at ap (λh=>by have:=hM _ h;omega);replace ac:=K4.at ac (λh=>by have:=hM _ h;omega);have z4:=K4.size;refine⟨⟨aa,ap,ac⟩,?_⟩;refine⟨_,λw' _=>Nc.p _ w',?_⟩;refine Xw.i _ (λw' _=>by simp[go_sem]<;>trivial) ?_;refine U1.store (aH rfl eO.sc) ac ak λw5 U5=>?_;have zU5:=U5.size;replace kM:=kM.trans' U5.aA af;replace p:=p.aA U5.aA af af af;replace ac:=U5.at_;simp only[set_cons_zero,set_cons_succ]at ac;replace eO:=eO.fr U5.aA al
 refine⟨cB,_,p,kM,λw6 K6=>?_⟩;have mr:=K6.size;replace ac:=K6.at ac af;replace eO:=eO.fr K6 af;refine⟨λh=>⟨m,by omega,_,_,ac,eO,?_,by rw[dY _ _ ca.wD];omega⟩,λh=>⟨_,_,ac,eO,?_⟩⟩
 .rw[h]at hr;exact hr
 .rw[h]at hr;exact⟨hr,lp⟩
theorem ZA.aA{x:fk}{r:bN}{bc:Nat}{line:Int}{lv:Va}{F:Tr->LT->Bool->bN}{wb w w':Wd}{ts:LT}(h:ZA x r bc line lv F wb ts w)(hk:aD [x.p] w w')(h5:bc≠x.p):ZA x r bc line lv F wb ts w':=by
 obtain⟨acc,av,h1,h2,h3,h4⟩:=h;exact⟨acc,av,hk.at h1 al,h2.fr hk al,h3,h4⟩
theorem g156{n:Nat}(ih:∀m,m<=n->nK m):G0 (n+1) .post 156 [] .P eK true:=by
 intro w x ts deep own r p dW hn hr aI;refine T8 ?_;unfold Lt;simp only[run]at hr;have lp:=p.mR;have lt:=p.ll;have lm:=p.qY;have kk:=aD.refl [x.p] w;refine V1.new (wq _ _) λb1 w1 N1=>?_;have qm:=N1.ge;have qZ:=N1.lt;have rf:=N1.aA.size;have a1:=N1.at_;try simp only[cells,toList_toArray]at a1
 replace p:=p.new N1.aA;replace kk:=N1.kp kk;refine V1.load (aC rfl) (a1) rfl ?_;refine V1.aG ah λb2 w2 N2=>?_;have DZ:=N2.ge;have D0:=N2.lt;have B3:=N2.aA.size;have a2:=N2.at_;try simp only[cells,toList_toArray]at a2
 replace p:=p.new N2.aA;replace kk:=N2.kp kk;replace a1:=N2.a a1;refine fW (gZ p a2) ?_ (NP.no (e:=_));rintro _ w3 ⟨rfl,K3⟩;have tG:=K3.size;replace p:=p.aA K3 af af af;replace kk:=kk.trans' K3 af;replace a1:=K3.at a1 af;replace a2:=K3.at a2 af;refine V1.load (aC rfl) (a1) rfl ?_;refine LH ((ih n aj).dz _ _ _ _ _ _ p dW aj rfl (aM hr aI)) ?_ ?_;rotate_left
 .intro c w4 h;exact h.up hr kk ak
 intro v w4 h;obtain⟨t,cB,o,fc,r1,S1,⟨o',-,p⟩,K4⟩:=h.out;simp only[fc,bN.bind]at hr;have A0:=K4.size;replace a1:=K4.at a1 af;replace kk:=kk.trans' K4 af;refine L3.g (λm v4 v2 v3 w'=>∃e bX own' ob,v3=.bool ob/\PS w' x bX deep own'/\aP (Fr w.heap.size []) w' e (.P v4)/\eK e=true/\aD [x.p] w w'/\At w' b1 [ptr x.p]/\run m (.dH e ob) deep bX=r/\m<=n) n
  ⟨t,cB,o',_,rfl,p,r1.fit aj ak,S1,kk,a1,hr,le_refl _⟩ ?_
 clear fc r1 S1 p kk a1 hr h K4 a2 t cB o o' K3;rintro m v4 v2 v3 w5 K ⟨e,cB,wJ,ob,rfl,p,re,se,kk,a1,hr,hm⟩ hK
 cases m with
 |zero=>exact absurd hr.symm aI
 |succ m=>
 simp only[run]at hr;have z5:=kk.size;have lb:=a1.lt;refine J2.go ?_;refine V1.load (aC rfl) (a1) rfl ?_;refine V1.aG ah λb6 w6 N6=>?_;have D8:=N6.ge;have D9:=N6.lt;have Ea:=N6.aA.size;have a6:=N6.at_;try simp only[cells,toList_toArray]at a6
 replace p:=p.new N6.aA;replace kk:=N6.kp kk;replace a1:=N6.a a1;replace re:=re.nw N6;refine fW (gZ p a6) ?_ (NP.no (e:=_));rintro _ w7 ⟨rfl,K7⟩;have jj:=K7.size;replace p:=p.aA K7 af af af;replace kk:=kk.trans' K7 af;replace a1:=K7.at a1 af;replace re:=re.fr K7 af;replace a6:=K7.at a6 af;refine If.b (λhb=>?_) (λhb=>?_)
 .simp only[hb]at hr;refine V1.load (aC rfl) (a1) rfl ?_;obtain⟨br,rfl,-,-⟩:=re.kind se;refine DO ((ih m aj).bracket _ _ _ _ _ _ _ _ w.heap.size p dW aj rfl (aM hr aI) (re.fit aj ak) aj aj) ?_ ?_
  .intro v w8 h;obtain⟨t,dI,o,fc,r1,S1,⟨o',-,p⟩,K8⟩:=h.out;simp only[fc,bN.bind]at hr;have yC:=K8.size;replace kk:=kk.trans' K8 af;replace a1:=K8.at a1 af;exact hK m _ _ _ _ aj ⟨_,_,_,_,rfl,p,r1,wG S1,kk,a1,hr,by omega⟩
  .intro c w8 h;exact h.up hr kk ak
 simp only[hb]at hr;refine V1.load (aC rfl) (a1) rfl ?_;refine V1.aG ah λb8 w8 N8=>?_;have gN8:=N8.ge;have lN8:=N8.lt;have zN8:=N8.aA.size;have a8:=N8.at_;try simp only[cells,toList_toArray]at a8
 replace p:=p.new N8.aA;replace kk:=N8.kp kk;replace a1:=N8.a a1;replace re:=re.nw N8;refine fW (gZ p a8) ?_ (NP.no (e:=_));rintro _ w9 ⟨rfl,K9⟩;have Ec:=K9.size;replace p:=p.aA K9 af af af;replace kk:=kk.trans' K9 af;replace a1:=K9.at a1 af;replace re:=re.fr K9 af;replace a8:=K9.at a8 af;refine If.b (λhb=>?_) (λhb=>?_)
 .simp only[hb]at hr;refine V1.load (aC rfl) (a1) rfl ?_;refine eh (d107 p) ?_ (NP.no (e:=_));rintro _ ei ⟨rfl,p,dA⟩;have sr:=dA.size;replace kk:=kk.trans' dA af;replace a1:=dA.at a1 af;replace re:=re.fr dA af;rw[dx];refine V1.i ah ?_;refine V1.load (aC rfl) (a1) rfl ?_;refine nC (d104 p) ?_ ?_;rotate_left
  .intro c fp hF;exact(Er.all hF hr).pre kk ak
  rintro _ fp ⟨hi,rfl,p,cR⟩;have mJ:=cR.size;replace kk:=kk.trans' cR af;replace a1:=cR.at a1 af;replace re:=re.fr cR af;rw[fK hi]at hr;refine V1.new (fB _) λyF fT hH=>?_;have B9:=hH.ge;have Ca:=hH.lt;have Cb:=hH.aA.size;have a12:=hH.at_;try simp only[cells,toList_toArray]at a12
  replace p:=p.new hH.aA;replace kk:=hH.kp kk;replace a1:=hH.a a1;replace re:=re.nw hH;refine U1.tok (t:=hd (bG cB)) a12 rfl λmK gE=>?_;have z13:=gE.size;replace p:=p.aA gE.aA af af af;replace kk:=kk.trans' gE.aA af;replace a1:=gE.aA.at a1 af;replace re:=re.fr gE.aA af;have a12:=gE.at_;refine V1.i ah ?_;refine V1.load (aC rfl) (a12) rfl ?_;refine V1.i ah ?_;refine V1.load (aC rfl) (a12) rfl ?_;refine V1.i ah ?_;refine V1.new (iE _ _) λCc lu tH=>?_;have Vr:=tH.ge;have Vs:=tH.lt
  have Vt:=tH.aA.size;have po:=tH.at_;try simp only[cells,toList_toArray]at po
  replace p:=p.new tH.aA;replace kk:=tH.kp kk;replace a1:=tH.a a1;replace re:=re.nw tH;obtain⟨br,rfl,-,-⟩:=re.kind se;unfold ptr at*;refine V1.i ah ?_;refine V1.new (iE _ _) λRF sx lU=>?_;have Vu:=lU.ge;have Vv:=lU.lt;have Vw:=lU.aA.size;have nL:=lU.at_;try simp only[cells,toList_toArray]at nL
  replace p:=p.new lU.aA;replace kk:=lU.kp kk;replace a1:=lU.a a1;replace re:=re.nw lU;replace po:=lU.a po;exact hK m _ _ _ _ aj ⟨.ex 7 0 [] e (lf 5 0 (hd (bG cB)).text) .nil .nil [] .nil,_,_,_,rfl,p,⟨RF,_,_,_,_,_,_,_,rfl,⟨by omega,by simp⟩,nL,re.fit aj ak,⟨Cc,_,_,_,_,_,_,_,rfl,⟨by omega,by simp⟩,po,rfl,rfl,.inl rfl,.inl rfl,.inl ⟨rfl,rfl⟩,.inl rfl⟩,.inl rfl,.inl rfl,.inl ⟨rfl,rfl⟩,.inl rfl⟩,rfl,kk,a1,hr,by omega⟩
 simp only[hb]at hr;refine V1.load (aC rfl) (a1) rfl ?_;refine V1.aG ah λA4 ei eD=>?_;have Gz:=eD.ge;have GA:=eD.lt;have GB:=eD.aA.size;have iS:=eD.at_;try simp only[cells,toList_toArray]at iS
 replace p:=p.new eD.aA;replace kk:=eD.kp kk;replace a1:=eD.a a1;replace re:=re.nw eD;refine fW (gZ p iS) ?_ (NP.no (e:=_));rintro _ fp ⟨rfl,cR⟩;have mJ:=cR.size;replace p:=p.aA cR af af af;replace kk:=kk.trans' cR af;replace a1:=cR.at a1 af;replace re:=re.fr cR af;replace iS:=cR.at iS af;refine If.b (λhb=>?_) (λhb=>?_)
 .simp only[hb]at hr;obtain⟨br,rfl,-,-⟩:=re.kind se;unfold ptr at*;refine V1.i ah ?_;refine V1.new (iE _ _) λyF fT hH=>?_;have B9:=hH.ge;have Ca:=hH.lt;have Cb:=hH.aA.size;have a12:=hH.at_;try simp only[cells,toList_toArray]at a12
  replace p:=p.new hH.aA;replace kk:=hH.kp kk;replace a1:=hH.a a1;replace re:=re.nw hH;refine V1.new (FW _) λb13 mK Cd=>?_;have gN13:=Cd.ge;have lN13:=Cd.lt;have zN13:=Cd.aA.size;have oJ:=Cd.at_;try simp only[cells,toList_toArray]at oJ
  replace p:=p.new Cd.aA;replace kk:=Cd.kp kk;replace a1:=Cd.a a1;replace re:=re.nw Cd;replace a12:=Cd.a a12;refine U1.store (aH rfl rfl) oJ ak λlu ky=>?_;have Np:=ky.size;replace p:=p.aA ky.aA af af af;replace kk:=kk.trans' ky.aA af;replace a1:=ky.aA.at a1 af;replace re:=re.fr ky.aA af;replace a12:=ky.aA.at a12 af;replace oJ:=ky.at_;simp only[set_cons_zero,set_cons_succ]at oJ;have jD:aD [] lu lu.drew:=(aD.refl _ _).drew;generalize lu.drew=sx at jD⊢;have Nq:=jD.size
  replace p:=p.aA jD af af af;replace kk:=kk.trans' jD af;replace a1:=jD.at a1 af;replace re:=re.fr jD af;replace a12:=jD.at a12 af;replace oJ:=jD.at oJ af;refine⟨λw'=>At w' b13 [ptr yF]/\At w' b1 [ptr x.p],⟨oJ,a1⟩,?_⟩;refine Xw.i _ (λw' hw=>(aC rfl) _ _ _ (by rw[hw.1.cell];rfl)) ?_;refine Xw.i _ (λw' hw=>(aC rfl) _ _ _ (by rw[hw.2.cell];rfl)) ?_;refine Xw.i _ (λw' _=>by simp[go_sem]<;>trivial) ?_;have q1:=p.ll;have q2:=p.tp;have q3:=p.mp
  refine yh (g160 (M:=[x.p,yF]) (N:=m) (r:=r) (kc:=201) (cap:=#[ptr b13,ptr b1]) (J:=JA x r deep n yF 0 (ptr br) λew ts _=>aR [41] ts λts=>run m (.dH (.ex 8 0 [] e .nil .nil ew [] .nil) false) deep ts) (Z:=ZA x r yF 0 (ptr br) λew ts _=>aR [41] ts λts=>run m (.dH (.ex 8 0 [] e .nil .nil ew [] .nil) false) deep ts) p dW (aJ func201 (c:=bA f201) ai ai _) ak al al al hb ?_ ?_ ?_ ?_ ?_) ?_ ?_
  .intro h;simp only[cD,h]at hr;exact hr.symm
  .intro wb Kb pb gg;rw[fL gg]at hr;have zb:=Kb.size;have zKb:=Kb.size;replace a12:=Kb.at a12 af;constructor
   .intro h;simp only[h]at hr;exact⟨.nil,_,a12,Acc.nil _ _ _ _,(cW h).trans hr,by omega⟩
   .intro h;simp only[h]at hr;exact⟨.nil,_,a12,Acc.nil _ _ _ _,hr,by simp[len];omega⟩
  .intro wb m' bX w' own' Kb hJ p' kM gg;have zb:=Kb.size;exact g201 ih aj aI ⟨dW.1,by simpa using gg⟩ aj hJ p' kM (Kb.at oJ al) (Kb.at a1 al) aj aj aj aj aj aj aj aj aj aj
  .rintro wb bX w' ⟨acc,av,ac,ca,hF,hl⟩ h;simp only[aR,h]at hF;exact hF.symm
  .intro wb bX w1 w2 hZ hk;exact hZ.aA hk aj
  .rintro v xp ⟨rfl,gg,wb,dI,lT,Kb,p,hi,⟨acc,av,ac,ca,hF,hl⟩,jk⟩;have zb:=Kb.size;have Nr:=jk.size;replace kk:=kk.trans' jk af;replace a1:=jk.at a1 af;replace re:=re.fr jk af;replace oJ:=jk.at oJ af;replace hF:=(cW hi).symm.trans hF;refine⟨⟨oJ,a1⟩,?_⟩;unfold ptr at*;refine⟨_,λw' _=>Nc.p _ w',?_⟩;refine Xw.i _ (λw' _=>by simp[go_sem]<;>trivial) ?_;refine U1.store (aH rfl rfl) ac ak λEf uw=>?_;have Vx:=uw.size;replace kk:=kk.trans' uw.aA af;replace a1:=uw.aA.at a1 af;replace re:=re.fr uw.aA af;replace oJ:=uw.aA.at oJ af;replace p:=p.aA uw.aA af af af
   replace ca:=ca.fr uw.aA af;replace ac:=uw.at_;simp only[set_cons_zero,set_cons_succ]at ac;refine V1.load (aC rfl) (oJ) rfl ?_;exact hK m _ _ _ _ aj ⟨.ex 8 0 [] e .nil .nil acc [] .nil,_,_,_,rfl,p,⟨yF,_,_,_,_,_,_,_,rfl,⟨by omega,by simp⟩,ac,re.fit aj ak,rfl,.inl rfl,ca.rep.fit aj ak,.inl ⟨rfl,rfl⟩,.inl rfl⟩,rfl,kk,a1,hF,by omega⟩
  .intro c xp hF;exact hF.pre kk al
 simp only[hb]at hr;refine V1.load (aC rfl) (a1) rfl ?_;refine uv _ p λfT p12 dB=>?_;have qv:=dB.size;replace kk:=kk.trans' dB af;replace re:=re.fr dB af;subst hr;exact⟨re.fit aj ak,se,⟨_,by simp,p12⟩,kk⟩
end Go.Proofs.YtoddjlclpnoomaaGreatDoor

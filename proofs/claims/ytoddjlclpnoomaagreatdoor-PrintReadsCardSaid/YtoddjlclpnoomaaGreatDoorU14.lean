import Derived.Test.YtoddjlclpnoomaaGreatDoorU13
set_option linter.unusedVariables false
set_option linter.unusedSimpArgs false
set_option maxRecDepth 100000
open Go.Proofs.Tryz
open Go.Instr (loadAt storeAt fieldAt indexAt)
open List (mem_append mem_cons_of_mem toList_toArray set_cons_zero set_cons_succ)
open Go.Builtin (append_)
open Go.Value (cells)
open Bool (and_eq_true)
open Option (mem_toList mem_def)
namespace Go.Proofs.YtoddjlclpnoomaaGreatDoor
open Go.Sh
theorem g199{n:Nat}(ih:mM n):G0 (n+1) .dq 199 [] .P eh false:=by
 intro w x ts deep own r p dN hn hr aI;refine QC ?_;unfold IF;simp only[run]at hr;have lp:=p.lW;have lt:=p.kf;have lm:=p.pI;have kk:=aD.refl [x.p] w;refine lL (d31 p) ?_ (NP.no (e:=_));rintro _ w2 ⟨rfl,K2⟩;have vr:=K2.size;replace p:=p.aA K2 af af af;replace kk:=kk.trans' K2 af;refine V1.new (eW _) λb3 w3 N3=>?_;have FR:=N3.ge;have FU:=N3.lt;have FV:=N3.aA.size;have a3:=N3.at_;try simp only[cells,toList_toArray]at a3
 replace p:=p.new N3.aA;replace kk:=N3.kp kk;refine U1.tok (t:=hd ts) a3 rfl λw4 U4=>?_;have z4:=U4.size;replace p:=p.aA U4.aA af af af;replace kk:=kk.trans' U4.aA af;have a3:=U4.at_;refine V1.i ah ?_;refine V1.load (aC rfl) (a3) rfl ?_;refine V1.i ah ?_;refine V1.load (aC rfl) (a3) rfl ?_;refine V1.i ah ?_;refine V1.new (jJ _ _) λb5 w5 N5=>?_;have B6:=N5.ge;have Af:=N5.lt;have Ei:=N5.aA.size;have a5:=N5.at_;try simp only[cells,toList_toArray]at a5
 replace p:=p.new N5.aA;replace kk:=N5.kp kk;replace a3:=N5.a a3;refine J1.go ?_;refine V1.i ah ?_;refine V1.load (aC rfl) (a3) rfl ?_;refine V1.i ah ?_;refine If.b (λhb=>?_) (λhb=>?_)
 .have dZ:(hd ts).kind=1:=by simpa using hb
  rw[if_pos dZ]at hr;unfold ptr at*;refine Up.i (Nc.p _ _) ?_;refine V1.i ah ?_;refine U1.store (aO rfl rfl) a5 ak λw6 U6=>?_;have Cd:=U6.size;replace p:=p.aA U6.aA af af af;replace kk:=kk.trans' U6.aA af;replace a5:=U6.at_;simp only[set_cons_zero,set_cons_succ]at a5;refine dR (d107 p) ?_ (NP.no (e:=_));rintro _ w7 ⟨rfl,p,K7⟩;have kg:=K7.size;replace kk:=kk.trans' K7 af;replace a5:=K7.at a5 af;subst hr;exact⟨⟨b5,_,_,_,_,_,_,_,rfl,⟨by omega,by simp⟩,a5,rfl,rfl,.inl rfl,.inl rfl,.inl ⟨rfl,rfl⟩,.inl rfl⟩,rfl,⟨_,by simp,p⟩,kk⟩
 have dZ:¬(hd ts).kind=1:=by simpa using hb
 rw[if_neg dZ]at hr;refine V1.i ah ?_;refine If.b (λhb=>?_) (λhb=>?_)
 .have dZ:(hd ts).kind=2:=by simpa using hb
  rw[if_pos dZ]at hr;have K6:aD [] w5 w5.drew:=(aD.refl _ _).drew;generalize w5.drew=w6 at K6⊢;have lP:=K6.size;replace p:=p.aA K6 af af af;replace kk:=kk.trans' K6 af;replace a3:=K6.at a3 af;replace a5:=K6.at a5 af;refine⟨λw'=>At w' b3 [.int .i64 (hd ts).kind,str (hd ts).text,.int .i64 (hd ts).n,.int .i64 (hd ts).line],a3,?_⟩;refine Xw.i _ (λw' _=>by simp[go_sem]<;>trivial) ?_;refine Xw.i _ (λw' hw=>(aC rfl) _ _ _ (by rw[hw.cell];rfl)) ?_;refine⟨_,λw' _=>Nc.p _ w',?_⟩;refine Xw.i _ (λw' _=>by simp[go_sem]<;>trivial) ?_;refine U1.store (aO rfl rfl) a5 ak λw7 U7=>?_;have Kl:=U7.size;replace p:=p.aA U7.aA af af af
  replace kk:=kk.trans' U7.aA af;replace a3:=U7.aA.at a3 af;replace a5:=U7.at_;simp only[set_cons_zero,set_cons_succ]at a5;refine⟨a3,?_⟩;refine⟨_,λw' _=>Nc.p _ w',?_⟩;refine Xw.i _ (λw' _=>by simp[go_sem]<;>trivial) ?_;refine U1.store (aO rfl rfl) a5 ak λw8 U8=>?_;have wS:=U8.size;replace p:=p.aA U8.aA af af af;replace kk:=kk.trans' U8.aA af;replace a3:=U8.aA.at a3 af;replace a5:=U8.at_;simp only[set_cons_zero,set_cons_succ]at a5;refine⟨_,λw' _=>Nc.p _ w',?_⟩;refine Xw.i _ (λw' _=>by simp[go_sem]<;>trivial) ?_;refine U1.store (aO rfl rfl) a5 ak λw9 U9=>?_;have An:=U9.size
  replace p:=p.aA U9.aA af af af;replace kk:=kk.trans' U9.aA af;replace a3:=U9.aA.at a3 af;replace a5:=U9.at_;simp only[set_cons_zero,set_cons_succ]at a5;refine dR (d107 p) ?_ (NP.no (e:=_));rintro _ w7 ⟨rfl,p,K7⟩;have kg:=K7.size;replace kk:=kk.trans' K7 af;replace a5:=K7.at a5 af;subst hr;exact⟨⟨b5,_,_,_,_,_,_,_,rfl,⟨by omega,by simp⟩,a5,rfl,rfl,.inl rfl,.inl rfl,.inl ⟨rfl,rfl⟩,.inl rfl⟩,rfl,⟨_,by simp,p⟩,kk⟩
 have dZ:¬(hd ts).kind=2:=by simpa using hb
 rw[if_neg dZ]at hr;refine V1.i ah ?_;refine If.b (λhb=>?_) (λhb=>?_)
 .have dZ:(hd ts).kind=3:=by simpa using hb
  rw[if_pos dZ]at hr;unfold ptr at*;refine Up.i (Nc.p _ _) ?_;refine V1.i ah ?_;refine U1.store (aO rfl rfl) a5 ak λw6 U6=>?_;have Cd:=U6.size;replace p:=p.aA U6.aA af af af;replace kk:=kk.trans' U6.aA af;replace a5:=U6.at_;simp only[set_cons_zero,set_cons_succ]at a5;refine dR (d107 p) ?_ (NP.no (e:=_));rintro _ w7 ⟨rfl,p,K7⟩;have kg:=K7.size;replace kk:=kk.trans' K7 af;replace a5:=K7.at a5 af;subst hr;exact⟨⟨b5,_,_,_,_,_,_,_,rfl,⟨by omega,by simp⟩,a5,rfl,rfl,.inl rfl,.inl rfl,.inl ⟨rfl,rfl⟩,.inl rfl⟩,rfl,⟨_,by simp,p⟩,kk⟩
 have dZ:¬(hd ts).kind=3:=by simpa using hb
 rw[if_neg dZ]at hr;refine IL (ih.signed _ _ _ _ _ _ p dN aj hr aI) ?_ ?_
 .intro v w6 h;exact h.pre kk ak aj
 .intro c w6 h;exact h.pre kk ak
def Km(R:ER)(a0 a1:Va)(a4:Va)(w:Wd):Prop:=
 Up prog (Nc a1) w (λZC w=>
 V1 prog (fieldAt 47 ZC 6) w (λZD w=>
 V1 prog (loadAt 44 ZD) w (λZE w=>
 V1 prog (Instr.buildSlice 44 1 #[(0,a4)]) w (λZF w=>
 V1 prog (append_ #[44,44] 44 #[ZE,ZF]) w (λZG w=>
 Up prog (Nc a1) w (λZH w=>
 V1 prog (fieldAt 47 ZH 6) w (λa70 w=>
 U1 prog (storeAt 44 a70 ZG) w (λw=>
 ∃S1:WP,S1 w.drew/\
 Xs prog (λ_=>True) (Nc a1) λZJ=>Xw prog (λ_=>True) (fieldAt 47 ZJ 7) λR3=>Xw prog S1 (loadAt 44 R3) λa75=>Cf prog 108 #[a0,(.int .i64 0)] w.drew (λZK w=>
 S1 w/\V1 prog (Instr.buildSlice 44 1 #[(0,ZK)]) w (λZL w=>
 S1 w/\V1 prog (append_ #[44,44] 44 #[a75,ZL]) w (λZM w=>
 Xs prog (λ_=>True) (Nc a1) λa80=>Xw prog (λ_=>True) (fieldAt 47 a80 7) λR4=>U1 prog (storeAt 44 R4 ZM) w (λw=>
 R (.returned (.tuple #[])) w) (pn R)) (pn R)) (pn R)) (pn R)) (pn R)) (pn R)) (pn R)) (pn R)) (pn R)) (pn R)) (pn R)) (pn R)
def oY(kv av:Va):LV:=[.int .i64 12,.int .i64 0,.int .i64 0,str [],.pointer none,.pointer none,kv,av,.slice none 0 0,.slice none 0 0]
def Cj(x:eO)(bc:Nat)(wb:Wd)(deep:Int)(r:bL)(ks dV:Tr)(w:Wd):Prop:=
 ∃k a ts o kv av,r=.ok (.cons k (.cons a .nil)) ts o/\(∃o',PS w x ts deep o')/\aD [x.p,bc] wb w/\At w bc (oY kv av)/\Acc 41 wb.heap.size av.ownBlock.toList w kv (snoc ks k)/\Acc 41 wb.heap.size kv.ownBlock.toList w av (snoc dV a)
theorem R5{m n:Nat}(ih:mM m)(hn:n<=aX)(hm:m<=n){x:eO}{r:bL}{deep:Int}{bc:Nat}{wb w:Wd}{ts:LT}{own:Bool}{ks dV k:Tr}{kv av:Va}{ka:Option Addr}(aI:r≠.bH)(dN:0<=deep/\deep<=64)
  (lp:x.p<wb.heap.size) (p:PS w x ts deep own) (kM:aD [x.p,bc] wb w) (hc:bc<wb.heap.size) (h5:bc≠x.p) (h6:bc≠x.bt) (h7:bc≠x.bm) (h8:x.bt<wb.heap.size) (h9:x.bm<wb.heap.size)
  (ac:At w bc (oY kv av)) (ck:Acc 41 wb.heap.size av.ownBlock.toList w kv ks) (ca:Acc 41 wb.heap.size kv.ownBlock.toList w av dV) (lk:len ks<=n) (la:len dV<=n)
  (rk:aU (Fr wb.heap.size (kv.ownBlock.toList++av.ownBlock.toList)) w k (.P (.pointer ka))) (hr:(run m (.expr 0) deep ts).bind (λa bU _=>.ok (.cons k (.cons a .nil)) bU false)=r):
  Km (aZ (λ_ w2=>Cj x bc wb deep r ks dV w2) (Er [x.p,bc] x wb r)) (ptr x.p) (ptr bc) (.pointer ka) w:=by
 unfold Km;have z0:=kM.size;unfold oY at ac;rw[show ptr bc=.pointer (some ⟨bc,0,none⟩)from rfl];refine Up.i (Nc.p _ _) ?_;refine V1.i ah ?_;refine V1.load (aC rfl) (ac) rfl ?_;have tR:∀g,kv.ownBlock=some g->wb.heap.size<=g/\g<w.heap.size:=λg hg=>ck.lt hg;have wW:∀g,av.ownBlock=some g->wb.heap.size<=g/\g<w.heap.size:=λg hg=>ca.lt hg;refine V1.aG ah λb2 w2 N2=>?_;have BZ:=N2.ge;have B1:=N2.lt;have Ac:=N2.aA.size;have a2:=N2.at_;try simp only[cells,toList_toArray]at a2
 replace kM:=N2.kp kM;replace p:=p.new N2.aA;replace ac:=N2.a ac;replace ck:=ck.f0 N2.aA;replace ca:=ca.f0 N2.aA;replace rk:=rk.f0 N2.aA;obtain⟨y9,w3,fR,uL,K3,hg⟩:=qA (n:=n) ck a2 rfl rk aj (by simpa only[aX]using hn) (by intro i hi;simp at hi;have:=wW i hi;omega) aj;refine V1.i fR ?_;have hM:∀i∈kv.ownBlock.toList,wb.heap.size<=i/\i<w.heap.size:=by
  intro i hi;simp at hi;exact tR i hi
 replace p:=p.aA K3 (λh=>by have:=hM _ h;omega) (λh=>by have:=hM _ h;omega) (λh=>by have:=hM _ h;omega);replace kM:=kM.trans' K3 (λi hi h=>by have:=hM i hi;omega);replace ac:=K3.at ac (λh=>by have:=hM _ h;omega);have z3:=K3.size;replace ca:=((ca.fit (Y:=kv.ownBlock.toList++y9.ownBlock.toList) (by
  intro i hi;simp only[mem_append,mem_toList,mem_def]at hi⊢;rcases hi with h|h
  .exact .inr (.inl h)
  .rcases hg i h with h|h
   .exact .inr (.inl h)
   .exact .inr (.inr h))).fr K3 (λi hi=>.inr (.inl (by simp only[mem_append];exact .inl hi)))).fit (Y:=y9.ownBlock.toList) (λi hi=>.inr (.inl (by simp only[mem_append];exact .inr hi)))
 refine Up.i (Nc.p _ _) ?_;refine V1.i ah ?_;refine U1.store (aO rfl uL.sc) ac ak λw4 U4=>?_;have Ot:=U4.size;replace kM:=kM.trans' U4.aA af;replace p:=p.aA U4.aA af af af;replace ac:=U4.at_;simp only[set_cons_zero,set_cons_succ]at ac;replace uL:=uL.fr U4.aA al;replace ca:=ca.fr U4.aA al;have tR:∀g,y9.ownBlock=some g->wb.heap.size<=g/\g<w4.heap.size:=λg hg=>uL.lt hg;have wW:∀g,av.ownBlock=some g->wb.heap.size<=g/\g<w4.heap.size:=λg hg=>ca.lt hg;have q1:=p.kf;have K5:aD [] w4 w4.drew:=(aD.refl _ _).drew;generalize w4.drew=w5 at K5⊢;have vu:=K5.size;replace kM:=kM.trans' K5 af
 replace p:=p.aA K5 af af af;replace ac:=K5.at ac af;replace uL:=uL.fr K5 af;replace ca:=ca.fr K5 af;refine⟨λw'=>At w' bc (oY y9 av),ac,?_⟩;refine⟨_,λw' _=>Nc.p _ w',?_⟩;refine Xw.i _ (λw' _=>by simp[go_sem]<;>trivial) ?_;refine Xw.i _ (λw' hw=>(aC rfl) _ _ _ (by rw[hw.cell];rfl)) ?_;refine gi (ih.expr 0 _ _ _ _ _ _ p dN aj rfl (aL hr aI)) ?_ ?_;rotate_left
 .intro c w6 h;exact h.up hr kM ak
 intro v w6 h;obtain⟨t,bX,o,eI,r1,S1,⟨o',-,p⟩,K6⟩:=h.out;simp only[eI,bL.bind]at hr;have lP:=K6.size;replace kM:=kM.trans' K6 af;replace ac:=K6.at ac af;replace uL:=uL.fr K6 af;replace ca:=ca.fr K6 af;refine⟨ac,?_⟩;obtain⟨br,rfl,-,-⟩:=r1.kind S1;have r2:aU (Fr wb.heap.size (av.ownBlock.toList++y9.ownBlock.toList)) w6 t (.P (ptr br)):=aU.imp (λq hq _=>⟨by have:=hq.1;omega,by
  simp only[mem_append,mem_toList,mem_def];intro hm;rcases hm with hm|hm
  .have:=wW q hm;have:=hq.1;omega
  .have:=tR q hm;have:=hq.1;omega⟩) _ _ r1
 refine V1.aG ah λb7 w7 N7=>?_;have R6:=N7.ge;have R7:=N7.lt;have R8:=N7.aA.size;have a7:=N7.at_;try simp only[cells,toList_toArray]at a7
 replace kM:=N7.kp kM;replace p:=p.new N7.aA;replace ac:=N7.a ac;replace uL:=uL.fr N7.aA ak;replace ca:=ca.f0 N7.aA;replace r2:=r2.f0 N7.aA;refine⟨ac,?_⟩;obtain⟨FW,w8,fR,fW,K8,hg⟩:=qA (n:=n) ca a7 rfl r2 aj (by simpa only[aX]using hn) (by intro i hi;simp at hi;have:=tR i hi;omega) aj;refine V1.i fR ?_;have hM:∀i∈av.ownBlock.toList,wb.heap.size<=i/\i<w4.heap.size:=by
  intro i hi;simp at hi;exact wW i hi
 replace p:=p.aA K8 (λh=>by have:=hM _ h;omega) (λh=>by have:=hM _ h;omega) (λh=>by have:=hM _ h;omega);replace kM:=kM.trans' K8 (λi hi h=>by have:=hM i hi;omega);replace ac:=K8.at ac (λh=>by have:=hM _ h;omega);have z8:=K8.size;replace uL:=((uL.fit (Y:=av.ownBlock.toList++FW.ownBlock.toList) (by
  intro i hi;simp only[mem_append,mem_toList,mem_def]at hi⊢;rcases hi with h|h
  .exact .inr (.inl h)
  .rcases hg i h with h|h
   .exact .inr (.inl h)
   .exact .inr (.inr h))).fr K8 (λi hi=>.inr (.inl (by simp only[mem_append];exact .inl hi)))).fit (Y:=FW.ownBlock.toList) (λi hi=>.inr (.inl (by simp only[mem_append];exact .inr hi)))
 refine⟨_,λw' _=>Nc.p _ w',?_⟩;refine Xw.i _ (λw' _=>by simp[go_sem]<;>trivial) ?_;refine U1.store (aO rfl fW.sc) ac ak λw9 U9=>?_;have An:=U9.size;replace kM:=kM.trans' U9.aA af;replace p:=p.aA U9.aA af af af;replace ac:=U9.at_;simp only[set_cons_zero,set_cons_succ]at ac;subst hr;exact⟨k,t,bX,_,y9,FW,rfl,⟨_,p⟩,kM,ac,uL.fr U9.aA al,fW.fr U9.aA al⟩
theorem Sa{w:Wd}{c d:Bool}{v:Va}(h:c=true->v=.bool d):(Pk (.bool c) v (.bool false)).run prog w=.ok (.bool (c&&d)) w:=by
 cases c with
 |false=>simp[go_sem]
 |true=>rw[h rfl];simp[go_sem]
theorem cW.two{w:Wd}{b o:Nat}{ts:LT}(h:cW w b o ts)(hl:1<ts.length):w.cell? ⟨b,o+4,none⟩=some (.int .i64 (hd (bF ts)).kind)/\w.cell? ⟨b,o+5,none⟩=some (str (hd (bF ts)).text):=by
 match ts,hl with
 |t::u::us,_=>exact⟨h.2.1.1,h.2.1.2.1⟩
theorem Ck{w:Wd}{b o n c:Nat}(h:1<n):(indexAt 73 (.slice (some ⟨b,o,none⟩) n c) (.int .i64 1)).run prog w=.ok (.pointer (some ⟨b,o+4,none⟩)) w:=by
 have:(1:Int)<n:=by omega
 simp[go_sem,this,h,Addr.add]
theorem g240{m n:Nat}(ih:mM m)(hn:n<=aX)(hm:m<=n){x:eO}{r:bL}{deep:Int}{bc:Nat}{wb w:Wd}{ts:LT}{own:Bool}{ks dV:Tr}{kv av:Va}(aI:r≠.bH)(dN:0<=deep/\deep<=64)
  (lp:x.p<wb.heap.size) (p:PS w x ts deep own) (kM:aD [x.p,bc] wb w) (hc:bc<wb.heap.size) (h5:bc≠x.p) (h6:bc≠x.bt) (h7:bc≠x.bm) (h8:x.bt<wb.heap.size) (h9:x.bm<wb.heap.size)
  (ac:At w bc (oY kv av)) (ck:Acc 41 wb.heap.size av.ownBlock.toList w kv ks) (ca:Acc 41 wb.heap.size kv.ownBlock.toList w av dV) (lk:len ks<=n) (la:len dV<=n) (hr:run (m+1) .item deep ts=r):
  Calls prog 240 #[ptr x.p,ptr bc] w (aZ (λ_ w2=>Cj x bc wb deep r ks dV w2) (Er [x.p,bc] x wb r)):=by
 refine QK ?_;unfold IP;simp only[run]at hr;have z0:=kM.size;refine J1.cut (λv w'=>∃ka k bX uK,v=.pointer ka/\PS w' x bX deep uK/\aD [x.p,bc] wb w'/\At w' bc (oY kv av)/\Acc 41 wb.heap.size av.ownBlock.toList w' kv ks/\Acc 41 wb.heap.size kv.ownBlock.toList w' av dV/\
  aU (Fr wb.heap.size (kv.ownBlock.toList++av.ownBlock.toList)) w' k (.P (.pointer ka))/\(run m (.expr 0) deep bX).bind (λa bU _=>.ok (.cons k (.cons a .nil)) bU false)=r) ?_ ?_
 rotate_left
 .rintro _ w' ⟨ka,k,bX,uK,rfl,p,kM,ac,ck,ca,rk,hr⟩;exact R5 ih hn hm aI dN lp p kM hc h5 h6 h7 h8 h9 ac ck ca lk la rk hr
 have tR:∀g,kv.ownBlock=some g->wb.heap.size<=g/\g<w.heap.size:=λg hg=>ck.lt hg;have wW:∀g,av.ownBlock=some g->wb.heap.size<=g/\g<w.heap.size:=λg hg=>ca.lt hg;refine lL (d31 p) ?_ (NP.no (e:=_));rintro _ w2 ⟨rfl,K2⟩;have vr:=K2.size;replace kM:=kM.trans' K2 af;replace p:=p.aA K2 af af af;replace ac:=K2.at ac af;replace ck:=ck.fr K2 af;replace ca:=ca.fr K2 af;refine V1.new (eW _) λb3 w3 N3=>?_;have FR:=N3.ge;have FU:=N3.lt;have FV:=N3.aA.size;have a3:=N3.at_;try simp only[cells,toList_toArray]at a3
 replace kM:=N3.kp kM;replace p:=p.new N3.aA;replace ac:=N3.a ac;replace ck:=ck.nw N3;replace ca:=ca.nw N3;refine U1.tok (t:=hd ts) a3 rfl λw4 U4=>?_;have z4:=U4.size;replace kM:=kM.trans' U4.aA af;replace p:=p.aA U4.aA af af af;replace ac:=U4.aA.at ac af;replace ck:=ck.fr U4.aA af;replace ca:=ca.fr U4.aA af;have a3:=U4.at_;replace ck:=ck.fit (Y:=av.ownBlock.toList) (λi hi=>.inr (.inl (mem_cons_of_mem _ hi)));replace ca:=ca.fit (Y:=kv.ownBlock.toList) (λi hi=>.inr (.inl (mem_cons_of_mem _ hi)));refine V1.i ah ?_
 refine V1.load (aC rfl) (a3) rfl ?_;refine V1.i ah ?_;obtain⟨o,c,h1,h2,h3⟩:=p.ex;refine J1.cut (λv w'=>w4=w'/\(((hd ts).kind==1)=true->v=.bool (decide (1<ts.length)))) (Gd.b (λhc=>?_) (λhc=>?_)) ?_
 .unfold ptr at*;refine Up.i (Nc.p _ _) ?_;refine V1.i ah ?_;refine V1.load (aC rfl) (h1) rfl ?_;refine V1.i ah ?_;refine V1.i ah ?_;exact⟨rfl,λ_=>by simp;omega⟩
 .exact⟨rfl,λh=>by rw[hc]at h;cases h⟩
 rintro v _ ⟨rfl,hv⟩;refine V1.i (Sa hv) ?_;refine J1.cut (λv w'=>w4=w'/\(((hd ts).kind==1&&decide (1<ts.length))=true->v=.bool ((hd (bF ts)).kind==4))) (Gd.b (λhc=>?_) (λhc=>?_)) ?_
 .have lM:1<ts.length:=by simp at hc;exact hc.2
  unfold ptr at*;refine Up.i (Nc.p _ _) ?_;refine V1.i ah ?_;refine V1.load (aC rfl) (h1) rfl ?_;refine V1.i (Ck lM) ?_;refine V1.i ah ?_;refine V1.i (Di _ _ _ (h3.two lM).1) ?_;refine V1.i ah ?_;exact⟨rfl,λ_=>rfl⟩
 .exact⟨rfl,λh=>by rw[hc]at h;cases h⟩
 rintro v _ ⟨rfl,hv⟩;refine V1.i (Sa hv) ?_;refine J1.cut (λv w'=>w4=w'/\(((hd ts).kind==1&&decide (1<ts.length)&&(hd (bF ts)).kind==4)=true->v=.bool ((hd (bF ts)).text==[61]))) (Gd.b (λhc=>?_) (λhc=>?_)) ?_
 .have lM:1<ts.length:=by simp at hc;exact hc.1.2
  unfold ptr at*;refine Up.i (Nc.p _ _) ?_;refine V1.i ah ?_;refine V1.load (aC rfl) (h1) rfl ?_;refine V1.i (Ck lM) ?_;refine V1.i ah ?_;refine V1.i (GC _ _ _ (h3.two lM).2) ?_;refine V1.i ah ?_;exact⟨rfl,λ_=>rfl⟩
 .exact⟨rfl,λh=>by rw[hc]at h;cases h⟩
 rintro v _ ⟨rfl,hv⟩;refine V1.i (Sa hv) ?_;refine If.b (λhb=>?_) (λhb=>?_)
 .have wX:(hd ts).kind=1/\1<ts.length/\bB [61] (bF ts)=true:=by
   simp only[and_eq_true,beq_iff_eq,decide_eq_true_eq]at hb;refine⟨hb.1.1.1,hb.1.1.2,?_⟩;simp[bB,fI,hb.1.2,hb.2]
  rw[if_pos wX]at hr;refine dR (d107 p) ?_ (NP.no (e:=_));rintro _ w5 ⟨rfl,p,K5⟩;have vu:=K5.size;replace kM:=kM.trans' K5 af;replace ac:=K5.at ac af;replace a3:=K5.at a3 af;replace ck:=ck.fr K5 af;replace ca:=ca.fr K5 af;refine dR (d107 p) ?_ (NP.no (e:=_));rintro _ w6 ⟨rfl,p,K6⟩;have lP:=K6.size;replace kM:=kM.trans' K6 af;replace ac:=K6.at ac af;replace a3:=K6.at a3 af;replace ck:=ck.fr K6 af;replace ca:=ca.fr K6 af;refine V1.i ah ?_;refine V1.load (aC rfl) (a3) rfl ?_;refine V1.i ah ?_;refine V1.load (aC rfl) (a3) rfl ?_;refine V1.i ah ?_
  refine V1.new (jJ _ _) λb7 w7 N7=>?_;have R6:=N7.ge;have R7:=N7.lt;have R8:=N7.aA.size;have a7:=N7.at_;try simp only[cells,toList_toArray]at a7
  replace kM:=N7.kp kM;replace ac:=N7.a ac;replace ck:=ck.nw N7;replace ca:=ca.nw N7;replace p:=p.new N7.aA;refine⟨_,lf 5 0 (hd ts).text,_,_,rfl,p,kM,ac,ck.fit (λi hi=>.inr (.inl (mem_cons_of_mem _ hi))),ca.fit (λi hi=>.inr (.inl (mem_cons_of_mem _ hi))),⟨b7,_,_,_,_,_,_,_,rfl,⟨by omega,?_⟩,a7,rfl,rfl,.inl rfl,.inl rfl,.inl ⟨rfl,rfl⟩,.inl rfl⟩,hr⟩;simp only[mem_append,mem_toList,mem_def];rintro(h|h)
  .have:=tR _ h;omega
  .have:=wW _ h;omega
 have wX:¬((hd ts).kind=1/\1<ts.length/\bB [61] (bF ts)=true):=by
  rintro⟨h1,h2,h3⟩;simp only[bB,fI,and_eq_true,beq_iff_eq]at h3;simp[h1,h2,h3.1]at hb
  simp[hb]at h3
 rw[if_neg wX]at hr;refine V1.aG ah λb5 w5 N5=>?_;have B6:=N5.ge;have Af:=N5.lt;have Ei:=N5.aA.size;have a5:=N5.at_;try simp only[cells,toList_toArray]at a5
 replace kM:=N5.kp kM;replace ac:=N5.a ac;replace ck:=ck.nw N5;replace ca:=ca.nw N5;replace p:=p.new N5.aA;refine fw (gy p a5) ?_ (NP.no (e:=_));rintro _ w6 ⟨rfl,K6⟩;have lP:=K6.size;replace kM:=kM.trans' K6 af;replace ac:=K6.at ac af;replace ck:=ck.fr K6 af;replace ca:=ca.fr K6 af;replace p:=p.aA K6 af af af;replace a5:=K6.at a5 af;replace ck:=ck.fit (Y:=av.ownBlock.toList) (λi hi=>.inr (.inl (mem_cons_of_mem _ hi)));replace ca:=ca.fit (Y:=kv.ownBlock.toList) (λi hi=>.inr (.inl (mem_cons_of_mem _ hi)));refine If.b (λhb=>?_) (λhb=>?_)
 .rw[if_pos hb]at hr;have q1:=p.kf;refine BK (ih.bracket _ _ _ _ _ _ .nil none w6.heap.size p dN aj rfl (aL hr aI) rfl aj aj) ?_ ?_;rotate_left
  .intro c w7 h;exact h.up hr kM ak
  intro v w7 h;obtain⟨t,bX,o,eI,r1,S1,⟨o',-,p⟩,K7⟩:=h.out;rw[eI,aJ]at hr;have kg:=K7.size;replace kM:=kM.trans' K7 af;replace ac:=K7.at ac af;replace ck:=ck.fr K7 af;replace ca:=ca.fr K7 af
  cases t with
  |ex ek en etx el er eks ea epr eb=>
   dsimp only at hr;obtain⟨be,line,lv,rv,kv1,av1,pv,bv,rfl,Sb,ae,rl,rr,_⟩:=r1;obtain⟨br,rfl,-,-⟩:=rr.kind S1;unfold ptr at*;refine Up.i (Nc.p _ _) ?_;refine V1.i ah ?_;refine V1.load (aC rfl) (ae) rfl ?_;refine fQ (d106 [61] p) ?_ ?_;rotate_left
   .intro c w8 hF;exact(Er.all hF hr).pre kM ak
   rintro _ w8 ⟨hi,rfl,p,K8⟩;have wR:=K8.size;replace kM:=kM.trans' K8 af;replace ac:=K8.at ac af;replace ck:=ck.fr K8 af;replace ca:=ca.fr K8 af;replace rr:=rr.fr K8 af;rw[cR hi]at hr;refine⟨_,er,_,_,rfl,p,kM,ac,ck,ca,rr.fit aj ?_,hr⟩;simp only[mem_append,mem_toList,mem_def];rintro i (h|h)
   .have:=tR _ h;omega
   .have:=wW _ h;omega
  |st=>exact absurd S1 (by simp[idx])
  |nil=>exact absurd S1 (by simp[idx])
  |hole=>exact absurd S1 (by simp[idx])
  |cons=>exact absurd S1 (by simp[idx])
 .rw[if_neg (by simp[hb])]at hr;exact⟨none,.nil,_,_,rfl,p,kM,ac,ck,ca,rfl,hr⟩
def JI(x:eO)(r:bL)(deep:Int)(n bc:Nat)(F:Tr->LT->Bool->bL)(wb:Wd)(m:Nat)(ts:LT)(w:Wd):Prop:=
 ∃ks dV kv av,At w bc (oY kv av)/\Acc 41 wb.heap.size av.ownBlock.toList w kv ks/\Acc 41 wb.heap.size kv.ownBlock.toList w av dV/\(run m (.items ks dV) (deep+1) ts).bind F=r/\len ks+m<=n/\len dV+m<=n
def ZI(x:eO)(r:bL)(bc:Nat)(F:Tr->LT->Bool->bL)(wb:Wd)(ts:LT)(w:Wd):Prop:=
 ∃ks dV kv av,At w bc (oY kv av)/\Acc 41 wb.heap.size av.ownBlock.toList w kv ks/\Acc 41 wb.heap.size kv.ownBlock.toList w av dV/\F (.cons ks (.cons dV .nil)) ts false=r/\x.p<wb.heap.size
theorem ZI.aA{x:eO}{r:bL}{bc:Nat}{F:Tr->LT->Bool->bL}{wb w w':Wd}{ts:LT}(h:ZI x r bc F wb ts w)(hk:aD [x.p] w w')(h5:bc≠x.p):ZI x r bc F wb ts w':=by
 obtain⟨ks,dV,kv,av,h1,h2,FM,h3,h4⟩:=h;exact⟨ks,dV,kv,av,hk.at h1 al,h2.fr hk al,FM.fr hk al,h3,h4⟩
theorem g239{n:Nat}(ih:∀m,m<=n->mM m)(hn:n<=aX){x:eO}{r:bL}{deep:Int}{bc ba bp:Nat}{F:Tr->LT->Bool->bL}{wb w:Wd}{m:Nat}{ts:LT}{own:Bool}(aI:r≠.bH)(hF:∀ts o,F .nil ts o=.bH)(hd:0<=deep/\deep+1<=64)
  (lp:x.p<wb.heap.size) (hJ:JI x r deep n bc F wb m ts w) (p:PS w x ts (deep+1) own) (kM:aD [x.p,bc] wb w) (aa:At wb ba [ptr bc]) (ap:At wb bp [ptr x.p]) (hc:bc<wb.heap.size) (h1:ba≠x.p) (h2:ba≠bc) (h3:bp≠x.p) (h4:bp≠bc) (h5:bc≠x.p) (h6:bc≠x.bt) (h7:bc≠x.bm) (h8:x.bt<wb.heap.size) (h9:x.bm<wb.heap.size):
  Calls prog 239 #[ptr bp,ptr ba] w (aZ (λ_ w2=>∃dA kK,PS w2 x dA (deep+1) kK/\aD [x.p,bc] wb w2/\∀w3,aD [x.p] w2 w3->(bB [44] dA=true->∃m',m'<m/\JI x r deep n bc F wb m' (bF dA) w3)/\(bB [44] dA=false->ZI x r bc F wb dA w3)) (λc w2=>Er [x.p,bc] x wb r c w2)):=by
 obtain⟨ks,dV,kv,av,ac,ck,ca,hr,hm,zW⟩:=hJ
 cases m with
 |zero=>exact absurd hr.symm aI
 |succ m=>
 cases m with
 |zero=>exact absurd hr.symm aI
 |succ m=>
 rw[run]at hr;have lk:=ck.uG;have lg:=ca.uG;refine QJ ?_;unfold IM;have la:=aa.lt;have WS:=ap.lt;replace aa:=kM.at aa al;replace ap:=kM.at ap al;refine V1.load (aC rfl) (ap) rfl ?_;refine V1.load (aC rfl) (aa) rfl ?_;have Kn:run (m+1) .item (deep+1) ts≠.bH:=by
  intro h;rw[h]at hr;exact aI hr.symm
 refine IQ (g240 (ih m aj) hn aj Kn aj lp p kM hc h5 h6 h7 h8 h9 ac ck ca aj aj rfl) ?_ ?_
 .rintro v w2 ⟨k,a,bX,o,y9,FW,eI,⟨o',p⟩,kM,ac,ck,ca⟩;rw[eI,aJ]at hr;dsimp only at hr;refine⟨bX,_,p,kM,λw3 K3=>?_⟩;have sB:=K3.size;replace ac:=K3.at ac af;replace ck:=ck.fr K3 af;replace ca:=ca.fr K3 af;refine⟨λh=>⟨m+1,by omega,_,_,_,_,ac,ck,ca,?_,by rw[eJ _ _ lk];omega,by rw[eJ _ _ lg];omega⟩,λh=>⟨_,_,_,_,ac,ck,ca,?_,lp⟩⟩
  .rw[h]at hr;exact hr
  .rw[h]at hr;exact hr
 .intro c w2 h
  cases h1:run (m+1) .item (deep+1) ts with
  |fail code=>
   rw[h1]at hr h;subst hr;exact h
  |ok _ _ _=>rw[h1]at h;exact h.elim
  |bH=>exact absurd h1 Kn
def wY(line:Int)(pv:Va):LV:=[.int .i64 9,.int .i64 line,.int .i64 0,str [],.pointer none,.pointer none,.slice none 0 0,.slice none 0 0,pv,.slice none 0 0]
def JP(x:eO)(r:bL)(deep:Int)(n bc:Nat)(line:Int)(F:Tr->LT->Bool->bL)(wb:Wd)(m:Nat)(ts:LT)(w:Wd):Prop:=
 ∃ss pv,At w bc (wY line pv)/\fi wb.heap.size w pv ss/\(run m (.params ss) (deep+1) ts).bind F=r/\ss.length+m<=n
def ZP(x:eO)(r:bL)(bc:Nat)(line:Int)(F:Tr->LT->Bool->bL)(wb:Wd)(ts:LT)(w:Wd):Prop:=
 ∃ss pv,At w bc (wY line pv)/\fi wb.heap.size w pv ss/\F (.ex 0 0 [] .nil .nil .nil .nil ss .nil) ts false=r/\x.p<wb.heap.size
theorem ZP.aA{x:eO}{r:bL}{bc:Nat}{line:Int}{F:Tr->LT->Bool->bL}{wb w w':Wd}{ts:LT}(h:ZP x r bc line F wb ts w)(hk:aD [x.p] w w')(h5:bc≠x.p):ZP x r bc line F wb ts w':=by
 obtain⟨ss,pv,h1,h2,h3,h4⟩:=h;exact⟨ss,pv,hk.at h1 al,h2.fr hk al,h3,h4⟩
theorem g161{n:Nat}(hn:n<=aX){x:eO}{r:bL}{deep:Int}{bc ba bp:Nat}{line:Int}{F:Tr->LT->Bool->bL}{wb w:Wd}{m:Nat}{ts:LT}{own:Bool}(aI:r≠.bH)
  (lp:x.p<wb.heap.size) (hJ:JP x r deep n bc line F wb m ts w) (p:PS w x ts (deep+1) own) (kM:aD [x.p,bc] wb w) (aa:At wb ba [ptr bc]) (ap:At wb bp [ptr x.p]) (hc:bc<wb.heap.size) (h1:ba≠x.p) (h2:ba≠bc) (h3:bp≠x.p) (h4:bp≠bc) (h5:bc≠x.p) (h6:bc≠x.bt) (h7:bc≠x.bm) (h8:x.bt<wb.heap.size) (h9:x.bm<wb.heap.size):
  Calls prog 161 #[ptr ba,ptr bp] w (aZ (λ_ w2=>∃dA kK,PS w2 x dA (deep+1) kK/\aD [x.p,bc] wb w2/\∀w3,aD [x.p] w2 w3->(bB [44] dA=true->∃m',m'<m/\JP x r deep n bc line F wb m' (bF dA) w3)/\(bB [44] dA=false->ZP x r bc line F wb dA w3)) (λc w2=>Er [x.p,bc] x wb r c w2)):=by
 obtain⟨ss,pv,ac,ca,hr,hm⟩:=hJ
 cases m with
 |zero=>exact absurd hr.symm aI
 |succ m=>
 rw[run]at hr;refine Qz ?_;unfold IB;have z0:=kM.size;have la:=aa.lt;have WS:=ap.lt;replace aa:=kM.at aa al;replace ap:=kM.at ap al;unfold wY at ac;have K1:aD [] w w.drew:=(aD.refl _ _).drew;generalize w.drew=w1 at K1⊢;have WT:=K1.size;replace kM:=kM.trans' K1 af;replace aa:=K1.at aa af;replace ap:=K1.at ap af;replace ac:=K1.at ac af;replace p:=p.aA K1 af af af;replace ca:=ca.fr K1 af;refine⟨λw'=>At w' ba [ptr bc]/\At w' bp [ptr x.p]/\At w' bc (wY line pv),⟨aa,ap,ac⟩,?_⟩;refine Xw.i _ (λw' hw=>(aC rfl) _ _ _ (by rw[hw.1.cell];rfl)) ?_;refine Xw.i _ (λw' hw=>(aC rfl) _ _ _ (by rw[hw.1.cell];rfl)) ?_
 refine⟨_,λw' _=>Nc.p _ w',?_⟩;refine Xw.i _ (λw' _=>by simp[go_sem]<;>trivial) ?_;refine Xw.i _ (λw' hw=>(aC rfl) _ _ _ (by rw[hw.2.2.cell];rfl)) ?_;refine Xw.i _ (λw' hw=>(aC rfl) _ _ _ (by rw[hw.2.1.cell];rfl)) ?_;have bO:∀g,pv.ownBlock=some g->wb.heap.size<=g/\g<w1.heap.size:=λg hg=>ca.lt hg;refine mE (d104 p) ?_ ?_;rotate_left
 .intro c w2 hF;have hF:=hF λ_ _=>.bH
  cases h:((hd ts).kind==1)with
  |true=>
   rw[fc h]at hF;exact hF.elim
  |false=>
   simp only[cP,h]at hF hr;subst hr;exact hF.pre kM ak
 rintro _ w2 ⟨hi,rfl,p,K2⟩;have vr:=K2.size;replace kM:=kM.trans' K2 af;replace aa:=K2.at aa af;replace ap:=K2.at ap af;replace ac:=K2.at ac af;replace ca:=ca.fr K2 af;rw[fc hi]at hr;refine⟨⟨aa,ap,ac⟩,?_⟩;rw[dm];refine Xw.i _ (λw' _=>by simp[go_sem]<;>trivial) ?_;refine V1.aG ah λb3 w3 N3=>?_;have FR:=N3.ge;have FU:=N3.lt;have FV:=N3.aA.size;have a3:=N3.at_;try simp only[cells,toList_toArray]at a3
 replace kM:=N3.kp kM;replace aa:=N3.a aa;replace ap:=N3.a ap;replace ac:=N3.a ac;replace p:=p.new N3.aA;replace ca:=ca.f0 N3.aA;refine⟨⟨aa,ap,ac⟩,?_⟩;obtain⟨v',w4,fR,fW,K4⟩:=BO (n:=n) ca a3 aj (by simpa only[aX]using hn) aj;refine V1.i fR ?_;have hM:∀i∈pv.ownBlock.toList,wb.heap.size<=i/\i<w1.heap.size:=by
  intro i hi;simp at hi;exact bO i hi
 replace p:=p.aA K4 (λh=>by have:=hM _ h;omega) (λh=>by have:=hM _ h;omega) (λh=>by have:=hM _ h;omega);replace kM:=kM.trans' K4 (λi hi h=>by have:=hM i hi;omega);replace aa:=K4.at aa (λh=>by have:=hM _ h;omega);replace ap:=K4.at ap (λh=>by have:=hM _ h;omega);replace ac:=K4.at ac (λh=>by have:=hM _ h;omega);have z4:=K4.size;refine⟨⟨aa,ap,ac⟩,?_⟩;refine⟨_,λw' _=>Nc.p _ w',?_⟩;refine Xw.i _ (λw' _=>by simp[go_sem]<;>trivial) ?_;refine U1.store (aO rfl fW.sc) ac ak λw5 U5=>?_;have Zw:=U5.size;replace kM:=kM.trans' U5.aA af;replace p:=p.aA U5.aA af af af;replace ac:=U5.at_;simp only[set_cons_zero,set_cons_succ]at ac;replace fW:=fW.fr U5.aA al
 refine⟨_,_,p,kM,λw6 K6=>?_⟩;have lP:=K6.size;replace ac:=K6.at ac af;replace fW:=fW.fr K6 af;refine⟨λh=>⟨m,by omega,_,_,ac,fW,?_,by simp;omega⟩,λh=>⟨_,_,ac,fW,?_⟩⟩
 .rw[h]at hr;exact hr
 .rw[h]at hr;exact⟨hr,lp⟩
def FT(n:Nat)(d:Int)(H:LB->Tr->Tr)(ts:LT):bL:=match bB [40] ts with
 |false=>.fail 4
 |true=>bY d λd2=>match bB [41] (bF ts)with
  |true=>(run n .block d (bF (bF ts))).bind λb ts _=>aP cO ts λts=>.ok (H [] b) ts false
  |false=>(run n (.params []) d2 (bF ts)).bind λps ts _=>match ps with
   |.ex _ _ _ _ _ _ _ pl _=>aP [41] ts λts=>(run n .block d ts).bind λb ts _=>aP cO ts λts=>.ok (H pl b) ts false
   |_=>.bH
def FF(n:Nat)(d:Int)(H:LB->Tr->Tr):Tr->LT->Bool->bL:=λps ts _=>match ps with
 |.ex _ _ _ _ _ _ _ pl _=>aP [41] ts λts=>(run n .block d ts).bind λb ts _=>aP cO ts λts=>.ok (H pl b) ts false
 |_=>.bH
theorem Cm{n:Nat}{d:Int}{H:LB->Tr->Tr}{pl:LB}{ts:LT}{o:Bool}:FF n d H (.ex 0 0 [] .nil .nil .nil .nil pl .nil) ts o=
 aP [41] ts λts=>(run n .block d ts).bind λb ts _=>aP cO ts λts=>.ok (H pl b) ts false:=rfl
def FQ(M:List Nat)(lo:Nat)(x:eO)(w:Wd)(deep:Int)(Y:(LB->Tr->Tr)->WP)(r:bL)(v:Va)(w':Wd):Prop:=
 ∃H pl b bX,r=.ok (H pl b) bX false/\aU (Fr lo []) w' (.ex 9 0 [] .nil .nil .nil .nil pl b) (.P v)/\(∃o',PS w' x bX deep o')/\aD M w w'/\Y H w'
theorem g102{n:Nat}(ih:mM n)(hn:n<=aX){w:Wd}{x:eO}{ts:LT}{deep:Int}{own:Bool}{r:bL}{cv:Va}{kc:FuncId}{cap:AV}{M:List Nat}{Y:Nat->(LB->Tr->Tr)->WP}
  (p:PS w x ts deep own) (dN:0<=deep/\deep<=64) (aI:r≠.bH) (RR:∀w',(Cv cv #[]).run prog w'=.ok (.enter kc cap) w') (jz:x.p∈M) (wT:∀i∈M,i<w.heap.size) (Zt:x.bt∉M) (Zu:x.bm∉M)
  (G:Int->LT->bL) (hr:(bY deep λd=>aP bP ts (G d))=r)
  (jq:∀be w' bU eD,w.heap.size<=be->be<w'.heap.size->aD [x.p] w w'->PS w' x bU (deep+1) eD->G (deep+1) bU=r->
   Calls prog kc cap w' (aZ (λ_ w2=>∃dA kK H,FT n (deep+1) H dA=r/\PS w2 x dA (deep+1) kK/\aD M w' w2/\Y be H w2) (λc w2=>Er M x w' r c w2)))
  (hY:∀be H w1 w2,w.heap.size<=be->Y be H w1->aD [x.p,be] w1 w2->Y be H w2):
  Calls prog 102 #[ptr x.p,cv] w (aZ (λv w'=>∃be,FQ M w.heap.size x w deep (Y be) r v w') (Er M x w r)):=by
 refine Ql ?_;unfold Ik;have lp:=p.lW;have lt:=p.kf;have lm:=p.pI;have kk:=aD.refl [x.p] w;refine V1.new (uy _ _) λb1 w1 N1=>?_;have oR:=N1.ge;have pJ:=N1.lt;have pK:=N1.aA.size;have a1:=N1.at_;try simp only[cells,toList_toArray]at a1
 replace kk:=N1.kp kk;replace p:=p.new N1.aA;refine V1.load (aC rfl) (a1) rfl ?_;refine kY (d159 p dN) ?_ ?_;rotate_left
 .intro c w3 hF;exact((Er.all hF hr).pre (kk.mono (by simp[jz])) (by simp[jz]))
 rintro _ w3 ⟨fA,b3,rfl,Eh,a3,p,K3⟩;have sA:deep+1<=64:=by simpa using fA
 have l3:=a3.lt;have sB:=K3.size;replace kk:=kk.trans' K3 af;replace a1:=K3.at a1 af;rw[fe fA]at hr;refine D1.i (by simp[go_sem,Ah,Deferred.ofValue];exact⟨rfl,rfl⟩) ?_;refine V1.load (aC rfl) (a1) rfl ?_;refine fQ (d106 bP p) ?_ ?_;rotate_left
 .intro c w4 hF;exact dD ((Er.all hF hr)) lp jz a3 al (kk.mono (by simp[jz])) (by simp[jz])
 rintro _ w4 ⟨hi,rfl,p,K4⟩;have B9:=K4.size;replace kk:=kk.trans' K4 af;replace a1:=K4.at a1 af;replace a3:=K4.at a3 af;rw[cR hi]at hr;refine V1.i ah ?_;refine V1.new (jJ _ _) λb5 w5 N5=>?_;have B6:=N5.ge;have Af:=N5.lt;have Ei:=N5.aA.size;have a5:=N5.at_;try simp only[cells,toList_toArray]at a5
 replace kk:=N5.kp kk;replace a1:=N5.a a1;replace a3:=N5.a a3;replace p:=p.new N5.aA;refine V1.new (DH _) λb6 w6 N6=>?_;have Ca:=N6.ge;have Cb:=N6.lt;have Cc:=N6.aA.size;have a6:=N6.at_;try simp only[cells,toList_toArray]at a6
 replace kk:=N6.kp kk;replace a1:=N6.a a1;replace a3:=N6.a a3;replace p:=p.new N6.aA;replace a5:=N6.a a5;refine U1.store (aO rfl rfl) a6 ak λw7 U7=>?_;have Kl:=U7.size;replace kk:=kk.trans' U7.aA af;replace a1:=U7.aA.at a1 af;replace a3:=U7.aA.at a3 af;replace p:=p.aA U7.aA af af af;replace a5:=U7.aA.at a5 af;replace a6:=U7.at_;simp only[set_cons_zero,set_cons_succ]at a6;have z7:=kk.size;have q1:=p.tp;have q2:=p.mp;refine Up.c (RR _) (aZ.imp (jq b5 w7 _ _ aj aj kk p hr) ?_ ?_);rotate_left
 .intro c w8 hF;exact dD hF lp jz a3 (λh=>by have:=wT _ h;omega) (kk.mono (by simp[jz])) (λi hi _=>hi)
 rintro _ w8 ⟨dA,kK,H,hr,p,K8,hy⟩;have wR:=K8.size;have hM:∀i,w.heap.size<=i->i∉M:=λi hi h=>by have:=wT i h;omega
 replace a1:=K8.at a1 (hM _ aj);replace a3:=K8.at a3 (hM _ aj);replace a5:=K8.at a5 (hM _ aj);replace a6:=K8.at a6 (hM _ aj);have kM:=(kk.mono (N:=M) (by simp[jz])).trans' K8 (λi hi _=>hi);refine yV.go ?_;refine V1.load (aC rfl) (a1) rfl ?_;refine V1.aG ah λb9 w9 N9=>?_;have RJ:=N9.ge;have RM:=N9.lt;have RO:=N9.aA.size;have a9:=N9.at_;try simp only[cells,toList_toArray]at a9
 replace a1:=N9.a a1;replace a3:=N9.a a3;replace a5:=N9.a a5;replace a6:=N9.a a6;replace p:=p.new N9.aA;refine fw (gy p a9) ?_ (NP.no (e:=_));rintro _ eo ⟨rfl,dE⟩;have qH:=dE.size;replace a1:=dE.at a1 af;replace a3:=dE.at a3 af;replace a5:=dE.at a5 af;replace a6:=dE.at a6 af;replace p:=p.aA dE af af af;replace a9:=dE.at a9 af;have kM:=(kM.trans' N9.aA ak).trans' dE ak;have hy:=hY b5 H _ _ aj (hY b5 H _ _ aj hy (N9.aA.mono ak)) (dE.mono ak)
 repeat(first|refine Up.i (Nc.p _ _) ?_|refine V1.load (aC rfl) au rfl ?_|refine V1.i ah ?_)
 refine If.b (λhb=>?_) (λhb=>?_)
 .have dZ:bB [40] dA=false:=by simpa using hb
  simp only[FT,dZ]at hr;subst hr;refine V1.load (aC rfl) (a1) rfl ?_;refine kH (d32 4 p) ?_ ?_
  .rintro _ _ h;exact h.elim
  .intro c fB hF;exact dD hF lp jz a3 al kM (by simp[jz])
 have dZ:bB [40] dA=true:=by simpa using hb
 simp only[FT,dZ]at hr;refine V1.load (aC rfl) (a1) rfl ?_;refine V1.i ah ?_;have q3:=p.kf;refine wt (g160 (M:=[x.p,b5]) (N:=n) (r:=r) (kc:=161) (cap:=#[ptr b6,ptr b1]) (J:=JP x r (deep+1) n b5 (hd ts).line (FF n (deep+1) H)) (Z:=ZP x r b5 (hd ts).line (FF n (deep+1) H)) p aj (aH func161 (c:=bC f161) ai ai _) ak al al al dZ ?_ ?_ ?_ ?_ ?_) ?_ ?_
 .intro h;simp only[bY,h]at hr;exact hr.symm
 .intro wb Kb pb fA;rw[fe fA]at hr;have zb:=Kb.size;have WV:=Kb.size;replace a5:=Kb.at a5 af;constructor
  .intro h;simp only[h]at hr;exact⟨[],_,a5,fi.nil _ _,by rw[Cm,cR h];exact hr,by omega⟩
  .intro h;simp only[h]at hr;exact⟨[],_,a5,fi.nil _ _,hr,by simp⟩
 .intro wb m' bU w' eD Kb hJ p' kM fA;have zb:=Kb.size;exact g161 hn aI aj hJ p' kM (Kb.at a6 al) (Kb.at a1 al) aj aj aj aj aj aj aj aj aj aj
 .rintro wb bU w' ⟨ss,pv,ac,ca,hF,hl⟩ h;simp only[FF,aP,h]at hF;exact hF.symm
 .intro wb bU w1 w2 hZ hk;exact hZ.aA hk aj
 rotate_left
 .intro c fB hF;exact dD hF lp jz a3 al kM (by simp[jz];omega)
 rintro v fB ⟨rfl,fA,wb,vw,own3,Kb,p,hi,⟨ss,pv,a5,ca,hF,hl⟩,dz⟩;have zb:=Kb.size;have lQ:=dz.size;have kM:=kM.trans' dz (by simp[jz];omega);have hy:=hY b5 H _ _ aj hy dz;have lQ:=dz.size;replace a1:=dz.at a1 af;replace a3:=dz.at a3 af;replace a6:=dz.at a6 af;rw[Cm,cR hi]at hF;unfold wY at a5;have dw:aD [] fB fB.drew:=(aD.refl _ _).drew;generalize fB.drew=gz at dw⊢;have oX:=dw.size;replace a1:=dw.at a1 af;replace a3:=dw.at a3 af;replace a6:=dw.at a6 af;replace a5:=dw.at a5 af;replace ca:=ca.fr dw af;replace p:=p.aA dw af af af;have kM:=kM.trans' dw ak
 have hy:=hY b5 H _ _ aj hy (dw.mono ak);refine⟨λw'=>At w' b6 [ptr b5]/\At w' b1 [ptr x.p],⟨a6,a1⟩,?_⟩;refine Xw.i _ (λw' hw=>(aC rfl) _ _ _ (by rw[hw.1.cell];rfl)) ?_;refine Xw.i _ (λw' hw=>(aC rfl) _ _ _ (by rw[hw.2.cell];rfl)) ?_;refine zU (ih.block _ _ _ _ _ _ p aj aj rfl (aL hF aI)) ?_ ?_;rotate_left
 .intro c lZ h;exact dD (h.next hF) lp jz a3 al kM (by simp[jz])
 intro v lZ h;obtain⟨t,mN,o,eI,r1,S1,⟨o',-,p⟩,iA⟩:=h.out;rw[eI,aJ]at hF;have Eo:=iA.size;replace a1:=iA.at a1 af;replace a3:=iA.at a3 af;replace a6:=iA.at a6 af;replace a5:=iA.at a5 af;replace ca:=ca.fr iA af;have kM:=kM.trans' iA (by simp[jz]);have hy:=hY b5 H _ _ aj hy (iA.mono ak);refine⟨⟨a6,a1⟩,?_⟩;refine⟨_,λw' _=>Nc.p _ w',?_⟩;refine Xw.i _ (λw' _=>by simp[go_sem]<;>trivial) ?_;have tN:=r1.y7 S1;refine U1.store (aO rfl tN) a5 ak λlu jB=>?_;have Ki:=jB.size;replace a1:=jB.aA.at a1 af;replace a3:=jB.aA.at a3 af;replace a6:=jB.aA.at a6 af;replace ca:=ca.fr jB.aA af
 replace r1:=r1.fr jB.aA af;replace p:=p.aA jB.aA af af af;replace a5:=jB.at_;simp only[set_cons_zero,set_cons_succ]at a5;have kM:=kM.trans' jB.aA al;have hy:=hY b5 H _ _ aj hy (jB.aA.mono ak);refine V1.load (aC rfl) (a1) rfl ?_;refine fQ (d106 cO p) ?_ ?_;rotate_left
 .intro c sE h;exact dD (Er.all h hF) lp jz a3 al kM (by simp[jz])
 rintro _ sE ⟨hi,rfl,p,iU⟩;have Kj:=iU.size;replace a1:=iU.at a1 af;replace a3:=iU.at a3 af;replace a6:=iU.at a6 af;replace ca:=ca.fr iU af;replace r1:=r1.fr iU af;replace a5:=iU.at a5 af;have kM:=kM.trans' iU (by simp[jz]);have hy:=hY b5 H _ _ aj hy (iU.mono ak);rw[cR hi]at hF;refine V1.load (aC rfl) (a6) rfl ?_;refine ll p dN a3 λwV p jC=>?_;have Kk:=jC.size;replace a1:=jC.at a1 af;replace a3:=jC.at a3 af;replace a6:=jC.at a6 af;replace ca:=ca.fr jC af;replace r1:=r1.fr jC af;replace a5:=jC.at a5 af;have kM:=kM.trans' jC (by simp[jz])
 have hy:=hY b5 H _ _ aj hy (jC.mono ak);exact⟨b5,H,ss,t,_,hF.symm,⟨b5,_,_,_,_,_,_,_,rfl,⟨by omega,by simp⟩,a5,rfl,rfl,.inl rfl,.inl rfl,ca.strs.fit aj ak,r1.fit aj ak⟩,⟨_,p⟩,kM,hy⟩
end Go.Proofs.YtoddjlclpnoomaaGreatDoor

import Derived.Test.YtoddjlclpnoomaaGreatDoorU17
set_option linter.unusedVariables false
set_option linter.unusedSimpArgs false
set_option maxRecDepth 100000
open Go.Proofs.Tryz
open Go.Instr (loadAt typeAssert)
open List (toList_toArray set_cons_zero set_cons_succ)
open Nat (le_refl)
open Go.Value (cells)
namespace Go.Proofs.YtoddjlclpnoomaaGreatDoor
open Go.Sh
theorem nX(a b:Va)(w:Wd):(invoke (.fn (.func 28) #[a,b]) #[]).run prog w=.ok (.enter 28 #[a,b]) w:=aH func28 (c:=bC f28) ai ai _ _
theorem xt{res:Wd->(Va->Prop)->Prop}{R:ER}{a b:Va}{w:Wd}(h:Lv prog res R [] .returning w):
  Lv prog res R [⟨.fn (.func 28) #[a,b],#[]⟩] .returning w:=by
 refine⟨by simp,.func 28,#[a,b],28,#[a,b],rfl,nX a b w,?_⟩;refine xp (R:=λe w'=>e=.returned (.tuple #[])/\w'=w) ?_ ?_ ?_
 .unfold Kz;refine V1.bf am ?_;exact If.f ⟨rfl,rfl⟩
 .rintro w' ⟨_,rfl⟩;exact h
 .rintro ch w' ⟨e,_⟩
  cases e
theorem SD(v:Va)(w:Wd):(typeAssert (.iface 78 v) 20 78 false).run prog w=.ok v w:=ai
theorem xu{res:Wd->(Va->Prop)->Prop}{R:ER}{bo be b:Nat}{x y:Va}{w:Wd}(ao:At w bo [x])(ae:At w be [y])(aI:bo≠be)
  (h:∀w',At w' bo [.slice none 0 0]->At w' be [.iface 76 (ptr b)]->aD [bo,be] w w'->Lv prog res R [] .returning w'):
  Lv prog res R [⟨.fn (.func 28) #[ptr bo,ptr be],#[]⟩] (.panicking [{v:=.iface 78 (.agg #[ptr b]),recovered:=false}]) w:=by
 refine⟨by simp,.func 28,#[ptr bo,ptr be],28,#[ptr bo,ptr be],rfl,nX _ _ w,?_⟩;refine xr (R:=λe w'=>e=.returned (.tuple #[])/\At w' bo [.slice none 0 0]/\At w' be [.iface 76 (ptr b)]/\aD [bo,be] w w') ?_ ?_ ?_
 .unfold Kz;refine V1.bt am ?_;refine If.t ?_;have kk:aD [bo,be] w w.drew:=(aD.refl _ _).drew;have SE:At w.drew bo [x]:=ao;have SF:At w.drew be [y]:=ae;refine⟨λ_=>True,trivial,?_⟩;generalize w.drew=w1 at*;refine Xw.i (.agg #[ptr b]) (λw' _=>SD _ w') ?_;refine Xw.i (ptr b) (λw' _=>by simp[go_sem]) ?_;refine Xw.i (.iface 76 (ptr b)) (λw' _=>by simp[go_sem]) ?_;unfold ptr;refine U1.store (aO rfl rfl) SE ak λw2 U2=>?_;refine⟨trivial,?_⟩;refine U1.store (aO rfl rfl) (U2.aA.at SF al) ak λw3 U3=>?_;exact⟨rfl,U3.aA.at U2.at_ al,U3.at_,(kk.trans' U2.aA ak).trans' U3.aA ak⟩
 .rintro w' ⟨_,h1,h2,h3⟩;exact h w' h1 h2 h3
 .rintro ch w' ⟨e,_⟩
  cases e
def dC(n:Nat)(s:By):bL:=match jL s with
 |.fail c=>.fail c
 |.ok ts=>kG n ts
def PQ(w:Wd)(r:bL)(v:Va)(w':Wd):Prop:=match r with
 |.ok t _ _=>∃lv,v=.tuple #[lv,.nilIface]/\aU (Fr w.heap.size []) w' t (.L lv)/\dG t=true
 |.fail c=>∃b line,v=.tuple #[.slice none 0 0,.iface 76 (ptr b)]/\At w' b [.int .i64 c,.int .i64 line]/\w.heap.size<=b
 |.bH=>False
theorem KA(w:Wd)(s:By)(g:GL w)(n:Nat)(hn:n<=aX)(r:bL)(hr:dC n s=r)(aI:r≠.bH):Calls prog 13 #[str s] w (aZ (λv w'=>PQ w r v w'/\aD [] w w') NP):=by
 refine Qg ?_;unfold Wi;have kk:=aD.refl [] w;refine V1.new (O7 _) λbo w1 N1=>?_;have oR:=N1.ge;have pJ:=N1.lt;have pK:=N1.aA.size;have ao:=N1.at_;try simp only[cells,toList_toArray]at ao
 replace kk:=N1.kp kk;refine V1.new (O8 _) λbe w2 N2=>?_;have BZ:=N2.ge;have B1:=N2.lt;have Ac:=N2.aA.size;have ae:=N2.at_;try simp only[cells,toList_toArray]at ae
 replace kk:=N2.kp kk;replace ao:=N2.a ao;have g2:=g.new kk;refine PO (Z3 w2 s g2) ?_ (NP.no (e:=_));rintro _ w3 ⟨hT,K3⟩;have sB:=K3.size;replace kk:=kk.trans' K3 af;replace ao:=K3.at ao af;replace ae:=K3.at ae af;unfold dC at hr;have z2:=kk.size;generalize jL s=lx at*
 cases lx with
 |fail c=>
  obtain⟨b,line,rfl,ab,gb⟩:=hT;subst hr;refine V1.i ah ?_;refine V1.i ah ?_;refine U1.store (aO rfl rfl) ae ak λw4 U4=>?_;have Ot:=U4.size;replace kk:=kk.trans' U4.aA af;replace ao:=U4.aA.at ao af;replace ab:=U4.aA.at ab af;replace ae:=U4.at_;simp only[set_cons_zero,set_cons_succ]at ae;refine V1.load (aC rfl) (ae) rfl ?_;refine V1.i (wF _ _ _ _) ?_;refine If.t ?_;have K5:aD [] w4 w4.drew:=(aD.refl _ _).drew;generalize w4.drew=w5 at K5⊢;have vu:=K5.size;replace kk:=kk.trans' K5 af;replace ao:=K5.at ao af;replace ab:=K5.at ab af;replace ae:=K5.at ae af;refine⟨λw'=>At w' be [.iface 76 (ptr b)],ae,?_⟩
  refine Xw.i _ (λw' hw=>(aC rfl) _ _ _ (by rw[hw.cell];rfl)) ?_;refine U1.store (aO rfl rfl) ao ak λw6 U6=>?_;have Cd:=U6.size;replace kk:=kk.trans' U6.aA af;replace ab:=U6.aA.at ab af;replace ae:=U6.aA.at ae af;replace ao:=U6.at_;simp only[set_cons_zero,set_cons_succ]at ao;refine⟨ae,?_⟩;refine U1.store (aO rfl rfl) ae ak λw7 U7=>?_;have Kl:=U7.size;replace kk:=kk.trans' U7.aA af;replace ab:=U7.aA.at ab af;replace ao:=U7.aA.at ao af;replace ae:=U7.at_;simp only[set_cons_zero,set_cons_succ]at ae;refine⟨_,(aC rfl) _ _ _ (by rw[ao.cell];rfl),_,(aC rfl) _ _ _ (by rw[ae.cell];rfl),?_⟩;exact⟨⟨b,line,rfl,ab,by omega⟩,kk⟩
 |ok ts=>
  obtain⟨bt,ct,rfl,ht,KB,gbt,lbt,htn⟩:=hT;refine V1.i ah ?_;refine V1.i ah ?_;refine U1.store (aO rfl rfl) ae ak λw4 U4=>?_;have Ot:=U4.size;replace kk:=kk.trans' U4.aA af;replace ao:=U4.aA.at ao af;replace ae:=U4.at_;simp only[set_cons_zero,set_cons_succ]at ae;replace ht:=cW.aA U4.aA al _ _ ht;refine V1.load (aC rfl) (ae) rfl ?_;refine V1.i (Aa _ _) ?_;refine If.f ?_;refine V1.i ah ?_;refine D1.i (v:=⟨.fn (.func 28) #[ptr bo,ptr be],#[]⟩) (w':=w4) (by simp[go_sem,Deferred.ofValue];exact⟨rfl,rfl⟩) ?_;refine Qh (Z6 w4 (g.new kk)) ?_ (NP.no (e:=_));rintro _ w5 ⟨bm,rfl,sm,WJ,WK,K5⟩;have vu:=K5.size;replace kk:=kk.trans' K5 af
  replace ao:=K5.at ao af;replace ae:=K5.at ae af;replace ht:=cW.aA K5 ak _ _ ht;refine V1.i ah ?_;refine V1.new (Pf _ _) λbp w6 N6=>?_;have Ca:=N6.ge;have Cb:=N6.lt;have Cc:=N6.aA.size;have ap:=N6.at_;try simp only[cells,toList_toArray]at ap
  replace kk:=N6.kp kk;replace ao:=N6.a ao;replace ae:=N6.a ae;replace ht:=cW.aA N6.aA ak _ _ ht;replace sm:=sm.aA N6.aA ak;have p:PS w6 ⟨bp,bt,bm⟩ ts 0 false:=⟨⟨0,ct,ap,KB,ht⟩,sm,by show bt≠bp;omega,by show bm≠bp;omega,by show bt<_;omega,htn⟩;dsimp only at hr;unfold kG at hr;have Av:∀(w':Wd) (x y:Va),At w' bo [x]->At w' be [y]->PQ w r (.tuple #[x,y]) w'->aD [] w w'->Lv prog (λw k=>∃v0,(loadAt 26 (.pointer (some ⟨bo,0,none⟩))).run prog w=.ok v0 w/\∃v1,(loadAt 31 (.pointer (some ⟨be,0,none⟩))).run prog w=.ok v1 w/\k (.tuple #[v0,v1])) (aZ (λv w'=>PQ w r v w'/\aD [] w w') NP) [] .returning w':=by
   intro w' x y h1 h2 h3 h4;exact⟨_,(aC rfl) _ _ _ (by rw[h1.cell];rfl),_,(aC rfl) _ _ _ (by rw[h2.cell];rfl),h3,h4⟩
  have qM:∀(c:List PanicEntry) (wa wb:Wd),Er [bp] ⟨bp,bt,bm⟩ wa r c wb->aD [] w wa->At wb bo [.slice none 0 0]\/(∃x,At wb bo [x])->(∃y,At wb be [y])->w6.heap.size<=wa.heap.size->Lv prog (λw k=>∃v0,(loadAt 26 (.pointer (some ⟨bo,0,none⟩))).run prog w=.ok v0 w/\∃v1,(loadAt 31 (.pointer (some ⟨be,0,none⟩))).run prog w=.ok v1 w/\k (.tuple #[v0,v1])) (aZ (λv w'=>PQ w r v w'/\aD [] w w') NP) [⟨.fn (.func 28) #[ptr bo,ptr be],#[]⟩] (.panicking c) wb:=by
   intro c wa wb he hk ho hy hz
   cases r with
   |ok=>exact he.elim
   |bH=>exact he.elim
   |fail code=>
    obtain⟨⟨b,line,rfl,ab,gb⟩,-,kb⟩:=he;obtain⟨x,ho⟩:∃x,At wb bo [x]:=by rcases ho with h|h;exact⟨_,h⟩;exact h
    obtain⟨y,hy⟩:=hy;have zz:=hk.size;have zb:=kb.size;refine xu ho hy aj λw' h1 h2 h3=>?_;refine Av w' _ _ h1 h2 ⟨b,line,rfl,h3.at ab al,by omega⟩ ?_;exact(hk.trans' kb al).trans' h3 al
  have z6:=kk.size;have hb:Calls prog 30 #[ptr bp] w6 (aZ (Ok [bp] w6.heap.size ⟨bp,bt,bm⟩ w6 0 .L dG false (run n .block 0 ts)) (Er [bp] ⟨bp,bt,bm⟩ w6 (run n .block 0 ts))):=(all n).block w6 ⟨bp,bt,bm⟩ ts 0 false _ p aj aj rfl (aL hr aI);generalize fR:run n .block 0 ts=rb at hb hr;refine zU (args:=#[.pointer (some ⟨bp,0,none⟩)]) hb ?_ ?_;rotate_left
  .intro c w7 h;have h':Er [bp] ⟨bp,bt,bm⟩ w6 r c w7:=h.next hr;have hk7:aD [bp] w6 w7\/True:=.inr trivial
   cases r with
   |ok=>exact h'.elim
   |bH=>exact h'.elim
   |fail code=>exact qM c w6 w7 h' kk (.inr ⟨_,h'.2.2.at ao al⟩) ⟨_,h'.2.2.at ae al⟩ (le_refl _)
  intro lv w7 h;obtain⟨t,bX,o,eI,r1,S1,⟨o',-,p⟩,K7⟩:=h.out;rw[eI,aJ]at hr;have kg:=K7.size;have kg:=K7.size;replace ao:=K7.at ao af;replace ae:=K7.at ae af;replace kk:aD [] w w7:=kk.trans' K7 al;have tN:=r1.y7 S1;refine U1.store (aO rfl tN) ao ak λw8 U8=>?_;have wS:=U8.size;replace ae:=U8.aA.at ae af;replace p:=p.aA U8.aA af af af;replace r1:=r1.fr U8.aA af;replace ao:=U8.at_;simp only[set_cons_zero,set_cons_succ]at ao;replace kk:aD [] w w8:=kk.trans' U8.aA al;refine yV.go ?_;have SG:=d31 p;unfold ptr at SG;dsimp only at SG;trace_state
  refine lL SG ?_ (NP.no (e:=_));rintro _ w9 ⟨rfl,K9⟩;have Ce:=K9.size;have Ce:=K9.size;replace ae:=K9.at ae af;replace p:=p.aA K9 af af af;replace r1:=r1.fr K9 af;replace ao:=K9.at ao af;replace kk:=kk.trans' K9 af;rw[dm];refine V1.i ah ?_;refine V1.i (v:=.bool (!((hd bX).kind==5))) (w':=w9) (by simp[go_sem];rfl) ?_
  cases h5:((hd bX).kind==5)with
  |false=>
   rw[h5]at hr;refine If.t ?_;have KC:=d32 4 p;unfold ptr at KC;dsimp only at KC;refine kH KC ?_ ?_
   .rintro _ _ h;exact h.elim
   .intro c eo h;rw[←hr]at qM⊢;exact qM c w9 eo h kk (.inr ⟨_,h.2.2.at ao al⟩) ⟨_,h.2.2.at ae al⟩ aj
  |true=>
   rw[h5]at hr;refine If.f ?_;subst hr;refine V1.load (aC rfl) (ao) rfl ?_;refine U1.store (aO rfl tN) ao ak λeo ic=>?_;have Ar:=ic.size;replace ae:=ic.aA.at ae af;replace r1:=r1.fr ic.aA af;replace ao:=ic.at_;simp only[set_cons_zero,set_cons_succ]at ao;replace kk:aD [] w eo:=kk.trans' ic.aA al;refine U1.store (aO rfl rfl) ae ak λfB uN=>?_;have Ss:=uN.size;replace ao:=uN.aA.at ao af;replace r1:=r1.fr uN.aA af;replace ae:=uN.at_;simp only[set_cons_zero,set_cons_succ]at ae;replace kk:aD [] w fB:=kk.trans' uN.aA al;exact xt (Av fB _ _ ao ae ⟨lv,rfl,r1.fit aj ak,S1⟩ kk)
end Go.Proofs.YtoddjlclpnoomaaGreatDoor

import Derived.MapKept
import Derived.Maps.RangeRun
import Derived.Test.YtoddjlclpnoomaaGreatDoorU5
import Derived.Test.YtoddjlclpnoomaaGreatDoorU7
import Derived.Test.YtoddjlclpnoomaaGreatDoorU8
set_option linter.unusedVariables false
set_option linter.unusedSimpArgs false
set_option maxRecDepth 100000
open Go.Proofs.Tryz
open Go.Instr (loadAt storeAt mapUpdate)
open List (mem_append mem_cons map_cons mem_filter contains_cons drop_eq_getElem_cons mem_map getElem_mem length_cons take_succ_eq_append_getElem mem_singleton takeWhile_cons toList_toArray)
open Nat (lt_or_ge le_refl lt_of_lt_of_le)
open Go.Value (cells)
open Bool (false_eq_true)
open Go.World (setCell)
namespace Go.Sh
variable {P:Program}
theorem least{p:Nat->Prop}:∀n,p n->∃m,p m/\∀k,p k->m<=k:=by
 intro n;induction n using Nat.strongRecOn with
 |_ n ih=>
  intro h;by_cases hx:∃k,k<n/\p k
  .obtain⟨k,hk,hp⟩:=hx;exact ih k hk hp
  .exact⟨n,h,λk hk=>by
    rcases lt_or_ge k n with h1|h1
    .exact absurd ⟨k,h1,hk⟩ hx
    .exact h1⟩
open Classical in
noncomputable def low(p:Nat->Prop):Nat:=if h:∃m,p m/\∀k,p k->m<=k then h.choose else 0
theorem jM{p:Nat->Prop}{n:Nat}(h:p n):p (low p)/\∀k,p k->low p<=k:=by
 have h':=least n h;unfold low;rw[dif_pos h'];exact h'.choose_spec
theorem Lp.g{D:Type}{l:LV}{d:D}{w:Wd}{f:(LV->D->WP)->LV->D->WP}(J:Nat->LV->D->WP)(n:Nat)(h0:J n l d w)
  (h:∀n l d w K,J n l d w->(∀m l' d' w',m<n->J m l' d' w'->K l' d' w')->f K l d w):Lp l d w f:=by
 refine⟨λl d w=>∃n,J n l d w,λl d w=>low λn=>J n l d w,⟨n,h0⟩,?_⟩;rintro l d w ⟨n,hn⟩;refine h _ l d w _ (jM (p:=λn=>J n l d w) hn).1 ?_;intro m l' d' w' hm hj;exact⟨⟨m,hj⟩,Nat.lt_of_le_of_lt ((jM (p:=λn=>J n l' d' w') hj).2 m hj) hm⟩
theorem Sp.g{D:Type}{f:(LV->D->WP)->Prop}{g:(LV->D->WP)->LV->D->WP}(J:Nat->LV->D->WP)
  (h0:∀K,(∀m l' d' w',J m l' d' w'->K l' d' w')->f K)
  (h:∀n l d w K,J n l d w->(∀m l' d' w',m<n->J m l' d' w'->K l' d' w')->g K l d w):Sp f g:=by
 refine⟨λl d w=>∃n,J n l d w,λl d w=>low λn=>J n l d w,h0 _ λm l' d' w' hj=>⟨m,hj⟩,?_⟩;rintro l d w ⟨n,hn⟩;refine h _ l d w _ (jM (p:=λn=>J n l d w) hn).1 ?_;intro m l' d' w' hm hj;exact⟨⟨m,hj⟩,Nat.lt_of_le_of_lt ((jM (p:=λn=>J n l' d' w') hj).2 m hj) hm⟩
theorem L0.g{w:Wd}{f:(WP)->WP}(J:Nat->WP)(n:Nat)(h0:J n w)
  (h:∀n  w K,J n w->(∀m w',m<n->J m w'->K w')->f K w):L0  w f:=
 Lp.g (D:=Unit) (λn l _ w=>J n w) n h0 λn l d w K hj hk=>h n w _ hj λm w' hm ng=>hk m [] () w' hm ng
theorem L1.g{x0:Va}{w:Wd}{f:(VK)->VK}(J:Nat->VK)(n:Nat)(h0:J n x0 w)
  (h:∀n x0 w K,J n x0 w->(∀m y0 w',m<n->J m y0 w'->K y0 w')->f K x0 w):L1 x0 w f:=
 Lp.g (D:=Unit) (λn l _ w=>J n (l.headD undef) w) n h0 λn l d w K hj hk=>h n _ w _ hj λm y0 w' hm ng=>hk m [y0] () w' hm ng
theorem FI.g{x0:Va}{d:LD}{w:Wd}{f:(Va->LD->WP)->Va->LD->WP}(J:Nat->Va->LD->WP)(n:Nat)(h0:J n x0 d w)
  (h:∀n x0 d w K,J n x0 d w->(∀m y0 d' w',m<n->J m y0 d' w'->K y0 d' w')->f K x0 d w):FI x0 d w f:=
 Lp.g (D:=LD) (λn l d w=>J n (l.headD undef) d w) n h0 λn l d w K hj hk=>h n _ d w _ hj λm y0 d' w' hm ng=>hk m [y0] d' w' hm ng
theorem L2.g{x0 x1:Va}{w:Wd}{f:(Va->VK)->Va->VK}(J:Nat->Va->VK)(n:Nat)(h0:J n x0 x1 w)
  (h:∀n x0 x1 w K,J n x0 x1 w->(∀m y0 y1 w',m<n->J m y0 y1 w'->K y0 y1 w')->f K x0 x1 w):L2 x0 x1 w f:=
 Lp.g (D:=Unit) (λn l _ w=>J n (l.headD undef) (l.tail.headD undef) w) n h0 λn l d w K hj hk=>h n _ _ w _ hj λm y0 y1 w' hm ng=>hk m [y0,y1] () w' hm ng
theorem P2.g{f:(Va->VK)->Prop}{g:(Va->VK)->Va->VK}(J:Nat->Va->VK)(h0:∀K:Va->VK,(∀m y0 y1 w',J m y0 y1 w'->K y0 y1 w')->f K)
  (h:∀n x0 x1 w K,J n x0 x1 w->(∀m y0 y1 w',m<n->J m y0 y1 w'->K y0 y1 w')->g K x0 x1 w):P2 f g:=
 Sp.g (D:=Unit) (λn l _ w=>J n (l.headD undef) (l.tail.headD undef) w) (λK hk=>h0 _ λm y0 y1 w' hj=>hk m [y0,y1] () w' hj) λn l d w K hj hk=>h n _ _ w _ hj λm y0 y1 w' hm ng=>hk m [y0,y1] () w' hm ng
theorem L3.g{x0 x1 x2:Va}{w:Wd}{f:(Va->Va->VK)->Va->Va->VK}(J:Nat->Va->Va->VK)(n:Nat)(h0:J n x0 x1 x2 w)
  (h:∀n x0 x1 x2 w K,J n x0 x1 x2 w->(∀m y0 y1 y2 w',m<n->J m y0 y1 y2 w'->K y0 y1 y2 w')->f K x0 x1 x2 w):L3 x0 x1 x2 w f:=
 Lp.g (D:=Unit) (λn l _ w=>J n (l.headD undef) (l.tail.headD undef) (l.tail.tail.headD undef) w) n h0 λn l d w K hj hk=>h n _ _ _ w _ hj λm y0 y1 y2 w' hm ng=>hk m [y0,y1,y2] () w' hm ng
theorem L4.g{x0 x1 x2 x3:Va}{w:Wd}{f:(Va->Va->Va->VK)->Va->Va->Va->VK}(J:Nat->Va->Va->Va->VK)(n:Nat)(h0:J n x0 x1 x2 x3 w)
  (h:∀n x0 x1 x2 x3 w K,J n x0 x1 x2 x3 w->(∀m y0 y1 y2 y3 w',m<n->J m y0 y1 y2 y3 w'->K y0 y1 y2 y3 w')->f K x0 x1 x2 x3 w):L4 x0 x1 x2 x3 w f:=
 Lp.g (D:=Unit) (λn l _ w=>J n (l.headD undef) (l.tail.headD undef) (l.tail.tail.headD undef) (l.tail.tail.tail.headD undef) w) n h0 λn l d w K hj hk=>h n _ _ _ _ w _ hj λm y0 y1 y2 y3 w' hm ng=>hk m [y0,y1,y2,y3] () w' hm ng
theorem L5.g{x0 x1 x2 x3 x4:Va}{w:Wd}{f:(Va->Va->Va->Va->VK)->Va->Va->Va->Va->VK}(J:Nat->Va->Va->Va->Va->VK)(n:Nat)(h0:J n x0 x1 x2 x3 x4 w)
  (h:∀n x0 x1 x2 x3 x4 w K,J n x0 x1 x2 x3 x4 w->(∀m y0 y1 y2 y3 y4 w',m<n->J m y0 y1 y2 y3 y4 w'->K y0 y1 y2 y3 y4 w')->f K x0 x1 x2 x3 x4 w):L5 x0 x1 x2 x3 x4 w f:=
 Lp.g (D:=Unit) (λn l _ w=>J n (l.headD undef) (l.tail.headD undef) (l.tail.tail.headD undef) (l.tail.tail.tail.headD undef) (l.tail.tail.tail.tail.headD undef) w) n h0 λn l d w K hj hk=>h n _ _ _ _ _ w _ hj λm y0 y1 y2 y3 y4 w' hm ng=>hk m [y0,y1,y2,y3,y4] () w' hm ng
theorem P5.g{f:(Va->Va->Va->Va->VK)->Prop}{g:(Va->Va->Va->Va->VK)->Va->Va->Va->Va->VK}(J:Nat->Va->Va->Va->Va->VK)(h0:∀K:Va->Va->Va->Va->VK,(∀m y0 y1 y2 y3 y4 w',J m y0 y1 y2 y3 y4 w'->K y0 y1 y2 y3 y4 w')->f K)
  (h:∀n x0 x1 x2 x3 x4 w K,J n x0 x1 x2 x3 x4 w->(∀m y0 y1 y2 y3 y4 w',m<n->J m y0 y1 y2 y3 y4 w'->K y0 y1 y2 y3 y4 w')->g K x0 x1 x2 x3 x4 w):P5 f g:=
 Sp.g (D:=Unit) (λn l _ w=>J n (l.headD undef) (l.tail.headD undef) (l.tail.tail.headD undef) (l.tail.tail.tail.headD undef) (l.tail.tail.tail.tail.headD undef) w) (λK hk=>h0 _ λm y0 y1 y2 y3 y4 w' hj=>hk m [y0,y1,y2,y3,y4] () w' hj) λn l d w K hj hk=>h n _ _ _ _ _ w _ hj λm y0 y1 y2 y3 y4 w' hm ng=>hk m [y0,y1,y2,y3,y4] () w' hm ng
def kZ(u:FrameMode):Prop:=u≠.run/\settle u=u
theorem kZ.ret:kZ .returning:=⟨az,rfl⟩
theorem kZ.pH(v:Va):kZ (.panicking [{v,recovered:=false}]):=⟨az,rfl⟩
theorem Lv.go{res:Wd->(Va->Prop)->Prop}{R:ER}{f:FuncId}{a:LV}{cap:AV}{ds:LD}{u:FrameMode}{w:Wd}{C:ER}(hu:kZ u)
  (hi:(invoke (.fn (.func f) cap) #[]).run P w=.ok (.enter f a.toArray) w) (hc:CallsD P f a.toArray u w λe u' w'=>u'=u/\C e w') (h:∀e w',C e w'->∃v,e=.returned v/\Lv P res R ds u w'):
  Lv P res R (⟨.fn (.func f) cap,#[]⟩::ds) u w:=by
 refine⟨hu.1,_,_,_,_,rfl,hi,?_⟩;refine CallsD.mono hc ?_;rintro e u' w' ⟨rfl,he⟩;obtain⟨v,rfl,h2⟩:=h e w' he;show Lv P res R ds (settle u') w'
 rw[hu.2];exact h2
end Go.Sh

namespace Go.Proofs.YtoddjlclpnoomaaGreatDoor
open Go.Sh
def dm(t:Tok):Va:=.agg #[.int .i64 t.kind,str t.text,.int .i64 t.n,.int .i64 t.line]
def cW(w:Wd)(b:Nat):Nat->LT->Prop
 |_,[]=>True
 |o,t::ts=>(w.cell? ⟨b,o,none⟩=some (.int .i64 t.kind)/\w.cell? ⟨b,o+1,none⟩=some (str t.text)/\w.cell? ⟨b,o+2,none⟩=some (.int .i64 t.n)/\
   w.cell? ⟨b,o+3,none⟩=some (.int .i64 t.line))/\cW w b (o+4) ts
theorem cW.aA{M:List Nat}{w w':Wd}(h:aD M w w'){b:Nat}(hb:b∉M):∀(ts:LT) (o:Nat),cW w b o ts->cW w' b o ts
 |[],_,_=>trivial
 |t::ts,o,⟨⟨h0,h1,h2,h3⟩,hr⟩=>⟨⟨h.cell h0 hb,h.cell h1 hb,h.cell h2 hb,h.cell h3 hb⟩,cW.aA h hb ts _ hr⟩
def FL(bind:By->Int)(w:Wd)(b:Nat):Prop:=∃es c,w.heap[b]?=some (.map es c)/\
 ∀s w1,w1.heap[b]?=some (.map es c)->(Instr.lookup 80 (.map (some b)) (str s) false).run prog w1=.ok (.int .i64 (bind s)) w1
theorem FL.aA{bind:By->Int}{M:List Nat}{w w':Wd}(h:aD M w w'){b:Nat}(hb:b∉M):FL bind w b->FL bind w' b:=by
 rintro⟨es,c,h1,h2⟩;refine⟨es,c,?_,h2⟩;rw[h.same b ?_ hb,h1];rcases lt_or_ge b w.heap.size with h'|h'
 .exact h'
 .rw[Array.getElem?_eq_none h']at h1;cases h1
structure eO where
 p:Nat
 bt:Nat
 bm:Nat
structure PS(w:Wd)(x:eO)(ts:LT)(deep:Int)(own:Bool):Prop where
 ex:∃o c,At w x.p [.slice (some ⟨x.bt,o,none⟩) ts.length c,.map (some x.bm),.int .i64 deep,.bool own]/\ts.length<=c/\cW w x.bt o ts
 sat:FL bD w x.bm
 tp:x.bt≠x.p
 mp:x.bm≠x.p
 kf:x.bt<w.heap.size
 ne:ts≠[]
theorem PS.lW{w:Wd}{x:eO}{ts:LT}{deep:Int}{own:Bool}(h:PS w x ts deep own):x.p<w.heap.size:=by
 obtain⟨o,c,h,_⟩:=h.ex;exact h.lt
theorem PS.pI{w:Wd}{x:eO}{ts:LT}{deep:Int}{own:Bool}(h:PS w x ts deep own):x.bm<w.heap.size:=by
 obtain⟨es,c,hm,_⟩:=h.sat
 rcases lt_or_ge x.bm w.heap.size with h'|h'
 .exact h'
 .rw[Array.getElem?_eq_none h']at hm;cases hm
theorem PS.aA{w w':Wd}{x:eO}{ts:LT}{deep:Int}{own:Bool}{M:List Nat}(h:PS w x ts deep own)(hk:aD M w w')(hp:x.p∉M)(ht:x.bt∉M)(hm:x.bm∉M):PS w' x ts deep own:=by
 obtain⟨o,c,h1,h2,h3⟩:=h.ex;exact⟨⟨o,c,hk.at h1 hp,h2,cW.aA hk ht _ _ h3⟩,h.sat.aA hk hm,h.tp,h.mp,lt_of_lt_of_le h.kf hk.size,h.ne⟩
theorem PS.new{w w':Wd}{x:eO}{ts:LT}{deep:Int}{own:Bool}(h:PS w x ts deep own)(hk:aD [] w w'):PS w' x ts deep own:=h.aA hk ak ak ak
theorem U1.tok{w:Wd}{b:Nat}{cs:LV}{t:Tok}{k:WP}{e:EK}(hA:At w b cs)(hl:cs.length=4)
  (hk:∀w',tB w b [.int .i64 t.kind,str t.text,.int .i64 t.n,.int .i64 t.line] w'->k w'):U1 prog (storeAt 86 (ptr b) (dm t)) w k e:=by
 match cs,hl with
 |[c0,c1,c2,c3],_=>
  have h0:=hA.set 0 (.int .i64 t.kind);have h1:=h0.set 1 (str t.text);have h2:=h1.set 2 (.int .i64 t.n);have h3:=h2.set 3 (.int .i64 t.line);refine U1.i (w':=(((w.setCell ⟨b,0,none⟩ (.int .i64 t.kind)).setCell ⟨b,1,none⟩ (str t.text)).setCell ⟨b,2,none⟩ (.int .i64 t.n)).setCell ⟨b,3,none⟩ (.int .i64 t.line)) (v:=()) ?_ (hk _ ⟨h3,by simp[setCell],?_,λq=>by simp only[fH]⟩)
  .simp[go_sem,dm,ptr,str,hA.cell,hA.fr]
  .exact((((aD.refl _ _).set _ (.inl ak)).set _ (.inl ak)).set _ (.inl ak)).set _ (.inl ak)
theorem cA{w:Wd}{b:Nat}{t:Tok}(hA:At w b [.int .i64 t.kind,str t.text,.int .i64 t.n,.int .i64 t.line]):
 (loadAt 86 (ptr b)).run prog w=.ok (dm t) w:=tC w b 0 _ _ _ _ (by rw[hA.cell];rfl) (by rw[hA.cell];rfl) (by rw[hA.cell];rfl) (by rw[hA.cell];rfl)
theorem c31{w:Wd}{x:eO}{t:Tok}{ts:LT}{deep:Int}{own:Bool}(h:PS w x (t::ts) deep own):
  Calls prog 31 #[ptr x.p] w (aZ (λv w'=>v=dm t/\aD [] w w') NP):=by
 refine YZ ?_;unfold Wl;obtain⟨o,c,h1,h2,⟨⟨q0,q1,q2,q3⟩,_⟩⟩:=h.ex;refine V1.new (eW _) λb w1 N=>?_;replace h1:=N.a h1;repeat(first|refine Up.i (Nc.p _ _) ?_|refine V1.load (aC rfl) au rfl ?_|refine V1.i ah ?_)
 refine V1.i (tC _ _ _ _ _ _ _ (N.aA.cell q0 ak) (N.aA.cell q1 ak) (N.aA.cell q2 ak) (N.aA.cell q3 ak)) ?_;refine U1.tok (t:=t) N.at_ rfl λw2 U=>?_;exact⟨_,cA U.at_,rfl,N.aA.trans' U.aA (by simp;have:=N.ge;omega)⟩
theorem c107{w:Wd}{x:eO}{t:Tok}{ts:LT}{deep:Int}{own:Bool}(h:PS w x (t::ts) deep own):
  Calls prog 107 #[ptr x.p] w (aZ (λv w'=>v=dm t/\PS w' x (bF (t::ts)) deep own/\aD [x.p] w w') NP):=by
 refine Qq ?_;unfold Iq;have lp:=h.lW;have lt:=h.kf;have lm:=h.pI;obtain⟨o,c,h1,h2,⟨⟨q0,q1,q2,q3⟩,q4⟩⟩:=h.ex;refine V1.new (eW _) λb2 w1 N=>?_;replace h1:=N.a h1;have g2:=N.ge;repeat(first|refine Up.i (Nc.p _ _) ?_|refine V1.load (aC rfl) au rfl ?_|refine V1.i ah ?_)
 refine V1.i (tC _ _ _ _ _ _ _ (N.aA.cell q0 ak) (N.aA.cell q1 ak) (N.aA.cell q2 ak) (N.aA.cell q3 ak)) ?_;have a2:=N.at_;refine V1.new (eW _) λb3 w2 N3=>?_;have g3:=N3.ge;have l2:=N.lt;have K2:=N.aA.trans N3.aA;replace h1:=N3.a h1;replace a2:=N3.a a2;refine U1.tok (t:=t) N3.at_ rfl λw3 U=>?_;have a3:=U.at_;replace h1:=U.aA.at h1 al;replace a2:=U.aA.at a2 al;have K3:=K2.trans' U.aA al;have h0:PS w3 x (t::ts) deep own:=h.new K3;have l3:=N3.lt;have l4:=U.size;refine J0.cut (λw'=>At w' b2 [.int .i64 0,.string ⟨#[]⟩,.int .i64 0,.int .i64 0]/\At w' b3 [.int .i64 t.kind,str t.text,.int .i64 t.n,.int .i64 t.line]/\PS w' x (bF (t::ts)) deep own/\aD [x.p] w w') ?_ ?_
 .repeat(first|refine Up.i (Nc.p _ _) ?_|refine V1.load (aC rfl) au rfl ?_|refine V1.i ah ?_)
  cases ts with
  |nil=>
   refine If.b (λhb=>?_) (λhb=>?_)
   .simp at hb
   .exact⟨a2,a3,h0,K3.mono ak⟩
  |cons u ts=>
   refine If.b (λhb=>?_) (λhb=>?_)
   .repeat(first|refine Up.i (Nc.p _ _) ?_|refine V1.load (aC rfl) au rfl ?_|refine V1.i ah ?_)
    refine V1.i (P7 _ ak h2) ?_;repeat(first|refine Up.i (Nc.p _ _) ?_|refine V1.load (aC rfl) au rfl ?_|refine V1.i ah ?_)
    refine U1.store (aO rfl rfl) (h1) ak λw4 U4=>?_;have K4:aD [x.p] w w4:=K3.then U4.aA ak ak
    refine⟨U4.aA.at a2 al,U4.aA.at a3 al,⟨⟨o+4,c-1,U4.at_,?_,cW.aA K4 (by simp;exact h.tp) _ _ q4⟩,h.sat.aA K4 (by simp;exact h.mp),h.tp,h.mp,lt_of_lt_of_le h.kf K4.size,by simp[bF]⟩,K4⟩;simp at h2;simp[bF];omega
   .simp at hb
    omega
 .rintro w' ⟨a2,a3,hp,hk⟩;refine V1.i (cA a3) ?_;refine U1.tok (t:=t) a2 rfl λw5 U5=>?_;refine⟨_,cA U5.at_,rfl,hp.aA U5.aA al al al,hk.then U5.aA ak al⟩
theorem qv{t:Tok}{ss:LB}{k:Nat}(hk:k<ss.length)(h:fI t (ss.take k)=false)(h1:(t.kind==4)=true->(t.text==ss[k])=false):fI t (ss.take (k+1))=false:=by
 unfold fI at*
 cases hc:(t.kind==4)with
 |false=>rfl
 |true=>
  rw[hc]at h;have:=h1 hc;rw[take_succ_eq_append_getElem hk];simp only[Bool.true_and,List.contains_eq_mem,decide_eq_false_iff_not,mem_append,mem_singleton,not_or]at h⊢;exact⟨h,by simpa using this⟩
def strs(b n:Nat):Va:=.slice (some ⟨b,0,none⟩) n n
theorem Ol{w:Wd}{x:eO}{t:Tok}{ts:LT}{deep:Int}{own:Bool}{b:Nat}{ss:LB}(h:PS w x (t::ts) deep own)(hb:At w b (ss.map str))(hn:ss.length<=100):
  Calls prog 99 #[ptr x.p,strs b ss.length] w (aZ (λv w'=>v=.bool (fI t ss)/\aD [] w w') NP):=by
 refine Y3 ?_;unfold Wp strs;have lb:=hb.lt;refine lL (c31 h) ?_ (NP.no (e:=_));rintro _ w1 ⟨rfl,K1⟩;have l1:=K1.size;replace hb:=K1.at hb ak;refine V1.new (eW _) λb2 w2 N=>?_;replace hb:=N.a hb;have g2:=N.ge;refine U1.tok (t:=t) N.at_ rfl λw3 U=>?_;have a2:=U.at_;have K3:aD [] w w3:=(K1.trans N.aA).then U.aA ak al
 replace hb:=U.aA.at hb al;repeat(first|refine Up.i (Nc.p _ _) ?_|refine V1.load (aC rfl) au rfl ?_|refine V1.i ah ?_)
 refine L2.i (λu v w'=>w'=w3/\u=.bool false/\∃k:Nat,k<=ss.length/\v=.int .i64 k/\fI t (ss.take k)=false) (λu v w'=>match v with|.int _ n=>(ss.length-n.toNat)|_=>0) ⟨rfl,rfl,0,by omega,rfl,by simp[fI]⟩ ?_;rintro u v w' ⟨rfl,rfl,k,hk,rfl,hm⟩;by_cases zV:k<ss.length
 .repeat(first|refine Up.i (Nc.p _ _) ?_|refine V1.load (aC rfl) au rfl ?_|refine V1.i ah ?_)
  refine If.b (λbO=>?_) (λbO=>by simp at bO;omega);refine V1.i (lG _ zV) ?_;refine V1.load (aC rfl) hb (v:=str ss[k]) (by simp[zV]) ?_;repeat(first|refine Up.i (Nc.p _ _) ?_|refine V1.load (aC rfl) au rfl ?_|refine V1.i ah ?_)
  refine J1.go (Gd.b (λhc=>?_) (λhc=>?_))
  .repeat(first|refine Up.i (Nc.p _ _) ?_|refine V1.load (aC rfl) au rfl ?_|refine V1.i (by simp[go_sem,hc]<;>trivial) ?_)
   refine If.b (λhe=>?_) (λhe=>?_)
   .refine⟨?_,K3⟩;have:t.text=ss[k]:=by simpa using he
    rw[fI,hc,this];simp
   .refine V1.i (cC _ _ _ _ _ _ aj aj) ?_;exact⟨⟨rfl,rfl,k+1,by omega,by simp,qv zV hm λ_=>he⟩,by simp;omega⟩
  .repeat(first|refine Up.i (Nc.p _ _) ?_|refine V1.load (aC rfl) au rfl ?_|refine V1.i (by simp[go_sem,hc]<;>trivial) ?_)
   refine If.f ?_;refine V1.i (cC _ _ _ _ _ _ aj aj) ?_;exact⟨⟨rfl,rfl,k+1,by omega,by simp,qv zV hm λh=>by rw[hc]at h;cases h⟩,by simp;omega⟩
 .repeat(first|refine Up.i (Nc.p _ _) ?_|refine V1.load (aC rfl) au rfl ?_|refine V1.i ah ?_)
  refine If.b (λbO=>by simp at bO;omega) (λbO=>?_);have:k=ss.length:=by omega
  subst this;refine⟨?_,K3⟩;simpa using hm
def jN(M:List Nat)(w:Wd)(x:eO)(code:Int)(c:List PanicEntry)(w':Wd):Prop:=
 (∃b line,c=[{v:=.iface 78 (.agg [ptr b].toArray),recovered:=false}]/\At w' b [.int .i64 code,.int .i64 line]/\w.heap.size<=b)/\(∃ts deep own,PS w' x ts deep own)/\aD M w w'
theorem jN.pre{M N:List Nat}{w0 w w':Wd}{x:eO}{code:Int}{c:List PanicEntry}(h:jN M w x code c w')(hk:aD N w0 w)(hM:∀i∈M,i<w0.heap.size->i∈N):jN N w0 x code c w':=by
 obtain⟨⟨b,l,h1,h2,h3⟩,h4,h5⟩:=h;exact⟨⟨b,l,h1,h2,by have:=hk.size;omega⟩,h4,hk.trans' h5 hM⟩
theorem QL{w:Wd}{x:eO}{t:Tok}{ts:LT}{deep:Int}{own:Bool}(code:Int)(h:PS w x (t::ts) deep own):
  Calls prog 32 #[ptr x.p,.int .i64 code] w (aZ (λ_ _=>False) (jN [x.p] w x code)):=by
 refine Y0 ?_;unfold Wm;refine lL (c31 h) ?_ (NP.no (e:=_));rintro _ w1 ⟨rfl,K1⟩;unfold dm;refine V1.i ah ?_;refine V1.i ah ?_;refine V1.new (DI _ _) λb w2 N=>?_;repeat(first|refine Up.i (Nc.p _ _) ?_|refine V1.load (aC rfl) au rfl ?_|refine V1.i ah ?_)
 refine V1.p (by simp[go_sem];first|done|exact⟨rfl,rfl⟩) ?_;exact⟨⟨b,_,rfl,N.at_,by have:=N.ge;have:=K1.size;omega⟩,⟨_,_,_,(h.new K1).new N.aA⟩,(K1.trans N.aA).mono ak⟩
theorem QM{w:Wd}{x:eO}{t:Tok}{ts:LT}{deep:Int}{own:Bool}(s:By)(h:PS w x (t::ts) deep own):
  Calls prog 158 #[ptr x.p,str s] w (aZ (λv w'=>v=.bool (fI t [s])/\PS w' x (if fI t [s]then bF (t::ts)else t::ts) deep own/\aD [x.p] w w') NP):=by
 refine Qw ?_;unfold Iy;have lp:=h.lW;refine V1.aG ah λb w1 N=>?_;refine fw ((Ol (ss:=[s]) (h.new N.aA) N.at_ ak)) ?_ (NP.no (e:=_));rintro _ w2 ⟨rfl,K2⟩;have h2:=(h.new N.aA).new K2;have K:aD [] w w2:=N.aA.trans K2;refine J0.go (If.b (λhb=>?_) (λhb=>?_))
 .refine dR (c107 h2) ?_ (NP.no (e:=_));rintro _ w3 ⟨rfl,h3,K3⟩;rw[hb];exact⟨rfl,h3,K.then K3 ak ak⟩
 .rw[hb];exact⟨rfl,h2,K.mono ak⟩
theorem QN{w:Wd}{x:eO}{t:Tok}{ts:LT}{deep:Int}{own:Bool}(s:By)(h:PS w x (t::ts) deep own):
  Calls prog 106 #[ptr x.p,str s] w (aZ (λv w'=>fI t [s]=true/\v=.int .i64 t.line/\PS w' x (bF (t::ts)) deep own/\aD [x.p] w w') (λc w'=>fI t [s]=false/\jN [x.p] w x 4 c w')):=by
 refine Qp ?_;unfold Ip;refine J0.go ?_;refine V1.aG ah λb w1 N=>?_;refine fw ((Ol (ss:=[s]) (h.new N.aA) N.at_ ak)) ?_ (NP.no (e:=_));rintro _ w2 ⟨rfl,K2⟩;have h2:=(h.new N.aA).new K2;have K:aD [] w w2:=N.aA.trans K2;repeat(first|refine Up.i (Nc.p _ _) ?_|refine V1.load (aC rfl) au rfl ?_|refine V1.i ah ?_)
 refine If.b (λhb=>?_) (λhb=>?_)
 .refine kH (QL 4 h2) ?_ ?_
  .rintro _ _ h;exact h.elim
  .intro c w3 hF;exact⟨by simpa using hb,hF.pre (K.mono ak) ak⟩
 .refine dR (c107 h2) ?_ (NP.no (e:=_));rintro _ w3 ⟨rfl,h3,K3⟩;unfold dm;repeat(first|refine Up.i (Nc.p _ _) ?_|refine V1.load (aC rfl) au rfl ?_|refine V1.i ah ?_)
  exact⟨by simpa using hb,rfl,h3,K.then K3 ak ak⟩
theorem QO{w:Wd}{x:eO}{t:Tok}{ts:LT}{deep:Int}{own:Bool}(h:PS w x (t::ts) deep own):
  Calls prog 104 #[ptr x.p] w (aZ (λv w'=>t.kind=1/\v=dm t/\PS w' x (bF (t::ts)) deep own/\aD [x.p] w w') (λc w'=>t.kind≠1/\jN [x.p] w x 4 c w')):=by
 refine Qn ?_;unfold Im;have lp:=h.lW;have lt:=h.kf;have lm:=h.pI;refine V1.new (eW _) λb w1 N=>?_;have g1:=N.ge;have h1:=h.new N.aA;refine J0.go ?_;refine lL (c31 h1) ?_ (NP.no (e:=_));rintro _ w2 ⟨rfl,K2⟩;have h2:=h1.new K2;have a2:=K2.at N.at_ ak;have K:aD [] w w2:=N.aA.trans K2;rw[dm];repeat(first|refine Up.i (Nc.p _ _) ?_|refine V1.load (aC rfl) au rfl ?_|refine V1.i ah ?_)
 refine If.b (λhb=>?_) (λhb=>?_)
 .refine kH (QL 4 h2) ?_ ?_
  .rintro _ _ h;exact h.elim
  .intro c w3 hF;exact⟨by simpa using hb,hF.pre (K.mono ak) ak⟩
 .refine dR (c107 h2) ?_ (NP.no (e:=_));rintro _ w3 ⟨rfl,h3,K3⟩;refine U1.tok (t:=t) (K3.at a2 al) rfl λw5 U5=>?_;refine⟨_,cA U5.at_,by simpa using hb,rfl,h3.aA U5.aA al al al,(K.then (L:=[x.p]) K3 ak ak).then U5.aA ak al⟩
theorem Y4{w:Wd}{x:eO}{t:Tok}{ts:LT}{deep:Int}{own:Bool}(h:PS w x (t::ts) deep own):
  Calls prog 57 #[ptr x.p] w (aZ (λv w'=>v=.bool (dI t)/\aD [] w w') NP):=by
 refine Y1 ?_;unfold Wn;refine lL (c31 h) ?_ (NP.no (e:=_));rintro _ w1 ⟨rfl,K1⟩;rw[dm];repeat(first|refine Up.i (Nc.p _ _) ?_|refine V1.load (aC rfl) au rfl ?_|refine V1.i ah ?_)
 refine J1.go (Gd.b (λhc=>?_) (λhc=>?_))
 .refine V1.aG ah λb w2 N=>?_;refine fw ((Ol (ss:=[[101,110,100],[101,108,115,101],[101,108,115,101,105,102],[99,97,116,99,104]]) ((h.new K1).new N.aA) N.at_ ak)) ?_ (NP.no (e:=_));rintro _ w3 ⟨rfl,K3⟩;repeat(first|refine Up.i (Nc.p _ _) ?_|refine V1.load (aC rfl) au rfl ?_|refine V1.i (by simp[go_sem,hc]<;>trivial) ?_)
  exact⟨by simp[dI,hc],(K1.trans N.aA).trans K3⟩
 .repeat(first|refine Up.i (Nc.p _ _) ?_|refine V1.load (aC rfl) au rfl ?_|refine V1.i (by simp[go_sem,hc]<;>trivial) ?_)
  exact⟨by simp at hc;simp[dI,hc],K1⟩
end Go.Proofs.YtoddjlclpnoomaaGreatDoor
namespace Go.Sh
variable {P:Program}{w:Wd}
def entries(l:List (Va×Va)):List MapEntry:=l.zipIdx.map λp=>{key:=p.1.1,val:=p.1.2,born:=p.2}
def dJ(w:Wd)(b:Nat)(l:List (Va×Va)):Prop:=w.heap[b]?=some (.map (entries l).toArray l.length)
theorem oO(l:List (Va×Va))(k v:Va):entries (l++[(k,v)])=entries l++[{key:=k,val:=v,born:=l.length}]:=by
 simp[entries,List.zipIdx_append]
theorem dJ.lt{b:Nat}{l:List (Va×Va)}(h:dJ w b l):b<w.heap.size:=by
 unfold dJ at h;rcases lt_or_ge b w.heap.size with h'|h'
 .exact h'
 .rw[Array.getElem?_eq_none h']at h;cases h
theorem dJ.aA{M:List Nat}{w':Wd}{b:Nat}{l:List (Va×Va)}(h:dJ w b l)(hk:aD M w w')(hb:b∉M):dJ w' b l:=by
 have:=h.lt;unfold dJ at*;rw[hk.same b this hb,h]
theorem V1.map{t:TypeId}{k:VK}{e:EK}
  (hk:∀b w',dJ w' b []->w.heap.size<=b->aD [] w w'->k (.map (some b)) w'):V1 P (Instr.makeMap t none) w k e:=
 V1.i (v:=.map (some w.heap.size)) (w':=w.alloc (.map #[] 0)) rfl (hk _ _ (by unfold dJ;rw[fG,if_pos rfl];rfl) (le_refl _) ((aD.refl _ _).alloc _))
theorem eB{l:List (Va×Va)}{x:MapEntry}(h:x∈entries l):(x.key,x.val)∈l:=by
 simp only[entries,mem_map,Prod.exists]at h;obtain⟨a,b,i,h1,rfl⟩:=h;have:=(List.mem_zipIdx h1).2.2;simp only[Nat.sub_zero]at this;have h2:=(List.mem_zipIdx h1);rw[this];exact getElem_mem _
theorem U1.hO{mt kt et:TypeId}{d:TypeDesc}{b:Nat}{l:List (Va×Va)}{key val:Va}{k:WP}{e:EK}(hm:P.underlying mt=some (.map kt et))(hd:P.underlying kt=some d)
  (h:dJ w b l) (hk:MapKept.IsKey d key) (lX:∀p∈l,MapKept.IsKey d p.1) (QP:∀p∈l,p.1≠key)
  (hK:∀w',dJ w' b (l++[(key,val)])->w'.heap.size=w.heap.size->aD [b] w w'->k w'):U1 P (mapUpdate mt (.map (some b)) key val) w k e:=by
 have hl:=h.lt;have hf:Instr.findNow d key (entries l) 0=some none:=by
  rcases MapKept.findNow_spec hk (entries l) 0 (λx hx=>lX _ (eB hx))with h1|⟨j,e,h1,h2,h3⟩
  .exact h1.1
  .exact absurd h3 (QP _ (eB (List.mem_of_getElem? h2)))
 unfold dJ at h;refine U1.i (v:=()) (w':={w with heap:=w.heap.setIfInBounds b (.map ((entries l).toArray.push {key:=key,val:=val,born:=l.length}) (l.length+1))}) ?_ (hK _ ?_ ?_ ?_)
 .have hc:(Instr.checkKey false 10000 kt key).run P w=.ok () w:=MapKept.run_checkKey hd hk false 9999;simp[mapUpdate,run_underlying hm,MapKept.run_getObj_map h,hc,MapKept.run_findKey hd hf,MapKept.run_setObj_map _ h,Result.andThen]
 .unfold dJ;simp[oO,hl]
 .simp
 .exact⟨by simp,λi hi hm=>by
   have:b≠i:=λe=>hm (by simp[e]);simp[Array.getElem?_setIfInBounds_ne this],rfl,rfl⟩
theorem mF{mt kt et:TypeId}{d:TypeDesc}{b:Nat}{l:List (Va×Va)}{key v:Va}(hm:P.underlying mt=some (.map kt et))(hd:P.underlying kt=some d)
  (h:dJ w b l) (hk:MapKept.IsKey d key) (lX:∀p∈l,MapKept.IsKey d p.1) (hv:∀p∈l,p.1=key->p.2=v) (hex:∃p∈l,p.1=key) (ok:Bool):
  (Instr.lookup mt (.map (some b)) key ok).run P w=.ok (if ok then .tuple #[v,.bool true]else v) w:=by
 rcases MapKept.findNow_spec hk (entries l) 0 (λx hx=>lX _ (eB hx))with⟨h1,h2⟩|⟨j,e,h1,h2,h3⟩
 .obtain⟨p,hp,rfl⟩:=hex;obtain⟨i,hi,rfl⟩:=List.mem_iff_getElem.1 hp;exact absurd rfl (h2 {key:=l[i].1,val:=l[i].2,born:=i} (by
   simp only[entries,mem_map];exact⟨(l[i],i),by simp[List.mem_zipIdx_iff_getElem?,hi],rfl⟩))
 .have fu:e.val=v:=hv _ (eB (List.mem_of_getElem? h2)) h3;rw[fu]at h1;unfold dJ at h;have hc:∀q,(Instr.checkKey q 10000 kt key).run P w=.ok () w:=λq=>MapKept.run_checkKey hd hk q 9999
  cases ok<;>simp[Instr.lookup,run_underlying hm,MapKept.run_getObj_map h,hc,MapKept.run_findKey hd h1,Result.andThen,Sem.run_bind]
theorem kI{mt kt et:TypeId}{d:TypeDesc}{b:Nat}{l:List (Va×Va)}{key z:Va}(hm:P.underlying mt=some (.map kt et))(hd:P.underlying kt=some d)
  (h:dJ w b l) (hk:MapKept.IsKey d key) (lX:∀p∈l,MapKept.IsKey d p.1) (gP:∀p∈l,p.1≠key) (hz:(zeroValue et).run P w=.ok z w) (ok:Bool):
  (Instr.lookup mt (.map (some b)) key ok).run P w=.ok (if ok then .tuple #[z,.bool false]else z) w:=by
 rcases MapKept.findNow_spec hk (entries l) 0 (λx hx=>lX _ (eB hx))with⟨h1,h2⟩|⟨j,e,h1,h2,h3⟩
 .unfold dJ at h;have hc:∀q,(Instr.checkKey q 10000 kt key).run P w=.ok () w:=λq=>MapKept.run_checkKey hd hk q 9999
  cases ok<;>simp[Instr.lookup,run_underlying hm,MapKept.run_getObj_map h,hc,MapKept.run_findKey hd h1,Result.andThen,Sem.run_bind,hz]
 .exact absurd h3 (gP _ (eB (List.mem_of_getElem? h2)))
open Go.ChangeMaps (setBlock)
def mG(w:Wd)(r b:Nat)(l left:List (Va×Va)):Prop:=
 ∃seen,w.heap[r]?=some (.mapIter (some b) l.length seen l.length)/\(leftOf (entries l).toArray seen).toList.map (λe=>(e.key,e.val))=left
theorem mG.lt{r b:Nat}{l left:List (Va×Va)}(h:mG w r b l left):r<w.heap.size:=by
 obtain⟨seen,h,_⟩:=h;rcases lt_or_ge r w.heap.size with h'|h'
 .exact h'
 .rw[Array.getElem?_eq_none h']at h;cases h
theorem mG.aA{M:List Nat}{w':Wd}{r b:Nat}{l left:List (Va×Va)}(h:mG w r b l left)(hk:aD M w w')(hr:r∉M):mG w' r b l left:=by
 have:=h.lt;obtain⟨seen,h,h2⟩:=h;exact⟨seen,by rw[hk.same r this hr,h],h2⟩
theorem ld{l:List (Va×Va)}{x:MapEntry}(h:x∈entries l):∃i,∃hi:i<l.length,(x.key,x.val)=l[i]/\x.born=i:=by
 simp only[entries,mem_map,Prod.exists]at h;obtain⟨a,b,i,h1,rfl⟩:=h;have h2:=List.mem_zipIdx h1;have hi:i<l.length:=by have:=h2.2.1;omega
 refine⟨i,hi,?_,rfl⟩;have:=h2.2.2;simpa using this
theorem oP{l:List (Va×Va)}{x:MapEntry}(h:x∈entries l):x.born<l.length:=by
 simp only[entries,mem_map,Prod.exists]at h;obtain⟨a,b,i,h1,rfl⟩:=h;have:=(List.mem_zipIdx h1);simp;omega
theorem jh(l:List (Va×Va)):((entries l).map (·.born)).Nodup:=by
 have:(entries l).map (·.born)=List.range' 0 l.length:=by
  simp[entries,Function.comp_def]
 rw[this];exact List.nodup_range'
theorem V1.rangeMap{t kt et:TypeId}{b:Nat}{l:List (Va×Va)}{k:VK}{e:EK}(ht:P.underlying t=some (.map kt et))(h:dJ w b l)
  (hk:∀r w',mG w' r b l l->w.heap.size<=r->aD [] w w'->k (.pointer (some ⟨r,0,none⟩)) w'):V1 P (Instr.range t (.map (some b))) w k e:=by
 refine V1.i (run_range_map w t kt et b _ _ ht h) (hk _ _ ⟨#[],by rw[fG,if_pos rfl],?_⟩ (le_refl _) ((aD.refl _ _).alloc _));simp only[leftOf,Array.contains_eq_mem,List.size_toArray];simp[entries]
 rw[List.filter_eq_self.2 ak];simp[Function.comp_def]
theorem wv{l:List MapEntry}(h:(l.map (·.born)).Nodup){x y:MapEntry}(hx:x∈l)(hy:y∈l)(he:x.born=y.born):x=y:=by
 induction l with
 |nil=>cases hx
 |cons a l ih=>
  simp only[map_cons,List.nodup_cons,mem_map,not_exists,not_and]at h;rcases mem_cons.1 hx with e1|Wq<;>rcases mem_cons.1 hy with e2|Wr
  .rw[e1,e2]
  .exact absurd (by rw[←he,e1]) (h.1 _ Wr)
  .exact absurd (by rw[he,e2]) (h.1 _ Wq)
  .exact ih h.2 Wq Wr
theorem gj(es:Array MapEntry)(seen:Array Nat)(c:Nat):(leftOf es (seen.push c)).toList=(leftOf es seen).toList.filter λe=>!(e.born==c):=by
 simp only[leftOf,Array.toList_filter,List.filter_filter];apply List.filter_congr
 intro x _;simp[Array.mem_push,Bool.and_comm]
 cases decide (x.born∈seen)<;>simp<;>rfl
theorem V1.tH{ty:TypeId}{r b:Nat}{l left:List (Va×Va)}{k:VK}{e:EK}(hi:mG w r b l left)(h:dJ w b l)(hrb:r≠b)
  (h0:left=[]->k (.tuple #[.bool false]) w)
  (h1:∀key val iJ w',(key,val)∈left->iJ.length<left.length->(∀p∈left,p=(key,val)\/p∈iJ)->(∀p∈iJ,p∈left)->mG w' r b l iJ->dJ w' b l->aD [r] w w'->w'.heap.size=w.heap.size->
   (∀w2,aD [] w' w2->(Instr.entry (.pointer (some ⟨r,0,none⟩))).run P w2=.ok (.tuple #[key,val]) w2)->(l.Nodup->(key,val)∉iJ)->k (.tuple #[.bool true,key,val]) w'):
  V1 P (Instr.next (.pointer (some ⟨r,0,none⟩)) false ty) w k e:=by
 have bO:=hi.lt;obtain⟨seen,hr,rfl⟩:=hi;rcases run_next_at w ty r b l.length l.length seen (entries l).toArray l.length hr h (λx hx=>oP (by simpa using hx)) (le_refl _)with⟨h2,h3⟩|⟨en,BL,w1,rI,h3⟩
 .refine V1.i h3 (h0 ?_);have:leftOf (entries l).toArray seen=#[]:=Array.eq_empty_of_size_eq_zero h2;rw[this];rfl
 .have nt:en∈entries l:=by
   have:en∈(leftOf (entries l).toArray seen).toList:=BL;simp[leftOf]at this
   exact this.1
  have uB:aD [] w w1:=by
   rcases rI with rfl|rfl
   .exact aD.refl _ _
   .exact(aD.refl _ _).drew
  have eI:w1.heap[r]?=some (.mapIter (some b) l.length seen l.length):=by rw[uB.same r bO ak,hr]
  have QQ:r<w1.heap.size:=lt_of_lt_of_le bO uB.size;have IU:(setBlock w1 r (.mapIter (some b) l.length (seen.push en.born) l.length)).heap[r]?=some (.mapIter (some b) l.length (seen.push en.born) l.length):=by
   simp[setBlock,QQ]
  have jy:aD [r] w (setBlock w1 r (.mapIter (some b) l.length (seen.push en.born) l.length)):=(uB.mono (N:=[r]) ak).trans' (N:=[r]) ⟨by simp[setBlock],λi _ hm=>by
   have:r≠i:=λe=>hm (by simp[e]);simp[setBlock,Array.getElem?_setIfInBounds_ne this],rfl,rfl⟩ (λi hi _=>hi)
  have zW:=h.aA jy al;refine V1.i h3 (h1 en.key en.val _ _ ?_ ?_ ?_ ?_ ⟨_,IU,rfl⟩ zW jy ?_ ?_ ?_)
  .exact mem_map.2 ⟨en,BL,rfl⟩
  .rw[gj];simp only[List.length_map];exact List.length_filter_lt_length_iff_exists.2 ⟨en,BL,by simp⟩
  .intro p hp;obtain⟨x,hx,rfl⟩:=mem_map.1 hp;by_cases hb:x.born=en.born
   .left
    have QR:x∈entries l:=by
     simp[leftOf]at hx
     exact hx.1
    have:x=en:=wv (jh l) QR nt hb;rw[this]
   .right
    rw[gj];exact mem_map.2 ⟨x,mem_filter.2 ⟨hx,by simpa using hb⟩,rfl⟩
  .intro p hp;rw[gj]at hp;obtain⟨x,hx,rfl⟩:=mem_map.1 hp;exact mem_map.2 ⟨x,(mem_filter.1 hx).1,rfl⟩
  .have:w1.heap.size=w.heap.size:=by rcases rI with rfl|rfl<;>rfl
   simp[setBlock,this]
  .intro w2 Ws;refine run_entry_at w2 r b l.length seen (entries l).toArray l.length en ?_ (zW.aA Ws ak) (by simpa using nt) (by simpa using jh l);rw[Ws.same r ?_ ak,IU];have:=jy.size;omega
  .intro yU nu;rw[gj]at nu;obtain⟨x,hx,Y5⟩:=mem_map.1 nu;obtain⟨Wt,QS⟩:=mem_filter.1 hx;have QR:x∈entries l:=by
    simp[leftOf]at Wt
    exact Wt.1
   have hb:x.born≠en.born:=by simpa using QS
   obtain⟨i,hi,Wu⟩:=ld QR;obtain⟨j,hj,Wv⟩:=ld nt;have e:l[i]=l[j]:=by rw[←Wu.1,←Wv.1];exact Y5
   have:i=j:=(List.getElem_inj yU).1 e;exact hb (by rw[Wu.2,Wv.2,this])
end Go.Sh

namespace Go.Proofs.YtoddjlclpnoomaaGreatDoor
open Go.Sh
theorem fb(c:UInt8):∀l:By,decide (0<=Lib.indexByte l c)=l.contains c
 |[]=>by simp[Lib.indexByte]
 |b::l=>by
  have ih:=fb c l;unfold Lib.indexByte;by_cases h:b=c
  .subst h;simp
  .have h2:(b==c)=false:=by simpa using h
   have h3:(c==b)=false:=by simpa using λe=>h e.symm
   simp only[h2,false_eq_true,if_false,contains_cons,h3,Bool.false_or];rw[←ih];split
   .rename_i h4;simp at h4;rw[h4]
   .rename_i h4
    simp at h4
    have:-1<=Lib.indexByte l c:=by
     clear ih h4;induction l with
     |nil=>simp[Lib.indexByte]
     |cons a l ih=>unfold Lib.indexByte;split;omega;split;omega;omega
    congr 1;apply propext;omega
theorem indexByte_ge(c:UInt8):∀l:By,-1<=Lib.indexByte l c/\Lib.indexByte l c<=l.length
 |[]=>by simp[Lib.indexByte]
 |a::l=>by have:=indexByte_ge c l;unfold Lib.indexByte;simp only[length_cons];split;omega;split<;>omega
theorem c51(w:Wd)(c:UInt8)(l:By):Calls prog 51 #[.int .u8 c.toNat,str l] w (aZ (λv w'=>v=.bool (l.contains c)/\w'=w) NP):=by
 refine YO ?_;unfold V6;refine H6 (c53 w l c) ?_ (NP.no (e:=_));rintro _ w1 ⟨rfl,rfl⟩;refine V1.i ah ?_;exact⟨by rw[←fb],rfl⟩
theorem tI(set:By):gC [] set=0:=rfl
theorem iS{c:UInt8}{l set:By}(h:set.contains c=true):gC (c::l) set=gC l set+1:=by simp only[gC,takeWhile_cons,h,if_true,length_cons]
theorem oQ{c:UInt8}{l set:By}(h:set.contains c=false):gC (c::l) set=0:=by simp only[gC,takeWhile_cons,h];rfl
theorem kJ(l set:By):gC l set<=l.length:=by
 unfold gC;exact(List.takeWhile_sublist _).length_le
theorem Ww(w:Wd)(s set:By)(hs:s.length<=1099511627776):Calls prog 88 #[str s,str set] w (aZ (λv w'=>v=.int .i64 (gC s set)/\w'=w) NP):=by
 refine YR ?_;unfold V9;refine V1.i ah ?_;refine L2.i (λu v w'=>w'=w/\∃k:Nat,k<=s.length/\v=.int .i64 k/\gC s set=k+gC (s.drop k) set) (λu v w'=>match v with|.int _ n=>(s.length-n.toNat)|_=>0) ⟨rfl,0,by omega,rfl,by simp⟩ ?_;rintro u v w' ⟨rfl,k,hk,rfl,hm⟩;by_cases bO:k<s.length
 .rw[drop_eq_getElem_cons bO]at hm;refine V1.i ah ?_;refine If.b (λ_=>?_) (λh=>by simp at h;omega);refine V1.i (dL _ s k bO) ?_;refine rZ (c51 w' s[k] set) ?_ (NP.no (e:=_));rintro _ w1 ⟨rfl,rfl⟩;refine V1.i ah ?_;refine If.b (λh=>?_) (λh=>?_)
  .have h':set.contains s[k]=false:=by simpa using h
   rw[oQ h']at hm;exact⟨by rw[hm];simp,rfl⟩
  .have h':set.contains s[k]=true:=by simpa using h
   rw[iS h']at hm;refine V1.i (cC _ _ _ _ _ _ aj aj) ?_;exact⟨⟨rfl,k+1,by omega,by simp,by omega⟩,by simp;omega⟩
 .have:k=s.length:=by omega
  subst this;refine V1.i ah ?_;refine If.b (λh=>by simp at h) (λ_=>?_);refine V1.i ah ?_;exact⟨by rw[hm];simp[tI],rfl⟩
theorem Wx(w:Wd)(s:By)(g:GL w)(hs:s.length<=65536):Calls prog 89 #[str s] w (aZ (λv w'=>v=.bool (gx s)/\w'=w) NP):=by
 refine YS ?_;unfold Wa;rcases s with _|⟨c,l⟩
 .refine V1.i ah ?_;refine J1.go (Gd.ft ?_);repeat(first|refine Up.i (Nc.p _ _) ?_|refine V1.load (aC rfl) au rfl ?_|refine V1.i ah ?_)
  refine J1.go (Gd.ft ?_);repeat(first|refine Up.i (Nc.p _ _) ?_|refine V1.load (aC rfl) au rfl ?_|refine V1.i ah ?_)
  exact⟨by rfl,rfl⟩
 .refine V1.i ah ?_;refine J1.go (Gd.tt ?_);refine zS (Oj w (c::l) [32] g aj) ?_ (NP.no (e:=_));rintro _ w1 ⟨rfl,rfl⟩;repeat(first|refine Up.i (Nc.p _ _) ?_|refine V1.load (aC rfl) au rfl ?_|refine V1.i ah ?_)
  cases h2:Lib.contains (c::l) [32]with
  |true=>
   repeat(first|refine Up.i (Nc.p _ _) ?_|refine V1.load (aC rfl) au rfl ?_|refine V1.i ah ?_)
   refine J1.go (Gd.ft ?_);repeat(first|refine Up.i (Nc.p _ _) ?_|refine V1.load (aC rfl) au rfl ?_|refine V1.i ah ?_)
   exact⟨by simp[gx,h2],rfl⟩
  |false=>
   repeat(first|refine Up.i (Nc.p _ _) ?_|refine V1.load (aC rfl) au rfl ?_|refine V1.i ah ?_)
   refine J1.go (Gd.tt ?_);refine V1.i (zR _ _ _ [32] (c::l) (by simp at hs⊢;omega)) ?_;refine V1.i (zR _ _ _ ([32]++(c::l)) [32] (by simp at hs⊢;omega)) ?_;refine zS (Oj _ oM ([32]++(c::l)++[32]) g ay) ?_ (NP.no (e:=_));rintro _ w2 ⟨rfl,rfl⟩;repeat(first|refine Up.i (Nc.p _ _) ?_|refine V1.load (aC rfl) au rfl ?_|refine V1.i ah ?_)
   exact⟨by simp[gx,h2],rfl⟩
theorem c87{w:Wd}{b:Nat}(s:By)(k:Int)(n:Nat)(a:At w b [str s])(hn:n<=s.length):
  Calls prog 87 #[.int .i64 k,.int .i64 n,ptr b] w (aZ (λv w'=>v=.tuple #[dm ⟨k,s.take n,0,0⟩,.int .i64 n,.nilIface]/\aD [] w w') NP):=by
 refine YQ ?_;unfold V8;have lb:=a.lt;refine V1.new (eW _) λb1 w1 N1=>?_;have oR:=N1.ge;have pJ:=N1.lt;have pK:=N1.aA.size;have a1:=N1.at_;try simp only[cells,toList_toArray]at a1
 replace a:=N1.a a;unfold ptr;refine V1.load (aC rfl) (a) rfl ?_;refine V1.i (yW _ s n hn) ?_;refine V1.i ah ?_;refine U1.tok (t:=⟨k,s.take n,0,0⟩) a1 rfl λw2 U2=>?_;exact⟨_,cA U2.at_,rfl,N1.aA.then U2.aA ak al⟩
theorem lY(w:Wd)(a:Int)(h:0<=a)(h':a<=255):(Go.convert 5 21 (.int .u8 a)).run prog w=.ok (.int .i32 a) w:=by
 simp[go_sem];first|done|rw[IntWalk.i32_in _ aj]
theorem zX(w:Wd)(c:UInt8):Calls prog 195 #[.int .i32 c.toNat] w (aZ (λv w'=>v=.int .i64 (cU c)/\w'=w) NP):=by
 refine P3 ?_;unfold HZ;have hc:=c.toNat_lt;have e1:cU c=if 48<=(c.toNat:Int)/\(c.toNat:Int)<=57 then(c.toNat:Int)-48 else if 97<=(c.toNat:Int)/\(c.toNat:Int)<=102 then(c.toNat:Int)-97+10 else-1:=by
  unfold cU;simp only[UInt8.le_iff_toNat_le,UInt8.reduceToNat];congr 1
  .apply propext;omega
  .congr 1;apply propext;omega
 rw[e1];have hx:0<=(c.toNat:Int)/\(c.toNat:Int)<=255:=by omega
 generalize(c.toNat:Int)=x at*;by_cases h1:48<=x<;>by_cases h2:x<=57<;>by_cases h3:97<=x<;>by_cases h4:x<=102<;>first|omega|skip
 all_goals
  repeat(first|refine J1.go ?_|refine J0.go ?_|refine Gd.tt ?_|refine Gd.ff ?_|refine Gd.tf ?_|refine Gd.ft ?_|refine Gd.u ?_|refine If.t ?_|refine If.f ?_|refine Up.i (Nc.p _ _) ?_|refine V1.load (aC rfl) au rfl ?_|refine V1.i (w':=w) (by simp[go_sem,h1,h2,h3,h4];first|done|rfl|exact⟨rfl,rfl⟩) ?_)
  first
   |(refine⟨?_,rfl⟩;simp[h1,h2,h3,h4];done)
   |(refine⟨?_,rfl⟩;simp[h1,h2,h3,h4];rw[IntWalk.i32_in _ aj,IntWalk.i64_in (x-_) aj];first|done|rw[IntWalk.i64_in _ aj])
def gk(w:Wd)(b:Nat):Prop:=dJ w b [(.int .u8 110,.int .u8 10),(.int .u8 116,.int .u8 9),(.int .u8 92,.int .u8 92),(.int .u8 34,.int .u8 34)]
theorem c194(w:Wd):Calls prog 194 #[] w (aZ (λv w'=>∃b,v=.map (some b)/\gk w' b/\w.heap.size<=b/\b<w'.heap.size/\aD [] w w') NP):=by
 refine P1 ?_;unfold HY;refine V1.map λb w1 m1 g1 k1=>?_;refine U1.hO (kt:=5) (et:=5) (d:=.int .u8) ai ai m1 rfl ak ak λw2 m2 z2 k2=>?_;refine U1.hO (kt:=5) (et:=5) (d:=.int .u8) ai ai m2 rfl (by simp[MapKept.IsKey]) ak λw3 m3 z3 k3=>?_;refine U1.hO (kt:=5) (et:=5) (d:=.int .u8) ai ai m3 rfl (by simp[MapKept.IsKey]) ak λw4 m4 z4 k4=>?_;refine U1.hO (kt:=5) (et:=5) (d:=.int .u8) ai ai m4 rfl (by simp[MapKept.IsKey]) ak λw5 m5 z5 k5=>?_;have:=m1.lt;exact⟨b,rfl,m5,g1,by omega,(((k1.trans' k2 al).trans' k3 al).trans' k4 al).trans' k5 al⟩
theorem gk.look{w:Wd}{b:Nat}(h:gk w b)(c:UInt8):(Instr.lookup 215 (.map (some b)) (.int .u8 c.toNat) true).run prog w=
  .ok (match yX c with|some v=>.tuple #[.int .u8 v.toNat,.bool true]|none=>.tuple #[.int .u8 0,.bool false]) w:=by
 have hm:prog.underlying 215=some (.map 5 5):=ai
 have hd:prog.underlying 5=some (.int .u8):=ai
 have lX:∀p∈[((.int .u8 110:Va),(.int .u8 10:Va)),(.int .u8 116,.int .u8 9),(.int .u8 92,.int .u8 92),(.int .u8 34,.int .u8 34)],MapKept.IsKey (.int .u8) p.1:=by simp[MapKept.IsKey]
 have hit:∀k v:Int,(∀p∈[((.int .u8 110:Va),(.int .u8 10:Va)),(.int .u8 116,.int .u8 9),(.int .u8 92,.int .u8 92),(.int .u8 34,.int .u8 34)],p.1=.int .u8 k->p.2=.int .u8 v)->
   (∃p∈[((.int .u8 110:Va),(.int .u8 10:Va)),(.int .u8 116,.int .u8 9),(.int .u8 92,.int .u8 92),(.int .u8 34,.int .u8 34)],p.1=.int .u8 k)->(Instr.lookup 215 (.map (some b)) (.int .u8 k) true).run prog w=.ok (.tuple #[.int .u8 v,.bool true]) w:=
  λk v h1 h2=>mF hm hd h (show MapKept.IsKey (.int .u8) (.int .u8 k)from rfl) lX h1 h2 true
 by_cases h1:c=110
 .subst h1;exact hit 110 10 ak ak
 by_cases h2:c=116
 .subst h2;exact hit 116 9 ak ak
 by_cases h3:c=92
 .subst h3;exact hit 92 92 ak ak
 by_cases h4:c=34
 .subst h4;exact hit 34 34 ak ak
 have e:yX c=none:=by simp[yX,h1,h2,h3,h4]
 rw[e];have ne:∀d:UInt8,¬c=d->¬(d.toNat:Int)=(c.toNat:Int):=λd h e=>h (UInt8.toNat_inj.1 aj);have n1:=ne 110 h1;have n2:=ne 116 h2;have n3:=ne 92 h3;have n4:=ne 34 h4;simp only[UInt8.reduceToNat]at n1 n2 n3 n4;refine kI hm hd h (show MapKept.IsKey (.int .u8) (.int .u8 c.toNat)from rfl) lX ?_ (z:=.int .u8 0) am true;simp
 exact⟨n1,n2,n3,n4⟩
end Go.Proofs.YtoddjlclpnoomaaGreatDoor

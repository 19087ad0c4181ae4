import Derived.LaidEql
import Derived.MapKept
import Derived.Maps.RangeRun
import Derived.Stop.Asserts
import Derived.Test.YtoddjlclpnoomaaGreatDoorV2
import Derived.Test.YtoddjlclpnoomaaGreatDoorV4
import Derived.Test.YtoddjlclpnoomaaGreatDoorV5
import Derived.Test.YtoddjlclpnoomaaGreatDoorV6
import Derived.Test.YtoddjlclpnoomaaGreatDoorV7
set_option linter.unusedVariables false
set_option linter.unusedSimpArgs false
set_option maxRecDepth 100000
namespace Go.Sh
variable {P : Program}
theorem least {p : Nat → Prop} : ∀ n, p n → ∃ m, p m ∧ ∀ k, p k → m ≤ k := by
 intro n; induction n using Nat.strongRecOn with
 | _ n ih =>
   intro h; by_cases hx : ∃ k, k < n ∧ p k
   · obtain ⟨k, hk, hp⟩ := hx; exact ih k hk hp
   · exact ⟨n, h, fun k hk => by
       rcases Nat.lt_or_ge k n with h1 | h1
       · exact absurd ⟨k, h1, hk⟩ hx
       · exact h1⟩
open Classical in
noncomputable def low (p : Nat → Prop) : Nat := if h : ∃ m, p m ∧ ∀ k, p k → m ≤ k then h.choose else 0
theorem low_spec {p : Nat → Prop} {n : Nat} (h : p n) : p (low p) ∧ ∀ k, p k → low p ≤ k := by
 have h' := least n h; unfold low; rw [dif_pos h']; exact h'.choose_spec
theorem Lp.g {D : Type} {l : List Value} {d : D} {w : World} {f : (List Value → D → World → Prop) → List Value → D → World → Prop} (J : Nat → List Value → D → World → Prop) (n : Nat) (h0 : J n l d w)
   (h : ∀ n l d w K, J n l d w → (∀ m l' d' w', m < n → J m l' d' w' → K l' d' w') → f K l d w) : Lp l d w f := by
 refine ⟨fun l d w => ∃ n, J n l d w, fun l d w => low fun n => J n l d w, ⟨n, h0⟩, ?_⟩; rintro l d w ⟨n, hn⟩; refine h _ l d w _ (low_spec (p := fun n => J n l d w) hn).1 ?_; intro m l' d' w' hm hj; exact ⟨⟨m, hj⟩, Nat.lt_of_le_of_lt ((low_spec (p := fun n => J n l' d' w') hj).2 m hj) hm⟩
theorem Sp.g {D : Type} {f : (List Value → D → World → Prop) → Prop} {g : (List Value → D → World → Prop) → List Value → D → World → Prop} (J : Nat → List Value → D → World → Prop)
   (h0 : ∀ K, (∀ m l' d' w', J m l' d' w' → K l' d' w') → f K)
   (h : ∀ n l d w K, J n l d w → (∀ m l' d' w', m < n → J m l' d' w' → K l' d' w') → g K l d w) : Sp f g := by
 refine ⟨fun l d w => ∃ n, J n l d w, fun l d w => low fun n => J n l d w, h0 _ fun m l' d' w' hj => ⟨m, hj⟩, ?_⟩; rintro l d w ⟨n, hn⟩; refine h _ l d w _ (low_spec (p := fun n => J n l d w) hn).1 ?_; intro m l' d' w' hm hj; exact ⟨⟨m, hj⟩, Nat.lt_of_le_of_lt ((low_spec (p := fun n => J n l' d' w') hj).2 m hj) hm⟩
theorem L0.g {w : World} {f : (World → Prop) → World → Prop} (J : Nat → World → Prop) (n : Nat) (h0 : J n w)
    (h : ∀ n  w K, J n w → (∀ m w', m < n → J m w' → K w') → f K w) : L0  w f :=
  Lp.g (D := Unit) (fun n l _ w => J n w) n h0 fun n l d w K hj hk => h n w _ hj fun m w' hm hj' => hk m [] () w' hm hj'
theorem L1.g {x0 : Value} {w : World} {f : (Value → World → Prop) → Value → World → Prop} (J : Nat → Value → World → Prop) (n : Nat) (h0 : J n x0 w)
    (h : ∀ n x0 w K, J n x0 w → (∀ m y0 w', m < n → J m y0 w' → K y0 w') → f K x0 w) : L1 x0 w f :=
  Lp.g (D := Unit) (fun n l _ w => J n (l.headD undef) w) n h0 fun n l d w K hj hk => h n _ w _ hj fun m y0 w' hm hj' => hk m [y0] () w' hm hj'
theorem D1L.g {x0 : Value} {d : List Deferred} {w : World} {f : (Value → List Deferred → World → Prop) → Value → List Deferred → World → Prop} (J : Nat → Value → List Deferred → World → Prop) (n : Nat) (h0 : J n x0 d w)
    (h : ∀ n x0 d w K, J n x0 d w → (∀ m y0 d' w', m < n → J m y0 d' w' → K y0 d' w') → f K x0 d w) : D1L x0 d w f :=
  Lp.g (D := List Deferred) (fun n l d w => J n (l.headD undef) d w) n h0 fun n l d w K hj hk => h n _ d w _ hj fun m y0 d' w' hm hj' => hk m [y0] d' w' hm hj'
theorem P2.g {f : (Value → Value → World → Prop) → Prop} {g : (Value → Value → World → Prop) → Value → Value → World → Prop} (J : Nat → Value → Value → World → Prop) (h0 : ∀ K : Value → Value → World → Prop, (∀ m y0 y1 w', J m y0 y1 w' → K y0 y1 w') → f K)
    (h : ∀ n x0 x1 w K, J n x0 x1 w → (∀ m y0 y1 w', m < n → J m y0 y1 w' → K y0 y1 w') → g K x0 x1 w) : P2 f g :=
  Sp.g (D := Unit) (fun n l _ w => J n (l.headD undef) (l.tail.headD undef) w) (fun K hk => h0 _ fun m y0 y1 w' hj => hk m [y0, y1] () w' hj) fun n l d w K hj hk => h n _ _ w _ hj fun m y0 y1 w' hm hj' => hk m [y0, y1] () w' hm hj'
theorem L3.g {x0 x1 x2 : Value} {w : World} {f : (Value → Value → Value → World → Prop) → Value → Value → Value → World → Prop} (J : Nat → Value → Value → Value → World → Prop) (n : Nat) (h0 : J n x0 x1 x2 w)
    (h : ∀ n x0 x1 x2 w K, J n x0 x1 x2 w → (∀ m y0 y1 y2 w', m < n → J m y0 y1 y2 w' → K y0 y1 y2 w') → f K x0 x1 x2 w) : L3 x0 x1 x2 w f :=
  Lp.g (D := Unit) (fun n l _ w => J n (l.headD undef) (l.tail.headD undef) (l.tail.tail.headD undef) w) n h0 fun n l d w K hj hk => h n _ _ _ w _ hj fun m y0 y1 y2 w' hm hj' => hk m [y0, y1, y2] () w' hm hj'
theorem L5.g {x0 x1 x2 x3 x4 : Value} {w : World} {f : (Value → Value → Value → Value → Value → World → Prop) → Value → Value → Value → Value → Value → World → Prop} (J : Nat → Value → Value → Value → Value → Value → World → Prop) (n : Nat) (h0 : J n x0 x1 x2 x3 x4 w)
    (h : ∀ n x0 x1 x2 x3 x4 w K, J n x0 x1 x2 x3 x4 w → (∀ m y0 y1 y2 y3 y4 w', m < n → J m y0 y1 y2 y3 y4 w' → K y0 y1 y2 y3 y4 w') → f K x0 x1 x2 x3 x4 w) : L5 x0 x1 x2 x3 x4 w f :=
  Lp.g (D := Unit) (fun n l _ w => J n (l.headD undef) (l.tail.headD undef) (l.tail.tail.headD undef) (l.tail.tail.tail.headD undef) (l.tail.tail.tail.tail.headD undef) w) n h0 fun n l d w K hj hk => h n _ _ _ _ _ w _ hj fun m y0 y1 y2 y3 y4 w' hm hj' => hk m [y0, y1, y2, y3, y4] () w' hm hj'
theorem P5.g {f : (Value → Value → Value → Value → Value → World → Prop) → Prop} {g : (Value → Value → Value → Value → Value → World → Prop) → Value → Value → Value → Value → Value → World → Prop} (J : Nat → Value → Value → Value → Value → Value → World → Prop) (h0 : ∀ K : Value → Value → Value → Value → Value → World → Prop, (∀ m y0 y1 y2 y3 y4 w', J m y0 y1 y2 y3 y4 w' → K y0 y1 y2 y3 y4 w') → f K)
    (h : ∀ n x0 x1 x2 x3 x4 w K, J n x0 x1 x2 x3 x4 w → (∀ m y0 y1 y2 y3 y4 w', m < n → J m y0 y1 y2 y3 y4 w' → K y0 y1 y2 y3 y4 w') → g K x0 x1 x2 x3 x4 w) : P5 f g :=
  Sp.g (D := Unit) (fun n l _ w => J n (l.headD undef) (l.tail.headD undef) (l.tail.tail.headD undef) (l.tail.tail.tail.headD undef) (l.tail.tail.tail.tail.headD undef) w) (fun K hk => h0 _ fun m y0 y1 y2 y3 y4 w' hj => hk m [y0, y1, y2, y3, y4] () w' hj) fun n l d w K hj hk => h n _ _ _ _ _ w _ hj fun m y0 y1 y2 y3 y4 w' hm hj' => hk m [y0, y1, y2, y3, y4] () w' hm hj'
def Quits (u : FrameMode) : Prop := u ≠ .run ∧ settle u = u
theorem Quits.ret : Quits .returning := ⟨(by intro h; cases h), rfl⟩
theorem Quits.pan (v : Value) : Quits (.panicking [{ v, recovered := false }]) := ⟨(by intro h; cases h), rfl⟩
theorem Lv.go {res : World → (Value → Prop) → Prop} {R : Ending → World → Prop} {f : FuncId} {a : List Value} {cap : Array Value} {ds : List Deferred} {u : FrameMode} {w : World} {C : Ending → World → Prop} (hu : Quits u)
   (hi : (invoke (.fn (.func f) cap) #[]).run P w = .ok (.enter f a.toArray) w) (hc : CallsD P f a.toArray u w fun e u' w' => u' = u ∧ C e w') (h : ∀ e w', C e w' → ∃ v, e = .returned v ∧ Lv P res R ds u w') :
   Lv P res R (⟨.fn (.func f) cap, #[]⟩ :: ds) u w := by
 refine ⟨hu.1, _, _, _, _, rfl, hi, ?_⟩; refine CallsD.mono hc ?_; rintro e u' w' ⟨rfl, he⟩; obtain ⟨v, rfl, h2⟩ := h e w' he; show Lv P res R ds (settle u') w'
 rw [hu.2]; exact h2
end Go.Sh

namespace Go.Proofs.YtoddjlclpnoomaaGreatDoor
open Go.Sh
def tokV (t : Tok) : Value := .agg #[.int .i64 t.kind, str t.text, .int .i64 t.n, .int .i64 t.line]
def ToksAt (w : World) (b : Nat) : Nat → List Tok → Prop
  | _, [] => True
  | o, t :: ts => (w.cell? ⟨b, o, none⟩ = some (.int .i64 t.kind) ∧ w.cell? ⟨b, o + 1, none⟩ = some (str t.text) ∧ w.cell? ⟨b, o + 2, none⟩ = some (.int .i64 t.n) ∧
      w.cell? ⟨b, o + 3, none⟩ = some (.int .i64 t.line)) ∧ ToksAt w b (o + 4) ts
theorem ToksAt.keep {M : List Nat} {w w' : World} (h : Keep M w w') {b : Nat} (hb : b ∉ M) : ∀ (ts : List Tok) (o : Nat), ToksAt w b o ts → ToksAt w' b o ts
  | [], _, _ => trivial
  | t :: ts, o, ⟨⟨h0, h1, h2, h3⟩, hr⟩ => ⟨⟨h.cell h0 hb, h.cell h1 hb, h.cell h2 hb, h.cell h3 hb⟩, ToksAt.keep h hb ts _ hr⟩
def SAt (bind : List UInt8 → Int) (w : World) (b : Nat) : Prop := ∃ es c, w.heap[b]? = some (.map es c) ∧
  ∀ s w1, w1.heap[b]? = some (.map es c) → (Instr.lookup 80 (.map (some b)) (str s) false).run Tryz.prog w1 = .ok (.int .i64 (bind s)) w1
theorem SAt.keep {bind : List UInt8 → Int} {M : List Nat} {w w' : World} (h : Keep M w w') {b : Nat} (hb : b ∉ M) : SAt bind w b → SAt bind w' b := by
 rintro ⟨es, c, h1, h2⟩; refine ⟨es, c, ?_, h2⟩; rw [h.same b ?_ hb, h1]; rcases Nat.lt_or_ge b w.heap.size with h' | h'
 · exact h'
 · rw [Array.getElem?_eq_none h'] at h1; cases h1
structure Psr where
  p : Nat
  bt : Nat
  bm : Nat
structure PS (w : World) (x : Psr) (ts : List Tok) (deep : Int) (own : Bool) : Prop where
  ex : ∃ o c, At w x.p [.slice (some ⟨x.bt, o, none⟩) ts.length c, .map (some x.bm), .int .i64 deep, .bool own] ∧ ts.length ≤ c ∧ ToksAt w x.bt o ts
  sat : SAt bindN w x.bm
  tp : x.bt ≠ x.p
  mp : x.bm ≠ x.p
  ltt : x.bt < w.heap.size
  ne : ts ≠ []
theorem PS.ltp {w : World} {x : Psr} {ts : List Tok} {deep : Int} {own : Bool} (h : PS w x ts deep own) : x.p < w.heap.size := by
 obtain ⟨o, c, h, _⟩ := h.ex; exact h.lt
theorem PS.ltm {w : World} {x : Psr} {ts : List Tok} {deep : Int} {own : Bool} (h : PS w x ts deep own) : x.bm < w.heap.size := by
 obtain ⟨es, c, hm, _⟩ := h.sat
 rcases Nat.lt_or_ge x.bm w.heap.size with h' | h'
 · exact h'
 · rw [Array.getElem?_eq_none h'] at hm; cases hm
theorem PS.keep {w w' : World} {x : Psr} {ts : List Tok} {deep : Int} {own : Bool} {M : List Nat} (h : PS w x ts deep own) (hk : Keep M w w') (hp : x.p ∉ M) (ht : x.bt ∉ M) (hm : x.bm ∉ M) : PS w' x ts deep own := by
 obtain ⟨o, c, h1, h2, h3⟩ := h.ex; exact ⟨⟨o, c, hk.at h1 hp, h2, ToksAt.keep hk ht _ _ h3⟩, h.sat.keep hk hm, h.tp, h.mp, Nat.lt_of_lt_of_le h.ltt hk.size, h.ne⟩
theorem PS.new {w w' : World} {x : Psr} {ts : List Tok} {deep : Int} {own : Bool} (h : PS w x ts deep own) (hk : Keep [] w w') : PS w' x ts deep own := h.keep hk (by simp) (by simp) (by simp)
theorem U1.tok {w : World} {b : Nat} {cs : List Value} {t : Tok} {k : World → Prop} {e : List PanicEntry → World → Prop} (hA : At w b cs) (hl : cs.length = 4)
   (hk : ∀ w', Upd w b [.int .i64 t.kind, str t.text, .int .i64 t.n, .int .i64 t.line] w' → k w') : U1 Tryz.prog (Instr.storeAt 86 (ptr b) (tokV t)) w k e := by
 match cs, hl with
 | [c0, c1, c2, c3], _ =>
   have h0 := hA.set 0 (.int .i64 t.kind); have h1 := h0.set 1 (str t.text); have h2 := h1.set 2 (.int .i64 t.n); have h3 := h2.set 3 (.int .i64 t.line); refine U1.i (w' := (((w.setCell ⟨b, 0, none⟩ (.int .i64 t.kind)).setCell ⟨b, 1, none⟩ (str t.text)).setCell ⟨b, 2, none⟩ (.int .i64 t.n)).setCell ⟨b, 3, none⟩ (.int .i64 t.line)) (v := ()) ?_ (hk _ ⟨h3, by simp [World.setCell], ?_, fun q => by simp only [shape_set]⟩)
   · simp [go_sem, tokV, ptr, str, hA.cell, hA.fr]
   · exact ((((Keep.refl _ _).set _ (.inl (by simp))).set _ (.inl (by simp))).set _ (.inl (by simp))).set _ (.inl (by simp))
theorem ld_tok {w : World} {b : Nat} {t : Tok} (hA : At w b [.int .i64 t.kind, str t.text, .int .i64 t.n, .int .i64 t.line]) :
    (Instr.loadAt 86 (ptr b)).run Tryz.prog w = .ok (tokV t) w := ldc86 w b 0 _ _ _ _ (by rw [hA.cell]; rfl) (by rw [hA.cell]; rfl) (by rw [hA.cell]; rfl) (by rw [hA.cell]; rfl)
theorem c31 {w : World} {x : Psr} {t : Tok} {ts : List Tok} {deep : Int} {own : Bool} (h : PS w x (t :: ts) deep own) :
   Calls Tryz.prog 31 #[ptr x.p] w (Ret (fun v w' => v = tokV t ∧ Keep [] w w') NP) := by
 refine s31 ?_; unfold S31; obtain ⟨o, c, h1, h2, ⟨⟨q0, q1, q2, q3⟩, _⟩⟩ := h.ex; refine V1.new (al86 _) fun b w1 N => ?_; replace h1 := N.a h1; repeat (first | refine Up.i (Nc.p _ _) ?_ | refine V1.load (oneAll rfl) (by assumption) rfl ?_ | refine V1.i (by simp [go_sem] <;> trivial) ?_)
 refine V1.i (ldc86 _ _ _ _ _ _ _ (N.keep.cell q0 (by simp)) (N.keep.cell q1 (by simp)) (N.keep.cell q2 (by simp)) (N.keep.cell q3 (by simp))) ?_; refine U1.tok (t := t) N.at_ rfl fun w2 U => ?_; exact ⟨_, ld_tok U.at_, rfl, N.keep.trans' U.keep (by simp; have := N.ge; omega)⟩
theorem c107 {w : World} {x : Psr} {t : Tok} {ts : List Tok} {deep : Int} {own : Bool} (h : PS w x (t :: ts) deep own) :
   Calls Tryz.prog 107 #[ptr x.p] w (Ret (fun v w' => v = tokV t ∧ PS w' x (adv (t :: ts)) deep own ∧ Keep [x.p] w w') NP) := by
 refine s107 ?_; unfold S107; have lp := h.ltp; have lt := h.ltt; have lm := h.ltm; obtain ⟨o, c, h1, h2, ⟨⟨q0, q1, q2, q3⟩, q4⟩⟩ := h.ex; refine V1.new (al86 _) fun b2 w1 N => ?_; replace h1 := N.a h1; have g2 := N.ge; repeat (first | refine Up.i (Nc.p _ _) ?_ | refine V1.load (oneAll rfl) (by assumption) rfl ?_ | refine V1.i (by simp [go_sem] <;> trivial) ?_)
 refine V1.i (ldc86 _ _ _ _ _ _ _ (N.keep.cell q0 (by simp)) (N.keep.cell q1 (by simp)) (N.keep.cell q2 (by simp)) (N.keep.cell q3 (by simp))) ?_; have a2 := N.at_; refine V1.new (al86 _) fun b3 w2 N3 => ?_; have g3 := N3.ge; have l2 := N.lt; have K2 := N.keep.trans N3.keep; replace h1 := N3.a h1; replace a2 := N3.a a2; refine U1.tok (t := t) N3.at_ rfl fun w3 U => ?_; have a3 := U.at_; replace h1 := U.keep.at h1 (by simp; omega); replace a2 := U.keep.at a2 (by simp; omega); have K3 := K2.trans' U.keep (by simp; omega); have h0 : PS w3 x (t :: ts) deep own := h.new K3; have l3 := N3.lt; have l4 := U.size; refine J0.cut (fun w' => At w' b2 [.int .i64 0, .string ⟨#[]⟩, .int .i64 0, .int .i64 0] ∧ At w' b3 [.int .i64 t.kind, str t.text, .int .i64 t.n, .int .i64 t.line] ∧ PS w' x (adv (t :: ts)) deep own ∧ Keep [x.p] w w') ?_ ?_
 · repeat (first | refine Up.i (Nc.p _ _) ?_ | refine V1.load (oneAll rfl) (by assumption) rfl ?_ | refine V1.i (by simp [go_sem] <;> trivial) ?_)
   cases ts with
   | nil =>
     refine If.b (fun hb => ?_) (fun hb => ?_)
     · simp at hb
     · exact ⟨a2, a3, h0, K3.mono (by simp)⟩
   | cons u ts =>
     refine If.b (fun hb => ?_) (fun hb => ?_)
     · repeat (first | refine Up.i (Nc.p _ _) ?_ | refine V1.load (oneAll rfl) (by assumption) rfl ?_ | refine V1.i (by simp [go_sem] <;> trivial) ?_)
       refine V1.i (sl73 _ (by simp) h2) ?_; repeat (first | refine Up.i (Nc.p _ _) ?_ | refine V1.load (oneAll rfl) (by assumption) rfl ?_ | refine V1.i (by simp [go_sem] <;> trivial) ?_)
       refine U1.store (onesAll rfl rfl) (h1) (by simp) fun w4 U4 => ?_; have K4 : Keep [x.p] w w4 := K3.then U4.keep (by simp) (by simp)
       refine ⟨U4.keep.at a2 (by simp; omega), U4.keep.at a3 (by simp; omega), ⟨⟨o + 4, c - 1, U4.at_, ?_, ToksAt.keep K4 (by simp; exact h.tp) _ _ q4⟩, h.sat.keep K4 (by simp; exact h.mp), h.tp, h.mp, Nat.lt_of_lt_of_le h.ltt K4.size, by simp [adv]⟩, K4⟩; simp at h2; simp [adv]; omega
     · simp at hb
       omega
 · rintro w' ⟨a2, a3, hp, hk⟩; refine V1.i (ld_tok a3) ?_; refine U1.tok (t := t) a2 rfl fun w5 U5 => ?_; refine ⟨_, ld_tok U5.at_, rfl, hp.keep U5.keep (by simp; omega) (by simp; omega) (by simp; omega), hk.then U5.keep (by simp) (by simp; omega)⟩
theorem isB_step {t : Tok} {ss : List (List UInt8)} {k : Nat} (hk : k < ss.length) (h : isB t (ss.take k) = false) (h1 : (t.kind == 4) = true → (t.text == ss[k]) = false) : isB t (ss.take (k + 1)) = false := by
 unfold isB at *
 cases hc : (t.kind == 4) with
 | false => rfl
 | true =>
   rw [hc] at h; have := h1 hc; rw [List.take_succ_eq_append_getElem hk]; simp only [Bool.true_and, List.contains_eq_mem, decide_eq_false_iff_not, List.mem_append, List.mem_singleton, not_or] at h ⊢; exact ⟨h, by simpa using this⟩
def strs (b n : Nat) : Value := .slice (some ⟨b, 0, none⟩) n n
theorem c99 {w : World} {x : Psr} {t : Tok} {ts : List Tok} {deep : Int} {own : Bool} {b : Nat} {ss : List (List UInt8)} (h : PS w x (t :: ts) deep own) (hb : At w b (ss.map str)) (hn : ss.length ≤ 100) :
   Calls Tryz.prog 99 #[ptr x.p, strs b ss.length] w (Ret (fun v w' => v = .bool (isB t ss) ∧ Keep [] w w') NP) := by
 refine s99 ?_; unfold S99 strs; have lb := hb.lt; refine cf31 (c31 h) ?_ (NP.no (e := _)); rintro _ w1 ⟨rfl, K1⟩; have l1 := K1.size; replace hb := K1.at hb (by simp); refine V1.new (al86 _) fun b2 w2 N => ?_; replace hb := N.a hb; have g2 := N.ge; refine U1.tok (t := t) N.at_ rfl fun w3 U => ?_; have a2 := U.at_; have K3 : Keep [] w w3 := (K1.trans N.keep).then U.keep (by simp) (by simp; omega)
 replace hb := U.keep.at hb (by simp; omega); repeat (first | refine Up.i (Nc.p _ _) ?_ | refine V1.load (oneAll rfl) (by assumption) rfl ?_ | refine V1.i (by simp [go_sem] <;> trivial) ?_)
 refine L2.i (fun u v w' => w' = w3 ∧ u = .bool false ∧ ∃ k : Nat, k ≤ ss.length ∧ v = .int .i64 k ∧ isB t (ss.take k) = false) (fun u v w' => match v with | .int _ n => (ss.length - n.toNat) | _ => 0) ⟨rfl, rfl, 0, by omega, rfl, by simp [isB]⟩ ?_; rintro u v w' ⟨rfl, rfl, k, hk, rfl, hm⟩; by_cases hlt' : k < ss.length
 · repeat (first | refine Up.i (Nc.p _ _) ?_ | refine V1.load (oneAll rfl) (by assumption) rfl ?_ | refine V1.i (by simp [go_sem] <;> trivial) ?_)
   refine If.b (fun hlt => ?_) (fun hlt => by simp at hlt; omega); refine V1.i (ix45 _ hlt') ?_; refine V1.load (oneAll rfl) hb (v := str ss[k]) (by simp [hlt']) ?_; repeat (first | refine Up.i (Nc.p _ _) ?_ | refine V1.load (oneAll rfl) (by assumption) rfl ?_ | refine V1.i (by simp [go_sem] <;> trivial) ?_)
   refine J1.go (Gd.b (fun hc => ?_) (fun hc => ?_))
   · repeat (first | refine Up.i (Nc.p _ _) ?_ | refine V1.load (oneAll rfl) (by assumption) rfl ?_ | refine V1.i (by simp [go_sem, hc] <;> trivial) ?_)
     refine If.b (fun he => ?_) (fun he => ?_)
     · refine ⟨?_, K3⟩; have : t.text = ss[k] := by simpa using he
       rw [isB, hc, this]; simp
     · refine V1.i (addI _ _ _ _ _ _ (by omega) (by omega)) ?_; exact ⟨⟨rfl, rfl, k + 1, by omega, by simp, isB_step hlt' hm fun _ => he⟩, by simp; omega⟩
   · repeat (first | refine Up.i (Nc.p _ _) ?_ | refine V1.load (oneAll rfl) (by assumption) rfl ?_ | refine V1.i (by simp [go_sem, hc] <;> trivial) ?_)
     refine If.f ?_; refine V1.i (addI _ _ _ _ _ _ (by omega) (by omega)) ?_; exact ⟨⟨rfl, rfl, k + 1, by omega, by simp, isB_step hlt' hm fun h => by rw [hc] at h; cases h⟩, by simp; omega⟩
 · repeat (first | refine Up.i (Nc.p _ _) ?_ | refine V1.load (oneAll rfl) (by assumption) rfl ?_ | refine V1.i (by simp [go_sem] <;> trivial) ?_)
   refine If.b (fun hlt => by simp at hlt; omega) (fun hlt => ?_); have : k = ss.length := by omega
   subst this; refine ⟨?_, K3⟩; simpa using hm
def Fails (M : List Nat) (w : World) (x : Psr) (code : Int) (c : List PanicEntry) (w' : World) : Prop :=
  (∃ b line, c = [{ v := .iface 78 (.agg [ptr b].toArray), recovered := false }] ∧ At w' b [.int .i64 code, .int .i64 line] ∧ w.heap.size ≤ b) ∧ (∃ ts deep own, PS w' x ts deep own) ∧ Keep M w w'
theorem Fails.pre {M N : List Nat} {w0 w w' : World} {x : Psr} {code : Int} {c : List PanicEntry} (h : Fails M w x code c w') (hk : Keep N w0 w) (hM : ∀ i ∈ M, i < w0.heap.size → i ∈ N) : Fails N w0 x code c w' := by
 obtain ⟨⟨b, l, h1, h2, h3⟩, h4, h5⟩ := h; exact ⟨⟨b, l, h1, h2, by have := hk.size; omega⟩, h4, hk.trans' h5 hM⟩
theorem c32 {w : World} {x : Psr} {t : Tok} {ts : List Tok} {deep : Int} {own : Bool} (code : Int) (h : PS w x (t :: ts) deep own) :
   Calls Tryz.prog 32 #[ptr x.p, .int .i64 code] w (Ret (fun _ _ => False) (Fails [x.p] w x code)) := by
 refine s32 ?_; unfold S32; refine cf31 (c31 h) ?_ (NP.no (e := _)); rintro _ w1 ⟨rfl, K1⟩; unfold tokV; refine V1.i (by simp [go_sem] <;> trivial) ?_; refine V1.i (by simp [go_sem] <;> trivial) ?_; refine V1.new (bx69 _ _) fun b w2 N => ?_; repeat (first | refine Up.i (Nc.p _ _) ?_ | refine V1.load (oneAll rfl) (by assumption) rfl ?_ | refine V1.i (by simp [go_sem] <;> trivial) ?_)
 refine V1.p (by simp [go_sem]; first | done | exact ⟨rfl, rfl⟩) ?_; exact ⟨⟨b, _, rfl, N.at_, by have := N.ge; have := K1.size; omega⟩, ⟨_, _, _, (h.new K1).new N.keep⟩, (K1.trans N.keep).mono (by simp)⟩
theorem c158 {w : World} {x : Psr} {t : Tok} {ts : List Tok} {deep : Int} {own : Bool} (s : List UInt8) (h : PS w x (t :: ts) deep own) :
   Calls Tryz.prog 158 #[ptr x.p, str s] w (Ret (fun v w' => v = .bool (isB t [s]) ∧ PS w' x (if isB t [s] then adv (t :: ts) else t :: ts) deep own ∧ Keep [x.p] w w') NP) := by
 refine s158 ?_; unfold S158; have lp := h.ltp; refine V1.newSlice (by simp [go_sem] <;> trivial) fun b w1 N => ?_; refine cf99 ((c99 (ss := [s]) (h.new N.keep) N.at_ (by simp))) ?_ (NP.no (e := _)); rintro _ w2 ⟨rfl, K2⟩; have h2 := (h.new N.keep).new K2; have K : Keep [] w w2 := N.keep.trans K2; refine J0.go (If.b (fun hb => ?_) (fun hb => ?_))
 · refine cf107 (c107 h2) ?_ (NP.no (e := _)); rintro _ w3 ⟨rfl, h3, K3⟩; rw [hb]; exact ⟨rfl, h3, K.then K3 (by simp) (by simp)⟩
 · rw [hb]; exact ⟨rfl, h2, K.mono (by simp)⟩
theorem c106 {w : World} {x : Psr} {t : Tok} {ts : List Tok} {deep : Int} {own : Bool} (s : List UInt8) (h : PS w x (t :: ts) deep own) :
   Calls Tryz.prog 106 #[ptr x.p, str s] w (Ret (fun v w' => isB t [s] = true ∧ v = .int .i64 t.line ∧ PS w' x (adv (t :: ts)) deep own ∧ Keep [x.p] w w') (fun c w' => isB t [s] = false ∧ Fails [x.p] w x 4 c w')) := by
 refine s106 ?_; unfold S106; refine J0.go ?_; refine V1.newSlice (by simp [go_sem] <;> trivial) fun b w1 N => ?_; refine cf99 ((c99 (ss := [s]) (h.new N.keep) N.at_ (by simp))) ?_ (NP.no (e := _)); rintro _ w2 ⟨rfl, K2⟩; have h2 := (h.new N.keep).new K2; have K : Keep [] w w2 := N.keep.trans K2; repeat (first | refine Up.i (Nc.p _ _) ?_ | refine V1.load (oneAll rfl) (by assumption) rfl ?_ | refine V1.i (by simp [go_sem] <;> trivial) ?_)
 refine If.b (fun hb => ?_) (fun hb => ?_)
 · refine cf32 (c32 4 h2) ?_ ?_
   · rintro _ _ h; exact h.elim
   · intro c w3 hF; exact ⟨by simpa using hb, hF.pre (K.mono (by simp)) (by simp)⟩
 · refine cf107 (c107 h2) ?_ (NP.no (e := _)); rintro _ w3 ⟨rfl, h3, K3⟩; unfold tokV; repeat (first | refine Up.i (Nc.p _ _) ?_ | refine V1.load (oneAll rfl) (by assumption) rfl ?_ | refine V1.i (by simp [go_sem] <;> trivial) ?_)
   exact ⟨by simpa using hb, rfl, h3, K.then K3 (by simp) (by simp)⟩
theorem c104 {w : World} {x : Psr} {t : Tok} {ts : List Tok} {deep : Int} {own : Bool} (h : PS w x (t :: ts) deep own) :
   Calls Tryz.prog 104 #[ptr x.p] w (Ret (fun v w' => t.kind = 1 ∧ v = tokV t ∧ PS w' x (adv (t :: ts)) deep own ∧ Keep [x.p] w w') (fun c w' => t.kind ≠ 1 ∧ Fails [x.p] w x 4 c w')) := by
 refine s104 ?_; unfold S104; have lp := h.ltp; have lt := h.ltt; have lm := h.ltm; refine V1.new (al86 _) fun b w1 N => ?_; have g1 := N.ge; have h1 := h.new N.keep; refine J0.go ?_; refine cf31 (c31 h1) ?_ (NP.no (e := _)); rintro _ w2 ⟨rfl, K2⟩; have h2 := h1.new K2; have a2 := K2.at N.at_ (by simp); have K : Keep [] w w2 := N.keep.trans K2; rw [tokV]; repeat (first | refine Up.i (Nc.p _ _) ?_ | refine V1.load (oneAll rfl) (by assumption) rfl ?_ | refine V1.i (by simp [go_sem] <;> trivial) ?_)
 refine If.b (fun hb => ?_) (fun hb => ?_)
 · refine cf32 (c32 4 h2) ?_ ?_
   · rintro _ _ h; exact h.elim
   · intro c w3 hF; exact ⟨by simpa using hb, hF.pre (K.mono (by simp)) (by simp)⟩
 · refine cf107 (c107 h2) ?_ (NP.no (e := _)); rintro _ w3 ⟨rfl, h3, K3⟩; refine U1.tok (t := t) (K3.at a2 (by simp; omega)) rfl fun w5 U5 => ?_; refine ⟨_, ld_tok U5.at_, by simpa using hb, rfl, h3.keep U5.keep (by simp; omega) (by simp; omega) (by simp; omega), (K.then (L := [x.p]) K3 (by simp) (by simp)).then U5.keep (by simp) (by simp; omega)⟩
theorem c57 {w : World} {x : Psr} {t : Tok} {ts : List Tok} {deep : Int} {own : Bool} (h : PS w x (t :: ts) deep own) :
   Calls Tryz.prog 57 #[ptr x.p] w (Ret (fun v w' => v = .bool (endsB t) ∧ Keep [] w w') NP) := by
 refine s57 ?_; unfold S57; refine cf31 (c31 h) ?_ (NP.no (e := _)); rintro _ w1 ⟨rfl, K1⟩; rw [tokV]; repeat (first | refine Up.i (Nc.p _ _) ?_ | refine V1.load (oneAll rfl) (by assumption) rfl ?_ | refine V1.i (by simp [go_sem] <;> trivial) ?_)
 refine J1.go (Gd.b (fun hc => ?_) (fun hc => ?_))
 · refine V1.newSlice (by simp [go_sem] <;> trivial) fun b w2 N => ?_; refine cf99 ((c99 (ss := [[101, 110, 100], [101, 108, 115, 101], [101, 108, 115, 101, 105, 102], [99, 97, 116, 99, 104]]) ((h.new K1).new N.keep) N.at_ (by simp))) ?_ (NP.no (e := _)); rintro _ w3 ⟨rfl, K3⟩; repeat (first | refine Up.i (Nc.p _ _) ?_ | refine V1.load (oneAll rfl) (by assumption) rfl ?_ | refine V1.i (by simp [go_sem, hc] <;> trivial) ?_)
   exact ⟨by simp [endsB, hc], (K1.trans N.keep).trans K3⟩
 · repeat (first | refine Up.i (Nc.p _ _) ?_ | refine V1.load (oneAll rfl) (by assumption) rfl ?_ | refine V1.i (by simp [go_sem, hc] <;> trivial) ?_)
   exact ⟨by simp at hc; simp [endsB, hc], K1⟩
end Go.Proofs.YtoddjlclpnoomaaGreatDoor
namespace Go.Sh
variable {P : Program} {w : World}
def entries (l : List (Value × Value)) : List MapEntry := l.zipIdx.map fun p => { key := p.1.1, val := p.1.2, born := p.2 }
def MapAt (w : World) (b : Nat) (l : List (Value × Value)) : Prop := w.heap[b]? = some (.map (entries l).toArray l.length)
theorem entries_snoc (l : List (Value × Value)) (k v : Value) : entries (l ++ [(k, v)]) = entries l ++ [{ key := k, val := v, born := l.length }] := by
 simp [entries, List.zipIdx_append]
theorem MapAt.lt {b : Nat} {l : List (Value × Value)} (h : MapAt w b l) : b < w.heap.size := by
 unfold MapAt at h; rcases Nat.lt_or_ge b w.heap.size with h' | h'
 · exact h'
 · rw [Array.getElem?_eq_none h'] at h; cases h
theorem MapAt.keep {M : List Nat} {w' : World} {b : Nat} {l : List (Value × Value)} (h : MapAt w b l) (hk : Keep M w w') (hb : b ∉ M) : MapAt w' b l := by
 have := h.lt; unfold MapAt at *; rw [hk.same b this hb, h]
theorem V1.map {t : TypeId} {k : Value → World → Prop} {e : List PanicEntry → World → Prop}
    (hk : ∀ b w', MapAt w' b [] → w.heap.size ≤ b → Keep [] w w' → k (.map (some b)) w') : V1 P (Instr.makeMap t none) w k e :=
  V1.i (v := .map (some w.heap.size)) (w' := w.alloc (.map #[] 0)) rfl (hk _ _ (by unfold MapAt; rw [alloc_get, if_pos rfl]; rfl) (Nat.le_refl _) ((Keep.refl _ _).alloc _))
theorem mem_entries {l : List (Value × Value)} {x : MapEntry} (h : x ∈ entries l) : (x.key, x.val) ∈ l := by
 simp only [entries, List.mem_map, Prod.exists] at h; obtain ⟨a, b, i, h1, rfl⟩ := h; have := (List.mem_zipIdx h1).2.2; simp only [Nat.sub_zero] at this; have h2 := (List.mem_zipIdx h1); rw [this]; exact List.getElem_mem _
theorem U1.mapAdd {mt kt et : TypeId} {d : TypeDesc} {b : Nat} {l : List (Value × Value)} {key val : Value} {k : World → Prop} {e : List PanicEntry → World → Prop} (hm : P.underlying mt = some (.map kt et)) (hd : P.underlying kt = some d)
   (h : MapAt w b l) (hk : MapKept.IsKey d key) (hks : ∀ p ∈ l, MapKept.IsKey d p.1) (hnew : ∀ p ∈ l, p.1 ≠ key)
   (hK : ∀ w', MapAt w' b (l ++ [(key, val)]) → w'.heap.size = w.heap.size → Keep [b] w w' → k w') : U1 P (Instr.mapUpdate mt (.map (some b)) key val) w k e := by
 have hl := h.lt; have hf : Instr.findNow d key (entries l) 0 = some none := by
   rcases MapKept.findNow_spec hk (entries l) 0 (fun x hx => hks _ (mem_entries hx)) with h1 | ⟨j, e, h1, h2, h3⟩
   · exact h1.1
   · exact absurd h3 (hnew _ (mem_entries (List.mem_of_getElem? h2)))
 unfold MapAt at h; refine U1.i (v := ()) (w' := { w with heap := w.heap.setIfInBounds b (.map ((entries l).toArray.push { key := key, val := val, born := l.length }) (l.length + 1)) }) ?_ (hK _ ?_ ?_ ?_)
 · have hc : (Instr.checkKey false 10000 kt key).run P w = .ok () w := MapKept.run_checkKey hd hk false 9999; simp [Instr.mapUpdate, run_underlying hm, MapKept.run_getObj_map h, hc, MapKept.run_findKey hd hf, MapKept.run_setObj_map _ h, Result.andThen]
 · unfold MapAt; simp [entries_snoc, hl]
 · simp
 · exact ⟨by simp, fun i hi hm => by
     have : b ≠ i := fun e => hm (by simp [e]); simp [Array.getElem?_setIfInBounds_ne this], rfl, rfl⟩
theorem look_hit {mt kt et : TypeId} {d : TypeDesc} {b : Nat} {l : List (Value × Value)} {key v : Value} (hm : P.underlying mt = some (.map kt et)) (hd : P.underlying kt = some d)
   (h : MapAt w b l) (hk : MapKept.IsKey d key) (hks : ∀ p ∈ l, MapKept.IsKey d p.1) (hv : ∀ p ∈ l, p.1 = key → p.2 = v) (hex : ∃ p ∈ l, p.1 = key) (ok : Bool) :
   (Instr.lookup mt (.map (some b)) key ok).run P w = .ok (if ok then .tuple #[v, .bool true] else v) w := by
 rcases MapKept.findNow_spec hk (entries l) 0 (fun x hx => hks _ (mem_entries hx)) with ⟨h1, h2⟩ | ⟨j, e, h1, h2, h3⟩
 · obtain ⟨p, hp, rfl⟩ := hex; obtain ⟨i, hi, rfl⟩ := List.mem_iff_getElem.1 hp; exact absurd rfl (h2 { key := l[i].1, val := l[i].2, born := i } (by
     simp only [entries, List.mem_map]; exact ⟨(l[i], i), by simp [List.mem_zipIdx_iff_getElem?, hi], rfl⟩))
 · have hval : e.val = v := hv _ (mem_entries (List.mem_of_getElem? h2)) h3; rw [hval] at h1; unfold MapAt at h; have hc : ∀ q, (Instr.checkKey q 10000 kt key).run P w = .ok () w := fun q => MapKept.run_checkKey hd hk q 9999
   cases ok <;> simp [Instr.lookup, run_underlying hm, MapKept.run_getObj_map h, hc, MapKept.run_findKey hd h1, Result.andThen, Sem.run_bind]
theorem look_miss {mt kt et : TypeId} {d : TypeDesc} {b : Nat} {l : List (Value × Value)} {key z : Value} (hm : P.underlying mt = some (.map kt et)) (hd : P.underlying kt = some d)
   (h : MapAt w b l) (hk : MapKept.IsKey d key) (hks : ∀ p ∈ l, MapKept.IsKey d p.1) (hno : ∀ p ∈ l, p.1 ≠ key) (hz : (zeroValue et).run P w = .ok z w) (ok : Bool) :
   (Instr.lookup mt (.map (some b)) key ok).run P w = .ok (if ok then .tuple #[z, .bool false] else z) w := by
 rcases MapKept.findNow_spec hk (entries l) 0 (fun x hx => hks _ (mem_entries hx)) with ⟨h1, h2⟩ | ⟨j, e, h1, h2, h3⟩
 · unfold MapAt at h; have hc : ∀ q, (Instr.checkKey q 10000 kt key).run P w = .ok () w := fun q => MapKept.run_checkKey hd hk q 9999
   cases ok <;> simp [Instr.lookup, run_underlying hm, MapKept.run_getObj_map h, hc, MapKept.run_findKey hd h1, Result.andThen, Sem.run_bind, hz]
 · exact absurd h3 (hno _ (mem_entries (List.mem_of_getElem? h2)))
open Go.ChangeMaps (setBlock)
def ItAt (w : World) (r b : Nat) (l left : List (Value × Value)) : Prop :=
  ∃ seen, w.heap[r]? = some (.mapIter (some b) l.length seen l.length) ∧ (leftOf (entries l).toArray seen).toList.map (fun e => (e.key, e.val)) = left
theorem ItAt.lt {r b : Nat} {l left : List (Value × Value)} (h : ItAt w r b l left) : r < w.heap.size := by
 obtain ⟨seen, h, _⟩ := h; rcases Nat.lt_or_ge r w.heap.size with h' | h'
 · exact h'
 · rw [Array.getElem?_eq_none h'] at h; cases h
theorem ItAt.keep {M : List Nat} {w' : World} {r b : Nat} {l left : List (Value × Value)} (h : ItAt w r b l left) (hk : Keep M w w') (hr : r ∉ M) : ItAt w' r b l left := by
 have := h.lt; obtain ⟨seen, h, h2⟩ := h; exact ⟨seen, by rw [hk.same r this hr, h], h2⟩
theorem entries_get {l : List (Value × Value)} {x : MapEntry} (h : x ∈ entries l) : ∃ i, ∃ hi : i < l.length, (x.key, x.val) = l[i] ∧ x.born = i := by
 simp only [entries, List.mem_map, Prod.exists] at h; obtain ⟨a, b, i, h1, rfl⟩ := h; have h2 := List.mem_zipIdx h1; have hi : i < l.length := by have := h2.2.1; omega
 refine ⟨i, hi, ?_, rfl⟩; have := h2.2.2; simpa using this
theorem entries_born {l : List (Value × Value)} {x : MapEntry} (h : x ∈ entries l) : x.born < l.length := by
 simp only [entries, List.mem_map, Prod.exists] at h; obtain ⟨a, b, i, h1, rfl⟩ := h; have := (List.mem_zipIdx h1); simp; omega
theorem entries_nodup (l : List (Value × Value)) : ((entries l).map (·.born)).Nodup := by
 have : (entries l).map (·.born) = List.range' 0 l.length := by
   simp [entries, Function.comp_def]
 rw [this]; exact List.nodup_range'
theorem V1.rangeMap {t kt et : TypeId} {b : Nat} {l : List (Value × Value)} {k : Value → World → Prop} {e : List PanicEntry → World → Prop} (ht : P.underlying t = some (.map kt et)) (h : MapAt w b l)
   (hk : ∀ r w', ItAt w' r b l l → w.heap.size ≤ r → Keep [] w w' → k (.pointer (some ⟨r, 0, none⟩)) w') : V1 P (Instr.range t (.map (some b))) w k e := by
 refine V1.i (run_range_map w t kt et b _ _ ht h) (hk _ _ ⟨#[], by rw [alloc_get, if_pos rfl], ?_⟩ (Nat.le_refl _) ((Keep.refl _ _).alloc _)); simp only [leftOf, Array.contains_eq_mem, List.size_toArray]; simp [entries]
 rw [List.filter_eq_self.2 (by simp)]; simp [Function.comp_def]
theorem inj_born {l : List MapEntry} (h : (l.map (·.born)).Nodup) {x y : MapEntry} (hx : x ∈ l) (hy : y ∈ l) (he : x.born = y.born) : x = y := by
 induction l with
 | nil => cases hx
 | cons a l ih =>
   simp only [List.map_cons, List.nodup_cons, List.mem_map, not_exists, not_and] at h; rcases List.mem_cons.1 hx with e1 | hx' <;> rcases List.mem_cons.1 hy with e2 | hy'
   · rw [e1, e2]
   · exact absurd (by rw [← he, e1]) (h.1 _ hy')
   · exact absurd (by rw [he, e2]) (h.1 _ hx')
   · exact ih h.2 hx' hy'
theorem leftOf_push (es : Array MapEntry) (seen : Array Nat) (c : Nat) : (leftOf es (seen.push c)).toList = (leftOf es seen).toList.filter fun e => !(e.born == c) := by
 simp only [leftOf, Array.toList_filter, List.filter_filter]; apply List.filter_congr
 intro x _; simp [Array.mem_push, Bool.and_comm]
 cases decide (x.born ∈ seen) <;> simp <;> rfl
theorem V1.nextMap {ty : TypeId} {r b : Nat} {l left : List (Value × Value)} {k : Value → World → Prop} {e : List PanicEntry → World → Prop} (hi : ItAt w r b l left) (h : MapAt w b l) (hrb : r ≠ b)
   (h0 : left = [] → k (.tuple #[.bool false]) w)
   (h1 : ∀ key val left' w', (key, val) ∈ left → left'.length < left.length → (∀ p ∈ left, p = (key, val) ∨ p ∈ left') → (∀ p ∈ left', p ∈ left) → ItAt w' r b l left' → MapAt w' b l → Keep [r] w w' → w'.heap.size = w.heap.size →
     (∀ w2, Keep [] w' w2 → (Instr.entry (.pointer (some ⟨r, 0, none⟩))).run P w2 = .ok (.tuple #[key, val]) w2) → (l.Nodup → (key, val) ∉ left') → k (.tuple #[.bool true, key, val]) w') :
   V1 P (Instr.next (.pointer (some ⟨r, 0, none⟩)) false ty) w k e := by
 have hlt := hi.lt; obtain ⟨seen, hr, rfl⟩ := hi; rcases run_next_at w ty r b l.length l.length seen (entries l).toArray l.length hr h (fun x hx => entries_born (by simpa using hx)) (Nat.le_refl _) with ⟨h2, h3⟩ | ⟨en, hen, w1, hw1, h3⟩
 · refine V1.i h3 (h0 ?_); have : leftOf (entries l).toArray seen = #[] := Array.eq_empty_of_size_eq_zero h2; rw [this]; rfl
 · have hmem : en ∈ entries l := by
     have : en ∈ (leftOf (entries l).toArray seen).toList := hen; simp [leftOf] at this
     exact this.1
   have hk1 : Keep [] w w1 := by
     rcases hw1 with rfl | rfl
     · exact Keep.refl _ _
     · exact (Keep.refl _ _).drew
   have hr1 : w1.heap[r]? = some (.mapIter (some b) l.length seen l.length) := by rw [hk1.same r hlt (by simp), hr]
   have hlt1 : r < w1.heap.size := Nat.lt_of_lt_of_le hlt hk1.size; have hget : (setBlock w1 r (.mapIter (some b) l.length (seen.push en.born) l.length)).heap[r]? = some (.mapIter (some b) l.length (seen.push en.born) l.length) := by
     simp [setBlock, hlt1]
   have hk2 : Keep [r] w (setBlock w1 r (.mapIter (some b) l.length (seen.push en.born) l.length)) := (hk1.mono (N := [r]) (by simp)).trans' (N := [r]) ⟨by simp [setBlock], fun i _ hm => by
     have : r ≠ i := fun e => hm (by simp [e]); simp [setBlock, Array.getElem?_setIfInBounds_ne this], rfl, rfl⟩ (fun i hi _ => hi)
   have hm2 := h.keep hk2 (by simp; omega); refine V1.i h3 (h1 en.key en.val _ _ ?_ ?_ ?_ ?_ ⟨_, hget, rfl⟩ hm2 hk2 ?_ ?_ ?_)
   · exact List.mem_map.2 ⟨en, hen, rfl⟩
   · rw [leftOf_push]; simp only [List.length_map]; exact List.length_filter_lt_length_iff_exists.2 ⟨en, hen, by simp⟩
   · intro p hp; obtain ⟨x, hx, rfl⟩ := List.mem_map.1 hp; by_cases hb : x.born = en.born
     · left
       have hxm : x ∈ entries l := by
         simp [leftOf] at hx
         exact hx.1
       have : x = en := inj_born (entries_nodup l) hxm hmem hb; rw [this]
     · right
       rw [leftOf_push]; exact List.mem_map.2 ⟨x, List.mem_filter.2 ⟨hx, by simpa using hb⟩, rfl⟩
   · intro p hp; rw [leftOf_push] at hp; obtain ⟨x, hx, rfl⟩ := List.mem_map.1 hp; exact List.mem_map.2 ⟨x, (List.mem_filter.1 hx).1, rfl⟩
   · have : w1.heap.size = w.heap.size := by rcases hw1 with rfl | rfl <;> rfl
     simp [setBlock, this]
   · intro w2 hk3; refine run_entry_at w2 r b l.length seen (entries l).toArray l.length en ?_ (hm2.keep hk3 (by simp)) (by simpa using hmem) (by simpa using entries_nodup l); rw [hk3.same r ?_ (by simp), hget]; have := hk2.size; omega
   · intro hnd hin; rw [leftOf_push] at hin; obtain ⟨x, hx, hxe⟩ := List.mem_map.1 hin; obtain ⟨hx1, hx2⟩ := List.mem_filter.1 hx; have hxm : x ∈ entries l := by
       simp [leftOf] at hx1
       exact hx1.1
     have hb : x.born ≠ en.born := by simpa using hx2
     obtain ⟨i, hi, hxi⟩ := entries_get hxm; obtain ⟨j, hj, hej⟩ := entries_get hmem; have e : l[i] = l[j] := by rw [← hxi.1, ← hej.1]; exact hxe
     have : i = j := (List.getElem_inj hnd).1 e; exact hb (by rw [hxi.2, hej.2, this])
end Go.Sh

namespace Go.Proofs.YtoddjlclpnoomaaGreatDoor
open Go.Sh
theorem indexByte_iff (c : UInt8) : ∀ l : List UInt8, decide (0 ≤ Lib.indexByte l c) = l.contains c
 | [] => by simp [Lib.indexByte]
 | b :: l => by
   have ih := indexByte_iff c l; unfold Lib.indexByte; by_cases h : b = c
   · subst h; simp
   · have h2 : (b == c) = false := by simpa using h
     have h3 : (c == b) = false := by simpa using fun e => h e.symm
     simp only [h2, Bool.false_eq_true, if_false, List.contains_cons, h3, Bool.false_or]; rw [← ih]; split
     · rename_i h4; simp at h4; rw [h4]
     · rename_i h4
       simp at h4
       have : -1 ≤ Lib.indexByte l c := by
         clear ih h4; induction l with
         | nil => simp [Lib.indexByte]
         | cons a l ih => unfold Lib.indexByte; split; omega; split; omega; omega
       congr 1; apply propext; omega
theorem indexByte_ge (c : UInt8) : ∀ l : List UInt8, -1 ≤ Lib.indexByte l c ∧ Lib.indexByte l c ≤ l.length
  | [] => by simp [Lib.indexByte]
  | a :: l => by have := indexByte_ge c l; unfold Lib.indexByte; simp only [List.length_cons]; split; omega; split <;> omega
theorem c51 (w : World) (c : UInt8) (l : List UInt8) : Calls Tryz.prog 51 #[.int .u8 c.toNat, str l] w (Ret (fun v w' => v = .bool (l.contains c) ∧ w' = w) NP) := by
 refine s51 ?_; unfold S51; refine cf53 (c53 w l c) ?_ (NP.no (e := _)); rintro _ w1 ⟨rfl, rfl⟩; refine V1.i (by simp [go_sem] <;> trivial) ?_; exact ⟨by rw [← indexByte_iff], rfl⟩
theorem lng_nil (set : List UInt8) : lng [] set = 0 := rfl
theorem lng_yes {c : UInt8} {l set : List UInt8} (h : set.contains c = true) : lng (c :: l) set = lng l set + 1 := by simp only [lng, List.takeWhile_cons, h, if_true, List.length_cons]
theorem lng_no {c : UInt8} {l set : List UInt8} (h : set.contains c = false) : lng (c :: l) set = 0 := by simp only [lng, List.takeWhile_cons, h]; rfl
theorem lng_le (l set : List UInt8) : lng l set ≤ l.length := by
 unfold lng; exact (List.takeWhile_sublist _).length_le
theorem c88 (w : World) (s set : List UInt8) (hs : s.length ≤ 1099511627776) : Calls Tryz.prog 88 #[str s, str set] w (Ret (fun v w' => v = .int .i64 (lng s set) ∧ w' = w) NP) := by
 refine s88 ?_; unfold S88; refine V1.i (by simp [go_sem] <;> trivial) ?_; refine L2.i (fun u v w' => w' = w ∧ ∃ k : Nat, k ≤ s.length ∧ v = .int .i64 k ∧ lng s set = k + lng (s.drop k) set) (fun u v w' => match v with | .int _ n => (s.length - n.toNat) | _ => 0) ⟨rfl, 0, by omega, rfl, by simp⟩ ?_; rintro u v w' ⟨rfl, k, hk, rfl, hm⟩; by_cases hlt : k < s.length
 · rw [List.drop_eq_getElem_cons hlt] at hm; refine V1.i (by simp [go_sem] <;> trivial) ?_; refine If.b (fun _ => ?_) (fun h => by simp at h; omega); refine V1.i (idxS _ s k hlt) ?_; refine cf51 (c51 w' s[k] set) ?_ (NP.no (e := _)); rintro _ w1 ⟨rfl, rfl⟩; refine V1.i (by simp [go_sem] <;> trivial) ?_; refine If.b (fun h => ?_) (fun h => ?_)
   · have h' : set.contains s[k] = false := by simpa using h
     rw [lng_no h'] at hm; exact ⟨by rw [hm]; simp, rfl⟩
   · have h' : set.contains s[k] = true := by simpa using h
     rw [lng_yes h'] at hm; refine V1.i (addI _ _ _ _ _ _ (by omega) (by omega)) ?_; exact ⟨⟨rfl, k + 1, by omega, by simp, by omega⟩, by simp; omega⟩
 · have : k = s.length := by omega
   subst this; refine V1.i (by simp [go_sem] <;> trivial) ?_; refine If.b (fun h => by simp at h) (fun _ => ?_); refine V1.i (by simp [go_sem] <;> trivial) ?_; exact ⟨by rw [hm]; simp [lng_nil], rfl⟩
theorem c89 (w : World) (s : List UInt8) (g : GL w) (hs : s.length ≤ 65536) : Calls Tryz.prog 89 #[str s] w (Ret (fun v w' => v = .bool (resB s) ∧ w' = w) NP) := by
 refine s89 ?_; unfold S89; rcases s with _ | ⟨c, l⟩
 · refine V1.i (by simp [go_sem] <;> trivial) ?_; refine J1.go (Gd.ft ?_); repeat (first | refine Up.i (Nc.p _ _) ?_ | refine V1.load (oneAll rfl) (by assumption) rfl ?_ | refine V1.i (by simp [go_sem] <;> trivial) ?_)
   refine J1.go (Gd.ft ?_); repeat (first | refine Up.i (Nc.p _ _) ?_ | refine V1.load (oneAll rfl) (by assumption) rfl ?_ | refine V1.i (by simp [go_sem] <;> trivial) ?_)
   exact ⟨by rfl, rfl⟩
 · refine V1.i (by simp [go_sem] <;> trivial) ?_; refine J1.go (Gd.tt ?_); refine cf92 (c92 w (c :: l) [32] g (by omega)) ?_ (NP.no (e := _)); rintro _ w1 ⟨rfl, rfl⟩; repeat (first | refine Up.i (Nc.p _ _) ?_ | refine V1.load (oneAll rfl) (by assumption) rfl ?_ | refine V1.i (by simp [go_sem] <;> trivial) ?_)
   cases h2 : Lib.contains (c :: l) [32] with
   | true =>
     repeat (first | refine Up.i (Nc.p _ _) ?_ | refine V1.load (oneAll rfl) (by assumption) rfl ?_ | refine V1.i (by simp [go_sem] <;> trivial) ?_)
     refine J1.go (Gd.ft ?_); repeat (first | refine Up.i (Nc.p _ _) ?_ | refine V1.load (oneAll rfl) (by assumption) rfl ?_ | refine V1.i (by simp [go_sem] <;> trivial) ?_)
     exact ⟨by simp [resB, h2], rfl⟩
   | false =>
     repeat (first | refine Up.i (Nc.p _ _) ?_ | refine V1.load (oneAll rfl) (by assumption) rfl ?_ | refine V1.i (by simp [go_sem] <;> trivial) ?_)
     refine J1.go (Gd.tt ?_); refine V1.i (addS _ _ _ [32] (c :: l) (by simp at hs ⊢; omega)) ?_; refine V1.i (addS _ _ _ ([32] ++ (c :: l)) [32] (by simp at hs ⊢; omega)) ?_; refine cf92 (c92 _ wrdB ([32] ++ (c :: l) ++ [32]) g (by decide)) ?_ (NP.no (e := _)); rintro _ w2 ⟨rfl, rfl⟩; repeat (first | refine Up.i (Nc.p _ _) ?_ | refine V1.load (oneAll rfl) (by assumption) rfl ?_ | refine V1.i (by simp [go_sem] <;> trivial) ?_)
     exact ⟨by simp [resB, h2], rfl⟩
theorem c87 {w : World} {b : Nat} (s : List UInt8) (k : Int) (n : Nat) (a : At w b [str s]) (hn : n ≤ s.length) :
   Calls Tryz.prog 87 #[.int .i64 k, .int .i64 n, ptr b] w (Ret (fun v w' => v = .tuple #[tokV ⟨k, s.take n, 0, 0⟩, .int .i64 n, .nilIface] ∧ Keep [] w w') NP) := by
 refine s87 ?_; unfold S87; have lb := a.lt; refine V1.new (al86 _) fun b1 w1 N1 => ?_; have gN1 := N1.ge; have lN1 := N1.lt; have zN1 := N1.keep.size; have a1 := N1.at_; try simp only [Value.cells, List.toList_toArray] at a1
 replace a := N1.a a; unfold ptr; refine V1.load (oneAll rfl) (a) rfl ?_; refine V1.i (toS _ s n hn) ?_; refine V1.i (by simp [go_sem] <;> trivial) ?_; refine U1.tok (t := ⟨k, s.take n, 0, 0⟩) a1 rfl fun w2 U2 => ?_; exact ⟨_, ld_tok U2.at_, rfl, N1.keep.then U2.keep (by simp) (by simp; omega)⟩
theorem conv521 (w : World) (a : Int) (h : 0 ≤ a) (h' : a ≤ 255) : (Go.convert 5 21 (.int .u8 a)).run Tryz.prog w = .ok (.int .i32 a) w := by
 simp [go_sem]; first | done | rw [IntWalk.i32_in _ (by omega)]
theorem c195 (w : World) (c : UInt8) : Calls Tryz.prog 195 #[.int .i32 c.toNat] w (Ret (fun v w' => v = .int .i64 (hexV c) ∧ w' = w) NP) := by
 refine s195 ?_; unfold S195; have hc := c.toNat_lt; have e1 : hexV c = if 48 ≤ (c.toNat : Int) ∧ (c.toNat : Int) ≤ 57 then (c.toNat : Int) - 48 else if 97 ≤ (c.toNat : Int) ∧ (c.toNat : Int) ≤ 102 then (c.toNat : Int) - 97 + 10 else -1 := by
   unfold hexV; simp only [UInt8.le_iff_toNat_le, UInt8.reduceToNat]; congr 1
   · apply propext; omega
   · congr 1; apply propext; omega
 rw [e1]; have hx : 0 ≤ (c.toNat : Int) ∧ (c.toNat : Int) ≤ 255 := by omega
 generalize (c.toNat : Int) = x at *; by_cases h1 : 48 ≤ x <;> by_cases h2 : x ≤ 57 <;> by_cases h3 : 97 ≤ x <;> by_cases h4 : x ≤ 102 <;> first | omega | skip
 all_goals
   repeat (first | refine J1.go ?_ | refine J0.go ?_ | refine Gd.tt ?_ | refine Gd.ff ?_ | refine Gd.tf ?_ | refine Gd.ft ?_ | refine Gd.u ?_ | refine If.t ?_ | refine If.f ?_ | refine Up.i (Nc.p _ _) ?_ | refine V1.load (oneAll rfl) (by assumption) rfl ?_ | refine V1.i (w' := w) (by simp [go_sem, h1, h2, h3, h4]; first | done | rfl | exact ⟨rfl, rfl⟩) ?_)
   first
     | (refine ⟨?_, rfl⟩; simp [h1, h2, h3, h4]; done)
     | (refine ⟨?_, rfl⟩; simp [h1, h2, h3, h4]; rw [IntWalk.i32_in _ (by omega), IntWalk.i64_in (x - _) (by omega)]; first | done | rw [IntWalk.i64_in _ (by omega)])
def NamedAt (w : World) (b : Nat) : Prop := MapAt w b [(.int .u8 110, .int .u8 10), (.int .u8 116, .int .u8 9), (.int .u8 92, .int .u8 92), (.int .u8 34, .int .u8 34)]
theorem c194 (w : World) : Calls Tryz.prog 194 #[] w (Ret (fun v w' => ∃ b, v = .map (some b) ∧ NamedAt w' b ∧ w.heap.size ≤ b ∧ b < w'.heap.size ∧ Keep [] w w') NP) := by
 refine s194 ?_; unfold S194; refine V1.map fun b w1 m1 g1 k1 => ?_; refine U1.mapAdd (kt := 5) (et := 5) (d := .int .u8) (by kernel_rfl) (by kernel_rfl) m1 rfl (by simp) (by simp) fun w2 m2 z2 k2 => ?_; refine U1.mapAdd (kt := 5) (et := 5) (d := .int .u8) (by kernel_rfl) (by kernel_rfl) m2 rfl (by simp [MapKept.IsKey]) (by simp) fun w3 m3 z3 k3 => ?_; refine U1.mapAdd (kt := 5) (et := 5) (d := .int .u8) (by kernel_rfl) (by kernel_rfl) m3 rfl (by simp [MapKept.IsKey]) (by simp) fun w4 m4 z4 k4 => ?_; refine U1.mapAdd (kt := 5) (et := 5) (d := .int .u8) (by kernel_rfl) (by kernel_rfl) m4 rfl (by simp [MapKept.IsKey]) (by simp) fun w5 m5 z5 k5 => ?_; have := m1.lt; exact ⟨b, rfl, m5, g1, by omega, (((k1.trans' k2 (by simp; omega)).trans' k3 (by simp; omega)).trans' k4 (by simp; omega)).trans' k5 (by simp; omega)⟩
theorem NamedAt.look {w : World} {b : Nat} (h : NamedAt w b) (c : UInt8) : (Instr.lookup 215 (.map (some b)) (.int .u8 c.toNat) true).run Tryz.prog w =
   .ok (match nmd c with | some v => .tuple #[.int .u8 v.toNat, .bool true] | none => .tuple #[.int .u8 0, .bool false]) w := by
 have hm : Tryz.prog.underlying 215 = some (.map 5 5) := by kernel_rfl
 have hd : Tryz.prog.underlying 5 = some (.int .u8) := by kernel_rfl
 have hks : ∀ p ∈ [((.int .u8 110 : Value), (.int .u8 10 : Value)), (.int .u8 116, .int .u8 9), (.int .u8 92, .int .u8 92), (.int .u8 34, .int .u8 34)], MapKept.IsKey (.int .u8) p.1 := by simp [MapKept.IsKey]
 have hit : ∀ k v : Int, (∀ p ∈ [((.int .u8 110 : Value), (.int .u8 10 : Value)), (.int .u8 116, .int .u8 9), (.int .u8 92, .int .u8 92), (.int .u8 34, .int .u8 34)], p.1 = .int .u8 k → p.2 = .int .u8 v) →
     (∃ p ∈ [((.int .u8 110 : Value), (.int .u8 10 : Value)), (.int .u8 116, .int .u8 9), (.int .u8 92, .int .u8 92), (.int .u8 34, .int .u8 34)], p.1 = .int .u8 k) → (Instr.lookup 215 (.map (some b)) (.int .u8 k) true).run Tryz.prog w = .ok (.tuple #[.int .u8 v, .bool true]) w :=
   fun k v h1 h2 => look_hit hm hd h (show MapKept.IsKey (.int .u8) (.int .u8 k) from rfl) hks h1 h2 true
 by_cases h1 : c = 110
 · subst h1; exact hit 110 10 (by simp) (by simp)
 by_cases h2 : c = 116
 · subst h2; exact hit 116 9 (by simp) (by simp)
 by_cases h3 : c = 92
 · subst h3; exact hit 92 92 (by simp) (by simp)
 by_cases h4 : c = 34
 · subst h4; exact hit 34 34 (by simp) (by simp)
 have e : nmd c = none := by simp [nmd, h1, h2, h3, h4]
 rw [e]; have ne : ∀ d : UInt8, ¬ c = d → ¬ (d.toNat : Int) = (c.toNat : Int) := fun d h e => h (UInt8.toNat_inj.1 (by omega)); have n1 := ne 110 h1; have n2 := ne 116 h2; have n3 := ne 92 h3; have n4 := ne 34 h4; simp only [UInt8.reduceToNat] at n1 n2 n3 n4; refine look_miss hm hd h (show MapKept.IsKey (.int .u8) (.int .u8 c.toNat) from rfl) hks ?_ (z := .int .u8 0) (by simp [go_sem]) true; simp
 exact ⟨n1, n2, n3, n4⟩
end Go.Proofs.YtoddjlclpnoomaaGreatDoor
namespace Go
section
variable {P : Program} (w : World)
theorem run_equalIn_iface_int (d : Nat) {ti tn : TypeId} {ms : Array (String × TypeId)} {i : TypeInfo} {k : IntKind} (a b : Int)
   (hi : P.underlying ti = some (.interface ms)) (hn : P.underlying tn = some (.int k)) (hinfo : P.info? tn = some i) (hcomp : i.comparable = true) :
   (Op.equalIn (d + 2) ti (.iface tn (.int k a)) (.iface tn (.int k b))).run P w = .ok (a == b) w := by
 simp [Op.equalIn, run_underlying hi, run_underlying hn, typeInfo, hinfo, hcomp]
theorem run_eql_iface_int {ti tn : TypeId} {ms : Array (String × TypeId)} {i : TypeInfo} {k : IntKind} (a b : Int)
   (hi : P.underlying ti = some (.interface ms)) (hn : P.underlying tn = some (.int k)) (hinfo : P.info? tn = some i) (hcomp : i.comparable = true) :
   (binOp .eql ti (.iface tn (.int k a)) (.iface tn (.int k b))).run P w = .ok (.bool (a == b)) w := by
 simp only [binOp]; simp [Op.equal, Op.maxDepth, run_equalIn_iface_int w 9998 a b hi hn hinfo hcomp]
end
end Go
namespace Go.Proofs.YtoddjlclpnoomaaGreatDoor
open Go.Sh
set_option maxRecDepth 100000
def RT (t : TypeId) : Value := .iface 128 (.agg #[.pointer (some ⟨12, t, none⟩)])
theorem ext37 (t : TypeId) (v : Value) (w : World) : (callFunc 37 #[.iface t v]).run Tryz.prog w = .ok (.value (RT t)) w := by kernel_rfl
theorem extC272 (w : World) : (invoke (.fn (.method "Comparable") #[]) #[RT 272]).run Tryz.prog w = .ok (.value (.bool true)) w := by kernel_rfl
theorem extC23 (w : World) : (invoke (.fn (.method "Comparable") #[]) #[RT 23]).run Tryz.prog w = .ok (.value (.bool true)) w := by kernel_rfl
theorem ext93 (w : World) (a : Addr): (callFunc 93 #[.iface 116 (.pointer (some a))]).run Tryz.prog w = .ok (.value (.agg #[.pointer (some ⟨12, 116, none⟩), .pointer (some ⟨w.heap.size, 0, none⟩), .int .u64 150])) (w.alloc (.cells #[.pointer (some a)] 116)) := by kernel_rfl
theorem ext94 (w : World) (b : Nat): (callFunc 94 #[.agg #[.pointer (some ⟨12, 116, none⟩), .pointer (some ⟨b, 0, none⟩), .int .u64 150]]).run Tryz.prog w = .ok (.value (RT 116)) w := by kernel_rfl
theorem extKind116 (w : World) : (invoke (.fn (.method "Kind") #[]) #[RT 116]).run Tryz.prog w = .ok (.value (.int .u8 22)) w := by kernel_rfl
theorem extElem116 (w : World) : (invoke (.fn (.method "Elem") #[]) #[RT 116]).run Tryz.prog w = .ok (.value (RT 23)) w := by kernel_rfl
theorem extImpl (w : World) : (invoke (.fn (.method "Implements") #[]) #[RT 23, RT 31]).run Tryz.prog w = .ok (.value (.bool true)) w := by kernel_rfl
theorem extAssign (w : World) : (invoke (.fn (.method "AssignableTo") #[]) #[RT 23, RT 23]).run Tryz.prog w = .ok (.value (.bool true)) w := by kernel_rfl
open Go.Extern in
theorem pV116 (w : World) (b : Nat) : (ReflectliteValue.parts (.agg #[.pointer (some ⟨12, 116, none⟩), .pointer (some ⟨b, 0, none⟩), .int .u64 150])).run Tryz.prog w = .ok (some (116, ⟨b, 0, none⟩, 150)) w := by kernel_rfl
theorem lV (t : TypeId) (a : Addr) (v : Value) (w : World) (ht : (isAgg t).run Tryz.prog w = .ok false w) (h : w.cell? a = some v) : (loadVar t a).run Tryz.prog w = .ok v w := by
 simp [loadVar, ht, h, go_sem, Result.andThen]
theorem sV (t : TypeId) (a : Addr) (n : Int) (x : Value) (w : World) (hs : (sizeOf t).run Tryz.prog w = .ok 1 w) (h : w.cell? a = some x) (hf : w.frozen? a = false) : (storeVar t a (.int .i64 n)).run Tryz.prog w = .ok () (w.setCell a (.int .i64 n)) := by
 simp [storeVar, hs, h, hf, go_sem, Result.andThen, storeCells]
open Go.Extern
theorem vm (z : Sem Value) (f : TypeId → Addr → Nat → Nat → Sem Value) (V : Value) (w : World) (t : TypeId) (a : Addr) (fl : Nat) (hp : (ReflectliteValue.parts V).run Tryz.prog w = .ok (some (t, a, fl)) w) : (ReflectliteValue.method z f #[V]).run Tryz.prog w = (f t a fl (fl % 32)).run Tryz.prog w := by
 have : (ReflectliteValue.method z f #[V]).run Tryz.prog w = ((ReflectliteValue.parts V).run Tryz.prog w).andThen fun r w => (match r with | none => z | some (t, a, fl) => f t a fl (fl % 32)).run Tryz.prog w := by
   rw [← Sem.run_bind]; rfl
 rw [this, hp]; rfl
theorem ext95 (w : World) (b : Nat) (a : Addr) (h : w.cell? ⟨b, 0, none⟩ = some (.pointer (some a))) : (callFunc 95 #[.agg #[.pointer (some ⟨12, 116, none⟩), .pointer (some ⟨b, 0, none⟩), .int .u64 150]]).run Tryz.prog w = .ok (.value (.bool false)) w := by
 have hl := lV 116 _ _ w (by kernel_rfl) h; rw [@run_callFunc_extern Tryz.prog 95 _ (ReflectliteValue.method (ReflectliteValue.valueError "reflectlite.Value.IsNil" 0) ReflectliteValue.isNil) Tryz.func95 (by kernel_rfl) (by kernel_rfl) (by kernel_rfl) (by kernel_rfl), vm _ _ _ _ _ _ _ (pV116 w b)]; simp [ReflectliteValue.isNil, hl, Sem.run_bind, Result.andThen]
theorem ext153 (w : World) (b : Nat) (a : Addr) (h : w.cell? ⟨b, 0, none⟩ = some (.pointer (some a))) : (callFunc 153 #[.agg #[.pointer (some ⟨12, 116, none⟩), .pointer (some ⟨b, 0, none⟩), .int .u64 150]]).run Tryz.prog w = .ok (.value (.agg #[.pointer (some ⟨12, 23, none⟩), .pointer (some a), .int .u64 386])) w := by
 have hl := lV 116 _ _ w (by kernel_rfl) h; have he : (Rtype.elem? 116).run Tryz.prog w = .ok (some 23) w := by kernel_rfl
 have hm : (ReflectliteValue.mk 23 a ReflectliteValue.flagAddr).run Tryz.prog w = .ok (.agg #[.pointer (some ⟨12, 23, none⟩), .pointer (some a), .int .u64 386]) w := by kernel_rfl
 rw [@run_callFunc_extern Tryz.prog 153 _ (ReflectliteValue.method (ReflectliteValue.valueError "reflectlite.Value.Elem" 0) ReflectliteValue.elem) Tryz.func153 (by kernel_rfl) (by kernel_rfl) (by kernel_rfl) (by kernel_rfl), vm _ _ _ _ _ _ _ (pV116 w b)]; simp [ReflectliteValue.elem, hl, he, hm, Sem.run_bind, Result.andThen]
theorem pV23 (w : World) (a : Addr) : (ReflectliteValue.parts (.agg #[.pointer (some ⟨12, 23, none⟩), .pointer (some a), .int .u64 386])).run Tryz.prog w = .ok (some (23, a, 386)) w := by kernel_rfl
theorem pV23b (w : World) (a : Addr) : (ReflectliteValue.parts (.agg #[.pointer (some ⟨12, 23, none⟩), .pointer (some a), .int .u64 130])).run Tryz.prog w = .ok (some (23, a, 130)) w := by kernel_rfl
theorem ext154 (w : World) (a b : Addr) (v : Int) (x : Value) (h : w.cell? b = some (.int .i64 v)) (ha : w.cell? a = some x) (hf : w.frozen? a = false) :
   (callFunc 154 #[.agg #[.pointer (some ⟨12, 23, none⟩), .pointer (some a), .int .u64 386], .agg #[.pointer (some ⟨12, 23, none⟩), .pointer (some b), .int .u64 130]]).run Tryz.prog w = .ok (.value (.tuple #[])) (w.setCell a (.int .i64 v)) := by
 have hl := lV 23 _ _ w (by kernel_rfl) h; have hs := sV 23 a v x w (by kernel_rfl) ha hf; have hd : (Rtype.directlyAssignable 23 23).run Tryz.prog w = .ok true w := by kernel_rfl
 rw [@run_callFunc_extern Tryz.prog 154 _ ReflectliteValue.set Tryz.func154 (by kernel_rfl) (by kernel_rfl) (by kernel_rfl) (by kernel_rfl)]; have : (ReflectliteValue.set #[.agg #[.pointer (some ⟨12, 23, none⟩), .pointer (some a), .int .u64 386], .agg #[.pointer (some ⟨12, 23, none⟩), .pointer (some b), .int .u64 130]]).run Tryz.prog w = .ok (.tuple #[]) (w.setCell a (.int .i64 v)) := by
   refine (Sem.run_bind (P := _) (x := ReflectliteValue.parts (.agg #[.pointer (some ⟨12, 23, none⟩), .pointer (some a), .int .u64 386])) (f := _) (w := _)).trans ?_; rw [pV23, Result.andThen_ok]; refine (Sem.run_bind (P := _) (x := ReflectliteValue.parts (.agg #[.pointer (some ⟨12, 23, none⟩), .pointer (some b), .int .u64 130])) (f := _) (w := _)).trans ?_; rw [pV23b, Result.andThen_ok]; simp [hl, hs, hd, Sem.run_bind, Result.andThen, ReflectliteValue.flagAddr]
 rw [this]; rfl
theorem ext93e (w : World) (v : Int) : (callFunc 93 #[.iface 23 (.int .i64 v)]).run Tryz.prog w = .ok (.value (.agg #[.pointer (some ⟨12, 23, none⟩), .pointer (some ⟨w.heap.size, 0, none⟩), .int .u64 130])) (w.alloc (.cells #[.int .i64 v] 23)) := by kernel_rfl
theorem extKind23 (w : World) : (invoke (.fn (.method "Kind") #[]) #[RT 23]).run Tryz.prog w = .ok (.value (.int .u8 2)) w := by kernel_rfl
theorem und31 : Tryz.prog.underlying 31 = some (.interface #[("Error", 58)]) := by kernel_rfl
theorem u23 : Tryz.prog.underlying 23 = some (.int .i64) := by kernel_rfl
theorem eqI (w : World) (cx cy : Bool) (tx ty : TypeId) (vx vy : Value) (hne : tx ≠ ty) : (Bo .eql 31 cx cy (.iface tx vx) (.iface ty vy)).run Tryz.prog w = .ok (.bool false) w := by
 have := run_eql_iface_types (P := Tryz.prog) tx ty vx vy und31 hne w
 cases cx <;> cases cy <;> simp [Bo, go_sem, this]
theorem eqNil (w : World) (cx : Bool) (t : TypeId) (v : Value) : (Bo .eql 31 cx true (.iface t v) .nilIface).run Tryz.prog w = .ok (.bool false) w := by
 cases cx <;> simp [Bo, go_sem]
theorem neNil (w : World) (cx : Bool) (t : TypeId) (v : Value) : (Bo .neq 31 cx true (.iface t v) .nilIface).run Tryz.prog w = .ok (.bool true) w := by
 cases cx <;> simp [Bo, go_sem]
theorem eqNN (w : World) (cx : Bool) : (Bo .eql 31 cx true .nilIface .nilIface).run Tryz.prog w = .ok (.bool true) w := by
 cases cx <;> simp [Bo, go_sem]
theorem neNN (w : World) (cx : Bool) : (Bo .neq 31 cx true .nilIface .nilIface).run Tryz.prog w = .ok (.bool false) w := by
 cases cx <;> simp [Bo, go_sem]
theorem eqP (w : World) (cx cy : Bool) (a : Addr) : (Bo .eql 31 cx cy (.iface 272 (.pointer (some a))) (.iface 272 (.pointer (some a)))).run Tryz.prog w = .ok (.bool true) w := by
 obtain ⟨i, hi, hcmp⟩ := Option.map_eq_some_iff.1 (show (Tryz.prog.info? 272).map (·.comparable) = some true by kernel_rfl); obtain ⟨j, hj, hjs⟩ := Option.map_eq_some_iff.1 (show (Tryz.prog.info? 274).map (·.size) = some 1 by kernel_rfl); have := run_eql_iface_ptr_same (P := Tryz.prog) w a und31 (show Tryz.prog.underlying 272 = some (.pointer 274) by kernel_rfl) hi hcmp hj
 cases cx <;> cases cy <;> simp [Bo, go_sem, this]
theorem eqE (w : World) (cx cy : Bool) (a b : Int) : (Bo .eql 31 cx cy (.iface 23 (.int .i64 a)) (.iface 23 (.int .i64 b))).run Tryz.prog w = .ok (.bool (a == b)) w := by
 obtain ⟨i, hi, hcmp⟩ := Option.map_eq_some_iff.1 (show (Tryz.prog.info? 23).map (·.comparable) = some true by kernel_rfl); have h2 := run_eql_iface_int (P := Tryz.prog) w a b und31 u23 hi hcmp
 cases cx <;> cases cy <;> simp [Bo, go_sem, h2]
theorem und130 : Tryz.prog.underlying 130 = some (.interface #[("Is", 132)]) := by kernel_rfl
theorem und133 : Tryz.prog.underlying 133 = some (.interface #[("Unwrap", 134)]) := by kernel_rfl
theorem und135 : Tryz.prog.underlying 135 = some (.interface #[("Unwrap", 137)]) := by kernel_rfl
theorem no130_256 (v : Value) (x : TypeId) (w : World) : (Instr.typeAssert (.iface 256 v) x 130 true).run Tryz.prog w = .ok (.tuple #[.nilIface, .bool false]) w := Go.run_typeAssert_lacksB und130 (by kernel_rfl) (by kernel_rfl) v x w
theorem no130_23 (v : Value) (x : TypeId) (w : World) : (Instr.typeAssert (.iface 23 v) x 130 true).run Tryz.prog w = .ok (.tuple #[.nilIface, .bool false]) w := Go.run_typeAssert_lacksB und130 (by kernel_rfl) (by kernel_rfl) v x w
theorem no130_76 (v : Value) (x : TypeId) (w : World) : (Instr.typeAssert (.iface 76 v) x 130 true).run Tryz.prog w = .ok (.tuple #[.nilIface, .bool false]) w := Go.run_typeAssert_lacksB und130 (by kernel_rfl) (by kernel_rfl) v x w
theorem has133_256 (v : Value) (x : TypeId) (w : World) : (Instr.typeAssert (.iface 256 v) x 133 true).run Tryz.prog w = .ok (.tuple #[.iface 256 v, .bool true]) w := Go.run_typeAssert_hasB und133 (by kernel_rfl) v x w
theorem has133_76 (v : Value) (x : TypeId) (w : World) : (Instr.typeAssert (.iface 76 v) x 133 true).run Tryz.prog w = .ok (.tuple #[.iface 76 v, .bool true]) w := Go.run_typeAssert_hasB und133 (by kernel_rfl) v x w
theorem no133_23 (v : Value) (x : TypeId) (w : World) : (Instr.typeAssert (.iface 23 v) x 133 true).run Tryz.prog w = .ok (.tuple #[.nilIface, .bool false]) w := Go.run_typeAssert_lacksB und133 (by kernel_rfl) (by kernel_rfl) v x w
theorem no135_23 (v : Value) (x : TypeId) (w : World) : (Instr.typeAssert (.iface 23 v) x 135 true).run Tryz.prog w = .ok (.tuple #[.nilIface, .bool false]) w := Go.run_typeAssert_lacksB und135 (by kernel_rfl) (by kernel_rfl) v x w
theorem inv292 (v : Value) (w : World) : (invoke (.fn (.method "Unwrap") #[]) #[.iface 256 v]).run Tryz.prog w = .ok (.enter 292 #[v]) w := by kernel_rfl
theorem inv275 (v : Value) (w : World) : (invoke (.fn (.method "Unwrap") #[]) #[.iface 76 v]).run Tryz.prog w = .ok (.enter 275 #[v]) w := by kernel_rfl
end Go.Proofs.YtoddjlclpnoomaaGreatDoor


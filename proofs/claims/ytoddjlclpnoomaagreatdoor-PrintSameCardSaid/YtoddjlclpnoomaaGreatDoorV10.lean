import Derived.Lib.AppendStr
import Derived.Lib.Builder
import Derived.Lib.UnsafeStr
import Derived.Test.YtoddjlclpnoomaaGreatDoorV4
import Derived.Test.YtoddjlclpnoomaaGreatDoorV5
import Derived.Test.YtoddjlclpnoomaaGreatDoorV8
import Derived.Test.YtoddjlclpnoomaaGreatDoorV9
set_option linter.unusedVariables false
set_option linter.unusedSimpArgs false
set_option maxRecDepth 100000
namespace Go.Proofs.YtoddjlclpnoomaaGreatDoor
open Go.Sh
structure KL (b lo : Nat) (w w' : World) : Prop where
  size : w.heap.size ≤ w'.heap.size
  same : ∀ q, q < lo → q ≠ b → w'.heap[q]? = w.heap[q]?
  io : w'.os = w.os ∧ w'.output = w.output
theorem KL.trans {b lo : Nat} {w1 w2 w3 : World} (h : KL b lo w1 w2) (h' : KL b lo w2 w3) : KL b lo w1 w3 := ⟨Nat.le_trans h.size h'.size, fun q h1 h2 => by rw [h'.same q h1 h2, h.same q h1 h2], h'.io.1.trans h.io.1, h'.io.2.trans h.io.2⟩
theorem KL.of {b lo : Nat} {M : List Nat} {w w' : World} (h : Keep M w w') (hl : lo ≤ w.heap.size) (hM : ∀ i ∈ M, i = b ∨ lo ≤ i) : KL b lo w w' :=
  ⟨h.size, fun q h1 h2 => h.same q (by omega) (fun hm => by rcases hM q hm with h | h; exact h2 h; omega), h.io⟩
def above (b lo : Nat) (w : World) : List Nat := b :: (List.range w.heap.size).filter (fun q => decide (lo ≤ q))
theorem KL.keep {b lo : Nat} {w w' : World} (h : KL b lo w w') : Keep (above b lo w) w w' :=
 ⟨h.size, fun q h1 h2 => by
   simp only [above, List.mem_cons, List.mem_filter, List.mem_range, decide_eq_true_eq, not_or, not_and] at h2; exact h.same q (by have := h2.2 h1; omega) h2.1, h.io⟩
theorem above_lo {b lo q : Nat} {w : World} (h1 : q < lo) (h2 : q ≠ b) : q ∉ above b lo w := by
 simp only [above, List.mem_cons, List.mem_filter, List.mem_range, decide_eq_true_eq, not_or, not_and]; exact ⟨h2, fun _ => by omega⟩
theorem above_ge {b lo q : Nat} {w : World} (h : q ∈ above b lo w) : q = b ∨ lo ≤ q := by
 simp only [above, List.mem_cons, List.mem_filter, List.mem_range, decide_eq_true_eq] at h; rcases h with h | h
 · exact .inl h
 · exact .inr h.2
theorem own_base {w : World} {base : Nat} {e : TypeId} {size : Nat} {v : Value} {n : Nat} {xs : List Value} (h : w.ownsRow 0 e size v n xs) (hb : ∀ g, v.ownBlock = some g → base ≤ g) : w.ownsRow base e size v n xs := by
 refine ⟨h.1, ?_⟩; rcases h.2 with h2 | ⟨g, cap, cur, rfl, _, h3⟩
 · exact .inl h2
 · exact .inr ⟨g, cap, cur, rfl, hb g rfl, h3⟩
theorem own_zero {w : World} {base : Nat} {e : TypeId} {size : Nat} {v : Value} {n : Nat} {xs : List Value} (h : w.ownsRow base e size v n xs) : w.ownsRow 0 e size v n xs ∧ ∀ g, v.ownBlock = some g → base ≤ g := by
 refine ⟨⟨h.1, ?_⟩, ?_⟩
 · rcases h.2 with h2 | ⟨g, cap, cur, rfl, _, h3⟩
   · exact .inl h2
   · exact .inr ⟨g, cap, cur, rfl, Nat.zero_le _, h3⟩
 · intro g hg; rcases h.2 with ⟨rfl, _⟩ | ⟨g', cap, cur, rfl, h3, _⟩
   · cases hg
   · cases hg; exact h3
theorem appStr {lo : Nat} {w : World} {v : Value} {ss : List UInt8} (h : AccB lo w v ss) (hv : v = .slice none 0 0 ∨ ss ≠ []) (s : List UInt8) (hn : ss.length + s.length ≤ 1099511627776) (hlo : lo ≤ w.heap.size) :
   ∃ v' w', (Builtin.append_ #[22, 9] 22 #[v, str s]).run Tryz.prog w = .ok v' w' ∧ AccB lo w' v' (ss ++ s) ∧ (v' = .slice none 0 0 ∨ ss ++ s ≠ []) ∧ Keep v.ownBlock.toList w w' ∧ (∀ g, v'.ownBlock = some g → v.ownBlock = some g ∨ w.heap.size ≤ g) := by
 obtain ⟨v', w', hr, ho, hg, hv'⟩ := Lib.run_append_own_string (P := Tryz.prog) w lo 22 9 22 5 ((Tryz.prog.info? 5).getD default) (by kernel_rfl) (by kernel_rfl) (by kernel_rfl) (by kernel_rfl) (by kernel_rfl) (by kernel_rfl) v ss.length (ss.map fun c => .int .u8 c.toNat) (own_base h.1 h.2) ⟨s.toArray⟩ (by show ss.length + s.length ≤ _; simp only [maxLen]; omega) (by show ss.length + s.length ≤ _; omega) hlo; obtain ⟨ho1, ho2⟩ := own_zero ho; have hold : ∀ g, v'.ownBlock = some g → v.ownBlock = some g ∨ w.heap.size ≤ g := by
   rcases h.1.2 with ⟨h1, h2⟩ | ⟨g, cap, cur, rfl, hbg, hgg, hnc, hcm, hcs, htake⟩
   · obtain ⟨v2, w2, hr2, ho', _, _⟩ := Lib.run_append_own_string (P := Tryz.prog) w w.heap.size 22 9 22 5 ((Tryz.prog.info? 5).getD default) (by kernel_rfl) (by kernel_rfl) (by kernel_rfl) (by kernel_rfl) (by kernel_rfl) (by kernel_rfl) v ss.length (ss.map fun c => .int .u8 c.toNat) ⟨by simp, .inl ⟨h1, h2⟩⟩ ⟨s.toArray⟩ (by show ss.length + s.length ≤ _; simp only [maxLen]; omega) (by show ss.length + s.length ≤ _; omega) (Nat.le_refl _); rw [hr] at hr2; injection hr2 with e1 e2; subst e1; subst e2
     exact fun g hg => .inr ((own_zero ho').2 g hg)
   · by_cases hroom : ss.length + s.length ≤ cap
     · have hr2 := Lib.run_append_room_string (P := Tryz.prog) w 22 9 22 5 ((Tryz.prog.info? 5).getD default) (by kernel_rfl) (by kernel_rfl) (by kernel_rfl) (by kernel_rfl) g ss.length cap cur hgg ⟨s.toArray⟩ (by exact hroom) (by show ss.length + s.length ≤ cur.size; omega); rw [hr] at hr2; injection hr2 with e1 e2; subst e1; exact fun g' hg' => .inl hg'
     · have holds : ∀ (j : Nat) (u : Value), (ss.map fun c => Value.int .u8 c.toNat)[j]? = some u → w.cell? ((⟨g, 0, none⟩ : Addr).add j) = some u := h.1.cells (g := g) rfl; have hr2 := Lib.run_append_grow_string (P := Tryz.prog) w 22 9 22 5 ((Tryz.prog.info? 5).getD default) (.int .u8 0) (by kernel_rfl) (by kernel_rfl) (by kernel_rfl) (by kernel_rfl) ⟨g, 0, none⟩ ss.length cap (ss.map fun c => .int .u8 c.toNat) (by rw [show ((Tryz.prog.info? 5).getD default).size = 1 by kernel_rfl, List.length_map, Nat.mul_one]) holds ⟨s.toArray⟩ (by show cap < ss.length + s.length; omega) (by show ((ss.length + s.length : Nat) : Int) ≤ _; omega) (growslice_fits (by show cap < ss.length + s.length; omega) (by show (ss.length + s.length) * _ ≤ _; rw [show ((Tryz.prog.info? 5).getD default).bytes = 1 by kernel_rfl]; omega)); rw [hr] at hr2; injection hr2 with e1 e2; subst e1
       exact fun g' hg' => by cases hg'; exact .inr (Nat.le_refl _)
 refine ⟨v', w', hr, ⟨?_, ho2⟩, ?_, Keep.grown hg, hold⟩
 · have e : (ss ++ s).length = ss.length + (⟨s.toArray⟩ : ByteArray).size := by rw [List.length_append]; rfl
   have e2 : (ss ++ s).map (fun c => Value.int .u8 c.toNat) = ss.map (fun c => Value.int .u8 c.toNat) ++ Lib.strCells ⟨s.toArray⟩ := by simp [Lib.strCells]
   rw [e, e2]; exact ho1
 · by_cases hne : ss ++ s = []
   · left
     obtain ⟨h1, h2⟩ := List.append_eq_nil_iff.1 hne; subst h1; subst h2
     rcases hv with hv | hv
     · exact hv'.2 ⟨hv, rfl⟩
     · exact absurd rfl hv
   · exact .inr hne
def BX (lo : Nat) (w : World) (b : Nat) (rest : List Value) (buf : List UInt8) : Prop :=
  ∃ ad v, At w b (ad :: v :: rest) ∧ ((ad = .pointer none ∧ ∃ e n, w.shape? b = some (e, n) ∧ ((e = 54 ∧ n = 2) ∨ (e = 56 ∧ n = 3))) ∨ ad = ptr b) ∧ AccB lo w v buf ∧ (v = .slice none 0 0 ∨ buf ≠ []) ∧ b < lo ∧ lo ≤ w.heap.size
theorem ext173 (w : World) (a : Addr) : (callFunc 173 #[.pointer (some a)]).run Tryz.prog w = .ok (.value (.pointer (some a))) w := by kernel_rfl
theorem neP52 (w : World) (a : Addr) : (Bo .neq 52 false false (.pointer (some a)) (.pointer (some a))).run Tryz.prog w = .ok (.bool false) w := by
 obtain ⟨j, hj, -⟩ := Option.map_eq_some_iff.1 (show (Tryz.prog.info? 54).map (·.size) = some 2 by kernel_rfl); have := Lib.run_neq_ptr_same (P := Tryz.prog) w a (show Tryz.prog.underlying 52 = some (.pointer 54) by kernel_rfl) hj; simp [Bo, go_sem, this]
def BX1 (lo : Nat) (w : World) (b : Nat) (rest : List Value) (buf : List UInt8) : Prop :=
  ∃ v, At w b (ptr b :: v :: rest) ∧ AccB lo w v buf ∧ (v = .slice none 0 0 ∨ buf ≠ []) ∧ b < lo ∧ lo ≤ w.heap.size
theorem c119v {w : World} {b : Nat} {rest : List Value} {ad v : Value} (ab : At w b (ad :: v :: rest)) (had : (ad = .pointer none ∧ ∃ e n, w.shape? b = some (e, n) ∧ ((e = 54 ∧ n = 2) ∨ (e = 56 ∧ n = 3))) ∨ ad = ptr b) :
   Calls Tryz.prog 119 #[ptr b] w (Ret (fun _ w' => At w' b (ptr b :: v :: rest) ∧ Keep [b] w w') NP) := by
 refine s119 ?_; unfold S119; unfold ptr at *; refine Up.i (Nc.p _ _) ?_; refine V1.i (by simp [go_sem] <;> trivial) ?_; refine V1.load (oneAll rfl) (ab) rfl ?_; rcases had with ⟨rfl, e, n, hsh, hen⟩ | rfl
 · refine V1.i (by simp [go_sem] <;> trivial) ?_; refine If.t ?_; have hl54 : 0 < n := by rcases hen with ⟨_, h⟩ | ⟨_, h⟩ <;> omega
   obtain ⟨j, hj, hjs⟩ := Option.map_eq_some_iff.1 (show (Tryz.prog.info? 54).map (·.size) = some 2 by kernel_rfl); have u52 : Tryz.prog.underlying 52 = some (.pointer 54) := by kernel_rfl
   have u146 : Tryz.prog.underlying 146 = some .unsafePointer := by kernel_rfl
   have hlies : liesAt Tryz.prog Tryz.prog.depth e (n / Tryz.prog.cellsOf e) 0 54 1 = true := by
     rcases hen with ⟨rfl, rfl⟩ | ⟨rfl, rfl⟩
     · kernel_rfl
     · kernel_rfl
   refine V1.i (Lib.run_to_unsafe (P := Tryz.prog) w ⟨b, 0, none⟩ u52 u146 hj (by rw [hjs]; decide) hsh hl54) ?_; refine Up.i (ext173 w _) ?_; refine V1.i (Lib.run_from_unsafe (P := Tryz.prog) w ⟨b, 0, none⟩ u146 u52 hj hsh hlies) ?_; refine Up.i (Nc.p _ _) ?_; refine V1.i (by simp [go_sem] <;> trivial) ?_; refine U1.store (onesAll rfl rfl) (ab) (by simp) fun w1 U1 => ?_; exact ⟨U1.at_, U1.keep⟩
 · refine V1.i (by simp [go_sem] <;> trivial) ?_; refine If.f ?_; refine Up.i (Nc.p _ _) ?_; refine V1.i (by simp [go_sem] <;> trivial) ?_; refine V1.load (oneAll rfl) (ab) rfl ?_; refine V1.i (neP52 w _) ?_; refine If.f ?_; exact ⟨ab, Keep.refl _ _⟩
theorem c119 {lo : Nat} {w : World} {b : Nat} {rest : List Value} {buf : List UInt8} (h : BX lo w b rest buf) :
   Calls Tryz.prog 119 #[ptr b] w (Ret (fun _ w' => BX1 lo w' b rest buf ∧ KL b lo w w') NP) := by
 obtain ⟨ad, v, ab, had, hv, hne, hb, hlo⟩ := h; refine Ret.imp2 (c119v ab had) ?_ (NP.no (e := _)); rintro _ w' ⟨h1, hk⟩; have z := hk.size; exact ⟨⟨v, h1, hv.fr hk (by simp; omega), hne, hb, by omega⟩, KL.of hk hlo (by simp)⟩
def KO (b : Nat) (w w' : World) : Prop := w.heap.size ≤ w'.heap.size ∧ ∀ ad v rest, At w b (ad :: v :: rest) → Keep (b :: v.ownBlock.toList) w w' ∧ ∀ ad' v' rest', At w' b (ad' :: v' :: rest') → ∀ g, v'.ownBlock = some g → v.ownBlock = some g ∨ w.heap.size ≤ g
theorem at_inj {w : World} {b : Nat} {c c' : List Value} (h : At w b c) (h' : At w b c') : c = c' := by
 obtain ⟨T, h⟩ := h; obtain ⟨T', h'⟩ := h'; rw [h] at h'; injection h' with h'; injection h' with h1; simpa using h1
theorem KO.of {b : Nat} {w w' : World} {ad v : Value} {rest : List Value} (ab : At w b (ad :: v :: rest)) (hk : Keep (b :: v.ownBlock.toList) w w')
   (ho : ∀ ad' v' rest', At w' b (ad' :: v' :: rest') → ∀ g, v'.ownBlock = some g → v.ownBlock = some g ∨ w.heap.size ≤ g) : KO b w w' := by
 refine ⟨hk.size, fun ad2 v2 rest2 h => ?_⟩; have := at_inj ab h; injection this with h1 h2; injection h2 with h2 h3; subst h1; subst h2; subst h3
 exact ⟨hk, ho⟩
theorem KO.trans {b : Nat} {w1 w2 w3 : World} (h : KO b w1 w2) (h' : KO b w2 w3) (h2 : ∃ ad v rest, At w2 b (ad :: v :: rest)) : KO b w1 w3 := by
 refine ⟨Nat.le_trans h.1 h'.1, fun ad v rest hab => ?_⟩; obtain ⟨k1, o1⟩ := h.2 ad v rest hab; obtain ⟨ad2, v2, rest2, ab2⟩ := h2; obtain ⟨k2, o2⟩ := h'.2 ad2 v2 rest2 ab2; have z := h.1; refine ⟨⟨Nat.le_trans h.1 h'.1, fun q hq hm => ?_, k2.io.1.trans k1.io.1, k2.io.2.trans k1.io.2⟩, ?_⟩
 · rw [k2.same q (by omega) ?_, k1.same q hq hm]; intro hin; simp only [List.mem_cons, Option.mem_toList, Option.mem_def] at hin hm; rcases hin with hin | hin
   · exact hm (.inl hin)
   · rcases o1 ad2 v2 rest2 ab2 q hin with h | h
     · exact hm (.inr h)
     · omega
 · intro ad' v' rest' h3 g hg; rcases o2 ad' v' rest' h3 g hg with h | h
   · exact o1 ad2 v2 rest2 ab2 g h
   · exact .inr (by omega)
theorem KO.refl (b : Nat) (w : World) : KO b w w := by
 refine ⟨Nat.le_refl _, fun ad v rest hab => ⟨Keep.refl _ _, fun ad' v' rest' h g hg => .inl ?_⟩⟩; have := at_inj hab h; injection this with h1 h2; injection h2 with h2 h3; rw [h2]; exact hg
theorem KO.keep {b : Nat} {w w' : World} (hk : Keep [] w w') : KO b w w' := by
 refine ⟨hk.size, fun ad v rest hab => ⟨hk.mono (by simp), fun ad' v' rest' h g hg => .inl ?_⟩⟩; have := at_inj (hk.at hab (by simp)) h; injection this with h1 h2; injection h2 with h2 h3; rw [h2]; exact hg
def FO (b : Nat) (w : World) (q : Nat) : Prop := q ≠ b ∧ ∀ ad v rest, At w b (ad :: v :: rest) → v.ownBlock ≠ some q
theorem KO.same {b : Nat} {w w' : World} (h : KO b w w') (hab : ∃ ad v rest, At w b (ad :: v :: rest)) {M : List Nat} : ∃ M, Keep M w w' ∧ ∀ q, FO b w q → q < w.heap.size → q ∉ M ∧ FO b w' q := by
 obtain ⟨ad, v, rest, hab⟩ := hab; obtain ⟨k, o⟩ := h.2 ad v rest hab; refine ⟨_, k, fun q hq hlt => ⟨?_, hq.1, ?_⟩⟩
 · simp only [List.mem_cons, Option.mem_toList, Option.mem_def, not_or]; exact ⟨hq.1, hq.2 ad v rest hab⟩
 · intro ad' v' rest' h' e; rcases o ad' v' rest' h' q e with h | h
   · exact hq.2 ad v rest hab h
   · omega
theorem KO.kl {lo b : Nat} {w w' : World} {rest : List Value} {buf : List UInt8} (h : KO b w w') (hb : BX lo w b rest buf) : KL b lo w w' := by
 obtain ⟨ad, v, ab, had, hv, hne, hbl, hlo⟩ := hb; refine KL.of (h.2 ad v rest ab).1 hlo fun i hi => ?_; simp only [List.mem_cons, Option.mem_toList, Option.mem_def] at hi; rcases hi with hi | hi
 · exact .inl hi
 · exact .inr (hv.lt hi).1
theorem c69 {lo : Nat} {w : World} {b : Nat} {rest : List Value} {buf : List UInt8} (h : BX lo w b rest buf) :
   Calls Tryz.prog 69 #[ptr b] w (Ret (fun v w' => v = .int .i64 buf.length ∧ w' = w) NP) := by
 refine s69 ?_; unfold S69; obtain ⟨ad, v, ab, had, hv, hne, hb, hlo⟩ := h; unfold ptr at *; refine Up.i (Nc.p _ _) ?_; refine V1.i (by simp [go_sem] <;> trivial) ?_; refine V1.load (oneAll rfl) (ab) rfl ?_; obtain ⟨a, c, rfl⟩ := hv.sl; refine V1.i (by simp [go_sem] <;> trivial) ?_; exact ⟨rfl, rfl⟩
theorem c70 {lo : Nat} {w : World} {b : Nat} {rest : List Value} {buf : List UInt8} (h : BX lo w b rest buf) (s : List UInt8) (hl : buf.length + s.length ≤ 1099511627776) :
   Calls Tryz.prog 70 #[ptr b, str s] w (Ret (fun _ w' => BX lo w' b rest (buf ++ s) ∧ KO b w w') NP) := by
 refine s70 ?_; unfold S70; obtain ⟨ad, v, ab0, had, hv, hne, hb, hlo⟩ := h; refine cf119 (c119v ab0 had) ?_ (NP.no (e := _)); rintro _ w1 ⟨ab, K1⟩; have z1 := K1.size; replace hv := hv.fr K1 (by simp; omega); replace hlo : lo ≤ w1.heap.size := by omega
 unfold ptr at *; refine Up.i (Nc.p _ _) ?_; refine V1.i (by simp [go_sem] <;> trivial) ?_; refine V1.load (oneAll rfl) (ab) rfl ?_; obtain ⟨v', w2, hr, hv2, hne2, k2, hold⟩ := appStr hv hne s hl hlo; refine V1.i hr ?_; have z2 := k2.size; have hown : ∀ i ∈ v.ownBlock.toList, lo ≤ i ∧ i < w1.heap.size := fun i hi => by
   simp only [Option.mem_toList, Option.mem_def] at hi; exact hv.lt hi
 have ab2 := k2.at ab (fun hi => by have := (hown _ hi).1; omega); refine Up.i (Nc.p _ _) ?_; refine V1.i (by simp [go_sem] <;> trivial) ?_; have hsc : Sc v' = true := by
   obtain ⟨a, c, rfl⟩ := hv2.sl; rfl
 refine U1.store (onesAll rfl hsc) ab2 (by simp) fun w3 U3 => ?_; refine V1.i (by simp [go_sem] <;> trivial) ?_; have hv3 := hv2.fr U3.keep (by simp; omega); refine ⟨⟨_, v', U3.at_, .inr rfl, hv3, hne2, hb, by have := U3.size; omega⟩, ?_⟩; have hown0 : ∀ i ∈ v.ownBlock.toList, i < w1.heap.size := fun i hi => (hown i hi).2; refine KO.of ab0 (((K1.mono (by simp)).trans' k2 (fun i hi _ => List.mem_cons_of_mem _ hi)).trans' U3.keep (by simp)) ?_; intro ad' v'' rest' h' g hg; have := at_inj U3.at_ h'; injection this with h1 h2; injection h2 with h2 h3; subst h2; rcases hold g hg with h | h
 · exact .inl h
 · exact .inr (by omega)
theorem c204 {lo : Nat} {w : World} {b : Nat} {rest : List Value} {buf : List UInt8} (h : BX lo w b rest buf) (c : UInt8) (hl : buf.length ≤ 1099511627000) :
   Calls Tryz.prog 204 #[ptr b, .int .u8 c.toNat] w (Ret (fun _ w' => BX lo w' b rest (buf ++ [c]) ∧ KL b lo w w') NP) := by
 refine s204 ?_; unfold S204; refine cf119 (c119 h) ?_ (NP.no (e := _)); rintro _ w1 ⟨h1, K1⟩; obtain ⟨v, ab, hv, hne, hb, hlo⟩ := h1; unfold ptr at *; refine Up.i (Nc.p _ _) ?_; refine V1.i (by simp [go_sem] <;> trivial) ?_; refine V1.load (oneAll rfl) (ab) rfl ?_; refine V1.newSlice (by simp [go_sem] <;> trivial) fun b2 w2 N2 => ?_; have gN2 := N2.ge; have lN2 := N2.lt; have zN2 := N2.keep.size; have a2 := N2.at_; try simp only [Value.cells, List.toList_toArray] at a2
 replace ab := N2.a ab; obtain ⟨v', w3, hr, hv2, k2⟩ := app22 (n := 1099511627000) (hv.fr N2.keep (by simp)) a2 hl (by omega) (by omega); refine V1.i hr ?_; have z2 := k2.size; have hown : ∀ i ∈ v.ownBlock.toList, lo ≤ i ∧ i < w1.heap.size := fun i hi => by
   simp only [Option.mem_toList, Option.mem_def] at hi; exact hv.lt hi
 have ab2 := k2.at ab (fun hi => by have := (hown _ hi).1; omega); refine Up.i (Nc.p _ _) ?_; refine V1.i (by simp [go_sem] <;> trivial) ?_; have hsc : Sc v' = true := by
   obtain ⟨a, c, rfl⟩ := hv2.sl; rfl
 refine U1.store (onesAll rfl hsc) ab2 (by simp) fun w4 U3 => ?_; exact ⟨⟨_, v', U3.at_, .inr rfl, hv2.fr U3.keep (by simp; omega), .inr (by simp), hb, by have := U3.size; omega⟩, K1.trans ((KL.of N2.keep hlo (by simp)).trans ((KL.of k2 (by omega) (fun i hi => .inr (hown i hi).1)).trans (KL.of U3.keep (by omega) (by simp))))⟩
def BF (w : World) (b : Nat) (buf : List UInt8) : Prop :=
  ∃ ad v rest, At w b (ad :: v :: rest) ∧ ((v = .slice none 0 0 ∧ buf = []) ∨ ∃ g cap cur fr, v = .slice (some ⟨g, 0, none⟩) buf.length cap ∧ g ≠ b ∧ buf ≠ [] ∧ w.heap[g]? = some (.cells cur 5 fr) ∧ buf.length ≤ cap ∧ cur.size = cap ∧ ∀ (j : Nat) (c : UInt8), buf[j]? = some c → cur[j]? = some (Value.int .u8 c.toNat))
theorem BX.bf {lo : Nat} {w : World} {b : Nat} {rest : List Value} {buf : List UInt8} (h : BX lo w b rest buf) : BF w b buf := by
 obtain ⟨ad, v, ab, had, hv, hne, hb, hlo⟩ := h; refine ⟨ad, v, rest, ab, ?_⟩; rcases hv.1.2 with ⟨h1, h2⟩ | ⟨g, cap, cur, rfl, h3, h4, h5, h6, h7, h8⟩
 · exact .inl ⟨h1, List.eq_nil_of_length_eq_zero h2⟩
 · have hg := (hv.lt (g := g) rfl).1; rcases hne with hne | hne
   · cases hne
   · refine .inr ⟨g, cap, cur, (0, 0), rfl, by omega, hne, h4, h5, by omega, fun j c hj => ?_⟩; have hjl : j < buf.length := by
       rcases Nat.lt_or_ge j buf.length with h | h
       · exact h
       · rw [List.getElem?_eq_none h] at hj; cases hj
     have : (cur.toList.take (buf.length * 1))[j]? = some (.int .u8 c.toNat) := by rw [h8, List.getElem?_map, hj]; rfl
     rw [List.getElem?_take_of_lt (by omega)] at this; simpa using this
theorem c19 {w : World} {b : Nat} {buf : List UInt8} (h : BF w b buf) (hl : buf.length ≤ 1099511627776) :
   Calls Tryz.prog 19 #[ptr b] w (Ret (fun v w' => v = str buf ∧ BF w' b buf ∧ ∃ M, Keep M w w' ∧ ∀ g ∈ M, ∃ ad rest n c, At w b (ad :: .slice (some ⟨g, 0, none⟩) n c :: rest)) NP) := by
 refine s19 ?_; unfold S19; obtain ⟨ad, v, rest, ab, hv⟩ := h; unfold ptr at *; have abd : At w.drew b (ad :: v :: rest) := ab; have kd : Keep [] w w.drew := (Keep.refl _ _).drew; refine ⟨fun w' => At w' b (ad :: v :: rest), abd, ?_⟩; refine ⟨_, fun w' _ => Nc.p _ w', ?_⟩; refine Xw.i _ (fun w' _ => by simp [go_sem] <;> trivial) ?_; refine Xw.i v (fun w' hw => (oneAll rfl) _ _ _ (by rw [hw.cell]; rfl)) ?_; refine ⟨_, fun w' _ => Nc.p _ w', ?_⟩; refine Xw.i _ (fun w' _ => by simp [go_sem] <;> trivial) ?_; refine Xw.i v (fun w' hw => (oneAll rfl) _ _ _ (by rw [hw.cell]; rfl)) ?_; rcases hv with ⟨rfl, rfl⟩ | ⟨g, cap, cur, fr, rfl, hgb, hne, hg, hn, hcs, hc⟩
 · refine Xw.i _ (fun w' _ => by simp [go_sem] <;> trivial) ?_; refine V1.i (Lib.run_unsafeSliceData_nil (P := Tryz.prog) w.drew _ _ _ _) ?_; refine ⟨abd, ?_⟩; refine V1.i (Lib.run_unsafeString_none (P := Tryz.prog) w.drew 93 3 9 _) ?_; exact ⟨rfl, ⟨ad, _, rest, abd, .inl ⟨rfl, rfl⟩⟩, [], kd, by simp⟩
 · refine Xw.i _ (fun w' _ => by simp [go_sem] <;> trivial) ?_; have hcap : cap ≠ 0 := by
     intro h0; have : buf.length = 0 := by omega
     exact hne (List.eq_nil_of_length_eq_zero this)
   refine V1.i (Lib.run_unsafeSliceData_row (P := Tryz.prog) w.drew _ _ _ _ _ hcap) ?_; refine ⟨abd, ?_⟩; have hgd : w.drew.heap[g]? = some (.cells cur 5 fr) := hg; have hsh : w.drew.shape? g = some (5, cur.size) := by unfold World.shape?; rw [hgd]
   refine V1.i (Lib.run_unsafeString_row (P := Tryz.prog) w.drew 93 3 9 5 (by kernel_rfl) (by kernel_rfl) g cur.size hsh buf hne (by omega) (by omega) (fun j x hj => by
     have := hc j x hj; simp only [Addr.add]; split
     · rename_i h0
       obtain rfl : j = 0 := by simpa using h0
       unfold World.cell?; rw [hgd]; simpa using this
     · unfold World.cell?; simp only [hgd]; simpa using this)) ?_
   have hk : Keep [g] w.drew (w.drew.freeze ⟨g, 0, none⟩ buf.length) := by
     unfold World.freeze; split
     · exact (Keep.refl _ _)
     · refine ⟨by simp, fun q h1 h2 => ?_, rfl, rfl⟩; have : g ≠ q := fun e => h2 (by simp [e]); simp [Array.getElem?_modify, this]
   have hg2 : ∃ fr', (w.drew.freeze ⟨g, 0, none⟩ buf.length).heap[g]? = some (.cells cur 5 fr') := by
     unfold World.freeze; split
     · exact ⟨fr, hgd⟩
     · obtain ⟨lo, hi⟩ := fr; simp only [Array.getElem?_modify]; rw [if_pos trivial]; rw [hgd]; exact ⟨_, rfl⟩
   obtain ⟨fr', hg2⟩ := hg2; exact ⟨rfl, ⟨ad, _, rest, hk.at abd (by simp; exact fun e => hgb e.symm), .inr ⟨g, cap, cur, fr', rfl, hgb, hne, hg2, hn, hcs, hc⟩⟩, [g], kd.then hk (by simp) (by simp), by simp; exact ⟨ad, rest, _, _, ab⟩⟩
theorem c112 (w : World) (n : Int) (g : GL w) (h0 : -9223372036854775808 ≤ n) (h1 : n ≤ 9223372036854775807) : Calls Tryz.prog 112 #[.int .i64 n] w (Ret (fun v w' => v = str (Lib.itoa n) ∧ Keep [] w w') NP) := by
 refine s112 ?_; unfold S112; refine cf164 (c164 w n g h0 h1) ?_ (NP.no (e := _)); rintro _ w1 ⟨rfl, K1⟩; exact ⟨rfl, K1⟩
def hexB : List UInt8 := [48, 49, 50, 51, 52, 53, 54, 55, 56, 57, 97, 98, 99, 100, 101, 102]
def esc (c : UInt8) : List UInt8 :=
  if c = 10 then [92, 110] else if c = 9 then [92, 116] else if c = 92 then [92, 92] else if c = 34 then [92, 34]
  else if c < 32 ∨ 126 < c then [92, 120, hexB.getD (c.toNat / 16) 0, hexB.getD (c.toNat % 16) 0] else [c]
def quoteT (s : List UInt8) : List UInt8 := [34] ++ s.flatMap esc ++ [34]
def named4 : List (Value × Value) := [(.int .u8 110, .int .u8 10), (.int .u8 116, .int .u8 9), (.int .u8 92, .int .u8 92), (.int .u8 34, .int .u8 34)]
def shortOk (l : List (Value × Value)) : Prop := (∀ p ∈ l, ∃ q ∈ named4, p = (q.2, q.1)) ∧ ∀ q ∈ named4, (q.2, q.1) ∈ l
def short (c : UInt8) : Option UInt8 := if c = 10 then some 110 else if c = 9 then some 116 else if c = 92 then some 92 else if c = 34 then some 34 else none
theorem shortOk.look {w : World} {b : Nat} {l : List (Value × Value)} (h : MapAt w b l) (hs : shortOk l) (c : UInt8) : (Instr.lookup 215 (.map (some b)) (.int .u8 c.toNat) true).run Tryz.prog w =
   .ok (match short c with | some v => .tuple #[.int .u8 v.toNat, .bool true] | none => .tuple #[.int .u8 0, .bool false]) w := by
 have hm : Tryz.prog.underlying 215 = some (.map 5 5) := by kernel_rfl
 have hd : Tryz.prog.underlying 5 = some (.int .u8) := by kernel_rfl
 have hks : ∀ p ∈ l, MapKept.IsKey (.int .u8) p.1 := by
   intro p hp; obtain ⟨q, hq, rfl⟩ := hs.1 p hp; simp only [named4, List.mem_cons, List.not_mem_nil, or_false] at hq; rcases hq with rfl | rfl | rfl | rfl <;> rfl
 have hv : ∀ (k v : Int), (Value.int .u8 k, Value.int .u8 v) ∈ l → ∀ p ∈ l, p.1 = .int .u8 k → p.2 = .int .u8 v := by
   intro k v hkv p hp e; obtain ⟨q, hq, rfl⟩ := hs.1 p hp; obtain ⟨q', hq', e'⟩ := hs.1 _ hkv; simp only [named4, List.mem_cons, List.not_mem_nil, or_false] at hq hq'; rcases hq with rfl | rfl | rfl | rfl <;> rcases hq' with rfl | rfl | rfl | rfl <;> simp_all
 have hit : ∀ (k v : Int), (Value.int .u8 k, Value.int .u8 v) ∈ l → (Instr.lookup 215 (.map (some b)) (.int .u8 k) true).run Tryz.prog w = .ok (.tuple #[.int .u8 v, .bool true]) w :=
   fun k v h1 => look_hit hm hd h (show MapKept.IsKey (.int .u8) (.int .u8 k) from rfl) hks (hv k v h1) ⟨_, h1, rfl⟩ true
 by_cases h1 : c = 10
 · subst h1; exact hit 10 110 (hs.2 (.int .u8 110, .int .u8 10) (by simp [named4]))
 by_cases h2 : c = 9
 · subst h2; exact hit 9 116 (hs.2 (.int .u8 116, .int .u8 9) (by simp [named4]))
 by_cases h3 : c = 92
 · subst h3; exact hit 92 92 (hs.2 (.int .u8 92, .int .u8 92) (by simp [named4]))
 by_cases h4 : c = 34
 · subst h4; exact hit 34 34 (hs.2 (.int .u8 34, .int .u8 34) (by simp [named4]))
 have e : short c = none := by simp [short, h1, h2, h3, h4]
 rw [e]; have ne : ∀ d : UInt8, ¬ c = d → ¬ (d.toNat : Int) = (c.toNat : Int) := fun d h e => h (UInt8.toNat_inj.1 (by omega)); have n1 := ne 10 h1; have n2 := ne 9 h2; have n3 := ne 92 h3; have n4 := ne 34 h4; simp only [UInt8.reduceToNat] at n1 n2 n3 n4; refine look_miss hm hd h (show MapKept.IsKey (.int .u8) (.int .u8 c.toNat) from rfl) hks ?_ (z := .int .u8 0) (by simp [go_sem]) true; intro p hp e2; obtain ⟨q, hq, rfl⟩ := hs.1 p hp; simp only [named4, List.mem_cons, List.not_mem_nil, or_false] at hq; rcases hq with rfl | rfl | rfl | rfl <;> (simp only [Value.int.injEq, true_and] at e2; omega)
theorem andI (a : Fin 256) : bits .and .u8 (a.val : Int) 15 = ((a.val % 16 : Nat) : Int) := by revert a; decide
theorem and15 (w : World) (c : UInt8) : (Bo .and 5 false true (.int .u8 c.toNat) (.int .u8 15)).run Tryz.prog w = .ok (.int .u8 ((c.toNat % 16 : Nat) : Int)) w := by
 have := andI ⟨c.toNat, c.toNat_lt⟩; simp only at this; simp [go_sem, Bo, this]
theorem idxU8 (w : World) (l : List UInt8) (i : Nat) (h : i < l.length) : (Instr.index 9 (str l) (.int .u8 i)).run Tryz.prog w = .ok (.int .u8 (l[i]).toNat) w := by
 simp [go_sem, str, h]; rfl
theorem V1.newS {w : World} {k : Value → World → Prop} {e : List PanicEntry → World → Prop} {s : Sem Value} {z : Array Value} {T : TypeId} (h : s.run Tryz.prog w = .ok (.pointer (some ⟨w.heap.size, 0, none⟩)) (w.alloc (.cells z T)))
    (hk : ∀ b w', New w b z.toList w' → w'.shape? b = some (T, z.size) → k (.pointer (some ⟨b, 0, none⟩)) w') : V1 Tryz.prog s w k e :=
  V1.i h (hk _ _ (New.mk' w z T) (by unfold World.shape?; rw [alloc_get, if_pos rfl]))
theorem c19x {lo : Nat} {w : World} {b : Nat} {rest : List Value} {buf : List UInt8} (h : BX lo w b rest buf) (hl : buf.length ≤ 1099511627776) :
   Calls Tryz.prog 19 #[ptr b] w (Ret (fun v w' => v = str buf ∧ BF w' b buf ∧ KL b lo w w') NP) := by
 refine Ret.imp2 (c19 h.bf hl) ?_ (NP.no (e := _)); rintro v w' ⟨rfl, h2, M, hk, hM⟩; refine ⟨rfl, h2, ?_⟩; obtain ⟨ad, v, ab, had, hv, hne, hb, hlo⟩ := h; refine KL.of hk hlo fun g hg => .inr ?_; obtain ⟨ad', rest', n, c, ab'⟩ := hM g hg; have h1 := ab.cell 1; have h2 := ab'.cell 1; rw [h1] at h2; simp only [List.getElem?_cons_succ, List.getElem?_cons_zero, Option.some.injEq] at h2; exact (hv.lt (g := g) (by rw [h2]; rfl)).1
theorem esc_len (s : List UInt8) : (s.flatMap esc).length ≤ 4 * s.length := by
 induction s with
 | nil => simp
 | cons c s ih =>
   simp only [List.flatMap_cons, List.length_append, List.length_cons]; have : (esc c).length ≤ 4 := by
     unfold esc; by_cases h1 : c = 10
     · rw [if_pos h1]; simp
     rw [if_neg h1]; by_cases h2 : c = 9
     · rw [if_pos h2]; simp
     rw [if_neg h2]; by_cases h3 : c = 92
     · rw [if_pos h3]; simp
     rw [if_neg h3]; by_cases h4 : c = 34
     · rw [if_pos h4]; simp
     rw [if_neg h4]; by_cases h5 : c < 32 ∨ 126 < c
     · rw [if_pos h5]; simp
     · rw [if_neg h5]; simp
   omega
theorem BX.len {lo : Nat} {w : World} {b : Nat} {rest : List Value} {buf buf' : List UInt8} (h : BX lo w b rest buf) (e : buf = buf') : BX lo w b rest buf' := e ▸ h
set_option maxHeartbeats 1000000 in
theorem c165 (w : World) (s : List UInt8) (hs : s.length ≤ 65536) : Calls Tryz.prog 165 #[str s] w (Ret (fun v w' => v = str (quoteT s) ∧ Keep [] w w') NP) := by
  refine s165 ?_; unfold S165; refine V1.map fun bs w1 m1 gb k1 => ?_; have lb := m1.lt; refine cf194 (c194 w1) ?_ (NP.no (e := _)); rintro _ w2 ⟨bm, rfl, nm, gbm, lbm, K2⟩; have z2 := K2.size; replace m1 := m1.keep K2 (by simp); have kk := k1.trans K2; refine V1.rangeMap (kt := 5) (et := 5) (by kernel_rfl) nm fun r w3 i3 gr K3 => ?_; have z3 := K3.size; have lr := i3.lt; replace m1 := m1.keep K3 (by simp); replace nm := nm.keep K3 (by simp); replace kk := kk.trans K3; have hnd : named4.Nodup := by unfold named4; simp
  refine L0.g (fun n w' => ∃ left l, ItAt w' r bm named4 left ∧ MapAt w' bm named4 ∧ MapAt w' bs l ∧ (∀ p ∈ l, ∃ q ∈ named4, q ∉ left ∧ p = (q.2, q.1)) ∧ (∀ q ∈ named4, q ∈ left ∨ (q.2, q.1) ∈ l) ∧ (∀ q ∈ left, q ∈ named4) ∧ left.length = n ∧ Keep [] w w' ∧ w3.heap.size ≤ w'.heap.size) 4 ⟨named4, [], i3, nm, m1, by simp, fun q hq => .inl hq, fun q hq => hq, rfl, kk, Nat.le_refl _⟩ ?_; clear m1 nm i3 kk K2 K3; rintro n w4 K ⟨left, l, i4, nm, m4, h1, h2, h3, hn, kk, z4⟩ hK; refine V1.nextMap i4 nm (by omega) ?_ ?_
  · rintro rfl; have hok : shortOk l := ⟨fun p hp => by obtain ⟨q, hq, _, e⟩ := h1 p hp; exact ⟨q, hq, e⟩, fun q hq => by rcases h2 q hq with h | h; cases h; exact h⟩; refine V1.i (by simp [go_sem] <;> trivial) ?_; refine If.f ?_; refine V1.newS (al54 _) fun bb w5 N5 sh5 => ?_; have z5 := N5.keep.size; have gN5 := N5.ge; have lN5 := N5.lt; have hz0 := kk.size; replace m4 := m4.keep N5.keep (by simp); have kk5 := kk.trans N5.keep; have bx : BX w5.heap.size w5 bb [] [] := ⟨_, _, N5.at_, .inl ⟨rfl, 54, 2, sh5, .inl ⟨rfl, rfl⟩⟩, AccB.nil _ _, .inl rfl, lN5, Nat.le_refl _⟩; refine cf204 (c204 bx 34 (by simp)) ?_ (NP.no (e := _)); rintro _ w6 ⟨bx, L6⟩; refine V1.i (by simp [go_sem] <;> trivial) ?_
    refine L1.i (fun v w' => ∃ i : Nat, i ≤ s.length ∧ v = .int .i64 i ∧ BX w5.heap.size w' bb [] ([34] ++ (s.take i).flatMap esc) ∧ KL bb w5.heap.size w5 w') (fun v w' => match v with | .int _ n => (s.length - n.toNat) | _ => 0) ⟨0, by omega, rfl, bx, L6⟩ ?_; rintro v w7 ⟨i, hi, rfl, bx, L7⟩; have hel := esc_len (s.take i); have htl : (s.take i).length ≤ i := List.length_take_le _ _; have m7 := m4.keep L7.keep (above_lo (by omega) (by omega)); by_cases hlt : i < s.length
    · refine V1.i (v := .bool true) (w' := w7) (by simp [go_sem]; omega) ?_; refine If.t ?_; have hnext : ∀ w', BX w5.heap.size w' bb [] ([34] ++ (s.take (i + 1)).flatMap esc) → KL bb w5.heap.size w5 w' → ∃ j : Nat, j ≤ s.length ∧ (.int .i64 ((i : Int) + 1) : Value) = .int .i64 j ∧ BX w5.heap.size w' bb [] ([34] ++ (s.take j).flatMap esc) ∧ KL bb w5.heap.size w5 w' :=
        fun w' h1 h2 => ⟨i + 1, by omega, by simp, h1, h2⟩
      have htake : ([34] : List UInt8) ++ (s.take (i + 1)).flatMap esc = [34] ++ (s.take i).flatMap esc ++ esc s[i] := by
        rw [List.take_succ_eq_append_getElem hlt, List.flatMap_append, List.flatMap_singleton, List.append_assoc]
      refine J0.cut (fun w' => BX w5.heap.size w' bb [] ([34] ++ (s.take (i + 1)).flatMap esc) ∧ KL bb w5.heap.size w5 w') ?_ ?_; rotate_left
      · rintro w' ⟨h1, h2⟩; refine V1.i (addI _ _ _ _ _ _ (by omega) (by omega)) ?_; exact ⟨hnext w' h1 h2, by simp; omega⟩
      rw [htake]; refine V1.i (idxS _ s i hlt) ?_; generalize s[i] = c; refine V1.i (hok.look m7 c) ?_; have hlen : ([34] ++ (s.take i).flatMap esc).length ≤ 1099511000000 := by simp only [List.length_append, List.length_cons, List.length_nil] at *; omega
      have hcc := c.toNat_lt
      cases hsh : short c with
      | some v =>
        have he : esc c = [92, v] := by
          unfold short at hsh; unfold esc; repeat' split at hsh
          all_goals first | (cases hsh; done) | (injection hsh with hsh; subst hsh; simp_all)
        rw [he]; refine V1.i (by simp [go_sem] <;> trivial) ?_; refine V1.i (by simp [go_sem] <;> trivial) ?_; refine If.t ?_; refine cf204 (c204 bx 92 (by simp only [List.length_append, List.length_cons, List.length_nil] at *; omega)) ?_ (NP.no (e := _)); rintro _ w8 ⟨bx, L8⟩; refine cf204 (c204 bx v (by simp only [List.length_append, List.length_cons, List.length_nil] at *; omega)) ?_ (NP.no (e := _)); rintro _ w9 ⟨bx, L9⟩; exact ⟨bx.len (by simp), L7.trans (L8.trans L9)⟩
      | none =>
        have hne : ¬ c = 10 ∧ ¬ c = 9 ∧ ¬ c = 92 ∧ ¬ c = 34 := by
          unfold short at hsh; refine ⟨?_, ?_, ?_, ?_⟩ <;> (rintro rfl; simp at hsh)
        refine V1.i (by simp [go_sem] <;> trivial) ?_; refine V1.i (by simp [go_sem] <;> trivial) ?_; refine If.f ?_; refine V1.i (v := .bool (decide ((c.toNat : Int) < 32))) (w' := w7) (by simp [go_sem]) ?_; refine J1.gd (decide (126 < (c.toNat : Int))) (fun h k hk => ?_) ?_
        · refine V1.i (v := .bool (decide (126 < (c.toNat : Int)))) (w' := w7) (by simp [go_sem]) ?_; exact hk
        refine V1.i (pkO _ _ _) ?_; have hb : (decide ((c.toNat : Int) < 32) || decide (126 < (c.toNat : Int))) = decide (c < 32 ∨ 126 < c) := by
          simp only [UInt8.lt_iff_toNat_lt, UInt8.reduceToNat]; have a1 : decide ((c.toNat : Int) < 32) = decide (c.toNat < 32) := by congr 1; apply propext; omega
          have a2 : decide (126 < (c.toNat : Int)) = decide (126 < c.toNat) := by congr 1; apply propext; omega
          rw [a1, a2, Bool.decide_or]
        rw [hb]; by_cases hx : c < 32 ∨ 126 < c
        · have he : esc c = [92, 120, hexB.getD (c.toNat / 16) 0, hexB.getD (c.toNat % 16) 0] := by
            unfold esc; rw [if_neg hne.1, if_neg hne.2.1, if_neg hne.2.2.1, if_neg hne.2.2.2, if_pos hx]
          rw [he]; simp only [hx, decide_true]; refine If.t ?_; refine cf70 (c70 bx [92, 120] (by simp only [List.length_append, List.length_cons, List.length_nil] at *; omega)) ?_ (NP.no (e := _)); rintro _ w8 ⟨bx8, L8⟩; replace L8 := L8.kl bx; replace bx := bx8; refine V1.i (v := .int .u8 ((c.toNat / 16 : Nat) : Int)) (w' := w8) (by simp [go_sem]) ?_; have h1 : c.toNat / 16 < hexB.length := by show _ < 16; omega
          have h2 : c.toNat % 16 < hexB.length := by show _ < 16; omega
          refine V1.i (idxU8 w8 hexB _ h1) ?_; rw [show hexB[c.toNat / 16] = hexB.getD (c.toNat / 16) 0 by rw [List.getD_eq_getElem?_getD, List.getElem?_eq_getElem h1]; rfl]; refine cf204 (c204 bx (hexB.getD (c.toNat / 16) 0) (by simp only [List.length_append, List.length_cons, List.length_nil] at *; omega)) ?_ (NP.no (e := _)); rintro _ w9 ⟨bx, L9⟩; refine V1.i (and15 w9 c) ?_; refine V1.i (idxU8 w9 hexB _ h2) ?_; rw [show hexB[c.toNat % 16] = hexB.getD (c.toNat % 16) 0 by rw [List.getD_eq_getElem?_getD, List.getElem?_eq_getElem h2]; rfl]; refine cf204 (c204 bx (hexB.getD (c.toNat % 16) 0) (by simp only [List.length_append, List.length_cons, List.length_nil] at *; omega)) ?_ (NP.no (e := _)); rintro _ w10 ⟨bx, L10⟩; exact ⟨bx.len (by simp), L7.trans (L8.trans (L9.trans L10))⟩
        · have he : esc c = [c] := by
            unfold esc; rw [if_neg hne.1, if_neg hne.2.1, if_neg hne.2.2.1, if_neg hne.2.2.2, if_neg hx]
          rw [he]; simp only [hx, decide_false]; refine If.f ?_; refine cf204 (c204 bx c (by simp only [List.length_append, List.length_cons, List.length_nil] at *; omega)) ?_ (NP.no (e := _)); rintro _ w8 ⟨bx, L8⟩; exact ⟨bx.len (by simp), L7.trans L8⟩
    · have : i = s.length := by omega
      subst this; refine V1.i (v := .bool false) (w' := w7) (by simp [go_sem]) ?_; refine If.f ?_; rw [List.take_length] at bx; have hel := esc_len s; refine cf204 (c204 bx 34 (by simp only [List.length_append, List.length_cons, List.length_nil] at *; omega)) ?_ (NP.no (e := _)); rintro _ w8 ⟨bx, L8⟩; refine cf19 (c19x bx (by simp only [List.length_append, List.length_cons, List.length_nil] at *; omega)) ?_ (NP.no (e := _)); rintro _ w9 ⟨rfl, bf, L9⟩; refine ⟨rfl, kk5.trans' (KL.keep (L7.trans (L8.trans L9))) (fun i hi hlt => ?_)⟩; rcases above_ge hi with h | h <;> omega
  · intro key val left' w5 hin hlen hs1 hs2 i5 m5 K5 z5 hent hnl; have h4 := h3 _ hin; have hbr : bs ≠ r := by omega
    refine V1.i (by simp [go_sem] <;> trivial) ?_; refine If.t ?_; refine V1.i (hent w5 (Keep.refl _ _)) ?_; refine V1.i (by simp [go_sem] <;> trivial) ?_; refine V1.i (by simp [go_sem] <;> trivial) ?_; have m4' := m4.keep K5 (by simp; omega); have hkey : MapKept.IsKey (.int .u8) val := by
      simp only [named4, List.mem_cons, List.not_mem_nil, or_false] at h4; rcases h4 with h | h | h | h <;> (injection h with _ h; subst h; rfl)
    have hval : ∀ q ∈ named4, q.2 = val → q = (key, val) := by
      intro q hq e; simp only [named4, List.mem_cons, List.not_mem_nil, or_false] at h4 hq; rcases h4 with h | h | h | h <;> (injection h with ha hb; subst ha; subst hb) <;> rcases hq with rfl | rfl | rfl | rfl <;> simp_all
    refine U1.mapAdd (kt := 5) (et := 5) (d := .int .u8) (by kernel_rfl) (by kernel_rfl) m4' hkey ?_ ?_ fun w6 m6 z6 k6 => ?_
    · intro p hp; obtain ⟨q, hq, _, rfl⟩ := h1 p hp; simp only [named4, List.mem_cons, List.not_mem_nil, or_false] at hq; rcases hq with rfl | rfl | rfl | rfl <;> rfl
    · intro p hp e; obtain ⟨q, hq, hql, rfl⟩ := h1 p hp; have := hval q hq e; rw [this] at hql; exact hql hin
    · refine hK left'.length _ (by omega) ⟨left', _, i5.keep k6 (by simp; omega), m5.keep k6 (by simp; omega), m6, ?_, ?_, fun q hq => h3 q (hs2 q hq), rfl, (kk.trans' K5 (by simp; omega)).trans' k6 (by simp; omega), by omega⟩
      · intro p hp; rcases List.mem_append.1 hp with h | h
        · obtain ⟨q, hq, hql, e⟩ := h1 p h; exact ⟨q, hq, fun h => hql (hs2 q h), e⟩
        · simp only [List.mem_singleton] at h; exact ⟨(key, val), h4, hnl hnd, h⟩
      · intro q hq; rcases h2 q hq with h | h
        · rcases hs1 q h with h | h
          · right; rw [h]; simp
          · exact .inl h
        · right; simp [h]
end Go.Proofs.YtoddjlclpnoomaaGreatDoor
namespace Go.Proofs.YtoddjlclpnoomaaGreatDoor
inductive PR where
  | ok (buf : List UInt8) (parts : Nat)
  | fail (code : Int)
  | oof
def PR.bind (r : PR) (f : List UInt8 → Nat → PR) : PR := match r with
  | .ok b p => f b p
  | .fail c => .fail c
  | .oof => .oof
def putT (s : List UInt8) (b : List UInt8) (p : Nat) : PR := if s.length + b.length ≤ 32768 then .ok (b ++ s) p else .fail 3
def putL : List (List UInt8) → List UInt8 → Nat → PR
  | [], b, p => .ok b p
  | s :: l, b, p => (putT s b p).bind fun b p => putL l b p
def partT (b : List UInt8) (p : Nat) : PR := if p + 1 ≤ 65536 then .ok b (p + 1) else .fail 3
def i64 (n : Int) : Bool := decide (-9223372036854775808 ≤ n ∧ n ≤ 9223372036854775807)
def quotedT (s : List UInt8) : List UInt8 := if 32768 < s.length then s else quoteT s
def nameB (s : List UInt8) : Bool := !(s == []) && decide (s.length ≤ 24) && !(resB s) && s.all (fun c => (letB ++ digB).contains c) && !(digB.contains (s.headD 0))
def nameQ : Tr → Bool
  | .ex k _ text _ _ _ _ _ _ => k == 5 && nameB text
  | _ => false
def kn : Tr → Bool
  | .ex .. => true
  | .nil => true
  | _ => false
def headQ : Tr → Bool
  | .ex k .. => k == 10 || k == 11 || k == 9
  | _ => false
def isBin : Tr → Bool
  | .ex k .. => k == 11
  | _ => false
def strengthT : Tr → Int
  | .ex k _ text _ _ _ _ _ _ => if k = 11 then bindN text else if k = 10 then 50 else 100
  | _ => 100
def isNilT : Tr → Bool
  | .nil => true
  | _ => false
def noneT : Tr := .ex 0 0 [] .nil .nil .nil .nil [] .nil
def needT (e : Tr) : Tr := match e with
  | .nil => noneT
  | e => e
def parsT : List (List UInt8) → Bool → List UInt8 → Nat → PR
  | [], _, b, p => .ok b p
  | s :: l, first, b, p => (putL (if first then [s] else [[44, 32], s]) b p).bind fun b p => parsT l false b p
inductive PCl where
  | expr (e : Tr) | inner (e : Tr) (around : Bool) | func (ps : List (List UInt8)) (body : Tr) | args (l : Tr) (first : Bool) | items (ks l : Tr) (first : Bool)
  | block (l : Tr) | stmts (l : Tr) | stmt (s : Tr) | branch (r a b : Tr) | more (word : List UInt8) (e : Tr) | within (word : List UInt8) (l : Tr)
def prn : Nat → PCl → List UInt8 → Nat → PR
  | 0, _, _, _ => .oof
  | n + 1, c, b, p => match c with
    | .inner e around => match around with
      | false => prn n (.expr e) b p
      | true => (putL [[40]] b p).bind fun b p => (prn n (.expr e) b p).bind fun b p => putL [[41]] b p
    | .func ps body => (putL [[40]] b p).bind fun b p => (parsT ps true b p).bind fun b p => (putL [[41]] b p).bind fun b p => (prn n (.block body) b p).bind fun b p => putL [sEnd] b p
    | .args l first => match l with
      | .nil => .ok b p
      | .cons x l => (putL (if first then [] else [[44, 32]]) b p).bind fun b p => (prn n (.expr x) b p).bind fun b p => prn n (.args l false) b p
      | _ => .oof
    | .items ks l first => match l with
      | .nil => .ok b p
      | .cons x l => match ks with
        | .cons k ks => (putL (if first then [] else [[44, 32]]) b p).bind fun b p => (match k with
            | .nil => .ok b p
            | .ex kk kn text kl kr kks kas kps kb => if nameQ k then (partT b p).bind fun b p => putL [text, [32, 61, 32]] b p
                else (putL [[91]] b p).bind fun b p => (prn n (.expr (.ex kk kn text kl kr kks kas kps kb)) b p).bind fun b p => putL [[93, 32, 61, 32]] b p
            | _ => .oof : PR).bind fun b p => (prn n (.expr x) b p).bind fun b p => prn n (.items ks l false) b p
        | _ => .oof
      | _ => .oof
    | .block l => (putL [[10]] b p).bind fun b p => prn n (.stmts l) b p
    | .stmts l => match l with
      | .nil => .ok b p
      | .cons s l => (prn n (.stmt s) b p).bind fun b p => (putL [[10]] b p).bind fun b p => prn n (.stmts l) b p
      | _ => .oof
    | .more word e => match e with
      | .nil => .ok b p
      | .ex .. => (putL [word] b p).bind fun b p => prn n (.expr e) b p
      | _ => .oof
    | .within word l => (putL [word] b p).bind fun b p => (prn n (.block l) b p).bind fun b p => putL [sEnd] b p
    | .branch r a bb => (prn n (.more [32] (needT r)) b p).bind fun b p => (putL [[32, 116, 104, 101, 110]] b p).bind fun b p => (prn n (.block a) b p).bind fun b p =>
      match bb with
      | .nil => putL [sEnd] b p
      | .cons (.st k nm l r2 t2 a2 b2) .nil => if k = 6 then (partT b p).bind fun b p => (putL [sElseif] b p).bind fun b p => prn n (.branch r2 a2 b2) b p
          else (putL [sElse] b p).bind fun b p => (prn n (.block (.cons (.st k nm l r2 t2 a2 b2) .nil)) b p).bind fun b p => putL [sEnd] b p
      | .cons .nil .nil => (putL [sElse] b p).bind fun b p => (prn n (.block (.cons .nil .nil)) b p).bind fun b p => putL [sEnd] b p
      | .cons x (.cons y z) => (putL [sElse] b p).bind fun b p => (prn n (.block (.cons x (.cons y z))) b p).bind fun b p => putL [sEnd] b p
      | _ => .oof
    | .expr e => match e with
      | .nil => .fail 2
      | .ex k num text l r keys args params body => if k < 1 ∨ 12 < k then .fail 2 else (partT b p).bind fun b p =>
        if k = 1 then putL [sNil] b p
        else if k = 2 then putL [sTrue] b p
        else if k = 3 then putL [sFalse] b p
        else if k = 4 then (if i64 num then putL [(Lib.itoa num)] b p else .oof)
        else if k = 5 then putL [(quotedT text)] b p
        else if k = 6 then putL [text] b p
        else if k = 7 then (if kn l && kn r then (prn n (.inner l (headQ l)) b p).bind fun b p =>
            (match r with
             | .ex _ _ rt _ _ _ _ _ _ => if nameQ r then (partT b p).bind fun b p => putL [[46], rt] b p else (putL [[91]] b p).bind fun b p => (prn n (.expr r) b p).bind fun b p => putL [[93]] b p
             | _ => (putL [[91]] b p).bind fun b p => (prn n (.expr r) b p).bind fun b p => putL [[93]] b p) else .oof)
        else if k = 8 then (if kn l then (prn n (.inner l (headQ l)) b p).bind fun b p => (putL [[40]] b p).bind fun b p => (prn n (.args args true) b p).bind fun b p => putL [[41]] b p else .oof)
        else if k = 9 then (putL [sFunction] b p).bind fun b p => prn n (.func params body) b p
        else if k = 10 then (if kn r then (putL [text, [32]] b p).bind fun b p => prn n (.inner r (isBin r)) b p else .oof)
        else if k = 11 then (if kn l && kn r then
            (prn n (.inner l (decide (strengthT l < bindN text) || (text == [46, 46] && strengthT l == bindN text))) b p).bind fun b p => (putL [[32], text, [32]] b p).bind fun b p =>
            prn n (.inner r (decide (strengthT r < bindN text) || (!(text == [46, 46]) && strengthT r == bindN text))) b p else .oof)
        else if (isList keys && isList args) = false then .oof else if len keys = len args then (putL [[123]] b p).bind fun b p => (prn n (.items keys args true) b p).bind fun b p => putL [[125]] b p else .fail 2
      | _ => .oof
    | .stmt s => match s with
      | .nil => .fail 2
      | .st k nm l r t2 a bb => if k < 1 ∨ 11 < k then .fail 2 else (partT b p).bind fun b p =>
        if k = 1 then (putL [[108, 111, 99, 97, 108, 32], nm] b p).bind fun b p => prn n (.more [32, 61, 32] r) b p
        else if k = 2 then (prn n (.expr l) b p).bind fun b p => prn n (.more [32, 61, 32] (needT r)) b p
        else if k = 3 then prn n (.expr r) b p
        else if k = 4 then prn n (.within sDo a) b p
        else if k = 5 then (prn n (.more [119, 104, 105, 108, 101, 32] (needT r)) b p).bind fun b p => prn n (.within [32, 100, 111] a) b p
        else if k = 6 then (putL [sIf] b p).bind fun b p => prn n (.branch r a bb) b p
        else if k = 7 then (putL [[102, 111, 114, 32], nm] b p).bind fun b p => (prn n (.more [32, 61, 32] (needT r)) b p).bind fun b p => (prn n (.more [44, 32] (needT t2)) b p).bind fun b p => prn n (.within [32, 100, 111] a) b p
        else if k = 8 then (putL [sReturn] b p).bind fun b p => prn n (.more [32] r) b p
        else if k = 9 then putL [sBreak] b p
        else if k = 10 then (putL [sTry] b p).bind fun b p => (prn n (.block a) b p).bind fun b p => (putL [[99, 97, 116, 99, 104, 32], nm] b p).bind fun b p => prn n (.within [] bb) b p
        else (putL [[108, 111, 99, 97, 108, 32, 102, 117, 110, 99, 116, 105, 111, 110, 32], nm] b p).bind fun b p => (match r with
          | .ex k2 _ _ _ _ _ _ params body => if k2 = 9 then (partT b p).bind fun b p => prn n (.func params body) b p else .fail 2
          | .nil => .fail 2
          | _ => .oof)
      | _ => .oof
end Go.Proofs.YtoddjlclpnoomaaGreatDoor
namespace Go.Proofs.YtoddjlclpnoomaaGreatDoor
def Adds (b : List UInt8) (p : Nat) (r : PR) : Prop := ∀ b' p', r = .ok b' p' → b.length ≤ b'.length ∧ p ≤ p'
variable {b : List UInt8} {p : Nat}
theorem Adds.ok : Adds b p (.ok b p) := by
 intro b' p' h
 cases h
 exact ⟨Nat.le_refl _, Nat.le_refl _⟩
theorem Adds.fail (c : Int) : Adds b p (.fail c) := by
 intro b' p' h
 cases h
theorem Adds.oof : Adds b p .oof := by
 intro b' p' h
 cases h
theorem Adds.bind {r : PR} {g : List UInt8 → Nat → PR} (hf : Adds b p r) (hg : ∀ b1 p1, Adds b1 p1 (g b1 p1)) : Adds b p (r.bind g) := by
 intro b' p' h
 cases r with
 | ok b1 p1 =>
   have h1 := hf b1 p1 rfl; have h2 := hg b1 p1 b' p' h; omega
 | fail c => cases h
 | oof => cases h
theorem Adds.put (s : List UInt8) : Adds b p (putT s b p) := by
 intro b' p' h; unfold putT at h; split at h
 · cases h
   simp
 · cases h
theorem Adds.putL : ∀ (l : List (List UInt8)) (b : List UInt8) (p : Nat), Adds b p (putL l b p)
  | [], b, p => Adds.ok
  | s :: l, b, p => (Adds.put s).bind (Adds.putL l)
theorem Adds.part : Adds b p (partT b p) := by
 intro b' p' h; unfold partT at h; split at h
 · cases h
   simp
 · cases h
theorem Adds.pars : ∀ (l : List (List UInt8)) (first : Bool) (b : List UInt8) (p : Nat), Adds b p (parsT l first b p)
  | [], _, b, p => Adds.ok
  | s :: l, first, b, p => (Adds.putL _ b p).bind (Adds.pars l false)
theorem Adds.ite {c : Prop} {hd : Decidable c} {x y : PR} (hx : Adds b p x) (hy : Adds b p y) : Adds b p (@ite PR c hd x y) := by
 split
 · exact hx
 · exact hy
theorem prn_adds : ∀ (n : Nat) (c : PCl) (b : List UInt8) (p : Nat), Adds b p (prn n c b p)
 | 0, c, b, p => by unfold prn; exact Adds.oof
 | n + 1, c, b, p => by
   have ih := prn_adds n; unfold prn; repeat' (first
     | exact ih _ _ _ | exact Adds.ok | exact Adds.fail _ | exact Adds.oof | exact Adds.put _ | exact Adds.putL _ _ _ | exact Adds.part | exact Adds.pars _ _ _ _
     | refine Adds.bind ?_ (fun b1 p1 => ?_) | refine Adds.ite ?_ ?_
     | split)
theorem bind_ok_inv {r : PR} {f : List UInt8 → Nat → PR} {b : List UInt8} {p : Nat} (h : r.bind f = .ok b p) : ∃ b1 p1, r = .ok b1 p1 ∧ f b1 p1 = .ok b p := by
 cases r with
 | ok b1 p1 => exact ⟨b1, p1, rfl, h⟩
 | fail c => cases h
 | oof => cases h
theorem putL_len : ∀ {l : List (List UInt8)} {b b' : List UInt8} {p p' : Nat}, putL l b p = .ok b' p' → b'.length = b.length + (l.map List.length).sum
 | [], b, b', p, p', h => by cases h; simp
 | s :: l, b, b', p, p', h => by
   obtain ⟨b1, p1, h1, h2⟩ := bind_ok_inv h; have := putL_len h2; unfold putT at h1; split at h1
   · cases h1
     simp at this ⊢
     omega
   · cases h1
theorem expr_adds {n : Nat} {e : Tr} {b b' : List UInt8} {p p' : Nat} (h : prn n (.expr e) b p = .ok b' p') : p + 1 ≤ p' := by
 cases n with
 | zero => unfold prn at h; cases h
 | succ n =>
   have key : ∀ (g : List UInt8 → Nat → PR), (∀ b1 p1, Adds b1 p1 (g b1 p1)) → (partT b p).bind g = .ok b' p' → p + 1 ≤ p' := by
     intro g hg h; obtain ⟨b1, p1, h1, h2⟩ := bind_ok_inv h; have := (hg b1 p1 b' p' h2).2; unfold partT at h1; split at h1
     · cases h1; omega
     · cases h1
   unfold prn at h
   cases e with
   | ex k num text l r keys args params body =>
     dsimp only at h; by_cases hk : k < 1 ∨ 12 < k
     · rw [if_pos hk] at h; cases h
     · rw [if_neg hk] at h; refine key _ (fun b1 p1 => ?_) h; have ih := prn_adds n; repeat' (first
         | exact ih _ _ _ | exact Adds.ok | exact Adds.fail _ | exact Adds.oof | exact Adds.put _ | exact Adds.putL _ _ _ | exact Adds.part | exact Adds.pars _ _ _ _
         | refine Adds.bind ?_ (fun b1 p1 => ?_) | refine Adds.ite ?_ ?_
         | split)
   | nil => cases h
   | hole => cases h
   | cons => cases h
   | st => cases h
end Go.Proofs.YtoddjlclpnoomaaGreatDoor

namespace Go.Proofs.YtoddjlclpnoomaaGreatDoor
open Go.Sh
set_option maxRecDepth 100000
theorem PS.cons {w : World} {x : Psr} {ts : List Tok} {deep : Int} {own : Bool} (h : PS w x ts deep own) : ∃ t us, ts = t :: us := by
 cases ts with
 | nil => exact absurd rfl h.ne
 | cons t us => exact ⟨t, us, rfl⟩
section
variable {w : World} {x : Psr} {ts : List Tok} {deep : Int} {own : Bool}
theorem d31 (h : PS w x ts deep own) : Calls Tryz.prog 31 #[ptr x.p] w (Ret (fun v w' => v = tokV (hd ts) ∧ Keep [] w w') NP) := by
 obtain ⟨t, us, rfl⟩ := h.cons; exact c31 h
theorem d107 (h : PS w x ts deep own) : Calls Tryz.prog 107 #[ptr x.p] w (Ret (fun v w' => v = tokV (hd ts) ∧ PS w' x (adv ts) deep own ∧ Keep [x.p] w w') NP) := by
 obtain ⟨t, us, rfl⟩ := h.cons; exact c107 h
theorem d99 {b : Nat} {ss : List (List UInt8)} (h : PS w x ts deep own) (hb : At w b (ss.map str)) (hn : ss.length ≤ 100) :
   Calls Tryz.prog 99 #[ptr x.p, strs b ss.length] w (Ret (fun v w' => v = .bool (isB (hd ts) ss) ∧ Keep [] w w') NP) := by
 obtain ⟨t, us, rfl⟩ := h.cons; exact c99 h hb hn
theorem d99s {b : Nat} {s : List UInt8} (h : PS w x ts deep own) (hb : At w b [str s]) :
    Calls Tryz.prog 99 #[ptr x.p, .slice (some ⟨b, 0, none⟩) 1 1] w (Ret (fun v w' => v = .bool (is1 s ts) ∧ Keep [] w w') NP) := d99 (ss := [s]) h hb (by simp)
theorem d158 (s : List UInt8) (h : PS w x ts deep own) :
   Calls Tryz.prog 158 #[ptr x.p, str s] w (Ret (fun v w' => v = .bool (is1 s ts) ∧ PS w' x (if is1 s ts then adv ts else ts) deep own ∧ Keep [x.p] w w') NP) := by
 obtain ⟨t, us, rfl⟩ := h.cons; exact c158 s h
theorem d57 (h : PS w x ts deep own) : Calls Tryz.prog 57 #[ptr x.p] w (Ret (fun v w' => v = .bool (endsB (hd ts)) ∧ Keep [] w w') NP) := by
 obtain ⟨t, us, rfl⟩ := h.cons; exact c57 h
def Er (M : List Nat) (x : Psr) (w : World) (r : Res) (c : List PanicEntry) (w' : World) : Prop := match r with
  | .fail code => Fails M w x code c w'
  | _ => False
theorem Er.up {M N : List Nat} {w0 w w' : World} {r1 r : Res} {f : Tr → List Tok → Bool → Res} {c : List PanicEntry} (h : Er M x w r1 c w') (hr : r1.bind f = r) (hk : Keep N w0 w)
   (hM : ∀ i ∈ M, i < w0.heap.size → i ∈ N) : Er N x w0 r c w' := by
 cases r1 with
 | fail code => subst hr; exact Fails.pre h hk hM
 | ok _ _ _ => exact h.elim
 | oof => exact h.elim
theorem Er.pre {M N : List Nat} {w0 w w' : World} {r : Res} {c : List PanicEntry} (h : Er M x w r c w') (hk : Keep N w0 w)
   (hM : ∀ i ∈ M, i < w0.heap.size → i ∈ N) : Er N x w0 r c w' := by
 cases r with
 | fail code => exact Fails.pre h hk hM
 | ok _ _ _ => exact h.elim
 | oof => exact h.elim
theorem Er.next {M : List Nat} {w w' : World} {r1 r : Res} {f : Tr → List Tok → Bool → Res} {c : List PanicEntry} (h : Er M x w r1 c w') (hr : r1.bind f = r) : Er M x w r c w' := by
 cases r1 with
 | fail code => subst hr; exact h
 | ok _ _ _ => exact h.elim
 | oof => exact h.elim
theorem Er.all {α : Type} {F : α → Res} {M : List Nat} {w w' : World} {r : Res} {c : List PanicEntry} (h : ∀ f, Er M x w (F f) c w') {f : α} (hr : F f = r) : Er M x w r c w' := by
 rw [← hr]; exact h f
theorem mustT_t {s : List UInt8} {ts : List Tok} {f : List Tok → Res} (h : is1 s ts = true) : mustT s ts f = f (adv ts) := by unfold mustT; rw [h]
theorem nameT_t {ts : List Tok} {f : List UInt8 → List Tok → Res} (h : ((hd ts).kind == 1) = true) : nameT ts f = f (hd ts).text (adv ts) := by unfold nameT; rw [h]
theorem openT_t {d : Int} {f : Int → Res} (h : decide (64 < d + 1) = false) : openT d f = f (d + 1) := by unfold openT; rw [h]
theorem bind_ok {t : Tr} {ts : List Tok} {o : Bool} {f : Tr → List Tok → Bool → Res} : (Res.ok t ts o).bind f = f t ts o := rfl
theorem bind_ne {r1 r : Res} {f : Tr → List Tok → Bool → Res} (hr : r1.bind f = r) (hne : r ≠ .oof) : r1 ≠ .oof := by
 rintro rfl; exact hne hr.symm
theorem d32 (code : Int) (h : PS w x ts deep own) : Calls Tryz.prog 32 #[ptr x.p, .int .i64 code] w (Ret (fun _ _ => False) (Er [x.p] x w (.fail code))) := by
 obtain ⟨t, us, rfl⟩ := h.cons; exact c32 code h
theorem d106 (s : List UInt8) (h : PS w x ts deep own) :
   Calls Tryz.prog 106 #[ptr x.p, str s] w (Ret (fun v w' => is1 s ts = true ∧ v = .int .i64 (hd ts).line ∧ PS w' x (adv ts) deep own ∧ Keep [x.p] w w') (fun c w' => ∀ f, Er [x.p] x w (mustT s ts f) c w')) := by
 obtain ⟨t, us, rfl⟩ := h.cons; refine (c106 s h).mono ?_; rintro e w' h
 cases e with
 | returned v => exact h
 | panicked c => intro f; simp only [mustT, is1, hd, h.1]; exact h.2
 | outgrown => exact h
theorem d104 (h : PS w x ts deep own) :
   Calls Tryz.prog 104 #[ptr x.p] w (Ret (fun v w' => ((hd ts).kind == 1) = true ∧ v = tokV (hd ts) ∧ PS w' x (adv ts) deep own ∧ Keep [x.p] w w') (fun c w' => ∀ f, Er [x.p] x w (nameT ts f) c w')) := by
 obtain ⟨t, us, rfl⟩ := h.cons; refine (c104 h).mono ?_; rintro e w' h
 cases e with
 | returned v => exact ⟨by simpa [hd] using h.1, h.2⟩
 | panicked c =>
   intro f; have : (t.kind == 1) = false := by simpa using h.1
   simp only [nameT, hd, this]; exact h.2
 | outgrown => exact h
def solid : Tr → Bool
  | .ex .. => true
  | .st .. => true
  | _ => false
def Ok (M : List Nat) (lo : Nat) (x : Psr) (w : World) (deep : Int) (mk : Value → Md) (sh : Tr → Bool) (ow : Bool) (r : Res) (v : Value) (w' : World) : Prop := match r with
  | .ok t ts o => Rep (Fr lo []) w' t (mk v) ∧ sh t = true ∧ (∃ o', (ow = true → o' = o) ∧ PS w' x ts deep o') ∧ Keep M w w'
  | _ => False
theorem Ok.out {M : List Nat} {lo : Nat} {x : Psr} {w : World} {deep : Int} {mk : Value → Md} {sh : Tr → Bool} {ow : Bool} {r : Res} {v : Value} {w' : World} (h : Ok M lo x w deep mk sh ow r v w') :
   ∃ t ts o, r = .ok t ts o ∧ Rep (Fr lo []) w' t (mk v) ∧ sh t = true ∧ (∃ o', (ow = true → o' = o) ∧ PS w' x ts deep o') ∧ Keep M w w' := by
 cases r with
 | ok t ts o => exact ⟨t, ts, o, rfl, h⟩
 | fail c => exact h.elim
 | oof => exact h.elim
theorem Ok.weak {M : List Nat} {lo : Nat} {x : Psr} {w : World} {deep : Int} {mk : Value → Md} {sh : Tr → Bool} {ow : Bool} {r : Res} {v : Value} {w' : World} (h : Ok M lo x w deep mk sh ow r v w') : Ok M lo x w deep mk sh false r v w' := by
 cases r with
 | ok t ts o => exact ⟨h.1, h.2.1, ⟨h.2.2.1.choose, (by intro h; cases h), h.2.2.1.choose_spec.2⟩, h.2.2.2⟩
 | fail c => exact h.elim
 | oof => exact h.elim
theorem Ok.pre {M N : List Nat} {lo lo' : Nat} {x : Psr} {w w0 : World} {deep : Int} {mk : Value → Md} {sh : Tr → Bool} {ow : Bool} {r : Res} {v : Value} {w' : World} (h : Ok M lo x w deep mk sh ow r v w') (hk : Keep N w0 w)
   (hM : ∀ i ∈ M, i < w0.heap.size → i ∈ N) (hl : lo' ≤ lo) : Ok N lo' x w0 deep mk sh ow r v w' := by
 cases r with
 | ok t ts o => exact ⟨h.1.fit hl (by simp), h.2.1, h.2.2.1, hk.trans' h.2.2.2 hM⟩
 | fail c => exact h.elim
 | oof => exact h.elim
def OkS (bs : Nat) (x : Psr) (w : World) (deep : Int) (r : Res) (w' : World) : Prop := match r with
  | .ok t ts o => Rep (fun q => q = bs ∨ w.heap.size ≤ q) w' t (.P (ptr bs)) ∧ solid t = true ∧ (∃ o', PS w' x ts deep o') ∧ Keep [x.p, bs] w w'
  | _ => False
theorem OkS.out {bs : Nat} {x : Psr} {w : World} {deep : Int} {r : Res} {w' : World} (h : OkS bs x w deep r w') :
   ∃ t ts o, r = .ok t ts o ∧ Rep (fun q => q = bs ∨ w.heap.size ≤ q) w' t (.P (ptr bs)) ∧ solid t = true ∧ (∃ o', PS w' x ts deep o') ∧ Keep [x.p, bs] w w' := by
 cases r with
 | ok t ts o => exact ⟨t, ts, o, rfl, h⟩
 | fail c => exact h.elim
 | oof => exact h.elim
theorem Rep.kind {F : Nat → Prop} {w : World} {t : Tr} {v : Value} (h : Rep F w t (.P v)) (hs : solid t = true) : ∃ b, v = ptr b ∧ F b ∧ w.cell? ⟨b, 0, none⟩ = some (.int .i64 (kindOf t)) := by
 cases t with
 | ex =>
   obtain ⟨b, line, lv, rv, kv, av, pv, bv, h1, h2, h3, _⟩ := h; exact ⟨b, h1, h2, by rw [h3.cell]; rfl⟩
 | st =>
   obtain ⟨b, line, lv, rv, kv, av, pv, h1, h2, h3, _⟩ := h; exact ⟨b, h1, h2, by rw [h3.cell]; rfl⟩
 | nil => cases hs
 | hole => cases hs
 | cons => cases hs
end
def clo (b : Nat) : Value := .func (.func 202) #[] #[ptr b]
theorem PS.deep {w w' : World} {x : Psr} {ts : List Tok} {d : Int} {own : Bool} (h : PS w x ts d own) {d' : Int} {own' : Bool} (hu : ∀ o c, At w x.p [.slice (some ⟨x.bt, o, none⟩) ts.length c, .map (some x.bm), .int .i64 d, .bool own] →
   Upd w x.p [.slice (some ⟨x.bt, o, none⟩) ts.length c, .map (some x.bm), .int .i64 d', .bool own'] w') : PS w' x ts d' own' := by
 obtain ⟨o, c, h1, h2, h3⟩ := h.ex; have U := hu o c h1; have ht := h.tp; have hm := h.mp; exact ⟨⟨o, c, U.at_, h2, ToksAt.keep U.keep (by simpa using ht) _ _ h3⟩, h.sat.keep U.keep (by simpa using hm), h.tp, h.mp, by have := U.size; have := h.ltt; omega, h.ne⟩
theorem S202.go {R : Ending → World → Prop} {w : World} {x : Psr} {ts : List Tok} {d : Int} {own : Bool} {b : Nat} (h : PS w x ts d own) (hb : At w b [ptr x.p])
   (hk : ∀ d' w', (-9223372036854775808 ≤ d - 1 → d - 1 ≤ 9223372036854775807 → d' = d - 1) → PS w' x ts d' own → Keep [x.p] w w' → R (.returned (.tuple #[])) w') : S202 R (ptr b) w := by
 unfold S202; obtain ⟨o, c, h1, h2, h3⟩ := h.ex; unfold ptr at *; repeat (first | refine Up.i (Nc.p _ _) ?_ | refine V1.load (oneAll rfl) (by assumption) rfl ?_ | refine V1.i (by simp [go_sem] <;> trivial) ?_)
 refine U1.store (onesAll rfl rfl) (h1) (by simp) fun w1 U => ?_; exact hk _ w1 (fun h1 h2 => IntWalk.i64_in _ (by omega)) (h.deep fun o' c' h1' => by
   obtain ⟨T, hT⟩ := h1; obtain ⟨T', hT'⟩ := h1'; rw [hT] at hT'; injection hT' with e1; simp at e1
   obtain ⟨h1, h2⟩ : o = o' ∧ c = c' := by grind
   subst h1 h2; exact U) U.keep
theorem lv_close {res : World → (Value → Prop) → Prop} {R : Ending → World → Prop} {ds : List Deferred} {u : FrameMode} {w : World} {x : Psr} {ts : List Tok} {d : Int} {own : Bool} {b : Nat} (hu : Quits u) (h : PS w x ts d own) (hb : At w b [ptr x.p])
   (hk : ∀ d' w', (-9223372036854775808 ≤ d - 1 → d - 1 ≤ 9223372036854775807 → d' = d - 1) → PS w' x ts d' own → Keep [x.p] w w' → Lv Tryz.prog res R ds u w') :
   Lv Tryz.prog res R (⟨.fn (.func 202) #[ptr b], #[]⟩ :: ds) u w := by
 refine Lv.go hu (a := [ptr b]) (C := fun e w' => e = .returned (.tuple #[]) ∧ Lv Tryz.prog res R ds u w') (callFunc_run Tryz.func202 (c := codeB Tryz.f202) (by kernel_rfl) (by kernel_rfl) _ _)
   (callsD_of [] mixed Tryz.func202 (c := codeB Tryz.f202) (by kernel_rfl) (Nat.le_of_ble_eq_true (by kernel_rfl)) (by rw [e202]; exact S202.go h hb fun d' w' h1 h2 h3 => ⟨rfl, hk d' w' h1 h2 h3⟩)) ?_
 rintro e w' ⟨rfl, h⟩; exact ⟨_, rfl, h⟩
theorem lv_fail {r0 : World → (Value → Prop) → Prop} {Q : Value → World → Prop} {M N : List Nat} {w0 w w' : World} {x : Psr} {r : Res} {c : List PanicEntry} {b : Nat} (h : Er M x w r c w') (hp : x.p < w0.heap.size) (hN : x.p ∈ N)
   (hb : At w b [ptr x.p]) (hbM : b ∉ M) (hk : Keep N w0 w) (hM : ∀ i ∈ M, i < w0.heap.size → i ∈ N) :
   Lv Tryz.prog r0 (Ret Q (Er N x w0 r)) [⟨.fn (.func 202) #[ptr b], #[]⟩] (.panicking c) w' := by
 cases r with
 | ok _ _ _ => exact h.elim
 | oof => exact h.elim
 | fail code =>
   obtain ⟨⟨b1, l, rfl, h2, h3⟩, ⟨ts, d, own, h4⟩, h5⟩ := h; refine lv_close (Quits.pan _) h4 (h5.at hb hbM) fun d' w2 _ h6 h7 => ?_; have := hk.size; exact ⟨⟨b1, l, rfl, h7.at h2 (by simp; omega), by omega⟩, ⟨_, _, _, h6⟩, (hk.trans' h5 hM).trans' h7 (by simpa using fun _ => hN)⟩
theorem lv_ok {Q : Value → World → Prop} {E : List PanicEntry → World → Prop} {v : Value} {w : World} {x : Psr} {ts : List Tok} {d : Int} {own : Bool} {b : Nat} (h : PS w x ts (d + 1) own) (hd : 0 ≤ d ∧ d ≤ 64) (hb : At w b [ptr x.p])
   (hk : ∀ w', PS w' x ts d own → Keep [x.p] w w' → Q v w') : Lv Tryz.prog (r1 v) (Ret Q E) [⟨.fn (.func 202) #[ptr b], #[]⟩] .returning w := by
 refine lv_close Quits.ret h hb fun d' w' h1 h2 h3 => ?_; have : d' = d := by have := h1 (by omega) (by omega); omega
 subst this; exact hk w' h2 h3
theorem d159 {w : World} {x : Psr} {ts : List Tok} {d : Int} {own : Bool} (p : PS w x ts d own) (hd : 0 ≤ d ∧ d ≤ 64) :
   Calls Tryz.prog 159 #[ptr x.p] w (Ret (fun v w' => decide (64 < d + 1) = false ∧ ∃ b, v = clo b ∧ w.heap.size ≤ b ∧ At w' b [ptr x.p] ∧ PS w' x ts (d + 1) own ∧ Keep [x.p] w w') (fun c w' => ∀ f, Er [x.p] x w (openT d f) c w')) := by
 refine s159 ?_; unfold S159; have lp := p.ltp; refine V1.new (bx79 _ _) fun b w1 N => ?_; have gN := N.ge; have lN := N.lt; have zN := N.keep.size; have a1 := N.at_; try simp only [Value.cells, List.toList_toArray] at a1
 replace p := p.new N.keep; obtain ⟨o, c, h1, h2, h3⟩ := p.ex; unfold ptr at *; repeat (first | refine Up.i (Nc.p _ _) ?_ | refine V1.load (oneAll rfl) (by assumption) rfl ?_ | refine V1.i (by simp [go_sem] <;> trivial) ?_)
 rw [IntWalk.i64_in _ (by omega)]; refine U1.store (onesAll rfl rfl) (h1) (by simp) fun w2 U => ?_; have a2 := U.at_; have p2 : PS w2 x ts (d + 1) own := p.deep fun o' c' h1' => by
   obtain ⟨T, hT⟩ := h1; obtain ⟨T', hT'⟩ := h1'; rw [hT] at hT'; injection hT' with e1; simp at e1
   obtain ⟨h1, h2⟩ : o = o' ∧ c = c' := by grind
   subst h1 h2; exact U
 replace a1 := U.keep.at a1 (by simp; omega); have kk : Keep [x.p] w w2 := N.keep.then U.keep (by simp) (by simp)
 refine J0.go ?_; repeat (first | refine Up.i (Nc.p _ _) ?_ | refine V1.load (oneAll rfl) (by assumption) rfl ?_ | refine V1.i (by simp [go_sem] <;> trivial) ?_)
 refine If.b (fun hb => ?_) (fun hb => ?_)
 · repeat (first | refine Up.i (Nc.p _ _) ?_ | refine V1.load (oneAll rfl) (by assumption) rfl ?_ | refine V1.i (by simp [go_sem] <;> trivial) ?_)
   refine cf32 (d32 3 p2) ?_ ?_
   · rintro _ _ h; exact h.elim
   · intro c w3 hF f; have : decide (64 < d + 1) = true := by simpa using hb
     simp only [openT, this]; exact hF.pre kk (by simp)
 · repeat (first | refine Up.i (Nc.p _ _) ?_ | refine V1.load (oneAll rfl) (by assumption) rfl ?_ | refine V1.i (by simp [go_sem] <;> trivial) ?_)
   exact ⟨by simpa using hb, b, rfl, gN, a1, p2, kk⟩
def fuelMax : Nat := 1099511627776
def G0 (n : Nat) (c : Cl) (K : FuncId) (a : List Value) (mk : Value → Md) (sh : Tr → Bool) (ow : Bool) : Prop :=
  ∀ (w : World) (x : Psr) (ts : List Tok) (deep : Int) (own : Bool) (r : Res), PS w x ts deep own → 0 ≤ deep ∧ deep ≤ 64 → n ≤ fuelMax → run n c deep ts = r → r ≠ .oof →
    Calls Tryz.prog K (ptr x.p :: a).toArray w (Ret (Ok [x.p] w.heap.size x w deep mk sh ow r) (Er [x.p] x w r))
def G1 (n : Nat) (c : Tr → Cl) (K : FuncId) (a : List Value) (sh : Tr → Bool) : Prop :=
  ∀ (w : World) (x : Psr) (ts : List Tok) (deep : Int) (own : Bool) (r : Res) (l : Tr) (la : Option Addr) (lo : Nat), PS w x ts deep own → 0 ≤ deep ∧ deep ≤ 64 → n ≤ fuelMax → run n (c l) deep ts = r → r ≠ .oof →
    Rep (Fr lo []) w l (.P (.pointer la)) → lo ≤ w.heap.size → x.p < lo → Calls Tryz.prog K (ptr x.p :: .pointer la :: a).toArray w (Ret (Ok [x.p] lo x w deep .P sh false r) (Er [x.p] x w r))
def idx : Tr → Bool
  | .ex _ _ _ _ r _ _ _ _ => solid r
  | _ => false
theorem idx_solid {t : Tr} (h : idx t = true) : solid t = true := by cases t <;> first | rfl | cases h
def newSt (line : Int) : List Value := [.int .i64 0, .int .i64 line, str [], .pointer none, .pointer none, .pointer none, .slice none 0 0, .slice none 0 0]
def GS (n : Nat) (c : Cl) (K : FuncId) : Prop :=
  ∀ (w : World) (x : Psr) (ts : List Tok) (deep : Int) (own : Bool) (r : Res) (bs : Nat) (line : Int), PS w x ts deep own → 0 ≤ deep ∧ deep ≤ 64 → n ≤ fuelMax → run n c deep ts = r → r ≠ .oof →
    At w bs (newSt line) → bs ≠ x.p → bs ≠ x.bt → bs ≠ x.bm → Calls Tryz.prog K #[ptr x.p, ptr bs] w (Ret (fun _ => OkS bs x w deep r) (Er [x.p, bs] x w r))
structure All (n : Nat) : Prop where
  block : G0 n .block 30 [] .L isList false
  inner : ∀ s, G0 n (.inner s) 105 [str s] .L isList false
  expr : ∀ a, G0 n (.expr a) 108 [.int .i64 a] .P solid false
  operand : G0 n .operand 162 [] .P solid false
  post : G0 n .post 156 [] .P solid true
  primary : G0 n .primary 199 [] .P solid false
  signed : G0 n .signed 220 [] .P solid false
  bin : ∀ k, 0 ≤ k ∧ k ≤ 100 → G1 n (fun l => .bin l k) 163 [.int .i64 k] solid
  bracket : G1 n .bracket 200 [] idx
  stmt : GS n .stmt 58
  simple : GS n .simple 100
  locl : GS n .locl 101
  branch : GS n .branch 109
end Go.Proofs.YtoddjlclpnoomaaGreatDoor

namespace Go.Proofs.YtoddjlclpnoomaaGreatDoor
open Go.Sh
theorem g105 {n : Nat} (ih : All n) (s : List UInt8) : G0 (n + 1) (.inner s) 105 [str s] .L isList false := by
 intro w x ts deep own r p hdp hn hr hne; refine s105 ?_; unfold S105; simp only [run] at hr; have lp := p.ltp; have lt := p.ltt; have lm := p.ltm; have kk := Keep.refl [x.p] w; refine D0J.go ?_; refine V1.newSlice (by simp [go_sem] <;> trivial) fun b w1 N => ?_; have gN := N.ge; have lN := N.lt; have zN := N.keep.size; have a1 := N.at_; try simp only [Value.cells, List.toList_toArray] at a1
 replace p := p.new N.keep; replace kk := N.kp kk; refine cf99 (d99s p a1) ?_ (NP.no (e := _)); rintro _ w2 ⟨rfl, K2⟩; have zK2 := K2.size; replace p := p.keep K2 (by simp <;> omega) (by simp <;> omega) (by simp <;> omega); replace kk := kk.trans' K2 (by simp <;> omega); replace a1 := K2.at a1 (by simp <;> omega); repeat (first | refine Up.i (Nc.p _ _) ?_ | refine V1.load (oneAll rfl) (by assumption) rfl ?_ | refine V1.i (by simp [go_sem] <;> trivial) ?_)
 refine If.b (fun hb => ?_) (fun hb => ?_)
 · have hb' : is1 s ts = false := by simpa using hb
   simp only [hb'] at hr; subst hr; refine cf32 (d32 4 p) ?_ ?_
   · rintro _ _ h; exact h.elim
   · intro c w3 hF; exact hF.pre kk (by simp)
 · have hb' : is1 s ts = true := by simpa using hb
   simp only [hb'] at hr; refine cf159 (d159 p hdp) ?_ ?_; rotate_left
   · intro c w3 hF; rw [← hr]; exact (hF _).pre kk (by simp)
   · rintro _ w3 ⟨h64, b3, rfl, hb3, a3, p, K3⟩; have h64' : deep + 1 ≤ 64 := by simpa using h64
     have zK3 := K3.size; replace kk := kk.trans' K3 (by simp <;> omega); replace a1 := K3.at a1 (by simp <;> omega); rw [openT_t h64] at hr; refine D1.i (by simp [go_sem, clo, Deferred.ofValue]; exact ⟨rfl, rfl⟩) ?_; refine cf107 (d107 p) ?_ (NP.no (e := _)); rintro _ w4 ⟨rfl, p, K4⟩; have zK4 := K4.size; replace a3 := K4.at a3 (by simp <;> omega); replace kk := kk.trans' K4 (by simp <;> omega); refine cf30 (ih.block _ _ _ _ _ _ p (by omega) (by omega) rfl (by rw [hr]; exact hne)) ?_ ?_
     · intro v w5 h; obtain ⟨t, ts1, o, hr1, R1, S1, ⟨o', -, p⟩, K5⟩ := h.out; have zK5 := K5.size; replace a3 := K5.at a3 (by simp <;> omega); replace kk := kk.trans' K5 (by simp <;> omega); refine lv_ok p hdp a3 fun w6 p6 K6 => ?_; rw [← hr, hr1]; exact ⟨(R1.fr K6 (by simp; omega)).fit (by omega) (by simp), S1, ⟨_, by simp, p6⟩, kk.trans' K6 (by simp)⟩
     · intro c w5 h; rw [hr] at h; exact lv_fail h lp (by simp) a3 (by simp; omega) kk (by simp)
theorem g30 {n : Nat} (ih : ∀ m, m ≤ n → All m) : G0 (n + 1) .block 30 [] .L isList false := by
 intro w x ts deep own r p hdp hn hr hne; refine s30 ?_; unfold S30; simp only [run] at hr; have lp := p.ltp; have lt := p.ltt; have lm := p.ltm; refine J1.go ?_; refine L1.g (fun m v w' => ∃ acc ts' own', PS w' x ts' deep own' ∧ Acc 40 w.heap.size [] w' v acc ∧ Keep [x.p] w w' ∧ run m (.blockL acc) deep ts' = r ∧ len acc + m ≤ n) n
   ⟨.nil, ts, own, p, Acc.nil _ _ _ _, Keep.refl _ _, hr, by simp [len]⟩ ?_
 rintro m v w' K ⟨acc, ts', own', p, ca, kk, hr, hm⟩ hK
 cases m with
 | zero => exact absurd hr.symm hne
 | succ m =>
 simp only [run] at hr; have z0 := kk.size; refine cf57 (d57 p) ?_ (NP.no (e := _)); rintro _ w2 ⟨rfl, K2⟩; have zK2 := K2.size; replace p := p.keep K2 (by simp <;> omega) (by simp <;> omega) (by simp <;> omega); replace ca := ca.fr K2 (by simp <;> omega); replace kk := kk.trans' K2 (by simp <;> omega); repeat (first | refine Up.i (Nc.p _ _) ?_ | refine V1.load (oneAll rfl) (by assumption) rfl ?_ | refine V1.i (by simp [go_sem] <;> trivial) ?_)
 refine If.b (fun hb => ?_) (fun hb => ?_)
 · have hb' : endsB (hd ts') = false := by simpa using hb
   simp only [hb'] at hr; refine cf31 (d31 p) ?_ (NP.no (e := _)); rintro _ w3 ⟨rfl, K3⟩; have zK3 := K3.size; replace p := p.keep K3 (by simp <;> omega) (by simp <;> omega) (by simp <;> omega); replace ca := ca.fr K3 (by simp <;> omega); replace kk := kk.trans' K3 (by simp <;> omega); rw [tokV]; refine V1.i (by simp [go_sem] <;> trivial) ?_; refine V1.i (by simp [go_sem] <;> trivial) ?_; have hlt : ∀ g, v.ownBlock = some g → w.heap.size ≤ g ∧ g < w3.heap.size := fun g hg => ca.lt hg; refine V1.new (bx43 _ _) fun bs w4 N => ?_; have gN := N.ge; have lN := N.lt; have zN := N.keep.size; have a4 := N.at_; try simp only [Value.cells, List.toList_toArray] at a4
   replace p := p.new N.keep; replace ca := ca.nw N; replace kk := N.kp kk; have q1 := p.ltt; refine cf58 ((ih m (by omega)).stmt _ _ _ _ _ _ bs _ p hdp (by omega) rfl (bind_ne hr hne) a4 (by omega) (by omega) (by omega)) ?_ ?_
   · rintro _ w5 h; obtain ⟨t, ts1, o, hr1, R1, S1, ⟨o', p⟩, K5⟩ := h.out; simp only [hr1, Res.bind] at hr; have zK5 := K5.size; replace ca := ca.fr K5 (by simp <;> omega); replace kk := kk.trans' K5 (by simp <;> omega); have r1 : Rep (Fr w.heap.size (v.ownBlock.toList ++ [])) w5 t (.P (ptr bs)) := Rep.imp (fun q hq _ => ⟨by omega, by
       simp
       intro hm; have := hlt q hm; omega⟩) _ _ R1
     replace ca := ca.fit (Y := []) (by simp); refine V1.newSlice (by simp [go_sem] <;> trivial) fun b6 w6 N6 => ?_; have gN6 := N6.ge; have lN6 := N6.lt; have zN6 := N6.keep.size; have a6 := N6.at_; try simp only [Value.cells, List.toList_toArray] at a6
     replace p := p.new N6.keep; replace kk := N6.kp kk; replace ca := ca.f0 N6.keep; replace r1 := r1.f0 N6.keep; obtain ⟨v', w7, hrun, ca', K7, hg⟩ := app26 (n := n) ca a6 rfl r1 (by omega) (by simp only [fuelMax] at hn; omega) (by simp) (by omega); refine V1.i hrun ?_; have hM : ∀ i ∈ v.ownBlock.toList, w.heap.size ≤ i ∧ i < w3.heap.size := by
       intro i hi; simp at hi; exact hlt i hi
     replace p := p.keep K7 (fun h => by have := hM _ h; omega) (fun h => by have := hM _ h; omega) (fun h => by have := hM _ h; omega); replace kk := kk.trans' K7 (fun i hi h => by have := hM i hi; omega); obtain ⟨b8, hb8, _, hc⟩ := r1.kind S1; injection hb8 with hb8; injection hb8 with hb8; injection hb8 with hb8
     subst hb8; replace hc := K7.cell hc (fun h => by have := hM bs h; omega); refine Up.i (Nc.p _ _) ?_; refine V1.i (by simp [go_sem] <;> trivial) ?_; refine V1.i (one3 _ _ _ hc) ?_; repeat (first | refine Up.i (Nc.p _ _) ?_ | refine V1.load (oneAll rfl) (by assumption) rfl ?_ | refine V1.i (by simp [go_sem] <;> trivial) ?_)
     refine If.b (fun hb => ?_) (fun hb => ?_)
     · simp only [show (kindOf t == 8) = true by simpa using hb] at hr; subst hr; exact ⟨ca'.rep, ca'.isL, ⟨_, by simp, p⟩, kk⟩
     · simp only [show (kindOf t == 8) = false by simpa using hb] at hr; exact hK m _ _ (by omega) ⟨_, _, _, p, ca', kk, hr, by rw [len_snoc _ _ ca.isL]; omega⟩
   · intro c w5 h; exact h.up hr kk (by simp; omega)
 · have hb' : endsB (hd ts') = true := by simpa using hb
   simp only [hb'] at hr; subst hr; exact ⟨ca.rep, ca.isL, ⟨_, by simp, p⟩, kk⟩
end Go.Proofs.YtoddjlclpnoomaaGreatDoor

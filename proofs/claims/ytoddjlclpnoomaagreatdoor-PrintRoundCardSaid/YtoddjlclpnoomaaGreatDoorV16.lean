import Derived.Deep.WholeRow
import Derived.Test.YtoddjlclpnoomaaGreatDoorV10
import Derived.Test.YtoddjlclpnoomaaGreatDoorV15
set_option linter.unusedVariables false
set_option linter.unusedSimpArgs false
set_option maxRecDepth 100000
namespace Go.Proofs.YtoddjlclpnoomaaGreatDoor
open Go.Sh
theorem TX.fo {w : World} {b q : Nat} {buf : List UInt8} {parts : Nat} (h : TX w b buf parts) (hq : w.heap.size ≤ q) : FO b w q := by
 obtain ⟨lo, ⟨ad, v, ab, had, hv, hne, hbl, hlo⟩, g, h12, _⟩ := h; refine ⟨by omega, fun ad' v' rest' h' e => ?_⟩; have := at_inj ab h'; injection this with h1 h2; injection h2 with h2 h3; subst h2; have := (hv.lt e).2; omega
theorem TX.fon {w w' : World} {b q : Nat} {buf : List UInt8} {parts : Nat} (h : TX w b buf parts) (hk : Keep [] w w') (hq : w.heap.size ≤ q) : FO b w' q := by
 have h1 := h.fo hq; refine ⟨h1.1, fun ad v rest h' e => ?_⟩; obtain ⟨ad0, v0, rest0, ab0⟩ := h.ab; have := at_inj (hk.at ab0 (by simp)) h'; injection this with e1 e2; injection e2 with e2 e3; subst e2; exact h1.2 _ _ _ ab0 e
theorem KO.rep {b : Nat} {w w' : World} {t : Tr} {m : Md} {buf : List UInt8} {parts : Nat} (h : KO b w w') (ht : TX w b buf parts) (hr : Rep (FO b w) w t m) : Rep (FO b w') w' t m := by
 obtain ⟨M, hk, hM⟩ := h.same ht.ab (M := []); exact Rep.keep hk hM t m hr
theorem KO.strs {b : Nat} {w w' : World} {v : Value} {ss : List (List UInt8)} {buf : List UInt8} {parts : Nat} (h : KO b w w') (ht : TX w b buf parts) (hr : Strs (FO b w) w v ss) : Strs (FO b w') w' v ss := by
 obtain ⟨M, hk, hM⟩ := h.same ht.ab (M := []); exact Strs.keep hk hM hr
theorem KO.at {b q : Nat} {w w' : World} {cs : List Value} {buf : List UInt8} {parts : Nat} (h : KO b w w') (ht : TX w b buf parts) (ha : At w q cs) (hq : FO b w q) : At w' q cs ∧ FO b w' q := by
 obtain ⟨M, hk, hM⟩ := h.same ht.ab (M := []); exact ⟨hk.at ha (hM q hq ha.lt).1, (hM q hq ha.lt).2⟩
theorem c61 {w : World} {b : Nat} {buf : List UInt8} {parts : Nat} {r : PR} (h : TX w b buf parts) (hr : partT buf parts = r) :
   Calls Tryz.prog 61 #[ptr b] w (Ret (fun _ => POk w b r) (PEr w b r)) := by
 refine s61 ?_; unfold S61 ptr; have h' := h; obtain ⟨lo, ⟨ad, v, ab, had, hv, hne, hbl, hlo⟩, g, h12, hlen, hpar⟩ := h'; refine Up.i (Nc.p _ _) ?_; refine V1.i (by simp [go_sem] <;> trivial) ?_; refine V1.load (oneAll rfl) (ab) rfl ?_; refine V1.i (addI _ _ _ _ _ _ (by omega) (by omega)) ?_; refine Up.i (Nc.p _ _) ?_; refine V1.i (by simp [go_sem] <;> trivial) ?_; refine U1.store (onesAll rfl rfl) (ab) (by simp) fun w1 U1 => ?_; have ab1 := U1.at_; simp only [List.set_cons_zero, List.set_cons_succ] at ab1; refine Up.i (Nc.p _ _) ?_; refine V1.i (by simp [go_sem] <;> trivial) ?_; refine V1.load (oneAll rfl) (ab1) rfl ?_; have hb1 : BX lo w1 b [.int .i64 (parts + 1 : Nat)] buf := by
   refine ⟨ad, v, by simpa using ab1, ?_, hv.fr U1.keep (by simp; omega), hne, hbl, by have := U1.size; omega⟩; rcases had with ⟨rfl, e, n, hsh, hen⟩ | rfl
   · exact .inl ⟨rfl, e, n, by rw [U1.shp]; exact hsh, hen⟩
   · exact .inr rfl
 have g1 : GL w1 := g.keep U1.keep (by simp; omega); have K1 : KO b w w1 := by
   refine KO.of ab (U1.keep.mono (by simp)) fun ad' v' rest' h' g hg => ?_; have := at_inj ab1 h'; injection this with h1 h2; injection h2 with h2 h3; subst h2; exact .inl hg
 refine V1.i (v := .bool (decide (parts + 1 ≤ 65536))) (w' := w1) (by simp [go_sem]; omega) ?_; unfold partT at hr; refine cf20 (c20 w1 _ 3) ?_ ?_; rotate_left
 · rintro c w3 ⟨hb0, rfl, rfl⟩; have : ¬ parts + 1 ≤ 65536 := by simpa using hb0
   rw [if_neg this] at hr; subst hr; exact ⟨rfl, K1, ⟨_, _, _, ab1⟩, g1⟩
 rintro _ w3 ⟨hb0, rfl⟩; have hle : parts + 1 ≤ 65536 := by simpa using hb0
 rw [if_pos hle] at hr; subst hr; exact ⟨⟨lo, hb1, g1, h12, hlen, by omega⟩, K1⟩
theorem c64 {w : World} {b : Nat} {buf : List UInt8} {parts : Nat} {e : Tr} {v : Value} (h : TX w b buf parts) (hr : Rep (FO b w) w e (.P v)) (hk : kn e = true) :
   Calls Tryz.prog 64 #[v] w (Ret (fun v' w' => Rep (FO b w') w' (needT e) (.P v') ∧ Keep [] w w') NP) := by
 refine s64 ?_; unfold S64
 cases e with
 | nil =>
   obtain rfl : v = .pointer none := hr; refine V1.i (by simp [go_sem] <;> trivial) ?_; refine If.t ?_; refine V1.i (by simp [go_sem] <;> trivial) ?_; refine V1.new (bx47 _ _) fun b1 w1 N1 => ?_; have gN1 := N1.ge; have lN1 := N1.lt; have zN1 := N1.keep.size; have a1 := N1.at_; try simp only [Value.cells, List.toList_toArray] at a1
   refine ⟨⟨b1, 0, .pointer none, .pointer none, .slice none 0 0, .slice none 0 0, .slice none 0 0, .slice none 0 0, rfl, ?_, ?_, rfl, rfl, .inl rfl, .inl rfl, .inl ⟨rfl, rfl⟩, .inl rfl⟩, N1.keep⟩
   · exact h.fon N1.keep N1.ge
   · have := N1.at_; simpa [Value.cells, str] using this
 | ex k n text l r keys args params body =>
   obtain ⟨c, line, lv, rv, kv, av, pv, bv, rfl, h1, h2, h3⟩ := hr; unfold ptr; refine V1.i (by simp [go_sem] <;> trivial) ?_; refine If.f ?_; exact ⟨⟨c, line, lv, rv, kv, av, pv, bv, rfl, h1, h2, h3⟩, Keep.refl _ _⟩
 | hole => cases hk
 | cons => cases hk
 | st => cases hk
theorem c227 {w : World} {b : Nat} {ss : List (List UInt8)} (hb : At w b (ss.map str)) (hn : ss.length ≤ 100) (s : List UInt8) :
   Calls Tryz.prog 227 #[strs b ss.length, str s] w (Ret (fun v w' => (∃ i : Int, v = .int .i64 i ∧ decide (0 ≤ i) = ss.contains s) ∧ w' = w) NP) := by
 refine s227 ?_; unfold S227 strs; refine V1.i (by simp [go_sem] <;> trivial) ?_; refine L2.i (fun u v w' => w' = w ∧ ∃ j : Nat, j ≤ ss.length ∧ v = .int .i64 j ∧ ss.contains s = (ss.drop j).contains s) (fun u v w' => match v with | .int _ n => (ss.length - n.toNat) | _ => 0) ⟨rfl, 0, by omega, rfl, by simp⟩ ?_; rintro u v w1 ⟨rfl, j, hj, rfl, hm⟩; by_cases hlt : j < ss.length
 · rw [List.drop_eq_getElem_cons hlt, List.contains_cons] at hm; refine V1.i (v := .bool true) (w' := w1) (by simp [go_sem]; omega) ?_; refine If.t ?_; refine V1.i (ix45 _ hlt) ?_; refine V1.load (oneAll rfl) hb (v := str ss[j]) (by simp [hlt]) ?_; refine V1.i (eqS _ _ _ s ss[j]) ?_
   cases he : (s == ss[j]) with
   | true =>
     refine If.t ?_; exact ⟨⟨j, rfl, by rw [hm, he]; simp⟩, rfl⟩
   | false =>
     refine If.f ?_; refine V1.i (addI _ _ _ _ _ _ (by omega) (by omega)) ?_; exact ⟨⟨rfl, j + 1, by omega, by simp, by rw [hm, he]; simp⟩, by simp; omega⟩
 · have : j = ss.length := by omega
   subst this; refine V1.i (v := .bool false) (w' := w1) (by simp [go_sem]) ?_; refine If.f ?_; exact ⟨⟨-1, rfl, by rw [hm]; simp⟩, rfl⟩
theorem c207 {w : World} {b : Nat} {ss : List (List UInt8)} (hb : At w b (ss.map str)) (hn : ss.length ≤ 100) (s : List UInt8) :
   Calls Tryz.prog 207 #[strs b ss.length, str s] w (Ret (fun v w' => v = .bool (ss.contains s) ∧ w' = w) NP) := by
 refine s207 ?_; unfold S207; refine cf227 (c227 hb hn s) ?_ (NP.no (e := _)); rintro _ w1 ⟨⟨i, rfl, hi⟩, rfl⟩; refine V1.i (v := .bool (decide (0 ≤ i))) (w' := w1) (by simp [go_sem]) ?_; exact ⟨by rw [hi], rfl⟩
def lvlV : Array Value := (lvls.map str).toArray
theorem i235 : (Tryz.prog.info? 235).map (·.size) = some 10 := by kernel_rfl
theorem u235 : Tryz.prog.underlying 235 = some (.array 10 9) := by kernel_rfl
theorem ix235 (w : World) (k : Nat) (h : k < 10) : (Instr.index 235 (.agg lvlV) (.int .i64 k)).run Tryz.prog w = .ok (str (lvls.getD k [])) w := by
 have : k = 0 ∨ k = 1 ∨ k = 2 ∨ k = 3 ∨ k = 4 ∨ k = 5 ∨ k = 6 ∨ k = 7 ∨ k = 8 ∨ k = 9 := by omega
 rcases this with rfl | rfl | rfl | rfl | rfl | rfl | rfl | rfl | rfl | rfl <;> (show _ = _; kernel_rfl)
theorem lvl_bind (s : List UInt8) : ∀ k : Nat, k ≤ 10 → (∀ j, j < k → (fld j).contains s = false) → (k < 10 → (fld k).contains s = true → bindN s = k + 1) ∧ (k = 10 → bindN s = 0) := by
 intro k hk hno; constructor
 · intro hlt hc; have hmem : (s, (k : Int) + 1) ∈ opsL := by
     have h1 : ∀ k, k < 10 → ∀ x ∈ fld k, (x, (k : Int) + 1) ∈ opsL := by decide
     exact h1 k hlt s (List.contains_iff_mem.1 hc)
   exact opsL_bind _ hmem
 · rintro rfl; refine opsL_none s fun p hp e => ?_; subst e; have h1 : ∀ p ∈ opsL, ∃ j, j < 10 ∧ (fld j).contains p.1 = true := by decide
   obtain ⟨j, hj, hc⟩ := h1 p hp; rw [hno j hj] at hc
   cases hc
theorem c171 (w : World) (s : List UInt8) (g : GL w) : Calls Tryz.prog 171 #[str s] w (Ret (fun v w' => v = .int .i64 (bindN s) ∧ Keep [] w w') NP) := by
 refine s171 ?_; unfold S171; refine V1.i (v := .agg lvlV) (w' := w) (by simp [go_sem]; rfl) ?_; refine V1.i (al235 w) ?_; have K0 : Keep [] w (w.alloc (.cells lvlV 235)) := (Keep.refl _ _).alloc _; refine U1.i (run_storeAt_new w 235 _ lvlV i235 rfl (by kernel_rfl)) ?_; refine V1.i (run_loadAt_new w 235 lvlV 10 9 u235 i235) ?_; refine L2.i (fun u v w' => ∃ k : Nat, k ≤ 10 ∧ v = .int .i64 k ∧ Keep [] w w' ∧ ∀ j, j < k → (fld j).contains s = false) (fun u v w' => match v with | .int _ n => (10 - n.toNat) | _ => 0) ⟨0, by omega, rfl, K0, fun j hj => by omega⟩ ?_; rintro u v w1 ⟨k, hk, rfl, K1, hno⟩; have hlb := lvl_bind s k hk hno; by_cases hlt : k < 10
 · refine V1.i (v := .bool true) (w' := w1) (by simp [go_sem]; omega) ?_; refine If.t ?_; refine V1.i (v := str (lvls.getD k [])) (w' := w1) (ix235 w1 k hlt) ?_; obtain ⟨hll, hla⟩ := lvl_ok k hlt; refine cf56 (c56 w1 (lvls.getD k []) (g.new K1) (by omega) hla) ?_ (NP.no (e := _)); rintro _ w4 ⟨b4, rfl, N4⟩; have hf6 := fld_le k hlt; have e1 : Lib.fields (lvls.getD k []) = fld k := rfl; rw [e1] at N4 ⊢; have K4 := K1.trans' N4.keep (by simp); refine cf207 (c207 (N4.at_) (by omega) s) ?_ (NP.no (e := _)); rintro _ w5 ⟨rfl, rfl⟩
   cases hc : (fld k).contains s with
   | true =>
     refine If.t ?_; refine V1.i (addI _ _ _ _ _ _ (by omega) (by omega)) ?_; exact ⟨by rw [hlb.1 hlt hc], K4⟩
   | false =>
     refine If.f ?_; refine V1.i (addI _ _ _ _ _ _ (by omega) (by omega)) ?_; exact ⟨⟨k + 1, by omega, by simp, K4, fun j hj => by
       rcases Nat.lt_or_eq_of_le (Nat.lt_succ_iff.1 hj) with h | rfl
       · exact hno j h
       · exact hc⟩, by simp; omega⟩
 · have : k = 10 := by omega
   subst this; refine V1.i (v := .bool false) (w' := w1) (by simp [go_sem]) ?_; refine If.f ?_; exact ⟨by rw [hlb.2 rfl], K1⟩
theorem c205 {w : World} {b : Nat} (hb : At w b [.int .i64 10, .int .i64 11, .int .i64 9]) (k : Int) :
   Calls Tryz.prog 205 #[.slice (some ⟨b, 0, none⟩) 3 3, .int .i64 k] w (Ret (fun v w' => (∃ i : Int, v = .int .i64 i ∧ decide (0 ≤ i) = (k == 10 || k == 11 || k == 9)) ∧ w' = w) NP) := by
 refine s205 ?_; unfold S205; refine V1.i (by simp [go_sem] <;> trivial) ?_; refine L2.i (fun u v w' => w' = w ∧ ∃ j : Nat, j ≤ 3 ∧ v = .int .i64 j ∧ ((k == 10 || k == 11 || k == 9) = ((([10, 11, 9] : List Int).drop j).any fun x => k == x))) (fun u v w' => match v with | .int _ n => (3 - n.toNat) | _ => 0) ⟨rfl, 0, by omega, rfl, by simp [Bool.or_assoc]⟩ ?_; rintro u v w1 ⟨rfl, j, hj, rfl, hm⟩; have hix : ∀ j : Nat, j < 3 → (Instr.indexAt 199 (.slice (some ⟨b, 0, none⟩) 3 3) (.int .i64 j)).run Tryz.prog w1 = .ok (.pointer (some ⟨b, j, none⟩)) w1 := by
   intro j hj; have h1 : (j : Int) < 3 := by omega
   simp [go_sem, hj, h1, Addr.add]
   try (rintro rfl; rfl)
 have hj4 : j = 0 ∨ j = 1 ∨ j = 2 ∨ j = 3 := by omega
 rcases hj4 with rfl | rfl | rfl | rfl
 · refine V1.i (by simp [go_sem] <;> trivial) ?_; refine If.t ?_; refine V1.i (hix 0 (by omega)) ?_; refine V1.load (oneAll rfl) (hb) rfl ?_; refine V1.i (v := .bool (k == 10)) (w' := w1) (by simp [go_sem]) ?_
   cases he : (k == 10) with
   | true => exact If.t ⟨⟨0, rfl, by rfl⟩, rfl⟩
   | false =>
     refine If.f ?_; refine V1.i (addI _ _ _ _ _ _ (by omega) (by omega)) ?_; exact ⟨⟨rfl, 1, by omega, rfl, by rw [he] at hm; simp [Bool.or_assoc]⟩, by simp⟩
 · refine V1.i (by simp [go_sem] <;> trivial) ?_; refine If.t ?_; refine V1.i (hix 1 (by omega)) ?_; refine V1.load (oneAll rfl) (hb) rfl ?_; refine V1.i (v := .bool (k == 11)) (w' := w1) (by simp [go_sem]) ?_
   cases he : (k == 11) with
   | true => exact If.t ⟨⟨1, rfl, by simp⟩, rfl⟩
   | false =>
     refine If.f ?_; refine V1.i (addI _ _ _ _ _ _ (by omega) (by omega)) ?_; exact ⟨⟨rfl, 2, by omega, rfl, by rw [he] at hm; simpa [he] using hm⟩, by simp⟩
 · refine V1.i (by simp [go_sem] <;> trivial) ?_; refine If.t ?_; refine V1.i (hix 2 (by omega)) ?_; refine V1.load (oneAll rfl) (hb) rfl ?_; refine V1.i (v := .bool (k == 9)) (w' := w1) (by simp [go_sem]) ?_
   cases he : (k == 9) with
   | true => exact If.t ⟨⟨2, rfl, by simp⟩, rfl⟩
   | false =>
     refine If.f ?_; refine V1.i (addI _ _ _ _ _ _ (by omega) (by omega)) ?_; exact ⟨⟨rfl, 3, by omega, rfl, by rw [he] at hm; simpa [he] using hm⟩, by simp⟩
 · refine V1.i (by simp [go_sem] <;> trivial) ?_; refine If.f ?_; exact ⟨⟨-1, rfl, by rw [hm]; simp⟩, rfl⟩
theorem c166 {w : World} {b : Nat} (hb : At w b [.int .i64 10, .int .i64 11, .int .i64 9]) (k : Int) :
   Calls Tryz.prog 166 #[.slice (some ⟨b, 0, none⟩) 3 3, .int .i64 k] w (Ret (fun v w' => v = .bool (k == 10 || k == 11 || k == 9) ∧ w' = w) NP) := by
 refine s166 ?_; unfold S166; refine cf205 (c205 hb k) ?_ (NP.no (e := _)); rintro _ w1 ⟨⟨i, rfl, hi⟩, rfl⟩; refine V1.i (v := .bool (decide (0 ≤ i))) (w' := w1) (by simp [go_sem]) ?_; exact ⟨by rw [hi], rfl⟩
theorem c113 (w : World) (s : List UInt8) : Calls Tryz.prog 113 #[str s] w (Ret (fun v w' => v = str (quotedT s) ∧ Keep [] w w') NP) := by
 refine s113 ?_; unfold S113; unfold quotedT; by_cases h : 32768 < s.length
 · refine V1.i (v := .int .i64 s.length) (w' := w) (by simp [go_sem]) ?_; refine V1.i (v := .bool true) (w' := w) (by simp [go_sem]; omega) ?_; rw [if_pos h]; exact If.t ⟨rfl, Keep.refl _ _⟩
 · refine V1.i (v := .int .i64 s.length) (w' := w) (by simp [go_sem]) ?_; refine V1.i (v := .bool false) (w' := w) (by simp [go_sem]; omega) ?_; rw [if_neg h]; refine If.f ?_; refine cf165 (c165 w s (by omega)) ?_ (NP.no (e := _)); rintro _ w1 ⟨rfl, K1⟩; exact ⟨rfl, K1⟩
theorem c172 {F : Nat → Prop} {w : World} {e : Tr} {v : Value} (hr : Rep F w e (.P v)) (hk : kn e = true) (g : GL w) :
   Calls Tryz.prog 172 #[v] w (Ret (fun u w' => u = .int .i64 (strengthT e) ∧ Keep [] w w') NP) := by
 refine s172 ?_; unfold S172
 cases e with
 | nil =>
   obtain rfl : v = .pointer none := hr; refine V1.i (by simp [go_sem] <;> trivial) ?_; refine J1.go (Gd.ft ?_); refine V1.i (by simp [go_sem] <;> trivial) ?_; refine If.f ?_; refine V1.i (by simp [go_sem] <;> trivial) ?_; refine J1.go (Gd.ft ?_); refine V1.i (by simp [go_sem] <;> trivial) ?_; refine If.f ?_; exact ⟨rfl, Keep.refl _ _⟩
 | ex k n text l r keys args params body =>
   obtain ⟨c, line, lv, rv, kv, av, pv, bv, rfl, h1, h2, h3⟩ := hr; unfold ptr; refine V1.i (by simp [go_sem] <;> trivial) ?_; refine J1.go (Gd.tt ?_); refine Up.i (Nc.p _ _) ?_; refine V1.i (by simp [go_sem] <;> trivial) ?_; refine V1.load (oneAll rfl) (h2) rfl ?_; refine V1.i (v := .bool (k == 11)) (w' := w) (by simp [go_sem]) ?_; refine V1.i (v := .bool (k == 11)) (w' := w) (by simp [go_sem]) ?_; by_cases h11 : k = 11
   · subst h11; refine If.t ?_; refine Up.i (Nc.p _ _) ?_; refine V1.i (by simp [go_sem] <;> trivial) ?_; refine V1.load (oneAll rfl) (h2) rfl ?_; refine cf171 (c171 w text g) ?_ (NP.no (e := _)); rintro _ w1 ⟨rfl, K1⟩; exact ⟨by simp [strengthT], K1⟩
   · rw [show (k == 11) = false by simpa using h11]; refine If.f ?_; refine V1.i (by simp [go_sem] <;> trivial) ?_; refine J1.go (Gd.tt ?_); refine Up.i (Nc.p _ _) ?_; refine V1.i (by simp [go_sem] <;> trivial) ?_; refine V1.load (oneAll rfl) (h2) rfl ?_; refine V1.i (v := .bool (k == 10)) (w' := w) (by simp [go_sem]) ?_; refine V1.i (v := .bool (k == 10)) (w' := w) (by simp [go_sem]) ?_; by_cases h10 : k = 10
     · subst h10; exact If.t ⟨by simp [strengthT], Keep.refl _ _⟩
     · rw [show (k == 10) = false by simpa using h10]; exact If.f ⟨by simp [strengthT, h10, h11], Keep.refl _ _⟩
 | hole => cases hk
 | cons => cases hk
 | st => cases hk
theorem digB_one (c : UInt8) : Lib.contains digB [c] = digB.contains c := by
 have : ∀ n : Nat, n < 256 → Lib.contains digB [UInt8.ofNat n] = digB.contains (UInt8.ofNat n) := by decide
 have h := this c.toNat c.toNat_lt; rwa [UInt8.ofNat_toNat] at h
theorem lds_ascii : ∀ b ∈ letB ++ digB, b.toNat < 128 := by decide
theorem c115 {F : Nat → Prop} {w : World} {e : Tr} {v : Value} (hr : Rep F w e (.P v)) (hk : kn e = true) (g : GL w) :
   Calls Tryz.prog 115 #[v] w (Ret (fun u w' => u = .bool (nameQ e) ∧ Keep [] w w') NP) := by
 refine s115 ?_; unfold S115
 cases e with
 | nil =>
   obtain rfl : v = .pointer none := hr; refine V1.i (by simp [go_sem] <;> trivial) ?_; refine J1.go (Gd.tf ?_); refine V1.i (by simp [go_sem] <;> trivial) ?_; refine J1.go (Gd.tf ?_); refine V1.i (by simp [go_sem] <;> trivial) ?_; refine J1.go (Gd.tf ?_); refine V1.i (by simp [go_sem] <;> trivial) ?_; refine J1.go (Gd.tf ?_); refine V1.i (by simp [go_sem] <;> trivial) ?_; refine If.t ?_; exact ⟨rfl, Keep.refl _ _⟩
 | ex k n text l r keys args params body =>
   obtain ⟨c, line, lv, rv, kv, av, pv, bv, rfl, h1, h2, h3⟩ := hr; clear h3; have e1 : str [] = Value.string ⟨#[]⟩ := rfl; unfold ptr; refine V1.i (by simp [go_sem] <;> trivial) ?_; refine J1.gd (!(k == 5)) (fun h kk hkk => ?_) ?_
   · refine Up.i (Nc.p _ _) ?_; refine V1.i (by simp [go_sem] <;> trivial) ?_; refine V1.load (oneAll rfl) (h2) rfl ?_; refine V1.i (v := .bool (!(k == 5))) (w' := w) (by simp [go_sem]; rfl) ?_; exact hkk
   refine V1.i (pkO _ _ _) ?_; refine J1.gd (text == []) (fun h kk hkk => ?_) ?_
   · refine Up.i (Nc.p _ _) ?_; refine V1.i (by simp [go_sem] <;> trivial) ?_; refine V1.load (oneAll rfl) (h2) rfl ?_; refine V1.i (eqS1 _ _ _ text []) ?_; exact hkk
   refine V1.i (pkO _ _ _) ?_; refine J1.gd (decide (24 < text.length)) (fun h kk hkk => ?_) ?_
   · refine Up.i (Nc.p _ _) ?_; refine V1.i (by simp [go_sem] <;> trivial) ?_; refine V1.load (oneAll rfl) (h2) rfl ?_; refine V1.i (v := .int .i64 text.length) (w' := w) (by simp [go_sem]) ?_; refine V1.i (v := .bool (decide (24 < text.length))) (w' := w) (by simp [go_sem]; omega) ?_; exact hkk
   refine V1.i (pkO _ _ _) ?_; refine J1.gd (resB text) (fun h kk hkk => ?_) ?_
   · refine Up.i (Nc.p _ _) ?_; refine V1.i (by simp [go_sem] <;> trivial) ?_; refine V1.load (oneAll rfl) (h2) rfl ?_; have hl : text.length ≤ 24 := by
       simp only [Bool.or_eq_false_iff, decide_eq_false_iff_not] at h; omega
     refine cf89 (c89 w text g (by omega)) ?_ (NP.no (e := _)); rintro _ w1 ⟨rfl, rfl⟩; exact hkk
   refine V1.i (pkO _ _ _) ?_; have eN : nameQ (.ex k n text l r keys args params body) = (!(false || !(k == 5) || (text == []) || decide (24 < text.length) || resB text) && (text.all (fun c => (letB ++ digB).contains c) && !(digB.contains (text.headD 0)))) := by
     simp only [nameQ, nameB]; rw [show decide (text.length ≤ 24) = !decide (24 < text.length) by rw [← decide_not]; congr 1; apply propext; omega]; simp only [Bool.false_or, Bool.not_or, Bool.not_not, Bool.and_assoc]
   cases hb : (false || !(k == 5) || (text == []) || decide (24 < text.length) || resB text) with
   | true =>
     refine If.t ?_; exact ⟨by rw [eN, hb]; rfl, Keep.refl _ _⟩
   | false =>
     rw [hb] at eN; refine If.f ?_; simp only [Bool.or_eq_false_iff, decide_eq_false_iff_not] at hb; have hne : text ≠ [] := by simpa using hb.1.1.2
     have hl : text.length ≤ 24 := by omega
     refine Up.i (Nc.p _ _) ?_; refine V1.i (by simp [go_sem] <;> trivial) ?_; refine V1.load (oneAll rfl) (h2) rfl ?_; refine cf168 (c168 w text (letB ++ digB) (by omega) lds_ascii) ?_ (NP.no (e := _)); rintro _ w1 ⟨rfl, K1⟩; have hl1 : (text.dropWhile (fun b => (letB ++ digB).contains b)).length ≤ 1099511627776 := Nat.le_trans (List.dropWhile_sublist _).length_le (by omega); refine cf167 (c167 w1 _ (letB ++ digB) (g.new K1) hl1 lds_ascii) ?_ (NP.no (e := _)); rintro _ w2 ⟨rfl, K2⟩; refine V1.i (eqS1 _ _ _ _ []) ?_; rw [cut_nil]; have K12 := K1.trans' K2 (by simp); have h2' := K12.at h2 (by simp); rw [eN]; obtain ⟨c0, l0, rfl⟩ := List.exists_cons_of_ne_nil hne
     cases hall : (c0 :: l0).all (fun b => (letB ++ digB).contains b) with
     | false =>
       refine J1.go (Gd.ft ?_); refine V1.i (by simp [go_sem] <;> trivial) ?_; exact ⟨by simp [hall], K12⟩
     | true =>
       refine J1.go (Gd.tt ?_); refine Up.i (Nc.p _ _) ?_; refine V1.i (by simp [go_sem] <;> trivial) ?_; refine V1.load (oneAll rfl) (h2') rfl ?_; refine V1.i (toS _ (c0 :: l0) 1 (by simp)) ?_; refine cf92 (c92 w2 digB ((c0 :: l0).take 1) (g.new K12) (by decide)) ?_ (NP.no (e := _)); rintro _ w3 ⟨rfl, rfl⟩; refine V1.i (by simp [go_sem] <;> trivial) ?_; refine V1.i (by simp [go_sem] <;> trivial) ?_; have hd : Lib.contains digB ((c0 :: l0).take 1) = digB.contains c0 := by
         simp only [List.take_succ_cons, List.take_zero]; exact digB_one c0
       simp only [List.take_succ_cons, List.take_zero] at hd; exact ⟨by rw [hd]; simp, K12⟩
 | hole => cases hk
 | cons => cases hk
 | st => cases hk
structure PAll (n : Nat) : Prop where
  expr : ∀ {w : World} {b : Nat} {buf : List UInt8} {parts : Nat} {e : Tr} {v : Value} {r : PR}, TX w b buf parts → Rep (FO b w) w e (.P v) → prn n (.expr e) buf parts = r → r ≠ .oof → Calls Tryz.prog 63 #[ptr b, v] w (Ret (fun _ => POk w b r) (PEr w b r))
  stmt : ∀ {w : World} {b : Nat} {buf : List UInt8} {parts : Nat} {e : Tr} {v : Value} {r : PR}, TX w b buf parts → Rep (FO b w) w e (.P v) → prn n (.stmt e) buf parts = r → r ≠ .oof → Calls Tryz.prog 35 #[ptr b, v] w (Ret (fun _ => POk w b r) (PEr w b r))
  stmts : ∀ {w : World} {b : Nat} {buf : List UInt8} {parts : Nat} {e : Tr} {v : Value} {r : PR}, TX w b buf parts → Rep (FO b w) w e (.L v) → prn n (.stmts e) buf parts = r → r ≠ .oof → Calls Tryz.prog 18 #[ptr b, v] w (Ret (fun _ => POk w b r) (PEr w b r))
  block : ∀ {w : World} {b : Nat} {buf : List UInt8} {parts : Nat} {e : Tr} {v : Value} {r : PR}, TX w b buf parts → Rep (FO b w) w e (.L v) → prn n (.block e) buf parts = r → r ≠ .oof → Calls Tryz.prog 67 #[ptr b, v] w (Ret (fun _ => POk w b r) (PEr w b r))
  more : ∀ {w : World} {b : Nat} {buf : List UInt8} {parts : Nat} {e : Tr} {v : Value} {r : PR} {word : List UInt8}, TX w b buf parts → Rep (FO b w) w e (.P v) → prn n (.more word e) buf parts = r → r ≠ .oof → Calls Tryz.prog 62 #[ptr b, str word, v] w (Ret (fun _ => POk w b r) (PEr w b r))
  within : ∀ {w : World} {b : Nat} {buf : List UInt8} {parts : Nat} {e : Tr} {v : Value} {r : PR} {word : List UInt8}, TX w b buf parts → Rep (FO b w) w e (.L v) → prn n (.within word e) buf parts = r → r ≠ .oof → Calls Tryz.prog 65 #[ptr b, str word, v] w (Ret (fun _ => POk w b r) (PEr w b r))
  branch : ∀ {w : World} {b : Nat} {buf : List UInt8} {parts : Nat} {k : Int} {nm : List UInt8} {l rr t a bb : Tr} {v : Value} {r : PR}, TX w b buf parts → Rep (FO b w) w (.st k nm l rr t a bb) (.P v) → prn n (.branch rr a bb) buf parts = r → r ≠ .oof → Calls Tryz.prog 66 #[ptr b, v] w (Ret (fun _ => POk w b r) (PEr w b r))
  func : ∀ {w : World} {b : Nat} {buf : List UInt8} {parts : Nat} {k nn : Int} {text : List UInt8} {l rr ks gs : Tr} {ps : List (List UInt8)} {body : Tr} {v : Value} {r : PR}, TX w b buf parts → Rep (FO b w) w (.ex k nn text l rr ks gs ps body) (.P v) → prn n (.func ps body) buf parts = r → r ≠ .oof → Calls Tryz.prog 68 #[ptr b, v] w (Ret (fun _ => POk w b r) (PEr w b r))
  inner : ∀ {w : World} {b : Nat} {buf : List UInt8} {parts : Nat} {e : Tr} {v : Value} {r : PR} {around : Bool}, kn e = true → TX w b buf parts → Rep (FO b w) w e (.P v) → prn n (.inner e around) buf parts = r → r ≠ .oof → Calls Tryz.prog 116 #[ptr b, v, .bool around] w (Ret (fun _ => POk w b r) (PEr w b r))
theorem p67 {n : Nat} (H : PAll n) {w : World} {b : Nat} {buf : List UInt8} {parts : Nat} {e : Tr} {v : Value} {r : PR} (ht : TX w b buf parts) (rl : Rep (FO b w) w e (.L v)) (hr : prn (n + 1) (.block e) buf parts = r) (hne : r ≠ .oof) :
   Calls Tryz.prog 67 #[ptr b, v] w (Ret (fun _ => POk w b r) (PEr w b r)) := by
 refine s67 ?_; unfold S67; have kk := KO.refl b w; simp only [prn] at hr; refine V1.newSlice (by simp [go_sem] <;> trivial) fun bs ws NS => ?_; have fS := ht.fon NS.keep NS.ge; have aS : At ws bs (List.map str [[10]]) := NS.at_; have kS := KO.keep (b := b) NS.keep; replace rl := kS.rep ht rl; replace kk := kk.trans kS ht.ab; replace ht := ht.keep NS.keep; have h36 := c36 ht aS fS (by simp) rfl (PR.bind_ne hr hne); refine cf36 h36 ?_ (fun c w' h => PEr.up h hr kk ht); clear h36; rintro _ wP hP; obtain ⟨bufP, partsP, eP, htP, kP⟩ := POk.out hP; have hA2 := (Adds.putL _ _ _ _ _ eP).2; have hA := putL_len eP; simp only [List.map_cons, List.map_nil, List.sum_cons, List.sum_nil, List.length_cons, List.length_nil] at hA; rw [eP, PR.bind_ok] at hr; replace rl := kP.rep ht rl; replace kk := kk.trans kP ht.ab; replace ht := htP; clear hP eP htP kP; clear aS fS NS kS
 have hK := H.stmts ht rl hr hne; refine cf18 hK (fun v w' h => POk.pre h kk ht) (fun c w' h => PEr.pre h kk ht)
theorem p65 {n : Nat} (H : PAll n) {w : World} {b : Nat} {buf : List UInt8} {parts : Nat} {e : Tr} {v : Value} {r : PR} {word : List UInt8} (ht : TX w b buf parts) (rl : Rep (FO b w) w e (.L v)) (hr : prn (n + 1) (.within word e) buf parts = r) (hne : r ≠ .oof) :
   Calls Tryz.prog 65 #[ptr b, str word, v] w (Ret (fun _ => POk w b r) (PEr w b r)) := by
 refine s65 ?_; unfold S65; have kk := KO.refl b w; simp only [prn] at hr; refine V1.newSlice (by simp [go_sem] <;> trivial) fun bs ws NS => ?_; have fS := ht.fon NS.keep NS.ge; have aS : At ws bs (List.map str [word]) := NS.at_; have kS := KO.keep (b := b) NS.keep; replace rl := kS.rep ht rl; replace kk := kk.trans kS ht.ab; replace ht := ht.keep NS.keep; have h36 := c36 ht aS fS (by simp) rfl (PR.bind_ne hr hne); refine cf36 h36 ?_ (fun c w' h => PEr.up h hr kk ht); clear h36; rintro _ wP hP; obtain ⟨bufP, partsP, eP, htP, kP⟩ := POk.out hP; have hA2 := (Adds.putL _ _ _ _ _ eP).2; have hA := putL_len eP; simp only [List.map_cons, List.map_nil, List.sum_cons, List.sum_nil, List.length_cons, List.length_nil] at hA; rw [eP, PR.bind_ok] at hr; replace rl := kP.rep ht rl; replace kk := kk.trans kP ht.ab; replace ht := htP; clear hP eP htP kP; clear aS fS NS kS
 have hK := H.block ht rl rfl (PR.bind_ne hr hne); refine cf67 hK ?_ (fun c w' h => PEr.up h hr kk ht); clear hK; rintro _ wP hP; obtain ⟨bufP, partsP, eP, htP, kP⟩ := POk.out hP; have hA := prn_adds _ _ _ _ _ _ eP; rw [eP, PR.bind_ok] at hr; replace rl := kP.rep ht rl; replace kk := kk.trans kP ht.ab; replace ht := htP; clear hP eP htP kP; refine V1.newSlice (by simp [go_sem] <;> trivial) fun bs ws NS => ?_; have fS := ht.fon NS.keep NS.ge; have aS : At ws bs (List.map str [sEnd]) := NS.at_; have kS := KO.keep (b := b) NS.keep; replace rl := kS.rep ht rl; replace kk := kk.trans kS ht.ab; replace ht := ht.keep NS.keep; have h36 := c36 ht aS fS (by simp) hr hne; refine cf36 h36 (fun v w' h => POk.pre h kk ht) (fun c w' h => PEr.pre h kk ht)
theorem p62 {n : Nat} (H : PAll n) {w : World} {b : Nat} {buf : List UInt8} {parts : Nat} {e : Tr} {v : Value} {r : PR} {word : List UInt8} (ht : TX w b buf parts) (re : Rep (FO b w) w e (.P v)) (hr : prn (n + 1) (.more word e) buf parts = r) (hne : r ≠ .oof) :
   Calls Tryz.prog 62 #[ptr b, str word, v] w (Ret (fun _ => POk w b r) (PEr w b r)) := by
 refine s62 ?_; unfold S62; have kk := KO.refl b w
 cases e with
 | nil =>
   obtain rfl : v = .pointer none := re; simp only [prn] at hr; subst hr; refine V1.i (by simp [go_sem] <;> trivial) ?_; exact If.f ⟨ht, kk⟩
 | ex k nn text l rr keys args params body =>
   simp only [prn] at hr; have hv : ∃ c, v = ptr c := by
     obtain ⟨c, line, lv, rv, kv, av, pv, bv, rfl, _⟩ := re; exact ⟨c, rfl⟩
   obtain ⟨c, rfl⟩ := hv; refine V1.i (v := .bool true) (w' := w) (by simp [go_sem, ptr]; first | done | rfl | exact ⟨rfl, rfl⟩) ?_; refine If.t ?_; refine V1.newSlice (by simp [go_sem] <;> trivial) fun bs ws NS => ?_; have fS := ht.fon NS.keep NS.ge; have aS : At ws bs (List.map str [word]) := NS.at_; have kS := KO.keep (b := b) NS.keep; replace re := kS.rep ht re; replace kk := kk.trans kS ht.ab; replace ht := ht.keep NS.keep; have h36 := c36 ht aS fS (by simp) rfl (PR.bind_ne hr hne); refine cf36 h36 ?_ (fun c w' h => PEr.up h hr kk ht); clear h36; rintro _ wP hP; obtain ⟨bufP, partsP, eP, htP, kP⟩ := POk.out hP; have hA2 := (Adds.putL _ _ _ _ _ eP).2; have hA := putL_len eP; simp only [List.map_cons, List.map_nil, List.sum_cons, List.sum_nil, List.length_cons, List.length_nil] at hA; rw [eP, PR.bind_ok] at hr; replace re := kP.rep ht re; replace kk := kk.trans kP ht.ab
   replace ht := htP; clear hP eP htP kP; clear aS fS NS kS; have hK := H.expr ht re hr hne; refine cf63 hK (fun v w' h => POk.pre h kk ht) (fun c w' h => PEr.pre h kk ht)
 | hole => simp only [prn] at hr; exact absurd hr.symm hne
 | cons => simp only [prn] at hr; exact absurd hr.symm hne
 | st => simp only [prn] at hr; exact absurd hr.symm hne
theorem Rep.row {F : Nat → Prop} {w : World} {l : Tr} {v : Value} (h : Rep F w l (.L v)) (hh : l ≠ .hole) :
   (∃ a c, v = .slice a 0 c ∧ l = .nil) ∨ ∃ b n c, v = .slice (some ⟨b, 0, none⟩) n c ∧ Rep F w l (.E b 0 n) ∧ l ≠ .nil := by
 cases l with
 | nil => rcases h with rfl | ⟨b, c, rfl⟩ <;> exact .inl ⟨_, _, rfl, rfl⟩
 | cons x t =>
   obtain ⟨b, n, c, u, rfl, h1, h2, h3, h4, h5⟩ := h; exact .inr ⟨b, n + 1, c, rfl, ⟨n, u, rfl, h3, h2, h4, h5⟩, by simp⟩
 | hole => exact absurd rfl hh
 | ex => exact h.elim
 | st => exact h.elim
theorem ix26 {w : World} {b n c k : Nat} (h : k < n) : (Instr.indexAt 26 (.slice (some ⟨b, 0, none⟩) n c) (.int .i64 k)).run Tryz.prog w = .ok (.pointer (some ⟨b, k, none⟩)) w := by
 have : (k : Int) < n := by omega
 simp [go_sem, h, Addr.add]
 rintro rfl; rfl
theorem ix44 {w : World} {b n c k : Nat} (h : k < n) : (Instr.indexAt 44 (.slice (some ⟨b, 0, none⟩) n c) (.int .i64 k)).run Tryz.prog w = .ok (.pointer (some ⟨b, k, none⟩)) w := by
 have : (k : Int) < n := by omega
 simp [go_sem, h, Addr.add]
 rintro rfl; rfl
theorem p18 {n : Nat} (H : ∀ m, m ≤ n → PAll m) {w : World} {b : Nat} {buf : List UInt8} {parts : Nat} {e : Tr} {v : Value} {r : PR} (ht : TX w b buf parts) (rl : Rep (FO b w) w e (.L v)) (hr : prn (n + 1) (.stmts e) buf parts = r) (hne : r ≠ .oof) :
   Calls Tryz.prog 18 #[ptr b, v] w (Ret (fun _ => POk w b r) (PEr w b r)) := by
 refine s18 ?_; unfold S18; have kk := KO.refl b w; have hh : e ≠ .hole := by
   rintro rfl; simp only [prn] at hr; exact absurd hr.symm hne
 rcases rl.row hh with ⟨a, c, rfl, rfl⟩ | ⟨q, cnt, c, rfl, re, _⟩
 · refine V1.i (by simp [go_sem] <;> trivial) ?_; refine L1.i (fun v w' => v = .int .i64 0 ∧ w' = w) (fun v w' => 0) ⟨rfl, rfl⟩ ?_; rintro v w1 ⟨rfl, rfl⟩; refine V1.i (by simp [go_sem] <;> trivial) ?_; refine If.f ?_; simp only [prn] at hr; subst hr; exact ⟨ht, kk⟩
 · refine V1.i (by simp [go_sem] <;> trivial) ?_; refine L1.i (fun v w' => ∃ i k m rest buf parts, v = .int .i64 (i : Nat) ∧ i + k = cnt ∧ i ≤ buf.length ∧ m ≤ n + 1 ∧ TX w' b buf parts ∧ Rep (FO b w') w' rest (.E q i k) ∧ KO b w w' ∧ prn m (.stmts rest) buf parts = r) (fun v w' => match v with | .int _ n => (cnt - n.toNat) | _ => 0) ⟨0, cnt, n + 1, e, buf, parts, rfl, by omega, by omega, Nat.le_refl _, ht, re, kk, hr⟩ ?_; clear ht rl hr kk re; rintro v w1 ⟨i, k, m, rest, buf, parts, rfl, hik, hib, hm, ht, rl, kk, hr⟩
   cases m with
   | zero => simp only [prn] at hr; exact absurd hr.symm hne
   | succ m =>
     cases rest with
     | nil =>
       obtain rfl : k = 0 := rl; refine V1.i (v := .bool false) (w' := w1) (by simp [go_sem]; omega) ?_; refine If.f ?_; simp only [prn] at hr; subst hr; exact ⟨ht, kk⟩
     | cons s l =>
       obtain ⟨k', u, rfl, hc, hf, rs, rl⟩ := rl; simp only [prn] at hr; refine V1.i (v := .bool true) (w' := w1) (by simp [go_sem]; omega) ?_; refine If.t ?_; refine V1.i (ix26 (by omega)) ?_; refine V1.i ((oneAll rfl) _ _ _ hc) ?_; have hK := (H m (by omega)).stmt ht rs rfl (PR.bind_ne hr hne); refine cf35 hK ?_ (fun c w' h => PEr.up h hr kk ht); clear hK; rintro _ wP hP; obtain ⟨bufP, partsP, eP, htP, kP⟩ := POk.out hP; have hA := prn_adds _ _ _ _ _ _ eP; rw [eP, PR.bind_ok] at hr; replace rs := kP.rep ht rs; replace rl := kP.rep ht rl; replace kk := kk.trans kP ht.ab; replace ht := htP; clear hP eP htP kP; refine V1.newSlice (by simp [go_sem] <;> trivial) fun bs ws NS => ?_; have fS := ht.fon NS.keep NS.ge; have aS : At ws bs (List.map str [[10]]) := NS.at_; have kS := KO.keep (b := b) NS.keep; replace rs := kS.rep ht rs; replace rl := kS.rep ht rl; replace kk := kk.trans kS ht.ab
       replace ht := ht.keep NS.keep; have h36 := c36 ht aS fS (by simp) rfl (PR.bind_ne hr hne); refine cf36 h36 ?_ (fun c w' h => PEr.up h hr kk ht); clear h36; rintro _ wP hP; obtain ⟨bufP, partsP, eP, htP, kP⟩ := POk.out hP; have hA2 := (Adds.putL _ _ _ _ _ eP).2; have hA := putL_len eP; simp only [List.map_cons, List.map_nil, List.sum_cons, List.sum_nil, List.length_cons, List.length_nil] at hA; rw [eP, PR.bind_ok] at hr; replace rs := kP.rep ht rs; replace rl := kP.rep ht rl; replace kk := kk.trans kP ht.ab; replace ht := htP; clear hP eP htP kP; clear aS fS NS kS; have h32 : _ ≤ 32768 := ht.len; refine V1.i (addI _ _ _ _ _ _ (by omega) (by omega)) ?_; exact ⟨⟨i + 1, k', m, l, _, _, by simp, by omega, by omega, by omega, ht, rl, kk, hr⟩, by simp; omega⟩
     | hole => simp only [prn] at hr; exact absurd hr.symm hne
     | ex => exact rl.elim
     | st => exact rl.elim
theorem PR.bind_assoc (r : PR) (f g : List UInt8 → Nat → PR) : (r.bind f).bind g = r.bind fun b p => (f b p).bind g := by cases r <;> rfl
theorem putL_cons (s : List UInt8) (l : List (List UInt8)) (b : List UInt8) (p : Nat) : putL (s :: l) b p = (putL [s] b p).bind fun b p => putL l b p := by
 simp only [putL, PR.bind_assoc]; rfl
theorem Strs.sl {F : Nat → Prop} {w : World} {v : Value} {ss : List (List UInt8)} (h : Strs F w v ss) : ∃ a c, v = .slice a ss.length c := by
 rcases h with ⟨rfl, rfl⟩ | ⟨b, c, cs, rfl, _⟩
 · exact ⟨_, _, rfl⟩
 · exact ⟨_, _, rfl⟩
theorem Strs.get {F : Nat → Prop} {w : World} {a : Option Addr} {n c : Nat} {ss : List (List UInt8)} (h : Strs F w (.slice a n c) ss) {i : Nat} (hi : i < ss.length) : ∃ q, a = some ⟨q, 0, none⟩ ∧ w.cell? ⟨q, i, none⟩ = some (str ss[i]) := by
 rcases h with ⟨_, rfl⟩ | ⟨b, c, cs, h1, h2, h3, h4, h5⟩
 · simp at hi
 · injection h1 with h1 h6 h7; refine ⟨b, h1, ?_⟩; rw [h3.cell]; have : (cs.take ss.length)[i]? = some (str ss[i]) := by rw [h4]; simp [hi]
   rwa [List.getElem?_take_of_lt hi] at this
theorem p68 {n : Nat} (H : PAll n) {w : World} {b : Nat} {buf : List UInt8} {parts : Nat} {k nn : Int} {text : List UInt8} {l rr ks gs : Tr} {ps : List (List UInt8)} {body : Tr} {v : Value} {r : PR} (ht : TX w b buf parts) (re : Rep (FO b w) w (.ex k nn text l rr ks gs ps body) (.P v)) (hr : prn (n + 1) (.func ps body) buf parts = r) (hne : r ≠ .oof) :
   Calls Tryz.prog 68 #[ptr b, v] w (Ret (fun _ => POk w b r) (PEr w b r)) := by
 refine s68 ?_; unfold S68; have kk := KO.refl b w; simp only [prn] at hr; obtain ⟨c, line, lv, rv, kv, av, pv, bv, rfl, qe, ae, _, _, _, _, sp, rb⟩ := re; refine V1.newSlice (by simp [go_sem] <;> trivial) fun bs ws NS => ?_; have fS := ht.fon NS.keep NS.ge; have aS : At ws bs (List.map str [[40]]) := NS.at_; have kS := KO.keep (b := b) NS.keep; have hpq := kS.at ht ae qe; clear ae qe; obtain ⟨ae, qe⟩ := hpq; replace sp := kS.strs ht sp; replace rb := kS.rep ht rb; replace kk := kk.trans kS ht.ab; replace ht := ht.keep NS.keep; have h36 := c36 ht aS fS (by simp) rfl (PR.bind_ne hr hne); refine cf36 h36 ?_ (fun c w' h => PEr.up h hr kk ht); clear h36; rintro _ wP hP; obtain ⟨bufP, partsP, eP, htP, kP⟩ := POk.out hP; have hA2 := (Adds.putL _ _ _ _ _ eP).2; have hA := putL_len eP; simp only [List.map_cons, List.map_nil, List.sum_cons, List.sum_nil, List.length_cons, List.length_nil] at hA
 rw [eP, PR.bind_ok] at hr; have hpq := kP.at ht ae qe; clear ae qe; obtain ⟨ae, qe⟩ := hpq; replace sp := kP.strs ht sp; replace rb := kP.rep ht rb; replace kk := kk.trans kP ht.ab; replace ht := htP; clear hP eP htP kP; clear aS fS NS kS; refine Up.i (Nc.p _ _) ?_; refine V1.i (by simp [go_sem] <;> trivial) ?_; refine V1.load (oneAll rfl) (ae) rfl ?_; obtain ⟨base, cp, rfl⟩ := sp.sl; refine V1.i (by simp [go_sem] <;> trivial) ?_
 refine L1.i (fun v w' => ∃ i buf parts, v = .int .i64 (i : Nat) ∧ i ≤ ps.length ∧ i ≤ buf.length + 1 ∧ TX w' b buf parts ∧ At w' c [.int .i64 k, .int .i64 line, .int .i64 nn, str text, lv, rv, kv, av, .slice base ps.length cp, bv] ∧ FO b w' c ∧ Strs (FO b w') w' (.slice base ps.length cp) ps ∧ Rep (FO b w') w' body (.L bv) ∧ KO b w w' ∧ (parsT (ps.drop i) (decide (i = 0)) buf parts).bind (fun b p => (putL [[41]] b p).bind fun b p => (prn n (.block body) b p).bind fun b p => putL [sEnd] b p) = r) (fun v w' => match v with | .int _ n => (ps.length - n.toNat) | _ => 0) ⟨0, _, _, rfl, by omega, by omega, ht, ae, qe, sp, rb, kk, hr⟩ ?_; clear ht ae qe sp rb kk hr; rintro v w1 ⟨i, buf, parts, rfl, hi, hib, ht, ae, qe, sp, rb, kk, hr⟩; by_cases hlt : i < ps.length
 · rw [List.drop_eq_getElem_cons hlt] at hr; obtain ⟨q, rfl, hc⟩ := sp.get hlt; have h32 := ht.len; refine V1.i (v := .bool true) (w' := w1) (by simp [go_sem]; omega) ?_; refine If.t ?_; refine V1.i (ix45 _ hlt) ?_; refine V1.i ((oneAll rfl) _ _ _ hc) ?_; generalize ps[i] = s at *; refine J0.go ?_; rcases Nat.eq_zero_or_pos i with rfl | h0
   · refine V1.i (by simp [go_sem] <;> trivial) ?_; refine If.f ?_; simp only [parsT, decide_true, if_true, PR.bind_assoc] at hr; refine V1.newSlice (by simp [go_sem] <;> trivial) fun bs ws NS => ?_; have fS := ht.fon NS.keep NS.ge; have aS : At ws bs (List.map str [s]) := NS.at_; have kS := KO.keep (b := b) NS.keep; have hpq := kS.at ht ae qe; clear ae qe; obtain ⟨ae, qe⟩ := hpq; replace sp := kS.strs ht sp; replace rb := kS.rep ht rb; replace kk := kk.trans kS ht.ab; replace ht := ht.keep NS.keep; have h36 := c36 ht aS fS (by simp) rfl (PR.bind_ne hr hne); refine cf36 h36 ?_ (fun c w' h => PEr.up h hr kk ht); clear h36; rintro _ wP hP; obtain ⟨bufP, partsP, eP, htP, kP⟩ := POk.out hP; have hA2 := (Adds.putL _ _ _ _ _ eP).2; have hA := putL_len eP; simp only [List.map_cons, List.map_nil, List.sum_cons, List.sum_nil, List.length_cons, List.length_nil] at hA; rw [eP, PR.bind_ok] at hr
     have hpq := kP.at ht ae qe; clear ae qe; obtain ⟨ae, qe⟩ := hpq; replace sp := kP.strs ht sp; replace rb := kP.rep ht rb; replace kk := kk.trans kP ht.ab; replace ht := htP; clear hP eP htP kP; clear aS fS NS kS; refine V1.i (addI _ _ _ _ _ _ (by omega) (by omega)) ?_; exact ⟨⟨1, _, _, by simp, by omega, by omega, ht, ae, qe, sp, rb, kk, by simpa using hr⟩, by simp; omega⟩
   · have hd0 : decide (i = 0) = false := by simp; omega
     refine V1.i (v := .bool true) (w' := w1) (by simp [go_sem]; omega) ?_; refine If.t ?_; rw [hd0] at hr; simp only [parsT, Bool.false_eq_true, if_false] at hr; rw [putL_cons] at hr; simp only [PR.bind_assoc] at hr; refine V1.newSlice (by simp [go_sem] <;> trivial) fun bs ws NS => ?_; have fS := ht.fon NS.keep NS.ge; have aS : At ws bs (List.map str [[44, 32]]) := NS.at_; have kS := KO.keep (b := b) NS.keep; have hpq := kS.at ht ae qe; clear ae qe; obtain ⟨ae, qe⟩ := hpq; replace sp := kS.strs ht sp; replace rb := kS.rep ht rb; replace kk := kk.trans kS ht.ab; replace ht := ht.keep NS.keep; have h36 := c36 ht aS fS (by simp) rfl (PR.bind_ne hr hne); refine cf36 h36 ?_ (fun c w' h => PEr.up h hr kk ht); clear h36; rintro _ wP hP; obtain ⟨bufP, partsP, eP, htP, kP⟩ := POk.out hP; have hA2 := (Adds.putL _ _ _ _ _ eP).2; have hA := putL_len eP
     simp only [List.map_cons, List.map_nil, List.sum_cons, List.sum_nil, List.length_cons, List.length_nil] at hA; rw [eP, PR.bind_ok] at hr; have hpq := kP.at ht ae qe; clear ae qe; obtain ⟨ae, qe⟩ := hpq; replace sp := kP.strs ht sp; replace rb := kP.rep ht rb; replace kk := kk.trans kP ht.ab; replace ht := htP; clear hP eP htP kP; clear aS fS NS kS; refine V1.newSlice (by simp [go_sem] <;> trivial) fun bs ws NS => ?_; have fS := ht.fon NS.keep NS.ge; have aS : At ws bs (List.map str [s]) := NS.at_; have kS := KO.keep (b := b) NS.keep; have hpq := kS.at ht ae qe; clear ae qe; obtain ⟨ae, qe⟩ := hpq; replace sp := kS.strs ht sp; replace rb := kS.rep ht rb; replace kk := kk.trans kS ht.ab; replace ht := ht.keep NS.keep; have h36 := c36 ht aS fS (by simp) rfl (PR.bind_ne hr hne); refine cf36 h36 ?_ (fun c w' h => PEr.up h hr kk ht); clear h36; rintro _ wP hP
     obtain ⟨bufP, partsP, eP, htP, kP⟩ := POk.out hP; have hA2 := (Adds.putL _ _ _ _ _ eP).2; have hA := putL_len eP; simp only [List.map_cons, List.map_nil, List.sum_cons, List.sum_nil, List.length_cons, List.length_nil] at hA; rw [eP, PR.bind_ok] at hr; have hpq := kP.at ht ae qe; clear ae qe; obtain ⟨ae, qe⟩ := hpq; replace sp := kP.strs ht sp; replace rb := kP.rep ht rb; replace kk := kk.trans kP ht.ab; replace ht := htP; clear hP eP htP kP; clear aS fS NS kS; have hd1 : decide (i + 1 = 0) = false := by simp
     refine V1.i (addI _ _ _ _ _ _ (by omega) (by omega)) ?_; exact ⟨⟨i + 1, _, _, by simp, by omega, by omega, ht, ae, qe, sp, rb, kk, by rw [hd1]; exact hr⟩, by simp; omega⟩
 · have : i = ps.length := by omega
   subst this; rw [List.drop_length] at hr; simp only [parsT, PR.bind_ok] at hr; refine V1.i (v := .bool false) (w' := w1) (by simp [go_sem]) ?_; refine If.f ?_; refine V1.newSlice (by simp [go_sem] <;> trivial) fun bs ws NS => ?_; have fS := ht.fon NS.keep NS.ge; have aS : At ws bs (List.map str [[41]]) := NS.at_; have kS := KO.keep (b := b) NS.keep; have hpq := kS.at ht ae qe; clear ae qe; obtain ⟨ae, qe⟩ := hpq; replace sp := kS.strs ht sp; replace rb := kS.rep ht rb; replace kk := kk.trans kS ht.ab; replace ht := ht.keep NS.keep; have h36 := c36 ht aS fS (by simp) rfl (PR.bind_ne hr hne); refine cf36 h36 ?_ (fun c w' h => PEr.up h hr kk ht); clear h36; rintro _ wP hP; obtain ⟨bufP, partsP, eP, htP, kP⟩ := POk.out hP; have hA2 := (Adds.putL _ _ _ _ _ eP).2; have hA := putL_len eP
   simp only [List.map_cons, List.map_nil, List.sum_cons, List.sum_nil, List.length_cons, List.length_nil] at hA; rw [eP, PR.bind_ok] at hr; have hpq := kP.at ht ae qe; clear ae qe; obtain ⟨ae, qe⟩ := hpq; replace sp := kP.strs ht sp; replace rb := kP.rep ht rb; replace kk := kk.trans kP ht.ab; replace ht := htP; clear hP eP htP kP; clear aS fS NS kS; refine Up.i (Nc.p _ _) ?_; refine V1.i (by simp [go_sem] <;> trivial) ?_; refine V1.load (oneAll rfl) (ae) rfl ?_; have hK := H.block ht rb rfl (PR.bind_ne hr hne); refine cf67 hK ?_ (fun c w' h => PEr.up h hr kk ht); clear hK; rintro _ wP hP; obtain ⟨bufP, partsP, eP, htP, kP⟩ := POk.out hP; have hA := prn_adds _ _ _ _ _ _ eP; rw [eP, PR.bind_ok] at hr; have hpq := kP.at ht ae qe; clear ae qe; obtain ⟨ae, qe⟩ := hpq; replace sp := kP.strs ht sp; replace rb := kP.rep ht rb; replace kk := kk.trans kP ht.ab; replace ht := htP
   clear hP eP htP kP; refine V1.newSlice (by simp [go_sem] <;> trivial) fun bs ws NS => ?_; have fS := ht.fon NS.keep NS.ge; have aS : At ws bs (List.map str [sEnd]) := NS.at_; have kS := KO.keep (b := b) NS.keep; have hpq := kS.at ht ae qe; clear ae qe; obtain ⟨ae, qe⟩ := hpq; replace sp := kS.strs ht sp; replace rb := kS.rep ht rb; replace kk := kk.trans kS ht.ab; replace ht := ht.keep NS.keep; have h36 := c36 ht aS fS (by simp) hr hne; refine cf36 h36 (fun v w' h => POk.pre h kk ht) (fun c w' h => PEr.pre h kk ht)
theorem p169 {n : Nat} (H : PAll n) {w : World} {b b1 b2 : Nat} {buf : List UInt8} {parts : Nat} {e : Tr} {v : Value} {r : PR} (ht : TX w b buf parts) (re : Rep (FO b w) w e (.P v)) (a1 : At w b1 [ptr b]) (a2 : At w b2 [v]) (hr : prn n (.expr e) buf parts = r) (hne : r ≠ .oof) :
   Calls Tryz.prog 169 #[ptr b1, ptr b2] w (Ret (fun _ => POk w b r) (PEr w b r)) := by
 refine s169 ?_; unfold S169; have kk := KO.refl b w; refine V1.load (oneAll rfl) (a1) rfl ?_; refine V1.load (oneAll rfl) (a2) rfl ?_; have hK := H.expr ht re hr hne; refine cf63 hK (fun v w' h => POk.pre h kk ht) (fun c w' h => PEr.pre h kk ht)
def clI (b1 b2 : Nat) : Value := .func (.func 169) #[] #[ptr b1, ptr b2]
theorem cv169 (w : World) (b1 b2 : Nat) : (Cv (clI b1 b2) #[]).run Tryz.prog w = .ok (.enter 169 #[ptr b1, ptr b2]) w := by kernel_rfl
theorem cv170 (w : World) (b1 b2 : Nat) : (Cv (.func (.func 170) #[] #[ptr b1, ptr b2]) #[]).run Tryz.prog w = .ok (.enter 170 #[ptr b1, ptr b2]) w := by kernel_rfl
theorem p170 {n : Nat} (H : PAll n) {w : World} {b b1 b2 b7 : Nat} {buf : List UInt8} {parts : Nat} {e : Tr} {v : Value} {r : PR} (ht : TX w b buf parts) (re : Rep (FO b w) w e (.P v)) (a1 : At w b1 [ptr b]) (q1 : FO b w b1) (a2 : At w b2 [v]) (q2 : FO b w b2) (a7 : At w b7 [clI b1 b2]) (q7 : FO b w b7)
   (hr : ((putL [[40]] buf parts).bind fun b p => (prn n (.expr e) b p).bind fun b p => putL [[41]] b p) = r) (hne : r ≠ .oof) :
   Calls Tryz.prog 170 #[ptr b1, ptr b7] w (Ret (fun _ => POk w b r) (PEr w b r)) := by
 refine s170 ?_; unfold S170; have kk := KO.refl b w; refine V1.load (oneAll rfl) (a1) rfl ?_; refine V1.newSlice (by simp [go_sem] <;> trivial) fun bs ws NS => ?_; have fS := ht.fon NS.keep NS.ge; have aS : At ws bs (List.map str [[40]]) := NS.at_; have kS := KO.keep (b := b) NS.keep; replace re := kS.rep ht re; have hpq := kS.at ht a1 q1; clear a1 q1; obtain ⟨a1, q1⟩ := hpq; have hpq := kS.at ht a2 q2; clear a2 q2; obtain ⟨a2, q2⟩ := hpq; have hpq := kS.at ht a7 q7; clear a7 q7; obtain ⟨a7, q7⟩ := hpq; replace kk := kk.trans kS ht.ab; replace ht := ht.keep NS.keep; have h36 := c36 ht aS fS (by simp) rfl (PR.bind_ne hr hne); refine cf36 h36 ?_ (fun c w' h => PEr.up h hr kk ht); clear h36; rintro _ wP hP; obtain ⟨bufP, partsP, eP, htP, kP⟩ := POk.out hP; have hA2 := (Adds.putL _ _ _ _ _ eP).2; have hA := putL_len eP
 simp only [List.map_cons, List.map_nil, List.sum_cons, List.sum_nil, List.length_cons, List.length_nil] at hA; rw [eP, PR.bind_ok] at hr; replace re := kP.rep ht re; have hpq := kP.at ht a1 q1; clear a1 q1; obtain ⟨a1, q1⟩ := hpq; have hpq := kP.at ht a2 q2; clear a2 q2; obtain ⟨a2, q2⟩ := hpq; have hpq := kP.at ht a7 q7; clear a7 q7; obtain ⟨a7, q7⟩ := hpq; replace kk := kk.trans kP ht.ab; replace ht := htP; clear hP eP htP kP; clear aS fS NS kS; refine V1.load (oneAll rfl) (a7) rfl ?_; refine Up.c (cv169 _ b1 b2) ?_; have h169 := p169 H ht re a1 a2 rfl (PR.bind_ne hr hne); refine Ret.imp h169 ?_ (fun c w' h => PEr.up h hr kk ht); rintro _ wP hP; obtain ⟨bufP, partsP, eP, htP, kP⟩ := POk.out hP; rw [eP, PR.bind_ok] at hr; obtain ⟨a1, q1⟩ := kP.at ht a1 q1; replace kk := kk.trans kP ht.ab; replace ht := htP; refine V1.load (oneAll rfl) (a1) rfl ?_
 refine V1.newSlice (by simp [go_sem] <;> trivial) fun bs ws NS => ?_; have fS := ht.fon NS.keep NS.ge; have aS : At ws bs (List.map str [[41]]) := NS.at_; have kS := KO.keep (b := b) NS.keep; have hpq := kS.at ht a1 q1; clear a1 q1; obtain ⟨a1, q1⟩ := hpq; replace kk := kk.trans kS ht.ab; replace ht := ht.keep NS.keep; have h36 := c36 ht aS fS (by simp) hr hne; refine cf36 h36 (fun v w' h => POk.pre h kk ht) (fun c w' h => PEr.pre h kk ht)
theorem p116 {n : Nat} (H : PAll n) {w : World} {b : Nat} {buf : List UInt8} {parts : Nat} {e : Tr} {v : Value} {r : PR} {around : Bool} (hv : Sc v = true) (ht : TX w b buf parts) (re : Rep (FO b w) w e (.P v)) (hr : prn (n + 1) (.inner e around) buf parts = r) (hne : r ≠ .oof) :
   Calls Tryz.prog 116 #[ptr b, v, .bool around] w (Ret (fun _ => POk w b r) (PEr w b r)) := by
 refine s116 ?_; unfold S116; have kk := KO.refl b w; refine V1.new (bx51 _ _) fun b1 w1 N1 => ?_; have a1 : At w1 b1 [ptr b] := N1.at_; have q1 := ht.fon N1.keep N1.ge; have kS := KO.keep (b := b) N1.keep; replace re := kS.rep ht re; replace kk := kk.trans kS ht.ab; replace ht := ht.keep N1.keep; clear kS; refine V1.new (bx41 _ _) fun b2 w2 N2 => ?_; have a2 : At w2 b2 [v] := by
   have := N2.at_
   cases v <;> first | exact this | cases hv
 have q2 := ht.fon N2.keep N2.ge; have kS := KO.keep (b := b) N2.keep; replace re := kS.rep ht re; have hpq := kS.at ht a1 q1; clear a1 q1; obtain ⟨a1, q1⟩ := hpq; replace kk := kk.trans kS ht.ab; replace ht := ht.keep N2.keep; clear kS; refine V1.i (v := clI b1 b2) (w' := w2) (by simp [go_sem]; rfl) ?_; refine J1.go ?_
 cases around with
 | false =>
   refine If.f ?_; simp only [prn] at hr; refine Up.c (cv169 _ b1 b2) ?_; have h169 := p169 H ht re a1 a2 hr hne; exact Ret.imp h169 (fun v w' h => POk.pre h kk ht) (fun c w' h => PEr.pre h kk ht)
 | true =>
   refine If.t ?_; simp only [prn] at hr; refine V1.new (al1 _) fun b7 w7 N7 => ?_; refine U1.store (onesAll rfl rfl) N7.at_ (by simp) fun w8 U8 => ?_; have a7 : At w8 b7 [clI b1 b2] := U8.at_; have K8 : Keep [] w2 w8 := N7.keep.trans' U8.keep (by have := N7.ge; simp; omega); have q7 := ht.fon K8 N7.ge; have kS := KO.keep (b := b) K8; replace re := kS.rep ht re; have hpq := kS.at ht a1 q1; clear a1 q1; obtain ⟨a1, q1⟩ := hpq; have hpq := kS.at ht a2 q2; clear a2 q2; obtain ⟨a2, q2⟩ := hpq; replace kk := kk.trans kS ht.ab; replace ht := ht.keep K8; clear kS; refine V1.i (v := .func (.func 170) #[] #[ptr b1, ptr b7]) (w' := w8) (by simp [go_sem]; exact ⟨rfl, rfl⟩) ?_; refine Up.c (cv170 _ b1 b7) ?_; have h170 := p170 H ht re a1 q1 a2 q2 a7 q7 hr hne; exact Ret.imp h170 (fun v w' h => POk.pre h kk ht) (fun c w' h => PEr.pre h kk ht)
theorem Rep.scP {F : Nat → Prop} {w : World} {t : Tr} {v : Value} (h : Rep F w t (.P v)) (hk : t ≠ .hole) : Sc v = true := by
 cases t with
 | nil => cases h; rfl
 | ex => obtain ⟨c, line, lv, rv, kv, av, pv, bv, rfl, _⟩ := h; rfl
 | st => obtain ⟨c, line, lv, rv, kv, av, pv, rfl, _⟩ := h; rfl
 | cons => exact h.elim
 | hole => exact absurd rfl hk
theorem p114 {n : Nat} (H : PAll n) {w : World} {b : Nat} {buf : List UInt8} {parts : Nat} {e : Tr} {v : Value} {r : PR} (hk : kn e = true) (ht : TX w b buf parts) (re : Rep (FO b w) w e (.P v)) (hr : prn n (.inner e (headQ e)) buf parts = r) (hne : r ≠ .oof) :
   Calls Tryz.prog 114 #[ptr b, v] w (Ret (fun _ => POk w b r) (PEr w b r)) := by
 refine s114 ?_; unfold S114; have kk := KO.refl b w
 cases e with
 | nil =>
   have hv : v = .pointer none := re; refine V1.i (v := .bool false) (w' := w) (by rw [hv]; simp [go_sem]) ?_; refine J1.go (Gd.ft ?_); refine V1.i (by simp [go_sem] <;> trivial) ?_; have hK := H.inner hk ht re hr hne; refine cf116 hK (fun v w' h => POk.pre h kk ht) (fun c w' h => PEr.pre h kk ht)
 | ex k nn text l rr keys args params body =>
   have hv : ∃ c line lv rv kv av pv bv, v = ptr c ∧ FO b w c ∧ At w c [.int .i64 k, .int .i64 line, .int .i64 nn, str text, lv, rv, kv, av, pv, bv] := by
     obtain ⟨c, line, lv, rv, kv, av, pv, bv, rfl, q, a, _⟩ := re; exact ⟨c, line, lv, rv, kv, av, pv, bv, rfl, q, a⟩
   obtain ⟨c, line, lv, rv, kv, av, pv, bv, rfl, q1, a1⟩ := hv; refine V1.i (v := .bool true) (w' := w) (by simp [go_sem, ptr]; first | done | rfl | exact ⟨rfl, rfl⟩) ?_; refine J1.go (Gd.tt ?_); refine V1.newSlice (by simp [go_sem]; first | done | rfl | exact ⟨rfl, rfl⟩ | (repeat' (first | rfl | apply And.intro))) fun bs ws NS => ?_; have aS : At ws bs [.int .i64 10, .int .i64 11, .int .i64 9] := NS.at_; have kS := KO.keep (b := b) NS.keep; replace re := kS.rep ht re; have hpq := kS.at ht a1 q1; clear a1 q1; obtain ⟨a1, q1⟩ := hpq; replace kk := kk.trans kS ht.ab; replace ht := ht.keep NS.keep; clear kS; refine Up.i (Nc.p _ _) ?_; refine V1.i (by simp [go_sem] <;> trivial) ?_; refine V1.load (oneAll rfl) (a1) rfl ?_; refine cf166 (c166 aS k) ?_ (NP.no (e := _)); rintro _ w2 ⟨rfl, rfl⟩; refine V1.i (by simp [go_sem] <;> trivial) ?_; have hK := H.inner hk ht re hr hne
   refine cf116 hK (fun v w' h => POk.pre h kk ht) (fun c w' h => PEr.pre h kk ht)
 | hole => cases hk
 | cons => cases hk
 | st => cases hk
theorem Rep.fst {F : Nat → Prop} {w : World} {x t : Tr} {q : Nat} {m c : Nat} (h : Rep F w (.cons x t) (.L (.slice (some ⟨q, 0, none⟩) m c))) : ∃ u, w.cell? ⟨q, 0, none⟩ = some u ∧ Rep F w x (.P u) := by
 obtain ⟨q', n', c', u, e1, h2, h3, h4, h5, h6⟩ := h; injection e1 with e1 _ _; injection e1 with e1; injection e1 with e1 _ _; subst e1; exact ⟨u, h4, h5⟩
theorem ix26z (w : World) {b n c : Nat} (h : 0 < n) : (Instr.indexAt 26 (.slice (some ⟨b, 0, none⟩) n c) (.int .i64 0)).run Tryz.prog w = .ok (.pointer (some ⟨b, 0, none⟩)) w := ix26 (k := 0) h
theorem eqInt (w : World) (a b : Int) : (Bo .eql 3 false true (.int .i64 a) (.int .i64 b)).run Tryz.prog w = .ok (.bool (a == b)) w := by simp [go_sem, Bo]
theorem more_kn {n : Nat} {word : List UInt8} {e : Tr} {buf : List UInt8} {parts : Nat} {f : List UInt8 → Nat → PR} {r : PR} (hr : (prn n (.more word (needT e)) buf parts).bind f = r) (hne : r ≠ .oof) : kn e = true := by
 cases n with
 | zero => simp only [prn] at hr; exact absurd hr.symm hne
 | succ n =>
   cases e <;> first | rfl | (simp only [prn, needT] at hr; exact absurd hr.symm hne)
theorem p66 {n : Nat} (H : PAll n) {w : World} {b : Nat} {buf : List UInt8} {parts : Nat} {k : Int} {nm : List UInt8} {l rr t a bb : Tr} {v : Value} {r : PR} (ht : TX w b buf parts) (re : Rep (FO b w) w (.st k nm l rr t a bb) (.P v)) (hr : prn (n + 1) (.branch rr a bb) buf parts = r) (hne : r ≠ .oof) :
   Calls Tryz.prog 66 #[ptr b, v] w (Ret (fun _ => POk w b r) (PEr w b r)) := by
 refine s66 ?_; unfold S66; have kk := KO.refl b w; simp only [prn] at hr; have hk := more_kn hr hne; obtain ⟨c, line, lv, rv, tv, av, bv, rfl, qe, ae, _, rq, _, ra, rb⟩ := re; refine Up.i (Nc.p _ _) ?_; refine V1.i (by simp [go_sem] <;> trivial) ?_; refine V1.load (oneAll rfl) (ae) rfl ?_; refine cf64 (c64 ht rq hk) ?_ (NP.no (e := _)); rintro _ w2 ⟨rN, K2⟩; have kS := KO.keep (b := b) K2; have hpq := kS.at ht ae qe; clear ae qe; obtain ⟨ae, qe⟩ := hpq; replace ra := kS.rep ht ra; replace rb := kS.rep ht rb; replace kk := kk.trans kS ht.ab; replace ht := ht.keep K2; clear kS; have hK := H.more ht rN rfl (PR.bind_ne hr hne); refine cf62 hK ?_ (fun c w' h => PEr.up h hr kk ht); clear hK; rintro _ wP hP; obtain ⟨bufP, partsP, eP, htP, kP⟩ := POk.out hP; have hA := prn_adds _ _ _ _ _ _ eP; rw [eP, PR.bind_ok] at hr; have hpq := kP.at ht ae qe; clear ae qe; obtain ⟨ae, qe⟩ := hpq
 replace ra := kP.rep ht ra; replace rb := kP.rep ht rb; replace kk := kk.trans kP ht.ab; replace ht := htP; clear hP eP htP kP; refine V1.newSlice (by simp [go_sem] <;> trivial) fun bs ws NS => ?_; have fS := ht.fon NS.keep NS.ge; have aS : At ws bs (List.map str [[32, 116, 104, 101, 110]]) := NS.at_; have kS := KO.keep (b := b) NS.keep; have hpq := kS.at ht ae qe; clear ae qe; obtain ⟨ae, qe⟩ := hpq; replace ra := kS.rep ht ra; replace rb := kS.rep ht rb; replace kk := kk.trans kS ht.ab; replace ht := ht.keep NS.keep; have h36 := c36 ht aS fS (by simp) rfl (PR.bind_ne hr hne); refine cf36 h36 ?_ (fun c w' h => PEr.up h hr kk ht); clear h36; rintro _ wP hP; obtain ⟨bufP, partsP, eP, htP, kP⟩ := POk.out hP; have hA2 := (Adds.putL _ _ _ _ _ eP).2; have hA := putL_len eP; simp only [List.map_cons, List.map_nil, List.sum_cons, List.sum_nil, List.length_cons, List.length_nil] at hA
 rw [eP, PR.bind_ok] at hr; have hpq := kP.at ht ae qe; clear ae qe; obtain ⟨ae, qe⟩ := hpq; replace ra := kP.rep ht ra; replace rb := kP.rep ht rb; replace kk := kk.trans kP ht.ab; replace ht := htP; clear hP eP htP kP; clear aS fS NS kS; refine Up.i (Nc.p _ _) ?_; refine V1.i (by simp [go_sem] <;> trivial) ?_; refine V1.load (oneAll rfl) (ae) rfl ?_; have hK := H.block ht ra rfl (PR.bind_ne hr hne); refine cf67 hK ?_ (fun c w' h => PEr.up h hr kk ht); clear hK; rintro _ wP hP; obtain ⟨bufP, partsP, eP, htP, kP⟩ := POk.out hP; have hA := prn_adds _ _ _ _ _ _ eP; rw [eP, PR.bind_ok] at hr; have hpq := kP.at ht ae qe; clear ae qe; obtain ⟨ae, qe⟩ := hpq; replace ra := kP.rep ht ra; replace rb := kP.rep ht rb; replace kk := kk.trans kP ht.ab; replace ht := htP; clear hP eP htP kP; refine Up.i (Nc.p _ _) ?_; refine V1.i (by simp [go_sem] <;> trivial) ?_
 refine V1.load (oneAll rfl) (ae) rfl ?_
 cases bb with
 | nil =>
   have hb : ∃ a c, bv = .slice a 0 c := by rcases rb with rfl | ⟨b, c, rfl⟩ <;> exact ⟨_, _, rfl⟩
   obtain ⟨ba, bc, rfl⟩ := hb; refine V1.i (by simp [go_sem] <;> trivial) ?_; refine V1.i (by simp [go_sem] <;> trivial) ?_; refine J1.go (Gd.ft ?_); refine V1.i (by simp [go_sem] <;> trivial) ?_; refine J1.go (Gd.ft ?_); refine V1.i (by simp [go_sem] <;> trivial) ?_; refine If.f ?_; refine J0.go ?_; refine Up.i (Nc.p _ _) ?_; refine V1.i (by simp [go_sem] <;> trivial) ?_; refine V1.load (oneAll rfl) (ae) rfl ?_; refine V1.i (by simp [go_sem] <;> trivial) ?_; refine V1.i (by simp [go_sem] <;> trivial) ?_; refine If.f ?_; dsimp only at hr; refine V1.newSlice (by simp [go_sem] <;> trivial) fun bs ws NS => ?_; have fS := ht.fon NS.keep NS.ge; have aS : At ws bs (List.map str [sEnd]) := NS.at_; have kS := KO.keep (b := b) NS.keep; have hpq := kS.at ht ae qe; clear ae qe; obtain ⟨ae, qe⟩ := hpq; replace ra := kS.rep ht ra; replace rb := kS.rep ht rb; replace kk := kk.trans kS ht.ab
   replace ht := ht.keep NS.keep; have h36 := c36 ht aS fS (by simp) hr hne; refine cf36 h36 (fun v w' h => POk.pre h kk ht) (fun c w' h => PEr.pre h kk ht)
 | cons x y =>
   have hb : ∃ q m c, bv = .slice (some ⟨q, 0, none⟩) (m + 1) c ∧ Rep (FO b wP) wP y (.E q 1 m) := by
     obtain ⟨q, m, c, u, e1, h2, h3, h4, h5, h6⟩ := rb; exact ⟨q, m, c, e1, h6⟩
   obtain ⟨q, m, bc, rfl, ry⟩ := hb; refine V1.i (by simp [go_sem] <;> trivial) ?_
   cases y with
   | cons y1 y2 =>
     obtain ⟨m', _, rfl, _⟩ := ry; have hr' : ((putL [sElse] bufP partsP).bind fun b p => (prn n (.block (.cons x (.cons y1 y2))) b p).bind fun b p => putL [sEnd] b p) = r := by
       cases x <;> exact hr
     clear hr; have hr := hr'; clear hr'; refine V1.i (eqInt _ _ _) ?_; rw [show (((m' + 1 : Nat) : Int) + 1 == 1) = false by simp; omega]; refine J1.go (Gd.ft ?_); refine V1.i (by simp [go_sem] <;> trivial) ?_; refine J1.go (Gd.ft ?_); refine V1.i (by simp [go_sem] <;> trivial) ?_; refine If.f ?_; refine J0.go ?_; refine Up.i (Nc.p _ _) ?_; refine V1.i (by simp [go_sem] <;> trivial) ?_; refine V1.load (oneAll rfl) (ae) rfl ?_; refine V1.i (by simp [go_sem] <;> trivial) ?_; refine V1.i (v := .bool true) (w' := _) (by simp [go_sem]; first | done | rfl | omega | exact ⟨by omega, rfl⟩) ?_; refine If.t ?_; refine V1.newSlice (by simp [go_sem] <;> trivial) fun bs ws NS => ?_; have fS := ht.fon NS.keep NS.ge; have aS : At ws bs (List.map str [sElse]) := NS.at_; have kS := KO.keep (b := b) NS.keep; have hpq := kS.at ht ae qe; clear ae qe; obtain ⟨ae, qe⟩ := hpq; replace rb := kS.rep ht rb
     replace kk := kk.trans kS ht.ab; replace ht := ht.keep NS.keep; have h36 := c36 ht aS fS (by simp) rfl (PR.bind_ne hr hne); refine cf36 h36 ?_ (fun c w' h => PEr.up h hr kk ht); clear h36; rintro _ wP hP; obtain ⟨bufP, partsP, eP, htP, kP⟩ := POk.out hP; have hA2 := (Adds.putL _ _ _ _ _ eP).2; have hA := putL_len eP; simp only [List.map_cons, List.map_nil, List.sum_cons, List.sum_nil, List.length_cons, List.length_nil] at hA; rw [eP, PR.bind_ok] at hr; have hpq := kP.at ht ae qe; clear ae qe; obtain ⟨ae, qe⟩ := hpq; replace rb := kP.rep ht rb; replace kk := kk.trans kP ht.ab; replace ht := htP; clear hP eP htP kP; clear aS fS NS kS; refine Up.i (Nc.p _ _) ?_; refine V1.i (by simp [go_sem] <;> trivial) ?_; refine V1.load (oneAll rfl) (ae) rfl ?_; have hK := H.block ht rb rfl (PR.bind_ne hr hne); refine cf67 hK ?_ (fun c w' h => PEr.up h hr kk ht); clear hK; rintro _ wP hP
     obtain ⟨bufP, partsP, eP, htP, kP⟩ := POk.out hP; have hA := prn_adds _ _ _ _ _ _ eP; rw [eP, PR.bind_ok] at hr; have hpq := kP.at ht ae qe; clear ae qe; obtain ⟨ae, qe⟩ := hpq; replace rb := kP.rep ht rb; replace kk := kk.trans kP ht.ab; replace ht := htP; clear hP eP htP kP; refine V1.newSlice (by simp [go_sem] <;> trivial) fun bs ws NS => ?_; have fS := ht.fon NS.keep NS.ge; have aS : At ws bs (List.map str [sEnd]) := NS.at_; have kS := KO.keep (b := b) NS.keep; have hpq := kS.at ht ae qe; clear ae qe; obtain ⟨ae, qe⟩ := hpq; replace rb := kS.rep ht rb; replace kk := kk.trans kS ht.ab; replace ht := ht.keep NS.keep; have h36 := c36 ht aS fS (by simp) hr hne; refine cf36 h36 (fun v w' h => POk.pre h kk ht) (fun c w' h => PEr.pre h kk ht)
   | nil =>
     obtain rfl : m = 0 := ry; obtain ⟨u, hc, rx⟩ := rb.fst; refine V1.i (by simp [go_sem] <;> trivial) ?_; refine J1.go (Gd.tt ?_); refine Up.i (Nc.p _ _) ?_; refine V1.i (by simp [go_sem] <;> trivial) ?_; refine V1.load (oneAll rfl) (ae) rfl ?_; refine V1.i (ix26z _ (by omega)) ?_; refine V1.i ((oneAll rfl) _ _ _ hc) ?_
     cases x with
     | nil =>
       obtain rfl : u = .pointer none := rx; refine V1.i (by simp [go_sem] <;> trivial) ?_; refine V1.i (by simp [go_sem] <;> trivial) ?_; refine J1.go (Gd.ft ?_); refine V1.i (by simp [go_sem] <;> trivial) ?_; refine If.f ?_; dsimp only at hr; refine J0.go ?_; refine Up.i (Nc.p _ _) ?_; refine V1.i (by simp [go_sem] <;> trivial) ?_; refine V1.load (oneAll rfl) (ae) rfl ?_; refine V1.i (by simp [go_sem] <;> trivial) ?_; refine V1.i (v := .bool true) (w' := _) (by simp [go_sem]; first | done | rfl | omega | exact ⟨by omega, rfl⟩) ?_; refine If.t ?_; refine V1.newSlice (by simp [go_sem] <;> trivial) fun bs ws NS => ?_; have fS := ht.fon NS.keep NS.ge; have aS : At ws bs (List.map str [sElse]) := NS.at_; have kS := KO.keep (b := b) NS.keep; have hpq := kS.at ht ae qe; clear ae qe; obtain ⟨ae, qe⟩ := hpq; replace rb := kS.rep ht rb; replace kk := kk.trans kS ht.ab
       replace ht := ht.keep NS.keep; have h36 := c36 ht aS fS (by simp) rfl (PR.bind_ne hr hne); refine cf36 h36 ?_ (fun c w' h => PEr.up h hr kk ht); clear h36; rintro _ wP hP; obtain ⟨bufP, partsP, eP, htP, kP⟩ := POk.out hP; have hA2 := (Adds.putL _ _ _ _ _ eP).2; have hA := putL_len eP; simp only [List.map_cons, List.map_nil, List.sum_cons, List.sum_nil, List.length_cons, List.length_nil] at hA; rw [eP, PR.bind_ok] at hr; have hpq := kP.at ht ae qe; clear ae qe; obtain ⟨ae, qe⟩ := hpq; replace rb := kP.rep ht rb; replace kk := kk.trans kP ht.ab; replace ht := htP; clear hP eP htP kP; clear aS fS NS kS; refine Up.i (Nc.p _ _) ?_; refine V1.i (by simp [go_sem] <;> trivial) ?_; refine V1.load (oneAll rfl) (ae) rfl ?_; have hK := H.block ht rb rfl (PR.bind_ne hr hne); refine cf67 hK ?_ (fun c w' h => PEr.up h hr kk ht); clear hK; rintro _ wP hP
       obtain ⟨bufP, partsP, eP, htP, kP⟩ := POk.out hP; have hA := prn_adds _ _ _ _ _ _ eP; rw [eP, PR.bind_ok] at hr; have hpq := kP.at ht ae qe; clear ae qe; obtain ⟨ae, qe⟩ := hpq; replace rb := kP.rep ht rb; replace kk := kk.trans kP ht.ab; replace ht := htP; clear hP eP htP kP; refine V1.newSlice (by simp [go_sem] <;> trivial) fun bs ws NS => ?_; have fS := ht.fon NS.keep NS.ge; have aS : At ws bs (List.map str [sEnd]) := NS.at_; have kS := KO.keep (b := b) NS.keep; have hpq := kS.at ht ae qe; clear ae qe; obtain ⟨ae, qe⟩ := hpq; replace rb := kS.rep ht rb; replace kk := kk.trans kS ht.ab; replace ht := ht.keep NS.keep; have h36 := c36 ht aS fS (by simp) hr hne; refine cf36 h36 (fun v w' h => POk.pre h kk ht) (fun c w' h => PEr.pre h kk ht)
     | st k2 nm2 l2 r2 t2 a2 b2 =>
       have hu : ∃ c2 line lv rv tv av bv, u = ptr c2 ∧ At wP c2 [.int .i64 k2, .int .i64 line, str nm2, lv, rv, tv, av, bv] := by
         obtain ⟨c2, line, lv, rv, tv, av, bv, rfl, q2, ax2, _⟩ := rx; exact ⟨c2, line, lv, rv, tv, av, bv, rfl, ax2⟩
       obtain ⟨c2, line2, lv2, rv2, tv2, av2, bv2, rfl, ax2⟩ := hu; refine V1.i (v := .bool true) (w' := _) (by simp [go_sem, ptr]; first | done | rfl | exact ⟨rfl, rfl⟩) ?_; refine V1.i (by simp [go_sem] <;> trivial) ?_; refine J1.go (Gd.tt ?_); refine Up.i (Nc.p _ _) ?_; refine V1.i (by simp [go_sem] <;> trivial) ?_; refine V1.load (oneAll rfl) (ae) rfl ?_; refine V1.i (ix26z _ (by omega)) ?_; refine V1.i ((oneAll rfl) _ _ _ hc) ?_; refine Up.i (Nc.p _ _) ?_; refine V1.i (by simp [go_sem] <;> trivial) ?_; refine V1.load (oneAll rfl) (ax2) rfl ?_; refine V1.i (v := .bool (k2 == 6)) (w' := _) (by simp [go_sem]; first | done | rfl) ?_; refine V1.i (v := .bool (k2 == 6)) (w' := _) (by simp [go_sem]; first | done | rfl) ?_; dsimp only at hr; by_cases h6 : k2 = 6
       · subst h6; rw [if_pos rfl] at hr; refine If.t ?_; refine cf61 (c61 ht rfl) ?_ (fun c w' h => PEr.up h hr kk ht); rintro _ wP hP; obtain ⟨bufP, partsP, eP, htP, kP⟩ := POk.out hP; have hA := Adds.part _ _ eP; rw [eP, PR.bind_ok] at hr; have hpq := kP.at ht ae qe; clear ae qe; obtain ⟨ae, qe⟩ := hpq; replace rx := kP.rep ht rx; replace rb := kP.rep ht rb; replace kk := kk.trans kP ht.ab; replace ht := htP; clear hP eP htP kP; refine V1.newSlice (by simp [go_sem] <;> trivial) fun bs ws NS => ?_; have fS := ht.fon NS.keep NS.ge; have aS : At ws bs (List.map str [sElseif]) := NS.at_; have kS := KO.keep (b := b) NS.keep; have hpq := kS.at ht ae qe; clear ae qe; obtain ⟨ae, qe⟩ := hpq; replace rx := kS.rep ht rx; replace rb := kS.rep ht rb; replace kk := kk.trans kS ht.ab; replace ht := ht.keep NS.keep; have h36 := c36 ht aS fS (by simp) rfl (PR.bind_ne hr hne)
         refine cf36 h36 ?_ (fun c w' h => PEr.up h hr kk ht); clear h36; rintro _ wP hP; obtain ⟨bufP, partsP, eP, htP, kP⟩ := POk.out hP; have hA2 := (Adds.putL _ _ _ _ _ eP).2; have hA := putL_len eP; simp only [List.map_cons, List.map_nil, List.sum_cons, List.sum_nil, List.length_cons, List.length_nil] at hA; rw [eP, PR.bind_ok] at hr; have hpq := kP.at ht ae qe; clear ae qe; obtain ⟨ae, qe⟩ := hpq; replace rx := kP.rep ht rx; replace rb := kP.rep ht rb; replace kk := kk.trans kP ht.ab; replace ht := htP; clear hP eP htP kP; clear aS fS NS kS; refine Up.i (Nc.p _ _) ?_; refine V1.i (by simp [go_sem] <;> trivial) ?_; refine V1.load (oneAll rfl) (ae) rfl ?_; obtain ⟨u', hc, rx'⟩ := rb.fst; refine V1.i (ix26z _ (by omega)) ?_; refine V1.i ((oneAll rfl) _ _ _ hc) ?_; have hK := H.branch ht rx' hr hne; refine cf66 hK (fun v w' h => POk.pre h kk ht) (fun c w' h => PEr.pre h kk ht)
       · rw [if_neg h6] at hr; rw [show (k2 == 6) = false by simpa using h6]; refine If.f ?_; refine J0.go ?_; refine Up.i (Nc.p _ _) ?_; refine V1.i (by simp [go_sem] <;> trivial) ?_; refine V1.load (oneAll rfl) (ae) rfl ?_; refine V1.i (by simp [go_sem] <;> trivial) ?_; refine V1.i (v := .bool true) (w' := _) (by simp [go_sem]; first | done | rfl | omega | exact ⟨by omega, rfl⟩) ?_; refine If.t ?_; refine V1.newSlice (by simp [go_sem] <;> trivial) fun bs ws NS => ?_; have fS := ht.fon NS.keep NS.ge; have aS : At ws bs (List.map str [sElse]) := NS.at_; have kS := KO.keep (b := b) NS.keep; have hpq := kS.at ht ae qe; clear ae qe; obtain ⟨ae, qe⟩ := hpq; replace rb := kS.rep ht rb; replace kk := kk.trans kS ht.ab; replace ht := ht.keep NS.keep; have h36 := c36 ht aS fS (by simp) rfl (PR.bind_ne hr hne); refine cf36 h36 ?_ (fun c w' h => PEr.up h hr kk ht); clear h36; rintro _ wP hP
         obtain ⟨bufP, partsP, eP, htP, kP⟩ := POk.out hP; have hA2 := (Adds.putL _ _ _ _ _ eP).2; have hA := putL_len eP; simp only [List.map_cons, List.map_nil, List.sum_cons, List.sum_nil, List.length_cons, List.length_nil] at hA; rw [eP, PR.bind_ok] at hr; have hpq := kP.at ht ae qe; clear ae qe; obtain ⟨ae, qe⟩ := hpq; replace rb := kP.rep ht rb; replace kk := kk.trans kP ht.ab; replace ht := htP; clear hP eP htP kP; clear aS fS NS kS; refine Up.i (Nc.p _ _) ?_; refine V1.i (by simp [go_sem] <;> trivial) ?_; refine V1.load (oneAll rfl) (ae) rfl ?_; have hK := H.block ht rb rfl (PR.bind_ne hr hne); refine cf67 hK ?_ (fun c w' h => PEr.up h hr kk ht); clear hK; rintro _ wP hP; obtain ⟨bufP, partsP, eP, htP, kP⟩ := POk.out hP; have hA := prn_adds _ _ _ _ _ _ eP; rw [eP, PR.bind_ok] at hr; have hpq := kP.at ht ae qe; clear ae qe; obtain ⟨ae, qe⟩ := hpq; replace rb := kP.rep ht rb
         replace kk := kk.trans kP ht.ab; replace ht := htP; clear hP eP htP kP; refine V1.newSlice (by simp [go_sem] <;> trivial) fun bs ws NS => ?_; have fS := ht.fon NS.keep NS.ge; have aS : At ws bs (List.map str [sEnd]) := NS.at_; have kS := KO.keep (b := b) NS.keep; have hpq := kS.at ht ae qe; clear ae qe; obtain ⟨ae, qe⟩ := hpq; replace rb := kS.rep ht rb; replace kk := kk.trans kS ht.ab; replace ht := ht.keep NS.keep; have h36 := c36 ht aS fS (by simp) hr hne; refine cf36 h36 (fun v w' h => POk.pre h kk ht) (fun c w' h => PEr.pre h kk ht)
     | hole => dsimp only at hr; exact absurd hr.symm hne
     | ex => dsimp only at hr; exact absurd hr.symm hne
     | cons => exact rx.elim
   | hole => cases x <;> (dsimp only at hr; exact absurd hr.symm hne)
   | ex => exact ry.elim
   | st => exact ry.elim
 | hole => dsimp only at hr; exact absurd hr.symm hne
 | ex => exact rb.elim
 | st => exact rb.elim
end Go.Proofs.YtoddjlclpnoomaaGreatDoor

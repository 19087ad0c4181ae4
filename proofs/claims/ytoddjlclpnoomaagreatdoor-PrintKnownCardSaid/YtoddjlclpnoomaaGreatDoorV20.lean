import Derived.Test.YtoddjlclpnoomaaGreatDoorV19
set_option linter.unusedVariables false
set_option linter.unusedSimpArgs false
set_option maxRecDepth 100000
namespace Go.Proofs.YtoddjlclpnoomaaGreatDoor
open Go.Sh
def rowsL : List (List UInt8 × List UInt8) := [
 ([105, 102, 32, 97, 32, 116, 104, 101, 110, 32, 101, 108, 115, 101, 105, 102, 32, 98, 32, 116, 104, 101, 110, 32, 99, 40, 41, 32, 101, 108, 115, 101, 32, 100, 40, 41, 32, 101, 110, 100],
  [105, 102, 32, 97, 32, 116, 104, 101, 110, 10, 101, 108, 115, 101, 105, 102, 32, 98, 32, 116, 104, 101, 110, 10, 99, 40, 41, 10, 101, 108, 115, 101, 10, 100, 40, 41, 10, 101, 110, 100, 10]),
 ([97, 61, 40, 98, 46, 46, 99, 41, 46, 46, 100, 46, 46, 101, 32, 97, 32, 61, 32, 49, 45, 40, 50, 45, 51, 41],
  [97, 32, 61, 32, 40, 98, 32, 46, 46, 32, 99, 41, 32, 46, 46, 32, 100, 32, 46, 46, 32, 101, 10, 97, 32, 61, 32, 49, 32, 45, 32, 40, 50, 32, 45, 32, 51, 41, 10]),
 ([102, 61, 102, 117, 110, 99, 116, 105, 111, 110, 40, 120, 41, 32, 114, 101, 116, 117, 114, 110, 32, 123, 120, 44, 107, 61, 49, 44, 91, 50, 93, 61, 51, 125, 32, 101, 110, 100],
  [102, 32, 61, 32, 102, 117, 110, 99, 116, 105, 111, 110, 40, 120, 41, 10, 114, 101, 116, 117, 114, 110, 32, 123, 120, 44, 32, 107, 32, 61, 32, 49, 44, 32, 91, 50, 93, 32, 61, 32, 51, 125, 10, 101, 110, 100, 10]),
 ([105, 102, 32, 97, 32, 116, 104, 101, 110, 32, 101, 108, 115, 101, 32, 105, 102, 32, 98, 32, 116, 104, 101, 110, 32, 101, 110, 100, 32, 101, 110, 100],
  [105, 102, 32, 97, 32, 116, 104, 101, 110, 10, 101, 108, 115, 101, 105, 102, 32, 98, 32, 116, 104, 101, 110, 10, 101, 110, 100, 10]),
 ([105, 102, 32, 97, 32, 116, 104, 101, 110, 32, 98, 40, 41, 32, 101, 108, 115, 101, 32, 105, 102, 32, 99, 32, 116, 104, 101, 110, 32, 101, 110, 100, 32, 100, 40, 41, 32, 101, 110, 100],
  [105, 102, 32, 97, 32, 116, 104, 101, 110, 10, 98, 40, 41, 10, 101, 108, 115, 101, 10, 105, 102, 32, 99, 32, 116, 104, 101, 110, 10, 101, 110, 100, 10, 100, 40, 41, 10, 101, 110, 100, 10]),
 ([119, 104, 105, 108, 101, 32, 120, 32, 100, 111, 32, 98, 114, 101, 97, 107, 32, 101, 110, 100, 32, 102, 111, 114, 32, 105, 61, 49, 44, 50, 32, 100, 111, 32, 101, 110, 100, 32, 116, 114, 121, 32, 97, 40, 41, 32, 99, 97, 116, 99, 104, 32, 101, 32, 114, 101, 116, 117, 114, 110, 32, 101, 32, 101, 110, 100],
  [119, 104, 105, 108, 101, 32, 120, 32, 100, 111, 10, 98, 114, 101, 97, 107, 10, 101, 110, 100, 10, 102, 111, 114, 32, 105, 32, 61, 32, 49, 44, 32, 50, 32, 100, 111, 10, 101, 110, 100, 10, 116, 114, 121, 10, 97, 40, 41, 10, 99, 97, 116, 99, 104, 32, 101, 10, 114, 101, 116, 117, 114, 110, 32, 101, 10, 101, 110, 100, 10]),
 ([108, 111, 99, 97, 108, 32, 102, 117, 110, 99, 116, 105, 111, 110, 32, 102, 40, 97, 44, 98, 41, 32, 114, 101, 116, 117, 114, 110, 32, 101, 110, 100, 32, 108, 111, 99, 97, 108, 32, 120],
  [108, 111, 99, 97, 108, 32, 102, 117, 110, 99, 116, 105, 111, 110, 32, 102, 40, 97, 44, 32, 98, 41, 10, 114, 101, 116, 117, 114, 110, 10, 101, 110, 100, 10, 108, 111, 99, 97, 108, 32, 120, 10]),
 ([120, 32, 61, 32, 40, 97, 32, 111, 114, 32, 98, 41, 32, 97, 110, 100, 32, 99, 32, 111, 114, 32, 100, 32, 97, 110, 100, 32, 101],
  [120, 32, 61, 32, 40, 97, 32, 111, 114, 32, 98, 41, 32, 97, 110, 100, 32, 99, 32, 111, 114, 32, 100, 32, 97, 110, 100, 32, 101, 10]),
 ([120, 32, 61, 32, 45, 40, 97, 46, 98, 41, 32, 120, 32, 61, 32, 40, 45, 97, 41, 46, 98, 32, 120, 32, 61, 32, 45, 40, 97, 43, 98, 41, 32, 120, 32, 61, 32, 35, 97, 91, 49, 93, 40, 50, 44, 123, 125, 41],
  [120, 32, 61, 32, 45, 32, 97, 46, 98, 10, 120, 32, 61, 32, 40, 45, 32, 97, 41, 46, 98, 10, 120, 32, 61, 32, 45, 32, 40, 97, 32, 43, 32, 98, 41, 10, 120, 32, 61, 32, 35, 32, 97, 91, 49, 93, 40, 50, 44, 32, 123, 125, 41, 10]),
 ([40, 102, 117, 110, 99, 116, 105, 111, 110, 40, 41, 32, 101, 110, 100, 41, 40, 41, 32, 120, 32, 61, 32, 34, 92, 120, 48, 48, 34, 32, 120, 32, 61, 32, 126, 49, 32, 126, 32, 50, 32, 120, 32, 61, 32, 49, 32, 60, 60, 32, 40, 50, 32, 62, 62, 32, 51, 41],
  [40, 102, 117, 110, 99, 116, 105, 111, 110, 40, 41, 10, 101, 110, 100, 41, 40, 41, 10, 120, 32, 61, 32, 34, 92, 120, 48, 48, 34, 10, 120, 32, 61, 32, 126, 32, 49, 32, 126, 32, 50, 10, 120, 32, 61, 32, 49, 32, 60, 60, 32, 40, 50, 32, 62, 62, 32, 51, 41, 10])]
theorem rows_again : rowsL.all (fun x => again x.1 x.2 && wf (treeOf x.1) 3) = true := by kernel_rfl
def teq : Tr → Tr → Bool
  | .nil, .nil => true
  | .hole, .hole => true
  | .cons a b, .cons c d => teq a c && teq b d
  | .ex k n x l r ks gs ps b, .ex k2 n2 x2 l2 r2 ks2 gs2 ps2 b2 => k == k2 && n == n2 && x == x2 && teq l l2 && teq r r2 && teq ks ks2 && teq gs gs2 && ps == ps2 && teq b b2
  | .st k x l r t a b, .st k2 x2 l2 r2 t2 a2 b2 => k == k2 && x == x2 && teq l l2 && teq r r2 && teq t t2 && teq a a2 && teq b b2
  | _, _ => false
theorem teq_refl : ∀ s, teq s s = true
  | .nil => rfl
  | .hole => rfl
  | .cons a b => by simp [teq, teq_refl a, teq_refl b]
  | .ex k n x l r ks gs ps b => by simp [teq, teq_refl l, teq_refl r, teq_refl ks, teq_refl gs, teq_refl b]
  | .st k x l r t a b => by simp [teq, teq_refl l, teq_refl r, teq_refl t, teq_refl a, teq_refl b]
theorem teq_eq : ∀ s t, teq s t = true → s = t
 | .nil, .nil, _ => rfl
 | .hole, .hole, _ => rfl
 | .cons a b, .cons c d, h => by
   simp only [teq, Bool.and_eq_true] at h; rw [teq_eq a c h.1, teq_eq b d h.2]
 | .ex k n x l r ks gs ps b, .ex k2 n2 x2 l2 r2 ks2 gs2 ps2 b2, h => by
   simp only [teq, Bool.and_eq_true, beq_iff_eq] at h; obtain ⟨⟨⟨⟨⟨⟨⟨⟨h1, h2⟩, h3⟩, h4⟩, h5⟩, h6⟩, h7⟩, h8⟩, h9⟩ := h; rw [h1, h2, h3, teq_eq _ _ h4, teq_eq _ _ h5, teq_eq _ _ h6, teq_eq _ _ h7, h8, teq_eq _ _ h9]
 | .st k x l r t a b, .st k2 x2 l2 r2 t2 a2 b2, h => by
   simp only [teq, Bool.and_eq_true, beq_iff_eq] at h; obtain ⟨⟨⟨⟨⟨⟨h1, h2⟩, h3⟩, h4⟩, h5⟩, h6⟩, h7⟩ := h; rw [h1, h2, teq_eq _ _ h3, teq_eq _ _ h4, teq_eq _ _ h5, teq_eq _ _ h6, teq_eq _ _ h7]
 | .nil, .hole, h | .nil, .cons .., h | .nil, .ex .., h | .nil, .st .., h | .hole, .nil, h | .hole, .cons .., h | .hole, .ex .., h | .hole, .st .., h
 | .cons .., .nil, h | .cons .., .hole, h | .cons .., .ex .., h | .cons .., .st .., h | .ex .., .nil, h | .ex .., .hole, h | .ex .., .cons .., h | .ex .., .st .., h
 | .st .., .nil, h | .st .., .hole, h | .st .., .cons .., h | .st .., .ex .., h => by simp [teq] at h
theorem rows_back : rowsL.all (fun x => teq (match parseS pfuel x.2 with | .ok t _ _ => t | _ => .hole) (treeOf x.1)) = true := by kernel_rfl
theorem row_again {x : List UInt8 × List UInt8} (hx : x ∈ rowsL) {w : World} (g : GL w) : Calls Tryz.prog 16 #[str x.1] w (Ret (fun v w' => v = str x.2 ∧ Keep [] w w') NP) := by
 have h := List.all_eq_true.1 rows_again x hx; rw [Bool.and_eq_true] at h; exact again_out h.1 h.2 (teq_eq _ _ (List.all_eq_true.1 rows_back x hx)) g
def badB (x : Tr) : Bool := match prn 200 (.stmts (.cons x .nil)) [] 0 with
  | .fail c => c == 2
  | .ok b _ => wf x 2 && (match parseS pfuel b with | .fail c => !(c == 3) | .ok t _ _ => !teq t (.cons x .nil) | .oof => false)
  | .oof => false
def badL : List Tr := [.nil, .st 0 [] .nil .nil .nil .nil .nil, .st 12 [] .nil .nil .nil .nil .nil, .st 2 [] .nil .nil .nil .nil .nil, .st 3 [] .nil (lf 1 0 []) .nil .nil .nil,
  .st 9 [120] .nil .nil .nil .nil .nil, .st 1 [101, 110, 100] .nil .nil .nil .nil .nil, .st 1 [120] .nil (lf 4 (-1) []) .nil .nil .nil, .st 1 [120] .nil (lf 13 0 []) .nil .nil .nil,
  .st 11 [102] .nil (lf 1 0 []) .nil .nil .nil, .st 1 [120] .nil (.ex 12 0 [] .nil .nil (.cons .nil .nil) .nil [] .nil) .nil .nil .nil,
  .st 1 [120, 32, 61, 32, 49, 32, 108, 111, 99, 97, 108, 32, 121] .nil .nil .nil .nil .nil, .st 1 [120] .nil (lf 6 0 [97, 32, 98]) .nil .nil .nil]
theorem bad_all : badL.all badB = true := by kernel_rfl
theorem bad_out {x : Tr} (h : badB x = true) : prn 200 (.stmts (.cons x .nil)) [] 0 ≠ .oof ∧ (∀ b p, prn 200 (.stmts (.cons x .nil)) [] 0 = .ok b p → wf (.cons x .nil) 3 = true) ∧ outP 200 (.cons x .nil) = ([], 2) := by
 unfold badB at h; unfold outP
 cases hr : prn 200 (.stmts (.cons x .nil)) [] 0 with
 | oof => rw [hr] at h; cases h
 | fail c =>
   rw [hr] at h; have h : (c == 2) = true := h; obtain rfl := eq_of_beq h; exact ⟨PR.noConfusion, fun _ _ h => PR.noConfusion h, rfl⟩
 | ok b p =>
   rw [hr] at h; dsimp only at h; rw [Bool.and_eq_true] at h; refine ⟨PR.noConfusion, fun _ _ _ => by simp [wf, h.1], ?_⟩; replace h := h.2; dsimp only
   cases hp : parseS pfuel b with
   | oof => rw [hp] at h; cases h
   | fail c =>
     rw [hp] at h; have h : c ≠ 3 := by simpa using h
     dsimp only; rw [if_neg h]
   | ok t ts o =>
     rw [hp] at h; dsimp only at h ⊢; have hne : t ≠ .cons x .nil := fun e => by subst e; rw [teq_refl] at h; cases h
     rw [eqT_ne hne]; rfl
def retT (e : Tr) : Tr := .cons (.st 8 [] .nil e .nil .nil .nil) .nil
def minT (e : Tr) : Tr := .ex 10 0 [45] .nil e .nil .nil [] .nil
def deepT : Nat → Tr
  | 0 => lf 1 0 []
  | n + 1 => minT (deepT n)
def selfT : Nat → Tr
  | 0 => .hole
  | n + 1 => minT (selfT n)
def twT : Nat → Tr
  | 0 => .hole
  | n + 1 => .ex 11 0 [43] (twT n) (twT n) .nil .nil [] .nil
def ownT : Nat → Tr
  | 0 => .hole
  | n + 1 => .st 4 [] .nil .nil .nil (.cons (ownT n) .nil) .nil
def buf64 : List UInt8 := sReturn ++ [32] ++ (List.replicate 64 [45, 32]).flatten ++ sNil ++ [10]
theorem deep65 : (match prn 400 (.stmts (retT (deepT 65))) [] 0 with | .ok b _ => (match parseS pfuel b with | .fail c => c == 3 | _ => false) | _ => false) = true := by kernel_rfl
theorem deep64 : (match prn 400 (.stmts (retT (deepT 64))) [] 0 with | .ok b _ => b == buf64 | _ => false) = true := by kernel_rfl
theorem deep64b : (match parseS pfuel buf64 with | .ok t _ _ => t | _ => .hole) = retT (deepT 64) := by kernel_rfl
theorem deep65_out : prn 400 (.stmts (retT (deepT 65))) [] 0 ≠ .oof ∧ (outP 400 (retT (deepT 65))).2 = 3 := by
 have h := deep65; unfold outP
 cases hr : prn 400 (.stmts (retT (deepT 65))) [] 0 with
 | oof => rw [hr] at h; cases h
 | fail c => rw [hr] at h; cases h
 | ok b p =>
   rw [hr] at h; dsimp only at h ⊢; refine ⟨PR.noConfusion, ?_⟩
   cases hp : parseS pfuel b with
   | oof => rw [hp] at h; cases h
   | fail c =>
     rw [hp] at h; obtain rfl := eq_of_beq (show (c == 3) = true from h); rfl
   | ok t ts o => rw [hp] at h; cases h
theorem deep64_out : prn 400 (.stmts (retT (deepT 64))) [] 0 ≠ .oof ∧ outP 400 (retT (deepT 64)) = (buf64, 0) := by
 have h := deep64; unfold outP
 cases hr : prn 400 (.stmts (retT (deepT 64))) [] 0 with
 | oof => rw [hr] at h; cases h
 | fail c => rw [hr] at h; cases h
 | ok b p =>
   rw [hr] at h; obtain rfl := eq_of_beq (show (b == buf64) = true from h); dsimp only; refine ⟨PR.noConfusion, ?_⟩; have hb := deep64b
   cases hp : parseS pfuel buf64 with
   | oof => rw [hp] at hb; cases hb
   | fail c => rw [hp] at hb; cases hb
   | ok t ts o =>
     rw [hp] at hb; dsimp only at hb ⊢; rw [hb, eqT_refl, if_pos rfl]
theorem buf64_len : buf64.length = 139 := by kernel_rfl
theorem wf_deep : ∀ n, wf (deepT n) 0 = true
  | 0 => rfl
  | n + 1 => by simp [deepT, minT, wf, wf_deep n, i64]
theorem part_cases (b : List UInt8) (p : Nat) : (partT b p = .fail 3 ∧ 65536 ≤ p) ∨ (partT b p = .ok b (p + 1) ∧ p < 65536) := by
 unfold partT; by_cases h : p + 1 ≤ 65536
 · rw [if_pos h]; exact .inr ⟨rfl, by omega⟩
 · rw [if_neg h]; exact .inl ⟨rfl, by omega⟩
theorem put1 (s b : List UInt8) (p : Nat) : (putL [s] b p = .fail 3 ∧ 32768 < s.length + b.length) ∨ (putL [s] b p = .ok (b ++ s) p ∧ s.length + b.length ≤ 32768) := by
 simp only [putL, putT]; by_cases h : s.length + b.length ≤ 32768
 · rw [if_pos h]; exact .inr ⟨rfl, h⟩
 · rw [if_neg h]; exact .inl ⟨rfl, by omega⟩
theorem put2 (s t b : List UInt8) (p : Nat) : putL [s, t] b p = .fail 3 ∨ putL [s, t] b p = .ok (b ++ s ++ t) p := by
 simp only [putL, putT, PR.bind]; by_cases h : s.length + b.length ≤ 32768
 · rw [if_pos h]; dsimp only; by_cases h2 : t.length + (b ++ s).length ≤ 32768
   · rw [if_pos h2]; exact .inr rfl
   · rw [if_neg h2]; exact .inl rfl
 · rw [if_neg h]; exact .inl rfl
theorem self_prn : ∀ (k m : Nat) (b : List UInt8) (p : Nat), 65537 ≤ p + k → 2 * k < m → prn m (.expr (selfT (k + 1))) b p = .fail 3
 | k, 0, b, p, h, hm => by omega
 | k, 1, b, p, h, hm => by
   rcases part_cases b p with ⟨h1, h2⟩ | ⟨h1, h2⟩
   · simp only [selfT, minT, prn, h1, PR.bind]; rfl
   · omega
 | k, m + 2, b, p, h, hm => by
   rcases part_cases b p with ⟨h1, h2⟩ | ⟨h1, h2⟩
   · simp only [selfT, minT, prn, h1, PR.bind]; rfl
   · match k, h, hm with
     | 0, h, hm => omega
     | k + 1, h, hm =>
       have e : prn (m + 2) (.expr (selfT (k + 2))) b p = (partT b p).bind fun b p => (putL [[45], [32]] b p).bind fun b p => prn m (.expr (selfT (k + 1))) b p := rfl; rw [e, h1, PR.bind_ok]; rcases put2 [45] [32] b (p + 1) with h3 | h3
       · rw [h3]; rfl
       · rw [h3, PR.bind_ok]; exact self_prn k m _ _ (by omega) (by omega)
theorem tw_prn : ∀ (k m : Nat) (b : List UInt8) (p : Nat), 65537 ≤ p + k → 2 * k < m → prn m (.expr (twT (k + 1))) b p = .fail 3
 | k, 0, b, p, h, hm => by omega
 | k, 1, b, p, h, hm => by
   rcases part_cases b p with ⟨h1, h2⟩ | ⟨h1, h2⟩
   · simp only [twT, prn, h1, PR.bind]; rfl
   · omega
 | k, m + 2, b, p, h, hm => by
   rcases part_cases b p with ⟨h1, h2⟩ | ⟨h1, h2⟩
   · simp only [twT, prn, h1, PR.bind]; rfl
   · match k, h, hm with
     | 0, h, hm => omega
     | k + 1, h, hm =>
       have e : prn (m + 2) (.expr (twT (k + 2))) b p = (partT b p).bind fun b p => (prn m (.expr (twT (k + 1))) b p).bind fun b p => (putL [[32], [43], [32]] b p).bind fun b p => prn (m + 1) (.inner (twT (k + 1)) (decide (strengthT (twT (k + 1)) < bindN [43]) || (!([43] == ([46, 46] : List UInt8)) && strengthT (twT (k + 1)) == bindN [43]))) b p := rfl; rw [e, h1, PR.bind_ok, tw_prn k m _ _ (by omega) (by omega)]; rfl
theorem own_prn : ∀ (k m : Nat) (b : List UInt8) (p : Nat), 65537 ≤ p + k → 4 * k < m → prn m (.stmt (ownT (k + 1))) b p = .fail 3
 | k, 0, b, p, h, hm => by omega
 | k, 1, b, p, h, hm => by
   rcases part_cases b p with ⟨h1, h2⟩ | ⟨h1, h2⟩
   · simp only [ownT, prn, h1, PR.bind]; rfl
   · omega
 | k, 2, b, p, h, hm => by
   rcases part_cases b p with ⟨h1, h2⟩ | ⟨h1, h2⟩
   · simp only [ownT, prn, h1, PR.bind]; rfl
   · omega
 | k, 3, b, p, h, hm => by
   rcases part_cases b p with ⟨h1, h2⟩ | ⟨h1, h2⟩
   · simp only [ownT, prn, h1, PR.bind]; rfl
   · omega
 | k, m + 4, b, p, h, hm => by
   rcases part_cases b p with ⟨h1, h2⟩ | ⟨h1, h2⟩
   · simp only [ownT, prn, h1, PR.bind]; rfl
   · match k, h, hm with
     | 0, h, hm => omega
     | k + 1, h, hm =>
       have e : prn (m + 4) (.stmt (ownT (k + 2))) b p = (partT b p).bind fun b p => (putL [sDo] b p).bind fun b p => ((putL [[10]] b p).bind fun b p => (prn m (.stmt (ownT (k + 1))) b p).bind fun b p => (putL [[10]] b p).bind fun b p => prn m (.stmts .nil) b p).bind fun b p => putL [sEnd] b p := rfl; rw [e, h1, PR.bind_ok]; rcases put1 sDo b (p + 1) with ⟨h3, _⟩ | ⟨h3, _⟩
       · rw [h3]; rfl
       · rw [h3, PR.bind_ok]; rcases put1 [10] (b ++ sDo) (p + 1) with ⟨h4, _⟩ | ⟨h4, _⟩
         · rw [h4]; rfl
         · rw [h4, PR.bind_ok, own_prn k m _ _ (by omega) (by omega)]; rfl
theorem out3 {n : Nat} {l : Tr} (h : prn n (.stmts l) [] 0 = .fail 3) : prn n (.stmts l) [] 0 ≠ .oof ∧ (∀ b p, prn n (.stmts l) [] 0 = .ok b p → wf l 3 = true) ∧ outP n l = ([], 3) := by
 unfold outP; rw [h]; exact ⟨PR.noConfusion, fun _ _ h => PR.noConfusion h, rfl⟩
theorem ret_prn {m : Nat} {k n : Int} {x : List UInt8} {l r ks gs : Tr} {ps : List (List UInt8)} {bd : Tr} (h : ∀ b p, b.length = 7 → p = 1 → prn m (.expr (.ex k n x l r ks gs ps bd)) b p = .fail 3) : prn (m + 3) (.stmts (retT (.ex k n x l r ks gs ps bd))) [] 0 = .fail 3 := by
 have e : prn (m + 3) (.stmts (retT (.ex k n x l r ks gs ps bd))) [] 0 = (prn m (.expr (.ex k n x l r ks gs ps bd)) (sReturn ++ [32]) 1).bind fun b p => (putL [[10]] b p).bind fun b p => prn (m + 2) (.stmts .nil) b p := rfl; rw [e, h _ _ rfl rfl]; rfl
theorem self_out : prn 200003 (.stmts (retT (selfT 65538))) [] 0 = .fail 3 := ret_prn (m := 200000) fun b p _ hp => self_prn 65537 200000 b p (by omega) (by omega)
theorem tw_out : prn 200003 (.stmts (retT (twT 65538))) [] 0 = .fail 3 := ret_prn (m := 200000) fun b p _ hp => tw_prn 65537 200000 b p (by omega) (by omega)
theorem own_out : prn 300001 (.stmts (.cons (ownT 65538) .nil)) [] 0 = .fail 3 := by
 have e : prn 300001 (.stmts (.cons (ownT 65538) .nil)) [] 0 = (prn 300000 (.stmt (ownT 65538)) [] 0).bind fun b p => (putL [[10]] b p).bind fun b p => prn 300000 (.stmts .nil) b p := rfl; rw [e, own_prn 65537 300000 [] 0 (by omega) (by omega)]; rfl
theorem esc_le1 (c : UInt8) : 1 ≤ (esc c).length := by
 unfold esc; split
 · simp
 split
 · simp
 split
 · simp
 split
 · simp
 split <;> simp
theorem flat_len : ∀ (s : List UInt8), s.length ≤ (s.flatMap esc).length
 | [] => by simp
 | c :: s => by
   have := esc_le1 c; have := flat_len s; simp only [List.flatMap_cons, List.length_append, List.length_cons]; omega
theorem big_out (z : List UInt8) (hz : z.length = 32768) : prn 5 (.stmts (retT (lf 5 0 z))) [] 0 = .fail 3 := by
 refine ret_prn (m := 2) fun b p hb hp => ?_; subst hp; have e : prn 2 (.expr (lf 5 0 z)) b 1 = putL [quotedT z] b 2 := rfl; rw [show prn 2 (.expr (.ex 5 0 z .nil .nil .nil .nil [] .nil)) b 1 = putL [quotedT z] b 2 from rfl]; have hq : 32768 ≤ (quotedT z).length := by
   unfold quotedT; rw [if_neg (by omega)]; unfold quoteT; have := flat_len z; simp only [List.length_append, List.length_cons, List.length_nil]; omega
 rcases put1 (quotedT z) b 2 with ⟨h, _⟩ | ⟨h, h2⟩
 · exact h
 · omega
def nilV : Value → Bool
  | .pointer none => true
  | _ => false
theorem st59 {w : World} {b q ql m m1 m2 : Nat} {k line : Int} {nm : List UInt8} {R A : Value} (hR : ∃ a, R = .pointer a) (hm : m ≤ 65536) (h2 : m2 ≤ 65537) (ab : At w b [.int .i64 m])
   (aq : At w q [.int .i64 k, .int .i64 line, str nm, .pointer none, R, .pointer none, A, .slice none 0 0]) (al : At w ql [ptr q]) (hq : q ≠ b) (hl : ql ≠ b)
   (H1 : ∀ w1 bs, Keep [b] w w1 → At w1 b [.int .i64 (m + 1 : Nat)] → At w1 bs [.pointer none, R, .pointer none] → bs ≠ b → Calls Tryz.prog 111 #[ptr b, .slice (some ⟨bs, 0, none⟩) 3 3] w1 (Ret (fun _ w' => At w' b [.int .i64 m1] ∧ Keep [b] w1 w') NP))
   (H2 : ∀ w1, Keep [b] w w1 → At w1 b [.int .i64 m1] → Calls Tryz.prog 59 #[ptr b, A] w1 (Ret (fun _ w' => At w' b [.int .i64 m2] ∧ Keep [b] w1 w') NP)) :
   Calls Tryz.prog 59 #[ptr b, .slice (some ⟨ql, 0, none⟩) 1 1] w (Ret (fun _ w' => At w' b [.int .i64 m2] ∧ Keep [b] w w') NP) := by
 refine s59 ?_; unfold S59; obtain ⟨pr, rfl⟩ := hR; refine V1.i (by simp [go_sem] <;> trivial) ?_; refine L1.i (fun x1 w' => ∃ i : Nat, x1 = .int .i64 (i : Nat) ∧ i ≤ 1 ∧ At w' b [.int .i64 ((if i = 0 then m else m2 : Nat) : Nat)] ∧ Keep [b] w w') (fun v _ => match v with | .int _ n => (1 - n.toNat) | _ => 0) ⟨0, rfl, by omega, ab, Keep.refl _ _⟩ ?_; clear ab; rintro x1 w1 ⟨i, rfl, hi, ab, K1⟩; by_cases h0 : i = 0
 rotate_left
 · obtain rfl : i = 1 := by omega
   refine V1.i (v := .bool false) (w' := w1) (by simp [go_sem]) ?_; exact If.f ⟨ab, K1⟩
 subst h0; rw [if_pos rfl] at ab; refine V1.i (v := .bool true) (w' := w1) (by simp [go_sem]) ?_; refine If.t ?_; refine J0.cut (fun w' => At w' b [.int .i64 (m2 : Nat)] ∧ Keep [b] w w') ?_ ?_; rotate_left
 · rintro w2 ⟨ab, K2⟩; refine V1.i (addI _ _ _ _ _ _ (by omega) (by omega)) ?_; exact ⟨⟨1, by simp, by omega, ab, K2⟩, by simp⟩
 replace aq := K1.at aq (by simpa using hq); replace al := K1.at al (by simpa using hl); refine V1.i (ix26 (by omega)) ?_; refine V1.load (oneAll rfl) al (by rfl) ?_; unfold ptr; refine V1.i (v := .bool false) (w' := w1) (by simp [go_sem]) ?_; refine J1.go (Gd.ff ?_); refine Up.i (Nc.p _ _) ?_; refine V1.load (oneAll rfl) (ab) rfl ?_; refine V1.i (v := .bool false) (w' := w1) (by simp [go_sem]; omega) ?_; refine V1.i (v := .bool false) (w' := w1) (by simp [go_sem]) ?_; refine If.f ?_; refine Up.i (Nc.p _ _) ?_; refine V1.load (oneAll rfl) (ab) rfl ?_; refine V1.i (addI _ _ _ _ _ _ (by omega) (by omega)) ?_; refine Up.i (Nc.p _ _) ?_; refine U1.store (onesAll rfl rfl) ab (by simp) fun w2 U2 => ?_; have K2 := U2.keep; replace aq := K2.at aq (by simpa using hq); have ab2 : At w2 b [.int .i64 ((m + 1 : Nat))] := by
   have := U2.at_; simpa using this
 replace K1 := K1.trans K2; have KD : Keep [] w2 w2.drew := (Keep.refl _ _).drew; refine ⟨fun w' => At w' q [.int .i64 k, .int .i64 line, str nm, .pointer none, .pointer pr, .pointer none, A, .slice none 0 0], KD.at aq (by simp), ?_⟩; replace aq := KD.at aq (by simp); replace ab2 := KD.at ab2 (by simp); replace K1 := K1.trans' KD (by simp); generalize w2.drew = w3 at *; refine ⟨_, fun w' _ => Nc.p _ w', ?_⟩; refine Xw.i _ (fun w' _ => by simp [go_sem] <;> trivial) ?_; refine Xw.i _ (fun w' hw => (oneAll rfl) _ _ _ (by rw [hw.cell]; rfl)) ?_; refine ⟨_, fun w' _ => Nc.p _ w', ?_⟩; refine Xw.i _ (fun w' _ => by simp [go_sem] <;> trivial) ?_; refine Xw.i _ (fun w' hw => (oneAll rfl) _ _ _ (by rw [hw.cell]; rfl)) ?_; refine ⟨_, fun w' _ => Nc.p _ w', ?_⟩; refine Xw.i _ (fun w' _ => by simp [go_sem] <;> trivial) ?_; refine Xw.i _ (fun w' hw => (oneAll rfl) _ _ _ (by rw [hw.cell]; rfl)) ?_
 refine V1.newSlice (by simp [go_sem]; first | done | rfl | exact ⟨rfl, rfl⟩ | (repeat' (first | rfl | apply And.intro))) fun bs w4 NS => ?_; have K4 := NS.keep; replace aq := K4.at aq (by simp); have hbne : bs ≠ b := by
   have h1 := NS.ge; have h2 := ab2.lt; omega
 replace ab2 := K4.at ab2 (by simp); replace K1 := K1.trans' K4 (by simp); have aS : At w4 bs [.pointer none, .pointer pr, .pointer none] := by
   have := NS.at_; simpa using this
 refine cf111 (H1 w4 bs K1 ab2 aS hbne) ?_ (fun _ _ h => h.elim); rintro _ w5 ⟨ab5, K5⟩; replace aq := K5.at aq (by simpa using hq); replace K1 := K1.trans K5; refine Up.i (Nc.p _ _) ?_; refine V1.i (by simp [go_sem] <;> trivial) ?_; refine V1.load (oneAll rfl) (aq) rfl ?_; refine cf59 (H2 w5 K1 ab5) ?_ (fun _ _ h => h.elim); rintro _ w6 ⟨ab6, K6⟩; replace aq := K6.at aq (by simpa using hq); replace K1 := K1.trans K6; refine Up.i (Nc.p _ _) ?_; refine V1.i (by simp [go_sem] <;> trivial) ?_; refine V1.load (oneAll rfl) (aq) rfl ?_; refine cf59 ((few_all _ (Nat.le_refl _)).st (s := .nil) (by simp [tz, fuelMax]) rfl h2 ab6 (.inl rfl)) ?_ (fun _ _ h => h.elim); rintro _ w7 ⟨ab7, K7⟩; refine ⟨?_, K1.trans K7⟩; simpa [nd, Nat.min_eq_left h2] using ab7
theorem own59 : ∀ (n : Nat) {w : World} {b q qs ql m : Nat} {line : Int} {nm : List UInt8}, m + n = 65537 → At w b [.int .i64 m] →
   At w q [.int .i64 4, .int .i64 line, str nm, .pointer none, .pointer none, .pointer none, .slice (some ⟨qs, 0, none⟩) 1 1, .slice none 0 0] → At w qs [ptr q] → At w ql [ptr q] → q ≠ b → qs ≠ b → ql ≠ b →
   Calls Tryz.prog 59 #[ptr b, .slice (some ⟨ql, 0, none⟩) 1 1] w (Ret (fun _ w' => At w' b [.int .i64 (65537 : Nat)] ∧ Keep [b] w w') NP)
 | 0, w, b, q, qs, ql, m, line, nm, hm, ab, aq, ag, al, hq, hs, hl => by
   obtain rfl : m = 65537 := by omega
   refine s59 ?_; unfold S59; refine V1.i (by simp [go_sem] <;> trivial) ?_; refine L1.i (fun x1 w' => ∃ i : Nat, x1 = .int .i64 (i : Nat) ∧ i ≤ 1 ∧ w' = w) (fun v _ => match v with | .int _ n => (1 - n.toNat) | _ => 0) ⟨0, rfl, by omega, rfl⟩ ?_; rintro x1 w1 ⟨i, rfl, hi, rfl⟩; by_cases h0 : i = 0
   rotate_left
   · obtain rfl : i = 1 := by omega
     refine V1.i (v := .bool false) (w' := w1) (by simp [go_sem]) ?_; exact If.f ⟨ab, Keep.refl _ _⟩
   subst h0; refine V1.i (v := .bool true) (w' := w1) (by simp [go_sem]) ?_; refine If.t ?_; refine J0.cut (fun w' => w' = w1) ?_ ?_; rotate_left
   · rintro w2 rfl; refine V1.i (addI _ _ _ _ _ _ (by omega) (by omega)) ?_; exact ⟨⟨1, by simp, by omega, rfl⟩, by simp⟩
   refine V1.i (ix26 (by omega)) ?_; refine V1.load (oneAll rfl) al (by rfl) ?_; unfold ptr; refine V1.i (v := .bool false) (w' := w1) (by simp [go_sem]) ?_; refine J1.go (Gd.ff ?_); refine Up.i (Nc.p _ _) ?_; refine V1.load (oneAll rfl) (ab) rfl ?_; refine V1.i (v := .bool true) (w' := w1) (by simp [go_sem]) ?_; refine V1.i (v := .bool true) (w' := w1) (by simp [go_sem]) ?_; exact If.t rfl
 | n + 1, w, b, q, qs, ql, m, line, nm, hm, ab, aq, ag, al, hq, hs, hl => by
   refine st59 (m1 := m + 1) ⟨_, rfl⟩ (by omega) (by omega) ab aq al hq hl ?_ ?_
   · intro w1 bs K1 ab1 a1 hb; have rS : Rep (NB b) w1 (.cons .nil (.cons .nil (.cons .nil .nil))) (.L (.slice (some ⟨bs, 0, none⟩) 3 3)) := rep3 a1 hb rfl rfl rfl; have := (few_all _ (Nat.le_refl _)).ex (s := .cons .nil (.cons .nil (.cons .nil .nil))) (by simp [tz, fuelMax]) rfl (by omega) ab1 rS; simpa [nd, Nat.min_eq_left (show m + 1 ≤ 65537 by omega)] using this
   · intro w1 K1 ab1; exact own59 n (m := m + 1) (by omega) ab1 (K1.at aq (by simpa using hq)) (K1.at ag (by simpa using hs)) (K1.at ag (by simpa using hs)) hq hs hs
theorem self111 : ∀ (n : Nat) {w : World} {b q ql m : Nat} {line : Int} {us : List Value}, m + n = 65537 → us.length ≤ 10 → (∀ u ∈ us, u = .pointer none ∨ u = ptr q) → At w b [.int .i64 m] →
   At w q [.int .i64 10, .int .i64 line, .int .i64 0, str [45], .pointer none, ptr q, .slice none 0 0, .slice none 0 0, .slice none 0 0, .slice none 0 0] → At w ql us → q ≠ b → ql ≠ b →
   Calls Tryz.prog 111 #[ptr b, .slice (some ⟨ql, 0, none⟩) us.length us.length] w (Ret (fun _ w' => At w' b [.int .i64 ((if us.all nilV = true then m else 65537 : Nat) : Nat)] ∧ Keep [b] w w') NP)
 | n, w, b, q, ql, m, line, us, hm, hlen, hus, ab, aq, al, hq, hl => by
   refine s111 ?_; unfold S111; refine V1.i (by simp [go_sem] <;> trivial) ?_; refine L1.i (fun x1 w' => ∃ i : Nat, x1 = .int .i64 (i : Nat) ∧ i ≤ us.length ∧ At w' b [.int .i64 ((if (us.take i).all nilV = true then m else 65537 : Nat) : Nat)] ∧ Keep [b] w w') (fun v _ => match v with | .int _ n => (us.length - n.toNat) | _ => 0) ⟨0, rfl, by omega, by simpa using ab, Keep.refl _ _⟩ ?_; clear ab; rintro x1 w1 ⟨i, rfl, hi, ab, K1⟩; by_cases h0 : i < us.length
   rotate_left
   · obtain rfl : i = us.length := by omega
     refine V1.i (v := .bool false) (w' := w1) (by simp [go_sem]) ?_; exact If.f ⟨by simpa using ab, K1⟩
   refine V1.i (v := .bool true) (w' := w1) (by simp [go_sem]; omega) ?_; refine If.t ?_; have htk : us.take (i + 1) = us.take i ++ [us[i]] := List.take_succ_eq_append_getElem h0; refine J0.cut (fun w' => At w' b [.int .i64 ((if (us.take (i + 1)).all nilV = true then m else 65537 : Nat) : Nat)] ∧ Keep [b] w w') ?_ ?_; rotate_left
   · rintro w2 ⟨ab, K2⟩; refine V1.i (addI _ _ _ _ _ _ (by omega) (by omega)) ?_; exact ⟨⟨i + 1, by simp, by omega, ab, K2⟩, by simp; omega⟩
   replace aq := K1.at aq (by simpa using hq); replace al := K1.at al (by simpa using hl); refine V1.i (ix44 h0) ?_; refine V1.load (v := us[i]) (oneAll rfl) al (by simp [h0]) ?_; rw [htk]; rcases hus us[i] (List.getElem_mem h0) with hu | hu
   · rw [hu]; refine V1.i (v := .bool true) (w' := w1) (by simp [go_sem]) ?_; refine J1.go (Gd.tf ?_); refine V1.i (by simp [go_sem] <;> trivial) ?_; refine If.t ?_; refine ⟨?_, K1⟩; rw [List.all_append, show [Value.pointer none].all nilV = true from rfl, Bool.and_true]; exact ab
   rw [hu]; have hnn : ¬ (us.take i ++ [ptr q]).all nilV = true := by simp [ptr, nilV]
   rw [if_neg hnn]; unfold ptr; refine V1.i (v := .bool false) (w' := w1) (by simp [go_sem]) ?_; refine J1.go (Gd.ff ?_); refine Up.i (Nc.p _ _) ?_; refine V1.load (oneAll rfl) (ab) rfl ?_; by_cases hp : (us.take i).all nilV = true
   rotate_left
   · rw [if_neg hp] at ab ⊢; refine V1.i (v := .bool true) (w' := w1) (by simp [go_sem]) ?_; refine V1.i (v := .bool true) (w' := w1) (by simp [go_sem]) ?_; exact If.t ⟨ab, K1⟩
   rw [if_pos hp] at ab ⊢
   cases n with
   | zero =>
     obtain rfl : m = 65537 := by omega
     refine V1.i (v := .bool true) (w' := w1) (by simp [go_sem]) ?_; refine V1.i (v := .bool true) (w' := w1) (by simp [go_sem]) ?_; exact If.t ⟨ab, K1⟩
   | succ n =>
   refine V1.i (v := .bool false) (w' := w1) (by simp [go_sem]; omega) ?_; refine V1.i (v := .bool false) (w' := w1) (by simp [go_sem]) ?_; refine If.f ?_; refine Up.i (Nc.p _ _) ?_; refine V1.load (oneAll rfl) (ab) rfl ?_; refine V1.i (addI _ _ _ _ _ _ (by omega) (by omega)) ?_; refine Up.i (Nc.p _ _) ?_; refine U1.store (onesAll rfl rfl) ab (by simp) fun w2 U2 => ?_; have K2 := U2.keep; replace aq := K2.at aq (by simpa using hq); have ab2 : At w2 b [.int .i64 ((m + 1 : Nat))] := by
     have := U2.at_; simpa using this
   replace K1 := K1.trans K2; have KD : Keep [] w2 w2.drew := (Keep.refl _ _).drew; refine ⟨fun w' => At w' q [.int .i64 10, .int .i64 line, .int .i64 0, str [45], .pointer none, ptr q, .slice none 0 0, .slice none 0 0, .slice none 0 0, .slice none 0 0], KD.at aq (by simp), ?_⟩; replace aq := KD.at aq (by simp); replace ab2 := KD.at ab2 (by simp); replace K1 := K1.trans' KD (by simp); generalize w2.drew = w3 at *; refine ⟨_, fun w' _ => Nc.p _ w', ?_⟩; refine Xw.i _ (fun w' _ => by simp [go_sem] <;> trivial) ?_; refine Xw.i _ (fun w' hw => (oneAll rfl) _ _ _ (by rw [hw.cell]; rfl)) ?_; refine ⟨_, fun w' _ => Nc.p _ w', ?_⟩; refine Xw.i _ (fun w' _ => by simp [go_sem] <;> trivial) ?_; refine Xw.i _ (fun w' hw => (oneAll rfl) _ _ _ (by rw [hw.cell]; rfl)) ?_
   refine V1.newSlice (by simp [go_sem, ptr]; first | done | rfl | exact ⟨rfl, rfl⟩ | (repeat' (first | rfl | apply And.intro))) fun bs w4 NS => ?_; have K4 := NS.keep; replace aq := K4.at aq (by simp); have hbne : bs ≠ b := by
     have h1 := NS.ge; have h2 := ab2.lt; omega
   replace ab2 := K4.at ab2 (by simp); replace K1 := K1.trans' K4 (by simp); have aS : At w4 bs [.pointer none, ptr q] := by
     have := NS.at_; simpa [ptr] using this
   refine cf111 (self111 n (m := m + 1) (us := [.pointer none, ptr q]) (by omega) (by simp) (by simp) ab2 aq aS hq hbne) ?_ (fun _ _ h => h.elim); rintro _ w5 ⟨ab5, K5⟩; rw [if_neg (by simp [ptr, nilV])] at ab5; replace aq := K5.at aq (by simpa using hq); replace K1 := K1.trans K5; refine Up.i (Nc.p _ _) ?_; refine V1.i (by simp [go_sem] <;> trivial) ?_; refine V1.load (oneAll rfl) (aq) rfl ?_; refine cf111 ((few_all _ (Nat.le_refl _)).ex (s := .nil) (by simp [tz, fuelMax]) rfl (Nat.le_refl _) ab5 (.inl rfl)) ?_ (fun _ _ h => h.elim); rintro _ w6 ⟨ab6, K6⟩; replace aq := K6.at aq (by simpa using hq); replace K1 := K1.trans K6; refine Up.i (Nc.p _ _) ?_; refine V1.i (by simp [go_sem] <;> trivial) ?_; refine V1.load (oneAll rfl) (aq) rfl ?_; refine cf111 ((few_all _ (Nat.le_refl _)).ex (s := .nil) (by simp [tz, fuelMax]) rfl (Nat.le_refl _) ab6 (.inl rfl)) ?_ (fun _ _ h => h.elim)
   rintro _ w7 ⟨ab7, K7⟩; replace aq := K7.at aq (by simpa using hq); replace K1 := K1.trans K7; refine Up.i (Nc.p _ _) ?_; refine V1.i (by simp [go_sem] <;> trivial) ?_; refine V1.load (oneAll rfl) (aq) rfl ?_; refine cf59 ((few_all _ (Nat.le_refl _)).st (s := .nil) (by simp [tz, fuelMax]) rfl (Nat.le_refl _) ab7 (.inl rfl)) ?_ (fun _ _ h => h.elim); rintro _ w8 ⟨ab8, K8⟩; exact ⟨by simpa [nd] using ab8, K1.trans K8⟩
theorem c14c {w : World} {u v : Value} (H : ∀ w1 b, Keep [] w w1 → At w1 b [.int .i64 (0 : Nat)] → w.heap.size ≤ b → Calls Tryz.prog 59 #[ptr b, u] w1 (Ret (fun _ w' => At w' b [.int .i64 (65537 : Nat)] ∧ Keep [b] w1 w') NP)) :
   Calls Tryz.prog 14 #[u, v] w (Ret (fun x w' => x = .bool false ∧ Keep [] w w') NP) := by
 have h33 : Calls Tryz.prog 33 #[u] w (Ret (fun x w' => x = .bool false ∧ Keep [] w w') NP) := by
   refine s33 ?_; unfold S33; refine V1.new (al118 _) fun b w1 N1 => ?_; refine cf59 (H w1 b N1.keep N1.at_ N1.ge) ?_ (fun _ _ h => h.elim); rintro _ w2 ⟨ab2, K2⟩; refine V1.load (oneAll rfl) (ab2) rfl ?_; refine V1.i (v := .bool false) (w' := w2) (by simp [go_sem]) ?_; exact ⟨rfl, N1.keep.trans' K2 (by have := N1.ge; simp; omega)⟩
 refine s14 ?_; unfold S14; refine cf33 h33 ?_ (fun _ _ h => h.elim); rintro _ w1 ⟨rfl, K1⟩; refine J1.go (Gd.ft ?_); refine V1.i (v := .bool false) (w' := w1) (by simp [go_sem]) ?_; refine J1.go (Gd.ft ?_); refine V1.i (v := .bool false) (w' := w1) (by simp [go_sem]) ?_; exact ⟨rfl, K1⟩
theorem own14 {w : World} {q qs ql : Nat} {line : Int} {nm : List UInt8} {v : Value}
    (aq : At w q [.int .i64 4, .int .i64 line, str nm, .pointer none, .pointer none, .pointer none, .slice (some ⟨qs, 0, none⟩) 1 1, .slice none 0 0]) (ag : At w qs [ptr q]) (al : At w ql [ptr q]) :
    Calls Tryz.prog 14 #[.slice (some ⟨ql, 0, none⟩) 1 1, v] w (Ret (fun x w' => x = .bool false ∧ Keep [] w w') NP) :=
  c14c fun w1 b K ab hb => own59 65537 (m := 0) (by omega) ab (K.at aq (by simp)) (K.at ag (by simp)) (K.at al (by simp)) (by have := aq.lt; omega) (by have := ag.lt; omega) (by have := al.lt; omega)
theorem self14 {w : World} {q qr ql : Nat} {l1 l2 : Int} {nm : List UInt8} {v : Value}
   (aq : At w q [.int .i64 10, .int .i64 l1, .int .i64 0, str [45], .pointer none, ptr q, .slice none 0 0, .slice none 0 0, .slice none 0 0, .slice none 0 0])
   (ar : At w qr [.int .i64 8, .int .i64 l2, str nm, .pointer none, ptr q, .pointer none, .slice none 0 0, .slice none 0 0]) (al : At w ql [ptr qr]) :
   Calls Tryz.prog 14 #[.slice (some ⟨ql, 0, none⟩) 1 1, v] w (Ret (fun x w' => x = .bool false ∧ Keep [] w w') NP) :=
 c14c fun w1 b K ab hb => by
   have hq : q ≠ b := by have := aq.lt; omega
   refine st59 (m := 0) (m1 := 65537) ⟨_, rfl⟩ (by omega) (by omega) ab (K.at ar (by simp)) (K.at al (by simp)) (by have := ar.lt; omega) (by have := al.lt; omega) ?_ ?_
   · intro w2 bs K2 ab2 a2 hbs; have := self111 65536 (m := 1) (us := [.pointer none, ptr q, .pointer none]) (by omega) (by simp) (by simp) ab2 (K2.at (K.at aq (by simp)) (by simpa using hq)) a2 hq hbs; rwa [if_neg (by simp [ptr, nilV])] at this
   · intro w2 K2 ab2; have := (few_all _ (Nat.le_refl _)).st (s := .nil) (by simp [tz, fuelMax]) rfl (Nat.le_refl _) ab2 (u := .slice none 0 0) (.inl rfl); simpa [nd] using this
abbrev TT : Nat → Prop := fun _ => True
theorem nP {w : World} : Rep TT w .nil (.P (.pointer none)) := rfl
theorem nL {w : World} : Rep TT w .nil (.L (.slice none 0 0)) := .inl rfl
theorem Rep.tt {w w' : World} {t : Tr} {m : Md} (h : Rep TT w t m) (K : Keep [] w w') : Rep TT w' t m := Rep.new K _ _ h
theorem Cells.tt {w w' : World} {t : Tr} {us : List Value} (h : Cells TT w t us) (K : Keep [] w w') : Cells TT w' t us := Cells.keep K (fun b h1 h2 => ⟨by simp, h1⟩) _ _ h
theorem bld37 (w : World) (x y : List UInt8) : (Instr.build 37 #[(0, str x), (1, str y)]).run Tryz.prog w = .ok (.agg #[str x, str y]) w := by simp [go_sem]
theorem bs38 (w : World) (x0 y0 x1 y1 x2 y2 x3 y3 x4 y4 x5 y5 x6 y6 x7 y7 x8 y8 x9 y9 : List UInt8) : (Instr.buildSlice 38 10 #[(0, .agg #[str x0, str y0]), (1, .agg #[str x1, str y1]), (2, .agg #[str x2, str y2]), (3, .agg #[str x3, str y3]), (4, .agg #[str x4, str y4]), (5, .agg #[str x5, str y5]), (6, .agg #[str x6, str y6]), (7, .agg #[str x7, str y7]), (8, .agg #[str x8, str y8]), (9, .agg #[str x9, str y9])]).run Tryz.prog w =
    .ok (.slice (some ⟨w.heap.size, 0, none⟩) 10 10) (w.alloc (.cells #[str x0, str y0, str x1, str y1, str x2, str y2, str x3, str y3, str x4, str y4, str x5, str y5, str x6, str y6, str x7, str y7, str x8, str y8, str x9, str y9] 37)) := by simp [go_sem]
theorem bs13 (w : World) (a0 a1 a2 a3 a4 a5 a6 a7 a8 a9 a10 a11 a12 : Option Addr) : (Instr.buildSlice 26 13 #[(0, .pointer a0), (1, .pointer a1), (2, .pointer a2), (3, .pointer a3), (4, .pointer a4), (5, .pointer a5), (6, .pointer a6), (7, .pointer a7), (8, .pointer a8), (9, .pointer a9), (10, .pointer a10), (11, .pointer a11), (12, .pointer a12)]).run Tryz.prog w =
    .ok (.slice (some ⟨w.heap.size, 0, none⟩) 13 13) (w.alloc (.cells #[.pointer a0, .pointer a1, .pointer a2, .pointer a3, .pointer a4, .pointer a5, .pointer a6, .pointer a7, .pointer a8, .pointer a9, .pointer a10, .pointer a11, .pointer a12] 40)) := by simp [go_sem]
theorem ix38 {w : World} {b k : Nat} (h : k < 10) : (Instr.indexAt 38 (.slice (some ⟨b, 0, none⟩) 10 10) (.int .i64 k)).run Tryz.prog w = .ok (.pointer (some ⟨b, 2 * k, none⟩)) w := by
 have : (k : Int) < 10 := by omega
 simp [go_sem, h, Addr.add]
 rw [if_pos this]; by_cases h0 : k = 0
 · subst h0; simp
 · rw [if_neg (by omega), Nat.mul_comm]
theorem ix37 {w : World} {b o : Nat} : (Instr.indexAt 37 (.pointer (some ⟨b, o, none⟩)) (.int .i64 0)).run Tryz.prog w = .ok (.pointer (some ⟨b, o, none⟩)) w := by simp [go_sem, Addr.add]
theorem ix37b {w : World} {b o : Nat} : (Instr.indexAt 37 (.pointer (some ⟨b, o, none⟩)) (.int .i64 1)).run Tryz.prog w = .ok (.pointer (some ⟨b, o + 1, none⟩)) w := by simp [go_sem, Addr.add]
def rowsF : List Value := rowsL.flatMap fun x => [str x.1, str x.2]
theorem flat2 : ∀ (l : List (List UInt8 × List UInt8)) (i : Nat) (h : i < l.length), (l.flatMap fun x => [str x.1, str x.2])[2 * i]? = some (str l[i].1) ∧ (l.flatMap fun x => [str x.1, str x.2])[2 * i + 1]? = some (str l[i].2)
 | [], i, h => absurd h (by simp)
 | x :: l, 0, h => ⟨rfl, rfl⟩
 | x :: l, i + 1, h => by
   have := flat2 l i (by simpa using h); rw [show 2 * (i + 1) = 2 * i + 1 + 1 by omega]; simpa [List.flatMap_cons] using this
theorem rowsL_len : rowsL.length = 10 := by kernel_rfl
theorem bx_ex {w : World} {k n line : Int} {x : List UInt8} {lv rv kv av bv : Value} {l r ks gs bd : Tr} {kk : Value → World → Prop} {e : List PanicEntry → World → Prop}
   (hl : Rep TT w l (.P lv)) (hr : Rep TT w r (.P rv)) (hk : Rep TT w ks (.L kv)) (hg : Rep TT w gs (.L av)) (hb : Rep TT w bd (.L bv))
   (h : ∀ b w', Keep [] w w' → w.heap.size ≤ b → Rep TT w' (.ex k n x l r ks gs [] bd) (.P (ptr b)) → kk (ptr b) w') :
   V1 Tryz.prog (Instr.box 47 (.agg #[.int .i64 k, .int .i64 line, .int .i64 n, str x, lv, rv, kv, av, .slice none 0 0, bv])) w kk e := by
 refine V1.new (bx47 _ _) fun b w' N => h b w' N.keep N.ge ⟨b, line, lv, rv, kv, av, .slice none 0 0, bv, rfl, trivial, ?_, hl.tt N.keep, hr.tt N.keep, hk.tt N.keep, hg.tt N.keep, .inl ⟨rfl, rfl⟩, hb.tt N.keep⟩; have := N.at_; simpa [Value.cells] using this
theorem bx_st {w : World} {k line : Int} {x : List UInt8} {lv rv tv av bv : Value} {l r t a bd : Tr} {kk : Value → World → Prop} {e : List PanicEntry → World → Prop}
   (hl : Rep TT w l (.P lv)) (hr : Rep TT w r (.P rv)) (ht : Rep TT w t (.P tv)) (ha : Rep TT w a (.L av)) (hb : Rep TT w bd (.L bv))
   (h : ∀ b w', Keep [] w w' → At w' b [.int .i64 k, .int .i64 line, str x, lv, rv, tv, av, bv] → Rep TT w' (.st k x l r t a bd) (.P (ptr b)) → kk (ptr b) w') :
   V1 Tryz.prog (Instr.box 43 (.agg #[.int .i64 k, .int .i64 line, str x, lv, rv, tv, av, bv])) w kk e := by
 refine V1.new (bx43 _ _) fun b w' N => ?_; have ab : At w' b [.int .i64 k, .int .i64 line, str x, lv, rv, tv, av, bv] := by
   have := N.at_; simpa [Value.cells] using this
 exact h b w' N.keep ab ⟨b, line, lv, rv, tv, av, bv, rfl, trivial, ab, hl.tt N.keep, hr.tt N.keep, ht.tt N.keep, ha.tt N.keep, hb.tt N.keep⟩
theorem bsK1 {w : World} {x : Tr} {u : Value} {kk : Value → World → Prop} {e : List PanicEntry → World → Prop} (hx : Rep TT w x (.P u)) (hu : ∃ a, u = .pointer a)
   (h : ∀ b w', Keep [] w w' → At w' b [u] → Rep TT w' (.cons x .nil) (.L (.slice (some ⟨b, 0, none⟩) 1 1)) → kk (.slice (some ⟨b, 0, none⟩) 1 1) w') : V1 Tryz.prog (Instr.buildSlice 26 1 #[(0, u)]) w kk e := by
 obtain ⟨a, rfl⟩ := hu; refine V1.newSlice (by simp [go_sem]; first | done | rfl | exact ⟨rfl, rfl⟩ | (repeat' (first | rfl | apply And.intro))) fun b w' N => ?_; have ab : At w' b [.pointer a] := by
   have := N.at_; simpa using this
 exact h b w' N.keep ab ⟨b, 0, 1, .pointer a, rfl, by omega, trivial, by rw [ab.cell]; rfl, hx.tt N.keep, rfl⟩
theorem tnum (w : World) (c d : Int) : (Bo .neq 23 false true (.int .i64 c) (.int .i64 d)).run Tryz.prog w = .ok (.bool (!(c == d))) w := by simp [go_sem, Bo]; rfl
theorem enum (w : World) (c d : Int) : (Bo .eql 23 false true (.int .i64 c) (.int .i64 d)).run Tryz.prog w = .ok (.bool (c == d)) w := by simp [go_sem, Bo]
def badT : Tr := badL.foldr .cons .nil
def allT (p : Tr → Bool) : Tr → Bool
  | .cons a t => p a && allT p t
  | _ => true
theorem allT_foldr (p : Tr → Bool) : ∀ l : List Tr, allT p (l.foldr .cons .nil) = l.all p
  | [] => rfl
  | x :: l => by simp [allT, allT_foldr p l]
theorem cells_all {F : Nat → Prop} {w : World} {p : Tr → Bool} : ∀ (t : Tr) (us : List Value), Cells F w t us → allT p t = true → ∀ i (h : i < us.length), ∃ x, Rep F w x (.P us[i]) ∧ p x = true
 | .nil, [], _, _, i, h => absurd h (by simp)
 | .cons a t, u :: us, hc, ha, 0, h => by
   simp only [allT, Bool.and_eq_true] at ha; exact ⟨a, hc.1, ha.1⟩
 | .cons a t, u :: us, hc, ha, i + 1, h => by
   simp only [allT, Bool.and_eq_true] at ha; exact cells_all t us hc.2 ha.2 i (by simpa using h)
theorem bad_ptr {F : Nat → Prop} {w : World} {x : Tr} {u : Value} (h : Rep F w x (.P u)) (hb : badB x = true) : ∃ a, u = .pointer a := by
 cases x with
 | nil => exact ⟨_, h⟩
 | hole => cases hb
 | cons => exact h.elim
 | ex => obtain ⟨q, line, lv, rv, kv, av, pv, bv, rfl, _⟩ := h; exact ⟨_, rfl⟩
 | st => obtain ⟨q, line, lv, rv, tv, av, bv, rfl, _⟩ := h; exact ⟨_, rfl⟩
theorem bad9 {w : World} (g : GL w) {x : Tr} {v : Value} (hb : badB x = true) (h : Rep TT w (.cons x .nil) (.L v)) : Calls Tryz.prog 9 #[v] w (Ret (fun u w' => u = .tuple #[str [], .int .i64 2] ∧ Keep [] w w') NP) := by
 obtain ⟨h1, h2, h3⟩ := bad_out hb; have := c9 g 200 h h1 h2; rwa [h3] at this
theorem out9 {w : World} (g : GL w) {n : Nat} {l : Tr} {v : Value} (h : Rep TT w l (.L v)) (hp : prn n (.stmts l) [] 0 = .fail 3) : Calls Tryz.prog 9 #[v] w (Ret (fun u w' => u = .tuple #[str [], .int .i64 3] ∧ Keep [] w w') NP) := by
 obtain ⟨h1, h2, h3⟩ := out3 hp; have := c9 g n h h1 h2; rwa [h3] at this
theorem self_rep {w : World} {q : Nat} {line : Int} (h : At w q [.int .i64 10, .int .i64 line, .int .i64 0, str [45], .pointer none, ptr q, .slice none 0 0, .slice none 0 0, .slice none 0 0, .slice none 0 0]) : ∀ n, Rep TT w (selfT n) (.P (ptr q))
  | 0 => trivial
  | n + 1 => ⟨q, line, _, _, _, _, _, _, rfl, trivial, h, rfl, self_rep h n, .inl rfl, .inl rfl, .inl ⟨rfl, rfl⟩, .inl rfl⟩
theorem tw_rep {w : World} {q : Nat} {line : Int} (h : At w q [.int .i64 11, .int .i64 line, .int .i64 0, str [43], ptr q, ptr q, .slice none 0 0, .slice none 0 0, .slice none 0 0, .slice none 0 0]) : ∀ n, Rep TT w (twT n) (.P (ptr q))
  | 0 => trivial
  | n + 1 => ⟨q, line, _, _, _, _, _, _, rfl, trivial, h, tw_rep h n, tw_rep h n, .inl rfl, .inl rfl, .inl ⟨rfl, rfl⟩, .inl rfl⟩
structure Cyc (w : World) (qa qo qs : Nat) : Prop where
  a : At w qa [.int .i64 10, .int .i64 0, .int .i64 0, str [45], .pointer none, ptr qa, .slice none 0 0, .slice none 0 0, .slice none 0 0, .slice none 0 0]
  o : At w qo [.int .i64 4, .int .i64 0, str [], .pointer none, .pointer none, .pointer none, .slice (some ⟨qs, 0, none⟩) 1 1, .slice none 0 0]
  s : At w qs [ptr qo]
theorem Cyc.tt {w w' : World} {qa qo qs : Nat} (h : Cyc w qa qo qs) (K : Keep [] w w') : Cyc w' qa qo qs := ⟨K.at h.a (by simp), K.at h.o (by simp), K.at h.s (by simp)⟩
theorem own_rep {w : World} {qa qo qs : Nat} (h : Cyc w qa qo qs) : ∀ n, Rep TT w (ownT n) (.P (ptr qo))
  | 0 => trivial
  | n + 1 => ⟨qo, 0, _, _, _, _, _, rfl, trivial, h.o, rfl, rfl, rfl, ⟨qs, 0, 1, ptr qo, rfl, by omega, trivial, by rw [h.s.cell]; rfl, own_rep h n, rfl⟩, .inl rfl⟩
theorem deep_ptr {w : World} {n : Nat} {v : Value} (h : Rep TT w (deepT n) (.P v)) : ∃ b, v = ptr b := by
 cases n with
 | zero => obtain ⟨q, line, lv, rv, kv, av, pv, bv, rfl, _⟩ := h; exact ⟨_, rfl⟩
 | succ n => obtain ⟨q, line, lv, rv, kv, av, pv, bv, rfl, _⟩ := h; exact ⟨_, rfl⟩
theorem zeros_cells (n : Nat) : (madeCells (Value.int .u8 0).cells (n * 1)).toList = (List.replicate n (0 : UInt8)).map fun c => .int .u8 c.toNat := by
 rw [List.map_replicate]; apply List.ext_getElem
 · simp [size_madeCells]
 · intro i h1 h2; simp [madeCells, Value.cells, Nat.mod_one]
theorem zeros (w : World) : ∃ v w', (Instr.makeSlice 22 (.int .i64 32768) (.int .i64 32768)).run Tryz.prog w = .ok v w' ∧ AccB 0 w' v (List.replicate 32768 0) ∧ Keep [] w w' := by
 obtain ⟨w', h1, h2, h3⟩ := run_make_full (P := Tryz.prog) w 0 22 5 ((Tryz.prog.info? 5).getD default) (.int .u8 0) 1 (by kernel_rfl) (by kernel_rfl) (by kernel_rfl) (by kernel_rfl) .i64 .i64 32768 (by rw [show ((Tryz.prog.info? 5).getD default).bytes = 1 by kernel_rfl]; omega) (by simp only [maxLen]; omega) (Nat.zero_le _); refine ⟨_, w', h1, ⟨?_, fun g _ => Nat.zero_le _⟩, Keep.grown h3⟩; rw [List.length_replicate]; rwa [zeros_cells 32768] at h2
theorem deep_out {w : World} (g : GL w) {v : Value} (h : Rep TT w (retT (deepT 65)) (.L v)) : Calls Tryz.prog 9 #[v] w (Ret (fun u w' => (∃ s, u = .tuple #[str s, .int .i64 3]) ∧ Keep [] w w') NP) := by
 refine (c9 g 400 h deep65_out.1 (fun _ _ _ => by simp [retT, wf, wf_deep])).mono ?_; rintro e w' h
 cases e with
 | returned u => exact ⟨⟨_, by rw [h.1, deep65_out.2]⟩, h.2⟩
 | panicked c => exact h.elim
 | outgrown => exact h.elim
theorem deep_ok {w : World} (g : GL w) {v : Value} (h : Rep TT w (retT (deepT 64)) (.L v)) : Calls Tryz.prog 9 #[v] w (Ret (fun u w' => u = .tuple #[str buf64, .int .i64 0] ∧ Keep [] w w') NP) := by
 have := c9 g 400 h deep64_out.1 (fun _ _ _ => by simp [retT, wf, wf_deep]); rwa [deep64_out.2] at this
theorem nil_out {w : World} (g : GL w) : Calls Tryz.prog 9 #[.slice none 0 0] w (Ret (fun u w' => u = .tuple #[str [], .int .i64 0] ∧ Keep [] w w') NP) := by
 have h : (match parseS pfuel [] with | .ok t _ _ => t | _ => .hole) = .nil := by kernel_rfl
 have := c9 (l := .nil) (F := TT) (v := .slice none 0 0) g 1 (.inl rfl) PR.noConfusion (fun _ _ _ => rfl); have e : outP 1 .nil = ([], 0) := by
   unfold outP; rw [show prn 1 (.stmts .nil) [] 0 = .ok [] 0 from rfl]; dsimp only
   cases hp : parseS pfuel [] with
   | oof => rw [hp] at h <;> cases h
   | fail c => rw [hp] at h <;> cases h
   | ok t ts o =>
     rw [hp] at h; dsimp only at h ⊢; rw [h, eqT_refl, if_pos rfl]
 rwa [e] at this
set_option maxHeartbeats 8000000 in
theorem law8 {w : World} (g : GL w) : Calls Tryz.prog 8 #[] w (Ret (fun u w' => u = .bool true ∧ Keep [] w w') NP) := by
  refine s8 ?_; unfold S8; refine V1.i (bld37 _ _ _) ?_; refine V1.i (bld37 _ _ _) ?_; refine V1.i (bld37 _ _ _) ?_; refine V1.i (bld37 _ _ _) ?_; refine V1.i (bld37 _ _ _) ?_; refine V1.i (bld37 _ _ _) ?_; refine V1.i (bld37 _ _ _) ?_; refine V1.i (bld37 _ _ _) ?_; refine V1.i (bld37 _ _ _) ?_; refine V1.i (bld37 _ _ _) ?_; refine V1.newSlice (bs38 ..) fun qr w1 N1 => ?_; have aR : At w1 qr rowsF := N1.at_; have k1 := N1.keep; clear N1; refine L2.i (fun x0 x1 w' => ∃ i : Nat, x1 = .int .i64 (i : Nat) ∧ i ≤ 10 ∧ Keep [] w1 w') (fun _ v _ => match v with | .int _ n => (10 - n.toNat) | _ => 0) ⟨0, rfl, by omega, Keep.refl _ _⟩ ?_; rintro x0 x1 w2 ⟨i, rfl, hi, K2⟩; refine V1.i (by simp [go_sem] <;> trivial) ?_; by_cases h10 : i < 10
  · refine V1.i (v := .bool true) (w' := w2) (by simp [go_sem]; omega) ?_; refine If.t ?_; have hl : i < rowsL.length := by rw [rowsL_len]; exact h10
    obtain ⟨f1, f2⟩ := flat2 rowsL i hl; refine ⟨fun w' => Keep [] w2 w', (Keep.refl _ _).drew, ?_⟩; refine Xv.i _ (fun w' _ => ix38 h10) ?_; refine Xv.i _ (fun w' _ => ix37) ?_; refine Xv.i (str rowsL[i].1) (fun w' hw => (oneAll rfl) _ _ _ (by rw [((K2.trans hw).at aR (by simp)).cell]; exact f1)) ?_; refine Xq.call (fn := Tryz.f16) (str rowsL[i].2) (callFunc_run Tryz.func16 (c := codeB Tryz.f16) (by kernel_rfl) (by kernel_rfl) _) (fun w' hw => (row_again (List.getElem_mem hl) (g.new (k1.trans (K2.trans hw)))).mono ?_) ?_
    · intro e w3 h
      cases e <;> first | exact (False.elim h) | (obtain ⟨rfl, h2⟩ := h; exact ⟨rfl, Keep.trans hw h2⟩)
    refine Xv.i _ (fun w' _ => ix38 h10) ?_; refine Xv.i _ (fun w' _ => ix37b) ?_; refine Xv.i (str rowsL[i].2) (fun w' hw => (oneAll rfl) _ _ _ (by rw [((K2.trans hw).at aR (by simp)).cell]; exact f2)) ?_; refine Xv.i (.bool false) (fun w' _ => by rw [neS]; simp) ?_; intro w3 K3; refine If.f ?_; refine V1.i (addI _ _ _ _ _ _ (by omega) (by omega)) ?_; exact ⟨⟨i + 1, by simp, by omega, K2.trans K3⟩, by simp; omega⟩
  obtain rfl : i = 10 := by omega
  refine V1.i (v := .bool false) (w' := w2) (by simp [go_sem]) ?_; refine If.f ?_; replace k1 := k1.trans K2; clear aR K2 h10 hi; have cc : Cells TT w2 (.cons .nil .nil) [.pointer none] := ⟨rfl, trivial⟩; refine V1.i (by simp [go_sem] <;> trivial) ?_; refine bx_st nP (nP) (nP) nL nL fun qry w3 K3 _ ry => ?_; replace k1 := k1.trans K3; replace cc := cc.tt K3; replace cc := Cells.snoc ry _ _ cc; simp only [snoc, List.cons_append, List.nil_append] at cc; clear ry; refine V1.i (by simp [go_sem] <;> trivial) ?_; refine bx_st nP (nP) (nP) nL nL fun qry w4 K4 _ ry => ?_; replace k1 := k1.trans K4; replace cc := cc.tt K4; replace cc := Cells.snoc ry _ _ cc; simp only [snoc, List.cons_append, List.nil_append] at cc; clear ry; refine V1.i (by simp [go_sem] <;> trivial) ?_; refine bx_st nP (nP) (nP) nL nL fun qry w5 K5 _ ry => ?_; replace k1 := k1.trans K5; replace cc := cc.tt K5
  replace cc := Cells.snoc ry _ _ cc; simp only [snoc, List.cons_append, List.nil_append] at cc; clear ry; refine V1.i (by simp [go_sem] <;> trivial) ?_; refine bx_ex nP (nP) (nL) nL nL fun qrx w6 K6 _ rx => ?_; replace k1 := k1.trans K6; replace cc := cc.tt K6; refine V1.i (by simp [go_sem] <;> trivial) ?_; refine bx_st nP (rx) (nP) nL nL fun qry w7 K7 _ ry => ?_; replace k1 := k1.trans K7; replace cc := cc.tt K7; replace cc := Cells.snoc ry _ _ cc; simp only [snoc, List.cons_append, List.nil_append] at cc; clear ry; refine V1.i (by simp [go_sem] <;> trivial) ?_; refine bx_st nP (nP) (nP) nL nL fun qry w8 K8 _ ry => ?_; replace k1 := k1.trans K8; replace cc := cc.tt K8; replace cc := Cells.snoc ry _ _ cc; simp only [snoc, List.cons_append, List.nil_append] at cc; clear ry; refine V1.i (by simp [go_sem] <;> trivial) ?_; refine bx_st nP (nP) (nP) nL nL fun qry w9 K9 _ ry => ?_
  replace k1 := k1.trans K9; replace cc := cc.tt K9; replace cc := Cells.snoc ry _ _ cc; simp only [snoc, List.cons_append, List.nil_append] at cc; clear ry; refine V1.i (by simp [go_sem] <;> trivial) ?_; refine bx_ex nP (nP) (nL) nL nL fun qrx w10 K10 _ rx => ?_; replace k1 := k1.trans K10; replace cc := cc.tt K10; refine V1.i (by simp [go_sem] <;> trivial) ?_; refine bx_st nP (rx) (nP) nL nL fun qry w11 K11 _ ry => ?_; replace k1 := k1.trans K11; replace cc := cc.tt K11; replace cc := Cells.snoc ry _ _ cc; simp only [snoc, List.cons_append, List.nil_append] at cc; clear ry; refine V1.i (by simp [go_sem] <;> trivial) ?_; refine bx_ex nP (nP) (nL) nL nL fun qrx w12 K12 _ rx => ?_; replace k1 := k1.trans K12; replace cc := cc.tt K12; refine V1.i (by simp [go_sem] <;> trivial) ?_; refine bx_st nP (rx) (nP) nL nL fun qry w13 K13 _ ry => ?_; replace k1 := k1.trans K13; replace cc := cc.tt K13
  replace cc := Cells.snoc ry _ _ cc; simp only [snoc, List.cons_append, List.nil_append] at cc; clear ry; refine V1.i (by simp [go_sem] <;> trivial) ?_; refine bx_ex nP (nP) (nL) nL nL fun qrx w14 K14 _ rx => ?_; replace k1 := k1.trans K14; replace cc := cc.tt K14; refine V1.i (by simp [go_sem] <;> trivial) ?_; refine bx_st nP (rx) (nP) nL nL fun qry w15 K15 _ ry => ?_; replace k1 := k1.trans K15; replace cc := cc.tt K15; replace cc := Cells.snoc ry _ _ cc; simp only [snoc, List.cons_append, List.nil_append] at cc; clear ry; refine V1.newSlice (by simp [go_sem]; first | done | rfl | exact ⟨rfl, rfl⟩ | (repeat' (first | rfl | apply And.intro))) fun qk w16 N => ?_; have ak : At w16 qk [.pointer none] := by
    have := N.at_; simpa using this
  replace k1 := k1.trans N.keep; replace cc := cc.tt N.keep; have rk : Rep TT w16 (.cons .nil .nil) (.L (.slice (some ⟨qk, 0, none⟩) 1 1)) := ⟨qk, 0, 1, .pointer none, rfl, by omega, trivial, by rw [ak.cell]; rfl, rfl, rfl⟩; clear N ak; refine V1.i (by simp [go_sem] <;> trivial) ?_; refine bx_ex nP (nP) (rk) nL nL fun qrx w17 K17 _ rx => ?_; replace k1 := k1.trans K17; replace cc := cc.tt K17; refine V1.i (by simp [go_sem] <;> trivial) ?_; refine bx_st nP (rx) (nP) nL nL fun qry w18 K18 _ ry => ?_; replace k1 := k1.trans K18; replace cc := cc.tt K18; replace cc := Cells.snoc ry _ _ cc; simp only [snoc, List.cons_append, List.nil_append] at cc; clear ry; refine V1.i (by simp [go_sem] <;> trivial) ?_; refine bx_st nP (nP) (nP) nL nL fun qry w19 K19 _ ry => ?_; replace k1 := k1.trans K19; replace cc := cc.tt K19; replace cc := Cells.snoc ry _ _ cc
  simp only [snoc, List.cons_append, List.nil_append] at cc; clear ry; refine V1.i (by simp [go_sem] <;> trivial) ?_; refine bx_ex nP (nP) (nL) nL nL fun qrx w20 K20 _ rx => ?_; replace k1 := k1.trans K20; replace cc := cc.tt K20; refine V1.i (by simp [go_sem] <;> trivial) ?_; refine bx_st nP (rx) (nP) nL nL fun qry w21 K21 _ ry => ?_; replace k1 := k1.trans K21; replace cc := cc.tt K21; replace cc := Cells.snoc ry _ _ cc; simp only [snoc, List.cons_append, List.nil_append] at cc; clear ry; unfold ptr at cc ⊢; refine V1.newSlice (bs13 ..) fun qb w22 NB => ?_; replace k1 := k1.trans NB.keep; replace cc := cc.tt NB.keep; obtain ⟨us, ab, cc, hlen⟩ : ∃ us, At w22 qb us ∧ Cells TT w22 badT us ∧ us.length = 13 := ⟨_, NB.at_, cc, rfl⟩; have hall : allT badB badT = true := by rw [badT, allT_foldr]; exact bad_all
  clear NB; refine L2.i (fun x0 x1 w' => ∃ i : Nat, x1 = .int .i64 (i : Nat) ∧ i ≤ 13 ∧ Keep [] w22 w') (fun _ v _ => match v with | .int _ n => (13 - n.toNat) | _ => 0) ⟨0, rfl, by omega, Keep.refl _ _⟩ ?_; rintro y0 y1 w23 ⟨i, rfl, hi, KL⟩; replace k1 := k1.trans KL; replace ab := KL.at ab (by simp); replace cc := cc.tt KL; refine V1.i (by simp [go_sem] <;> trivial) ?_; by_cases h13 : i < 13
  · refine V1.i (v := .bool true) (w' := w23) (by simp [go_sem]; omega) ?_; refine If.t ?_; obtain ⟨x, rx, hb⟩ := cells_all _ _ cc hall i (by omega); refine V1.i (ix26 h13) ?_; refine V1.load (v := us[i]) (oneAll rfl) ab (by simp [hlen, h13]) ?_; refine bsK1 rx (bad_ptr rx hb) fun b wa KA _ rl => ?_; refine cf9 (bad9 (g.new (k1.trans KA)) hb rl) ?_ (NP.no (e := _)); rintro _ wb ⟨rfl, KB⟩; refine V1.i (by simp [go_sem] <;> trivial) ?_; refine V1.i (by simp [go_sem] <;> trivial) ?_; refine V1.i (tnum _ _ _) ?_; rw [show (!((2 : Int) == 2)) = false by simp]; refine J1.go (Gd.ff ?_); refine V1.i (v := .bool false) (w' := wb) (by rw [show (Value.string ⟨#[]⟩) = str [] from rfl, neS]; simp) ?_; refine V1.i (by simp [go_sem] <;> trivial) ?_; refine If.f ?_; refine V1.i (addI _ _ _ _ _ _ (by omega) (by omega)) ?_; exact ⟨⟨i + 1, by simp, by omega, (KL.trans KA).trans KB⟩, by simp; omega⟩
  obtain rfl : i = 13 := by omega
  refine V1.i (v := .bool false) (w' := w23) (by simp [go_sem]) ?_; refine If.f ?_; clear ab cc hall hlen KL h13 hi; refine V1.i (by simp [go_sem] <;> trivial) ?_; refine V1.new (bx47 _ _) fun qa w24 Nqa => ?_; have aqa : At w24 qa [.int .i64 10, .int .i64 0, .int .i64 0, str [45], .pointer none, .pointer none, .slice none 0 0, .slice none 0 0, .slice none 0 0, .slice none 0 0] := by
    have := Nqa.at_; simpa [Value.cells, str] using this
  have gqa := Nqa.ge; have s24 := k1.size; replace k1 := k1.trans Nqa.keep; refine Up.i (Nc.p _ _) ?_; refine V1.i (by simp [go_sem] <;> trivial) ?_; refine U1.store (onesAll rfl rfl) aqa (by simp) fun w25 U => ?_; have tqa : At w25 qa [.int .i64 10, .int .i64 0, .int .i64 0, str [45], .pointer none, ptr qa, .slice none 0 0, .slice none 0 0, .slice none 0 0, .slice none 0 0] := by
    have := U.at_; simpa [ptr] using this
  clear aqa; rename At w25 qa _ => aqa
  replace k1 := k1.trans' U.keep (by simp; omega); clear U; refine V1.i (by simp [go_sem] <;> trivial) ?_; refine V1.new (bx47 _ _) fun qt w26 Nqt => ?_; have aqt : At w26 qt [.int .i64 11, .int .i64 0, .int .i64 0, str [43], .pointer none, .pointer none, .slice none 0 0, .slice none 0 0, .slice none 0 0, .slice none 0 0] := by
    have := Nqt.at_; simpa [Value.cells, str] using this
  have gqt := Nqt.ge; have s26 := k1.size; replace k1 := k1.trans Nqt.keep; have lqa := aqa.lt; replace aqa := Nqt.a aqa; refine Up.i (Nc.p _ _) ?_; refine V1.i (by simp [go_sem] <;> trivial) ?_; refine U1.store (onesAll rfl rfl) aqt (by simp) fun w27 U => ?_; have tqt : At w27 qt [.int .i64 11, .int .i64 0, .int .i64 0, str [43], ptr qt, .pointer none, .slice none 0 0, .slice none 0 0, .slice none 0 0, .slice none 0 0] := by
    have := U.at_; simpa [ptr] using this
  clear aqt; rename At w27 qt _ => aqt
  replace aqa := U.keep.at aqa (by simp; omega); replace k1 := k1.trans' U.keep (by simp; omega); clear U; refine Up.i (Nc.p _ _) ?_; refine V1.i (by simp [go_sem] <;> trivial) ?_; refine U1.store (onesAll rfl rfl) aqt (by simp) fun w28 U => ?_; have tqt : At w28 qt [.int .i64 11, .int .i64 0, .int .i64 0, str [43], ptr qt, ptr qt, .slice none 0 0, .slice none 0 0, .slice none 0 0, .slice none 0 0] := by
    have := U.at_; simpa [ptr] using this
  clear aqt; rename At w28 qt _ => aqt
  replace aqa := U.keep.at aqa (by simp; omega); replace k1 := k1.trans' U.keep (by simp; omega); clear U; refine V1.i (by simp [go_sem] <;> trivial) ?_; refine V1.new (bx43 _ _) fun qo w29 Nqo => ?_; have aqo : At w29 qo [.int .i64 4, .int .i64 0, str [], .pointer none, .pointer none, .pointer none, .slice none 0 0, .slice none 0 0] := by
    have := Nqo.at_; simpa [Value.cells, str] using this
  have gqo := Nqo.ge; have s29 := k1.size; replace k1 := k1.trans Nqo.keep; have lqt := aqt.lt; replace aqa := Nqo.a aqa; replace aqt := Nqo.a aqt; refine V1.newSlice (by simp [go_sem]; first | done | rfl | exact ⟨rfl, rfl⟩ | (repeat' (first | rfl | apply And.intro))) fun qs w30 NS => ?_; have ag : At w30 qs [ptr qo] := by
    have := NS.at_; simpa [ptr] using this
  have gqs := NS.ge; have lqo := aqo.lt; replace aqa := NS.a aqa; replace aqt := NS.a aqt; replace aqo := NS.a aqo; replace k1 := k1.trans NS.keep; refine Up.i (Nc.p _ _) ?_; refine V1.i (by simp [go_sem] <;> trivial) ?_; refine U1.store (onesAll rfl rfl) aqo (by simp) fun w31 U => ?_; have tqo : At w31 qo [.int .i64 4, .int .i64 0, str [], .pointer none, .pointer none, .pointer none, .slice (some ⟨qs, 0, none⟩) 1 1, .slice none 0 0] := by
    have := U.at_; simpa [ptr] using this
  clear aqo; rename At w31 qo _ => aqo
  replace aqa := U.keep.at aqa (by simp; omega); replace aqt := U.keep.at aqt (by simp; omega); replace ag := U.keep.at ag (by simp; omega); replace k1 := k1.trans' U.keep (by simp; omega); clear U; have cy : Cyc w31 qa qo qs := ⟨aqa, aqo, ag⟩; clear aqa aqo ag Nqa Nqt Nqo NS gqa gqt gqo gqs lqa lqt lqo; refine V1.i (by simp [go_sem] <;> trivial) ?_; refine bx_st nP (self_rep cy.a 65538) (nP) nL nL fun qry w32 K32 _ ry => ?_; replace k1 := k1.trans K32; replace cy := cy.tt K32; replace aqt := K32.at aqt (by simp); refine bsK1 (ry) ⟨_, rfl⟩ fun qrl w33 K33 _ rl => ?_; replace k1 := k1.trans K33; replace cy := cy.tt K33; replace aqt := K33.at aqt (by simp); refine cf9 (out9 (g.new k1) rl self_out) ?_ (NP.no (e := _)); rintro _ w34 ⟨rfl, K34⟩; replace k1 := k1.trans K34; replace cy := cy.tt K34; replace aqt := K34.at aqt (by simp); refine V1.i (by simp [go_sem] <;> trivial) ?_
  refine V1.i (by simp [go_sem] <;> trivial) ?_; refine V1.i (by simp [go_sem] <;> trivial) ?_; refine bx_st nP (tw_rep aqt 65538) (nP) nL nL fun qry w35 K35 _ ry => ?_; replace k1 := k1.trans K35; replace cy := cy.tt K35; replace aqt := K35.at aqt (by simp); refine bsK1 (ry) ⟨_, rfl⟩ fun qrl w36 K36 _ rl => ?_; replace k1 := k1.trans K36; replace cy := cy.tt K36; replace aqt := K36.at aqt (by simp); clear aqt; refine cf9 (out9 (g.new k1) rl tw_out) ?_ (NP.no (e := _)); rintro _ w37 ⟨rfl, K37⟩; replace k1 := k1.trans K37; replace cy := cy.tt K37; refine V1.i (by simp [go_sem] <;> trivial) ?_; refine V1.i (by simp [go_sem] <;> trivial) ?_; refine bsK1 (own_rep cy 65538) ⟨_, rfl⟩ fun qrl w38 K38 _ rl => ?_; replace k1 := k1.trans K38; replace cy := cy.tt K38; refine cf9 (out9 (g.new k1) rl own_out) ?_ (NP.no (e := _)); rintro _ w39 ⟨rfl, K39⟩; replace k1 := k1.trans K39
  replace cy := cy.tt K39; refine V1.i (by simp [go_sem] <;> trivial) ?_; refine V1.i (by simp [go_sem] <;> trivial) ?_; obtain ⟨zv, w40, hz, az, K40⟩ := zeros w39; refine V1.i hz ?_; refine V1.i az.str ?_; replace k1 := k1.trans K40; replace cy := cy.tt K40; have hz32 : (List.replicate 32768 (0 : UInt8)).length = 32768 := List.length_replicate; generalize List.replicate 32768 (0 : UInt8) = zz at hz32 ⊢; clear az hz; refine V1.i (by simp [go_sem] <;> trivial) ?_; refine bx_ex nP (nP) (nL) nL nL fun qrx w41 K41 _ rx => ?_; replace k1 := k1.trans K41; replace cy := cy.tt K41; refine V1.i (by simp [go_sem] <;> trivial) ?_; refine bx_st nP (rx) (nP) nL nL fun qry w42 K42 _ ry => ?_; replace k1 := k1.trans K42; replace cy := cy.tt K42; refine bsK1 (ry) ⟨_, rfl⟩ fun qrl w43 K43 _ rl => ?_; replace k1 := k1.trans K43; replace cy := cy.tt K43
  refine cf9 (out9 (g.new k1) rl (big_out zz hz32)) ?_ (NP.no (e := _)); rintro _ w44 ⟨rfl, K44⟩; replace k1 := k1.trans K44; replace cy := cy.tt K44; refine V1.i (by simp [go_sem] <;> trivial) ?_; refine V1.i (by simp [go_sem] <;> trivial) ?_; refine V1.i (by simp [go_sem] <;> trivial) ?_; refine bx_ex nP (nP) (nL) nL nL fun qrd w45 K45 _ rd => ?_; replace k1 := k1.trans K45; replace cy := cy.tt K45; refine L2.i (fun x0 x1 w' => ∃ i : Nat, x1 = .int .i64 (i : Nat) ∧ i ≤ 65 ∧ Rep TT w' (deepT i) (.P x0) ∧ Keep [] w45 w') (fun _ v _ => match v with | .int _ n => (65 - n.toNat) | _ => 0) ⟨0, rfl, by omega, rd, Keep.refl _ _⟩ ?_; clear rd; rintro z0 z1 w46 ⟨i, rfl, hi, rd, KL⟩; obtain ⟨bd, rfl⟩ := deep_ptr rd; replace k1 := k1.trans KL; replace cy := cy.tt KL; by_cases h65 : i < 65
  · refine V1.i (v := .bool true) (w' := w46) (by simp [go_sem]; omega) ?_; refine If.t ?_; unfold ptr at rd ⊢; refine V1.i (by simp [go_sem] <;> trivial) ?_; refine bx_ex nP rd nL nL nL fun qd wd KD _ rd => ?_; refine V1.i (addI _ _ _ _ _ _ (by omega) (by omega)) ?_; exact ⟨⟨i + 1, by simp, by omega, rd, KL.trans KD⟩, by simp; omega⟩
  obtain rfl : i = 65 := by omega
  refine V1.i (v := .bool false) (w' := w46) (by simp [go_sem]) ?_; refine If.f ?_; clear KL h65 hi; unfold ptr at rd ⊢; refine V1.i (by simp [go_sem] <;> trivial) ?_; refine bx_st nP (rd) (nP) nL nL fun qry w47 K47 _ ry => ?_; replace k1 := k1.trans K47; replace cy := cy.tt K47; replace rd := rd.tt K47; refine bsK1 (ry) ⟨_, rfl⟩ fun qrl w48 K48 _ rl => ?_; replace k1 := k1.trans K48; replace cy := cy.tt K48; replace rd := rd.tt K48; refine cf9 (deep_out (g.new k1) rl) ?_ (NP.no (e := _)); rintro _ w49 ⟨⟨sd, rfl⟩, K49⟩; replace k1 := k1.trans K49; replace cy := cy.tt K49; replace rd := rd.tt K49; refine V1.i (by simp [go_sem] <;> trivial) ?_; refine V1.i (by simp [go_sem] <;> trivial) ?_; obtain ⟨q6, l6, lv6, rv6, kv6, av6, pv6, bv6, e6, _, a6, _, r6, _⟩ := rd; obtain rfl : bd = q6 := by
    unfold ptr at e6; injection e6 with e6; injection e6 with e6; injection e6
  obtain ⟨b6, rfl⟩ := deep_ptr (n := 64) r6; refine Up.i (Nc.p _ _) ?_; refine V1.i (by simp [go_sem] <;> trivial) ?_; refine V1.load (oneAll rfl) (a6) rfl ?_; clear e6 a6; unfold ptr at r6 ⊢; refine V1.i (by simp [go_sem] <;> trivial) ?_; refine bx_st nP (r6) (nP) nL nL fun qry w50 K50 _ ry => ?_; replace k1 := k1.trans K50; replace cy := cy.tt K50; refine bsK1 (ry) ⟨_, rfl⟩ fun qrl w51 K51 _ rl => ?_; replace k1 := k1.trans K51; replace cy := cy.tt K51; refine cf9 (deep_ok (g.new k1) rl) ?_ (NP.no (e := _)); rintro _ w52 ⟨rfl, K52⟩; replace k1 := k1.trans K52; replace cy := cy.tt K52; refine V1.i (by simp [go_sem] <;> trivial) ?_; refine V1.i (by simp [go_sem] <;> trivial) ?_; refine cf9 (nil_out (g.new k1)) ?_ (NP.no (e := _)); rintro _ w53 ⟨rfl, K53⟩; replace k1 := k1.trans K53; replace cy := cy.tt K53; refine V1.i (by simp [go_sem] <;> trivial) ?_
  refine V1.i (by simp [go_sem] <;> trivial) ?_; refine V1.i (by simp [go_sem] <;> trivial) ?_; refine bx_st nP (nP) (nP) nL nL fun qr7 w54 K54 _ r7 => ?_; replace k1 := k1.trans K54; replace cy := cy.tt K54; refine bsK1 (r7) ⟨_, rfl⟩ fun qrn w55 K55 _ rn => ?_; replace k1 := k1.trans K55; replace cy := cy.tt K55; refine V1.i (by simp [go_sem] <;> trivial) ?_; refine bx_ex nP (nP) (nL) nL nL fun qro w56 K56 _ ro => ?_; replace k1 := k1.trans K56; replace cy := cy.tt K56; replace rn := rn.tt K56; refine V1.i (by simp [go_sem] <;> trivial) ?_; refine bx_ex nP (nP) (nL) nL nL fun qrp w57 K57 _ rp => ?_; replace k1 := k1.trans K57; replace cy := cy.tt K57; replace rn := rn.tt K57; replace ro := ro.tt K57; unfold ptr at ro rp ⊢; refine V1.i (by simp [go_sem] <;> trivial) ?_; refine bx_st nP (ro) (ro) nL nL fun qrf w58 K58 _ rf => ?_; replace k1 := k1.trans K58; replace cy := cy.tt K58
  replace rn := rn.tt K58; replace ro := ro.tt K58; replace rp := rp.tt K58; refine bsK1 (rf) ⟨_, rfl⟩ fun qrF w59 K59 _ rF => ?_; replace k1 := k1.trans K59; replace cy := cy.tt K59; replace rn := rn.tt K59; replace ro := ro.tt K59; replace rp := rp.tt K59; refine V1.i (by simp [go_sem] <;> trivial) ?_; refine bx_st nP (ro) (rp) nL nL fun qrg w60 K60 _ rg => ?_; replace k1 := k1.trans K60; replace cy := cy.tt K60; replace rn := rn.tt K60; replace ro := ro.tt K60; replace rp := rp.tt K60; replace rF := rF.tt K60; refine bsK1 (rg) ⟨_, rfl⟩ fun qrG w61 K61 _ rG => ?_; replace k1 := k1.trans K61; replace cy := cy.tt K61; replace rn := rn.tt K61; replace ro := ro.tt K61; replace rp := rp.tt K61; replace rF := rF.tt K61; refine cf14 (c14 (by simp [tz, fuelMax]) (by simp [tz, fuelMax]) (by simp [wf, i64]) (by simp [wf, i64]) rF rG) ?_ (NP.no (e := _)); rintro _ w62 ⟨rfl, K62⟩
  replace k1 := k1.trans K62; replace cy := cy.tt K62; replace rn := rn.tt K62; replace ro := ro.tt K62; replace rp := rp.tt K62; replace rF := rF.tt K62; rw [eqT_ne (by intro h; simp at h), Bool.and_false]; refine If.f ?_; refine J1.go (Gd.tt ?_); refine cf12 (c12 (g.new k1)) ?_ (NP.no (e := _)); rintro _ w63 ⟨rfl, K63⟩; replace k1 := k1.trans K63; replace cy := cy.tt K63; replace rn := rn.tt K63; refine V1.i (by simp [go_sem] <;> trivial) ?_; refine J1.go (Gd.tt ?_); refine V1.i (enum _ _ _) ?_; refine V1.i (by simp [go_sem] <;> trivial) ?_; refine J1.go (Gd.tt ?_); refine V1.i (enum _ _ _) ?_; refine V1.i (by simp [go_sem] <;> trivial) ?_; refine J1.go (Gd.tt ?_); refine V1.i (enum _ _ _) ?_; refine V1.i (by simp [go_sem] <;> trivial) ?_; refine J1.go (Gd.tt ?_); refine V1.i (enum _ _ _) ?_; refine V1.i (by simp [go_sem] <;> trivial) ?_; refine J1.go (Gd.tt ?_)
  refine V1.i (enum _ _ _) ?_; refine V1.i (by simp [go_sem] <;> trivial) ?_; refine J1.go (Gd.tt ?_); refine V1.i (enum _ _ _) ?_; refine V1.i (by simp [go_sem] <;> trivial) ?_; refine J1.go (Gd.tt ?_); refine V1.i (lenS _ _ _) ?_; rw [buf64_len]; refine V1.i (by simp [go_sem] <;> trivial) ?_; refine V1.i (by simp [go_sem] <;> trivial) ?_; refine J1.go (Gd.tt ?_); refine V1.i (enum _ _ _) ?_; refine V1.i (by simp [go_sem] <;> trivial) ?_; refine J1.go (Gd.tt ?_); refine V1.i (v := .bool true) (w' := w63) (by rw [show (Value.string ⟨#[]⟩) = str [] from rfl, eqS]; simp) ?_; refine V1.i (by simp [go_sem] <;> trivial) ?_; refine J1.go (Gd.tt ?_); refine V1.i (by simp [go_sem] <;> trivial) ?_; refine bx_st nP (nP) (nP) nL nL fun qry w64 K64 _ ry => ?_; replace k1 := k1.trans K64; replace cy := cy.tt K64; replace rn := rn.tt K64; refine bsK1 (ry) ⟨_, rfl⟩ fun qrl w65 K65 _ rl => ?_
  replace k1 := k1.trans K65; replace cy := cy.tt K65; replace rn := rn.tt K65; refine cf14 (c14 (by simp [tz, fuelMax]) (by simp [tz, fuelMax]) (by simp [wf]) (by simp [wf]) rn rl) ?_ (NP.no (e := _)); rintro _ w66 ⟨rfl, K66⟩; replace k1 := k1.trans K66; replace cy := cy.tt K66; replace rn := rn.tt K66; rw [eqT_refl, show (decide (nd (.cons (.st 9 [] .nil .nil .nil .nil .nil) .nil) ≤ 65536)) = true by simp [nd]]; refine V1.i (by simp [go_sem] <;> trivial) ?_; refine J1.go (Gd.tt ?_); refine cf14 (c14 (t := .nil) (v := .slice none 0 0) (F := TT) (by simp [tz, fuelMax]) (by simp [tz, fuelMax]) (by simp [wf]) (by simp [wf]) rn (.inl rfl)) ?_ (NP.no (e := _)); rintro _ w67 ⟨rfl, K67⟩; replace k1 := k1.trans K67; replace cy := cy.tt K67; replace rn := rn.tt K67; rw [eqT_ne (by intro h; cases h), Bool.and_false]; refine V1.i (by simp [go_sem] <;> trivial) ?_
  refine V1.i (by simp [go_sem] <;> trivial) ?_; refine J1.go (Gd.tt ?_); refine bsK1 (own_rep cy 1) ⟨_, rfl⟩ fun qrl w68 K68 ao rl => ?_; replace k1 := k1.trans K68; replace cy := cy.tt K68; replace rn := rn.tt K68; refine bsK1 (own_rep cy 1) ⟨_, rfl⟩ fun qrm w69 K69 _ rm => ?_; replace k1 := k1.trans K69; replace cy := cy.tt K69; replace rn := rn.tt K69; replace ao := K69.at ao (by simp); refine cf14 (own14 cy.o cy.s ao) ?_ (NP.no (e := _)); rintro _ w70 ⟨rfl, K70⟩; replace k1 := k1.trans K70; replace cy := cy.tt K70; replace rn := rn.tt K70; refine V1.i (by simp [go_sem] <;> trivial) ?_; refine V1.i (by simp [go_sem] <;> trivial) ?_; refine J1.go (Gd.tt ?_); refine V1.i (by simp [go_sem] <;> trivial) ?_; refine bx_st nP (self_rep cy.a 1) nP nL nL fun qe w71 K71 ae re => ?_; replace k1 := k1.trans K71; replace cy := cy.tt K71; replace rn := rn.tt K71
  refine bsK1 (re) ⟨_, rfl⟩ fun qrj w72 K72 ai rj => ?_; replace k1 := k1.trans K72; replace cy := cy.tt K72; replace rn := rn.tt K72; replace ae := K72.at ae (by simp); refine V1.i (by simp [go_sem] <;> trivial) ?_; refine bx_st nP (self_rep cy.a 1) (nP) nL nL fun qry w73 K73 _ ry => ?_; replace k1 := k1.trans K73; replace cy := cy.tt K73; replace rn := rn.tt K73; replace ae := K73.at ae (by simp); replace ai := K73.at ai (by simp); refine bsK1 (ry) ⟨_, rfl⟩ fun qrl w74 K74 _ rl => ?_; replace k1 := k1.trans K74; replace cy := cy.tt K74; replace rn := rn.tt K74; replace ae := K74.at ae (by simp); replace ai := K74.at ai (by simp); refine cf14 (self14 cy.a ae ai) ?_ (NP.no (e := _)); rintro _ w75 ⟨rfl, K75⟩; replace k1 := k1.trans K75; replace cy := cy.tt K75; replace rn := rn.tt K75; refine V1.i (by simp [go_sem] <;> trivial) ?_; refine V1.i (by simp [go_sem] <;> trivial) ?_
  refine J1.go (Gd.tt ?_); refine bsK1 (nP) ⟨_, rfl⟩ fun qru w76 K76 _ ru => ?_; replace k1 := k1.trans K76; replace cy := cy.tt K76; replace rn := rn.tt K76; refine bsK1 (nP) ⟨_, rfl⟩ fun qrv w77 K77 _ rv => ?_; replace k1 := k1.trans K77; replace cy := cy.tt K77; replace rn := rn.tt K77; replace ru := ru.tt K77; refine cf14 (c14 (by simp [tz, fuelMax]) (by simp [tz, fuelMax]) (by simp [wf]) (by simp [wf]) ru rv) ?_ (NP.no (e := _)); rintro _ w78 ⟨rfl, K78⟩; replace k1 := k1.trans K78; replace cy := cy.tt K78; replace rn := rn.tt K78; replace ru := ru.tt K78; rw [eqT_refl, show (decide (nd (.cons .nil .nil) ≤ 65536)) = true by simp [nd]]; refine V1.i (by simp [go_sem] <;> trivial) ?_; refine J1.go (Gd.tt ?_); refine bsK1 (nP) ⟨_, rfl⟩ fun qru w79 K79 _ ru => ?_; replace k1 := k1.trans K79; replace cy := cy.tt K79; replace rn := rn.tt K79
  refine cf14 (c14 (by simp [tz, fuelMax]) (by simp [tz, fuelMax]) (by simp [wf]) (by simp [wf]) ru rn) ?_ (NP.no (e := _)); rintro _ w80 ⟨rfl, K80⟩; replace k1 := k1.trans K80; replace cy := cy.tt K80; replace rn := rn.tt K80; rw [eqT_ne (by intro h; simp at h), Bool.and_false]; refine V1.i (by simp [go_sem] <;> trivial) ?_; refine V1.i (by simp [go_sem] <;> trivial) ?_; exact ⟨rfl, k1⟩
end Go.Proofs.YtoddjlclpnoomaaGreatDoor

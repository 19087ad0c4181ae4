/- PrintRound proved: parentheses around any expression change nothing of what is written. -/
import Derived.Test.YtoddjlclpnoomaaGreatDoorV14
import Derived.Test.YtoddjlclpnoomaaGreatDoorV19
import Derived.Test.YtoddjlclpnoomaaGreatDoorV20
set_option linter.unusedVariables false
set_option linter.unusedSimpArgs false
set_option maxRecDepth 100000
namespace Go.Proofs.YtoddjlclpnoomaaGreatDoor
theorem tw_nl {p : UInt8 → Bool} (hp : p 10 = false) : ∀ (u v : List UInt8), (u ++ 10 :: v).takeWhile p = u.takeWhile p
 | [], v => by simp [List.takeWhile_cons, hp]
 | c :: u, v => by
   simp only [List.cons_append, List.takeWhile_cons]; rw [tw_nl hp u v]
theorem lng_nl {set : List UInt8} (hs : set.contains 10 = false) (u v : List UInt8) : lng (u ++ 10 :: v) set = lng u set := by
 unfold lng; rw [tw_nl (p := fun c => set.contains c) hs]
theorem take_nl {k : Nat} {u v : List UInt8} (h : k ≤ u.length) : (u ++ 10 :: v).take k = u.take k := List.take_append_of_le_length h
theorem let_nl {k : Nat} {u v : List UInt8} (h : k ≤ u.length) : letB.contains (((u ++ 10 :: v).drop k).headD 0) = letB.contains ((u.drop k).headD 0) := by
 rw [List.drop_append_of_le_length h]
 cases u.drop k with
 | nil => rfl
 | cons c l => rfl
theorem prs_nl (c : UInt8) : Lib.contains prsB [c, 10] = false := by
 have h : ∀ n, n < 256 → Lib.contains prsB [UInt8.ofNat n, 10] = false := by decide +kernel
 have := h c.toNat (UInt8.toNat_lt c); rwa [UInt8.ofNat_toNat] at this
theorem numT_nl (u v : List UInt8) : numT (u ++ 10 :: v) = numT u := by
 unfold numT; rw [lng_nl (by decide), take_nl (lng_le _ _), let_nl (lng_le _ _)]
theorem strT_nl (u v : List UInt8) : strT (u ++ 10 :: v) = strT u := by
 unfold strT; rw [tw_nl (p := fun c => !(c == 10)) (by decide)]
 cases h : qEnd ((u.takeWhile (fun c => !(c == 10))).drop 1) 1 with
 | none => rfl
 | some k =>
   have h1 := qEnd_le _ _ _ h; have h2 : (u.takeWhile (fun c => !(c == 10))).length ≤ u.length := (List.takeWhile_sublist _).length_le; simp only [List.length_drop] at h1; dsimp only; rw [take_nl (by omega)]
theorem wordT_nl (c : UInt8) (u v : List UInt8) : wordT (c :: u ++ 10 :: v) = wordT (c :: u) := by
 have e : c :: u ++ 10 :: v = c :: (u ++ 10 :: v) := rfl; rw [wordT_cons c u, e, wordT_cons, ← e]; rw [lng_nl (by decide), take_nl (lng_le _ _), numT_nl, strT_nl]; by_cases h1 : letB.contains c = true
 · rw [if_pos h1, if_pos h1]
 rw [if_neg h1, if_neg h1]; by_cases h2 : digB.contains c = true
 · rw [if_pos h2, if_pos h2]
 rw [if_neg h2, if_neg h2]; by_cases h3 : c = 34
 · rw [if_pos h3, if_pos h3]
 rw [if_neg h3, if_neg h3]; rw [take_nl (k := 1) (by simp)]
 cases u with
 | nil =>
   rw [show ([c] ++ 10 :: v).take 2 = [c, 10] from rfl, prs_nl]; rw [if_neg (by rintro ⟨_, _, h⟩; cases h), if_neg (show ¬(1 < [c].length ∧ (List.take 2 [c]).contains 32 = false ∧ Lib.contains prsB (List.take 2 [c]) = true) from fun h => absurd h.1 (Nat.lt_irrefl 1))]
 | cons d u =>
   rw [take_nl (k := 2) (by simp)]; congr 1
   simp
theorem lexGo_fuel : ∀ (m m' : Nat) (s : List UInt8) (line : Int), s.length < m → s.length < m' → lexGo m s line = lexGo m' s line
 | 0, _, _, _, h, _ => absurd h (Nat.not_lt_zero _)
 | m + 1, 0, _, _, _, h => absurd h (Nat.not_lt_zero _)
 | m + 1, m' + 1, s, line, h, h' => by
   simp only [lexGo]; by_cases h0 : s = []
   · rw [if_pos h0, if_pos h0]
   rw [if_neg h0, if_neg h0]; have hl : 1 ≤ s.length := List.length_pos_iff.2 h0; have ih : ∀ (k : Nat) (line : Int), 1 ≤ k → lexGo m (s.drop k) line = lexGo m' (s.drop k) line := fun k line hk => lexGo_fuel m m' _ _ (by rw [List.length_drop]; omega) (by rw [List.length_drop]; omega); rw [ih 1 _ (Nat.le_refl _), ih 1 _ (Nat.le_refl _)]; by_cases h1 : s.headD 0 = 10
   · rw [if_pos h1, if_pos h1]
   rw [if_neg h1, if_neg h1]; by_cases h2 : [32, 9, 13].contains (s.headD 0) = true
   · rw [if_pos h2, if_pos h2]
   rw [if_neg h2, if_neg h2]; by_cases h3 : s.take 2 = [45, 45]
   · rw [if_pos h3, if_pos h3]; have hd : (s.dropWhile (fun c => !(c == 10))).length < s.length := by
       match s, h1 with
       | c :: s, h1 =>
         have h1 : c ≠ 10 := h1; rw [List.dropWhile_cons, if_pos (by simpa using h1)]; have := (List.dropWhile_sublist (l := s) (fun c => !(c == 10))).length_le; simp only [List.length_cons]; omega
     rw [lexGo_fuel m m' _ _ (by omega) (by omega)]
   rw [if_neg h3, if_neg h3]
   cases hw : wordT s with
   | err c => rfl
   | tok t k =>
     simp only
     rw [ih k _ (wordT_pos s h0 t k hw).1]
theorem LR.cons_app (t : Tok) (X : List Tok) (r : LR) : (LR.app X r).cons t = LR.app (t :: X) r := by cases r <;> rfl
theorem dw_nl {p : UInt8 → Bool} (hp : p 10 = false) : ∀ (u v : List UInt8), (u ++ 10 :: v).dropWhile p = u.dropWhile p ++ 10 :: v
 | [], v => by simp [List.dropWhile_cons, hp]
 | c :: u, v => by
   simp only [List.cons_append, List.dropWhile_cons]; split
   · exact dw_nl hp u v
   · rfl
theorem dwNil {p : UInt8 → Bool} : ∀ (u : List UInt8), (∀ x ∈ u, p x = true) → u.dropWhile p = []
 | [], _ => rfl
 | c :: u, h => by
   rw [List.dropWhile_cons, if_pos (h c (by simp))]; exact dwNil u fun x hx => h x (by simp [hx])
theorem lex_nl : ∀ (N : Nat) (u v : List UInt8) (line : Int) (m m' : Nat), u.length ≤ N → u.length < m → (u ++ 10 :: v).length < m' →
   (∃ c, lexGo m u line = .fail c ∧ lexGo m' (u ++ 10 :: v) line = .fail c) ∨ ∃ X line', lexGo m u line = .ok (X ++ [endT line']) ∧ lexGo m' (u ++ 10 :: v) line = LR.app X (lexGo (v.length + 1) v (line' + 1))
 | N, [], v, line, m, 0, _, hm, hm' => absurd hm' (Nat.not_lt_zero _)
 | N, [], v, line, 0, _, _, hm, hm' => absurd hm (Nat.not_lt_zero _)
 | N, [], v, line, m + 1, m' + 1, _, hm, hm' => by
   refine .inr ⟨[], line, rfl, ?_⟩; simp only [List.nil_append, List.length_cons] at hm' ⊢; rw [show lexGo (m' + 1) (10 :: v) line = lexGo m' ((10 :: v).drop 1) (line + 1) from rfl]; rw [show (10 :: v).drop 1 = v from rfl, lexGo_fuel m' (v.length + 1) v _ (by omega) (by omega)]
   cases lexGo (v.length + 1) v (line + 1) <;> rfl
 | 0, c :: u, v, line, m, m', h, hm, hm' => absurd h (Nat.not_succ_le_zero _)
 | N + 1, c :: u, v, line, m, 0, _, hm, hm' => absurd hm' (Nat.not_lt_zero _)
 | N + 1, c :: u, v, line, 0, _, _, hm, hm' => absurd hm (Nat.not_lt_zero _)
 | N + 1, c :: u, v, line, m + 1, m' + 1, h, hm, hm' => by
   simp only [List.length_cons, List.length_append, List.cons_append] at h hm hm'; have ih : ∀ (k : Nat) (line : Int), 1 ≤ k → k ≤ u.length + 1 → (∃ c2, lexGo m ((c :: u).drop k) line = .fail c2 ∧ lexGo m' ((c :: u ++ 10 :: v).drop k) line = .fail c2) ∨ ∃ X line', lexGo m ((c :: u).drop k) line = .ok (X ++ [endT line']) ∧ lexGo m' ((c :: u ++ 10 :: v).drop k) line = LR.app X (lexGo (v.length + 1) v (line' + 1)) := by
     intro k line hk hk2; rw [List.drop_append_of_le_length (by simpa using hk2)]; refine lex_nl N _ v line m m' ?_ ?_ ?_
     · rw [List.length_drop, List.length_cons]; omega
     · rw [List.length_drop, List.length_cons]; omega
     · rw [List.length_append, List.length_drop, List.length_cons, List.length_cons]; omega
   simp only [lexGo]; rw [if_neg (by simp : ¬(c :: u = [])), if_neg (by simp : ¬(c :: u ++ 10 :: v = []))]; rw [show (c :: u).headD 0 = c from rfl, show (c :: u ++ 10 :: v).headD 0 = c from rfl]; by_cases h1 : c = 10
   · rw [if_pos h1, if_pos h1]; exact ih 1 _ (by omega) (by omega)
   rw [if_neg h1, if_neg h1]; by_cases h2 : [32, 9, 13].contains c = true
   · rw [if_pos h2, if_pos h2]; exact ih 1 _ (by omega) (by omega)
   rw [if_neg h2, if_neg h2]; by_cases h3 : (c :: u).take 2 = [45, 45]
   · have h3' : (c :: u ++ 10 :: v).take 2 = [45, 45] := by
       cases u with
       | nil => simp at h3
       | cons d u => rw [take_nl (by simp)]; exact h3
     rw [if_pos h3, if_pos h3', if_pos (by simp : (c :: u ++ 10 :: v).contains 10 = true)]; rw [dw_nl (by decide)]; have hdw : ((c :: u).dropWhile (fun c => !(c == 10))).length ≤ u.length := by
       rw [List.dropWhile_cons, if_pos (by simpa using h1)]; exact (List.dropWhile_sublist _).length_le
     have := lex_nl N ((c :: u).dropWhile (fun c => !(c == 10))) v line m m' (by omega) (by omega) (by rw [List.length_append, List.length_cons]; omega); by_cases h4 : (c :: u).contains 10 = true
     · rw [if_pos h4]; exact this
     · rw [if_neg h4]; have e : (c :: u).dropWhile (fun c => !(c == 10)) = [] := by
         refine dwNil _ fun x hx => ?_; by_cases hx2 : x = 10
         · subst hx2; exact absurd (List.contains_iff_mem.2 hx) h4
         · simpa using hx2
       rw [e] at this ⊢; rcases this with ⟨c2, h5, _⟩ | ⟨X, l', h5, h6⟩
       · cases m with
         | zero => simp [lexGo] at h5
         | succ m => simp [lexGo] at h5
       · refine .inr ⟨X, l', ?_, h6⟩; rw [← h5]
         cases m with
         | zero => rfl
         | succ m => simp [lexGo]
   · have h3' : ¬(c :: u ++ 10 :: v).take 2 = [45, 45] := by
       cases u with
       | nil => simp
       | cons d u => rw [take_nl (by simp)]; exact h3
     rw [if_neg h3, if_neg h3', wordT_nl]
     cases hw : wordT (c :: u) with
     | err e => exact .inl ⟨e, rfl, rfl⟩
     | tok t k =>
       simp only
       have hk := wordT_pos _ (by simp) t k hw; rcases ih k line hk.1 hk.2 with ⟨c2, h5, h6⟩ | ⟨X, l', h5, h6⟩
       · rw [h5, h6]; exact .inl ⟨c2, rfl, rfl⟩
       · rw [h5, h6, LR.cons_app]; exact .inr ⟨t.at line :: X, l', rfl, rfl⟩
def s1T (T : List UInt8) : List UInt8 := [97, 32, 61, 32] ++ T ++ [10, 114, 101, 116, 117, 114, 110]
def s2T (T : List UInt8) : List UInt8 := [97, 32, 61, 32, 40] ++ T ++ [10, 41, 10, 114, 101, 116, 117, 114, 110]
def tA : Tok := ⟨1, [97], 0, 0⟩
def tE : Tok := ⟨4, [61], 0, 0⟩
def tP : Tok := ⟨4, [40], 0, 0⟩
theorem prs_par (c : UInt8) : Lib.contains prsB [40, c] = false := by
 have h : ∀ n, n < 256 → Lib.contains prsB [40, UInt8.ofNat n] = false := by decide +kernel
 have := h c.toNat (UInt8.toNat_lt c); rwa [UInt8.ofNat_toNat] at this
theorem wordT_par (R : List UInt8) : wordT (40 :: R) = .tok ⟨4, [40], 0, 0⟩ 1 := by
 rw [wordT_cons, if_neg (by decide), if_neg (by decide), if_neg (by decide)]; have h : ¬(1 < (40 :: R).length ∧ (List.take 2 (40 :: R)).contains 32 = false ∧ Lib.contains prsB (List.take 2 (40 :: R)) = true) := by
   rintro ⟨h1, _, h2⟩
   cases R with
   | nil => exact absurd h1 (Nat.lt_irrefl 1)
   | cons c R =>
     rw [show List.take 2 (40 :: c :: R) = [40, c] from rfl, prs_par] at h2
     cases h2
 rw [if_neg h, if_pos (by decide)]; rfl
theorem lex_a (k : Nat) (R : List UInt8) : lexGo (k + 4) (97 :: 32 :: 61 :: 32 :: R) 0 = ((lexGo k R 0).cons tE).cons tA := by rfl
theorem lex_p (k : Nat) (R : List UInt8) : lexGo (k + 1) (40 :: R) 0 = (lexGo k R 0).cons tP := by
 rw [show lexGo (k + 1) (40 :: R) 0 = (match wordT (40 :: R) with | .err c => LR.fail c | .tok t j => (lexGo k ((40 :: R).drop j) 0).cons (t.at 0)) from rfl, wordT_par]; rfl
theorem round_lex {T : List UInt8} (hT : T.length ≤ 1000) : ((∃ c, lexT (s1T T) = .fail c) ∧ ∃ c, lexT (s2T T) = .fail c) ∨
   ∃ X l, lexT (s1T T) = .ok (tA :: tE :: (X ++ Z1 l)) ∧ lexT (s2T T) = .ok (tA :: tE :: tP :: (X ++ Z2 l)) := by
 have l1 : (s1T T).length = T.length + 11 := by simp [s1T]
 have l2 : (s2T T).length = T.length + 14 := by simp [s2T]
 unfold lexT; rw [if_neg (by omega), if_neg (by omega), l1, l2]; rw [show T.length + 11 + 1 = (T.length + 8) + 4 by omega, show T.length + 14 + 1 = ((T.length + 10) + 1) + 4 by omega]; rw [show s1T T = 97 :: 32 :: 61 :: 32 :: (T ++ 10 :: [114, 101, 116, 117, 114, 110]) from by simp [s1T], show s2T T = 97 :: 32 :: 61 :: 32 :: 40 :: (T ++ 10 :: [41, 10, 114, 101, 116, 117, 114, 110]) from by simp [s2T]]; rw [lex_a, lex_a, lex_p]; have h1 := lex_nl T.length T [114, 101, 116, 117, 114, 110] 0 (T.length + 1) (T.length + 8) (Nat.le_refl _) (by omega) (by simp); have h2 := lex_nl T.length T [41, 10, 114, 101, 116, 117, 114, 110] 0 (T.length + 1) (T.length + 10) (Nat.le_refl _) (by omega) (by simp); rcases h1 with ⟨c, h3, h4⟩ | ⟨X, l, h3, h4⟩
 · rcases h2 with ⟨c', h5, h6⟩ | ⟨X, l, h5, h6⟩
   · rw [h4, h6]; exact .inl ⟨⟨c, rfl⟩, ⟨c', rfl⟩⟩
   · rw [h3] at h5; cases h5
 · rcases h2 with ⟨c', h5, h6⟩ | ⟨X', l', h5, h6⟩
   · rw [h3] at h5; cases h5
   · rw [h3] at h5; injection h5 with h5; obtain ⟨h5, h7⟩ := List.append_inj' h5 rfl; have h7 : l = l' := by simpa [endT] using h7
     subst h5; subst h7
     rw [h4, h6]; refine .inr ⟨X, ⟨l + 1, l + 1, l + 1, l + 1 + 1, l + 1 + 1⟩, ?_, ?_⟩ <;> rfl
theorem blk (k : Nat) (d : Int) (a : Tr) (ts : List Tok) (h : endsB (hd ts) = false) : run (k + 1) (.blockL a) d ts = (run k .stmt d ts).bind (fun s ts _ => match kindOf s == 8 with
       | true => .ok (snoc a s) ts false
       | false => run k (.blockL (snoc a s)) d ts) := by
 simp only [run, h]; rfl
theorem asg (k : Nat) (q : Tok) (Q : List Tok) : run (k + 4) .stmt 0 (tA :: tE :: q :: Q) = (run (k + 2) (.expr 0) 0 (q :: Q)).bind (fun r ts _ => .ok (.st 2 [] (lf 6 0 [97]) r .nil .nil .nil) ts false) := rfl
theorem par (j : Nat) (q : Tok) (Q : List Tok) : run (j + 6) (.expr 0) 0 (tP :: q :: Q) = ((((run (j + 1) (.expr 0) 1 (q :: Q)).bind (fun e ts _ => mustT [41] ts fun ts => .ok e ts false)).bind (fun e ts _ => run (j + 3) (.postL e true) 0 ts)).bind (fun l ts _ => run (j + 5) (.exprL l 0) 0 ts)) := rfl
theorem ret (k : Nat) (d : Int) (a : Tr) (x y : Int) : run (k + 2) (.blockL a) d [⟨4, sReturn, 0, x⟩, endT y] = .ok (snoc a (.st 8 [] .nil .nil .nil .nil .nil)) [endT y] false := rfl
theorem close_no (k : Nat) (d : Int) (a : Tr) (ts : List Tok) (h : is1 [41] ts = true) : run (k + 6) (.blockL a) d ts = .fail 4 := by
 have h4 := isB_kind h; have ht : (hd ts).text = [41] := by
   unfold is1 isB at h; rw [Bool.and_eq_true] at h; simpa using h.2
 have hb : ∀ ss : List (List UInt8), ss.contains [41] = false → isB (hd ts) ss = false := fun ss hs => by
   unfold isB; rw [ht, hs, Bool.and_false]
 have he : endsB (hd ts) = false := by
   unfold endsB; rw [h4, hb _ (by decide)]; rfl
 rw [blk _ _ _ _ he]; have h1 : ∀ d, run (k + 1) .signed d ts = .fail 4 := fun d => by
   simp only [run]; have hi : ∀ s : List UInt8, ([s] : List (List UInt8)).contains [41] = false → ¬is1 s ts = true := fun s hs => by
     unfold is1; rw [hb _ hs]; exact Bool.false_ne_true
   rw [if_neg (hi sNil (by decide)), if_neg (hi sTrue (by decide)), if_neg (hi sFalse (by decide)), if_neg (hi [40] (by decide)), if_neg (hi sFunction (by decide)), if_neg (hi [123] (by decide))]
 have h2 : ∀ d, run (k + 2) .primary d ts = .fail 4 := fun d => by
   rw [show run (k + 2) .primary d ts = if (hd ts).kind = 1 then .ok (lf 6 0 (hd ts).text) (adv ts) false
     else if (hd ts).kind = 2 then .ok (lf 4 (hd ts).n []) (adv ts) false
     else if (hd ts).kind = 3 then .ok (lf 5 0 (hd ts).text) (adv ts) false
     else run (k + 1) .signed d ts from rfl, h4, h1]
   rfl
 have h3 : ∀ d, run (k + 4) .simple d ts = .fail 4 := fun d => by
   rw [show run (k + 4) .simple d ts = ((run (k + 2) .primary d ts).bind fun e ts' _ => run (k + 2) (.postL e (is1 [40] ts)) d ts').bind fun e ts own =>
     match is1 [61] ts && !own && (kindOf e == 6 || kindOf e == 7) with
     | true => (run (k + 3) (.expr 0) d (adv ts)).bind fun r ts _ => .ok (.st 2 [] e r .nil .nil .nil) ts false
     | false => match !is1 [61] ts && !own && kindOf e == 8 with
       | true => .ok (.st 3 [] .nil e .nil .nil .nil) ts false
       | false => .fail 4 from rfl, h2]
   rfl
 have h5 : run (k + 5) .stmt d ts = run (k + 4) .simple d ts := by
   simp only [run, h4, ht]; rfl
 rw [h5, h3]; rfl
theorem round_pure (j : Nat) {T : List UInt8} (hT : T.length ≤ 1000) (hj : 9000 ≤ j) {t1 t2 : Tr} {R1 R2 : List Tok} {o1 o2 : Bool} (h1 : parseS (j + 10) (s1T T) = .ok t1 R1 o1) (h2 : parseS (j + 10) (s2T T) = .ok t2 R2 o2) (hl : len t1 = 2) : t1 = t2 := by
 unfold parseS at h1 h2; rcases round_lex hT with ⟨⟨c, h3⟩, _⟩ | ⟨X, l, h3, h4⟩
 · rw [h3] at h1; cases h1
 have hg := lexT_ok h3; rw [h3] at h1; rw [h4] at h2; dsimp only at h1 h2; unfold parseT at h1 h2; have eZ1 : ∃ q Q, X ++ Z1 l = q :: Q := by cases X with | nil => exact ⟨_, _, rfl⟩ | cons x X => exact ⟨_, _, rfl⟩
 have eZ2 : ∃ q Q, X ++ Z2 l = q :: Q := by cases X with | nil => exact ⟨_, _, rfl⟩ | cons x X => exact ⟨_, _, rfl⟩
 have hcut : Cut l (X ++ Z1 l) (X ++ Z2 l) := ⟨X, rfl, rfl⟩; obtain ⟨q1, Q1, e1⟩ := eZ1; obtain ⟨q2, Q2, e2⟩ := eZ2; rw [e1] at h1 hg hcut; rw [e2] at h2 hcut; rw [show run (j + 10) .block 0 (tA :: tE :: q1 :: Q1) = run (j + 8 + 1) (.blockL .nil) 0 (tA :: tE :: q1 :: Q1) from rfl, blk _ _ _ _ rfl, show j + 8 = (j + 4) + 4 from rfl, asg] at h1; rw [show run (j + 10) .block 0 (tA :: tE :: tP :: q2 :: Q2) = run (j + 8 + 1) (.blockL .nil) 0 (tA :: tE :: tP :: q2 :: Q2) from rfl, blk _ _ _ _ rfl, show j + 8 = (j + 4) + 4 from rfl, asg, par] at h2; have hT1 : TG (q1 :: Q1) := (hg.1.adv (by simp [hd, tA])).1.adv (by simp [hd, tA, tE, adv]) |>.1
 have hlen : (tA :: tE :: q1 :: Q1).length ≤ T.length + 13 := by
   have := hg.2.1; simp only [s1T, List.length_append, List.length_cons, List.length_nil] at this ⊢; omega
 have hgood := run_good (j + 6) (.expr 0) 0 (q1 :: Q1) hT1 trivial (by simp only [List.length_cons, rank] at hlen ⊢; omega); rw [show j + 4 + 2 = j + 6 from rfl] at h1
 cases hr : run (j + 6) (.expr 0) 0 (q1 :: Q1) with
 | oof => rw [hr] at hgood; exact hgood.elim
 | fail c => rw [hr] at h1; cases h1
 | ok r R o =>
   rw [hr] at h1 hgood; have hR : TG R := hgood.1; rw [show ((Res.ok r R o).bind fun r ts _ => Res.ok (.st 2 [] (lf 6 0 [97]) r .nil .nil .nil) ts false) = .ok (.st 2 [] (lf 6 0 [97]) r .nil .nil .nil) R false from rfl] at h1; by_cases hsh : R.length < 2
   · exfalso
     have h5 : (hd R).kind = 5 := by
       match R, hR, hsh with
       | [t], h, _ => exact h
       | t :: u :: R, _, h => exact absurd h (by simp)
     have hb : run (j + 8) (.blockL (snoc .nil (.st 2 [] (lf 6 0 [97]) r .nil .nil .nil))) 0 R = .ok (snoc .nil (.st 2 [] (lf 6 0 [97]) r .nil .nil .nil)) R false := by
       have he : endsB (hd R) = true := by unfold endsB; rw [h5]; rfl
       simp only [run, he]
     rw [show ((Res.ok (Tr.st 2 [] (lf 6 0 [97]) r .nil .nil .nil) R false).bind fun s ts _ => match kindOf s == 8 with
       | true => Res.ok (snoc .nil s) ts false
       | false => run (j + 4 + 4) (.blockL (snoc .nil s)) 0 ts) = run (j + 8) (.blockL (snoc .nil (.st 2 [] (lf 6 0 [97]) r .nil .nil .nil))) 0 R from rfl, hb] at h1
     simp only [Res.bind, h5] at h1; injection h1 with h1 _ _; rw [← h1] at hl; exact absurd hl (by simp [snoc, len])
   · have hk : (((Res.ok (Tr.st 2 [] (lf 6 0 [97]) r .nil .nil .nil) R false).bind fun s ts _ => match kindOf s == 8 with
       | true => Res.ok (snoc .nil s) ts false
       | false => run (j + 4 + 4) (.blockL (snoc .nil s)) 0 ts)) = run (j + 8) (.blockL (.cons (.st 2 [] (lf 6 0 [97]) r .nil .nil .nil) .nil)) 0 R := rfl
     rw [hk] at h1; rcases sim (j + 6) (j + 1) (.expr 0) 0 1 l _ _ rfl (by omega) hcut r R o hr (by omega) with (h5 | h5) | ⟨S, hc, h5⟩
     · rw [h5] at h2; cases h2
     · rw [h5] at h2; cases h2
     · rw [h5] at h2; rcases hc.cases with ⟨rfl, rfl⟩ | ⟨e, _, _, _⟩
       · have h1' : Res.ok (snoc (.cons (.st 2 [] (lf 6 0 [97]) r .nil .nil .nil) .nil) (.st 8 [] .nil .nil .nil .nil .nil)) [endT l.b] false = .ok t1 R1 o1 := h1; have h2' : Res.ok (snoc (.cons (.st 2 [] (lf 6 0 [97]) r .nil .nil .nil) .nil) (.st 8 [] .nil .nil .nil .nil .nil)) [endT l.e] false = .ok t2 R2 o2 := h2; injection h1' with h1' _ _; injection h2' with h2' _ _; rw [← h1', ← h2']
       · exfalso
         cases hb : is1 [41] S with
         | false =>
           have : ((Res.ok r S o).bind fun e ts _ => mustT [41] ts fun ts => .ok e ts false) = .fail 4 := by
             simp only [Res.bind, mustT, hb]
           rw [this] at h2
           cases h2
         | true =>
           rw [show j + 8 = (j + 2) + 6 from rfl, close_no _ _ _ R (by simp only [is1, e]; exact hb)] at h1
           cases h1
end Go.Proofs.YtoddjlclpnoomaaGreatDoor
namespace Go.Proofs.YtoddjlclpnoomaaGreatDoor
open Go.Sh
theorem catS (w : World) (cx cy : Bool) (a b : List UInt8) (h : a.length + b.length ≤ 5000) : (Bo .add 9 cx cy (str a) (str b)).run Tryz.prog w = .ok (str (a ++ b)) w := by
 simp only [go_sem, str, Bo]; simp [go_sem]
 rw [if_neg (by omega)]; congr 2
 try (apply ByteArray.ext; simp)
theorem rep_len {F : Nat → Prop} {w : World} : ∀ {t : Tr} {v : Value}, isList t = true → Rep F w t (.L v) → ∃ a c, v = .slice a (len t) c
 | .nil, v, _, h => by
   rcases h with h | ⟨b, c, h⟩
   · exact ⟨_, _, h⟩
   · exact ⟨_, _, h⟩
 | .cons a t, v, hl, ⟨b, n, c, u, h1, _, _, _, _, h6⟩ => by
   have e := rep_row t b 1 n hl h6; subst e; exact ⟨_, _, h1⟩
theorem law7 {w : World} {T : List UInt8} (g : GL w) : Calls Tryz.prog 7 #[str T] w (Ret (fun u w' => u = .bool true ∧ Keep [] w w') NP) := by
 refine s7 ?_; unfold S7; refine cf12 (c12 g) ?_ (NP.no (e := _)); rintro _ w1 ⟨rfl, K1⟩; refine V1.i (by simp [go_sem] <;> trivial) ?_; refine If.f ?_; refine V1.i (by simp [go_sem] <;> trivial) ?_; refine V1.i (v := .int .i64 ((min T.length 1000 : Nat) : Int)) (w' := w1) (by simp [go_sem]; omega) ?_; refine V1.i (toS w1 T (min T.length 1000) (Nat.min_le_left _ _)) ?_; have hU : (T.take (min T.length 1000)).length ≤ 1000 := by rw [List.length_take]; omega
 generalize T.take (min T.length 1000) = U at hU ⊢; refine V1.i (catS w1 _ _ [97, 32, 61, 32] U (by simp only [List.length_cons, List.length_nil]; omega)) ?_; refine V1.i (catS w1 _ _ ([97, 32, 61, 32] ++ U) [10, 114, 101, 116, 117, 114, 110] (by simp only [List.length_append, List.length_cons, List.length_nil]; omega)) ?_; have b1 := parse_bound (s := s1T U) (by simp [s1T]; omega); have b2 := parse_bound (s := s2T U) (by simp [s2T]; omega); refine cf13 (c13 w1 (s1T U) (g.new K1) pfuel (by unfold pfuel fuelMax; omega) _ rfl (fun h => by rw [h] at b1; exact b1)) ?_ (NP.no (e := _)); rintro v w2 ⟨q1, K2⟩; have k2 := K1.trans K2
 cases h1 : parseS pfuel (s1T U) with
 | oof => rw [h1] at b1; exact b1.elim
 | fail c =>
   rw [h1] at q1; obtain ⟨bb, line, rfl, _, _⟩ := q1; refine V1.i (by simp [go_sem] <;> trivial) ?_; refine V1.i (by simp [go_sem] <;> trivial) ?_; refine V1.i (catS w2 _ _ [97, 32, 61, 32, 40] U (by simp only [List.length_cons, List.length_nil]; omega)) ?_; refine V1.i (catS w2 _ _ ([97, 32, 61, 32, 40] ++ U) [10, 41, 10, 114, 101, 116, 117, 114, 110] (by simp only [List.length_append, List.length_cons, List.length_nil]; omega)) ?_; refine cf13 (c13 w2 (s2T U) (g.new k2) pfuel (by unfold pfuel fuelMax; omega) _ rfl (fun h => by rw [h] at b2; exact b2)) ?_ (NP.no (e := _)); rintro v w3 ⟨q2, K3⟩; have ht : ∃ x y, v = .tuple #[x, y] := by
     cases h2 : parseS pfuel (s2T U) with
     | oof => rw [h2] at b2; exact b2.elim
     | fail c => rw [h2] at q2; obtain ⟨b, l, h, _⟩ := q2; exact ⟨_, _, h⟩
     | ok t ts o => rw [h2] at q2; obtain ⟨lv, h, _⟩ := q2; exact ⟨_, _, h⟩
   obtain ⟨x, y, rfl⟩ := ht; refine V1.i (by simp [go_sem] <;> trivial) ?_; refine V1.i (by simp [go_sem] <;> trivial) ?_; refine V1.i (neNil _ _ _ _) ?_; refine J1.go (Gd.tf ?_); refine V1.i (by simp [go_sem] <;> trivial) ?_; refine If.t ?_; exact ⟨rfl, k2.trans K3⟩
 | ok t1 ts1 o1 =>
   rw [h1] at q1 b1; obtain ⟨lv1, rfl, rl1, il1⟩ := q1; refine V1.i (by simp [go_sem] <;> trivial) ?_; refine V1.i (by simp [go_sem] <;> trivial) ?_; refine V1.i (catS w2 _ _ [97, 32, 61, 32, 40] U (by simp only [List.length_cons, List.length_nil]; omega)) ?_; refine V1.i (catS w2 _ _ ([97, 32, 61, 32, 40] ++ U) [10, 41, 10, 114, 101, 116, 117, 114, 110] (by simp only [List.length_append, List.length_cons, List.length_nil]; omega)) ?_; refine cf13 (c13 w2 (s2T U) (g.new k2) pfuel (by unfold pfuel fuelMax; omega) _ rfl (fun h => by rw [h] at b2; exact b2)) ?_ (NP.no (e := _)); rintro v w3 ⟨q2, K3⟩; have k3 := k2.trans K3
   cases h2 : parseS pfuel (s2T U) with
   | oof => rw [h2] at b2; exact b2.elim
   | fail c =>
     rw [h2] at q2; obtain ⟨bb, line, rfl, _, _⟩ := q2; refine V1.i (by simp [go_sem] <;> trivial) ?_; refine V1.i (by simp [go_sem] <;> trivial) ?_; refine V1.i (neNN _ _) ?_; refine J1.go (Gd.ff ?_); refine V1.i (neNil _ _ _ _) ?_; refine V1.i (by simp [go_sem] <;> trivial) ?_; refine If.t ?_; exact ⟨rfl, k3⟩
   | ok t2 ts2 o2 =>
     rw [h2] at q2 b2; obtain ⟨lv2, rfl, rl2, il2⟩ := q2; refine V1.i (by simp [go_sem] <;> trivial) ?_; refine V1.i (by simp [go_sem] <;> trivial) ?_; refine V1.i (neNN _ _) ?_; refine J1.go (Gd.ff ?_); refine V1.i (neNN _ _) ?_; refine V1.i (by simp [go_sem] <;> trivial) ?_; refine If.f ?_; obtain ⟨a1, c1, rfl⟩ := rep_len il1 rl1; refine V1.i (by simp [go_sem] <;> trivial) ?_; refine V1.i (v := .bool (!((len t1 : Int) == 2))) (w' := w3) (by simp [go_sem, Bo]; rfl) ?_; by_cases hl : len t1 = 2
     · rw [show (!((len t1 : Int) == 2)) = false by simp [hl]]; refine If.f ?_; have e : t1 = t2 := round_pure (299990) hU (by omega) h1 h2 hl; subst e; obtain ⟨hw, hz⟩ := b1.2; have hne : prn (8 * tz t1 + 2) (.stmts t1) [] 0 ≠ .oof := prn_fuel _ _ _ _ hw (by simp only [pz]; omega); refine cf9 (c9 (g.new k3) (8 * tz t1 + 2) (Rep.new K3 _ _ rl1) hne (fun _ _ _ => hw)) ?_ (NP.no (e := _)); rintro _ w4 ⟨rfl, K4⟩; refine V1.i (by simp [go_sem] <;> trivial) ?_; refine V1.i (by simp [go_sem] <;> trivial) ?_; refine cf9 (c9 (g.new (k3.trans K4)) (8 * tz t1 + 2) (Rep.new K4 _ _ rl2) hne (fun _ _ _ => hw)) ?_ (NP.no (e := _)); rintro _ w5 ⟨rfl, K5⟩; refine V1.i (by simp [go_sem] <;> trivial) ?_; refine V1.i (by simp [go_sem] <;> trivial) ?_; refine V1.i (eqS w5 _ _ _ _) ?_; rw [show ((outP (8 * tz t1 + 2) t1).1 == (outP (8 * tz t1 + 2) t1).1) = true by simp]; refine J1.go (Gd.tt ?_)
       refine V1.i (v := .bool true) (w' := w5) (by simp [go_sem, Bo]) ?_; refine V1.i (by simp [go_sem] <;> trivial) ?_; refine J1.go (Gd.tt ?_); have k4 := (k3.trans K4).trans K5; have hnd : nd t1 ≤ 65536 := by
         have h3 := parse_good (s := s1T U) (n := pfuel) (by have : (s1T U).length = U.length + 11 := (by simp [s1T]); rw [this]; unfold pfuel; omega); rw [h1] at h3; have h4 := nd_cn t1; have h5 := h3.2.2.1; have : (s1T U).length = U.length + 11 := (by simp [s1T]); omega
       refine cf14 (c14 hz hz hw hw (Rep.imp (fun _ _ _ => trivial) _ _ (Rep.new ((K3.trans K4).trans K5) _ _ rl1)) (Rep.imp (G := fun _ => True) (fun _ _ _ => trivial) _ _ (Rep.new (K4.trans K5) _ _ rl2))) ?_ (NP.no (e := _)); rintro _ w6 ⟨rfl, K6⟩; rw [show ((decide (nd t1 ≤ 65536) && decide (nd t1 ≤ 65536)) && eqT t1 t1) = true by simp [hnd, eqT_refl]]; refine V1.i (by simp [go_sem] <;> trivial) ?_; exact ⟨rfl, k4.trans K6⟩
     · rw [show (!((len t1 : Int) == 2)) = true by simp; omega]; refine If.t ?_; exact ⟨rfl, k3⟩
end Go.Proofs.YtoddjlclpnoomaaGreatDoor
namespace Go.Proofs.YtoddjlclpnoomaaGreatDoor
open Go.Sh Go.RowKit Go.Lib Go.Shelf Go.ChangeShapes Go.WideShapes Go.ChangeAt
theorem round_lifted (os : Os) (started : os.Started) (H : Type) (enc : TypeId × Value → H) :
   ReturnsInHanded {} Tryz.checked os 7 .any (fun w args => (Rows.printRoundSpec.pre enc Tryz.prog Tryz.f7 [] false w args ∧ laidMetH Tryz.prog laidL w) ∧ sizedMet enc Tryz.prog Tryz.f7 (OpenSpec.ofChange Rows.printRoundSpec) false w args)
     (Rows.printRoundSpec.post enc Tryz.prog Tryz.f7 false true false false) := by
 refine rih_open (C := Tryz.checked) (X := fun w _ => laidMetH Tryz.prog laidL w) (fun w w' _ hh h => laid_heap w w' hh h) own started (by kernel_rfl) Tryz.func7
   (ChangeSpec.witness_shaped (enc := enc) (C := Tryz.checked) (os := os) (X := fun w _ => laidMetH Tryz.prog laidL w) false (startW os) #[.string ⟨#[]⟩] 8 (startW_os os) (start_shaped os _) (by kernel_rfl) (by kernel_rfl) (by kernel_rfl) (start_met os _)) ?_
 intro W base args ds gs before hs hval0 hW hL; have hval : ∀ (j : Nat) t v, Tryz.f7.params[j]? = some t → args[j]? = some v → Value.okWide Tryz.prog W .any base t v := hval0; have hW' := hW; obtain ⟨p, q, hA0, hV, rfl, _, _⟩ := hW; have hA : DataW.TrodAll enc Tryz.prog W 0 (fun _ => true) true Tryz.f7.params.toList args.toList ds p := hA0; rw [Tryz.params7] at hA hval; obtain ⟨v0, d0, rfl, rfl, h0⟩ := trodAll_one hA; obtain ⟨rfl, rfl⟩ := trodVars_none hV; clear hA0; simp only [List.append_nil] at hW'; have hlt : ∀ x ∈ p, x.block < W.heap.size := fun x hx => by simpa using hW'.lt x hx
 obtain ⟨s, rfl⟩ := okWide_string Tryz.underlying9 (hval 0 9 v0 rfl rfl); refine (law7 (T := s.data.toList) (gl_of_laid hL hs)).mono ?_; rintro e W' h
 cases e with
 | returned u =>
   obtain ⟨rfl, K⟩ := h; exact ⟨_, rfl, _, _, _, [], _, [], hW', trodAll_mk1 (shut_bool Tryz.underlying4 true), trodAll_mk1 (keep_trod (by kernel_rfl) (of_decide_eq_true (by kernel_rfl)) h0 K hlt), rfl, keep_keptBut K _, fun h => by cases h⟩
 | panicked c => exact h.elim
 | outgrown => exact h.elim
theorem round_holds : Rows.PrintRoundSaid :=
  OpenClaim.holds_of_wide 7 Tryz.f7 rfl rfl rfl rfl rfl rfl rfl ⟨rfl, rfl, rfl, rfl, rfl⟩ rfl rfl rfl rfl rfl (by kernel_rfl) Tryz.func7 (by kernel_rfl)
    (of_decide_eq_true (by kernel_rfl)) (by unfold Func.isWrapper; first | (rw [if_pos (by decide +kernel)]; kernel_rfl) | (rw [if_neg (by decide +kernel)]; exact ⟨rfl, rfl⟩))
    (fun os started H enc _ => round_lifted os started H enc)
theorem round_card : Rows.PrintRoundCardSaid :=
 Claim7.holds_tied_plain_at .later [] [.data, .data, .data, .data, .handle, .sentinel, .sentinel, .listed, .data, .pinned] true (true, "069f827847f5d06f74c88ef4072bea09f2cf19a41c1836ac65fb1bb81358d246") true
   round_holds (fun _ h => by cases h) (by kernel_rfl) (fun _ h => by cases h) printRound_row_tie rfl ⟨rfl, rfl⟩ (by kernel_rfl) rfl
   (fun f fn hf hfn => by
     obtain rfl : f = 7 := Option.some.inj ((show Tryz.prog.funcNamed "tallow/tallowlaw06.PrintRound" = some 7 by kernel_rfl).symm.trans hf) |>.symm
     obtain rfl : fn = Tryz.f7 := (Option.some.inj (Tryz.func7.symm.trans hfn)).symm; exact ⟨by kernel_rfl, fun j t ht => by
       rw [Tryz.params7] at ht; have hm : t ∈ [9] := by simpa using Array.mem_of_getElem? ht
       have hall : ([9].all fun u => !Tryz.prog.wantsStandIn u) = true := by kernel_rfl
       exact (show Tryz.prog.wantsStandIn t = false by simpa using List.all_eq_true.1 hall t hm)⟩)
   (by kernel_rfl)
end Go.Proofs.YtoddjlclpnoomaaGreatDoor

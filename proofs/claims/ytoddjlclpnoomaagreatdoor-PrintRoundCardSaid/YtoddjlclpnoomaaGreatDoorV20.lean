import Derived.Test.YtoddjlclpnoomaaGreatDoorV19
set_option linter.unusedVariables false
set_option linter.unusedSimpArgs false
set_option maxRecDepth 100000
namespace Go.Proofs.YtoddjlclpnoomaaGreatDoor
structure Ln where
  a : Int
  b : Int
  c : Int
  d : Int
  e : Int
def Z1 (l : Ln) : List Tok := [⟨4, sReturn, 0, l.a⟩, endT l.b]
def Z2 (l : Ln) : List Tok := [⟨4, [41], 0, l.c⟩, ⟨4, sReturn, 0, l.d⟩, endT l.e]
def Cut (l : Ln) (R S : List Tok) : Prop := ∃ Y, R = Y ++ Z1 l ∧ S = Y ++ Z2 l
theorem Cut.cases {l : Ln} {R S : List Tok} (h : Cut l R S) : (R = Z1 l ∧ S = Z2 l) ∨ (hd R = hd S ∧ Cut l (adv R) (adv S) ∧ 1 < R.length ∧ 1 < S.length) := by
 obtain ⟨Y, rfl, rfl⟩ := h; match Y with
 | [] => exact .inl ⟨rfl, rfl⟩
 | [y] => exact .inr ⟨rfl, ⟨[], rfl, rfl⟩, by simp [Z1], by simp [Z2]⟩
 | y :: y2 :: Y => exact .inr ⟨rfl, ⟨y2 :: Y, rfl, rfl⟩, by simp [Z1], by simp [Z2]⟩
def Sim (l : Ln) (r s : Res) : Prop := ∀ t R o, r = .ok t R o → 2 ≤ R.length → (s = .fail 3 ∨ s = .oof) ∨ ∃ S, Cut l R S ∧ s = .ok t S o
theorem Sim.fail {l : Ln} {c : Int} {s : Res} : Sim l (.fail c) s := fun _ _ _ h => by cases h
theorem Sim.oof {l : Ln} {s : Res} : Sim l .oof s := fun _ _ _ h => by cases h
theorem Sim.oof2 {l : Ln} {s : Res} : Sim l s .oof := fun _ _ _ _ _ => .inl (.inr rfl)
theorem Sim.ok {l : Ln} {t : Tr} {R S : List Tok} {o : Bool} (h : Cut l R S) : Sim l (.ok t R o) (.ok t S o) := fun _ _ _ e _ => by
 injection e with e1 e2 e3; subst e1; subst e2; subst e3
 exact .inr ⟨S, h, rfl⟩
theorem Sim.short {l : Ln} {t : Tr} {R : List Tok} {o : Bool} {s : Res} (h : R.length < 2) : Sim l (.ok t R o) s := fun _ _ _ e h2 => by
 injection e with e1 e2 e3; subst e2; omega
theorem Sim.bind {l : Ln} {r s : Res} {f g : Tr → List Tok → Bool → Res} (h : Sim l r s) (hf : ∀ t R S o, Cut l R S → Sim l (f t R o) (g t S o)) (hm : ∀ t R o, Mon R.length (f t R o)) : Sim l (r.bind f) (s.bind g) := by
 intro t R o e h2
 cases r with
 | fail c => cases e
 | oof => cases e
 | ok t' R' o' =>
   have e : f t' R' o' = .ok t R o := e; have hl := hm t' R' o' t R o e; rcases h t' R' o' rfl (by omega) with (h | h) | ⟨S, hc, h⟩
   · subst h; exact .inl (.inl rfl)
   · subst h; exact .inl (.inr rfl)
   · subst h; exact hf t' R' S o' hc t R o e h2
theorem Sim.open {l : Ln} {d1 d2 : Int} {f g : Int → Res} (hd : d1 ≤ d2) (hf : ∀ d1 d2, d1 ≤ d2 → Sim l (f d1) (g d2)) : Sim l (openT d1 f) (openT d2 g) := by
 unfold openT; by_cases h1 : 64 < d1 + 1
 · rw [decide_eq_true h1]; exact Sim.fail
 · rw [decide_eq_false h1]; by_cases h2 : 64 < d2 + 1
   · rw [decide_eq_true h2]; exact fun _ _ _ _ _ => .inl (.inl rfl)
   · rw [decide_eq_false h2]; exact hf _ _ (by omega)
theorem Sim.must {l : Ln} {s : List UInt8} {R S : List Tok} {f g : List Tok → Res} (h : Cut l R S) (hs : (s == sReturn) = false) (hf : ∀ R S, Cut l R S → Sim l (f R) (g S)) : Sim l (mustT s R f) (mustT s S g) := by
 unfold mustT; rcases h.cases with ⟨rfl, rfl⟩ | ⟨e, k, _, _⟩
 · rw [show is1 s (Z1 l) = false by simp [is1, isB, Z1, hd] at hs ⊢; exact fun h => hs h.symm]; exact Sim.fail
 · simp only [is1, e]
   cases isB (hd S) [s] with
   | true => exact hf _ _ k
   | false => exact Sim.fail
theorem Sim.name {l : Ln} {R S : List Tok} {f g : List UInt8 → List Tok → Res} (h : Cut l R S) (hf : ∀ nm R S, Cut l R S → Sim l (f nm R) (g nm S)) : Sim l (nameT R f) (nameT S g) := by
 unfold nameT; rcases h.cases with ⟨rfl, rfl⟩ | ⟨e, k, _, _⟩
 · exact Sim.fail
 · rw [e]
   cases (hd S).kind == 1 with
   | true => exact hf _ _ _ k
   | false => exact Sim.fail
theorem Cut.is {l : Ln} {R S : List Tok} (h : Cut l R S) (s : List UInt8) (h1 : (s == sReturn) = false) (h2 : (s == [41]) = false) : is1 s R = is1 s S ∧ (is1 s S = true → Cut l (adv R) (adv S)) := by
 rcases h.cases with ⟨rfl, rfl⟩ | ⟨e, k, _, _⟩
 · have e1 : is1 s (Z1 l) = false := by simp [is1, isB, Z1, hd] at h1 ⊢; exact fun h => h1 h.symm
   have e2 : is1 s (Z2 l) = false := by simp [is1, isB, Z2, hd] at h2 ⊢; exact fun h => h2 h.symm
   exact ⟨by rw [e1, e2], fun h => by rw [e2] at h; cases h⟩
 · exact ⟨by simp only [is1, e], fun _ => k⟩
theorem Cut.ends {l : Ln} {R S : List Tok} (h : Cut l R S) : endsB (hd R) = endsB (hd S) := by
 rcases h.cases with ⟨rfl, rfl⟩ | ⟨e, k, _, _⟩
 · rfl
 · rw [e]
theorem z1_kind {l : Ln} : (hd (Z1 l)).kind = 4 := rfl
def isT : Cl → Bool
  | .expr _ | .operand | .post | .primary | .signed | .args _ | .params _ | .items .. | .item => true
  | _ => false
theorem z1_no : ∀ (n : Nat) (c : Cl) (d : Int) (l : Ln), isT c = true → (∃ k, run n c d (Z1 l) = .fail k) ∨ run n c d (Z1 l) = .oof
 | 0, _, _, _, _ => .inr rfl
 | n + 1, c, d, l, h => by
   have ih := z1_no n; have hb : ∀ {r : Res} {f : Tr → List Tok → Bool → Res}, ((∃ k, r = .fail k) ∨ r = .oof) → (∃ k, r.bind f = .fail k) ∨ r.bind f = .oof := by
     rintro r f (⟨k, rfl⟩ | rfl)
     · exact .inl ⟨k, rfl⟩
     · exact .inr rfl
   cases c <;> first | cases h | skip
   case params acc => exact .inl ⟨4, rfl⟩
   case expr a => simp only [run]; exact hb (ih _ _ _ rfl)
   case operand => simp only [run]; rw [show isB (hd (Z1 l)) [sNot, [45], [35], [126]] = false from rfl]; exact ih _ _ _ rfl
   case post => simp only [run]; exact hb (ih _ _ _ rfl)
   case primary => simp only [run]; rw [if_neg (by rw [z1_kind]; decide), if_neg (by rw [z1_kind]; decide), if_neg (by rw [z1_kind]; decide)]; exact ih _ _ _ rfl
   case signed => exact .inl ⟨4, rfl⟩
   case args acc => simp only [run]; exact hb (ih _ _ _ rfl)
   case items ks ags => simp only [run]; exact hb (ih _ _ _ rfl)
   case item => simp only [run]; rw [if_neg (by rintro ⟨h, _⟩; rw [z1_kind] at h; revert h; decide), show is1 [91] (Z1 l) = false from rfl, if_neg (by decide)]; exact hb (ih _ _ _ rfl)
theorem Sim.bad {l : Ln} {r s : Res} (h : (∃ k, r = .fail k) ∨ r = .oof) : Sim l r s := by
 rcases h with ⟨k, rfl⟩ | rfl
 · exact Sim.fail
 · exact Sim.oof
theorem Sim.badb {l : Ln} {r s : Res} {f : Tr → List Tok → Bool → Res} (h : (∃ k, r = .fail k) ∨ r = .oof) : Sim l (r.bind f) s := by
 rcases h with ⟨k, rfl⟩ | rfl
 · exact Sim.fail
 · exact Sim.oof
theorem mon_c {n : Nat} {c : Cl} {d : Int} {ts : List Tok} {L : Nat} (h : ts.length ≤ L) : Mon L (run n c d ts) := run_mon n c d ts L h
theorem Sim.mon {l : Ln} {r s : Res} (h : Mon 1 r) : Sim l r s := fun t R o e h2 => by have := h t R o e; omega
theorem z1_bin : ∀ (n : Nat) (t : Tr) (k d : Int) (l : Ln), Mon 1 (run n (.bin t k) d (Z1 l))
 | 0, _, _, _, _ => Mon.oof
 | n + 1, t, k, d, l => by
   have ha : (adv (Z1 l)).length ≤ 1 := Nat.le_refl _; simp only [run]; rw [show ((hd (Z1 l)).text == [46, 46]) = false from rfl]; exact Mon.bind (mon_c ha) (fun _ _ _ h => Mon.ok h)
def okC : Cl → Bool
  | .inner s => !(s == sReturn) && !(s == [41])
  | _ => true
theorem sim : ∀ (n m : Nat) (c : Cl) (d1 d2 : Int) (l : Ln) (R S : List Tok), okC c = true → d1 ≤ d2 → Cut l R S → Sim l (run n c d1 R) (run m c d2 S)
 | 0, _, _, _, _, _, _, _, _, _, _ => Sim.oof
 | n + 1, 0, _, _, _, _, _, _, _, _, _ => Sim.oof2
 | n + 1, m + 1, c, d1, d2, l, R, S, hok, hd12, h => by
   have ih : ∀ (c : Cl) (d1 d2 : Int) (l : Ln) (R S : List Tok), okC c = true → d1 ≤ d2 → Cut l R S → Sim l (run n c d1 R) (run m c d2 S) := sim n m
   cases c with
   | block => simp only [run]; exact ih _ _ _ _ _ _ rfl hd12 h
   | blockL acc =>
     simp only [run]; rw [h.ends]
     cases endsB (hd S) with
     | true => exact Sim.ok h
     | false =>
       refine Sim.bind (ih _ _ _ _ _ _ rfl hd12 h) (fun t R S o k => ?_) (fun t R o => ?_)
       · cases kindOf t == 8 with
         | true => exact Sim.ok k
         | false => exact ih _ _ _ _ _ _ rfl hd12 k
       · repeat' (first
           | exact Mon.fail | exact Mon.oof
           | (refine Mon.ok ?_; first | assumption | exact Nat.le_refl _ | exact adv_le (by assumption) | exact adv_le (Nat.le_refl _) | exact adv_le (adv_le (by assumption)) | exact adv_le (adv_le (Nat.le_refl _)))
           | (refine mon_c ?_; first | assumption | exact Nat.le_refl _ | exact adv_le (by assumption) | exact adv_le (Nat.le_refl _) | exact adv_le (adv_le (by assumption)) | exact adv_le (adv_le (Nat.le_refl _)))
           | refine Mon.bind ?_ (fun _ _ _ _ => ?_)
           | (refine Mon.must ?_ (fun _ _ => ?_); first | assumption | exact Nat.le_refl _ | exact adv_le (by assumption) | exact adv_le (Nat.le_refl _) | exact adv_le (adv_le (by assumption)))
           | (refine Mon.name ?_ (fun _ _ _ => ?_); first | assumption | exact Nat.le_refl _ | exact adv_le (by assumption) | exact adv_le (Nat.le_refl _) | exact adv_le (adv_le (by assumption)))
           | refine Mon.open (fun _ => ?_)
           | split)
   | inner s =>
     simp only [run]; have h1 : (s == sReturn) = false ∧ (s == [41]) = false := by simpa [okC] using hok
     obtain ⟨e, k⟩ := h.is s h1.1 h1.2; rw [e]
     cases hb : is1 s S with
     | true => exact Sim.open hd12 (fun _ _ hh => ih _ _ _ _ _ _ rfl hh (k hb))
     | false => exact Sim.fail
   | stmt =>
     rcases h.cases with ⟨rfl, rfl⟩ | ⟨e, k, _, _⟩
     · rw [show run (n + 1) .stmt d1 (Z1 l) = .ok (.st 8 [] .nil .nil .nil .nil .nil) [endT l.b] false from rfl]; exact Sim.short (by simp)
     · simp only [run, e]; have k0 := k
       cases (hd S).kind == 4 with
       | false => exact ih _ _ _ _ _ _ rfl hd12 h
       | true =>
         by_cases hx : (hd S).text = sLocal
         · rw [if_pos hx, if_pos hx]; exact ih _ _ _ _ _ _ rfl hd12 h
         rw [if_neg hx, if_neg hx]; clear hx; by_cases hx : (hd S).text = sFunction
         · rw [if_pos hx, if_pos hx]; repeat' (first
             | exact Sim.fail | exact Sim.oof | exact Sim.oof2
             | exact Sim.ok (by assumption)
             | exact ih _ _ _ _ _ _ rfl (by assumption) (by assumption)
             | refine Sim.bind ?_ (fun _ _ _ _ _ => ?_) (fun _ _ _ => ?_)
             | refine Sim.open (by assumption) (fun _ _ _ => ?_)
             | refine Sim.must (by assumption) rfl (fun _ _ _ => ?_)
             | refine Sim.name (by assumption) (fun _ _ _ _ => ?_)
             | first
             | exact Mon.fail | exact Mon.oof
             | (refine Mon.ok ?_; first | assumption | exact Nat.le_refl _ | exact adv_le (by assumption) | exact adv_le (Nat.le_refl _) | exact adv_le (adv_le (by assumption)) | exact adv_le (adv_le (Nat.le_refl _)))
             | (refine mon_c ?_; first | assumption | exact Nat.le_refl _ | exact adv_le (by assumption) | exact adv_le (Nat.le_refl _) | exact adv_le (adv_le (by assumption)) | exact adv_le (adv_le (Nat.le_refl _)))
             | refine Mon.bind ?_ (fun _ _ _ _ => ?_)
             | (refine Mon.must ?_ (fun _ _ => ?_); first | assumption | exact Nat.le_refl _ | exact adv_le (by assumption) | exact adv_le (Nat.le_refl _) | exact adv_le (adv_le (by assumption)))
             | (refine Mon.name ?_ (fun _ _ _ => ?_); first | assumption | exact Nat.le_refl _ | exact adv_le (by assumption) | exact adv_le (Nat.le_refl _) | exact adv_le (adv_le (by assumption)))
             | refine Mon.open (fun _ => ?_)
             | split)
         rw [if_neg hx, if_neg hx]; clear hx; by_cases hx : (hd S).text = sDo
         · rw [if_pos hx, if_pos hx]; repeat' (first
             | exact Sim.fail | exact Sim.oof | exact Sim.oof2
             | exact Sim.ok (by assumption)
             | exact ih _ _ _ _ _ _ rfl (by assumption) (by assumption)
             | refine Sim.bind ?_ (fun _ _ _ _ _ => ?_) (fun _ _ _ => ?_)
             | refine Sim.open (by assumption) (fun _ _ _ => ?_)
             | refine Sim.must (by assumption) rfl (fun _ _ _ => ?_)
             | refine Sim.name (by assumption) (fun _ _ _ _ => ?_)
             | first
             | exact Mon.fail | exact Mon.oof
             | (refine Mon.ok ?_; first | assumption | exact Nat.le_refl _ | exact adv_le (by assumption) | exact adv_le (Nat.le_refl _) | exact adv_le (adv_le (by assumption)) | exact adv_le (adv_le (Nat.le_refl _)))
             | (refine mon_c ?_; first | assumption | exact Nat.le_refl _ | exact adv_le (by assumption) | exact adv_le (Nat.le_refl _) | exact adv_le (adv_le (by assumption)) | exact adv_le (adv_le (Nat.le_refl _)))
             | refine Mon.bind ?_ (fun _ _ _ _ => ?_)
             | (refine Mon.must ?_ (fun _ _ => ?_); first | assumption | exact Nat.le_refl _ | exact adv_le (by assumption) | exact adv_le (Nat.le_refl _) | exact adv_le (adv_le (by assumption)))
             | (refine Mon.name ?_ (fun _ _ _ => ?_); first | assumption | exact Nat.le_refl _ | exact adv_le (by assumption) | exact adv_le (Nat.le_refl _) | exact adv_le (adv_le (by assumption)))
             | refine Mon.open (fun _ => ?_)
             | split)
         rw [if_neg hx, if_neg hx]; clear hx; by_cases hx : (hd S).text = sWhile
         · rw [if_pos hx, if_pos hx]; repeat' (first
             | exact Sim.fail | exact Sim.oof | exact Sim.oof2
             | exact Sim.ok (by assumption)
             | exact ih _ _ _ _ _ _ rfl (by assumption) (by assumption)
             | refine Sim.bind ?_ (fun _ _ _ _ _ => ?_) (fun _ _ _ => ?_)
             | refine Sim.open (by assumption) (fun _ _ _ => ?_)
             | refine Sim.must (by assumption) rfl (fun _ _ _ => ?_)
             | refine Sim.name (by assumption) (fun _ _ _ _ => ?_)
             | first
             | exact Mon.fail | exact Mon.oof
             | (refine Mon.ok ?_; first | assumption | exact Nat.le_refl _ | exact adv_le (by assumption) | exact adv_le (Nat.le_refl _) | exact adv_le (adv_le (by assumption)) | exact adv_le (adv_le (Nat.le_refl _)))
             | (refine mon_c ?_; first | assumption | exact Nat.le_refl _ | exact adv_le (by assumption) | exact adv_le (Nat.le_refl _) | exact adv_le (adv_le (by assumption)) | exact adv_le (adv_le (Nat.le_refl _)))
             | refine Mon.bind ?_ (fun _ _ _ _ => ?_)
             | (refine Mon.must ?_ (fun _ _ => ?_); first | assumption | exact Nat.le_refl _ | exact adv_le (by assumption) | exact adv_le (Nat.le_refl _) | exact adv_le (adv_le (by assumption)))
             | (refine Mon.name ?_ (fun _ _ _ => ?_); first | assumption | exact Nat.le_refl _ | exact adv_le (by assumption) | exact adv_le (Nat.le_refl _) | exact adv_le (adv_le (by assumption)))
             | refine Mon.open (fun _ => ?_)
             | split)
         rw [if_neg hx, if_neg hx]; clear hx; by_cases hx : (hd S).text = sFor
         · rw [if_pos hx, if_pos hx]; repeat' (first
             | exact Sim.fail | exact Sim.oof | exact Sim.oof2
             | exact Sim.ok (by assumption)
             | exact ih _ _ _ _ _ _ rfl (by assumption) (by assumption)
             | refine Sim.bind ?_ (fun _ _ _ _ _ => ?_) (fun _ _ _ => ?_)
             | refine Sim.open (by assumption) (fun _ _ _ => ?_)
             | refine Sim.must (by assumption) rfl (fun _ _ _ => ?_)
             | refine Sim.name (by assumption) (fun _ _ _ _ => ?_)
             | first
             | exact Mon.fail | exact Mon.oof
             | (refine Mon.ok ?_; first | assumption | exact Nat.le_refl _ | exact adv_le (by assumption) | exact adv_le (Nat.le_refl _) | exact adv_le (adv_le (by assumption)) | exact adv_le (adv_le (Nat.le_refl _)))
             | (refine mon_c ?_; first | assumption | exact Nat.le_refl _ | exact adv_le (by assumption) | exact adv_le (Nat.le_refl _) | exact adv_le (adv_le (by assumption)) | exact adv_le (adv_le (Nat.le_refl _)))
             | refine Mon.bind ?_ (fun _ _ _ _ => ?_)
             | (refine Mon.must ?_ (fun _ _ => ?_); first | assumption | exact Nat.le_refl _ | exact adv_le (by assumption) | exact adv_le (Nat.le_refl _) | exact adv_le (adv_le (by assumption)))
             | (refine Mon.name ?_ (fun _ _ _ => ?_); first | assumption | exact Nat.le_refl _ | exact adv_le (by assumption) | exact adv_le (Nat.le_refl _) | exact adv_le (adv_le (by assumption)))
             | refine Mon.open (fun _ => ?_)
             | split)
         rw [if_neg hx, if_neg hx]; clear hx; by_cases hx : (hd S).text = sIf
         · rw [if_pos hx, if_pos hx]; repeat' (first
             | exact Sim.fail | exact Sim.oof | exact Sim.oof2
             | exact Sim.ok (by assumption)
             | exact ih _ _ _ _ _ _ rfl (by assumption) (by assumption)
             | refine Sim.bind ?_ (fun _ _ _ _ _ => ?_) (fun _ _ _ => ?_)
             | refine Sim.open (by assumption) (fun _ _ _ => ?_)
             | refine Sim.must (by assumption) rfl (fun _ _ _ => ?_)
             | refine Sim.name (by assumption) (fun _ _ _ _ => ?_)
             | first
             | exact Mon.fail | exact Mon.oof
             | (refine Mon.ok ?_; first | assumption | exact Nat.le_refl _ | exact adv_le (by assumption) | exact adv_le (Nat.le_refl _) | exact adv_le (adv_le (by assumption)) | exact adv_le (adv_le (Nat.le_refl _)))
             | (refine mon_c ?_; first | assumption | exact Nat.le_refl _ | exact adv_le (by assumption) | exact adv_le (Nat.le_refl _) | exact adv_le (adv_le (by assumption)) | exact adv_le (adv_le (Nat.le_refl _)))
             | refine Mon.bind ?_ (fun _ _ _ _ => ?_)
             | (refine Mon.must ?_ (fun _ _ => ?_); first | assumption | exact Nat.le_refl _ | exact adv_le (by assumption) | exact adv_le (Nat.le_refl _) | exact adv_le (adv_le (by assumption)))
             | (refine Mon.name ?_ (fun _ _ _ => ?_); first | assumption | exact Nat.le_refl _ | exact adv_le (by assumption) | exact adv_le (Nat.le_refl _) | exact adv_le (adv_le (by assumption)))
             | refine Mon.open (fun _ => ?_)
             | split)
         rw [if_neg hx, if_neg hx]; clear hx; by_cases hx : (hd S).text = sReturn
         · rw [if_pos hx, if_pos hx, k.ends]
           cases endsB (hd (adv S)) with
           | true => exact Sim.ok k
           | false =>
             refine Sim.bind (ih _ _ _ _ _ _ rfl hd12 k) (fun t R S o k => ?_) (fun t R o => ?_)
             · try simp only []
               rw [k.ends]
               cases endsB (hd S) with
               | true => exact Sim.ok k
               | false => exact Sim.fail
             · repeat' (first
                 | exact Mon.fail | exact Mon.oof
                 | (refine Mon.ok ?_; first | assumption | exact Nat.le_refl _ | exact adv_le (by assumption) | exact adv_le (Nat.le_refl _) | exact adv_le (adv_le (by assumption)) | exact adv_le (adv_le (Nat.le_refl _)))
                 | (refine mon_c ?_; first | assumption | exact Nat.le_refl _ | exact adv_le (by assumption) | exact adv_le (Nat.le_refl _) | exact adv_le (adv_le (by assumption)) | exact adv_le (adv_le (Nat.le_refl _)))
                 | refine Mon.bind ?_ (fun _ _ _ _ => ?_)
                 | (refine Mon.must ?_ (fun _ _ => ?_); first | assumption | exact Nat.le_refl _ | exact adv_le (by assumption) | exact adv_le (Nat.le_refl _) | exact adv_le (adv_le (by assumption)))
                 | (refine Mon.name ?_ (fun _ _ _ => ?_); first | assumption | exact Nat.le_refl _ | exact adv_le (by assumption) | exact adv_le (Nat.le_refl _) | exact adv_le (adv_le (by assumption)))
                 | refine Mon.open (fun _ => ?_)
                 | split)
         rw [if_neg hx, if_neg hx]; clear hx; by_cases hx : (hd S).text = sBreak
         · rw [if_pos hx, if_pos hx]; exact Sim.ok k
         rw [if_neg hx, if_neg hx]; clear hx; by_cases hx : (hd S).text = sTry
         · rw [if_pos hx, if_pos hx]; refine Sim.bind (ih _ _ _ _ _ _ rfl hd12 h) (fun t R S o k => ?_) (fun t R o => ?_)
           · obtain ⟨e, k2⟩ := k.is sCatch rfl rfl; try simp only []
             rw [e]
             cases hb : is1 sCatch S with
             | false => exact Sim.fail
             | true =>
               have k3 := k2 hb; repeat' (first
                 | exact Sim.fail | exact Sim.oof | exact Sim.oof2
                 | exact Sim.ok (by assumption)
                 | exact ih _ _ _ _ _ _ rfl (by assumption) (by assumption)
                 | refine Sim.bind ?_ (fun _ _ _ _ _ => ?_) (fun _ _ _ => ?_)
                 | refine Sim.open (by assumption) (fun _ _ _ => ?_)
                 | refine Sim.must (by assumption) rfl (fun _ _ _ => ?_)
                 | refine Sim.name (by assumption) (fun _ _ _ _ => ?_)
                 | first
                 | exact Mon.fail | exact Mon.oof
                 | (refine Mon.ok ?_; first | assumption | exact Nat.le_refl _ | exact adv_le (by assumption) | exact adv_le (Nat.le_refl _) | exact adv_le (adv_le (by assumption)) | exact adv_le (adv_le (Nat.le_refl _)))
                 | (refine mon_c ?_; first | assumption | exact Nat.le_refl _ | exact adv_le (by assumption) | exact adv_le (Nat.le_refl _) | exact adv_le (adv_le (by assumption)) | exact adv_le (adv_le (Nat.le_refl _)))
                 | refine Mon.bind ?_ (fun _ _ _ _ => ?_)
                 | (refine Mon.must ?_ (fun _ _ => ?_); first | assumption | exact Nat.le_refl _ | exact adv_le (by assumption) | exact adv_le (Nat.le_refl _) | exact adv_le (adv_le (by assumption)))
                 | (refine Mon.name ?_ (fun _ _ _ => ?_); first | assumption | exact Nat.le_refl _ | exact adv_le (by assumption) | exact adv_le (Nat.le_refl _) | exact adv_le (adv_le (by assumption)))
                 | refine Mon.open (fun _ => ?_)
                 | split)
           · repeat' (first
               | exact Mon.fail | exact Mon.oof
               | (refine Mon.ok ?_; first | assumption | exact Nat.le_refl _ | exact adv_le (by assumption) | exact adv_le (Nat.le_refl _) | exact adv_le (adv_le (by assumption)) | exact adv_le (adv_le (Nat.le_refl _)))
               | (refine mon_c ?_; first | assumption | exact Nat.le_refl _ | exact adv_le (by assumption) | exact adv_le (Nat.le_refl _) | exact adv_le (adv_le (by assumption)) | exact adv_le (adv_le (Nat.le_refl _)))
               | refine Mon.bind ?_ (fun _ _ _ _ => ?_)
               | (refine Mon.must ?_ (fun _ _ => ?_); first | assumption | exact Nat.le_refl _ | exact adv_le (by assumption) | exact adv_le (Nat.le_refl _) | exact adv_le (adv_le (by assumption)))
               | (refine Mon.name ?_ (fun _ _ _ => ?_); first | assumption | exact Nat.le_refl _ | exact adv_le (by assumption) | exact adv_le (Nat.le_refl _) | exact adv_le (adv_le (by assumption)))
               | refine Mon.open (fun _ => ?_)
               | split)
         rw [if_neg hx, if_neg hx]; exact ih _ _ _ _ _ _ rfl hd12 h
   | simple =>
     simp only [run]; refine Sim.bind (ih _ _ _ _ _ _ rfl hd12 h) (fun t R S o k => ?_) (fun t R o => ?_)
     · obtain ⟨e, k2⟩ := k.is [61] rfl rfl; try simp only []
       rw [e]
       cases hb : is1 [61] S with
       | true =>
         have k3 := k2 hb
         cases (true && !o && (kindOf t == 6 || kindOf t == 7)) with
         | true => repeat' (first
                     | exact Sim.fail | exact Sim.oof | exact Sim.oof2
                     | exact Sim.ok (by assumption)
                     | exact ih _ _ _ _ _ _ rfl (by assumption) (by assumption)
                     | refine Sim.bind ?_ (fun _ _ _ _ _ => ?_) (fun _ _ _ => ?_)
                     | refine Sim.open (by assumption) (fun _ _ _ => ?_)
                     | refine Sim.must (by assumption) rfl (fun _ _ _ => ?_)
                     | refine Sim.name (by assumption) (fun _ _ _ _ => ?_)
                     | first
                     | exact Mon.fail | exact Mon.oof
                     | (refine Mon.ok ?_; first | assumption | exact Nat.le_refl _ | exact adv_le (by assumption) | exact adv_le (Nat.le_refl _) | exact adv_le (adv_le (by assumption)) | exact adv_le (adv_le (Nat.le_refl _)))
                     | (refine mon_c ?_; first | assumption | exact Nat.le_refl _ | exact adv_le (by assumption) | exact adv_le (Nat.le_refl _) | exact adv_le (adv_le (by assumption)) | exact adv_le (adv_le (Nat.le_refl _)))
                     | refine Mon.bind ?_ (fun _ _ _ _ => ?_)
                     | (refine Mon.must ?_ (fun _ _ => ?_); first | assumption | exact Nat.le_refl _ | exact adv_le (by assumption) | exact adv_le (Nat.le_refl _) | exact adv_le (adv_le (by assumption)))
                     | (refine Mon.name ?_ (fun _ _ _ => ?_); first | assumption | exact Nat.le_refl _ | exact adv_le (by assumption) | exact adv_le (Nat.le_refl _) | exact adv_le (adv_le (by assumption)))
                     | refine Mon.open (fun _ => ?_)
                     | split)
         | false =>
           cases (!true && !o && kindOf t == 8) with
           | true => exact Sim.ok k
           | false => exact Sim.fail
       | false =>
         cases (!false && !o && kindOf t == 8) with
         | true => exact Sim.ok k
         | false => exact Sim.fail
     · repeat' (first
         | exact Mon.fail | exact Mon.oof
         | (refine Mon.ok ?_; first | assumption | exact Nat.le_refl _ | exact adv_le (by assumption) | exact adv_le (Nat.le_refl _) | exact adv_le (adv_le (by assumption)) | exact adv_le (adv_le (Nat.le_refl _)))
         | (refine mon_c ?_; first | assumption | exact Nat.le_refl _ | exact adv_le (by assumption) | exact adv_le (Nat.le_refl _) | exact adv_le (adv_le (by assumption)) | exact adv_le (adv_le (Nat.le_refl _)))
         | refine Mon.bind ?_ (fun _ _ _ _ => ?_)
         | (refine Mon.must ?_ (fun _ _ => ?_); first | assumption | exact Nat.le_refl _ | exact adv_le (by assumption) | exact adv_le (Nat.le_refl _) | exact adv_le (adv_le (by assumption)))
         | (refine Mon.name ?_ (fun _ _ _ => ?_); first | assumption | exact Nat.le_refl _ | exact adv_le (by assumption) | exact adv_le (Nat.le_refl _) | exact adv_le (adv_le (by assumption)))
         | refine Mon.open (fun _ => ?_)
         | split)
   | locl =>
     simp only [run]; rcases h.cases with ⟨rfl, rfl⟩ | ⟨e, k, _, _⟩
     · exact Sim.fail
     · obtain ⟨e, k2⟩ := k.is sFunction rfl rfl; rw [e]
       cases hb : is1 sFunction (adv S) with
       | true => repeat' (first
                   | exact Sim.fail | exact Sim.oof | exact Sim.oof2
                   | exact Sim.ok (by assumption)
                   | exact ih _ _ _ _ _ _ rfl (by assumption) (by assumption)
                   | refine Sim.bind ?_ (fun _ _ _ _ _ => ?_) (fun _ _ _ => ?_)
                   | refine Sim.open (by assumption) (fun _ _ _ => ?_)
                   | refine Sim.must (by assumption) rfl (fun _ _ _ => ?_)
                   | refine Sim.name (by assumption) (fun _ _ _ _ => ?_)
                   | first
                   | exact Mon.fail | exact Mon.oof
                   | (refine Mon.ok ?_; first | assumption | exact Nat.le_refl _ | exact adv_le (by assumption) | exact adv_le (Nat.le_refl _) | exact adv_le (adv_le (by assumption)) | exact adv_le (adv_le (Nat.le_refl _)))
                   | (refine mon_c ?_; first | assumption | exact Nat.le_refl _ | exact adv_le (by assumption) | exact adv_le (Nat.le_refl _) | exact adv_le (adv_le (by assumption)) | exact adv_le (adv_le (Nat.le_refl _)))
                   | refine Mon.bind ?_ (fun _ _ _ _ => ?_)
                   | (refine Mon.must ?_ (fun _ _ => ?_); first | assumption | exact Nat.le_refl _ | exact adv_le (by assumption) | exact adv_le (Nat.le_refl _) | exact adv_le (adv_le (by assumption)))
                   | (refine Mon.name ?_ (fun _ _ _ => ?_); first | assumption | exact Nat.le_refl _ | exact adv_le (by assumption) | exact adv_le (Nat.le_refl _) | exact adv_le (adv_le (by assumption)))
                   | refine Mon.open (fun _ => ?_)
                   | split)
       | false =>
         refine Sim.name k (fun nm R S k => ?_); obtain ⟨e, k2⟩ := k.is [61] rfl rfl; try simp only []
         rw [e]
         cases hb : is1 [61] S with
         | true =>
           have k3 := k2 hb; repeat' (first
             | exact Sim.fail | exact Sim.oof | exact Sim.oof2
             | exact Sim.ok (by assumption)
             | exact ih _ _ _ _ _ _ rfl (by assumption) (by assumption)
             | refine Sim.bind ?_ (fun _ _ _ _ _ => ?_) (fun _ _ _ => ?_)
             | refine Sim.open (by assumption) (fun _ _ _ => ?_)
             | refine Sim.must (by assumption) rfl (fun _ _ _ => ?_)
             | refine Sim.name (by assumption) (fun _ _ _ _ => ?_)
             | first
             | exact Mon.fail | exact Mon.oof
             | (refine Mon.ok ?_; first | assumption | exact Nat.le_refl _ | exact adv_le (by assumption) | exact adv_le (Nat.le_refl _) | exact adv_le (adv_le (by assumption)) | exact adv_le (adv_le (Nat.le_refl _)))
             | (refine mon_c ?_; first | assumption | exact Nat.le_refl _ | exact adv_le (by assumption) | exact adv_le (Nat.le_refl _) | exact adv_le (adv_le (by assumption)) | exact adv_le (adv_le (Nat.le_refl _)))
             | refine Mon.bind ?_ (fun _ _ _ _ => ?_)
             | (refine Mon.must ?_ (fun _ _ => ?_); first | assumption | exact Nat.le_refl _ | exact adv_le (by assumption) | exact adv_le (Nat.le_refl _) | exact adv_le (adv_le (by assumption)))
             | (refine Mon.name ?_ (fun _ _ _ => ?_); first | assumption | exact Nat.le_refl _ | exact adv_le (by assumption) | exact adv_le (Nat.le_refl _) | exact adv_le (adv_le (by assumption)))
             | refine Mon.open (fun _ => ?_)
             | split)
         | false => exact Sim.ok k
   | branch =>
     simp only [run]; refine Sim.bind (ih _ _ _ _ _ _ rfl hd12 h) (fun t R S o k => ?_) (fun t R o => ?_)
     · refine Sim.bind (ih _ _ _ _ _ _ rfl hd12 k) (fun t2 R S o k => ?_) (fun t R o => ?_)
       · obtain ⟨e, k2⟩ := k.is sElseif rfl rfl; obtain ⟨e', k2'⟩ := k.is sElse rfl rfl; try simp only []
         rw [e, e']
         cases hb : is1 sElseif S with
         | true =>
           have k3 := k2 hb; repeat' (first
             | exact Sim.fail | exact Sim.oof | exact Sim.oof2
             | exact Sim.ok (by assumption)
             | exact ih _ _ _ _ _ _ rfl (by assumption) (by assumption)
             | refine Sim.bind ?_ (fun _ _ _ _ _ => ?_) (fun _ _ _ => ?_)
             | refine Sim.open (by assumption) (fun _ _ _ => ?_)
             | refine Sim.must (by assumption) rfl (fun _ _ _ => ?_)
             | refine Sim.name (by assumption) (fun _ _ _ _ => ?_)
             | first
             | exact Mon.fail | exact Mon.oof
             | (refine Mon.ok ?_; first | assumption | exact Nat.le_refl _ | exact adv_le (by assumption) | exact adv_le (Nat.le_refl _) | exact adv_le (adv_le (by assumption)) | exact adv_le (adv_le (Nat.le_refl _)))
             | (refine mon_c ?_; first | assumption | exact Nat.le_refl _ | exact adv_le (by assumption) | exact adv_le (Nat.le_refl _) | exact adv_le (adv_le (by assumption)) | exact adv_le (adv_le (Nat.le_refl _)))
             | refine Mon.bind ?_ (fun _ _ _ _ => ?_)
             | (refine Mon.must ?_ (fun _ _ => ?_); first | assumption | exact Nat.le_refl _ | exact adv_le (by assumption) | exact adv_le (Nat.le_refl _) | exact adv_le (adv_le (by assumption)))
             | (refine Mon.name ?_ (fun _ _ _ => ?_); first | assumption | exact Nat.le_refl _ | exact adv_le (by assumption) | exact adv_le (Nat.le_refl _) | exact adv_le (adv_le (by assumption)))
             | refine Mon.open (fun _ => ?_)
             | split)
         | false =>
           cases is1 sElse S with
           | true => repeat' (first
                       | exact Sim.fail | exact Sim.oof | exact Sim.oof2
                       | exact Sim.ok (by assumption)
                       | exact ih _ _ _ _ _ _ rfl (by assumption) (by assumption)
                       | refine Sim.bind ?_ (fun _ _ _ _ _ => ?_) (fun _ _ _ => ?_)
                       | refine Sim.open (by assumption) (fun _ _ _ => ?_)
                       | refine Sim.must (by assumption) rfl (fun _ _ _ => ?_)
                       | refine Sim.name (by assumption) (fun _ _ _ _ => ?_)
                       | first
                       | exact Mon.fail | exact Mon.oof
                       | (refine Mon.ok ?_; first | assumption | exact Nat.le_refl _ | exact adv_le (by assumption) | exact adv_le (Nat.le_refl _) | exact adv_le (adv_le (by assumption)) | exact adv_le (adv_le (Nat.le_refl _)))
                       | (refine mon_c ?_; first | assumption | exact Nat.le_refl _ | exact adv_le (by assumption) | exact adv_le (Nat.le_refl _) | exact adv_le (adv_le (by assumption)) | exact adv_le (adv_le (Nat.le_refl _)))
                       | refine Mon.bind ?_ (fun _ _ _ _ => ?_)
                       | (refine Mon.must ?_ (fun _ _ => ?_); first | assumption | exact Nat.le_refl _ | exact adv_le (by assumption) | exact adv_le (Nat.le_refl _) | exact adv_le (adv_le (by assumption)))
                       | (refine Mon.name ?_ (fun _ _ _ => ?_); first | assumption | exact Nat.le_refl _ | exact adv_le (by assumption) | exact adv_le (Nat.le_refl _) | exact adv_le (adv_le (by assumption)))
                       | refine Mon.open (fun _ => ?_)
                       | split)
           | false => exact Sim.ok k
       · repeat' (first
           | exact Mon.fail | exact Mon.oof
           | (refine Mon.ok ?_; first | assumption | exact Nat.le_refl _ | exact adv_le (by assumption) | exact adv_le (Nat.le_refl _) | exact adv_le (adv_le (by assumption)) | exact adv_le (adv_le (Nat.le_refl _)))
           | (refine mon_c ?_; first | assumption | exact Nat.le_refl _ | exact adv_le (by assumption) | exact adv_le (Nat.le_refl _) | exact adv_le (adv_le (by assumption)) | exact adv_le (adv_le (Nat.le_refl _)))
           | refine Mon.bind ?_ (fun _ _ _ _ => ?_)
           | (refine Mon.must ?_ (fun _ _ => ?_); first | assumption | exact Nat.le_refl _ | exact adv_le (by assumption) | exact adv_le (Nat.le_refl _) | exact adv_le (adv_le (by assumption)))
           | (refine Mon.name ?_ (fun _ _ _ => ?_); first | assumption | exact Nat.le_refl _ | exact adv_le (by assumption) | exact adv_le (Nat.le_refl _) | exact adv_le (adv_le (by assumption)))
           | refine Mon.open (fun _ => ?_)
           | split)
     · repeat' (first
         | exact Mon.fail | exact Mon.oof
         | (refine Mon.ok ?_; first | assumption | exact Nat.le_refl _ | exact adv_le (by assumption) | exact adv_le (Nat.le_refl _) | exact adv_le (adv_le (by assumption)) | exact adv_le (adv_le (Nat.le_refl _)))
         | (refine mon_c ?_; first | assumption | exact Nat.le_refl _ | exact adv_le (by assumption) | exact adv_le (Nat.le_refl _) | exact adv_le (adv_le (by assumption)) | exact adv_le (adv_le (Nat.le_refl _)))
         | refine Mon.bind ?_ (fun _ _ _ _ => ?_)
         | (refine Mon.must ?_ (fun _ _ => ?_); first | assumption | exact Nat.le_refl _ | exact adv_le (by assumption) | exact adv_le (Nat.le_refl _) | exact adv_le (adv_le (by assumption)))
         | (refine Mon.name ?_ (fun _ _ _ => ?_); first | assumption | exact Nat.le_refl _ | exact adv_le (by assumption) | exact adv_le (Nat.le_refl _) | exact adv_le (adv_le (by assumption)))
         | refine Mon.open (fun _ => ?_)
         | split)
   | params acc =>
     simp only [run]; refine Sim.name h (fun nm R S k => ?_); obtain ⟨e, k2⟩ := k.is [44] rfl rfl; try simp only []
     rw [e]
     cases hb : is1 [44] S with
     | true => exact ih _ _ _ _ _ _ rfl hd12 (k2 hb)
     | false => exact Sim.ok k
   | expr above =>
     simp only [run]; repeat' (first
       | exact Sim.fail | exact Sim.oof | exact Sim.oof2
       | exact Sim.ok (by assumption)
       | exact ih _ _ _ _ _ _ rfl (by assumption) (by assumption)
       | refine Sim.bind ?_ (fun _ _ _ _ _ => ?_) (fun _ _ _ => ?_)
       | refine Sim.open (by assumption) (fun _ _ _ => ?_)
       | refine Sim.must (by assumption) rfl (fun _ _ _ => ?_)
       | refine Sim.name (by assumption) (fun _ _ _ _ => ?_)
       | first
       | exact Mon.fail | exact Mon.oof
       | (refine Mon.ok ?_; first | assumption | exact Nat.le_refl _ | exact adv_le (by assumption) | exact adv_le (Nat.le_refl _) | exact adv_le (adv_le (by assumption)) | exact adv_le (adv_le (Nat.le_refl _)))
       | (refine mon_c ?_; first | assumption | exact Nat.le_refl _ | exact adv_le (by assumption) | exact adv_le (Nat.le_refl _) | exact adv_le (adv_le (by assumption)) | exact adv_le (adv_le (Nat.le_refl _)))
       | refine Mon.bind ?_ (fun _ _ _ _ => ?_)
       | (refine Mon.must ?_ (fun _ _ => ?_); first | assumption | exact Nat.le_refl _ | exact adv_le (by assumption) | exact adv_le (Nat.le_refl _) | exact adv_le (adv_le (by assumption)))
       | (refine Mon.name ?_ (fun _ _ _ => ?_); first | assumption | exact Nat.le_refl _ | exact adv_le (by assumption) | exact adv_le (Nat.le_refl _) | exact adv_le (adv_le (by assumption)))
       | refine Mon.open (fun _ => ?_)
       | split)
   | exprL t above =>
     simp only [run]; rcases h.cases with ⟨rfl, rfl⟩ | ⟨e, k, _, _⟩
     · rw [show bindN (hd (Z1 l)).text = 0 from rfl, show bindN (hd (Z2 l)).text = 0 from rfl, show (hd (Z1 l)).kind = 4 from rfl, show (hd (Z2 l)).kind = 4 from rfl]; by_cases ha : 0 ≤ above
       · rw [decide_eq_true ha]; exact Sim.ok h
       · rw [decide_eq_false ha]; exact Sim.mon (Mon.bind (z1_bin _ _ _ _ _) (fun _ _ _ hl => mon_c hl))
     · rw [e]
       cases (!((hd S).kind == 4) || decide (bindN (hd S).text ≤ above)) with
       | true => exact Sim.ok h
       | false => repeat' (first
                    | exact Sim.fail | exact Sim.oof | exact Sim.oof2
                    | exact Sim.ok (by assumption)
                    | exact ih _ _ _ _ _ _ rfl (by assumption) (by assumption)
                    | refine Sim.bind ?_ (fun _ _ _ _ _ => ?_) (fun _ _ _ => ?_)
                    | refine Sim.open (by assumption) (fun _ _ _ => ?_)
                    | refine Sim.must (by assumption) rfl (fun _ _ _ => ?_)
                    | refine Sim.name (by assumption) (fun _ _ _ _ => ?_)
                    | first
                    | exact Mon.fail | exact Mon.oof
                    | (refine Mon.ok ?_; first | assumption | exact Nat.le_refl _ | exact adv_le (by assumption) | exact adv_le (Nat.le_refl _) | exact adv_le (adv_le (by assumption)) | exact adv_le (adv_le (Nat.le_refl _)))
                    | (refine mon_c ?_; first | assumption | exact Nat.le_refl _ | exact adv_le (by assumption) | exact adv_le (Nat.le_refl _) | exact adv_le (adv_le (by assumption)) | exact adv_le (adv_le (Nat.le_refl _)))
                    | refine Mon.bind ?_ (fun _ _ _ _ => ?_)
                    | (refine Mon.must ?_ (fun _ _ => ?_); first | assumption | exact Nat.le_refl _ | exact adv_le (by assumption) | exact adv_le (Nat.le_refl _) | exact adv_le (adv_le (by assumption)))
                    | (refine Mon.name ?_ (fun _ _ _ => ?_); first | assumption | exact Nat.le_refl _ | exact adv_le (by assumption) | exact adv_le (Nat.le_refl _) | exact adv_le (adv_le (by assumption)))
                    | refine Mon.open (fun _ => ?_)
                    | split)
   | bin t k =>
     simp only [run]; rcases h.cases with ⟨rfl, rfl⟩ | ⟨e, k, _, _⟩
     · exact Sim.mon (z1_bin (n + 1) _ _ _ _)
     · rw [e]
       cases (hd S).text == [46, 46] with
       | true => repeat' (first
                   | exact Sim.fail | exact Sim.oof | exact Sim.oof2
                   | exact Sim.ok (by assumption)
                   | exact ih _ _ _ _ _ _ rfl (by assumption) (by assumption)
                   | refine Sim.bind ?_ (fun _ _ _ _ _ => ?_) (fun _ _ _ => ?_)
                   | refine Sim.open (by assumption) (fun _ _ _ => ?_)
                   | refine Sim.must (by assumption) rfl (fun _ _ _ => ?_)
                   | refine Sim.name (by assumption) (fun _ _ _ _ => ?_)
                   | first
                   | exact Mon.fail | exact Mon.oof
                   | (refine Mon.ok ?_; first | assumption | exact Nat.le_refl _ | exact adv_le (by assumption) | exact adv_le (Nat.le_refl _) | exact adv_le (adv_le (by assumption)) | exact adv_le (adv_le (Nat.le_refl _)))
                   | (refine mon_c ?_; first | assumption | exact Nat.le_refl _ | exact adv_le (by assumption) | exact adv_le (Nat.le_refl _) | exact adv_le (adv_le (by assumption)) | exact adv_le (adv_le (Nat.le_refl _)))
                   | refine Mon.bind ?_ (fun _ _ _ _ => ?_)
                   | (refine Mon.must ?_ (fun _ _ => ?_); first | assumption | exact Nat.le_refl _ | exact adv_le (by assumption) | exact adv_le (Nat.le_refl _) | exact adv_le (adv_le (by assumption)))
                   | (refine Mon.name ?_ (fun _ _ _ => ?_); first | assumption | exact Nat.le_refl _ | exact adv_le (by assumption) | exact adv_le (Nat.le_refl _) | exact adv_le (adv_le (by assumption)))
                   | refine Mon.open (fun _ => ?_)
                   | split)
       | false => repeat' (first
                    | exact Sim.fail | exact Sim.oof | exact Sim.oof2
                    | exact Sim.ok (by assumption)
                    | exact ih _ _ _ _ _ _ rfl (by assumption) (by assumption)
                    | refine Sim.bind ?_ (fun _ _ _ _ _ => ?_) (fun _ _ _ => ?_)
                    | refine Sim.open (by assumption) (fun _ _ _ => ?_)
                    | refine Sim.must (by assumption) rfl (fun _ _ _ => ?_)
                    | refine Sim.name (by assumption) (fun _ _ _ _ => ?_)
                    | first
                    | exact Mon.fail | exact Mon.oof
                    | (refine Mon.ok ?_; first | assumption | exact Nat.le_refl _ | exact adv_le (by assumption) | exact adv_le (Nat.le_refl _) | exact adv_le (adv_le (by assumption)) | exact adv_le (adv_le (Nat.le_refl _)))
                    | (refine mon_c ?_; first | assumption | exact Nat.le_refl _ | exact adv_le (by assumption) | exact adv_le (Nat.le_refl _) | exact adv_le (adv_le (by assumption)) | exact adv_le (adv_le (Nat.le_refl _)))
                    | refine Mon.bind ?_ (fun _ _ _ _ => ?_)
                    | (refine Mon.must ?_ (fun _ _ => ?_); first | assumption | exact Nat.le_refl _ | exact adv_le (by assumption) | exact adv_le (Nat.le_refl _) | exact adv_le (adv_le (by assumption)))
                    | (refine Mon.name ?_ (fun _ _ _ => ?_); first | assumption | exact Nat.le_refl _ | exact adv_le (by assumption) | exact adv_le (Nat.le_refl _) | exact adv_le (adv_le (by assumption)))
                    | refine Mon.open (fun _ => ?_)
                    | split)
   | operand =>
     simp only [run]; rcases h.cases with ⟨rfl, rfl⟩ | ⟨e, k, _, _⟩
     · rw [show isB (hd (Z1 l)) [sNot, [45], [35], [126]] = false from rfl]; exact Sim.bad (z1_no _ _ _ _ rfl)
     · rw [e]
       cases isB (hd S) [sNot, [45], [35], [126]] with
       | true => repeat' (first
                   | exact Sim.fail | exact Sim.oof | exact Sim.oof2
                   | exact Sim.ok (by assumption)
                   | exact ih _ _ _ _ _ _ rfl (by assumption) (by assumption)
                   | refine Sim.bind ?_ (fun _ _ _ _ _ => ?_) (fun _ _ _ => ?_)
                   | refine Sim.open (by assumption) (fun _ _ _ => ?_)
                   | refine Sim.must (by assumption) rfl (fun _ _ _ => ?_)
                   | refine Sim.name (by assumption) (fun _ _ _ _ => ?_)
                   | first
                   | exact Mon.fail | exact Mon.oof
                   | (refine Mon.ok ?_; first | assumption | exact Nat.le_refl _ | exact adv_le (by assumption) | exact adv_le (Nat.le_refl _) | exact adv_le (adv_le (by assumption)) | exact adv_le (adv_le (Nat.le_refl _)))
                   | (refine mon_c ?_; first | assumption | exact Nat.le_refl _ | exact adv_le (by assumption) | exact adv_le (Nat.le_refl _) | exact adv_le (adv_le (by assumption)) | exact adv_le (adv_le (Nat.le_refl _)))
                   | refine Mon.bind ?_ (fun _ _ _ _ => ?_)
                   | (refine Mon.must ?_ (fun _ _ => ?_); first | assumption | exact Nat.le_refl _ | exact adv_le (by assumption) | exact adv_le (Nat.le_refl _) | exact adv_le (adv_le (by assumption)))
                   | (refine Mon.name ?_ (fun _ _ _ => ?_); first | assumption | exact Nat.le_refl _ | exact adv_le (by assumption) | exact adv_le (Nat.le_refl _) | exact adv_le (adv_le (by assumption)))
                   | refine Mon.open (fun _ => ?_)
                   | split)
       | false => exact ih _ _ _ _ _ _ rfl hd12 h
   | post =>
     simp only [run]; rw [(h.is [40] rfl rfl).1]; repeat' (first
       | exact Sim.fail | exact Sim.oof | exact Sim.oof2
       | exact Sim.ok (by assumption)
       | exact ih _ _ _ _ _ _ rfl (by assumption) (by assumption)
       | refine Sim.bind ?_ (fun _ _ _ _ _ => ?_) (fun _ _ _ => ?_)
       | refine Sim.open (by assumption) (fun _ _ _ => ?_)
       | refine Sim.must (by assumption) rfl (fun _ _ _ => ?_)
       | refine Sim.name (by assumption) (fun _ _ _ _ => ?_)
       | first
       | exact Mon.fail | exact Mon.oof
       | (refine Mon.ok ?_; first | assumption | exact Nat.le_refl _ | exact adv_le (by assumption) | exact adv_le (Nat.le_refl _) | exact adv_le (adv_le (by assumption)) | exact adv_le (adv_le (Nat.le_refl _)))
       | (refine mon_c ?_; first | assumption | exact Nat.le_refl _ | exact adv_le (by assumption) | exact adv_le (Nat.le_refl _) | exact adv_le (adv_le (by assumption)) | exact adv_le (adv_le (Nat.le_refl _)))
       | refine Mon.bind ?_ (fun _ _ _ _ => ?_)
       | (refine Mon.must ?_ (fun _ _ => ?_); first | assumption | exact Nat.le_refl _ | exact adv_le (by assumption) | exact adv_le (Nat.le_refl _) | exact adv_le (adv_le (by assumption)))
       | (refine Mon.name ?_ (fun _ _ _ => ?_); first | assumption | exact Nat.le_refl _ | exact adv_le (by assumption) | exact adv_le (Nat.le_refl _) | exact adv_le (adv_le (by assumption)))
       | refine Mon.open (fun _ => ?_)
       | split)
   | postL t own =>
     simp only [run]; obtain ⟨e, k⟩ := h.is [91] rfl rfl; rw [e]
     cases is1 [91] S with
     | true => repeat' (first
                 | exact Sim.fail | exact Sim.oof | exact Sim.oof2
                 | exact Sim.ok (by assumption)
                 | exact ih _ _ _ _ _ _ rfl (by assumption) (by assumption)
                 | refine Sim.bind ?_ (fun _ _ _ _ _ => ?_) (fun _ _ _ => ?_)
                 | refine Sim.open (by assumption) (fun _ _ _ => ?_)
                 | refine Sim.must (by assumption) rfl (fun _ _ _ => ?_)
                 | refine Sim.name (by assumption) (fun _ _ _ _ => ?_)
                 | first
                 | exact Mon.fail | exact Mon.oof
                 | (refine Mon.ok ?_; first | assumption | exact Nat.le_refl _ | exact adv_le (by assumption) | exact adv_le (Nat.le_refl _) | exact adv_le (adv_le (by assumption)) | exact adv_le (adv_le (Nat.le_refl _)))
                 | (refine mon_c ?_; first | assumption | exact Nat.le_refl _ | exact adv_le (by assumption) | exact adv_le (Nat.le_refl _) | exact adv_le (adv_le (by assumption)) | exact adv_le (adv_le (Nat.le_refl _)))
                 | refine Mon.bind ?_ (fun _ _ _ _ => ?_)
                 | (refine Mon.must ?_ (fun _ _ => ?_); first | assumption | exact Nat.le_refl _ | exact adv_le (by assumption) | exact adv_le (Nat.le_refl _) | exact adv_le (adv_le (by assumption)))
                 | (refine Mon.name ?_ (fun _ _ _ => ?_); first | assumption | exact Nat.le_refl _ | exact adv_le (by assumption) | exact adv_le (Nat.le_refl _) | exact adv_le (adv_le (by assumption)))
                 | refine Mon.open (fun _ => ?_)
                 | split)
     | false =>
       obtain ⟨e, k⟩ := h.is [46] rfl rfl; try simp only []
       rw [e]
       cases hb : is1 [46] S with
       | true =>
         have k2 := k hb; repeat' (first
           | exact Sim.fail | exact Sim.oof | exact Sim.oof2
           | exact Sim.ok (by assumption)
           | exact ih _ _ _ _ _ _ rfl (by assumption) (by assumption)
           | refine Sim.bind ?_ (fun _ _ _ _ _ => ?_) (fun _ _ _ => ?_)
           | refine Sim.open (by assumption) (fun _ _ _ => ?_)
           | refine Sim.must (by assumption) rfl (fun _ _ _ => ?_)
           | refine Sim.name (by assumption) (fun _ _ _ _ => ?_)
           | first
           | exact Mon.fail | exact Mon.oof
           | (refine Mon.ok ?_; first | assumption | exact Nat.le_refl _ | exact adv_le (by assumption) | exact adv_le (Nat.le_refl _) | exact adv_le (adv_le (by assumption)) | exact adv_le (adv_le (Nat.le_refl _)))
           | (refine mon_c ?_; first | assumption | exact Nat.le_refl _ | exact adv_le (by assumption) | exact adv_le (Nat.le_refl _) | exact adv_le (adv_le (by assumption)) | exact adv_le (adv_le (Nat.le_refl _)))
           | refine Mon.bind ?_ (fun _ _ _ _ => ?_)
           | (refine Mon.must ?_ (fun _ _ => ?_); first | assumption | exact Nat.le_refl _ | exact adv_le (by assumption) | exact adv_le (Nat.le_refl _) | exact adv_le (adv_le (by assumption)))
           | (refine Mon.name ?_ (fun _ _ _ => ?_); first | assumption | exact Nat.le_refl _ | exact adv_le (by assumption) | exact adv_le (Nat.le_refl _) | exact adv_le (adv_le (by assumption)))
           | refine Mon.open (fun _ => ?_)
           | split)
       | false =>
         obtain ⟨e, k⟩ := h.is [40] rfl rfl; try simp only []
         rw [e]
         cases hb : is1 [40] S with
         | false => exact Sim.ok h
         | true =>
           refine Sim.open hd12 (fun d1 d2 hd => ?_); rcases (k hb).cases with ⟨e1, e2⟩ | ⟨e, k2, _, _⟩
           · rw [e1]; rw [show is1 [41] (Z1 l) = false from rfl]; exact Sim.badb (z1_no _ _ _ _ rfl)
           · have k1 := k hb; rw [show is1 [41] (adv R) = is1 [41] (adv S) by simp only [is1, e]]
             cases is1 [41] (adv S) with
             | true => repeat' (first
                         | exact Sim.fail | exact Sim.oof | exact Sim.oof2
                         | exact Sim.ok (by assumption)
                         | exact ih _ _ _ _ _ _ rfl (by assumption) (by assumption)
                         | refine Sim.bind ?_ (fun _ _ _ _ _ => ?_) (fun _ _ _ => ?_)
                         | refine Sim.open (by assumption) (fun _ _ _ => ?_)
                         | refine Sim.must (by assumption) rfl (fun _ _ _ => ?_)
                         | refine Sim.name (by assumption) (fun _ _ _ _ => ?_)
                         | first
                         | exact Mon.fail | exact Mon.oof
                         | (refine Mon.ok ?_; first | assumption | exact Nat.le_refl _ | exact adv_le (by assumption) | exact adv_le (Nat.le_refl _) | exact adv_le (adv_le (by assumption)) | exact adv_le (adv_le (Nat.le_refl _)))
                         | (refine mon_c ?_; first | assumption | exact Nat.le_refl _ | exact adv_le (by assumption) | exact adv_le (Nat.le_refl _) | exact adv_le (adv_le (by assumption)) | exact adv_le (adv_le (Nat.le_refl _)))
                         | refine Mon.bind ?_ (fun _ _ _ _ => ?_)
                         | (refine Mon.must ?_ (fun _ _ => ?_); first | assumption | exact Nat.le_refl _ | exact adv_le (by assumption) | exact adv_le (Nat.le_refl _) | exact adv_le (adv_le (by assumption)))
                         | (refine Mon.name ?_ (fun _ _ _ => ?_); first | assumption | exact Nat.le_refl _ | exact adv_le (by assumption) | exact adv_le (Nat.le_refl _) | exact adv_le (adv_le (by assumption)))
                         | refine Mon.open (fun _ => ?_)
                         | split)
             | false => repeat' (first
                          | exact Sim.fail | exact Sim.oof | exact Sim.oof2
                          | exact Sim.ok (by assumption)
                          | exact ih _ _ _ _ _ _ rfl (by assumption) (by assumption)
                          | refine Sim.bind ?_ (fun _ _ _ _ _ => ?_) (fun _ _ _ => ?_)
                          | refine Sim.open (by assumption) (fun _ _ _ => ?_)
                          | refine Sim.must (by assumption) rfl (fun _ _ _ => ?_)
                          | refine Sim.name (by assumption) (fun _ _ _ _ => ?_)
                          | first
                          | exact Mon.fail | exact Mon.oof
                          | (refine Mon.ok ?_; first | assumption | exact Nat.le_refl _ | exact adv_le (by assumption) | exact adv_le (Nat.le_refl _) | exact adv_le (adv_le (by assumption)) | exact adv_le (adv_le (Nat.le_refl _)))
                          | (refine mon_c ?_; first | assumption | exact Nat.le_refl _ | exact adv_le (by assumption) | exact adv_le (Nat.le_refl _) | exact adv_le (adv_le (by assumption)) | exact adv_le (adv_le (Nat.le_refl _)))
                          | refine Mon.bind ?_ (fun _ _ _ _ => ?_)
                          | (refine Mon.must ?_ (fun _ _ => ?_); first | assumption | exact Nat.le_refl _ | exact adv_le (by assumption) | exact adv_le (Nat.le_refl _) | exact adv_le (adv_le (by assumption)))
                          | (refine Mon.name ?_ (fun _ _ _ => ?_); first | assumption | exact Nat.le_refl _ | exact adv_le (by assumption) | exact adv_le (Nat.le_refl _) | exact adv_le (adv_le (by assumption)))
                          | refine Mon.open (fun _ => ?_)
                          | split)
   | primary =>
     rcases h.cases with ⟨rfl, rfl⟩ | ⟨e, k, _, _⟩
     · exact Sim.bad (z1_no (n + 1) .primary _ _ rfl)
     · simp only [run, e]; by_cases hx : (hd S).kind = 1
       · rw [if_pos hx, if_pos hx]; exact Sim.ok k
       rw [if_neg hx, if_neg hx]; clear hx; by_cases hx : (hd S).kind = 2
       · rw [if_pos hx, if_pos hx]; exact Sim.ok k
       rw [if_neg hx, if_neg hx]; clear hx; by_cases hx : (hd S).kind = 3
       · rw [if_pos hx, if_pos hx]; exact Sim.ok k
       rw [if_neg hx, if_neg hx]; exact ih _ _ _ _ _ _ rfl hd12 h
   | signed =>
     rcases h.cases with ⟨rfl, rfl⟩ | ⟨e, k, _, _⟩
     · exact Sim.bad (z1_no (n + 1) .signed _ _ rfl)
     · have e1 : ∀ s, is1 s R = is1 s S := fun s => by simp only [is1, e]
       simp only [run, e1, e]; by_cases hx : is1 sNil S = true
       · rw [if_pos hx, if_pos hx]; exact Sim.ok k
       rw [if_neg hx, if_neg hx]; clear hx; by_cases hx : is1 sTrue S = true
       · rw [if_pos hx, if_pos hx]; exact Sim.ok k
       rw [if_neg hx, if_neg hx]; clear hx; by_cases hx : is1 sFalse S = true
       · rw [if_pos hx, if_pos hx]; exact Sim.ok k
       rw [if_neg hx, if_neg hx]; clear hx; by_cases hx : is1 [40] S = true
       · rw [if_pos hx, if_pos hx]; repeat' (first
           | exact Sim.fail | exact Sim.oof | exact Sim.oof2
           | exact Sim.ok (by assumption)
           | exact ih _ _ _ _ _ _ rfl (by assumption) (by assumption)
           | refine Sim.bind ?_ (fun _ _ _ _ _ => ?_) (fun _ _ _ => ?_)
           | refine Sim.open (by assumption) (fun _ _ _ => ?_)
           | refine Sim.must (by assumption) rfl (fun _ _ _ => ?_)
           | refine Sim.name (by assumption) (fun _ _ _ _ => ?_)
           | first
           | exact Mon.fail | exact Mon.oof
           | (refine Mon.ok ?_; first | assumption | exact Nat.le_refl _ | exact adv_le (by assumption) | exact adv_le (Nat.le_refl _) | exact adv_le (adv_le (by assumption)) | exact adv_le (adv_le (Nat.le_refl _)))
           | (refine mon_c ?_; first | assumption | exact Nat.le_refl _ | exact adv_le (by assumption) | exact adv_le (Nat.le_refl _) | exact adv_le (adv_le (by assumption)) | exact adv_le (adv_le (Nat.le_refl _)))
           | refine Mon.bind ?_ (fun _ _ _ _ => ?_)
           | (refine Mon.must ?_ (fun _ _ => ?_); first | assumption | exact Nat.le_refl _ | exact adv_le (by assumption) | exact adv_le (Nat.le_refl _) | exact adv_le (adv_le (by assumption)))
           | (refine Mon.name ?_ (fun _ _ _ => ?_); first | assumption | exact Nat.le_refl _ | exact adv_le (by assumption) | exact adv_le (Nat.le_refl _) | exact adv_le (adv_le (by assumption)))
           | refine Mon.open (fun _ => ?_)
           | split)
       rw [if_neg hx, if_neg hx]; clear hx; by_cases hx : is1 sFunction S = true
       · rw [if_pos hx, if_pos hx]; exact ih _ _ _ _ _ _ rfl hd12 h
       rw [if_neg hx, if_neg hx]; clear hx; by_cases hx : is1 [123] S = true
       · rw [if_pos hx, if_pos hx]; refine Sim.open hd12 (fun d1 d2 hd => ?_); have e3 := (k.is [125] rfl rfl).1; have k4 := (k.is [125] rfl rfl).2; rw [e3]
         cases hb : is1 [125] (adv S) with
         | true => exact Sim.ok (k4 hb)
         | false => repeat' (first
                      | exact Sim.fail | exact Sim.oof | exact Sim.oof2
                      | exact Sim.ok (by assumption)
                      | exact ih _ _ _ _ _ _ rfl (by assumption) (by assumption)
                      | refine Sim.bind ?_ (fun _ _ _ _ _ => ?_) (fun _ _ _ => ?_)
                      | refine Sim.open (by assumption) (fun _ _ _ => ?_)
                      | refine Sim.must (by assumption) rfl (fun _ _ _ => ?_)
                      | refine Sim.name (by assumption) (fun _ _ _ _ => ?_)
                      | first
                      | exact Mon.fail | exact Mon.oof
                      | (refine Mon.ok ?_; first | assumption | exact Nat.le_refl _ | exact adv_le (by assumption) | exact adv_le (Nat.le_refl _) | exact adv_le (adv_le (by assumption)) | exact adv_le (adv_le (Nat.le_refl _)))
                      | (refine mon_c ?_; first | assumption | exact Nat.le_refl _ | exact adv_le (by assumption) | exact adv_le (Nat.le_refl _) | exact adv_le (adv_le (by assumption)) | exact adv_le (adv_le (Nat.le_refl _)))
                      | refine Mon.bind ?_ (fun _ _ _ _ => ?_)
                      | (refine Mon.must ?_ (fun _ _ => ?_); first | assumption | exact Nat.le_refl _ | exact adv_le (by assumption) | exact adv_le (Nat.le_refl _) | exact adv_le (adv_le (by assumption)))
                      | (refine Mon.name ?_ (fun _ _ _ => ?_); first | assumption | exact Nat.le_refl _ | exact adv_le (by assumption) | exact adv_le (Nat.le_refl _) | exact adv_le (adv_le (by assumption)))
                      | refine Mon.open (fun _ => ?_)
                      | split)
       rw [if_neg hx, if_neg hx]; exact Sim.fail
   | bracket t =>
     simp only [run]; repeat' (first
       | exact Sim.fail | exact Sim.oof | exact Sim.oof2
       | exact Sim.ok (by assumption)
       | exact ih _ _ _ _ _ _ rfl (by assumption) (by assumption)
       | refine Sim.bind ?_ (fun _ _ _ _ _ => ?_) (fun _ _ _ => ?_)
       | refine Sim.open (by assumption) (fun _ _ _ => ?_)
       | refine Sim.must (by assumption) rfl (fun _ _ _ => ?_)
       | refine Sim.name (by assumption) (fun _ _ _ _ => ?_)
       | first
       | exact Mon.fail | exact Mon.oof
       | (refine Mon.ok ?_; first | assumption | exact Nat.le_refl _ | exact adv_le (by assumption) | exact adv_le (Nat.le_refl _) | exact adv_le (adv_le (by assumption)) | exact adv_le (adv_le (Nat.le_refl _)))
       | (refine mon_c ?_; first | assumption | exact Nat.le_refl _ | exact adv_le (by assumption) | exact adv_le (Nat.le_refl _) | exact adv_le (adv_le (by assumption)) | exact adv_le (adv_le (Nat.le_refl _)))
       | refine Mon.bind ?_ (fun _ _ _ _ => ?_)
       | (refine Mon.must ?_ (fun _ _ => ?_); first | assumption | exact Nat.le_refl _ | exact adv_le (by assumption) | exact adv_le (Nat.le_refl _) | exact adv_le (adv_le (by assumption)))
       | (refine Mon.name ?_ (fun _ _ _ => ?_); first | assumption | exact Nat.le_refl _ | exact adv_le (by assumption) | exact adv_le (Nat.le_refl _) | exact adv_le (adv_le (by assumption)))
       | refine Mon.open (fun _ => ?_)
       | split)
   | args acc =>
     simp only [run]; refine Sim.bind (ih _ _ _ _ _ _ rfl hd12 h) (fun t R S o k => ?_) (fun t R o => ?_)
     · obtain ⟨e, k2⟩ := k.is [44] rfl rfl; try simp only []
       rw [e]
       cases hb : is1 [44] S with
       | true => exact ih _ _ _ _ _ _ rfl hd12 (k2 hb)
       | false => exact Sim.ok k
     · repeat' (first
         | exact Mon.fail | exact Mon.oof
         | (refine Mon.ok ?_; first | assumption | exact Nat.le_refl _ | exact adv_le (by assumption) | exact adv_le (Nat.le_refl _) | exact adv_le (adv_le (by assumption)) | exact adv_le (adv_le (Nat.le_refl _)))
         | (refine mon_c ?_; first | assumption | exact Nat.le_refl _ | exact adv_le (by assumption) | exact adv_le (Nat.le_refl _) | exact adv_le (adv_le (by assumption)) | exact adv_le (adv_le (Nat.le_refl _)))
         | refine Mon.bind ?_ (fun _ _ _ _ => ?_)
         | (refine Mon.must ?_ (fun _ _ => ?_); first | assumption | exact Nat.le_refl _ | exact adv_le (by assumption) | exact adv_le (Nat.le_refl _) | exact adv_le (adv_le (by assumption)))
         | (refine Mon.name ?_ (fun _ _ _ => ?_); first | assumption | exact Nat.le_refl _ | exact adv_le (by assumption) | exact adv_le (Nat.le_refl _) | exact adv_le (adv_le (by assumption)))
         | refine Mon.open (fun _ => ?_)
         | split)
   | items ks ags =>
     simp only [run]; refine Sim.bind (ih _ _ _ _ _ _ rfl hd12 h) (fun t R S o k => ?_) (fun t R o => ?_)
     · try simp only []
       split
       · obtain ⟨e, k2⟩ := k.is [44] rfl rfl; try simp only []
         rw [e]
         cases hb : is1 [44] S with
         | true => exact ih _ _ _ _ _ _ rfl hd12 (k2 hb)
         | false => exact Sim.ok k
       · exact Sim.oof
     · repeat' (first
         | exact Mon.fail | exact Mon.oof
         | (refine Mon.ok ?_; first | assumption | exact Nat.le_refl _ | exact adv_le (by assumption) | exact adv_le (Nat.le_refl _) | exact adv_le (adv_le (by assumption)) | exact adv_le (adv_le (Nat.le_refl _)))
         | (refine mon_c ?_; first | assumption | exact Nat.le_refl _ | exact adv_le (by assumption) | exact adv_le (Nat.le_refl _) | exact adv_le (adv_le (by assumption)) | exact adv_le (adv_le (Nat.le_refl _)))
         | refine Mon.bind ?_ (fun _ _ _ _ => ?_)
         | (refine Mon.must ?_ (fun _ _ => ?_); first | assumption | exact Nat.le_refl _ | exact adv_le (by assumption) | exact adv_le (Nat.le_refl _) | exact adv_le (adv_le (by assumption)))
         | (refine Mon.name ?_ (fun _ _ _ => ?_); first | assumption | exact Nat.le_refl _ | exact adv_le (by assumption) | exact adv_le (Nat.le_refl _) | exact adv_le (adv_le (by assumption)))
         | refine Mon.open (fun _ => ?_)
         | split)
   | item =>
     rcases h.cases with ⟨rfl, rfl⟩ | ⟨e, k, hl1, hl2⟩
     · exact Sim.bad (z1_no (n + 1) .item _ _ rfl)
     · simp only [run, e]; obtain ⟨e2, k2⟩ := k.is [61] rfl rfl; rw [e2]; by_cases hx : (hd S).kind = 1 ∧ 1 < S.length ∧ is1 [61] (adv S) = true
       · rw [if_pos ⟨hx.1, hl1, hx.2.2⟩, if_pos hx]; have k3 := k2 hx.2.2; repeat' (first
           | exact Sim.fail | exact Sim.oof | exact Sim.oof2
           | exact Sim.ok (by assumption)
           | exact ih _ _ _ _ _ _ rfl (by assumption) (by assumption)
           | refine Sim.bind ?_ (fun _ _ _ _ _ => ?_) (fun _ _ _ => ?_)
           | refine Sim.open (by assumption) (fun _ _ _ => ?_)
           | refine Sim.must (by assumption) rfl (fun _ _ _ => ?_)
           | refine Sim.name (by assumption) (fun _ _ _ _ => ?_)
           | first
           | exact Mon.fail | exact Mon.oof
           | (refine Mon.ok ?_; first | assumption | exact Nat.le_refl _ | exact adv_le (by assumption) | exact adv_le (Nat.le_refl _) | exact adv_le (adv_le (by assumption)) | exact adv_le (adv_le (Nat.le_refl _)))
           | (refine mon_c ?_; first | assumption | exact Nat.le_refl _ | exact adv_le (by assumption) | exact adv_le (Nat.le_refl _) | exact adv_le (adv_le (by assumption)) | exact adv_le (adv_le (Nat.le_refl _)))
           | refine Mon.bind ?_ (fun _ _ _ _ => ?_)
           | (refine Mon.must ?_ (fun _ _ => ?_); first | assumption | exact Nat.le_refl _ | exact adv_le (by assumption) | exact adv_le (Nat.le_refl _) | exact adv_le (adv_le (by assumption)))
           | (refine Mon.name ?_ (fun _ _ _ => ?_); first | assumption | exact Nat.le_refl _ | exact adv_le (by assumption) | exact adv_le (Nat.le_refl _) | exact adv_le (adv_le (by assumption)))
           | refine Mon.open (fun _ => ?_)
           | split)
       rw [if_neg (fun hy => hx ⟨hy.1, hl2, hy.2.2⟩), if_neg hx]; clear hx; rw [show is1 [91] R = is1 [91] S by simp only [is1, e]]; by_cases hx : is1 [91] S = true
       · rw [if_pos hx, if_pos hx]; repeat' (first
           | exact Sim.fail | exact Sim.oof | exact Sim.oof2
           | exact Sim.ok (by assumption)
           | exact ih _ _ _ _ _ _ rfl (by assumption) (by assumption)
           | refine Sim.bind ?_ (fun _ _ _ _ _ => ?_) (fun _ _ _ => ?_)
           | refine Sim.open (by assumption) (fun _ _ _ => ?_)
           | refine Sim.must (by assumption) rfl (fun _ _ _ => ?_)
           | refine Sim.name (by assumption) (fun _ _ _ _ => ?_)
           | first
           | exact Mon.fail | exact Mon.oof
           | (refine Mon.ok ?_; first | assumption | exact Nat.le_refl _ | exact adv_le (by assumption) | exact adv_le (Nat.le_refl _) | exact adv_le (adv_le (by assumption)) | exact adv_le (adv_le (Nat.le_refl _)))
           | (refine mon_c ?_; first | assumption | exact Nat.le_refl _ | exact adv_le (by assumption) | exact adv_le (Nat.le_refl _) | exact adv_le (adv_le (by assumption)) | exact adv_le (adv_le (Nat.le_refl _)))
           | refine Mon.bind ?_ (fun _ _ _ _ => ?_)
           | (refine Mon.must ?_ (fun _ _ => ?_); first | assumption | exact Nat.le_refl _ | exact adv_le (by assumption) | exact adv_le (Nat.le_refl _) | exact adv_le (adv_le (by assumption)))
           | (refine Mon.name ?_ (fun _ _ _ => ?_); first | assumption | exact Nat.le_refl _ | exact adv_le (by assumption) | exact adv_le (Nat.le_refl _) | exact adv_le (adv_le (by assumption)))
           | refine Mon.open (fun _ => ?_)
           | split)
       rw [if_neg hx, if_neg hx]; repeat' (first
         | exact Sim.fail | exact Sim.oof | exact Sim.oof2
         | exact Sim.ok (by assumption)
         | exact ih _ _ _ _ _ _ rfl (by assumption) (by assumption)
         | refine Sim.bind ?_ (fun _ _ _ _ _ => ?_) (fun _ _ _ => ?_)
         | refine Sim.open (by assumption) (fun _ _ _ => ?_)
         | refine Sim.must (by assumption) rfl (fun _ _ _ => ?_)
         | refine Sim.name (by assumption) (fun _ _ _ _ => ?_)
         | first
         | exact Mon.fail | exact Mon.oof
         | (refine Mon.ok ?_; first | assumption | exact Nat.le_refl _ | exact adv_le (by assumption) | exact adv_le (Nat.le_refl _) | exact adv_le (adv_le (by assumption)) | exact adv_le (adv_le (Nat.le_refl _)))
         | (refine mon_c ?_; first | assumption | exact Nat.le_refl _ | exact adv_le (by assumption) | exact adv_le (Nat.le_refl _) | exact adv_le (adv_le (by assumption)) | exact adv_le (adv_le (Nat.le_refl _)))
         | refine Mon.bind ?_ (fun _ _ _ _ => ?_)
         | (refine Mon.must ?_ (fun _ _ => ?_); first | assumption | exact Nat.le_refl _ | exact adv_le (by assumption) | exact adv_le (Nat.le_refl _) | exact adv_le (adv_le (by assumption)))
         | (refine Mon.name ?_ (fun _ _ _ => ?_); first | assumption | exact Nat.le_refl _ | exact adv_le (by assumption) | exact adv_le (Nat.le_refl _) | exact adv_le (adv_le (by assumption)))
         | refine Mon.open (fun _ => ?_)
         | split)
   | func named =>
     simp only [run]; refine Sim.open hd12 (fun d1 d2 hd => ?_); refine Sim.must h rfl (fun R S h => ?_)
     cases named with
     | true =>
       try simp only []
       refine Sim.name h (fun nm R S h => ?_); try simp only []
       obtain ⟨e, k⟩ := h.is [40] rfl rfl; rw [e]
       cases hb : is1 [40] S with
       | false => exact Sim.fail
       | true =>
         refine Sim.open hd (fun d3 d4 hd2 => ?_); have k1 := k hb; rcases k1.cases with ⟨e1, e2⟩ | ⟨e, k2, _, _⟩
         · rw [e1]; rw [show is1 [41] (Z1 l) = false from rfl]; exact Sim.badb (z1_no _ _ _ _ rfl)
         · rw [show is1 [41] (adv R) = is1 [41] (adv S) by simp only [is1, e]]
           cases is1 [41] (adv S) with
           | true => repeat' (first
                       | exact Sim.fail | exact Sim.oof | exact Sim.oof2
                       | exact Sim.ok (by assumption)
                       | exact ih _ _ _ _ _ _ rfl (by assumption) (by assumption)
                       | refine Sim.bind ?_ (fun _ _ _ _ _ => ?_) (fun _ _ _ => ?_)
                       | refine Sim.open (by assumption) (fun _ _ _ => ?_)
                       | refine Sim.must (by assumption) rfl (fun _ _ _ => ?_)
                       | refine Sim.name (by assumption) (fun _ _ _ _ => ?_)
                       | first
                       | exact Mon.fail | exact Mon.oof
                       | (refine Mon.ok ?_; first | assumption | exact Nat.le_refl _ | exact adv_le (by assumption) | exact adv_le (Nat.le_refl _) | exact adv_le (adv_le (by assumption)) | exact adv_le (adv_le (Nat.le_refl _)))
                       | (refine mon_c ?_; first | assumption | exact Nat.le_refl _ | exact adv_le (by assumption) | exact adv_le (Nat.le_refl _) | exact adv_le (adv_le (by assumption)) | exact adv_le (adv_le (Nat.le_refl _)))
                       | refine Mon.bind ?_ (fun _ _ _ _ => ?_)
                       | (refine Mon.must ?_ (fun _ _ => ?_); first | assumption | exact Nat.le_refl _ | exact adv_le (by assumption) | exact adv_le (Nat.le_refl _) | exact adv_le (adv_le (by assumption)))
                       | (refine Mon.name ?_ (fun _ _ _ => ?_); first | assumption | exact Nat.le_refl _ | exact adv_le (by assumption) | exact adv_le (Nat.le_refl _) | exact adv_le (adv_le (by assumption)))
                       | refine Mon.open (fun _ => ?_)
                       | split)
           | false => repeat' (first
                        | exact Sim.fail | exact Sim.oof | exact Sim.oof2
                        | exact Sim.ok (by assumption)
                        | exact ih _ _ _ _ _ _ rfl (by assumption) (by assumption)
                        | refine Sim.bind ?_ (fun _ _ _ _ _ => ?_) (fun _ _ _ => ?_)
                        | refine Sim.open (by assumption) (fun _ _ _ => ?_)
                        | refine Sim.must (by assumption) rfl (fun _ _ _ => ?_)
                        | refine Sim.name (by assumption) (fun _ _ _ _ => ?_)
                        | first
                        | exact Mon.fail | exact Mon.oof
                        | (refine Mon.ok ?_; first | assumption | exact Nat.le_refl _ | exact adv_le (by assumption) | exact adv_le (Nat.le_refl _) | exact adv_le (adv_le (by assumption)) | exact adv_le (adv_le (Nat.le_refl _)))
                        | (refine mon_c ?_; first | assumption | exact Nat.le_refl _ | exact adv_le (by assumption) | exact adv_le (Nat.le_refl _) | exact adv_le (adv_le (by assumption)) | exact adv_le (adv_le (Nat.le_refl _)))
                        | refine Mon.bind ?_ (fun _ _ _ _ => ?_)
                        | (refine Mon.must ?_ (fun _ _ => ?_); first | assumption | exact Nat.le_refl _ | exact adv_le (by assumption) | exact adv_le (Nat.le_refl _) | exact adv_le (adv_le (by assumption)))
                        | (refine Mon.name ?_ (fun _ _ _ => ?_); first | assumption | exact Nat.le_refl _ | exact adv_le (by assumption) | exact adv_le (Nat.le_refl _) | exact adv_le (adv_le (by assumption)))
                        | refine Mon.open (fun _ => ?_)
                        | split)
     | false =>
       try simp only []
       obtain ⟨e, k⟩ := h.is [40] rfl rfl; rw [e]
       cases hb : is1 [40] S with
       | false => exact Sim.fail
       | true =>
         refine Sim.open hd (fun d3 d4 hd2 => ?_); have k1 := k hb; rcases k1.cases with ⟨e1, e2⟩ | ⟨e, k2, _, _⟩
         · rw [e1]; rw [show is1 [41] (Z1 l) = false from rfl]; exact Sim.badb (z1_no _ _ _ _ rfl)
         · rw [show is1 [41] (adv R) = is1 [41] (adv S) by simp only [is1, e]]
           cases is1 [41] (adv S) with
           | true => repeat' (first
                       | exact Sim.fail | exact Sim.oof | exact Sim.oof2
                       | exact Sim.ok (by assumption)
                       | exact ih _ _ _ _ _ _ rfl (by assumption) (by assumption)
                       | refine Sim.bind ?_ (fun _ _ _ _ _ => ?_) (fun _ _ _ => ?_)
                       | refine Sim.open (by assumption) (fun _ _ _ => ?_)
                       | refine Sim.must (by assumption) rfl (fun _ _ _ => ?_)
                       | refine Sim.name (by assumption) (fun _ _ _ _ => ?_)
                       | first
                       | exact Mon.fail | exact Mon.oof
                       | (refine Mon.ok ?_; first | assumption | exact Nat.le_refl _ | exact adv_le (by assumption) | exact adv_le (Nat.le_refl _) | exact adv_le (adv_le (by assumption)) | exact adv_le (adv_le (Nat.le_refl _)))
                       | (refine mon_c ?_; first | assumption | exact Nat.le_refl _ | exact adv_le (by assumption) | exact adv_le (Nat.le_refl _) | exact adv_le (adv_le (by assumption)) | exact adv_le (adv_le (Nat.le_refl _)))
                       | refine Mon.bind ?_ (fun _ _ _ _ => ?_)
                       | (refine Mon.must ?_ (fun _ _ => ?_); first | assumption | exact Nat.le_refl _ | exact adv_le (by assumption) | exact adv_le (Nat.le_refl _) | exact adv_le (adv_le (by assumption)))
                       | (refine Mon.name ?_ (fun _ _ _ => ?_); first | assumption | exact Nat.le_refl _ | exact adv_le (by assumption) | exact adv_le (Nat.le_refl _) | exact adv_le (adv_le (by assumption)))
                       | refine Mon.open (fun _ => ?_)
                       | split)
           | false => repeat' (first
                        | exact Sim.fail | exact Sim.oof | exact Sim.oof2
                        | exact Sim.ok (by assumption)
                        | exact ih _ _ _ _ _ _ rfl (by assumption) (by assumption)
                        | refine Sim.bind ?_ (fun _ _ _ _ _ => ?_) (fun _ _ _ => ?_)
                        | refine Sim.open (by assumption) (fun _ _ _ => ?_)
                        | refine Sim.must (by assumption) rfl (fun _ _ _ => ?_)
                        | refine Sim.name (by assumption) (fun _ _ _ _ => ?_)
                        | first
                        | exact Mon.fail | exact Mon.oof
                        | (refine Mon.ok ?_; first | assumption | exact Nat.le_refl _ | exact adv_le (by assumption) | exact adv_le (Nat.le_refl _) | exact adv_le (adv_le (by assumption)) | exact adv_le (adv_le (Nat.le_refl _)))
                        | (refine mon_c ?_; first | assumption | exact Nat.le_refl _ | exact adv_le (by assumption) | exact adv_le (Nat.le_refl _) | exact adv_le (adv_le (by assumption)) | exact adv_le (adv_le (Nat.le_refl _)))
                        | refine Mon.bind ?_ (fun _ _ _ _ => ?_)
                        | (refine Mon.must ?_ (fun _ _ => ?_); first | assumption | exact Nat.le_refl _ | exact adv_le (by assumption) | exact adv_le (Nat.le_refl _) | exact adv_le (adv_le (by assumption)))
                        | (refine Mon.name ?_ (fun _ _ _ => ?_); first | assumption | exact Nat.le_refl _ | exact adv_le (by assumption) | exact adv_le (Nat.le_refl _) | exact adv_le (adv_le (by assumption)))
                        | refine Mon.open (fun _ => ?_)
                        | split)
end Go.Proofs.YtoddjlclpnoomaaGreatDoor

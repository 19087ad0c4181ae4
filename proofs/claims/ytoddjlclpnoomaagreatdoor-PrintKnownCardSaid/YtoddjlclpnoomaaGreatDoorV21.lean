/- PrintKnown proved: the chapter's examples, what can't be written, trees that are their own parts. A closed statement: no condition beside the row's own. -/
import Derived.Test.YtoddjlclpnoomaaGreatDoorV19
import Derived.Test.YtoddjlclpnoomaaGreatDoorV20
set_option linter.unusedVariables false
set_option linter.unusedSimpArgs false
set_option maxRecDepth 100000
namespace Go.Proofs.YtoddjlclpnoomaaGreatDoor
open Go.Sh Go.RowKit Go.Lib Go.Shelf Go.ChangeShapes Go.WideShapes Go.ChangeAt
theorem known_lifted (os : Os) (started : os.Started) (H : Type) (enc : TypeId × Value → H) :
   ReturnsInHanded {} Tryz.checked os 8 .any (fun w args => (Rows.printKnownSpec.pre enc Tryz.prog Tryz.f8 [] false w args ∧ laidMetH Tryz.prog laidL w) ∧ sizedMet enc Tryz.prog Tryz.f8 (OpenSpec.ofChange Rows.printKnownSpec) false w args)
     (Rows.printKnownSpec.post enc Tryz.prog Tryz.f8 false true false false) := by
 refine rih_open (C := Tryz.checked) (X := fun w _ => laidMetH Tryz.prog laidL w) (fun w w' _ hh h => laid_heap w w' hh h) own started (by kernel_rfl) Tryz.func8
   (ChangeSpec.witness_shaped (enc := enc) (C := Tryz.checked) (os := os) (X := fun w _ => laidMetH Tryz.prog laidL w) false (startW os) #[] 8 (startW_os os) (start_shaped os _) (by kernel_rfl) (by kernel_rfl) (by kernel_rfl) (start_met os _)) ?_
 intro W base args ds gs before hs hval0 hW hL; have hval : ∀ (j : Nat) t v, Tryz.f8.params[j]? = some t → args[j]? = some v → Value.okWide Tryz.prog W .any base t v := hval0; have hW' := hW; obtain ⟨p, q, hA0, hV, rfl, _, _⟩ := hW; have hA : DataW.TrodAll enc Tryz.prog W 0 (fun _ => true) true Tryz.f8.params.toList args.toList ds p := hA0; rw [Tryz.params8] at hA; obtain ⟨rfl, rfl, rfl⟩ := trodAll_none hA; obtain ⟨rfl, rfl⟩ := trodVars_none hV; clear hA0; simp only [List.append_nil] at hW'; refine (law8 (gl_of_laid hL hs)).mono ?_; rintro e W' h
 cases e with
 | returned u =>
   obtain ⟨rfl, K⟩ := h; exact ⟨_, rfl, _, _, _, [], _, [], hW', trodAll_mk1 (shut_bool Tryz.underlying4 true), trodAll_mk0, rfl, keep_keptBut K _, fun h => by cases h⟩
 | panicked c => exact h.elim
 | outgrown => exact h.elim
theorem known_holds : Rows.PrintKnownSaid :=
  OpenClaim.holds_of_wide 8 Tryz.f8 rfl rfl rfl rfl rfl rfl rfl ⟨rfl, rfl, rfl, rfl, rfl⟩ rfl rfl rfl rfl rfl (by kernel_rfl) Tryz.func8 (by kernel_rfl)
    (of_decide_eq_true (by kernel_rfl)) (by unfold Func.isWrapper; first | (rw [if_pos (by decide +kernel)]; kernel_rfl) | (rw [if_neg (by decide +kernel)]; exact ⟨rfl, rfl⟩))
    (fun os started H enc _ => known_lifted os started H enc)
theorem known_card : Rows.PrintKnownCardSaid :=
 Claim7.holds_tied_plain_at .later [] [.data, .data, .data, .data, .handle, .sentinel, .sentinel, .listed, .data, .pinned] true (true, "069f827847f5d06f74c88ef4072bea09f2cf19a41c1836ac65fb1bb81358d246") true
   known_holds (fun _ h => by cases h) (by kernel_rfl) (fun _ h => by cases h) printKnown_row_tie rfl ⟨rfl, rfl⟩ (by kernel_rfl) rfl
   (fun f fn hf hfn => by
     obtain rfl : f = 8 := Option.some.inj ((show Tryz.prog.funcNamed "tallow/tallowlaw06.PrintKnown" = some 8 by kernel_rfl).symm.trans hf) |>.symm
     obtain rfl : fn = Tryz.f8 := (Option.some.inj (Tryz.func8.symm.trans hfn)).symm; exact ⟨by kernel_rfl, fun j t ht => by
       rw [Tryz.params8] at ht; simp at ht⟩)
   (by kernel_rfl)
end Go.Proofs.YtoddjlclpnoomaaGreatDoor

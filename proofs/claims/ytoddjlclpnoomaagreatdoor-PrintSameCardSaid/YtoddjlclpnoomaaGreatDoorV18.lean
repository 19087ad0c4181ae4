import Derived.Test.YtoddjlclpnoomaaGreatDoorV15
import Derived.Test.YtoddjlclpnoomaaGreatDoorV17
set_option linter.unusedVariables false
set_option linter.unusedSimpArgs false
set_option maxRecDepth 100000
namespace Go.Proofs.YtoddjlclpnoomaaGreatDoor
open Go.Sh
theorem Rep.rowAt' {F : Nat → Prop} {w : World} {l : Tr} {v : Value} (h : Rep F w l (.L v)) (hh : l ≠ .hole) : ∃ a n c, v = .slice a n c ∧ RowAt F w l a 0 n := by
 rcases h.row hh with ⟨a', c', rfl, rfl⟩ | ⟨q, n', c', rfl, h1, _⟩
 · exact ⟨_, _, _, rfl, .inl ⟨rfl, rfl⟩⟩
 · exact ⟨_, _, _, rfl, .inr ⟨q, rfl, h1⟩⟩
theorem args_hole {n : Nat} {f : Bool} {b : List UInt8} {p : Nat} : prn n (.args .hole f) b p = .oof := by
 cases n <;> rfl
theorem p63 {n : Nat} (H : ∀ m, m ≤ n → PAll m) {w : World} {b : Nat} {buf : List UInt8} {parts : Nat} {e : Tr} {v : Value} {r : PR} (ht : TX w b buf parts) (re : Rep (FO b w) w e (.P v)) (hr : prn (n + 1) (.expr e) buf parts = r) (hne : r ≠ .oof) :
   Calls Tryz.prog 63 #[ptr b, v] w (Ret (fun _ => POk w b r) (PEr w b r)) := by
 refine s63 ?_; unfold S63; have kk := KO.refl b w; have Hn := H n (Nat.le_refl _); simp only [prn] at hr
 cases e with
 | nil =>
   dsimp only at hr; obtain rfl : v = .pointer none := re; refine V1.i (by simp [go_sem] <;> trivial) ?_; refine J1.go (Gd.ft ?_); refine V1.i (by simp [go_sem] <;> trivial) ?_; refine J1.go (Gd.ft ?_); refine V1.i (by simp [go_sem] <;> trivial) ?_; refine cf20 (c20 w false 2) ?_ ?_
   · rintro _ w3 ⟨hb0, _⟩
     cases hb0
   · rintro c w3 ⟨_, rfl, rfl⟩; subst hr; exact ⟨rfl, kk, ht.ab, ht.gl⟩
 | ex k nn text l rr ks gs ps body =>
   dsimp only at hr; obtain ⟨c, line, lv, rv, kv, av, pv, bv, rfl, qe, ae, rl, rq, rk, ra, sp, rb⟩ := re; refine V1.i (v := .bool true) (w' := w) (by simp [go_sem, ptr]; first | done | rfl | exact ⟨rfl, rfl⟩) ?_; refine J1.go (Gd.tt ?_); refine Up.i (Nc.p _ _) ?_; refine V1.i (by simp [go_sem] <;> trivial) ?_; refine V1.load (oneAll rfl) (ae) rfl ?_; refine V1.i (v := .bool (decide (1 ≤ k))) (w' := w) (by simp [go_sem]) ?_; refine V1.i (v := .bool (decide (1 ≤ k))) (w' := w) (by simp [go_sem]) ?_; refine J1.gd (decide (k ≤ 12)) (fun h kx hkx => ?_) ?_
   · refine Up.i (Nc.p _ _) ?_; refine V1.i (by simp [go_sem] <;> trivial) ?_; refine V1.load (oneAll rfl) (ae) rfl ?_; refine V1.i (v := .bool (decide (k ≤ 12))) (w' := w) (by simp [go_sem]) ?_; exact hkx
   refine V1.i (pkA _ _ _) ?_; by_cases hk : k < 1 ∨ 12 < k
   · rw [if_pos hk] at hr; have hb : (decide (1 ≤ k) && decide (k ≤ 12)) = false := by
       rw [Bool.and_eq_false_iff]; simp; omega
     rw [hb]; refine cf20 (c20 w false 2) ?_ ?_
     · rintro _ w3 ⟨hb0, _⟩
       cases hb0
     · rintro c w3 ⟨_, rfl, rfl⟩; subst hr; exact ⟨rfl, kk, ht.ab, ht.gl⟩
   rw [if_neg hk] at hr; have hb : (decide (1 ≤ k) && decide (k ≤ 12)) = true := by
     rw [Bool.and_eq_true]; simp; omega
   rw [hb]; refine cf20 (c20 w true 2) ?_ ?_; rotate_left
   · rintro c w3 ⟨hb0, _⟩
     cases hb0
   rintro _ w3 ⟨_, rfl⟩; refine cf61 (c61 ht rfl) ?_ (fun c w' h => PEr.up h hr kk ht); rintro _ wP hP; obtain ⟨bufP, partsP, eP, htP, kP⟩ := POk.out hP; have hA := Adds.part _ _ eP; rw [eP, PR.bind_ok] at hr; have hpq := kP.at ht ae qe; clear ae qe; obtain ⟨ae, qe⟩ := hpq; replace rl := kP.rep ht rl; replace rq := kP.rep ht rq; replace rk := kP.rep ht rk; replace ra := kP.rep ht ra; replace sp := kP.strs ht sp; replace rb := kP.rep ht rb; replace kk := kk.trans kP ht.ab; replace ht := htP; clear hP eP htP kP; refine Up.i (Nc.p _ _) ?_; refine V1.i (by simp [go_sem] <;> trivial) ?_; refine V1.load (oneAll rfl) (ae) rfl ?_; have hcs : k = 1 ∨ k = 2 ∨ k = 3 ∨ k = 4 ∨ k = 5 ∨ k = 6 ∨ k = 7 ∨ k = 8 ∨ k = 9 ∨ k = 10 ∨ k = 11 ∨ k = 12 := by omega
   clear hb hk; rcases hcs with rfl | rfl | rfl | rfl | rfl | rfl | rfl | rfl | rfl | rfl | rfl | rfl
   · refine V1.i (eqInt _ _ _) ?_; refine If.t ?_; simp only [reduceIte, Int.reduceEq] at hr; refine V1.newSlice (by simp [go_sem] <;> trivial) fun bs ws NS => ?_; have fS := ht.fon NS.keep NS.ge; have aS : At ws bs (List.map str [sNil]) := NS.at_; have kS := KO.keep (b := b) NS.keep; have hpq := kS.at ht ae qe; clear ae qe; obtain ⟨ae, qe⟩ := hpq; replace rl := kS.rep ht rl; replace rq := kS.rep ht rq; replace rk := kS.rep ht rk; replace ra := kS.rep ht ra; replace sp := kS.strs ht sp; replace rb := kS.rep ht rb; replace kk := kk.trans kS ht.ab; replace ht := ht.keep NS.keep; have h36 := c36 ht aS fS (by simp) hr hne; refine cf36 h36 (fun v w' h => POk.pre h kk ht) (fun c w' h => PEr.pre h kk ht)
   · iterate 1 (refine V1.i (eqInt _ _ _) ?_; refine If.f ?_)
     refine V1.i (eqInt _ _ _) ?_; refine If.t ?_; simp only [reduceIte, Int.reduceEq] at hr; refine V1.newSlice (by simp [go_sem] <;> trivial) fun bs ws NS => ?_; have fS := ht.fon NS.keep NS.ge; have aS : At ws bs (List.map str [sTrue]) := NS.at_; have kS := KO.keep (b := b) NS.keep; have hpq := kS.at ht ae qe; clear ae qe; obtain ⟨ae, qe⟩ := hpq; replace rl := kS.rep ht rl; replace rq := kS.rep ht rq; replace rk := kS.rep ht rk; replace ra := kS.rep ht ra; replace sp := kS.strs ht sp; replace rb := kS.rep ht rb; replace kk := kk.trans kS ht.ab; replace ht := ht.keep NS.keep; have h36 := c36 ht aS fS (by simp) hr hne; refine cf36 h36 (fun v w' h => POk.pre h kk ht) (fun c w' h => PEr.pre h kk ht)
   · iterate 2 (refine V1.i (eqInt _ _ _) ?_; refine If.f ?_)
     refine V1.i (eqInt _ _ _) ?_; refine If.t ?_; simp only [reduceIte, Int.reduceEq] at hr; refine V1.newSlice (by simp [go_sem] <;> trivial) fun bs ws NS => ?_; have fS := ht.fon NS.keep NS.ge; have aS : At ws bs (List.map str [sFalse]) := NS.at_; have kS := KO.keep (b := b) NS.keep; have hpq := kS.at ht ae qe; clear ae qe; obtain ⟨ae, qe⟩ := hpq; replace rl := kS.rep ht rl; replace rq := kS.rep ht rq; replace rk := kS.rep ht rk; replace ra := kS.rep ht ra; replace sp := kS.strs ht sp; replace rb := kS.rep ht rb; replace kk := kk.trans kS ht.ab; replace ht := ht.keep NS.keep; have h36 := c36 ht aS fS (by simp) hr hne; refine cf36 h36 (fun v w' h => POk.pre h kk ht) (fun c w' h => PEr.pre h kk ht)
   · iterate 3 (refine V1.i (eqInt _ _ _) ?_; refine If.f ?_)
     refine V1.i (eqInt _ _ _) ?_; refine If.t ?_; simp only [reduceIte, Int.reduceEq] at hr; by_cases h6 : i64 nn = true
     rotate_left
     · rw [if_neg h6] at hr; exact absurd hr.symm hne
     rw [if_pos h6] at hr; have h7 : -9223372036854775808 ≤ nn ∧ nn ≤ 9223372036854775807 := by simpa [i64] using h6
     refine Up.i (Nc.p _ _) ?_; refine V1.i (by simp [go_sem] <;> trivial) ?_; refine V1.load (oneAll rfl) (ae) rfl ?_; refine cf112 (c112 _ _ ht.gl h7.1 h7.2) ?_ (NP.no (e := _)); rintro _ w2 ⟨rfl, K2⟩; have kS := KO.keep (b := b) K2; have hpq := kS.at ht ae qe; clear ae qe; obtain ⟨ae, qe⟩ := hpq; replace rl := kS.rep ht rl; replace rq := kS.rep ht rq; replace rk := kS.rep ht rk; replace ra := kS.rep ht ra; replace sp := kS.strs ht sp; replace rb := kS.rep ht rb; replace kk := kk.trans kS ht.ab; replace ht := ht.keep K2; clear kS; refine V1.newSlice (by simp [go_sem] <;> trivial) fun bs ws NS => ?_; have fS := ht.fon NS.keep NS.ge; have aS : At ws bs (List.map str [Lib.itoa nn]) := NS.at_; have kS := KO.keep (b := b) NS.keep; have hpq := kS.at ht ae qe; clear ae qe; obtain ⟨ae, qe⟩ := hpq; replace rl := kS.rep ht rl; replace rq := kS.rep ht rq; replace rk := kS.rep ht rk
     replace ra := kS.rep ht ra; replace sp := kS.strs ht sp; replace rb := kS.rep ht rb; replace kk := kk.trans kS ht.ab; replace ht := ht.keep NS.keep; have h36 := c36 ht aS fS (by simp) hr hne; refine cf36 h36 (fun v w' h => POk.pre h kk ht) (fun c w' h => PEr.pre h kk ht)
   · iterate 4 (refine V1.i (eqInt _ _ _) ?_; refine If.f ?_)
     refine V1.i (eqInt _ _ _) ?_; refine If.t ?_; simp only [reduceIte, Int.reduceEq] at hr; refine Up.i (Nc.p _ _) ?_; refine V1.i (by simp [go_sem] <;> trivial) ?_; refine V1.load (oneAll rfl) (ae) rfl ?_; refine cf113 (c113 _ _) ?_ (NP.no (e := _)); rintro _ w2 ⟨rfl, K2⟩; have kS := KO.keep (b := b) K2; have hpq := kS.at ht ae qe; clear ae qe; obtain ⟨ae, qe⟩ := hpq; replace rl := kS.rep ht rl; replace rq := kS.rep ht rq; replace rk := kS.rep ht rk; replace ra := kS.rep ht ra; replace sp := kS.strs ht sp; replace rb := kS.rep ht rb; replace kk := kk.trans kS ht.ab; replace ht := ht.keep K2; clear kS; refine V1.newSlice (by simp [go_sem] <;> trivial) fun bs ws NS => ?_; have fS := ht.fon NS.keep NS.ge; have aS : At ws bs (List.map str [quotedT text]) := NS.at_; have kS := KO.keep (b := b) NS.keep; have hpq := kS.at ht ae qe; clear ae qe; obtain ⟨ae, qe⟩ := hpq
     replace rl := kS.rep ht rl; replace rq := kS.rep ht rq; replace rk := kS.rep ht rk; replace ra := kS.rep ht ra; replace sp := kS.strs ht sp; replace rb := kS.rep ht rb; replace kk := kk.trans kS ht.ab; replace ht := ht.keep NS.keep; have h36 := c36 ht aS fS (by simp) hr hne; refine cf36 h36 (fun v w' h => POk.pre h kk ht) (fun c w' h => PEr.pre h kk ht)
   · iterate 5 (refine V1.i (eqInt _ _ _) ?_; refine If.f ?_)
     refine V1.i (eqInt _ _ _) ?_; refine If.t ?_; simp only [reduceIte, Int.reduceEq] at hr; refine Up.i (Nc.p _ _) ?_; refine V1.i (by simp [go_sem] <;> trivial) ?_; refine V1.load (oneAll rfl) (ae) rfl ?_; refine V1.newSlice (by simp [go_sem] <;> trivial) fun bs ws NS => ?_; have fS := ht.fon NS.keep NS.ge; have aS : At ws bs (List.map str [text]) := NS.at_; have kS := KO.keep (b := b) NS.keep; have hpq := kS.at ht ae qe; clear ae qe; obtain ⟨ae, qe⟩ := hpq; replace rl := kS.rep ht rl; replace rq := kS.rep ht rq; replace rk := kS.rep ht rk; replace ra := kS.rep ht ra; replace sp := kS.strs ht sp; replace rb := kS.rep ht rb; replace kk := kk.trans kS ht.ab; replace ht := ht.keep NS.keep; have h36 := c36 ht aS fS (by simp) hr hne; refine cf36 h36 (fun v w' h => POk.pre h kk ht) (fun c w' h => PEr.pre h kk ht)
   · iterate 6 (refine V1.i (eqInt _ _ _) ?_; refine If.f ?_)
     refine V1.i (eqInt _ _ _) ?_; refine If.t ?_; simp only [reduceIte, Int.reduceEq] at hr; by_cases h6 : (kn l && kn rr) = true
     rotate_left
     · rw [if_neg h6] at hr; exact absurd hr.symm hne
     rw [if_pos h6] at hr; rw [Bool.and_eq_true] at h6; refine Up.i (Nc.p _ _) ?_; refine V1.i (by simp [go_sem] <;> trivial) ?_; refine V1.load (oneAll rfl) (ae) rfl ?_; have hK := p114 Hn h6.1 ht rl rfl (PR.bind_ne hr hne); refine cf114 hK ?_ (fun c w' h => PEr.up h hr kk ht); clear hK; rintro _ wP hP; obtain ⟨bufP, partsP, eP, htP, kP⟩ := POk.out hP; have hA := prn_adds _ _ _ _ _ _ eP; rw [eP, PR.bind_ok] at hr; have hpq := kP.at ht ae qe; clear ae qe; obtain ⟨ae, qe⟩ := hpq; replace rl := kP.rep ht rl; replace rq := kP.rep ht rq; replace rk := kP.rep ht rk; replace ra := kP.rep ht ra; replace sp := kP.strs ht sp; replace rb := kP.rep ht rb; replace kk := kk.trans kP ht.ab; replace ht := htP; clear hP eP htP kP; refine Up.i (Nc.p _ _) ?_; refine V1.i (by simp [go_sem] <;> trivial) ?_; refine V1.load (oneAll rfl) (ae) rfl ?_; refine cf115 (c115 rq h6.2 ht.gl) ?_ (NP.no (e := _))
     rintro _ w2 ⟨rfl, K2⟩; have kS := KO.keep (b := b) K2; have hpq := kS.at ht ae qe; clear ae qe; obtain ⟨ae, qe⟩ := hpq; replace rl := kS.rep ht rl; replace rq := kS.rep ht rq; replace rk := kS.rep ht rk; replace ra := kS.rep ht ra; replace sp := kS.strs ht sp; replace rb := kS.rep ht rb; replace kk := kk.trans kS ht.ab; replace ht := ht.keep K2; clear kS
     cases rr with
     | nil =>
       refine If.f ?_; refine V1.newSlice (by simp [go_sem] <;> trivial) fun bs ws NS => ?_; have fS := ht.fon NS.keep NS.ge; have aS : At ws bs (List.map str [[91]]) := NS.at_; have kS := KO.keep (b := b) NS.keep; have hpq := kS.at ht ae qe; clear ae qe; obtain ⟨ae, qe⟩ := hpq; replace rl := kS.rep ht rl; replace rq := kS.rep ht rq; replace rk := kS.rep ht rk; replace ra := kS.rep ht ra; replace sp := kS.strs ht sp; replace rb := kS.rep ht rb; replace kk := kk.trans kS ht.ab; replace ht := ht.keep NS.keep; have h36 := c36 ht aS fS (by simp) rfl (PR.bind_ne hr hne); refine cf36 h36 ?_ (fun c w' h => PEr.up h hr kk ht); clear h36; rintro _ wP hP; obtain ⟨bufP, partsP, eP, htP, kP⟩ := POk.out hP; have hA2 := (Adds.putL _ _ _ _ _ eP).2; have hA := putL_len eP; simp only [List.map_cons, List.map_nil, List.sum_cons, List.sum_nil, List.length_cons, List.length_nil] at hA
       rw [eP, PR.bind_ok] at hr; have hpq := kP.at ht ae qe; clear ae qe; obtain ⟨ae, qe⟩ := hpq; replace rl := kP.rep ht rl; replace rq := kP.rep ht rq; replace rk := kP.rep ht rk; replace ra := kP.rep ht ra; replace sp := kP.strs ht sp; replace rb := kP.rep ht rb; replace kk := kk.trans kP ht.ab; replace ht := htP; clear hP eP htP kP; clear aS fS NS kS; refine Up.i (Nc.p _ _) ?_; refine V1.i (by simp [go_sem] <;> trivial) ?_; refine V1.load (oneAll rfl) (ae) rfl ?_; have hK := Hn.expr ht rq rfl (PR.bind_ne hr hne); refine cf63 hK ?_ (fun c w' h => PEr.up h hr kk ht); clear hK; rintro _ wP hP; obtain ⟨bufP, partsP, eP, htP, kP⟩ := POk.out hP; have hA := prn_adds _ _ _ _ _ _ eP; rw [eP, PR.bind_ok] at hr; have hpq := kP.at ht ae qe; clear ae qe; obtain ⟨ae, qe⟩ := hpq; replace rl := kP.rep ht rl; replace rq := kP.rep ht rq; replace rk := kP.rep ht rk; replace ra := kP.rep ht ra
       replace sp := kP.strs ht sp; replace rb := kP.rep ht rb; replace kk := kk.trans kP ht.ab; replace ht := htP; clear hP eP htP kP; refine V1.newSlice (by simp [go_sem] <;> trivial) fun bs ws NS => ?_; have fS := ht.fon NS.keep NS.ge; have aS : At ws bs (List.map str [[93]]) := NS.at_; have kS := KO.keep (b := b) NS.keep; have hpq := kS.at ht ae qe; clear ae qe; obtain ⟨ae, qe⟩ := hpq; replace rl := kS.rep ht rl; replace rq := kS.rep ht rq; replace rk := kS.rep ht rk; replace ra := kS.rep ht ra; replace sp := kS.strs ht sp; replace rb := kS.rep ht rb; replace kk := kk.trans kS ht.ab; replace ht := ht.keep NS.keep; have h36 := c36 ht aS fS (by simp) hr hne; refine cf36 h36 (fun v w' h => POk.pre h kk ht) (fun c w' h => PEr.pre h kk ht)
     | ex k1 n1 t1 l1 r1 ks1 as1 ps1 b1 =>
       dsimp only at hr
       cases hq : nameQ (.ex k1 n1 t1 l1 r1 ks1 as1 ps1 b1) with
       | true =>
         rw [hq, if_pos rfl] at hr; refine If.t ?_; refine cf61 (c61 ht rfl) ?_ (fun c w' h => PEr.up h hr kk ht); rintro _ wP hP; obtain ⟨bufP, partsP, eP, htP, kP⟩ := POk.out hP; have hA := Adds.part _ _ eP; rw [eP, PR.bind_ok] at hr; have hpq := kP.at ht ae qe; clear ae qe; obtain ⟨ae, qe⟩ := hpq; replace rl := kP.rep ht rl; replace rq := kP.rep ht rq; replace rk := kP.rep ht rk; replace ra := kP.rep ht ra; replace sp := kP.strs ht sp; replace rb := kP.rep ht rb; replace kk := kk.trans kP ht.ab; replace ht := htP; clear hP eP htP kP; refine Up.i (Nc.p _ _) ?_; refine V1.i (by simp [go_sem] <;> trivial) ?_; refine V1.load (oneAll rfl) (ae) rfl ?_; have hu : ∃ c2 x1 x2 x3 x4 x5 x6 x7, rv = ptr c2 ∧ At wP c2 [.int .i64 k1, .int .i64 x1, .int .i64 n1, str t1, x2, x3, x4, x5, x6, x7] := by
           obtain ⟨c2, x1, x2, x3, x4, x5, x6, x7, hrv, q2, ax2, _⟩ := rq; exact ⟨c2, x1, x2, x3, x4, x5, x6, x7, hrv, ax2⟩
         obtain ⟨c2, x1, x2, x3, x4, x5, x6, x7, hrv, ax2⟩ := hu; rw [hrv]; refine Up.i (Nc.p _ _) ?_; refine V1.i (by simp [go_sem] <;> trivial) ?_; refine V1.load (oneAll rfl) (ax2) rfl ?_; refine V1.newSlice (by simp [go_sem] <;> trivial) fun bs ws NS => ?_; have fS := ht.fon NS.keep NS.ge; have aS : At ws bs (List.map str [[46], t1]) := NS.at_; have kS := KO.keep (b := b) NS.keep; have hpq := kS.at ht ae qe; clear ae qe; obtain ⟨ae, qe⟩ := hpq; replace rl := kS.rep ht rl; replace rq := kS.rep ht rq; replace rk := kS.rep ht rk; replace ra := kS.rep ht ra; replace sp := kS.strs ht sp; replace rb := kS.rep ht rb; replace kk := kk.trans kS ht.ab; replace ht := ht.keep NS.keep; have h36 := c36 ht aS fS (by simp) hr hne; refine cf36 h36 (fun v w' h => POk.pre h kk ht) (fun c w' h => PEr.pre h kk ht)
       | false =>
         rw [hq, if_neg Bool.false_ne_true] at hr; refine If.f ?_; refine V1.newSlice (by simp [go_sem] <;> trivial) fun bs ws NS => ?_; have fS := ht.fon NS.keep NS.ge; have aS : At ws bs (List.map str [[91]]) := NS.at_; have kS := KO.keep (b := b) NS.keep; have hpq := kS.at ht ae qe; clear ae qe; obtain ⟨ae, qe⟩ := hpq; replace rl := kS.rep ht rl; replace rq := kS.rep ht rq; replace rk := kS.rep ht rk; replace ra := kS.rep ht ra; replace sp := kS.strs ht sp; replace rb := kS.rep ht rb; replace kk := kk.trans kS ht.ab; replace ht := ht.keep NS.keep; have h36 := c36 ht aS fS (by simp) rfl (PR.bind_ne hr hne); refine cf36 h36 ?_ (fun c w' h => PEr.up h hr kk ht); clear h36; rintro _ wP hP; obtain ⟨bufP, partsP, eP, htP, kP⟩ := POk.out hP; have hA2 := (Adds.putL _ _ _ _ _ eP).2; have hA := putL_len eP
         simp only [List.map_cons, List.map_nil, List.sum_cons, List.sum_nil, List.length_cons, List.length_nil] at hA; rw [eP, PR.bind_ok] at hr; have hpq := kP.at ht ae qe; clear ae qe; obtain ⟨ae, qe⟩ := hpq; replace rl := kP.rep ht rl; replace rq := kP.rep ht rq; replace rk := kP.rep ht rk; replace ra := kP.rep ht ra; replace sp := kP.strs ht sp; replace rb := kP.rep ht rb; replace kk := kk.trans kP ht.ab; replace ht := htP; clear hP eP htP kP; clear aS fS NS kS; refine Up.i (Nc.p _ _) ?_; refine V1.i (by simp [go_sem] <;> trivial) ?_; refine V1.load (oneAll rfl) (ae) rfl ?_; have hK := Hn.expr ht rq rfl (PR.bind_ne hr hne); refine cf63 hK ?_ (fun c w' h => PEr.up h hr kk ht); clear hK; rintro _ wP hP; obtain ⟨bufP, partsP, eP, htP, kP⟩ := POk.out hP; have hA := prn_adds _ _ _ _ _ _ eP; rw [eP, PR.bind_ok] at hr; have hpq := kP.at ht ae qe; clear ae qe; obtain ⟨ae, qe⟩ := hpq
         replace rl := kP.rep ht rl; replace rq := kP.rep ht rq; replace rk := kP.rep ht rk; replace ra := kP.rep ht ra; replace sp := kP.strs ht sp; replace rb := kP.rep ht rb; replace kk := kk.trans kP ht.ab; replace ht := htP; clear hP eP htP kP; refine V1.newSlice (by simp [go_sem] <;> trivial) fun bs ws NS => ?_; have fS := ht.fon NS.keep NS.ge; have aS : At ws bs (List.map str [[93]]) := NS.at_; have kS := KO.keep (b := b) NS.keep; have hpq := kS.at ht ae qe; clear ae qe; obtain ⟨ae, qe⟩ := hpq; replace rl := kS.rep ht rl; replace rq := kS.rep ht rq; replace rk := kS.rep ht rk; replace ra := kS.rep ht ra; replace sp := kS.strs ht sp; replace rb := kS.rep ht rb; replace kk := kk.trans kS ht.ab; replace ht := ht.keep NS.keep; have h36 := c36 ht aS fS (by simp) hr hne; refine cf36 h36 (fun v w' h => POk.pre h kk ht) (fun c w' h => PEr.pre h kk ht)
     | hole => cases h6.2
     | cons => cases h6.2
     | st => cases h6.2
   · iterate 7 (refine V1.i (eqInt _ _ _) ?_; refine If.f ?_)
     refine V1.i (eqInt _ _ _) ?_; refine If.t ?_; simp only [reduceIte, Int.reduceEq] at hr; by_cases h6 : kn l = true
     rotate_left
     · rw [if_neg h6] at hr; exact absurd hr.symm hne
     rw [if_pos h6] at hr; refine Up.i (Nc.p _ _) ?_; refine V1.i (by simp [go_sem] <;> trivial) ?_; refine V1.load (oneAll rfl) (ae) rfl ?_; have hK := p114 Hn h6 ht rl rfl (PR.bind_ne hr hne); refine cf114 hK ?_ (fun c w' h => PEr.up h hr kk ht); clear hK; rintro _ wP hP; obtain ⟨bufP, partsP, eP, htP, kP⟩ := POk.out hP; have hA := prn_adds _ _ _ _ _ _ eP; rw [eP, PR.bind_ok] at hr; have hpq := kP.at ht ae qe; clear ae qe; obtain ⟨ae, qe⟩ := hpq; replace rl := kP.rep ht rl; replace rq := kP.rep ht rq; replace rk := kP.rep ht rk; replace ra := kP.rep ht ra; replace sp := kP.strs ht sp; replace rb := kP.rep ht rb; replace kk := kk.trans kP ht.ab; replace ht := htP; clear hP eP htP kP; refine V1.newSlice (by simp [go_sem] <;> trivial) fun bs ws NS => ?_; have fS := ht.fon NS.keep NS.ge; have aS : At ws bs (List.map str [[40]]) := NS.at_; have kS := KO.keep (b := b) NS.keep
     have hpq := kS.at ht ae qe; clear ae qe; obtain ⟨ae, qe⟩ := hpq; replace rl := kS.rep ht rl; replace rq := kS.rep ht rq; replace rk := kS.rep ht rk; replace ra := kS.rep ht ra; replace sp := kS.strs ht sp; replace rb := kS.rep ht rb; replace kk := kk.trans kS ht.ab; replace ht := ht.keep NS.keep; have h36 := c36 ht aS fS (by simp) rfl (PR.bind_ne hr hne); refine cf36 h36 ?_ (fun c w' h => PEr.up h hr kk ht); clear h36; rintro _ wP hP; obtain ⟨bufP, partsP, eP, htP, kP⟩ := POk.out hP; have hA2 := (Adds.putL _ _ _ _ _ eP).2; have hA := putL_len eP; simp only [List.map_cons, List.map_nil, List.sum_cons, List.sum_nil, List.length_cons, List.length_nil] at hA; rw [eP, PR.bind_ok] at hr; have hpq := kP.at ht ae qe; clear ae qe; obtain ⟨ae, qe⟩ := hpq; replace rl := kP.rep ht rl; replace rq := kP.rep ht rq; replace rk := kP.rep ht rk; replace ra := kP.rep ht ra; replace sp := kP.strs ht sp
     replace rb := kP.rep ht rb; replace kk := kk.trans kP ht.ab; replace ht := htP; clear hP eP htP kP; clear aS fS NS kS; have hh : gs ≠ .hole := by
       rintro rfl; rw [args_hole] at hr; exact hne hr.symm
     obtain ⟨aa, cnt, ac, rfl, og⟩ := ra.rowAt' hh; refine Up.i (Nc.p _ _) ?_; refine V1.i (by simp [go_sem] <;> trivial) ?_; refine V1.load (oneAll rfl) (ae) rfl ?_; refine V1.i (by simp [go_sem] <;> trivial) ?_; refine L1.i (fun v w' => ∃ i j m gs' buf parts, v = .int .i64 (i : Nat) ∧ i + j = cnt ∧ i ≤ parts ∧ m ≤ n ∧ TX w' b buf parts ∧ RowAt (FO b w') w' gs' aa i j ∧ KO b w3 w' ∧ (prn m (.args gs' (decide (i = 0))) buf parts).bind (fun b p => putL [[41]] b p) = r) (fun v w' => match v with | .int _ n => (cnt - n.toNat) | _ => 0) ⟨0, cnt, n, gs, _, _, rfl, by omega, by omega, Nat.le_refl _, ht, og, kk, hr⟩ ?_; clear ht ae qe og kk hr rk ra rl rq sp rb; rintro v w1 ⟨i, j, m, gs', buf, parts, rfl, hij, hip, hm, ht, og, kk, hr⟩
     cases m with
     | zero => simp only [prn, PR.bind] at hr; exact absurd hr.symm hne
     | succ m =>
       cases gs' with
       | nil =>
         have hj : j = 0 := by
           rcases og with ⟨_, h⟩ | ⟨q, _, h⟩
           · exact h
           · exact h
         subst hj; simp only [prn, PR.bind_ok] at hr; refine V1.i (v := .bool false) (w' := w1) (by simp [go_sem]; omega) ?_; refine If.f ?_; refine V1.newSlice (by simp [go_sem] <;> trivial) fun bs ws NS => ?_; have fS := ht.fon NS.keep NS.ge; have aS : At ws bs (List.map str [[41]]) := NS.at_; have kS := KO.keep (b := b) NS.keep; replace kk := kk.trans kS ht.ab; replace ht := ht.keep NS.keep; have h36 := c36 ht aS fS (by simp) hr hne; refine cf36 h36 (fun v w' h => POk.pre h kk ht) (fun c w' h => PEr.pre h kk ht)
       | cons x l =>
         rcases og with ⟨h, _⟩ | ⟨q, rfl, j', u, rfl, hc, hf, rx, rl⟩
         · cases h
         have ogl : RowAt (FO b w1) w1 l (some ⟨q, 0, none⟩) (i + 1) j' := .inr ⟨q, rfl, rl⟩; have h64 := ht.cnt; simp only [prn, PR.bind_assoc] at hr; obtain ⟨G, hG, hr⟩ := bind_ex hr; refine V1.i (v := .bool true) (w' := w1) (by simp [go_sem]; omega) ?_; refine If.t ?_; refine V1.i (ix44 (by omega)) ?_; refine V1.i ((oneAll rfl) _ _ _ hc) ?_; clear rl hc hf; refine J0.cut (fun w' => ∃ buf1 parts1, i ≤ parts1 ∧ TX w' b buf1 parts1 ∧ RowAt (FO b w') w' l (some ⟨q, 0, none⟩) (i + 1) j' ∧ Rep (FO b w') w' x (.P u) ∧ KO b w3 w' ∧ G buf1 parts1 = r) ?_ ?_
         · rcases Nat.eq_zero_or_pos i with rfl | h0
           · refine V1.i (by simp [go_sem] <;> trivial) ?_; refine If.f ?_; simp only [decide_true, if_true, putL, PR.bind_ok] at hr; exact ⟨_, _, by omega, ht, ogl, rx, kk, hr⟩
           · rw [show decide (i = 0) = false by simp; omega] at hr; simp only [Bool.false_eq_true, if_false] at hr; refine V1.i (v := .bool true) (w' := w1) (by simp [go_sem]; omega) ?_; refine If.t ?_; refine V1.newSlice (by simp [go_sem] <;> trivial) fun bs ws NS => ?_; have fS := ht.fon NS.keep NS.ge; have aS : At ws bs (List.map str [[44, 32]]) := NS.at_; have kS := KO.keep (b := b) NS.keep; replace ogl := kS.row ht ogl; replace rx := kS.rep ht rx; replace kk := kk.trans kS ht.ab; replace ht := ht.keep NS.keep; have h36 := c36 ht aS fS (by simp) rfl (PR.bind_ne hr hne); refine cf36 h36 ?_ (fun c w' h => PEr.up h hr kk ht); clear h36; rintro _ wP hP; obtain ⟨bufP, partsP, eP, htP, kP⟩ := POk.out hP; have hA2 := (Adds.putL _ _ _ _ _ eP).2; have hA := putL_len eP; simp only [List.map_cons, List.map_nil, List.sum_cons, List.sum_nil, List.length_cons, List.length_nil] at hA
             rw [eP, PR.bind_ok] at hr; replace ogl := kP.row ht ogl; replace rx := kP.rep ht rx; replace kk := kk.trans kP ht.ab; replace ht := htP; clear hP eP htP kP; clear aS fS NS kS; exact ⟨_, _, by omega, ht, ogl, rx, kk, hr⟩
         clear hr ht ogl rx kk hip h64; rintro w2 ⟨buf1, parts1, hip, ht, ogl, rx, kk, hr⟩; subst hG; dsimp only at hr; have hK := (H m (by omega)).expr ht rx rfl (PR.bind_ne hr hne); refine cf63 hK ?_ (fun c w' h => PEr.up h hr kk ht); clear hK; rintro _ wP hP; obtain ⟨bufP, partsP, eP, htP, kP⟩ := POk.out hP; have hA := expr_adds eP; rw [eP, PR.bind_ok] at hr; replace ogl := kP.row ht ogl; replace rx := kP.rep ht rx; replace kk := kk.trans kP ht.ab; replace ht := htP; clear hP eP htP kP; have h64 := ht.cnt; refine V1.i (addI _ _ _ _ _ _ (by omega) (by omega)) ?_; have hd : decide (i + 1 = 0) = false := by simp
         exact ⟨⟨i + 1, j', m, l, _, _, by simp, by omega, by omega, by omega, ht, ogl, kk, by rw [hd]; exact hr⟩, by simp; omega⟩
       | hole => simp only [prn, PR.bind] at hr; exact absurd hr.symm hne
       | ex => rcases og with ⟨h, _⟩ | ⟨q, _, h⟩ ; cases h; exact h.elim
       | st => rcases og with ⟨h, _⟩ | ⟨q, _, h⟩ ; cases h; exact h.elim
   · iterate 8 (refine V1.i (eqInt _ _ _) ?_; refine If.f ?_)
     refine V1.i (eqInt _ _ _) ?_; refine If.t ?_; simp only [reduceIte, Int.reduceEq] at hr; refine V1.newSlice (by simp [go_sem] <;> trivial) fun bs ws NS => ?_; have fS := ht.fon NS.keep NS.ge; have aS : At ws bs (List.map str [sFunction]) := NS.at_; have kS := KO.keep (b := b) NS.keep; have hpq := kS.at ht ae qe; clear ae qe; obtain ⟨ae, qe⟩ := hpq; replace rl := kS.rep ht rl; replace rq := kS.rep ht rq; replace rk := kS.rep ht rk; replace ra := kS.rep ht ra; replace sp := kS.strs ht sp; replace rb := kS.rep ht rb; replace kk := kk.trans kS ht.ab; replace ht := ht.keep NS.keep; have h36 := c36 ht aS fS (by simp) rfl (PR.bind_ne hr hne); refine cf36 h36 ?_ (fun c w' h => PEr.up h hr kk ht); clear h36; rintro _ wP hP; obtain ⟨bufP, partsP, eP, htP, kP⟩ := POk.out hP; have hA2 := (Adds.putL _ _ _ _ _ eP).2; have hA := putL_len eP
     simp only [List.map_cons, List.map_nil, List.sum_cons, List.sum_nil, List.length_cons, List.length_nil] at hA; rw [eP, PR.bind_ok] at hr; have hpq := kP.at ht ae qe; clear ae qe; obtain ⟨ae, qe⟩ := hpq; replace rl := kP.rep ht rl; replace rq := kP.rep ht rq; replace rk := kP.rep ht rk; replace ra := kP.rep ht ra; replace sp := kP.strs ht sp; replace rb := kP.rep ht rb; replace kk := kk.trans kP ht.ab; replace ht := htP; clear hP eP htP kP; clear aS fS NS kS; have hK := Hn.func ht ⟨c, line, lv, rv, kv, av, pv, bv, rfl, qe, ae, rl, rq, rk, ra, sp, rb⟩ hr hne; refine cf68 hK (fun v w' h => POk.pre h kk ht) (fun c w' h => PEr.pre h kk ht)
   · iterate 9 (refine V1.i (eqInt _ _ _) ?_; refine If.f ?_)
     refine V1.i (eqInt _ _ _) ?_; refine If.t ?_; simp only [reduceIte, Int.reduceEq] at hr; by_cases h6 : kn rr = true
     rotate_left
     · rw [if_neg h6] at hr; exact absurd hr.symm hne
     rw [if_pos h6] at hr; refine Up.i (Nc.p _ _) ?_; refine V1.i (by simp [go_sem] <;> trivial) ?_; refine V1.load (oneAll rfl) (ae) rfl ?_; refine V1.newSlice (by simp [go_sem] <;> trivial) fun bs ws NS => ?_; have fS := ht.fon NS.keep NS.ge; have aS : At ws bs (List.map str [text, [32]]) := NS.at_; have kS := KO.keep (b := b) NS.keep; have hpq := kS.at ht ae qe; clear ae qe; obtain ⟨ae, qe⟩ := hpq; replace rl := kS.rep ht rl; replace rq := kS.rep ht rq; replace rk := kS.rep ht rk; replace ra := kS.rep ht ra; replace sp := kS.strs ht sp; replace rb := kS.rep ht rb; replace kk := kk.trans kS ht.ab; replace ht := ht.keep NS.keep; have h36 := c36 ht aS fS (by simp) rfl (PR.bind_ne hr hne); refine cf36 h36 ?_ (fun c w' h => PEr.up h hr kk ht); clear h36; rintro _ wP hP; obtain ⟨bufP, partsP, eP, htP, kP⟩ := POk.out hP; have hA2 := (Adds.putL _ _ _ _ _ eP).2; have hA := putL_len eP
     simp only [List.map_cons, List.map_nil, List.sum_cons, List.sum_nil, List.length_cons, List.length_nil] at hA; rw [eP, PR.bind_ok] at hr; have hpq := kP.at ht ae qe; clear ae qe; obtain ⟨ae, qe⟩ := hpq; replace rl := kP.rep ht rl; replace rq := kP.rep ht rq; replace rk := kP.rep ht rk; replace ra := kP.rep ht ra; replace sp := kP.strs ht sp; replace rb := kP.rep ht rb; replace kk := kk.trans kP ht.ab; replace ht := htP; clear hP eP htP kP; clear aS fS NS kS; have K1 : Keep [] wP wP.drew := (Keep.refl _ _).drew; have kS := KO.keep (b := b) K1; have hpq := kS.at ht ae qe; clear ae qe; obtain ⟨ae, qe⟩ := hpq; replace rl := kS.rep ht rl; replace rq := kS.rep ht rq; replace rk := kS.rep ht rk; replace ra := kS.rep ht ra; replace sp := kS.strs ht sp; replace rb := kS.rep ht rb; replace kk := kk.trans kS ht.ab; replace ht := ht.keep K1; clear kS
     cases rr with
     | nil =>
       obtain rfl : rv = .pointer none := rq; refine ⟨fun w' => At w' c [.int .i64 10, .int .i64 line, .int .i64 nn, str text, lv, .pointer none, kv, av, pv, bv], ae, ?_⟩; refine ⟨_, fun w' _ => Nc.p _ w', ?_⟩; refine Xw.i _ (fun w' _ => by simp [go_sem] <;> trivial) ?_; refine Xw.i _ (fun w' hw => (oneAll rfl) _ _ _ (by rw [hw.cell]; rfl)) ?_; refine ⟨_, fun w' _ => Nc.p _ w', ?_⟩; refine Xw.i _ (fun w' _ => by simp [go_sem] <;> trivial) ?_; refine Xw.i _ (fun w' hw => (oneAll rfl) _ _ _ (by rw [hw.cell]; rfl)) ?_; refine Xw.i _ (fun w' _ => by simp [go_sem] <;> trivial) ?_; refine J1.go (Gd.ft ?_); refine Xw.i _ (fun w' _ => by simp [go_sem] <;> trivial) ?_; have hK := Hn.inner (around := false) (e := .nil) rfl ht (show Rep _ _ .nil (.P (.pointer none)) from rfl) hr hne; refine cf116 hK (fun v w' h => POk.pre h kk ht) (fun c w' h => PEr.pre h kk ht)
     | ex k1 n1 t1 l1 r1 ks1 as1 ps1 b1 =>
       have hu : ∃ c2 x1 x2 x3 x4 x5 x6 x7, rv = ptr c2 ∧ At wP.drew c2 [.int .i64 k1, .int .i64 x1, .int .i64 n1, str t1, x2, x3, x4, x5, x6, x7] := by
         obtain ⟨c2, x1, x2, x3, x4, x5, x6, x7, hrv, q2, ax2, _⟩ := rq; exact ⟨c2, x1, x2, x3, x4, x5, x6, x7, hrv, ax2⟩
       obtain ⟨c2, x1, x2, x3, x4, x5, x6, x7, rfl, ax2⟩ := hu; refine ⟨fun w' => At w' c [.int .i64 10, .int .i64 line, .int .i64 nn, str text, lv, ptr c2, kv, av, pv, bv] ∧ At w' c2 [.int .i64 k1, .int .i64 x1, .int .i64 n1, str t1, x2, x3, x4, x5, x6, x7], ⟨ae, ax2⟩, ?_⟩; refine ⟨_, fun w' _ => Nc.p _ w', ?_⟩; refine Xw.i _ (fun w' _ => by simp [go_sem] <;> trivial) ?_; refine Xw.i _ (fun w' hw => (oneAll rfl) _ _ _ (by rw [hw.1.cell]; rfl)) ?_; refine ⟨_, fun w' _ => Nc.p _ w', ?_⟩; refine Xw.i _ (fun w' _ => by simp [go_sem] <;> trivial) ?_; refine Xw.i _ (fun w' hw => (oneAll rfl) _ _ _ (by rw [hw.1.cell]; rfl)) ?_; refine Xw.i (.bool true) (fun w' _ => by simp [go_sem, ptr]; first | done | rfl | exact ⟨rfl, rfl⟩) ?_; refine J1.go (Gd.tt ?_); refine ⟨_, fun w' _ => Nc.p _ w', ?_⟩; refine Xw.i _ (fun w' _ => by simp [go_sem] <;> trivial) ?_
       refine Xw.i _ (fun w' hw => (oneAll rfl) _ _ _ (by rw [hw.1.cell]; rfl)) ?_; refine ⟨_, fun w' _ => Nc.p _ w', ?_⟩; refine Xw.i _ (fun w' _ => by simp [go_sem] <;> trivial) ?_; refine Xw.i _ (fun w' hw => (oneAll rfl) _ _ _ (by rw [hw.2.cell]; rfl)) ?_; refine Xw.i (.bool (k1 == 11)) (fun w' _ => eqInt _ _ _) ?_; refine Xw.i (.bool (k1 == 11)) (fun w' _ => by simp [go_sem]) ?_; have hK := Hn.inner (around := k1 == 11) h6 ht rq hr hne; refine cf116 hK (fun v w' h => POk.pre h kk ht) (fun c w' h => PEr.pre h kk ht)
     | hole => cases h6
     | cons => cases h6
     | st => cases h6
   · iterate 10 (refine V1.i (eqInt _ _ _) ?_; refine If.f ?_)
     refine V1.i (eqInt _ _ _) ?_; refine If.t ?_; simp only [reduceIte, Int.reduceEq] at hr; by_cases h6 : (kn l && kn rr) = true
     rotate_left
     · rw [if_neg h6] at hr; exact absurd hr.symm hne
     rw [if_pos h6] at hr; rw [Bool.and_eq_true] at h6; have hK := p117 Hn ht ⟨c, line, lv, rv, kv, av, pv, bv, rfl, qe, ae, rl, rq, rk, ra, sp, rb⟩ h6.1 h6.2 hr hne; refine cf117 hK (fun v w' h => POk.pre h kk ht) (fun c w' h => PEr.pre h kk ht)
   · iterate 11 (refine V1.i (eqInt _ _ _) ?_; refine If.f ?_)
     refine V1.i (eqInt _ _ _) ?_; refine If.t ?_; simp only [reduceIte, Int.reduceEq] at hr; by_cases h6 : (isList ks && isList gs) = false
     · rw [if_pos h6] at hr; exact absurd hr.symm hne
     rw [if_neg h6] at hr; rw [Bool.not_eq_false, Bool.and_eq_true] at h6; have hK := p118 H ht ⟨c, line, lv, rv, kv, av, pv, bv, rfl, qe, ae, rl, rq, rk, ra, sp, rb⟩ h6.1 h6.2 hr hne; refine cf118 hK (fun v w' h => POk.pre h kk ht) (fun c w' h => PEr.pre h kk ht)
 | hole => exact absurd hr.symm hne
 | cons => exact absurd hr.symm hne
 | st => exact absurd hr.symm hne
theorem prn_all : ∀ n, PAll n := by
 intro n; induction n using Nat.strongRecOn with
 | ind n ih =>
   cases n with
   | zero =>
     constructor <;> intros <;> exact absurd (by assumption : prn 0 _ _ _ = _).symm (by assumption)
   | succ n =>
     have H : ∀ m, m ≤ n → PAll m := fun m hm => ih m (by omega); have Hn := H n (Nat.le_refl _); exact { expr := p63 H, stmt := p35 Hn, stmts := p18 H, block := p67 Hn, more := p62 Hn, within := p65 Hn, branch := p66 Hn, func := p68 Hn, inner := fun hk ht re => p116 Hn (re.scP (by rintro rfl; cases hk)) ht re }
noncomputable def eqT (s t : Tr) : Bool := @decide (s = t) (Classical.propDecidable _)
theorem eqT_iff {s t : Tr} : eqT s t = true ↔ s = t := by simp [eqT]
theorem eqT_refl (s : Tr) : eqT s s = true := eqT_iff.2 rfl
theorem eqT_ne {s t : Tr} (h : s ≠ t) : eqT s t = false := by simp [eqT, h]
theorem eqT_ex {k n : Int} {x : List UInt8} {l r ks gs : Tr} {ps : List (List UInt8)} {b : Tr} {k2 n2 : Int} {x2 : List UInt8} {l2 r2 ks2 gs2 : Tr} {ps2 : List (List UInt8)} {b2 : Tr} : eqT (.ex k n x l r ks gs ps b) (.ex k2 n2 x2 l2 r2 ks2 gs2 ps2 b2) = (((((((((k == k2) && (n == n2)) && (x == x2)) && eqT l l2) && eqT r r2) && eqT ks ks2) && eqT gs gs2) && (ps == ps2)) && eqT b b2) := by
 rw [Bool.eq_iff_iff]; simp [eqT_iff, and_assoc]
theorem eqT_st {k : Int} {x : List UInt8} {l r t a b : Tr} {k2 : Int} {x2 : List UInt8} {l2 r2 t2 a2 b2 : Tr} : eqT (.st k x l r t a b) (.st k2 x2 l2 r2 t2 a2 b2) = (((((((k == k2) && (x == x2)) && eqT l l2) && eqT r r2) && eqT t t2) && eqT a a2) && eqT b b2) := by
 rw [Bool.eq_iff_iff]; simp [eqT_iff, and_assoc]
theorem eqT_cons {a b a2 b2 : Tr} : eqT (.cons a b) (.cons a2 b2) = (eqT a a2 && eqT b b2) := by
 rw [Bool.eq_iff_iff]; simp [eqT_iff]
theorem neL (w : World) (cx cy : Bool) (a b : Nat) : (Bo .neq 3 cx cy (.int .i64 (a : Nat)) (.int .i64 (b : Nat))).run Tryz.prog w = .ok (.bool (!decide (a = b))) w := by
 simp [go_sem, Bo]
 by_cases h : a = b
 · subst h; simp
 · simp [h]; omega
theorem eqI2 (w : World) (cx cy : Bool) (a b : Int) : (Bo .eql 2 cx cy (.int .i64 a) (.int .i64 b)).run Tryz.prog w = .ok (.bool (a == b)) w := by simp [go_sem, Bo]
theorem Q1.gd {b c : Bool} {X : (Value → Prop) → Prop} {g : Value → Prop} (r : Bool) (hX : b = c → ∀ k : Value → Prop, k (.bool r) → X k) (hg : g (if b = c then .bool r else undef)) :
   Q1 (fun k => Gd (.bool b) c (X k) (k undef)) g := by
 refine Q1.go (Gd.b (fun h => hX h g ?_) (fun h => ?_))
 · rw [if_pos h] at hg; exact hg
 · rw [if_neg (by rw [h]; cases c <;> simp)] at hg; exact hg
theorem RowAt.keep {F : Nat → Prop} {w w' : World} {t : Tr} {a : Option Addr} {i k : Nat} (h : RowAt F w t a i k) (hk : Keep [] w w') : RowAt F w' t a i k := by
 rcases h with h | ⟨q, e, h⟩
 · exact .inl h
 · exact .inr ⟨q, e, Rep.new hk _ _ h⟩
theorem ldQ {w : World} {b o t : Nat} {cs : List Value} {v : Value} (ha : At w b cs) (h1 : oneCell t = true) (h2 : cs[o]? = some v) : ∀ w', Keep [] w w' → (Instr.loadAt t (.pointer (some ⟨b, o, none⟩))).run Tryz.prog w' = .ok v w' :=
  fun w' hw => (oneAll h1) _ _ _ (by rw [(Keep.at hw ha (by simp)).cell]; exact h2)
theorem ret_bool {b : Bool} {w w' : World} (hw : Keep [] w w') : ∀ (e : Ending) (w2 : World), Ret (fun x w2 => x = .bool b ∧ Keep [] w' w2) NP e w2 → e = .returned (.bool b) ∧ Keep [] w w2 := by
 intro e w2 h
 cases e <;> first | exact (False.elim h) | (obtain ⟨rfl, h2⟩ := h; exact ⟨rfl, Keep.trans hw h2⟩)
theorem Strs.cell {F : Nat → Prop} {w : World} {q n c : Nat} {ss : List (List UInt8)} (h : Strs F w (.slice (some ⟨q, 0, none⟩) n c) ss) {i : Nat} (hi : i < ss.length) : w.cell? ⟨q, i, none⟩ = some (str ss[i]) := by
 obtain ⟨q', e, hc⟩ := h.get hi; injection e with e; injection e with e; subst e; exact hc
theorem c72 {F : Nat → Prop} {w : World} {u v : Value} {ps ps2 : List (List UInt8)} (hu : Strs F w u ps) (hv : Strs F w v ps2) (hp : ps.length ≤ fuelMax) :
   Calls Tryz.prog 72 #[u, v] w (Ret (fun x w' => x = .bool (ps == ps2) ∧ Keep [] w w') NP) := by
 refine s72 ?_; unfold S72; obtain ⟨a, c, rfl⟩ := hu.sl; obtain ⟨a', c', rfl⟩ := hv.sl; refine V1.i (by simp [go_sem] <;> trivial) ?_; refine V1.i (by simp [go_sem] <;> trivial) ?_; refine V1.i (neL _ _ _ _ _) ?_; by_cases hl : ps.length = ps2.length
 rotate_left
 · rw [show decide (ps.length = ps2.length) = false by simpa using hl]; refine If.t ⟨?_, Keep.refl _ _⟩; rw [show (ps == ps2) = false by simp; rintro rfl; exact hl rfl]
 rw [show decide (ps.length = ps2.length) = true by simpa using hl]; refine If.f ?_; refine V1.i (by simp [go_sem] <;> trivial) ?_; unfold fuelMax at hp; refine L2.i (fun x0 x1 w' => ∃ i : Nat, x1 = .int .i64 (i : Nat) ∧ i ≤ ps.length ∧ ps.take i = ps2.take i ∧ Keep [] w w') (fun _ v _ => match v with | .int _ n => (ps.length - n.toNat) | _ => 0) ⟨0, rfl, by omega, by simp, Keep.refl _ _⟩ ?_; rintro x0 x1 w1 ⟨i, rfl, hi, he, K1⟩; by_cases hlt : i < ps.length
 · refine V1.i (v := .bool true) (w' := w1) (by simp [go_sem]; omega) ?_; refine If.t ?_; have hlt2 : i < ps2.length := by omega
   obtain ⟨q, rfl, _⟩ := hu.get hlt; obtain ⟨q2, rfl, _⟩ := hv.get hlt2; have hu1 := Strs.keep K1 (fun b h1 _ => ⟨by simp, h1⟩) hu; have hv1 := Strs.keep K1 (fun b h1 _ => ⟨by simp, h1⟩) hv; refine ⟨fun w' => Keep [] w1 w', (Keep.refl _ _).drew, ?_⟩; refine Xv.i _ (fun w' _ => ix45 w' hlt) ?_; refine Xv.i (str ps[i]) (fun w' hw => (oneAll rfl) _ _ _ (Strs.cell (Strs.keep hw (fun b h1 _ => ⟨by simp, h1⟩) hu1) hlt)) ?_; refine Xv.i _ (fun w' _ => ix45 w' (by omega)) ?_; refine Xv.i (str ps2[i]) (fun w' hw => (oneAll rfl) _ _ _ (Strs.cell (Strs.keep hw (fun b h1 _ => ⟨by simp, h1⟩) hv1) hlt2)) ?_; refine Xv.i _ (fun w' _ => neS w' _ _ _ _) ?_; intro w2 K2; by_cases hx : ps[i] = ps2[i]
   · rw [show (!(ps[i] == ps2[i])) = false by simp [hx]]; refine If.f ?_; refine V1.i (addI _ _ _ _ _ _ (by omega) (by omega)) ?_; refine ⟨⟨i + 1, by simp, by omega, ?_, K1.trans K2⟩, by simp; omega⟩; rw [List.take_succ_eq_append_getElem hlt, List.take_succ_eq_append_getElem hlt2, he, hx]
   · rw [show (!(ps[i] == ps2[i])) = true by simp [hx]]; refine If.t ⟨?_, K1.trans K2⟩; rw [show (ps == ps2) = false by simp; rintro rfl; exact hx rfl]
 · obtain rfl : i = ps.length := by omega
   refine V1.i (v := .bool false) (w' := w1) (by simp [go_sem]) ?_; refine If.f ⟨?_, K1⟩; rw [List.take_length, hl, List.take_length] at he; rw [he]; simp
structure SAll (n : Nat) : Prop where
  same : ∀ {F : Nat → Prop} {w : World} {s t : Tr} {u v : Value}, tz s < n → wf s 0 = true → wf t 0 = true → Rep F w s (.P u) → Rep F w t (.P v) → Calls Tryz.prog 41 #[u, v] w (Ret (fun x w' => x = .bool (eqT s t) ∧ Keep [] w w') NP)
  stm : ∀ {F : Nat → Prop} {w : World} {s t : Tr} {u v : Value}, tz s < n → wf s 2 = true → wf t 2 = true → Rep F w s (.P u) → Rep F w t (.P v) → Calls Tryz.prog 40 #[u, v] w (Ret (fun x w' => x = .bool (eqT s t) ∧ Keep [] w w') NP)
theorem cv41 (w : World) (a b : Value) : (Cv (.func (.func 41) #[] #[]) #[a, b]).run Tryz.prog w = .ok (.enter 41 #[a, b]) w := by kernel_rfl
theorem c71 {n : Nat} (hn : n ≤ fuelMax) (H : SAll n) {F : Nat → Prop} {w : World} {s t : Tr} {u v : Value} (hz : tz s ≤ n) (hs : wf s 1 = true) (ht : wf t 1 = true) (rs : Rep F w s (.L u)) (rt : Rep F w t (.L v)) :
   Calls Tryz.prog 71 #[u, v, .func (.func 41) #[] #[]] w (Ret (fun x w' => x = .bool (eqT s t) ∧ Keep [] w w') NP) := by
 refine s71 ?_; unfold S71; have is := wf_isList 1 (by simp) hs; have it := wf_isList 1 (by simp) ht; obtain ⟨a, c, rfl⟩ := rs.sln is; obtain ⟨a', c', rfl⟩ := rt.sln it; have os := rs.rowAt is; have ot := rt.rowAt it; refine V1.i (by simp [go_sem] <;> trivial) ?_; refine V1.i (by simp [go_sem] <;> trivial) ?_; refine V1.i (neL _ _ _ _ _) ?_; by_cases hl : len s = len t
 rotate_left
 · rw [show decide (len s = len t) = false by simpa using hl]; refine If.t ⟨?_, Keep.refl _ _⟩; rw [eqT_ne (fun h => hl (by rw [h]))]
 rw [show decide (len s = len t) = true by simpa using hl]; refine If.f ?_; refine V1.i (by simp [go_sem] <;> trivial) ?_; rw [← hl] at ot; refine L2.i (fun x0 x1 w' => ∃ i j s' t', x1 = .int .i64 (i : Nat) ∧ i + j = len s ∧ tz s' ≤ n ∧ i + tz s' ≤ n ∧ wf s' 1 = true ∧ wf t' 1 = true ∧ RowAt F w' s' a i j ∧ RowAt F w' t' a' i j ∧ Keep [] w w' ∧ eqT s t = eqT s' t') (fun _ v _ => match v with | .int _ n => (len s - n.toNat) | _ => 0) ⟨0, len s, s, t, rfl, by omega, hz, by omega, hs, ht, os, ot, Keep.refl _ _, rfl⟩ ?_; clear os ot hs ht rs rt is it hz; rintro x0 x1 w1 ⟨i, j, s', t', rfl, hij, hz, hzi, hs, ht, os, ot, K1, he⟩; unfold fuelMax at hn; rcases wf1_cases hs with rfl | ⟨x, l, rfl, hx, hwl⟩
 · have hj : j = 0 := by
     rcases os with ⟨_, h⟩ | ⟨q, _, h⟩
     · exact h
     · exact h
   subst hj; refine V1.i (v := .bool false) (w' := w1) (by simp [go_sem]; omega) ?_; refine If.f ⟨?_, K1⟩; rw [he]; rcases wf1_cases ht with rfl | ⟨y, m, rfl, hy, hm⟩
   · rw [eqT_refl]
   · rcases ot with ⟨h, _⟩ | ⟨q, _, j', u, h, _⟩
     · cases h
     · omega
 · rcases os with ⟨h, _⟩ | ⟨q, rfl, j', u, rfl, hc, hf, rx, rl⟩
   · cases h
   have ol : RowAt F w1 l (some ⟨q, 0, none⟩) (i + 1) j' := .inr ⟨q, rfl, rl⟩; rcases wf1_cases ht with rfl | ⟨y, m, rfl, hy, hm⟩
   · rcases ot with ⟨_, h⟩ | ⟨q, _, h⟩
     · omega
     · exact absurd (show j' + 1 = 0 from h) (by omega)
   rcases ot with ⟨h, _⟩ | ⟨q2, rfl, j2, u2, e2, hc2, hf2, ry, rm⟩
   · cases h
   obtain rfl : j' = j2 := by omega
   have om : RowAt F w1 m (some ⟨q2, 0, none⟩) (i + 1) j' := .inr ⟨q2, rfl, rm⟩; clear rl rm; have hzz := hz; simp only [tz] at hzz hzi; have hp1 := tz_pos x; have hp2 := tz_pos l; refine V1.i (v := .bool true) (w' := w1) (by simp [go_sem]; omega) ?_; refine If.t ?_; refine V1.i (ix44 (by omega)) ?_; refine V1.i ((oneAll rfl) _ _ _ hc) ?_; refine V1.i (ix44 (by omega)) ?_; refine V1.i ((oneAll rfl) _ _ _ hc2) ?_; refine Up.c (cv41 _ _ _) ?_; refine Ret.imp (H.same (by omega) hx hy rx ry) ?_ (fun _ _ h => h.elim); rintro _ w2 ⟨rfl, K2⟩; rw [eqT_cons] at he
   cases hxy : eqT x y with
   | false =>
     rw [hxy, Bool.false_and] at he; refine V1.i (by simp [go_sem] <;> trivial) ?_; refine If.t ⟨?_, K1.trans K2⟩; rw [he]
   | true =>
     rw [hxy, Bool.true_and] at he; refine V1.i (by simp [go_sem] <;> trivial) ?_; refine If.f ?_; refine V1.i (addI _ _ _ _ _ _ (by omega) (by omega)) ?_; exact ⟨⟨i + 1, j', l, m, by simp, by omega, by omega, by omega, hwl, hm, ol.keep K2, om.keep K2, K1.trans K2, he⟩, by simp; omega⟩
theorem cv40 (w : World) (a b : Value) : (Cv (.func (.func 40) #[] #[]) #[a, b]).run Tryz.prog w = .ok (.enter 40 #[a, b]) w := by kernel_rfl
theorem c39 {n : Nat} (hn : n ≤ fuelMax) (H : SAll n) {F : Nat → Prop} {w : World} {s t : Tr} {u v : Value} (hz : tz s ≤ n) (hs : wf s 3 = true) (ht : wf t 3 = true) (rs : Rep F w s (.L u)) (rt : Rep F w t (.L v)) :
   Calls Tryz.prog 39 #[u, v, .func (.func 40) #[] #[]] w (Ret (fun x w' => x = .bool (eqT s t) ∧ Keep [] w w') NP) := by
 refine s39 ?_; unfold S39; have is := wf_isList 3 (by simp) hs; have it := wf_isList 3 (by simp) ht; obtain ⟨a, c, rfl⟩ := rs.sln is; obtain ⟨a', c', rfl⟩ := rt.sln it; have os := rs.rowAt is; have ot := rt.rowAt it; refine V1.i (by simp [go_sem] <;> trivial) ?_; refine V1.i (by simp [go_sem] <;> trivial) ?_; refine V1.i (neL _ _ _ _ _) ?_; by_cases hl : len s = len t
 rotate_left
 · rw [show decide (len s = len t) = false by simpa using hl]; refine If.t ⟨?_, Keep.refl _ _⟩; rw [eqT_ne (fun h => hl (by rw [h]))]
 rw [show decide (len s = len t) = true by simpa using hl]; refine If.f ?_; refine V1.i (by simp [go_sem] <;> trivial) ?_; rw [← hl] at ot; refine L2.i (fun x0 x1 w' => ∃ i j s' t', x1 = .int .i64 (i : Nat) ∧ i + j = len s ∧ tz s' ≤ n ∧ i + tz s' ≤ n ∧ wf s' 3 = true ∧ wf t' 3 = true ∧ RowAt F w' s' a i j ∧ RowAt F w' t' a' i j ∧ Keep [] w w' ∧ eqT s t = eqT s' t') (fun _ v _ => match v with | .int _ n => (len s - n.toNat) | _ => 0) ⟨0, len s, s, t, rfl, by omega, hz, by omega, hs, ht, os, ot, Keep.refl _ _, rfl⟩ ?_; clear os ot hs ht rs rt is it hz; rintro x0 x1 w1 ⟨i, j, s', t', rfl, hij, hz, hzi, hs, ht, os, ot, K1, he⟩; unfold fuelMax at hn; rcases wf3_cases hs with rfl | ⟨x, l, rfl, hx, hwl⟩
 · have hj : j = 0 := by
     rcases os with ⟨_, h⟩ | ⟨q, _, h⟩
     · exact h
     · exact h
   subst hj; refine V1.i (v := .bool false) (w' := w1) (by simp [go_sem]; omega) ?_; refine If.f ⟨?_, K1⟩; rw [he]; rcases wf3_cases ht with rfl | ⟨y, m, rfl, hy, hm⟩
   · rw [eqT_refl]
   · rcases ot with ⟨h, _⟩ | ⟨q, _, j', u, h, _⟩
     · cases h
     · omega
 · rcases os with ⟨h, _⟩ | ⟨q, rfl, j', u, rfl, hc, hf, rx, rl⟩
   · cases h
   have ol : RowAt F w1 l (some ⟨q, 0, none⟩) (i + 1) j' := .inr ⟨q, rfl, rl⟩; rcases wf3_cases ht with rfl | ⟨y, m, rfl, hy, hm⟩
   · rcases ot with ⟨_, h⟩ | ⟨q, _, h⟩
     · omega
     · exact absurd (show j' + 1 = 0 from h) (by omega)
   rcases ot with ⟨h, _⟩ | ⟨q2, rfl, j2, u2, e2, hc2, hf2, ry, rm⟩
   · cases h
   obtain rfl : j' = j2 := by omega
   have om : RowAt F w1 m (some ⟨q2, 0, none⟩) (i + 1) j' := .inr ⟨q2, rfl, rm⟩; clear rl rm; have hzz := hz; simp only [tz] at hzz hzi; have hp1 := tz_pos x; have hp2 := tz_pos l; refine V1.i (v := .bool true) (w' := w1) (by simp [go_sem]; omega) ?_; refine If.t ?_; refine V1.i (ix26 (by omega)) ?_; refine V1.i ((oneAll rfl) _ _ _ hc) ?_; refine V1.i (ix26 (by omega)) ?_; refine V1.i ((oneAll rfl) _ _ _ hc2) ?_; refine Up.c (cv40 _ _ _) ?_; refine Ret.imp (H.stm (by omega) hx hy rx ry) ?_ (fun _ _ h => h.elim); rintro _ w2 ⟨rfl, K2⟩; rw [eqT_cons] at he
   cases hxy : eqT x y with
   | false =>
     rw [hxy, Bool.false_and] at he; refine V1.i (by simp [go_sem] <;> trivial) ?_; refine If.t ⟨?_, K1.trans K2⟩; rw [he]
   | true =>
     rw [hxy, Bool.true_and] at he; refine V1.i (by simp [go_sem] <;> trivial) ?_; refine If.f ?_; refine V1.i (addI _ _ _ _ _ _ (by omega) (by omega)) ?_; exact ⟨⟨i + 1, j', l, m, by simp, by omega, by omega, by omega, hwl, hm, ol.keep K2, om.keep K2, K1.trans K2, he⟩, by simp; omega⟩
theorem c22 {n : Nat} (hn : n ≤ fuelMax) (H : SAll n) {F : Nat → Prop} {w : World} {s t : Tr} {u v : Value} (hz : tz s ≤ n) (hs : wf s 3 = true) (ht : wf t 3 = true) (rs : Rep F w s (.L u)) (rt : Rep F w t (.L v)) :
   Calls Tryz.prog 22 #[u, v] w (Ret (fun x w' => x = .bool (eqT s t) ∧ Keep [] w w') NP) := by
 refine s22 ?_; unfold S22; refine cf39 (c39 hn H hz hs ht rs rt) ?_ (NP.no (e := _)); rintro _ w1 ⟨rfl, K1⟩; exact ⟨rfl, K1⟩
theorem c41 {n : Nat} (hn : n ≤ fuelMax) (H : SAll n) {F : Nat → Prop} {w : World} {s t : Tr} {u v : Value} (hz : tz s < n + 1) (hs : wf s 0 = true) (ht : wf t 0 = true) (rs : Rep F w s (.P u)) (rt : Rep F w t (.P v)) :
   Calls Tryz.prog 41 #[u, v] w (Ret (fun x w' => x = .bool (eqT s t) ∧ Keep [] w w') NP) := by
 refine s41 ?_; unfold S41; rcases wf0_cases hs with rfl | ⟨k, nn, x, l, r, ks, gs, ps, b, rfl⟩
 · obtain rfl : u = .pointer none := rs; rcases wf0_cases ht with rfl | ⟨k2, nn2, x2, l2, r2, ks2, gs2, ps2, b2, rfl⟩
   · obtain rfl : v = .pointer none := rt; repeat (first | refine J1.go ?_ | refine J0.go ?_ | refine Gd.tt ?_ | refine Gd.ff ?_ | refine Gd.tf ?_ | refine Gd.ft ?_ | refine Gd.u ?_ | refine If.t ?_ | refine If.f ?_ | refine Up.i (Nc.p _ _) ?_ | refine V1.load (oneAll rfl) (by assumption) rfl ?_ | refine V1.i (w' := w) (by simp [go_sem]; first | done | rfl | exact ⟨rfl, rfl⟩) ?_)
     exact ⟨by rw [eqT_refl], Keep.refl _ _⟩
   · obtain ⟨q2, line2, lv2, rv2, kv2, av2, pv2, bv2, rfl, _, a2, rl2, rr2, rk2, rg2, rp2, rb2⟩ := rt; rw [eqT_ne (by intro h; cases h)]; unfold ptr; repeat (first | refine J1.go ?_ | refine J0.go ?_ | refine Gd.tt ?_ | refine Gd.ff ?_ | refine Gd.tf ?_ | refine Gd.ft ?_ | refine Gd.u ?_ | refine If.t ?_ | refine If.f ?_ | refine Up.i (Nc.p _ _) ?_ | refine V1.load (oneAll rfl) (by assumption) rfl ?_ | refine V1.i (w' := w) (by simp [go_sem]; first | done | rfl | exact ⟨rfl, rfl⟩) ?_)
     exact ⟨rfl, Keep.refl _ _⟩
 obtain ⟨q, line, lv, rv, kv, av, pv, bv, rfl, _, a1, rl, rr, rk, rg, rp, rb⟩ := rs; rcases wf0_cases ht with rfl | ⟨k2, nn2, x2, l2, r2, ks2, gs2, ps2, b2, rfl⟩
 · obtain rfl : v = .pointer none := rt; rw [eqT_ne (by intro h; cases h)]; unfold ptr; repeat (first | refine J1.go ?_ | refine J0.go ?_ | refine Gd.tt ?_ | refine Gd.ff ?_ | refine Gd.tf ?_ | refine Gd.ft ?_ | refine Gd.u ?_ | refine If.t ?_ | refine If.f ?_ | refine Up.i (Nc.p _ _) ?_ | refine V1.load (oneAll rfl) (by assumption) rfl ?_ | refine V1.i (w' := w) (by simp [go_sem]; first | done | rfl | exact ⟨rfl, rfl⟩) ?_)
   exact ⟨rfl, Keep.refl _ _⟩
 obtain ⟨q2, line2, lv2, rv2, kv2, av2, pv2, bv2, rfl, _, a2, rl2, rr2, rk2, rg2, rp2, rb2⟩ := rt; unfold ptr; refine V1.i (v := .bool false) (w' := w) (by simp [go_sem]) ?_; refine J1.go (Gd.ff ?_); refine V1.i (v := .bool false) (w' := w) (by simp [go_sem]) ?_; refine V1.i (v := .bool false) (w' := w) (by simp [go_sem]) ?_; refine If.f ?_; refine ⟨fun w' => Keep [] w w', (Keep.refl _ _).drew, ?_⟩; simp only [wf, Bool.and_eq_true] at hs ht; obtain ⟨⟨⟨⟨⟨_, hl⟩, hr⟩, hk⟩, hg⟩, hb⟩ := hs; obtain ⟨⟨⟨⟨⟨_, hl2⟩, hr2⟩, hk2⟩, hg2⟩, hb2⟩ := ht; simp only [tz] at hz; refine ⟨_, fun w' _ => ⟨rfl, rfl⟩, ?_⟩; refine Xv.i _ (fun w' _ => by simp [go_sem] <;> trivial) ?_; refine Xv.i (.int .i64 k) (ldQ a1 rfl rfl) ?_; refine ⟨_, fun w' _ => ⟨rfl, rfl⟩, ?_⟩; refine Xv.i _ (fun w' _ => by simp [go_sem] <;> trivial) ?_; refine Xv.i (.int .i64 k2) (ldQ a2 rfl rfl) ?_
 refine Xv.i (.bool (k == k2)) (fun w' _ => eqInt2 w' _ _ _ _) ?_; refine Q1.gd (nn == nn2) (fun _ kx hkx => ?_) ?_
 · refine ⟨_, fun w' _ => ⟨rfl, rfl⟩, ?_⟩; refine Xv.i _ (fun w' _ => by simp [go_sem] <;> trivial) ?_; refine Xv.i (.int .i64 nn) (ldQ a1 rfl rfl) ?_; refine ⟨_, fun w' _ => ⟨rfl, rfl⟩, ?_⟩; refine Xv.i _ (fun w' _ => by simp [go_sem] <;> trivial) ?_; refine Xv.i (.int .i64 nn2) (ldQ a2 rfl rfl) ?_; refine Xv.i (.bool (nn == nn2)) (fun w' _ => eqI2 w' _ _ _ _) ?_; exact hkx
 refine Xv.i _ (fun w' _ => pkA w' _ _) ?_; refine Q1.gd (x == x2) (fun _ kx hkx => ?_) ?_
 · refine ⟨_, fun w' _ => ⟨rfl, rfl⟩, ?_⟩; refine Xv.i _ (fun w' _ => by simp [go_sem] <;> trivial) ?_; refine Xv.i (str x) (ldQ a1 rfl rfl) ?_; refine ⟨_, fun w' _ => ⟨rfl, rfl⟩, ?_⟩; refine Xv.i _ (fun w' _ => by simp [go_sem] <;> trivial) ?_; refine Xv.i (str x2) (ldQ a2 rfl rfl) ?_; refine Xv.i (.bool (x == x2)) (fun w' _ => eqS w' _ _ _ _) ?_; exact hkx
 refine Xv.i _ (fun w' _ => pkA w' _ _) ?_; refine Q1.gd (eqT l l2) (fun _ kx hkx => ?_) ?_
 · refine ⟨_, fun w' _ => ⟨rfl, rfl⟩, ?_⟩; refine Xv.i _ (fun w' _ => by simp [go_sem] <;> trivial) ?_; refine Xv.i (lv) (ldQ a1 rfl rfl) ?_; refine ⟨_, fun w' _ => ⟨rfl, rfl⟩, ?_⟩; refine Xv.i _ (fun w' _ => by simp [go_sem] <;> trivial) ?_; refine Xv.i (lv2) (ldQ a2 rfl rfl) ?_; refine Xq.call (fn := Tryz.f41) (.bool (eqT l l2)) (callFunc_run Tryz.func41 (c := codeB Tryz.f41) (by kernel_rfl) (by kernel_rfl) _) (fun w' hw => (H.same (by omega) hl hl2 (Rep.new hw _ _ rl) (Rep.new hw _ _ rl2)).mono ?_) ?_
   · exact ret_bool hw
   exact hkx
 refine Xv.i _ (fun w' _ => pkA w' _ _) ?_; refine Q1.gd (eqT r r2) (fun _ kx hkx => ?_) ?_
 · refine ⟨_, fun w' _ => ⟨rfl, rfl⟩, ?_⟩; refine Xv.i _ (fun w' _ => by simp [go_sem] <;> trivial) ?_; refine Xv.i (rv) (ldQ a1 rfl rfl) ?_; refine ⟨_, fun w' _ => ⟨rfl, rfl⟩, ?_⟩; refine Xv.i _ (fun w' _ => by simp [go_sem] <;> trivial) ?_; refine Xv.i (rv2) (ldQ a2 rfl rfl) ?_; refine Xq.call (fn := Tryz.f41) (.bool (eqT r r2)) (callFunc_run Tryz.func41 (c := codeB Tryz.f41) (by kernel_rfl) (by kernel_rfl) _) (fun w' hw => (H.same (by omega) hr hr2 (Rep.new hw _ _ rr) (Rep.new hw _ _ rr2)).mono ?_) ?_
   · exact ret_bool hw
   exact hkx
 refine Xv.i _ (fun w' _ => pkA w' _ _) ?_; refine Q1.gd (eqT ks ks2) (fun _ kx hkx => ?_) ?_
 · refine ⟨_, fun w' _ => ⟨rfl, rfl⟩, ?_⟩; refine Xv.i _ (fun w' _ => by simp [go_sem] <;> trivial) ?_; refine Xv.i (kv) (ldQ a1 rfl rfl) ?_; refine ⟨_, fun w' _ => ⟨rfl, rfl⟩, ?_⟩; refine Xv.i _ (fun w' _ => by simp [go_sem] <;> trivial) ?_; refine Xv.i (kv2) (ldQ a2 rfl rfl) ?_; refine Xq.call (fn := Tryz.f71) (.bool (eqT ks ks2)) (callFunc_run Tryz.func71 (c := codeB Tryz.f71) (by kernel_rfl) (by kernel_rfl) _) (fun w' hw => (c71 hn H (by omega) hk hk2 (Rep.new hw _ _ rk) (Rep.new hw _ _ rk2)).mono ?_) ?_
   · exact ret_bool hw
   exact hkx
 refine Xv.i _ (fun w' _ => pkA w' _ _) ?_; refine Q1.gd (eqT gs gs2) (fun _ kx hkx => ?_) ?_
 · refine ⟨_, fun w' _ => ⟨rfl, rfl⟩, ?_⟩; refine Xv.i _ (fun w' _ => by simp [go_sem] <;> trivial) ?_; refine Xv.i (av) (ldQ a1 rfl rfl) ?_; refine ⟨_, fun w' _ => ⟨rfl, rfl⟩, ?_⟩; refine Xv.i _ (fun w' _ => by simp [go_sem] <;> trivial) ?_; refine Xv.i (av2) (ldQ a2 rfl rfl) ?_; refine Xq.call (fn := Tryz.f71) (.bool (eqT gs gs2)) (callFunc_run Tryz.func71 (c := codeB Tryz.f71) (by kernel_rfl) (by kernel_rfl) _) (fun w' hw => (c71 hn H (by omega) hg hg2 (Rep.new hw _ _ rg) (Rep.new hw _ _ rg2)).mono ?_) ?_
   · exact ret_bool hw
   exact hkx
 refine Xv.i _ (fun w' _ => pkA w' _ _) ?_; refine Q1.gd (ps == ps2) (fun _ kx hkx => ?_) ?_
 · refine ⟨_, fun w' _ => ⟨rfl, rfl⟩, ?_⟩; refine Xv.i _ (fun w' _ => by simp [go_sem] <;> trivial) ?_; refine Xv.i (pv) (ldQ a1 rfl rfl) ?_; refine ⟨_, fun w' _ => ⟨rfl, rfl⟩, ?_⟩; refine Xv.i _ (fun w' _ => by simp [go_sem] <;> trivial) ?_; refine Xv.i (pv2) (ldQ a2 rfl rfl) ?_; refine Xq.call (fn := Tryz.f72) (.bool (ps == ps2)) (callFunc_run Tryz.func72 (c := codeB Tryz.f72) (by kernel_rfl) (by kernel_rfl) _) (fun w' hw => (c72 (Strs.keep hw (fun b h1 _ => ⟨by simp, h1⟩) rp) (Strs.keep hw (fun b h1 _ => ⟨by simp, h1⟩) rp2) (by omega)).mono ?_) ?_
   · exact ret_bool hw
   exact hkx
 refine Xv.i _ (fun w' _ => pkA w' _ _) ?_; refine Q1.gd (eqT b b2) (fun _ kx hkx => ?_) ?_
 · refine ⟨_, fun w' _ => ⟨rfl, rfl⟩, ?_⟩; refine Xv.i _ (fun w' _ => by simp [go_sem] <;> trivial) ?_; refine Xv.i (bv) (ldQ a1 rfl rfl) ?_; refine ⟨_, fun w' _ => ⟨rfl, rfl⟩, ?_⟩; refine Xv.i _ (fun w' _ => by simp [go_sem] <;> trivial) ?_; refine Xv.i (bv2) (ldQ a2 rfl rfl) ?_; refine Xq.call (fn := Tryz.f22) (.bool (eqT b b2)) (callFunc_run Tryz.func22 (c := codeB Tryz.f22) (by kernel_rfl) (by kernel_rfl) _) (fun w' hw => (c22 hn H (by omega) hb hb2 (Rep.new hw _ _ rb) (Rep.new hw _ _ rb2)).mono ?_) ?_
   · exact ret_bool hw
   exact hkx
 refine Xv.i _ (fun w' _ => pkA w' _ _) ?_; intro w2 K2; exact ⟨by rw [eqT_ex], K2⟩
theorem c40 {n : Nat} (hn : n ≤ fuelMax) (H : SAll n) {F : Nat → Prop} {w : World} {s t : Tr} {u v : Value} (hz : tz s < n + 1) (hs : wf s 2 = true) (ht : wf t 2 = true) (rs : Rep F w s (.P u)) (rt : Rep F w t (.P v)) :
   Calls Tryz.prog 40 #[u, v] w (Ret (fun x w' => x = .bool (eqT s t) ∧ Keep [] w w') NP) := by
 refine s40 ?_; unfold S40; rcases wf2_cases hs with rfl | ⟨k, x, l, r, t0, a, b, rfl⟩
 · obtain rfl : u = .pointer none := rs; rcases wf2_cases ht with rfl | ⟨k2, x2, l2, r2, t2, a2, b2, rfl⟩
   · obtain rfl : v = .pointer none := rt; repeat (first | refine J1.go ?_ | refine J0.go ?_ | refine Gd.tt ?_ | refine Gd.ff ?_ | refine Gd.tf ?_ | refine Gd.ft ?_ | refine Gd.u ?_ | refine If.t ?_ | refine If.f ?_ | refine Up.i (Nc.p _ _) ?_ | refine V1.load (oneAll rfl) (by assumption) rfl ?_ | refine V1.i (w' := w) (by simp [go_sem]; first | done | rfl | exact ⟨rfl, rfl⟩) ?_)
     exact ⟨by rw [eqT_refl], Keep.refl _ _⟩
   · obtain ⟨q2, line2, lv2, rv2, tv2, av2, bv2, rfl, _, aa2, rl2, rr2, rt2, ra2, rb2⟩ := rt; rw [eqT_ne (by intro h; cases h)]; unfold ptr; repeat (first | refine J1.go ?_ | refine J0.go ?_ | refine Gd.tt ?_ | refine Gd.ff ?_ | refine Gd.tf ?_ | refine Gd.ft ?_ | refine Gd.u ?_ | refine If.t ?_ | refine If.f ?_ | refine Up.i (Nc.p _ _) ?_ | refine V1.load (oneAll rfl) (by assumption) rfl ?_ | refine V1.i (w' := w) (by simp [go_sem]; first | done | rfl | exact ⟨rfl, rfl⟩) ?_)
     exact ⟨rfl, Keep.refl _ _⟩
 obtain ⟨q, line, lv, rv, tv, av, bv, rfl, _, a1, rl, rr, rt0, ra, rb⟩ := rs; rcases wf2_cases ht with rfl | ⟨k2, x2, l2, r2, t2, a2, b2, rfl⟩
 · obtain rfl : v = .pointer none := rt; rw [eqT_ne (by intro h; cases h)]; unfold ptr; repeat (first | refine J1.go ?_ | refine J0.go ?_ | refine Gd.tt ?_ | refine Gd.ff ?_ | refine Gd.tf ?_ | refine Gd.ft ?_ | refine Gd.u ?_ | refine If.t ?_ | refine If.f ?_ | refine Up.i (Nc.p _ _) ?_ | refine V1.load (oneAll rfl) (by assumption) rfl ?_ | refine V1.i (w' := w) (by simp [go_sem]; first | done | rfl | exact ⟨rfl, rfl⟩) ?_)
   exact ⟨rfl, Keep.refl _ _⟩
 obtain ⟨q2, line2, lv2, rv2, tv2, av2, bv2, rfl, _, aa2, rl2, rr2, rt2, ra2, rb2⟩ := rt; unfold ptr; refine V1.i (v := .bool false) (w' := w) (by simp [go_sem]) ?_; refine J1.go (Gd.ff ?_); refine V1.i (v := .bool false) (w' := w) (by simp [go_sem]) ?_; refine V1.i (v := .bool false) (w' := w) (by simp [go_sem]) ?_; refine If.f ?_; refine ⟨fun w' => Keep [] w w', (Keep.refl _ _).drew, ?_⟩; simp only [wf, Bool.and_eq_true] at hs ht; obtain ⟨⟨⟨⟨hl, hr⟩, ht0⟩, ha⟩, hb⟩ := hs; obtain ⟨⟨⟨⟨hl2, hr2⟩, ht2⟩, ha2⟩, hb2⟩ := ht; simp only [tz] at hz; refine ⟨_, fun w' _ => ⟨rfl, rfl⟩, ?_⟩; refine Xv.i _ (fun w' _ => by simp [go_sem] <;> trivial) ?_; refine Xv.i (.int .i64 k) (ldQ a1 rfl rfl) ?_; refine ⟨_, fun w' _ => ⟨rfl, rfl⟩, ?_⟩; refine Xv.i _ (fun w' _ => by simp [go_sem] <;> trivial) ?_; refine Xv.i (.int .i64 k2) (ldQ aa2 rfl rfl) ?_
 refine Xv.i (.bool (k == k2)) (fun w' _ => eqInt2 w' _ _ _ _) ?_; refine Q1.gd (x == x2) (fun _ kx hkx => ?_) ?_
 · refine ⟨_, fun w' _ => ⟨rfl, rfl⟩, ?_⟩; refine Xv.i _ (fun w' _ => by simp [go_sem] <;> trivial) ?_; refine Xv.i (str x) (ldQ a1 rfl rfl) ?_; refine ⟨_, fun w' _ => ⟨rfl, rfl⟩, ?_⟩; refine Xv.i _ (fun w' _ => by simp [go_sem] <;> trivial) ?_; refine Xv.i (str x2) (ldQ aa2 rfl rfl) ?_; refine Xv.i (.bool (x == x2)) (fun w' _ => eqS w' _ _ _ _) ?_; exact hkx
 refine Xv.i _ (fun w' _ => pkA w' _ _) ?_; refine Q1.gd (eqT l l2) (fun _ kx hkx => ?_) ?_
 · refine ⟨_, fun w' _ => ⟨rfl, rfl⟩, ?_⟩; refine Xv.i _ (fun w' _ => by simp [go_sem] <;> trivial) ?_; refine Xv.i (lv) (ldQ a1 rfl rfl) ?_; refine ⟨_, fun w' _ => ⟨rfl, rfl⟩, ?_⟩; refine Xv.i _ (fun w' _ => by simp [go_sem] <;> trivial) ?_; refine Xv.i (lv2) (ldQ aa2 rfl rfl) ?_; refine Xq.call (fn := Tryz.f41) (.bool (eqT l l2)) (callFunc_run Tryz.func41 (c := codeB Tryz.f41) (by kernel_rfl) (by kernel_rfl) _) (fun w' hw => (H.same (by omega) hl hl2 (Rep.new hw _ _ rl) (Rep.new hw _ _ rl2)).mono ?_) ?_
   · exact ret_bool hw
   exact hkx
 refine Xv.i _ (fun w' _ => pkA w' _ _) ?_; refine Q1.gd (eqT r r2) (fun _ kx hkx => ?_) ?_
 · refine ⟨_, fun w' _ => ⟨rfl, rfl⟩, ?_⟩; refine Xv.i _ (fun w' _ => by simp [go_sem] <;> trivial) ?_; refine Xv.i (rv) (ldQ a1 rfl rfl) ?_; refine ⟨_, fun w' _ => ⟨rfl, rfl⟩, ?_⟩; refine Xv.i _ (fun w' _ => by simp [go_sem] <;> trivial) ?_; refine Xv.i (rv2) (ldQ aa2 rfl rfl) ?_; refine Xq.call (fn := Tryz.f41) (.bool (eqT r r2)) (callFunc_run Tryz.func41 (c := codeB Tryz.f41) (by kernel_rfl) (by kernel_rfl) _) (fun w' hw => (H.same (by omega) hr hr2 (Rep.new hw _ _ rr) (Rep.new hw _ _ rr2)).mono ?_) ?_
   · exact ret_bool hw
   exact hkx
 refine Xv.i _ (fun w' _ => pkA w' _ _) ?_; refine Q1.gd (eqT t0 t2) (fun _ kx hkx => ?_) ?_
 · refine ⟨_, fun w' _ => ⟨rfl, rfl⟩, ?_⟩; refine Xv.i _ (fun w' _ => by simp [go_sem] <;> trivial) ?_; refine Xv.i (tv) (ldQ a1 rfl rfl) ?_; refine ⟨_, fun w' _ => ⟨rfl, rfl⟩, ?_⟩; refine Xv.i _ (fun w' _ => by simp [go_sem] <;> trivial) ?_; refine Xv.i (tv2) (ldQ aa2 rfl rfl) ?_; refine Xq.call (fn := Tryz.f41) (.bool (eqT t0 t2)) (callFunc_run Tryz.func41 (c := codeB Tryz.f41) (by kernel_rfl) (by kernel_rfl) _) (fun w' hw => (H.same (by omega) ht0 ht2 (Rep.new hw _ _ rt0) (Rep.new hw _ _ rt2)).mono ?_) ?_
   · exact ret_bool hw
   exact hkx
 refine Xv.i _ (fun w' _ => pkA w' _ _) ?_; refine Q1.gd (eqT a a2) (fun _ kx hkx => ?_) ?_
 · refine ⟨_, fun w' _ => ⟨rfl, rfl⟩, ?_⟩; refine Xv.i _ (fun w' _ => by simp [go_sem] <;> trivial) ?_; refine Xv.i (av) (ldQ a1 rfl rfl) ?_; refine ⟨_, fun w' _ => ⟨rfl, rfl⟩, ?_⟩; refine Xv.i _ (fun w' _ => by simp [go_sem] <;> trivial) ?_; refine Xv.i (av2) (ldQ aa2 rfl rfl) ?_; refine Xq.call (fn := Tryz.f22) (.bool (eqT a a2)) (callFunc_run Tryz.func22 (c := codeB Tryz.f22) (by kernel_rfl) (by kernel_rfl) _) (fun w' hw => (c22 hn H (by omega) ha ha2 (Rep.new hw _ _ ra) (Rep.new hw _ _ ra2)).mono ?_) ?_
   · exact ret_bool hw
   exact hkx
 refine Xv.i _ (fun w' _ => pkA w' _ _) ?_; refine Q1.gd (eqT b b2) (fun _ kx hkx => ?_) ?_
 · refine ⟨_, fun w' _ => ⟨rfl, rfl⟩, ?_⟩; refine Xv.i _ (fun w' _ => by simp [go_sem] <;> trivial) ?_; refine Xv.i (bv) (ldQ a1 rfl rfl) ?_; refine ⟨_, fun w' _ => ⟨rfl, rfl⟩, ?_⟩; refine Xv.i _ (fun w' _ => by simp [go_sem] <;> trivial) ?_; refine Xv.i (bv2) (ldQ aa2 rfl rfl) ?_; refine Xq.call (fn := Tryz.f22) (.bool (eqT b b2)) (callFunc_run Tryz.func22 (c := codeB Tryz.f22) (by kernel_rfl) (by kernel_rfl) _) (fun w' hw => (c22 hn H (by omega) hb hb2 (Rep.new hw _ _ rb) (Rep.new hw _ _ rb2)).mono ?_) ?_
   · exact ret_bool hw
   exact hkx
 refine Xv.i _ (fun w' _ => pkA w' _ _) ?_; intro w2 K2; exact ⟨by rw [eqT_st], K2⟩
theorem same_all : ∀ n, n ≤ fuelMax → SAll n
  | 0, _ => ⟨fun h => absurd h (Nat.not_lt_zero _), fun h => absurd h (Nat.not_lt_zero _)⟩
  | n + 1, hn => ⟨c41 (by omega) (same_all n (by omega)), c40 (by omega) (same_all n (by omega))⟩
theorem alike {F : Nat → Prop} {w : World} {s t : Tr} {u v : Value} (hz : tz s ≤ fuelMax) (hs : wf s 3 = true) (ht : wf t 3 = true) (rs : Rep F w s (.L u)) (rt : Rep F w t (.L v)) :
    Calls Tryz.prog 22 #[u, v] w (Ret (fun x w' => x = .bool (eqT s t) ∧ Keep [] w w') NP) :=
  c22 (Nat.le_refl _) (same_all _ (Nat.le_refl _)) hz hs ht rs rt
end Go.Proofs.YtoddjlclpnoomaaGreatDoor

import Derived.Test.YtoddjlclpnoomaaGreatDoorV10
import Derived.Test.YtoddjlclpnoomaaGreatDoorV14
set_option linter.unusedVariables false
set_option linter.unusedSimpArgs false
set_option maxRecDepth 100000
namespace Go.Proofs.YtoddjlclpnoomaaGreatDoor
def TG : List Tok → Prop
  | [] => False
  | [t] => t.kind = 5
  | t :: u :: ts => t.kind ≠ 5 ∧ i64 t.n = true ∧ TG (u :: ts)
def cn : Tr → Nat
  | .cons a b => 1 + cn a + cn b
  | .ex _ _ _ l r ks ags ps b => 1 + ps.length + cn l + cn r + cn ks + cn ags + cn b
  | .st _ _ l r t a b => 1 + cn l + cn r + cn t + cn a + cn b
  | _ => 0
def wf : Tr → Nat → Bool
  | .nil, _ => true
  | .ex _ n _ l r ks ags _ b, 0 => i64 n && wf l 0 && wf r 0 && wf ks 1 && wf ags 1 && wf b 3
  | .cons a t, 1 => wf a 0 && wf t 1
  | .st _ _ l r t a b, 2 => wf l 0 && wf r 0 && wf t 0 && wf a 3 && wf b 3
  | .cons a t, 3 => wf a 2 && wf t 3
  | _, _ => false
theorem wf_snoc1 : ∀ (t x : Tr), wf t 1 = true → wf x 0 = true → wf (snoc t x) 1 = true ∧ cn (snoc t x) = 1 + cn t + cn x
 | .nil, x, _, hx => by simp [snoc, wf, hx, cn]
 | .cons a t, x, h, hx => by
   simp only [wf, Bool.and_eq_true] at h; have := wf_snoc1 t x h.2 hx; simp [snoc, wf, h, this, cn]; omega
 | .hole, x, h, hx => by simp [wf] at h
 | .ex .., x, h, hx => by simp [wf] at h
 | .st .., x, h, hx => by simp [wf] at h
theorem wf_snoc3 : ∀ (t x : Tr), wf t 3 = true → wf x 2 = true → wf (snoc t x) 3 = true ∧ cn (snoc t x) = 1 + cn t + cn x
 | .nil, x, _, hx => by simp [snoc, wf, hx, cn]
 | .cons a t, x, h, hx => by
   simp only [wf, Bool.and_eq_true] at h; have := wf_snoc3 t x h.2 hx; simp [snoc, wf, h, this, cn]; omega
 | .hole, x, h, hx => by simp [wf] at h
 | .ex .., x, h, hx => by simp [wf] at h
 | .st .., x, h, hx => by simp [wf] at h
def isE : Tr → Bool
  | .ex .. => true
  | _ => false
def isS : Tr → Bool
  | .st .. => true
  | _ => false
def rank : Cl → Nat
  | .func _ | .bracket _ | .inner _ | .bin .. | .params _ => 0
  | .locl | .signed | .exprL .. | .postL .. => 1
  | .primary => 2
  | .post => 3
  | .simple | .operand => 4
  | .expr _ => 5
  | .stmt => 5
  | .branch | .args _ | .item | .blockL _ => 6
  | .items .. | .block => 7
def RG (P : Tr → List Tok → Prop) : Res → Prop
  | .ok t ts _ => TG ts ∧ P t ts
  | .fail _ => True
  | .oof => False
theorem RG.bind {P Q : Tr → List Tok → Prop} {r : Res} {f : Tr → List Tok → Bool → Res} (h : RG P r) (hf : ∀ t ts o, TG ts → P t ts → RG Q (f t ts o)) : RG Q (r.bind f) := by
 cases r with
 | ok t ts o => exact hf t ts o h.1 h.2
 | fail c => trivial
 | oof => exact h.elim
theorem RG.imp {P Q : Tr → List Tok → Prop} {r : Res} (h : RG P r) (hf : ∀ t ts, TG ts → P t ts → Q t ts) : RG Q r := by
 cases r with
 | ok t ts o => exact ⟨h.1, hf t ts h.1 h.2⟩
 | fail c => trivial
 | oof => exact h.elim
theorem TG.adv {ts : List Tok} (h : TG ts) (hk : (hd ts).kind ≠ 5) : TG (adv ts) ∧ (adv ts).length + 1 = ts.length := by
 match ts, h with
 | [t], h => exact absurd h hk
 | t :: u :: ts, h => exact ⟨h.2.2, rfl⟩
theorem TG.n64 {ts : List Tok} (h : TG ts) (hk : (hd ts).kind ≠ 5) : i64 (hd ts).n = true := by
 match ts, h with
 | [t], h => exact absurd h hk
 | t :: u :: ts, h => exact h.2.1
theorem isB_kind {t : Tok} {ss : List (List UInt8)} (h : isB t ss = true) : t.kind = 4 := by
 unfold isB at h; simp only [Bool.and_eq_true, beq_iff_eq] at h; exact h.1
theorem TG.is {ts : List Tok} {ss : List (List UInt8)} (h : TG ts) (hk : isB (hd ts) ss = true) : TG (Go.Proofs.YtoddjlclpnoomaaGreatDoor.adv ts) ∧ (Go.Proofs.YtoddjlclpnoomaaGreatDoor.adv ts).length + 1 = ts.length :=
  h.adv (by rw [isB_kind hk]; decide)
theorem RG.must {Q : Tr → List Tok → Prop} {s : List UInt8} {ts : List Tok} {f : List Tok → Res} (h : TG ts) (hf : ∀ ts', TG ts' → ts'.length + 1 = ts.length → RG Q (f ts')) : RG Q (mustT s ts f) := by
 unfold mustT
 cases h1 : is1 s ts with
 | true => exact hf _ (h.is h1).1 (h.is h1).2
 | false => trivial
theorem RG.name {Q : Tr → List Tok → Prop} {ts : List Tok} {f : List UInt8 → List Tok → Res} (h : TG ts) (hf : ∀ nm ts', TG ts' → ts'.length + 1 = ts.length → RG Q (f nm ts')) : RG Q (nameT ts f) := by
 unfold nameT
 cases h1 : (hd ts).kind == 1 with
 | true =>
   have h2 : (hd ts).kind ≠ 5 := by rw [beq_iff_eq.mp h1]; decide
   exact hf _ _ (h.adv h2).1 (h.adv h2).2
 | false => trivial
theorem RG.open {Q : Tr → List Tok → Prop} {d : Int} {f : Int → Res} (hf : ∀ d, RG Q (f d)) : RG Q (openT d f) := by
 unfold openT
 cases decide (64 < d + 1) with
 | true => trivial
 | false => exact hf _
def Pre : Cl → List Tok → Prop
  | .blockL acc, _ => wf acc 3 = true
  | .exprL l _, _ => wf l 0 = true ∧ isE l = true
  | .bin l _, ts => wf l 0 = true ∧ isE l = true ∧ (hd ts).kind ≠ 5
  | .postL e _, _ => wf e 0 = true ∧ isE e = true
  | .bracket l, _ => wf l 0 = true
  | .args acc, _ => wf acc 1 = true
  | .items ks ags, _ => wf ks 1 = true ∧ wf ags 1 = true
  | _, _ => True
def Post : Cl → Nat → Tr → List Tok → Prop
  | .block, L, t, ts => wf t 3 = true ∧ cn t + 3 * ts.length ≤ 3 * L
  | .blockL acc, L, t, ts => wf t 3 = true ∧ cn t + 3 * ts.length ≤ cn acc + 3 * L
  | .inner _, L, t, ts => wf t 3 = true ∧ cn t + 3 * ts.length + 3 ≤ 3 * L
  | .stmt, L, t, ts | .simple, L, t, ts | .locl, L, t, ts | .branch, L, t, ts => wf t 2 = true ∧ isS t = true ∧ 1 ≤ cn t ∧ cn t + 1 + 3 * ts.length ≤ 3 * L
  | .func true, L, t, ts => (∃ f k n x l r ks ags ps b, t = .cons f (.cons (.ex k n x l r ks ags ps b) .nil) ∧ isE f = true ∧ wf f 0 = true ∧ wf (.ex k n x l r ks ags ps b) 0 = true) ∧ cn t + 3 * ts.length + 2 ≤ 3 * L
  | .func false, L, t, ts => wf t 0 = true ∧ isE t = true ∧ cn t + 3 * ts.length + 2 ≤ 3 * L
  | .params acc, L, t, ts => (∃ ps, t = .ex 0 0 [] .nil .nil .nil .nil ps .nil ∧ ps.length + 3 * ts.length + 2 ≤ acc.length + 3 * L) ∧ ts.length + 1 ≤ L
  | .expr _, L, t, ts | .operand, L, t, ts | .post, L, t, ts | .primary, L, t, ts | .signed, L, t, ts => wf t 0 = true ∧ isE t = true ∧ cn t + 2 + 3 * ts.length ≤ 3 * L
  | .exprL l _, L, t, ts => wf t 0 = true ∧ isE t = true ∧ cn t + 3 * ts.length ≤ cn l + 3 * L
  | .bin l _, L, t, ts => wf t 0 = true ∧ isE t = true ∧ cn t + 3 * ts.length ≤ cn l + 3 * L ∧ ts.length + 1 ≤ L
  | .postL e _, L, t, ts => wf t 0 = true ∧ isE t = true ∧ cn t + 3 * ts.length ≤ cn e + 3 * L
  | .bracket l, L, t, ts => (∃ r, t = .ex 7 0 [] l r .nil .nil [] .nil ∧ wf r 0 = true ∧ isE r = true ∧ cn r + 8 + 3 * ts.length ≤ 3 * L)
  | .args acc, L, t, ts => wf t 1 = true ∧ cn t + 3 * ts.length ≤ cn acc + 3 * L
  | .items ks ags, L, t, ts => (∃ a b, t = .cons a (.cons b .nil) ∧ wf a 1 = true ∧ wf b 1 = true ∧ cn a + cn b + 3 * ts.length ≤ cn ks + cn ags + 3 * L)
  | .item, L, t, ts => (∃ a b, t = .cons a (.cons b .nil) ∧ wf a 0 = true ∧ wf b 0 = true ∧ cn a + cn b + 3 * ts.length + 2 ≤ 3 * L)
theorem isE_cn : ∀ {t : Tr}, isE t = true → 1 ≤ cn t
  | .ex .., _ => by simp only [cn, List.length_nil]; omega
  | .nil, h | .hole, h | .cons .., h | .st .., h => by simp [isE] at h
theorem run_good : ∀ (n : Nat) (c : Cl) (deep : Int) (ts : List Tok), TG ts → Pre c ts → 8 * ts.length + rank c < n → RG (Post c ts.length) (run n c deep ts)
 | 0, c, deep, ts, h, hp, hn => absurd hn (Nat.not_lt_zero _)
 | n + 1, .block, deep, ts, h, hp, hn => by
   simp only [run]; simp only [rank] at hn; exact (run_good n (.blockL .nil) deep ts h rfl (by simp only [rank]; omega)).imp fun t ts' h' hq => ⟨hq.1, by simpa [cn] using hq.2⟩
 | n + 1, .blockL acc, deep, ts, h, hp, hn => by
   simp only [run]; simp only [rank] at hn
   cases h1 : endsB (hd ts) with
   | true => exact ⟨h, hp, Nat.le_refl _⟩
   | false =>
     refine (run_good n .stmt deep ts h trivial (by simp only [rank]; omega)).bind fun s ts1 _ h1 hs => ?_; obtain ⟨hs1, hs2, hs3, hs4⟩ := hs; have hq := wf_snoc3 acc s hp hs1; try dsimp only
     cases kindOf s == 8 with
     | true => exact ⟨h1, hq.1, by rw [hq.2]; omega⟩
     | false =>
       refine (run_good n (.blockL (snoc acc s)) deep ts1 h1 hq.1 (by simp only [rank]; omega)).imp fun t ts' h' hq' => ⟨hq'.1, ?_⟩; have := hq'.2; rw [hq.2] at this; omega
 | n + 1, .inner s, deep, ts, h, hp, hn => by
   simp only [run]; simp only [rank] at hn
   cases h1 : is1 s ts with
   | false => trivial
   | true =>
     obtain ⟨ha, hl⟩ := h.is h1; refine RG.open fun d => (run_good n .block d _ ha trivial (by simp only [rank]; omega)).imp fun t ts' h' hq => ⟨hq.1, ?_⟩; have := hq.2; omega
 | n + 1, .stmt, deep, ts, h, hp, hn => by
   simp only [run]; simp only [rank] at hn; have hsim := run_good n .simple deep ts h trivial (by simp only [rank]; omega)
   cases h1 : (hd ts).kind == 4 with
   | false => exact hsim
   | true =>
     have h1' := beq_iff_eq.mp h1; obtain ⟨ha, hl⟩ := h.adv (by rw [h1']; decide); try dsimp only
     have hinner : ∀ s ts, TG ts → ts.length + 1 ≤ (Go.Proofs.YtoddjlclpnoomaaGreatDoor.adv ts).length + 2 → 8 * ts.length < n → ∀ d, RG (Post (.inner s) ts.length) (run n (.inner s) d ts) := fun s ts h _ hn d => run_good n (.inner s) d ts h trivial (by simp only [rank]; omega); have hin : ∀ s ts, TG ts → 8 * ts.length < n → ∀ d, RG (Post (.inner s) ts.length) (run n (.inner s) d ts) := fun s ts h hn d => run_good n (.inner s) d ts h trivial (by simp only [rank]; omega); have hex : ∀ ts1, TG ts1 → ts1.length < ts.length → ∀ d a, RG (Post (.expr a) ts1.length) (run n (.expr a) d ts1) := fun ts h hn d a => run_good n (.expr a) d ts h trivial (by simp only [rank]; omega); split
     · exact run_good n .locl deep ts h trivial (by simp only [rank]; omega)
     split
     · refine (run_good n (.func true) deep ts h trivial (by simp only [rank]; omega)).bind fun r ts1 _ h1 hs => ?_; obtain ⟨⟨f, k, nn, x, l, r', ks, ags, ps, b, rfl, e1, e2, e3⟩, hc⟩ := hs; simp only [cn, List.length_nil] at hc; refine ⟨h1, by simp [wf, e2] ; simpa [wf] using e3, rfl, by simp only [cn, List.length_nil]; omega, by simp only [cn, List.length_nil]; omega⟩
     split
     · refine (hin _ ts h (by omega) _).bind fun a ts1 _ h1 hs => RG.must h1 fun ts2 h2 hl2 => ⟨h2, by simp [wf, hs.1], rfl, by simp only [cn, List.length_nil]; omega, ?_⟩; have := hs.2; simp only [cn, List.length_nil]; omega
     split
     · refine (hex _ ha (by omega) _ _).bind fun r ts1 _ h1 hs => ?_; have := isE_cn hs.2.1; refine (hin _ ts1 h1 (by have := hs.2.2; omega) _).bind fun a ts2 _ h2 hs2 => RG.must h2 fun ts3 h3 hl3 => ⟨h3, by simp [wf, hs.1, hs2.1], rfl, by simp only [cn, List.length_nil]; omega, ?_⟩; have := hs.2.2; have := hs2.2; simp only [cn, List.length_nil]; omega
     split
     · refine RG.name ha fun nm ts1 h1 hl1 => RG.must h1 fun ts2 h2 hl2 => (hex _ h2 (by omega) _ _).bind fun r ts3 _ h3 hs3 => ?_; have := isE_cn hs3.2.1; have := hs3.2.2; refine RG.must h3 fun ts4 h4 hl4 => (hex _ h4 (by omega) _ _).bind fun r ts5 _ h5 hs5 => ?_; have := isE_cn hs5.2.1; have := hs5.2.2; refine (hin _ ts5 h5 (by omega) _).bind fun a ts6 _ h6 hs6 => RG.must h6 fun ts7 h7 hl7 => ⟨h7, by simp [wf, hs3.1, hs5.1, hs6.1], rfl, by simp only [cn, List.length_nil]; omega, ?_⟩; have := hs6.2; simp only [cn, List.length_nil]; omega
     split
     · refine (run_good n .branch deep _ ha trivial (by simp only [rank]; omega)).bind fun s ts1 _ h1 hs => RG.must h1 fun ts2 h2 hl2 => ⟨h2, hs.1, hs.2.1, hs.2.2.1, ?_⟩; have := hs.2.2.2; omega
     split
     · cases endsB (hd (Go.Proofs.YtoddjlclpnoomaaGreatDoor.adv ts)) with
       | true => exact ⟨ha, by simp [wf], rfl, by simp only [cn, List.length_nil]; omega, by simp only [cn, List.length_nil]; omega⟩
       | false =>
         refine (hex _ ha (by omega) _ _).bind fun r ts1 _ h1 hs => ?_; try dsimp only
         cases endsB (hd ts1) with
         | true =>
           have := hs.2.2; exact ⟨h1, by simp [wf, hs.1], rfl, by simp only [cn, List.length_nil]; omega, by simp only [cn, List.length_nil]; omega⟩
         | false => trivial
     split
     · exact ⟨ha, by simp [wf], rfl, by simp only [cn, List.length_nil]; omega, by simp only [cn, List.length_nil]; omega⟩
     split
     · refine (hin _ ts h (by omega) _).bind fun a ts1 _ h1 hs => ?_; try dsimp only
       cases h3 : is1 sCatch ts1 with
       | false => trivial
       | true =>
         obtain ⟨hc, hlc⟩ := h1.is h3; have := hs.2; refine RG.open fun d => RG.name hc fun nm ts2 h2 hl2 => (run_good n .block d _ h2 trivial (by simp only [rank]; omega)).bind fun b ts3 _ h3 hs3 => RG.must h3 fun ts4 h4 hl4 => ⟨h4, by simp [wf, hs.1, hs3.1], rfl, by simp only [cn, List.length_nil]; omega, ?_⟩; have := hs3.2; simp only [cn, List.length_nil]; omega
     · exact hsim
 | n + 1, .simple, deep, ts, h, hp, hn => by
   simp only [run]; simp only [rank] at hn; refine (run_good n .post deep ts h trivial (by simp only [rank]; omega)).bind fun e ts1 own h1 hs => ?_; have hc := isE_cn hs.2.1; have hs2 := hs.2.2; try dsimp only
   cases hx : is1 [61] ts1 && !own && (kindOf e == 6 || kindOf e == 7) with
   | true =>
     simp only [Bool.and_eq_true] at hx; obtain ⟨ha, hl⟩ := h1.is hx.1.1; refine (run_good n (.expr 0) deep _ ha trivial (by simp only [rank]; omega)).bind fun r ts2 _ h2 hs3 => ⟨h2, by simp [wf, hs.1, hs3.1], rfl, by simp only [cn, List.length_nil]; omega, ?_⟩; have := hs3.2.2; simp only [cn, List.length_nil]; omega
   | false =>
     try dsimp only
     cases !is1 [61] ts1 && !own && kindOf e == 8 with
     | true => exact ⟨h1, by simp [wf, hs.1], rfl, by simp only [cn, List.length_nil]; omega, by simp only [cn, List.length_nil]; omega⟩
     | false => trivial
 | n + 1, .locl, deep, ts, h, hp, hn => by
   simp only [run]; simp only [rank] at hn
   cases hx : is1 sFunction (adv ts) with
   | true =>
     have hle : TG (adv ts) ∧ (adv ts).length ≤ ts.length := by
       match ts, h with
       | [t], h => exact ⟨h, Nat.le_refl _⟩
       | t :: u :: ts, h => exact ⟨h.2.2, by simp [Go.Proofs.YtoddjlclpnoomaaGreatDoor.adv]⟩
     refine (run_good n (.func true) deep _ hle.1 trivial (by simp only [rank]; omega)).bind fun r ts1 _ h1 hs => ?_; obtain ⟨⟨f, k, nn, x, l, r', ks, ags, ps, b, rfl, e1, e2, e3⟩, hc⟩ := hs; simp only [cn, List.length_nil] at hc; exact ⟨h1, by simp [wf, e2], rfl, by simp only [cn, List.length_nil]; omega, by simp only [cn, List.length_nil]; omega⟩
   | false =>
     have hle : TG (adv ts) ∧ (adv ts).length ≤ ts.length := by
       match ts, h with
       | [t], h => exact ⟨h, Nat.le_refl _⟩
       | t :: u :: ts, h => exact ⟨h.2.2, by simp [Go.Proofs.YtoddjlclpnoomaaGreatDoor.adv]⟩
     refine RG.name hle.1 fun nm ts1 h1 hl1 => ?_
     cases hy : is1 [61] ts1 with
     | true =>
       obtain ⟨h2, hl2⟩ := h1.is hy; refine (run_good n (.expr 0) deep _ h2 trivial (by simp only [rank]; omega)).bind fun r ts3 _ h3 hs => ⟨h3, by simp [wf, hs.1], rfl, by simp only [cn, List.length_nil]; omega, ?_⟩; have := hs.2.2; simp only [cn, List.length_nil]; omega
     | false => exact ⟨h1, by simp [wf], rfl, by simp only [cn, List.length_nil]; omega, by simp only [cn, List.length_nil]; omega⟩
 | n + 1, .branch, deep, ts, h, hp, hn => by
   simp only [run]; simp only [rank] at hn; refine (run_good n (.expr 0) deep ts h trivial (by simp only [rank]; omega)).bind fun r ts1 _ h1 hs => ?_; have hc := isE_cn hs.2.1; have hs2 := hs.2.2; refine (run_good n (.inner sThen) deep ts1 h1 trivial (by simp only [rank]; omega)).bind fun a ts2 _ h2 ha => ?_; have ha2 := ha.2; try dsimp only
   cases hx : is1 sElseif ts2 with
   | true =>
     obtain ⟨h3, hl3⟩ := h2.is hx; refine (run_good n .branch deep _ h3 trivial (by simp only [rank]; omega)).bind fun s ts4 _ h4 hs4 => ⟨h4, by simp [wf, hs.1, ha.1, hs4.1], rfl, by simp only [cn, List.length_nil]; omega, ?_⟩; have := hs4.2.2.2; simp only [cn, List.length_nil]; omega
   | false =>
     try dsimp only
     cases hy : is1 sElse ts2 with
     | true =>
       refine (run_good n (.inner sElse) deep ts2 h2 trivial (by simp only [rank]; omega)).bind fun b ts3 _ h3 hb => ⟨h3, by simp [wf, hs.1, ha.1, hb.1], rfl, by simp only [cn, List.length_nil]; omega, ?_⟩; have := hb.2; simp only [cn, List.length_nil]; omega
     | false => exact ⟨h2, by simp [wf, hs.1, ha.1], rfl, by simp only [cn, List.length_nil]; omega, by simp only [cn, List.length_nil]; omega⟩
 | n + 1, .func named, deep, ts, h, hp, hn => by
   simp only [run]; simp only [rank] at hn; refine RG.open fun d => RG.must h fun ts1 h1 hl1 => ?_; have hbl : ∀ ts1, TG ts1 → ts1.length < ts.length → ∀ d, RG (Post .block ts1.length) (run n .block d ts1) := fun ts h hn d => run_good n .block d ts h trivial (by simp only [rank]; omega); have hps : ∀ ts1, TG ts1 → ts1.length < ts.length → ∀ d, RG (Post (.params []) ts1.length) (run n (.params []) d ts1) := fun ts h hn d => run_good n (.params []) d ts h trivial (by simp only [rank]; omega)
   cases named with
   | true =>
     refine RG.name h1 fun nm ts2 h2 hl2 => ?_; try dsimp only
     cases hx : is1 [40] ts2 with
     | false => trivial
     | true =>
       obtain ⟨h3, hl3⟩ := h2.is hx; refine RG.open fun d2 => ?_
       cases hy : is1 [41] (adv ts2) with
       | true =>
         obtain ⟨h4, hl4⟩ := h3.is hy; refine (hbl _ h4 (by omega) _).bind fun b ts5 _ h5 hs => RG.must h5 fun ts6 h6 hl6 => ⟨h6, ⟨_, _, _, _, _, _, _, _, _, _, rfl, rfl, by simp [wf, hs.1]; decide, by simp [wf]; decide⟩, ?_⟩; have := hs.2; simp only [cn, lf, List.length_nil]; omega
       | false =>
         refine (hps _ h3 (by omega) _).bind fun t ts5 _ h5 hs => ?_; obtain ⟨⟨ps, rfl, hpl⟩, hc⟩ := hs; simp only [List.length_nil] at hpl; refine RG.must h5 fun ts6 h6 hl6 => (hbl _ h6 (by omega) _).bind fun b ts7 _ h7 hs => RG.must h7 fun ts8 h8 hl8 => ⟨h8, ⟨_, _, _, _, _, _, _, _, _, _, rfl, rfl, by simp [wf, hs.1]; decide, by simp [wf]; decide⟩, ?_⟩; have := hs.2; simp only [cn, lf, List.length_nil]; omega
   | false =>
     try dsimp only
     cases hx : is1 [40] ts1 with
     | false => trivial
     | true =>
       obtain ⟨h3, hl3⟩ := h1.is hx; refine RG.open fun d2 => ?_
       cases hy : is1 [41] (adv ts1) with
       | true =>
         obtain ⟨h4, hl4⟩ := h3.is hy; refine (hbl _ h4 (by omega) _).bind fun b ts5 _ h5 hs => RG.must h5 fun ts6 h6 hl6 => ⟨h6, by simp [wf, hs.1]; decide, rfl, ?_⟩; have := hs.2; simp only [cn, lf, List.length_nil]; omega
       | false =>
         refine (hps _ h3 (by omega) _).bind fun t ts5 _ h5 hs => ?_; obtain ⟨⟨ps, rfl, hpl⟩, hc⟩ := hs; simp only [List.length_nil] at hpl; refine RG.must h5 fun ts6 h6 hl6 => (hbl _ h6 (by omega) _).bind fun b ts7 _ h7 hs => RG.must h7 fun ts8 h8 hl8 => ⟨h8, by simp [wf, hs.1]; decide, rfl, ?_⟩; have := hs.2; simp only [cn, lf, List.length_nil]; omega
 | n + 1, .params acc, deep, ts, h, hp, hn => by
   simp only [run]; simp only [rank] at hn; refine RG.name h fun nm ts1 h1 hl1 => ?_
   cases hx : is1 [44] ts1 with
   | true =>
     obtain ⟨h3, hl3⟩ := h1.is hx; exact (run_good n (.params (acc ++ [nm])) deep _ h3 trivial (by simp only [rank]; omega)).imp fun t ts2 h2 hs => ⟨(by obtain ⟨ps, e, hpl⟩ := hs.1; exact ⟨ps, e, by simp only [List.length_append, List.length_cons, List.length_nil] at hpl; omega⟩), by have := hs.2; omega⟩
   | false => exact ⟨h1, ⟨_, rfl, by simp only [List.length_append, List.length_cons, List.length_nil]; omega⟩, by omega⟩
 | n + 1, .expr above, deep, ts, h, hp, hn => by
   simp only [run]; simp only [rank] at hn; refine (run_good n .operand deep ts h trivial (by simp only [rank]; omega)).bind fun l ts1 _ h1 hs => ?_; have := hs.2.2; have := isE_cn hs.2.1; exact (run_good n (.exprL l above) deep ts1 h1 ⟨hs.1, hs.2.1⟩ (by simp only [rank]; omega)).imp fun t ts2 h2 hs => ⟨hs.1, hs.2.1, by have := hs.2.2; omega⟩
 | n + 1, .exprL l above, deep, ts, h, hp, hn => by
   simp only [run]; simp only [rank] at hn
   cases hx : !((hd ts).kind == 4) || decide (bindN (hd ts).text ≤ above) with
   | true => exact ⟨h, hp.1, hp.2, Nat.le_refl _⟩
   | false =>
     simp only [Bool.or_eq_false_iff, Bool.not_eq_false', beq_iff_eq] at hx; refine (run_good n (.bin l (bindN (hd ts).text)) deep ts h ⟨hp.1, hp.2, by rw [hx.1]; decide⟩ (by simp only [rank]; omega)).bind fun e ts1 _ h1 hs => ?_; have := hs.2.2.1; have := hs.2.2.2; exact (run_good n (.exprL e above) deep ts1 h1 ⟨hs.1, hs.2.1⟩ (by simp only [rank]; omega)).imp fun t ts2 h2 hs => ⟨hs.1, hs.2.1, by have := hs.2.2; omega⟩
 | n + 1, .bin l k, deep, ts, h, hp, hn => by
   simp only [run]; simp only [rank] at hn; obtain ⟨ha, hl⟩ := h.adv hp.2.2
   cases (hd ts).text == [46, 46] with
   | true =>
     refine RG.open fun d => (run_good n (.expr (k - 1)) d _ ha trivial (by simp only [rank]; omega)).bind fun r ts1 _ h1 hs => ?_; have := hs.2.2; exact ⟨h1, by simp [wf, hp.1, hs.1]; decide, rfl, by simp only [cn, List.length_nil]; omega, by omega⟩
   | false =>
     refine (run_good n (.expr k) deep _ ha trivial (by simp only [rank]; omega)).bind fun r ts1 _ h1 hs => ?_; have := hs.2.2; exact ⟨h1, by simp [wf, hp.1, hs.1]; decide, rfl, by simp only [cn, List.length_nil]; omega, by omega⟩
 | n + 1, .operand, deep, ts, h, hp, hn => by
   simp only [run]; simp only [rank] at hn
   cases hx : isB (hd ts) [sNot, [45], [35], [126]] with
   | false => exact run_good n .post deep ts h trivial (by simp only [rank]; omega)
   | true =>
     obtain ⟨ha, hl⟩ := h.is hx; refine RG.open fun d => (run_good n .operand d _ ha trivial (by simp only [rank]; omega)).bind fun r ts1 _ h1 hs => ?_; have := hs.2.2; exact ⟨h1, by simp [wf, hs.1]; decide, rfl, by simp only [cn, List.length_nil]; omega⟩
 | n + 1, .post, deep, ts, h, hp, hn => by
   simp only [run]; simp only [rank] at hn; refine (run_good n .primary deep ts h trivial (by simp only [rank]; omega)).bind fun l ts1 _ h1 hs => ?_; have := hs.2.2; have := isE_cn hs.2.1; exact (run_good n (.postL l _) deep ts1 h1 ⟨hs.1, hs.2.1⟩ (by simp only [rank]; omega)).imp fun t ts2 h2 hs => ⟨hs.1, hs.2.1, by have := hs.2.2; omega⟩
 | n + 1, .postL e own, deep, ts, h, hp, hn => by
   simp only [run]; simp only [rank] at hn; have hcn := isE_cn hp.2
   cases hx : is1 [91] ts with
   | true =>
     refine (run_good n (.bracket e) deep ts h hp.1 (by simp only [rank]; omega)).bind fun t ts1 _ h1 hs => ?_; obtain ⟨r, rfl, e1, e2, hc⟩ := hs; exact (run_good n (.postL _ false) deep ts1 h1 ⟨by simp [wf, hp.1, e1]; decide, rfl⟩ (by simp only [rank]; omega)).imp fun t ts2 h2 hs => ⟨hs.1, hs.2.1, by have := hs.2.2; simp only [cn, List.length_nil] at this; omega⟩
   | false =>
     try dsimp only
     cases hy : is1 [46] ts with
     | true =>
       obtain ⟨ha, hl⟩ := h.is hy; refine RG.name ha fun nm ts1 h1 hl1 => ?_; exact (run_good n (.postL _ false) deep ts1 h1 ⟨by simp [wf, hp.1, lf]; decide, rfl⟩ (by simp only [rank]; omega)).imp fun t ts2 h2 hs => ⟨hs.1, hs.2.1, by have := hs.2.2; simp only [cn, lf, List.length_nil] at this; omega⟩
     | false =>
       try dsimp only
       cases hz : is1 [40] ts with
       | false => exact ⟨h, hp.1, hp.2, Nat.le_refl _⟩
       | true =>
         obtain ⟨ha, hl⟩ := h.is hz; refine RG.open fun d => ?_
         cases hw : is1 [41] (adv ts) with
         | true =>
           obtain ⟨hb, hl2⟩ := ha.is hw; exact (run_good n (.postL _ false) deep _ hb ⟨by simp [wf, hp.1]; decide, rfl⟩ (by simp only [rank]; omega)).imp fun t ts2 h2 hs => ⟨hs.1, hs.2.1, by have := hs.2.2; simp only [cn, lf, List.length_nil] at this; omega⟩
         | false =>
           refine (run_good n (.args .nil) d _ ha rfl (by simp only [rank]; omega)).bind fun ags ts1 _ h1 hs => RG.must h1 fun ts2 h2 hl2 => ?_; have := hs.2; exact (run_good n (.postL _ false) deep _ h2 ⟨by simp [wf, hp.1, hs.1]; decide, rfl⟩ (by simp only [rank]; simp only [cn, List.length_nil] at this; omega)).imp fun t ts2 h2 hs => ⟨hs.1, hs.2.1, by have := hs.2.2; simp only [cn, lf, List.length_nil] at *; omega⟩
 | n + 1, .primary, deep, ts, h, hp, hn => by
   simp only [run]; simp only [rank] at hn; split
   · rename_i hk
     obtain ⟨ha, hl⟩ := h.adv (by rw [hk]; decide); exact ⟨ha, by simp [wf, lf]; decide, rfl, by simp only [cn, lf, List.length_nil]; omega⟩
   split
   · rename_i hk
     obtain ⟨ha, hl⟩ := h.adv (by rw [hk]; decide); exact ⟨ha, by simp [wf, lf, h.n64 (by rw [hk]; decide)], rfl, by simp only [cn, lf, List.length_nil]; omega⟩
   split
   · rename_i hk
     obtain ⟨ha, hl⟩ := h.adv (by rw [hk]; decide); exact ⟨ha, by simp [wf, lf]; decide, rfl, by simp only [cn, lf, List.length_nil]; omega⟩
   exact run_good n .signed deep ts h trivial (by simp only [rank]; omega)
 | n + 1, .signed, deep, ts, h, hp, hn => by
   simp only [run]; simp only [rank] at hn; split
   · rename_i hk
     obtain ⟨ha, hl⟩ := h.is hk; exact ⟨ha, by simp [wf, lf]; decide, rfl, by simp only [cn, lf, List.length_nil]; omega⟩
   split
   · rename_i hk
     obtain ⟨ha, hl⟩ := h.is hk; exact ⟨ha, by simp [wf, lf]; decide, rfl, by simp only [cn, lf, List.length_nil]; omega⟩
   split
   · rename_i hk
     obtain ⟨ha, hl⟩ := h.is hk; exact ⟨ha, by simp [wf, lf]; decide, rfl, by simp only [cn, lf, List.length_nil]; omega⟩
   split
   · rename_i hk
     obtain ⟨ha, hl⟩ := h.is hk; refine RG.open fun d => (run_good n (.expr 0) d _ ha trivial (by simp only [rank]; omega)).bind fun e ts1 _ h1 hs => RG.must h1 fun ts2 h2 hl2 => ⟨h2, hs.1, hs.2.1, ?_⟩; have := hs.2.2; omega
   split
   · exact (run_good n (.func false) deep ts h trivial (by simp only [rank]; omega)).imp fun t ts2 h2 hs => ⟨hs.1, hs.2.1, by have := hs.2.2; omega⟩
   split
   · rename_i hk
     obtain ⟨ha, hl⟩ := h.is hk; refine RG.open fun d => ?_
     cases hw : is1 [125] (adv ts) with
     | true =>
       obtain ⟨hb, hl2⟩ := ha.is hw; exact ⟨hb, by simp [wf]; decide, rfl, by simp only [cn, List.length_nil]; omega⟩
     | false =>
       refine (run_good n (.items .nil .nil) d _ ha ⟨rfl, rfl⟩ (by simp only [rank]; omega)).bind fun r ts1 _ h1 hs => ?_; obtain ⟨a, b, rfl, e1, e2, hc⟩ := hs; simp only [cn, List.length_nil] at hc; exact RG.must h1 fun ts2 h2 hl2 => ⟨h2, by simp [wf, e1, e2]; decide, rfl, by simp only [cn, List.length_nil]; omega⟩
   · trivial
 | n + 1, .bracket l, deep, ts, h, hp, hn => by
   simp only [run]; simp only [rank] at hn; refine RG.open fun d => RG.must h fun ts1 h1 hl1 => (run_good n (.expr 0) d _ h1 trivial (by simp only [rank]; omega)).bind fun r ts2 _ h2 hs => RG.must h2 fun ts3 h3 hl3 => ⟨h3, r, rfl, hs.1, hs.2.1, ?_⟩; have := hs.2.2; omega
 | n + 1, .args acc, deep, ts, h, hp, hn => by
   simp only [run]; simp only [rank] at hn; refine (run_good n (.expr 0) deep _ h trivial (by simp only [rank]; omega)).bind fun a ts1 _ h1 hs => ?_; have hc := hs.2.2; have hq := wf_snoc1 acc a hp hs.1; try dsimp only
   cases hx : is1 [44] ts1 with
   | true =>
     obtain ⟨h2, hl2⟩ := h1.is hx; exact (run_good n (.args (snoc acc a)) deep _ h2 hq.1 (by simp only [rank]; omega)).imp fun t ts2 h2 hs => ⟨hs.1, by have := hs.2; rw [hq.2] at this; omega⟩
   | false => exact ⟨h1, hq.1, by rw [hq.2]; omega⟩
 | n + 1, .items ks ags, deep, ts, h, hp, hn => by
   simp only [run]; simp only [rank] at hn; refine (run_good n .item deep _ h trivial (by simp only [rank]; omega)).bind fun r ts1 _ h1 hs => ?_; obtain ⟨k, a, rfl, e1, e2, hc⟩ := hs; have hk := wf_snoc1 ks k hp.1 e1; have ha := wf_snoc1 ags a hp.2 e2; try dsimp only
   cases hx : is1 [44] ts1 with
   | true =>
     obtain ⟨h2, hl2⟩ := h1.is hx; refine (run_good n (.items (snoc ks k) (snoc ags a)) deep _ h2 ⟨hk.1, ha.1⟩ (by simp only [rank]; omega)).imp fun t ts2 h2 hs => ?_; obtain ⟨x, y, rfl, f1, f2, hd⟩ := hs; exact ⟨x, y, rfl, f1, f2, by rw [hk.2, ha.2] at hd; omega⟩
   | false => exact ⟨h1, _, _, rfl, hk.1, ha.1, by rw [hk.2, ha.2]; omega⟩
 | n + 1, .item, deep, ts, h, hp, hn => by
   simp only [run]; simp only [rank] at hn; split
   · rename_i hk
     obtain ⟨ha, hl⟩ := h.adv (by rw [hk.1]; decide); obtain ⟨hb, hl2⟩ := ha.is hk.2.2; refine (run_good n (.expr 0) deep _ hb trivial (by simp only [rank]; omega)).bind fun a ts1 _ h1 hs => ⟨h1, _, _, rfl, by simp [wf, lf]; decide, hs.1, ?_⟩; have hc := hs.2.2; simp only [cn, lf, List.length_nil]; omega
   split
   · refine (run_good n (.bracket .nil) deep _ h rfl (by simp only [rank]; omega)).bind fun k ts1 _ h1 hs => ?_; obtain ⟨r, rfl, e1, e2, hc⟩ := hs; refine RG.must h1 fun ts2 h2 hl2 => (run_good n (.expr 0) deep _ h2 trivial (by simp only [rank]; omega)).bind fun a ts1 _ h1 hs => ⟨h1, _, _, rfl, e1, hs.1, ?_⟩; have hc := hs.2.2; omega
   · refine (run_good n (.expr 0) deep _ h trivial (by simp only [rank]; omega)).bind fun a ts1 _ h1 hs => ⟨h1, _, _, rfl, rfl, hs.1, ?_⟩; have hc := hs.2.2; simp only [cn, List.length_nil]; omega
def tz : Tr → Nat
  | .cons a b => 1 + tz a + tz b
  | .ex _ _ _ l r ks ags ps b => 8 + ps.length + tz l + tz r + tz ks + tz ags + tz b
  | .st _ _ l r t a b => 8 + tz l + tz r + tz t + tz a + tz b
  | _ => 1
theorem tz_pos : ∀ t, 1 ≤ tz t
  | .nil | .hole => by simp [tz]
  | .cons .. | .ex .. | .st .. => by simp only [tz]; omega
theorem wf0_cases : ∀ {t : Tr}, wf t 0 = true → t = .nil ∨ ∃ k n x l r ks ags ps b, t = .ex k n x l r ks ags ps b
  | .nil, _ => .inl rfl
  | .ex .., _ => .inr ⟨_, _, _, _, _, _, _, _, _, rfl⟩
  | .hole, h | .cons .., h | .st .., h => by simp [wf] at h
theorem wf2_cases : ∀ {t : Tr}, wf t 2 = true → t = .nil ∨ ∃ k n l r x a b, t = .st k n l r x a b
  | .nil, _ => .inl rfl
  | .st .., _ => .inr ⟨_, _, _, _, _, _, _, rfl⟩
  | .hole, h | .cons .., h | .ex .., h => by simp [wf] at h
theorem wf1_cases : ∀ {t : Tr}, wf t 1 = true → t = .nil ∨ ∃ a b, t = .cons a b ∧ wf a 0 = true ∧ wf b 1 = true
  | .nil, _ => .inl rfl
  | .cons .., h => by simp only [wf, Bool.and_eq_true] at h; exact .inr ⟨_, _, rfl, h.1, h.2⟩
  | .hole, h | .st .., h | .ex .., h => by simp [wf] at h
theorem wf3_cases : ∀ {t : Tr}, wf t 3 = true → t = .nil ∨ ∃ a b, t = .cons a b ∧ wf a 2 = true ∧ wf b 3 = true
  | .nil, _ => .inl rfl
  | .cons .., h => by simp only [wf, Bool.and_eq_true] at h; exact .inr ⟨_, _, rfl, h.1, h.2⟩
  | .hole, h | .st .., h | .ex .., h => by simp [wf] at h
theorem wf_isList {t : Tr} : ∀ (m : Nat), (m = 1 ∨ m = 3) → wf t m = true → isList t = true := by
 induction t with
 | nil => intros; rfl
 | cons a b _ ih =>
   rintro m (rfl | rfl) h
   · simp only [wf, Bool.and_eq_true] at h; exact ih 1 (.inl rfl) h.2
   · simp only [wf, Bool.and_eq_true] at h; exact ih 3 (.inr rfl) h.2
 | hole | ex | st => rintro m (rfl | rfl) h <;> simp [wf] at h
theorem tz_cn : ∀ t, tz t ≤ 13 * cn t + 1
 | .nil | .hole => by simp [tz, cn]
 | .cons a b => by
   have := tz_cn a; have := tz_cn b
   simp only [tz, cn]; omega
 | .ex _ _ _ l r ks ags _ b => by
   have := tz_cn l; have := tz_cn r; have := tz_cn ks; have := tz_cn ags; have := tz_cn b
   simp only [tz, cn]; omega
 | .st _ _ l r t a b => by
   have := tz_cn l; have := tz_cn r; have := tz_cn t; have := tz_cn a; have := tz_cn b
   simp only [tz, cn]; omega
theorem numT_ok {s : List UInt8} {t : Tok} {k : Nat} (h : numT s = .tok t k) : t.kind ≠ 5 ∧ i64 t.n = true := by
 unfold numT at h
 cases hn : numP (s.take (lng s digB)) with
 | mk v e =>
   rw [hn] at h; dsimp only at h; split at h
   · cases h
   · split at h
     · rename_i h1 h2
       injection h with h3 h4; subst h3; refine ⟨by simp, ?_⟩; unfold numP at hn; split at hn
       · injection hn with h5 h6; omega
       · split at hn
         · injection hn with h5 h6; omega
         · injection hn with h5 h6; subst h5; simp only [i64, decide_eq_true_eq]; omega
     · cases h
theorem strT_ok {s : List UInt8} {t : Tok} {k : Nat} (h : strT s = .tok t k) : t.kind ≠ 5 ∧ i64 t.n = true := by
 unfold strT at h
 cases hn : qEnd ((s.takeWhile (fun c => !(c == 10))).drop 1) 1 with
 | none => rw [hn] at h; cases h
 | some k' =>
   rw [hn] at h; dsimp only at h
   cases hu : unqT ((s.take k').drop 1) with
   | mk x e =>
     rw [hu] at h; dsimp only at h; split at h
     · injection h with h3 h4; subst h3; exact ⟨by simp, by simp [i64]⟩
     · split at h <;> cases h
theorem wordT_ok {s : List UInt8} {t : Tok} {k : Nat} (h : wordT s = .tok t k) : t.kind ≠ 5 ∧ i64 t.n = true := by
 unfold wordT at h; split at h
 · split at h
   · cases h
   · injection h with h3 h4; subst h3; exact ⟨by dsimp only; split <;> decide, by simp [i64]⟩
 split at h
 · exact numT_ok h
 split at h
 · exact strT_ok h
 split at h
 · injection h with h3 h4; subst h3; exact ⟨by simp, by simp [i64]⟩
 split at h
 · injection h with h3 h4; subst h3; exact ⟨by simp, by simp [i64]⟩
 · cases h
theorem lexGo_ok : ∀ (n : Nat) (s : List UInt8) (line : Int) (ts : List Tok), lexGo n s line = .ok ts → TG ts ∧ ts.length ≤ n + 1
 | 0, s, line, ts, h => by
   simp only [lexGo] at h; injection h with h; subst h; exact ⟨rfl, by simp⟩
 | n + 1, s, line, ts, h => by
   simp only [lexGo] at h; have he : ∀ ts, LR.ok [endT line] = .ok ts → TG ts ∧ ts.length ≤ n + 1 + 1 := by
     intro ts h; injection h with h; subst h; exact ⟨rfl, by simp⟩
   have hi : ∀ s l ts, lexGo n s l = .ok ts → TG ts ∧ ts.length ≤ n + 1 + 1 := fun s l ts h => ⟨(lexGo_ok n s l ts h).1, Nat.le_succ_of_le (lexGo_ok n s l ts h).2⟩; split at h
   · exact he _ h
   split at h
   · exact hi _ _ _ h
   split at h
   · exact hi _ _ _ h
   split at h
   · split at h
     · exact hi _ _ _ h
     · exact he _ h
   split at h
   · cases h
   · rename_i t k hw
     have hk := wordT_ok hw
     cases hl : lexGo n (s.drop k) line with
     | fail c => rw [hl] at h; cases h
     | ok us =>
       rw [hl] at h; have hu := lexGo_ok n _ _ _ hl; simp only [LR.cons] at h; injection h with h; subst h
       cases us with
       | nil => exact hu.1.elim
       | cons u us => exact ⟨⟨hk.1, hk.2, hu.1⟩, by have := hu.2; simp only [List.length_cons] at *; omega⟩
theorem lexT_ok {s : List UInt8} {ts : List Tok} (h : lexT s = .ok ts) : TG ts ∧ ts.length ≤ s.length + 2 ∧ s.length ≤ 32768 := by
 unfold lexT at h; split at h
 · cases h
 · have := lexGo_ok _ _ _ _ h; exact ⟨this.1, by omega, by omega⟩
theorem parseT_good {n : Nat} {ts : List Tok} (h : TG ts) (hn : 8 * ts.length + 7 < n) : RG (fun t _ => wf t 3 = true ∧ cn t ≤ 3 * ts.length) (parseT n ts) := by
 unfold parseT; refine (run_good n .block 0 ts h trivial hn).bind fun t ts1 _ h1 hs => ?_
 cases (hd ts1).kind == 5 with
 | true => exact ⟨h1, hs.1, by have := hs.2; omega⟩
 | false => trivial
theorem parse_good {s : List UInt8} {n : Nat} (hn : 8 * s.length + 23 < n) : RG (fun t _ => wf t 3 = true ∧ cn t ≤ 3 * (s.length + 2) ∧ s.length ≤ 32768) (parseS n s) := by
 unfold parseS
 cases h : lexT s with
 | fail c => trivial
 | ok ts =>
   obtain ⟨h1, h2, h3⟩ := lexT_ok h; exact (parseT_good h1 (by omega)).imp fun t ts' _ ht => ⟨ht.1, by omega, h3⟩
def nxt (n : Nat) (l : List UInt8) : Nat := match l with
  | [] => 0
  | c :: _ => c.toNat % n
def nm6 : List (List UInt8) := [[97], [98], [99], [97], [101, 110, 100], [49, 120]]
def st5 : List (List UInt8) := [[97], [101, 110, 100], [49, 120], [], [34, 10, 255]]
def sg5 : List (List UInt8) := [[45], [110, 111, 116], [35], [126], [43]]
def sg18 : List (List UInt8) := [[111, 114], [97, 110, 100], [60], [61, 61], [126, 61], [124], [126], [38], [60, 60], [46, 46], [46, 46], [43], [45], [42], [47, 47], [37], [46, 46], [47]]
def mkName (l : List UInt8) : List UInt8 := if nxt 9 l < 8 then nm6.getD (nxt 4 l.tail) [] else nm6.getD (nxt 6 l.tail) []
def mkSign (u : Bool) (l : List UInt8) : List UInt8 := if u = true then sg5.getD (nxt 40 l % 9 % 5) [] else sg18.getD (nxt 100 l % 35 % 18) []
def mkNames : Nat → List UInt8 → List (List UInt8)
  | 0, _ => []
  | n + 1, l => mkName l :: mkNames n l.tail.tail
def dropN : Nat → List UInt8 → List UInt8
  | 0, l => l
  | n + 1, l => dropN n l.tail.tail
inductive MR where
  | ok (t : Tr) (l : List UInt8) (p : Nat)
  | oof
def MR.bind (r : MR) (f : Tr → List UInt8 → Nat → MR) : MR := match r with
  | .ok t l p => f t l p
  | .oof => .oof
inductive MC where
  | expr (d : Int) | args (k : Nat) (acc : Tr) (d : Int) | items (k : Nat) (ks gs : Tr) (d : Int) | stmts (d : Int) | stmtsL (k : Nat) (acc : Tr) (d : Int) | fill (k : Nat) (d : Int)
def stKind (k n : Nat) (l : List UInt8) : Nat := if k = 8 ∧ 1 < n ∧ nxt 9 l < 8 then 9 else k
def stLeft (k n : Nat) (l : List UInt8) : List UInt8 := if k = 8 ∧ 1 < n then l.tail else l
def setKind (t : Tr) (k : Nat) : Tr := match t with
  | .st _ nm l r t a b => .st k nm l r t a b
  | t => t
def mk : Nat → MC → List UInt8 → Nat → MR
  | 0, _, _, _ => .oof
  | n + 1, c, l, p => match c with
    | .expr d => if nxt 90 l.tail = 89 then .ok .nil l.tail.tail (p + 1)
      else if d < 1 ∨ 300 < p + 1 then .ok (lf 6 0 (mkName l.tail.tail.tail)) l.tail.tail.tail.tail.tail (p + 1)
      else match nxt 12 l with
        | 3 => .ok (lf 4 (if nxt 8 l.tail.tail.tail = 7 then -5 else nxt 8 l.tail.tail.tail) []) l.tail.tail.tail.tail (p + 1)
        | 4 => .ok (lf 5 0 (st5.getD (nxt 5 l.tail.tail.tail) [])) l.tail.tail.tail.tail (p + 1)
        | 5 => .ok (lf 6 0 (mkName l.tail.tail.tail)) l.tail.tail.tail.tail.tail (p + 1)
        | 6 => (mk n (.expr (d - 1)) l.tail.tail.tail (p + 1)).bind fun a l p => (mk n (.expr (d - 1)) l p).bind fun b l p => .ok (.ex 7 0 [] a b .nil .nil [] .nil) l p
        | 7 => (mk n (.expr (d - 1)) l.tail.tail.tail (p + 1)).bind fun a l p => (mk n (.args (nxt 3 l) .nil d) l.tail p).bind fun gs l p => .ok (.ex 8 0 [] a .nil .nil gs [] .nil) l p
        | 8 => (mk n (.stmts (d - 1)) (dropN (nxt 3 l.tail.tail.tail) l.tail.tail.tail.tail) (p + 1)).bind fun b l' p => .ok (.ex 9 0 [] .nil .nil .nil .nil (mkNames (nxt 3 l.tail.tail.tail) l.tail.tail.tail.tail) b) l' p
        | 9 => (mk n (.expr (d - 1)) l.tail.tail.tail.tail (p + 1)).bind fun b l' p => .ok (.ex 10 0 (mkSign true l.tail.tail.tail) .nil b .nil .nil [] .nil) l' p
        | 10 => (mk n (.expr (d - 1)) l.tail.tail.tail.tail (p + 1)).bind fun a l' p => (mk n (.expr (d - 1)) l' p).bind fun b l' p => .ok (.ex 11 0 (mkSign false l.tail.tail.tail) a b .nil .nil [] .nil) l' p
        | 11 => (mk n (.items (nxt 4 l.tail.tail.tail) .nil .nil d) l.tail.tail.tail.tail (p + 1)).bind fun r l p => match r with
          | .cons ks (.cons gs .nil) => .ok (.ex 12 0 [] .nil .nil (if nxt 90 l = 89 then snoc ks .nil else ks) gs [] .nil) l.tail p
          | _ => .oof
        | k => .ok (lf (1 + k) 0 []) l.tail.tail.tail (p + 1)
    | .args k acc d => match k with
      | 0 => .ok acc l p
      | k + 1 => (mk n (.expr (d - 1)) l p).bind fun a l p => mk n (.args k (snoc acc a) d) l p
    | .items k ks gs d => match k with
      | 0 => .ok (.cons ks (.cons gs .nil)) l p
      | k + 1 => (if nxt 2 l = 1 then mk n (.expr (d - 1)) l.tail p else .ok .nil l.tail p).bind fun x l p => (mk n (.expr (d - 1)) l p).bind fun a l p => mk n (.items k (snoc ks x) (snoc gs a) d) l p
    | .stmts d => (mk n (.stmtsL (nxt 4 l) .nil d) l.tail p).bind fun t l p => .ok (if nxt 120 l = 119 then snoc t .nil else t) l.tail p
    | .stmtsL k acc d => match k with
      | 0 => .ok acc l p
      | k + 1 => (mk n (.fill (if d < 1 ∨ 300 < p + 1 then 9 else stKind (1 + nxt 11 l) (k + 1) l.tail.tail) (d - 1)) (stLeft (1 + nxt 11 l) (k + 1) l.tail.tail) (p + 1)).bind fun s l p =>
        if nxt 60 l = 59 then mk n (.stmtsL k (snoc acc (setKind s (nxt 14 l.tail))) d) l.tail.tail p else mk n (.stmtsL k (snoc acc s) d) l.tail p
    | .fill k d => match k with
      | 1 => if nxt 2 l.tail.tail = 1 then (mk n (.expr d) l.tail.tail.tail p).bind fun r l' p => .ok (.st 1 (mkName l) .nil r .nil .nil .nil) l' p else .ok (.st 1 (mkName l) .nil .nil .nil .nil .nil) l.tail.tail.tail p
      | 2 => (if nxt 2 l.tail.tail = 1 then (mk n (.expr d) l.tail.tail.tail p).bind fun a l p => (mk n (.expr d) l p).bind fun b l p => .ok (.ex 7 0 [] a b .nil .nil [] .nil) l p else .ok (lf 6 0 (mkName l)) l.tail.tail.tail p).bind fun x l p =>
          (mk n (.expr d) l p).bind fun r l p => .ok (.st 2 [] x r .nil .nil .nil) l p
      | 3 => (mk n (.expr d) l p).bind fun a l p => .ok (.st 3 [] .nil (.ex 8 0 [] a .nil .nil .nil [] .nil) .nil .nil .nil) l p
      | 4 => (mk n (.stmts d) l p).bind fun a l p => .ok (.st 4 [] .nil .nil .nil a .nil) l p
      | 5 => (mk n (.expr d) l p).bind fun r l p => (mk n (.stmts d) l p).bind fun a l p => .ok (.st 5 [] .nil r .nil a .nil) l p
      | 6 => (mk n (.expr d) l p).bind fun r l p => (mk n (.stmts d) l p).bind fun a l p => (mk n (.stmts d) l p).bind fun b l p => .ok (.st 6 [] .nil r .nil a b) l p
      | 7 => (mk n (.expr d) l.tail.tail p).bind fun r l' p => (mk n (.expr d) l' p).bind fun t l' p => (mk n (.stmts d) l' p).bind fun a l' p => .ok (.st 7 (mkName l) .nil r t a .nil) l' p
      | 8 => if nxt 2 l = 1 then (mk n (.expr d) l.tail p).bind fun r l p => .ok (.st 8 [] .nil r .nil .nil .nil) l p else .ok (.st 8 [] .nil .nil .nil .nil .nil) l.tail p
      | 10 => (mk n (.stmts d) l p).bind fun a l p => (mk n (.stmts d) l.tail.tail p).bind fun b l' p => .ok (.st 10 (mkName l) .nil .nil .nil a b) l' p
      | 11 => (mk n (.stmts d) l.tail.tail p).bind fun b l' p => .ok (.st 11 (mkName l) .nil (.ex 9 0 [] .nil .nil .nil .nil [] b) .nil .nil .nil) l' p
      | k => .ok (.st k [] .nil .nil .nil .nil .nil) l p
theorem nxt_lt (n : Nat) (l : List UInt8) (h : 0 < n) : nxt n l < n := by
 cases l with
 | nil => exact h
 | cons c l => exact Nat.mod_lt _ h
theorem nxt_use (n : Nat) (l : List UInt8) : (nxt n l = 0 ∧ l.tail.length ≤ l.length) ∨ l.tail.length + 1 = l.length := by
 cases l with
 | nil => exact .inl ⟨rfl, Nat.le_refl _⟩
 | cons c l => exact .inr rfl
theorem tail_le (l : List UInt8) : l.tail.length ≤ l.length := by
 cases l with
 | nil => exact Nat.le_refl _
 | cons c l => exact Nat.le_succ _
theorem dropN_le : ∀ (n : Nat) (l : List UInt8), (dropN n l).length ≤ l.length
  | 0, l => Nat.le_refl _
  | n + 1, l => Nat.le_trans (dropN_le n _) (Nat.le_trans (tail_le _) (tail_le _))
theorem mkNames_len : ∀ (n : Nat) (l : List UInt8), (mkNames n l).length = n
  | 0, l => rfl
  | n + 1, l => by simp [mkNames, mkNames_len n]
def need : MC → Nat
  | .expr d => 12 * (d + 1).toNat + 16
  | .args k _ d => 12 * d.toNat + 17 + k
  | .items k _ _ d => 12 * d.toNat + 17 + k
  | .stmts d => 12 * (d + 1).toNat + 26
  | .stmtsL k _ d => if d < 1 then 3 + k else 12 * d.toNat + 28 + k
  | .fill k d => if k = 9 then 1 else 12 * (d + 1).toNat + 27
def preM : MC → Prop
  | .args _ acc d => wf acc 1 = true ∧ 1 ≤ d
  | .items _ ks gs d => wf ks 1 = true ∧ wf gs 1 = true ∧ 1 ≤ d
  | .stmtsL _ acc _ => wf acc 3 = true
  | .fill k d => k = 9 ∨ 0 ≤ d
  | _ => True
def postM : MC → List UInt8 → Nat → Tr → List UInt8 → Nat → Prop
  | .expr _, l, p, t, l', p' => wf t 0 = true ∧ cn t + 40 * l'.length ≤ 40 * l.length + 1 ∧ p' + 40 * l'.length ≤ p + 40 * l.length + 1
  | .args k acc _, l, p, t, l', p' => wf t 1 = true ∧ cn t + 40 * l'.length ≤ cn acc + 40 * l.length + 2 * k ∧ p' + 40 * l'.length ≤ p + 40 * l.length + k
  | .items k ks gs _, l, p, t, l', p' => (∃ a b, t = .cons a (.cons b .nil) ∧ wf a 1 = true ∧ wf b 1 = true ∧ cn a + cn b + 40 * l'.length ≤ cn ks + cn gs + 40 * l.length + 4 * k) ∧ p' + 40 * l'.length ≤ p + 40 * l.length + 2 * k
  | .stmts _, l, p, t, l', p' => wf t 3 = true ∧ cn t + 40 * l'.length ≤ 40 * l.length + 1 ∧ p' + 40 * l'.length ≤ p + 40 * l.length
  | .stmtsL k acc _, l, p, t, l', p' => wf t 3 = true ∧ cn t + 40 * l'.length ≤ cn acc + 40 * l.length + 8 * k ∧ p' + 40 * l'.length ≤ p + 40 * l.length + 8 * k
  | .fill k _, l, p, t, l', p' => (∃ nm x r tt a b, t = .st k nm x r tt a b ∧ wf t 2 = true) ∧ cn t + 40 * l'.length ≤ 40 * l.length + 6 ∧ p' + 40 * l'.length ≤ p + 40 * l.length + 4
def MG (P : Tr → List UInt8 → Nat → Prop) : MR → Prop
  | .ok t l p => P t l p
  | .oof => False
theorem MG.bind {P Q : Tr → List UInt8 → Nat → Prop} {r : MR} {f : Tr → List UInt8 → Nat → MR} (h : MG P r) (hf : ∀ t l p, P t l p → MG Q (f t l p)) : MG Q (r.bind f) := by
 cases r with
 | ok t l p => exact hf t l p h
 | oof => exact h.elim
theorem MG.imp {P Q : Tr → List UInt8 → Nat → Prop} {r : MR} (h : MG P r) (hf : ∀ t l p, P t l p → Q t l p) : MG Q r := by
 cases r with
 | ok t l p => exact hf t l p h
 | oof => exact h.elim
theorem MG.ite {P : Tr → List UInt8 → Nat → Prop} {c : Prop} {hd : Decidable c} {x y : MR} (hx : c → MG P x) (hy : ¬c → MG P y) : MG P (@ite MR c hd x y) := by
 by_cases h : c
 · rw [if_pos h]; exact hx h
 · rw [if_neg h]; exact hy h
theorem wf_lf (k n : Int) (x : List UInt8) (h : i64 n = true) : wf (lf k n x) 0 = true ∧ cn (lf k n x) = 1 := by simp [lf, wf, h, cn]
theorem stLeft_le (k n : Nat) (l : List UInt8) : (stLeft k n l).length ≤ l.length := by
 unfold stLeft; split
 · exact tail_le l
 · exact Nat.le_refl _
theorem mk_good : ∀ (n : Nat) (c : MC) (l : List UInt8) (p : Nat), need c ≤ n → preM c → MG (postM c l p) (mk n c l p)
 | 0, c, l, p, hn, hp => by
   exfalso
   cases c <;> simp only [need] at hn <;> first | omega | (split at hn <;> omega)
 | n + 1, .expr d, l, p, hn, hp => by
   simp only [need] at hn; simp only [mk]; have t1 := tail_le l; have t2 := tail_le l.tail; have t3 := tail_le l.tail.tail; have t4 := tail_le l.tail.tail.tail; have t5 := tail_le l.tail.tail.tail.tail; have u := nxt_use 12 l; refine MG.ite (fun _ => ?_) fun _ => ?_
   · exact ⟨rfl, by simp only [cn]; omega, by omega⟩
   refine MG.ite (fun _ => ?_) fun hd => ?_
   · have := wf_lf 6 0 (mkName l.tail.tail.tail) (by decide); exact ⟨this.1, by rw [this.2]; omega, by omega⟩
   have hd1 : 1 ≤ d := by omega
   have hz : (d - 1 + 1).toNat + 1 = (d + 1).toNat := by omega
   have hz2 : d.toNat + 1 = (d + 1).toNat := by omega
   have ex : ∀ l p, MG (postM (.expr (d - 1)) l p) (mk n (.expr (d - 1)) l p) := fun l p => mk_good n (.expr (d - 1)) l p (by simp only [need]; omega) trivial; split
   · have h8 := nxt_lt 8 l.tail.tail.tail (by decide); have := wf_lf 4 (if nxt 8 l.tail.tail.tail = 7 then -5 else nxt 8 l.tail.tail.tail) [] (by split <;> simp [i64] <;> omega); exact ⟨this.1, by rw [this.2]; omega, by omega⟩
   · have := wf_lf 5 0 (st5.getD (nxt 5 l.tail.tail.tail) []) (by decide); exact ⟨this.1, by rw [this.2]; omega, by omega⟩
   · have := wf_lf 6 0 (mkName l.tail.tail.tail) (by decide); exact ⟨this.1, by rw [this.2]; omega, by omega⟩
   · rename_i hk
     refine (ex _ _).bind fun a l1 p1 ⟨ha, hca, hpa⟩ => (ex _ _).bind fun b l2 p2 ⟨hb, hcb, hpb⟩ => ⟨by simp [wf, ha, hb]; decide, ?_, by omega⟩; simp only [cn, List.length_nil]; omega
   · rename_i hk
     refine (ex _ _).bind fun a l1 p1 ⟨ha, hca, hpa⟩ => ?_; have h3 := nxt_lt 3 l1 (by decide); have t6 := tail_le l1; refine (mk_good n (.args (nxt 3 l1) .nil d) l1.tail p1 (by simp only [need]; omega) ⟨rfl, hd1⟩).bind fun b l2 p2 ⟨hb, hcb, hpb⟩ => ⟨by simp [wf, ha, hb]; decide, ?_, by omega⟩; simp only [cn, List.length_nil] at *; omega
   · rename_i hk
     have h3 := nxt_lt 3 l.tail.tail.tail (by decide); have h4 := dropN_le (nxt 3 l.tail.tail.tail) l.tail.tail.tail.tail; refine (mk_good n (.stmts (d - 1)) _ _ (by simp only [need]; omega) trivial).bind fun b l2 p2 ⟨hb, hcb, hpb⟩ => ⟨by simp [wf, hb]; decide, ?_, by omega⟩; simp only [cn, mkNames_len] at *; omega
   · rename_i hk
     refine (ex _ _).bind fun a l1 p1 ⟨ha, hca, hpa⟩ => ⟨by simp [wf, ha]; decide, ?_, by omega⟩; simp only [cn, List.length_nil]; omega
   · rename_i hk
     refine (ex _ _).bind fun a l1 p1 ⟨ha, hca, hpa⟩ => (ex _ _).bind fun b l2 p2 ⟨hb, hcb, hpb⟩ => ⟨by simp [wf, ha, hb]; decide, ?_, by omega⟩; simp only [cn, List.length_nil]; omega
   · rename_i hk
     have h4 := nxt_lt 4 l.tail.tail.tail (by decide); refine (mk_good n (.items (nxt 4 l.tail.tail.tail) .nil .nil d) _ _ (by simp only [need]; omega) ⟨rfl, rfl, hd1⟩).bind fun b l2 p2 hq => ?_; obtain ⟨⟨x, y, rfl, e1, e2, hc⟩, hpc⟩ := hq; have t6 := tail_le l2; have hsn := wf_snoc1 x .nil e1 rfl; refine ⟨?_, ?_, by omega⟩
     · split <;> simp [wf, e1, e2, hsn] <;> decide
     · simp only [cn, List.length_nil] at *; split <;> omega
   · rename_i k _ _ _ _ _ _ _ _ _
     have := wf_lf (1 + (nxt 12 l : Nat)) 0 [] (by decide); exact ⟨this.1, by rw [this.2]; omega, by omega⟩
 | n + 1, .args k acc d, l, p, hn, hp => by
   simp only [need] at hn; simp only [mk]; have hd1 := hp.2
   cases k with
   | zero => exact ⟨hp.1, by omega, by omega⟩
   | succ k =>
     refine (mk_good n (.expr (d - 1)) l p (by simp only [need]; omega) trivial).bind fun a l1 p1 ⟨ha, hca, hpa⟩ => ?_; have hq := wf_snoc1 acc a hp.1 ha; refine (mk_good n (.args k (snoc acc a) d) l1 p1 (by simp only [need]; omega) ⟨hq.1, hd1⟩).imp fun t l2 p2 ⟨hb, hcb, hpb⟩ => ⟨hb, ?_, by omega⟩; rw [hq.2] at hcb; omega
 | n + 1, .items k ks gs d, l, p, hn, hp => by
   simp only [need] at hn; simp only [mk]; obtain ⟨hk, hg, hd1⟩ := hp
   cases k with
   | zero => exact ⟨⟨_, _, rfl, hk, hg, by omega⟩, by omega⟩
   | succ k =>
     have t1 := tail_le l; have ex : ∀ l p, MG (postM (.expr (d - 1)) l p) (mk n (.expr (d - 1)) l p) := fun l p => mk_good n (.expr (d - 1)) l p (by simp only [need]; omega) trivial; have hkey : MG (postM (.expr (d - 1)) l p) (if nxt 2 l = 1 then mk n (.expr (d - 1)) l.tail p else .ok .nil l.tail p) :=
       MG.ite (fun _ => (ex _ _).imp fun t l1 p1 ⟨h1, h2, h3⟩ => ⟨h1, by omega, by omega⟩) fun _ => ⟨rfl, by simp only [cn]; omega, by omega⟩
     refine hkey.bind fun x l1 p1 ⟨hx, hcx, hpx⟩ => (ex _ _).bind fun a l2 p2 ⟨ha, hca, hpa⟩ => ?_; have hq := wf_snoc1 ks x hk hx; have hq2 := wf_snoc1 gs a hg ha; refine (mk_good n (.items k (snoc ks x) (snoc gs a) d) l2 p2 (by simp only [need]; omega) ⟨hq.1, hq2.1, hd1⟩).imp fun t l3 p3 hq3 => ?_; obtain ⟨⟨x', y', rfl, e1, e2, hc⟩, hpc⟩ := hq3; rw [hq.2, hq2.2] at hc; exact ⟨⟨_, _, rfl, e1, e2, by omega⟩, by omega⟩
 | n + 1, .stmts d, l, p, hn, hp => by
   simp only [need] at hn; simp only [mk]; have t1 := tail_le l; have u := nxt_use 4 l; have h4 := nxt_lt 4 l (by decide); refine (mk_good n (.stmtsL (nxt 4 l) .nil d) l.tail p (by simp only [need]; split <;> omega) rfl).bind fun t l1 p1 ⟨ha, hca, hpa⟩ => ?_; have t2 := tail_le l1; have hsn := wf_snoc3 t .nil ha rfl; simp only [cn] at hca; refine ⟨?_, ?_, by omega⟩
   · split
     · exact hsn.1
     · exact ha
   · split
     · rw [hsn.2]; simp only [cn]; omega
     · omega
 | n + 1, .stmtsL k acc d, l, p, hn, hp => by
   simp only [need] at hn; simp only [mk]
   cases k with
   | zero => exact ⟨hp, by omega, by omega⟩
   | succ k =>
     have t1 := tail_le l; have t2 := tail_le l.tail; have t3 := stLeft_le (1 + nxt 11 l) (k + 1) l.tail.tail; have hfn : need (.fill (if d < 1 ∨ 300 < p + 1 then 9 else stKind (1 + nxt 11 l) (k + 1) l.tail.tail) (d - 1)) ≤ n := by
       simp only [need]; by_cases h : d < 1
       · have hK : (if d < 1 ∨ 300 < p + 1 then 9 else stKind (1 + nxt 11 l) (k + 1) l.tail.tail) = 9 := if_pos (Or.inl h); rw [if_pos hK]; rw [if_pos h] at hn; omega
       · rw [if_neg h] at hn; by_cases hK : (if d < 1 ∨ 300 < p + 1 then 9 else stKind (1 + nxt 11 l) (k + 1) l.tail.tail) = 9
         · rw [if_pos hK]; omega
         · rw [if_neg hK]; have : d - 1 + 1 = d := by omega
           rw [this]; omega
     have hfp : preM (.fill (if d < 1 ∨ 300 < p + 1 then 9 else stKind (1 + nxt 11 l) (k + 1) l.tail.tail) (d - 1)) := by
       simp only [preM]; by_cases h : d < 1
       · rw [if_pos (.inl h)]; exact .inl rfl
       · exact .inr (by omega)
     refine (mk_good n _ _ _ hfn hfp).bind fun s l1 p1 hq => ?_; obtain ⟨⟨nm, x, r, tt, a, b, rfl, hw⟩, hc, hpc⟩ := hq; have t4 := tail_le l1; have t5 := tail_le l1.tail; have hln : ∀ acc, need (.stmtsL k acc d) ≤ n := fun acc => by
       simp only [need]; split at hn
       · rw [if_pos (by assumption)]; omega
       · rw [if_neg (by assumption)]; omega
     refine MG.ite (fun _ => ?_) fun _ => ?_
     · have hw2 : wf (setKind (.st (if d < 1 ∨ 300 < p + 1 then 9 else stKind (1 + nxt 11 l) (k + 1) l.tail.tail : Nat) nm x r tt a b) (nxt 14 l1.tail)) 2 = true := by simpa [setKind, wf] using hw
       have hc2 : cn (setKind (.st (if d < 1 ∨ 300 < p + 1 then 9 else stKind (1 + nxt 11 l) (k + 1) l.tail.tail : Nat) nm x r tt a b) (nxt 14 l1.tail)) = cn (.st (if d < 1 ∨ 300 < p + 1 then 9 else stKind (1 + nxt 11 l) (k + 1) l.tail.tail : Nat) nm x r tt a b) := rfl; have hsn := wf_snoc3 acc _ hp hw2; refine (mk_good n (.stmtsL k _ d) _ _ (hln _) hsn.1).imp fun t l3 p3 ⟨h1, h2, h3⟩ => ⟨h1, ?_, by omega⟩; rw [hsn.2, hc2] at h2; omega
     · have hsn := wf_snoc3 acc _ hp hw; refine (mk_good n (.stmtsL k _ d) _ _ (hln _) hsn.1).imp fun t l3 p3 ⟨h1, h2, h3⟩ => ⟨h1, ?_, by omega⟩; rw [hsn.2] at h2; omega
 | n + 1, .fill k d, l, p, hn, hp => by
   simp only [mk]; have t1 := tail_le l; have t2 := tail_le l.tail; have t3 := tail_le l.tail.tail; by_cases h9 : k = 9
   · subst h9; exact ⟨⟨_, _, _, _, _, _, rfl, rfl⟩, by simp only [cn]; omega, by omega⟩
   have hd : 0 ≤ d := by rcases hp with h | h; exact absurd h h9; exact h
   simp only [need, if_neg h9] at hn; have ex : ∀ l p, MG (postM (.expr d) l p) (mk n (.expr d) l p) := fun l p => mk_good n (.expr d) l p (by simp only [need]; omega) trivial; have ss : ∀ l p, MG (postM (.stmts d) l p) (mk n (.stmts d) l p) := fun l p => mk_good n (.stmts d) l p (by simp only [need]; omega) trivial; split
   · refine MG.ite (fun _ => (ex _ _).bind fun a l1 p1 ⟨h1, h2, h3⟩ => ⟨⟨_, _, _, _, _, _, rfl, by simp [wf, h1]⟩, by simp only [cn]; omega, by omega⟩) fun _ => ⟨⟨_, _, _, _, _, _, rfl, rfl⟩, by simp only [cn]; omega, by omega⟩
   · have hx : MG (fun t l' p' => wf t 0 = true ∧ cn t + 40 * l'.length ≤ 40 * l.length + 3 ∧ p' + 40 * l'.length ≤ p + 40 * l.length + 2) (if nxt 2 l.tail.tail = 1 then (mk n (.expr d) l.tail.tail.tail p).bind fun a l p => (mk n (.expr d) l p).bind fun b l p => .ok (.ex 7 0 [] a b .nil .nil [] .nil) l p else .ok (lf 6 0 (mkName l)) l.tail.tail.tail p) := by
       refine MG.ite (fun _ => (ex _ _).bind fun a l1 p1 ⟨h1, h2, h3⟩ => (ex _ _).bind fun b l2 p2 ⟨h4, h5, h6⟩ => ⟨by simp [wf, h1, h4]; decide, by simp only [cn, List.length_nil]; omega, by omega⟩) fun _ => ?_; have := wf_lf 6 0 (mkName l) (by decide); exact ⟨this.1, by rw [this.2]; omega, by omega⟩
     exact hx.bind fun x l1 p1 ⟨h1, h2, h3⟩ => (ex _ _).bind fun b l2 p2 ⟨h4, h5, h6⟩ => ⟨⟨_, _, _, _, _, _, rfl, by simp [wf, h1, h4]⟩, by simp only [cn]; omega, by omega⟩
   · exact (ex _ _).bind fun a l1 p1 ⟨h1, h2, h3⟩ => ⟨⟨_, _, _, _, _, _, rfl, by simp [wf, h1]; decide⟩, by simp only [cn, List.length_nil]; omega, by omega⟩
   · exact (ss _ _).bind fun a l1 p1 ⟨h1, h2, h3⟩ => ⟨⟨_, _, _, _, _, _, rfl, by simp [wf, h1]⟩, by simp only [cn]; omega, by omega⟩
   · exact (ex _ _).bind fun a l1 p1 ⟨h1, h2, h3⟩ => (ss _ _).bind fun b l2 p2 ⟨h4, h5, h6⟩ => ⟨⟨_, _, _, _, _, _, rfl, by simp [wf, h1, h4]⟩, by simp only [cn]; omega, by omega⟩
   · exact (ex _ _).bind fun a l1 p1 ⟨h1, h2, h3⟩ => (ss _ _).bind fun b l2 p2 ⟨h4, h5, h6⟩ => (ss _ _).bind fun c l3 p3 ⟨h7, h8, h9⟩ => ⟨⟨_, _, _, _, _, _, rfl, by simp [wf, h1, h4, h7]⟩, by simp only [cn]; omega, by omega⟩
   · exact (ex _ _).bind fun a l1 p1 ⟨h1, h2, h3⟩ => (ex _ _).bind fun b l2 p2 ⟨h4, h5, h6⟩ => (ss _ _).bind fun c l3 p3 ⟨h7, h8, h9⟩ => ⟨⟨_, _, _, _, _, _, rfl, by simp [wf, h1, h4, h7]⟩, by simp only [cn]; omega, by omega⟩
   · refine MG.ite (fun _ => (ex _ _).bind fun a l1 p1 ⟨h1, h2, h3⟩ => ⟨⟨_, _, _, _, _, _, rfl, by simp [wf, h1]⟩, by simp only [cn]; omega, by omega⟩) fun _ => ⟨⟨_, _, _, _, _, _, rfl, rfl⟩, by simp only [cn]; omega, by omega⟩
   · refine (ss _ _).bind fun a l1 p1 ⟨h1, h2, h3⟩ => ?_; have t4 := tail_le l1; have t5 := tail_le l1.tail; exact (ss _ _).bind fun b l2 p2 ⟨h4, h5, h6⟩ => ⟨⟨_, _, _, _, _, _, rfl, by simp [wf, h1, h4]⟩, by simp only [cn]; omega, by omega⟩
   · exact (ss _ _).bind fun a l1 p1 ⟨h1, h2, h3⟩ => ⟨⟨_, _, _, _, _, _, rfl, by simp [wf, h1]; decide⟩, by simp only [cn, List.length_nil]; omega, by omega⟩
   · exact ⟨⟨_, _, _, _, _, _, rfl, rfl⟩, by simp only [cn]; omega, by omega⟩
end Go.Proofs.YtoddjlclpnoomaaGreatDoor
namespace Go.Proofs.YtoddjlclpnoomaaGreatDoor
open Go.Sh
def TX (w : World) (b : Nat) (buf : List UInt8) (parts : Nat) : Prop :=
  ∃ lo, BX lo w b [.int .i64 parts] buf ∧ GL w ∧ 12 ≤ b ∧ buf.length ≤ 32768 ∧ parts ≤ 65536
theorem TX.ab {w : World} {b : Nat} {buf : List UInt8} {parts : Nat} (h : TX w b buf parts) : ∃ ad v rest, At w b (ad :: v :: rest) := by
 obtain ⟨lo, ⟨ad, v, ab, _⟩, _⟩ := h; exact ⟨ad, v, _, ab⟩
theorem TX.gl {w : World} {b : Nat} {buf : List UInt8} {parts : Nat} (h : TX w b buf parts) : GL w := by
 obtain ⟨lo, _, g, _⟩ := h; exact g
theorem TX.len {w : World} {b : Nat} {buf : List UInt8} {parts : Nat} (h : TX w b buf parts) : buf.length ≤ 32768 := by
 obtain ⟨lo, _, g, _, h1, h2⟩ := h; exact h1
theorem TX.cnt {w : World} {b : Nat} {buf : List UInt8} {parts : Nat} (h : TX w b buf parts) : parts ≤ 65536 := by
 obtain ⟨lo, _, g, _, h1, h2⟩ := h; exact h2
theorem BX.keep {lo : Nat} {w w' : World} {b : Nat} {rest : List Value} {buf : List UInt8} (h : BX lo w b rest buf) (hk : Keep [] w w') : BX lo w' b rest buf := by
 obtain ⟨ad, v, ab, had, hv, hne, hb, hlo⟩ := h; have z := hk.size; refine ⟨ad, v, hk.at ab (by simp), ?_, hv.fr hk (by simp), hne, hb, by omega⟩; rcases had with ⟨h1, e, n, h2, h3⟩ | h
 · refine .inl ⟨h1, e, n, ?_, h3⟩; rw [← h2]; unfold World.shape?; rw [hk.same b (by omega) (by simp)]
 · exact .inr h
theorem TX.keep {w w' : World} {b : Nat} {buf : List UInt8} {parts : Nat} (h : TX w b buf parts) (hk : Keep [] w w') : TX w' b buf parts := by
 obtain ⟨lo, h1, g, h2⟩ := h; exact ⟨lo, h1.keep hk, g.new hk, h2⟩
def wrg (e : Int) : List PanicEntry := [{ v := .iface 49 (.agg #[.int .i64 e]), recovered := false }]
theorem c20 (w : World) (b : Bool) (e : Int) : Calls Tryz.prog 20 #[.bool b, .int .i64 e] w (Ret (fun _ w' => b = true ∧ w' = w) (fun c w' => b = false ∧ c = wrg e ∧ w' = w)) := by
 refine s20 ?_; unfold S20; refine V1.i (by simp [go_sem] <;> trivial) ?_
 cases b with
 | true => exact If.f ⟨rfl, rfl⟩
 | false =>
   refine If.t ?_; refine V1.i (by simp [go_sem] <;> trivial) ?_; refine V1.i (by simp [go_sem] <;> trivial) ?_; refine V1.p (by simp [go_sem]; first | done | exact ⟨rfl, rfl⟩) ?_; exact ⟨rfl, rfl, rfl⟩
def POk (w : World) (b : Nat) (r : PR) (w' : World) : Prop := match r with
  | .ok buf parts => TX w' b buf parts ∧ KO b w w'
  | _ => False
def PEr (w : World) (b : Nat) (r : PR) (c : List PanicEntry) (w' : World) : Prop := match r with
  | .fail e => c = wrg e ∧ KO b w w' ∧ (∃ ad v rest, At w' b (ad :: v :: rest)) ∧ GL w'
  | _ => False
theorem KO.gl {b : Nat} {w w' : World} {buf : List UInt8} {parts : Nat} (h : KO b w w') (ht : TX w b buf parts) : GL w' := by
 obtain ⟨lo, ⟨ad, v, ab, had, hv, hne, hbl, hlo⟩, g, h12, _⟩ := ht; refine g.keep (h.2 ad v _ ab).1 fun i hi => ?_; simp only [List.mem_cons, Option.mem_toList, Option.mem_def] at hi; rcases hi with hi | hi
 · omega
 · have := (hv.lt hi).1; omega
theorem POk.out {w : World} {b : Nat} {r : PR} {w' : World} (h : POk w b r w') : ∃ buf parts, r = .ok buf parts ∧ TX w' b buf parts ∧ KO b w w' := by
 cases r with
 | ok b p => exact ⟨b, p, rfl, h⟩
 | fail c => exact h.elim
 | oof => exact h.elim
theorem PEr.up {w0 w : World} {b : Nat} {r1 r : PR} {f : List UInt8 → Nat → PR} {c : List PanicEntry} {w' : World} {buf : List UInt8} {parts : Nat} (h : PEr w b r1 c w') (hr : r1.bind f = r) (hk : KO b w0 w) (ht : TX w b buf parts) : PEr w0 b r c w' := by
 cases r1 with
 | fail e => subst hr; exact ⟨h.1, hk.trans h.2.1 ht.ab, h.2.2⟩
 | ok _ _ => exact h.elim
 | oof => exact h.elim
theorem POk.pre {w0 w : World} {b : Nat} {r : PR} {w' : World} {buf : List UInt8} {parts : Nat} (h : POk w b r w') (hk : KO b w0 w) (ht : TX w b buf parts) : POk w0 b r w' := by
 cases r with
 | ok b p => exact ⟨h.1, hk.trans h.2 ht.ab⟩
 | fail c => exact h.elim
 | oof => exact h.elim
theorem PEr.pre {w0 w : World} {b : Nat} {r : PR} {c : List PanicEntry} {w' : World} {buf : List UInt8} {parts : Nat} (h : PEr w b r c w') (hk : KO b w0 w) (ht : TX w b buf parts) : PEr w0 b r c w' := by
 cases r with
 | fail e => exact ⟨h.1, hk.trans h.2.1 ht.ab, h.2.2⟩
 | ok _ _ => exact h.elim
 | oof => exact h.elim
theorem PR.bind_ne {r1 r : PR} {f : List UInt8 → Nat → PR} (hr : r1.bind f = r) (hne : r ≠ .oof) : r1 ≠ .oof := by
 rintro rfl; exact hne hr.symm
theorem PR.bind_ok {b : List UInt8} {p : Nat} {f : List UInt8 → Nat → PR} : (PR.ok b p).bind f = f b p := rfl
theorem c36 {w : World} {b bs : Nat} {buf : List UInt8} {parts : Nat} {ss : List (List UInt8)} {r : PR} (h : TX w b buf parts) (hs : At w bs (ss.map str)) (hf : FO b w bs) (hn : ss.length ≤ 100) (hr : putL ss buf parts = r) (hne : r ≠ .oof) :
   Calls Tryz.prog 36 #[ptr b, strs bs ss.length] w (Ret (fun _ => POk w b r) (PEr w b r)) := by
 refine s36 ?_; unfold S36 strs; refine V1.i (by simp [go_sem] <;> trivial) ?_; refine L1.i (fun v w' => ∃ i buf parts, i ≤ ss.length ∧ v = .int .i64 (i : Nat) ∧ TX w' b buf parts ∧ At w' bs (ss.map str) ∧ FO b w' bs ∧ KO b w w' ∧ putL (ss.drop i) buf parts = r) (fun v w' => match v with | .int _ n => (ss.length - n.toNat) | _ => 0) ⟨0, buf, parts, by omega, rfl, h, hs, hf, KO.refl _ _, by simpa using hr⟩ ?_; clear h hs hf hr; rintro v w1 ⟨i, buf, parts, hi, rfl, h, hs, hf, kk, hr⟩; by_cases hlt : i < ss.length
 · rw [List.drop_eq_getElem_cons hlt] at hr; refine V1.i (v := .bool true) (w' := w1) (by simp [go_sem]; omega) ?_; refine If.t ?_; refine V1.i (ix45 _ hlt) ?_; refine V1.load (oneAll rfl) hs (v := str ss[i]) (by simp [hlt]) ?_; generalize ss[i] = s at *; refine V1.i (by simp [go_sem] <;> trivial) ?_; unfold ptr; refine Up.i (Nc.p _ _) ?_; refine V1.i (by simp [go_sem] <;> trivial) ?_; have h' := h; obtain ⟨lo, hb, g, h12, hlen, hpar⟩ := h'; refine cf69 (c69 hb) ?_ (NP.no (e := _)); rintro _ w2 ⟨rfl, rfl⟩; refine V1.i (subI _ _ _ _ _ _ (by omega) (by omega)) ?_; refine V1.i (v := .bool (decide (s.length + buf.length ≤ 32768))) (w' := w2) (by simp [go_sem]; omega) ?_; simp only [putL, putT] at hr; refine cf20 (c20 w2 _ 3) ?_ ?_; rotate_left
   · rintro c w3 ⟨hb0, rfl, rfl⟩; have : ¬ s.length + buf.length ≤ 32768 := by simpa using hb0
     rw [if_neg this] at hr; subst hr; exact ⟨rfl, kk, h.ab, g⟩
   rintro _ w3 ⟨hb0, rfl⟩; have hle : s.length + buf.length ≤ 32768 := by simpa using hb0
   rw [if_pos hle, PR.bind_ok] at hr; refine Up.i (Nc.p _ _) ?_; refine V1.i (by simp [go_sem] <;> trivial) ?_; refine cf70 (c70 hb s (by omega)) ?_ (NP.no (e := _)); rintro _ w4 ⟨hb4, K4⟩; refine V1.i (addI _ _ _ _ _ _ (by omega) (by omega)) ?_; obtain ⟨M, hM, hMF⟩ := K4.same h.ab (M := []); obtain ⟨hm1, hm2⟩ := hMF bs hf hs.lt; exact ⟨⟨i + 1, buf ++ s, parts, by omega, by simp, ⟨lo, hb4, K4.gl h, h12, by simp; omega, hpar⟩, hM.at hs hm1, hm2, kk.trans K4 h.ab, hr⟩, by simp; omega⟩
 · have : i = ss.length := by omega
   subst this; rw [List.drop_length] at hr; refine V1.i (v := .bool false) (w' := w1) (by simp [go_sem]) ?_; refine If.f ?_; subst hr; exact ⟨h, kk⟩
end Go.Proofs.YtoddjlclpnoomaaGreatDoor

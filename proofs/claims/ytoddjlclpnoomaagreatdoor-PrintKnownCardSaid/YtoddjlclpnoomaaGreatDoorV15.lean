import Derived.Deep.WholeRow
import Derived.Laws.RangeAny
import Derived.Lib.OthersKept
import Derived.Lib.TrimAscii
import Derived.Lib.TrimUEq
import Derived.Test.YtoddjlclpnoomaaGreatDoorV8
import Derived.Test.YtoddjlclpnoomaaGreatDoorV10
import Derived.Test.YtoddjlclpnoomaaGreatDoorV14
set_option linter.unusedVariables false
set_option linter.unusedSimpArgs false
set_option maxRecDepth 100000
namespace Go.Proofs.YtoddjlclpnoomaaGreatDoor
def TG : List Tok → Prop
  | [] => False
  | [t] => t.kind = 5
  | t :: u :: ts => t.kind ≠ 5 ∧ i64 t.n = true ∧ TG (u :: ts)
def cn : Tr → Nat
  | .cons a b => 1 + cn a + cn b
  | .ex _ _ _ l r ks ags ps b => 1 + ps.length + cn l + cn r + cn ks + cn ags + cn b
  | .st _ _ l r t a b => 1 + cn l + cn r + cn t + cn a + cn b
  | _ => 0
def wf : Tr → Nat → Bool
  | .nil, _ => true
  | .ex _ n _ l r ks ags _ b, 0 => i64 n && wf l 0 && wf r 0 && wf ks 1 && wf ags 1 && wf b 3
  | .cons a t, 1 => wf a 0 && wf t 1
  | .st _ _ l r t a b, 2 => wf l 0 && wf r 0 && wf t 0 && wf a 3 && wf b 3
  | .cons a t, 3 => wf a 2 && wf t 3
  | _, _ => false
theorem wf_snoc1 : ∀ (t x : Tr), wf t 1 = true → wf x 0 = true → wf (snoc t x) 1 = true ∧ cn (snoc t x) = 1 + cn t + cn x
 | .nil, x, _, hx => by simp [snoc, wf, hx, cn]
 | .cons a t, x, h, hx => by
   simp only [wf, Bool.and_eq_true] at h; have := wf_snoc1 t x h.2 hx; simp [snoc, wf, h, this, cn]; omega
 | .hole, x, h, hx => by simp [wf] at h
 | .ex .., x, h, hx => by simp [wf] at h
 | .st .., x, h, hx => by simp [wf] at h
theorem wf_snoc3 : ∀ (t x : Tr), wf t 3 = true → wf x 2 = true → wf (snoc t x) 3 = true ∧ cn (snoc t x) = 1 + cn t + cn x
 | .nil, x, _, hx => by simp [snoc, wf, hx, cn]
 | .cons a t, x, h, hx => by
   simp only [wf, Bool.and_eq_true] at h; have := wf_snoc3 t x h.2 hx; simp [snoc, wf, h, this, cn]; omega
 | .hole, x, h, hx => by simp [wf] at h
 | .ex .., x, h, hx => by simp [wf] at h
 | .st .., x, h, hx => by simp [wf] at h
def isE : Tr → Bool
  | .ex .. => true
  | _ => false
def isS : Tr → Bool
  | .st .. => true
  | _ => false
def rank : Cl → Nat
  | .func _ | .bracket _ | .inner _ | .bin .. | .params _ => 0
  | .locl | .signed | .exprL .. | .postL .. => 1
  | .primary => 2
  | .post => 3
  | .simple | .operand => 4
  | .expr _ => 5
  | .stmt => 5
  | .branch | .args _ | .item | .blockL _ => 6
  | .items .. | .block => 7
def RG (P : Tr → List Tok → Prop) : Res → Prop
  | .ok t ts _ => TG ts ∧ P t ts
  | .fail _ => True
  | .oof => False
theorem RG.bind {P Q : Tr → List Tok → Prop} {r : Res} {f : Tr → List Tok → Bool → Res} (h : RG P r) (hf : ∀ t ts o, TG ts → P t ts → RG Q (f t ts o)) : RG Q (r.bind f) := by
 cases r with
 | ok t ts o => exact hf t ts o h.1 h.2
 | fail c => trivial
 | oof => exact h.elim
theorem RG.imp {P Q : Tr → List Tok → Prop} {r : Res} (h : RG P r) (hf : ∀ t ts, TG ts → P t ts → Q t ts) : RG Q r := by
 cases r with
 | ok t ts o => exact ⟨h.1, hf t ts h.1 h.2⟩
 | fail c => trivial
 | oof => exact h.elim
theorem TG.adv {ts : List Tok} (h : TG ts) (hk : (hd ts).kind ≠ 5) : TG (adv ts) ∧ (adv ts).length + 1 = ts.length := by
 match ts, h with
 | [t], h => exact absurd h hk
 | t :: u :: ts, h => exact ⟨h.2.2, rfl⟩
theorem TG.n64 {ts : List Tok} (h : TG ts) (hk : (hd ts).kind ≠ 5) : i64 (hd ts).n = true := by
 match ts, h with
 | [t], h => exact absurd h hk
 | t :: u :: ts, h => exact h.2.1
theorem isB_kind {t : Tok} {ss : List (List UInt8)} (h : isB t ss = true) : t.kind = 4 := by
 unfold isB at h; simp only [Bool.and_eq_true, beq_iff_eq] at h; exact h.1
theorem TG.is {ts : List Tok} {ss : List (List UInt8)} (h : TG ts) (hk : isB (hd ts) ss = true) : TG (Go.Proofs.YtoddjlclpnoomaaGreatDoor.adv ts) ∧ (Go.Proofs.YtoddjlclpnoomaaGreatDoor.adv ts).length + 1 = ts.length :=
  h.adv (by rw [isB_kind hk]; decide)
theorem RG.must {Q : Tr → List Tok → Prop} {s : List UInt8} {ts : List Tok} {f : List Tok → Res} (h : TG ts) (hf : ∀ ts', TG ts' → ts'.length + 1 = ts.length → RG Q (f ts')) : RG Q (mustT s ts f) := by
 unfold mustT
 cases h1 : is1 s ts with
 | true => exact hf _ (h.is h1).1 (h.is h1).2
 | false => trivial
theorem RG.name {Q : Tr → List Tok → Prop} {ts : List Tok} {f : List UInt8 → List Tok → Res} (h : TG ts) (hf : ∀ nm ts', TG ts' → ts'.length + 1 = ts.length → RG Q (f nm ts')) : RG Q (nameT ts f) := by
 unfold nameT
 cases h1 : (hd ts).kind == 1 with
 | true =>
   have h2 : (hd ts).kind ≠ 5 := by rw [beq_iff_eq.mp h1]; decide
   exact hf _ _ (h.adv h2).1 (h.adv h2).2
 | false => trivial
theorem RG.open {Q : Tr → List Tok → Prop} {d : Int} {f : Int → Res} (hf : ∀ d, RG Q (f d)) : RG Q (openT d f) := by
 unfold openT
 cases decide (64 < d + 1) with
 | true => trivial
 | false => exact hf _
def Pre : Cl → List Tok → Prop
  | .blockL acc, _ => wf acc 3 = true
  | .exprL l _, _ => wf l 0 = true ∧ isE l = true
  | .bin l _, ts => wf l 0 = true ∧ isE l = true ∧ (hd ts).kind ≠ 5
  | .postL e _, _ => wf e 0 = true ∧ isE e = true
  | .bracket l, _ => wf l 0 = true
  | .args acc, _ => wf acc 1 = true
  | .items ks ags, _ => wf ks 1 = true ∧ wf ags 1 = true
  | _, _ => True
def Post : Cl → Nat → Tr → List Tok → Prop
  | .block, L, t, ts => wf t 3 = true ∧ cn t + 3 * ts.length ≤ 3 * L
  | .blockL acc, L, t, ts => wf t 3 = true ∧ cn t + 3 * ts.length ≤ cn acc + 3 * L
  | .inner _, L, t, ts => wf t 3 = true ∧ cn t + 3 * ts.length + 3 ≤ 3 * L
  | .stmt, L, t, ts | .simple, L, t, ts | .locl, L, t, ts | .branch, L, t, ts => wf t 2 = true ∧ isS t = true ∧ 1 ≤ cn t ∧ cn t + 1 + 3 * ts.length ≤ 3 * L
  | .func true, L, t, ts => (∃ f k n x l r ks ags ps b, t = .cons f (.cons (.ex k n x l r ks ags ps b) .nil) ∧ isE f = true ∧ wf f 0 = true ∧ wf (.ex k n x l r ks ags ps b) 0 = true) ∧ cn t + 3 * ts.length + 2 ≤ 3 * L
  | .func false, L, t, ts => wf t 0 = true ∧ isE t = true ∧ cn t + 3 * ts.length + 2 ≤ 3 * L
  | .params acc, L, t, ts => (∃ ps, t = .ex 0 0 [] .nil .nil .nil .nil ps .nil ∧ ps.length + 3 * ts.length + 2 ≤ acc.length + 3 * L) ∧ ts.length + 1 ≤ L
  | .expr _, L, t, ts | .operand, L, t, ts | .post, L, t, ts | .primary, L, t, ts | .signed, L, t, ts => wf t 0 = true ∧ isE t = true ∧ cn t + 2 + 3 * ts.length ≤ 3 * L
  | .exprL l _, L, t, ts => wf t 0 = true ∧ isE t = true ∧ cn t + 3 * ts.length ≤ cn l + 3 * L
  | .bin l _, L, t, ts => wf t 0 = true ∧ isE t = true ∧ cn t + 3 * ts.length ≤ cn l + 3 * L ∧ ts.length + 1 ≤ L
  | .postL e _, L, t, ts => wf t 0 = true ∧ isE t = true ∧ cn t + 3 * ts.length ≤ cn e + 3 * L
  | .bracket l, L, t, ts => (∃ r, t = .ex 7 0 [] l r .nil .nil [] .nil ∧ wf r 0 = true ∧ isE r = true ∧ cn r + 8 + 3 * ts.length ≤ 3 * L)
  | .args acc, L, t, ts => wf t 1 = true ∧ cn t + 3 * ts.length ≤ cn acc + 3 * L
  | .items ks ags, L, t, ts => (∃ a b, t = .cons a (.cons b .nil) ∧ wf a 1 = true ∧ wf b 1 = true ∧ cn a + cn b + 3 * ts.length ≤ cn ks + cn ags + 3 * L)
  | .item, L, t, ts => (∃ a b, t = .cons a (.cons b .nil) ∧ wf a 0 = true ∧ wf b 0 = true ∧ cn a + cn b + 3 * ts.length + 2 ≤ 3 * L)
theorem isE_cn : ∀ {t : Tr}, isE t = true → 1 ≤ cn t
  | .ex .., _ => by simp only [cn, List.length_nil]; omega
  | .nil, h | .hole, h | .cons .., h | .st .., h => by simp [isE] at h
theorem run_good : ∀ (n : Nat) (c : Cl) (deep : Int) (ts : List Tok), TG ts → Pre c ts → 8 * ts.length + rank c < n → RG (Post c ts.length) (run n c deep ts)
 | 0, c, deep, ts, h, hp, hn => absurd hn (Nat.not_lt_zero _)
 | n + 1, .block, deep, ts, h, hp, hn => by
   simp only [run]; simp only [rank] at hn; exact (run_good n (.blockL .nil) deep ts h rfl (by simp only [rank]; omega)).imp fun t ts' h' hq => ⟨hq.1, by simpa [cn] using hq.2⟩
 | n + 1, .blockL acc, deep, ts, h, hp, hn => by
   simp only [run]; simp only [rank] at hn
   cases h1 : endsB (hd ts) with
   | true => exact ⟨h, hp, Nat.le_refl _⟩
   | false =>
     refine (run_good n .stmt deep ts h trivial (by simp only [rank]; omega)).bind fun s ts1 _ h1 hs => ?_; obtain ⟨hs1, hs2, hs3, hs4⟩ := hs; have hq := wf_snoc3 acc s hp hs1; try dsimp only
     cases kindOf s == 8 with
     | true => exact ⟨h1, hq.1, by rw [hq.2]; omega⟩
     | false =>
       refine (run_good n (.blockL (snoc acc s)) deep ts1 h1 hq.1 (by simp only [rank]; omega)).imp fun t ts' h' hq' => ⟨hq'.1, ?_⟩; have := hq'.2; rw [hq.2] at this; omega
 | n + 1, .inner s, deep, ts, h, hp, hn => by
   simp only [run]; simp only [rank] at hn
   cases h1 : is1 s ts with
   | false => trivial
   | true =>
     obtain ⟨ha, hl⟩ := h.is h1; refine RG.open fun d => (run_good n .block d _ ha trivial (by simp only [rank]; omega)).imp fun t ts' h' hq => ⟨hq.1, ?_⟩; have := hq.2; omega
 | n + 1, .stmt, deep, ts, h, hp, hn => by
   simp only [run]; simp only [rank] at hn; have hsim := run_good n .simple deep ts h trivial (by simp only [rank]; omega)
   cases h1 : (hd ts).kind == 4 with
   | false => exact hsim
   | true =>
     have h1' := beq_iff_eq.mp h1; obtain ⟨ha, hl⟩ := h.adv (by rw [h1']; decide); try dsimp only
     have hinner : ∀ s ts, TG ts → ts.length + 1 ≤ (Go.Proofs.YtoddjlclpnoomaaGreatDoor.adv ts).length + 2 → 8 * ts.length < n → ∀ d, RG (Post (.inner s) ts.length) (run n (.inner s) d ts) := fun s ts h _ hn d => run_good n (.inner s) d ts h trivial (by simp only [rank]; omega); have hin : ∀ s ts, TG ts → 8 * ts.length < n → ∀ d, RG (Post (.inner s) ts.length) (run n (.inner s) d ts) := fun s ts h hn d => run_good n (.inner s) d ts h trivial (by simp only [rank]; omega); have hex : ∀ ts1, TG ts1 → ts1.length < ts.length → ∀ d a, RG (Post (.expr a) ts1.length) (run n (.expr a) d ts1) := fun ts h hn d a => run_good n (.expr a) d ts h trivial (by simp only [rank]; omega); split
     · exact run_good n .locl deep ts h trivial (by simp only [rank]; omega)
     split
     · refine (run_good n (.func true) deep ts h trivial (by simp only [rank]; omega)).bind fun r ts1 _ h1 hs => ?_; obtain ⟨⟨f, k, nn, x, l, r', ks, ags, ps, b, rfl, e1, e2, e3⟩, hc⟩ := hs; simp only [cn, List.length_nil] at hc; refine ⟨h1, by simp [wf, e2] ; simpa [wf] using e3, rfl, by simp only [cn, List.length_nil]; omega, by simp only [cn, List.length_nil]; omega⟩
     split
     · refine (hin _ ts h (by omega) _).bind fun a ts1 _ h1 hs => RG.must h1 fun ts2 h2 hl2 => ⟨h2, by simp [wf, hs.1], rfl, by simp only [cn, List.length_nil]; omega, ?_⟩; have := hs.2; simp only [cn, List.length_nil]; omega
     split
     · refine (hex _ ha (by omega) _ _).bind fun r ts1 _ h1 hs => ?_; have := isE_cn hs.2.1; refine (hin _ ts1 h1 (by have := hs.2.2; omega) _).bind fun a ts2 _ h2 hs2 => RG.must h2 fun ts3 h3 hl3 => ⟨h3, by simp [wf, hs.1, hs2.1], rfl, by simp only [cn, List.length_nil]; omega, ?_⟩; have := hs.2.2; have := hs2.2; simp only [cn, List.length_nil]; omega
     split
     · refine RG.name ha fun nm ts1 h1 hl1 => RG.must h1 fun ts2 h2 hl2 => (hex _ h2 (by omega) _ _).bind fun r ts3 _ h3 hs3 => ?_; have := isE_cn hs3.2.1; have := hs3.2.2; refine RG.must h3 fun ts4 h4 hl4 => (hex _ h4 (by omega) _ _).bind fun r ts5 _ h5 hs5 => ?_; have := isE_cn hs5.2.1; have := hs5.2.2; refine (hin _ ts5 h5 (by omega) _).bind fun a ts6 _ h6 hs6 => RG.must h6 fun ts7 h7 hl7 => ⟨h7, by simp [wf, hs3.1, hs5.1, hs6.1], rfl, by simp only [cn, List.length_nil]; omega, ?_⟩; have := hs6.2; simp only [cn, List.length_nil]; omega
     split
     · refine (run_good n .branch deep _ ha trivial (by simp only [rank]; omega)).bind fun s ts1 _ h1 hs => RG.must h1 fun ts2 h2 hl2 => ⟨h2, hs.1, hs.2.1, hs.2.2.1, ?_⟩; have := hs.2.2.2; omega
     split
     · cases endsB (hd (Go.Proofs.YtoddjlclpnoomaaGreatDoor.adv ts)) with
       | true => exact ⟨ha, by simp [wf], rfl, by simp only [cn, List.length_nil]; omega, by simp only [cn, List.length_nil]; omega⟩
       | false =>
         refine (hex _ ha (by omega) _ _).bind fun r ts1 _ h1 hs => ?_; try dsimp only
         cases endsB (hd ts1) with
         | true =>
           have := hs.2.2; exact ⟨h1, by simp [wf, hs.1], rfl, by simp only [cn, List.length_nil]; omega, by simp only [cn, List.length_nil]; omega⟩
         | false => trivial
     split
     · exact ⟨ha, by simp [wf], rfl, by simp only [cn, List.length_nil]; omega, by simp only [cn, List.length_nil]; omega⟩
     split
     · refine (hin _ ts h (by omega) _).bind fun a ts1 _ h1 hs => ?_; try dsimp only
       cases h3 : is1 sCatch ts1 with
       | false => trivial
       | true =>
         obtain ⟨hc, hlc⟩ := h1.is h3; have := hs.2; refine RG.open fun d => RG.name hc fun nm ts2 h2 hl2 => (run_good n .block d _ h2 trivial (by simp only [rank]; omega)).bind fun b ts3 _ h3 hs3 => RG.must h3 fun ts4 h4 hl4 => ⟨h4, by simp [wf, hs.1, hs3.1], rfl, by simp only [cn, List.length_nil]; omega, ?_⟩; have := hs3.2; simp only [cn, List.length_nil]; omega
     · exact hsim
 | n + 1, .simple, deep, ts, h, hp, hn => by
   simp only [run]; simp only [rank] at hn; refine (run_good n .post deep ts h trivial (by simp only [rank]; omega)).bind fun e ts1 own h1 hs => ?_; have hc := isE_cn hs.2.1; have hs2 := hs.2.2; try dsimp only
   cases hx : is1 [61] ts1 && !own && (kindOf e == 6 || kindOf e == 7) with
   | true =>
     simp only [Bool.and_eq_true] at hx; obtain ⟨ha, hl⟩ := h1.is hx.1.1; refine (run_good n (.expr 0) deep _ ha trivial (by simp only [rank]; omega)).bind fun r ts2 _ h2 hs3 => ⟨h2, by simp [wf, hs.1, hs3.1], rfl, by simp only [cn, List.length_nil]; omega, ?_⟩; have := hs3.2.2; simp only [cn, List.length_nil]; omega
   | false =>
     try dsimp only
     cases !is1 [61] ts1 && !own && kindOf e == 8 with
     | true => exact ⟨h1, by simp [wf, hs.1], rfl, by simp only [cn, List.length_nil]; omega, by simp only [cn, List.length_nil]; omega⟩
     | false => trivial
 | n + 1, .locl, deep, ts, h, hp, hn => by
   simp only [run]; simp only [rank] at hn
   cases hx : is1 sFunction (adv ts) with
   | true =>
     have hle : TG (adv ts) ∧ (adv ts).length ≤ ts.length := by
       match ts, h with
       | [t], h => exact ⟨h, Nat.le_refl _⟩
       | t :: u :: ts, h => exact ⟨h.2.2, by simp [Go.Proofs.YtoddjlclpnoomaaGreatDoor.adv]⟩
     refine (run_good n (.func true) deep _ hle.1 trivial (by simp only [rank]; omega)).bind fun r ts1 _ h1 hs => ?_; obtain ⟨⟨f, k, nn, x, l, r', ks, ags, ps, b, rfl, e1, e2, e3⟩, hc⟩ := hs; simp only [cn, List.length_nil] at hc; exact ⟨h1, by simp [wf, e2], rfl, by simp only [cn, List.length_nil]; omega, by simp only [cn, List.length_nil]; omega⟩
   | false =>
     have hle : TG (adv ts) ∧ (adv ts).length ≤ ts.length := by
       match ts, h with
       | [t], h => exact ⟨h, Nat.le_refl _⟩
       | t :: u :: ts, h => exact ⟨h.2.2, by simp [Go.Proofs.YtoddjlclpnoomaaGreatDoor.adv]⟩
     refine RG.name hle.1 fun nm ts1 h1 hl1 => ?_
     cases hy : is1 [61] ts1 with
     | true =>
       obtain ⟨h2, hl2⟩ := h1.is hy; refine (run_good n (.expr 0) deep _ h2 trivial (by simp only [rank]; omega)).bind fun r ts3 _ h3 hs => ⟨h3, by simp [wf, hs.1], rfl, by simp only [cn, List.length_nil]; omega, ?_⟩; have := hs.2.2; simp only [cn, List.length_nil]; omega
     | false => exact ⟨h1, by simp [wf], rfl, by simp only [cn, List.length_nil]; omega, by simp only [cn, List.length_nil]; omega⟩
 | n + 1, .branch, deep, ts, h, hp, hn => by
   simp only [run]; simp only [rank] at hn; refine (run_good n (.expr 0) deep ts h trivial (by simp only [rank]; omega)).bind fun r ts1 _ h1 hs => ?_; have hc := isE_cn hs.2.1; have hs2 := hs.2.2; refine (run_good n (.inner sThen) deep ts1 h1 trivial (by simp only [rank]; omega)).bind fun a ts2 _ h2 ha => ?_; have ha2 := ha.2; try dsimp only
   cases hx : is1 sElseif ts2 with
   | true =>
     obtain ⟨h3, hl3⟩ := h2.is hx; refine (run_good n .branch deep _ h3 trivial (by simp only [rank]; omega)).bind fun s ts4 _ h4 hs4 => ⟨h4, by simp [wf, hs.1, ha.1, hs4.1], rfl, by simp only [cn, List.length_nil]; omega, ?_⟩; have := hs4.2.2.2; simp only [cn, List.length_nil]; omega
   | false =>
     try dsimp only
     cases hy : is1 sElse ts2 with
     | true =>
       refine (run_good n (.inner sElse) deep ts2 h2 trivial (by simp only [rank]; omega)).bind fun b ts3 _ h3 hb => ⟨h3, by simp [wf, hs.1, ha.1, hb.1], rfl, by simp only [cn, List.length_nil]; omega, ?_⟩; have := hb.2; simp only [cn, List.length_nil]; omega
     | false => exact ⟨h2, by simp [wf, hs.1, ha.1], rfl, by simp only [cn, List.length_nil]; omega, by simp only [cn, List.length_nil]; omega⟩
 | n + 1, .func named, deep, ts, h, hp, hn => by
   simp only [run]; simp only [rank] at hn; refine RG.open fun d => RG.must h fun ts1 h1 hl1 => ?_; have hbl : ∀ ts1, TG ts1 → ts1.length < ts.length → ∀ d, RG (Post .block ts1.length) (run n .block d ts1) := fun ts h hn d => run_good n .block d ts h trivial (by simp only [rank]; omega); have hps : ∀ ts1, TG ts1 → ts1.length < ts.length → ∀ d, RG (Post (.params []) ts1.length) (run n (.params []) d ts1) := fun ts h hn d => run_good n (.params []) d ts h trivial (by simp only [rank]; omega)
   cases named with
   | true =>
     refine RG.name h1 fun nm ts2 h2 hl2 => ?_; try dsimp only
     cases hx : is1 [40] ts2 with
     | false => trivial
     | true =>
       obtain ⟨h3, hl3⟩ := h2.is hx; refine RG.open fun d2 => ?_
       cases hy : is1 [41] (adv ts2) with
       | true =>
         obtain ⟨h4, hl4⟩ := h3.is hy; refine (hbl _ h4 (by omega) _).bind fun b ts5 _ h5 hs => RG.must h5 fun ts6 h6 hl6 => ⟨h6, ⟨_, _, _, _, _, _, _, _, _, _, rfl, rfl, by simp [wf, hs.1]; decide, by simp [wf]; decide⟩, ?_⟩; have := hs.2; simp only [cn, lf, List.length_nil]; omega
       | false =>
         refine (hps _ h3 (by omega) _).bind fun t ts5 _ h5 hs => ?_; obtain ⟨⟨ps, rfl, hpl⟩, hc⟩ := hs; simp only [List.length_nil] at hpl; refine RG.must h5 fun ts6 h6 hl6 => (hbl _ h6 (by omega) _).bind fun b ts7 _ h7 hs => RG.must h7 fun ts8 h8 hl8 => ⟨h8, ⟨_, _, _, _, _, _, _, _, _, _, rfl, rfl, by simp [wf, hs.1]; decide, by simp [wf]; decide⟩, ?_⟩; have := hs.2; simp only [cn, lf, List.length_nil]; omega
   | false =>
     try dsimp only
     cases hx : is1 [40] ts1 with
     | false => trivial
     | true =>
       obtain ⟨h3, hl3⟩ := h1.is hx; refine RG.open fun d2 => ?_
       cases hy : is1 [41] (adv ts1) with
       | true =>
         obtain ⟨h4, hl4⟩ := h3.is hy; refine (hbl _ h4 (by omega) _).bind fun b ts5 _ h5 hs => RG.must h5 fun ts6 h6 hl6 => ⟨h6, by simp [wf, hs.1]; decide, rfl, ?_⟩; have := hs.2; simp only [cn, lf, List.length_nil]; omega
       | false =>
         refine (hps _ h3 (by omega) _).bind fun t ts5 _ h5 hs => ?_; obtain ⟨⟨ps, rfl, hpl⟩, hc⟩ := hs; simp only [List.length_nil] at hpl; refine RG.must h5 fun ts6 h6 hl6 => (hbl _ h6 (by omega) _).bind fun b ts7 _ h7 hs => RG.must h7 fun ts8 h8 hl8 => ⟨h8, by simp [wf, hs.1]; decide, rfl, ?_⟩; have := hs.2; simp only [cn, lf, List.length_nil]; omega
 | n + 1, .params acc, deep, ts, h, hp, hn => by
   simp only [run]; simp only [rank] at hn; refine RG.name h fun nm ts1 h1 hl1 => ?_
   cases hx : is1 [44] ts1 with
   | true =>
     obtain ⟨h3, hl3⟩ := h1.is hx; exact (run_good n (.params (acc ++ [nm])) deep _ h3 trivial (by simp only [rank]; omega)).imp fun t ts2 h2 hs => ⟨(by obtain ⟨ps, e, hpl⟩ := hs.1; exact ⟨ps, e, by simp only [List.length_append, List.length_cons, List.length_nil] at hpl; omega⟩), by have := hs.2; omega⟩
   | false => exact ⟨h1, ⟨_, rfl, by simp only [List.length_append, List.length_cons, List.length_nil]; omega⟩, by omega⟩
 | n + 1, .expr above, deep, ts, h, hp, hn => by
   simp only [run]; simp only [rank] at hn; refine (run_good n .operand deep ts h trivial (by simp only [rank]; omega)).bind fun l ts1 _ h1 hs => ?_; have := hs.2.2; have := isE_cn hs.2.1; exact (run_good n (.exprL l above) deep ts1 h1 ⟨hs.1, hs.2.1⟩ (by simp only [rank]; omega)).imp fun t ts2 h2 hs => ⟨hs.1, hs.2.1, by have := hs.2.2; omega⟩
 | n + 1, .exprL l above, deep, ts, h, hp, hn => by
   simp only [run]; simp only [rank] at hn
   cases hx : !((hd ts).kind == 4) || decide (bindN (hd ts).text ≤ above) with
   | true => exact ⟨h, hp.1, hp.2, Nat.le_refl _⟩
   | false =>
     simp only [Bool.or_eq_false_iff, Bool.not_eq_false', beq_iff_eq] at hx; refine (run_good n (.bin l (bindN (hd ts).text)) deep ts h ⟨hp.1, hp.2, by rw [hx.1]; decide⟩ (by simp only [rank]; omega)).bind fun e ts1 _ h1 hs => ?_; have := hs.2.2.1; have := hs.2.2.2; exact (run_good n (.exprL e above) deep ts1 h1 ⟨hs.1, hs.2.1⟩ (by simp only [rank]; omega)).imp fun t ts2 h2 hs => ⟨hs.1, hs.2.1, by have := hs.2.2; omega⟩
 | n + 1, .bin l k, deep, ts, h, hp, hn => by
   simp only [run]; simp only [rank] at hn; obtain ⟨ha, hl⟩ := h.adv hp.2.2
   cases (hd ts).text == [46, 46] with
   | true =>
     refine RG.open fun d => (run_good n (.expr (k - 1)) d _ ha trivial (by simp only [rank]; omega)).bind fun r ts1 _ h1 hs => ?_; have := hs.2.2; exact ⟨h1, by simp [wf, hp.1, hs.1]; decide, rfl, by simp only [cn, List.length_nil]; omega, by omega⟩
   | false =>
     refine (run_good n (.expr k) deep _ ha trivial (by simp only [rank]; omega)).bind fun r ts1 _ h1 hs => ?_; have := hs.2.2; exact ⟨h1, by simp [wf, hp.1, hs.1]; decide, rfl, by simp only [cn, List.length_nil]; omega, by omega⟩
 | n + 1, .operand, deep, ts, h, hp, hn => by
   simp only [run]; simp only [rank] at hn
   cases hx : isB (hd ts) [sNot, [45], [35], [126]] with
   | false => exact run_good n .post deep ts h trivial (by simp only [rank]; omega)
   | true =>
     obtain ⟨ha, hl⟩ := h.is hx; refine RG.open fun d => (run_good n .operand d _ ha trivial (by simp only [rank]; omega)).bind fun r ts1 _ h1 hs => ?_; have := hs.2.2; exact ⟨h1, by simp [wf, hs.1]; decide, rfl, by simp only [cn, List.length_nil]; omega⟩
 | n + 1, .post, deep, ts, h, hp, hn => by
   simp only [run]; simp only [rank] at hn; refine (run_good n .primary deep ts h trivial (by simp only [rank]; omega)).bind fun l ts1 _ h1 hs => ?_; have := hs.2.2; have := isE_cn hs.2.1; exact (run_good n (.postL l _) deep ts1 h1 ⟨hs.1, hs.2.1⟩ (by simp only [rank]; omega)).imp fun t ts2 h2 hs => ⟨hs.1, hs.2.1, by have := hs.2.2; omega⟩
 | n + 1, .postL e own, deep, ts, h, hp, hn => by
   simp only [run]; simp only [rank] at hn; have hcn := isE_cn hp.2
   cases hx : is1 [91] ts with
   | true =>
     refine (run_good n (.bracket e) deep ts h hp.1 (by simp only [rank]; omega)).bind fun t ts1 _ h1 hs => ?_; obtain ⟨r, rfl, e1, e2, hc⟩ := hs; exact (run_good n (.postL _ false) deep ts1 h1 ⟨by simp [wf, hp.1, e1]; decide, rfl⟩ (by simp only [rank]; omega)).imp fun t ts2 h2 hs => ⟨hs.1, hs.2.1, by have := hs.2.2; simp only [cn, List.length_nil] at this; omega⟩
   | false =>
     try dsimp only
     cases hy : is1 [46] ts with
     | true =>
       obtain ⟨ha, hl⟩ := h.is hy; refine RG.name ha fun nm ts1 h1 hl1 => ?_; exact (run_good n (.postL _ false) deep ts1 h1 ⟨by simp [wf, hp.1, lf]; decide, rfl⟩ (by simp only [rank]; omega)).imp fun t ts2 h2 hs => ⟨hs.1, hs.2.1, by have := hs.2.2; simp only [cn, lf, List.length_nil] at this; omega⟩
     | false =>
       try dsimp only
       cases hz : is1 [40] ts with
       | false => exact ⟨h, hp.1, hp.2, Nat.le_refl _⟩
       | true =>
         obtain ⟨ha, hl⟩ := h.is hz; refine RG.open fun d => ?_
         cases hw : is1 [41] (adv ts) with
         | true =>
           obtain ⟨hb, hl2⟩ := ha.is hw; exact (run_good n (.postL _ false) deep _ hb ⟨by simp [wf, hp.1]; decide, rfl⟩ (by simp only [rank]; omega)).imp fun t ts2 h2 hs => ⟨hs.1, hs.2.1, by have := hs.2.2; simp only [cn, lf, List.length_nil] at this; omega⟩
         | false =>
           refine (run_good n (.args .nil) d _ ha rfl (by simp only [rank]; omega)).bind fun ags ts1 _ h1 hs => RG.must h1 fun ts2 h2 hl2 => ?_; have := hs.2; exact (run_good n (.postL _ false) deep _ h2 ⟨by simp [wf, hp.1, hs.1]; decide, rfl⟩ (by simp only [rank]; simp only [cn, List.length_nil] at this; omega)).imp fun t ts2 h2 hs => ⟨hs.1, hs.2.1, by have := hs.2.2; simp only [cn, lf, List.length_nil] at *; omega⟩
 | n + 1, .primary, deep, ts, h, hp, hn => by
   simp only [run]; simp only [rank] at hn; split
   · rename_i hk
     obtain ⟨ha, hl⟩ := h.adv (by rw [hk]; decide); exact ⟨ha, by simp [wf, lf]; decide, rfl, by simp only [cn, lf, List.length_nil]; omega⟩
   split
   · rename_i hk
     obtain ⟨ha, hl⟩ := h.adv (by rw [hk]; decide); exact ⟨ha, by simp [wf, lf, h.n64 (by rw [hk]; decide)], rfl, by simp only [cn, lf, List.length_nil]; omega⟩
   split
   · rename_i hk
     obtain ⟨ha, hl⟩ := h.adv (by rw [hk]; decide); exact ⟨ha, by simp [wf, lf]; decide, rfl, by simp only [cn, lf, List.length_nil]; omega⟩
   exact run_good n .signed deep ts h trivial (by simp only [rank]; omega)
 | n + 1, .signed, deep, ts, h, hp, hn => by
   simp only [run]; simp only [rank] at hn; split
   · rename_i hk
     obtain ⟨ha, hl⟩ := h.is hk; exact ⟨ha, by simp [wf, lf]; decide, rfl, by simp only [cn, lf, List.length_nil]; omega⟩
   split
   · rename_i hk
     obtain ⟨ha, hl⟩ := h.is hk; exact ⟨ha, by simp [wf, lf]; decide, rfl, by simp only [cn, lf, List.length_nil]; omega⟩
   split
   · rename_i hk
     obtain ⟨ha, hl⟩ := h.is hk; exact ⟨ha, by simp [wf, lf]; decide, rfl, by simp only [cn, lf, List.length_nil]; omega⟩
   split
   · rename_i hk
     obtain ⟨ha, hl⟩ := h.is hk; refine RG.open fun d => (run_good n (.expr 0) d _ ha trivial (by simp only [rank]; omega)).bind fun e ts1 _ h1 hs => RG.must h1 fun ts2 h2 hl2 => ⟨h2, hs.1, hs.2.1, ?_⟩; have := hs.2.2; omega
   split
   · exact (run_good n (.func false) deep ts h trivial (by simp only [rank]; omega)).imp fun t ts2 h2 hs => ⟨hs.1, hs.2.1, by have := hs.2.2; omega⟩
   split
   · rename_i hk
     obtain ⟨ha, hl⟩ := h.is hk; refine RG.open fun d => ?_
     cases hw : is1 [125] (adv ts) with
     | true =>
       obtain ⟨hb, hl2⟩ := ha.is hw; exact ⟨hb, by simp [wf]; decide, rfl, by simp only [cn, List.length_nil]; omega⟩
     | false =>
       refine (run_good n (.items .nil .nil) d _ ha ⟨rfl, rfl⟩ (by simp only [rank]; omega)).bind fun r ts1 _ h1 hs => ?_; obtain ⟨a, b, rfl, e1, e2, hc⟩ := hs; simp only [cn, List.length_nil] at hc; exact RG.must h1 fun ts2 h2 hl2 => ⟨h2, by simp [wf, e1, e2]; decide, rfl, by simp only [cn, List.length_nil]; omega⟩
   · trivial
 | n + 1, .bracket l, deep, ts, h, hp, hn => by
   simp only [run]; simp only [rank] at hn; refine RG.open fun d => RG.must h fun ts1 h1 hl1 => (run_good n (.expr 0) d _ h1 trivial (by simp only [rank]; omega)).bind fun r ts2 _ h2 hs => RG.must h2 fun ts3 h3 hl3 => ⟨h3, r, rfl, hs.1, hs.2.1, ?_⟩; have := hs.2.2; omega
 | n + 1, .args acc, deep, ts, h, hp, hn => by
   simp only [run]; simp only [rank] at hn; refine (run_good n (.expr 0) deep _ h trivial (by simp only [rank]; omega)).bind fun a ts1 _ h1 hs => ?_; have hc := hs.2.2; have hq := wf_snoc1 acc a hp hs.1; try dsimp only
   cases hx : is1 [44] ts1 with
   | true =>
     obtain ⟨h2, hl2⟩ := h1.is hx; exact (run_good n (.args (snoc acc a)) deep _ h2 hq.1 (by simp only [rank]; omega)).imp fun t ts2 h2 hs => ⟨hs.1, by have := hs.2; rw [hq.2] at this; omega⟩
   | false => exact ⟨h1, hq.1, by rw [hq.2]; omega⟩
 | n + 1, .items ks ags, deep, ts, h, hp, hn => by
   simp only [run]; simp only [rank] at hn; refine (run_good n .item deep _ h trivial (by simp only [rank]; omega)).bind fun r ts1 _ h1 hs => ?_; obtain ⟨k, a, rfl, e1, e2, hc⟩ := hs; have hk := wf_snoc1 ks k hp.1 e1; have ha := wf_snoc1 ags a hp.2 e2; try dsimp only
   cases hx : is1 [44] ts1 with
   | true =>
     obtain ⟨h2, hl2⟩ := h1.is hx; refine (run_good n (.items (snoc ks k) (snoc ags a)) deep _ h2 ⟨hk.1, ha.1⟩ (by simp only [rank]; omega)).imp fun t ts2 h2 hs => ?_; obtain ⟨x, y, rfl, f1, f2, hd⟩ := hs; exact ⟨x, y, rfl, f1, f2, by rw [hk.2, ha.2] at hd; omega⟩
   | false => exact ⟨h1, _, _, rfl, hk.1, ha.1, by rw [hk.2, ha.2]; omega⟩
 | n + 1, .item, deep, ts, h, hp, hn => by
   simp only [run]; simp only [rank] at hn; split
   · rename_i hk
     obtain ⟨ha, hl⟩ := h.adv (by rw [hk.1]; decide); obtain ⟨hb, hl2⟩ := ha.is hk.2.2; refine (run_good n (.expr 0) deep _ hb trivial (by simp only [rank]; omega)).bind fun a ts1 _ h1 hs => ⟨h1, _, _, rfl, by simp [wf, lf]; decide, hs.1, ?_⟩; have hc := hs.2.2; simp only [cn, lf, List.length_nil]; omega
   split
   · refine (run_good n (.bracket .nil) deep _ h rfl (by simp only [rank]; omega)).bind fun k ts1 _ h1 hs => ?_; obtain ⟨r, rfl, e1, e2, hc⟩ := hs; refine RG.must h1 fun ts2 h2 hl2 => (run_good n (.expr 0) deep _ h2 trivial (by simp only [rank]; omega)).bind fun a ts1 _ h1 hs => ⟨h1, _, _, rfl, e1, hs.1, ?_⟩; have hc := hs.2.2; omega
   · refine (run_good n (.expr 0) deep _ h trivial (by simp only [rank]; omega)).bind fun a ts1 _ h1 hs => ⟨h1, _, _, rfl, rfl, hs.1, ?_⟩; have hc := hs.2.2; simp only [cn, List.length_nil]; omega
def tz : Tr → Nat
  | .cons a b => 1 + tz a + tz b
  | .ex _ _ _ l r ks ags ps b => 8 + ps.length + tz l + tz r + tz ks + tz ags + tz b
  | .st _ _ l r t a b => 8 + tz l + tz r + tz t + tz a + tz b
  | _ => 1
theorem tz_pos : ∀ t, 1 ≤ tz t
  | .nil | .hole => by simp [tz]
  | .cons .. | .ex .. | .st .. => by simp only [tz]; omega
theorem wf0_cases : ∀ {t : Tr}, wf t 0 = true → t = .nil ∨ ∃ k n x l r ks ags ps b, t = .ex k n x l r ks ags ps b
  | .nil, _ => .inl rfl
  | .ex .., _ => .inr ⟨_, _, _, _, _, _, _, _, _, rfl⟩
  | .hole, h | .cons .., h | .st .., h => by simp [wf] at h
theorem wf2_cases : ∀ {t : Tr}, wf t 2 = true → t = .nil ∨ ∃ k n l r x a b, t = .st k n l r x a b
  | .nil, _ => .inl rfl
  | .st .., _ => .inr ⟨_, _, _, _, _, _, _, rfl⟩
  | .hole, h | .cons .., h | .ex .., h => by simp [wf] at h
theorem wf1_cases : ∀ {t : Tr}, wf t 1 = true → t = .nil ∨ ∃ a b, t = .cons a b ∧ wf a 0 = true ∧ wf b 1 = true
  | .nil, _ => .inl rfl
  | .cons .., h => by simp only [wf, Bool.and_eq_true] at h; exact .inr ⟨_, _, rfl, h.1, h.2⟩
  | .hole, h | .st .., h | .ex .., h => by simp [wf] at h
theorem wf3_cases : ∀ {t : Tr}, wf t 3 = true → t = .nil ∨ ∃ a b, t = .cons a b ∧ wf a 2 = true ∧ wf b 3 = true
  | .nil, _ => .inl rfl
  | .cons .., h => by simp only [wf, Bool.and_eq_true] at h; exact .inr ⟨_, _, rfl, h.1, h.2⟩
  | .hole, h | .st .., h | .ex .., h => by simp [wf] at h
theorem wf_isList {t : Tr} : ∀ (m : Nat), (m = 1 ∨ m = 3) → wf t m = true → isList t = true := by
 induction t with
 | nil => intros; rfl
 | cons a b _ ih =>
   rintro m (rfl | rfl) h
   · simp only [wf, Bool.and_eq_true] at h; exact ih 1 (.inl rfl) h.2
   · simp only [wf, Bool.and_eq_true] at h; exact ih 3 (.inr rfl) h.2
 | hole | ex | st => rintro m (rfl | rfl) h <;> simp [wf] at h
theorem tz_cn : ∀ t, tz t ≤ 13 * cn t + 1
 | .nil | .hole => by simp [tz, cn]
 | .cons a b => by
   have := tz_cn a; have := tz_cn b
   simp only [tz, cn]; omega
 | .ex _ _ _ l r ks ags _ b => by
   have := tz_cn l; have := tz_cn r; have := tz_cn ks; have := tz_cn ags; have := tz_cn b
   simp only [tz, cn]; omega
 | .st _ _ l r t a b => by
   have := tz_cn l; have := tz_cn r; have := tz_cn t; have := tz_cn a; have := tz_cn b
   simp only [tz, cn]; omega
theorem numT_ok {s : List UInt8} {t : Tok} {k : Nat} (h : numT s = .tok t k) : t.kind ≠ 5 ∧ i64 t.n = true := by
 unfold numT at h
 cases hn : numP (s.take (lng s digB)) with
 | mk v e =>
   rw [hn] at h; dsimp only at h; split at h
   · cases h
   · split at h
     · rename_i h1 h2
       injection h with h3 h4; subst h3; refine ⟨by simp, ?_⟩; unfold numP at hn; split at hn
       · injection hn with h5 h6; omega
       · split at hn
         · injection hn with h5 h6; omega
         · injection hn with h5 h6; subst h5; simp only [i64, decide_eq_true_eq]; omega
     · cases h
theorem strT_ok {s : List UInt8} {t : Tok} {k : Nat} (h : strT s = .tok t k) : t.kind ≠ 5 ∧ i64 t.n = true := by
 unfold strT at h
 cases hn : qEnd ((s.takeWhile (fun c => !(c == 10))).drop 1) 1 with
 | none => rw [hn] at h; cases h
 | some k' =>
   rw [hn] at h; dsimp only at h
   cases hu : unqT ((s.take k').drop 1) with
   | mk x e =>
     rw [hu] at h; dsimp only at h; split at h
     · injection h with h3 h4; subst h3; exact ⟨by simp, by simp [i64]⟩
     · split at h <;> cases h
theorem wordT_ok {s : List UInt8} {t : Tok} {k : Nat} (h : wordT s = .tok t k) : t.kind ≠ 5 ∧ i64 t.n = true := by
 unfold wordT at h; split at h
 · split at h
   · cases h
   · injection h with h3 h4; subst h3; exact ⟨by dsimp only; split <;> decide, by simp [i64]⟩
 split at h
 · exact numT_ok h
 split at h
 · exact strT_ok h
 split at h
 · injection h with h3 h4; subst h3; exact ⟨by simp, by simp [i64]⟩
 split at h
 · injection h with h3 h4; subst h3; exact ⟨by simp, by simp [i64]⟩
 · cases h
theorem lexGo_ok : ∀ (n : Nat) (s : List UInt8) (line : Int) (ts : List Tok), lexGo n s line = .ok ts → TG ts ∧ ts.length ≤ n + 1
 | 0, s, line, ts, h => by
   simp only [lexGo] at h; injection h with h; subst h; exact ⟨rfl, by simp⟩
 | n + 1, s, line, ts, h => by
   simp only [lexGo] at h; have he : ∀ ts, LR.ok [endT line] = .ok ts → TG ts ∧ ts.length ≤ n + 1 + 1 := by
     intro ts h; injection h with h; subst h; exact ⟨rfl, by simp⟩
   have hi : ∀ s l ts, lexGo n s l = .ok ts → TG ts ∧ ts.length ≤ n + 1 + 1 := fun s l ts h => ⟨(lexGo_ok n s l ts h).1, Nat.le_succ_of_le (lexGo_ok n s l ts h).2⟩; split at h
   · exact he _ h
   split at h
   · exact hi _ _ _ h
   split at h
   · exact hi _ _ _ h
   split at h
   · split at h
     · exact hi _ _ _ h
     · exact he _ h
   split at h
   · cases h
   · rename_i t k hw
     have hk := wordT_ok hw
     cases hl : lexGo n (s.drop k) line with
     | fail c => rw [hl] at h; cases h
     | ok us =>
       rw [hl] at h; have hu := lexGo_ok n _ _ _ hl; simp only [LR.cons] at h; injection h with h; subst h
       cases us with
       | nil => exact hu.1.elim
       | cons u us => exact ⟨⟨hk.1, hk.2, hu.1⟩, by have := hu.2; simp only [List.length_cons] at *; omega⟩
theorem lexT_ok {s : List UInt8} {ts : List Tok} (h : lexT s = .ok ts) : TG ts ∧ ts.length ≤ s.length + 2 ∧ s.length ≤ 32768 := by
 unfold lexT at h; split at h
 · cases h
 · have := lexGo_ok _ _ _ _ h; exact ⟨this.1, by omega, by omega⟩
theorem parseT_good {n : Nat} {ts : List Tok} (h : TG ts) (hn : 8 * ts.length + 7 < n) : RG (fun t _ => wf t 3 = true ∧ cn t ≤ 3 * ts.length) (parseT n ts) := by
 unfold parseT; refine (run_good n .block 0 ts h trivial hn).bind fun t ts1 _ h1 hs => ?_
 cases (hd ts1).kind == 5 with
 | true => exact ⟨h1, hs.1, by have := hs.2; omega⟩
 | false => trivial
theorem parse_good {s : List UInt8} {n : Nat} (hn : 8 * s.length + 23 < n) : RG (fun t _ => wf t 3 = true ∧ cn t ≤ 3 * (s.length + 2) ∧ s.length ≤ 32768) (parseS n s) := by
 unfold parseS
 cases h : lexT s with
 | fail c => trivial
 | ok ts =>
   obtain ⟨h1, h2, h3⟩ := lexT_ok h; exact (parseT_good h1 (by omega)).imp fun t ts' _ ht => ⟨ht.1, by omega, h3⟩
end Go.Proofs.YtoddjlclpnoomaaGreatDoor
namespace Go.Proofs.YtoddjlclpnoomaaGreatDoor
open Go.Sh
def TX (w : World) (b : Nat) (buf : List UInt8) (parts : Nat) : Prop :=
  ∃ lo, BX lo w b [.int .i64 parts] buf ∧ GL w ∧ 12 ≤ b ∧ buf.length ≤ 32768 ∧ parts ≤ 65536
theorem TX.ab {w : World} {b : Nat} {buf : List UInt8} {parts : Nat} (h : TX w b buf parts) : ∃ ad v rest, At w b (ad :: v :: rest) := by
 obtain ⟨lo, ⟨ad, v, ab, _⟩, _⟩ := h; exact ⟨ad, v, _, ab⟩
theorem TX.gl {w : World} {b : Nat} {buf : List UInt8} {parts : Nat} (h : TX w b buf parts) : GL w := by
 obtain ⟨lo, _, g, _⟩ := h; exact g
theorem TX.len {w : World} {b : Nat} {buf : List UInt8} {parts : Nat} (h : TX w b buf parts) : buf.length ≤ 32768 := by
 obtain ⟨lo, _, g, _, h1, h2⟩ := h; exact h1
theorem TX.cnt {w : World} {b : Nat} {buf : List UInt8} {parts : Nat} (h : TX w b buf parts) : parts ≤ 65536 := by
 obtain ⟨lo, _, g, _, h1, h2⟩ := h; exact h2
theorem BX.keep {lo : Nat} {w w' : World} {b : Nat} {rest : List Value} {buf : List UInt8} (h : BX lo w b rest buf) (hk : Keep [] w w') : BX lo w' b rest buf := by
 obtain ⟨ad, v, ab, had, hv, hne, hb, hlo⟩ := h; have z := hk.size; refine ⟨ad, v, hk.at ab (by simp), ?_, hv.fr hk (by simp), hne, hb, by omega⟩; rcases had with ⟨h1, e, n, h2, h3⟩ | h
 · refine .inl ⟨h1, e, n, ?_, h3⟩; rw [← h2]; unfold World.shape?; rw [hk.same b (by omega) (by simp)]
 · exact .inr h
theorem TX.keep {w w' : World} {b : Nat} {buf : List UInt8} {parts : Nat} (h : TX w b buf parts) (hk : Keep [] w w') : TX w' b buf parts := by
 obtain ⟨lo, h1, g, h2⟩ := h; exact ⟨lo, h1.keep hk, g.new hk, h2⟩
def wrg (e : Int) : List PanicEntry := [{ v := .iface 49 (.agg #[.int .i64 e]), recovered := false }]
theorem c20 (w : World) (b : Bool) (e : Int) : Calls Tryz.prog 20 #[.bool b, .int .i64 e] w (Ret (fun _ w' => b = true ∧ w' = w) (fun c w' => b = false ∧ c = wrg e ∧ w' = w)) := by
 refine s20 ?_; unfold S20; refine V1.i (by simp [go_sem] <;> trivial) ?_
 cases b with
 | true => exact If.f ⟨rfl, rfl⟩
 | false =>
   refine If.t ?_; refine V1.i (by simp [go_sem] <;> trivial) ?_; refine V1.i (by simp [go_sem] <;> trivial) ?_; refine V1.p (by simp [go_sem]; first | done | exact ⟨rfl, rfl⟩) ?_; exact ⟨rfl, rfl, rfl⟩
def POk (w : World) (b : Nat) (r : PR) (w' : World) : Prop := match r with
  | .ok buf parts => TX w' b buf parts ∧ KO b w w'
  | _ => False
def PEr (w : World) (b : Nat) (r : PR) (c : List PanicEntry) (w' : World) : Prop := match r with
  | .fail e => c = wrg e ∧ KO b w w' ∧ (∃ ad v rest, At w' b (ad :: v :: rest)) ∧ GL w'
  | _ => False
theorem KO.gl {b : Nat} {w w' : World} {buf : List UInt8} {parts : Nat} (h : KO b w w') (ht : TX w b buf parts) : GL w' := by
 obtain ⟨lo, ⟨ad, v, ab, had, hv, hne, hbl, hlo⟩, g, h12, _⟩ := ht; refine g.keep (h.2 ad v _ ab).1 fun i hi => ?_; simp only [List.mem_cons, Option.mem_toList, Option.mem_def] at hi; rcases hi with hi | hi
 · omega
 · have := (hv.lt hi).1; omega
theorem POk.out {w : World} {b : Nat} {r : PR} {w' : World} (h : POk w b r w') : ∃ buf parts, r = .ok buf parts ∧ TX w' b buf parts ∧ KO b w w' := by
 cases r with
 | ok b p => exact ⟨b, p, rfl, h⟩
 | fail c => exact h.elim
 | oof => exact h.elim
theorem PEr.up {w0 w : World} {b : Nat} {r1 r : PR} {f : List UInt8 → Nat → PR} {c : List PanicEntry} {w' : World} {buf : List UInt8} {parts : Nat} (h : PEr w b r1 c w') (hr : r1.bind f = r) (hk : KO b w0 w) (ht : TX w b buf parts) : PEr w0 b r c w' := by
 cases r1 with
 | fail e => subst hr; exact ⟨h.1, hk.trans h.2.1 ht.ab, h.2.2⟩
 | ok _ _ => exact h.elim
 | oof => exact h.elim
theorem POk.pre {w0 w : World} {b : Nat} {r : PR} {w' : World} {buf : List UInt8} {parts : Nat} (h : POk w b r w') (hk : KO b w0 w) (ht : TX w b buf parts) : POk w0 b r w' := by
 cases r with
 | ok b p => exact ⟨h.1, hk.trans h.2 ht.ab⟩
 | fail c => exact h.elim
 | oof => exact h.elim
theorem PEr.pre {w0 w : World} {b : Nat} {r : PR} {c : List PanicEntry} {w' : World} {buf : List UInt8} {parts : Nat} (h : PEr w b r c w') (hk : KO b w0 w) (ht : TX w b buf parts) : PEr w0 b r c w' := by
 cases r with
 | fail e => exact ⟨h.1, hk.trans h.2.1 ht.ab, h.2.2⟩
 | ok _ _ => exact h.elim
 | oof => exact h.elim
theorem PR.bind_ne {r1 r : PR} {f : List UInt8 → Nat → PR} (hr : r1.bind f = r) (hne : r ≠ .oof) : r1 ≠ .oof := by
 rintro rfl; exact hne hr.symm
theorem PR.bind_ok {b : List UInt8} {p : Nat} {f : List UInt8 → Nat → PR} : (PR.ok b p).bind f = f b p := rfl
theorem c36 {w : World} {b bs : Nat} {buf : List UInt8} {parts : Nat} {ss : List (List UInt8)} {r : PR} (h : TX w b buf parts) (hs : At w bs (ss.map str)) (hf : FO b w bs) (hn : ss.length ≤ 100) (hr : putL ss buf parts = r) (hne : r ≠ .oof) :
   Calls Tryz.prog 36 #[ptr b, strs bs ss.length] w (Ret (fun _ => POk w b r) (PEr w b r)) := by
 refine s36 ?_; unfold S36 strs; refine V1.i (by simp [go_sem] <;> trivial) ?_; refine L1.i (fun v w' => ∃ i buf parts, i ≤ ss.length ∧ v = .int .i64 (i : Nat) ∧ TX w' b buf parts ∧ At w' bs (ss.map str) ∧ FO b w' bs ∧ KO b w w' ∧ putL (ss.drop i) buf parts = r) (fun v w' => match v with | .int _ n => (ss.length - n.toNat) | _ => 0) ⟨0, buf, parts, by omega, rfl, h, hs, hf, KO.refl _ _, by simpa using hr⟩ ?_; clear h hs hf hr; rintro v w1 ⟨i, buf, parts, hi, rfl, h, hs, hf, kk, hr⟩; by_cases hlt : i < ss.length
 · rw [List.drop_eq_getElem_cons hlt] at hr; refine V1.i (v := .bool true) (w' := w1) (by simp [go_sem]; omega) ?_; refine If.t ?_; refine V1.i (ix45 _ hlt) ?_; refine V1.load (oneAll rfl) hs (v := str ss[i]) (by simp [hlt]) ?_; generalize ss[i] = s at *; refine V1.i (by simp [go_sem] <;> trivial) ?_; unfold ptr; refine Up.i (Nc.p _ _) ?_; refine V1.i (by simp [go_sem] <;> trivial) ?_; have h' := h; obtain ⟨lo, hb, g, h12, hlen, hpar⟩ := h'; refine cf69 (c69 hb) ?_ (NP.no (e := _)); rintro _ w2 ⟨rfl, rfl⟩; refine V1.i (subI _ _ _ _ _ _ (by omega) (by omega)) ?_; refine V1.i (v := .bool (decide (s.length + buf.length ≤ 32768))) (w' := w2) (by simp [go_sem]; omega) ?_; simp only [putL, putT] at hr; refine cf20 (c20 w2 _ 3) ?_ ?_; rotate_left
   · rintro c w3 ⟨hb0, rfl, rfl⟩; have : ¬ s.length + buf.length ≤ 32768 := by simpa using hb0
     rw [if_neg this] at hr; subst hr; exact ⟨rfl, kk, h.ab, g⟩
   rintro _ w3 ⟨hb0, rfl⟩; have hle : s.length + buf.length ≤ 32768 := by simpa using hb0
   rw [if_pos hle, PR.bind_ok] at hr; refine Up.i (Nc.p _ _) ?_; refine V1.i (by simp [go_sem] <;> trivial) ?_; refine cf70 (c70 hb s (by omega)) ?_ (NP.no (e := _)); rintro _ w4 ⟨hb4, K4⟩; refine V1.i (addI _ _ _ _ _ _ (by omega) (by omega)) ?_; obtain ⟨M, hM, hMF⟩ := K4.same h.ab (M := []); obtain ⟨hm1, hm2⟩ := hMF bs hf hs.lt; exact ⟨⟨i + 1, buf ++ s, parts, by omega, by simp, ⟨lo, hb4, K4.gl h, h12, by simp; omega, hpar⟩, hM.at hs hm1, hm2, kk.trans K4 h.ab, hr⟩, by simp; omega⟩
 · have : i = ss.length := by omega
   subst this; rw [List.drop_length] at hr; refine V1.i (v := .bool false) (w' := w1) (by simp [go_sem]) ?_; refine If.f ?_; subst hr; exact ⟨h, kk⟩
def SIt (w : World) (r : Nat) (s : List UInt8) (pos : Nat) : Prop := w.heap[r]? = some (.stringIter ⟨s.toArray⟩ pos)
theorem SIt.lt {w : World} {r : Nat} {s : List UInt8} {pos : Nat} (h : SIt w r s pos) : r < w.heap.size := (Array.getElem?_eq_some_iff.1 h).1
theorem SIt.keep {M : List Nat} {w w' : World} {r : Nat} {s : List UInt8} {pos : Nat} (h : SIt w r s pos) (hk : Keep M w w') (hr : r ∉ M) : SIt w' r s pos := by
 unfold SIt at *; rw [hk.same r (SIt.lt h) hr, h]
theorem V1.rangeS {w : World} {s : List UInt8} {k : Value → World → Prop} {e : List PanicEntry → World → Prop} (hk : ∀ r w', SIt w' r s 0 → w.heap.size ≤ r → Keep [] w w' → k (ptr r) w') : V1 Tryz.prog (Instr.range 9 (str s)) w k e :=
  V1.i (run_range_string (P := Tryz.prog) w 9 ⟨s.toArray⟩ (by kernel_rfl)) (hk _ _ (by unfold SIt World.iter; rw [alloc_get, if_pos rfl]) (Nat.le_refl _) ((Keep.refl _ _).alloc _))
def RC (b : UInt8) (c n : Nat) : Prop := (b.toNat < 128 ∧ c = b.toNat ∧ n = 1) ∨ (128 ≤ b.toNat ∧ 128 ≤ c ∧ 1 ≤ n)
theorem rc_at (s : List UInt8) (pos : Nat) (h : pos < s.length) : RC s[pos] (Utf8.decode ⟨s.toArray⟩ pos).1 (Utf8.decode ⟨s.toArray⟩ pos).2 := by
 by_cases hb : s[pos].toNat < 128
 · left
   rw [decode_ascii ⟨s.toArray⟩ pos h hb]; exact ⟨hb, rfl, rfl⟩
 · right
   exact ⟨by omega, decode_high ⟨s.toArray⟩ pos h (by show 128 ≤ s[pos].toNat; omega)⟩
theorem V1.nextS {w : World} {r pos : Nat} {s : List UInt8} {k : Value → World → Prop} {e : List PanicEntry → World → Prop} (h : SIt w r s pos)
   (hk : ∀ (hp : pos < s.length) c n w', RC s[pos] c n → SIt w' r s (pos + n) → Keep [r] w w' → k (.tuple #[.bool true, .int .i64 pos, .int .i32 c]) w')
   (he : s.length ≤ pos → k (.tuple #[.bool false]) w) : V1 Tryz.prog (Instr.next (ptr r) true 0) w k e := by
 by_cases hp : pos < s.length
 · refine V1.i (Lib.run_next_any_at (P := Tryz.prog) w r ⟨s.toArray⟩ pos 0 h hp) (hk hp _ _ _ (rc_at s pos hp) (Lib.iterAt_heap _ _ _ _ _ h) ⟨by rw [Lib.iterAt_size]; exact Nat.le_refl _, fun i hi hm => Lib.iterAt_other _ _ _ _ _ (by simpa using hm), rfl, rfl⟩)
 · exact V1.i (Lib.run_next_end_at (P := Tryz.prog) w r ⟨s.toArray⟩ pos 0 h hp) (he (by omega))
def inR (c : Nat) (set : List UInt8) : Bool := set.any fun d => d.toNat == c
theorem inR_ascii (b : UInt8) (set : List UInt8) : inR b.toNat set = set.contains b := by
 unfold inR; induction set with
 | nil => rfl
 | cons d l ih =>
   simp only [List.any_cons, List.contains_cons, ih]; congr 1
   by_cases h : b = d
   · subst h; simp
   · have h1 : (b == d) = false := by simpa using h
     have h2 : (d.toNat == b.toNat) = false := by simpa using fun e => h (UInt8.toNat_inj.1 e).symm
     rw [h1, h2]
theorem inR_high {c : Nat} {set : List UInt8} (ha : ∀ b ∈ set, b.toNat < 128) (hc : 128 ≤ c) : inR c set = false := by
 unfold inR; rw [List.any_eq_false]; intro d hd; have := ha d hd; simp; omega
theorem inR_rc {b : UInt8} {c n : Nat} {set : List UInt8} (ha : ∀ b ∈ set, b.toNat < 128) (h : RC b c n) : inR c set = set.contains b := by
 rcases h with ⟨h1, rfl, _⟩ | ⟨h1, h2, _⟩
 · exact inR_ascii b set
 · rw [inR_high ha h2]; symm
   rw [Bool.eq_false_iff]; intro hc; have := ha b (List.contains_iff_mem.1 hc); omega
theorem inR_step (c : Nat) (set : List UInt8) (j : Nat) (h : j < set.length) : (inR c (set.take j) || (c == set[j].toNat)) = inR c (set.take (j + 1)) := by
 unfold inR; rw [List.take_succ_eq_append_getElem h, List.any_append]; simp only [List.any_cons, List.any_nil, Bool.or_false]; congr 1
 exact Bool.beq_comm
theorem eq21 (w : World) (cx cy : Bool) (a b : Nat) : (Bo .eql 21 cx cy (.int .i32 a) (.int .i32 b)).run Tryz.prog w = .ok (.bool (a == b)) w := by
 have : ((a : Int) == (b : Int)) = (a == b) := by
   by_cases h : a = b
   · subst h; simp
   · have h2 : (a == b) = false := by simpa using h
     rw [h2]; simp; omega
 simp [go_sem, Bo, this]
theorem c168 (w : World) (s set : List UInt8) (hs : s.length ≤ 1099511627776) (ha : ∀ b ∈ set, b.toNat < 128) :
   Calls Tryz.prog 168 #[str s, str set] w (Ret (fun v w' => v = str (s.dropWhile (fun b => set.contains b)) ∧ Keep [] w w') NP) := by
 refine s168 ?_; unfold S168; refine V1.rangeS fun r w1 hr gr K1 => ?_; refine L1.i (fun v w' => ∃ pos, pos ≤ s.length ∧ SIt w' r s pos ∧ Keep [] w w' ∧ s.dropWhile (fun b => set.contains b) = (s.drop pos).dropWhile (fun b => set.contains b)) (fun v w' => s.length - (match w'.heap[r]? with | some (.stringIter _ p) => p | _ => 0)) ⟨0, by omega, hr, K1, rfl⟩ ?_; clear hr K1; rintro v w1 ⟨pos, hp, hr, K1, hd⟩; have hlr := hr.lt; refine V1.nextS hr (fun hlt c n w2 hrc hr2 K2 => ?_) (fun hge => ?_)
 · have K12 : Keep [] w w2 := K1.trans' K2 (by simp; omega); rw [List.drop_eq_getElem_cons hlt] at hd; refine V1.i (by simp [go_sem] <;> trivial) ?_; refine If.t ?_; refine V1.i (by simp [go_sem] <;> trivial) ?_; refine V1.i (by simp [go_sem] <;> trivial) ?_; refine V1.rangeS fun q w3 hq gq K3 => ?_; have z2 := K12.size; have z21 := K2.size; have K13 : Keep [] w w3 := K12.trans' K3 (by simp); have hr3 := hr2.keep K3 (by simp); have hneq : q ≠ r := by omega
   refine L1.i (fun v w' => ∃ j, j ≤ set.length ∧ v = .bool (inR c (set.take j)) ∧ SIt w' q set j ∧ SIt w' r s (pos + n) ∧ Keep [] w w') (fun v w' => set.length - (match w'.heap[q]? with | some (.stringIter _ p) => p | _ => 0)) ⟨0, by omega, by simp [inR], hq, hr3, K13⟩ ?_; rintro v w4 ⟨j, hj, rfl, hq4, hr4, K4⟩; refine V1.nextS hq4 (fun hjl d m w5 hrd hq5 K5 => ?_) (fun hge => ?_)
   · have hda := ha set[j] (List.getElem_mem _); rcases hrd with ⟨_, rfl, rfl⟩ | ⟨h1, _⟩
     · refine V1.i (by simp [go_sem] <;> trivial) ?_; refine If.t ?_; refine V1.i (by simp [go_sem] <;> trivial) ?_; refine J1.gd (c == set[j].toNat) (fun h k hk => ?_) ?_
       · exact V1.i (eq21 _ _ _ c set[j].toNat) hk
       refine V1.i (pkO _ _ _) ?_; rw [inR_step c set j hjl]; have e4 : w4.heap[q]? = _ := hq4; have e5 : w5.heap[q]? = _ := hq5; exact ⟨⟨j + 1, by omega, rfl, hq5, hr4.keep K5 (by simpa using fun e => hneq e.symm), K4.trans' K5 (by simp; omega)⟩, by rw [e4, e5]; simp; omega⟩
     · omega
   · refine V1.i (by simp [go_sem] <;> trivial) ?_; refine If.f ?_; refine V1.i (by simp [go_sem] <;> trivial) ?_; have : j = set.length := by omega
     subst this; rw [List.take_length, inR_rc ha hrc]
     cases hcs : set.contains s[pos] with
     | false =>
       refine If.t ?_; refine V1.i (fromS _ s pos (by omega)) ?_; refine ⟨?_, K4⟩; rw [hd, List.dropWhile_cons, hcs, ← List.drop_eq_getElem_cons hlt]; rfl
     | true =>
       refine If.f ?_; have e1 : w1.heap[r]? = _ := hr; have e4 : w4.heap[r]? = _ := hr4; rcases hrc with ⟨_, rfl, rfl⟩ | ⟨h1, _⟩
       · exact ⟨⟨pos + 1, by omega, hr4, K4, by rw [hd, List.dropWhile_cons, hcs]; rfl⟩, by rw [e1, e4]; simp; omega⟩
       · have := ha _ (List.contains_iff_mem.1 hcs); omega
 · refine V1.i (by simp [go_sem] <;> trivial) ?_; refine If.f ?_; have : pos = s.length := by omega
   subst this; rw [List.drop_length] at hd; exact ⟨by rw [hd]; rfl, K1⟩
def cutR (s set : List UInt8) : List UInt8 := (s.reverse.dropWhile (fun b => set.contains b)).reverse
theorem cutR_yes {s set : List UInt8} {b : UInt8} (h : set.contains b = true) : cutR (s ++ [b]) set = cutR s set := by
 simp only [cutR, List.reverse_append, List.reverse_cons, List.reverse_nil, List.nil_append, List.cons_append, List.dropWhile_cons, h, if_true]
theorem cutR_no {s set : List UInt8} {b : UInt8} (h : set.contains b = false) : cutR (s ++ [b]) set = s ++ [b] := by
 simp only [cutR, List.reverse_append, List.reverse_cons, List.reverse_nil, List.nil_append, List.cons_append, List.dropWhile_cons, h, Bool.false_eq_true, if_false, List.reverse_reverse]
theorem rc_last (t : List UInt8) (b : UInt8) : RC b (Lib.decodeLastL (t ++ [b])).1 (Lib.decodeLastL (t ++ [b])).2 := by
 by_cases hb : b.toNat < 128
 · left
   rw [Lib.decodeLastL_ascii t b hb]; exact ⟨hb, rfl, rfl⟩
 · right
   have hw := (Lib.decodeLastL_width (t ++ [b]) (by simp)).1; refine ⟨by omega, ?_, hw⟩; have hg : (t ++ [b]).getD ((t ++ [b]).length - 1) 0 = b := by simp [List.getD]
   unfold Lib.decodeLastL; rw [if_neg (by simp), hg, if_neg hb]; simp only
   split
   · rename_i hl
     have hls : Lib.lastStart (t ++ [b]) + 2 ≤ (t ++ [b]).length ∨ Lib.lastStart (t ++ [b]) = 0 := by
       unfold Lib.lastStart; simp only
       repeat' split
       all_goals omega
     have hne : Lib.lastStart (t ++ [b]) < (t ++ [b]).length := by
       rcases hls with h | h
       · omega
       · rw [h]; simp
     have hrc := rc_at ((t ++ [b]).drop (Lib.lastStart (t ++ [b]))) 0 (by rw [List.length_drop]; omega); rcases hrc with ⟨h1, h2, h3⟩ | ⟨h1, h2, h3⟩
     · exfalso
       unfold Lib.decodeL at hl; rw [h3] at hl; have e : Lib.lastStart (t ++ [b]) = t.length := by simp at hl; omega
       have e2 : ((t ++ [b]).drop (Lib.lastStart (t ++ [b])))[0]'(by rw [List.length_drop]; omega) = b := by simp [e]
       rw [e2] at h1; omega
     · exact h2
   · simp [Utf8.runeError]
theorem c167 (w : World) (s set : List UInt8) (g : GL w) (hs : s.length ≤ 1099511627776) (ha : ∀ b ∈ set, b.toNat < 128) :
   Calls Tryz.prog 167 #[str s, str set] w (Ret (fun v w' => v = str (cutR s set) ∧ Keep [] w w') NP) := by
 refine s167 ?_; unfold S167; refine L2.i (fun u v w' => ∃ t, t.length ≤ s.length ∧ v = str t ∧ Keep [] w w' ∧ cutR s set = cutR t set) (fun u v w' => match v with | .string b => b.size | _ => 0) ⟨s, by omega, rfl, Keep.refl _ _, rfl⟩ ?_; rintro u v w1 ⟨t, ht, rfl, K1, hd⟩; have g1 := g.new K1; rcases List.eq_nil_or_concat t with rfl | ⟨l, b, hlb⟩
 · refine V1.i (by simp [go_sem] <;> trivial) ?_; refine If.b (fun h => by simp at h) (fun _ => ?_); exact ⟨by rw [hd]; rfl, K1⟩
 rw [List.concat_eq_append] at hlb; subst hlb
 · refine V1.i (by simp [go_sem] <;> trivial) ?_; refine If.b (fun h => ?_) (fun h => absurd h (by simp)); have hl206 : (l ++ [b]).length ≤ 9223372036854775807 := Nat.le_trans (Nat.le_trans ht hs) (by decide); have h206 := c206 w1 (l ++ [b]) g1 hl206; refine cf206 (h206) ?_ (NP.no (e := _)); rintro _ w2 ⟨rfl, K2⟩; have hrc := rc_last l b; generalize (Lib.decodeLastL (l ++ [b])).1 = c at *; generalize (Lib.decodeLastL (l ++ [b])).2 = n at *; refine V1.i (by simp [go_sem] <;> trivial) ?_; refine V1.i (by simp [go_sem] <;> trivial) ?_; refine V1.rangeS fun q w3 hq gq K3 => ?_; have K13 : Keep [] w w3 := (K1.trans' K2 (by simp)).trans' K3 (by simp); have z2 := (K1.trans' K2 (by simp)).size
   refine L1.i (fun v w' => ∃ j, j ≤ set.length ∧ v = .bool (inR c (set.take j)) ∧ SIt w' q set j ∧ Keep [] w w') (fun v w' => set.length - (match w'.heap[q]? with | some (.stringIter _ p) => p | _ => 0)) ⟨0, by omega, by simp [inR], hq, K13⟩ ?_; rintro v w4 ⟨j, hj, rfl, hq4, K4⟩; refine V1.nextS hq4 (fun hjl d m w5 hrd hq5 K5 => ?_) (fun hge => ?_)
   · have hda := ha set[j] (List.getElem_mem _); rcases hrd with ⟨_, rfl, rfl⟩ | ⟨h1, _⟩
     · refine V1.i (by simp [go_sem] <;> trivial) ?_; refine If.t ?_; refine V1.i (by simp [go_sem] <;> trivial) ?_; refine J1.gd (c == set[j].toNat) (fun h k hk => ?_) ?_
       · exact V1.i (eq21 _ _ _ c set[j].toNat) hk
       refine V1.i (pkO _ _ _) ?_; rw [inR_step c set j hjl]; have e4 : w4.heap[q]? = _ := hq4; have e5 : w5.heap[q]? = _ := hq5; exact ⟨⟨j + 1, by omega, rfl, hq5, K4.trans' K5 (by simp; omega)⟩, by rw [e4, e5]; simp; omega⟩
     · omega
   · refine V1.i (by simp [go_sem] <;> trivial) ?_; refine If.f ?_; refine V1.i (by simp [go_sem] <;> trivial) ?_; have : j = set.length := by omega
     subst this; rw [List.take_length, inR_rc ha hrc]
     cases hcs : set.contains b with
     | false =>
       refine If.t ?_; exact ⟨by rw [hd, cutR_no hcs], K4⟩
     | true =>
       refine If.f ?_; rcases hrc with ⟨_, rfl, rfl⟩ | ⟨h1, _⟩
       · refine V1.i (by simp [go_sem] <;> trivial) ?_; refine V1.i (v := .int .i64 l.length) (w' := w4) (by rw [subI]; simp; all_goals (simp at ht ⊢ <;> omega)) ?_; refine V1.i (toS _ (l ++ [b]) l.length (by simp)) ?_; rw [List.take_left]; exact ⟨⟨l, by simp at ht; omega, rfl, K4, by rw [hd, cutR_yes hcs]⟩, by simp [str, ByteArray.size]⟩
       · have := ha _ (List.contains_iff_mem.1 hcs); omega
theorem dw_nil {p : UInt8 → Bool} : ∀ {l : List UInt8}, l.dropWhile p = [] ↔ l.all p = true
 | [] => by simp
 | b :: l => by
   rw [List.dropWhile_cons, List.all_cons]
   cases h : p b with
   | true => simpa using dw_nil
   | false => simp
theorem cut_nil (s set : List UInt8) : (cutR (s.dropWhile (fun b => set.contains b)) set == []) = s.all (fun b => set.contains b) := by
 have h1 : (cutR (s.dropWhile (fun b => set.contains b)) set = []) ↔ s.all (fun b => set.contains b) = true := by
   constructor
   · intro h; have h2 : (s.dropWhile (fun b => set.contains b)).all (fun b => set.contains b) = true := by
       rw [cutR, List.reverse_eq_nil_iff, dw_nil, List.all_reverse] at h; exact h
     cases hs : s.dropWhile (fun b => set.contains b) with
     | nil => exact dw_nil.1 hs
     | cons b l =>
       rw [hs, List.all_cons] at h2; have h3 := List.head?_dropWhile_not (fun b => set.contains b) s; rw [hs] at h3; simp only [List.head?_cons] at h3; rw [h3] at h2; simp at h2
   · intro h; rw [dw_nil.2 h]; rfl
 cases hb : s.all (fun b => set.contains b) with
 | true => rw [h1.2 hb]; rfl
 | false =>
   rw [Bool.eq_false_iff]; intro h; have := h1.1 (by simpa using h); rw [hb] at this
   cases this
theorem TX.fo {w : World} {b q : Nat} {buf : List UInt8} {parts : Nat} (h : TX w b buf parts) (hq : w.heap.size ≤ q) : FO b w q := by
 obtain ⟨lo, ⟨ad, v, ab, had, hv, hne, hbl, hlo⟩, g, h12, _⟩ := h; refine ⟨by omega, fun ad' v' rest' h' e => ?_⟩; have := at_inj ab h'; injection this with h1 h2; injection h2 with h2 h3; subst h2; have := (hv.lt e).2; omega
theorem TX.fon {w w' : World} {b q : Nat} {buf : List UInt8} {parts : Nat} (h : TX w b buf parts) (hk : Keep [] w w') (hq : w.heap.size ≤ q) : FO b w' q := by
 have h1 := h.fo hq; refine ⟨h1.1, fun ad v rest h' e => ?_⟩; obtain ⟨ad0, v0, rest0, ab0⟩ := h.ab; have := at_inj (hk.at ab0 (by simp)) h'; injection this with e1 e2; injection e2 with e2 e3; subst e2; exact h1.2 _ _ _ ab0 e
theorem KO.rep {b : Nat} {w w' : World} {t : Tr} {m : Md} {buf : List UInt8} {parts : Nat} (h : KO b w w') (ht : TX w b buf parts) (hr : Rep (FO b w) w t m) : Rep (FO b w') w' t m := by
 obtain ⟨M, hk, hM⟩ := h.same ht.ab (M := []); exact Rep.keep hk hM t m hr
theorem KO.strs {b : Nat} {w w' : World} {v : Value} {ss : List (List UInt8)} {buf : List UInt8} {parts : Nat} (h : KO b w w') (ht : TX w b buf parts) (hr : Strs (FO b w) w v ss) : Strs (FO b w') w' v ss := by
 obtain ⟨M, hk, hM⟩ := h.same ht.ab (M := []); exact Strs.keep hk hM hr
theorem KO.at {b q : Nat} {w w' : World} {cs : List Value} {buf : List UInt8} {parts : Nat} (h : KO b w w') (ht : TX w b buf parts) (ha : At w q cs) (hq : FO b w q) : At w' q cs ∧ FO b w' q := by
 obtain ⟨M, hk, hM⟩ := h.same ht.ab (M := []); exact ⟨hk.at ha (hM q hq ha.lt).1, (hM q hq ha.lt).2⟩
theorem c61 {w : World} {b : Nat} {buf : List UInt8} {parts : Nat} {r : PR} (h : TX w b buf parts) (hr : partT buf parts = r) :
   Calls Tryz.prog 61 #[ptr b] w (Ret (fun _ => POk w b r) (PEr w b r)) := by
 refine s61 ?_; unfold S61 ptr; have h' := h; obtain ⟨lo, ⟨ad, v, ab, had, hv, hne, hbl, hlo⟩, g, h12, hlen, hpar⟩ := h'; refine Up.i (Nc.p _ _) ?_; refine V1.i (by simp [go_sem] <;> trivial) ?_; refine V1.load (oneAll rfl) (ab) rfl ?_; refine V1.i (addI _ _ _ _ _ _ (by omega) (by omega)) ?_; refine Up.i (Nc.p _ _) ?_; refine V1.i (by simp [go_sem] <;> trivial) ?_; refine U1.store (onesAll rfl rfl) (ab) (by simp) fun w1 U1 => ?_; have ab1 := U1.at_; simp only [List.set_cons_zero, List.set_cons_succ] at ab1; refine Up.i (Nc.p _ _) ?_; refine V1.i (by simp [go_sem] <;> trivial) ?_; refine V1.load (oneAll rfl) (ab1) rfl ?_; have hb1 : BX lo w1 b [.int .i64 (parts + 1 : Nat)] buf := by
   refine ⟨ad, v, by simpa using ab1, ?_, hv.fr U1.keep (by simp; omega), hne, hbl, by have := U1.size; omega⟩; rcases had with ⟨rfl, e, n, hsh, hen⟩ | rfl
   · exact .inl ⟨rfl, e, n, by rw [U1.shp]; exact hsh, hen⟩
   · exact .inr rfl
 have g1 : GL w1 := g.keep U1.keep (by simp; omega); have K1 : KO b w w1 := by
   refine KO.of ab (U1.keep.mono (by simp)) fun ad' v' rest' h' g hg => ?_; have := at_inj ab1 h'; injection this with h1 h2; injection h2 with h2 h3; subst h2; exact .inl hg
 refine V1.i (v := .bool (decide (parts + 1 ≤ 65536))) (w' := w1) (by simp [go_sem]; omega) ?_; unfold partT at hr; refine cf20 (c20 w1 _ 3) ?_ ?_; rotate_left
 · rintro c w3 ⟨hb0, rfl, rfl⟩; have : ¬ parts + 1 ≤ 65536 := by simpa using hb0
   rw [if_neg this] at hr; subst hr; exact ⟨rfl, K1, ⟨_, _, _, ab1⟩, g1⟩
 rintro _ w3 ⟨hb0, rfl⟩; have hle : parts + 1 ≤ 65536 := by simpa using hb0
 rw [if_pos hle] at hr; subst hr; exact ⟨⟨lo, hb1, g1, h12, hlen, by omega⟩, K1⟩
theorem c64 {w : World} {b : Nat} {buf : List UInt8} {parts : Nat} {e : Tr} {v : Value} (h : TX w b buf parts) (hr : Rep (FO b w) w e (.P v)) (hk : kn e = true) :
   Calls Tryz.prog 64 #[v] w (Ret (fun v' w' => Rep (FO b w') w' (needT e) (.P v') ∧ Keep [] w w') NP) := by
 refine s64 ?_; unfold S64
 cases e with
 | nil =>
   obtain rfl : v = .pointer none := hr; refine V1.i (by simp [go_sem] <;> trivial) ?_; refine If.t ?_; refine V1.i (by simp [go_sem] <;> trivial) ?_; refine V1.new (bx47 _ _) fun b1 w1 N1 => ?_; have gN1 := N1.ge; have lN1 := N1.lt; have zN1 := N1.keep.size; have a1 := N1.at_; try simp only [Value.cells, List.toList_toArray] at a1
   refine ⟨⟨b1, 0, .pointer none, .pointer none, .slice none 0 0, .slice none 0 0, .slice none 0 0, .slice none 0 0, rfl, ?_, ?_, rfl, rfl, .inl rfl, .inl rfl, .inl ⟨rfl, rfl⟩, .inl rfl⟩, N1.keep⟩
   · exact h.fon N1.keep N1.ge
   · have := N1.at_; simpa [Value.cells, str] using this
 | ex k n text l r keys args params body =>
   obtain ⟨c, line, lv, rv, kv, av, pv, bv, rfl, h1, h2, h3⟩ := hr; unfold ptr; refine V1.i (by simp [go_sem] <;> trivial) ?_; refine If.f ?_; exact ⟨⟨c, line, lv, rv, kv, av, pv, bv, rfl, h1, h2, h3⟩, Keep.refl _ _⟩
 | hole => cases hk
 | cons => cases hk
 | st => cases hk
theorem c227 {w : World} {b : Nat} {ss : List (List UInt8)} (hb : At w b (ss.map str)) (hn : ss.length ≤ 100) (s : List UInt8) :
   Calls Tryz.prog 227 #[strs b ss.length, str s] w (Ret (fun v w' => (∃ i : Int, v = .int .i64 i ∧ decide (0 ≤ i) = ss.contains s) ∧ w' = w) NP) := by
 refine s227 ?_; unfold S227 strs; refine V1.i (by simp [go_sem] <;> trivial) ?_; refine L2.i (fun u v w' => w' = w ∧ ∃ j : Nat, j ≤ ss.length ∧ v = .int .i64 j ∧ ss.contains s = (ss.drop j).contains s) (fun u v w' => match v with | .int _ n => (ss.length - n.toNat) | _ => 0) ⟨rfl, 0, by omega, rfl, by simp⟩ ?_; rintro u v w1 ⟨rfl, j, hj, rfl, hm⟩; by_cases hlt : j < ss.length
 · rw [List.drop_eq_getElem_cons hlt, List.contains_cons] at hm; refine V1.i (v := .bool true) (w' := w1) (by simp [go_sem]; omega) ?_; refine If.t ?_; refine V1.i (ix45 _ hlt) ?_; refine V1.load (oneAll rfl) hb (v := str ss[j]) (by simp [hlt]) ?_; refine V1.i (eqS _ _ _ s ss[j]) ?_
   cases he : (s == ss[j]) with
   | true =>
     refine If.t ?_; exact ⟨⟨j, rfl, by rw [hm, he]; simp⟩, rfl⟩
   | false =>
     refine If.f ?_; refine V1.i (addI _ _ _ _ _ _ (by omega) (by omega)) ?_; exact ⟨⟨rfl, j + 1, by omega, by simp, by rw [hm, he]; simp⟩, by simp; omega⟩
 · have : j = ss.length := by omega
   subst this; refine V1.i (v := .bool false) (w' := w1) (by simp [go_sem]) ?_; refine If.f ?_; exact ⟨⟨-1, rfl, by rw [hm]; simp⟩, rfl⟩
theorem c207 {w : World} {b : Nat} {ss : List (List UInt8)} (hb : At w b (ss.map str)) (hn : ss.length ≤ 100) (s : List UInt8) :
   Calls Tryz.prog 207 #[strs b ss.length, str s] w (Ret (fun v w' => v = .bool (ss.contains s) ∧ w' = w) NP) := by
 refine s207 ?_; unfold S207; refine cf227 (c227 hb hn s) ?_ (NP.no (e := _)); rintro _ w1 ⟨⟨i, rfl, hi⟩, rfl⟩; refine V1.i (v := .bool (decide (0 ≤ i))) (w' := w1) (by simp [go_sem]) ?_; exact ⟨by rw [hi], rfl⟩
def lvlV : Array Value := (lvls.map str).toArray
theorem i235 : (Tryz.prog.info? 235).map (·.size) = some 10 := by kernel_rfl
theorem u235 : Tryz.prog.underlying 235 = some (.array 10 9) := by kernel_rfl
theorem ix235 (w : World) (k : Nat) (h : k < 10) : (Instr.index 235 (.agg lvlV) (.int .i64 k)).run Tryz.prog w = .ok (str (lvls.getD k [])) w := by
 have : k = 0 ∨ k = 1 ∨ k = 2 ∨ k = 3 ∨ k = 4 ∨ k = 5 ∨ k = 6 ∨ k = 7 ∨ k = 8 ∨ k = 9 := by omega
 rcases this with rfl | rfl | rfl | rfl | rfl | rfl | rfl | rfl | rfl | rfl <;> (show _ = _; kernel_rfl)
theorem lvl_bind (s : List UInt8) : ∀ k : Nat, k ≤ 10 → (∀ j, j < k → (fld j).contains s = false) → (k < 10 → (fld k).contains s = true → bindN s = k + 1) ∧ (k = 10 → bindN s = 0) := by
 intro k hk hno; constructor
 · intro hlt hc; have hmem : (s, (k : Int) + 1) ∈ opsL := by
     have h1 : ∀ k, k < 10 → ∀ x ∈ fld k, (x, (k : Int) + 1) ∈ opsL := by decide
     exact h1 k hlt s (List.contains_iff_mem.1 hc)
   exact opsL_bind _ hmem
 · rintro rfl; refine opsL_none s fun p hp e => ?_; subst e; have h1 : ∀ p ∈ opsL, ∃ j, j < 10 ∧ (fld j).contains p.1 = true := by decide
   obtain ⟨j, hj, hc⟩ := h1 p hp; rw [hno j hj] at hc
   cases hc
theorem c171 (w : World) (s : List UInt8) (g : GL w) : Calls Tryz.prog 171 #[str s] w (Ret (fun v w' => v = .int .i64 (bindN s) ∧ Keep [] w w') NP) := by
 refine s171 ?_; unfold S171; refine V1.i (v := .agg lvlV) (w' := w) (by simp [go_sem]; rfl) ?_; refine V1.i (al235 w) ?_; have K0 : Keep [] w (w.alloc (.cells lvlV 235)) := (Keep.refl _ _).alloc _; refine U1.i (run_storeAt_new w 235 _ lvlV i235 rfl (by kernel_rfl)) ?_; refine V1.i (run_loadAt_new w 235 lvlV 10 9 u235 i235) ?_; refine L2.i (fun u v w' => ∃ k : Nat, k ≤ 10 ∧ v = .int .i64 k ∧ Keep [] w w' ∧ ∀ j, j < k → (fld j).contains s = false) (fun u v w' => match v with | .int _ n => (10 - n.toNat) | _ => 0) ⟨0, by omega, rfl, K0, fun j hj => by omega⟩ ?_; rintro u v w1 ⟨k, hk, rfl, K1, hno⟩; have hlb := lvl_bind s k hk hno; by_cases hlt : k < 10
 · refine V1.i (v := .bool true) (w' := w1) (by simp [go_sem]; omega) ?_; refine If.t ?_; refine V1.i (v := str (lvls.getD k [])) (w' := w1) (ix235 w1 k hlt) ?_; obtain ⟨hll, hla⟩ := lvl_ok k hlt; refine cf56 (c56 w1 (lvls.getD k []) (g.new K1) (by omega) hla) ?_ (NP.no (e := _)); rintro _ w4 ⟨b4, rfl, N4⟩; have hf6 := fld_le k hlt; have e1 : Lib.fields (lvls.getD k []) = fld k := rfl; rw [e1] at N4 ⊢; have K4 := K1.trans' N4.keep (by simp); refine cf207 (c207 (N4.at_) (by omega) s) ?_ (NP.no (e := _)); rintro _ w5 ⟨rfl, rfl⟩
   cases hc : (fld k).contains s with
   | true =>
     refine If.t ?_; refine V1.i (addI _ _ _ _ _ _ (by omega) (by omega)) ?_; exact ⟨by rw [hlb.1 hlt hc], K4⟩
   | false =>
     refine If.f ?_; refine V1.i (addI _ _ _ _ _ _ (by omega) (by omega)) ?_; exact ⟨⟨k + 1, by omega, by simp, K4, fun j hj => by
       rcases Nat.lt_or_eq_of_le (Nat.lt_succ_iff.1 hj) with h | rfl
       · exact hno j h
       · exact hc⟩, by simp; omega⟩
 · have : k = 10 := by omega
   subst this; refine V1.i (v := .bool false) (w' := w1) (by simp [go_sem]) ?_; refine If.f ?_; exact ⟨by rw [hlb.2 rfl], K1⟩
end Go.Proofs.YtoddjlclpnoomaaGreatDoor

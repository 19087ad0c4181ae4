import Derived.Deep.WholeRow
import Derived.Laws.RangeAny
import Derived.Lib.OthersKept
import Derived.Lib.TrimAscii
import Derived.Lib.TrimUEq
import Derived.Test.YtoddjlclpnoomaaGreatDoorV8
import Derived.Test.YtoddjlclpnoomaaGreatDoorV10
import Derived.Test.YtoddjlclpnoomaaGreatDoorV15
set_option linter.unusedVariables false
set_option linter.unusedSimpArgs false
set_option maxRecDepth 100000
namespace Go.Proofs.YtoddjlclpnoomaaGreatDoor
open Go.Sh
def SIt (w : World) (r : Nat) (s : List UInt8) (pos : Nat) : Prop := w.heap[r]? = some (.stringIter ⟨s.toArray⟩ pos)
theorem SIt.lt {w : World} {r : Nat} {s : List UInt8} {pos : Nat} (h : SIt w r s pos) : r < w.heap.size := (Array.getElem?_eq_some_iff.1 h).1
theorem SIt.keep {M : List Nat} {w w' : World} {r : Nat} {s : List UInt8} {pos : Nat} (h : SIt w r s pos) (hk : Keep M w w') (hr : r ∉ M) : SIt w' r s pos := by
 unfold SIt at *; rw [hk.same r (SIt.lt h) hr, h]
theorem V1.rangeS {w : World} {s : List UInt8} {k : Value → World → Prop} {e : List PanicEntry → World → Prop} (hk : ∀ r w', SIt w' r s 0 → w.heap.size ≤ r → Keep [] w w' → k (ptr r) w') : V1 Tryz.prog (Instr.range 9 (str s)) w k e :=
  V1.i (run_range_string (P := Tryz.prog) w 9 ⟨s.toArray⟩ (by kernel_rfl)) (hk _ _ (by unfold SIt World.iter; rw [alloc_get, if_pos rfl]) (Nat.le_refl _) ((Keep.refl _ _).alloc _))
def RC (b : UInt8) (c n : Nat) : Prop := (b.toNat < 128 ∧ c = b.toNat ∧ n = 1) ∨ (128 ≤ b.toNat ∧ 128 ≤ c ∧ 1 ≤ n)
theorem rc_at (s : List UInt8) (pos : Nat) (h : pos < s.length) : RC s[pos] (Utf8.decode ⟨s.toArray⟩ pos).1 (Utf8.decode ⟨s.toArray⟩ pos).2 := by
 by_cases hb : s[pos].toNat < 128
 · left
   rw [decode_ascii ⟨s.toArray⟩ pos h hb]; exact ⟨hb, rfl, rfl⟩
 · right
   exact ⟨by omega, decode_high ⟨s.toArray⟩ pos h (by show 128 ≤ s[pos].toNat; omega)⟩
theorem V1.nextS {w : World} {r pos : Nat} {s : List UInt8} {k : Value → World → Prop} {e : List PanicEntry → World → Prop} (h : SIt w r s pos)
   (hk : ∀ (hp : pos < s.length) c n w', RC s[pos] c n → SIt w' r s (pos + n) → Keep [r] w w' → k (.tuple #[.bool true, .int .i64 pos, .int .i32 c]) w')
   (he : s.length ≤ pos → k (.tuple #[.bool false]) w) : V1 Tryz.prog (Instr.next (ptr r) true 0) w k e := by
 by_cases hp : pos < s.length
 · refine V1.i (Lib.run_next_any_at (P := Tryz.prog) w r ⟨s.toArray⟩ pos 0 h hp) (hk hp _ _ _ (rc_at s pos hp) (Lib.iterAt_heap _ _ _ _ _ h) ⟨by rw [Lib.iterAt_size]; exact Nat.le_refl _, fun i hi hm => Lib.iterAt_other _ _ _ _ _ (by simpa using hm), rfl, rfl⟩)
 · exact V1.i (Lib.run_next_end_at (P := Tryz.prog) w r ⟨s.toArray⟩ pos 0 h hp) (he (by omega))
def inR (c : Nat) (set : List UInt8) : Bool := set.any fun d => d.toNat == c
theorem inR_ascii (b : UInt8) (set : List UInt8) : inR b.toNat set = set.contains b := by
 unfold inR; induction set with
 | nil => rfl
 | cons d l ih =>
   simp only [List.any_cons, List.contains_cons, ih]; congr 1
   by_cases h : b = d
   · subst h; simp
   · have h1 : (b == d) = false := by simpa using h
     have h2 : (d.toNat == b.toNat) = false := by simpa using fun e => h (UInt8.toNat_inj.1 e).symm
     rw [h1, h2]
theorem inR_high {c : Nat} {set : List UInt8} (ha : ∀ b ∈ set, b.toNat < 128) (hc : 128 ≤ c) : inR c set = false := by
 unfold inR; rw [List.any_eq_false]; intro d hd; have := ha d hd; simp; omega
theorem inR_rc {b : UInt8} {c n : Nat} {set : List UInt8} (ha : ∀ b ∈ set, b.toNat < 128) (h : RC b c n) : inR c set = set.contains b := by
 rcases h with ⟨h1, rfl, _⟩ | ⟨h1, h2, _⟩
 · exact inR_ascii b set
 · rw [inR_high ha h2]; symm
   rw [Bool.eq_false_iff]; intro hc; have := ha b (List.contains_iff_mem.1 hc); omega
theorem inR_step (c : Nat) (set : List UInt8) (j : Nat) (h : j < set.length) : (inR c (set.take j) || (c == set[j].toNat)) = inR c (set.take (j + 1)) := by
 unfold inR; rw [List.take_succ_eq_append_getElem h, List.any_append]; simp only [List.any_cons, List.any_nil, Bool.or_false]; congr 1
 exact Bool.beq_comm
theorem eq21 (w : World) (cx cy : Bool) (a b : Nat) : (Bo .eql 21 cx cy (.int .i32 a) (.int .i32 b)).run Tryz.prog w = .ok (.bool (a == b)) w := by
 have : ((a : Int) == (b : Int)) = (a == b) := by
   by_cases h : a = b
   · subst h; simp
   · have h2 : (a == b) = false := by simpa using h
     rw [h2]; simp; omega
 simp [go_sem, Bo, this]
theorem c168 (w : World) (s set : List UInt8) (hs : s.length ≤ 1099511627776) (ha : ∀ b ∈ set, b.toNat < 128) :
   Calls Tryz.prog 168 #[str s, str set] w (Ret (fun v w' => v = str (s.dropWhile (fun b => set.contains b)) ∧ Keep [] w w') NP) := by
 refine s168 ?_; unfold S168; refine V1.rangeS fun r w1 hr gr K1 => ?_; refine L1.i (fun v w' => ∃ pos, pos ≤ s.length ∧ SIt w' r s pos ∧ Keep [] w w' ∧ s.dropWhile (fun b => set.contains b) = (s.drop pos).dropWhile (fun b => set.contains b)) (fun v w' => s.length - (match w'.heap[r]? with | some (.stringIter _ p) => p | _ => 0)) ⟨0, by omega, hr, K1, rfl⟩ ?_; clear hr K1; rintro v w1 ⟨pos, hp, hr, K1, hd⟩; have hlr := hr.lt; refine V1.nextS hr (fun hlt c n w2 hrc hr2 K2 => ?_) (fun hge => ?_)
 · have K12 : Keep [] w w2 := K1.trans' K2 (by simp; omega); rw [List.drop_eq_getElem_cons hlt] at hd; refine V1.i (by simp [go_sem] <;> trivial) ?_; refine If.t ?_; refine V1.i (by simp [go_sem] <;> trivial) ?_; refine V1.i (by simp [go_sem] <;> trivial) ?_; refine V1.rangeS fun q w3 hq gq K3 => ?_; have z2 := K12.size; have z21 := K2.size; have K13 : Keep [] w w3 := K12.trans' K3 (by simp); have hr3 := hr2.keep K3 (by simp); have hneq : q ≠ r := by omega
   refine L1.i (fun v w' => ∃ j, j ≤ set.length ∧ v = .bool (inR c (set.take j)) ∧ SIt w' q set j ∧ SIt w' r s (pos + n) ∧ Keep [] w w') (fun v w' => set.length - (match w'.heap[q]? with | some (.stringIter _ p) => p | _ => 0)) ⟨0, by omega, by simp [inR], hq, hr3, K13⟩ ?_; rintro v w4 ⟨j, hj, rfl, hq4, hr4, K4⟩; refine V1.nextS hq4 (fun hjl d m w5 hrd hq5 K5 => ?_) (fun hge => ?_)
   · have hda := ha set[j] (List.getElem_mem _); rcases hrd with ⟨_, rfl, rfl⟩ | ⟨h1, _⟩
     · refine V1.i (by simp [go_sem] <;> trivial) ?_; refine If.t ?_; refine V1.i (by simp [go_sem] <;> trivial) ?_; refine J1.gd (c == set[j].toNat) (fun h k hk => ?_) ?_
       · exact V1.i (eq21 _ _ _ c set[j].toNat) hk
       refine V1.i (pkO _ _ _) ?_; rw [inR_step c set j hjl]; have e4 : w4.heap[q]? = _ := hq4; have e5 : w5.heap[q]? = _ := hq5; exact ⟨⟨j + 1, by omega, rfl, hq5, hr4.keep K5 (by simpa using fun e => hneq e.symm), K4.trans' K5 (by simp; omega)⟩, by rw [e4, e5]; simp; omega⟩
     · omega
   · refine V1.i (by simp [go_sem] <;> trivial) ?_; refine If.f ?_; refine V1.i (by simp [go_sem] <;> trivial) ?_; have : j = set.length := by omega
     subst this; rw [List.take_length, inR_rc ha hrc]
     cases hcs : set.contains s[pos] with
     | false =>
       refine If.t ?_; refine V1.i (fromS _ s pos (by omega)) ?_; refine ⟨?_, K4⟩; rw [hd, List.dropWhile_cons, hcs, ← List.drop_eq_getElem_cons hlt]; rfl
     | true =>
       refine If.f ?_; have e1 : w1.heap[r]? = _ := hr; have e4 : w4.heap[r]? = _ := hr4; rcases hrc with ⟨_, rfl, rfl⟩ | ⟨h1, _⟩
       · exact ⟨⟨pos + 1, by omega, hr4, K4, by rw [hd, List.dropWhile_cons, hcs]; rfl⟩, by rw [e1, e4]; simp; omega⟩
       · have := ha _ (List.contains_iff_mem.1 hcs); omega
 · refine V1.i (by simp [go_sem] <;> trivial) ?_; refine If.f ?_; have : pos = s.length := by omega
   subst this; rw [List.drop_length] at hd; exact ⟨by rw [hd]; rfl, K1⟩
def cutR (s set : List UInt8) : List UInt8 := (s.reverse.dropWhile (fun b => set.contains b)).reverse
theorem cutR_yes {s set : List UInt8} {b : UInt8} (h : set.contains b = true) : cutR (s ++ [b]) set = cutR s set := by
 simp only [cutR, List.reverse_append, List.reverse_cons, List.reverse_nil, List.nil_append, List.cons_append, List.dropWhile_cons, h, if_true]
theorem cutR_no {s set : List UInt8} {b : UInt8} (h : set.contains b = false) : cutR (s ++ [b]) set = s ++ [b] := by
 simp only [cutR, List.reverse_append, List.reverse_cons, List.reverse_nil, List.nil_append, List.cons_append, List.dropWhile_cons, h, Bool.false_eq_true, if_false, List.reverse_reverse]
theorem rc_last (t : List UInt8) (b : UInt8) : RC b (Lib.decodeLastL (t ++ [b])).1 (Lib.decodeLastL (t ++ [b])).2 := by
 by_cases hb : b.toNat < 128
 · left
   rw [Lib.decodeLastL_ascii t b hb]; exact ⟨hb, rfl, rfl⟩
 · right
   have hw := (Lib.decodeLastL_width (t ++ [b]) (by simp)).1; refine ⟨by omega, ?_, hw⟩; have hg : (t ++ [b]).getD ((t ++ [b]).length - 1) 0 = b := by simp [List.getD]
   unfold Lib.decodeLastL; rw [if_neg (by simp), hg, if_neg hb]; simp only
   split
   · rename_i hl
     have hls : Lib.lastStart (t ++ [b]) + 2 ≤ (t ++ [b]).length ∨ Lib.lastStart (t ++ [b]) = 0 := by
       unfold Lib.lastStart; simp only
       repeat' split
       all_goals omega
     have hne : Lib.lastStart (t ++ [b]) < (t ++ [b]).length := by
       rcases hls with h | h
       · omega
       · rw [h]; simp
     have hrc := rc_at ((t ++ [b]).drop (Lib.lastStart (t ++ [b]))) 0 (by rw [List.length_drop]; omega); rcases hrc with ⟨h1, h2, h3⟩ | ⟨h1, h2, h3⟩
     · exfalso
       unfold Lib.decodeL at hl; rw [h3] at hl; have e : Lib.lastStart (t ++ [b]) = t.length := by simp at hl; omega
       have e2 : ((t ++ [b]).drop (Lib.lastStart (t ++ [b])))[0]'(by rw [List.length_drop]; omega) = b := by simp [e]
       rw [e2] at h1; omega
     · exact h2
   · simp [Utf8.runeError]
theorem c167 (w : World) (s set : List UInt8) (g : GL w) (hs : s.length ≤ 1099511627776) (ha : ∀ b ∈ set, b.toNat < 128) :
   Calls Tryz.prog 167 #[str s, str set] w (Ret (fun v w' => v = str (cutR s set) ∧ Keep [] w w') NP) := by
 refine s167 ?_; unfold S167; refine L2.i (fun u v w' => ∃ t, t.length ≤ s.length ∧ v = str t ∧ Keep [] w w' ∧ cutR s set = cutR t set) (fun u v w' => match v with | .string b => b.size | _ => 0) ⟨s, by omega, rfl, Keep.refl _ _, rfl⟩ ?_; rintro u v w1 ⟨t, ht, rfl, K1, hd⟩; have g1 := g.new K1; rcases List.eq_nil_or_concat t with rfl | ⟨l, b, hlb⟩
 · refine V1.i (by simp [go_sem] <;> trivial) ?_; refine If.b (fun h => by simp at h) (fun _ => ?_); exact ⟨by rw [hd]; rfl, K1⟩
 rw [List.concat_eq_append] at hlb; subst hlb
 · refine V1.i (by simp [go_sem] <;> trivial) ?_; refine If.b (fun h => ?_) (fun h => absurd h (by simp)); have hl206 : (l ++ [b]).length ≤ 9223372036854775807 := Nat.le_trans (Nat.le_trans ht hs) (by decide); have h206 := c206 w1 (l ++ [b]) g1 hl206; refine cf206 (h206) ?_ (NP.no (e := _)); rintro _ w2 ⟨rfl, K2⟩; have hrc := rc_last l b; generalize (Lib.decodeLastL (l ++ [b])).1 = c at *; generalize (Lib.decodeLastL (l ++ [b])).2 = n at *; refine V1.i (by simp [go_sem] <;> trivial) ?_; refine V1.i (by simp [go_sem] <;> trivial) ?_; refine V1.rangeS fun q w3 hq gq K3 => ?_; have K13 : Keep [] w w3 := (K1.trans' K2 (by simp)).trans' K3 (by simp); have z2 := (K1.trans' K2 (by simp)).size
   refine L1.i (fun v w' => ∃ j, j ≤ set.length ∧ v = .bool (inR c (set.take j)) ∧ SIt w' q set j ∧ Keep [] w w') (fun v w' => set.length - (match w'.heap[q]? with | some (.stringIter _ p) => p | _ => 0)) ⟨0, by omega, by simp [inR], hq, K13⟩ ?_; rintro v w4 ⟨j, hj, rfl, hq4, K4⟩; refine V1.nextS hq4 (fun hjl d m w5 hrd hq5 K5 => ?_) (fun hge => ?_)
   · have hda := ha set[j] (List.getElem_mem _); rcases hrd with ⟨_, rfl, rfl⟩ | ⟨h1, _⟩
     · refine V1.i (by simp [go_sem] <;> trivial) ?_; refine If.t ?_; refine V1.i (by simp [go_sem] <;> trivial) ?_; refine J1.gd (c == set[j].toNat) (fun h k hk => ?_) ?_
       · exact V1.i (eq21 _ _ _ c set[j].toNat) hk
       refine V1.i (pkO _ _ _) ?_; rw [inR_step c set j hjl]; have e4 : w4.heap[q]? = _ := hq4; have e5 : w5.heap[q]? = _ := hq5; exact ⟨⟨j + 1, by omega, rfl, hq5, K4.trans' K5 (by simp; omega)⟩, by rw [e4, e5]; simp; omega⟩
     · omega
   · refine V1.i (by simp [go_sem] <;> trivial) ?_; refine If.f ?_; refine V1.i (by simp [go_sem] <;> trivial) ?_; have : j = set.length := by omega
     subst this; rw [List.take_length, inR_rc ha hrc]
     cases hcs : set.contains b with
     | false =>
       refine If.t ?_; exact ⟨by rw [hd, cutR_no hcs], K4⟩
     | true =>
       refine If.f ?_; rcases hrc with ⟨_, rfl, rfl⟩ | ⟨h1, _⟩
       · refine V1.i (by simp [go_sem] <;> trivial) ?_; refine V1.i (v := .int .i64 l.length) (w' := w4) (by rw [subI]; simp; all_goals (simp at ht ⊢ <;> omega)) ?_; refine V1.i (toS _ (l ++ [b]) l.length (by simp)) ?_; rw [List.take_left]; exact ⟨⟨l, by simp at ht; omega, rfl, K4, by rw [hd, cutR_yes hcs]⟩, by simp [str, ByteArray.size]⟩
       · have := ha _ (List.contains_iff_mem.1 hcs); omega
theorem dw_nil {p : UInt8 → Bool} : ∀ {l : List UInt8}, l.dropWhile p = [] ↔ l.all p = true
 | [] => by simp
 | b :: l => by
   rw [List.dropWhile_cons, List.all_cons]
   cases h : p b with
   | true => simpa using dw_nil
   | false => simp
theorem cut_nil (s set : List UInt8) : (cutR (s.dropWhile (fun b => set.contains b)) set == []) = s.all (fun b => set.contains b) := by
 have h1 : (cutR (s.dropWhile (fun b => set.contains b)) set = []) ↔ s.all (fun b => set.contains b) = true := by
   constructor
   · intro h; have h2 : (s.dropWhile (fun b => set.contains b)).all (fun b => set.contains b) = true := by
       rw [cutR, List.reverse_eq_nil_iff, dw_nil, List.all_reverse] at h; exact h
     cases hs : s.dropWhile (fun b => set.contains b) with
     | nil => exact dw_nil.1 hs
     | cons b l =>
       rw [hs, List.all_cons] at h2; have h3 := List.head?_dropWhile_not (fun b => set.contains b) s; rw [hs] at h3; simp only [List.head?_cons] at h3; rw [h3] at h2; simp at h2
   · intro h; rw [dw_nil.2 h]; rfl
 cases hb : s.all (fun b => set.contains b) with
 | true => rw [h1.2 hb]; rfl
 | false =>
   rw [Bool.eq_false_iff]; intro h; have := h1.1 (by simpa using h); rw [hb] at this
   cases this
theorem TX.fo {w : World} {b q : Nat} {buf : List UInt8} {parts : Nat} (h : TX w b buf parts) (hq : w.heap.size ≤ q) : FO b w q := by
 obtain ⟨lo, ⟨ad, v, ab, had, hv, hne, hbl, hlo⟩, g, h12, _⟩ := h; refine ⟨by omega, fun ad' v' rest' h' e => ?_⟩; have := at_inj ab h'; injection this with h1 h2; injection h2 with h2 h3; subst h2; have := (hv.lt e).2; omega
theorem TX.fon {w w' : World} {b q : Nat} {buf : List UInt8} {parts : Nat} (h : TX w b buf parts) (hk : Keep [] w w') (hq : w.heap.size ≤ q) : FO b w' q := by
 have h1 := h.fo hq; refine ⟨h1.1, fun ad v rest h' e => ?_⟩; obtain ⟨ad0, v0, rest0, ab0⟩ := h.ab; have := at_inj (hk.at ab0 (by simp)) h'; injection this with e1 e2; injection e2 with e2 e3; subst e2; exact h1.2 _ _ _ ab0 e
theorem KO.rep {b : Nat} {w w' : World} {t : Tr} {m : Md} {buf : List UInt8} {parts : Nat} (h : KO b w w') (ht : TX w b buf parts) (hr : Rep (FO b w) w t m) : Rep (FO b w') w' t m := by
 obtain ⟨M, hk, hM⟩ := h.same ht.ab (M := []); exact Rep.keep hk hM t m hr
theorem KO.strs {b : Nat} {w w' : World} {v : Value} {ss : List (List UInt8)} {buf : List UInt8} {parts : Nat} (h : KO b w w') (ht : TX w b buf parts) (hr : Strs (FO b w) w v ss) : Strs (FO b w') w' v ss := by
 obtain ⟨M, hk, hM⟩ := h.same ht.ab (M := []); exact Strs.keep hk hM hr
theorem KO.at {b q : Nat} {w w' : World} {cs : List Value} {buf : List UInt8} {parts : Nat} (h : KO b w w') (ht : TX w b buf parts) (ha : At w q cs) (hq : FO b w q) : At w' q cs ∧ FO b w' q := by
 obtain ⟨M, hk, hM⟩ := h.same ht.ab (M := []); exact ⟨hk.at ha (hM q hq ha.lt).1, (hM q hq ha.lt).2⟩
theorem c61 {w : World} {b : Nat} {buf : List UInt8} {parts : Nat} {r : PR} (h : TX w b buf parts) (hr : partT buf parts = r) :
   Calls Tryz.prog 61 #[ptr b] w (Ret (fun _ => POk w b r) (PEr w b r)) := by
 refine s61 ?_; unfold S61 ptr; have h' := h; obtain ⟨lo, ⟨ad, v, ab, had, hv, hne, hbl, hlo⟩, g, h12, hlen, hpar⟩ := h'; refine Up.i (Nc.p _ _) ?_; refine V1.i (by simp [go_sem] <;> trivial) ?_; refine V1.load (oneAll rfl) (ab) rfl ?_; refine V1.i (addI _ _ _ _ _ _ (by omega) (by omega)) ?_; refine Up.i (Nc.p _ _) ?_; refine V1.i (by simp [go_sem] <;> trivial) ?_; refine U1.store (onesAll rfl rfl) (ab) (by simp) fun w1 U1 => ?_; have ab1 := U1.at_; simp only [List.set_cons_zero, List.set_cons_succ] at ab1; refine Up.i (Nc.p _ _) ?_; refine V1.i (by simp [go_sem] <;> trivial) ?_; refine V1.load (oneAll rfl) (ab1) rfl ?_; have hb1 : BX lo w1 b [.int .i64 (parts + 1 : Nat)] buf := by
   refine ⟨ad, v, by simpa using ab1, ?_, hv.fr U1.keep (by simp; omega), hne, hbl, by have := U1.size; omega⟩; rcases had with ⟨rfl, e, n, hsh, hen⟩ | rfl
   · exact .inl ⟨rfl, e, n, by rw [U1.shp]; exact hsh, hen⟩
   · exact .inr rfl
 have g1 : GL w1 := g.keep U1.keep (by simp; omega); have K1 : KO b w w1 := by
   refine KO.of ab (U1.keep.mono (by simp)) fun ad' v' rest' h' g hg => ?_; have := at_inj ab1 h'; injection this with h1 h2; injection h2 with h2 h3; subst h2; exact .inl hg
 refine V1.i (v := .bool (decide (parts + 1 ≤ 65536))) (w' := w1) (by simp [go_sem]; omega) ?_; unfold partT at hr; refine cf20 (c20 w1 _ 3) ?_ ?_; rotate_left
 · rintro c w3 ⟨hb0, rfl, rfl⟩; have : ¬ parts + 1 ≤ 65536 := by simpa using hb0
   rw [if_neg this] at hr; subst hr; exact ⟨rfl, K1, ⟨_, _, _, ab1⟩, g1⟩
 rintro _ w3 ⟨hb0, rfl⟩; have hle : parts + 1 ≤ 65536 := by simpa using hb0
 rw [if_pos hle] at hr; subst hr; exact ⟨⟨lo, hb1, g1, h12, hlen, by omega⟩, K1⟩
theorem c64 {w : World} {b : Nat} {buf : List UInt8} {parts : Nat} {e : Tr} {v : Value} (h : TX w b buf parts) (hr : Rep (FO b w) w e (.P v)) (hk : kn e = true) :
   Calls Tryz.prog 64 #[v] w (Ret (fun v' w' => Rep (FO b w') w' (needT e) (.P v') ∧ Keep [] w w') NP) := by
 refine s64 ?_; unfold S64
 cases e with
 | nil =>
   obtain rfl : v = .pointer none := hr; refine V1.i (by simp [go_sem] <;> trivial) ?_; refine If.t ?_; refine V1.i (by simp [go_sem] <;> trivial) ?_; refine V1.new (bx47 _ _) fun b1 w1 N1 => ?_; have gN1 := N1.ge; have lN1 := N1.lt; have zN1 := N1.keep.size; have a1 := N1.at_; try simp only [Value.cells, List.toList_toArray] at a1
   refine ⟨⟨b1, 0, .pointer none, .pointer none, .slice none 0 0, .slice none 0 0, .slice none 0 0, .slice none 0 0, rfl, ?_, ?_, rfl, rfl, .inl rfl, .inl rfl, .inl ⟨rfl, rfl⟩, .inl rfl⟩, N1.keep⟩
   · exact h.fon N1.keep N1.ge
   · have := N1.at_; simpa [Value.cells, str] using this
 | ex k n text l r keys args params body =>
   obtain ⟨c, line, lv, rv, kv, av, pv, bv, rfl, h1, h2, h3⟩ := hr; unfold ptr; refine V1.i (by simp [go_sem] <;> trivial) ?_; refine If.f ?_; exact ⟨⟨c, line, lv, rv, kv, av, pv, bv, rfl, h1, h2, h3⟩, Keep.refl _ _⟩
 | hole => cases hk
 | cons => cases hk
 | st => cases hk
theorem c227 {w : World} {b : Nat} {ss : List (List UInt8)} (hb : At w b (ss.map str)) (hn : ss.length ≤ 100) (s : List UInt8) :
   Calls Tryz.prog 227 #[strs b ss.length, str s] w (Ret (fun v w' => (∃ i : Int, v = .int .i64 i ∧ decide (0 ≤ i) = ss.contains s) ∧ w' = w) NP) := by
 refine s227 ?_; unfold S227 strs; refine V1.i (by simp [go_sem] <;> trivial) ?_; refine L2.i (fun u v w' => w' = w ∧ ∃ j : Nat, j ≤ ss.length ∧ v = .int .i64 j ∧ ss.contains s = (ss.drop j).contains s) (fun u v w' => match v with | .int _ n => (ss.length - n.toNat) | _ => 0) ⟨rfl, 0, by omega, rfl, by simp⟩ ?_; rintro u v w1 ⟨rfl, j, hj, rfl, hm⟩; by_cases hlt : j < ss.length
 · rw [List.drop_eq_getElem_cons hlt, List.contains_cons] at hm; refine V1.i (v := .bool true) (w' := w1) (by simp [go_sem]; omega) ?_; refine If.t ?_; refine V1.i (ix45 _ hlt) ?_; refine V1.load (oneAll rfl) hb (v := str ss[j]) (by simp [hlt]) ?_; refine V1.i (eqS _ _ _ s ss[j]) ?_
   cases he : (s == ss[j]) with
   | true =>
     refine If.t ?_; exact ⟨⟨j, rfl, by rw [hm, he]; simp⟩, rfl⟩
   | false =>
     refine If.f ?_; refine V1.i (addI _ _ _ _ _ _ (by omega) (by omega)) ?_; exact ⟨⟨rfl, j + 1, by omega, by simp, by rw [hm, he]; simp⟩, by simp; omega⟩
 · have : j = ss.length := by omega
   subst this; refine V1.i (v := .bool false) (w' := w1) (by simp [go_sem]) ?_; refine If.f ?_; exact ⟨⟨-1, rfl, by rw [hm]; simp⟩, rfl⟩
theorem c207 {w : World} {b : Nat} {ss : List (List UInt8)} (hb : At w b (ss.map str)) (hn : ss.length ≤ 100) (s : List UInt8) :
   Calls Tryz.prog 207 #[strs b ss.length, str s] w (Ret (fun v w' => v = .bool (ss.contains s) ∧ w' = w) NP) := by
 refine s207 ?_; unfold S207; refine cf227 (c227 hb hn s) ?_ (NP.no (e := _)); rintro _ w1 ⟨⟨i, rfl, hi⟩, rfl⟩; refine V1.i (v := .bool (decide (0 ≤ i))) (w' := w1) (by simp [go_sem]) ?_; exact ⟨by rw [hi], rfl⟩
def lvlV : Array Value := (lvls.map str).toArray
theorem i235 : (Tryz.prog.info? 235).map (·.size) = some 10 := by kernel_rfl
theorem u235 : Tryz.prog.underlying 235 = some (.array 10 9) := by kernel_rfl
theorem ix235 (w : World) (k : Nat) (h : k < 10) : (Instr.index 235 (.agg lvlV) (.int .i64 k)).run Tryz.prog w = .ok (str (lvls.getD k [])) w := by
 have : k = 0 ∨ k = 1 ∨ k = 2 ∨ k = 3 ∨ k = 4 ∨ k = 5 ∨ k = 6 ∨ k = 7 ∨ k = 8 ∨ k = 9 := by omega
 rcases this with rfl | rfl | rfl | rfl | rfl | rfl | rfl | rfl | rfl | rfl <;> (show _ = _; kernel_rfl)
theorem lvl_bind (s : List UInt8) : ∀ k : Nat, k ≤ 10 → (∀ j, j < k → (fld j).contains s = false) → (k < 10 → (fld k).contains s = true → bindN s = k + 1) ∧ (k = 10 → bindN s = 0) := by
 intro k hk hno; constructor
 · intro hlt hc; have hmem : (s, (k : Int) + 1) ∈ opsL := by
     have h1 : ∀ k, k < 10 → ∀ x ∈ fld k, (x, (k : Int) + 1) ∈ opsL := by decide
     exact h1 k hlt s (List.contains_iff_mem.1 hc)
   exact opsL_bind _ hmem
 · rintro rfl; refine opsL_none s fun p hp e => ?_; subst e; have h1 : ∀ p ∈ opsL, ∃ j, j < 10 ∧ (fld j).contains p.1 = true := by decide
   obtain ⟨j, hj, hc⟩ := h1 p hp; rw [hno j hj] at hc
   cases hc
theorem c171 (w : World) (s : List UInt8) (g : GL w) : Calls Tryz.prog 171 #[str s] w (Ret (fun v w' => v = .int .i64 (bindN s) ∧ Keep [] w w') NP) := by
 refine s171 ?_; unfold S171; refine V1.i (v := .agg lvlV) (w' := w) (by simp [go_sem]; rfl) ?_; refine V1.i (al235 w) ?_; have K0 : Keep [] w (w.alloc (.cells lvlV 235)) := (Keep.refl _ _).alloc _; refine U1.i (run_storeAt_new w 235 _ lvlV i235 rfl (by kernel_rfl)) ?_; refine V1.i (run_loadAt_new w 235 lvlV 10 9 u235 i235) ?_; refine L2.i (fun u v w' => ∃ k : Nat, k ≤ 10 ∧ v = .int .i64 k ∧ Keep [] w w' ∧ ∀ j, j < k → (fld j).contains s = false) (fun u v w' => match v with | .int _ n => (10 - n.toNat) | _ => 0) ⟨0, by omega, rfl, K0, fun j hj => by omega⟩ ?_; rintro u v w1 ⟨k, hk, rfl, K1, hno⟩; have hlb := lvl_bind s k hk hno; by_cases hlt : k < 10
 · refine V1.i (v := .bool true) (w' := w1) (by simp [go_sem]; omega) ?_; refine If.t ?_; refine V1.i (v := str (lvls.getD k [])) (w' := w1) (ix235 w1 k hlt) ?_; obtain ⟨hll, hla⟩ := lvl_ok k hlt; refine cf56 (c56 w1 (lvls.getD k []) (g.new K1) (by omega) hla) ?_ (NP.no (e := _)); rintro _ w4 ⟨b4, rfl, N4⟩; have hf6 := fld_le k hlt; have e1 : Lib.fields (lvls.getD k []) = fld k := rfl; rw [e1] at N4 ⊢; have K4 := K1.trans' N4.keep (by simp); refine cf207 (c207 (N4.at_) (by omega) s) ?_ (NP.no (e := _)); rintro _ w5 ⟨rfl, rfl⟩
   cases hc : (fld k).contains s with
   | true =>
     refine If.t ?_; refine V1.i (addI _ _ _ _ _ _ (by omega) (by omega)) ?_; exact ⟨by rw [hlb.1 hlt hc], K4⟩
   | false =>
     refine If.f ?_; refine V1.i (addI _ _ _ _ _ _ (by omega) (by omega)) ?_; exact ⟨⟨k + 1, by omega, by simp, K4, fun j hj => by
       rcases Nat.lt_or_eq_of_le (Nat.lt_succ_iff.1 hj) with h | rfl
       · exact hno j h
       · exact hc⟩, by simp; omega⟩
 · have : k = 10 := by omega
   subst this; refine V1.i (v := .bool false) (w' := w1) (by simp [go_sem]) ?_; refine If.f ?_; exact ⟨by rw [hlb.2 rfl], K1⟩
theorem c205 {w : World} {b : Nat} (hb : At w b [.int .i64 10, .int .i64 11, .int .i64 9]) (k : Int) :
   Calls Tryz.prog 205 #[.slice (some ⟨b, 0, none⟩) 3 3, .int .i64 k] w (Ret (fun v w' => (∃ i : Int, v = .int .i64 i ∧ decide (0 ≤ i) = (k == 10 || k == 11 || k == 9)) ∧ w' = w) NP) := by
 refine s205 ?_; unfold S205; refine V1.i (by simp [go_sem] <;> trivial) ?_; refine L2.i (fun u v w' => w' = w ∧ ∃ j : Nat, j ≤ 3 ∧ v = .int .i64 j ∧ ((k == 10 || k == 11 || k == 9) = ((([10, 11, 9] : List Int).drop j).any fun x => k == x))) (fun u v w' => match v with | .int _ n => (3 - n.toNat) | _ => 0) ⟨rfl, 0, by omega, rfl, by simp [Bool.or_assoc]⟩ ?_; rintro u v w1 ⟨rfl, j, hj, rfl, hm⟩; have hix : ∀ j : Nat, j < 3 → (Instr.indexAt 199 (.slice (some ⟨b, 0, none⟩) 3 3) (.int .i64 j)).run Tryz.prog w1 = .ok (.pointer (some ⟨b, j, none⟩)) w1 := by
   intro j hj; have h1 : (j : Int) < 3 := by omega
   simp [go_sem, hj, h1, Addr.add]
   try (rintro rfl; rfl)
 have hj4 : j = 0 ∨ j = 1 ∨ j = 2 ∨ j = 3 := by omega
 rcases hj4 with rfl | rfl | rfl | rfl
 · refine V1.i (by simp [go_sem] <;> trivial) ?_; refine If.t ?_; refine V1.i (hix 0 (by omega)) ?_; refine V1.load (oneAll rfl) (hb) rfl ?_; refine V1.i (v := .bool (k == 10)) (w' := w1) (by simp [go_sem]) ?_
   cases he : (k == 10) with
   | true => exact If.t ⟨⟨0, rfl, by rfl⟩, rfl⟩
   | false =>
     refine If.f ?_; refine V1.i (addI _ _ _ _ _ _ (by omega) (by omega)) ?_; exact ⟨⟨rfl, 1, by omega, rfl, by rw [he] at hm; simp [Bool.or_assoc]⟩, by simp⟩
 · refine V1.i (by simp [go_sem] <;> trivial) ?_; refine If.t ?_; refine V1.i (hix 1 (by omega)) ?_; refine V1.load (oneAll rfl) (hb) rfl ?_; refine V1.i (v := .bool (k == 11)) (w' := w1) (by simp [go_sem]) ?_
   cases he : (k == 11) with
   | true => exact If.t ⟨⟨1, rfl, by simp⟩, rfl⟩
   | false =>
     refine If.f ?_; refine V1.i (addI _ _ _ _ _ _ (by omega) (by omega)) ?_; exact ⟨⟨rfl, 2, by omega, rfl, by rw [he] at hm; simpa [he] using hm⟩, by simp⟩
 · refine V1.i (by simp [go_sem] <;> trivial) ?_; refine If.t ?_; refine V1.i (hix 2 (by omega)) ?_; refine V1.load (oneAll rfl) (hb) rfl ?_; refine V1.i (v := .bool (k == 9)) (w' := w1) (by simp [go_sem]) ?_
   cases he : (k == 9) with
   | true => exact If.t ⟨⟨2, rfl, by simp⟩, rfl⟩
   | false =>
     refine If.f ?_; refine V1.i (addI _ _ _ _ _ _ (by omega) (by omega)) ?_; exact ⟨⟨rfl, 3, by omega, rfl, by rw [he] at hm; simpa [he] using hm⟩, by simp⟩
 · refine V1.i (by simp [go_sem] <;> trivial) ?_; refine If.f ?_; exact ⟨⟨-1, rfl, by rw [hm]; simp⟩, rfl⟩
theorem c166 {w : World} {b : Nat} (hb : At w b [.int .i64 10, .int .i64 11, .int .i64 9]) (k : Int) :
   Calls Tryz.prog 166 #[.slice (some ⟨b, 0, none⟩) 3 3, .int .i64 k] w (Ret (fun v w' => v = .bool (k == 10 || k == 11 || k == 9) ∧ w' = w) NP) := by
 refine s166 ?_; unfold S166; refine cf205 (c205 hb k) ?_ (NP.no (e := _)); rintro _ w1 ⟨⟨i, rfl, hi⟩, rfl⟩; refine V1.i (v := .bool (decide (0 ≤ i))) (w' := w1) (by simp [go_sem]) ?_; exact ⟨by rw [hi], rfl⟩
theorem c113 (w : World) (s : List UInt8) : Calls Tryz.prog 113 #[str s] w (Ret (fun v w' => v = str (quotedT s) ∧ Keep [] w w') NP) := by
 refine s113 ?_; unfold S113; unfold quotedT; by_cases h : 32768 < s.length
 · refine V1.i (v := .int .i64 s.length) (w' := w) (by simp [go_sem]) ?_; refine V1.i (v := .bool true) (w' := w) (by simp [go_sem]; omega) ?_; rw [if_pos h]; exact If.t ⟨rfl, Keep.refl _ _⟩
 · refine V1.i (v := .int .i64 s.length) (w' := w) (by simp [go_sem]) ?_; refine V1.i (v := .bool false) (w' := w) (by simp [go_sem]; omega) ?_; rw [if_neg h]; refine If.f ?_; refine cf165 (c165 w s (by omega)) ?_ (NP.no (e := _)); rintro _ w1 ⟨rfl, K1⟩; exact ⟨rfl, K1⟩
theorem c172 {F : Nat → Prop} {w : World} {e : Tr} {v : Value} (hr : Rep F w e (.P v)) (hk : kn e = true) (g : GL w) :
   Calls Tryz.prog 172 #[v] w (Ret (fun u w' => u = .int .i64 (strengthT e) ∧ Keep [] w w') NP) := by
 refine s172 ?_; unfold S172
 cases e with
 | nil =>
   obtain rfl : v = .pointer none := hr; refine V1.i (by simp [go_sem] <;> trivial) ?_; refine J1.go (Gd.ft ?_); refine V1.i (by simp [go_sem] <;> trivial) ?_; refine If.f ?_; refine V1.i (by simp [go_sem] <;> trivial) ?_; refine J1.go (Gd.ft ?_); refine V1.i (by simp [go_sem] <;> trivial) ?_; refine If.f ?_; exact ⟨rfl, Keep.refl _ _⟩
 | ex k n text l r keys args params body =>
   obtain ⟨c, line, lv, rv, kv, av, pv, bv, rfl, h1, h2, h3⟩ := hr; unfold ptr; refine V1.i (by simp [go_sem] <;> trivial) ?_; refine J1.go (Gd.tt ?_); refine Up.i (Nc.p _ _) ?_; refine V1.i (by simp [go_sem] <;> trivial) ?_; refine V1.load (oneAll rfl) (h2) rfl ?_; refine V1.i (v := .bool (k == 11)) (w' := w) (by simp [go_sem]) ?_; refine V1.i (v := .bool (k == 11)) (w' := w) (by simp [go_sem]) ?_; by_cases h11 : k = 11
   · subst h11; refine If.t ?_; refine Up.i (Nc.p _ _) ?_; refine V1.i (by simp [go_sem] <;> trivial) ?_; refine V1.load (oneAll rfl) (h2) rfl ?_; refine cf171 (c171 w text g) ?_ (NP.no (e := _)); rintro _ w1 ⟨rfl, K1⟩; exact ⟨by simp [strengthT], K1⟩
   · rw [show (k == 11) = false by simpa using h11]; refine If.f ?_; refine V1.i (by simp [go_sem] <;> trivial) ?_; refine J1.go (Gd.tt ?_); refine Up.i (Nc.p _ _) ?_; refine V1.i (by simp [go_sem] <;> trivial) ?_; refine V1.load (oneAll rfl) (h2) rfl ?_; refine V1.i (v := .bool (k == 10)) (w' := w) (by simp [go_sem]) ?_; refine V1.i (v := .bool (k == 10)) (w' := w) (by simp [go_sem]) ?_; by_cases h10 : k = 10
     · subst h10; exact If.t ⟨by simp [strengthT], Keep.refl _ _⟩
     · rw [show (k == 10) = false by simpa using h10]; exact If.f ⟨by simp [strengthT, h10, h11], Keep.refl _ _⟩
 | hole => cases hk
 | cons => cases hk
 | st => cases hk
theorem digB_one (c : UInt8) : Lib.contains digB [c] = digB.contains c := by
 have : ∀ n : Nat, n < 256 → Lib.contains digB [UInt8.ofNat n] = digB.contains (UInt8.ofNat n) := by decide
 have h := this c.toNat c.toNat_lt; rwa [UInt8.ofNat_toNat] at h
theorem lds_ascii : ∀ b ∈ letB ++ digB, b.toNat < 128 := by decide
theorem c115 {F : Nat → Prop} {w : World} {e : Tr} {v : Value} (hr : Rep F w e (.P v)) (hk : kn e = true) (g : GL w) :
   Calls Tryz.prog 115 #[v] w (Ret (fun u w' => u = .bool (nameQ e) ∧ Keep [] w w') NP) := by
 refine s115 ?_; unfold S115
 cases e with
 | nil =>
   obtain rfl : v = .pointer none := hr; refine V1.i (by simp [go_sem] <;> trivial) ?_; refine J1.go (Gd.tf ?_); refine V1.i (by simp [go_sem] <;> trivial) ?_; refine J1.go (Gd.tf ?_); refine V1.i (by simp [go_sem] <;> trivial) ?_; refine J1.go (Gd.tf ?_); refine V1.i (by simp [go_sem] <;> trivial) ?_; refine J1.go (Gd.tf ?_); refine V1.i (by simp [go_sem] <;> trivial) ?_; refine If.t ?_; exact ⟨rfl, Keep.refl _ _⟩
 | ex k n text l r keys args params body =>
   obtain ⟨c, line, lv, rv, kv, av, pv, bv, rfl, h1, h2, h3⟩ := hr; clear h3; have e1 : str [] = Value.string ⟨#[]⟩ := rfl; unfold ptr; refine V1.i (by simp [go_sem] <;> trivial) ?_; refine J1.gd (!(k == 5)) (fun h kk hkk => ?_) ?_
   · refine Up.i (Nc.p _ _) ?_; refine V1.i (by simp [go_sem] <;> trivial) ?_; refine V1.load (oneAll rfl) (h2) rfl ?_; refine V1.i (v := .bool (!(k == 5))) (w' := w) (by simp [go_sem]; rfl) ?_; exact hkk
   refine V1.i (pkO _ _ _) ?_; refine J1.gd (text == []) (fun h kk hkk => ?_) ?_
   · refine Up.i (Nc.p _ _) ?_; refine V1.i (by simp [go_sem] <;> trivial) ?_; refine V1.load (oneAll rfl) (h2) rfl ?_; refine V1.i (eqS1 _ _ _ text []) ?_; exact hkk
   refine V1.i (pkO _ _ _) ?_; refine J1.gd (decide (24 < text.length)) (fun h kk hkk => ?_) ?_
   · refine Up.i (Nc.p _ _) ?_; refine V1.i (by simp [go_sem] <;> trivial) ?_; refine V1.load (oneAll rfl) (h2) rfl ?_; refine V1.i (v := .int .i64 text.length) (w' := w) (by simp [go_sem]) ?_; refine V1.i (v := .bool (decide (24 < text.length))) (w' := w) (by simp [go_sem]; omega) ?_; exact hkk
   refine V1.i (pkO _ _ _) ?_; refine J1.gd (resB text) (fun h kk hkk => ?_) ?_
   · refine Up.i (Nc.p _ _) ?_; refine V1.i (by simp [go_sem] <;> trivial) ?_; refine V1.load (oneAll rfl) (h2) rfl ?_; have hl : text.length ≤ 24 := by
       simp only [Bool.or_eq_false_iff, decide_eq_false_iff_not] at h; omega
     refine cf89 (c89 w text g (by omega)) ?_ (NP.no (e := _)); rintro _ w1 ⟨rfl, rfl⟩; exact hkk
   refine V1.i (pkO _ _ _) ?_; have eN : nameQ (.ex k n text l r keys args params body) = (!(false || !(k == 5) || (text == []) || decide (24 < text.length) || resB text) && (text.all (fun c => (letB ++ digB).contains c) && !(digB.contains (text.headD 0)))) := by
     simp only [nameQ, nameB]; rw [show decide (text.length ≤ 24) = !decide (24 < text.length) by rw [← decide_not]; congr 1; apply propext; omega]; simp only [Bool.false_or, Bool.not_or, Bool.not_not, Bool.and_assoc]
   cases hb : (false || !(k == 5) || (text == []) || decide (24 < text.length) || resB text) with
   | true =>
     refine If.t ?_; exact ⟨by rw [eN, hb]; rfl, Keep.refl _ _⟩
   | false =>
     rw [hb] at eN; refine If.f ?_; simp only [Bool.or_eq_false_iff, decide_eq_false_iff_not] at hb; have hne : text ≠ [] := by simpa using hb.1.1.2
     have hl : text.length ≤ 24 := by omega
     refine Up.i (Nc.p _ _) ?_; refine V1.i (by simp [go_sem] <;> trivial) ?_; refine V1.load (oneAll rfl) (h2) rfl ?_; refine cf168 (c168 w text (letB ++ digB) (by omega) lds_ascii) ?_ (NP.no (e := _)); rintro _ w1 ⟨rfl, K1⟩; have hl1 : (text.dropWhile (fun b => (letB ++ digB).contains b)).length ≤ 1099511627776 := Nat.le_trans (List.dropWhile_sublist _).length_le (by omega); refine cf167 (c167 w1 _ (letB ++ digB) (g.new K1) hl1 lds_ascii) ?_ (NP.no (e := _)); rintro _ w2 ⟨rfl, K2⟩; refine V1.i (eqS1 _ _ _ _ []) ?_; rw [cut_nil]; have K12 := K1.trans' K2 (by simp); have h2' := K12.at h2 (by simp); rw [eN]; obtain ⟨c0, l0, rfl⟩ := List.exists_cons_of_ne_nil hne
     cases hall : (c0 :: l0).all (fun b => (letB ++ digB).contains b) with
     | false =>
       refine J1.go (Gd.ft ?_); refine V1.i (by simp [go_sem] <;> trivial) ?_; exact ⟨by simp [hall], K12⟩
     | true =>
       refine J1.go (Gd.tt ?_); refine Up.i (Nc.p _ _) ?_; refine V1.i (by simp [go_sem] <;> trivial) ?_; refine V1.load (oneAll rfl) (h2') rfl ?_; refine V1.i (toS _ (c0 :: l0) 1 (by simp)) ?_; refine cf92 (c92 w2 digB ((c0 :: l0).take 1) (g.new K12) (by decide)) ?_ (NP.no (e := _)); rintro _ w3 ⟨rfl, rfl⟩; refine V1.i (by simp [go_sem] <;> trivial) ?_; refine V1.i (by simp [go_sem] <;> trivial) ?_; have hd : Lib.contains digB ((c0 :: l0).take 1) = digB.contains c0 := by
         simp only [List.take_succ_cons, List.take_zero]; exact digB_one c0
       simp only [List.take_succ_cons, List.take_zero] at hd; exact ⟨by rw [hd]; simp, K12⟩
 | hole => cases hk
 | cons => cases hk
 | st => cases hk
structure PAll (n : Nat) : Prop where
  expr : ∀ {w : World} {b : Nat} {buf : List UInt8} {parts : Nat} {e : Tr} {v : Value} {r : PR}, TX w b buf parts → Rep (FO b w) w e (.P v) → prn n (.expr e) buf parts = r → r ≠ .oof → Calls Tryz.prog 63 #[ptr b, v] w (Ret (fun _ => POk w b r) (PEr w b r))
  stmt : ∀ {w : World} {b : Nat} {buf : List UInt8} {parts : Nat} {e : Tr} {v : Value} {r : PR}, TX w b buf parts → Rep (FO b w) w e (.P v) → prn n (.stmt e) buf parts = r → r ≠ .oof → Calls Tryz.prog 35 #[ptr b, v] w (Ret (fun _ => POk w b r) (PEr w b r))
  stmts : ∀ {w : World} {b : Nat} {buf : List UInt8} {parts : Nat} {e : Tr} {v : Value} {r : PR}, TX w b buf parts → Rep (FO b w) w e (.L v) → prn n (.stmts e) buf parts = r → r ≠ .oof → Calls Tryz.prog 18 #[ptr b, v] w (Ret (fun _ => POk w b r) (PEr w b r))
  block : ∀ {w : World} {b : Nat} {buf : List UInt8} {parts : Nat} {e : Tr} {v : Value} {r : PR}, TX w b buf parts → Rep (FO b w) w e (.L v) → prn n (.block e) buf parts = r → r ≠ .oof → Calls Tryz.prog 67 #[ptr b, v] w (Ret (fun _ => POk w b r) (PEr w b r))
  more : ∀ {w : World} {b : Nat} {buf : List UInt8} {parts : Nat} {e : Tr} {v : Value} {r : PR} {word : List UInt8}, TX w b buf parts → Rep (FO b w) w e (.P v) → prn n (.more word e) buf parts = r → r ≠ .oof → Calls Tryz.prog 62 #[ptr b, str word, v] w (Ret (fun _ => POk w b r) (PEr w b r))
  within : ∀ {w : World} {b : Nat} {buf : List UInt8} {parts : Nat} {e : Tr} {v : Value} {r : PR} {word : List UInt8}, TX w b buf parts → Rep (FO b w) w e (.L v) → prn n (.within word e) buf parts = r → r ≠ .oof → Calls Tryz.prog 65 #[ptr b, str word, v] w (Ret (fun _ => POk w b r) (PEr w b r))
  branch : ∀ {w : World} {b : Nat} {buf : List UInt8} {parts : Nat} {k : Int} {nm : List UInt8} {l rr t a bb : Tr} {v : Value} {r : PR}, TX w b buf parts → Rep (FO b w) w (.st k nm l rr t a bb) (.P v) → prn n (.branch rr a bb) buf parts = r → r ≠ .oof → Calls Tryz.prog 66 #[ptr b, v] w (Ret (fun _ => POk w b r) (PEr w b r))
  func : ∀ {w : World} {b : Nat} {buf : List UInt8} {parts : Nat} {k nn : Int} {text : List UInt8} {l rr ks gs : Tr} {ps : List (List UInt8)} {body : Tr} {v : Value} {r : PR}, TX w b buf parts → Rep (FO b w) w (.ex k nn text l rr ks gs ps body) (.P v) → prn n (.func ps body) buf parts = r → r ≠ .oof → Calls Tryz.prog 68 #[ptr b, v] w (Ret (fun _ => POk w b r) (PEr w b r))
  inner : ∀ {w : World} {b : Nat} {buf : List UInt8} {parts : Nat} {e : Tr} {v : Value} {r : PR} {around : Bool}, kn e = true → TX w b buf parts → Rep (FO b w) w e (.P v) → prn n (.inner e around) buf parts = r → r ≠ .oof → Calls Tryz.prog 116 #[ptr b, v, .bool around] w (Ret (fun _ => POk w b r) (PEr w b r))
theorem p67 {n : Nat} (H : PAll n) {w : World} {b : Nat} {buf : List UInt8} {parts : Nat} {e : Tr} {v : Value} {r : PR} (ht : TX w b buf parts) (rl : Rep (FO b w) w e (.L v)) (hr : prn (n + 1) (.block e) buf parts = r) (hne : r ≠ .oof) :
   Calls Tryz.prog 67 #[ptr b, v] w (Ret (fun _ => POk w b r) (PEr w b r)) := by
 refine s67 ?_; unfold S67; have kk := KO.refl b w; simp only [prn] at hr; refine V1.newSlice (by simp [go_sem] <;> trivial) fun bs ws NS => ?_; have fS := ht.fon NS.keep NS.ge; have aS : At ws bs (List.map str [[10]]) := NS.at_; have kS := KO.keep (b := b) NS.keep; replace rl := kS.rep ht rl; replace kk := kk.trans kS ht.ab; replace ht := ht.keep NS.keep; have h36 := c36 ht aS fS (by simp) rfl (PR.bind_ne hr hne); refine cf36 h36 ?_ (fun c w' h => PEr.up h hr kk ht); clear h36; rintro _ wP hP; obtain ⟨bufP, partsP, eP, htP, kP⟩ := POk.out hP; have hA2 := (Adds.putL _ _ _ _ _ eP).2; have hA := putL_len eP; simp only [List.map_cons, List.map_nil, List.sum_cons, List.sum_nil, List.length_cons, List.length_nil] at hA; rw [eP, PR.bind_ok] at hr; replace rl := kP.rep ht rl; replace kk := kk.trans kP ht.ab; replace ht := htP; clear hP eP htP kP; clear aS fS NS kS
 have hK := H.stmts ht rl hr hne; refine cf18 hK (fun v w' h => POk.pre h kk ht) (fun c w' h => PEr.pre h kk ht)
theorem p65 {n : Nat} (H : PAll n) {w : World} {b : Nat} {buf : List UInt8} {parts : Nat} {e : Tr} {v : Value} {r : PR} {word : List UInt8} (ht : TX w b buf parts) (rl : Rep (FO b w) w e (.L v)) (hr : prn (n + 1) (.within word e) buf parts = r) (hne : r ≠ .oof) :
   Calls Tryz.prog 65 #[ptr b, str word, v] w (Ret (fun _ => POk w b r) (PEr w b r)) := by
 refine s65 ?_; unfold S65; have kk := KO.refl b w; simp only [prn] at hr; refine V1.newSlice (by simp [go_sem] <;> trivial) fun bs ws NS => ?_; have fS := ht.fon NS.keep NS.ge; have aS : At ws bs (List.map str [word]) := NS.at_; have kS := KO.keep (b := b) NS.keep; replace rl := kS.rep ht rl; replace kk := kk.trans kS ht.ab; replace ht := ht.keep NS.keep; have h36 := c36 ht aS fS (by simp) rfl (PR.bind_ne hr hne); refine cf36 h36 ?_ (fun c w' h => PEr.up h hr kk ht); clear h36; rintro _ wP hP; obtain ⟨bufP, partsP, eP, htP, kP⟩ := POk.out hP; have hA2 := (Adds.putL _ _ _ _ _ eP).2; have hA := putL_len eP; simp only [List.map_cons, List.map_nil, List.sum_cons, List.sum_nil, List.length_cons, List.length_nil] at hA; rw [eP, PR.bind_ok] at hr; replace rl := kP.rep ht rl; replace kk := kk.trans kP ht.ab; replace ht := htP; clear hP eP htP kP; clear aS fS NS kS
 have hK := H.block ht rl rfl (PR.bind_ne hr hne); refine cf67 hK ?_ (fun c w' h => PEr.up h hr kk ht); clear hK; rintro _ wP hP; obtain ⟨bufP, partsP, eP, htP, kP⟩ := POk.out hP; have hA := prn_adds _ _ _ _ _ _ eP; rw [eP, PR.bind_ok] at hr; replace rl := kP.rep ht rl; replace kk := kk.trans kP ht.ab; replace ht := htP; clear hP eP htP kP; refine V1.newSlice (by simp [go_sem] <;> trivial) fun bs ws NS => ?_; have fS := ht.fon NS.keep NS.ge; have aS : At ws bs (List.map str [sEnd]) := NS.at_; have kS := KO.keep (b := b) NS.keep; replace rl := kS.rep ht rl; replace kk := kk.trans kS ht.ab; replace ht := ht.keep NS.keep; have h36 := c36 ht aS fS (by simp) hr hne; refine cf36 h36 (fun v w' h => POk.pre h kk ht) (fun c w' h => PEr.pre h kk ht)
theorem p62 {n : Nat} (H : PAll n) {w : World} {b : Nat} {buf : List UInt8} {parts : Nat} {e : Tr} {v : Value} {r : PR} {word : List UInt8} (ht : TX w b buf parts) (re : Rep (FO b w) w e (.P v)) (hr : prn (n + 1) (.more word e) buf parts = r) (hne : r ≠ .oof) :
   Calls Tryz.prog 62 #[ptr b, str word, v] w (Ret (fun _ => POk w b r) (PEr w b r)) := by
 refine s62 ?_; unfold S62; have kk := KO.refl b w
 cases e with
 | nil =>
   obtain rfl : v = .pointer none := re; simp only [prn] at hr; subst hr; refine V1.i (by simp [go_sem] <;> trivial) ?_; exact If.f ⟨ht, kk⟩
 | ex k nn text l rr keys args params body =>
   simp only [prn] at hr; have hv : ∃ c, v = ptr c := by
     obtain ⟨c, line, lv, rv, kv, av, pv, bv, rfl, _⟩ := re; exact ⟨c, rfl⟩
   obtain ⟨c, rfl⟩ := hv; refine V1.i (v := .bool true) (w' := w) (by simp [go_sem, ptr]; first | done | rfl | exact ⟨rfl, rfl⟩) ?_; refine If.t ?_; refine V1.newSlice (by simp [go_sem] <;> trivial) fun bs ws NS => ?_; have fS := ht.fon NS.keep NS.ge; have aS : At ws bs (List.map str [word]) := NS.at_; have kS := KO.keep (b := b) NS.keep; replace re := kS.rep ht re; replace kk := kk.trans kS ht.ab; replace ht := ht.keep NS.keep; have h36 := c36 ht aS fS (by simp) rfl (PR.bind_ne hr hne); refine cf36 h36 ?_ (fun c w' h => PEr.up h hr kk ht); clear h36; rintro _ wP hP; obtain ⟨bufP, partsP, eP, htP, kP⟩ := POk.out hP; have hA2 := (Adds.putL _ _ _ _ _ eP).2; have hA := putL_len eP; simp only [List.map_cons, List.map_nil, List.sum_cons, List.sum_nil, List.length_cons, List.length_nil] at hA; rw [eP, PR.bind_ok] at hr; replace re := kP.rep ht re; replace kk := kk.trans kP ht.ab
   replace ht := htP; clear hP eP htP kP; clear aS fS NS kS; have hK := H.expr ht re hr hne; refine cf63 hK (fun v w' h => POk.pre h kk ht) (fun c w' h => PEr.pre h kk ht)
 | hole => simp only [prn] at hr; exact absurd hr.symm hne
 | cons => simp only [prn] at hr; exact absurd hr.symm hne
 | st => simp only [prn] at hr; exact absurd hr.symm hne
theorem Rep.row {F : Nat → Prop} {w : World} {l : Tr} {v : Value} (h : Rep F w l (.L v)) (hh : l ≠ .hole) :
   (∃ a c, v = .slice a 0 c ∧ l = .nil) ∨ ∃ b n c, v = .slice (some ⟨b, 0, none⟩) n c ∧ Rep F w l (.E b 0 n) ∧ l ≠ .nil := by
 cases l with
 | nil => rcases h with rfl | ⟨b, c, rfl⟩ <;> exact .inl ⟨_, _, rfl, rfl⟩
 | cons x t =>
   obtain ⟨b, n, c, u, rfl, h1, h2, h3, h4, h5⟩ := h; exact .inr ⟨b, n + 1, c, rfl, ⟨n, u, rfl, h3, h2, h4, h5⟩, by simp⟩
 | hole => exact absurd rfl hh
 | ex => exact h.elim
 | st => exact h.elim
theorem ix26 {w : World} {b n c k : Nat} (h : k < n) : (Instr.indexAt 26 (.slice (some ⟨b, 0, none⟩) n c) (.int .i64 k)).run Tryz.prog w = .ok (.pointer (some ⟨b, k, none⟩)) w := by
 have : (k : Int) < n := by omega
 simp [go_sem, h, Addr.add]
 rintro rfl; rfl
theorem ix44 {w : World} {b n c k : Nat} (h : k < n) : (Instr.indexAt 44 (.slice (some ⟨b, 0, none⟩) n c) (.int .i64 k)).run Tryz.prog w = .ok (.pointer (some ⟨b, k, none⟩)) w := by
 have : (k : Int) < n := by omega
 simp [go_sem, h, Addr.add]
 rintro rfl; rfl
theorem p18 {n : Nat} (H : ∀ m, m ≤ n → PAll m) {w : World} {b : Nat} {buf : List UInt8} {parts : Nat} {e : Tr} {v : Value} {r : PR} (ht : TX w b buf parts) (rl : Rep (FO b w) w e (.L v)) (hr : prn (n + 1) (.stmts e) buf parts = r) (hne : r ≠ .oof) :
   Calls Tryz.prog 18 #[ptr b, v] w (Ret (fun _ => POk w b r) (PEr w b r)) := by
 refine s18 ?_; unfold S18; have kk := KO.refl b w; have hh : e ≠ .hole := by
   rintro rfl; simp only [prn] at hr; exact absurd hr.symm hne
 rcases rl.row hh with ⟨a, c, rfl, rfl⟩ | ⟨q, cnt, c, rfl, re, _⟩
 · refine V1.i (by simp [go_sem] <;> trivial) ?_; refine L1.i (fun v w' => v = .int .i64 0 ∧ w' = w) (fun v w' => 0) ⟨rfl, rfl⟩ ?_; rintro v w1 ⟨rfl, rfl⟩; refine V1.i (by simp [go_sem] <;> trivial) ?_; refine If.f ?_; simp only [prn] at hr; subst hr; exact ⟨ht, kk⟩
 · refine V1.i (by simp [go_sem] <;> trivial) ?_; refine L1.i (fun v w' => ∃ i k m rest buf parts, v = .int .i64 (i : Nat) ∧ i + k = cnt ∧ i ≤ buf.length ∧ m ≤ n + 1 ∧ TX w' b buf parts ∧ Rep (FO b w') w' rest (.E q i k) ∧ KO b w w' ∧ prn m (.stmts rest) buf parts = r) (fun v w' => match v with | .int _ n => (cnt - n.toNat) | _ => 0) ⟨0, cnt, n + 1, e, buf, parts, rfl, by omega, by omega, Nat.le_refl _, ht, re, kk, hr⟩ ?_; clear ht rl hr kk re; rintro v w1 ⟨i, k, m, rest, buf, parts, rfl, hik, hib, hm, ht, rl, kk, hr⟩
   cases m with
   | zero => simp only [prn] at hr; exact absurd hr.symm hne
   | succ m =>
     cases rest with
     | nil =>
       obtain rfl : k = 0 := rl; refine V1.i (v := .bool false) (w' := w1) (by simp [go_sem]; omega) ?_; refine If.f ?_; simp only [prn] at hr; subst hr; exact ⟨ht, kk⟩
     | cons s l =>
       obtain ⟨k', u, rfl, hc, hf, rs, rl⟩ := rl; simp only [prn] at hr; refine V1.i (v := .bool true) (w' := w1) (by simp [go_sem]; omega) ?_; refine If.t ?_; refine V1.i (ix26 (by omega)) ?_; refine V1.i ((oneAll rfl) _ _ _ hc) ?_; have hK := (H m (by omega)).stmt ht rs rfl (PR.bind_ne hr hne); refine cf35 hK ?_ (fun c w' h => PEr.up h hr kk ht); clear hK; rintro _ wP hP; obtain ⟨bufP, partsP, eP, htP, kP⟩ := POk.out hP; have hA := prn_adds _ _ _ _ _ _ eP; rw [eP, PR.bind_ok] at hr; replace rs := kP.rep ht rs; replace rl := kP.rep ht rl; replace kk := kk.trans kP ht.ab; replace ht := htP; clear hP eP htP kP; refine V1.newSlice (by simp [go_sem] <;> trivial) fun bs ws NS => ?_; have fS := ht.fon NS.keep NS.ge; have aS : At ws bs (List.map str [[10]]) := NS.at_; have kS := KO.keep (b := b) NS.keep; replace rs := kS.rep ht rs; replace rl := kS.rep ht rl; replace kk := kk.trans kS ht.ab
       replace ht := ht.keep NS.keep; have h36 := c36 ht aS fS (by simp) rfl (PR.bind_ne hr hne); refine cf36 h36 ?_ (fun c w' h => PEr.up h hr kk ht); clear h36; rintro _ wP hP; obtain ⟨bufP, partsP, eP, htP, kP⟩ := POk.out hP; have hA2 := (Adds.putL _ _ _ _ _ eP).2; have hA := putL_len eP; simp only [List.map_cons, List.map_nil, List.sum_cons, List.sum_nil, List.length_cons, List.length_nil] at hA; rw [eP, PR.bind_ok] at hr; replace rs := kP.rep ht rs; replace rl := kP.rep ht rl; replace kk := kk.trans kP ht.ab; replace ht := htP; clear hP eP htP kP; clear aS fS NS kS; have h32 : _ ≤ 32768 := ht.len; refine V1.i (addI _ _ _ _ _ _ (by omega) (by omega)) ?_; exact ⟨⟨i + 1, k', m, l, _, _, by simp, by omega, by omega, by omega, ht, rl, kk, hr⟩, by simp; omega⟩
     | hole => simp only [prn] at hr; exact absurd hr.symm hne
     | ex => exact rl.elim
     | st => exact rl.elim
theorem PR.bind_assoc (r : PR) (f g : List UInt8 → Nat → PR) : (r.bind f).bind g = r.bind fun b p => (f b p).bind g := by cases r <;> rfl
theorem putL_cons (s : List UInt8) (l : List (List UInt8)) (b : List UInt8) (p : Nat) : putL (s :: l) b p = (putL [s] b p).bind fun b p => putL l b p := by
 simp only [putL, PR.bind_assoc]; rfl
theorem Strs.sl {F : Nat → Prop} {w : World} {v : Value} {ss : List (List UInt8)} (h : Strs F w v ss) : ∃ a c, v = .slice a ss.length c := by
 rcases h with ⟨rfl, rfl⟩ | ⟨b, c, cs, rfl, _⟩
 · exact ⟨_, _, rfl⟩
 · exact ⟨_, _, rfl⟩
theorem Strs.get {F : Nat → Prop} {w : World} {a : Option Addr} {n c : Nat} {ss : List (List UInt8)} (h : Strs F w (.slice a n c) ss) {i : Nat} (hi : i < ss.length) : ∃ q, a = some ⟨q, 0, none⟩ ∧ w.cell? ⟨q, i, none⟩ = some (str ss[i]) := by
 rcases h with ⟨_, rfl⟩ | ⟨b, c, cs, h1, h2, h3, h4, h5⟩
 · simp at hi
 · injection h1 with h1 h6 h7; refine ⟨b, h1, ?_⟩; rw [h3.cell]; have : (cs.take ss.length)[i]? = some (str ss[i]) := by rw [h4]; simp [hi]
   rwa [List.getElem?_take_of_lt hi] at this
theorem p68 {n : Nat} (H : PAll n) {w : World} {b : Nat} {buf : List UInt8} {parts : Nat} {k nn : Int} {text : List UInt8} {l rr ks gs : Tr} {ps : List (List UInt8)} {body : Tr} {v : Value} {r : PR} (ht : TX w b buf parts) (re : Rep (FO b w) w (.ex k nn text l rr ks gs ps body) (.P v)) (hr : prn (n + 1) (.func ps body) buf parts = r) (hne : r ≠ .oof) :
   Calls Tryz.prog 68 #[ptr b, v] w (Ret (fun _ => POk w b r) (PEr w b r)) := by
 refine s68 ?_; unfold S68; have kk := KO.refl b w; simp only [prn] at hr; obtain ⟨c, line, lv, rv, kv, av, pv, bv, rfl, qe, ae, _, _, _, _, sp, rb⟩ := re; refine V1.newSlice (by simp [go_sem] <;> trivial) fun bs ws NS => ?_; have fS := ht.fon NS.keep NS.ge; have aS : At ws bs (List.map str [[40]]) := NS.at_; have kS := KO.keep (b := b) NS.keep; have hpq := kS.at ht ae qe; clear ae qe; obtain ⟨ae, qe⟩ := hpq; replace sp := kS.strs ht sp; replace rb := kS.rep ht rb; replace kk := kk.trans kS ht.ab; replace ht := ht.keep NS.keep; have h36 := c36 ht aS fS (by simp) rfl (PR.bind_ne hr hne); refine cf36 h36 ?_ (fun c w' h => PEr.up h hr kk ht); clear h36; rintro _ wP hP; obtain ⟨bufP, partsP, eP, htP, kP⟩ := POk.out hP; have hA2 := (Adds.putL _ _ _ _ _ eP).2; have hA := putL_len eP; simp only [List.map_cons, List.map_nil, List.sum_cons, List.sum_nil, List.length_cons, List.length_nil] at hA
 rw [eP, PR.bind_ok] at hr; have hpq := kP.at ht ae qe; clear ae qe; obtain ⟨ae, qe⟩ := hpq; replace sp := kP.strs ht sp; replace rb := kP.rep ht rb; replace kk := kk.trans kP ht.ab; replace ht := htP; clear hP eP htP kP; clear aS fS NS kS; refine Up.i (Nc.p _ _) ?_; refine V1.i (by simp [go_sem] <;> trivial) ?_; refine V1.load (oneAll rfl) (ae) rfl ?_; obtain ⟨base, cp, rfl⟩ := sp.sl; refine V1.i (by simp [go_sem] <;> trivial) ?_
 refine L1.i (fun v w' => ∃ i buf parts, v = .int .i64 (i : Nat) ∧ i ≤ ps.length ∧ i ≤ buf.length + 1 ∧ TX w' b buf parts ∧ At w' c [.int .i64 k, .int .i64 line, .int .i64 nn, str text, lv, rv, kv, av, .slice base ps.length cp, bv] ∧ FO b w' c ∧ Strs (FO b w') w' (.slice base ps.length cp) ps ∧ Rep (FO b w') w' body (.L bv) ∧ KO b w w' ∧ (parsT (ps.drop i) (decide (i = 0)) buf parts).bind (fun b p => (putL [[41]] b p).bind fun b p => (prn n (.block body) b p).bind fun b p => putL [sEnd] b p) = r) (fun v w' => match v with | .int _ n => (ps.length - n.toNat) | _ => 0) ⟨0, _, _, rfl, by omega, by omega, ht, ae, qe, sp, rb, kk, hr⟩ ?_; clear ht ae qe sp rb kk hr; rintro v w1 ⟨i, buf, parts, rfl, hi, hib, ht, ae, qe, sp, rb, kk, hr⟩; by_cases hlt : i < ps.length
 · rw [List.drop_eq_getElem_cons hlt] at hr; obtain ⟨q, rfl, hc⟩ := sp.get hlt; have h32 := ht.len; refine V1.i (v := .bool true) (w' := w1) (by simp [go_sem]; omega) ?_; refine If.t ?_; refine V1.i (ix45 _ hlt) ?_; refine V1.i ((oneAll rfl) _ _ _ hc) ?_; generalize ps[i] = s at *; refine J0.go ?_; rcases Nat.eq_zero_or_pos i with rfl | h0
   · refine V1.i (by simp [go_sem] <;> trivial) ?_; refine If.f ?_; simp only [parsT, decide_true, if_true, PR.bind_assoc] at hr; refine V1.newSlice (by simp [go_sem] <;> trivial) fun bs ws NS => ?_; have fS := ht.fon NS.keep NS.ge; have aS : At ws bs (List.map str [s]) := NS.at_; have kS := KO.keep (b := b) NS.keep; have hpq := kS.at ht ae qe; clear ae qe; obtain ⟨ae, qe⟩ := hpq; replace sp := kS.strs ht sp; replace rb := kS.rep ht rb; replace kk := kk.trans kS ht.ab; replace ht := ht.keep NS.keep; have h36 := c36 ht aS fS (by simp) rfl (PR.bind_ne hr hne); refine cf36 h36 ?_ (fun c w' h => PEr.up h hr kk ht); clear h36; rintro _ wP hP; obtain ⟨bufP, partsP, eP, htP, kP⟩ := POk.out hP; have hA2 := (Adds.putL _ _ _ _ _ eP).2; have hA := putL_len eP; simp only [List.map_cons, List.map_nil, List.sum_cons, List.sum_nil, List.length_cons, List.length_nil] at hA; rw [eP, PR.bind_ok] at hr
     have hpq := kP.at ht ae qe; clear ae qe; obtain ⟨ae, qe⟩ := hpq; replace sp := kP.strs ht sp; replace rb := kP.rep ht rb; replace kk := kk.trans kP ht.ab; replace ht := htP; clear hP eP htP kP; clear aS fS NS kS; refine V1.i (addI _ _ _ _ _ _ (by omega) (by omega)) ?_; exact ⟨⟨1, _, _, by simp, by omega, by omega, ht, ae, qe, sp, rb, kk, by simpa using hr⟩, by simp; omega⟩
   · have hd0 : decide (i = 0) = false := by simp; omega
     refine V1.i (v := .bool true) (w' := w1) (by simp [go_sem]; omega) ?_; refine If.t ?_; rw [hd0] at hr; simp only [parsT, Bool.false_eq_true, if_false] at hr; rw [putL_cons] at hr; simp only [PR.bind_assoc] at hr; refine V1.newSlice (by simp [go_sem] <;> trivial) fun bs ws NS => ?_; have fS := ht.fon NS.keep NS.ge; have aS : At ws bs (List.map str [[44, 32]]) := NS.at_; have kS := KO.keep (b := b) NS.keep; have hpq := kS.at ht ae qe; clear ae qe; obtain ⟨ae, qe⟩ := hpq; replace sp := kS.strs ht sp; replace rb := kS.rep ht rb; replace kk := kk.trans kS ht.ab; replace ht := ht.keep NS.keep; have h36 := c36 ht aS fS (by simp) rfl (PR.bind_ne hr hne); refine cf36 h36 ?_ (fun c w' h => PEr.up h hr kk ht); clear h36; rintro _ wP hP; obtain ⟨bufP, partsP, eP, htP, kP⟩ := POk.out hP; have hA2 := (Adds.putL _ _ _ _ _ eP).2; have hA := putL_len eP
     simp only [List.map_cons, List.map_nil, List.sum_cons, List.sum_nil, List.length_cons, List.length_nil] at hA; rw [eP, PR.bind_ok] at hr; have hpq := kP.at ht ae qe; clear ae qe; obtain ⟨ae, qe⟩ := hpq; replace sp := kP.strs ht sp; replace rb := kP.rep ht rb; replace kk := kk.trans kP ht.ab; replace ht := htP; clear hP eP htP kP; clear aS fS NS kS; refine V1.newSlice (by simp [go_sem] <;> trivial) fun bs ws NS => ?_; have fS := ht.fon NS.keep NS.ge; have aS : At ws bs (List.map str [s]) := NS.at_; have kS := KO.keep (b := b) NS.keep; have hpq := kS.at ht ae qe; clear ae qe; obtain ⟨ae, qe⟩ := hpq; replace sp := kS.strs ht sp; replace rb := kS.rep ht rb; replace kk := kk.trans kS ht.ab; replace ht := ht.keep NS.keep; have h36 := c36 ht aS fS (by simp) rfl (PR.bind_ne hr hne); refine cf36 h36 ?_ (fun c w' h => PEr.up h hr kk ht); clear h36; rintro _ wP hP
     obtain ⟨bufP, partsP, eP, htP, kP⟩ := POk.out hP; have hA2 := (Adds.putL _ _ _ _ _ eP).2; have hA := putL_len eP; simp only [List.map_cons, List.map_nil, List.sum_cons, List.sum_nil, List.length_cons, List.length_nil] at hA; rw [eP, PR.bind_ok] at hr; have hpq := kP.at ht ae qe; clear ae qe; obtain ⟨ae, qe⟩ := hpq; replace sp := kP.strs ht sp; replace rb := kP.rep ht rb; replace kk := kk.trans kP ht.ab; replace ht := htP; clear hP eP htP kP; clear aS fS NS kS; have hd1 : decide (i + 1 = 0) = false := by simp
     refine V1.i (addI _ _ _ _ _ _ (by omega) (by omega)) ?_; exact ⟨⟨i + 1, _, _, by simp, by omega, by omega, ht, ae, qe, sp, rb, kk, by rw [hd1]; exact hr⟩, by simp; omega⟩
 · have : i = ps.length := by omega
   subst this; rw [List.drop_length] at hr; simp only [parsT, PR.bind_ok] at hr; refine V1.i (v := .bool false) (w' := w1) (by simp [go_sem]) ?_; refine If.f ?_; refine V1.newSlice (by simp [go_sem] <;> trivial) fun bs ws NS => ?_; have fS := ht.fon NS.keep NS.ge; have aS : At ws bs (List.map str [[41]]) := NS.at_; have kS := KO.keep (b := b) NS.keep; have hpq := kS.at ht ae qe; clear ae qe; obtain ⟨ae, qe⟩ := hpq; replace sp := kS.strs ht sp; replace rb := kS.rep ht rb; replace kk := kk.trans kS ht.ab; replace ht := ht.keep NS.keep; have h36 := c36 ht aS fS (by simp) rfl (PR.bind_ne hr hne); refine cf36 h36 ?_ (fun c w' h => PEr.up h hr kk ht); clear h36; rintro _ wP hP; obtain ⟨bufP, partsP, eP, htP, kP⟩ := POk.out hP; have hA2 := (Adds.putL _ _ _ _ _ eP).2; have hA := putL_len eP
   simp only [List.map_cons, List.map_nil, List.sum_cons, List.sum_nil, List.length_cons, List.length_nil] at hA; rw [eP, PR.bind_ok] at hr; have hpq := kP.at ht ae qe; clear ae qe; obtain ⟨ae, qe⟩ := hpq; replace sp := kP.strs ht sp; replace rb := kP.rep ht rb; replace kk := kk.trans kP ht.ab; replace ht := htP; clear hP eP htP kP; clear aS fS NS kS; refine Up.i (Nc.p _ _) ?_; refine V1.i (by simp [go_sem] <;> trivial) ?_; refine V1.load (oneAll rfl) (ae) rfl ?_; have hK := H.block ht rb rfl (PR.bind_ne hr hne); refine cf67 hK ?_ (fun c w' h => PEr.up h hr kk ht); clear hK; rintro _ wP hP; obtain ⟨bufP, partsP, eP, htP, kP⟩ := POk.out hP; have hA := prn_adds _ _ _ _ _ _ eP; rw [eP, PR.bind_ok] at hr; have hpq := kP.at ht ae qe; clear ae qe; obtain ⟨ae, qe⟩ := hpq; replace sp := kP.strs ht sp; replace rb := kP.rep ht rb; replace kk := kk.trans kP ht.ab; replace ht := htP
   clear hP eP htP kP; refine V1.newSlice (by simp [go_sem] <;> trivial) fun bs ws NS => ?_; have fS := ht.fon NS.keep NS.ge; have aS : At ws bs (List.map str [sEnd]) := NS.at_; have kS := KO.keep (b := b) NS.keep; have hpq := kS.at ht ae qe; clear ae qe; obtain ⟨ae, qe⟩ := hpq; replace sp := kS.strs ht sp; replace rb := kS.rep ht rb; replace kk := kk.trans kS ht.ab; replace ht := ht.keep NS.keep; have h36 := c36 ht aS fS (by simp) hr hne; refine cf36 h36 (fun v w' h => POk.pre h kk ht) (fun c w' h => PEr.pre h kk ht)
theorem p169 {n : Nat} (H : PAll n) {w : World} {b b1 b2 : Nat} {buf : List UInt8} {parts : Nat} {e : Tr} {v : Value} {r : PR} (ht : TX w b buf parts) (re : Rep (FO b w) w e (.P v)) (a1 : At w b1 [ptr b]) (a2 : At w b2 [v]) (hr : prn n (.expr e) buf parts = r) (hne : r ≠ .oof) :
   Calls Tryz.prog 169 #[ptr b1, ptr b2] w (Ret (fun _ => POk w b r) (PEr w b r)) := by
 refine s169 ?_; unfold S169; have kk := KO.refl b w; refine V1.load (oneAll rfl) (a1) rfl ?_; refine V1.load (oneAll rfl) (a2) rfl ?_; have hK := H.expr ht re hr hne; refine cf63 hK (fun v w' h => POk.pre h kk ht) (fun c w' h => PEr.pre h kk ht)
def clI (b1 b2 : Nat) : Value := .func (.func 169) #[] #[ptr b1, ptr b2]
theorem cv169 (w : World) (b1 b2 : Nat) : (Cv (clI b1 b2) #[]).run Tryz.prog w = .ok (.enter 169 #[ptr b1, ptr b2]) w := by kernel_rfl
theorem cv170 (w : World) (b1 b2 : Nat) : (Cv (.func (.func 170) #[] #[ptr b1, ptr b2]) #[]).run Tryz.prog w = .ok (.enter 170 #[ptr b1, ptr b2]) w := by kernel_rfl
theorem p170 {n : Nat} (H : PAll n) {w : World} {b b1 b2 b7 : Nat} {buf : List UInt8} {parts : Nat} {e : Tr} {v : Value} {r : PR} (ht : TX w b buf parts) (re : Rep (FO b w) w e (.P v)) (a1 : At w b1 [ptr b]) (q1 : FO b w b1) (a2 : At w b2 [v]) (q2 : FO b w b2) (a7 : At w b7 [clI b1 b2]) (q7 : FO b w b7)
   (hr : ((putL [[40]] buf parts).bind fun b p => (prn n (.expr e) b p).bind fun b p => putL [[41]] b p) = r) (hne : r ≠ .oof) :
   Calls Tryz.prog 170 #[ptr b1, ptr b7] w (Ret (fun _ => POk w b r) (PEr w b r)) := by
 refine s170 ?_; unfold S170; have kk := KO.refl b w; refine V1.load (oneAll rfl) (a1) rfl ?_; refine V1.newSlice (by simp [go_sem] <;> trivial) fun bs ws NS => ?_; have fS := ht.fon NS.keep NS.ge; have aS : At ws bs (List.map str [[40]]) := NS.at_; have kS := KO.keep (b := b) NS.keep; replace re := kS.rep ht re; have hpq := kS.at ht a1 q1; clear a1 q1; obtain ⟨a1, q1⟩ := hpq; have hpq := kS.at ht a2 q2; clear a2 q2; obtain ⟨a2, q2⟩ := hpq; have hpq := kS.at ht a7 q7; clear a7 q7; obtain ⟨a7, q7⟩ := hpq; replace kk := kk.trans kS ht.ab; replace ht := ht.keep NS.keep; have h36 := c36 ht aS fS (by simp) rfl (PR.bind_ne hr hne); refine cf36 h36 ?_ (fun c w' h => PEr.up h hr kk ht); clear h36; rintro _ wP hP; obtain ⟨bufP, partsP, eP, htP, kP⟩ := POk.out hP; have hA2 := (Adds.putL _ _ _ _ _ eP).2; have hA := putL_len eP
 simp only [List.map_cons, List.map_nil, List.sum_cons, List.sum_nil, List.length_cons, List.length_nil] at hA; rw [eP, PR.bind_ok] at hr; replace re := kP.rep ht re; have hpq := kP.at ht a1 q1; clear a1 q1; obtain ⟨a1, q1⟩ := hpq; have hpq := kP.at ht a2 q2; clear a2 q2; obtain ⟨a2, q2⟩ := hpq; have hpq := kP.at ht a7 q7; clear a7 q7; obtain ⟨a7, q7⟩ := hpq; replace kk := kk.trans kP ht.ab; replace ht := htP; clear hP eP htP kP; clear aS fS NS kS; refine V1.load (oneAll rfl) (a7) rfl ?_; refine Up.c (cv169 _ b1 b2) ?_; have h169 := p169 H ht re a1 a2 rfl (PR.bind_ne hr hne); refine Ret.imp h169 ?_ (fun c w' h => PEr.up h hr kk ht); rintro _ wP hP; obtain ⟨bufP, partsP, eP, htP, kP⟩ := POk.out hP; rw [eP, PR.bind_ok] at hr; obtain ⟨a1, q1⟩ := kP.at ht a1 q1; replace kk := kk.trans kP ht.ab; replace ht := htP; refine V1.load (oneAll rfl) (a1) rfl ?_
 refine V1.newSlice (by simp [go_sem] <;> trivial) fun bs ws NS => ?_; have fS := ht.fon NS.keep NS.ge; have aS : At ws bs (List.map str [[41]]) := NS.at_; have kS := KO.keep (b := b) NS.keep; have hpq := kS.at ht a1 q1; clear a1 q1; obtain ⟨a1, q1⟩ := hpq; replace kk := kk.trans kS ht.ab; replace ht := ht.keep NS.keep; have h36 := c36 ht aS fS (by simp) hr hne; refine cf36 h36 (fun v w' h => POk.pre h kk ht) (fun c w' h => PEr.pre h kk ht)
theorem p116 {n : Nat} (H : PAll n) {w : World} {b : Nat} {buf : List UInt8} {parts : Nat} {e : Tr} {v : Value} {r : PR} {around : Bool} (hv : Sc v = true) (ht : TX w b buf parts) (re : Rep (FO b w) w e (.P v)) (hr : prn (n + 1) (.inner e around) buf parts = r) (hne : r ≠ .oof) :
   Calls Tryz.prog 116 #[ptr b, v, .bool around] w (Ret (fun _ => POk w b r) (PEr w b r)) := by
 refine s116 ?_; unfold S116; have kk := KO.refl b w; refine V1.new (bx51 _ _) fun b1 w1 N1 => ?_; have a1 : At w1 b1 [ptr b] := N1.at_; have q1 := ht.fon N1.keep N1.ge; have kS := KO.keep (b := b) N1.keep; replace re := kS.rep ht re; replace kk := kk.trans kS ht.ab; replace ht := ht.keep N1.keep; clear kS; refine V1.new (bx41 _ _) fun b2 w2 N2 => ?_; have a2 : At w2 b2 [v] := by
   have := N2.at_
   cases v <;> first | exact this | cases hv
 have q2 := ht.fon N2.keep N2.ge; have kS := KO.keep (b := b) N2.keep; replace re := kS.rep ht re; have hpq := kS.at ht a1 q1; clear a1 q1; obtain ⟨a1, q1⟩ := hpq; replace kk := kk.trans kS ht.ab; replace ht := ht.keep N2.keep; clear kS; refine V1.i (v := clI b1 b2) (w' := w2) (by simp [go_sem]; rfl) ?_; refine J1.go ?_
 cases around with
 | false =>
   refine If.f ?_; simp only [prn] at hr; refine Up.c (cv169 _ b1 b2) ?_; have h169 := p169 H ht re a1 a2 hr hne; exact Ret.imp h169 (fun v w' h => POk.pre h kk ht) (fun c w' h => PEr.pre h kk ht)
 | true =>
   refine If.t ?_; simp only [prn] at hr; refine V1.new (al1 _) fun b7 w7 N7 => ?_; refine U1.store (onesAll rfl rfl) N7.at_ (by simp) fun w8 U8 => ?_; have a7 : At w8 b7 [clI b1 b2] := U8.at_; have K8 : Keep [] w2 w8 := N7.keep.trans' U8.keep (by have := N7.ge; simp; omega); have q7 := ht.fon K8 N7.ge; have kS := KO.keep (b := b) K8; replace re := kS.rep ht re; have hpq := kS.at ht a1 q1; clear a1 q1; obtain ⟨a1, q1⟩ := hpq; have hpq := kS.at ht a2 q2; clear a2 q2; obtain ⟨a2, q2⟩ := hpq; replace kk := kk.trans kS ht.ab; replace ht := ht.keep K8; clear kS; refine V1.i (v := .func (.func 170) #[] #[ptr b1, ptr b7]) (w' := w8) (by simp [go_sem]; exact ⟨rfl, rfl⟩) ?_; refine Up.c (cv170 _ b1 b7) ?_; have h170 := p170 H ht re a1 q1 a2 q2 a7 q7 hr hne; exact Ret.imp h170 (fun v w' h => POk.pre h kk ht) (fun c w' h => PEr.pre h kk ht)
theorem Rep.scP {F : Nat → Prop} {w : World} {t : Tr} {v : Value} (h : Rep F w t (.P v)) (hk : t ≠ .hole) : Sc v = true := by
 cases t with
 | nil => cases h; rfl
 | ex => obtain ⟨c, line, lv, rv, kv, av, pv, bv, rfl, _⟩ := h; rfl
 | st => obtain ⟨c, line, lv, rv, kv, av, pv, rfl, _⟩ := h; rfl
 | cons => exact h.elim
 | hole => exact absurd rfl hk
theorem p114 {n : Nat} (H : PAll n) {w : World} {b : Nat} {buf : List UInt8} {parts : Nat} {e : Tr} {v : Value} {r : PR} (hk : kn e = true) (ht : TX w b buf parts) (re : Rep (FO b w) w e (.P v)) (hr : prn n (.inner e (headQ e)) buf parts = r) (hne : r ≠ .oof) :
   Calls Tryz.prog 114 #[ptr b, v] w (Ret (fun _ => POk w b r) (PEr w b r)) := by
 refine s114 ?_; unfold S114; have kk := KO.refl b w
 cases e with
 | nil =>
   have hv : v = .pointer none := re; refine V1.i (v := .bool false) (w' := w) (by rw [hv]; simp [go_sem]) ?_; refine J1.go (Gd.ft ?_); refine V1.i (by simp [go_sem] <;> trivial) ?_; have hK := H.inner hk ht re hr hne; refine cf116 hK (fun v w' h => POk.pre h kk ht) (fun c w' h => PEr.pre h kk ht)
 | ex k nn text l rr keys args params body =>
   have hv : ∃ c line lv rv kv av pv bv, v = ptr c ∧ FO b w c ∧ At w c [.int .i64 k, .int .i64 line, .int .i64 nn, str text, lv, rv, kv, av, pv, bv] := by
     obtain ⟨c, line, lv, rv, kv, av, pv, bv, rfl, q, a, _⟩ := re; exact ⟨c, line, lv, rv, kv, av, pv, bv, rfl, q, a⟩
   obtain ⟨c, line, lv, rv, kv, av, pv, bv, rfl, q1, a1⟩ := hv; refine V1.i (v := .bool true) (w' := w) (by simp [go_sem, ptr]; first | done | rfl | exact ⟨rfl, rfl⟩) ?_; refine J1.go (Gd.tt ?_); refine V1.newSlice (by simp [go_sem]; first | done | rfl | exact ⟨rfl, rfl⟩ | (repeat' (first | rfl | apply And.intro))) fun bs ws NS => ?_; have aS : At ws bs [.int .i64 10, .int .i64 11, .int .i64 9] := NS.at_; have kS := KO.keep (b := b) NS.keep; replace re := kS.rep ht re; have hpq := kS.at ht a1 q1; clear a1 q1; obtain ⟨a1, q1⟩ := hpq; replace kk := kk.trans kS ht.ab; replace ht := ht.keep NS.keep; clear kS; refine Up.i (Nc.p _ _) ?_; refine V1.i (by simp [go_sem] <;> trivial) ?_; refine V1.load (oneAll rfl) (a1) rfl ?_; refine cf166 (c166 aS k) ?_ (NP.no (e := _)); rintro _ w2 ⟨rfl, rfl⟩; refine V1.i (by simp [go_sem] <;> trivial) ?_; have hK := H.inner hk ht re hr hne
   refine cf116 hK (fun v w' h => POk.pre h kk ht) (fun c w' h => PEr.pre h kk ht)
 | hole => cases hk
 | cons => cases hk
 | st => cases hk
end Go.Proofs.YtoddjlclpnoomaaGreatDoor

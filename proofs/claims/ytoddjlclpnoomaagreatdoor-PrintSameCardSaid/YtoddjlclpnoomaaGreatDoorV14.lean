import Derived.Recover
import Derived.Test.YtoddjlclpnoomaaGreatDoorV13
set_option linter.unusedVariables false
set_option linter.unusedSimpArgs false
set_option maxRecDepth 100000
namespace Go.Proofs.YtoddjlclpnoomaaGreatDoor
open Go.Sh
theorem c54 (w : World) (s : List UInt8) (g : GL w) (hl : s.length ≤ 60000) (h0 : s ≠ []) : Calls Tryz.prog 54 #[str s] w (Ret (fun v w' => WQ (wordT s) v ∧ Keep [] w w') NP) := by
 refine s54 ?_; unfold S54; obtain ⟨c, l, hs⟩ := List.exists_cons_of_ne_nil h0; have hcc := c.toNat_lt; have hc0 : s.headD 0 = c := by rw [hs]; rfl
 have hs0 : ∀ (h : 0 < s.length), s[0] = c := by intro h; subst hs; rfl
 have hp : 0 < s.length := by rw [hs]; simp
 have kk := Keep.refl [] w; refine V1.new (bx9 _ _) fun b1 w1 N1 => ?_; have gN1 := N1.ge; have lN1 := N1.lt; have zN1 := N1.keep.size; have a1 := N1.at_; try simp only [Value.cells, List.toList_toArray] at a1
 replace kk := N1.kp kk; refine V1.new (al86 _) fun b2 w2 N2 => ?_; have gN2 := N2.ge; have lN2 := N2.lt; have zN2 := N2.keep.size; have a2 := N2.at_; try simp only [Value.cells, List.toList_toArray] at a2
 replace kk := N2.kp kk; replace a1 := N2.a a1; have g2 := g.new kk; refine V1.i (by simp [go_sem] <;> trivial) ?_; refine V1.load (oneAll rfl) (a1) rfl ?_; refine V1.i (idxS _ s 0 hp) ?_; rw [hs0 hp]; have e34 : ((c.toNat : Int) == 34) = decide (c = 34) := by
   by_cases h : c = 34
   · subst h; rfl
   · have : ¬ (c.toNat : Int) = 34 := fun e => h (UInt8.toNat_inj.1 (by simp; omega)); simp [h, this]
 have lb2 := a2.lt; refine cf51 (c51 w2 c letB) ?_ (NP.no (e := _)); rintro _ w3 ⟨rfl, rfl⟩
 cases hL : letB.contains c with
 | true =>
   refine If.t ?_; refine V1.load (oneAll rfl) (a1) rfl ?_; refine cf88 (c88 w3 s (letB ++ digB) (by omega)) ?_ (NP.no (e := _)); rintro _ w4 ⟨rfl, rfl⟩; have hn := lng_le s (letB ++ digB); have hw0 : wordT s = (if 24 < lng s (letB ++ digB) then .err 14 else .tok ⟨if resB (s.take (lng s (letB ++ digB))) = true then 4 else 1, s.take (lng s (letB ++ digB)), 0, 0⟩ (lng s (letB ++ digB))) := by
     unfold wordT; rw [hc0, if_pos hL]
   generalize lng s (letB ++ digB) = n at *; refine V1.i (v := .bool (decide (24 < n))) (w' := w4) (by simp [go_sem]; congr 1; omega) ?_; by_cases h24 : 24 < n
   · have hw := hw0.trans (if_pos h24); simp only [h24, decide_true]; refine If.t ?_; refine V1.i (by simp [go_sem] <;> trivial) ?_; refine V1.i (by simp [go_sem] <;> trivial) ?_; refine U1.tok (t := ⟨0, [], 0, 0⟩) a2 rfl fun w5 U4 => ?_; refine ⟨_, ld_tok U4.at_, ?_, kk.then U4.keep (by simp) (by simp; omega)⟩; rw [hw]; exact ⟨⟨0, [], 0, 0⟩, _, rfl⟩
   · rw [if_neg h24] at hw0; simp only [h24, decide_false]; refine If.f ?_; refine V1.load (oneAll rfl) (a1) rfl ?_; refine V1.i (toS _ s n hn) ?_; refine cf89 (c89 w4 (s.take n) g2 (by simp; omega)) ?_ (NP.no (e := _)); rintro _ w5 ⟨rfl, rfl⟩
     cases hR : resB (s.take n) with
     | true =>
       have hw := hw0; rw [hR, if_pos rfl] at hw; refine If.t ?_; refine Up.c (callFunc_run Tryz.func87 (c := codeB Tryz.f87) (by kernel_rfl) (by kernel_rfl) _ _) (Ret.imp2 (c87 s 4 n a1 hn) ?_ (NP.no (e := _))); rintro _ w6 ⟨rfl, K6⟩; have z6 := K6.size; have zK6 := K6.size; replace kk := kk.trans' K6 (by simp <;> omega); replace a1 := K6.at a1 (by simp <;> omega); replace a2 := K6.at a2 (by simp <;> omega); refine V1.i (by simp [go_sem] <;> trivial) ?_; refine V1.i (by simp [go_sem] <;> trivial) ?_; refine V1.i (by simp [go_sem] <;> trivial) ?_; refine U1.tok (t := ⟨4, s.take (n), 0, 0⟩) a2 rfl fun w7 U7 => ?_; refine ⟨_, ld_tok U7.at_, ?_, kk.then U7.keep (by simp) (by simp; omega)⟩; rw [hw]; rfl
     | false =>
       have hw := hw0; rw [hR, if_neg (by simp)] at hw; refine If.f ?_; refine Up.c (callFunc_run Tryz.func87 (c := codeB Tryz.f87) (by kernel_rfl) (by kernel_rfl) _ _) (Ret.imp2 (c87 s 1 n a1 hn) ?_ (NP.no (e := _))); rintro _ w6 ⟨rfl, K6⟩; have z6 := K6.size; have zK6 := K6.size; replace kk := kk.trans' K6 (by simp <;> omega); replace a1 := K6.at a1 (by simp <;> omega); replace a2 := K6.at a2 (by simp <;> omega); refine V1.i (by simp [go_sem] <;> trivial) ?_; refine V1.i (by simp [go_sem] <;> trivial) ?_; refine V1.i (by simp [go_sem] <;> trivial) ?_; refine U1.tok (t := ⟨1, s.take (n), 0, 0⟩) a2 rfl fun w7 U7 => ?_; refine ⟨_, ld_tok U7.at_, ?_, kk.then U7.keep (by simp) (by simp; omega)⟩; rw [hw]; rfl
 | false =>
   refine If.f ?_; refine cf51 (c51 w3 c digB) ?_ (NP.no (e := _)); rintro _ w4 ⟨rfl, rfl⟩; have hLn : ¬ letB.contains c = true := by rw [hL]; simp
   cases hD : digB.contains c with
   | true =>
     have hw : wordT s = numT s := by unfold wordT; rw [hc0, if_neg hLn, if_pos hD]
     refine If.t ?_; refine V1.load (oneAll rfl) (a1) rfl ?_; refine cf90 (c90 w4 s g2 (by omega) (by rw [hc0]; exact hD)) ?_ (NP.no (e := _)); rintro _ w3 ⟨hW, K3⟩; have z3 := K3.size; have zK3 := K3.size; replace kk := kk.trans' K3 (by simp <;> omega); replace a1 := K3.at a1 (by simp <;> omega); replace a2 := K3.at a2 (by simp <;> omega); rw [hw]; generalize numT s = r at *
     cases r with
     | tok t n =>
       replace hW : _ = _ := hW; subst hW; refine V1.i (by simp [go_sem] <;> trivial) ?_; refine V1.i (by simp [go_sem] <;> trivial) ?_; refine V1.i (by simp [go_sem] <;> trivial) ?_; refine U1.tok (t := t) a2 rfl fun w7 U7 => ?_; exact ⟨_, ld_tok U7.at_, rfl, kk.then U7.keep (by simp) (by simp; omega)⟩
     | err e =>
       obtain ⟨x, n, rfl⟩ := hW; refine V1.i (by simp [go_sem] <;> trivial) ?_; refine V1.i (by simp [go_sem] <;> trivial) ?_; refine V1.i (by simp [go_sem] <;> trivial) ?_; refine U1.tok (t := x) a2 rfl fun w7 U7 => ?_; exact ⟨_, ld_tok U7.at_, ⟨x, n, rfl⟩, kk.then U7.keep (by simp) (by simp; omega)⟩
   | false =>
     refine If.f ?_; have hDn : ¬ digB.contains c = true := by rw [hD]; simp
     refine V1.i (v := .bool (decide (c = 34))) (w' := w4) (by simp [go_sem, ← e34]) ?_; by_cases h34 : c = 34
     · have hw : wordT s = strT s := by unfold wordT; rw [hc0, if_neg hLn, if_neg hDn, if_pos h34]
       simp only [h34, decide_true]; refine If.t ?_; refine V1.load (oneAll rfl) (a1) rfl ?_; refine cf91 (c91 w4 s g2 hl (by rw [hc0]; exact h34)) ?_ (NP.no (e := _)); rintro _ w3 ⟨hW, K3⟩; have z3 := K3.size; have zK3 := K3.size; replace kk := kk.trans' K3 (by simp <;> omega); replace a1 := K3.at a1 (by simp <;> omega); replace a2 := K3.at a2 (by simp <;> omega); rw [hw]; generalize strT s = r at *
       cases r with
       | tok t n =>
         replace hW : _ = _ := hW; subst hW; refine V1.i (by simp [go_sem] <;> trivial) ?_; refine V1.i (by simp [go_sem] <;> trivial) ?_; refine V1.i (by simp [go_sem] <;> trivial) ?_; refine U1.tok (t := t) a2 rfl fun w7 U7 => ?_; exact ⟨_, ld_tok U7.at_, rfl, kk.then U7.keep (by simp) (by simp; omega)⟩
       | err e =>
         obtain ⟨x, n, rfl⟩ := hW; refine V1.i (by simp [go_sem] <;> trivial) ?_; refine V1.i (by simp [go_sem] <;> trivial) ?_; refine V1.i (by simp [go_sem] <;> trivial) ?_; refine U1.tok (t := x) a2 rfl fun w7 U7 => ?_; exact ⟨_, ld_tok U7.at_, ⟨x, n, rfl⟩, kk.then U7.keep (by simp) (by simp; omega)⟩
     · simp only [h34, decide_false]; refine If.f ?_; refine V1.load (oneAll rfl) (a1) rfl ?_; refine V1.i (by simp [go_sem] <;> trivial) ?_; refine V1.i (v := .bool (decide (1 < s.length))) (w' := w4) (by simp [go_sem]; congr 1; omega) ?_; refine J1.gd (!((s.take 2).contains 32)) (fun h k hk => ?_) ?_
       · have h2 : 1 < s.length := by simpa using h
         refine V1.load (oneAll rfl) (a1) rfl ?_; refine V1.i (toS _ s 2 (by omega)) ?_; refine cf51 (c51 w4 32 (s.take 2)) ?_ (NP.no (e := _)); rintro _ w5 ⟨rfl, rfl⟩; refine V1.i (v := .bool (!((s.take 2).contains 32))) (w' := w5) (by simp [go_sem]) ?_; exact hk
       refine V1.i (pkA _ _ _) ?_; refine J1.gd (Lib.contains prsB (s.take 2)) (fun h k hk => ?_) ?_
       · have h2 : 1 < s.length := by simp at h; omega
         refine V1.load (oneAll rfl) (a1) rfl ?_; refine V1.i (toS _ s 2 (by omega)) ?_; refine cf92 (c92 w4 prsB (s.take 2) g2 (by decide)) ?_ (NP.no (e := _)); rintro _ w5 ⟨rfl, rfl⟩; exact hk
       refine V1.i (pkA _ _ _) ?_; have hw0 : wordT s = if 1 < s.length ∧ (s.take 2).contains 32 = false ∧ Lib.contains prsB (s.take 2) = true then .tok ⟨4, s.take 2, 0, 0⟩ 2
         else if sglB.contains c = true then .tok ⟨4, s.take 1, 0, 0⟩ 1 else .err 14 := by
         unfold wordT; rw [hc0, if_neg hLn, if_neg hDn, if_neg h34]
       by_cases hP : 1 < s.length ∧ (s.take 2).contains 32 = false ∧ Lib.contains prsB (s.take 2) = true
       · have hw := hw0.trans (if_pos hP); have : (decide (1 < s.length) && !((s.take 2).contains 32) && Lib.contains prsB (s.take 2)) = true := by
           rw [hP.2.1, hP.2.2]; simp [hP.1]
         rw [this]; refine If.t ?_; refine Up.c (callFunc_run Tryz.func87 (c := codeB Tryz.f87) (by kernel_rfl) (by kernel_rfl) _ _) (Ret.imp2 (c87 s 4 2 a1 (by omega)) ?_ (NP.no (e := _))); rintro _ w6 ⟨rfl, K6⟩; have z6 := K6.size; have zK6 := K6.size; replace kk := kk.trans' K6 (by simp <;> omega); replace a1 := K6.at a1 (by simp <;> omega); replace a2 := K6.at a2 (by simp <;> omega); refine V1.i (by simp [go_sem] <;> trivial) ?_; refine V1.i (by simp [go_sem] <;> trivial) ?_; refine V1.i (by simp [go_sem] <;> trivial) ?_; refine U1.tok (t := ⟨4, s.take (2), 0, 0⟩) a2 rfl fun w7 U7 => ?_; refine ⟨_, ld_tok U7.at_, ?_, kk.then U7.keep (by simp) (by simp; omega)⟩; rw [hw]; rfl
       · rw [if_neg hP] at hw0; have : (decide (1 < s.length) && !((s.take 2).contains 32) && Lib.contains prsB (s.take 2)) = false := by
           cases h1 : (decide (1 < s.length) && !((s.take 2).contains 32) && Lib.contains prsB (s.take 2)) with
           | false => rfl
           | true =>
             simp only [Bool.and_eq_true, decide_eq_true_eq, Bool.not_eq_true'] at h1; exact absurd ⟨h1.1.1, h1.1.2, h1.2⟩ hP
         rw [this]; refine If.f ?_; refine cf51 (c51 w4 c sglB) ?_ (NP.no (e := _)); rintro _ w5 ⟨rfl, rfl⟩
         cases hS : sglB.contains c with
         | true =>
           have hw := hw0.trans (if_pos hS); refine If.t ?_; refine Up.c (callFunc_run Tryz.func87 (c := codeB Tryz.f87) (by kernel_rfl) (by kernel_rfl) _ _) (Ret.imp2 (c87 s 4 1 a1 (by omega)) ?_ (NP.no (e := _))); rintro _ w6 ⟨rfl, K6⟩; have z6 := K6.size; have zK6 := K6.size; replace kk := kk.trans' K6 (by simp <;> omega); replace a1 := K6.at a1 (by simp <;> omega); replace a2 := K6.at a2 (by simp <;> omega); refine V1.i (by simp [go_sem] <;> trivial) ?_; refine V1.i (by simp [go_sem] <;> trivial) ?_; refine V1.i (by simp [go_sem] <;> trivial) ?_; refine U1.tok (t := ⟨4, s.take (1), 0, 0⟩) a2 rfl fun w7 U7 => ?_; refine ⟨_, ld_tok U7.at_, ?_, kk.then U7.keep (by simp) (by simp; omega)⟩; rw [hw]; rfl
         | false =>
           have hw := hw0.trans (if_neg (by rw [hS]; simp)); refine If.f ?_; refine V1.i (by simp [go_sem] <;> trivial) ?_; refine V1.i (by simp [go_sem] <;> trivial) ?_; refine U1.tok (t := ⟨0, [], 0, 0⟩) a2 rfl fun w5 U4 => ?_; refine ⟨_, ld_tok U4.at_, ?_, kk.then U4.keep (by simp) (by simp; omega)⟩; rw [hw]; exact ⟨⟨0, [], 0, 0⟩, _, rfl⟩
def tokC (t : Tok) : List Value := [.int .i64 t.kind, str t.text, .int .i64 t.n, .int .i64 t.line]
def AccT (lo : Nat) (w : World) (v : Value) (ts : List Tok) : Prop :=
  w.ownsRow 0 86 4 v ts.length (ts.flatMap tokC) ∧ ∀ g, v.ownBlock = some g → lo ≤ g
theorem AccT.nil (lo : Nat) (w : World) : AccT lo w (.slice none 0 0) [] := ⟨World.ownsRow_nil w 0 86 4, fun g h => by cases h⟩
theorem AccT.lt {lo : Nat} {w : World} {v : Value} {ts : List Tok} (h : AccT lo w v ts) {g : Nat} (hg : v.ownBlock = some g) : lo ≤ g ∧ g < w.heap.size := ⟨h.2 g hg, (h.1.lt g hg).2⟩
theorem AccT.fr {lo : Nat} {M : List Nat} {w w' : World} {v : Value} {ts : List Tok} (h : AccT lo w v ts) (hk : Keep M w w') (hM : ∀ i ∈ M, i < lo ∨ w.heap.size ≤ i) : AccT lo w' v ts :=
 ⟨own_keep h.1 hk fun g hg hgM => by
   have := h.lt hg; have := hM g hgM; omega, h.2⟩
theorem AccT.fr2 {lo : Nat} {M : List Nat} {w w' : World} {v : Value} {ts : List Tok} (h : AccT lo w v ts) (hk : Keep M w w') (hM : ∀ g, v.ownBlock = some g → g ∉ M) : AccT lo w' v ts := ⟨own_keep h.1 hk hM, h.2⟩
theorem app73 {lo : Nat} {w : World} {v : Value} {ts : List Tok} {t : Tok} {b n : Nat} (h : AccT lo w v ts) (hb : At w b (tokC t)) (hn : ts.length ≤ n) (h40 : n ≤ 1099511627776) (hlo : lo ≤ w.heap.size) :
   ∃ v' w', (Builtin.append_ #[73, 73] 73 #[v, .slice (some ⟨b, 0, none⟩) 1 1]).run Tryz.prog w = .ok v' w' ∧ AccT lo w' v' (ts ++ [t]) ∧ Keep v.ownBlock.toList w w' := by
 obtain ⟨v', w', hr, ho, hk, hv⟩ := append_own (P := Tryz.prog) 73 73 86 ((Tryz.prog.info? 86).getD default) (.agg #[.int .i64 0, .string ⟨#[]⟩, .int .i64 0, .int .i64 0]) 4 40 (by kernel_rfl) (by kernel_rfl) (by kernel_rfl) (by kernel_rfl) (by kernel_rfl) (by kernel_rfl) (by omega) v ts.length (ts.flatMap tokC) h.1 ⟨b, 0, none⟩ 1 1 (tokC t) rfl (fun j a hj => by
   have hc := hb.cell j; rw [hj] at hc; simp only [Addr.add]; split
   · rename_i h
     obtain rfl : j = 0 := by simpa using h
     exact hc
   · simpa using hc) (by simp [tokC]; exact ⟨rfl, rfl, rfl, rfl⟩) (by simp only [maxLen]; omega) (by omega)
 refine ⟨v', w', hr, ⟨by simpa using ho, ?_⟩, hk⟩; intro g hg; rcases hv with hv | ⟨g', hv, hge⟩
 · exact h.2 g (by rw [← hv, hg])
 · rw [hv] at hg; cases hg; omega
theorem toks_of (w : World) (b : Nat) : ∀ (ts : List Tok) (o : Nat), (∀ j u, (ts.flatMap tokC)[j]? = some u → w.cell? ⟨b, o + j, none⟩ = some u) → ToksAt w b o ts
 | [], _, _ => trivial
 | t :: ts, o, h => by
   refine ⟨⟨by simpa using h 0 _ (by simp [tokC]), h 1 _ (by simp [tokC]), h 2 _ (by simp [tokC]), h 3 _ (by simp [tokC])⟩, toks_of w b ts (o + 4) fun j u hj => ?_⟩; have := h (4 + j) u (by
     simp only [List.flatMap_cons]; rw [List.getElem?_append_right (by simp [tokC])]; simpa [tokC] using hj)
   rwa [show o + 4 + j = o + (4 + j) by omega]
theorem AccT.toks {lo : Nat} {w : World} {v : Value} {ts : List Tok} (h : AccT lo w v ts) (hne : ts ≠ []) : ∃ b c, v = .slice (some ⟨b, 0, none⟩) ts.length c ∧ ToksAt w b 0 ts ∧ ts.length ≤ c ∧ lo ≤ b ∧ b < w.heap.size := by
 have hl : ∀ g, v.ownBlock = some g → lo ≤ g ∧ g < w.heap.size := fun g hg => h.lt hg; rcases h.1.2 with ⟨h1, h2⟩ | ⟨g, cap, cur, rfl, hb, hg, hn, _⟩
 · exact absurd (List.eq_nil_of_length_eq_zero h2) hne
 · have hc := h.1.cells (g := g) rfl; refine ⟨g, cap, rfl, toks_of w g ts 0 (fun j u hj => ?_), hn, (hl _ rfl).1, (hl _ rfl).2⟩; have := hc j u hj; simp only [Addr.add] at this; split at this
   · rename_i h0
     obtain rfl : j = 0 := by simpa using h0
     exact this
   · simpa using this
def LR.app (acc : List Tok) : LR → LR
  | .ok ts => .ok (acc ++ ts)
  | .fail c => .fail c
theorem LR.app_cons (acc : List Tok) (t : Tok) (r : LR) : (r.cons t).app acc = r.app (acc ++ [t]) := by cases r <;> simp [LR.app, LR.cons]
def TQ (w0 : World) (r : LR) (v : Value) (w' : World) : Prop := match r with
  | .ok ts => ∃ b c, v = .tuple #[.slice (some ⟨b, 0, none⟩) ts.length c, .nilIface] ∧ ToksAt w' b 0 ts ∧ ts.length ≤ c ∧ w0.heap.size ≤ b ∧ b < w'.heap.size ∧ ts ≠ []
  | .fail c => ∃ b line, v = .tuple #[.slice none 0 0, .iface 76 (ptr b)] ∧ At w' b [.int .i64 c, .int .i64 line] ∧ w0.heap.size ≤ b
theorem pre2 (s : List UInt8) : Lib.hasPrefix s [45, 45] = decide (s.take 2 = [45, 45]) := by
 rcases s with _ | ⟨a, _ | ⟨b, s⟩⟩
 · rfl
 · simp [Lib.hasPrefix, List.isPrefixOf]
 · simp only [Lib.hasPrefix, List.isPrefixOf, List.take_succ_cons, List.take_zero, Bool.and_true]; have : ∀ x y : UInt8, (x == y) = decide (y = x) := fun x y => by by_cases h : y = x <;> simp [h]; exact fun e => h e.symm
   rw [this, this]; simp
theorem drop10 : ∀ s : List UInt8, 0 ≤ Lib.indexByte s 10 → s.drop (Lib.indexByte s 10).toNat = s.dropWhile (fun c => !(c == 10))
 | [], h => by simp [Lib.indexByte]
 | a :: s, h => by
   unfold Lib.indexByte at h ⊢; by_cases ha : a = 10
   · subst ha; simp
   · have e : (a == 10) = false := by simpa using ha
     rw [e] at h ⊢; simp only [Bool.false_eq_true, if_false] at h ⊢; split at h
     · omega
     · rename_i h1
       rw [if_neg h1]; have h2 := indexByte_ge 10 s; have h3 : Lib.indexByte s 10 ≠ -1 := by simpa using h1
       rw [show (Lib.indexByte s 10 + 1).toNat = (Lib.indexByte s 10).toNat + 1 by omega, List.drop_succ_cons, drop10 s (by omega), List.dropWhile_cons]; simp [e]
theorem qEnd_le : ∀ (l : List UInt8) (j k : Nat), qEnd l j = some k → j ≤ k ∧ k < j + l.length
 | [], j, k, h => by simp [qEnd] at h
 | [c], j, k, h => by
   unfold qEnd at h; split at h
   · simp only [Option.some.injEq] at h; subst h; simp
   · split at h
     · cases h
     · simp [qEnd] at h
 | c :: d :: l, j, k, h => by
   unfold qEnd at h; split at h
   · simp only [Option.some.injEq] at h; subst h; simp
   · split at h
     · have := qEnd_le l _ _ h; simp only [List.length_cons]; omega
     · have := qEnd_le (d :: l) _ _ h; simp only [List.length_cons] at this ⊢; omega
theorem lng_pos {c : UInt8} {l set : List UInt8} (h : set.contains c = true) : 1 ≤ lng (c :: l) set := by rw [lng_yes h]; omega
theorem wordT_cons (c : UInt8) (l : List UInt8) : wordT (c :: l) =
  if letB.contains c = true then
    (if 24 < lng (c :: l) (letB ++ digB) then .err 14 else .tok ⟨if resB ((c :: l).take (lng (c :: l) (letB ++ digB))) = true then 4 else 1, (c :: l).take (lng (c :: l) (letB ++ digB)), 0, 0⟩ (lng (c :: l) (letB ++ digB)))
  else if digB.contains c = true then numT (c :: l)
  else if c = 34 then strT (c :: l)
  else if 1 < (c :: l).length ∧ ((c :: l).take 2).contains 32 = false ∧ Lib.contains prsB ((c :: l).take 2) = true then .tok ⟨4, (c :: l).take 2, 0, 0⟩ 2
  else if sglB.contains c = true then .tok ⟨4, (c :: l).take 1, 0, 0⟩ 1
  else .err 14 := rfl
theorem wordT_pos (s : List UInt8) (hs : s ≠ []) (t : Tok) (k : Nat) (h : wordT s = .tok t k) : 1 ≤ k ∧ k ≤ s.length := by
 obtain ⟨c, l, rfl⟩ := List.exists_cons_of_ne_nil hs; rw [wordT_cons] at h; by_cases hc : letB.contains c = true
 · rw [if_pos hc] at h; by_cases h24 : 24 < lng (c :: l) (letB ++ digB)
   · rw [if_pos h24] at h; cases h
   · rw [if_neg h24] at h; injection h with _ h; subst h; exact ⟨lng_pos (by simp at hc ⊢; exact .inl hc), lng_le _ _⟩
 · rw [if_neg hc] at h; by_cases hd : digB.contains c = true
   · rw [if_pos hd] at h; unfold numT at h; generalize numP _ = r at h; obtain ⟨v, e⟩ := r; simp only at h; split at h
     · cases h
     · split at h
       · injection h with _ h; subst h; exact ⟨lng_pos hd, lng_le _ _⟩
       · cases h
   · rw [if_neg hd] at h; by_cases h34 : c = 34
     · rw [if_pos h34] at h; unfold strT at h; split at h
       · cases h
       · rename_i k' hq
         have := qEnd_le _ _ _ hq; have h2 : ((c :: l).takeWhile (fun c => !(c == 10))).length ≤ (c :: l).length := (List.takeWhile_sublist _).length_le; generalize unqT _ = r at h; obtain ⟨v, e⟩ := r; simp only at h; split at h
         · injection h with _ h; subst h; simp only [List.length_drop] at this; omega
         · split at h <;> cases h
     · rw [if_neg h34] at h; split at h
       · rename_i h2
         injection h with _ h; subst h; omega
       · split at h
         · injection h with _ h; subst h; simp
         · cases h
theorem c27 (w : World) (s : List UInt8) (g : GL w) : Calls Tryz.prog 27 #[str s] w (Ret (fun v w' => TQ w (lexT s) v w' ∧ Keep [] w w') NP) := by
 refine s27 ?_; unfold S27; have kk := Keep.refl [] w; refine V1.i (by simp [go_sem] <;> trivial) ?_; refine V1.i (v := .bool (decide (32768 < s.length))) (w' := w) (by simp [go_sem]; congr 1; omega) ?_; by_cases hlen : 32768 < s.length
 · simp only [hlen, decide_true]; refine If.t ?_; refine V1.i (by simp [go_sem] <;> trivial) ?_; refine V1.new (bx69 _ _) fun b1 w1 N1 => ?_; have gN1 := N1.ge; have lN1 := N1.lt; have zN1 := N1.keep.size; have a1 := N1.at_; try simp only [Value.cells, List.toList_toArray] at a1
   replace kk := N1.kp kk; refine V1.i (by simp [go_sem] <;> trivial) ?_; unfold lexT; rw [if_pos hlen]; exact ⟨⟨b1, _, rfl, a1, gN1⟩, kk⟩
 simp only [hlen, decide_false]; refine If.f ?_; have hlx : lexT s = (lexGo (s.length + 1) s 0).app [] := by
   unfold lexT; rw [if_neg hlen]
   cases lexGo (s.length + 1) s 0 <;> rfl
 rw [hlx]; generalize hT : (lexGo (s.length + 1) s 0).app [] = T; refine J4.cut (fun a5 a2 a3 a4 w' => ∃ line acc, a5 = .int .i64 line ∧ AccT w.heap.size w' a4 acc ∧ acc.length ≤ 32768 ∧ (LR.ok [endT line]).app acc = T ∧ Keep [] w w') ?_ ?_; rotate_left
 · rintro a5 a2 a3 a4 w1 ⟨line, acc, rfl, ha, hacc, hT2, kk⟩; have z1 := kk.size; refine V1.i (by simp [go_sem] <;> trivial) ?_; refine V1.newSlice (by simp [go_sem] <;> trivial) fun b2 w2 N2 => ?_; have a2 : At w2 b2 (tokC (endT line)) := by simpa [tokC, endT, str] using N2.at_
   have ha2 := ha.fr N2.keep (by simp); have zN2 := N2.keep.size; obtain ⟨v', w3, hr, ha3, k3⟩ := app73 (n := 65536) ha2 a2 (by omega) (by omega) (by omega); refine V1.i hr ?_; obtain ⟨b, c, rfl, ht, hc, hb1, hb2⟩ := ha3.toks (by simp); have kw : Keep [] w w3 := (kk.trans N2.keep).trans' k3 (fun i hi hlt => by
     simp only [Option.mem_toList, Option.mem_def] at hi; have := (ha.lt hi).1; omega)
   rw [← hT2]; exact ⟨⟨b, c, rfl, ht, hc, hb1, hb2, by simp⟩, kw⟩
 refine L5.g (fun n a5 a2 a3 a4 a0 w' => ∃ line s acc, a5 = .int .i64 line ∧ a0 = str s ∧ AccT w.heap.size w' a4 acc ∧ 0 ≤ line ∧ line + s.length ≤ 32768 ∧ acc.length + s.length ≤ 32768 ∧ s.length < n ∧ (lexGo n s line).app acc = T ∧ Keep [] w w') (s.length + 1) ⟨0, s, [], rfl, rfl, AccT.nil _ _, by omega, by omega, by simp; omega, by omega, hT, kk⟩ ?_; clear hT hlx hlen kk; rintro n a5 a2 a3 a4 a0 w1 K ⟨line, s, acc, rfl, rfl, ha, hl0, hl1, hl2, hn, hT, kk⟩ hK; have z1 := kk.size; obtain ⟨n, rfl⟩ : ∃ k, n = k + 1 := ⟨n - 1, by omega⟩; have g1 := g.new kk; rcases s with _ | ⟨c, l⟩
 · refine V1.i (by simp [go_sem] <;> trivial) ?_; refine If.f ?_; exact ⟨line, acc, rfl, ha, by simp at hl2; exact hl2, by simpa [lexGo] using hT, kk⟩
 refine V1.i (by simp [go_sem] <;> trivial) ?_; refine If.t ?_; refine V1.i (idxS _ (c :: l) 0 (by simp)) ?_; simp only [List.getElem_cons_zero]; have hcc := c.toNat_lt; have e10 : ((c.toNat : Int) == 10) = decide (c = 10) := by
   by_cases h : c = 10
   · subst h; rfl
   · have : ¬ (c.toNat : Int) = 10 := fun e => h (UInt8.toNat_inj.1 (by simp; omega)); simp [h, this]
 have hun : lexGo (n + 1) (c :: l) line = (if c = 10 then lexGo n l (line + 1)
   else if [32, 9, 13].contains c = true then lexGo n l line
   else if (c :: l).take 2 = [45, 45] then (if (c :: l).contains 10 = true then lexGo n ((c :: l).dropWhile (fun c => !(c == 10))) line else .ok [endT line])
   else match wordT (c :: l) with
     | .err c => .fail c
     | .tok t k => (lexGo n ((c :: l).drop k) line).cons (t.at line)) := by
   conv => lhs; unfold lexGo
   rw [if_neg (by simp)]; rfl
 rw [hun] at hT; simp only [List.length_cons] at hl1 hl2 hn; refine V1.i (v := .bool (decide (c = 10))) (w' := w1) (by simp [go_sem, ← e10]) ?_; by_cases h10 : c = 10
 · rw [if_pos h10] at hT; simp only [h10, decide_true]; refine If.t ?_; refine V1.i (addI _ _ _ _ _ _ (by omega) (by omega)) ?_; refine V1.i (fromS _ (10 :: l) 1 (by simp)) ?_; exact hK n _ _ _ _ _ _ (by omega) ⟨line + 1, l, acc, rfl, rfl, ha, by omega, by omega, by omega, by omega, hT, kk⟩
 rw [if_neg h10] at hT; simp only [h10, decide_false]; refine If.f ?_; refine V1.i (idxS _ (c :: l) 0 (by simp)) ?_; simp only [List.getElem_cons_zero]; refine cf51 (c51 w1 c [32, 9, 13]) ?_ (NP.no (e := _)); rintro _ w2 ⟨rfl, rfl⟩
 cases hb : ([32, 9, 13] : List UInt8).contains c with
 | true =>
   rw [if_pos hb] at hT; refine If.t ?_; refine V1.i (fromS _ (c :: l) 1 (by simp)) ?_; exact hK n _ _ _ _ _ _ (by omega) ⟨line, l, acc, rfl, rfl, ha, by omega, by omega, by omega, by omega, hT, kk⟩
 | false =>
 rw [if_neg (by rw [hb]; simp)] at hT; refine If.f ?_; refine cf52 (c52 w2 (c :: l) [45, 45]) ?_ (NP.no (e := _)); rintro _ w3 ⟨rfl, rfl⟩; rw [pre2]; by_cases h2 : (c :: l).take 2 = [45, 45]
 · rw [if_pos h2] at hT; simp only [h2, decide_true]; refine If.t ?_; refine cf53 (c53 w3 (c :: l) 10) ?_ (NP.no (e := _)); rintro _ w4 ⟨rfl, rfl⟩; refine V1.i (v := .bool ((c :: l).contains 10)) (w' := w4) (by rw [← indexByte_iff]; simp [go_sem]) ?_
   cases h3 : (c :: l).contains 10 with
   | true =>
     rw [if_pos h3] at hT; have h4 : 0 ≤ Lib.indexByte (c :: l) 10 := by
       have := indexByte_iff 10 (c :: l); rw [h3] at this; simpa using this
     have h5 := indexByte_ge 10 (c :: l); refine If.t ?_; rw [show Lib.indexByte (c :: l) 10 = ((Lib.indexByte (c :: l) 10).toNat : Int) by omega]; refine V1.i (fromS _ (c :: l) _ (by omega)) ?_; rw [drop10 _ h4]; have hlt : ((c :: l).dropWhile (fun c => !(c == 10))).length ≤ l.length := by
       rw [List.dropWhile_cons]; have : (!(c == 10)) = true := by simpa using h10
       rw [if_pos this]; exact (List.dropWhile_sublist _).length_le
     exact hK n _ _ _ _ _ _ (by omega) ⟨line, _, acc, rfl, rfl, ha, by omega, by omega, by omega, by omega, hT, kk⟩
   | false =>
     rw [if_neg (by rw [h3]; simp)] at hT; refine If.f ?_; exact ⟨line, acc, rfl, ha, by omega, hT, kk⟩
 rw [if_neg h2] at hT; simp only [h2, decide_false]; refine If.f ?_; refine cf54 (c54 w3 (c :: l) g1 (by simp; omega) (by simp)) ?_ (NP.no (e := _)); rintro _ w4 ⟨hW, K4⟩; have hpos := wordT_pos (c :: l) (by simp); have z4 := K4.size; have kk4 := kk.trans K4; have ha4 := ha.fr K4 (by simp); generalize wordT (c :: l) = r at *
 cases r with
 | err e =>
   obtain ⟨x, nn, rfl⟩ := hW; simp only at hT; refine V1.i (by simp [go_sem] <;> trivial) ?_; refine V1.i (by simp [go_sem] <;> trivial) ?_; refine V1.i (by simp [go_sem] <;> trivial) ?_; refine V1.new (al86 _) fun b5 w5 N5 => ?_; have gN5 := N5.ge; have lN5 := N5.lt; have zN5 := N5.keep.size; have a5 := N5.at_; try simp only [Value.cells, List.toList_toArray] at a5
   replace kk4 := N5.kp kk4; refine U1.tok (t := x) a5 rfl fun w6 U6 => ?_; have z6 := U6.size; replace kk4 := kk4.trans' U6.keep (by simp <;> omega); refine V1.i (neNil _ _ _ _) ?_; refine If.t ?_; refine V1.new (al23 _) fun b7 w7 N7 => ?_; have gN7 := N7.ge; have lN7 := N7.lt; have zN7 := N7.keep.size; have a7 := N7.at_; try simp only [Value.cells, List.toList_toArray] at a7
   replace kk4 := N7.kp kk4; refine V1.i (by simp [go_sem] <;> trivial) ?_; refine cf55 (c55 (g.new kk4) a7) ?_ (NP.no (e := _)); rintro _ w8 ⟨rfl, a8, K8⟩; have z8 := K8.size; have kk8 : Keep [] w w8 := kk4.trans' K8 (by simp; omega); have kk9 := kk8.drew; have a9 : At w8.drew b7 [.int .i64 e] := a8; refine ⟨fun w' => At w' b7 [.int .i64 e], a9, ?_⟩; refine Xw.i _ (fun w' hw => (oneAll rfl) _ _ _ (by rw [hw.cell]; rfl)) ?_; refine Xw.i _ (fun w' _ => by simp [go_sem] <;> trivial) ?_; generalize w8.drew = w9 at *; have z9 := kk9.size; refine V1.new (bx69 _ _) fun b10 w10 N10 => ?_; have gN10 := N10.ge; have lN10 := N10.lt; have zN10 := N10.keep.size; have a10 := N10.at_; try simp only [Value.cells, List.toList_toArray] at a10
   replace kk9 := N10.kp kk9; replace a9 := N10.a a9; refine ⟨a9, ?_⟩; refine Xw.i _ (fun w' _ => by simp [go_sem] <;> trivial) ?_; rw [← hT]; exact ⟨⟨b10, line, rfl, a10, by omega⟩, kk9⟩
 | tok t k =>
   replace hW : _ = _ := hW; subst hW; simp only at hT; obtain ⟨hk1, hk2⟩ := hpos t k rfl; refine V1.i (by simp [go_sem] <;> trivial) ?_; refine V1.i (by simp [go_sem] <;> trivial) ?_; refine V1.i (by simp [go_sem] <;> trivial) ?_; refine V1.new (al86 _) fun b5 w5 N5 => ?_; have gN5 := N5.ge; have lN5 := N5.lt; have zN5 := N5.keep.size; have a5 := N5.at_; try simp only [Value.cells, List.toList_toArray] at a5
   replace kk4 := N5.kp kk4; have ha5 := ha4.fr N5.keep (by simp); refine U1.tok (t := t) a5 rfl fun w6 U6 => ?_; have z6 := U6.size; replace kk4 := kk4.trans' U6.keep (by simp <;> omega); have ha6 := ha5.fr2 U6.keep (fun g hg => by have := (ha4.lt hg).2; simp; omega); have a6 := U6.at_; refine V1.i (neNN _ _) ?_; refine If.f ?_; refine V1.i (by simp [go_sem] <;> trivial) ?_; refine U1.store (onesAll rfl rfl) a6 (by simp) fun w7 U7 => ?_; have zU7 := U7.size; replace kk4 := kk4.trans' U7.keep (by simp <;> omega); replace a6 := U7.at_; simp only [List.set_cons_zero, List.set_cons_succ] at a6; have ha7 := ha6.fr2 U7.keep (fun g hg => by have := (ha4.lt hg).2; simp; omega); refine V1.i (ld_tok (t := t.at line) a6) ?_; refine V1.newSlice (z := (tokC (t.at line)).toArray) (by simp [go_sem, tokV, tokC]; repeat' (first | rfl | apply And.intro)) fun b8 w8 N8 => ?_
   have z8 := N8.keep.size; have ha8 := ha7.fr N8.keep (by simp); have kk8 := kk4.trans N8.keep; obtain ⟨v', w9, hr, ha9, k9⟩ := app73 (n := 65536) ha8 N8.at_ (by omega) (by omega) (by omega); refine V1.i hr ?_; refine V1.i (fromS _ (c :: l) k hk2) ?_; have z9 := k9.size; have kk9 : Keep [] w w9 := kk8.trans' k9 (fun i hi hlt => by
     simp only [Option.mem_toList, Option.mem_def] at hi; have := (ha8.lt hi).1; omega)
   simp only [List.length_cons] at hk2; refine hK n _ _ _ _ _ _ (by omega) ⟨line, (c :: l).drop k, _, rfl, rfl, ha9, by omega, by simp; omega, by simp; omega, by simp; omega, ?_, kk9⟩; rw [← LR.app_cons]; exact hT
theorem all_zero : All 0 := by
 constructor
 all_goals first
   | (intro a; intro w x ts deep own r p hd hn hr hne; exact absurd hr.symm hne)
   | (intro w x ts deep own r p hd hn hr hne; exact absurd hr.symm hne)
   | (intro k hk w x ts deep own r l la lo p hd hn hr hne; exact absurd hr.symm hne)
   | (intro w x ts deep own r l la lo p hd hn hr hne; exact absurd hr.symm hne)
   | (intro w x ts deep own r bs line p hd hn hr hne; exact absurd hr.symm hne)
theorem all (n : Nat) : All n := by
 induction n using Nat.strongRecOn with
 | _ n ih =>
   cases n with
   | zero => exact all_zero
   | succ n =>
     have h : ∀ m, m ≤ n → All m := fun m hm => ih m (by omega); have h0 := h n (Nat.le_refl _); exact ⟨g30 h, g105 h0, g108 h, g162 h0, g156 h, g199 h0, g220 h, fun k hk => g163 h0 k hk, g200 h0, g58 h, g100 h0, g101 h, g109 h0⟩
def opsL : List (List UInt8 × Int) := [([111, 114], 1), ([97, 110, 100], 2), ([60], 3), ([60, 61], 3), ([62], 3), ([62, 61], 3), ([61, 61], 3), ([126, 61], 3), ([124], 4), ([126], 5), ([38], 6), ([60, 60], 7), ([62, 62], 7), ([46, 46], 8), ([43], 9), ([45], 9), ([42], 10), ([47, 47], 10), ([37], 10)]
def lvls : List (List UInt8) := [[111, 114], [97, 110, 100], [60, 32, 60, 61, 32, 62, 32, 62, 61, 32, 61, 61, 32, 126, 61], [124], [126], [38], [60, 60, 32, 62, 62], [46, 46], [43, 32, 45], [42, 32, 47, 47, 32, 37]]
def laid (k : Nat) : List (List UInt8 × Int) := ((lvls.take k).zipIdx).flatMap fun p => (Lib.fields p.1).map fun s => (s, (p.2 : Int) + 1)
def mapL (l : List (List UInt8 × Int)) : List (Value × Value) := l.map fun p => (str p.1, .int .i64 p.2)
theorem laid_all : laid 10 = opsL := by decide
theorem opsL_bind : ∀ p ∈ opsL, bindN p.1 = p.2 := by decide
theorem opsL_none (s : List UInt8) (h : ∀ p ∈ opsL, p.1 ≠ s) : bindN s = 0 := by
 have h' : ∀ a b, (a, b) ∈ opsL → ¬ s = a := fun a b hm e => h (a, b) hm e.symm; unfold bindN; simp only [h' [111, 114] 1 (by decide), h' [97, 110, 100] 2 (by decide), h' [60] 3 (by decide), h' [60, 61] 3 (by decide), h' [62] 3 (by decide), h' [62, 61] 3 (by decide), h' [61, 61] 3 (by decide), h' [126, 61] 3 (by decide), h' [124] 4 (by decide), h' [126] 5 (by decide), h' [38] 6 (by decide), h' [60, 60] 7 (by decide), h' [62, 62] 7 (by decide), h' [46, 46] 8 (by decide), h' [43] 9 (by decide), h' [45] 9 (by decide), h' [42] 10 (by decide), h' [47, 47] 10 (by decide), h' [37] 10 (by decide), or_self, if_false]
theorem str_inj {a b : List UInt8} (h : str a = str b) : a = b := by
 unfold str at h; injection h with h; injection h with h; simpa using h
theorem sat_of {w : World} {b : Nat} (h : MapAt w b (mapL opsL)) : SAt bindN w b := by
 refine ⟨_, _, h, fun s w1 h1 => ?_⟩; have hm : Tryz.prog.underlying 80 = some (.map 9 3) := by kernel_rfl
 have hd : Tryz.prog.underlying 9 = some .string := by kernel_rfl
 have hks : ∀ p ∈ mapL opsL, MapKept.IsKey .string p.1 := by
   intro p hp; obtain ⟨q, _, rfl⟩ := List.mem_map.1 hp; exact trivial
 by_cases hex : ∃ p ∈ opsL, p.1 = s
 · obtain ⟨p, hp, rfl⟩ := hex; have := look_hit (w := w1) (v := .int .i64 (bindN p.1)) hm hd h1 (show MapKept.IsKey .string (str p.1) from trivial) hks (by
     intro q hq e; obtain ⟨q', hq', rfl⟩ := List.mem_map.1 hq; have e' := str_inj e; show Value.int .i64 q'.2 = _
     rw [← opsL_bind q' hq', e']) ⟨_, List.mem_map.2 ⟨p, hp, rfl⟩, rfl⟩ false
   simpa using this
 · have hno : ∀ p ∈ opsL, p.1 ≠ s := fun p hp e => hex ⟨p, hp, e⟩; have := look_miss (w := w1) (z := .int .i64 0) hm hd h1 (show MapKept.IsKey .string (str s) from trivial) hks (by
     intro q hq e; obtain ⟨q', hq', rfl⟩ := List.mem_map.1 hq; exact hno q' hq' (str_inj e)) (by simp [go_sem]) false
   rw [opsL_none s hno]; simpa using this
def fld (k : Nat) : List (List UInt8) := Lib.fields (lvls.getD k [])
theorem laid_succ (k : Nat) (hk : k < 10) : laid (k + 1) = laid k ++ (fld k).map fun s => (s, (k : Int) + 1) := by
 have : ∀ k, k < 10 → laid (k + 1) = laid k ++ (fld k).map fun s => (s, (k : Int) + 1) := by decide
 exact this k hk
theorem fresh : ∀ k, k < 10 → ∀ j, j < (fld k).length → ∀ p ∈ laid k ++ ((fld k).take j).map (fun s => (s, (k : Int) + 1)), p.1 ≠ (fld k).getD j [] := by decide
theorem lvl_ok : ∀ k, k < 10 → (lvls.getD k []).length ≤ 100 ∧ ∀ b ∈ lvls.getD k [], b.toNat < 128 := by decide
theorem fld_le : ∀ k, k < 10 → (fld k).length ≤ 6 := by decide
theorem c29 (w : World) (g : GL w) : Calls Tryz.prog 29 #[] w (Ret (fun v w' => ∃ b, v = .map (some b) ∧ SAt bindN w' b ∧ w.heap.size ≤ b ∧ b < w'.heap.size ∧ Keep [] w w') NP) := by
 refine s29 ?_; unfold S29; refine V1.map fun bm w1 m1 gb k1 => ?_; have lb := m1.lt; have kk := k1; refine V1.newSlice (by simp [go_sem] <;> trivial) fun b7 w2 N2 => ?_; have gN2 := N2.ge; have lN2 := N2.lt; have zN2 := N2.keep.size; have a7 := N2.at_; try simp only [Value.cells, List.toList_toArray] at a7
 replace kk := N2.kp kk; replace m1 := m1.keep N2.keep (by simp); replace a7 : At w2 b7 (lvls.map str) := by simpa [lvls, str] using a7
 refine V1.i (by simp [go_sem] <;> trivial) ?_; refine L1.i (fun v w' => ∃ k : Nat, k ≤ 10 ∧ v = .int .i64 k ∧ MapAt w' bm (mapL (laid k)) ∧ At w' b7 (lvls.map str) ∧ Keep [] w w' ∧ w2.heap.size ≤ w'.heap.size) (fun v w' => match v with | .int _ n => (10 - n.toNat) | _ => 0) ⟨0, by omega, rfl, m1, a7, kk, Nat.le_refl _⟩ ?_; rintro v w3 ⟨k, hk, rfl, m3, a7, kk, z3⟩; by_cases hlt : k < 10
 · refine V1.i (v := .bool true) (w' := w3) (by simp [go_sem]; omega) ?_; refine If.t ?_; refine V1.i (ix45 _ hlt) ?_; have hlv : (lvls.map str)[k]? = some (str (lvls.getD k [])) := by
     rw [List.getElem?_map, List.getD_eq_getElem?_getD, List.getElem?_eq_getElem (by simpa [lvls] using hlt)]; rfl
   refine V1.load (oneAll rfl) a7 hlv ?_; obtain ⟨hll, hla⟩ := lvl_ok k hlt; refine cf56 (c56 w3 (lvls.getD k []) (g.new kk) (by omega) hla) ?_ (NP.no (e := _)); rintro _ w4 ⟨b4, rfl, N4⟩; have zN4 := N4.keep.size; have gN4 := N4.ge; have a4 := N4.at_; have hf6 := fld_le k hlt; have e1 : Lib.fields (lvls.getD k []) = fld k := rfl; rw [e1] at *; replace a7 := N4.a a7; replace m3 := m3.keep N4.keep (by simp); have kk4 := kk.trans N4.keep; refine V1.i (by simp [go_sem] <;> trivial) ?_
   refine L1.i (fun v w' => ∃ j : Nat, j ≤ (fld k).length ∧ v = .int .i64 j ∧ MapAt w' bm (mapL (laid k ++ ((fld k).take j).map (fun s => (s, (k : Int) + 1)))) ∧ At w' b7 (lvls.map str) ∧ At w' b4 ((fld k).map str) ∧ Keep [] w w' ∧ w2.heap.size ≤ w'.heap.size) (fun v w' => match v with | .int _ n => ((fld k).length - n.toNat) | _ => 0) ⟨0, by omega, rfl, by simpa using m3, a7, a4, kk4, by omega⟩ ?_; rintro v w5 ⟨j, hj, rfl, m5, a7, a4, kk5, z5⟩; by_cases hjl : j < (fld k).length
   · refine V1.i (v := .bool true) (w' := w5) (by simp [go_sem]; omega) ?_; refine If.t ?_; refine V1.i (ix45 _ hjl) ?_; have hjv : ((fld k).map str)[j]? = some (str ((fld k).getD j [])) := by
       rw [List.getElem?_map, List.getD_eq_getElem?_getD, List.getElem?_eq_getElem hjl]; rfl
     refine V1.load (oneAll rfl) a4 hjv ?_; refine V1.i (addI _ _ _ _ _ _ (by omega) (by omega)) ?_; refine U1.mapAdd (kt := 9) (et := 3) (d := .string) (by kernel_rfl) (by kernel_rfl) m5 (show MapKept.IsKey .string (str _) from trivial) (by
       intro p hp; obtain ⟨q, _, rfl⟩ := List.mem_map.1 hp; exact trivial) (by
       intro p hp e; obtain ⟨q, hq, rfl⟩ := List.mem_map.1 hp; exact fresh k hlt j hjl q hq (str_inj e)) fun w6 m6 z6 k6 => ?_
     refine V1.i (addI _ _ _ _ _ _ (by omega) (by omega)) ?_; have hbm := m5.lt; refine ⟨⟨j + 1, by omega, by simp, ?_, k6.at a7 (by simp; omega), k6.at a4 (by simp; omega), kk5.trans' k6 (by simp; omega), by omega⟩, by simp; omega⟩; rw [List.take_succ_eq_append_getElem hjl]; have e2 : (fld k)[j] = (fld k).getD j [] := by rw [List.getD_eq_getElem?_getD, List.getElem?_eq_getElem hjl]; rfl
     rw [e2]; simpa [mapL] using m6
   · have : j = (fld k).length := by omega
     subst this; refine V1.i (v := .bool false) (w' := w5) (by simp [go_sem]) ?_; refine If.f ?_; refine V1.i (addI _ _ _ _ _ _ (by omega) (by omega)) ?_; refine ⟨⟨k + 1, by omega, by simp, ?_, a7, kk5, z5⟩, by simp; omega⟩; rw [laid_succ k hlt]; simpa using m5
 · have : k = 10 := by omega
   subst this; refine V1.i (v := .bool false) (w' := w3) (by simp [go_sem]) ?_; refine If.f ?_; rw [laid_all] at m3; exact ⟨bm, rfl, sat_of m3, gb, m3.lt, kk⟩
def tl : Code → Code | .seq _ b => b | c => c
def S28 (R : Ending → World → Prop) (a0 a1 a2 : Value) (w : World) : Prop :=
 V1 Tryz.prog (Bo .neq 20 false true a2 .nilIface) w (fun a5 w =>
 If a5 (
 ∃ S1 : World → Prop, S1 w.drew ∧
 Xw Tryz.prog S1 (Instr.typeAssert a2 20 78 false) fun a7 => Xw Tryz.prog (fun _ => True) (Instr.field 78 a7 0) fun a8 => Xw Tryz.prog S1 (Instr.makeInterface 76 a8) fun a9 => U1 Tryz.prog (Instr.storeAt 26 a0 (.slice none 0 0)) w.drew (fun w =>
 S1 w ∧ U1 Tryz.prog (Instr.storeAt 31 a1 a9) w (fun w =>
 R (.returned (.tuple #[])) w) (pn R)) (pn R)) (
 R (.returned (.tuple #[])) w)) (pn R)
theorem e28 (R : Ending → World → Prop) (a0 a1 a2 : Value) (w : World) : body Tryz.prog 10 [2] [] (tl (codeB Tryz.f28)) [a0, a1, a2] R w = S28 R a0 a1 a2 w := by kernel_rfl
theorem rest_wp {fn : Func} {c : Code} {n : Nat} {hd : List Nat} {args : List Value} {w : World} {a : Act} {c0 : Frame} {cs cs' : List Frame} {u' : FrameMode} {R : Ending → World → Prop} {R' : Ending → FrameMode → World → Prop}
   (h : body Tryz.prog n hd [] c args R w) (ha : Ag n (argEnv 0 args) a) (hd0 : a.defers = []) (hcs : cs' = { c0 with mode := u' } :: cs) (hres : fn.results = #[])
   (hr : ∀ w', R (.returned (.tuple #[])) w' → R' (.returned (.tuple #[])) u' w') (hp : ∀ ch w', R (.panicked ch) w' → R' (.panicked ch) u' w') :
   c.wpS Tryz.prog (bodyPostS Tryz.prog fn c0 cs R') a cs' w := by
 have hv : ∀ (a' : Act) (w' : World), (results fn a'.tmps).run Tryz.prog w' = .ok (.tuple #[]) w' := by
   intro a' w'; unfold results; rw [hres]; simp [go_sem]
 refine wpS_of_wp ?_; refine den_wp (M := Dm.no) (n := n) (ps := []) (rs := []) (hd := hd) mixed c none [] (argEnv 0 args) () w _ a _ c rfl h ha hd0 ?_ ⟨?_, ?_, ?_, ?_, ?_⟩
 · intro c' a' w' d v _ hq; exact ⟨hq.1, hq.2⟩
 · intro ρ d w' a' ha' hd' _ hk; exact ⟨hd', u', hcs, _, hv a' w', hr w' hk⟩
 · intro i ρ d w' a' _ _ _ hk; exact hk.elim
 · intro i ρ d w' a' _ _ _ hk; exact hk.elim
 · intro ρ d w' a' ha' hd' _ hk; exact ⟨hd', u', hcs, _, hv a' w', hr w' hk⟩
 · intro c' ρ d w' a' ha' hd' _ hk; exact ⟨hd', u', hcs, hp c' w' hk⟩
theorem ag3 (p0 p1 v : Value) : Ag 10 (argEnv 0 [p0, p1, v]) { tmps := #[p0, p1] ++ ((Array.replicate 8 undef).setIfInBounds 1 v).setIfInBounds 0 v, defers := [] } := by
 refine ⟨by simp, ?_⟩; intro t x ht; simp only [argEnv, List.lookup] at ht; split at ht
 · rename_i h; have := eq_of_beq h; subst this; cases ht; rfl
 · split at ht
   · rename_i h; have := eq_of_beq h; subst this; cases ht; rfl
   · split at ht
     · rename_i h; have := eq_of_beq h; subst this; cases ht; rfl
     · cases ht
theorem cd28_ret {p0 p1 : Value} {w : World} {R : Ending → World → Prop} (h : S28 R p0 p1 .nilIface w) {R' : Ending → FrameMode → World → Prop}
   (hr : ∀ w', R (.returned (.tuple #[])) w' → R' (.returned (.tuple #[])) .returning w') (hp : ∀ ch w', R (.panicked ch) w' → R' (.panicked ch) .returning w') :
   CallsD Tryz.prog 28 #[p0, p1] .returning w R' := by
 refine callsD_of_wpS (c := codeB Tryz.f28) Tryz.func28 (by kernel_rfl) fun c₀ cs hu => ?_; show (Code.seq _ (tl (codeB Tryz.f28))).wpS _ _ _ _ _
 apply wpS_seq
 apply wpS_region
 simp [wpOpsS, go_sem, recoverD, hu, Exit.thenS]
 refine rest_wp (n := 10) (hd := [2]) (args := [p0, p1, .nilIface]) (u' := .returning) (by rw [e28]; exact h) (ag3 p0 p1 .nilIface) rfl ?_ (by kernel_rfl) hr hp
 cases c₀
 simp_all
theorem cd28_pan {p0 p1 v : Value} {w : World} {R : Ending → World → Prop} (h : S28 R p0 p1 v w) {R' : Ending → FrameMode → World → Prop}
   (hr : ∀ w', R (.returned (.tuple #[])) w' → R' (.returned (.tuple #[])) (.panicking [{ v, recovered := true }]) w') (hp : ∀ ch w', R (.panicked ch) w' → R' (.panicked ch) (.panicking [{ v, recovered := true }]) w') :
   CallsD Tryz.prog 28 #[p0, p1] (.panicking [{ v, recovered := false }]) w R' := by
 refine callsD_of_wpS (c := codeB Tryz.f28) Tryz.func28 (by kernel_rfl) fun c₀ cs hu => ?_; show (Code.seq _ (tl (codeB Tryz.f28))).wpS _ _ _ _ _
 apply wpS_seq
 apply wpS_region
 simp [wpOpsS, go_sem, recoverD, hu, Exit.thenS]
 exact rest_wp (n := 10) (hd := [2]) (args := [p0, p1, v]) (u' := .panicking [{ v, recovered := true }]) (by rw [e28]; exact h) (ag3 p0 p1 v) rfl rfl (by kernel_rfl) hr hp
theorem run_inv28 (a b : Value) (w : World) : (invoke (.fn (.func 28) #[a, b]) #[]).run Tryz.prog w = .ok (.enter 28 #[a, b]) w := callFunc_run Tryz.func28 (c := codeB Tryz.f28) (by kernel_rfl) (by kernel_rfl) _ _
theorem lv28_ret {res : World → (Value → Prop) → Prop} {R : Ending → World → Prop} {a b : Value} {w : World} (h : Lv Tryz.prog res R [] .returning w) :
   Lv Tryz.prog res R [⟨.fn (.func 28) #[a, b], #[]⟩] .returning w := by
 refine ⟨by simp, .func 28, #[a, b], 28, #[a, b], rfl, run_inv28 a b w, ?_⟩; refine cd28_ret (R := fun e w' => e = .returned (.tuple #[]) ∧ w' = w) ?_ ?_ ?_
 · unfold S28; refine V1.i (v := .bool false) (w' := w) (by simp [go_sem]) ?_; exact If.f ⟨rfl, rfl⟩
 · rintro w' ⟨_, rfl⟩; exact h
 · rintro ch w' ⟨e, _⟩
   cases e
theorem ta78 (v : Value) (w : World) : (Instr.typeAssert (.iface 78 v) 20 78 false).run Tryz.prog w = .ok v w := by kernel_rfl
theorem lv28_pan {res : World → (Value → Prop) → Prop} {R : Ending → World → Prop} {bo be b : Nat} {x y : Value} {w : World} (ao : At w bo [x]) (ae : At w be [y]) (hne : bo ≠ be)
   (h : ∀ w', At w' bo [.slice none 0 0] → At w' be [.iface 76 (ptr b)] → Keep [bo, be] w w' → Lv Tryz.prog res R [] .returning w') :
   Lv Tryz.prog res R [⟨.fn (.func 28) #[ptr bo, ptr be], #[]⟩] (.panicking [{ v := .iface 78 (.agg #[ptr b]), recovered := false }]) w := by
 refine ⟨by simp, .func 28, #[ptr bo, ptr be], 28, #[ptr bo, ptr be], rfl, run_inv28 _ _ w, ?_⟩; refine cd28_pan (R := fun e w' => e = .returned (.tuple #[]) ∧ At w' bo [.slice none 0 0] ∧ At w' be [.iface 76 (ptr b)] ∧ Keep [bo, be] w w') ?_ ?_ ?_
 · unfold S28; refine V1.i (v := .bool true) (w' := w) (by simp [go_sem]) ?_; refine If.t ?_; have kk : Keep [bo, be] w w.drew := (Keep.refl _ _).drew; have ao' : At w.drew bo [x] := ao; have ae' : At w.drew be [y] := ae; refine ⟨fun _ => True, trivial, ?_⟩; generalize w.drew = w1 at *; refine Xw.i (.agg #[ptr b]) (fun w' _ => ta78 _ w') ?_; refine Xw.i (ptr b) (fun w' _ => by simp [go_sem]) ?_; refine Xw.i (.iface 76 (ptr b)) (fun w' _ => by simp [go_sem]) ?_; unfold ptr; refine U1.store (onesAll rfl rfl) ao' (by simp) fun w2 U2 => ?_; refine ⟨trivial, ?_⟩; refine U1.store (onesAll rfl rfl) (U2.keep.at ae' (by simp; omega)) (by simp) fun w3 U3 => ?_; exact ⟨rfl, U3.keep.at U2.at_ (by simp; omega), U3.at_, (kk.trans' U2.keep (by simp)).trans' U3.keep (by simp)⟩
 · rintro w' ⟨_, h1, h2, h3⟩; exact h w' h1 h2 h3
 · rintro ch w' ⟨e, _⟩
   cases e
def parseS (n : Nat) (s : List UInt8) : Res := match lexT s with
  | .fail c => .fail c
  | .ok ts => parseT n ts
def PQ (w : World) (r : Res) (v : Value) (w' : World) : Prop := match r with
  | .ok t _ _ => ∃ lv, v = .tuple #[lv, .nilIface] ∧ Rep (Fr w.heap.size []) w' t (.L lv) ∧ isList t = true
  | .fail c => ∃ b line, v = .tuple #[.slice none 0 0, .iface 76 (ptr b)] ∧ At w' b [.int .i64 c, .int .i64 line] ∧ w.heap.size ≤ b
  | .oof => False
theorem c13 (w : World) (s : List UInt8) (g : GL w) (n : Nat) (hn : n ≤ fuelMax) (r : Res) (hr : parseS n s = r) (hne : r ≠ .oof) : Calls Tryz.prog 13 #[str s] w (Ret (fun v w' => PQ w r v w' ∧ Keep [] w w') NP) := by
 refine s13 ?_; unfold S13; have kk := Keep.refl [] w; refine V1.new (al26 _) fun bo w1 N1 => ?_; have gN1 := N1.ge; have lN1 := N1.lt; have zN1 := N1.keep.size; have ao := N1.at_; try simp only [Value.cells, List.toList_toArray] at ao
 replace kk := N1.kp kk; refine V1.new (al31 _) fun be w2 N2 => ?_; have gN2 := N2.ge; have lN2 := N2.lt; have zN2 := N2.keep.size; have ae := N2.at_; try simp only [Value.cells, List.toList_toArray] at ae
 replace kk := N2.kp kk; replace ao := N2.a ao; have g2 := g.new kk; refine cf27 (c27 w2 s g2) ?_ (NP.no (e := _)); rintro _ w3 ⟨hT, K3⟩; have zK3 := K3.size; replace kk := kk.trans' K3 (by simp <;> omega); replace ao := K3.at ao (by simp <;> omega); replace ae := K3.at ae (by simp <;> omega); unfold parseS at hr; have z2 := kk.size; generalize lexT s = lx at *
 cases lx with
 | fail c =>
   obtain ⟨b, line, rfl, ab, gb⟩ := hT; subst hr; refine V1.i (by simp [go_sem] <;> trivial) ?_; refine V1.i (by simp [go_sem] <;> trivial) ?_; refine U1.store (onesAll rfl rfl) ae (by simp) fun w4 U4 => ?_; have zU4 := U4.size; replace kk := kk.trans' U4.keep (by simp <;> omega); replace ao := U4.keep.at ao (by simp <;> omega); replace ab := U4.keep.at ab (by simp <;> omega); replace ae := U4.at_; simp only [List.set_cons_zero, List.set_cons_succ] at ae; refine V1.load (oneAll rfl) (ae) rfl ?_; refine V1.i (neNil _ _ _ _) ?_; refine If.t ?_; have K5 : Keep [] w4 w4.drew := (Keep.refl _ _).drew; generalize w4.drew = w5 at K5 ⊢; have zK5 := K5.size; replace kk := kk.trans' K5 (by simp <;> omega); replace ao := K5.at ao (by simp <;> omega); replace ab := K5.at ab (by simp <;> omega); replace ae := K5.at ae (by simp <;> omega); refine ⟨fun w' => At w' be [.iface 76 (ptr b)], ae, ?_⟩
   refine Xw.i _ (fun w' hw => (oneAll rfl) _ _ _ (by rw [hw.cell]; rfl)) ?_; refine U1.store (onesAll rfl rfl) ao (by simp) fun w6 U6 => ?_; have zU6 := U6.size; replace kk := kk.trans' U6.keep (by simp <;> omega); replace ab := U6.keep.at ab (by simp <;> omega); replace ae := U6.keep.at ae (by simp <;> omega); replace ao := U6.at_; simp only [List.set_cons_zero, List.set_cons_succ] at ao; refine ⟨ae, ?_⟩; refine U1.store (onesAll rfl rfl) ae (by simp) fun w7 U7 => ?_; have zU7 := U7.size; replace kk := kk.trans' U7.keep (by simp <;> omega); replace ab := U7.keep.at ab (by simp <;> omega); replace ao := U7.keep.at ao (by simp <;> omega); replace ae := U7.at_; simp only [List.set_cons_zero, List.set_cons_succ] at ae; refine ⟨_, (oneAll rfl) _ _ _ (by rw [ao.cell]; rfl), _, (oneAll rfl) _ _ _ (by rw [ae.cell]; rfl), ?_⟩; exact ⟨⟨b, line, rfl, ab, by omega⟩, kk⟩
 | ok ts =>
   obtain ⟨bt, ct, rfl, ht, hct, gbt, lbt, htn⟩ := hT; refine V1.i (by simp [go_sem] <;> trivial) ?_; refine V1.i (by simp [go_sem] <;> trivial) ?_; refine U1.store (onesAll rfl rfl) ae (by simp) fun w4 U4 => ?_; have zU4 := U4.size; replace kk := kk.trans' U4.keep (by simp <;> omega); replace ao := U4.keep.at ao (by simp <;> omega); replace ae := U4.at_; simp only [List.set_cons_zero, List.set_cons_succ] at ae; replace ht := ToksAt.keep U4.keep (by simp; omega) _ _ ht; refine V1.load (oneAll rfl) (ae) rfl ?_; refine V1.i (neNN _ _) ?_; refine If.f ?_; refine V1.i (by simp [go_sem] <;> trivial) ?_; refine D1.i (v := ⟨.fn (.func 28) #[ptr bo, ptr be], #[]⟩) (w' := w4) (by simp [go_sem, Deferred.ofValue]; exact ⟨rfl, rfl⟩) ?_; refine cf29 (c29 w4 (g.new kk)) ?_ (NP.no (e := _)); rintro _ w5 ⟨bm, rfl, sm, gbm, lbm, K5⟩; have zK5 := K5.size; replace kk := kk.trans' K5 (by simp <;> omega)
   replace ao := K5.at ao (by simp <;> omega); replace ae := K5.at ae (by simp <;> omega); replace ht := ToksAt.keep K5 (by simp) _ _ ht; refine V1.i (by simp [go_sem] <;> trivial) ?_; refine V1.new (bx83 _ _) fun bp w6 N6 => ?_; have gN6 := N6.ge; have lN6 := N6.lt; have zN6 := N6.keep.size; have ap := N6.at_; try simp only [Value.cells, List.toList_toArray] at ap
   replace kk := N6.kp kk; replace ao := N6.a ao; replace ae := N6.a ae; replace ht := ToksAt.keep N6.keep (by simp) _ _ ht; replace sm := sm.keep N6.keep (by simp); have p : PS w6 ⟨bp, bt, bm⟩ ts 0 false := ⟨⟨0, ct, ap, hct, ht⟩, sm, by show bt ≠ bp; omega, by show bm ≠ bp; omega, by show bt < _; omega, htn⟩; dsimp only at hr; unfold parseT at hr; have hres : ∀ (w' : World) (x y : Value), At w' bo [x] → At w' be [y] → PQ w r (.tuple #[x, y]) w' → Keep [] w w' → Lv Tryz.prog (fun w k => ∃ v0, (Instr.loadAt 26 (.pointer (some ⟨bo, 0, none⟩))).run Tryz.prog w = .ok v0 w ∧ ∃ v1, (Instr.loadAt 31 (.pointer (some ⟨be, 0, none⟩))).run Tryz.prog w = .ok v1 w ∧ k (.tuple #[v0, v1])) (Ret (fun v w' => PQ w r v w' ∧ Keep [] w w') NP) [] .returning w' := by
     intro w' x y h1 h2 h3 h4; exact ⟨_, (oneAll rfl) _ _ _ (by rw [h1.cell]; rfl), _, (oneAll rfl) _ _ _ (by rw [h2.cell]; rfl), h3, h4⟩
   have hpan : ∀ (c : List PanicEntry) (wa wb : World), Er [bp] ⟨bp, bt, bm⟩ wa r c wb → Keep [] w wa → At wb bo [.slice none 0 0] ∨ (∃ x, At wb bo [x]) → (∃ y, At wb be [y]) → w6.heap.size ≤ wa.heap.size → Lv Tryz.prog (fun w k => ∃ v0, (Instr.loadAt 26 (.pointer (some ⟨bo, 0, none⟩))).run Tryz.prog w = .ok v0 w ∧ ∃ v1, (Instr.loadAt 31 (.pointer (some ⟨be, 0, none⟩))).run Tryz.prog w = .ok v1 w ∧ k (.tuple #[v0, v1])) (Ret (fun v w' => PQ w r v w' ∧ Keep [] w w') NP) [⟨.fn (.func 28) #[ptr bo, ptr be], #[]⟩] (.panicking c) wb := by
     intro c wa wb he hk ho hy hz
     cases r with
     | ok => exact he.elim
     | oof => exact he.elim
     | fail code =>
       obtain ⟨⟨b, line, rfl, ab, gb⟩, -, kb⟩ := he; obtain ⟨x, ho⟩ : ∃ x, At wb bo [x] := by rcases ho with h | h; exact ⟨_, h⟩; exact h
       obtain ⟨y, hy⟩ := hy; have zz := hk.size; have zb := kb.size; refine lv28_pan ho hy (by omega) fun w' h1 h2 h3 => ?_; refine hres w' _ _ h1 h2 ⟨b, line, rfl, h3.at ab (by simp; omega), by omega⟩ ?_; exact (hk.trans' kb (by simp; omega)).trans' h3 (by simp; omega)
   have z6 := kk.size; have hb : Calls Tryz.prog 30 #[ptr bp] w6 (Ret (Ok [bp] w6.heap.size ⟨bp, bt, bm⟩ w6 0 .L isList false (run n .block 0 ts)) (Er [bp] ⟨bp, bt, bm⟩ w6 (run n .block 0 ts))) := (all n).block w6 ⟨bp, bt, bm⟩ ts 0 false _ p (by omega) (by omega) rfl (bind_ne hr hne); generalize hrun : run n .block 0 ts = rb at hb hr; refine cf30 (args := #[.pointer (some ⟨bp, 0, none⟩)]) hb ?_ ?_; rotate_left
   · intro c w7 h; have h' : Er [bp] ⟨bp, bt, bm⟩ w6 r c w7 := h.next hr; have hk7 : Keep [bp] w6 w7 ∨ True := .inr trivial
     cases r with
     | ok => exact h'.elim
     | oof => exact h'.elim
     | fail code => exact hpan c w6 w7 h' kk (.inr ⟨_, h'.2.2.at ao (by simp; omega)⟩) ⟨_, h'.2.2.at ae (by simp; omega)⟩ (Nat.le_refl _)
   intro lv w7 h; obtain ⟨t, ts1, o, hr1, r1, S1, ⟨o', -, p⟩, K7⟩ := h.out; rw [hr1, bind_ok] at hr; have zK7 := K7.size; have zK7 := K7.size; replace ao := K7.at ao (by simp <;> omega); replace ae := K7.at ae (by simp <;> omega); replace kk : Keep [] w w7 := kk.trans' K7 (by simp; omega); have hsc := r1.scL S1; refine U1.store (onesAll rfl hsc) ao (by simp) fun w8 U8 => ?_; have zU8 := U8.size; replace ae := U8.keep.at ae (by simp <;> omega); replace p := p.keep U8.keep (by simp <;> omega) (by simp <;> omega) (by simp <;> omega); replace r1 := r1.fr U8.keep (by simp <;> omega); replace ao := U8.at_; simp only [List.set_cons_zero, List.set_cons_succ] at ao; replace kk : Keep [] w w8 := kk.trans' U8.keep (by simp; omega); refine D0J.go ?_; have h31 := d31 p; unfold ptr at h31; dsimp only at h31; trace_state
   refine cf31 h31 ?_ (NP.no (e := _)); rintro _ w9 ⟨rfl, K9⟩; have zK9 := K9.size; have zK9 := K9.size; replace ae := K9.at ae (by simp <;> omega); replace p := p.keep K9 (by simp <;> omega) (by simp <;> omega) (by simp <;> omega); replace r1 := r1.fr K9 (by simp <;> omega); replace ao := K9.at ao (by simp <;> omega); replace kk := kk.trans' K9 (by simp <;> omega); rw [tokV]; refine V1.i (by simp [go_sem] <;> trivial) ?_; refine V1.i (v := .bool (!((hd ts1).kind == 5))) (w' := w9) (by simp [go_sem]; rfl) ?_
   cases h5 : ((hd ts1).kind == 5) with
   | false =>
     rw [h5] at hr; refine If.t ?_; have h32 := d32 4 p; unfold ptr at h32; dsimp only at h32; refine cf32 h32 ?_ ?_
     · rintro _ _ h; exact h.elim
     · intro c w10 h; rw [← hr] at hpan ⊢; exact hpan c w9 w10 h kk (.inr ⟨_, h.2.2.at ao (by simp; omega)⟩) ⟨_, h.2.2.at ae (by simp; omega)⟩ (by omega)
   | true =>
     rw [h5] at hr; refine If.f ?_; subst hr; refine V1.load (oneAll rfl) (ao) rfl ?_; refine U1.store (onesAll rfl hsc) ao (by simp) fun w10 U10 => ?_; have zU10 := U10.size; replace ae := U10.keep.at ae (by simp <;> omega); replace r1 := r1.fr U10.keep (by simp <;> omega); replace ao := U10.at_; simp only [List.set_cons_zero, List.set_cons_succ] at ao; replace kk : Keep [] w w10 := kk.trans' U10.keep (by simp; omega); refine U1.store (onesAll rfl rfl) ae (by simp) fun w11 U11 => ?_; have zU11 := U11.size; replace ao := U11.keep.at ao (by simp <;> omega); replace r1 := r1.fr U11.keep (by simp <;> omega); replace ae := U11.at_; simp only [List.set_cons_zero, List.set_cons_succ] at ae; replace kk : Keep [] w w11 := kk.trans' U11.keep (by simp; omega); exact lv28_ret (hres w11 _ _ ao ae ⟨lv, rfl, r1.fit (by omega) (by simp), S1⟩ kk)
end Go.Proofs.YtoddjlclpnoomaaGreatDoor

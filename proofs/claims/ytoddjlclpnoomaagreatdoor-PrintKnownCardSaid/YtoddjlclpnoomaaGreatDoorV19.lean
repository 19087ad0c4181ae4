import Derived.Deep.WholeRow
import Derived.LaidMore
import Derived.Lay
import Derived.Lib.LaidU8T
import Derived.OpenShut
import Derived.PinnedBridge
import Derived.ProofKit
import Derived.SevenTiedAt
import Derived.Stop.Joined
import Derived.Stop.LaidErr
import Derived.Test.YtoddjlclpnoomaaGreatDoorCards
import Derived.Test.YtoddjlclpnoomaaGreatDoorTie
import Derived.Test.YtoddjlclpnoomaaGreatDoorV3
import Derived.Test.YtoddjlclpnoomaaGreatDoorV9
import Derived.Test.YtoddjlclpnoomaaGreatDoorV15
import Derived.Test.YtoddjlclpnoomaaGreatDoorV18
set_option linter.unusedVariables false
set_option linter.unusedSimpArgs false
set_option maxRecDepth 100000
namespace Go.Proofs.YtoddjlclpnoomaaGreatDoor
open Go.Sh
def nd : Tr → Nat
  | .cons a b => nd a + nd b
  | .ex _ _ _ l r ks ags _ b => 1 + nd l + nd r + nd ks + nd ags + nd b
  | .st _ _ l r t a b => 1 + nd l + nd r + nd t + nd a + nd b
  | _ => 0
def NB (b : Nat) (c : Nat) : Prop := c ≠ b
theorem Rep.nb {b : Nat} {w w' : World} {t : Tr} {m : Md} (hk : Keep [b] w w') (h : Rep (NB b) w t m) : Rep (NB b) w' t m :=
  Rep.keep hk (fun c h _ => ⟨by unfold NB at h; simpa using h, h⟩) t m h
theorem RowAt.nb {b : Nat} {w w' : World} {t : Tr} {a : Option Addr} {i k : Nat} (h : RowAt (NB b) w t a i k) (hk : Keep [b] w w') : RowAt (NB b) w' t a i k := by
 rcases h with h | ⟨q, e, h⟩
 · exact .inl h
 · exact .inr ⟨q, e, Rep.nb hk h⟩
theorem Rep.ptr {F : Nat → Prop} {w : World} {t : Tr} {v : Value} (h : Rep F w t (.P v)) (hw : wf t 0 = true) : ∃ a, v = .pointer a := by
 rcases wf0_cases hw with rfl | ⟨k, nn, x, l, r, ks, gs, ps, b, rfl⟩
 · exact ⟨_, h⟩
 · obtain ⟨q, line, lv, rv, kv, av, pv, bv, rfl, _⟩ := h; exact ⟨_, rfl⟩
theorem rep2 {F : Nat → Prop} {w : World} {bs : Nat} {x y : Tr} {u v : Value} (h : At w bs [u, v]) (hf : F bs) (hx : Rep F w x (.P u)) (hy : Rep F w y (.P v)) : Rep F w (.cons x (.cons y .nil)) (.L (.slice (some ⟨bs, 0, none⟩) 2 2)) :=
  ⟨bs, 1, 2, u, rfl, by omega, hf, by rw [h.cell]; rfl, hx, 0, v, rfl, by rw [h.cell]; rfl, hf, hy, rfl⟩
theorem rep3 {F : Nat → Prop} {w : World} {bs : Nat} {x y z : Tr} {u v t : Value} (h : At w bs [u, v, t]) (hf : F bs) (hx : Rep F w x (.P u)) (hy : Rep F w y (.P v)) (hz : Rep F w z (.P t)) : Rep F w (.cons x (.cons y (.cons z .nil))) (.L (.slice (some ⟨bs, 0, none⟩) 3 3)) :=
  ⟨bs, 2, 3, u, rfl, by omega, hf, by rw [h.cell]; rfl, hx, 1, v, rfl, by rw [h.cell]; rfl, hf, hy, 0, t, rfl, by rw [h.cell]; rfl, hf, hz, rfl⟩
structure FAll (n : Nat) : Prop where
  ex : ∀ {w : World} {b m : Nat} {s : Tr} {u : Value}, tz s ≤ n → wf s 1 = true → m ≤ 65537 → At w b [.int .i64 m] → Rep (NB b) w s (.L u) → Calls Tryz.prog 111 #[ptr b, u] w (Ret (fun _ w' => At w' b [.int .i64 (min (m + nd s) 65537 : Nat)] ∧ Keep [b] w w') NP)
  st : ∀ {w : World} {b m : Nat} {s : Tr} {u : Value}, tz s ≤ n → wf s 3 = true → m ≤ 65537 → At w b [.int .i64 m] → Rep (NB b) w s (.L u) → Calls Tryz.prog 59 #[ptr b, u] w (Ret (fun _ w' => At w' b [.int .i64 (min (m + nd s) 65537 : Nat)] ∧ Keep [b] w w') NP)
theorem c111 {n : Nat} (hn : n ≤ fuelMax) (H : FAll n) {w : World} {b m : Nat} {s : Tr} {u : Value} (hz : tz s ≤ n + 1) (hs : wf s 1 = true) (hm : m ≤ 65537) (ab : At w b [.int .i64 m]) (rs : Rep (NB b) w s (.L u)) :
   Calls Tryz.prog 111 #[ptr b, u] w (Ret (fun _ w' => At w' b [.int .i64 (min (m + nd s) 65537 : Nat)] ∧ Keep [b] w w') NP) := by
 refine s111 ?_; unfold S111; have is := wf_isList 1 (by simp) hs; obtain ⟨a, c, rfl⟩ := rs.sln is; have os := rs.rowAt is; refine V1.i (by simp [go_sem] <;> trivial) ?_; refine L1.i (fun x1 w' => ∃ i j s' m', x1 = .int .i64 (i : Nat) ∧ i + j = len s ∧ i + tz s' ≤ n + 1 ∧ wf s' 1 = true ∧ m' ≤ 65537 ∧ At w' b [.int .i64 (m' : Nat)] ∧ RowAt (NB b) w' s' a i j ∧ min (m' + nd s') 65537 = min (m + nd s) 65537 ∧ Keep [b] w w') (fun v _ => match v with | .int _ n => (len s - n.toNat) | _ => 0) ⟨0, len s, s, m, rfl, by omega, by omega, hs, hm, ab, os, rfl, Keep.refl _ _⟩ ?_; clear os hs rs is hz hm ab; rintro x1 w1 ⟨i, j, s', m', rfl, hij, hz, hs, hm, ab, os, he, K1⟩; unfold fuelMax at hn; rcases wf1_cases hs with rfl | ⟨x, l, rfl, hx, hl'⟩
 · have hj : j = 0 := by
     rcases os with ⟨_, h⟩ | ⟨q, _, h⟩
     · exact h
     · exact h
   subst hj; refine V1.i (v := .bool false) (w' := w1) (by simp [go_sem]; omega) ?_; refine If.f ⟨?_, K1⟩; rw [← he]; simp only [nd, Nat.add_zero]; rwa [Nat.min_eq_left hm]
 rcases os with ⟨h, _⟩ | ⟨q, rfl, j', u, rfl, hc, hf, rx, rl'⟩
 · cases h
 have ol : RowAt (NB b) w1 l (some ⟨q, 0, none⟩) (i + 1) j' := .inr ⟨q, rfl, rl'⟩; clear rl'; have hzz := hz; simp only [tz] at hzz; simp only [nd] at he; have hp1 := tz_pos x; have hp2 := tz_pos l; refine V1.i (v := .bool true) (w' := w1) (by simp [go_sem]; omega) ?_; refine If.t ?_; refine J0.cut (fun w' => ∃ m2, m2 ≤ 65537 ∧ At w' b [.int .i64 (m2 : Nat)] ∧ RowAt (NB b) w' l (some ⟨q, 0, none⟩) (i + 1) j' ∧ min (m2 + nd l) 65537 = min (m + nd s) 65537 ∧ Keep [b] w w') ?_ ?_; rotate_left
 · clear hm ab ol he K1 rx hc hf; rintro w2 ⟨m2, hm, ab, ol, he, K1⟩; refine V1.i (addI _ _ _ _ _ _ (by omega) (by omega)) ?_; exact ⟨⟨i + 1, j', l, m2, by simp, by omega, by omega, hl', hm, ab, ol, he, K1⟩, by simp; omega⟩
 refine V1.i (ix44 (by omega)) ?_; refine V1.i ((oneAll rfl) _ _ _ hc) ?_; rcases wf0_cases hx with rfl | ⟨k, nn, x, l, r, ks, gs, ps, bd, rfl⟩
 · obtain rfl : u = .pointer none := rx; repeat (first | refine J1.go ?_ | refine J0.go ?_ | refine Gd.tt ?_ | refine Gd.ff ?_ | refine Gd.tf ?_ | refine Gd.ft ?_ | refine Gd.u ?_ | refine If.t ?_ | refine If.f ?_ | refine Up.i (Nc.p _ _) ?_ | refine V1.load (oneAll rfl) (by assumption) rfl ?_ | refine V1.i (w' := w1) (by simp [go_sem]; first | done | rfl | exact ⟨rfl, rfl⟩) ?_)
   simp only [nd, Nat.zero_add] at he; exact ⟨m', hm, ab, ol, he, K1⟩
 obtain ⟨q3, line, lv, rv, kv, av, pv, bv, rfl, f3, a3, rl, rr, rk, rg, _, rb⟩ := rx; simp only [wf, Bool.and_eq_true] at hx; obtain ⟨⟨⟨⟨⟨_, hl⟩, hr⟩, hk⟩, hg⟩, hb⟩ := hx; obtain ⟨pl, rfl⟩ := rl.ptr hl; obtain ⟨pr, rfl⟩ := rr.ptr hr; unfold ptr; refine V1.i (v := .bool false) (w' := w1) (by simp [go_sem]) ?_; refine J1.go (Gd.ff ?_); refine Up.i (Nc.p _ _) ?_; refine V1.load (oneAll rfl) (ab) rfl ?_; refine V1.i (v := .bool (decide (65536 < m'))) (w' := w1) (by simp [go_sem]; omega) ?_; refine V1.i (v := .bool (decide (65536 < m'))) (w' := w1) (by simp [go_sem]) ?_; simp only [nd] at he; by_cases hbig : 65536 < m'
 · rw [show decide (65536 < m') = true by simpa using hbig]; refine If.t ⟨m', hm, ab, ol, by omega, K1⟩
 rw [show decide (65536 < m') = false by simpa using hbig]; refine If.f ?_; refine Up.i (Nc.p _ _) ?_; refine V1.load (oneAll rfl) (ab) rfl ?_; refine V1.i (addI _ _ _ _ _ _ (by omega) (by omega)) ?_; refine Up.i (Nc.p _ _) ?_; refine U1.store (onesAll rfl rfl) ab (by simp) fun w2 U2 => ?_; have K2 := U2.keep; replace ol := ol.nb K2; replace a3 := K2.at a3 (by unfold NB at f3; simpa using f3); replace rl := Rep.nb K2 rl; replace rr := Rep.nb K2 rr; replace rk := Rep.nb K2 rk; replace rg := Rep.nb K2 rg; replace rb := Rep.nb K2 rb; have ab2 : At w2 b [.int .i64 ((m' + 1 : Nat))] := by
   have := U2.at_; simpa using this
 replace K1 := K1.trans K2; have KD : Keep [] w2 w2.drew := (Keep.refl _ _).drew; refine ⟨fun w' => At w' q3 [.int .i64 k, .int .i64 line, .int .i64 nn, str x, .pointer pl, .pointer pr, kv, av, pv, bv], KD.at a3 (by simp), ?_⟩; replace ol := ol.keep KD; replace a3 := KD.at a3 (by simp); replace ab2 := KD.at ab2 (by simp); replace K1 := K1.trans' KD (by simp); replace rl := Rep.new KD _ _ rl; replace rr := Rep.new KD _ _ rr; replace rk := Rep.new KD _ _ rk; replace rg := Rep.new KD _ _ rg; replace rb := Rep.new KD _ _ rb; generalize w2.drew = w3 at *; refine ⟨_, fun w' _ => Nc.p _ w', ?_⟩; refine Xw.i _ (fun w' _ => by simp [go_sem] <;> trivial) ?_; refine Xw.i _ (fun w' hw => (oneAll rfl) _ _ _ (by rw [hw.cell]; rfl)) ?_; refine ⟨_, fun w' _ => Nc.p _ w', ?_⟩; refine Xw.i _ (fun w' _ => by simp [go_sem] <;> trivial) ?_
 refine Xw.i _ (fun w' hw => (oneAll rfl) _ _ _ (by rw [hw.cell]; rfl)) ?_; refine V1.newSlice (by simp [go_sem]; first | done | rfl | exact ⟨rfl, rfl⟩ | (repeat' (first | rfl | apply And.intro))) fun bs w4 NS => ?_; have K4 := NS.keep; replace ol := ol.keep K4; replace a3 := K4.at a3 (by simp); have hbne : bs ≠ b := by
   have h1 := NS.ge; have h2 := ab2.lt; omega
 replace ab2 := K4.at ab2 (by simp); replace K1 := K1.trans' K4 (by simp); replace rl := Rep.new K4 _ _ rl; replace rr := Rep.new K4 _ _ rr; replace rk := Rep.new K4 _ _ rk; replace rg := Rep.new K4 _ _ rg; replace rb := Rep.new K4 _ _ rb; have aS : At w4 bs [.pointer pl, .pointer pr] := by
   have := NS.at_; simpa using this
 have rS : Rep (NB b) w4 (.cons l (.cons r .nil)) (.L (.slice (some ⟨bs, 0, none⟩) 2 2)) := rep2 aS hbne rl rr; simp only [tz] at hzz; refine cf111 (H.ex (s := .cons l (.cons r .nil)) (by simp only [tz]; omega) (by simp [wf, hl, hr]) (by omega) ab2 rS) ?_ (fun _ _ h => h.elim); rintro _ w5 ⟨ab5, K5⟩; clear rS aS; replace ol := ol.nb K5; replace a3 := K5.at a3 (by unfold NB at f3; simpa using f3); replace rk := Rep.nb K5 rk; replace rg := Rep.nb K5 rg; replace rb := Rep.nb K5 rb; replace K1 := K1.trans K5; refine Up.i (Nc.p _ _) ?_; refine V1.i (by simp [go_sem] <;> trivial) ?_; refine V1.load (oneAll rfl) (a3) rfl ?_; refine cf111 (H.ex (s := ks) (by omega) hk (by omega) ab5 rk) ?_ (fun _ _ h => h.elim); rintro _ w6 ⟨ab6, K6⟩; replace ol := ol.nb K6; replace a3 := K6.at a3 (by unfold NB at f3; simpa using f3); replace rg := Rep.nb K6 rg; replace rb := Rep.nb K6 rb
 replace K1 := K1.trans K6; refine Up.i (Nc.p _ _) ?_; refine V1.i (by simp [go_sem] <;> trivial) ?_; refine V1.load (oneAll rfl) (a3) rfl ?_; refine cf111 (H.ex (s := gs) (by omega) hg (by omega) ab6 rg) ?_ (fun _ _ h => h.elim); rintro _ w7 ⟨ab7, K7⟩; replace ol := ol.nb K7; replace a3 := K7.at a3 (by unfold NB at f3; simpa using f3); replace rb := Rep.nb K7 rb; replace K1 := K1.trans K7; refine Up.i (Nc.p _ _) ?_; refine V1.i (by simp [go_sem] <;> trivial) ?_; refine V1.load (oneAll rfl) (a3) rfl ?_; refine cf59 (H.st (s := bd) (by omega) hb (by omega) ab7 rb) ?_ (fun _ _ h => h.elim); rintro _ w8 ⟨ab8, K8⟩; replace ol := ol.nb K8; replace a3 := K8.at a3 (by unfold NB at f3; simpa using f3); replace K1 := K1.trans K8; refine ⟨_, ?_, ab8, ol, ?_, K1⟩
 · omega
 · simp only [nd]; omega
theorem c59 {n : Nat} (hn : n ≤ fuelMax) (H : FAll n) {w : World} {b m : Nat} {s : Tr} {u : Value} (hz : tz s ≤ n + 1) (hs : wf s 3 = true) (hm : m ≤ 65537) (ab : At w b [.int .i64 m]) (rs : Rep (NB b) w s (.L u)) :
   Calls Tryz.prog 59 #[ptr b, u] w (Ret (fun _ w' => At w' b [.int .i64 (min (m + nd s) 65537 : Nat)] ∧ Keep [b] w w') NP) := by
 refine s59 ?_; unfold S59; have is := wf_isList 3 (by simp) hs; obtain ⟨a, c, rfl⟩ := rs.sln is; have os := rs.rowAt is; refine V1.i (by simp [go_sem] <;> trivial) ?_; refine L1.i (fun x1 w' => ∃ i j s' m', x1 = .int .i64 (i : Nat) ∧ i + j = len s ∧ i + tz s' ≤ n + 1 ∧ wf s' 3 = true ∧ m' ≤ 65537 ∧ At w' b [.int .i64 (m' : Nat)] ∧ RowAt (NB b) w' s' a i j ∧ min (m' + nd s') 65537 = min (m + nd s) 65537 ∧ Keep [b] w w') (fun v _ => match v with | .int _ n => (len s - n.toNat) | _ => 0) ⟨0, len s, s, m, rfl, by omega, by omega, hs, hm, ab, os, rfl, Keep.refl _ _⟩ ?_; clear os hs rs is hz hm ab; rintro x1 w1 ⟨i, j, s', m', rfl, hij, hz, hs, hm, ab, os, he, K1⟩; unfold fuelMax at hn; rcases wf3_cases hs with rfl | ⟨x, l, rfl, hx, hl'⟩
 · have hj : j = 0 := by
     rcases os with ⟨_, h⟩ | ⟨q, _, h⟩
     · exact h
     · exact h
   subst hj; refine V1.i (v := .bool false) (w' := w1) (by simp [go_sem]; omega) ?_; refine If.f ⟨?_, K1⟩; rw [← he]; simp only [nd, Nat.add_zero]; rwa [Nat.min_eq_left hm]
 rcases os with ⟨h, _⟩ | ⟨q, rfl, j', u, rfl, hc, hf, rx, rl'⟩
 · cases h
 have ol : RowAt (NB b) w1 l (some ⟨q, 0, none⟩) (i + 1) j' := .inr ⟨q, rfl, rl'⟩; clear rl'; have hzz := hz; simp only [tz] at hzz; simp only [nd] at he; have hp1 := tz_pos x; have hp2 := tz_pos l; refine V1.i (v := .bool true) (w' := w1) (by simp [go_sem]; omega) ?_; refine If.t ?_; refine J0.cut (fun w' => ∃ m2, m2 ≤ 65537 ∧ At w' b [.int .i64 (m2 : Nat)] ∧ RowAt (NB b) w' l (some ⟨q, 0, none⟩) (i + 1) j' ∧ min (m2 + nd l) 65537 = min (m + nd s) 65537 ∧ Keep [b] w w') ?_ ?_; rotate_left
 · clear hm ab ol he K1 rx hc hf; rintro w2 ⟨m2, hm, ab, ol, he, K1⟩; refine V1.i (addI _ _ _ _ _ _ (by omega) (by omega)) ?_; exact ⟨⟨i + 1, j', l, m2, by simp, by omega, by omega, hl', hm, ab, ol, he, K1⟩, by simp; omega⟩
 refine V1.i (ix26 (by omega)) ?_; refine V1.i ((oneAll rfl) _ _ _ hc) ?_; rcases wf2_cases hx with rfl | ⟨k, nm, l, r, t0, a0, b0, rfl⟩
 · obtain rfl : u = .pointer none := rx; repeat (first | refine J1.go ?_ | refine J0.go ?_ | refine Gd.tt ?_ | refine Gd.ff ?_ | refine Gd.tf ?_ | refine Gd.ft ?_ | refine Gd.u ?_ | refine If.t ?_ | refine If.f ?_ | refine Up.i (Nc.p _ _) ?_ | refine V1.load (oneAll rfl) (by assumption) rfl ?_ | refine V1.i (w' := w1) (by simp [go_sem]; first | done | rfl | exact ⟨rfl, rfl⟩) ?_)
   simp only [nd, Nat.zero_add] at he; exact ⟨m', hm, ab, ol, he, K1⟩
 obtain ⟨q3, line, lv, rv, tv, av, bv, rfl, f3, a3, rl, rr, rt, ra, rb⟩ := rx; simp only [wf, Bool.and_eq_true] at hx; obtain ⟨⟨⟨⟨hl, hr⟩, ht⟩, ha⟩, hb⟩ := hx; obtain ⟨pl, rfl⟩ := rl.ptr hl; obtain ⟨pr, rfl⟩ := rr.ptr hr; obtain ⟨pt, rfl⟩ := rt.ptr ht; unfold ptr; refine V1.i (v := .bool false) (w' := w1) (by simp [go_sem]) ?_; refine J1.go (Gd.ff ?_); refine Up.i (Nc.p _ _) ?_; refine V1.load (oneAll rfl) (ab) rfl ?_; refine V1.i (v := .bool (decide (65536 < m'))) (w' := w1) (by simp [go_sem]; omega) ?_; refine V1.i (v := .bool (decide (65536 < m'))) (w' := w1) (by simp [go_sem]) ?_; simp only [nd] at he; by_cases hbig : 65536 < m'
 · rw [show decide (65536 < m') = true by simpa using hbig]; refine If.t ⟨m', hm, ab, ol, by omega, K1⟩
 rw [show decide (65536 < m') = false by simpa using hbig]; refine If.f ?_; refine Up.i (Nc.p _ _) ?_; refine V1.load (oneAll rfl) (ab) rfl ?_; refine V1.i (addI _ _ _ _ _ _ (by omega) (by omega)) ?_; refine Up.i (Nc.p _ _) ?_; refine U1.store (onesAll rfl rfl) ab (by simp) fun w2 U2 => ?_; have K2 := U2.keep; replace ol := ol.nb K2; replace a3 := K2.at a3 (by unfold NB at f3; simpa using f3); replace rl := Rep.nb K2 rl; replace rr := Rep.nb K2 rr; replace rt := Rep.nb K2 rt; replace ra := Rep.nb K2 ra; replace rb := Rep.nb K2 rb; have ab2 : At w2 b [.int .i64 ((m' + 1 : Nat))] := by
   have := U2.at_; simpa using this
 replace K1 := K1.trans K2; have KD : Keep [] w2 w2.drew := (Keep.refl _ _).drew; refine ⟨fun w' => At w' q3 [.int .i64 k, .int .i64 line, str nm, .pointer pl, .pointer pr, .pointer pt, av, bv], KD.at a3 (by simp), ?_⟩; replace ol := ol.keep KD; replace a3 := KD.at a3 (by simp); replace ab2 := KD.at ab2 (by simp); replace K1 := K1.trans' KD (by simp); replace rl := Rep.new KD _ _ rl; replace rr := Rep.new KD _ _ rr; replace rt := Rep.new KD _ _ rt; replace ra := Rep.new KD _ _ ra; replace rb := Rep.new KD _ _ rb; generalize w2.drew = w3 at *; refine ⟨_, fun w' _ => Nc.p _ w', ?_⟩; refine Xw.i _ (fun w' _ => by simp [go_sem] <;> trivial) ?_; refine Xw.i _ (fun w' hw => (oneAll rfl) _ _ _ (by rw [hw.cell]; rfl)) ?_; refine ⟨_, fun w' _ => Nc.p _ w', ?_⟩; refine Xw.i _ (fun w' _ => by simp [go_sem] <;> trivial) ?_; refine Xw.i _ (fun w' hw => (oneAll rfl) _ _ _ (by rw [hw.cell]; rfl)) ?_
 refine ⟨_, fun w' _ => Nc.p _ w', ?_⟩; refine Xw.i _ (fun w' _ => by simp [go_sem] <;> trivial) ?_; refine Xw.i _ (fun w' hw => (oneAll rfl) _ _ _ (by rw [hw.cell]; rfl)) ?_; refine V1.newSlice (by simp [go_sem]; first | done | rfl | exact ⟨rfl, rfl⟩ | (repeat' (first | rfl | apply And.intro))) fun bs w4 NS => ?_; have K4 := NS.keep; replace ol := ol.keep K4; replace a3 := K4.at a3 (by simp); have hbne : bs ≠ b := by
   have h1 := NS.ge; have h2 := ab2.lt; omega
 replace ab2 := K4.at ab2 (by simp); replace K1 := K1.trans' K4 (by simp); replace rl := Rep.new K4 _ _ rl; replace rr := Rep.new K4 _ _ rr; replace rt := Rep.new K4 _ _ rt; replace ra := Rep.new K4 _ _ ra; replace rb := Rep.new K4 _ _ rb; have aS : At w4 bs [.pointer pl, .pointer pr, .pointer pt] := by
   have := NS.at_; simpa using this
 have rS : Rep (NB b) w4 (.cons l (.cons r (.cons t0 .nil))) (.L (.slice (some ⟨bs, 0, none⟩) 3 3)) := rep3 aS hbne rl rr rt; simp only [tz] at hzz; refine cf111 (H.ex (s := .cons l (.cons r (.cons t0 .nil))) (by simp only [tz]; omega) (by simp [wf, hl, hr, ht]) (by omega) ab2 rS) ?_ (fun _ _ h => h.elim); rintro _ w5 ⟨ab5, K5⟩; clear rS aS; replace ol := ol.nb K5; replace a3 := K5.at a3 (by unfold NB at f3; simpa using f3); replace ra := Rep.nb K5 ra; replace rb := Rep.nb K5 rb; replace K1 := K1.trans K5; refine Up.i (Nc.p _ _) ?_; refine V1.i (by simp [go_sem] <;> trivial) ?_; refine V1.load (oneAll rfl) (a3) rfl ?_; refine cf59 (H.st (s := a0) (by omega) ha (by omega) ab5 ra) ?_ (fun _ _ h => h.elim); rintro _ w6 ⟨ab6, K6⟩; replace ol := ol.nb K6; replace a3 := K6.at a3 (by unfold NB at f3; simpa using f3); replace rb := Rep.nb K6 rb; replace K1 := K1.trans K6
 refine Up.i (Nc.p _ _) ?_; refine V1.i (by simp [go_sem] <;> trivial) ?_; refine V1.load (oneAll rfl) (a3) rfl ?_; refine cf59 (H.st (s := b0) (by omega) hb (by omega) ab6 rb) ?_ (fun _ _ h => h.elim); rintro _ w7 ⟨ab7, K7⟩; replace ol := ol.nb K7; replace a3 := K7.at a3 (by unfold NB at f3; simpa using f3); replace K1 := K1.trans K7; refine ⟨_, ?_, ab7, ol, ?_, K1⟩
 · omega
 · simp only [nd]; omega
theorem few_all : ∀ n, n ≤ fuelMax → FAll n
  | 0, _ => ⟨fun h => absurd h (by have := tz_pos ‹Tr›; omega), fun h => absurd h (by have := tz_pos ‹Tr›; omega)⟩
  | n + 1, hn => ⟨c111 (by omega) (few_all n (by omega)), c59 (by omega) (few_all n (by omega))⟩
theorem c33 {F : Nat → Prop} {w : World} {s : Tr} {u : Value} (hz : tz s ≤ fuelMax) (hs : wf s 3 = true) (rs : Rep F w s (.L u)) :
   Calls Tryz.prog 33 #[u] w (Ret (fun x w' => x = .bool (decide (nd s ≤ 65536)) ∧ Keep [] w w') NP) := by
 refine s33 ?_; unfold S33; refine V1.new (al118 _) fun b w1 N1 => ?_; have rs1 : Rep (NB b) w1 s (.L u) := Rep.keep N1.keep (fun c _ h => ⟨by simp, by have := N1.ge; unfold NB; omega⟩) _ _ rs; have ab : At w1 b [.int .i64 (0 : Nat)] := N1.at_; refine cf59 ((few_all _ (Nat.le_refl _)).st hz hs (by omega) ab rs1) ?_ (fun _ _ h => h.elim); rintro _ w2 ⟨ab2, K2⟩; refine V1.load (oneAll rfl) (ab2) rfl ?_; refine V1.i (v := .bool (decide (nd s ≤ 65536))) (w' := w2) (by simp [go_sem]; omega) ?_; exact ⟨rfl, N1.keep.trans' K2 (by have := N1.ge; simp; omega)⟩
def S17 (R : Ending → World → Prop) (a0 a1 a2 : Value) (w : World) : Prop :=
 V1 Tryz.prog (Bo .neq 20 false true a2 .nilIface) w (fun a7 w =>
 If a7 (
 V1 Tryz.prog (Instr.typeAssert a2 20 49 true) w (fun a10 w =>
 V1 Tryz.prog (Instr.extract a10 0) w (fun a11 w =>
 V1 Tryz.prog (Instr.extract a10 1) w (fun a12 w =>
 V1 Tryz.prog (Instr.alloc 49 true (.tuple #[])) w (fun a3 w =>
 U1 Tryz.prog (Instr.storeAt 49 a3 a11) w (fun w =>
 J0 (fun k1 =>
 V1 Tryz.prog (Op.unary .not a12) w (fun a14 w =>
 If a14 (
 V1 Tryz.prog (Instr.panic a2) w (fun _ w =>
 k1 w) (pn R)) (
 k1 w)) (pn R)) (fun w =>
 ∃ S1 : World → Prop, S1 w.drew ∧
 Xw Tryz.prog (fun _ => True) (Instr.fieldAt 49 a3 0) fun a16 => Xw Tryz.prog S1 (Instr.loadAt 23 a16) fun a17 => U1 Tryz.prog (Instr.storeAt 9 a0 (.string ⟨#[]⟩)) w.drew (fun w =>
 S1 w ∧ U1 Tryz.prog (Instr.storeAt 23 a1 a17) w (fun w =>
 R (.returned (.tuple #[])) w) (pn R)) (pn R))) (pn R)) (pn R)) (pn R)) (pn R)) (pn R)) (
 R (.returned (.tuple #[])) w)) (pn R)
theorem e17 (R : Ending → World → Prop) (a0 a1 a2 : Value) (w : World) : body Tryz.prog 18 [5] [] (tl (codeB Tryz.f17)) [a0, a1, a2] R w = S17 R a0 a1 a2 w := by kernel_rfl
set_option maxHeartbeats 2000000 in
theorem ag17 (p0 p1 v : Value) : Ag 18 (argEnv 0 [p0, p1, v]) { tmps := #[p0, p1] ++ ((Array.replicate 16 undef).setIfInBounds 3 v).setIfInBounds 0 v, defers := [] } := by
  refine ⟨by simp, ?_⟩; intro t x ht; simp only [argEnv, List.lookup] at ht; split at ht
  · rename_i h; have := eq_of_beq h; subst this; cases ht; rfl
  · split at ht
    · rename_i h; have := eq_of_beq h; subst this; cases ht; rfl
    · split at ht
      · rename_i h; have := eq_of_beq h; subst this; cases ht; rfl
      · cases ht
theorem cd17_ret {p0 p1 : Value} {w : World} {R : Ending → World → Prop} (h : S17 R p0 p1 .nilIface w) {R' : Ending → FrameMode → World → Prop}
   (hr : ∀ w', R (.returned (.tuple #[])) w' → R' (.returned (.tuple #[])) .returning w') (hp : ∀ ch w', R (.panicked ch) w' → R' (.panicked ch) .returning w') :
   CallsD Tryz.prog 17 #[p0, p1] .returning w R' := by
 refine callsD_of_wpS (c := codeB Tryz.f17) Tryz.func17 (by kernel_rfl) fun c₀ cs hu => ?_; show (Code.seq _ (tl (codeB Tryz.f17))).wpS _ _ _ _ _
 apply wpS_seq
 apply wpS_region
 simp [wpOpsS, go_sem, recoverD, hu, Exit.thenS]
 refine rest_wp (n := 18) (hd := [5]) (args := [p0, p1, .nilIface]) (u' := .returning) (by rw [e17]; exact h) (ag17 p0 p1 .nilIface) rfl ?_ (by kernel_rfl) hr hp
 cases c₀
 simp_all
theorem cd17_pan {p0 p1 v : Value} {w : World} {R : Ending → World → Prop} (h : S17 R p0 p1 v w) {R' : Ending → FrameMode → World → Prop}
   (hr : ∀ w', R (.returned (.tuple #[])) w' → R' (.returned (.tuple #[])) (.panicking [{ v, recovered := true }]) w') (hp : ∀ ch w', R (.panicked ch) w' → R' (.panicked ch) (.panicking [{ v, recovered := true }]) w') :
   CallsD Tryz.prog 17 #[p0, p1] (.panicking [{ v, recovered := false }]) w R' := by
 refine callsD_of_wpS (c := codeB Tryz.f17) Tryz.func17 (by kernel_rfl) fun c₀ cs hu => ?_; show (Code.seq _ (tl (codeB Tryz.f17))).wpS _ _ _ _ _
 apply wpS_seq
 apply wpS_region
 simp [wpOpsS, go_sem, recoverD, hu, Exit.thenS]
 exact rest_wp (n := 18) (hd := [5]) (args := [p0, p1, v]) (u' := .panicking [{ v, recovered := true }]) (by rw [e17]; exact h) (ag17 p0 p1 v) rfl rfl (by kernel_rfl) hr hp
theorem run_inv17 (a b : Value) (w : World) : (invoke (.fn (.func 17) #[a, b]) #[]).run Tryz.prog w = .ok (.enter 17 #[a, b]) w := callFunc_run Tryz.func17 (c := codeB Tryz.f17) (by kernel_rfl) (by kernel_rfl) _ _
theorem lv17_ret {res : World → (Value → Prop) → Prop} {R : Ending → World → Prop} {a b : Value} {w : World} (h : Lv Tryz.prog res R [] .returning w) :
   Lv Tryz.prog res R [⟨.fn (.func 17) #[a, b], #[]⟩] .returning w := by
 refine ⟨by simp, .func 17, #[a, b], 17, #[a, b], rfl, run_inv17 a b w, ?_⟩; refine cd17_ret (R := fun e w' => e = .returned (.tuple #[]) ∧ w' = w) ?_ ?_ ?_
 · unfold S17; refine V1.i (v := .bool false) (w' := w) (by simp [go_sem]) ?_; exact If.f ⟨rfl, rfl⟩
 · rintro w' ⟨_, rfl⟩; exact h
 · rintro ch w' ⟨e, _⟩
   cases e
theorem ta49 (v : Value) (w : World) : (Instr.typeAssert (.iface 49 v) 20 49 true).run Tryz.prog w = .ok (.tuple #[v, .bool true]) w := by kernel_rfl
theorem U1.w49 {w : World} {b : Nat} {x : Value} {c : Int} {k : World → Prop} {e : List PanicEntry → World → Prop} (hA : At w b [x])
   (hk : ∀ w', Upd w b [.int .i64 c] w' → k w') : U1 Tryz.prog (Instr.storeAt 49 (.pointer (some ⟨b, 0, none⟩)) (.agg #[.int .i64 c])) w k e := by
 have h0 := hA.set 0 (.int .i64 c); refine U1.i (w' := w.setCell ⟨b, 0, none⟩ (.int .i64 c)) (v := ()) ?_ (hk _ ⟨h0, by simp [World.setCell], ?_, fun q => by simp only [shape_set]⟩)
 · simp [go_sem, hA.cell, hA.fr]
 · exact (Keep.refl _ _).set _ (.inl (by simp))
theorem lv17_pan {res : World → (Value → Prop) → Prop} {R : Ending → World → Prop} {bo be : Nat} {c : Int} {x y : Value} {w : World} (ao : At w bo [x]) (ae : At w be [y]) (hne : bo ≠ be)
   (h : ∀ w', At w' bo [str []] → At w' be [.int .i64 c] → Keep [bo, be] w w' → Lv Tryz.prog res R [] .returning w') :
   Lv Tryz.prog res R [⟨.fn (.func 17) #[ptr bo, ptr be], #[]⟩] (.panicking (wrg c)) w := by
 refine ⟨by simp, .func 17, #[ptr bo, ptr be], 17, #[ptr bo, ptr be], rfl, run_inv17 _ _ w, ?_⟩; refine cd17_pan (R := fun e w' => e = .returned (.tuple #[]) ∧ At w' bo [str []] ∧ At w' be [.int .i64 c] ∧ Keep [bo, be] w w') ?_ ?_ ?_
 · unfold S17; refine V1.i (v := .bool true) (w' := w) (by simp [go_sem]) ?_; refine If.t ?_; refine V1.i (ta49 _ w) ?_; refine V1.i (by simp [go_sem] <;> trivial) ?_; refine V1.i (by simp [go_sem] <;> trivial) ?_; refine V1.new (al49 _) fun b3 w3 N3 => ?_; have lo := ao.lt; have le := ae.lt; have g3 := N3.ge; have ao3 := N3.keep.at ao (by simp); have ae3 := N3.keep.at ae (by simp); refine U1.w49 (x := .int .i64 0) N3.at_ fun w4 U4 => ?_; have a3 : At w4 b3 [.int .i64 c] := U4.at_; have ao4 := U4.keep.at ao3 (by simp; omega); have ae4 := U4.keep.at ae3 (by simp; omega); have kk : Keep [bo, be] w w4 := (N3.keep.mono (by simp)).trans' U4.keep (by simp; omega); refine J0.go ?_; refine V1.i (by simp [go_sem] <;> trivial) ?_; refine If.f ?_; have kk : Keep [bo, be] w w4.drew := kk.drew; have ao' : At w4.drew bo [x] := ao4; have ae' : At w4.drew be [y] := ae4
   have a3' : At w4.drew b3 [.int .i64 c] := a3; refine ⟨fun w' => At w' b3 [.int .i64 c], a3', ?_⟩; generalize w4.drew = w1 at *; refine Xw.i _ (fun w' _ => by simp [go_sem] <;> trivial) ?_; refine Xw.i _ (fun w' hw => (oneAll rfl) _ _ _ (by rw [hw.cell]; rfl)) ?_; unfold ptr; refine U1.store (onesAll rfl rfl) ao' (by simp) fun w2 U2 => ?_; refine ⟨U2.keep.at a3' (by simp; omega), ?_⟩; refine U1.store (onesAll rfl rfl) (U2.keep.at ae' (by simp; omega)) (by simp) fun w3 U3 => ?_; exact ⟨rfl, U3.keep.at U2.at_ (by simp; omega), U3.at_, (kk.trans' U2.keep (by simp)).trans' U3.keep (by simp)⟩
 · rintro w' ⟨_, h1, h2, h3⟩; exact h w' h1 h2 h3
 · rintro ch w' ⟨e, _⟩
   cases e
def pfuel : Nat := 300000
noncomputable def outP (n : Nat) (l : Tr) : List UInt8 × Int := match prn n (.stmts l) [] 0 with
  | .fail c => ([], c)
  | .ok buf _ => (match parseS pfuel buf with
    | .fail c => ([], if c = 3 then 3 else 2)
    | .ok t _ _ => if eqT t l = true then (buf, 0) else ([], 2)
    | .oof => ([], 0))
  | .oof => ([], 0)
theorem BF.keep {w w' : World} {b : Nat} {buf : List UInt8} (h : BF w b buf) (hk : Keep [] w w') : BF w' b buf := by
 obtain ⟨ad, v, rest, ab, hv⟩ := h; refine ⟨ad, v, rest, hk.at ab (by simp), ?_⟩; rcases hv with h | ⟨g, cap, cur, fr, h1, h2, h3, h4, h5⟩
 · exact .inl h
 · refine .inr ⟨g, cap, cur, fr, h1, h2, h3, ?_, h5⟩; have : g < w.heap.size := by
     rcases Nat.lt_or_ge g w.heap.size with h | h
     · exact h
     · rw [Array.getElem?_eq_none h] at h4; cases h4
   rw [hk.same g this (by simp)]; exact h4
theorem parse_bound {s : List UInt8} (h : s.length ≤ 32768) : RG (fun t _ => wf t 3 = true ∧ tz t ≤ fuelMax) (parseS pfuel s) :=
  (parse_good (by unfold pfuel; omega)).imp fun t ts _ ht => ⟨ht.1, by have := tz_cn t; have := ht.2.1; unfold fuelMax; omega⟩
abbrev resP (bs be : Nat) : World → (Value → Prop) → Prop := fun w k => ∃ v0, (Instr.loadAt 9 (.pointer (some ⟨bs, 0, none⟩))).run Tryz.prog w = .ok v0 w ∧ ∃ v1, (Instr.loadAt 23 (.pointer (some ⟨be, 0, none⟩))).run Tryz.prog w = .ok v1 w ∧ k (.tuple #[v0, v1])
theorem c9 {F : Nat → Prop} {w : World} {l : Tr} {v : Value} (g : GL w) (n : Nat) (rl : Rep F w l (.L v)) (hne : prn n (.stmts l) [] 0 ≠ .oof) (hok : ∀ buf p, prn n (.stmts l) [] 0 = .ok buf p → wf l 3 = true) :
   Calls Tryz.prog 9 #[v] w (Ret (fun u w' => u = .tuple #[str (outP n l).1, .int .i64 (outP n l).2] ∧ Keep [] w w') NP) := by
 refine s9 ?_; unfold S9; refine V1.new (al9 _) fun bs w1 N1 => ?_; refine V1.new (al23 _) fun be w2 N2 => ?_; have gs1 := N1.ge; have gs2 := N2.ge; have ls1 := N1.lt; have ls2 := N2.lt; have z1 := N1.keep.size; have z2 := N2.keep.size; have ao : At w2 bs [str []] := N2.keep.at N1.at_ (by simp); have ae : At w2 be [.int .i64 0] := N2.at_; refine V1.i (by simp [go_sem] <;> trivial) ?_; refine D1.i (v := ⟨.fn (.func 17) #[ptr bs, ptr be], #[]⟩) (w' := w2) (by simp [go_sem, Deferred.ofValue]; exact ⟨rfl, rfl⟩) ?_; refine V1.i (by simp [go_sem] <;> trivial) ?_; refine V1.newS (bx56 _ _) fun bt w5 N5 sh5 => ?_; have gs5 := N5.ge; have ls5 := N5.lt; have z5 := N5.keep.size; have kk : Keep [] w w5 := (N1.keep.trans N2.keep).trans N5.keep; replace ao := N5.a ao; replace ae := N5.a ae; have g5 := g.new kk; have h12 := g.big
 have a5 : At w5 bt [.pointer none, .slice none 0 0, .int .i64 0] := N5.at_; have bx : BX w5.heap.size w5 bt [.int .i64 (0 : Nat)] [] := ⟨_, _, a5, .inl ⟨rfl, 56, 3, sh5, .inr ⟨rfl, rfl⟩⟩, AccB.nil _ _, .inl rfl, ls5, Nat.le_refl _⟩; have ht : TX w5 bt [] 0 := ⟨_, bx, g5, by omega, by simp, by omega⟩; have rl5 : Rep (FO bt w5) w5 l (.L v) := Rep.keep kk (fun q _ hq => ⟨by simp, by omega, fun ad v' rest h e => by
   have := at_inj a5 h; injection this with h1 h2; injection h2 with h2 h3; subst h2
   cases e⟩) _ _ rl
 have hout : ∀ (w' : World) (s : List UInt8) (c : Int), At w' bs [str s] → At w' be [.int .i64 c] → (s, c) = outP n l → Keep [] w w' → Lv Tryz.prog (resP bs be) (Ret (fun u w' => u = .tuple #[str (outP n l).1, .int .i64 (outP n l).2] ∧ Keep [] w w') NP) [] .returning w' := by
   intro w' s c h1 h2 h3 h4; refine ⟨_, (oneAll rfl) _ _ _ (by rw [h1.cell]; rfl), _, (oneAll rfl) _ _ _ (by rw [h2.cell]; rfl), ?_, h4⟩; rw [← h3]
 have hpan : ∀ (c : Int) (wb : World) (x y : Value), At wb bs [x] → At wb be [y] → ([], c) = outP n l → Keep [] w wb → Lv Tryz.prog (resP bs be) (Ret (fun u w' => u = .tuple #[str (outP n l).1, .int .i64 (outP n l).2] ∧ Keep [] w w') NP) [⟨.fn (.func 17) #[ptr bs, ptr be], #[]⟩] (.panicking (wrg c)) wb := by
   intro c wb x y h1 h2 h3 h4; refine lv17_pan h1 h2 (by omega) fun w' h5 h6 h7 => ?_; exact hout w' _ _ h5 h6 h3 (h4.trans' h7 (by simp; omega))
 have h18 := (prn_all n).stmts ht rl5 rfl hne; refine cf18 h18 ?_ ?_; rotate_left
 · intro c w6 h
   cases hr : prn n (.stmts l) [] 0 with
   | oof => exact absurd hr hne
   | ok buf p => rw [hr] at h; exact h.elim
   | fail e =>
     rw [hr] at h; obtain ⟨rfl, ko, _, _⟩ := h; have kl := ko.kl bx; refine hpan e w6 _ _ ((KL.keep kl).at ao (above_lo (by omega) (by omega))) ((KL.keep kl).at ae (above_lo (by omega) (by omega))) ?_ ?_
     · unfold outP; rw [hr]
     · exact kk.trans' (KL.keep kl) (fun i hi hlt => by rcases above_ge hi with h | h <;> omega)
 intro _ w6 h
 cases hr : prn n (.stmts l) [] 0 with
 | oof => exact absurd hr hne
 | fail e => rw [hr] at h; exact h.elim
 | ok buf p =>
 rw [hr] at h; obtain ⟨ht6, ko⟩ := h; have hwf := hok buf p hr; have kl := ko.kl bx; have k56 := KL.keep kl; have kk6 : Keep [] w w6 := kk.trans' k56 (fun i hi hlt => by rcases above_ge hi with h | h <;> omega); replace ao := k56.at ao (above_lo (by omega) (by omega)); replace ae := k56.at ae (above_lo (by omega) (by omega)); have z6 := kl.size; obtain ⟨lo6, bx6, g6, _, hlen, _⟩ := ht6; have bf := bx6.bf; obtain ⟨ad, vb, ab, _, hv, _, hlo6, _⟩ := bx6; have hM : ∀ (w' : World), At w' bt (ad :: vb :: [.int .i64 p]) → ∀ q, (∃ ad' rest' n c, At w' bt (ad' :: .slice (some ⟨q, 0, none⟩) n c :: rest')) → lo6 ≤ q := by
   rintro w' h1 q ⟨ad', rest', n', c', h2⟩; have := at_inj h1 h2; injection this with _ this; injection this with this _; exact (hv.lt (g := q) (by rw [this]; rfl)).1
 have hlen7 : buf.length ≤ 1099511627776 := by omega
 have hpb := parse_bound hlen; refine Up.i (Nc.p _ _) ?_; refine V1.i (v := ptr bt) (w' := w6) (by simp [go_sem, ptr]; first | done | rfl | exact ⟨rfl, rfl⟩ | (rintro rfl; rfl)) ?_; refine cf19 (c19 bf hlen7) ?_ (fun _ _ h => h.elim); rintro _ w7 ⟨rfl, bf, M7, K7, hM7⟩; have hm7 : ∀ q ∈ M7, lo6 ≤ q := fun q hq => hM w6 ab q (hM7 q hq); have nin : ∀ {M : List Nat} {q : Nat}, (∀ q ∈ M, lo6 ≤ q) → q < lo6 → q ∉ M := fun h1 h2 h3 => by have := h1 _ h3; omega
 replace ab := K7.at ab (nin hm7 hlo6); replace ao := K7.at ao (nin hm7 (by omega)); replace ae := K7.at ae (nin hm7 (by omega)); have kk7 : Keep [] w w7 := kk6.trans' K7 (fun i hi hlt => by have := hm7 i hi; omega); have g7 := g.new kk7; have hne7 : parseS pfuel buf ≠ .oof := by
   intro e; rw [e] at hpb; exact hpb
 refine cf13 (c13 w7 buf g7 pfuel (by unfold pfuel fuelMax; omega) _ rfl hne7) ?_ (fun _ _ h => h.elim); rintro _ w8 ⟨hq, K8⟩; replace ab := K8.at ab (by simp); replace ao := K8.at ao (by simp); replace ae := K8.at ae (by simp); replace bf := bf.keep K8; have kk8 : Keep [] w w8 := kk7.trans K8; have hoP : outP n l = (match parseS pfuel buf with
   | .fail c => ([], if c = 3 then 3 else 2)
   | .ok t _ _ => if eqT t l = true then (buf, 0) else ([], 2)
   | .oof => ([], 0)) := by unfold outP; rw [hr]
 cases hp : parseS pfuel buf with
 | oof => exact absurd hp hne7
 | fail c =>
   rw [hp] at hq hoP; obtain ⟨q, line, rfl, aq, gq⟩ := hq; refine V1.i (by simp [go_sem] <;> trivial) ?_; refine V1.i (by simp [go_sem] <;> trivial) ?_; refine V1.i (by simp [go_sem] <;> trivial) ?_; refine cf21 (c21f aq 3) ?_ (fun _ _ h => h.elim); rintro _ wk ⟨rfl, rfl⟩; refine V1.i (v := .bool (!(c == 3))) (w' := wk) (by simp [go_sem]) ?_; by_cases h3 : c = 3
   · subst h3; refine cf20 (c20 _ false 3) ?_ ?_
     · rintro _ w9 ⟨hb, _⟩
       cases hb
     · rintro c w9 ⟨_, rfl, rfl⟩; exact hpan 3 _ _ _ ao ae (by rw [hoP]; rfl) kk8
   · rw [show (!(c == 3)) = true by simpa using h3]; refine cf20 (c20 _ true 3) ?_ ?_; rotate_left
     · rintro c w9 ⟨hb, _⟩
       cases hb
     rintro _ w9 ⟨_, rfl⟩; refine V1.i (eqNil _ _ _ _) ?_; refine D1J.go (Gd.ft ?_); refine V1.i (by simp [go_sem] <;> trivial) ?_; refine cf20 (c20 _ false 2) ?_ ?_
     · rintro _ w9 ⟨hb, _⟩
       cases hb
     · rintro c' w9 ⟨_, rfl, rfl⟩; exact hpan 2 _ _ _ ao ae (by rw [hoP]; dsimp only; rw [if_neg h3]) kk8
 | ok t ts o =>
   rw [hp] at hq hpb hoP; dsimp only at hoP; obtain ⟨lv, rfl, rt, il⟩ := hq; obtain ⟨_, hwt, htz⟩ := hpb; refine V1.i (by simp [go_sem] <;> trivial) ?_; refine V1.i (by simp [go_sem] <;> trivial) ?_; refine V1.i (by simp [go_sem] <;> trivial) ?_; refine cf21 (c21_nil _ _ _) ?_ (fun _ _ h => h.elim); rintro _ wj ⟨rfl, rfl⟩; refine V1.i (by simp [go_sem] <;> trivial) ?_; refine cf20 (c20 _ true 3) ?_ ?_; rotate_left
   · rintro c w9 ⟨hb, _⟩
     cases hb
   rintro _ wk ⟨_, rfl⟩; refine V1.i (eqNN _ _) ?_; refine D1J.go (Gd.tt ?_); have rl8 : Rep (fun _ => True) wk l (.L v) := Rep.imp (fun _ _ _ => trivial) _ _ (Rep.new kk8 _ _ rl); refine cf22 (alike (F := fun _ => True) htz hwt hwf (Rep.imp (fun _ _ _ => trivial) _ _ rt) rl8) ?_ (fun _ _ h => h.elim); rintro _ w10 ⟨rfl, K10⟩; replace ab := K10.at ab (by simp); replace ao := K10.at ao (by simp); replace ae := K10.at ae (by simp); replace bf := bf.keep K10; have kk10 : Keep [] w w10 := kk8.trans K10; refine V1.i (v := .bool (eqT t l)) (w' := w10) (by simp [go_sem]) ?_
   cases he : eqT t l with
   | false =>
     rw [he, if_neg Bool.false_ne_true] at hoP; refine cf20 (c20 _ false 2) ?_ ?_
     · rintro _ w11 ⟨hb, _⟩
       cases hb
     · rintro c' w11 ⟨_, rfl, rfl⟩; exact hpan 2 _ _ _ ao ae hoP.symm kk10
   | true =>
     rw [he, if_pos rfl] at hoP; refine cf20 (c20 _ true 2) ?_ ?_; rotate_left
     · rintro c w11 ⟨hb, _⟩
       cases hb
     rintro _ w11 ⟨_, rfl⟩; refine Up.i (Nc.p _ _) ?_; refine V1.i (v := ptr bt) (w' := w11) (by simp [go_sem, ptr]; first | done | rfl | exact ⟨rfl, rfl⟩ | (rintro rfl; rfl)) ?_; refine cf19 (c19 bf hlen7) ?_ (fun _ _ h => h.elim); rintro _ w12 ⟨rfl, _, M12, K12, hM12⟩; have hm12 : ∀ q ∈ M12, lo6 ≤ q := fun q hq => hM w11 ab q (hM12 q hq); replace ao := K12.at ao (nin hm12 (by omega)); replace ae := K12.at ae (nin hm12 (by omega)); have kk12 : Keep [] w w12 := kk10.trans' K12 (fun i hi hlt => by have := hm12 i hi; omega); refine U1.store (onesAll rfl rfl) ao (by simp) fun w13 U13 => ?_; have ao13 : At w13 bs [str buf] := U13.at_; have ae13 := U13.keep.at ae (by simp; omega); refine U1.store (onesAll rfl rfl) ae13 (by simp) fun w14 U14 => ?_; refine lv17_ret ?_
     exact hout w14 buf 0 (U14.keep.at ao13 (by simp; omega)) U14.at_ hoP.symm ((kk12.trans' U13.keep (by simp; omega)).trans' U14.keep (by simp; omega))
def S8 (R : Ending → World → Prop) (w : World) : Prop :=
 v1 R (Instr.build 37 #[(0, (.string ⟨#[105, 102, 32, 97, 32, 116, 104, 101, 110, 32, 101, 108, 115, 101, 105, 102, 32, 98, 32, 116, 104, 101, 110, 32, 99, 40, 41, 32, 101, 108, 115, 101, 32, 100, 40, 41, 32, 101, 110, 100]⟩)), (1, (.string ⟨#[105, 102, 32, 97, 32, 116, 104, 101, 110, 10, 101, 108, 115, 101, 105, 102, 32, 98, 32, 116, 104, 101, 110, 10, 99, 40, 41, 10, 101, 108, 115, 101, 10, 100, 40, 41, 10, 101, 110, 100, 10]⟩))]) w fun a29 w =>
 v1 R (Instr.build 37 #[(0, (.string ⟨#[97, 61, 40, 98, 46, 46, 99, 41, 46, 46, 100, 46, 46, 101, 32, 97, 32, 61, 32, 49, 45, 40, 50, 45, 51, 41]⟩)), (1, (.string ⟨#[97, 32, 61, 32, 40, 98, 32, 46, 46, 32, 99, 41, 32, 46, 46, 32, 100, 32, 46, 46, 32, 101, 10, 97, 32, 61, 32, 49, 32, 45, 32, 40, 50, 32, 45, 32, 51, 41, 10]⟩))]) w fun a30 w =>
 v1 R (Instr.build 37 #[(0, (.string ⟨#[102, 61, 102, 117, 110, 99, 116, 105, 111, 110, 40, 120, 41, 32, 114, 101, 116, 117, 114, 110, 32, 123, 120, 44, 107, 61, 49, 44, 91, 50, 93, 61, 51, 125, 32, 101, 110, 100]⟩)), (1, (.string ⟨#[102, 32, 61, 32, 102, 117, 110, 99, 116, 105, 111, 110, 40, 120, 41, 10, 114, 101, 116, 117, 114, 110, 32, 123, 120, 44, 32, 107, 32, 61, 32, 49, 44, 32, 91, 50, 93, 32, 61, 32, 51, 125, 10, 101, 110, 100, 10]⟩))]) w fun a31 w =>
 v1 R (Instr.build 37 #[(0, (.string ⟨#[105, 102, 32, 97, 32, 116, 104, 101, 110, 32, 101, 108, 115, 101, 32, 105, 102, 32, 98, 32, 116, 104, 101, 110, 32, 101, 110, 100, 32, 101, 110, 100]⟩)), (1, (.string ⟨#[105, 102, 32, 97, 32, 116, 104, 101, 110, 10, 101, 108, 115, 101, 105, 102, 32, 98, 32, 116, 104, 101, 110, 10, 101, 110, 100, 10]⟩))]) w fun a32 w =>
 v1 R (Instr.build 37 #[(0, (.string ⟨#[105, 102, 32, 97, 32, 116, 104, 101, 110, 32, 98, 40, 41, 32, 101, 108, 115, 101, 32, 105, 102, 32, 99, 32, 116, 104, 101, 110, 32, 101, 110, 100, 32, 100, 40, 41, 32, 101, 110, 100]⟩)), (1, (.string ⟨#[105, 102, 32, 97, 32, 116, 104, 101, 110, 10, 98, 40, 41, 10, 101, 108, 115, 101, 10, 105, 102, 32, 99, 32, 116, 104, 101, 110, 10, 101, 110, 100, 10, 100, 40, 41, 10, 101, 110, 100, 10]⟩))]) w fun a33 w =>
 v1 R (Instr.build 37 #[(0, (.string ⟨#[119, 104, 105, 108, 101, 32, 120, 32, 100, 111, 32, 98, 114, 101, 97, 107, 32, 101, 110, 100, 32, 102, 111, 114, 32, 105, 61, 49, 44, 50, 32, 100, 111, 32, 101, 110, 100, 32, 116, 114, 121, 32, 97, 40, 41, 32, 99, 97, 116, 99, 104, 32, 101, 32, 114, 101, 116, 117, 114, 110, 32, 101, 32, 101, 110, 100]⟩)), (1, (.string ⟨#[119, 104, 105, 108, 101, 32, 120, 32, 100, 111, 10, 98, 114, 101, 97, 107, 10, 101, 110, 100, 10, 102, 111, 114, 32, 105, 32, 61, 32, 49, 44, 32, 50, 32, 100, 111, 10, 101, 110, 100, 10, 116, 114, 121, 10, 97, 40, 41, 10, 99, 97, 116, 99, 104, 32, 101, 10, 114, 101, 116, 117, 114, 110, 32, 101, 10, 101, 110, 100, 10]⟩))]) w fun a34 w =>
 v1 R (Instr.build 37 #[(0, (.string ⟨#[108, 111, 99, 97, 108, 32, 102, 117, 110, 99, 116, 105, 111, 110, 32, 102, 40, 97, 44, 98, 41, 32, 114, 101, 116, 117, 114, 110, 32, 101, 110, 100, 32, 108, 111, 99, 97, 108, 32, 120]⟩)), (1, (.string ⟨#[108, 111, 99, 97, 108, 32, 102, 117, 110, 99, 116, 105, 111, 110, 32, 102, 40, 97, 44, 32, 98, 41, 10, 114, 101, 116, 117, 114, 110, 10, 101, 110, 100, 10, 108, 111, 99, 97, 108, 32, 120, 10]⟩))]) w fun a35 w =>
 v1 R (Instr.build 37 #[(0, (.string ⟨#[120, 32, 61, 32, 40, 97, 32, 111, 114, 32, 98, 41, 32, 97, 110, 100, 32, 99, 32, 111, 114, 32, 100, 32, 97, 110, 100, 32, 101]⟩)), (1, (.string ⟨#[120, 32, 61, 32, 40, 97, 32, 111, 114, 32, 98, 41, 32, 97, 110, 100, 32, 99, 32, 111, 114, 32, 100, 32, 97, 110, 100, 32, 101, 10]⟩))]) w fun a36 w =>
 v1 R (Instr.build 37 #[(0, (.string ⟨#[120, 32, 61, 32, 45, 40, 97, 46, 98, 41, 32, 120, 32, 61, 32, 40, 45, 97, 41, 46, 98, 32, 120, 32, 61, 32, 45, 40, 97, 43, 98, 41, 32, 120, 32, 61, 32, 35, 97, 91, 49, 93, 40, 50, 44, 123, 125, 41]⟩)), (1, (.string ⟨#[120, 32, 61, 32, 45, 32, 97, 46, 98, 10, 120, 32, 61, 32, 40, 45, 32, 97, 41, 46, 98, 10, 120, 32, 61, 32, 45, 32, 40, 97, 32, 43, 32, 98, 41, 10, 120, 32, 61, 32, 35, 32, 97, 91, 49, 93, 40, 50, 44, 32, 123, 125, 41, 10]⟩))]) w fun a37 w =>
 v1 R (Instr.build 37 #[(0, (.string ⟨#[40, 102, 117, 110, 99, 116, 105, 111, 110, 40, 41, 32, 101, 110, 100, 41, 40, 41, 32, 120, 32, 61, 32, 34, 92, 120, 48, 48, 34, 32, 120, 32, 61, 32, 126, 49, 32, 126, 32, 50, 32, 120, 32, 61, 32, 49, 32, 60, 60, 32, 40, 50, 32, 62, 62, 32, 51, 41]⟩)), (1, (.string ⟨#[40, 102, 117, 110, 99, 116, 105, 111, 110, 40, 41, 10, 101, 110, 100, 41, 40, 41, 10, 120, 32, 61, 32, 34, 92, 120, 48, 48, 34, 10, 120, 32, 61, 32, 126, 32, 49, 32, 126, 32, 50, 10, 120, 32, 61, 32, 49, 32, 60, 60, 32, 40, 50, 32, 62, 62, 32, 51, 41, 10]⟩))]) w fun a38 w =>
 v1 R (Instr.buildSlice 38 10 #[(0, a29), (1, a30), (2, a31), (3, a32), (4, a33), (5, a34), (6, a35), (7, a36), (8, a37), (9, a38)]) w fun a39 w =>
 L2 (.bool false) (.int .i64 0) w (fun g1 a0 a2 w =>
 v1 R (Builtin.len_ #[38] 3 #[a39]) w fun a42 w =>
 v1 R (Bo .lss 3 false false a2 a42) w fun a43 w =>
 If a43 (
 ∃ C1 : World → Prop, C1 w.drew ∧
 xv C1 (Instr.indexAt 38 a39 a2) fun a48 => xv C1 (Instr.indexAt 37 a48 (.int .i64 0)) fun a49 => xv C1 (Instr.loadAt 9 a49) fun a50 => xq C1 (callFunc 16 #[a50]) fun a51 => xv C1 (Instr.indexAt 38 a39 a2) fun a54 => xv C1 (Instr.indexAt 37 a54 (.int .i64 1)) fun a55 => xv C1 (Instr.loadAt 9 a55) fun a56 => xv C1 (Bo .neq 9 false false a51 a56) fun a57 => ∀ w, C1 w → If a57 (
 R (.returned (.bool false)) w) (
 v1 R (Bo .add 3 false true a2 (.int .i64 1)) w fun a45 w =>
 g1 a0 a45 w)) (
 v1 R (Instr.build 43 #[]) w fun a58 w =>
 v1 R (Instr.box 43 a58) w fun a59 w =>
 v1 R (Instr.build 43 #[(0, (.int .i64 12))]) w fun a60 w =>
 v1 R (Instr.box 43 a60) w fun a61 w =>
 v1 R (Instr.build 43 #[(0, (.int .i64 2))]) w fun a62 w =>
 v1 R (Instr.box 43 a62) w fun a63 w =>
 v1 R (Instr.build 47 #[(0, (.int .i64 1))]) w fun a64 w =>
 v1 R (Instr.box 47 a64) w fun a65 w =>
 v1 R (Instr.build 43 #[(0, (.int .i64 3)), (4, a65)]) w fun a66 w =>
 v1 R (Instr.box 43 a66) w fun a67 w =>
 v1 R (Instr.build 43 #[(0, (.int .i64 9)), (2, (.string ⟨#[120]⟩))]) w fun a68 w =>
 v1 R (Instr.box 43 a68) w fun a69 w =>
 v1 R (Instr.build 43 #[(0, (.int .i64 1)), (2, (.string ⟨#[101, 110, 100]⟩))]) w fun a70 w =>
 v1 R (Instr.box 43 a70) w fun a71 w =>
 v1 R (Instr.build 47 #[(0, (.int .i64 4)), (2, (.int .i64 (-1)))]) w fun a72 w =>
 v1 R (Instr.box 47 a72) w fun a73 w =>
 v1 R (Instr.build 43 #[(0, (.int .i64 1)), (2, (.string ⟨#[120]⟩)), (4, a73)]) w fun a74 w =>
 v1 R (Instr.box 43 a74) w fun a75 w =>
 v1 R (Instr.build 47 #[(0, (.int .i64 13))]) w fun a76 w =>
 v1 R (Instr.box 47 a76) w fun a77 w =>
 v1 R (Instr.build 43 #[(0, (.int .i64 1)), (2, (.string ⟨#[120]⟩)), (4, a77)]) w fun a78 w =>
 v1 R (Instr.box 43 a78) w fun a79 w =>
 v1 R (Instr.build 47 #[(0, (.int .i64 1))]) w fun a80 w =>
 v1 R (Instr.box 47 a80) w fun a81 w =>
 v1 R (Instr.build 43 #[(0, (.int .i64 11)), (2, (.string ⟨#[102]⟩)), (4, a81)]) w fun a82 w =>
 v1 R (Instr.box 43 a82) w fun a83 w =>
 v1 R (Instr.buildSlice 44 1 #[(0, (.pointer none))]) w fun a84 w =>
 v1 R (Instr.build 47 #[(0, (.int .i64 12)), (6, a84)]) w fun a85 w =>
 v1 R (Instr.box 47 a85) w fun a86 w =>
 v1 R (Instr.build 43 #[(0, (.int .i64 1)), (2, (.string ⟨#[120]⟩)), (4, a86)]) w fun a87 w =>
 v1 R (Instr.box 43 a87) w fun a88 w =>
 v1 R (Instr.build 43 #[(0, (.int .i64 1)), (2, (.string ⟨#[120, 32, 61, 32, 49, 32, 108, 111, 99, 97, 108, 32, 121]⟩))]) w fun a89 w =>
 v1 R (Instr.box 43 a89) w fun a90 w =>
 v1 R (Instr.build 47 #[(0, (.int .i64 6)), (3, (.string ⟨#[97, 32, 98]⟩))]) w fun a91 w =>
 v1 R (Instr.box 47 a91) w fun a92 w =>
 v1 R (Instr.build 43 #[(0, (.int .i64 1)), (2, (.string ⟨#[120]⟩)), (4, a92)]) w fun a93 w =>
 v1 R (Instr.box 43 a93) w fun a94 w =>
 v1 R (Instr.buildSlice 26 13 #[(0, (.pointer none)), (1, a59), (2, a61), (3, a63), (4, a67), (5, a69), (6, a71), (7, a75), (8, a79), (9, a83), (10, a88), (11, a90), (12, a94)]) w fun a95 w =>
 L2 a0 (.int .i64 0) w (fun g2 a0_1 a4 w =>
 v1 R (Builtin.len_ #[26] 3 #[a95]) w fun a98 w =>
 v1 R (Bo .lss 3 false false a4 a98) w fun a99 w =>
 If a99 (
 v1 R (Instr.indexAt 26 a95 a4) w fun a105 w =>
 v1 R (Instr.loadAt 40 a105) w fun a106 w =>
 v1 R (Instr.buildSlice 26 1 #[(0, a106)]) w fun a107 w =>
 cf R 9 #[a107] w fun a108 w =>
 v1 R (Instr.extract a108 0) w fun a109 w =>
 v1 R (Instr.extract a108 1) w fun a110 w =>
 v1 R (Bo .neq 23 false true a110 (.int .i64 2)) w fun a112 w =>
 J1 (fun k1 =>
 Gd a112 false (v1 R (Bo .neq 9 false true a109 (.string ⟨#[]⟩)) w fun a115 w =>
 k1 a115 w) (k1 undef w)) (fun a115_1 w =>
 v1 R (Pk a112 (.bool true) a115_1) w fun a116 w =>
 If a116 (
 R (.returned (.bool false)) w) (
 v1 R (Bo .add 3 false true a4 (.int .i64 1)) w fun a101 w =>
 g2 a0_1 a101 w))) (
 v1 R (Instr.build 47 #[(0, (.int .i64 10)), (3, (.string ⟨#[45]⟩))]) w fun a117 w =>
 v1 R (Instr.box 47 a117) w fun a118 w =>
 up R (Nc a118) w fun a121 w =>
 v1 R (Instr.fieldAt 47 a121 5) w fun a122 w =>
 u1 R (Instr.storeAt 41 a122 a118) w fun w =>
 v1 R (Instr.build 47 #[(0, (.int .i64 11)), (3, (.string ⟨#[43]⟩))]) w fun a123 w =>
 v1 R (Instr.box 47 a123) w fun a124 w =>
 up R (Nc a124) w fun a127 w =>
 v1 R (Instr.fieldAt 47 a127 4) w fun a128 w =>
 u1 R (Instr.storeAt 41 a128 a124) w fun w =>
 up R (Nc a124) w fun a131 w =>
 v1 R (Instr.fieldAt 47 a131 5) w fun a132 w =>
 u1 R (Instr.storeAt 41 a132 a124) w fun w =>
 v1 R (Instr.build 43 #[(0, (.int .i64 4))]) w fun a133 w =>
 v1 R (Instr.box 43 a133) w fun a134 w =>
 v1 R (Instr.buildSlice 26 1 #[(0, a134)]) w fun a137 w =>
 up R (Nc a134) w fun a138 w =>
 v1 R (Instr.fieldAt 43 a138 6) w fun a139 w =>
 u1 R (Instr.storeAt 26 a139 a137) w fun w =>
 v1 R (Instr.build 43 #[(0, (.int .i64 8)), (4, a118)]) w fun a142 w =>
 v1 R (Instr.box 43 a142) w fun a143 w =>
 v1 R (Instr.buildSlice 26 1 #[(0, a143)]) w fun a144 w =>
 cf R 9 #[a144] w fun a145 w =>
 v1 R (Instr.extract a145 0) w fun a146 w =>
 v1 R (Instr.extract a145 1) w fun a147 w =>
 v1 R (Instr.build 43 #[(0, (.int .i64 8)), (4, a124)]) w fun a150 w =>
 v1 R (Instr.box 43 a150) w fun a151 w =>
 v1 R (Instr.buildSlice 26 1 #[(0, a151)]) w fun a152 w =>
 cf R 9 #[a152] w fun a153 w =>
 v1 R (Instr.extract a153 0) w fun a154 w =>
 v1 R (Instr.extract a153 1) w fun a155 w =>
 v1 R (Instr.buildSlice 26 1 #[(0, a134)]) w fun a158 w =>
 cf R 9 #[a158] w fun a159 w =>
 v1 R (Instr.extract a159 0) w fun a160 w =>
 v1 R (Instr.extract a159 1) w fun a161 w =>
 v1 R (Instr.makeSlice 22 (.int .i64 32768) (.int .i64 32768)) w fun a163 w =>
 v1 R (Go.convert 22 9 a163) w fun a164 w =>
 v1 R (Instr.build 47 #[(0, (.int .i64 5)), (3, a164)]) w fun a165 w =>
 v1 R (Instr.box 47 a165) w fun a166 w =>
 v1 R (Instr.build 43 #[(0, (.int .i64 8)), (4, a166)]) w fun a167 w =>
 v1 R (Instr.box 43 a167) w fun a168 w =>
 v1 R (Instr.buildSlice 26 1 #[(0, a168)]) w fun a169 w =>
 cf R 9 #[a169] w fun a170 w =>
 v1 R (Instr.extract a170 0) w fun a171 w =>
 v1 R (Instr.extract a170 1) w fun a172 w =>
 v1 R (Instr.build 47 #[(0, (.int .i64 1))]) w fun a173 w =>
 v1 R (Instr.box 47 a173) w fun a174 w =>
 L2 a174 (.int .i64 0) w (fun g3 a18 a19 w =>
 v1 R (Bo .lss 3 false true a19 (.int .i64 65)) w fun a176 w =>
 If a176 (
 v1 R (Instr.build 47 #[(0, (.int .i64 10)), (3, (.string ⟨#[45]⟩)), (5, a18)]) w fun a180 w =>
 v1 R (Instr.box 47 a180) w fun a181 w =>
 v1 R (Bo .add 3 false true a19 (.int .i64 1)) w fun a178 w =>
 g3 a181 a178 w) (
 v1 R (Instr.build 43 #[(0, (.int .i64 8)), (4, a18)]) w fun a184 w =>
 v1 R (Instr.box 43 a184) w fun a185 w =>
 v1 R (Instr.buildSlice 26 1 #[(0, a185)]) w fun a186 w =>
 cf R 9 #[a186] w fun a187 w =>
 v1 R (Instr.extract a187 0) w fun a188 w =>
 v1 R (Instr.extract a187 1) w fun a189 w =>
 up R (Nc a18) w fun a192 w =>
 v1 R (Instr.fieldAt 47 a192 5) w fun a193 w =>
 v1 R (Instr.loadAt 41 a193) w fun a194 w =>
 v1 R (Instr.build 43 #[(0, (.int .i64 8)), (4, a194)]) w fun a195 w =>
 v1 R (Instr.box 43 a195) w fun a196 w =>
 v1 R (Instr.buildSlice 26 1 #[(0, a196)]) w fun a197 w =>
 cf R 9 #[a197] w fun a198 w =>
 v1 R (Instr.extract a198 0) w fun a199 w =>
 v1 R (Instr.extract a198 1) w fun a200 w =>
 cf R 9 #[(.slice none 0 0)] w fun a202 w =>
 v1 R (Instr.extract a202 0) w fun a203 w =>
 v1 R (Instr.extract a202 1) w fun a204 w =>
 v1 R (Instr.build 43 #[(0, (.int .i64 9)), (1, (.int .i64 7))]) w fun a205 w =>
 v1 R (Instr.box 43 a205) w fun a206 w =>
 v1 R (Instr.buildSlice 26 1 #[(0, a206)]) w fun a207 w =>
 v1 R (Instr.build 47 #[(0, (.int .i64 4)), (2, (.int .i64 1))]) w fun a208 w =>
 v1 R (Instr.box 47 a208) w fun a209 w =>
 v1 R (Instr.build 47 #[(0, (.int .i64 4)), (2, (.int .i64 2))]) w fun a210 w =>
 v1 R (Instr.box 47 a210) w fun a211 w =>
 v1 R (Instr.build 43 #[(0, (.int .i64 7)), (2, (.string ⟨#[105]⟩)), (4, a209), (5, a209)]) w fun a214 w =>
 v1 R (Instr.box 43 a214) w fun a215 w =>
 v1 R (Instr.buildSlice 26 1 #[(0, a215)]) w fun a216 w =>
 v1 R (Instr.build 43 #[(0, (.int .i64 7)), (2, (.string ⟨#[105]⟩)), (4, a209), (5, a211)]) w fun a219 w =>
 v1 R (Instr.box 43 a219) w fun a220 w =>
 v1 R (Instr.buildSlice 26 1 #[(0, a220)]) w fun a221 w =>
 cf R 14 #[a216, a221] w fun a222 w =>
 If a222 (
 R (.returned (.bool false)) w) (
 J1 (fun k2 =>
 Gd (.bool true) true (cf R 12 #[] w fun a224 w =>
 k2 a224 w) (k2 undef w)) (fun a224_1 w =>
 v1 R (Pk (.bool true) a224_1 (.bool false)) w fun a225 w =>
 J1 (fun k3 =>
 Gd a225 true (v1 R (Bo .eql 23 false true a147 (.int .i64 3)) w fun a228 w =>
 k3 a228 w) (k3 undef w)) (fun a228_1 w =>
 v1 R (Pk a225 a228_1 (.bool false)) w fun a229 w =>
 J1 (fun k4 =>
 Gd a229 true (v1 R (Bo .eql 23 false true a155 (.int .i64 3)) w fun a232 w =>
 k4 a232 w) (k4 undef w)) (fun a232_1 w =>
 v1 R (Pk a229 a232_1 (.bool false)) w fun a233 w =>
 J1 (fun k5 =>
 Gd a233 true (v1 R (Bo .eql 23 false true a161 (.int .i64 3)) w fun a236 w =>
 k5 a236 w) (k5 undef w)) (fun a236_1 w =>
 v1 R (Pk a233 a236_1 (.bool false)) w fun a237 w =>
 J1 (fun k6 =>
 Gd a237 true (v1 R (Bo .eql 23 false true a172 (.int .i64 3)) w fun a240 w =>
 k6 a240 w) (k6 undef w)) (fun a240_1 w =>
 v1 R (Pk a237 a240_1 (.bool false)) w fun a241 w =>
 J1 (fun k7 =>
 Gd a241 true (v1 R (Bo .eql 23 false true a189 (.int .i64 3)) w fun a244 w =>
 k7 a244 w) (k7 undef w)) (fun a244_1 w =>
 v1 R (Pk a241 a244_1 (.bool false)) w fun a245 w =>
 J1 (fun k8 =>
 Gd a245 true (v1 R (Bo .eql 23 false true a200 (.int .i64 0)) w fun a248 w =>
 k8 a248 w) (k8 undef w)) (fun a248_1 w =>
 v1 R (Pk a245 a248_1 (.bool false)) w fun a249 w =>
 J1 (fun k9 =>
 Gd a249 true (v1 R (Builtin.len_ #[9] 3 #[a199]) w fun a252 w =>
 v1 R (Bo .eql 3 false true a252 (.int .i64 139)) w fun a253 w =>
 k9 a253 w) (k9 undef w)) (fun a253_1 w =>
 v1 R (Pk a249 a253_1 (.bool false)) w fun a254 w =>
 J1 (fun k10 =>
 Gd a254 true (v1 R (Bo .eql 23 false true a204 (.int .i64 0)) w fun a257 w =>
 k10 a257 w) (k10 undef w)) (fun a257_1 w =>
 v1 R (Pk a254 a257_1 (.bool false)) w fun a258 w =>
 J1 (fun k11 =>
 Gd a258 true (v1 R (Bo .eql 9 false true a203 (.string ⟨#[]⟩)) w fun a261 w =>
 k11 a261 w) (k11 undef w)) (fun a261_1 w =>
 v1 R (Pk a258 a261_1 (.bool false)) w fun a262 w =>
 J1 (fun k12 =>
 Gd a262 true (v1 R (Instr.build 43 #[(0, (.int .i64 9))]) w fun a265 w =>
 v1 R (Instr.box 43 a265) w fun a266 w =>
 v1 R (Instr.buildSlice 26 1 #[(0, a266)]) w fun a267 w =>
 cf R 14 #[a207, a267] w fun a268 w =>
 k12 a268 w) (k12 undef w)) (fun a268_1 w =>
 v1 R (Pk a262 a268_1 (.bool false)) w fun a269 w =>
 J1 (fun k13 =>
 Gd a269 true (cf R 14 #[a207, (.slice none 0 0)] w fun a272 w =>
 v1 R (Op.unary .not a272) w fun a273 w =>
 k13 a273 w) (k13 undef w)) (fun a273_1 w =>
 v1 R (Pk a269 a273_1 (.bool false)) w fun a274 w =>
 J1 (fun k14 =>
 Gd a274 true (v1 R (Instr.buildSlice 26 1 #[(0, a134)]) w fun a277 w =>
 v1 R (Instr.buildSlice 26 1 #[(0, a134)]) w fun a279 w =>
 cf R 14 #[a277, a279] w fun a280 w =>
 v1 R (Op.unary .not a280) w fun a281 w =>
 k14 a281 w) (k14 undef w)) (fun a281_1 w =>
 v1 R (Pk a274 a281_1 (.bool false)) w fun a282 w =>
 J1 (fun k15 =>
 Gd a282 true (v1 R (Instr.build 43 #[(0, (.int .i64 8)), (4, a118)]) w fun a285 w =>
 v1 R (Instr.box 43 a285) w fun a286 w =>
 v1 R (Instr.buildSlice 26 1 #[(0, a286)]) w fun a287 w =>
 v1 R (Instr.build 43 #[(0, (.int .i64 8)), (4, a118)]) w fun a289 w =>
 v1 R (Instr.box 43 a289) w fun a290 w =>
 v1 R (Instr.buildSlice 26 1 #[(0, a290)]) w fun a291 w =>
 cf R 14 #[a287, a291] w fun a292 w =>
 v1 R (Op.unary .not a292) w fun a293 w =>
 k15 a293 w) (k15 undef w)) (fun a293_1 w =>
 v1 R (Pk a282 a293_1 (.bool false)) w fun a294 w =>
 J1 (fun k16 =>
 Gd a294 true (v1 R (Instr.buildSlice 26 1 #[(0, (.pointer none))]) w fun a296 w =>
 v1 R (Instr.buildSlice 26 1 #[(0, (.pointer none))]) w fun a297 w =>
 cf R 14 #[a296, a297] w fun a298 w =>
 k16 a298 w) (k16 undef w)) (fun a298_1 w =>
 v1 R (Pk a294 a298_1 (.bool false)) w fun a299 w =>
 J1 (fun k17 =>
 Gd a299 true (v1 R (Instr.buildSlice 26 1 #[(0, (.pointer none))]) w fun a301 w =>
 cf R 14 #[a301, a207] w fun a303 w =>
 v1 R (Op.unary .not a303) w fun a304 w =>
 k17 a304 w) (k17 undef w)) (fun a304_1 w =>
 v1 R (Pk a299 a304_1 (.bool false)) w fun a305 w =>
 R (.returned a305) w)))))))))))))))))))))))
theorem e8 (R : Ending → World → Prop) (w : World) : body Tryz.prog Tryz.f8.ntmps [] Tryz.f8.results.toList (codeB Tryz.f8) [] R w = S8 R  w := by kernel_rfl
theorem s8 {R : Ending → World → Prop} {w : World} (h : S8 R  w) : Calls Tryz.prog 8 #[] w R :=
  calls_of [] mixed Tryz.func8 (c := codeB Tryz.f8) (by kernel_rfl) (Nat.le_of_ble_eq_true (by kernel_rfl)) (by rw [e8]; exact h)
def S12 (R : Ending → World → Prop) (w : World) : Prop :=
 cf R 16 #[(.string ⟨#[97, 61, 49, 43, 50, 42, 51, 32, 98, 32, 61, 32, 40, 49, 43, 50, 41, 42, 51]⟩)] w fun a1 w =>
 v1 R (Bo .eql 9 false true a1 (.string ⟨#[97, 32, 61, 32, 49, 32, 43, 32, 50, 32, 42, 32, 51, 10, 98, 32, 61, 32, 40, 49, 32, 43, 32, 50, 41, 32, 42, 32, 51, 10]⟩)) w fun a2 w =>
 J1 (fun k1 =>
 Gd a2 true (cf R 16 #[(.string ⟨#[116, 91, 34, 120, 34, 93, 61, 45, 40, 45, 49, 41, 32, 116, 91, 34, 101, 110, 100, 34, 93, 61, 110, 111, 116, 32, 40, 97, 61, 61, 98, 41]⟩)] w fun a4 w =>
 v1 R (Bo .eql 9 false true a4 (.string ⟨#[116, 46, 120, 32, 61, 32, 45, 32, 45, 32, 49, 10, 116, 91, 34, 101, 110, 100, 34, 93, 32, 61, 32, 110, 111, 116, 32, 40, 97, 32, 61, 61, 32, 98, 41, 10]⟩)) w fun a5 w =>
 k1 a5 w) (k1 undef w)) (fun a5_1 w =>
 v1 R (Pk a2 a5_1 (.bool false)) w fun a6 w =>
 R (.returned a6) w)
theorem s12 {R : Ending → World → Prop} {w : World} (h : S12 R  w) : Calls Tryz.prog 12 #[] w R :=
  calls_of [] mixed Tryz.func12 (c := codeB Tryz.f12) (by kernel_rfl) (Nat.le_of_ble_eq_true (by kernel_rfl)) (cast (by kernel_rfl) h)
theorem cf12 : CfT 12 := CfT.mk Tryz.func12 (c := codeB Tryz.f12) (by kernel_rfl) (by kernel_rfl)
def S16 (R : Ending → World → Prop) (a0 : Value) (w : World) : Prop :=
 cf R 13 #[a0] w fun a9 w =>
 v1 R (Instr.extract a9 0) w fun a10 w =>
 v1 R (Instr.extract a9 1) w fun a11 w =>
 v1 R (Bo .neq 31 false true a11 .nilIface) w fun a13 w =>
 If a13 (
 R (.returned (.string ⟨#[]⟩)) w) (
 cf R 9 #[a10] w fun a16 w =>
 v1 R (Instr.extract a16 0) w fun a17 w =>
 v1 R (Instr.extract a16 1) w fun a18 w =>
 R (.returned a17) w)
theorem s16 {R : Ending → World → Prop} {a0 : Value} {w : World} (h : S16 R a0 w) : Calls Tryz.prog 16 #[a0] w R :=
  calls_of [] mixed Tryz.func16 (c := codeB Tryz.f16) (by kernel_rfl) (Nat.le_of_ble_eq_true (by kernel_rfl)) (cast (by kernel_rfl) h)
theorem cf16 : CfT 16 := CfT.mk Tryz.func16 (c := codeB Tryz.f16) (by kernel_rfl) (by kernel_rfl)
theorem c14 {F : Nat → Prop} {w : World} {s t : Tr} {u v : Value} (hzs : tz s ≤ fuelMax) (hzt : tz t ≤ fuelMax) (hs : wf s 3 = true) (ht : wf t 3 = true) (rs : Rep F w s (.L u)) (rt : Rep F w t (.L v)) :
   Calls Tryz.prog 14 #[u, v] w (Ret (fun x w' => x = .bool ((decide (nd s ≤ 65536) && decide (nd t ≤ 65536)) && eqT s t) ∧ Keep [] w w') NP) := by
 refine s14 ?_; unfold S14; refine cf33 (c33 hzs hs rs) ?_ (NP.no (e := _)); rintro _ w1 ⟨rfl, K1⟩; refine J1.cut (fun x w' => x = (if decide (nd s ≤ 65536) = true then .bool (decide (nd t ≤ 65536)) else undef) ∧ Keep [] w w') ?_ ?_
 · refine Gd.b (fun h => ?_) (fun h => ?_)
   · refine cf33 (c33 hzt ht (Rep.new K1 _ _ rt)) ?_ (NP.no (e := _)); rintro _ w2 ⟨rfl, K2⟩; exact ⟨by rw [if_pos h], K1.trans K2⟩
   · exact ⟨by rw [if_neg (by rw [h]; simp)], K1⟩
 clear K1; rintro _ w3 ⟨rfl, K3⟩; refine V1.i (pkA _ _ _) ?_; refine J1.cut (fun x w' => x = (if (decide (nd s ≤ 65536) && decide (nd t ≤ 65536)) = true then .bool (eqT s t) else undef) ∧ Keep [] w w') ?_ ?_
 · refine Gd.b (fun h => ?_) (fun h => ?_)
   · refine cf22 (alike hzs hs ht (Rep.new K3 _ _ rs) (Rep.new K3 _ _ rt)) ?_ (NP.no (e := _)); rintro _ w2 ⟨rfl, K2⟩; exact ⟨by rw [if_pos h], K3.trans K2⟩
   · exact ⟨by rw [if_neg (by rw [h]; simp)], K3⟩
 clear K3; rintro _ w4 ⟨rfl, K4⟩; refine V1.i (pkA _ _ _) ?_; exact ⟨rfl, K4⟩
theorem c16 {w : World} (g : GL w) {s : List UInt8} {m n : Nat} {t : Tr} {ts : List Tok} {o : Bool} (hm : m ≤ fuelMax) (hp : parseS m s = .ok t ts o) (hw : wf t 3 = true) (hne : prn n (.stmts t) [] 0 ≠ .oof) :
   Calls Tryz.prog 16 #[str s] w (Ret (fun v w' => v = str (outP n t).1 ∧ Keep [] w w') NP) := by
 refine s16 ?_; unfold S16; refine cf13 (c13 w s g m hm _ rfl (by rw [hp]; exact Res.noConfusion)) ?_ (NP.no (e := _)); rintro _ w1 ⟨hq, K1⟩; rw [hp] at hq; obtain ⟨lv, rfl, rt, il⟩ := hq; refine V1.i (by simp [go_sem] <;> trivial) ?_; refine V1.i (by simp [go_sem] <;> trivial) ?_; refine V1.i (neNN _ _) ?_; refine If.f ?_; refine cf9 (c9 (g.new K1) n rt hne (fun _ _ _ => hw)) ?_ (NP.no (e := _)); rintro _ w2 ⟨rfl, K2⟩; refine V1.i (by simp [go_sem] <;> trivial) ?_; refine V1.i (by simp [go_sem] <;> trivial) ?_; exact ⟨rfl, K1.trans K2⟩
def treeOf (s : List UInt8) : Tr := match parseS 2000 s with
  | .ok t _ _ => t
  | _ => .nil
def again (s o : List UInt8) : Bool := (match parseS 2000 s with | .ok _ _ _ => true | _ => false) && (match prn 2000 (.stmts (treeOf s)) [] 0 with | .ok b _ => b == o | _ => false) &&
  (match parseS pfuel o with | .ok _ _ _ => true | _ => false)
theorem again_out {s o : List UInt8} (h : again s o = true) (hw : wf (treeOf s) 3 = true) (he : (match parseS pfuel o with | .ok t _ _ => t | _ => .hole) = treeOf s) {w : World} (g : GL w) :
   Calls Tryz.prog 16 #[str s] w (Ret (fun v w' => v = str o ∧ Keep [] w w') NP) := by
 unfold again at h; rw [Bool.and_eq_true, Bool.and_eq_true] at h; obtain ⟨⟨h1, h2⟩, h3⟩ := h
 cases hp : parseS 2000 s with
 | fail c => rw [hp] at h1; cases h1
 | oof => rw [hp] at h1; cases h1
 | ok t ts own =>
   have ht : treeOf s = t := by unfold treeOf; rw [hp]
   rw [ht] at h2 hw he
   cases hr : prn 2000 (.stmts t) [] 0 with
   | fail c => rw [hr] at h2; cases h2
   | oof => rw [hr] at h2; cases h2
   | ok b p =>
     rw [hr] at h2; obtain rfl := eq_of_beq h2
     cases hq : parseS pfuel b with
     | fail c => rw [hq] at h3; cases h3
     | oof => rw [hq] at h3; cases h3
     | ok t2 ts2 o2 =>
       rw [hq] at he; dsimp only at he; have ho : (outP 2000 t).1 = b := by
         unfold outP; rw [hr]; dsimp only; rw [hq]; dsimp only; rw [he, eqT_refl, if_pos rfl]
       have := c16 g (m := 2000) (n := 2000) (by unfold fuelMax; omega) hp hw (by rw [hr]; exact PR.noConfusion); rwa [ho] at this
def wt1 : List UInt8 := [97, 61, 49, 43, 50, 42, 51, 32, 98, 32, 61, 32, 40, 49, 43, 50, 41, 42, 51]
def wo1 : List UInt8 := [97, 32, 61, 32, 49, 32, 43, 32, 50, 32, 42, 32, 51, 10, 98, 32, 61, 32, 40, 49, 32, 43, 32, 50, 41, 32, 42, 32, 51, 10]
def wt2 : List UInt8 := [116, 91, 34, 120, 34, 93, 61, 45, 40, 45, 49, 41, 32, 116, 91, 34, 101, 110, 100, 34, 93, 61, 110, 111, 116, 32, 40, 97, 61, 61, 98, 41]
def wo2 : List UInt8 := [116, 46, 120, 32, 61, 32, 45, 32, 45, 32, 49, 10, 116, 91, 34, 101, 110, 100, 34, 93, 32, 61, 32, 110, 111, 116, 32, 40, 97, 32, 61, 61, 32, 98, 41, 10]
theorem again1 : again wt1 wo1 = true := by kernel_rfl
theorem again2 : again wt2 wo2 = true := by kernel_rfl
theorem wf1 : wf (treeOf wt1) 3 = true := by kernel_rfl
theorem wf2 : wf (treeOf wt2) 3 = true := by kernel_rfl
theorem back1 : (match parseS pfuel wo1 with | .ok t _ _ => t | _ => .hole) = treeOf wt1 := by kernel_rfl
theorem back2 : (match parseS pfuel wo2 with | .ok t _ _ => t | _ => .hole) = treeOf wt2 := by kernel_rfl
theorem c12 {w : World} (g : GL w) : Calls Tryz.prog 12 #[] w (Ret (fun v w' => v = .bool true ∧ Keep [] w w') NP) := by
 refine s12 ?_; unfold S12; refine cf16 (again_out again1 wf1 back1 g) ?_ (NP.no (e := _)); rintro _ w1 ⟨rfl, K1⟩; refine V1.i (v := .bool true) (w' := w1) (eqS1 w1 _ _ wo1 wo1) ?_; refine J1.go (Gd.tt ?_); refine cf16 (again_out again2 wf2 back2 (g.new K1)) ?_ (NP.no (e := _)); rintro _ w2 ⟨rfl, K2⟩; refine V1.i (v := .bool true) (w' := w2) (eqS1 w2 _ _ wo2 wo2) ?_; refine V1.i (by simp [go_sem] <;> trivial) ?_; exact ⟨rfl, K1.trans K2⟩
end Go.Proofs.YtoddjlclpnoomaaGreatDoor
namespace Go.Proofs.YtoddjlclpnoomaaGreatDoor
open Go.Sh Go.RowKit Go.Lib Go.Shelf
def laidL : List (String × DataW Unit) := Rows.printTreesRow.laid
def plainL : List (String × DataW Unit) := [("math/bits.deBruijn32tab", Rows.laid_math_bits_deBruijn32tab), ("math/bits.deBruijn64tab", Rows.laid_math_bits_deBruijn64tab), ("internal/strconv.uint64pow10", Rows.laid_internal_strconv_uint64pow10), ("unicode/utf8.acceptRanges", Rows.laid_unicode_utf8_acceptRanges), ("strconv.ErrRange", Rows.laid_strconv_ErrRange), ("strconv.ErrSyntax", Rows.laid_strconv_ErrSyntax), ("unicode.White_Space", Rows.laid_unicode_White_Space), ("strings.asciiSpace", Rows.laid_strings_asciiSpace), ("unicode/utf8.first", Rows.laid_unicode_utf8_first)]
def handL : List (String × DataW Unit) := [("errors.errorType", Rows.laid_errors_errorType)]
theorem laid_eq (W : World) : laidMetH Tryz.prog laidL W = (laidMet Tryz.prog plainL W ∧ handlesMet Tryz.prog handL W) := by kernel_rfl
theorem d_ascii : (Rows.laid_strings_asciiSpace : DataW Unit) = tabData .u8 Lib.asciiSpaceTab := by kernel_rfl
theorem d_pow : (Rows.laid_internal_strconv_uint64pow10 : DataW Unit) = tabData .u64 Lib.pow10Tab := by kernel_rfl
theorem d_first : Rows.laid_unicode_utf8_first = firstData := Pinned.utf8First_eq
theorem d_accept : (Rows.laid_unicode_utf8_acceptRanges : DataW Unit) = acceptData := by kernel_rfl
theorem tab_of_reads {W : World} {name : String} {k : IntKind} {zs : List Int} {g : Nat} {t e : TypeId} {n : Nat} (h : VarReads Tryz.prog W name (tabData k zs))
   (hg : Tryz.prog.globalNamed name = some g) (hty : (Tryz.prog.globals[g]?).map (·.type) = some t) (ht : Tryz.prog.underlying t = some (.array n e)) (he : Tryz.prog.underlying e = some (.int k)) (hce : Tryz.prog.cellsOf e = 1) (hct : Tryz.prog.cellsOf t = n) : Lib.TabIs Tryz.prog W name k zs := by
 obtain ⟨g', t', cs, fuel, p, hg', ht', hvar, hd⟩ := h; obtain rfl := Option.some.inj (hg.symm.trans hg'); obtain rfl := Option.some.inj (hty.symm.trans ht'); unfold Lib.TabIs; rw [hvar, ← cells_of_tab ht he hce hct hd]
theorem rt : (Tryz.prog.cutTypes.find? (·.1 == "internal/reflectlite.rtype")).map (·.2) = some 128 := by kernel_rfl
theorem nTypes : ∃ n, Tryz.prog.types.size = n ∧ ((List.range n).filter fun t => Tryz.prog.rowNamed t [101, 114, 114, 111, 114]) = [31] := ⟨Tryz.prog.types.size, rfl, by kernel_rfl⟩
theorem row272 (u : TypeId) (h : Tryz.prog.typeName? 3 u = some "*errors.errorString") : u = 272 :=
  have star : "*" ++ "errors.errorString" = "*errors.errorString" := by decide
  typeName_ptr_named (nm := "errors.errorString") (by rw [star]; kernel_rfl) (by kernel_rfl) (by decide) u (by rw [star]; exact h)
theorem int_of_ok {v : Value} {W : World} (h : Row.ok Tryz.prog W .any 0 3 #[v]) : ∃ m, v = .int .i64 m := by
 obtain ⟨ts, h1, _, h3⟩ := h; have e : Tryz.prog.cellTypes Tryz.prog.depth 3 = some [3] := by kernel_rfl
 rw [e] at h1; obtain rfl := Option.some.inj h1; obtain ⟨u, hu, hc⟩ := h3 0 v rfl; obtain rfl : u = 3 := by simpa using hu.symm
 unfold Cell.ok at hc; rw [Tryz.underlying3] at hc
 cases v <;> first | exact hc.elim | skip
 rename_i k m
 obtain ⟨e1, _⟩ := hc; rw [e1]; exact ⟨_, rfl⟩
theorem gl_of_laid {W : World} (h : laidMetH Tryz.prog laidL W) (hs : W.ShapedOpen Tryz.prog) : GL W := by
 rw [laid_eq] at h; obtain ⟨h, hh⟩ := h; obtain ⟨s1, s2⟩ := hs; refine ⟨?_, ?_, ?_, ?_, ?_, ?_, ?_⟩
 · have hsz : Tryz.prog.globals.size = 12 := by kernel_rfl
   have h0 : 12 < (begin Tryz.prog (fun _ _ => 0) default).world.heap.size := Nat.le_of_ble_eq_true (by kernel_rfl); obtain ⟨o, o₀, ho, _⟩ := s2 12 (by omega) h0; rcases Nat.lt_or_ge 12 W.heap.size with h | h
   · omega
   · rw [Array.getElem?_eq_none (by omega)] at ho; cases ho
 · have hz : ((begin Tryz.prog (fun _ _ => 0) default).world.heap[3]?).bind Obj.row? = some (#[.int .i64 0], 3) := by kernel_rfl
   have hsz : Tryz.prog.globals.size = 12 := by kernel_rfl
   obtain ⟨cs, hc, hl, hr⟩ := s1 3 _ _ (by omega) hz; have hb : Tryz.prog.buildable 3 = true := by kernel_rfl
   have ho := hr hb; match cs, hl with
   | ⟨[v]⟩, _ =>
     obtain ⟨m, rfl⟩ := int_of_ok ho; exact ⟨m, by unfold World.cell?; rw [hc]; rfl⟩
 · have := laidMet.reads h (n := "strings.asciiSpace") (d := Rows.laid_strings_asciiSpace) (by unfold plainL; simp); rw [d_ascii] at this; exact tab_of_reads (g := 1) (t := 156) (e := 5) (n := 256) this (by kernel_rfl) (by kernel_rfl) (by kernel_rfl) (by kernel_rfl) (by kernel_rfl) (by kernel_rfl)
 · have := laidMet.reads h (n := "internal/strconv.uint64pow10") (d := Rows.laid_internal_strconv_uint64pow10) (by unfold plainL; simp); rw [d_pow] at this; exact tab_of_reads (g := 5) (t := 262) (e := 205) (n := 20) this (by kernel_rfl) (by kernel_rfl) (by kernel_rfl) (by kernel_rfl) (by kernel_rfl) (by kernel_rfl)
 · have h3 := laidMet.reads h (n := "unicode/utf8.first") (d := Rows.laid_unicode_utf8_first) (by unfold plainL; simp); rw [d_first] at h3; have h4 := laidMet.reads h (n := "unicode/utf8.acceptRanges") (d := Rows.laid_unicode_utf8_acceptRanges) (by unfold plainL; simp); rw [d_accept] at h4; exact utf8Tabs_of_readsT (ρ := Tryz.lays271_ren) ⟨Tryz.underlying5, Tryz.underlying156, Tryz.underlying270, Tryz.underlying271⟩ ⟨by kernel_rfl, by kernel_rfl, by kernel_rfl, by kernel_rfl, by kernel_rfl, by kernel_rfl, by kernel_rfl⟩ h3 h4
 · obtain ⟨a, s, hv, -, -, -⟩ := laid_sentinel (h.tail.tail.tail.tail) (g := 4) (ti := 31) (tp := 272) (te := 274) (ts := 9) (by kernel_rfl) (by kernel_rfl) Tryz.underlying31 row272 Tryz.underlying272 Tryz.underlying274 rfl rfl Tryz.underlying9 (by kernel_rfl) (by kernel_rfl); have h0 := World.var?_cell (show Tryz.prog.globalNamed "strconv.ErrRange" = some 4 by kernel_rfl) hv 0; exact ⟨a, hv, by simpa using h0⟩
 · obtain ⟨name, u, ty, e1, e2, e3, e4, e5⟩ := hh _ (List.mem_singleton.2 rfl); have en : name = [101, 114, 114, 111, 114] := (Option.some.inj e1).symm; subst en; obtain rfl := Option.some.inj (rt.symm.trans e2); obtain ⟨n, hn, hf⟩ := nTypes; have hm : ty ∈ (List.range n).filter fun t => Tryz.prog.rowNamed t [101, 114, 114, 111, 114] := List.mem_filter.2 ⟨List.mem_range.2 (by rw [← hn]; exact e3), e4⟩; rw [hf] at hm; obtain rfl := List.mem_singleton.1 hm; have hth : typeHandle Tryz.prog 31 = .pointer (some ⟨12, 31, none⟩) := by kernel_rfl
   rw [hth] at e5; have h0 := World.var?_cell (show Tryz.prog.globalNamed "errors.errorType" = some 0 by kernel_rfl) e5 0; simpa using h0
end Go.Proofs.YtoddjlclpnoomaaGreatDoor
namespace Go.Proofs.YtoddjlclpnoomaaGreatDoor
open Go.Sh Go.RowKit Go.Lib Go.Shelf Go.ChangeShapes Go.WideShapes Go.ChangeAt
theorem keep_keptBut {w w' : World} (h : Keep [] w w') (may : MemPlace → Prop) : w.keptBut w' may := by
 refine ⟨h.io.1, h.io.2, fun i hi => ?_⟩; rw [h.same i hi (by simp)]; split <;> simp_all
theorem own : ownKnob Tryz.prog.godebug = none := by kernel_rfl
noncomputable def startH (os : Os) : World :=
  let w0 := World.holding Tryz.prog os ⟨#[], #[], []⟩
  { w0 with heap := w0.heap.modify 0 fun
      | .cells _ t frozen => .cells #[.iface 128 (.agg #[.pointer (some ⟨12, 31, none⟩)])] t frozen
      | o => o }
noncomputable def startW (os : Os) : World := (startH os).layVars Tryz.prog plainL
theorem startW_os (os : Os) : (startW os).os = os := (World.layVars_os _ _ _).trans rfl
theorem start_met (os : Os) (args : Array Value) : laidMetH Tryz.prog laidL ((startW os).forCall (fun _ _ => 0) ⟨#[], args, []⟩).memory := by
 have e1 : (plainL.filter fun x => (plainL.map (·.1)).contains x.1) = plainL := List.filter_eq_self.2 fun x hx => List.contains_iff_mem.2 (List.mem_map.2 ⟨x, hx, rfl⟩); have e2 : (plainL.filter fun x => !(plainL.map (·.1)).contains x.1) = [] := List.filter_eq_nil_iff.2 fun x hx => by rw [List.contains_iff_mem.2 (List.mem_map.2 ⟨x, hx, rfl⟩)]; simp
 have h : laidMet Tryz.prog plainL (startW os) := laidMet_layVars (w0 := startH os) (plainL.map (·.1)) [] (by rw [e1]; rfl) (by rw [e1]; kernel_rfl) (by rw [e1]; kernel_rfl) (by rw [e2]; exact LaidIn.none); have hm := h.of_heap (w' := ((startW os).forCall (fun _ _ => 0) ⟨#[], args, []⟩).memory) (by simp [World.memory, World.forCall, Input.heap]); refine laidMetH_of_parts ?_ ?_
 · have e3 : (laidL.filter fun x => x.2.handleName?.isNone) = plainL := by kernel_rfl
   rw [e3]; exact hm
 · kernel_rfl
theorem start_shaped (os : Os) (args : Array Value) : ((startW os).forCall (fun _ _ => 0) ⟨#[], args, []⟩).Shaped Tryz.prog :=
  World.shaped_of_ZipB (by kernel_rfl) (by kernel_rfl)
theorem rih_open {H : Type} {enc : TypeId × Value → H} {a : Assume} {C : Checked} {os : Os} {f : FuncId} {fn : Func} {s : ChangeSpec} {conds : List PathCond} {apart fresh handsOn again : Bool} {X : World → Array Value → Prop}
   (hX : ∀ (w w' : World) (args : Array Value), w.heap = w'.heap → X w args → X w' args)
   (own : ownKnob C.prog.godebug = none) (started : os.Started) (noInit : C.prog.inits.idxOf? f = none) (hfn : C.prog.funcs[f]? = some fn)
   (witness : ∃ (w : World) (tape : Tape) (i : Input), w.os = os ∧ (w.forCall tape i).Shaped C.prog ∧ i.vars = [] ∧ Input.okWide C.prog (w.forCall tape i) .any w.heap.size f i ∧
     ((s.pre enc C.prog fn conds apart (w.forCall tape i).memory i.args ∧ X (w.forCall tape i).memory i.args) ∧ sizedMet enc C.prog fn (OpenSpec.ofChange s) apart (w.forCall tape i).memory i.args) ∧ a.holds C.prog (lone (Frame.enter C.prog f i.args .normal) [] (w.forCall tape i)))
   (contract : ∀ (W : World) (base : Nat) (args : Array Value) (ds gs : List (DataW H)) (before : List MemPlace), W.ShapedOpen C.prog →
     (∀ (j : Nat) t v, fn.params[j]? = some t → args[j]? = some v → Value.okWide C.prog W .any base t v) →
     DataW.Whole enc C.prog fn.params.toList s.vars apart W args.toList ds gs before →
     X W args →
     Calls C.prog f args W fun e W' => ∃ v, e = .returned v ∧ s.post enc C.prog fn apart fresh handsOn again W args v W') :
   ReturnsInHanded a C os f .any (fun w args => (s.pre enc C.prog fn conds apart w args ∧ X w args) ∧ sizedMet enc C.prog fn (OpenSpec.ofChange s) apart w args) (s.post enc C.prog fn apart fresh handsOn again) := by
 refine returnsInHanded_of_calls own started noInit witness ?_; intro w tape i _ hsh _ hok hpre hholds; obtain ⟨_, _, _, fn', hfn', _, _, _, _, hval⟩ := hok; have e : fn' = fn := Option.some.inj (hfn'.symm.trans hfn); subst e; obtain ⟨⟨⟨ds, gs, before, hw, hc⟩, hx⟩, hz⟩ := hpre; have hw' := DataW.Whole.of_heap (w' := w.forCall tape i) (by rfl) hw; refine (contract (w.forCall tape i) w.heap.size i.args ds gs before hsh hval hw' (hX _ _ _ (by rfl) hx)).mono fun e W' ⟨v, he, hp⟩ => ?_; subst he; exact ChangeSpec.post_blind hp
theorem laid_heap (w w' : World) (h : w.heap = w'.heap) (hl : laidMetH Tryz.prog laidL w) : laidMetH Tryz.prog laidL w' := hl.of_heap h
end Go.Proofs.YtoddjlclpnoomaaGreatDoor

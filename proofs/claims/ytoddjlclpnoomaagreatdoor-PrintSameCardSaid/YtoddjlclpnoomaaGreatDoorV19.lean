import Derived.Test.YtoddjlclpnoomaaGreatDoorV3
import Derived.Test.YtoddjlclpnoomaaGreatDoorV9
import Derived.Test.YtoddjlclpnoomaaGreatDoorV18
set_option linter.unusedVariables false
set_option linter.unusedSimpArgs false
set_option maxRecDepth 100000
namespace Go.Proofs.YtoddjlclpnoomaaGreatDoor
open Go.Sh
def nd : Tr → Nat
  | .cons a b => nd a + nd b
  | .ex _ _ _ l r ks ags _ b => 1 + nd l + nd r + nd ks + nd ags + nd b
  | .st _ _ l r t a b => 1 + nd l + nd r + nd t + nd a + nd b
  | _ => 0
def NB (b : Nat) (c : Nat) : Prop := c ≠ b
theorem Rep.nb {b : Nat} {w w' : World} {t : Tr} {m : Md} (hk : Keep [b] w w') (h : Rep (NB b) w t m) : Rep (NB b) w' t m :=
  Rep.keep hk (fun c h _ => ⟨by unfold NB at h; simpa using h, h⟩) t m h
theorem RowAt.nb {b : Nat} {w w' : World} {t : Tr} {a : Option Addr} {i k : Nat} (h : RowAt (NB b) w t a i k) (hk : Keep [b] w w') : RowAt (NB b) w' t a i k := by
 rcases h with h | ⟨q, e, h⟩
 · exact .inl h
 · exact .inr ⟨q, e, Rep.nb hk h⟩
theorem Rep.ptr {F : Nat → Prop} {w : World} {t : Tr} {v : Value} (h : Rep F w t (.P v)) (hw : wf t 0 = true) : ∃ a, v = .pointer a := by
 rcases wf0_cases hw with rfl | ⟨k, nn, x, l, r, ks, gs, ps, b, rfl⟩
 · exact ⟨_, h⟩
 · obtain ⟨q, line, lv, rv, kv, av, pv, bv, rfl, _⟩ := h; exact ⟨_, rfl⟩
theorem rep2 {F : Nat → Prop} {w : World} {bs : Nat} {x y : Tr} {u v : Value} (h : At w bs [u, v]) (hf : F bs) (hx : Rep F w x (.P u)) (hy : Rep F w y (.P v)) : Rep F w (.cons x (.cons y .nil)) (.L (.slice (some ⟨bs, 0, none⟩) 2 2)) :=
  ⟨bs, 1, 2, u, rfl, by omega, hf, by rw [h.cell]; rfl, hx, 0, v, rfl, by rw [h.cell]; rfl, hf, hy, rfl⟩
theorem rep3 {F : Nat → Prop} {w : World} {bs : Nat} {x y z : Tr} {u v t : Value} (h : At w bs [u, v, t]) (hf : F bs) (hx : Rep F w x (.P u)) (hy : Rep F w y (.P v)) (hz : Rep F w z (.P t)) : Rep F w (.cons x (.cons y (.cons z .nil))) (.L (.slice (some ⟨bs, 0, none⟩) 3 3)) :=
  ⟨bs, 2, 3, u, rfl, by omega, hf, by rw [h.cell]; rfl, hx, 1, v, rfl, by rw [h.cell]; rfl, hf, hy, 0, t, rfl, by rw [h.cell]; rfl, hf, hz, rfl⟩
structure FAll (n : Nat) : Prop where
  ex : ∀ {w : World} {b m : Nat} {s : Tr} {u : Value}, tz s ≤ n → wf s 1 = true → m ≤ 65537 → At w b [.int .i64 m] → Rep (NB b) w s (.L u) → Calls Tryz.prog 111 #[ptr b, u] w (Ret (fun _ w' => At w' b [.int .i64 (min (m + nd s) 65537 : Nat)] ∧ Keep [b] w w') NP)
  st : ∀ {w : World} {b m : Nat} {s : Tr} {u : Value}, tz s ≤ n → wf s 3 = true → m ≤ 65537 → At w b [.int .i64 m] → Rep (NB b) w s (.L u) → Calls Tryz.prog 59 #[ptr b, u] w (Ret (fun _ w' => At w' b [.int .i64 (min (m + nd s) 65537 : Nat)] ∧ Keep [b] w w') NP)
theorem c111 {n : Nat} (hn : n ≤ fuelMax) (H : FAll n) {w : World} {b m : Nat} {s : Tr} {u : Value} (hz : tz s ≤ n + 1) (hs : wf s 1 = true) (hm : m ≤ 65537) (ab : At w b [.int .i64 m]) (rs : Rep (NB b) w s (.L u)) :
   Calls Tryz.prog 111 #[ptr b, u] w (Ret (fun _ w' => At w' b [.int .i64 (min (m + nd s) 65537 : Nat)] ∧ Keep [b] w w') NP) := by
 refine s111 ?_; unfold S111; have is := wf_isList 1 (by simp) hs; obtain ⟨a, c, rfl⟩ := rs.sln is; have os := rs.rowAt is; refine V1.i (by simp [go_sem] <;> trivial) ?_; refine L1.i (fun x1 w' => ∃ i j s' m', x1 = .int .i64 (i : Nat) ∧ i + j = len s ∧ i + tz s' ≤ n + 1 ∧ wf s' 1 = true ∧ m' ≤ 65537 ∧ At w' b [.int .i64 (m' : Nat)] ∧ RowAt (NB b) w' s' a i j ∧ min (m' + nd s') 65537 = min (m + nd s) 65537 ∧ Keep [b] w w') (fun v _ => match v with | .int _ n => (len s - n.toNat) | _ => 0) ⟨0, len s, s, m, rfl, by omega, by omega, hs, hm, ab, os, rfl, Keep.refl _ _⟩ ?_; clear os hs rs is hz hm ab; rintro x1 w1 ⟨i, j, s', m', rfl, hij, hz, hs, hm, ab, os, he, K1⟩; unfold fuelMax at hn; rcases wf1_cases hs with rfl | ⟨x, l, rfl, hx, hl'⟩
 · have hj : j = 0 := by
     rcases os with ⟨_, h⟩ | ⟨q, _, h⟩
     · exact h
     · exact h
   subst hj; refine V1.i (v := .bool false) (w' := w1) (by simp [go_sem]; omega) ?_; refine If.f ⟨?_, K1⟩; rw [← he]; simp only [nd, Nat.add_zero]; rwa [Nat.min_eq_left hm]
 rcases os with ⟨h, _⟩ | ⟨q, rfl, j', u, rfl, hc, hf, rx, rl'⟩
 · cases h
 have ol : RowAt (NB b) w1 l (some ⟨q, 0, none⟩) (i + 1) j' := .inr ⟨q, rfl, rl'⟩; clear rl'; have hzz := hz; simp only [tz] at hzz; simp only [nd] at he; have hp1 := tz_pos x; have hp2 := tz_pos l; refine V1.i (v := .bool true) (w' := w1) (by simp [go_sem]; omega) ?_; refine If.t ?_; refine J0.cut (fun w' => ∃ m2, m2 ≤ 65537 ∧ At w' b [.int .i64 (m2 : Nat)] ∧ RowAt (NB b) w' l (some ⟨q, 0, none⟩) (i + 1) j' ∧ min (m2 + nd l) 65537 = min (m + nd s) 65537 ∧ Keep [b] w w') ?_ ?_; rotate_left
 · clear hm ab ol he K1 rx hc hf; rintro w2 ⟨m2, hm, ab, ol, he, K1⟩; refine V1.i (addI _ _ _ _ _ _ (by omega) (by omega)) ?_; exact ⟨⟨i + 1, j', l, m2, by simp, by omega, by omega, hl', hm, ab, ol, he, K1⟩, by simp; omega⟩
 refine V1.i (ix44 (by omega)) ?_; refine V1.i ((oneAll rfl) _ _ _ hc) ?_; rcases wf0_cases hx with rfl | ⟨k, nn, x, l, r, ks, gs, ps, bd, rfl⟩
 · obtain rfl : u = .pointer none := rx; repeat (first | refine J1.go ?_ | refine J0.go ?_ | refine Gd.tt ?_ | refine Gd.ff ?_ | refine Gd.tf ?_ | refine Gd.ft ?_ | refine Gd.u ?_ | refine If.t ?_ | refine If.f ?_ | refine Up.i (Nc.p _ _) ?_ | refine V1.load (oneAll rfl) (by assumption) rfl ?_ | refine V1.i (w' := w1) (by simp [go_sem]; first | done | rfl | exact ⟨rfl, rfl⟩) ?_)
   simp only [nd, Nat.zero_add] at he; exact ⟨m', hm, ab, ol, he, K1⟩
 obtain ⟨q3, line, lv, rv, kv, av, pv, bv, rfl, f3, a3, rl, rr, rk, rg, _, rb⟩ := rx; simp only [wf, Bool.and_eq_true] at hx; obtain ⟨⟨⟨⟨⟨_, hl⟩, hr⟩, hk⟩, hg⟩, hb⟩ := hx; obtain ⟨pl, rfl⟩ := rl.ptr hl; obtain ⟨pr, rfl⟩ := rr.ptr hr; unfold ptr; refine V1.i (v := .bool false) (w' := w1) (by simp [go_sem]) ?_; refine J1.go (Gd.ff ?_); refine Up.i (Nc.p _ _) ?_; refine V1.load (oneAll rfl) (ab) rfl ?_; refine V1.i (v := .bool (decide (65536 < m'))) (w' := w1) (by simp [go_sem]; omega) ?_; refine V1.i (v := .bool (decide (65536 < m'))) (w' := w1) (by simp [go_sem]) ?_; simp only [nd] at he; by_cases hbig : 65536 < m'
 · rw [show decide (65536 < m') = true by simpa using hbig]; refine If.t ⟨m', hm, ab, ol, by omega, K1⟩
 rw [show decide (65536 < m') = false by simpa using hbig]; refine If.f ?_; refine Up.i (Nc.p _ _) ?_; refine V1.load (oneAll rfl) (ab) rfl ?_; refine V1.i (addI _ _ _ _ _ _ (by omega) (by omega)) ?_; refine Up.i (Nc.p _ _) ?_; refine U1.store (onesAll rfl rfl) ab (by simp) fun w2 U2 => ?_; have K2 := U2.keep; replace ol := ol.nb K2; replace a3 := K2.at a3 (by unfold NB at f3; simpa using f3); replace rl := Rep.nb K2 rl; replace rr := Rep.nb K2 rr; replace rk := Rep.nb K2 rk; replace rg := Rep.nb K2 rg; replace rb := Rep.nb K2 rb; have ab2 : At w2 b [.int .i64 ((m' + 1 : Nat))] := by
   have := U2.at_; simpa using this
 replace K1 := K1.trans K2; have KD : Keep [] w2 w2.drew := (Keep.refl _ _).drew; refine ⟨fun w' => At w' q3 [.int .i64 k, .int .i64 line, .int .i64 nn, str x, .pointer pl, .pointer pr, kv, av, pv, bv], KD.at a3 (by simp), ?_⟩; replace ol := ol.keep KD; replace a3 := KD.at a3 (by simp); replace ab2 := KD.at ab2 (by simp); replace K1 := K1.trans' KD (by simp); replace rl := Rep.new KD _ _ rl; replace rr := Rep.new KD _ _ rr; replace rk := Rep.new KD _ _ rk; replace rg := Rep.new KD _ _ rg; replace rb := Rep.new KD _ _ rb; generalize w2.drew = w3 at *; refine ⟨_, fun w' _ => Nc.p _ w', ?_⟩; refine Xw.i _ (fun w' _ => by simp [go_sem] <;> trivial) ?_; refine Xw.i _ (fun w' hw => (oneAll rfl) _ _ _ (by rw [hw.cell]; rfl)) ?_; refine ⟨_, fun w' _ => Nc.p _ w', ?_⟩; refine Xw.i _ (fun w' _ => by simp [go_sem] <;> trivial) ?_
 refine Xw.i _ (fun w' hw => (oneAll rfl) _ _ _ (by rw [hw.cell]; rfl)) ?_; refine V1.newSlice (by simp [go_sem]; first | done | rfl | exact ⟨rfl, rfl⟩ | (repeat' (first | rfl | apply And.intro))) fun bs w4 NS => ?_; have K4 := NS.keep; replace ol := ol.keep K4; replace a3 := K4.at a3 (by simp); have hbne : bs ≠ b := by
   have h1 := NS.ge; have h2 := ab2.lt; omega
 replace ab2 := K4.at ab2 (by simp); replace K1 := K1.trans' K4 (by simp); replace rl := Rep.new K4 _ _ rl; replace rr := Rep.new K4 _ _ rr; replace rk := Rep.new K4 _ _ rk; replace rg := Rep.new K4 _ _ rg; replace rb := Rep.new K4 _ _ rb; have aS : At w4 bs [.pointer pl, .pointer pr] := by
   have := NS.at_; simpa using this
 have rS : Rep (NB b) w4 (.cons l (.cons r .nil)) (.L (.slice (some ⟨bs, 0, none⟩) 2 2)) := rep2 aS hbne rl rr; simp only [tz] at hzz; refine cf111 (H.ex (s := .cons l (.cons r .nil)) (by simp only [tz]; omega) (by simp [wf, hl, hr]) (by omega) ab2 rS) ?_ (fun _ _ h => h.elim); rintro _ w5 ⟨ab5, K5⟩; clear rS aS; replace ol := ol.nb K5; replace a3 := K5.at a3 (by unfold NB at f3; simpa using f3); replace rk := Rep.nb K5 rk; replace rg := Rep.nb K5 rg; replace rb := Rep.nb K5 rb; replace K1 := K1.trans K5; refine Up.i (Nc.p _ _) ?_; refine V1.i (by simp [go_sem] <;> trivial) ?_; refine V1.load (oneAll rfl) (a3) rfl ?_; refine cf111 (H.ex (s := ks) (by omega) hk (by omega) ab5 rk) ?_ (fun _ _ h => h.elim); rintro _ w6 ⟨ab6, K6⟩; replace ol := ol.nb K6; replace a3 := K6.at a3 (by unfold NB at f3; simpa using f3); replace rg := Rep.nb K6 rg; replace rb := Rep.nb K6 rb
 replace K1 := K1.trans K6; refine Up.i (Nc.p _ _) ?_; refine V1.i (by simp [go_sem] <;> trivial) ?_; refine V1.load (oneAll rfl) (a3) rfl ?_; refine cf111 (H.ex (s := gs) (by omega) hg (by omega) ab6 rg) ?_ (fun _ _ h => h.elim); rintro _ w7 ⟨ab7, K7⟩; replace ol := ol.nb K7; replace a3 := K7.at a3 (by unfold NB at f3; simpa using f3); replace rb := Rep.nb K7 rb; replace K1 := K1.trans K7; refine Up.i (Nc.p _ _) ?_; refine V1.i (by simp [go_sem] <;> trivial) ?_; refine V1.load (oneAll rfl) (a3) rfl ?_; refine cf59 (H.st (s := bd) (by omega) hb (by omega) ab7 rb) ?_ (fun _ _ h => h.elim); rintro _ w8 ⟨ab8, K8⟩; replace ol := ol.nb K8; replace a3 := K8.at a3 (by unfold NB at f3; simpa using f3); replace K1 := K1.trans K8; refine ⟨_, ?_, ab8, ol, ?_, K1⟩
 · omega
 · simp only [nd]; omega
theorem c59 {n : Nat} (hn : n ≤ fuelMax) (H : FAll n) {w : World} {b m : Nat} {s : Tr} {u : Value} (hz : tz s ≤ n + 1) (hs : wf s 3 = true) (hm : m ≤ 65537) (ab : At w b [.int .i64 m]) (rs : Rep (NB b) w s (.L u)) :
   Calls Tryz.prog 59 #[ptr b, u] w (Ret (fun _ w' => At w' b [.int .i64 (min (m + nd s) 65537 : Nat)] ∧ Keep [b] w w') NP) := by
 refine s59 ?_; unfold S59; have is := wf_isList 3 (by simp) hs; obtain ⟨a, c, rfl⟩ := rs.sln is; have os := rs.rowAt is; refine V1.i (by simp [go_sem] <;> trivial) ?_; refine L1.i (fun x1 w' => ∃ i j s' m', x1 = .int .i64 (i : Nat) ∧ i + j = len s ∧ i + tz s' ≤ n + 1 ∧ wf s' 3 = true ∧ m' ≤ 65537 ∧ At w' b [.int .i64 (m' : Nat)] ∧ RowAt (NB b) w' s' a i j ∧ min (m' + nd s') 65537 = min (m + nd s) 65537 ∧ Keep [b] w w') (fun v _ => match v with | .int _ n => (len s - n.toNat) | _ => 0) ⟨0, len s, s, m, rfl, by omega, by omega, hs, hm, ab, os, rfl, Keep.refl _ _⟩ ?_; clear os hs rs is hz hm ab; rintro x1 w1 ⟨i, j, s', m', rfl, hij, hz, hs, hm, ab, os, he, K1⟩; unfold fuelMax at hn; rcases wf3_cases hs with rfl | ⟨x, l, rfl, hx, hl'⟩
 · have hj : j = 0 := by
     rcases os with ⟨_, h⟩ | ⟨q, _, h⟩
     · exact h
     · exact h
   subst hj; refine V1.i (v := .bool false) (w' := w1) (by simp [go_sem]; omega) ?_; refine If.f ⟨?_, K1⟩; rw [← he]; simp only [nd, Nat.add_zero]; rwa [Nat.min_eq_left hm]
 rcases os with ⟨h, _⟩ | ⟨q, rfl, j', u, rfl, hc, hf, rx, rl'⟩
 · cases h
 have ol : RowAt (NB b) w1 l (some ⟨q, 0, none⟩) (i + 1) j' := .inr ⟨q, rfl, rl'⟩; clear rl'; have hzz := hz; simp only [tz] at hzz; simp only [nd] at he; have hp1 := tz_pos x; have hp2 := tz_pos l; refine V1.i (v := .bool true) (w' := w1) (by simp [go_sem]; omega) ?_; refine If.t ?_; refine J0.cut (fun w' => ∃ m2, m2 ≤ 65537 ∧ At w' b [.int .i64 (m2 : Nat)] ∧ RowAt (NB b) w' l (some ⟨q, 0, none⟩) (i + 1) j' ∧ min (m2 + nd l) 65537 = min (m + nd s) 65537 ∧ Keep [b] w w') ?_ ?_; rotate_left
 · clear hm ab ol he K1 rx hc hf; rintro w2 ⟨m2, hm, ab, ol, he, K1⟩; refine V1.i (addI _ _ _ _ _ _ (by omega) (by omega)) ?_; exact ⟨⟨i + 1, j', l, m2, by simp, by omega, by omega, hl', hm, ab, ol, he, K1⟩, by simp; omega⟩
 refine V1.i (ix26 (by omega)) ?_; refine V1.i ((oneAll rfl) _ _ _ hc) ?_; rcases wf2_cases hx with rfl | ⟨k, nm, l, r, t0, a0, b0, rfl⟩
 · obtain rfl : u = .pointer none := rx; repeat (first | refine J1.go ?_ | refine J0.go ?_ | refine Gd.tt ?_ | refine Gd.ff ?_ | refine Gd.tf ?_ | refine Gd.ft ?_ | refine Gd.u ?_ | refine If.t ?_ | refine If.f ?_ | refine Up.i (Nc.p _ _) ?_ | refine V1.load (oneAll rfl) (by assumption) rfl ?_ | refine V1.i (w' := w1) (by simp [go_sem]; first | done | rfl | exact ⟨rfl, rfl⟩) ?_)
   simp only [nd, Nat.zero_add] at he; exact ⟨m', hm, ab, ol, he, K1⟩
 obtain ⟨q3, line, lv, rv, tv, av, bv, rfl, f3, a3, rl, rr, rt, ra, rb⟩ := rx; simp only [wf, Bool.and_eq_true] at hx; obtain ⟨⟨⟨⟨hl, hr⟩, ht⟩, ha⟩, hb⟩ := hx; obtain ⟨pl, rfl⟩ := rl.ptr hl; obtain ⟨pr, rfl⟩ := rr.ptr hr; obtain ⟨pt, rfl⟩ := rt.ptr ht; unfold ptr; refine V1.i (v := .bool false) (w' := w1) (by simp [go_sem]) ?_; refine J1.go (Gd.ff ?_); refine Up.i (Nc.p _ _) ?_; refine V1.load (oneAll rfl) (ab) rfl ?_; refine V1.i (v := .bool (decide (65536 < m'))) (w' := w1) (by simp [go_sem]; omega) ?_; refine V1.i (v := .bool (decide (65536 < m'))) (w' := w1) (by simp [go_sem]) ?_; simp only [nd] at he; by_cases hbig : 65536 < m'
 · rw [show decide (65536 < m') = true by simpa using hbig]; refine If.t ⟨m', hm, ab, ol, by omega, K1⟩
 rw [show decide (65536 < m') = false by simpa using hbig]; refine If.f ?_; refine Up.i (Nc.p _ _) ?_; refine V1.load (oneAll rfl) (ab) rfl ?_; refine V1.i (addI _ _ _ _ _ _ (by omega) (by omega)) ?_; refine Up.i (Nc.p _ _) ?_; refine U1.store (onesAll rfl rfl) ab (by simp) fun w2 U2 => ?_; have K2 := U2.keep; replace ol := ol.nb K2; replace a3 := K2.at a3 (by unfold NB at f3; simpa using f3); replace rl := Rep.nb K2 rl; replace rr := Rep.nb K2 rr; replace rt := Rep.nb K2 rt; replace ra := Rep.nb K2 ra; replace rb := Rep.nb K2 rb; have ab2 : At w2 b [.int .i64 ((m' + 1 : Nat))] := by
   have := U2.at_; simpa using this
 replace K1 := K1.trans K2; have KD : Keep [] w2 w2.drew := (Keep.refl _ _).drew; refine ⟨fun w' => At w' q3 [.int .i64 k, .int .i64 line, str nm, .pointer pl, .pointer pr, .pointer pt, av, bv], KD.at a3 (by simp), ?_⟩; replace ol := ol.keep KD; replace a3 := KD.at a3 (by simp); replace ab2 := KD.at ab2 (by simp); replace K1 := K1.trans' KD (by simp); replace rl := Rep.new KD _ _ rl; replace rr := Rep.new KD _ _ rr; replace rt := Rep.new KD _ _ rt; replace ra := Rep.new KD _ _ ra; replace rb := Rep.new KD _ _ rb; generalize w2.drew = w3 at *; refine ⟨_, fun w' _ => Nc.p _ w', ?_⟩; refine Xw.i _ (fun w' _ => by simp [go_sem] <;> trivial) ?_; refine Xw.i _ (fun w' hw => (oneAll rfl) _ _ _ (by rw [hw.cell]; rfl)) ?_; refine ⟨_, fun w' _ => Nc.p _ w', ?_⟩; refine Xw.i _ (fun w' _ => by simp [go_sem] <;> trivial) ?_; refine Xw.i _ (fun w' hw => (oneAll rfl) _ _ _ (by rw [hw.cell]; rfl)) ?_
 refine ⟨_, fun w' _ => Nc.p _ w', ?_⟩; refine Xw.i _ (fun w' _ => by simp [go_sem] <;> trivial) ?_; refine Xw.i _ (fun w' hw => (oneAll rfl) _ _ _ (by rw [hw.cell]; rfl)) ?_; refine V1.newSlice (by simp [go_sem]; first | done | rfl | exact ⟨rfl, rfl⟩ | (repeat' (first | rfl | apply And.intro))) fun bs w4 NS => ?_; have K4 := NS.keep; replace ol := ol.keep K4; replace a3 := K4.at a3 (by simp); have hbne : bs ≠ b := by
   have h1 := NS.ge; have h2 := ab2.lt; omega
 replace ab2 := K4.at ab2 (by simp); replace K1 := K1.trans' K4 (by simp); replace rl := Rep.new K4 _ _ rl; replace rr := Rep.new K4 _ _ rr; replace rt := Rep.new K4 _ _ rt; replace ra := Rep.new K4 _ _ ra; replace rb := Rep.new K4 _ _ rb; have aS : At w4 bs [.pointer pl, .pointer pr, .pointer pt] := by
   have := NS.at_; simpa using this
 have rS : Rep (NB b) w4 (.cons l (.cons r (.cons t0 .nil))) (.L (.slice (some ⟨bs, 0, none⟩) 3 3)) := rep3 aS hbne rl rr rt; simp only [tz] at hzz; refine cf111 (H.ex (s := .cons l (.cons r (.cons t0 .nil))) (by simp only [tz]; omega) (by simp [wf, hl, hr, ht]) (by omega) ab2 rS) ?_ (fun _ _ h => h.elim); rintro _ w5 ⟨ab5, K5⟩; clear rS aS; replace ol := ol.nb K5; replace a3 := K5.at a3 (by unfold NB at f3; simpa using f3); replace ra := Rep.nb K5 ra; replace rb := Rep.nb K5 rb; replace K1 := K1.trans K5; refine Up.i (Nc.p _ _) ?_; refine V1.i (by simp [go_sem] <;> trivial) ?_; refine V1.load (oneAll rfl) (a3) rfl ?_; refine cf59 (H.st (s := a0) (by omega) ha (by omega) ab5 ra) ?_ (fun _ _ h => h.elim); rintro _ w6 ⟨ab6, K6⟩; replace ol := ol.nb K6; replace a3 := K6.at a3 (by unfold NB at f3; simpa using f3); replace rb := Rep.nb K6 rb; replace K1 := K1.trans K6
 refine Up.i (Nc.p _ _) ?_; refine V1.i (by simp [go_sem] <;> trivial) ?_; refine V1.load (oneAll rfl) (a3) rfl ?_; refine cf59 (H.st (s := b0) (by omega) hb (by omega) ab6 rb) ?_ (fun _ _ h => h.elim); rintro _ w7 ⟨ab7, K7⟩; replace ol := ol.nb K7; replace a3 := K7.at a3 (by unfold NB at f3; simpa using f3); replace K1 := K1.trans K7; refine ⟨_, ?_, ab7, ol, ?_, K1⟩
 · omega
 · simp only [nd]; omega
theorem few_all : ∀ n, n ≤ fuelMax → FAll n
  | 0, _ => ⟨fun h => absurd h (by have := tz_pos ‹Tr›; omega), fun h => absurd h (by have := tz_pos ‹Tr›; omega)⟩
  | n + 1, hn => ⟨c111 (by omega) (few_all n (by omega)), c59 (by omega) (few_all n (by omega))⟩
theorem c33 {F : Nat → Prop} {w : World} {s : Tr} {u : Value} (hz : tz s ≤ fuelMax) (hs : wf s 3 = true) (rs : Rep F w s (.L u)) :
   Calls Tryz.prog 33 #[u] w (Ret (fun x w' => x = .bool (decide (nd s ≤ 65536)) ∧ Keep [] w w') NP) := by
 refine s33 ?_; unfold S33; refine V1.new (al118 _) fun b w1 N1 => ?_; have rs1 : Rep (NB b) w1 s (.L u) := Rep.keep N1.keep (fun c _ h => ⟨by simp, by have := N1.ge; unfold NB; omega⟩) _ _ rs; have ab : At w1 b [.int .i64 (0 : Nat)] := N1.at_; refine cf59 ((few_all _ (Nat.le_refl _)).st hz hs (by omega) ab rs1) ?_ (fun _ _ h => h.elim); rintro _ w2 ⟨ab2, K2⟩; refine V1.load (oneAll rfl) (ab2) rfl ?_; refine V1.i (v := .bool (decide (nd s ≤ 65536))) (w' := w2) (by simp [go_sem]; omega) ?_; exact ⟨rfl, N1.keep.trans' K2 (by have := N1.ge; simp; omega)⟩
def S17 (R : Ending → World → Prop) (a0 a1 a2 : Value) (w : World) : Prop :=
 V1 Tryz.prog (Bo .neq 20 false true a2 .nilIface) w (fun a7 w =>
 If a7 (
 V1 Tryz.prog (Instr.typeAssert a2 20 49 true) w (fun a10 w =>
 V1 Tryz.prog (Instr.extract a10 0) w (fun a11 w =>
 V1 Tryz.prog (Instr.extract a10 1) w (fun a12 w =>
 V1 Tryz.prog (Instr.alloc 49 true (.tuple #[])) w (fun a3 w =>
 U1 Tryz.prog (Instr.storeAt 49 a3 a11) w (fun w =>
 J0 (fun k1 =>
 V1 Tryz.prog (Op.unary .not a12) w (fun a14 w =>
 If a14 (
 V1 Tryz.prog (Instr.panic a2) w (fun _ w =>
 k1 w) (pn R)) (
 k1 w)) (pn R)) (fun w =>
 ∃ S1 : World → Prop, S1 w.drew ∧
 Xw Tryz.prog (fun _ => True) (Instr.fieldAt 49 a3 0) fun a16 => Xw Tryz.prog S1 (Instr.loadAt 23 a16) fun a17 => U1 Tryz.prog (Instr.storeAt 9 a0 (.string ⟨#[]⟩)) w.drew (fun w =>
 S1 w ∧ U1 Tryz.prog (Instr.storeAt 23 a1 a17) w (fun w =>
 R (.returned (.tuple #[])) w) (pn R)) (pn R))) (pn R)) (pn R)) (pn R)) (pn R)) (pn R)) (
 R (.returned (.tuple #[])) w)) (pn R)
theorem e17 (R : Ending → World → Prop) (a0 a1 a2 : Value) (w : World) : body Tryz.prog 18 [5] [] (tl (codeB Tryz.f17)) [a0, a1, a2] R w = S17 R a0 a1 a2 w := by kernel_rfl
set_option maxHeartbeats 2000000 in
theorem ag17 (p0 p1 v : Value) : Ag 18 (argEnv 0 [p0, p1, v]) { tmps := #[p0, p1] ++ ((Array.replicate 16 undef).setIfInBounds 3 v).setIfInBounds 0 v, defers := [] } := by
  refine ⟨by simp, ?_⟩; intro t x ht; simp only [argEnv, List.lookup] at ht; split at ht
  · rename_i h; have := eq_of_beq h; subst this; cases ht; rfl
  · split at ht
    · rename_i h; have := eq_of_beq h; subst this; cases ht; rfl
    · split at ht
      · rename_i h; have := eq_of_beq h; subst this; cases ht; rfl
      · cases ht
theorem cd17_ret {p0 p1 : Value} {w : World} {R : Ending → World → Prop} (h : S17 R p0 p1 .nilIface w) {R' : Ending → FrameMode → World → Prop}
   (hr : ∀ w', R (.returned (.tuple #[])) w' → R' (.returned (.tuple #[])) .returning w') (hp : ∀ ch w', R (.panicked ch) w' → R' (.panicked ch) .returning w') :
   CallsD Tryz.prog 17 #[p0, p1] .returning w R' := by
 refine callsD_of_wpS (c := codeB Tryz.f17) Tryz.func17 (by kernel_rfl) fun c₀ cs hu => ?_; show (Code.seq _ (tl (codeB Tryz.f17))).wpS _ _ _ _ _
 apply wpS_seq
 apply wpS_region
 simp [wpOpsS, go_sem, recoverD, hu, Exit.thenS]
 refine rest_wp (n := 18) (hd := [5]) (args := [p0, p1, .nilIface]) (u' := .returning) (by rw [e17]; exact h) (ag17 p0 p1 .nilIface) rfl ?_ (by kernel_rfl) hr hp
 cases c₀
 simp_all
theorem cd17_pan {p0 p1 v : Value} {w : World} {R : Ending → World → Prop} (h : S17 R p0 p1 v w) {R' : Ending → FrameMode → World → Prop}
   (hr : ∀ w', R (.returned (.tuple #[])) w' → R' (.returned (.tuple #[])) (.panicking [{ v, recovered := true }]) w') (hp : ∀ ch w', R (.panicked ch) w' → R' (.panicked ch) (.panicking [{ v, recovered := true }]) w') :
   CallsD Tryz.prog 17 #[p0, p1] (.panicking [{ v, recovered := false }]) w R' := by
 refine callsD_of_wpS (c := codeB Tryz.f17) Tryz.func17 (by kernel_rfl) fun c₀ cs hu => ?_; show (Code.seq _ (tl (codeB Tryz.f17))).wpS _ _ _ _ _
 apply wpS_seq
 apply wpS_region
 simp [wpOpsS, go_sem, recoverD, hu, Exit.thenS]
 exact rest_wp (n := 18) (hd := [5]) (args := [p0, p1, v]) (u' := .panicking [{ v, recovered := true }]) (by rw [e17]; exact h) (ag17 p0 p1 v) rfl rfl (by kernel_rfl) hr hp
theorem run_inv17 (a b : Value) (w : World) : (invoke (.fn (.func 17) #[a, b]) #[]).run Tryz.prog w = .ok (.enter 17 #[a, b]) w := callFunc_run Tryz.func17 (c := codeB Tryz.f17) (by kernel_rfl) (by kernel_rfl) _ _
theorem lv17_ret {res : World → (Value → Prop) → Prop} {R : Ending → World → Prop} {a b : Value} {w : World} (h : Lv Tryz.prog res R [] .returning w) :
   Lv Tryz.prog res R [⟨.fn (.func 17) #[a, b], #[]⟩] .returning w := by
 refine ⟨by simp, .func 17, #[a, b], 17, #[a, b], rfl, run_inv17 a b w, ?_⟩; refine cd17_ret (R := fun e w' => e = .returned (.tuple #[]) ∧ w' = w) ?_ ?_ ?_
 · unfold S17; refine V1.i (v := .bool false) (w' := w) (by simp [go_sem]) ?_; exact If.f ⟨rfl, rfl⟩
 · rintro w' ⟨_, rfl⟩; exact h
 · rintro ch w' ⟨e, _⟩
   cases e
theorem ta49 (v : Value) (w : World) : (Instr.typeAssert (.iface 49 v) 20 49 true).run Tryz.prog w = .ok (.tuple #[v, .bool true]) w := by kernel_rfl
theorem U1.w49 {w : World} {b : Nat} {x : Value} {c : Int} {k : World → Prop} {e : List PanicEntry → World → Prop} (hA : At w b [x])
   (hk : ∀ w', Upd w b [.int .i64 c] w' → k w') : U1 Tryz.prog (Instr.storeAt 49 (.pointer (some ⟨b, 0, none⟩)) (.agg #[.int .i64 c])) w k e := by
 have h0 := hA.set 0 (.int .i64 c); refine U1.i (w' := w.setCell ⟨b, 0, none⟩ (.int .i64 c)) (v := ()) ?_ (hk _ ⟨h0, by simp [World.setCell], ?_, fun q => by simp only [shape_set]⟩)
 · simp [go_sem, hA.cell, hA.fr]
 · exact (Keep.refl _ _).set _ (.inl (by simp))
theorem lv17_pan {res : World → (Value → Prop) → Prop} {R : Ending → World → Prop} {bo be : Nat} {c : Int} {x y : Value} {w : World} (ao : At w bo [x]) (ae : At w be [y]) (hne : bo ≠ be)
   (h : ∀ w', At w' bo [str []] → At w' be [.int .i64 c] → Keep [bo, be] w w' → Lv Tryz.prog res R [] .returning w') :
   Lv Tryz.prog res R [⟨.fn (.func 17) #[ptr bo, ptr be], #[]⟩] (.panicking (wrg c)) w := by
 refine ⟨by simp, .func 17, #[ptr bo, ptr be], 17, #[ptr bo, ptr be], rfl, run_inv17 _ _ w, ?_⟩; refine cd17_pan (R := fun e w' => e = .returned (.tuple #[]) ∧ At w' bo [str []] ∧ At w' be [.int .i64 c] ∧ Keep [bo, be] w w') ?_ ?_ ?_
 · unfold S17; refine V1.i (v := .bool true) (w' := w) (by simp [go_sem]) ?_; refine If.t ?_; refine V1.i (ta49 _ w) ?_; refine V1.i (by simp [go_sem] <;> trivial) ?_; refine V1.i (by simp [go_sem] <;> trivial) ?_; refine V1.new (al49 _) fun b3 w3 N3 => ?_; have lo := ao.lt; have le := ae.lt; have g3 := N3.ge; have ao3 := N3.keep.at ao (by simp); have ae3 := N3.keep.at ae (by simp); refine U1.w49 (x := .int .i64 0) N3.at_ fun w4 U4 => ?_; have a3 : At w4 b3 [.int .i64 c] := U4.at_; have ao4 := U4.keep.at ao3 (by simp; omega); have ae4 := U4.keep.at ae3 (by simp; omega); have kk : Keep [bo, be] w w4 := (N3.keep.mono (by simp)).trans' U4.keep (by simp; omega); refine J0.go ?_; refine V1.i (by simp [go_sem] <;> trivial) ?_; refine If.f ?_; have kk : Keep [bo, be] w w4.drew := kk.drew; have ao' : At w4.drew bo [x] := ao4; have ae' : At w4.drew be [y] := ae4
   have a3' : At w4.drew b3 [.int .i64 c] := a3; refine ⟨fun w' => At w' b3 [.int .i64 c], a3', ?_⟩; generalize w4.drew = w1 at *; refine Xw.i _ (fun w' _ => by simp [go_sem] <;> trivial) ?_; refine Xw.i _ (fun w' hw => (oneAll rfl) _ _ _ (by rw [hw.cell]; rfl)) ?_; unfold ptr; refine U1.store (onesAll rfl rfl) ao' (by simp) fun w2 U2 => ?_; refine ⟨U2.keep.at a3' (by simp; omega), ?_⟩; refine U1.store (onesAll rfl rfl) (U2.keep.at ae' (by simp; omega)) (by simp) fun w3 U3 => ?_; exact ⟨rfl, U3.keep.at U2.at_ (by simp; omega), U3.at_, (kk.trans' U2.keep (by simp)).trans' U3.keep (by simp)⟩
 · rintro w' ⟨_, h1, h2, h3⟩; exact h w' h1 h2 h3
 · rintro ch w' ⟨e, _⟩
   cases e
def pfuel : Nat := 300000
noncomputable def outP (n : Nat) (l : Tr) : List UInt8 × Int := match prn n (.stmts l) [] 0 with
  | .fail c => ([], c)
  | .ok buf _ => (match parseS pfuel buf with
    | .fail c => ([], if c = 3 then 3 else 2)
    | .ok t _ _ => if eqT t l = true then (buf, 0) else ([], 2)
    | .oof => ([], 0))
  | .oof => ([], 0)
theorem BF.keep {w w' : World} {b : Nat} {buf : List UInt8} (h : BF w b buf) (hk : Keep [] w w') : BF w' b buf := by
 obtain ⟨ad, v, rest, ab, hv⟩ := h; refine ⟨ad, v, rest, hk.at ab (by simp), ?_⟩; rcases hv with h | ⟨g, cap, cur, fr, h1, h2, h3, h4, h5⟩
 · exact .inl h
 · refine .inr ⟨g, cap, cur, fr, h1, h2, h3, ?_, h5⟩; have : g < w.heap.size := by
     rcases Nat.lt_or_ge g w.heap.size with h | h
     · exact h
     · rw [Array.getElem?_eq_none h] at h4; cases h4
   rw [hk.same g this (by simp)]; exact h4
theorem parse_bound {s : List UInt8} (h : s.length ≤ 32768) : RG (fun t _ => wf t 3 = true ∧ tz t ≤ fuelMax) (parseS pfuel s) :=
  (parse_good (by unfold pfuel; omega)).imp fun t ts _ ht => ⟨ht.1, by have := tz_cn t; have := ht.2.1; unfold fuelMax; omega⟩
abbrev resP (bs be : Nat) : World → (Value → Prop) → Prop := fun w k => ∃ v0, (Instr.loadAt 9 (.pointer (some ⟨bs, 0, none⟩))).run Tryz.prog w = .ok v0 w ∧ ∃ v1, (Instr.loadAt 23 (.pointer (some ⟨be, 0, none⟩))).run Tryz.prog w = .ok v1 w ∧ k (.tuple #[v0, v1])
theorem c9 {F : Nat → Prop} {w : World} {l : Tr} {v : Value} (g : GL w) (n : Nat) (rl : Rep F w l (.L v)) (hne : prn n (.stmts l) [] 0 ≠ .oof) (hok : ∀ buf p, prn n (.stmts l) [] 0 = .ok buf p → wf l 3 = true) :
   Calls Tryz.prog 9 #[v] w (Ret (fun u w' => u = .tuple #[str (outP n l).1, .int .i64 (outP n l).2] ∧ Keep [] w w') NP) := by
 refine s9 ?_; unfold S9; refine V1.new (al9 _) fun bs w1 N1 => ?_; refine V1.new (al23 _) fun be w2 N2 => ?_; have gs1 := N1.ge; have gs2 := N2.ge; have ls1 := N1.lt; have ls2 := N2.lt; have z1 := N1.keep.size; have z2 := N2.keep.size; have ao : At w2 bs [str []] := N2.keep.at N1.at_ (by simp); have ae : At w2 be [.int .i64 0] := N2.at_; refine V1.i (by simp [go_sem] <;> trivial) ?_; refine D1.i (v := ⟨.fn (.func 17) #[ptr bs, ptr be], #[]⟩) (w' := w2) (by simp [go_sem, Deferred.ofValue]; exact ⟨rfl, rfl⟩) ?_; refine V1.i (by simp [go_sem] <;> trivial) ?_; refine V1.newS (bx56 _ _) fun bt w5 N5 sh5 => ?_; have gs5 := N5.ge; have ls5 := N5.lt; have z5 := N5.keep.size; have kk : Keep [] w w5 := (N1.keep.trans N2.keep).trans N5.keep; replace ao := N5.a ao; replace ae := N5.a ae; have g5 := g.new kk; have h12 := g.big
 have a5 : At w5 bt [.pointer none, .slice none 0 0, .int .i64 0] := N5.at_; have bx : BX w5.heap.size w5 bt [.int .i64 (0 : Nat)] [] := ⟨_, _, a5, .inl ⟨rfl, 56, 3, sh5, .inr ⟨rfl, rfl⟩⟩, AccB.nil _ _, .inl rfl, ls5, Nat.le_refl _⟩; have ht : TX w5 bt [] 0 := ⟨_, bx, g5, by omega, by simp, by omega⟩; have rl5 : Rep (FO bt w5) w5 l (.L v) := Rep.keep kk (fun q _ hq => ⟨by simp, by omega, fun ad v' rest h e => by
   have := at_inj a5 h; injection this with h1 h2; injection h2 with h2 h3; subst h2
   cases e⟩) _ _ rl
 have hout : ∀ (w' : World) (s : List UInt8) (c : Int), At w' bs [str s] → At w' be [.int .i64 c] → (s, c) = outP n l → Keep [] w w' → Lv Tryz.prog (resP bs be) (Ret (fun u w' => u = .tuple #[str (outP n l).1, .int .i64 (outP n l).2] ∧ Keep [] w w') NP) [] .returning w' := by
   intro w' s c h1 h2 h3 h4; refine ⟨_, (oneAll rfl) _ _ _ (by rw [h1.cell]; rfl), _, (oneAll rfl) _ _ _ (by rw [h2.cell]; rfl), ?_, h4⟩; rw [← h3]
 have hpan : ∀ (c : Int) (wb : World) (x y : Value), At wb bs [x] → At wb be [y] → ([], c) = outP n l → Keep [] w wb → Lv Tryz.prog (resP bs be) (Ret (fun u w' => u = .tuple #[str (outP n l).1, .int .i64 (outP n l).2] ∧ Keep [] w w') NP) [⟨.fn (.func 17) #[ptr bs, ptr be], #[]⟩] (.panicking (wrg c)) wb := by
   intro c wb x y h1 h2 h3 h4; refine lv17_pan h1 h2 (by omega) fun w' h5 h6 h7 => ?_; exact hout w' _ _ h5 h6 h3 (h4.trans' h7 (by simp; omega))
 have h18 := (prn_all n).stmts ht rl5 rfl hne; refine cf18 h18 ?_ ?_; rotate_left
 · intro c w6 h
   cases hr : prn n (.stmts l) [] 0 with
   | oof => exact absurd hr hne
   | ok buf p => rw [hr] at h; exact h.elim
   | fail e =>
     rw [hr] at h; obtain ⟨rfl, ko, _, _⟩ := h; have kl := ko.kl bx; refine hpan e w6 _ _ ((KL.keep kl).at ao (above_lo (by omega) (by omega))) ((KL.keep kl).at ae (above_lo (by omega) (by omega))) ?_ ?_
     · unfold outP; rw [hr]
     · exact kk.trans' (KL.keep kl) (fun i hi hlt => by rcases above_ge hi with h | h <;> omega)
 intro _ w6 h
 cases hr : prn n (.stmts l) [] 0 with
 | oof => exact absurd hr hne
 | fail e => rw [hr] at h; exact h.elim
 | ok buf p =>
 rw [hr] at h; obtain ⟨ht6, ko⟩ := h; have hwf := hok buf p hr; have kl := ko.kl bx; have k56 := KL.keep kl; have kk6 : Keep [] w w6 := kk.trans' k56 (fun i hi hlt => by rcases above_ge hi with h | h <;> omega); replace ao := k56.at ao (above_lo (by omega) (by omega)); replace ae := k56.at ae (above_lo (by omega) (by omega)); have z6 := kl.size; obtain ⟨lo6, bx6, g6, _, hlen, _⟩ := ht6; have bf := bx6.bf; obtain ⟨ad, vb, ab, _, hv, _, hlo6, _⟩ := bx6; have hM : ∀ (w' : World), At w' bt (ad :: vb :: [.int .i64 p]) → ∀ q, (∃ ad' rest' n c, At w' bt (ad' :: .slice (some ⟨q, 0, none⟩) n c :: rest')) → lo6 ≤ q := by
   rintro w' h1 q ⟨ad', rest', n', c', h2⟩; have := at_inj h1 h2; injection this with _ this; injection this with this _; exact (hv.lt (g := q) (by rw [this]; rfl)).1
 have hlen7 : buf.length ≤ 1099511627776 := by omega
 have hpb := parse_bound hlen; refine Up.i (Nc.p _ _) ?_; refine V1.i (v := ptr bt) (w' := w6) (by simp [go_sem, ptr]; first | done | rfl | exact ⟨rfl, rfl⟩ | (rintro rfl; rfl)) ?_; refine cf19 (c19 bf hlen7) ?_ (fun _ _ h => h.elim); rintro _ w7 ⟨rfl, bf, M7, K7, hM7⟩; have hm7 : ∀ q ∈ M7, lo6 ≤ q := fun q hq => hM w6 ab q (hM7 q hq); have nin : ∀ {M : List Nat} {q : Nat}, (∀ q ∈ M, lo6 ≤ q) → q < lo6 → q ∉ M := fun h1 h2 h3 => by have := h1 _ h3; omega
 replace ab := K7.at ab (nin hm7 hlo6); replace ao := K7.at ao (nin hm7 (by omega)); replace ae := K7.at ae (nin hm7 (by omega)); have kk7 : Keep [] w w7 := kk6.trans' K7 (fun i hi hlt => by have := hm7 i hi; omega); have g7 := g.new kk7; have hne7 : parseS pfuel buf ≠ .oof := by
   intro e; rw [e] at hpb; exact hpb
 refine cf13 (c13 w7 buf g7 pfuel (by unfold pfuel fuelMax; omega) _ rfl hne7) ?_ (fun _ _ h => h.elim); rintro _ w8 ⟨hq, K8⟩; replace ab := K8.at ab (by simp); replace ao := K8.at ao (by simp); replace ae := K8.at ae (by simp); replace bf := bf.keep K8; have kk8 : Keep [] w w8 := kk7.trans K8; have hoP : outP n l = (match parseS pfuel buf with
   | .fail c => ([], if c = 3 then 3 else 2)
   | .ok t _ _ => if eqT t l = true then (buf, 0) else ([], 2)
   | .oof => ([], 0)) := by unfold outP; rw [hr]
 cases hp : parseS pfuel buf with
 | oof => exact absurd hp hne7
 | fail c =>
   rw [hp] at hq hoP; obtain ⟨q, line, rfl, aq, gq⟩ := hq; refine V1.i (by simp [go_sem] <;> trivial) ?_; refine V1.i (by simp [go_sem] <;> trivial) ?_; refine V1.i (by simp [go_sem] <;> trivial) ?_; refine cf21 (c21f aq 3) ?_ (fun _ _ h => h.elim); rintro _ wk ⟨rfl, rfl⟩; refine V1.i (v := .bool (!(c == 3))) (w' := wk) (by simp [go_sem]) ?_; by_cases h3 : c = 3
   · subst h3; refine cf20 (c20 _ false 3) ?_ ?_
     · rintro _ w9 ⟨hb, _⟩
       cases hb
     · rintro c w9 ⟨_, rfl, rfl⟩; exact hpan 3 _ _ _ ao ae (by rw [hoP]; rfl) kk8
   · rw [show (!(c == 3)) = true by simpa using h3]; refine cf20 (c20 _ true 3) ?_ ?_; rotate_left
     · rintro c w9 ⟨hb, _⟩
       cases hb
     rintro _ w9 ⟨_, rfl⟩; refine V1.i (eqNil _ _ _ _) ?_; refine D1J.go (Gd.ft ?_); refine V1.i (by simp [go_sem] <;> trivial) ?_; refine cf20 (c20 _ false 2) ?_ ?_
     · rintro _ w9 ⟨hb, _⟩
       cases hb
     · rintro c' w9 ⟨_, rfl, rfl⟩; exact hpan 2 _ _ _ ao ae (by rw [hoP]; dsimp only; rw [if_neg h3]) kk8
 | ok t ts o =>
   rw [hp] at hq hpb hoP; dsimp only at hoP; obtain ⟨lv, rfl, rt, il⟩ := hq; obtain ⟨_, hwt, htz⟩ := hpb; refine V1.i (by simp [go_sem] <;> trivial) ?_; refine V1.i (by simp [go_sem] <;> trivial) ?_; refine V1.i (by simp [go_sem] <;> trivial) ?_; refine cf21 (c21_nil _ _ _) ?_ (fun _ _ h => h.elim); rintro _ wj ⟨rfl, rfl⟩; refine V1.i (by simp [go_sem] <;> trivial) ?_; refine cf20 (c20 _ true 3) ?_ ?_; rotate_left
   · rintro c w9 ⟨hb, _⟩
     cases hb
   rintro _ wk ⟨_, rfl⟩; refine V1.i (eqNN _ _) ?_; refine D1J.go (Gd.tt ?_); have rl8 : Rep (fun _ => True) wk l (.L v) := Rep.imp (fun _ _ _ => trivial) _ _ (Rep.new kk8 _ _ rl); refine cf22 (alike (F := fun _ => True) htz hwt hwf (Rep.imp (fun _ _ _ => trivial) _ _ rt) rl8) ?_ (fun _ _ h => h.elim); rintro _ w10 ⟨rfl, K10⟩; replace ab := K10.at ab (by simp); replace ao := K10.at ao (by simp); replace ae := K10.at ae (by simp); replace bf := bf.keep K10; have kk10 : Keep [] w w10 := kk8.trans K10; refine V1.i (v := .bool (eqT t l)) (w' := w10) (by simp [go_sem]) ?_
   cases he : eqT t l with
   | false =>
     rw [he, if_neg Bool.false_ne_true] at hoP; refine cf20 (c20 _ false 2) ?_ ?_
     · rintro _ w11 ⟨hb, _⟩
       cases hb
     · rintro c' w11 ⟨_, rfl, rfl⟩; exact hpan 2 _ _ _ ao ae hoP.symm kk10
   | true =>
     rw [he, if_pos rfl] at hoP; refine cf20 (c20 _ true 2) ?_ ?_; rotate_left
     · rintro c w11 ⟨hb, _⟩
       cases hb
     rintro _ w11 ⟨_, rfl⟩; refine Up.i (Nc.p _ _) ?_; refine V1.i (v := ptr bt) (w' := w11) (by simp [go_sem, ptr]; first | done | rfl | exact ⟨rfl, rfl⟩ | (rintro rfl; rfl)) ?_; refine cf19 (c19 bf hlen7) ?_ (fun _ _ h => h.elim); rintro _ w12 ⟨rfl, _, M12, K12, hM12⟩; have hm12 : ∀ q ∈ M12, lo6 ≤ q := fun q hq => hM w11 ab q (hM12 q hq); replace ao := K12.at ao (nin hm12 (by omega)); replace ae := K12.at ae (nin hm12 (by omega)); have kk12 : Keep [] w w12 := kk10.trans' K12 (fun i hi hlt => by have := hm12 i hi; omega); refine U1.store (onesAll rfl rfl) ao (by simp) fun w13 U13 => ?_; have ao13 : At w13 bs [str buf] := U13.at_; have ae13 := U13.keep.at ae (by simp; omega); refine U1.store (onesAll rfl rfl) ae13 (by simp) fun w14 U14 => ?_; refine lv17_ret ?_
     exact hout w14 buf 0 (U14.keep.at ao13 (by simp; omega)) U14.at_ hoP.symm ((kk12.trans' U13.keep (by simp; omega)).trans' U14.keep (by simp; omega))
def S5 (R : Ending → World → Prop) (a0 a1 : Value) (w : World) : Prop :=
 cf R 10 #[a0] w fun a8 w =>
 cf R 10 #[a1] w fun a10 w =>
 cf R 14 #[a8, a10] w fun a13 w =>
 cf R 15 #[a8, a10] w fun a16 w =>
 v1 R (Bo .eql 4 false false a13 a16) w fun a17 w =>
 J1 (fun k1 =>
 Gd a17 true (cf R 10 #[a0] w fun a21 w =>
 cf R 14 #[a8, a21] w fun a22 w =>
 k1 a22 w) (k1 undef w)) (fun a22_1 w =>
 v1 R (Pk a17 a22_1 (.bool false)) w fun a23 w =>
 J1 (fun k2 =>
 Gd a23 true (cf R 12 #[] w fun a25 w =>
 k2 a25 w) (k2 undef w)) (fun a25_1 w =>
 v1 R (Pk a23 a25_1 (.bool false)) w fun a26 w =>
 R (.returned a26) w))
theorem s5 {R : Ending → World → Prop} {a0 a1 : Value} {w : World} (h : S5 R a0 a1 w) : Calls Tryz.prog 5 #[a0, a1] w R :=
  calls_of [] mixed Tryz.func5 (c := codeB Tryz.f5) (by kernel_rfl) (Nat.le_of_ble_eq_true (by kernel_rfl)) (cast (by kernel_rfl) h)
def S10 (R : Ending → World → Prop) (a0 : Value) (w : World) : Prop :=
 v1 R (Builtin.len_ #[22] 3 #[a0]) w fun a6 w =>
 v1 R (Builtin.min_ #[3, 3] 3 #[a6, (.int .i64 400)]) w fun a7 w =>
 v1 R (Instr.sliceAt 22 a0 none (some a7) none) w fun a8 w =>
 v1 R (Instr.build 63 #[(0, a8)]) w fun a9 w =>
 v1 R (Instr.box 63 a9) w fun a10 w =>
 cf R 23 #[a10, (.int .i64 6)] w fun a12 w =>
 R (.returned a12) w
theorem s10 {R : Ending → World → Prop} {a0 : Value} {w : World} (h : S10 R a0 w) : Calls Tryz.prog 10 #[a0] w R :=
  calls_of [] mixed Tryz.func10 (c := codeB Tryz.f10) (by kernel_rfl) (Nat.le_of_ble_eq_true (by kernel_rfl)) (cast (by kernel_rfl) h)
theorem cf10 : CfT 10 := CfT.mk Tryz.func10 (c := codeB Tryz.f10) (by kernel_rfl) (by kernel_rfl)
def S12 (R : Ending → World → Prop) (w : World) : Prop :=
 cf R 16 #[(.string ⟨#[97, 61, 49, 43, 50, 42, 51, 32, 98, 32, 61, 32, 40, 49, 43, 50, 41, 42, 51]⟩)] w fun a1 w =>
 v1 R (Bo .eql 9 false true a1 (.string ⟨#[97, 32, 61, 32, 49, 32, 43, 32, 50, 32, 42, 32, 51, 10, 98, 32, 61, 32, 40, 49, 32, 43, 32, 50, 41, 32, 42, 32, 51, 10]⟩)) w fun a2 w =>
 J1 (fun k1 =>
 Gd a2 true (cf R 16 #[(.string ⟨#[116, 91, 34, 120, 34, 93, 61, 45, 40, 45, 49, 41, 32, 116, 91, 34, 101, 110, 100, 34, 93, 61, 110, 111, 116, 32, 40, 97, 61, 61, 98, 41]⟩)] w fun a4 w =>
 v1 R (Bo .eql 9 false true a4 (.string ⟨#[116, 46, 120, 32, 61, 32, 45, 32, 45, 32, 49, 10, 116, 91, 34, 101, 110, 100, 34, 93, 32, 61, 32, 110, 111, 116, 32, 40, 97, 32, 61, 61, 32, 98, 41, 10]⟩)) w fun a5 w =>
 k1 a5 w) (k1 undef w)) (fun a5_1 w =>
 v1 R (Pk a2 a5_1 (.bool false)) w fun a6 w =>
 R (.returned a6) w)
theorem s12 {R : Ending → World → Prop} {w : World} (h : S12 R  w) : Calls Tryz.prog 12 #[] w R :=
  calls_of [] mixed Tryz.func12 (c := codeB Tryz.f12) (by kernel_rfl) (Nat.le_of_ble_eq_true (by kernel_rfl)) (cast (by kernel_rfl) h)
theorem cf12 : CfT 12 := CfT.mk Tryz.func12 (c := codeB Tryz.f12) (by kernel_rfl) (by kernel_rfl)
def S16 (R : Ending → World → Prop) (a0 : Value) (w : World) : Prop :=
 cf R 13 #[a0] w fun a9 w =>
 v1 R (Instr.extract a9 0) w fun a10 w =>
 v1 R (Instr.extract a9 1) w fun a11 w =>
 v1 R (Bo .neq 31 false true a11 .nilIface) w fun a13 w =>
 If a13 (
 R (.returned (.string ⟨#[]⟩)) w) (
 cf R 9 #[a10] w fun a16 w =>
 v1 R (Instr.extract a16 0) w fun a17 w =>
 v1 R (Instr.extract a16 1) w fun a18 w =>
 R (.returned a17) w)
theorem s16 {R : Ending → World → Prop} {a0 : Value} {w : World} (h : S16 R a0 w) : Calls Tryz.prog 16 #[a0] w R :=
  calls_of [] mixed Tryz.func16 (c := codeB Tryz.f16) (by kernel_rfl) (Nat.le_of_ble_eq_true (by kernel_rfl)) (cast (by kernel_rfl) h)
theorem cf16 : CfT 16 := CfT.mk Tryz.func16 (c := codeB Tryz.f16) (by kernel_rfl) (by kernel_rfl)
def S23 (R : Ending → World → Prop) (a0 a1 : Value) (w : World) : Prop :=
 cf R 42 #[a0, (.int .i64 4)] w fun a9 w =>
 L2 (.slice none 0 0) a9 w (fun g1 a5 a6 w =>
 v1 R (Bo .gtr 3 false true a6 (.int .i64 0)) w fun a11 w =>
 If a11 (
 up R (Nc a0) w fun a15 w =>
 v1 R (Instr.fieldAt 63 a15 1) w fun a16 w =>
 v1 R (Instr.loadAt 3 a16) w fun a17 w =>
 v1 R (Bo .add 3 false true a17 (.int .i64 1)) w fun a18 w =>
 up R (Nc a0) w fun a19 w =>
 v1 R (Instr.fieldAt 63 a19 1) w fun a20 w =>
 u1 R (Instr.storeAt 3 a20 a18) w fun w =>
 cf R 42 #[a0, (.int .i64 11)] w fun a22 w =>
 v1 R (Bo .add 3 true false (.int .i64 1) a22) w fun a23 w =>
 cf R 42 #[a0, (.int .i64 9)] w fun a25 w =>
 v1 R (Instr.build 43 #[(0, a23), (1, a25)]) w fun a26 w =>
 v1 R (Instr.box 43 a26) w fun a27 w =>
 J0 (fun k1 =>
 up R (Nc a27) w fun a29 w =>
 v1 R (Instr.fieldAt 43 a29 0) w fun a30 w =>
 v1 R (Instr.loadAt 3 a30) w fun a31 w =>
 v1 R (Bo .eql 3 false true a31 (.int .i64 8)) w fun a32 w =>
 J1 (fun k2 =>
 Gd a32 true (v1 R (Bo .gtr 3 false true a6 (.int .i64 1)) w fun a35 w =>
 k2 a35 w) (k2 undef w)) (fun a35_1 w =>
 v1 R (Pk a32 a35_1 (.bool false)) w fun a36 w =>
 J1 (fun k3 =>
 Gd a36 true (cf R 42 #[a0, (.int .i64 9)] w fun a39 w =>
 v1 R (Bo .lss 3 false true a39 (.int .i64 8)) w fun a40 w =>
 k3 a40 w) (k3 undef w)) (fun a40_1 w =>
 v1 R (Pk a36 a40_1 (.bool false)) w fun a41 w =>
 If a41 (
 up R (Nc a27) w fun a43 w =>
 v1 R (Instr.fieldAt 43 a43 0) w fun a44 w =>
 u1 R (Instr.storeAt 3 a44 (.int .i64 9)) w fun w =>
 k1 w) (
 k1 w)))) (fun w =>
 J0 (fun k4 =>
 v1 R (Bo .lss 3 false true a1 (.int .i64 1)) w fun a46 w =>
 J1 (fun k5 =>
 Gd a46 false (up R (Nc a0) w fun a49 w =>
 v1 R (Instr.fieldAt 63 a49 1) w fun a50 w =>
 v1 R (Instr.loadAt 3 a50) w fun a51 w =>
 v1 R (Bo .gtr 3 false true a51 (.int .i64 300)) w fun a52 w =>
 k5 a52 w) (k5 undef w)) (fun a52_1 w =>
 v1 R (Pk a46 (.bool true) a52_1) w fun a53 w =>
 If a53 (
 up R (Nc a27) w fun a55 w =>
 v1 R (Instr.fieldAt 43 a55 0) w fun a56 w =>
 u1 R (Instr.storeAt 3 a56 (.int .i64 9)) w fun w =>
 k4 w) (
 k4 w))) (fun w =>
 v1 R (Bo .sub 3 false true a1 (.int .i64 1)) w fun a60 w =>
 cf R 43 #[a0, a27, a60] w fun a61 w =>
 J0 (fun k6 =>
 cf R 42 #[a0, (.int .i64 60)] w fun a63 w =>
 v1 R (Bo .eql 3 false true a63 (.int .i64 59)) w fun a64 w =>
 If a64 (
 cf R 42 #[a0, (.int .i64 14)] w fun a67 w =>
 up R (Nc a27) w fun a68 w =>
 v1 R (Instr.fieldAt 43 a68 0) w fun a69 w =>
 u1 R (Instr.storeAt 3 a69 a67) w fun w =>
 k6 w) (
 k6 w)) (fun w =>
 v1 R (Instr.buildSlice 26 1 #[(0, a27)]) w fun a72 w =>
 v1 R (Builtin.append_ #[26, 26] 26 #[a5, a72]) w fun a73 w =>
 v1 R (Bo .sub 3 false true a6 (.int .i64 1)) w fun a13 w =>
 g1 a73 a13 w)))) (
 J1 (fun k7 =>
 cf R 42 #[a0, (.int .i64 120)] w fun a75 w =>
 v1 R (Bo .eql 3 false true a75 (.int .i64 119)) w fun a76 w =>
 If a76 (
 v1 R (Instr.buildSlice 26 1 #[(0, (.pointer none))]) w fun a78 w =>
 v1 R (Builtin.append_ #[26, 26] 26 #[a5, a78]) w fun a79 w =>
 k7 a79 w) (
 k7 a5 w)) (fun a5_1 w =>
 R (.returned a5_1) w)))
theorem s23 {R : Ending → World → Prop} {a0 a1 : Value} {w : World} (h : S23 R a0 a1 w) : Calls Tryz.prog 23 #[a0, a1] w R :=
  calls_of [] mixed Tryz.func23 (c := codeB Tryz.f23) (by kernel_rfl) (Nat.le_of_ble_eq_true (by kernel_rfl)) (cast (by kernel_rfl) h)
theorem cf23 : CfT 23 := CfT.mk Tryz.func23 (c := codeB Tryz.f23) (by kernel_rfl) (by kernel_rfl)
def S42 (R : Ending → World → Prop) (a0 a1 : Value) (w : World) : Prop :=
 up R (Nc a0) w fun a7 w =>
 v1 R (Instr.fieldAt 63 a7 0) w fun a8 w =>
 v1 R (Instr.loadAt 22 a8) w fun a9 w =>
 v1 R (Builtin.len_ #[22] 3 #[a9]) w fun a10 w =>
 v1 R (Bo .eql 3 false true a10 (.int .i64 0)) w fun a11 w =>
 If a11 (
 R (.returned (.int .i64 0)) w) (
 up R (Nc a0) w fun a13 w =>
 v1 R (Instr.fieldAt 63 a13 0) w fun a14 w =>
 v1 R (Instr.loadAt 22 a14) w fun a15 w =>
 v1 R (Instr.indexAt 22 a15 (.int .i64 0)) w fun a16 w =>
 v1 R (Instr.loadAt 5 a16) w fun a17 w =>
 v1 R (Go.convert 5 3 a17) w fun a18 w =>
 v1 R (Bo .rem 3 false false a18 a1) w fun a20 w =>
 up R (Nc a0) w fun a23 w =>
 v1 R (Instr.fieldAt 63 a23 0) w fun a24 w =>
 v1 R (Instr.loadAt 22 a24) w fun a25 w =>
 v1 R (Instr.sliceAt 22 a25 (some (.int .i64 1)) none none) w fun a26 w =>
 up R (Nc a0) w fun a27 w =>
 v1 R (Instr.fieldAt 63 a27 0) w fun a28 w =>
 u1 R (Instr.storeAt 22 a28 a26) w fun w =>
 R (.returned a20) w)
theorem s42 {R : Ending → World → Prop} {a0 a1 : Value} {w : World} (h : S42 R a0 a1 w) : Calls Tryz.prog 42 #[a0, a1] w R :=
  calls_of [] mixed Tryz.func42 (c := codeB Tryz.f42) (by kernel_rfl) (Nat.le_of_ble_eq_true (by kernel_rfl)) (cast (by kernel_rfl) h)
theorem cf42 : CfT 42 := CfT.mk Tryz.func42 (c := codeB Tryz.f42) (by kernel_rfl) (by kernel_rfl)
def S43 (R : Ending → World → Prop) (a0 a1 a2 : Value) (w : World) : Prop :=
 up R (Nc a1) w fun a7 w =>
 v1 R (Instr.fieldAt 43 a7 0) w fun a8 w =>
 v1 R (Instr.loadAt 3 a8) w fun a9 w =>
 v1 R (Bo .eql 3 false true a9 (.int .i64 1)) w fun a11 w =>
 If a11 (
 cf R 73 #[a0] w fun a14 w =>
 up R (Nc a1) w fun a15 w =>
 v1 R (Instr.fieldAt 43 a15 2) w fun a16 w =>
 u1 R (Instr.storeAt 9 a16 a14) w fun w =>
 cf R 42 #[a0, (.int .i64 2)] w fun a18 w =>
 v1 R (Bo .eql 3 false true a18 (.int .i64 1)) w fun a19 w =>
 If a19 (
 cf R 74 #[a0, a2] w fun a23 w =>
 up R (Nc a1) w fun a24 w =>
 v1 R (Instr.fieldAt 43 a24 4) w fun a25 w =>
 u1 R (Instr.storeAt 41 a25 a23) w fun w =>
 R (.returned (.tuple #[])) w) (
 R (.returned (.tuple #[])) w)) (
 v1 R (Bo .eql 3 false true a9 (.int .i64 2)) w fun a27 w =>
 If a27 (
 cf R 73 #[a0] w fun a30 w =>
 v1 R (Instr.build 47 #[(0, (.int .i64 6)), (3, a30)]) w fun a31 w =>
 v1 R (Instr.box 47 a31) w fun a32 w =>
 up R (Nc a1) w fun a33 w =>
 v1 R (Instr.fieldAt 43 a33 3) w fun a34 w =>
 u1 R (Instr.storeAt 41 a34 a32) w fun w =>
 J0 (fun k1 =>
 cf R 42 #[a0, (.int .i64 2)] w fun a36 w =>
 v1 R (Bo .eql 3 false true a36 (.int .i64 1)) w fun a37 w =>
 If a37 (
 cf R 74 #[a0, a2] w fun a41 w =>
 cf R 74 #[a0, a2] w fun a44 w =>
 v1 R (Instr.build 47 #[(0, (.int .i64 7)), (4, a41), (5, a44)]) w fun a45 w =>
 v1 R (Instr.box 47 a45) w fun a46 w =>
 up R (Nc a1) w fun a47 w =>
 v1 R (Instr.fieldAt 43 a47 3) w fun a48 w =>
 u1 R (Instr.storeAt 41 a48 a46) w fun w =>
 k1 w) (
 k1 w)) (fun w =>
 cf R 74 #[a0, a2] w fun a52 w =>
 up R (Nc a1) w fun a53 w =>
 v1 R (Instr.fieldAt 43 a53 4) w fun a54 w =>
 u1 R (Instr.storeAt 41 a54 a52) w fun w =>
 R (.returned (.tuple #[])) w)) (
 v1 R (Bo .eql 3 false true a9 (.int .i64 3)) w fun a56 w =>
 If a56 (
 cf R 74 #[a0, a2] w fun a60 w =>
 v1 R (Instr.build 47 #[(0, (.int .i64 8)), (4, a60)]) w fun a61 w =>
 v1 R (Instr.box 47 a61) w fun a62 w =>
 up R (Nc a1) w fun a63 w =>
 v1 R (Instr.fieldAt 43 a63 4) w fun a64 w =>
 u1 R (Instr.storeAt 41 a64 a62) w fun w =>
 R (.returned (.tuple #[])) w) (
 v1 R (Bo .eql 3 false true a9 (.int .i64 7)) w fun a66 w =>
 If a66 (
 cf R 73 #[a0] w fun a69 w =>
 up R (Nc a1) w fun a70 w =>
 v1 R (Instr.fieldAt 43 a70 2) w fun a71 w =>
 u1 R (Instr.storeAt 9 a71 a69) w fun w =>
 cf R 74 #[a0, a2] w fun a75 w =>
 up R (Nc a1) w fun a76 w =>
 v1 R (Instr.fieldAt 43 a76 4) w fun a77 w =>
 u1 R (Instr.storeAt 41 a77 a75) w fun w =>
 cf R 74 #[a0, a2] w fun a81 w =>
 up R (Nc a1) w fun a82 w =>
 v1 R (Instr.fieldAt 43 a82 5) w fun a83 w =>
 u1 R (Instr.storeAt 41 a83 a81) w fun w =>
 cf R 23 #[a0, a2] w fun a87 w =>
 up R (Nc a1) w fun a88 w =>
 v1 R (Instr.fieldAt 43 a88 6) w fun a89 w =>
 u1 R (Instr.storeAt 26 a89 a87) w fun w =>
 R (.returned (.tuple #[])) w) (
 v1 R (Bo .eql 3 false true a9 (.int .i64 4)) w fun a91 w =>
 If a91 (
 cf R 23 #[a0, a2] w fun a95 w =>
 up R (Nc a1) w fun a96 w =>
 v1 R (Instr.fieldAt 43 a96 6) w fun a97 w =>
 u1 R (Instr.storeAt 26 a97 a95) w fun w =>
 R (.returned (.tuple #[])) w) (
 v1 R (Bo .eql 3 false true a9 (.int .i64 5)) w fun a99 w =>
 If a99 (
 cf R 74 #[a0, a2] w fun a103 w =>
 up R (Nc a1) w fun a104 w =>
 v1 R (Instr.fieldAt 43 a104 4) w fun a105 w =>
 u1 R (Instr.storeAt 41 a105 a103) w fun w =>
 cf R 23 #[a0, a2] w fun a109 w =>
 up R (Nc a1) w fun a110 w =>
 v1 R (Instr.fieldAt 43 a110 6) w fun a111 w =>
 u1 R (Instr.storeAt 26 a111 a109) w fun w =>
 R (.returned (.tuple #[])) w) (
 v1 R (Bo .eql 3 false true a9 (.int .i64 6)) w fun a113 w =>
 If a113 (
 cf R 74 #[a0, a2] w fun a117 w =>
 up R (Nc a1) w fun a118 w =>
 v1 R (Instr.fieldAt 43 a118 4) w fun a119 w =>
 u1 R (Instr.storeAt 41 a119 a117) w fun w =>
 cf R 23 #[a0, a2] w fun a123 w =>
 up R (Nc a1) w fun a124 w =>
 v1 R (Instr.fieldAt 43 a124 6) w fun a125 w =>
 u1 R (Instr.storeAt 26 a125 a123) w fun w =>
 cf R 23 #[a0, a2] w fun a129 w =>
 up R (Nc a1) w fun a130 w =>
 v1 R (Instr.fieldAt 43 a130 7) w fun a131 w =>
 u1 R (Instr.storeAt 26 a131 a129) w fun w =>
 R (.returned (.tuple #[])) w) (
 v1 R (Bo .eql 3 false true a9 (.int .i64 8)) w fun a133 w =>
 If a133 (
 cf R 42 #[a0, (.int .i64 2)] w fun a135 w =>
 v1 R (Bo .eql 3 false true a135 (.int .i64 1)) w fun a136 w =>
 If a136 (
 cf R 74 #[a0, a2] w fun a140 w =>
 up R (Nc a1) w fun a141 w =>
 v1 R (Instr.fieldAt 43 a141 4) w fun a142 w =>
 u1 R (Instr.storeAt 41 a142 a140) w fun w =>
 R (.returned (.tuple #[])) w) (
 R (.returned (.tuple #[])) w)) (
 v1 R (Bo .eql 3 false true a9 (.int .i64 10)) w fun a144 w =>
 If a144 (
 cf R 23 #[a0, a2] w fun a148 w =>
 up R (Nc a1) w fun a149 w =>
 v1 R (Instr.fieldAt 43 a149 6) w fun a150 w =>
 u1 R (Instr.storeAt 26 a150 a148) w fun w =>
 cf R 73 #[a0] w fun a153 w =>
 up R (Nc a1) w fun a154 w =>
 v1 R (Instr.fieldAt 43 a154 2) w fun a155 w =>
 u1 R (Instr.storeAt 9 a155 a153) w fun w =>
 cf R 23 #[a0, a2] w fun a159 w =>
 up R (Nc a1) w fun a160 w =>
 v1 R (Instr.fieldAt 43 a160 7) w fun a161 w =>
 u1 R (Instr.storeAt 26 a161 a159) w fun w =>
 R (.returned (.tuple #[])) w) (
 v1 R (Bo .eql 3 false true a9 (.int .i64 11)) w fun a163 w =>
 If a163 (
 cf R 73 #[a0] w fun a166 w =>
 up R (Nc a1) w fun a167 w =>
 v1 R (Instr.fieldAt 43 a167 2) w fun a168 w =>
 u1 R (Instr.storeAt 9 a168 a166) w fun w =>
 cf R 23 #[a0, a2] w fun a172 w =>
 v1 R (Instr.build 47 #[(0, (.int .i64 9)), (9, a172)]) w fun a173 w =>
 v1 R (Instr.box 47 a173) w fun a174 w =>
 up R (Nc a1) w fun a175 w =>
 v1 R (Instr.fieldAt 43 a175 4) w fun a176 w =>
 u1 R (Instr.storeAt 41 a176 a174) w fun w =>
 R (.returned (.tuple #[])) w) (
 R (.returned (.tuple #[])) w))))))))))
set_option maxHeartbeats 4000000 in
theorem s43 {R : Ending → World → Prop} {a0 a1 a2 : Value} {w : World} (h : S43 R a0 a1 a2 w) : Calls Tryz.prog 43 #[a0, a1, a2] w R :=
  calls_of [] mixed Tryz.func43 (c := codeB Tryz.f43) (by kernel_rfl) (Nat.le_of_ble_eq_true (by kernel_rfl)) (cast (by kernel_rfl) h)
theorem cf43 : CfT 43 := CfT.mk Tryz.func43 (c := codeB Tryz.f43) (by kernel_rfl) (by kernel_rfl)
def S73 (R : Ending → World → Prop) (a0 : Value) (w : World) : Prop :=
 v1 R (Instr.build 168 #[(0, (.string ⟨#[97]⟩)), (1, (.string ⟨#[98]⟩)), (2, (.string ⟨#[99]⟩)), (3, (.string ⟨#[97]⟩)), (4, (.string ⟨#[101, 110, 100]⟩)), (5, (.string ⟨#[49, 120]⟩))]) w fun a4 w =>
 v1 R (Instr.alloc 168 true (.tuple #[])) w fun a3 w =>
 u1 R (Instr.storeAt 168 a3 a4) w fun w =>
 cf R 42 #[a0, (.int .i64 9)] w fun a6 w =>
 v1 R (Bo .lss 3 false true a6 (.int .i64 8)) w fun a7 w =>
 If a7 (
 cf R 42 #[a0, (.int .i64 4)] w fun a9 w =>
 v1 R (Instr.indexAt 168 a3 a9) w fun a10 w =>
 v1 R (Instr.loadAt 9 a10) w fun a11 w =>
 R (.returned a11) w) (
 cf R 42 #[a0, (.int .i64 6)] w fun a13 w =>
 v1 R (Instr.indexAt 168 a3 a13) w fun a14 w =>
 v1 R (Instr.loadAt 9 a14) w fun a15 w =>
 R (.returned a15) w)
theorem e73 (R : Ending → World → Prop) (a0 : Value) (w : World) : body Tryz.prog Tryz.f73.ntmps [] Tryz.f73.results.toList (codeB Tryz.f73) [a0] R w = S73 R a0 w := by kernel_rfl
theorem s73 {R : Ending → World → Prop} {a0 : Value} {w : World} (h : S73 R a0 w) : Calls Tryz.prog 73 #[a0] w R :=
  calls_of [] mixed Tryz.func73 (c := codeB Tryz.f73) (by kernel_rfl) (Nat.le_of_ble_eq_true (by kernel_rfl)) (by rw [e73]; exact h)
theorem cf73 : CfT 73 := CfT.mk Tryz.func73 (c := codeB Tryz.f73) (by kernel_rfl) (by kernel_rfl)
def S74 (R : Ending → World → Prop) (a0 a1 : Value) (w : World) : Prop :=
 up R (Nc a0) w fun a13 w =>
 v1 R (Instr.fieldAt 63 a13 1) w fun a14 w =>
 v1 R (Instr.loadAt 3 a14) w fun a15 w =>
 v1 R (Bo .add 3 false true a15 (.int .i64 1)) w fun a16 w =>
 up R (Nc a0) w fun a17 w =>
 v1 R (Instr.fieldAt 63 a17 1) w fun a18 w =>
 u1 R (Instr.storeAt 3 a18 a16) w fun w =>
 cf R 42 #[a0, (.int .i64 12)] w fun a20 w =>
 v1 R (Bo .add 3 true false (.int .i64 1) a20) w fun a21 w =>
 cf R 42 #[a0, (.int .i64 90)] w fun a23 w =>
 v1 R (Bo .eql 3 false true a23 (.int .i64 89)) w fun a24 w =>
 If a24 (
 R (.returned (.pointer none)) w) (
 cf R 42 #[a0, (.int .i64 9)] w fun a26 w =>
 v1 R (Instr.build 47 #[(0, (.int .i64 6)), (1, a26)]) w fun a27 w =>
 v1 R (Instr.box 47 a27) w fun a28 w =>
 v1 R (Bo .lss 3 false true a1 (.int .i64 1)) w fun a30 w =>
 J1 (fun k1 =>
 Gd a30 false (up R (Nc a0) w fun a33 w =>
 v1 R (Instr.fieldAt 63 a33 1) w fun a34 w =>
 v1 R (Instr.loadAt 3 a34) w fun a35 w =>
 v1 R (Bo .gtr 3 false true a35 (.int .i64 300)) w fun a36 w =>
 k1 a36 w) (k1 undef w)) (fun a36_1 w =>
 v1 R (Pk a30 (.bool true) a36_1) w fun a37 w =>
 If a37 (
 cf R 73 #[a0] w fun a40 w =>
 up R (Nc a28) w fun a41 w =>
 v1 R (Instr.fieldAt 47 a41 3) w fun a42 w =>
 u1 R (Instr.storeAt 9 a42 a40) w fun w =>
 R (.returned a28) w) (
 up R (Nc a28) w fun a46 w =>
 v1 R (Instr.fieldAt 47 a46 0) w fun a47 w =>
 u1 R (Instr.storeAt 3 a47 a21) w fun w =>
 J0 (fun k2 =>
 v1 R (Bo .eql 3 false true a21 (.int .i64 4)) w fun a50 w =>
 If a50 (
 cf R 42 #[a0, (.int .i64 8)] w fun a53 w =>
 up R (Nc a28) w fun a54 w =>
 v1 R (Instr.fieldAt 47 a54 2) w fun a55 w =>
 u1 R (Instr.storeAt 2 a55 a53) w fun w =>
 up R (Nc a28) w fun a57 w =>
 v1 R (Instr.fieldAt 47 a57 2) w fun a58 w =>
 v1 R (Instr.loadAt 2 a58) w fun a59 w =>
 v1 R (Bo .eql 2 false true a59 (.int .i64 7)) w fun a60 w =>
 If a60 (
 up R (Nc a28) w fun a62 w =>
 v1 R (Instr.fieldAt 47 a62 2) w fun a63 w =>
 u1 R (Instr.storeAt 2 a63 (.int .i64 (-5))) w fun w =>
 k2 w) (
 k2 w)) (
 v1 R (Bo .eql 3 false true a21 (.int .i64 5)) w fun a65 w =>
 If a65 (
 v1 R (Instr.build 169 #[(0, (.string ⟨#[97]⟩)), (1, (.string ⟨#[101, 110, 100]⟩)), (2, (.string ⟨#[49, 120]⟩)), (3, (.string ⟨#[]⟩)), (4, (.string ⟨#[34, 10, 255]⟩))]) w fun a66 w =>
 v1 R (Instr.alloc 169 true (.tuple #[])) w fun a7 w =>
 u1 R (Instr.storeAt 169 a7 a66) w fun w =>
 cf R 42 #[a0, (.int .i64 5)] w fun a69 w =>
 v1 R (Instr.indexAt 169 a7 a69) w fun a70 w =>
 v1 R (Instr.loadAt 9 a70) w fun a71 w =>
 up R (Nc a28) w fun a72 w =>
 v1 R (Instr.fieldAt 47 a72 3) w fun a73 w =>
 u1 R (Instr.storeAt 9 a73 a71) w fun w =>
 k2 w) (
 v1 R (Bo .eql 3 false true a21 (.int .i64 6)) w fun a75 w =>
 If a75 (
 cf R 73 #[a0] w fun a78 w =>
 up R (Nc a28) w fun a79 w =>
 v1 R (Instr.fieldAt 47 a79 3) w fun a80 w =>
 u1 R (Instr.storeAt 9 a80 a78) w fun w =>
 k2 w) (
 v1 R (Bo .eql 3 false true a21 (.int .i64 7)) w fun a82 w =>
 If a82 (
 v1 R (Bo .sub 3 false true a1 (.int .i64 1)) w fun a86 w =>
 cf R 74 #[a0, a86] w fun a87 w =>
 up R (Nc a28) w fun a88 w =>
 v1 R (Instr.fieldAt 47 a88 4) w fun a89 w =>
 u1 R (Instr.storeAt 41 a89 a87) w fun w =>
 v1 R (Bo .sub 3 false true a1 (.int .i64 1)) w fun a93 w =>
 cf R 74 #[a0, a93] w fun a94 w =>
 up R (Nc a28) w fun a95 w =>
 v1 R (Instr.fieldAt 47 a95 5) w fun a96 w =>
 u1 R (Instr.storeAt 41 a96 a94) w fun w =>
 k2 w) (
 v1 R (Bo .eql 3 false true a21 (.int .i64 8)) w fun a98 w =>
 If a98 (
 v1 R (Bo .sub 3 false true a1 (.int .i64 1)) w fun a102 w =>
 cf R 74 #[a0, a102] w fun a103 w =>
 up R (Nc a28) w fun a104 w =>
 v1 R (Instr.fieldAt 47 a104 4) w fun a105 w =>
 u1 R (Instr.storeAt 41 a105 a103) w fun w =>
 cf R 42 #[a0, (.int .i64 3)] w fun a107 w =>
 L1 a107 w (fun g1 a8 w =>
 v1 R (Bo .gtr 3 false true a8 (.int .i64 0)) w fun a109 w =>
 If a109 (
 ∃ S1 : World → Prop, S1 w.drew ∧
 xs t0 (Nc a28) fun a114 => xw t0 (Instr.fieldAt 47 a114 7) fun a115 => xw S1 (Instr.loadAt 44 a115) fun a116 => xw t0 (Bo .sub 3 false true a1 (.int .i64 1)) fun a119 => cf R 74 #[a0, a119] w.drew fun a120 w =>
 S1 w ∧ v1 R (Instr.buildSlice 44 1 #[(0, a120)]) w fun a121 w =>
 S1 w ∧ v1 R (Builtin.append_ #[44, 44] 44 #[a116, a121]) w fun a122 w =>
 xs t0 (Nc a28) fun a123 => xw t0 (Instr.fieldAt 47 a123 7) fun a124 => u1 R (Instr.storeAt 44 a124 a122) w fun w =>
 v1 R (Bo .sub 3 false true a8 (.int .i64 1)) w fun a111 w =>
 g1 a111 w) (
 k2 w))) (
 v1 R (Bo .eql 3 false true a21 (.int .i64 9)) w fun a126 w =>
 If a126 (
 cf R 42 #[a0, (.int .i64 3)] w fun a128 w =>
 L1 a128 w (fun g2 a9 w =>
 v1 R (Bo .gtr 3 false true a9 (.int .i64 0)) w fun a130 w =>
 If a130 (
 ∃ S2 : World → Prop, S2 w.drew ∧
 xs t0 (Nc a28) fun a135 => xw t0 (Instr.fieldAt 47 a135 8) fun a136 => xw S2 (Instr.loadAt 45 a136) fun a137 => cf R 73 #[a0] w.drew fun a139 w =>
 S2 w ∧ v1 R (Instr.buildSlice 45 1 #[(0, a139)]) w fun a140 w =>
 S2 w ∧ v1 R (Builtin.append_ #[45, 45] 45 #[a137, a140]) w fun a141 w =>
 xs t0 (Nc a28) fun a142 => xw t0 (Instr.fieldAt 47 a142 8) fun a143 => u1 R (Instr.storeAt 45 a143 a141) w fun w =>
 v1 R (Bo .sub 3 false true a9 (.int .i64 1)) w fun a132 w =>
 g2 a132 w) (
 v1 R (Bo .sub 3 false true a1 (.int .i64 1)) w fun a147 w =>
 cf R 23 #[a0, a147] w fun a148 w =>
 up R (Nc a28) w fun a149 w =>
 v1 R (Instr.fieldAt 47 a149 9) w fun a150 w =>
 u1 R (Instr.storeAt 26 a150 a148) w fun w =>
 k2 w))) (
 v1 R (Bo .eql 3 false true a21 (.int .i64 10)) w fun a152 w =>
 If a152 (
 cf R 120 #[a0, (.bool true)] w fun a155 w =>
 up R (Nc a28) w fun a156 w =>
 v1 R (Instr.fieldAt 47 a156 3) w fun a157 w =>
 u1 R (Instr.storeAt 9 a157 a155) w fun w =>
 v1 R (Bo .sub 3 false true a1 (.int .i64 1)) w fun a161 w =>
 cf R 74 #[a0, a161] w fun a162 w =>
 up R (Nc a28) w fun a163 w =>
 v1 R (Instr.fieldAt 47 a163 5) w fun a164 w =>
 u1 R (Instr.storeAt 41 a164 a162) w fun w =>
 k2 w) (
 v1 R (Bo .eql 3 false true a21 (.int .i64 11)) w fun a166 w =>
 If a166 (
 cf R 120 #[a0, (.bool false)] w fun a169 w =>
 up R (Nc a28) w fun a170 w =>
 v1 R (Instr.fieldAt 47 a170 3) w fun a171 w =>
 u1 R (Instr.storeAt 9 a171 a169) w fun w =>
 v1 R (Bo .sub 3 false true a1 (.int .i64 1)) w fun a175 w =>
 cf R 74 #[a0, a175] w fun a176 w =>
 up R (Nc a28) w fun a177 w =>
 v1 R (Instr.fieldAt 47 a177 4) w fun a178 w =>
 u1 R (Instr.storeAt 41 a178 a176) w fun w =>
 v1 R (Bo .sub 3 false true a1 (.int .i64 1)) w fun a182 w =>
 cf R 74 #[a0, a182] w fun a183 w =>
 up R (Nc a28) w fun a184 w =>
 v1 R (Instr.fieldAt 47 a184 5) w fun a185 w =>
 u1 R (Instr.storeAt 41 a185 a183) w fun w =>
 k2 w) (
 v1 R (Bo .eql 3 false true a21 (.int .i64 12)) w fun a187 w =>
 If a187 (
 cf R 42 #[a0, (.int .i64 4)] w fun a189 w =>
 L1 a189 w (fun g3 a10 w =>
 v1 R (Bo .gtr 3 false true a10 (.int .i64 0)) w fun a191 w =>
 If a191 (
 J1 (fun k3 =>
 cf R 42 #[a0, (.int .i64 2)] w fun a195 w =>
 v1 R (Bo .eql 3 false true a195 (.int .i64 1)) w fun a196 w =>
 If a196 (
 v1 R (Bo .sub 3 false true a1 (.int .i64 1)) w fun a199 w =>
 cf R 74 #[a0, a199] w fun a200 w =>
 k3 a200 w) (
 k3 (.pointer none) w)) (fun a11 w =>
 up R (Nc a28) w fun a203 w =>
 v1 R (Instr.fieldAt 47 a203 6) w fun a204 w =>
 v1 R (Instr.loadAt 44 a204) w fun a205 w =>
 v1 R (Instr.buildSlice 44 1 #[(0, a11)]) w fun a207 w =>
 v1 R (Builtin.append_ #[44, 44] 44 #[a205, a207]) w fun a208 w =>
 up R (Nc a28) w fun a209 w =>
 v1 R (Instr.fieldAt 47 a209 6) w fun a210 w =>
 u1 R (Instr.storeAt 44 a210 a208) w fun w =>
 ∃ S3 : World → Prop, S3 w.drew ∧
 xs t0 (Nc a28) fun a213 => xw t0 (Instr.fieldAt 47 a213 7) fun a214 => xw S3 (Instr.loadAt 44 a214) fun a215 => xw t0 (Bo .sub 3 false true a1 (.int .i64 1)) fun a218 => cf R 74 #[a0, a218] w.drew fun a219 w =>
 S3 w ∧ v1 R (Instr.buildSlice 44 1 #[(0, a219)]) w fun a220 w =>
 S3 w ∧ v1 R (Builtin.append_ #[44, 44] 44 #[a215, a220]) w fun a221 w =>
 xs t0 (Nc a28) fun a222 => xw t0 (Instr.fieldAt 47 a222 7) fun a223 => u1 R (Instr.storeAt 44 a223 a221) w fun w =>
 v1 R (Bo .sub 3 false true a10 (.int .i64 1)) w fun a193 w =>
 g3 a193 w)) (
 cf R 42 #[a0, (.int .i64 90)] w fun a225 w =>
 v1 R (Bo .eql 3 false true a225 (.int .i64 89)) w fun a226 w =>
 If a226 (
 up R (Nc a28) w fun a229 w =>
 v1 R (Instr.fieldAt 47 a229 6) w fun a230 w =>
 v1 R (Instr.loadAt 44 a230) w fun a231 w =>
 v1 R (Instr.buildSlice 44 1 #[(0, (.pointer none))]) w fun a232 w =>
 v1 R (Builtin.append_ #[44, 44] 44 #[a231, a232]) w fun a233 w =>
 up R (Nc a28) w fun a234 w =>
 v1 R (Instr.fieldAt 47 a234 6) w fun a235 w =>
 u1 R (Instr.storeAt 44 a235 a233) w fun w =>
 k2 w) (
 k2 w)))) (
 k2 w)))))))))) (fun w =>
 R (.returned a28) w))))
set_option maxHeartbeats 4000000 in
theorem s74 {R : Ending → World → Prop} {a0 a1 : Value} {w : World} (h : S74 R a0 a1 w) : Calls Tryz.prog 74 #[a0, a1] w R :=
  calls_of [28, 33, 50] mixed Tryz.func74 (c := codeB Tryz.f74) (by kernel_rfl) (Nat.le_of_ble_eq_true (by kernel_rfl)) (cast (by kernel_rfl) h)
theorem cf74 : CfT 74 := CfT.mk Tryz.func74 (c := codeB Tryz.f74) (by kernel_rfl) (by kernel_rfl)
def S120 (R : Ending → World → Prop) (a0 a1 : Value) (w : World) : Prop :=
 v1 R (Instr.build 169 #[(0, (.string ⟨#[45]⟩)), (1, (.string ⟨#[110, 111, 116]⟩)), (2, (.string ⟨#[35]⟩)), (3, (.string ⟨#[126]⟩)), (4, (.string ⟨#[43]⟩))]) w fun a7 w =>
 v1 R (Instr.alloc 169 true (.tuple #[])) w fun a5 w =>
 u1 R (Instr.storeAt 169 a5 a7) w fun w =>
 v1 R (Instr.build 203 #[(0, (.string ⟨#[111, 114]⟩)), (1, (.string ⟨#[97, 110, 100]⟩)), (2, (.string ⟨#[60]⟩)), (3, (.string ⟨#[61, 61]⟩)), (4, (.string ⟨#[126, 61]⟩)), (5, (.string ⟨#[124]⟩)), (6, (.string ⟨#[126]⟩)), (7, (.string ⟨#[38]⟩)), (8, (.string ⟨#[60, 60]⟩)), (9, (.string ⟨#[46, 46]⟩)), (10, (.string ⟨#[46, 46]⟩)), (11, (.string ⟨#[43]⟩)), (12, (.string ⟨#[45]⟩)), (13, (.string ⟨#[42]⟩)), (14, (.string ⟨#[47, 47]⟩)), (15, (.string ⟨#[37]⟩)), (16, (.string ⟨#[46, 46]⟩)), (17, (.string ⟨#[47]⟩))]) w fun a8 w =>
 v1 R (Instr.alloc 203 true (.tuple #[])) w fun a6 w =>
 u1 R (Instr.storeAt 203 a6 a8) w fun w =>
 If a1 (
 cf R 42 #[a0, (.int .i64 40)] w fun a11 w =>
 v1 R (Bo .rem 3 false true a11 (.int .i64 9)) w fun a12 w =>
 v1 R (Bo .rem 3 false true a12 (.int .i64 5)) w fun a13 w =>
 v1 R (Instr.indexAt 169 a5 a13) w fun a14 w =>
 v1 R (Instr.loadAt 9 a14) w fun a15 w =>
 R (.returned a15) w) (
 cf R 42 #[a0, (.int .i64 100)] w fun a17 w =>
 v1 R (Bo .rem 3 false true a17 (.int .i64 35)) w fun a18 w =>
 v1 R (Bo .rem 3 false true a18 (.int .i64 18)) w fun a19 w =>
 v1 R (Instr.indexAt 203 a6 a19) w fun a20 w =>
 v1 R (Instr.loadAt 9 a20) w fun a21 w =>
 R (.returned a21) w)
theorem e120 (R : Ending → World → Prop) (a0 a1 : Value) (w : World) : body Tryz.prog Tryz.f120.ntmps [] Tryz.f120.results.toList (codeB Tryz.f120) [a0, a1] R w = S120 R a0 a1 w := by kernel_rfl
theorem s120 {R : Ending → World → Prop} {a0 a1 : Value} {w : World} (h : S120 R a0 a1 w) : Calls Tryz.prog 120 #[a0, a1] w R :=
  calls_of [] mixed Tryz.func120 (c := codeB Tryz.f120) (by kernel_rfl) (Nat.le_of_ble_eq_true (by kernel_rfl)) (by rw [e120]; exact h)
theorem cf120 : CfT 120 := CfT.mk Tryz.func120 (c := codeB Tryz.f120) (by kernel_rfl) (by kernel_rfl)
theorem c14 {F : Nat → Prop} {w : World} {s t : Tr} {u v : Value} (hzs : tz s ≤ fuelMax) (hzt : tz t ≤ fuelMax) (hs : wf s 3 = true) (ht : wf t 3 = true) (rs : Rep F w s (.L u)) (rt : Rep F w t (.L v)) :
   Calls Tryz.prog 14 #[u, v] w (Ret (fun x w' => x = .bool ((decide (nd s ≤ 65536) && decide (nd t ≤ 65536)) && eqT s t) ∧ Keep [] w w') NP) := by
 refine s14 ?_; unfold S14; refine cf33 (c33 hzs hs rs) ?_ (NP.no (e := _)); rintro _ w1 ⟨rfl, K1⟩; refine J1.cut (fun x w' => x = (if decide (nd s ≤ 65536) = true then .bool (decide (nd t ≤ 65536)) else undef) ∧ Keep [] w w') ?_ ?_
 · refine Gd.b (fun h => ?_) (fun h => ?_)
   · refine cf33 (c33 hzt ht (Rep.new K1 _ _ rt)) ?_ (NP.no (e := _)); rintro _ w2 ⟨rfl, K2⟩; exact ⟨by rw [if_pos h], K1.trans K2⟩
   · exact ⟨by rw [if_neg (by rw [h]; simp)], K1⟩
 clear K1; rintro _ w3 ⟨rfl, K3⟩; refine V1.i (pkA _ _ _) ?_; refine J1.cut (fun x w' => x = (if (decide (nd s ≤ 65536) && decide (nd t ≤ 65536)) = true then .bool (eqT s t) else undef) ∧ Keep [] w w') ?_ ?_
 · refine Gd.b (fun h => ?_) (fun h => ?_)
   · refine cf22 (alike hzs hs ht (Rep.new K3 _ _ rs) (Rep.new K3 _ _ rt)) ?_ (NP.no (e := _)); rintro _ w2 ⟨rfl, K2⟩; exact ⟨by rw [if_pos h], K3.trans K2⟩
   · exact ⟨by rw [if_neg (by rw [h]; simp)], K3⟩
 clear K3; rintro _ w4 ⟨rfl, K4⟩; refine V1.i (pkA _ _ _) ?_; exact ⟨rfl, K4⟩
theorem c16 {w : World} (g : GL w) {s : List UInt8} {m n : Nat} {t : Tr} {ts : List Tok} {o : Bool} (hm : m ≤ fuelMax) (hp : parseS m s = .ok t ts o) (hw : wf t 3 = true) (hne : prn n (.stmts t) [] 0 ≠ .oof) :
   Calls Tryz.prog 16 #[str s] w (Ret (fun v w' => v = str (outP n t).1 ∧ Keep [] w w') NP) := by
 refine s16 ?_; unfold S16; refine cf13 (c13 w s g m hm _ rfl (by rw [hp]; exact Res.noConfusion)) ?_ (NP.no (e := _)); rintro _ w1 ⟨hq, K1⟩; rw [hp] at hq; obtain ⟨lv, rfl, rt, il⟩ := hq; refine V1.i (by simp [go_sem] <;> trivial) ?_; refine V1.i (by simp [go_sem] <;> trivial) ?_; refine V1.i (neNN _ _) ?_; refine If.f ?_; refine cf9 (c9 (g.new K1) n rt hne (fun _ _ _ => hw)) ?_ (NP.no (e := _)); rintro _ w2 ⟨rfl, K2⟩; refine V1.i (by simp [go_sem] <;> trivial) ?_; refine V1.i (by simp [go_sem] <;> trivial) ?_; exact ⟨rfl, K1.trans K2⟩
def treeOf (s : List UInt8) : Tr := match parseS 2000 s with
  | .ok t _ _ => t
  | _ => .nil
def again (s o : List UInt8) : Bool := (match parseS 2000 s with | .ok _ _ _ => true | _ => false) && (match prn 2000 (.stmts (treeOf s)) [] 0 with | .ok b _ => b == o | _ => false) &&
  (match parseS pfuel o with | .ok _ _ _ => true | _ => false)
theorem again_out {s o : List UInt8} (h : again s o = true) (hw : wf (treeOf s) 3 = true) (he : (match parseS pfuel o with | .ok t _ _ => t | _ => .hole) = treeOf s) {w : World} (g : GL w) :
   Calls Tryz.prog 16 #[str s] w (Ret (fun v w' => v = str o ∧ Keep [] w w') NP) := by
 unfold again at h; rw [Bool.and_eq_true, Bool.and_eq_true] at h; obtain ⟨⟨h1, h2⟩, h3⟩ := h
 cases hp : parseS 2000 s with
 | fail c => rw [hp] at h1; cases h1
 | oof => rw [hp] at h1; cases h1
 | ok t ts own =>
   have ht : treeOf s = t := by unfold treeOf; rw [hp]
   rw [ht] at h2 hw he
   cases hr : prn 2000 (.stmts t) [] 0 with
   | fail c => rw [hr] at h2; cases h2
   | oof => rw [hr] at h2; cases h2
   | ok b p =>
     rw [hr] at h2; obtain rfl := eq_of_beq h2
     cases hq : parseS pfuel b with
     | fail c => rw [hq] at h3; cases h3
     | oof => rw [hq] at h3; cases h3
     | ok t2 ts2 o2 =>
       rw [hq] at he; dsimp only at he; have ho : (outP 2000 t).1 = b := by
         unfold outP; rw [hr]; dsimp only; rw [hq]; dsimp only; rw [he, eqT_refl, if_pos rfl]
       have := c16 g (m := 2000) (n := 2000) (by unfold fuelMax; omega) hp hw (by rw [hr]; exact PR.noConfusion); rwa [ho] at this
def wt1 : List UInt8 := [97, 61, 49, 43, 50, 42, 51, 32, 98, 32, 61, 32, 40, 49, 43, 50, 41, 42, 51]
def wo1 : List UInt8 := [97, 32, 61, 32, 49, 32, 43, 32, 50, 32, 42, 32, 51, 10, 98, 32, 61, 32, 40, 49, 32, 43, 32, 50, 41, 32, 42, 32, 51, 10]
def wt2 : List UInt8 := [116, 91, 34, 120, 34, 93, 61, 45, 40, 45, 49, 41, 32, 116, 91, 34, 101, 110, 100, 34, 93, 61, 110, 111, 116, 32, 40, 97, 61, 61, 98, 41]
def wo2 : List UInt8 := [116, 46, 120, 32, 61, 32, 45, 32, 45, 32, 49, 10, 116, 91, 34, 101, 110, 100, 34, 93, 32, 61, 32, 110, 111, 116, 32, 40, 97, 32, 61, 61, 32, 98, 41, 10]
theorem again1 : again wt1 wo1 = true := by kernel_rfl
theorem again2 : again wt2 wo2 = true := by kernel_rfl
theorem wf1 : wf (treeOf wt1) 3 = true := by kernel_rfl
theorem wf2 : wf (treeOf wt2) 3 = true := by kernel_rfl
theorem back1 : (match parseS pfuel wo1 with | .ok t _ _ => t | _ => .hole) = treeOf wt1 := by kernel_rfl
theorem back2 : (match parseS pfuel wo2 with | .ok t _ _ => t | _ => .hole) = treeOf wt2 := by kernel_rfl
theorem c12 {w : World} (g : GL w) : Calls Tryz.prog 12 #[] w (Ret (fun v w' => v = .bool true ∧ Keep [] w w') NP) := by
 refine s12 ?_; unfold S12; refine cf16 (again_out again1 wf1 back1 g) ?_ (NP.no (e := _)); rintro _ w1 ⟨rfl, K1⟩; refine V1.i (v := .bool true) (w' := w1) (eqS1 w1 _ _ wo1 wo1) ?_; refine J1.go (Gd.tt ?_); refine cf16 (again_out again2 wf2 back2 (g.new K1)) ?_ (NP.no (e := _)); rintro _ w2 ⟨rfl, K2⟩; refine V1.i (v := .bool true) (w' := w2) (eqS1 w2 _ _ wo2 wo2) ?_; refine V1.i (by simp [go_sem] <;> trivial) ?_; exact ⟨rfl, K1.trans K2⟩
end Go.Proofs.YtoddjlclpnoomaaGreatDoor

import Derived.LaidMore
import Derived.Lay
import Derived.Lib.LaidU8T
import Derived.OpenShut
import Derived.PinnedBridge
import Derived.ProofKit
import Derived.SevenTiedAt
import Derived.Stop.Joined
import Derived.Stop.LaidErr
import Derived.Test.YtoddjlclpnoomaaGreatDoorCards
import Derived.Test.YtoddjlclpnoomaaGreatDoorTie
import Derived.Test.YtoddjlclpnoomaaGreatDoorV3
import Derived.Test.YtoddjlclpnoomaaGreatDoorV19
import Derived.Test.YtoddjlclpnoomaaGreatDoorV20
set_option linter.unusedVariables false
set_option linter.unusedSimpArgs false
set_option maxRecDepth 100000
namespace Go.Proofs.YtoddjlclpnoomaaGreatDoor
open Go.Sh
set_option maxHeartbeats 4000000 in
theorem c43 {n : Nat} (Hn : KAll n) {lo : Nat} {w : World} {bm bs k : Nat} {line : Int} {l : List UInt8} {p : Nat} {d : Int} (hn : need (.fill k d) ≤ n + 1) (hk : k < 12) (hpre : preM (.fill k d)) (hd1 : d ≤ 100) (hd2 : -200 ≤ d) (hb : p + 40 * l.length + 10 * (n + 1) ≤ 1000000) (ms : MS lo w bm l p) (hlb : lo ≤ bs)
    (ae : At w bs [.int .i64 (k : Nat), .int .i64 line, str [], .pointer none, .pointer none, .pointer none, .slice none 0 0, .slice none 0 0]) :
    Calls Tryz.prog 43 #[ptr bm, ptr bs, .int .i64 d] w (Ret (fun _ w' => ∃ nm x r tt a b l' p', mk (n + 1) (.fill k d) l p = .ok (.st k nm x r tt a b) l' p' ∧ MS lo w' bm l' p' ∧
      (∃ lv rv tv av bv, At w' bs [.int .i64 (k : Nat), .int .i64 line, str nm, lv, rv, tv, av, bv] ∧ Rep (Fr w.heap.size []) w' x (.P lv) ∧ Rep (Fr w.heap.size []) w' r (.P rv) ∧ Rep (Fr w.heap.size []) w' tt (.P tv) ∧ Rep (Fr w.heap.size []) w' a (.L av) ∧ Rep (Fr w.heap.size []) w' b (.L bv)) ∧ Keep [bm, bs] w w') NP) := by
  refine s43 ?_; unfold S43; have kk := Keep.refl [bm, bs] w; have hbm : bm < lo := ms.1; have hlo : lo ≤ w.heap.size := ms.2.1; have hbs : bs < w.heap.size := ae.lt; have t1 := tail_le l; have t2 := tail_le l.tail; have t3 := tail_le l.tail.tail; unfold ptr; refine Up.i (Nc.p _ _) ?_; refine V1.i (by simp [go_sem] <;> trivial) ?_; refine V1.load (oneAll rfl) (ae) rfl ?_; by_cases h09 : k = 0 ∨ k = 9
  · have hmk : mk (n + 1) (.fill k d) l p = .ok (.st k [] .nil .nil .nil .nil .nil) l p := by
      rcases h09 with rfl | rfl <;> simp only [mk]
    rcases h09 with rfl | rfl <;>
    · iterate 10 (refine V1.i (v := .bool false) (w' := w) (by simp [go_sem]) ?_; refine If.f ?_)
      exact ⟨_, _, _, _, _, _, _, _, hmk, ms, ⟨_, _, _, _, _, ae, nilP, nilP, nilP, nilL, nilL⟩, kk⟩
  have hd0 : 0 ≤ d := by
    rcases hpre with h | h
    · exact absurd (.inr h) h09
    · exact h
  rw [need, if_neg (fun h => h09 (.inr h))] at hn; have ne : need (.expr d) ≤ n := by simp only [need]; omega
  have ns : need (.stmts d) ≤ n := by simp only [need]; omega
  have hcs : k = 1 ∨ k = 2 ∨ k = 3 ∨ k = 7 ∨ k = 4 ∨ k = 5 ∨ k = 6 ∨ k = 8 ∨ k = 10 ∨ k = 11 := by omega
  clear h09 hk hpre; rcases hcs with rfl | rfl | rfl | rfl | rfl | rfl | rfl | rfl | rfl | rfl
  · refine V1.i (v := .bool true) (w' := w) (by simp [go_sem]) ?_; refine If.t ?_; refine cf73 (c73 ms) ?_ (NP.no (e := _)); rintro _ wn1 ⟨rfl, ms, Kn1⟩; have zKn1 := Kn1.size; replace kk := kk.trans' Kn1 (by simp <;> omega); replace ae := Kn1.at ae (by simp <;> omega); refine Up.i (Nc.p _ _) ?_; refine V1.i (by simp [go_sem] <;> trivial) ?_; refine U1.store (onesAll rfl rfl) ae (by simp) fun wb2 Ub2 => ?_; have zUb2 := Ub2.size; replace kk := kk.trans' Ub2.keep (by simp <;> omega); replace ms := ms.keep Ub2.keep (by simp <;> omega); replace ae := Ub2.at_; simp only [List.set_cons_zero, List.set_cons_succ] at ae; refine cf42 (c42 ms (n := 2) (by decide)) ?_ (NP.no (e := _)); rintro _ wn3 ⟨rfl, ms, Kn3⟩; have zKn3 := Kn3.size; replace kk := kk.trans' Kn3 (by simp <;> omega); replace ae := Kn3.at ae (by simp <;> omega); refine V1.i (eqNat _ _ _ (nxt 2 l.tail.tail) 1) ?_
    by_cases h2 : nxt 2 l.tail.tail = 1
    · rw [show decide (nxt 2 l.tail.tail = 1) = true by simpa using h2]; refine If.t ?_; refine cf74 (Hn.expr ne (by omega) (by omega) (by omega) ms) ?_ (NP.no (e := _)); rintro _ wa21 ⟨t21, l21, p21, e21, ms, r21, Ka21⟩; have zKa21 := Ka21.size; replace kk := kk.trans' Ka21 (by simp <;> omega); replace ae := Ka21.at ae (by simp <;> omega); have g21 := mk_ok e21 ne trivial; obtain ⟨x21, y21, q21⟩ := g21; replace r21 := r21.fit (lo' := w.heap.size) (Y := []) (by omega) (by simp); have sc21 := r21.scP (wf_nh0 x21); refine Up.i (Nc.p _ _) ?_; refine V1.i (by simp [go_sem] <;> trivial) ?_; refine U1.store (onesAll rfl sc21) ae (by simp) fun wb22 Ub22 => ?_; have zUb22 := Ub22.size; replace kk := kk.trans' Ub22.keep (by simp <;> omega); replace ms := ms.keep Ub22.keep (by simp <;> omega); replace r21 := r21.fr Ub22.keep (by simp <;> omega); replace ae := Ub22.at_
      simp only [List.set_cons_zero, List.set_cons_succ] at ae; exact ⟨_, _, _, _, _, _, _, _, by simp only [mk]; rw [if_pos h2]; simp only [e21, MR.bind]; rfl, ms, ⟨_, _, _, _, _, ae, nilP, r21, nilP, nilL, nilL⟩, kk⟩
    · rw [show decide (nxt 2 l.tail.tail = 1) = false by simpa using h2]; refine If.f ?_; exact ⟨_, _, _, _, _, _, _, _, by simp only [mk]; rw [if_neg h2]; rfl, ms, ⟨_, _, _, _, _, ae, nilP, nilP, nilP, nilL, nilL⟩, kk⟩
  · iterate 1 (refine V1.i (v := .bool false) (w' := w) (by simp [go_sem]) ?_; refine If.f ?_)
    refine V1.i (v := .bool true) (w' := w) (by simp [go_sem]) ?_; refine If.t ?_; refine cf73 (c73 ms) ?_ (NP.no (e := _)); rintro _ wn1 ⟨rfl, ms, Kn1⟩; have zKn1 := Kn1.size; replace kk := kk.trans' Kn1 (by simp <;> omega); replace ae := Kn1.at ae (by simp <;> omega); refine V1.i (by simp [go_sem] <;> trivial) ?_; refine V1.new (bx47 _ _) fun bx2 wx2 Nx2 => ?_; have zx2 := Nx2.keep.size; have gx2 := Nx2.ge; replace ms := ms.keep Nx2.keep (by simp); replace ae := Nx2.a ae; replace kk := Nx2.kp kk; have ax2 := Nx2.at_; try simp only [Value.cells, List.toList_toArray] at ax2
    have rN := mkExR (l := .nil) (r := .nil) (ks := .nil) (gs := .nil) (b := .nil) (ps := []) (lo := w.heap.size) ax2 (by omega) nilP nilP nilL nilL nilS nilL; refine Up.i (Nc.p _ _) ?_; refine V1.i (by simp [go_sem] <;> trivial) ?_; refine U1.store (onesAll rfl rfl) ae (by simp) fun wb3 Ub3 => ?_; have zUb3 := Ub3.size; replace kk := kk.trans' Ub3.keep (by simp <;> omega); replace ms := ms.keep Ub3.keep (by simp <;> omega); replace rN := rN.fr Ub3.keep (by simp <;> omega); replace ae := Ub3.at_; simp only [List.set_cons_zero, List.set_cons_succ] at ae; refine J0.cut (fun w' => ∃ tx l1 p1, (if nxt 2 l.tail.tail = 1 then (mk n (.expr d) l.tail.tail.tail p).bind fun a l p => (mk n (.expr d) l p).bind fun b l p => .ok (.ex 7 0 [] a b .nil .nil [] .nil) l p else .ok (lf 6 0 (mkName l)) l.tail.tail.tail p : MR) = .ok tx l1 p1 ∧ p1 + 40 * l1.length ≤ p + 40 * l.length + 2 ∧ MS lo w' bm l1 p1 ∧
        (∃ lv, At w' bs [.int .i64 (2 : Nat), .int .i64 line, str [], lv, .pointer none, .pointer none, .slice none 0 0, .slice none 0 0] ∧ Rep (Fr w.heap.size []) w' tx (.P lv)) ∧ Keep [bm, bs] w w' ∧ w.heap.size ≤ w'.heap.size) ?_ ?_
    · skip
      refine cf42 (c42 ms (n := 2) (by decide)) ?_ (NP.no (e := _)); rintro _ wn31 ⟨rfl, ms, Kn31⟩; have zKn31 := Kn31.size; replace kk := kk.trans' Kn31 (by simp <;> omega); replace ae := Kn31.at ae (by simp <;> omega); replace rN := rN.fr Kn31 (by simp <;> omega); refine V1.i (eqNat _ _ _ (nxt 2 l.tail.tail) 1) ?_; by_cases h2 : nxt 2 l.tail.tail = 1
      · rw [show decide (nxt 2 l.tail.tail = 1) = true by simpa using h2]; refine If.t ?_; refine cf74 (Hn.expr ne (by omega) (by omega) (by omega) ms) ?_ (NP.no (e := _)); rintro _ wa41 ⟨t41, l41, p41, e41, ms, r41, Ka41⟩; have zKa41 := Ka41.size; replace kk := kk.trans' Ka41 (by simp <;> omega); replace ae := Ka41.at ae (by simp <;> omega); have g41 := mk_ok e41 ne trivial; obtain ⟨x41, y41, q41⟩ := g41; replace r41 := r41.fit (lo' := w.heap.size) (Y := []) (by omega) (by simp); have sc41 := r41.scP (wf_nh0 x41); refine cf74 (Hn.expr ne (by omega) (by omega) (by omega) ms) ?_ (NP.no (e := _)); rintro _ wa42 ⟨t42, l42, p42, e42, ms, r42, Ka42⟩; have zKa42 := Ka42.size; replace kk := kk.trans' Ka42 (by simp <;> omega); replace ae := Ka42.at ae (by simp <;> omega); replace r41 := r41.fr Ka42 (by simp <;> omega); have g42 := mk_ok e42 ne trivial; obtain ⟨x42, y42, q42⟩ := g42
        replace r42 := r42.fit (lo' := w.heap.size) (Y := []) (by omega) (by simp); have sc42 := r42.scP (wf_nh0 x42); obtain ⟨pa, rfl⟩ := r41.ptr x41; obtain ⟨pb, rfl⟩ := r42.ptr x42; refine V1.i (by simp [go_sem] <;> trivial) ?_; refine V1.new (bx47 _ _) fun bx43 wx43 Nx43 => ?_; have zx43 := Nx43.keep.size; have gx43 := Nx43.ge; replace ms := ms.keep Nx43.keep (by simp); replace ae := Nx43.a ae; replace kk := Nx43.kp kk; replace r41 := r41.f0 Nx43.keep; replace r42 := r42.f0 Nx43.keep; have ax43 := Nx43.at_; try simp only [Value.cells, List.toList_toArray] at ax43
        have rM := mkExR (ks := .nil) (gs := .nil) (b := .nil) (ps := []) (lo := w.heap.size) ax43 (by omega) r41 r42 nilL nilL nilS nilL; refine Up.i (Nc.p _ _) ?_; refine V1.i (by simp [go_sem] <;> trivial) ?_; refine U1.store (onesAll rfl rfl) ae (by simp) fun wb44 Ub44 => ?_; have zUb44 := Ub44.size; replace kk := kk.trans' Ub44.keep (by simp <;> omega); replace ms := ms.keep Ub44.keep (by simp <;> omega); replace rM := rM.fr Ub44.keep (by simp <;> omega); replace ae := Ub44.at_; simp only [List.set_cons_zero, List.set_cons_succ] at ae; exact ⟨_, _, _, by rw [if_pos h2]; simp only [e41, e42, MR.bind], by omega, ms, ⟨_, ae, rM⟩, kk, by omega⟩
      · rw [show decide (nxt 2 l.tail.tail = 1) = false by simpa using h2]; refine If.f ?_; exact ⟨_, _, _, by rw [if_neg h2]; rfl, by omega, ms, ⟨_, ae, rN⟩, kk, by omega⟩
    clear ms ae kk rN; rintro w2 ⟨tx, l1, p1, ek, hb2, ms, ⟨lv, ae, rx⟩, kk, zz⟩; refine cf74 (Hn.expr ne (by omega) (by omega) (by omega) ms) ?_ (NP.no (e := _)); rintro _ wa61 ⟨t61, l61, p61, e61, ms, r61, Ka61⟩; have zKa61 := Ka61.size; replace kk := kk.trans' Ka61 (by simp <;> omega); replace ae := Ka61.at ae (by simp <;> omega); replace rx := rx.fr Ka61 (by simp <;> omega); have g61 := mk_ok e61 ne trivial; obtain ⟨x61, y61, q61⟩ := g61; replace r61 := r61.fit (lo' := w.heap.size) (Y := []) (by omega) (by simp); have sc61 := r61.scP (wf_nh0 x61); refine Up.i (Nc.p _ _) ?_; refine V1.i (by simp [go_sem] <;> trivial) ?_; refine U1.store (onesAll rfl sc61) ae (by simp) fun wb62 Ub62 => ?_; have zUb62 := Ub62.size; replace kk := kk.trans' Ub62.keep (by simp <;> omega); replace ms := ms.keep Ub62.keep (by simp <;> omega); replace rx := rx.fr Ub62.keep (by simp <;> omega)
    replace r61 := r61.fr Ub62.keep (by simp <;> omega); replace ae := Ub62.at_; simp only [List.set_cons_zero, List.set_cons_succ] at ae; exact ⟨_, _, _, _, _, _, _, _, by simp only [mk]; rw [ek]; simp only [MR.bind, e61]; rfl, ms, ⟨_, _, _, _, _, ae, rx, r61, nilP, nilL, nilL⟩, kk⟩
  · iterate 2 (refine V1.i (v := .bool false) (w' := w) (by simp [go_sem]) ?_; refine If.f ?_)
    refine V1.i (v := .bool true) (w' := w) (by simp [go_sem]) ?_; refine If.t ?_; refine cf74 (Hn.expr ne (by omega) (by omega) (by omega) ms) ?_ (NP.no (e := _)); rintro _ wa1 ⟨t1, l1, p1, e1, ms, r1, Ka1⟩; have zKa1 := Ka1.size; replace kk := kk.trans' Ka1 (by simp <;> omega); replace ae := Ka1.at ae (by simp <;> omega); have g1 := mk_ok e1 ne trivial; obtain ⟨x1, y1, q1⟩ := g1; replace r1 := r1.fit (lo' := w.heap.size) (Y := []) (by omega) (by simp); have sc1 := r1.scP (wf_nh0 x1); obtain ⟨pa, rfl⟩ := r1.ptr x1; refine V1.i (by simp [go_sem] <;> trivial) ?_; refine V1.new (bx47 _ _) fun bx2 wx2 Nx2 => ?_; have zx2 := Nx2.keep.size; have gx2 := Nx2.ge; replace ms := ms.keep Nx2.keep (by simp); replace ae := Nx2.a ae; replace kk := Nx2.kp kk; replace r1 := r1.f0 Nx2.keep; have ax2 := Nx2.at_
    try simp only [Value.cells, List.toList_toArray] at ax2
    have rM := mkExR (r := .nil) (ks := .nil) (gs := .nil) (b := .nil) (ps := []) (lo := w.heap.size) ax2 (by omega) r1 nilP nilL nilL nilS nilL; refine Up.i (Nc.p _ _) ?_; refine V1.i (by simp [go_sem] <;> trivial) ?_; refine U1.store (onesAll rfl rfl) ae (by simp) fun wb3 Ub3 => ?_; have zUb3 := Ub3.size; replace kk := kk.trans' Ub3.keep (by simp <;> omega); replace ms := ms.keep Ub3.keep (by simp <;> omega); replace rM := rM.fr Ub3.keep (by simp <;> omega); replace ae := Ub3.at_; simp only [List.set_cons_zero, List.set_cons_succ] at ae; exact ⟨_, _, _, _, _, _, _, _, by simp only [mk, e1, MR.bind]; rfl, ms, ⟨_, _, _, _, _, ae, nilP, rM, nilP, nilL, nilL⟩, kk⟩
  · iterate 3 (refine V1.i (v := .bool false) (w' := w) (by simp [go_sem]) ?_; refine If.f ?_)
    refine V1.i (v := .bool true) (w' := w) (by simp [go_sem]) ?_; refine If.t ?_; refine cf73 (c73 ms) ?_ (NP.no (e := _)); rintro _ wn1 ⟨rfl, ms, Kn1⟩; have zKn1 := Kn1.size; replace kk := kk.trans' Kn1 (by simp <;> omega); replace ae := Kn1.at ae (by simp <;> omega); refine Up.i (Nc.p _ _) ?_; refine V1.i (by simp [go_sem] <;> trivial) ?_; refine U1.store (onesAll rfl rfl) ae (by simp) fun wb2 Ub2 => ?_; have zUb2 := Ub2.size; replace kk := kk.trans' Ub2.keep (by simp <;> omega); replace ms := ms.keep Ub2.keep (by simp <;> omega); replace ae := Ub2.at_; simp only [List.set_cons_zero, List.set_cons_succ] at ae; refine cf74 (Hn.expr ne (by omega) (by omega) (by omega) ms) ?_ (NP.no (e := _)); rintro _ wa3 ⟨t3, l3, p3, e3, ms, r3, Ka3⟩; have zKa3 := Ka3.size; replace kk := kk.trans' Ka3 (by simp <;> omega); replace ae := Ka3.at ae (by simp <;> omega); have g3 := mk_ok e3 ne trivial
    obtain ⟨x3, y3, q3⟩ := g3; replace r3 := r3.fit (lo' := w.heap.size) (Y := []) (by omega) (by simp); have sc3 := r3.scP (wf_nh0 x3); refine Up.i (Nc.p _ _) ?_; refine V1.i (by simp [go_sem] <;> trivial) ?_; refine U1.store (onesAll rfl sc3) ae (by simp) fun wb4 Ub4 => ?_; have zUb4 := Ub4.size; replace kk := kk.trans' Ub4.keep (by simp <;> omega); replace ms := ms.keep Ub4.keep (by simp <;> omega); replace r3 := r3.fr Ub4.keep (by simp <;> omega); replace ae := Ub4.at_; simp only [List.set_cons_zero, List.set_cons_succ] at ae; refine cf74 (Hn.expr ne (by omega) (by omega) (by omega) ms) ?_ (NP.no (e := _)); rintro _ wa5 ⟨t5, l5, p5, e5, ms, r5, Ka5⟩; have zKa5 := Ka5.size; replace kk := kk.trans' Ka5 (by simp <;> omega); replace ae := Ka5.at ae (by simp <;> omega); replace r3 := r3.fr Ka5 (by simp <;> omega); have g5 := mk_ok e5 ne trivial; obtain ⟨x5, y5, q5⟩ := g5
    replace r5 := r5.fit (lo' := w.heap.size) (Y := []) (by omega) (by simp); have sc5 := r5.scP (wf_nh0 x5); refine Up.i (Nc.p _ _) ?_; refine V1.i (by simp [go_sem] <;> trivial) ?_; refine U1.store (onesAll rfl sc5) ae (by simp) fun wb6 Ub6 => ?_; have zUb6 := Ub6.size; replace kk := kk.trans' Ub6.keep (by simp <;> omega); replace ms := ms.keep Ub6.keep (by simp <;> omega); replace r3 := r3.fr Ub6.keep (by simp <;> omega); replace r5 := r5.fr Ub6.keep (by simp <;> omega); replace ae := Ub6.at_; simp only [List.set_cons_zero, List.set_cons_succ] at ae; refine cf23 (Hn.stmts ns (by omega) (by omega) (by omega) ms) ?_ (NP.no (e := _)); rintro _ wa7 ⟨t7, l7, p7, e7, ms, r7, Ka7⟩; have zKa7 := Ka7.size; replace kk := kk.trans' Ka7 (by simp <;> omega); replace ae := Ka7.at ae (by simp <;> omega); replace r3 := r3.fr Ka7 (by simp <;> omega); replace r5 := r5.fr Ka7 (by simp <;> omega)
    have g7 := mk_ok e7 ns trivial; obtain ⟨x7, y7, q7⟩ := g7; replace r7 := r7.fit (lo' := w.heap.size) (Y := []) (by omega) (by simp); have sc7 := r7.scL (wf_isList 3 (by simp) x7); refine Up.i (Nc.p _ _) ?_; refine V1.i (by simp [go_sem] <;> trivial) ?_; refine U1.store (onesAll rfl sc7) ae (by simp) fun wb8 Ub8 => ?_; have zUb8 := Ub8.size; replace kk := kk.trans' Ub8.keep (by simp <;> omega); replace ms := ms.keep Ub8.keep (by simp <;> omega); replace r3 := r3.fr Ub8.keep (by simp <;> omega); replace r5 := r5.fr Ub8.keep (by simp <;> omega); replace r7 := r7.fr Ub8.keep (by simp <;> omega); replace ae := Ub8.at_; simp only [List.set_cons_zero, List.set_cons_succ] at ae; exact ⟨_, _, _, _, _, _, _, _, by simp only [mk, e3, e5, e7, MR.bind]; rfl, ms, ⟨_, _, _, _, _, ae, nilP, r3, r5, r7, nilL⟩, kk⟩
  · iterate 4 (refine V1.i (v := .bool false) (w' := w) (by simp [go_sem]) ?_; refine If.f ?_)
    refine V1.i (v := .bool true) (w' := w) (by simp [go_sem]) ?_; refine If.t ?_; refine cf23 (Hn.stmts ns (by omega) (by omega) (by omega) ms) ?_ (NP.no (e := _)); rintro _ wa1 ⟨t1, l1, p1, e1, ms, r1, Ka1⟩; have zKa1 := Ka1.size; replace kk := kk.trans' Ka1 (by simp <;> omega); replace ae := Ka1.at ae (by simp <;> omega); have g1 := mk_ok e1 ns trivial; obtain ⟨x1, y1, q1⟩ := g1; replace r1 := r1.fit (lo' := w.heap.size) (Y := []) (by omega) (by simp); have sc1 := r1.scL (wf_isList 3 (by simp) x1); refine Up.i (Nc.p _ _) ?_; refine V1.i (by simp [go_sem] <;> trivial) ?_; refine U1.store (onesAll rfl sc1) ae (by simp) fun wb2 Ub2 => ?_; have zUb2 := Ub2.size; replace kk := kk.trans' Ub2.keep (by simp <;> omega); replace ms := ms.keep Ub2.keep (by simp <;> omega); replace r1 := r1.fr Ub2.keep (by simp <;> omega); replace ae := Ub2.at_
    simp only [List.set_cons_zero, List.set_cons_succ] at ae; exact ⟨_, _, _, _, _, _, _, _, by simp only [mk, e1, MR.bind]; rfl, ms, ⟨_, _, _, _, _, ae, nilP, nilP, nilP, r1, nilL⟩, kk⟩
  · iterate 5 (refine V1.i (v := .bool false) (w' := w) (by simp [go_sem]) ?_; refine If.f ?_)
    refine V1.i (v := .bool true) (w' := w) (by simp [go_sem]) ?_; refine If.t ?_; refine cf74 (Hn.expr ne (by omega) (by omega) (by omega) ms) ?_ (NP.no (e := _)); rintro _ wa1 ⟨t1, l1, p1, e1, ms, r1, Ka1⟩; have zKa1 := Ka1.size; replace kk := kk.trans' Ka1 (by simp <;> omega); replace ae := Ka1.at ae (by simp <;> omega); have g1 := mk_ok e1 ne trivial; obtain ⟨x1, y1, q1⟩ := g1; replace r1 := r1.fit (lo' := w.heap.size) (Y := []) (by omega) (by simp); have sc1 := r1.scP (wf_nh0 x1); refine Up.i (Nc.p _ _) ?_; refine V1.i (by simp [go_sem] <;> trivial) ?_; refine U1.store (onesAll rfl sc1) ae (by simp) fun wb2 Ub2 => ?_; have zUb2 := Ub2.size; replace kk := kk.trans' Ub2.keep (by simp <;> omega); replace ms := ms.keep Ub2.keep (by simp <;> omega); replace r1 := r1.fr Ub2.keep (by simp <;> omega); replace ae := Ub2.at_; simp only [List.set_cons_zero, List.set_cons_succ] at ae
    refine cf23 (Hn.stmts ns (by omega) (by omega) (by omega) ms) ?_ (NP.no (e := _)); rintro _ wa3 ⟨t3, l3, p3, e3, ms, r3, Ka3⟩; have zKa3 := Ka3.size; replace kk := kk.trans' Ka3 (by simp <;> omega); replace ae := Ka3.at ae (by simp <;> omega); replace r1 := r1.fr Ka3 (by simp <;> omega); have g3 := mk_ok e3 ns trivial; obtain ⟨x3, y3, q3⟩ := g3; replace r3 := r3.fit (lo' := w.heap.size) (Y := []) (by omega) (by simp); have sc3 := r3.scL (wf_isList 3 (by simp) x3); refine Up.i (Nc.p _ _) ?_; refine V1.i (by simp [go_sem] <;> trivial) ?_; refine U1.store (onesAll rfl sc3) ae (by simp) fun wb4 Ub4 => ?_; have zUb4 := Ub4.size; replace kk := kk.trans' Ub4.keep (by simp <;> omega); replace ms := ms.keep Ub4.keep (by simp <;> omega); replace r1 := r1.fr Ub4.keep (by simp <;> omega); replace r3 := r3.fr Ub4.keep (by simp <;> omega); replace ae := Ub4.at_
    simp only [List.set_cons_zero, List.set_cons_succ] at ae; exact ⟨_, _, _, _, _, _, _, _, by simp only [mk, e1, e3, MR.bind]; rfl, ms, ⟨_, _, _, _, _, ae, nilP, r1, nilP, r3, nilL⟩, kk⟩
  · iterate 6 (refine V1.i (v := .bool false) (w' := w) (by simp [go_sem]) ?_; refine If.f ?_)
    refine V1.i (v := .bool true) (w' := w) (by simp [go_sem]) ?_; refine If.t ?_; refine cf74 (Hn.expr ne (by omega) (by omega) (by omega) ms) ?_ (NP.no (e := _)); rintro _ wa1 ⟨t1, l1, p1, e1, ms, r1, Ka1⟩; have zKa1 := Ka1.size; replace kk := kk.trans' Ka1 (by simp <;> omega); replace ae := Ka1.at ae (by simp <;> omega); have g1 := mk_ok e1 ne trivial; obtain ⟨x1, y1, q1⟩ := g1; replace r1 := r1.fit (lo' := w.heap.size) (Y := []) (by omega) (by simp); have sc1 := r1.scP (wf_nh0 x1); refine Up.i (Nc.p _ _) ?_; refine V1.i (by simp [go_sem] <;> trivial) ?_; refine U1.store (onesAll rfl sc1) ae (by simp) fun wb2 Ub2 => ?_; have zUb2 := Ub2.size; replace kk := kk.trans' Ub2.keep (by simp <;> omega); replace ms := ms.keep Ub2.keep (by simp <;> omega); replace r1 := r1.fr Ub2.keep (by simp <;> omega); replace ae := Ub2.at_; simp only [List.set_cons_zero, List.set_cons_succ] at ae
    refine cf23 (Hn.stmts ns (by omega) (by omega) (by omega) ms) ?_ (NP.no (e := _)); rintro _ wa3 ⟨t3, l3, p3, e3, ms, r3, Ka3⟩; have zKa3 := Ka3.size; replace kk := kk.trans' Ka3 (by simp <;> omega); replace ae := Ka3.at ae (by simp <;> omega); replace r1 := r1.fr Ka3 (by simp <;> omega); have g3 := mk_ok e3 ns trivial; obtain ⟨x3, y3, q3⟩ := g3; replace r3 := r3.fit (lo' := w.heap.size) (Y := []) (by omega) (by simp); have sc3 := r3.scL (wf_isList 3 (by simp) x3); refine Up.i (Nc.p _ _) ?_; refine V1.i (by simp [go_sem] <;> trivial) ?_; refine U1.store (onesAll rfl sc3) ae (by simp) fun wb4 Ub4 => ?_; have zUb4 := Ub4.size; replace kk := kk.trans' Ub4.keep (by simp <;> omega); replace ms := ms.keep Ub4.keep (by simp <;> omega); replace r1 := r1.fr Ub4.keep (by simp <;> omega); replace r3 := r3.fr Ub4.keep (by simp <;> omega); replace ae := Ub4.at_
    simp only [List.set_cons_zero, List.set_cons_succ] at ae; refine cf23 (Hn.stmts ns (by omega) (by omega) (by omega) ms) ?_ (NP.no (e := _)); rintro _ wa5 ⟨t5, l5, p5, e5, ms, r5, Ka5⟩; have zKa5 := Ka5.size; replace kk := kk.trans' Ka5 (by simp <;> omega); replace ae := Ka5.at ae (by simp <;> omega); replace r1 := r1.fr Ka5 (by simp <;> omega); replace r3 := r3.fr Ka5 (by simp <;> omega); have g5 := mk_ok e5 ns trivial; obtain ⟨x5, y5, q5⟩ := g5; replace r5 := r5.fit (lo' := w.heap.size) (Y := []) (by omega) (by simp); have sc5 := r5.scL (wf_isList 3 (by simp) x5); refine Up.i (Nc.p _ _) ?_; refine V1.i (by simp [go_sem] <;> trivial) ?_; refine U1.store (onesAll rfl sc5) ae (by simp) fun wb6 Ub6 => ?_; have zUb6 := Ub6.size; replace kk := kk.trans' Ub6.keep (by simp <;> omega); replace ms := ms.keep Ub6.keep (by simp <;> omega); replace r1 := r1.fr Ub6.keep (by simp <;> omega)
    replace r3 := r3.fr Ub6.keep (by simp <;> omega); replace r5 := r5.fr Ub6.keep (by simp <;> omega); replace ae := Ub6.at_; simp only [List.set_cons_zero, List.set_cons_succ] at ae; exact ⟨_, _, _, _, _, _, _, _, by simp only [mk, e1, e3, e5, MR.bind]; rfl, ms, ⟨_, _, _, _, _, ae, nilP, r1, nilP, r3, r5⟩, kk⟩
  · iterate 7 (refine V1.i (v := .bool false) (w' := w) (by simp [go_sem]) ?_; refine If.f ?_)
    refine V1.i (v := .bool true) (w' := w) (by simp [go_sem]) ?_; refine If.t ?_; refine cf42 (c42 ms (n := 2) (by decide)) ?_ (NP.no (e := _)); rintro _ wn1 ⟨rfl, ms, Kn1⟩; have zKn1 := Kn1.size; replace kk := kk.trans' Kn1 (by simp <;> omega); replace ae := Kn1.at ae (by simp <;> omega); refine V1.i (eqNat _ _ _ (nxt 2 l) 1) ?_; by_cases h2 : nxt 2 l = 1
    · rw [show decide (nxt 2 l = 1) = true by simpa using h2]; refine If.t ?_; refine cf74 (Hn.expr ne (by omega) (by omega) (by omega) ms) ?_ (NP.no (e := _)); rintro _ wa21 ⟨t21, l21, p21, e21, ms, r21, Ka21⟩; have zKa21 := Ka21.size; replace kk := kk.trans' Ka21 (by simp <;> omega); replace ae := Ka21.at ae (by simp <;> omega); have g21 := mk_ok e21 ne trivial; obtain ⟨x21, y21, q21⟩ := g21; replace r21 := r21.fit (lo' := w.heap.size) (Y := []) (by omega) (by simp); have sc21 := r21.scP (wf_nh0 x21); refine Up.i (Nc.p _ _) ?_; refine V1.i (by simp [go_sem] <;> trivial) ?_; refine U1.store (onesAll rfl sc21) ae (by simp) fun wb22 Ub22 => ?_; have zUb22 := Ub22.size; replace kk := kk.trans' Ub22.keep (by simp <;> omega); replace ms := ms.keep Ub22.keep (by simp <;> omega); replace r21 := r21.fr Ub22.keep (by simp <;> omega); replace ae := Ub22.at_
      simp only [List.set_cons_zero, List.set_cons_succ] at ae; exact ⟨_, _, _, _, _, _, _, _, by simp only [mk]; rw [if_pos h2]; simp only [e21, MR.bind]; rfl, ms, ⟨_, _, _, _, _, ae, nilP, r21, nilP, nilL, nilL⟩, kk⟩
    · rw [show decide (nxt 2 l = 1) = false by simpa using h2]; refine If.f ?_; exact ⟨_, _, _, _, _, _, _, _, by simp only [mk]; rw [if_neg h2]; rfl, ms, ⟨_, _, _, _, _, ae, nilP, nilP, nilP, nilL, nilL⟩, kk⟩
  · iterate 8 (refine V1.i (v := .bool false) (w' := w) (by simp [go_sem]) ?_; refine If.f ?_)
    refine V1.i (v := .bool true) (w' := w) (by simp [go_sem]) ?_; refine If.t ?_; refine cf23 (Hn.stmts ns (by omega) (by omega) (by omega) ms) ?_ (NP.no (e := _)); rintro _ wa1 ⟨t1, l1, p1, e1, ms, r1, Ka1⟩; have zKa1 := Ka1.size; replace kk := kk.trans' Ka1 (by simp <;> omega); replace ae := Ka1.at ae (by simp <;> omega); have g1 := mk_ok e1 ns trivial; obtain ⟨x1, y1, q1⟩ := g1; replace r1 := r1.fit (lo' := w.heap.size) (Y := []) (by omega) (by simp); have sc1 := r1.scL (wf_isList 3 (by simp) x1); refine Up.i (Nc.p _ _) ?_; refine V1.i (by simp [go_sem] <;> trivial) ?_; refine U1.store (onesAll rfl sc1) ae (by simp) fun wb2 Ub2 => ?_; have zUb2 := Ub2.size; replace kk := kk.trans' Ub2.keep (by simp <;> omega); replace ms := ms.keep Ub2.keep (by simp <;> omega); replace r1 := r1.fr Ub2.keep (by simp <;> omega); replace ae := Ub2.at_
    simp only [List.set_cons_zero, List.set_cons_succ] at ae; have t6 := tail_le l1; have t7 := tail_le l1.tail; refine cf73 (c73 ms) ?_ (NP.no (e := _)); rintro _ wn3 ⟨rfl, ms, Kn3⟩; have zKn3 := Kn3.size; replace kk := kk.trans' Kn3 (by simp <;> omega); replace ae := Kn3.at ae (by simp <;> omega); replace r1 := r1.fr Kn3 (by simp <;> omega); refine Up.i (Nc.p _ _) ?_; refine V1.i (by simp [go_sem] <;> trivial) ?_; refine U1.store (onesAll rfl rfl) ae (by simp) fun wb4 Ub4 => ?_; have zUb4 := Ub4.size; replace kk := kk.trans' Ub4.keep (by simp <;> omega); replace ms := ms.keep Ub4.keep (by simp <;> omega); replace r1 := r1.fr Ub4.keep (by simp <;> omega); replace ae := Ub4.at_; simp only [List.set_cons_zero, List.set_cons_succ] at ae; refine cf23 (Hn.stmts ns (by omega) (by omega) (by omega) ms) ?_ (NP.no (e := _)); rintro _ wa5 ⟨t5, l5, p5, e5, ms, r5, Ka5⟩; have zKa5 := Ka5.size
    replace kk := kk.trans' Ka5 (by simp <;> omega); replace ae := Ka5.at ae (by simp <;> omega); replace r1 := r1.fr Ka5 (by simp <;> omega); have g5 := mk_ok e5 ns trivial; obtain ⟨x5, y5, q5⟩ := g5; replace r5 := r5.fit (lo' := w.heap.size) (Y := []) (by omega) (by simp); have sc5 := r5.scL (wf_isList 3 (by simp) x5); refine Up.i (Nc.p _ _) ?_; refine V1.i (by simp [go_sem] <;> trivial) ?_; refine U1.store (onesAll rfl sc5) ae (by simp) fun wb6 Ub6 => ?_; have zUb6 := Ub6.size; replace kk := kk.trans' Ub6.keep (by simp <;> omega); replace ms := ms.keep Ub6.keep (by simp <;> omega); replace r1 := r1.fr Ub6.keep (by simp <;> omega); replace r5 := r5.fr Ub6.keep (by simp <;> omega); replace ae := Ub6.at_; simp only [List.set_cons_zero, List.set_cons_succ] at ae; exact ⟨_, _, _, _, _, _, _, _, by simp only [mk, e1, e5, MR.bind]; rfl, ms, ⟨_, _, _, _, _, ae, nilP, nilP, nilP, r1, r5⟩, kk⟩
  · iterate 9 (refine V1.i (v := .bool false) (w' := w) (by simp [go_sem]) ?_; refine If.f ?_)
    refine V1.i (v := .bool true) (w' := w) (by simp [go_sem]) ?_; refine If.t ?_; refine cf73 (c73 ms) ?_ (NP.no (e := _)); rintro _ wn1 ⟨rfl, ms, Kn1⟩; have zKn1 := Kn1.size; replace kk := kk.trans' Kn1 (by simp <;> omega); replace ae := Kn1.at ae (by simp <;> omega); refine Up.i (Nc.p _ _) ?_; refine V1.i (by simp [go_sem] <;> trivial) ?_; refine U1.store (onesAll rfl rfl) ae (by simp) fun wb2 Ub2 => ?_; have zUb2 := Ub2.size; replace kk := kk.trans' Ub2.keep (by simp <;> omega); replace ms := ms.keep Ub2.keep (by simp <;> omega); replace ae := Ub2.at_; simp only [List.set_cons_zero, List.set_cons_succ] at ae; refine cf23 (Hn.stmts ns (by omega) (by omega) (by omega) ms) ?_ (NP.no (e := _)); rintro _ wa3 ⟨t3, l3, p3, e3, ms, r3, Ka3⟩; have zKa3 := Ka3.size; replace kk := kk.trans' Ka3 (by simp <;> omega); replace ae := Ka3.at ae (by simp <;> omega); have g3 := mk_ok e3 ns trivial
    obtain ⟨x3, y3, q3⟩ := g3; replace r3 := r3.fit (lo' := w.heap.size) (Y := []) (by omega) (by simp); have sc3 := r3.scL (wf_isList 3 (by simp) x3); obtain ⟨aq, cq, rfl⟩ := r3.sln (wf_isList 3 (by simp) x3); refine V1.i (by simp [go_sem] <;> trivial) ?_; refine V1.new (bx47 _ _) fun bx4 wx4 Nx4 => ?_; have zx4 := Nx4.keep.size; have gx4 := Nx4.ge; replace ms := ms.keep Nx4.keep (by simp); replace ae := Nx4.a ae; replace kk := Nx4.kp kk; replace r3 := r3.f0 Nx4.keep; have ax4 := Nx4.at_; try simp only [Value.cells, List.toList_toArray] at ax4
    have rM := mkExR (l := .nil) (r := .nil) (ks := .nil) (gs := .nil) (ps := []) (lo := w.heap.size) ax4 (by omega) nilP nilP nilL nilL nilS r3; refine Up.i (Nc.p _ _) ?_; refine V1.i (by simp [go_sem] <;> trivial) ?_; refine U1.store (onesAll rfl rfl) ae (by simp) fun wb5 Ub5 => ?_; have zUb5 := Ub5.size; replace kk := kk.trans' Ub5.keep (by simp <;> omega); replace ms := ms.keep Ub5.keep (by simp <;> omega); replace rM := rM.fr Ub5.keep (by simp <;> omega); replace ae := Ub5.at_; simp only [List.set_cons_zero, List.set_cons_succ] at ae; exact ⟨_, _, _, _, _, _, _, _, by simp only [mk, e3, MR.bind]; rfl, ms, ⟨_, _, _, _, _, ae, nilP, rM, nilP, nilL, nilL⟩, kk⟩
theorem bs26 (w : World) (p : Option Addr) : (Instr.buildSlice 26 1 #[(0, .pointer p)]).run Tryz.prog w = .ok (.slice (some ⟨w.heap.size, 0, none⟩) 1 1) (w.alloc (.cells #[.pointer p] 40)) := by
 simp [go_sem]; first | done | rfl | exact ⟨rfl, rfl⟩ | (repeat' (first | rfl | apply And.intro))
set_option maxHeartbeats 4000000 in
theorem c23 {n : Nat} (H : ∀ m, m ≤ n → KAll m) {lo : Nat} {w : World} {bm : Nat} {l : List UInt8} {p : Nat} {d : Int} (hn : need (.stmts d) ≤ n + 1) (hd1 : d ≤ 100) (hd2 : -100 ≤ d) (hb : p + 40 * l.length + 10 * (n + 1) ≤ 1000000) (ms : MS lo w bm l p) :
    Calls Tryz.prog 23 #[ptr bm, .int .i64 d] w (Ret (fun v w' => ∃ t l' p', mk (n + 1) (.stmts d) l p = .ok t l' p' ∧ MS lo w' bm l' p' ∧ Rep (Fr w.heap.size []) w' t (.L v) ∧ Keep [bm] w w') NP) := by
  refine s23 ?_; unfold S23; have kk := Keep.refl [bm] w; have hbm : bm < lo := ms.1; have hlo : lo ≤ w.heap.size := ms.2.1; have t1 := tail_le l; simp only [need] at hn; refine cf42 (c42 ms (n := 4) (by decide)) ?_ (NP.no (e := _)); rintro _ w1 ⟨rfl, ms, K1⟩; have zK1 := K1.size; replace kk := kk.trans' K1 (by simp <;> omega); have h4 := nxt_lt 4 l (by decide); have ne1 : need (.stmtsL (nxt 4 l) .nil d) ≤ n := by simp only [need]; split <;> omega
  refine L2.i (fun y x w' => ∃ (j : Nat) (acc : Tr) (l8 : List UInt8) (p8 m : Nat), x = .int .i64 (j : Nat) ∧ m ≤ n ∧ need (.stmtsL j acc d) ≤ m ∧ mk m (.stmtsL j acc d) l8 p8 = mk n (.stmtsL (nxt 4 l) .nil d) l.tail p ∧ p8 + 40 * l8.length + 10 * m ≤ 1000000 ∧ wf acc 3 = true ∧ len acc + j ≤ 4 ∧
      MS lo w' bm l8 p8 ∧ Acc 40 w.heap.size [] w' y acc ∧ Keep [bm] w w' ∧ w.heap.size ≤ w'.heap.size)
    (fun _ x _ => match x with | .int _ n => n.toNat | _ => 0) ⟨nxt 4 l, .nil, l.tail, p, n, rfl, Nat.le_refl _, ne1, rfl, by omega, rfl, by simp only [len]; omega, ms, Acc.nil _ _ _ _, kk, by omega⟩ ?_
  clear ms kk K1; rintro v x w2 ⟨j, acc, l8, p8, m, rfl, hm, hne, hmm, hbb, hwa, hla, ms, ca, kk, zz⟩
  cases m with
  | zero => simp only [need] at hne; split at hne <;> omega
  | succ m =>
    cases j with
    | zero =>
      refine V1.i (gt0 _ _ _) ?_; refine If.f ?_; simp only [mk] at hmm; refine J1.cut (fun x w' => ∃ t, t = (if nxt 120 l8 = 119 then snoc acc .nil else acc) ∧ MS lo w' bm l8.tail p8 ∧ Rep (Fr w.heap.size []) w' t (.L x) ∧ Keep [bm] w w') ?_ ?_
      · refine cf42 (c42 ms (n := 120) (by decide)) ?_ (NP.no (e := _)); rintro _ w3 ⟨rfl, ms, K3⟩; have hna := ca.nin; have z3 := K3.size; replace ca := ca.fr K3 (by simp; omega); replace kk := kk.trans K3; refine V1.i (eqNat _ _ _ (nxt 120 l8) 119) ?_; by_cases h9 : nxt 120 l8 = 119
        · rw [show decide (nxt 120 l8 = 119) = true by simpa using h9]; refine If.t ?_; refine V1.newSlice (bs26 _ _) fun ab w4 N4 => ?_; have a4 : At w4 ab [.pointer none] := N4.at_; have z4 := N4.keep.size; replace ms := ms.keep N4.keep (by simp); replace ca := ca.f0 N4.keep; replace kk := N4.kp kk; obtain ⟨v', w5, hrun, ca', K5, hg⟩ := app26 (n := 4) (x := .nil) ca a4 rfl rfl (by omega) (by omega) (by simp) (by omega); refine V1.i hrun ?_; replace ms := ms.keep K5 (fun i hi => by have := hna i hi; omega); replace kk := kk.trans' K5 (fun i hi h => by have := hna i hi; omega); exact ⟨_, by rw [if_pos h9], ms, ca'.rep, kk⟩
        · rw [show decide (nxt 120 l8 = 119) = false by simpa using h9]; refine If.f ?_; exact ⟨_, by rw [if_neg h9], ms, ca.rep, kk⟩
      · rintro x w3 ⟨t, ht, ms, rt, kk⟩; subst ht; exact ⟨_, _, _, by simp only [mk]; rw [← hmm]; rfl, ms, rt, kk⟩
    | succ j =>
      refine V1.i (gtS _ _ _ _) ?_; refine If.t ?_; have tl1 := tail_le l8; have tl2 := tail_le l8.tail; have hst := stLeft_le (1 + nxt 11 l8) (j + 1) l8.tail.tail; obtain ⟨vm, am, hinc⟩ := ms.parts; unfold ptr; refine Up.i (Nc.p _ _) ?_; refine V1.i (by simp [go_sem] <;> trivial) ?_; refine V1.load (oneAll rfl) (am) rfl ?_; refine V1.i (addI _ _ _ _ _ _ (by omega) (by omega)) ?_; refine Up.i (Nc.p _ _) ?_; refine V1.i (by simp [go_sem] <;> trivial) ?_; refine U1.store (onesAll rfl rfl) am (by simp) fun w3 Ua => ?_; have zUa := Ua.size; replace kk := kk.trans' Ua.keep (by simp <;> omega); replace ca := ca.fr Ua.keep (by simp <;> omega); replace am := Ua.at_; simp only [List.set_cons_zero, List.set_cons_succ] at am; replace ms := hinc w3 (by simpa using Ua); clear am hinc; refine cf42 (c42 ms (n := 11) (by decide)) ?_ (NP.no (e := _)); rintro _ w4 ⟨rfl, ms, K4⟩; have zK4 := K4.size
      replace kk := kk.trans' K4 (by simp <;> omega); replace ca := ca.fr K4 (by simp <;> omega); have h11 := nxt_lt 11 l8 (by decide); refine V1.i (addI _ _ _ _ _ _ (by omega) (by omega)) ?_; rw [show (1 : Int) + (nxt 11 l8 : Nat) = ((1 + nxt 11 l8 : Nat) : Int) by omega]; refine cf42 (c42 ms (n := 9) (by decide)) ?_ (NP.no (e := _)); rintro _ w5 ⟨rfl, ms, K5⟩; have zK5 := K5.size; replace kk := kk.trans' K5 (by simp <;> omega); replace ca := ca.fr K5 (by simp <;> omega); generalize hln : nxt 9 l8.tail = line at *; generalize hk1 : 1 + nxt 11 l8 = k1 at *; refine V1.i (by simp [go_sem] <;> trivial) ?_; refine V1.new (bx43 _ _) fun bs w6 N6 => ?_; have g6 := N6.ge; have z6 := N6.keep.size; replace ms := ms.keep N6.keep (by simp); replace ca := ca.nw N6; replace kk := N6.kp kk; have hbs : bm < bs := by omega
      have hlb : lo ≤ bs := by omega
      have ae : At w6 bs [.int .i64 (k1 : Nat), .int .i64 (line : Nat), str [], .pointer none, .pointer none, .pointer none, .slice none 0 0, .slice none 0 0] := N6.at_; have hbw : bs < w6.heap.size := N6.lt; refine J0.cut (fun w' => MS lo w' bm (stLeft k1 (j + 1) l8.tail.tail) (p8 + 1) ∧ (∃ kf : Nat, kf = stKind k1 (j + 1) l8.tail.tail ∧ At w' bs [.int .i64 (kf : Nat), .int .i64 (line : Nat), str [], .pointer none, .pointer none, .pointer none, .slice none 0 0, .slice none 0 0]) ∧ Acc 40 w.heap.size [bs] w' v acc ∧ Keep [bm] w w' ∧ bs < w'.heap.size) ?_ ?_
      · refine Up.i (Nc.p _ _) ?_; refine V1.i (by simp [go_sem] <;> trivial) ?_; refine V1.load (oneAll rfl) (ae) rfl ?_; refine V1.i (eqNat _ _ _ k1 8) ?_; refine J1.gd (decide (1 < j + 1)) (fun h k hk => ?_) ?_
        · refine V1.i (v := .bool (decide (1 < j + 1))) (w' := w6) (by simp [go_sem]; omega) ?_; exact hk
        refine V1.i (pkA _ _ _) ?_; refine J1.cut (fun x w' => x = (if (decide (k1 = 8) && decide (1 < j + 1)) = true then .bool (decide (nxt 9 l8.tail.tail < 8)) else undef) ∧ MS lo w' bm (stLeft k1 (j + 1) l8.tail.tail) (p8 + 1) ∧ At w' bs [.int .i64 (k1 : Nat), .int .i64 (line : Nat), str [], .pointer none, .pointer none, .pointer none, .slice none 0 0, .slice none 0 0] ∧ Acc 40 w.heap.size [bs] w' v acc ∧ Keep [bm] w w' ∧ bs < w'.heap.size) ?_ ?_
        · refine Gd.b (fun h => ?_) (fun h => ?_)
          · refine cf42 (c42 ms (n := 9) (by decide)) ?_ (NP.no (e := _)); rintro _ w7 ⟨rfl, ms, K7⟩; have z7 := K7.size; replace ae := K7.at ae (by simp; omega); replace ca := ca.fr K7 (by simp; omega); replace kk := kk.trans K7; refine V1.i (v := .bool (decide (nxt 9 l8.tail.tail < 8))) (w' := w7) (by simp [go_sem]; omega) ?_; refine ⟨by rw [if_pos h], ?_, ae, ca, kk, by omega⟩; have hh : k1 = 8 ∧ 1 < j + 1 := by simpa using h
            unfold stLeft; rw [if_pos hh]; exact ms
          · refine ⟨by rw [if_neg (by rw [h]; simp)], ?_, ae, ca, kk, hbw⟩; have hh : ¬(k1 = 8 ∧ 1 < j + 1) := by
              have h' : (decide (k1 = 8) && decide (1 < j + 1)) = false := h; intro hh; simp [hh.1, hh.2] at h'
            unfold stLeft; rw [if_neg hh]; exact ms
        clear ms ae ca kk hbw; rintro _ w7 ⟨rfl, ms, ae, ca, kk, hbw⟩; refine V1.i (pkA _ _ _) ?_; by_cases hall : k1 = 8 ∧ 1 < j + 1 ∧ nxt 9 l8.tail.tail < 8
        · rw [show ((decide (k1 = 8) && decide (1 < j + 1)) && decide (nxt 9 l8.tail.tail < 8)) = true by simp only [Bool.and_eq_true, decide_eq_true_eq]; exact ⟨⟨hall.1, hall.2.1⟩, hall.2.2⟩]; refine If.t ?_; refine Up.i (Nc.p _ _) ?_; refine V1.i (by simp [go_sem] <;> trivial) ?_; refine U1.store (onesAll rfl rfl) ae (by simp) fun w8 Ub => ?_; have zUb := Ub.size; replace kk := kk.trans' Ub.keep (by simp <;> omega); replace ms := ms.keep Ub.keep (by simp <;> omega); replace ca := ca.fr Ub.keep (by simp <;> omega); replace ae := Ub.at_; simp only [List.set_cons_zero, List.set_cons_succ] at ae; exact ⟨ms, ⟨9, by unfold stKind; rw [if_pos hall], ae⟩, ca, kk, by omega⟩
        · rw [show ((decide (k1 = 8) && decide (1 < j + 1)) && decide (nxt 9 l8.tail.tail < 8)) = false by
            rw [Bool.and_eq_false_iff, Bool.and_eq_false_iff]; simp only [decide_eq_false_iff_not]; omega]
          refine If.f ?_; exact ⟨ms, ⟨k1, by unfold stKind; rw [if_neg hall], ae⟩, ca, kk, hbw⟩
      clear ms ae ca kk hbw; rintro w7 ⟨ms, ⟨kf, hkf, ae⟩, ca, kk, hbw⟩; refine J0.cut (fun w' => MS lo w' bm (stLeft k1 (j + 1) l8.tail.tail) (p8 + 1) ∧ (∃ kf : Nat, kf = (if d < 1 ∨ 300 < p8 + 1 then 9 else stKind k1 (j + 1) l8.tail.tail) ∧ At w' bs [.int .i64 (kf : Nat), .int .i64 (line : Nat), str [], .pointer none, .pointer none, .pointer none, .slice none 0 0, .slice none 0 0]) ∧ Acc 40 w.heap.size [bs] w' v acc ∧ Keep [bm] w w' ∧ bs < w'.heap.size) ?_ ?_
      · refine V1.i (v := .bool (decide (d < 1))) (w' := w7) (by simp [go_sem]) ?_; obtain ⟨vm, am, _⟩ := ms.parts; refine J1.gd (decide (300 < p8 + 1)) (fun h k hk => ?_) ?_
        · refine Up.i (Nc.p _ _) ?_; refine V1.i (by simp [go_sem] <;> trivial) ?_; refine V1.load (oneAll rfl) (am) rfl ?_; refine V1.i (v := .bool (decide (300 < p8 + 1))) (w' := w7) (by simp [go_sem]; omega) ?_; exact hk
        refine V1.i (pkO _ _ _) ?_; clear am; by_cases hd : d < 1 ∨ 300 < p8 + 1
        · rw [show (decide (d < 1) || decide (300 < p8 + 1)) = true by simpa using hd]; refine If.t ?_; refine Up.i (Nc.p _ _) ?_; refine V1.i (by simp [go_sem] <;> trivial) ?_; refine U1.store (onesAll rfl rfl) ae (by simp) fun w8 Ub => ?_; have zUb := Ub.size; replace kk := kk.trans' Ub.keep (by simp <;> omega); replace ms := ms.keep Ub.keep (by simp <;> omega); replace ca := ca.fr Ub.keep (by simp <;> omega); replace ae := Ub.at_; simp only [List.set_cons_zero, List.set_cons_succ] at ae; exact ⟨ms, ⟨9, by rw [if_pos hd], ae⟩, ca, kk, by omega⟩
        · rw [show (decide (d < 1) || decide (300 < p8 + 1)) = false by simpa using hd]; refine If.f ?_; exact ⟨ms, ⟨kf, by rw [if_neg hd]; exact hkf, ae⟩, ca, kk, hbw⟩
      clear ms ae ca kk hbw hkf; rintro w8 ⟨ms, ⟨kf, hkf, ae⟩, ca, kk, hbw⟩; refine V1.i (subI _ _ _ _ _ _ (by omega) (by omega)) ?_; have hna := ca.nin; have hfn : need (.fill kf (d - 1)) ≤ m := by
        simp only [need] at hne ⊢; by_cases h : d < 1
        · have hK : kf = 9 := by rw [hkf, if_pos (Or.inl h)]
          rw [if_pos hK]; rw [if_pos h] at hne; omega
        · rw [if_neg h] at hne; split
          · omega
          · have : d - 1 + 1 = d := by omega
            rw [this]; omega
      have hfp : preM (.fill kf (d - 1)) := by
        simp only [preM]; by_cases h : d < 1
        · exact .inl (by rw [hkf, if_pos (Or.inl h)])
        · exact .inr (by omega)
      have hk12 : kf < 12 := by
        rw [hkf]; split
        · omega
        · unfold stKind; split <;> omega
      refine cf43 ((H m (by omega)).fill hfn hk12 hfp (by omega) (by omega) (by omega) ms hlb ae) ?_ (NP.no (e := _)); rintro _ w9 ⟨nm, x, r, tt, a, b, l9, p9, e9, ms, ⟨lv, rv, tv, av, bv, ae9, rx, rr, rt, ra, rb⟩, K9⟩; have g9 := mk_ok e9 hfn hfp; obtain ⟨⟨_, _, _, _, _, _, hst9, hw9⟩, _, q9⟩ := g9; clear hst9; have z9 := K9.size; clear ae; have ae := ae9; clear ae9; have tl3 := tail_le l9; have tl4 := tail_le l9.tail; replace ca := ca.fr K9 (by simp; omega); replace kk := kk.trans' K9 (by simp; omega); have hne3 : ∀ acc, need (.stmtsL j acc d) ≤ m := fun acc => by
        simp only [need] at hne ⊢; split at hne
        · rw [if_pos (by assumption)]; omega
        · rw [if_neg (by assumption)]; omega
      refine J0.cut (fun w' => ∃ (s : Tr) (l10 : List UInt8), wf s 2 = true ∧ l10.length ≤ l9.length ∧ (if nxt 60 l9 = 59 then mk m (.stmtsL j (snoc acc (setKind (.st kf nm x r tt a b) (nxt 14 l9.tail))) d) l9.tail.tail p9 else mk m (.stmtsL j (snoc acc (.st kf nm x r tt a b)) d) l9.tail p9) = mk m (.stmtsL j (snoc acc s) d) l10 p9 ∧
          MS lo w' bm l10 p9 ∧ Rep (Fr w.heap.size v.ownBlock.toList) w' s (.P (ptr bs)) ∧ Acc 40 w.heap.size [bs] w' v acc ∧ Keep [bm] w w' ∧ bs < w'.heap.size) ?_ ?_
      · refine cf42 (c42 ms (n := 60) (by decide)) ?_ (NP.no (e := _)); rintro _ w10 ⟨rfl, ms, K10⟩; have z10 := K10.size; replace ae := K10.at ae (by simp; omega); replace ca := ca.fr K10 (by simp; omega); replace kk := kk.trans K10; replace rx := rx.fr K10 (by simp; omega); replace rr := rr.fr K10 (by simp; omega); replace rt := rt.fr K10 (by simp; omega); replace ra := ra.fr K10 (by simp; omega); replace rb := rb.fr K10 (by simp; omega); refine V1.i (eqNat _ _ _ (nxt 60 l9) 59) ?_; have hown : ∀ {t : Tr} {m : Md} {w' : World}, Rep (Fr w8.heap.size []) w' t m → Rep (Fr w.heap.size v.ownBlock.toList) w' t m := fun h => h.fit (by omega) (fun i hi => .inl (hna i hi).2.2)
        have hmkst : ∀ {k : Int} {w' : World}, At w' bs [.int .i64 k, .int .i64 (line : Nat), str nm, lv, rv, tv, av, bv] → Rep (Fr w8.heap.size []) w' x (.P lv) → Rep (Fr w8.heap.size []) w' r (.P rv) → Rep (Fr w8.heap.size []) w' tt (.P tv) → Rep (Fr w8.heap.size []) w' a (.L av) → Rep (Fr w8.heap.size []) w' b (.L bv) → Rep (Fr w.heap.size v.ownBlock.toList) w' (.st k nm x r tt a b) (.P (ptr bs)) :=
          fun h h1 h2 h3 h4 h5 => ⟨bs, _, lv, rv, tv, av, bv, rfl, ⟨by omega, fun hm => (hna _ hm).2.1 (by simp)⟩, h, hown h1, hown h2, hown h3, hown h4, hown h5⟩
        have hw9' : ∀ k : Nat, wf (.st (k : Nat) nm x r tt a b) 2 = true := fun k => by
          simp only [wf] at hw9 ⊢; simp_all
        by_cases h59 : nxt 60 l9 = 59
        · rw [show decide (nxt 60 l9 = 59) = true by simpa using h59]; refine If.t ?_; refine cf42 (c42 ms (n := 14) (by decide)) ?_ (NP.no (e := _)); rintro _ w11 ⟨rfl, ms, K11⟩; have z11 := K11.size; replace ae := K11.at ae (by simp; omega); replace ca := ca.fr K11 (by simp; omega); replace kk := kk.trans K11; replace rx := rx.fr K11 (by simp; omega); replace rr := rr.fr K11 (by simp; omega); replace rt := rt.fr K11 (by simp; omega); replace ra := ra.fr K11 (by simp; omega); replace rb := rb.fr K11 (by simp; omega); refine Up.i (Nc.p _ _) ?_; refine V1.i (by simp [go_sem] <;> trivial) ?_; refine U1.store (onesAll rfl rfl) ae (by simp) fun w12 Ub => ?_; have zUb := Ub.size; replace kk := kk.trans' Ub.keep (by simp <;> omega); replace ms := ms.keep Ub.keep (by simp <;> omega); replace ca := ca.fr Ub.keep (by simp <;> omega); replace rx := rx.fr Ub.keep (by simp <;> omega)
          replace rr := rr.fr Ub.keep (by simp <;> omega); replace rt := rt.fr Ub.keep (by simp <;> omega); replace ra := ra.fr Ub.keep (by simp <;> omega); replace rb := rb.fr Ub.keep (by simp <;> omega); replace ae := Ub.at_; simp only [List.set_cons_zero, List.set_cons_succ] at ae; exact ⟨_, _, hw9' (nxt 14 l9.tail), by omega, by rw [if_pos h59]; rfl, ms, hmkst ae rx rr rt ra rb, ca, kk, by omega⟩
        · rw [show decide (nxt 60 l9 = 59) = false by simpa using h59]; refine If.f ?_; exact ⟨_, _, hw9' kf, by omega, by rw [if_neg h59], ms, hmkst ae rx rr rt ra rb, ca, kk, by omega⟩
      clear ms ae ca kk rx rr rt ra rb hbw; rintro w10 ⟨s, l10, hws, hl10, hms, ms, rs, ca, kk, hbw⟩; have hna := ca.nin; refine V1.newSlice (bs26 _ _) fun ab w11 N11 => ?_; have a11 : At w11 ab [ptr bs] := N11.at_; have z11 := N11.keep.size; replace ms := ms.keep N11.keep (by simp); replace ca := ca.f0 N11.keep; replace rs := rs.f0 N11.keep; replace kk := N11.kp kk; replace ca := ca.fit (Y := []) (by simp); obtain ⟨v', w12, hrun, ca', K12, hg⟩ := app26 (n := 4) ca a11 rfl (rs.fit (Nat.le_refl _) (fun i hi => .inr (.inl (by simpa using hi)))) (by omega) (by omega) (by simp) (by omega); refine V1.i hrun ?_; have z12 := K12.size; replace ms := ms.keep K12 (fun i hi => by have := hna i hi; omega); replace kk := kk.trans' K12 (fun i hi h => by have := hna i hi; omega); refine V1.i (decI _ _ _ _ (by omega)) ?_; have hsn := wf_snoc3 acc s hwa hws
      have hls := len_snoc acc s (wf_isList 3 (by simp) hwa); have hmm2 : mk m (.stmtsL j (snoc acc s) d) l10 p9 = mk n (.stmtsL (nxt 4 l) .nil d) l.tail p := by
        rw [← hmm, ← hms]; simp only [mk]; rw [hk1, ← hkf, e9]; rfl
      exact ⟨⟨j, snoc acc s, l10, p9, m, rfl, by omega, hne3 _, hmm2, by omega, hsn.1, by omega, ms, ca', kk, by omega⟩, by simp⟩
theorem mk_all : ∀ n, KAll n := by
 intro n; induction n using Nat.strongRecOn with
 | ind n ih =>
   cases n with
   | zero =>
     constructor
     · intro _ _ _ _ _ d h; simp only [need] at h; omega
     · intro _ _ _ _ _ d h; simp only [need] at h; omega
     · intro _ _ _ _ _ _ _ _ _ h; simp only [need] at h; split at h <;> omega
   | succ n =>
     have H : ∀ m, m ≤ n → KAll m := fun m hm => ih m (by omega); exact { expr := c74 H, stmts := c23 H, fill := c43 (H n (Nat.le_refl _)) }
def BytesAt (w : World) (v : Value) (l : List UInt8) : Prop := ∃ a c, v = .slice a l.length c ∧ l.length ≤ c ∧ l.length ≤ 9223372036854775807 ∧ ∀ i (h : i < l.length), ∃ b, a = some b ∧ w.cell? (b.add i) = some (.int .u8 l[i].toNat)
def stmtsOf (l : List UInt8) : Tr := match mk 200 (.stmts 6) (l.take 400) 0 with
  | .ok t _ _ => t
  | .oof => .nil
theorem stmtsOf_good (l : List UInt8) : ∃ l' p', mk 200 (.stmts 6) (l.take 400) 0 = .ok (stmtsOf l) l' p' ∧ wf (stmtsOf l) 3 = true ∧ cn (stmtsOf l) ≤ 16001 := by
 have h := mk_good 200 (.stmts 6) (l.take 400) 0 (by decide) trivial; have hl : (l.take 400).length ≤ 400 := List.length_take_le _ _; unfold stmtsOf
 cases he : mk 200 (.stmts 6) (l.take 400) 0 with
 | oof => rw [he] at h; exact h.elim
 | ok t l' p' =>
   rw [he] at h; obtain ⟨h1, h2, h3⟩ := h; exact ⟨l', p', rfl, h1, by dsimp only; omega⟩
theorem nd_cn : ∀ t, nd t ≤ cn t
 | .nil | .hole => by simp [nd]
 | .cons a b => by
   have := nd_cn a; have := nd_cn b
   simp only [nd, cn]; omega
 | .ex _ _ _ l r ks ags _ b => by
   have := nd_cn l; have := nd_cn r; have := nd_cn ks; have := nd_cn ags; have := nd_cn b
   simp only [nd, cn]; omega
 | .st _ _ l r t a b => by
   have := nd_cn l; have := nd_cn r; have := nd_cn t; have := nd_cn a; have := nd_cn b
   simp only [nd, cn]; omega
theorem c10 {w : World} {v : Value} {l : List UInt8} (h : BytesAt w v l) : Calls Tryz.prog 10 #[v] w (Ret (fun x w' => Rep (Fr w.heap.size []) w' (stmtsOf l) (.L x) ∧ Keep [] w w') NP) := by
 refine s10 ?_; unfold S10; obtain ⟨a, c, rfl, hc, hlen, hcell⟩ := h; refine V1.i (by simp [go_sem] <;> trivial) ?_; have htl : (l.take 400).length = min l.length 400 := by simp [Nat.min_comm]
 refine V1.i (v := .int .i64 ((min l.length 400 : Nat) : Int)) (w' := w) (by simp [go_sem]; omega) ?_; refine V1.i (v := .slice a (min l.length 400) c) (w' := w) (by
   have h1 : min l.length 400 ≤ c := by omega
   simp [go_sem]
   intro h2; omega) ?_
 refine V1.i (by simp [go_sem] <;> trivial) ?_; refine V1.new (bx63 _ _) fun bm w1 N1 => ?_; have gm := N1.ge; have lm := N1.lt; have z1 := N1.keep.size; have am : At w1 bm [.slice a (min l.length 400) c, .int .i64 (0 : Nat)] := N1.at_; have ms : MS (bm + 1) w1 bm (l.take 400) 0 := by
   refine ⟨by omega, by omega, _, am, a, c, by rw [htl], by omega, fun i hi => ?_⟩; obtain ⟨b, e, hb⟩ := hcell i (by omega); have hlt := cell_lt hb; rw [add_block] at hlt; refine ⟨b, e, by omega, by omega, N1.keep.cell ?_ (by simp)⟩; rw [hb]; simp
 obtain ⟨l', p', e, _, _⟩ := stmtsOf_good l; refine cf23 ((mk_all 200).stmts (d := 6) (by decide) (by omega) (by omega) (by omega) ms) ?_ (NP.no (e := _)); rintro u w2 ⟨t, l2, p2, e2, _, rt, K2⟩; rw [e] at e2; injection e2 with e2 _ _; rw [e2]; exact ⟨rt.fit (by omega) (by simp), N1.keep.trans' K2 (by simp; omega)⟩
end Go.Proofs.YtoddjlclpnoomaaGreatDoor
namespace Go.Proofs.YtoddjlclpnoomaaGreatDoor
open Go.Sh Go.RowKit Go.Lib Go.Shelf
def laidL : List (String × DataW Unit) := Rows.printTreesRow.laid
def plainL : List (String × DataW Unit) := [("math/bits.deBruijn32tab", Rows.laid_math_bits_deBruijn32tab), ("math/bits.deBruijn64tab", Rows.laid_math_bits_deBruijn64tab), ("internal/strconv.uint64pow10", Rows.laid_internal_strconv_uint64pow10), ("unicode/utf8.acceptRanges", Rows.laid_unicode_utf8_acceptRanges), ("strconv.ErrRange", Rows.laid_strconv_ErrRange), ("strconv.ErrSyntax", Rows.laid_strconv_ErrSyntax), ("unicode.White_Space", Rows.laid_unicode_White_Space), ("strings.asciiSpace", Rows.laid_strings_asciiSpace), ("unicode/utf8.first", Rows.laid_unicode_utf8_first)]
def handL : List (String × DataW Unit) := [("errors.errorType", Rows.laid_errors_errorType)]
theorem laid_eq (W : World) : laidMetH Tryz.prog laidL W = (laidMet Tryz.prog plainL W ∧ handlesMet Tryz.prog handL W) := by kernel_rfl
theorem d_ascii : (Rows.laid_strings_asciiSpace : DataW Unit) = tabData .u8 Lib.asciiSpaceTab := by kernel_rfl
theorem d_pow : (Rows.laid_internal_strconv_uint64pow10 : DataW Unit) = tabData .u64 Lib.pow10Tab := by kernel_rfl
theorem d_first : Rows.laid_unicode_utf8_first = firstData := Pinned.utf8First_eq
theorem d_accept : (Rows.laid_unicode_utf8_acceptRanges : DataW Unit) = acceptData := by kernel_rfl
theorem tab_of_reads {W : World} {name : String} {k : IntKind} {zs : List Int} {g : Nat} {t e : TypeId} {n : Nat} (h : VarReads Tryz.prog W name (tabData k zs))
   (hg : Tryz.prog.globalNamed name = some g) (hty : (Tryz.prog.globals[g]?).map (·.type) = some t) (ht : Tryz.prog.underlying t = some (.array n e)) (he : Tryz.prog.underlying e = some (.int k)) (hce : Tryz.prog.cellsOf e = 1) (hct : Tryz.prog.cellsOf t = n) : Lib.TabIs Tryz.prog W name k zs := by
 obtain ⟨g', t', cs, fuel, p, hg', ht', hvar, hd⟩ := h; obtain rfl := Option.some.inj (hg.symm.trans hg'); obtain rfl := Option.some.inj (hty.symm.trans ht'); unfold Lib.TabIs; rw [hvar, ← cells_of_tab ht he hce hct hd]
theorem rt : (Tryz.prog.cutTypes.find? (·.1 == "internal/reflectlite.rtype")).map (·.2) = some 128 := by kernel_rfl
theorem nTypes : ∃ n, Tryz.prog.types.size = n ∧ ((List.range n).filter fun t => Tryz.prog.rowNamed t [101, 114, 114, 111, 114]) = [31] := ⟨Tryz.prog.types.size, rfl, by kernel_rfl⟩
theorem row272 (u : TypeId) (h : Tryz.prog.typeName? 3 u = some "*errors.errorString") : u = 272 :=
  have star : "*" ++ "errors.errorString" = "*errors.errorString" := by decide
  typeName_ptr_named (nm := "errors.errorString") (by rw [star]; kernel_rfl) (by kernel_rfl) (by decide) u (by rw [star]; exact h)
theorem int_of_ok {v : Value} {W : World} (h : Row.ok Tryz.prog W .any 0 3 #[v]) : ∃ m, v = .int .i64 m := by
 obtain ⟨ts, h1, _, h3⟩ := h; have e : Tryz.prog.cellTypes Tryz.prog.depth 3 = some [3] := by kernel_rfl
 rw [e] at h1; obtain rfl := Option.some.inj h1; obtain ⟨u, hu, hc⟩ := h3 0 v rfl; obtain rfl : u = 3 := by simpa using hu.symm
 unfold Cell.ok at hc; rw [Tryz.underlying3] at hc
 cases v <;> first | exact hc.elim | skip
 rename_i k m
 obtain ⟨e1, _⟩ := hc; rw [e1]; exact ⟨_, rfl⟩
theorem gl_of_laid {W : World} (h : laidMetH Tryz.prog laidL W) (hs : W.ShapedOpen Tryz.prog) : GL W := by
 rw [laid_eq] at h; obtain ⟨h, hh⟩ := h; obtain ⟨s1, s2⟩ := hs; refine ⟨?_, ?_, ?_, ?_, ?_, ?_, ?_⟩
 · have hsz : Tryz.prog.globals.size = 12 := by kernel_rfl
   have h0 : 12 < (begin Tryz.prog (fun _ _ => 0) default).world.heap.size := Nat.le_of_ble_eq_true (by kernel_rfl); obtain ⟨o, o₀, ho, _⟩ := s2 12 (by omega) h0; rcases Nat.lt_or_ge 12 W.heap.size with h | h
   · omega
   · rw [Array.getElem?_eq_none (by omega)] at ho; cases ho
 · have hz : ((begin Tryz.prog (fun _ _ => 0) default).world.heap[3]?).bind Obj.row? = some (#[.int .i64 0], 3) := by kernel_rfl
   have hsz : Tryz.prog.globals.size = 12 := by kernel_rfl
   obtain ⟨cs, hc, hl, hr⟩ := s1 3 _ _ (by omega) hz; have hb : Tryz.prog.buildable 3 = true := by kernel_rfl
   have ho := hr hb; match cs, hl with
   | ⟨[v]⟩, _ =>
     obtain ⟨m, rfl⟩ := int_of_ok ho; exact ⟨m, by unfold World.cell?; rw [hc]; rfl⟩
 · have := laidMet.reads h (n := "strings.asciiSpace") (d := Rows.laid_strings_asciiSpace) (by unfold plainL; simp); rw [d_ascii] at this; exact tab_of_reads (g := 1) (t := 156) (e := 5) (n := 256) this (by kernel_rfl) (by kernel_rfl) (by kernel_rfl) (by kernel_rfl) (by kernel_rfl) (by kernel_rfl)
 · have := laidMet.reads h (n := "internal/strconv.uint64pow10") (d := Rows.laid_internal_strconv_uint64pow10) (by unfold plainL; simp); rw [d_pow] at this; exact tab_of_reads (g := 5) (t := 262) (e := 205) (n := 20) this (by kernel_rfl) (by kernel_rfl) (by kernel_rfl) (by kernel_rfl) (by kernel_rfl) (by kernel_rfl)
 · have h3 := laidMet.reads h (n := "unicode/utf8.first") (d := Rows.laid_unicode_utf8_first) (by unfold plainL; simp); rw [d_first] at h3; have h4 := laidMet.reads h (n := "unicode/utf8.acceptRanges") (d := Rows.laid_unicode_utf8_acceptRanges) (by unfold plainL; simp); rw [d_accept] at h4; exact utf8Tabs_of_readsT (ρ := Tryz.lays271_ren) ⟨Tryz.underlying5, Tryz.underlying156, Tryz.underlying270, Tryz.underlying271⟩ ⟨by kernel_rfl, by kernel_rfl, by kernel_rfl, by kernel_rfl, by kernel_rfl, by kernel_rfl, by kernel_rfl⟩ h3 h4
 · obtain ⟨a, s, hv, -, -, -⟩ := laid_sentinel (h.tail.tail.tail.tail) (g := 4) (ti := 31) (tp := 272) (te := 274) (ts := 9) (by kernel_rfl) (by kernel_rfl) Tryz.underlying31 row272 Tryz.underlying272 Tryz.underlying274 rfl rfl Tryz.underlying9 (by kernel_rfl) (by kernel_rfl); have h0 := World.var?_cell (show Tryz.prog.globalNamed "strconv.ErrRange" = some 4 by kernel_rfl) hv 0; exact ⟨a, hv, by simpa using h0⟩
 · obtain ⟨name, u, ty, e1, e2, e3, e4, e5⟩ := hh _ (List.mem_singleton.2 rfl); have en : name = [101, 114, 114, 111, 114] := (Option.some.inj e1).symm; subst en; obtain rfl := Option.some.inj (rt.symm.trans e2); obtain ⟨n, hn, hf⟩ := nTypes; have hm : ty ∈ (List.range n).filter fun t => Tryz.prog.rowNamed t [101, 114, 114, 111, 114] := List.mem_filter.2 ⟨List.mem_range.2 (by rw [← hn]; exact e3), e4⟩; rw [hf] at hm; obtain rfl := List.mem_singleton.1 hm; have hth : typeHandle Tryz.prog 31 = .pointer (some ⟨12, 31, none⟩) := by kernel_rfl
   rw [hth] at e5; have h0 := World.var?_cell (show Tryz.prog.globalNamed "errors.errorType" = some 0 by kernel_rfl) e5 0; simpa using h0
end Go.Proofs.YtoddjlclpnoomaaGreatDoor
namespace Go.Proofs.YtoddjlclpnoomaaGreatDoor
open Go.Sh Go.RowKit Go.Lib Go.Shelf Go.ChangeShapes Go.WideShapes Go.ChangeAt
theorem keep_keptBut {w w' : World} (h : Keep [] w w') (may : MemPlace → Prop) : w.keptBut w' may := by
 refine ⟨h.io.1, h.io.2, fun i hi => ?_⟩; rw [h.same i hi (by simp)]; split <;> simp_all
theorem keep_sameAt {w w' : World} (h : Keep [] w w') {p : MemPlace} (hp : p.block < w.heap.size) : w.sameAt w' p := by
 cases p with
 | cell b o => exact World.cell?_of_block (w := w) (h.same b hp (by simp))
 | map b => exact h.same b hp (by simp)
theorem laidOut : laidOutB Tryz.prog = true := by kernel_rfl
theorem own : ownKnob Tryz.prog.godebug = none := by kernel_rfl
theorem keep_trod {H : Type} {enc : TypeId × Value → H} {t : TypeId} (hr : Tryz.prog.readableRec t = true) (hrow : t < Tryz.prog.types.size) {W W' : World} {v : Value} {d : DataW H} {ps : List MemPlace}
    (h : DataW.Trod enc Tryz.prog W 0 (fun _ => true) true t v d ps) (hb : Keep [] W W') (hlt : ∀ x ∈ ps, x.block < W.heap.size) :
    DataW.Trod enc Tryz.prog W' 0 (fun b => decide (b < W.heap.size)) true t v d ps :=
  WideElems.Trod_stays laidOut hr hrow h (fun x hx => keep_sameAt hb (hlt x hx)) (fun x hx => by simpa using hlt x hx)
noncomputable def startH (os : Os) : World :=
  let w0 := World.holding Tryz.prog os ⟨#[], #[], []⟩
  { w0 with heap := w0.heap.modify 0 fun
      | .cells _ t frozen => .cells #[.iface 128 (.agg #[.pointer (some ⟨12, 31, none⟩)])] t frozen
      | o => o }
noncomputable def startW (os : Os) : World := (startH os).layVars Tryz.prog plainL
theorem startW_os (os : Os) : (startW os).os = os := (World.layVars_os _ _ _).trans rfl
theorem start_met (os : Os) (args : Array Value) : laidMetH Tryz.prog laidL ((startW os).forCall (fun _ _ => 0) ⟨#[], args, []⟩).memory := by
 have e1 : (plainL.filter fun x => (plainL.map (·.1)).contains x.1) = plainL := List.filter_eq_self.2 fun x hx => List.contains_iff_mem.2 (List.mem_map.2 ⟨x, hx, rfl⟩); have e2 : (plainL.filter fun x => !(plainL.map (·.1)).contains x.1) = [] := List.filter_eq_nil_iff.2 fun x hx => by rw [List.contains_iff_mem.2 (List.mem_map.2 ⟨x, hx, rfl⟩)]; simp
 have h : laidMet Tryz.prog plainL (startW os) := laidMet_layVars (w0 := startH os) (plainL.map (·.1)) [] (by rw [e1]; rfl) (by rw [e1]; kernel_rfl) (by rw [e1]; kernel_rfl) (by rw [e2]; exact LaidIn.none); have hm := h.of_heap (w' := ((startW os).forCall (fun _ _ => 0) ⟨#[], args, []⟩).memory) (by simp [World.memory, World.forCall, Input.heap]); refine laidMetH_of_parts ?_ ?_
 · have e3 : (laidL.filter fun x => x.2.handleName?.isNone) = plainL := by kernel_rfl
   rw [e3]; exact hm
 · kernel_rfl
theorem start_shaped (os : Os) (args : Array Value) : ((startW os).forCall (fun _ _ => 0) ⟨#[], args, []⟩).Shaped Tryz.prog :=
  World.shaped_of_ZipB (by kernel_rfl) (by kernel_rfl)
theorem rih_open {H : Type} {enc : TypeId × Value → H} {a : Assume} {C : Checked} {os : Os} {f : FuncId} {fn : Func} {s : ChangeSpec} {conds : List PathCond} {apart fresh handsOn again : Bool} {X : World → Array Value → Prop}
   (hX : ∀ (w w' : World) (args : Array Value), w.heap = w'.heap → X w args → X w' args)
   (own : ownKnob C.prog.godebug = none) (started : os.Started) (noInit : C.prog.inits.idxOf? f = none) (hfn : C.prog.funcs[f]? = some fn)
   (witness : ∃ (w : World) (tape : Tape) (i : Input), w.os = os ∧ (w.forCall tape i).Shaped C.prog ∧ i.vars = [] ∧ Input.okWide C.prog (w.forCall tape i) .any w.heap.size f i ∧
     ((s.pre enc C.prog fn conds apart (w.forCall tape i).memory i.args ∧ X (w.forCall tape i).memory i.args) ∧ sizedMet enc C.prog fn (OpenSpec.ofChange s) apart (w.forCall tape i).memory i.args) ∧ a.holds C.prog (lone (Frame.enter C.prog f i.args .normal) [] (w.forCall tape i)))
   (contract : ∀ (W : World) (base : Nat) (args : Array Value) (ds gs : List (DataW H)) (before : List MemPlace), W.ShapedOpen C.prog →
     (∀ (j : Nat) t v, fn.params[j]? = some t → args[j]? = some v → Value.okWide C.prog W .any base t v) →
     DataW.Whole enc C.prog fn.params.toList s.vars apart W args.toList ds gs before →
     X W args →
     Calls C.prog f args W fun e W' => ∃ v, e = .returned v ∧ s.post enc C.prog fn apart fresh handsOn again W args v W') :
   ReturnsInHanded a C os f .any (fun w args => (s.pre enc C.prog fn conds apart w args ∧ X w args) ∧ sizedMet enc C.prog fn (OpenSpec.ofChange s) apart w args) (s.post enc C.prog fn apart fresh handsOn again) := by
 refine returnsInHanded_of_calls own started noInit witness ?_; intro w tape i _ hsh _ hok hpre hholds; obtain ⟨_, _, _, fn', hfn', _, _, _, _, hval⟩ := hok; have e : fn' = fn := Option.some.inj (hfn'.symm.trans hfn); subst e; obtain ⟨⟨⟨ds, gs, before, hw, hc⟩, hx⟩, hz⟩ := hpre; have hw' := DataW.Whole.of_heap (w' := w.forCall tape i) (by rfl) hw; refine (contract (w.forCall tape i) w.heap.size i.args ds gs before hsh hval hw' (hX _ _ _ (by rfl) hx)).mono fun e W' ⟨v, he, hp⟩ => ?_; subst he; exact ChangeSpec.post_blind hp
theorem laid_heap (w w' : World) (h : w.heap = w'.heap) (hl : laidMetH Tryz.prog laidL w) : laidMetH Tryz.prog laidL w' := hl.of_heap h
theorem cells5 : Tryz.prog.cellsOf 5 = 1 := by kernel_rfl
theorem byteL {zs : List Int} (h : ∀ n ∈ zs, (Lit.int .u8 n).wf = true) {i : Nat} (hi : i < zs.length) : ((UInt8.ofNat (zs[i]).toNat).toNat : Int) = zs[i] := by
 have := h _ (List.getElem_mem hi); have h1 : IntKind.u8.min = 0 := rfl; have h2 : IntKind.u8.max = 255 := rfl; simp only [Lit.wf, Bool.and_eq_true, decide_eq_true_eq, h1, h2] at this; simp
 omega
theorem bytes_in {H : Type} {enc : TypeId × Value → H} {W : World} {v : Value} {d : DataW H} {p : List MemPlace} {base : Nat} (hval : Value.okWide Tryz.prog W .any base 22 v) (h : DataW.Trod enc Tryz.prog W 0 (fun _ => true) true 22 v d p) : ∃ l, BytesAt W v l := by
 obtain ⟨a0, len, cap, rfl⟩ := okWide_slice Tryz.underlying22 hval; obtain ⟨fuel, hf⟩ := h; rcases open_ints Tryz.underlying22 Tryz.underlying5 cells5 hf with ⟨hcs, hx⟩ | ⟨a, len', cap', zs, hcs, _, hl, hm, hz, hx, hcell, hwz⟩
 · simp [Value.cells] at hcs
   obtain ⟨rfl, rfl, rfl⟩ := hcs; exact ⟨[], none, 0, rfl, by simp, by simp, fun i hi => absurd hi (by simp)⟩
 · simp [Value.cells] at hcs
   obtain ⟨rfl, rfl, rfl⟩ := hcs; simp only [if_true] at hz; unfold maxLen at hm; refine ⟨(zs.take len).map fun z => UInt8.ofNat z.toNat, some a, cap, ?_, ?_, ?_, fun i hi => ⟨a, rfl, ?_⟩⟩
   · simp; omega
   · simp; omega
   · simp; omega
   · simp only [List.length_map, List.length_take] at hi; rw [hcell i (by omega)]; simp only [List.getElem_map, List.getElem_take]; rw [byteL hwz (by omega)]; simp [List.getD, show i < zs.length by omega]
end Go.Proofs.YtoddjlclpnoomaaGreatDoor
namespace Go.Proofs.YtoddjlclpnoomaaGreatDoor
open Go.Sh
set_option maxRecDepth 100000
def lF (R : Ending → World → Prop) (s f t : Nat) (p : Value) (w : World) (k : Value → World → Prop) : Prop :=
  up R (Nc p) w fun a w => v1 R (Instr.fieldAt s a f) w fun b w => v1 R (Instr.loadAt t b) w k
def qF (C : World → Prop) (s f t : Nat) (p : Value) (k : Value → Prop) : Prop :=
  xq C (Nc p) fun a => xv C (Instr.fieldAt s a f) fun b => xv C (Instr.loadAt t b) k
def xF (S : World → Prop) (s f t : Nat) (p : Value) (k : Value → Prop) : Prop :=
  xs t0 (Nc p) fun a => xw t0 (Instr.fieldAt s a f) fun b => xw S (Instr.loadAt t b) k
def fOk (s f : Nat) : Bool := if s = 108 then f ≤ 4 else if s = 43 then f ≤ 7 else if s = 47 then f ≤ 9 else if s = 67 then f ≤ 2 else if s = 86 then f ≤ 3 else s == 69 && f == 0
set_option maxHeartbeats 1000000 in
theorem fat {s f b : Nat} {w : World} (h : fOk s f = true) : (Instr.fieldAt s (.pointer (some ⟨b, 0, none⟩)) f).run Tryz.prog w = .ok (.pointer (some ⟨b, f, none⟩)) w := by
  unfold fOk at h; split at h
  · subst s; have : f = 0 ∨ f = 1 ∨ f = 2 ∨ f = 3 ∨ f = 4 := by simp at h; omega
    rcases this with rfl | rfl | rfl | rfl | rfl <;> simp [go_sem]
  split at h
  · subst s; have : f = 0 ∨ f = 1 ∨ f = 2 ∨ f = 3 ∨ f = 4 ∨ f = 5 ∨ f = 6 ∨ f = 7 := by simp at h; omega
    rcases this with rfl | rfl | rfl | rfl | rfl | rfl | rfl | rfl <;> simp [go_sem]
  split at h
  · subst s; have : f = 0 ∨ f = 1 ∨ f = 2 ∨ f = 3 ∨ f = 4 ∨ f = 5 ∨ f = 6 ∨ f = 7 ∨ f = 8 ∨ f = 9 := by simp at h; omega
    rcases this with rfl | rfl | rfl | rfl | rfl | rfl | rfl | rfl | rfl | rfl <;> simp [go_sem]
  split at h
  · subst s; have : f = 0 ∨ f = 1 ∨ f = 2 := by simp at h; omega
    rcases this with rfl | rfl | rfl <;> simp [go_sem]
  split at h
  · subst s; have : f = 0 ∨ f = 1 ∨ f = 2 ∨ f = 3 := by simp at h; omega
    rcases this with rfl | rfl | rfl | rfl <;> simp [go_sem]
  · simp at h
    obtain ⟨rfl, rfl⟩ := h; simp [go_sem]
section
variable {R : Ending → World → Prop} {s f t b : Nat} {w : World} {cs : List Value} {v : Value}
theorem lF.i {k : Value → World → Prop} (hA : At w b cs) (hk : k v w) (hv : cs[f]? = some v := by exact rfl) (h1 : fOk s f = true := by exact rfl) (h2 : oneCell t = true := by exact rfl) : lF R s f t (.pointer (some ⟨b, 0, none⟩)) w k :=
  by unfold lF up v1; exact Up.i (Nc.p _ _) (V1.i (fat h1) (V1.load (oneAll h2) hA hv hk))
theorem qF.i {C : World → Prop} {k : Value → Prop} (hA : ∀ w, C w → At w b cs) (hk : k v) (hv : cs[f]? = some v := by exact rfl) (h1 : fOk s f = true := by exact rfl) (h2 : oneCell t = true := by exact rfl) : qF C s f t (.pointer (some ⟨b, 0, none⟩)) k :=
  ⟨_, fun w' _ => ⟨rfl, rfl⟩, Xv.i _ (fun w _ => fat h1) (Xv.i v (fun w hw => (oneAll h2) _ _ _ (by rw [(hA w hw).cell, hv])) hk)⟩
end
end Go.Proofs.YtoddjlclpnoomaaGreatDoor


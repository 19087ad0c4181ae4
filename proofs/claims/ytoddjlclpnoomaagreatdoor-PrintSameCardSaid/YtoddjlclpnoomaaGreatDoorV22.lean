/- PrintSame proved: for whatever choices, the program's Same says of the statements that are made of them what the reference says, and says that statements are alike with themselves. No condition beside the row's own. -/
import Derived.Test.YtoddjlclpnoomaaGreatDoorV18
import Derived.Test.YtoddjlclpnoomaaGreatDoorV19
import Derived.Test.YtoddjlclpnoomaaGreatDoorV21
set_option linter.unusedVariables false
set_option linter.unusedSimpArgs false
set_option maxRecDepth 100000
namespace Go.Proofs.YtoddjlclpnoomaaGreatDoor
open Go.Sh
def S26 (R : Ending → World → Prop) (a0 a1 a2 : Value) (w : World) : Prop :=
 v1 R (Builtin.len_ #[26] 3 #[a0]) w fun a11 w =>
 v1 R (Builtin.len_ #[26] 3 #[a1]) w fun a13 w =>
 v1 R (Bo .neq 3 false false a11 a13) w fun a14 w =>
 If a14 (
 R (.returned (.bool false)) w) (
 L2 (.bool false) (.int .i64 0) w (fun g1 a6 a7 w =>
 v1 R (Builtin.len_ #[26] 3 #[a0]) w fun a17 w =>
 v1 R (Bo .lss 3 false false a7 a17) w fun a18 w =>
 If a18 (
 J1 (fun k1 =>
 ∃ C1 : World → Prop, C1 w.drew ∧
 xv C1 (Instr.indexAt 26 a0 a7) fun a23 => xv C1 (Instr.loadAt 40 a23) fun a24 => xv C1 (Instr.indexAt 26 a1 a7) fun a27 => xv C1 (Instr.loadAt 40 a27) fun a28 => ∀ w, C1 w → v1 R (Bo .eql 40 false true a24 (.pointer none)) w fun a30 w =>
 J1 (fun k2 =>
 Gd a30 false (v1 R (Bo .eql 40 false true a28 (.pointer none)) w fun a33 w =>
 k2 a33 w) (k2 undef w)) (fun a33_1 w =>
 v1 R (Pk a30 (.bool true) a33_1) w fun a34 w =>
 If a34 (
 v1 R (Bo .neq 40 false true a24 (.pointer none)) w fun a36 w =>
 J1 (fun k3 =>
 Gd a36 false (v1 R (Bo .neq 40 false true a28 (.pointer none)) w fun a39 w =>
 k3 a39 w) (k3 undef w)) (fun a39_1 w =>
 v1 R (Pk a36 (.bool true) a39_1) w fun a40 w =>
 If a40 (
 R (.returned (.bool false)) w) (
 k1 a6 w))) (
 ∃ C2 : World → Prop, C2 w.drew ∧
 qF C2 43 0 3 a24 fun a44 => qF C2 43 0 3 a28 fun a48 => xv C2 (Bo .neq 3 false false a44 a48) fun a49 => Q1 (fun k4 =>
 Gd a49 false (k4 a2) (k4 undef)) (fun a52 =>
 Q1 (fun k5 =>
 Gd a52 true (qF C2 43 1 3 a24 fun a56 => qF C2 43 1 3 a28 fun a60 => xv C2 (Bo .neq 3 false false a56 a60) fun a61 => k5 a61) (k5 undef)) (fun a61_1 =>
 Q1 (fun k6 =>
 Gd a49 false (xv C2 (Pk a52 a61_1 (.bool false)) fun a62 => k6 a62) (k6 undef)) (fun a62_1 =>
 xv C2 (Pk a49 (.bool true) a62_1) fun a63 => Q1 (fun k7 =>
 Gd a63 false (qF C2 43 2 9 a24 fun a68 => qF C2 43 2 9 a28 fun a72 => xv C2 (Bo .neq 9 false false a68 a72) fun a73 => k7 a73) (k7 undef)) (fun a73_1 =>
 xv C2 (Pk a63 (.bool true) a73_1) fun a74 => Q1 (fun k8 =>
 Gd a74 false (qF C2 43 3 41 a24 fun a79 => qF C2 43 3 41 a28 fun a83 => xq C2 (callFunc 50 #[a79, a83, a2]) fun a85 => xv C2 (Op.unary .not a85) fun a86 => k8 a86) (k8 undef)) (fun a86_1 =>
 xv C2 (Pk a74 (.bool true) a86_1) fun a87 => Q1 (fun k9 =>
 Gd a87 false (qF C2 43 4 41 a24 fun a92 => qF C2 43 4 41 a28 fun a96 => xq C2 (callFunc 50 #[a92, a96, a2]) fun a98 => xv C2 (Op.unary .not a98) fun a99 => k9 a99) (k9 undef)) (fun a99_1 =>
 xv C2 (Pk a87 (.bool true) a99_1) fun a100 => Q1 (fun k10 =>
 Gd a100 false (qF C2 43 5 41 a24 fun a105 => qF C2 43 5 41 a28 fun a109 => xq C2 (callFunc 50 #[a105, a109, a2]) fun a111 => xv C2 (Op.unary .not a111) fun a112 => k10 a112) (k10 undef)) (fun a112_1 =>
 xv C2 (Pk a100 (.bool true) a112_1) fun a113 => Q1 (fun k11 =>
 Gd a113 false (qF C2 43 6 26 a24 fun a118 => qF C2 43 6 26 a28 fun a122 => xq C2 (callFunc 26 #[a118, a122, a2]) fun a124 => xv C2 (Op.unary .not a124) fun a125 => k11 a125) (k11 undef)) (fun a125_1 =>
 xv C2 (Pk a113 (.bool true) a125_1) fun a126 => Q1 (fun k12 =>
 Gd a126 false (qF C2 43 7 26 a24 fun a131 => qF C2 43 7 26 a28 fun a135 => xq C2 (callFunc 26 #[a131, a135, a2]) fun a137 => xv C2 (Op.unary .not a137) fun a138 => k12 a138) (k12 undef)) (fun a138_1 =>
 xv C2 (Pk a126 (.bool true) a138_1) fun a139 => ∀ w, C2 w → If a139 (
 R (.returned (.bool false)) w) (
 k1 a6 w))))))))))))) (fun a6_1 w =>
 v1 R (Bo .add 3 false true a7 (.int .i64 1)) w fun a20 w =>
 g1 a6_1 a20 w)) (
 R (.returned (.bool true)) w)))
theorem s26 {R : Ending → World → Prop} {a0 a1 a2 : Value} {w : World} (h : S26 R a0 a1 a2 w) : Calls Tryz.prog 26 #[a0, a1, a2] w R :=
  calls_of [] mixed Tryz.func26 (c := codeB Tryz.f26) (by kernel_rfl) (Nat.le_of_ble_eq_true (by kernel_rfl)) (cast (by kernel_rfl) h)
theorem cf26 : CfT 26 := CfT.mk Tryz.func26 (c := codeB Tryz.f26) (by kernel_rfl) (by kernel_rfl)
def S50 (R : Ending → World → Prop) (a0 a1 a2 : Value) (w : World) : Prop :=
 v1 R (Bo .eql 41 false true a0 (.pointer none)) w fun a11 w =>
 J1 (fun k1 =>
 Gd a11 false (v1 R (Bo .eql 41 false true a1 (.pointer none)) w fun a14 w =>
 k1 a14 w) (k1 undef w)) (fun a14_1 w =>
 v1 R (Pk a11 (.bool true) a14_1) w fun a15 w =>
 If a15 (
 v1 R (Bo .eql 41 false true a0 (.pointer none)) w fun a17 w =>
 J1 (fun k2 =>
 Gd a17 true (v1 R (Bo .eql 41 false true a1 (.pointer none)) w fun a20 w =>
 k2 a20 w) (k2 undef w)) (fun a20_1 w =>
 v1 R (Pk a17 a20_1 (.bool false)) w fun a21 w =>
 R (.returned a21) w)) (
 ∃ C1 : World → Prop, C1 w.drew ∧
 qF C1 47 0 3 a0 fun a25 => qF C1 47 0 3 a1 fun a29 => xv C1 (Bo .neq 3 false false a25 a29) fun a30 => Q1 (fun k3 =>
 Gd a30 false (k3 a2) (k3 undef)) (fun a33 =>
 Q1 (fun k4 =>
 Gd a33 true (qF C1 47 1 3 a0 fun a37 => qF C1 47 1 3 a1 fun a41 => xv C1 (Bo .neq 3 false false a37 a41) fun a42 => k4 a42) (k4 undef)) (fun a42_1 =>
 Q1 (fun k5 =>
 Gd a30 false (xv C1 (Pk a33 a42_1 (.bool false)) fun a43 => k5 a43) (k5 undef)) (fun a43_1 =>
 xv C1 (Pk a30 (.bool true) a43_1) fun a44 => Q1 (fun k6 =>
 Gd a44 false (qF C1 47 2 2 a0 fun a49 => qF C1 47 2 2 a1 fun a53 => xv C1 (Bo .neq 2 false false a49 a53) fun a54 => k6 a54) (k6 undef)) (fun a54_1 =>
 xv C1 (Pk a44 (.bool true) a54_1) fun a55 => Q1 (fun k7 =>
 Gd a55 false (qF C1 47 3 9 a0 fun a60 => qF C1 47 3 9 a1 fun a64 => xv C1 (Bo .neq 9 false false a60 a64) fun a65 => k7 a65) (k7 undef)) (fun a65_1 =>
 xv C1 (Pk a55 (.bool true) a65_1) fun a66 => Q1 (fun k8 =>
 Gd a66 false (qF C1 47 6 44 a0 fun a71 => xv C1 (Builtin.len_ #[44] 3 #[a71]) fun a72 => qF C1 47 6 44 a1 fun a76 => xv C1 (Builtin.len_ #[44] 3 #[a76]) fun a77 => xv C1 (Bo .neq 3 false false a72 a77) fun a78 => k8 a78) (k8 undef)) (fun a78_1 =>
 xv C1 (Pk a66 (.bool true) a78_1) fun a79 => Q1 (fun k9 =>
 Gd a79 false (qF C1 47 7 44 a0 fun a84 => xv C1 (Builtin.len_ #[44] 3 #[a84]) fun a85 => qF C1 47 7 44 a1 fun a89 => xv C1 (Builtin.len_ #[44] 3 #[a89]) fun a90 => xv C1 (Bo .neq 3 false false a85 a90) fun a91 => k9 a91) (k9 undef)) (fun a91_1 =>
 xv C1 (Pk a79 (.bool true) a91_1) fun a92 => Q1 (fun k10 =>
 Gd a92 false (qF C1 47 8 45 a0 fun a97 => xv C1 (Builtin.len_ #[45] 3 #[a97]) fun a98 => qF C1 47 8 45 a1 fun a102 => xv C1 (Builtin.len_ #[45] 3 #[a102]) fun a103 => xv C1 (Bo .neq 3 false false a98 a103) fun a104 => k10 a104) (k10 undef)) (fun a104_1 =>
 xv C1 (Pk a92 (.bool true) a104_1) fun a105 => ∀ w, C1 w → If a105 (
 R (.returned (.bool false)) w) (
 L2 (.bool false) (.int .i64 0) w (fun g1 a6 a7 w =>
 lF R 47 8 45 a0 w fun a110 w =>
 v1 R (Builtin.len_ #[45] 3 #[a110]) w fun a111 w =>
 v1 R (Bo .lss 3 false false a7 a111) w fun a112 w =>
 If a112 (
 ∃ C2 : World → Prop, C2 w.drew ∧
 qF C2 47 8 45 a0 fun a118 => xv C2 (Instr.indexAt 45 a118 a7) fun a120 => xv C2 (Instr.loadAt 9 a120) fun a121 => qF C2 47 8 45 a1 fun a125 => xv C2 (Instr.indexAt 45 a125 a7) fun a127 => xv C2 (Instr.loadAt 9 a127) fun a128 => xv C2 (Bo .neq 9 false false a121 a128) fun a129 => ∀ w, C2 w → If a129 (
 R (.returned (.bool false)) w) (
 v1 R (Bo .add 3 false true a7 (.int .i64 1)) w fun a114 w =>
 g1 a6 a114 w)) (
 L2 a6 (.int .i64 0) w (fun g2 a6_1 a8 w =>
 lF R 47 6 44 a0 w fun a134 w =>
 v1 R (Builtin.len_ #[44] 3 #[a134]) w fun a135 w =>
 v1 R (Bo .lss 3 false false a8 a135) w fun a136 w =>
 If a136 (
 ∃ C3 : World → Prop, C3 w.drew ∧
 qF C3 47 6 44 a0 fun a142 => xv C3 (Instr.indexAt 44 a142 a8) fun a144 => xv C3 (Instr.loadAt 41 a144) fun a145 => qF C3 47 6 44 a1 fun a149 => xv C3 (Instr.indexAt 44 a149 a8) fun a151 => xv C3 (Instr.loadAt 41 a151) fun a152 => xq C3 (callFunc 50 #[a145, a152, a2]) fun a154 => xv C3 (Op.unary .not a154) fun a155 => ∀ w, C3 w → If a155 (
 R (.returned (.bool false)) w) (
 v1 R (Bo .add 3 false true a8 (.int .i64 1)) w fun a138 w =>
 g2 a6_1 a138 w)) (
 L2 a6_1 (.int .i64 0) w (fun g3 a6_2 a9 w =>
 lF R 47 7 44 a0 w fun a160 w =>
 v1 R (Builtin.len_ #[44] 3 #[a160]) w fun a161 w =>
 v1 R (Bo .lss 3 false false a9 a161) w fun a162 w =>
 If a162 (
 ∃ C4 : World → Prop, C4 w.drew ∧
 qF C4 47 7 44 a0 fun a168 => xv C4 (Instr.indexAt 44 a168 a9) fun a170 => xv C4 (Instr.loadAt 41 a170) fun a171 => qF C4 47 7 44 a1 fun a175 => xv C4 (Instr.indexAt 44 a175 a9) fun a177 => xv C4 (Instr.loadAt 41 a177) fun a178 => xq C4 (callFunc 50 #[a171, a178, a2]) fun a180 => xv C4 (Op.unary .not a180) fun a181 => ∀ w, C4 w → If a181 (
 R (.returned (.bool false)) w) (
 v1 R (Bo .add 3 false true a9 (.int .i64 1)) w fun a164 w =>
 g3 a6_2 a164 w)) (
 ∃ C5 : World → Prop, C5 w.drew ∧
 qF C5 47 4 41 a0 fun a185 => qF C5 47 4 41 a1 fun a189 => xq C5 (callFunc 50 #[a185, a189, a2]) fun a191 => Q1 (fun k11 =>
 Gd a191 true (qF C5 47 5 41 a0 fun a196 => qF C5 47 5 41 a1 fun a200 => xq C5 (callFunc 50 #[a196, a200, a2]) fun a202 => k11 a202) (k11 undef)) (fun a202_1 =>
 xv C5 (Pk a191 a202_1 (.bool false)) fun a203 => Q1 (fun k12 =>
 Gd a203 true (qF C5 47 9 26 a0 fun a208 => qF C5 47 9 26 a1 fun a212 => xq C5 (callFunc 26 #[a208, a212, a2]) fun a214 => k12 a214) (k12 undef)) (fun a214_1 =>
 xv C5 (Pk a203 a214_1 (.bool false)) fun a215 => ∀ w, C5 w → R (.returned a215) w)))))))))))))))))))
set_option maxHeartbeats 4000000 in
theorem s50 {R : Ending → World → Prop} {a0 a1 a2 : Value} {w : World} (h : S50 R a0 a1 a2 w) : Calls Tryz.prog 50 #[a0, a1, a2] w R :=
  calls_of [] mixed Tryz.func50 (c := codeB Tryz.f50) (by kernel_rfl) (Nat.le_of_ble_eq_true (by kernel_rfl)) (cast (by kernel_rfl) h)
theorem orline {C : World → Prop} {b : Bool} {X : (Value → Prop) → Prop} {g : Value → Prop} (hg : g (.bool b)) :
   Q1 (fun k3 => Gd (.bool b) false (k3 (.bool false)) (k3 undef)) (fun a33 => Q1 (fun k4 => Gd a33 true (X k4) (k4 undef)) (fun a42 => Q1 (fun k5 => Gd (.bool b) false (Xv Tryz.prog C (Pk a33 a42 (.bool false)) fun a43 => k5 a43) (k5 undef)) (fun a43 => Xv Tryz.prog C (Pk (.bool b) (.bool true) a43) fun a44 => g a44))) := by
 cases b with
 | true =>
   refine Q1.go (Gd.tf ?_); refine Q1.go (Gd.u ?_); refine Q1.go (Gd.tf ?_); exact Xv.i (.bool true) (fun w' _ => by simp [go_sem]) hg
 | false =>
   refine Q1.go (Gd.ff ?_); refine Q1.go (Gd.ft ?_); refine Q1.go (Gd.ff ?_); refine Xv.i (.bool false) (fun w' _ => by simp [go_sem]) ?_; exact Xv.i (.bool false) (fun w' _ => by simp [go_sem]) hg
theorem neInt2 (w : World) (cx cy : Bool) (a b : Int) : (Bo .neq 3 cx cy (.int .i64 a) (.int .i64 b)).run Tryz.prog w = .ok (.bool (!(a == b))) w := by simp [go_sem, Bo]; rfl
theorem neI2 (w : World) (cx cy : Bool) (a b : Int) : (Bo .neq 2 cx cy (.int .i64 a) (.int .i64 b)).run Tryz.prog w = .ok (.bool (!(a == b))) w := by simp [go_sem, Bo]; rfl
theorem If.t' {v : Bool} {x y : Prop} (h : v = true) (hx : x) : If (.bool v) x y := by subst h; exact If.t hx
theorem If.f' {v : Bool} {x y : Prop} (h : v = false) (hy : y) : If (.bool v) x y := by subst h; exact If.f hy
structure RAll (n : Nat) : Prop where
  expr : ∀ {F : Nat → Prop} {w : World} {s t : Tr} {u v : Value}, tz s ≤ n → wf s 0 = true → wf t 0 = true → Rep F w s (.P u) → Rep F w t (.P v) → Calls Tryz.prog 50 #[u, v, .bool false] w (Ret (fun x w' => x = .bool (eqT s t) ∧ Keep [] w w') NP)
  stms : ∀ {F : Nat → Prop} {w : World} {s t : Tr} {u v : Value}, tz s ≤ n → wf s 3 = true → wf t 3 = true → Rep F w s (.L u) → Rep F w t (.L v) → Calls Tryz.prog 26 #[u, v, .bool false] w (Ret (fun x w' => x = .bool (eqT s t) ∧ Keep [] w w') NP)
set_option maxHeartbeats 4000000 in
theorem c50 {n : Nat} (hn : n ≤ fuelMax) (H : RAll n) {F : Nat → Prop} {w : World} {s t : Tr} {u v : Value} (hz : tz s ≤ n + 1) (hs : wf s 0 = true) (ht : wf t 0 = true) (rs : Rep F w s (.P u)) (rt : Rep F w t (.P v)) :
    Calls Tryz.prog 50 #[u, v, .bool false] w (Ret (fun x w' => x = .bool (eqT s t) ∧ Keep [] w w') NP) := by
  refine s50 ?_; unfold S50; rcases wf0_cases hs with rfl | ⟨k, nn, x, l, r, ks, gs, ps, b, rfl⟩
  · obtain rfl : u = .pointer none := rs; rcases wf0_cases ht with rfl | ⟨k2, nn2, x2, l2, r2, ks2, gs2, ps2, b2, rfl⟩
    · obtain rfl : v = .pointer none := rt; repeat (first | refine J1.go ?_ | refine J0.go ?_ | refine Gd.tt ?_ | refine Gd.ff ?_ | refine Gd.tf ?_ | refine Gd.ft ?_ | refine Gd.u ?_ | refine If.t ?_ | refine If.f ?_ | refine Up.i (Nc.p _ _) ?_ | refine V1.load (oneAll rfl) (by assumption) rfl ?_ | refine V1.i (w' := w) (by simp [go_sem]; first | done | rfl | exact ⟨rfl, rfl⟩) ?_)
      exact ⟨by rw [eqT_refl], Keep.refl _ _⟩
    · obtain ⟨q2, line2, lv2, rv2, kv2, av2, pv2, bv2, rfl, _, a2, rl2, rr2, rk2, rg2, rp2, rb2⟩ := rt; rw [eqT_ne (by intro h; cases h)]; unfold ptr; repeat (first | refine J1.go ?_ | refine J0.go ?_ | refine Gd.tt ?_ | refine Gd.ff ?_ | refine Gd.tf ?_ | refine Gd.ft ?_ | refine Gd.u ?_ | refine If.t ?_ | refine If.f ?_ | refine Up.i (Nc.p _ _) ?_ | refine V1.load (oneAll rfl) (by assumption) rfl ?_ | refine V1.i (w' := w) (by simp [go_sem]; first | done | rfl | exact ⟨rfl, rfl⟩) ?_)
      exact ⟨rfl, Keep.refl _ _⟩
  obtain ⟨q, line, lv, rv, kv, av, pv, bv, rfl, _, a1, rl, rr, rk, rg, rp, rb⟩ := rs; rcases wf0_cases ht with rfl | ⟨k2, nn2, x2, l2, r2, ks2, gs2, ps2, b2, rfl⟩
  · obtain rfl : v = .pointer none := rt; rw [eqT_ne (by intro h; cases h)]; unfold ptr; repeat (first | refine J1.go ?_ | refine J0.go ?_ | refine Gd.tt ?_ | refine Gd.ff ?_ | refine Gd.tf ?_ | refine Gd.ft ?_ | refine Gd.u ?_ | refine If.t ?_ | refine If.f ?_ | refine Up.i (Nc.p _ _) ?_ | refine V1.load (oneAll rfl) (by assumption) rfl ?_ | refine V1.i (w' := w) (by simp [go_sem]; first | done | rfl | exact ⟨rfl, rfl⟩) ?_)
    exact ⟨rfl, Keep.refl _ _⟩
  obtain ⟨q2, line2, lv2, rv2, kv2, av2, pv2, bv2, rfl, _, a2, rl2, rr2, rk2, rg2, rp2, rb2⟩ := rt; simp only [wf, Bool.and_eq_true] at hs ht; obtain ⟨⟨⟨⟨⟨_, hl⟩, hr⟩, hk⟩, hg⟩, hb⟩ := hs; obtain ⟨⟨⟨⟨⟨_, hl2⟩, hr2⟩, hk2⟩, hg2⟩, hb2⟩ := ht; have il1 := wf_isList 1 (by simp) hk; have il2 := wf_isList 1 (by simp) hg; have il3 := wf_isList 1 (by simp) hk2; have il4 := wf_isList 1 (by simp) hg2; obtain ⟨ka, kc, rfl⟩ := rk.sln il1; obtain ⟨ga, gc, rfl⟩ := rg.sln il2; obtain ⟨ka2, kc2, rfl⟩ := rk2.sln il3; obtain ⟨ga2, gc2, rfl⟩ := rg2.sln il4; obtain ⟨pa, pc, rfl⟩ := rp.sl; obtain ⟨pa2, pc2, rfl⟩ := rp2.sl; simp only [tz] at hz; unfold ptr; refine V1.i (v := .bool false) (w' := w) (by simp [go_sem]) ?_; refine J1.go (Gd.ff ?_); refine V1.i (v := .bool false) (w' := w) (by simp [go_sem]) ?_; refine V1.i (v := .bool false) (w' := w) (by simp [go_sem]) ?_; refine If.f ?_
  refine ⟨fun w' => Keep [] w w', (Keep.refl _ _).drew, ?_⟩; refine qF.i (fun _ hw => Keep.at hw a1 (by simp)) ?_; refine qF.i (fun _ hw => Keep.at hw a2 (by simp)) ?_; refine Xv.i (.bool (!(k == k2))) (fun w' _ => neInt2 w' _ _ _ _) ?_; refine orline ?_; refine Q1.gd (!(nn == nn2)) (fun _ kx hkx => ?_) ?_
  · refine qF.i (fun _ hw => Keep.at hw a1 (by simp)) ?_; refine qF.i (fun _ hw => Keep.at hw a2 (by simp)) ?_; refine Xv.i (.bool (!(nn == nn2))) (fun w' _ => neI2 w' _ _ _ _) ?_; exact hkx
  refine Xv.i _ (fun w' _ => pkO w' _ _) ?_; refine Q1.gd (!(x == x2)) (fun _ kx hkx => ?_) ?_
  · refine qF.i (fun _ hw => Keep.at hw a1 (by simp)) ?_; refine qF.i (fun _ hw => Keep.at hw a2 (by simp)) ?_; refine Xv.i (.bool (!(x == x2))) (fun w' _ => neS w' _ _ _ _) ?_; exact hkx
  refine Xv.i _ (fun w' _ => pkO w' _ _) ?_; refine Q1.gd (!decide ((len ks) = (len ks2))) (fun _ kx hkx => ?_) ?_
  · refine qF.i (fun _ hw => Keep.at hw a1 (by simp)) ?_; refine Xv.i (.int .i64 ((len ks) : Nat)) (fun w' _ => by simp [go_sem]) ?_; refine qF.i (fun _ hw => Keep.at hw a2 (by simp)) ?_; refine Xv.i (.int .i64 ((len ks2) : Nat)) (fun w' _ => by simp [go_sem]) ?_; refine Xv.i _ (fun w' _ => neL w' _ _ _ _) ?_; exact hkx
  refine Xv.i _ (fun w' _ => pkO w' _ _) ?_; refine Q1.gd (!decide ((len gs) = (len gs2))) (fun _ kx hkx => ?_) ?_
  · refine qF.i (fun _ hw => Keep.at hw a1 (by simp)) ?_; refine Xv.i (.int .i64 ((len gs) : Nat)) (fun w' _ => by simp [go_sem]) ?_; refine qF.i (fun _ hw => Keep.at hw a2 (by simp)) ?_; refine Xv.i (.int .i64 ((len gs2) : Nat)) (fun w' _ => by simp [go_sem]) ?_; refine Xv.i _ (fun w' _ => neL w' _ _ _ _) ?_; exact hkx
  refine Xv.i _ (fun w' _ => pkO w' _ _) ?_; refine Q1.gd (!decide (ps.length = ps2.length)) (fun _ kx hkx => ?_) ?_
  · refine qF.i (fun _ hw => Keep.at hw a1 (by simp)) ?_; refine Xv.i (.int .i64 (ps.length : Nat)) (fun w' _ => by simp [go_sem]) ?_; refine qF.i (fun _ hw => Keep.at hw a2 (by simp)) ?_; refine Xv.i (.int .i64 (ps2.length : Nat)) (fun w' _ => by simp [go_sem]) ?_; refine Xv.i _ (fun w' _ => neL w' _ _ _ _) ?_; exact hkx
  refine Xv.i _ (fun w' _ => pkO w' _ _) ?_; intro w1 K1; by_cases hall : k = k2 ∧ nn = nn2 ∧ x = x2 ∧ len ks = len ks2 ∧ len gs = len gs2 ∧ ps.length = ps2.length
  rotate_left
  · refine If.t' ?_ ⟨?_, K1⟩
    · clear H rk rk2 rg rg2 rp rp2 rl rl2 rr rr2 rb rb2 a1 a2 K1 hk hk2 hg hg2 hl hl2 hr hr2 hb hb2 il1 il2 il3 il4 hz hn; by_cases h1 : k = k2 <;> by_cases h2 : nn = nn2 <;> by_cases h3 : x = x2 <;> by_cases h4 : len ks = len ks2 <;> by_cases h5 : len gs = len gs2 <;> by_cases h6 : ps.length = ps2.length <;> simp_all
    · rw [eqT_ne]; intro e; injection e with e1 e2 e3 e4 e5 e6 e7 e8 e9; subst e1 e2 e3 e6 e7 e8; exact hall ⟨rfl, rfl, rfl, rfl, rfl, rfl⟩
  obtain ⟨rfl, rfl, rfl, hlk, hlg, hlp⟩ := hall; refine If.f' (by simp [hlk, hlg, hlp]) ?_; rw [eqT_ex]; simp only [BEq.rfl, Bool.true_and]; replace a1 := K1.at a1 (by simp); replace a2 := K1.at a2 (by simp); have su := Strs.keep K1 (fun b h1 _ => ⟨by simp, h1⟩) rp; have sv := Strs.keep K1 (fun b h1 _ => ⟨by simp, h1⟩) rp2; replace rl := Rep.new K1 _ _ rl; replace rl2 := Rep.new K1 _ _ rl2; replace rr := Rep.new K1 _ _ rr; replace rr2 := Rep.new K1 _ _ rr2; replace rk := Rep.new K1 _ _ rk; replace rk2 := Rep.new K1 _ _ rk2; replace rg := Rep.new K1 _ _ rg; replace rg2 := Rep.new K1 _ _ rg2; replace rb := Rep.new K1 _ _ rb; replace rb2 := Rep.new K1 _ _ rb2; clear rp rp2; unfold fuelMax at hn
  refine L2.i (fun x0 x1 w' => ∃ i : Nat, x1 = .int .i64 (i : Nat) ∧ i ≤ ps.length ∧ ps.take i = ps2.take i ∧ Keep [] w1 w') (fun _ v _ => match v with | .int _ n => (ps.length - n.toNat) | _ => 0) ⟨0, rfl, by omega, by simp, Keep.refl _ _⟩ ?_; rintro x0 x1 w2 ⟨i, rfl, hi, hpe, K2⟩; have a1' := K2.at a1 (by simp); have a2' := K2.at a2 (by simp); refine lF.i a1' ?_; refine V1.i (by simp [go_sem] <;> trivial) ?_; by_cases hlt : i < ps.length
  · refine V1.i (v := .bool true) (w' := w2) (by simp [go_sem]; omega) ?_; refine If.t ?_; have hlt2 : i < ps2.length := by omega
    obtain ⟨qa, rfl, _⟩ := su.get hlt; obtain ⟨qb, rfl, _⟩ := sv.get hlt2; have hu1 := Strs.keep K2 (fun b h1 _ => ⟨by simp, h1⟩) su; have hv1 := Strs.keep K2 (fun b h1 _ => ⟨by simp, h1⟩) sv; refine ⟨fun w' => Keep [] w2 w', (Keep.refl _ _).drew, ?_⟩; refine qF.i (fun _ hw => Keep.at hw a1' (by simp)) ?_; refine Xv.i _ (fun w' _ => ix45 w' hlt) ?_; refine Xv.i (str ps[i]) (fun w' hw => (oneAll rfl) _ _ _ (Strs.cell (Strs.keep hw (fun b h1 _ => ⟨by simp, h1⟩) hu1) hlt)) ?_; refine qF.i (fun _ hw => Keep.at hw a2' (by simp)) ?_; refine Xv.i _ (fun w' _ => ix45 w' hlt2) ?_; refine Xv.i (str ps2[i]) (fun w' hw => (oneAll rfl) _ _ _ (Strs.cell (Strs.keep hw (fun b h1 _ => ⟨by simp, h1⟩) hv1) hlt2)) ?_; refine Xv.i _ (fun w' _ => neS w' _ _ _ _) ?_; intro w3 K3; by_cases hx : ps[i] = ps2[i]
    · rw [show (!(ps[i] == ps2[i])) = false by simp [hx]]; refine If.f ?_; refine V1.i (addI _ _ _ _ _ _ (by omega) (by omega)) ?_; refine ⟨⟨i + 1, by simp, by omega, ?_, K2.trans K3⟩, by simp; omega⟩; rw [List.take_succ_eq_append_getElem hlt, List.take_succ_eq_append_getElem hlt2, hpe, hx]
    · rw [show (!(ps[i] == ps2[i])) = true by simp [hx]]; refine If.t ⟨?_, (K1.trans K2).trans K3⟩; rw [show (ps == ps2) = false by simp; rintro rfl; exact hx rfl]; simp
  obtain rfl : i = ps.length := by omega
  refine V1.i (v := .bool false) (w' := w2) (by simp [go_sem]) ?_; refine If.f ?_; rw [List.take_length, hlp, List.take_length] at hpe; subst hpe; simp only [BEq.rfl, Bool.and_true]; clear hlt hi; refine L2.i (fun x0 x1 w' => ∃ i j s' t', x1 = .int .i64 (i : Nat) ∧ i + j = len ks ∧ i + tz s' ≤ n ∧ wf s' 1 = true ∧ wf t' 1 = true ∧ RowAt F w' s' ka i j ∧ RowAt F w' t' ka2 i j ∧ Keep [] w1 w' ∧ eqT ks ks2 = eqT s' t') (fun _ v _ => match v with | .int _ n => (len ks - n.toNat) | _ => 0) ⟨0, len ks, ks, ks2, rfl, by omega, by omega, hk, hk2, (Rep.new K2 _ _ rk).rowAt il1, by rw [hlk]; exact (Rep.new K2 _ _ rk2).rowAt il3, K2, rfl⟩ ?_; rintro x0 x1 w4 ⟨i, j, s', t', rfl, hij, hzi, hws, hwt, os, ot, K4, he⟩; have a1' := K4.at a1 (by simp); have a2' := K4.at a2 (by simp); refine lF.i a1' ?_; refine V1.i (by simp [go_sem] <;> trivial) ?_; rcases wf1_cases hws with rfl | ⟨x', l', rfl, hx, hwl⟩
  rotate_left
  · rcases os with ⟨h, _⟩ | ⟨q0, rfl, j', u, rfl, hc, hf, rx, rl'⟩
    · cases h
    have ol : RowAt F w4 l' (some ⟨q0, 0, none⟩) (i + 1) j' := .inr ⟨q0, rfl, rl'⟩; rcases wf1_cases hwt with rfl | ⟨y, m, rfl, hy, hm⟩
    · rcases ot with ⟨_, h⟩ | ⟨q0, _, h⟩
      · omega
      · exact absurd (show j' + 1 = 0 from h) (by omega)
    rcases ot with ⟨h, _⟩ | ⟨q3, rfl, j2, u2, e2, hc2, hf2, ry, rm⟩
    · cases h
    obtain rfl : j' = j2 := by omega
    have om : RowAt F w4 m (some ⟨q3, 0, none⟩) (i + 1) j' := .inr ⟨q3, rfl, rm⟩; clear rl' rm; have hzz := hzi; simp only [tz] at hzz; have hp1 := tz_pos x'; have hp2 := tz_pos l'; refine V1.i (v := .bool true) (w' := w4) (by simp [go_sem]; omega) ?_; refine If.t ?_; refine ⟨fun w' => Keep [] w4 w', (Keep.refl _ _).drew, ?_⟩; refine qF.i (fun _ hw => Keep.at hw a1' (by simp)) ?_; refine Xv.i _ (fun w' _ => ix44 (by omega)) ?_; refine Xv.i u (fun w' hw => (oneAll rfl) _ _ _ (hw.cell hc (by simp))) ?_; refine qF.i (fun _ hw => Keep.at hw a2' (by simp)) ?_; refine Xv.i _ (fun w' _ => ix44 (by omega)) ?_; refine Xv.i u2 (fun w' hw => (oneAll rfl) _ _ _ (hw.cell hc2 (by simp))) ?_
    refine Xq.call (fn := Tryz.f50) (.bool (eqT x' y)) (callFunc_run Tryz.func50 (c := codeB Tryz.f50) (by kernel_rfl) (by kernel_rfl) _) (fun w' hw => (H.expr (by omega) hx hy (Rep.new hw _ _ rx) (Rep.new hw _ _ ry)).mono ?_) ?_
    · exact ret_bool hw
    refine Xv.i (.bool (!(eqT x' y))) (fun w' _ => by simp [go_sem]) ?_; intro w4x K4x; rw [eqT_cons] at he
    cases hxy : eqT x' y with
    | false =>
      rw [hxy, Bool.false_and] at he; refine If.t ⟨?_, (K1.trans K4).trans K4x⟩; rw [he]; simp
    | true =>
      rw [hxy, Bool.true_and] at he; refine If.f ?_; refine V1.i (addI _ _ _ _ _ _ (by omega) (by omega)) ?_; exact ⟨⟨i + 1, j', l', m, by simp, by omega, by omega, hwl, hm, ol.keep K4x, om.keep K4x, K4.trans K4x, he⟩, by simp; omega⟩
  have hj : j = 0 := by
    rcases os with ⟨_, h⟩ | ⟨q0, _, h⟩
    · exact h
    · exact h
  subst hj; have het : eqT ks ks2 = true := by
    rw [he]; rcases wf1_cases hwt with rfl | ⟨y, m, rfl, hy, hm⟩
    · rw [eqT_refl]
    · rcases ot with ⟨h, _⟩ | ⟨q0, _, j', u, h, _⟩
      · cases h
      · omega
  refine V1.i (v := .bool false) (w' := w4) (by simp [go_sem]; omega) ?_; refine If.f ?_; rw [het]; simp only [Bool.true_and, Bool.and_true]; clear os ot he hij hzi hws hwt a1' a2'; refine L2.i (fun x0 x1 w' => ∃ i j s' t', x1 = .int .i64 (i : Nat) ∧ i + j = len gs ∧ i + tz s' ≤ n ∧ wf s' 1 = true ∧ wf t' 1 = true ∧ RowAt F w' s' ga i j ∧ RowAt F w' t' ga2 i j ∧ Keep [] w1 w' ∧ eqT gs gs2 = eqT s' t') (fun _ v _ => match v with | .int _ n => (len gs - n.toNat) | _ => 0) ⟨0, len gs, gs, gs2, rfl, by omega, by omega, hg, hg2, (Rep.new K4 _ _ rg).rowAt il2, by rw [hlg]; exact (Rep.new K4 _ _ rg2).rowAt il4, K4, rfl⟩ ?_; rintro x0 x1 w6 ⟨i, j, s', t', rfl, hij, hzi, hws, hwt, os, ot, K6, he⟩; have a1' := K6.at a1 (by simp); have a2' := K6.at a2 (by simp); refine lF.i a1' ?_; refine V1.i (by simp [go_sem] <;> trivial) ?_; rcases wf1_cases hws with rfl | ⟨x', l', rfl, hx, hwl⟩
  rotate_left
  · rcases os with ⟨h, _⟩ | ⟨q0, rfl, j', u, rfl, hc, hf, rx, rl'⟩
    · cases h
    have ol : RowAt F w6 l' (some ⟨q0, 0, none⟩) (i + 1) j' := .inr ⟨q0, rfl, rl'⟩; rcases wf1_cases hwt with rfl | ⟨y, m, rfl, hy, hm⟩
    · rcases ot with ⟨_, h⟩ | ⟨q0, _, h⟩
      · omega
      · exact absurd (show j' + 1 = 0 from h) (by omega)
    rcases ot with ⟨h, _⟩ | ⟨q3, rfl, j2, u2, e2, hc2, hf2, ry, rm⟩
    · cases h
    obtain rfl : j' = j2 := by omega
    have om : RowAt F w6 m (some ⟨q3, 0, none⟩) (i + 1) j' := .inr ⟨q3, rfl, rm⟩; clear rl' rm; have hzz := hzi; simp only [tz] at hzz; have hp1 := tz_pos x'; have hp2 := tz_pos l'; refine V1.i (v := .bool true) (w' := w6) (by simp [go_sem]; omega) ?_; refine If.t ?_; refine ⟨fun w' => Keep [] w6 w', (Keep.refl _ _).drew, ?_⟩; refine qF.i (fun _ hw => Keep.at hw a1' (by simp)) ?_; refine Xv.i _ (fun w' _ => ix44 (by omega)) ?_; refine Xv.i u (fun w' hw => (oneAll rfl) _ _ _ (hw.cell hc (by simp))) ?_; refine qF.i (fun _ hw => Keep.at hw a2' (by simp)) ?_; refine Xv.i _ (fun w' _ => ix44 (by omega)) ?_; refine Xv.i u2 (fun w' hw => (oneAll rfl) _ _ _ (hw.cell hc2 (by simp))) ?_
    refine Xq.call (fn := Tryz.f50) (.bool (eqT x' y)) (callFunc_run Tryz.func50 (c := codeB Tryz.f50) (by kernel_rfl) (by kernel_rfl) _) (fun w' hw => (H.expr (by omega) hx hy (Rep.new hw _ _ rx) (Rep.new hw _ _ ry)).mono ?_) ?_
    · exact ret_bool hw
    refine Xv.i (.bool (!(eqT x' y))) (fun w' _ => by simp [go_sem]) ?_; intro w6x K6x; rw [eqT_cons] at he
    cases hxy : eqT x' y with
    | false =>
      rw [hxy, Bool.false_and] at he; refine If.t ⟨?_, (K1.trans K6).trans K6x⟩; rw [he]; simp
    | true =>
      rw [hxy, Bool.true_and] at he; refine If.f ?_; refine V1.i (addI _ _ _ _ _ _ (by omega) (by omega)) ?_; exact ⟨⟨i + 1, j', l', m, by simp, by omega, by omega, hwl, hm, ol.keep K6x, om.keep K6x, K6.trans K6x, he⟩, by simp; omega⟩
  have hj : j = 0 := by
    rcases os with ⟨_, h⟩ | ⟨q0, _, h⟩
    · exact h
    · exact h
  subst hj; have het : eqT gs gs2 = true := by
    rw [he]; rcases wf1_cases hwt with rfl | ⟨y, m, rfl, hy, hm⟩
    · rw [eqT_refl]
    · rcases ot with ⟨h, _⟩ | ⟨q0, _, j', u, h, _⟩
      · cases h
      · omega
  refine V1.i (v := .bool false) (w' := w6) (by simp [go_sem]; omega) ?_; refine If.f ?_; rw [het]; simp only [Bool.true_and, Bool.and_true]; clear os ot he hij hzi hws hwt a1' a2'; have a1' := K6.at a1 (by simp); have a2' := K6.at a2 (by simp); replace rl := Rep.new K6 _ _ rl; replace rl2 := Rep.new K6 _ _ rl2; replace rr := Rep.new K6 _ _ rr; replace rr2 := Rep.new K6 _ _ rr2; replace rb := Rep.new K6 _ _ rb; replace rb2 := Rep.new K6 _ _ rb2; refine ⟨fun w' => Keep [] w6 w', (Keep.refl _ _).drew, ?_⟩; refine qF.i (fun _ hw => Keep.at hw a1' (by simp)) ?_; refine qF.i (fun _ hw => Keep.at hw a2' (by simp)) ?_; refine Xq.call (fn := Tryz.f50) (.bool (eqT l l2)) (callFunc_run Tryz.func50 (c := codeB Tryz.f50) (by kernel_rfl) (by kernel_rfl) _) (fun w' hw => (H.expr (by omega) hl hl2 (Rep.new hw _ _ rl) (Rep.new hw _ _ rl2)).mono ?_) ?_
  · exact ret_bool hw
  refine Q1.gd (eqT r r2) (fun _ kx hkx => ?_) ?_
  · refine qF.i (fun _ hw => Keep.at hw a1' (by simp)) ?_; refine qF.i (fun _ hw => Keep.at hw a2' (by simp)) ?_; refine Xq.call (fn := Tryz.f50) (.bool (eqT r r2)) (callFunc_run Tryz.func50 (c := codeB Tryz.f50) (by kernel_rfl) (by kernel_rfl) _) (fun w' hw => (H.expr (by omega) hr hr2 (Rep.new hw _ _ rr) (Rep.new hw _ _ rr2)).mono ?_) ?_
    · exact ret_bool hw
    exact hkx
  refine Xv.i _ (fun w' _ => pkA w' _ _) ?_; refine Q1.gd (eqT b b2) (fun _ kx hkx => ?_) ?_
  · refine qF.i (fun _ hw => Keep.at hw a1' (by simp)) ?_; refine qF.i (fun _ hw => Keep.at hw a2' (by simp)) ?_; refine Xq.call (fn := Tryz.f26) (.bool (eqT b b2)) (callFunc_run Tryz.func26 (c := codeB Tryz.f26) (by kernel_rfl) (by kernel_rfl) _) (fun w' hw => (H.stms (by omega) hb hb2 (Rep.new hw _ _ rb) (Rep.new hw _ _ rb2)).mono ?_) ?_
    · exact ret_bool hw
    exact hkx
  refine Xv.i _ (fun w' _ => pkA w' _ _) ?_; intro w8 K8; exact ⟨rfl, (K1.trans K6).trans K8⟩
set_option maxHeartbeats 4000000 in
theorem c26 {n : Nat} (hn : n ≤ fuelMax) (H : RAll n) {F : Nat → Prop} {w : World} {s t : Tr} {u v : Value} (hz : tz s ≤ n + 1) (hs : wf s 3 = true) (ht : wf t 3 = true) (rs : Rep F w s (.L u)) (rt : Rep F w t (.L v)) :
    Calls Tryz.prog 26 #[u, v, .bool false] w (Ret (fun x w' => x = .bool (eqT s t) ∧ Keep [] w w') NP) := by
  refine s26 ?_; unfold S26; have is := wf_isList 3 (by simp) hs; have it := wf_isList 3 (by simp) ht; obtain ⟨ka, kc, rfl⟩ := rs.sln is; obtain ⟨ka2, kc2, rfl⟩ := rt.sln it; have os := rs.rowAt is; have ot := rt.rowAt it; refine V1.i (by simp [go_sem] <;> trivial) ?_; refine V1.i (by simp [go_sem] <;> trivial) ?_; refine V1.i (neL _ _ _ _ _) ?_; by_cases hl : len s = len t
  rotate_left
  · rw [show decide (len s = len t) = false by simpa using hl]; refine If.t ⟨?_, Keep.refl _ _⟩; rw [eqT_ne (fun h => hl (by rw [h]))]
  rw [show decide (len s = len t) = true by simpa using hl]; refine If.f ?_; rw [← hl] at ot; unfold fuelMax at hn; refine L2.i (fun x0 x1 w' => ∃ i j s' t', x1 = .int .i64 (i : Nat) ∧ i + j = len s ∧ i + tz s' ≤ n + 1 ∧ wf s' 3 = true ∧ wf t' 3 = true ∧ RowAt F w' s' ka i j ∧ RowAt F w' t' ka2 i j ∧ Keep [] w w' ∧ eqT s t = eqT s' t') (fun _ v _ => match v with | .int _ n => (len s - n.toNat) | _ => 0) ⟨0, len s, s, t, rfl, by omega, by omega, hs, ht, os, ot, Keep.refl _ _, rfl⟩ ?_; clear os ot hs ht rs rt is it hz; rintro x0 x1 w1 ⟨i, j, s', t', rfl, hij, hzi, hws, hwt, os, ot, K1, he⟩; refine V1.i (by simp [go_sem] <;> trivial) ?_; rcases wf3_cases hws with rfl | ⟨x', l', rfl, hx, hwl⟩
  · have hj : j = 0 := by
      rcases os with ⟨_, h⟩ | ⟨q0, _, h⟩
      · exact h
      · exact h
    subst hj; refine V1.i (v := .bool false) (w' := w1) (by simp [go_sem]; omega) ?_; refine If.f ⟨?_, K1⟩; rw [he]; rcases wf3_cases hwt with rfl | ⟨y, m, rfl, hy, hm⟩
    · rw [eqT_refl]
    · rcases ot with ⟨h, _⟩ | ⟨q0, _, j', u, h, _⟩
      · cases h
      · omega
  rcases os with ⟨h, _⟩ | ⟨q0, rfl, j', u, rfl, hc, hf, rx, rl'⟩
  · cases h
  have ol : RowAt F w1 l' (some ⟨q0, 0, none⟩) (i + 1) j' := .inr ⟨q0, rfl, rl'⟩; rcases wf3_cases hwt with rfl | ⟨y, m, rfl, hy, hm⟩
  · rcases ot with ⟨_, h⟩ | ⟨q0, _, h⟩
    · omega
    · exact absurd (show j' + 1 = 0 from h) (by omega)
  rcases ot with ⟨h, _⟩ | ⟨q3, rfl, j2, u2, e2, hc2, hf2, ry, rm⟩
  · cases h
  obtain rfl : j' = j2 := by omega
  have om : RowAt F w1 m (some ⟨q3, 0, none⟩) (i + 1) j' := .inr ⟨q3, rfl, rm⟩; clear rl' rm; have hzz := hzi; simp only [tz] at hzz; have hp1 := tz_pos x'; have hp2 := tz_pos l'; refine V1.i (v := .bool true) (w' := w1) (by simp [go_sem]; omega) ?_; refine If.t ?_; refine J1.cut (fun x w' => eqT x' y = true ∧ Keep [] w1 w') ?_ ?_; rotate_left
  · rintro x w2 ⟨hxy, K2⟩; rw [eqT_cons, hxy, Bool.true_and] at he; refine V1.i (addI _ _ _ _ _ _ (by omega) (by omega)) ?_; exact ⟨⟨i + 1, j', l', m, by simp, by omega, by omega, hwl, hm, ol.keep K2, om.keep K2, K1.trans K2, he⟩, by simp; omega⟩
  refine ⟨fun w' => Keep [] w1 w', (Keep.refl _ _).drew, ?_⟩; refine Xv.i _ (fun w' _ => ix26 (by omega)) ?_; refine Xv.i u (fun w' hw => (oneAll rfl) _ _ _ (hw.cell hc (by simp))) ?_; refine Xv.i _ (fun w' _ => ix26 (by omega)) ?_; refine Xv.i u2 (fun w' hw => (oneAll rfl) _ _ _ (hw.cell hc2 (by simp))) ?_; intro w2 K2; replace rx := Rep.new K2 _ _ rx; replace ry := Rep.new K2 _ _ ry; have hneq : eqT x' y = false → eqT s t = false := fun h => by rw [he, eqT_cons, h, Bool.false_and]
  rcases wf2_cases hx with rfl | ⟨k, x, l, r, t0, a, c, rfl⟩
  · obtain rfl : u = .pointer none := rx; rcases wf2_cases hy with rfl | ⟨k2, x2, l2, r2, t2, b, d, rfl⟩
    · obtain rfl : u2 = .pointer none := ry; repeat (first | refine J1.go ?_ | refine J0.go ?_ | refine Gd.tt ?_ | refine Gd.ff ?_ | refine Gd.tf ?_ | refine Gd.ft ?_ | refine Gd.u ?_ | refine If.t ?_ | refine If.f ?_ | refine Up.i (Nc.p _ _) ?_ | refine V1.load (oneAll rfl) (by assumption) rfl ?_ | refine V1.i (w' := w2) (by simp [go_sem]; first | done | rfl | exact ⟨rfl, rfl⟩) ?_)
      exact ⟨eqT_refl _, K2⟩
    · obtain ⟨qq2, line2, lv2, rv2, tv2, av2, bv2, rfl, _, b2, rl2, rr2, rt2, ra2, rb2⟩ := ry; unfold ptr; repeat (first | refine J1.go ?_ | refine J0.go ?_ | refine Gd.tt ?_ | refine Gd.ff ?_ | refine Gd.tf ?_ | refine Gd.ft ?_ | refine Gd.u ?_ | refine If.t ?_ | refine If.f ?_ | refine Up.i (Nc.p _ _) ?_ | refine V1.load (oneAll rfl) (by assumption) rfl ?_ | refine V1.i (w' := w2) (by simp [go_sem]; first | done | rfl | exact ⟨rfl, rfl⟩) ?_)
      exact ⟨by rw [hneq (eqT_ne (by intro h; cases h))], K1.trans K2⟩
  · obtain ⟨qq, line, lv, rv, tv, av, bv, rfl, _, b1, rl, rr, rt0, ra, rb⟩ := rx; rcases wf2_cases hy with rfl | ⟨k2, x2, l2, r2, t2, b, d, rfl⟩
    · obtain rfl : u2 = .pointer none := ry; unfold ptr; repeat (first | refine J1.go ?_ | refine J0.go ?_ | refine Gd.tt ?_ | refine Gd.ff ?_ | refine Gd.tf ?_ | refine Gd.ft ?_ | refine Gd.u ?_ | refine If.t ?_ | refine If.f ?_ | refine Up.i (Nc.p _ _) ?_ | refine V1.load (oneAll rfl) (by assumption) rfl ?_ | refine V1.i (w' := w2) (by simp [go_sem]; first | done | rfl | exact ⟨rfl, rfl⟩) ?_)
      exact ⟨by rw [hneq (eqT_ne (by intro h; cases h))], K1.trans K2⟩
    obtain ⟨qq2, line2, lv2, rv2, tv2, av2, bv2, rfl, _, b2, rl2, rr2, rt2, ra2, rb2⟩ := ry; simp only [wf, Bool.and_eq_true] at hx hy; obtain ⟨⟨⟨⟨hl, hr⟩, ht0⟩, ha⟩, hb⟩ := hx; obtain ⟨⟨⟨⟨hl2, hr2⟩, ht2⟩, ha2⟩, hb2⟩ := hy; simp only [tz] at hzz; unfold ptr; refine V1.i (v := .bool false) (w' := w2) (by simp [go_sem]) ?_; refine J1.go (Gd.ff ?_); refine V1.i (v := .bool false) (w' := w2) (by simp [go_sem]) ?_; refine V1.i (v := .bool false) (w' := w2) (by simp [go_sem]) ?_; refine If.f ?_; refine ⟨fun w' => Keep [] w2 w', (Keep.refl _ _).drew, ?_⟩; refine qF.i (fun _ hw => Keep.at hw b1 (by simp)) ?_; refine qF.i (fun _ hw => Keep.at hw b2 (by simp)) ?_; refine Xv.i (.bool (!(k == k2))) (fun w' _ => neInt2 w' _ _ _ _) ?_; refine orline ?_; refine Q1.gd (!(x == x2)) (fun _ kx hkx => ?_) ?_
    · refine qF.i (fun _ hw => Keep.at hw b1 (by simp)) ?_; refine qF.i (fun _ hw => Keep.at hw b2 (by simp)) ?_; refine Xv.i (.bool (!(x == x2))) (fun w' _ => neS w' _ _ _ _) ?_; exact hkx
    refine Xv.i _ (fun w' _ => pkO w' _ _) ?_; refine Q1.gd (!(eqT l l2)) (fun _ kx hkx => ?_) ?_
    · refine qF.i (fun _ hw => Keep.at hw b1 (by simp)) ?_; refine qF.i (fun _ hw => Keep.at hw b2 (by simp)) ?_; refine Xq.call (fn := Tryz.f50) (.bool (eqT l l2)) (callFunc_run Tryz.func50 (c := codeB Tryz.f50) (by kernel_rfl) (by kernel_rfl) _) (fun w' hw => (H.expr (by omega) hl hl2 (Rep.new hw _ _ rl) (Rep.new hw _ _ rl2)).mono ?_) ?_
      · exact ret_bool hw
      refine Xv.i (.bool (!(eqT l l2))) (fun w' _ => by simp [go_sem]) ?_; exact hkx
    refine Xv.i _ (fun w' _ => pkO w' _ _) ?_; refine Q1.gd (!(eqT r r2)) (fun _ kx hkx => ?_) ?_
    · refine qF.i (fun _ hw => Keep.at hw b1 (by simp)) ?_; refine qF.i (fun _ hw => Keep.at hw b2 (by simp)) ?_; refine Xq.call (fn := Tryz.f50) (.bool (eqT r r2)) (callFunc_run Tryz.func50 (c := codeB Tryz.f50) (by kernel_rfl) (by kernel_rfl) _) (fun w' hw => (H.expr (by omega) hr hr2 (Rep.new hw _ _ rr) (Rep.new hw _ _ rr2)).mono ?_) ?_
      · exact ret_bool hw
      refine Xv.i (.bool (!(eqT r r2))) (fun w' _ => by simp [go_sem]) ?_; exact hkx
    refine Xv.i _ (fun w' _ => pkO w' _ _) ?_; refine Q1.gd (!(eqT t0 t2)) (fun _ kx hkx => ?_) ?_
    · refine qF.i (fun _ hw => Keep.at hw b1 (by simp)) ?_; refine qF.i (fun _ hw => Keep.at hw b2 (by simp)) ?_; refine Xq.call (fn := Tryz.f50) (.bool (eqT t0 t2)) (callFunc_run Tryz.func50 (c := codeB Tryz.f50) (by kernel_rfl) (by kernel_rfl) _) (fun w' hw => (H.expr (by omega) ht0 ht2 (Rep.new hw _ _ rt0) (Rep.new hw _ _ rt2)).mono ?_) ?_
      · exact ret_bool hw
      refine Xv.i (.bool (!(eqT t0 t2))) (fun w' _ => by simp [go_sem]) ?_; exact hkx
    refine Xv.i _ (fun w' _ => pkO w' _ _) ?_; refine Q1.gd (!(eqT a b)) (fun _ kx hkx => ?_) ?_
    · refine qF.i (fun _ hw => Keep.at hw b1 (by simp)) ?_; refine qF.i (fun _ hw => Keep.at hw b2 (by simp)) ?_; refine Xq.call (fn := Tryz.f26) (.bool (eqT a b)) (callFunc_run Tryz.func26 (c := codeB Tryz.f26) (by kernel_rfl) (by kernel_rfl) _) (fun w' hw => (H.stms (by omega) ha ha2 (Rep.new hw _ _ ra) (Rep.new hw _ _ ra2)).mono ?_) ?_
      · exact ret_bool hw
      refine Xv.i (.bool (!(eqT a b))) (fun w' _ => by simp [go_sem]) ?_; exact hkx
    refine Xv.i _ (fun w' _ => pkO w' _ _) ?_; refine Q1.gd (!(eqT c d)) (fun _ kx hkx => ?_) ?_
    · refine qF.i (fun _ hw => Keep.at hw b1 (by simp)) ?_; refine qF.i (fun _ hw => Keep.at hw b2 (by simp)) ?_; refine Xq.call (fn := Tryz.f26) (.bool (eqT c d)) (callFunc_run Tryz.func26 (c := codeB Tryz.f26) (by kernel_rfl) (by kernel_rfl) _) (fun w' hw => (H.stms (by omega) hb hb2 (Rep.new hw _ _ rb) (Rep.new hw _ _ rb2)).mono ?_) ?_
      · exact ret_bool hw
      refine Xv.i (.bool (!(eqT c d))) (fun w' _ => by simp [go_sem]) ?_; exact hkx
    refine Xv.i _ (fun w' _ => pkO w' _ _) ?_; intro w3 K3; have hst : (((((((!(k == k2)) || !(x == x2)) || !(eqT l l2)) || !(eqT r r2)) || !(eqT t0 t2)) || !(eqT a b)) || !(eqT c d)) = !(eqT (.st k x l r t0 a c) (.st k2 x2 l2 r2 t2 b d)) := by
      rw [eqT_st]; simp only [Bool.not_and]
    rw [hst]
    cases hxy : eqT (.st k x l r t0 a c) (.st k2 x2 l2 r2 t2 b d) with
    | true => exact If.f ⟨rfl, K2.trans K3⟩
    | false =>
      refine If.t ⟨?_, (K1.trans K2).trans K3⟩; rw [hneq hxy]
theorem ref_all : ∀ n, n ≤ fuelMax → RAll n
  | 0, _ => ⟨fun {_ _ s _ _ _} h => absurd h (by have := tz_pos s; omega), fun {_ _ s _ _ _} h => absurd h (by have := tz_pos s; omega)⟩
  | n + 1, hn => ⟨c50 (by omega) (ref_all n (by omega)), c26 (by omega) (ref_all n (by omega))⟩
def S15 (R : Ending → World → Prop) (a0 a1 : Value) (w : World) : Prop :=
 cf R 34 #[a0, (.int .i64 0)] w fun a6 w =>
 v1 R (Bo .leq 3 false true a6 (.int .i64 65536)) w fun a7 w =>
 J1 (fun k1 =>
 Gd a7 true (cf R 34 #[a1, (.int .i64 0)] w fun a10 w =>
 v1 R (Bo .leq 3 false true a10 (.int .i64 65536)) w fun a11 w =>
 k1 a11 w) (k1 undef w)) (fun a11_1 w =>
 v1 R (Pk a7 a11_1 (.bool false)) w fun a12 w =>
 J1 (fun k2 =>
 Gd a12 true (cf R 26 #[a0, a1, (.bool false)] w fun a16 w =>
 k2 a16 w) (k2 undef w)) (fun a16_1 w =>
 v1 R (Pk a12 a16_1 (.bool false)) w fun a17 w =>
 R (.returned a17) w))
theorem s15 {R : Ending → World → Prop} {a0 a1 : Value} {w : World} (h : S15 R a0 a1 w) : Calls Tryz.prog 15 #[a0, a1] w R :=
  calls_of [] mixed Tryz.func15 (c := codeB Tryz.f15) (by kernel_rfl) (Nat.le_of_ble_eq_true (by kernel_rfl)) (cast (by kernel_rfl) h)
theorem cf15 : CfT 15 := CfT.mk Tryz.func15 (c := codeB Tryz.f15) (by kernel_rfl) (by kernel_rfl)
def S34 (R : Ending → World → Prop) (a0 a1 : Value) (w : World) : Prop :=
 L2 a1 (.int .i64 0) w (fun g1 a1_1 a5 w =>
 v1 R (Builtin.len_ #[26] 3 #[a0]) w fun a9 w =>
 v1 R (Bo .lss 3 false false a5 a9) w fun a10 w =>
 J1 (fun k1 =>
 Gd a10 true (v1 R (Bo .leq 3 false true a1_1 (.int .i64 65536)) w fun a13 w =>
 k1 a13 w) (k1 undef w)) (fun a13_1 w =>
 v1 R (Pk a10 a13_1 (.bool false)) w fun a14 w =>
 If a14 (
 J1 (fun k2 =>
 v1 R (Instr.indexAt 26 a0 a5) w fun a19 w =>
 v1 R (Instr.loadAt 40 a19) w fun a20 w =>
 v1 R (Bo .neq 40 false true a20 (.pointer none)) w fun a22 w =>
 If a22 (
 v1 R (Bo .add 3 false true a1_1 (.int .i64 1)) w fun a24 w =>
 ∃ S1 : World → Prop, S1 w.drew ∧
 xF S1 43 3 41 a20 fun a28 => xF S1 43 4 41 a20 fun a32 => xF S1 43 5 41 a20 fun a36 => v1 R (Instr.buildSlice 44 3 #[(0, a28), (1, a32), (2, a36)]) w.drew fun a37 w =>
 cf R 60 #[a37, a24] w fun a39 w =>
 lF R 43 6 26 a20 w fun a43 w =>
 cf R 34 #[a43, a39] w fun a45 w =>
 lF R 43 7 26 a20 w fun a49 w =>
 cf R 34 #[a49, a45] w fun a51 w =>
 k2 a51 w) (
 k2 a1_1 w)) (fun a1_2 w =>
 v1 R (Bo .add 3 false true a5 (.int .i64 1)) w fun a16 w =>
 g1 a1_2 a16 w)) (
 R (.returned a1_1) w)))
theorem s34 {R : Ending → World → Prop} {a0 a1 : Value} {w : World} (h : S34 R a0 a1 w) : Calls Tryz.prog 34 #[a0, a1] w R :=
  calls_of [7] mixed Tryz.func34 (c := codeB Tryz.f34) (by kernel_rfl) (Nat.le_of_ble_eq_true (by kernel_rfl)) (cast (by kernel_rfl) h)
theorem cf34 : CfT 34 := CfT.mk Tryz.func34 (c := codeB Tryz.f34) (by kernel_rfl) (by kernel_rfl)
def S60 (R : Ending → World → Prop) (a0 a1 : Value) (w : World) : Prop :=
 L2 a1 (.int .i64 0) w (fun g1 a1_1 a5 w =>
 v1 R (Builtin.len_ #[44] 3 #[a0]) w fun a9 w =>
 v1 R (Bo .lss 3 false false a5 a9) w fun a10 w =>
 J1 (fun k1 =>
 Gd a10 true (v1 R (Bo .leq 3 false true a1_1 (.int .i64 65536)) w fun a13 w =>
 k1 a13 w) (k1 undef w)) (fun a13_1 w =>
 v1 R (Pk a10 a13_1 (.bool false)) w fun a14 w =>
 If a14 (
 J1 (fun k2 =>
 v1 R (Instr.indexAt 44 a0 a5) w fun a19 w =>
 v1 R (Instr.loadAt 41 a19) w fun a20 w =>
 v1 R (Bo .neq 41 false true a20 (.pointer none)) w fun a22 w =>
 If a22 (
 v1 R (Bo .add 3 false true a1_1 (.int .i64 1)) w fun a24 w =>
 ∃ S1 : World → Prop, S1 w.drew ∧
 xF S1 47 4 41 a20 fun a28 => xF S1 47 5 41 a20 fun a32 => v1 R (Instr.buildSlice 44 2 #[(0, a28), (1, a32)]) w.drew fun a33 w =>
 cf R 60 #[a33, a24] w fun a35 w =>
 lF R 47 6 44 a20 w fun a39 w =>
 cf R 60 #[a39, a35] w fun a41 w =>
 lF R 47 7 44 a20 w fun a45 w =>
 cf R 60 #[a45, a41] w fun a47 w =>
 lF R 47 9 26 a20 w fun a51 w =>
 cf R 34 #[a51, a47] w fun a53 w =>
 k2 a53 w) (
 k2 a1_1 w)) (fun a1_2 w =>
 v1 R (Bo .add 3 false true a5 (.int .i64 1)) w fun a16 w =>
 g1 a1_2 a16 w)) (
 R (.returned a1_1) w)))
theorem s60 {R : Ending → World → Prop} {a0 a1 : Value} {w : World} (h : S60 R a0 a1 w) : Calls Tryz.prog 60 #[a0, a1] w R :=
  calls_of [7] mixed Tryz.func60 (c := codeB Tryz.f60) (by kernel_rfl) (Nat.le_of_ble_eq_true (by kernel_rfl)) (cast (by kernel_rfl) h)
theorem cf60 : CfT 60 := CfT.mk Tryz.func60 (c := codeB Tryz.f60) (by kernel_rfl) (by kernel_rfl)
structure GAll (n : Nat) : Prop where
  ex : ∀ {F : Nat → Prop} {w : World} {m : Nat} {s : Tr} {u : Value}, tz s ≤ n → wf s 1 = true → m ≤ 65537 → Rep F w s (.L u) → Calls Tryz.prog 60 #[u, .int .i64 m] w (Ret (fun v w' => v = .int .i64 (min (m + nd s) 65537 : Nat) ∧ Keep [] w w') NP)
  st : ∀ {F : Nat → Prop} {w : World} {m : Nat} {s : Tr} {u : Value}, tz s ≤ n → wf s 3 = true → m ≤ 65537 → Rep F w s (.L u) → Calls Tryz.prog 34 #[u, .int .i64 m] w (Ret (fun v w' => v = .int .i64 (min (m + nd s) 65537 : Nat) ∧ Keep [] w w') NP)
set_option maxHeartbeats 4000000 in
theorem c60 {n : Nat} (hn : n ≤ fuelMax) (H : GAll n) {F : Nat → Prop} {w : World} {m : Nat} {s : Tr} {u : Value} (hz : tz s ≤ n + 1) (hs : wf s 1 = true) (hm : m ≤ 65537) (rs : Rep F w s (.L u)) :
    Calls Tryz.prog 60 #[u, .int .i64 m] w (Ret (fun v w' => v = .int .i64 (min (m + nd s) 65537 : Nat) ∧ Keep [] w w') NP) := by
  refine s60 ?_; unfold S60; have is := wf_isList 1 (by simp) hs; obtain ⟨a, c, rfl⟩ := rs.sln is; have os := rs.rowAt is; refine L2.i (fun x0 x1 w' => ∃ i j s' m', x0 = .int .i64 (m' : Nat) ∧ x1 = .int .i64 (i : Nat) ∧ i + j = len s ∧ i + tz s' ≤ n + 1 ∧ wf s' 1 = true ∧ m' ≤ 65537 ∧ RowAt F w' s' a i j ∧ min (m' + nd s') 65537 = min (m + nd s) 65537 ∧ Keep [] w w') (fun _ v _ => match v with | .int _ n => (len s - n.toNat) | _ => 0) ⟨0, len s, s, m, rfl, rfl, by omega, by omega, hs, hm, os, rfl, Keep.refl _ _⟩ ?_; clear os hs rs is hz hm; rintro x0 x1 w1 ⟨i, j, s', m', rfl, rfl, hij, hz, hs, hm, os, he, K1⟩; unfold fuelMax at hn; refine V1.i (by simp [go_sem] <;> trivial) ?_; rcases wf1_cases hs with rfl | ⟨x, l, rfl, hx, hl'⟩
  · have hj : j = 0 := by
      rcases os with ⟨_, h⟩ | ⟨q, _, h⟩
      · exact h
      · exact h
    subst hj; refine V1.i (v := .bool false) (w' := w1) (by simp [go_sem]; omega) ?_; refine J1.go (Gd.ft ?_); refine V1.i (v := .bool false) (w' := w1) (by simp [go_sem]) ?_; refine If.f ⟨?_, K1⟩; simp only [nd, Nat.add_zero] at he; rw [← he, Nat.min_eq_left hm]
  rcases os with ⟨h, _⟩ | ⟨q, rfl, j', u, rfl, hc, hf, rx, rl'⟩
  · cases h
  have ol : RowAt F w1 l (some ⟨q, 0, none⟩) (i + 1) j' := .inr ⟨q, rfl, rl'⟩; clear rl'; have hzz := hz; simp only [tz] at hzz; simp only [nd] at he; have hp1 := tz_pos x; have hp2 := tz_pos l; refine V1.i (v := .bool true) (w' := w1) (by simp [go_sem]; omega) ?_; refine J1.go (Gd.tt ?_); refine V1.i (v := .bool (decide (m' ≤ 65536))) (w' := w1) (by simp [go_sem]; omega) ?_; refine V1.i (v := .bool (decide (m' ≤ 65536))) (w' := w1) (by simp [go_sem]) ?_; by_cases hbig : m' ≤ 65536
  rotate_left
  · rw [show decide (m' ≤ 65536) = false by simpa using hbig]; refine If.f ⟨?_, K1⟩; rw [show min (m + nd s) 65537 = m' by omega]
  rw [show decide (m' ≤ 65536) = true by simpa using hbig]; refine If.t ?_; refine J1.cut (fun x w' => ∃ m2, x = .int .i64 (m2 : Nat) ∧ m2 ≤ 65537 ∧ RowAt F w' l (some ⟨q, 0, none⟩) (i + 1) j' ∧ min (m2 + nd l) 65537 = min (m + nd s) 65537 ∧ Keep [] w w') ?_ ?_; rotate_left
  · clear hm ol he K1 rx hc hf; rintro _ w2 ⟨m2, rfl, hm, ol, he, K1⟩; refine V1.i (addI _ _ _ _ _ _ (by omega) (by omega)) ?_; exact ⟨⟨i + 1, j', l, m2, rfl, by simp, by omega, by omega, hl', hm, ol, he, K1⟩, by simp; omega⟩
  refine V1.i (ix44 (by omega)) ?_; refine V1.i ((oneAll rfl) _ _ _ hc) ?_; rcases wf0_cases hx with rfl | ⟨k, nn, x, l, r, ks, gs, ps, bd, rfl⟩
  · obtain rfl : u = .pointer none := rx; repeat (first | refine J1.go ?_ | refine J0.go ?_ | refine Gd.tt ?_ | refine Gd.ff ?_ | refine Gd.tf ?_ | refine Gd.ft ?_ | refine Gd.u ?_ | refine If.t ?_ | refine If.f ?_ | refine Up.i (Nc.p _ _) ?_ | refine V1.load (oneAll rfl) (by assumption) rfl ?_ | refine V1.i (w' := w1) (by simp [go_sem]; first | done | rfl | exact ⟨rfl, rfl⟩) ?_)
    simp only [nd, Nat.zero_add] at he; exact ⟨m', rfl, hm, ol, he, K1⟩
  obtain ⟨q3, line, lv, rv, kv, av, pv, bv, rfl, f3, a3, rl, rr, rk, rg, _, rb⟩ := rx; simp only [wf, Bool.and_eq_true] at hx; obtain ⟨⟨⟨⟨⟨_, hl⟩, hr⟩, hk⟩, hg⟩, hb⟩ := hx; obtain ⟨pl, rfl⟩ := rl.ptr hl; obtain ⟨pr, rfl⟩ := rr.ptr hr; unfold ptr; refine V1.i (v := .bool true) (w' := w1) (by simp [go_sem]) ?_; refine If.t ?_; simp only [nd] at he; simp only [tz] at hzz; refine V1.i (v := .int .i64 ((m' + 1 : Nat) : Int)) (w' := w1) (by rw [addI _ _ _ _ _ _ (by omega) (by omega)]; simp) ?_; have KD : Keep [] w1 w1.drew := (Keep.refl _ _).drew; replace ol := ol.keep KD; replace a3 := KD.at a3 (by simp); replace K1 := K1.trans KD; replace rl := Rep.new KD _ _ rl; replace rr := Rep.new KD _ _ rr; replace rk := Rep.new KD _ _ rk; replace rg := Rep.new KD _ _ rg; replace rb := Rep.new KD _ _ rb
  refine ⟨fun w' => At w' q3 [.int .i64 k, .int .i64 line, .int .i64 nn, str x, .pointer pl, .pointer pr, kv, av, pv, bv], a3, ?_⟩; generalize w1.drew = w3 at *; refine ⟨_, fun w' _ => Nc.p _ w', ?_⟩; refine Xw.i _ (fun w' _ => by simp [go_sem] <;> trivial) ?_; refine Xw.i _ (fun w' hw => (oneAll rfl) _ _ _ (by rw [hw.cell]; rfl)) ?_; refine ⟨_, fun w' _ => Nc.p _ w', ?_⟩; refine Xw.i _ (fun w' _ => by simp [go_sem] <;> trivial) ?_; refine Xw.i _ (fun w' hw => (oneAll rfl) _ _ _ (by rw [hw.cell]; rfl)) ?_; refine V1.newSlice (by simp [go_sem]; first | done | rfl | exact ⟨rfl, rfl⟩ | (repeat' (first | rfl | apply And.intro))) fun bs w4 NS => ?_; have K4 := NS.keep; have aS : At w4 bs [.pointer pl, .pointer pr] := by
    have := NS.at_; simpa using this
  replace ol := ol.keep K4; replace a3 := K4.at a3 (by simp); replace K1 := K1.trans K4; replace rl := Rep.new K4 _ _ rl; replace rr := Rep.new K4 _ _ rr; replace rk := Rep.new K4 _ _ rk; replace rg := Rep.new K4 _ _ rg; replace rb := Rep.new K4 _ _ rb; have rS : Rep (fun _ => True) w4 (.cons l (.cons r .nil)) (.L (.slice (some ⟨bs, 0, none⟩) 2 2)) := rep2 aS trivial (Rep.imp (fun _ _ _ => trivial) _ _ rl) (Rep.imp (fun _ _ _ => trivial) _ _ rr); refine cf60 (H.ex (s := .cons l (.cons r .nil)) (by simp only [tz]; omega) (by simp [wf, hl, hr]) (by omega) rS) ?_ (fun _ _ h => h.elim); rintro _ w5 ⟨rfl, K5⟩; replace ol := ol.keep K5; replace a3 := K5.at a3 (by simp); replace K1 := K1.trans K5; replace rk := Rep.new K5 _ _ rk; replace rg := Rep.new K5 _ _ rg; replace rb := Rep.new K5 _ _ rb; refine lF.i a3 ?_; refine cf60 (H.ex (s := ks) (by omega) hk (by omega) rk) ?_ (fun _ _ h => h.elim)
  rintro _ w6 ⟨rfl, K6⟩; replace ol := ol.keep K6; replace a3 := K6.at a3 (by simp); replace K1 := K1.trans K6; replace rg := Rep.new K6 _ _ rg; replace rb := Rep.new K6 _ _ rb; refine lF.i a3 ?_; refine cf60 (H.ex (s := gs) (by omega) hg (by omega) rg) ?_ (fun _ _ h => h.elim); rintro _ w7 ⟨rfl, K7⟩; replace ol := ol.keep K7; replace a3 := K7.at a3 (by simp); replace K1 := K1.trans K7; replace rb := Rep.new K7 _ _ rb; refine lF.i a3 ?_; refine cf34 (H.st (s := bd) (by omega) hb (by omega) rb) ?_ (fun _ _ h => h.elim); rintro _ w8 ⟨rfl, K8⟩; replace ol := ol.keep K8; replace a3 := K8.at a3 (by simp); replace K1 := K1.trans K8; refine ⟨_, rfl, ?_, ol, ?_, K1⟩
  · omega
  · simp only [nd]; omega
set_option maxHeartbeats 4000000 in
theorem c34 {n : Nat} (hn : n ≤ fuelMax) (H : GAll n) {F : Nat → Prop} {w : World} {m : Nat} {s : Tr} {u : Value} (hz : tz s ≤ n + 1) (hs : wf s 3 = true) (hm : m ≤ 65537) (rs : Rep F w s (.L u)) :
    Calls Tryz.prog 34 #[u, .int .i64 m] w (Ret (fun v w' => v = .int .i64 (min (m + nd s) 65537 : Nat) ∧ Keep [] w w') NP) := by
  refine s34 ?_; unfold S34; have is := wf_isList 3 (by simp) hs; obtain ⟨a, c, rfl⟩ := rs.sln is; have os := rs.rowAt is; refine L2.i (fun x0 x1 w' => ∃ i j s' m', x0 = .int .i64 (m' : Nat) ∧ x1 = .int .i64 (i : Nat) ∧ i + j = len s ∧ i + tz s' ≤ n + 1 ∧ wf s' 3 = true ∧ m' ≤ 65537 ∧ RowAt F w' s' a i j ∧ min (m' + nd s') 65537 = min (m + nd s) 65537 ∧ Keep [] w w') (fun _ v _ => match v with | .int _ n => (len s - n.toNat) | _ => 0) ⟨0, len s, s, m, rfl, rfl, by omega, by omega, hs, hm, os, rfl, Keep.refl _ _⟩ ?_; clear os hs rs is hz hm; rintro x0 x1 w1 ⟨i, j, s', m', rfl, rfl, hij, hz, hs, hm, os, he, K1⟩; unfold fuelMax at hn; refine V1.i (by simp [go_sem] <;> trivial) ?_; rcases wf3_cases hs with rfl | ⟨x, l, rfl, hx, hl'⟩
  · have hj : j = 0 := by
      rcases os with ⟨_, h⟩ | ⟨q, _, h⟩
      · exact h
      · exact h
    subst hj; refine V1.i (v := .bool false) (w' := w1) (by simp [go_sem]; omega) ?_; refine J1.go (Gd.ft ?_); refine V1.i (v := .bool false) (w' := w1) (by simp [go_sem]) ?_; refine If.f ⟨?_, K1⟩; simp only [nd, Nat.add_zero] at he; rw [← he, Nat.min_eq_left hm]
  rcases os with ⟨h, _⟩ | ⟨q, rfl, j', u, rfl, hc, hf, rx, rl'⟩
  · cases h
  have ol : RowAt F w1 l (some ⟨q, 0, none⟩) (i + 1) j' := .inr ⟨q, rfl, rl'⟩; clear rl'; have hzz := hz; simp only [tz] at hzz; simp only [nd] at he; have hp1 := tz_pos x; have hp2 := tz_pos l; refine V1.i (v := .bool true) (w' := w1) (by simp [go_sem]; omega) ?_; refine J1.go (Gd.tt ?_); refine V1.i (v := .bool (decide (m' ≤ 65536))) (w' := w1) (by simp [go_sem]; omega) ?_; refine V1.i (v := .bool (decide (m' ≤ 65536))) (w' := w1) (by simp [go_sem]) ?_; by_cases hbig : m' ≤ 65536
  rotate_left
  · rw [show decide (m' ≤ 65536) = false by simpa using hbig]; refine If.f ⟨?_, K1⟩; rw [show min (m + nd s) 65537 = m' by omega]
  rw [show decide (m' ≤ 65536) = true by simpa using hbig]; refine If.t ?_; refine J1.cut (fun x w' => ∃ m2, x = .int .i64 (m2 : Nat) ∧ m2 ≤ 65537 ∧ RowAt F w' l (some ⟨q, 0, none⟩) (i + 1) j' ∧ min (m2 + nd l) 65537 = min (m + nd s) 65537 ∧ Keep [] w w') ?_ ?_; rotate_left
  · clear hm ol he K1 rx hc hf; rintro _ w2 ⟨m2, rfl, hm, ol, he, K1⟩; refine V1.i (addI _ _ _ _ _ _ (by omega) (by omega)) ?_; exact ⟨⟨i + 1, j', l, m2, rfl, by simp, by omega, by omega, hl', hm, ol, he, K1⟩, by simp; omega⟩
  refine V1.i (ix26 (by omega)) ?_; refine V1.i ((oneAll rfl) _ _ _ hc) ?_; rcases wf2_cases hx with rfl | ⟨k, nm, l, r, t0, a0, b0, rfl⟩
  · obtain rfl : u = .pointer none := rx; repeat (first | refine J1.go ?_ | refine J0.go ?_ | refine Gd.tt ?_ | refine Gd.ff ?_ | refine Gd.tf ?_ | refine Gd.ft ?_ | refine Gd.u ?_ | refine If.t ?_ | refine If.f ?_ | refine Up.i (Nc.p _ _) ?_ | refine V1.load (oneAll rfl) (by assumption) rfl ?_ | refine V1.i (w' := w1) (by simp [go_sem]; first | done | rfl | exact ⟨rfl, rfl⟩) ?_)
    simp only [nd, Nat.zero_add] at he; exact ⟨m', rfl, hm, ol, he, K1⟩
  obtain ⟨q3, line, lv, rv, tv, av, bv, rfl, f3, a3, rl, rr, rt, ra, rb⟩ := rx; simp only [wf, Bool.and_eq_true] at hx; obtain ⟨⟨⟨⟨hl, hr⟩, ht⟩, ha⟩, hb⟩ := hx; obtain ⟨pl, rfl⟩ := rl.ptr hl; obtain ⟨pr, rfl⟩ := rr.ptr hr; obtain ⟨pt, rfl⟩ := rt.ptr ht; unfold ptr; refine V1.i (v := .bool true) (w' := w1) (by simp [go_sem]) ?_; refine If.t ?_; simp only [nd] at he; simp only [tz] at hzz; refine V1.i (v := .int .i64 ((m' + 1 : Nat) : Int)) (w' := w1) (by rw [addI _ _ _ _ _ _ (by omega) (by omega)]; simp) ?_; have KD : Keep [] w1 w1.drew := (Keep.refl _ _).drew; replace ol := ol.keep KD; replace a3 := KD.at a3 (by simp); replace K1 := K1.trans KD; replace rl := Rep.new KD _ _ rl; replace rr := Rep.new KD _ _ rr; replace rt := Rep.new KD _ _ rt; replace ra := Rep.new KD _ _ ra; replace rb := Rep.new KD _ _ rb
  refine ⟨fun w' => At w' q3 [.int .i64 k, .int .i64 line, str nm, .pointer pl, .pointer pr, .pointer pt, av, bv], a3, ?_⟩; generalize w1.drew = w3 at *; refine ⟨_, fun w' _ => Nc.p _ w', ?_⟩; refine Xw.i _ (fun w' _ => by simp [go_sem] <;> trivial) ?_; refine Xw.i _ (fun w' hw => (oneAll rfl) _ _ _ (by rw [hw.cell]; rfl)) ?_; refine ⟨_, fun w' _ => Nc.p _ w', ?_⟩; refine Xw.i _ (fun w' _ => by simp [go_sem] <;> trivial) ?_; refine Xw.i _ (fun w' hw => (oneAll rfl) _ _ _ (by rw [hw.cell]; rfl)) ?_; refine ⟨_, fun w' _ => Nc.p _ w', ?_⟩; refine Xw.i _ (fun w' _ => by simp [go_sem] <;> trivial) ?_; refine Xw.i _ (fun w' hw => (oneAll rfl) _ _ _ (by rw [hw.cell]; rfl)) ?_; refine V1.newSlice (by simp [go_sem]; first | done | rfl | exact ⟨rfl, rfl⟩ | (repeat' (first | rfl | apply And.intro))) fun bs w4 NS => ?_; have K4 := NS.keep
  have aS : At w4 bs [.pointer pl, .pointer pr, .pointer pt] := by
    have := NS.at_; simpa using this
  replace ol := ol.keep K4; replace a3 := K4.at a3 (by simp); replace K1 := K1.trans K4; replace rl := Rep.new K4 _ _ rl; replace rr := Rep.new K4 _ _ rr; replace rt := Rep.new K4 _ _ rt; replace ra := Rep.new K4 _ _ ra; replace rb := Rep.new K4 _ _ rb; have rS : Rep (fun _ => True) w4 (.cons l (.cons r (.cons t0 .nil))) (.L (.slice (some ⟨bs, 0, none⟩) 3 3)) := rep3 aS trivial (Rep.imp (fun _ _ _ => trivial) _ _ rl) (Rep.imp (fun _ _ _ => trivial) _ _ rr) (Rep.imp (fun _ _ _ => trivial) _ _ rt); refine cf60 (H.ex (s := .cons l (.cons r (.cons t0 .nil))) (by simp only [tz]; omega) (by simp [wf, hl, hr, ht]) (by omega) rS) ?_ (fun _ _ h => h.elim); rintro _ w5 ⟨rfl, K5⟩; replace ol := ol.keep K5; replace a3 := K5.at a3 (by simp); replace K1 := K1.trans K5; replace ra := Rep.new K5 _ _ ra; replace rb := Rep.new K5 _ _ rb; refine lF.i a3 ?_
  refine cf34 (H.st (s := a0) (by omega) ha (by omega) ra) ?_ (fun _ _ h => h.elim); rintro _ w6 ⟨rfl, K6⟩; replace ol := ol.keep K6; replace a3 := K6.at a3 (by simp); replace K1 := K1.trans K6; replace rb := Rep.new K6 _ _ rb; refine lF.i a3 ?_; refine cf34 (H.st (s := b0) (by omega) hb (by omega) rb) ?_ (fun _ _ h => h.elim); rintro _ w7 ⟨rfl, K7⟩; replace ol := ol.keep K7; replace a3 := K7.at a3 (by simp); replace K1 := K1.trans K7; refine ⟨_, rfl, ?_, ol, ?_, K1⟩
  · omega
  · simp only [nd]; omega
theorem cnt_all : ∀ n, n ≤ fuelMax → GAll n
  | 0, _ => ⟨fun h => absurd h (by have := tz_pos ‹Tr›; omega), fun h => absurd h (by have := tz_pos ‹Tr›; omega)⟩
  | n + 1, hn => ⟨c60 (by omega) (cnt_all n (by omega)), c34 (by omega) (cnt_all n (by omega))⟩
theorem leC (w : World) (a : Nat) : (Bo .leq 3 false true (.int .i64 ((min (0 + a) 65537 : Nat) : Int)) (.int .i64 65536)).run Tryz.prog w = .ok (.bool (decide (a ≤ 65536))) w := by
 have : decide (((min (0 + a) 65537 : Nat) : Int) ≤ 65536) = decide (a ≤ 65536) := by
   congr 1; apply propext; omega
 rw [← this]; simp [go_sem, Bo]
theorem c15 {F : Nat → Prop} {w : World} {s t : Tr} {u v : Value} (hzs : tz s ≤ fuelMax) (hzt : tz t ≤ fuelMax) (hs : wf s 3 = true) (ht : wf t 3 = true) (rs : Rep F w s (.L u)) (rt : Rep F w t (.L v)) :
   Calls Tryz.prog 15 #[u, v] w (Ret (fun x w' => x = .bool ((decide (nd s ≤ 65536) && decide (nd t ≤ 65536)) && eqT s t) ∧ Keep [] w w') NP) := by
 refine s15 ?_; unfold S15; refine cf34 ((cnt_all _ (Nat.le_refl _)).st (m := 0) hzs hs (by omega) rs) ?_ (NP.no (e := _)); rintro _ w1 ⟨rfl, K1⟩; refine V1.i (leC _ _) ?_; refine J1.cut (fun x w' => x = (if decide (nd s ≤ 65536) = true then .bool (decide (nd t ≤ 65536)) else undef) ∧ Keep [] w w') ?_ ?_
 · refine Gd.b (fun h => ?_) (fun h => ?_)
   · refine cf34 ((cnt_all _ (Nat.le_refl _)).st (m := 0) hzt ht (by omega) (Rep.new K1 _ _ rt)) ?_ (NP.no (e := _)); rintro _ w2 ⟨rfl, K2⟩; refine V1.i (leC _ _) ?_; exact ⟨by rw [if_pos h], K1.trans K2⟩
   · exact ⟨by rw [if_neg (by rw [h]; simp)], K1⟩
 clear K1; rintro _ w3 ⟨rfl, K3⟩; refine V1.i (pkA _ _ _) ?_; refine J1.cut (fun x w' => x = (if (decide (nd s ≤ 65536) && decide (nd t ≤ 65536)) = true then .bool (eqT s t) else undef) ∧ Keep [] w w') ?_ ?_
 · refine Gd.b (fun h => ?_) (fun h => ?_)
   · refine cf26 ((ref_all _ (Nat.le_refl _)).stms hzs hs ht (Rep.new K3 _ _ rs) (Rep.new K3 _ _ rt)) ?_ (NP.no (e := _)); rintro _ w2 ⟨rfl, K2⟩; exact ⟨by rw [if_pos h], K3.trans K2⟩
   · exact ⟨by rw [if_neg (by rw [h]; simp)], K3⟩
 clear K3; rintro _ w4 ⟨rfl, K4⟩; refine V1.i (pkA _ _ _) ?_; exact ⟨rfl, K4⟩
theorem BytesAt.keep {w w' : World} {v : Value} {l : List UInt8} (h : BytesAt w v l) (hk : Keep [] w w') : BytesAt w' v l := by
 obtain ⟨a, c, e, hc, hlen, hcell⟩ := h; refine ⟨a, c, e, hc, hlen, fun i hi => ?_⟩; obtain ⟨b, e2, hb⟩ := hcell i hi; exact ⟨b, e2, hk.cell hb (by simp)⟩
theorem stmtsOf_size (l : List UInt8) : wf (stmtsOf l) 3 = true ∧ tz (stmtsOf l) ≤ fuelMax ∧ nd (stmtsOf l) ≤ 65536 := by
 obtain ⟨_, _, _, hw, hcn⟩ := stmtsOf_good l; have := tz_cn (stmtsOf l); have := nd_cn (stmtsOf l); unfold fuelMax; exact ⟨hw, by omega, by omega⟩
theorem law5 {w : World} {a b : Value} {l m : List UInt8} (g : GL w) (h1 : BytesAt w a l) (h2 : BytesAt w b m) : Calls Tryz.prog 5 #[a, b] w (Ret (fun u w' => u = .bool true ∧ Keep [] w w') NP) := by
 refine s5 ?_; unfold S5; obtain ⟨w1, z1, n1⟩ := stmtsOf_size l; obtain ⟨w2, z2, n2⟩ := stmtsOf_size m; refine cf10 (c10 h1) ?_ (NP.no (e := _)); rintro x wa ⟨rx, Ka⟩; refine cf10 (c10 (h2.keep Ka)) ?_ (NP.no (e := _)); rintro y wb ⟨ry, Kb⟩; have kk := Ka.trans Kb; generalize hs : stmtsOf l = s at *; generalize ht : stmtsOf m = t at *; have r1 : Rep (fun _ => True) wb s (.L x) := Rep.imp (fun _ _ _ => trivial) _ _ (Rep.new Kb _ _ rx); have r2 : Rep (fun _ => True) wb t (.L y) := Rep.imp (fun _ _ _ => trivial) _ _ ry; refine cf14 (c14 z1 z2 w1 w2 r1 r2) ?_ (NP.no (e := _)); rintro _ wc ⟨rfl, Kc⟩; replace r1 := Rep.new Kc _ _ r1; replace r2 := Rep.new Kc _ _ r2; replace kk := kk.trans Kc; refine cf15 (c15 z1 z2 w1 w2 r1 r2) ?_ (NP.no (e := _)); rintro _ wd ⟨rfl, Kd⟩; replace r1 := Rep.new Kd _ _ r1; replace kk := kk.trans Kd; refine V1.i (v := .bool true) (w' := wd) (by simp [go_sem]) ?_
 refine J1.go (Gd.tt ?_); refine cf10 (c10 (h1.keep kk)) ?_ (NP.no (e := _)); rintro z we ⟨rz, Ke⟩; replace r1 := Rep.new Ke _ _ r1; replace kk := kk.trans Ke; rw [hs] at rz; refine cf14 (c14 z1 z1 w1 w1 r1 (Rep.imp (fun _ _ _ => trivial) _ _ rz)) ?_ (NP.no (e := _)); rintro _ wf ⟨rfl, Kf⟩; replace kk := kk.trans Kf; rw [show ((decide (nd s ≤ 65536) && decide (nd s ≤ 65536)) && eqT s s) = true by simp [n1, eqT_refl]]; refine V1.i (v := .bool true) (w' := wf) (by simp [go_sem]) ?_; refine J1.go (Gd.tt ?_); refine cf12 (c12 (g.new kk)) ?_ (NP.no (e := _)); rintro _ wg ⟨rfl, Kg⟩; refine V1.i (v := .bool true) (w' := wg) (by simp [go_sem]) ?_; exact ⟨rfl, kk.trans Kg⟩
end Go.Proofs.YtoddjlclpnoomaaGreatDoor
namespace Go.Proofs.YtoddjlclpnoomaaGreatDoor
open Go.Sh Go.RowKit Go.Lib Go.Shelf Go.ChangeShapes Go.WideShapes Go.ChangeAt
theorem same_lifted (os : Os) (started : os.Started) (H : Type) (enc : TypeId × Value → H) :
   ReturnsInHanded {} Tryz.checked os 5 .any (fun w args => (Rows.printSameSpec.pre enc Tryz.prog Tryz.f5 [] false w args ∧ laidMetH Tryz.prog laidL w) ∧ sizedMet enc Tryz.prog Tryz.f5 (OpenSpec.ofChange Rows.printSameSpec) false w args)
     (Rows.printSameSpec.post enc Tryz.prog Tryz.f5 false true false false) := by
 refine rih_open (C := Tryz.checked) (X := fun w _ => laidMetH Tryz.prog laidL w) (fun w w' _ hh h => laid_heap w w' hh h) own started (by kernel_rfl) Tryz.func5
   (ChangeSpec.witness_shaped (enc := enc) (C := Tryz.checked) (os := os) (X := fun w _ => laidMetH Tryz.prog laidL w) false (startW os) #[.slice none 0 0, .slice none 0 0] 8 (startW_os os) (start_shaped os _) (by kernel_rfl) (by kernel_rfl) (by kernel_rfl) (start_met os _)) ?_
 intro W base args ds gs before hs hval0 hW hL; have hval : ∀ (j : Nat) t v, Tryz.f5.params[j]? = some t → args[j]? = some v → Value.okWide Tryz.prog W .any base t v := hval0; have hW' := hW; obtain ⟨p, q, hA0, hV, rfl, _, _⟩ := hW; have hA : DataW.TrodAll enc Tryz.prog W 0 (fun _ => true) true Tryz.f5.params.toList args.toList ds p := hA0; rw [Tryz.params5] at hA hval; obtain ⟨v0, v1, d0, d1, p0, p1, rfl, rfl, rfl, h0, h1⟩ := trodAll_two hA; obtain ⟨rfl, rfl⟩ := trodVars_none hV; clear hA0; simp only [List.append_nil] at hW'; have hlt : ∀ x ∈ p0 ++ p1, x.block < W.heap.size := fun x hx => by simpa using hW'.lt x hx
 obtain ⟨l, hb⟩ := bytes_in (hval 0 22 v0 rfl rfl) h0; obtain ⟨m, hb1⟩ := bytes_in (hval 1 22 v1 rfl rfl) h1; refine (law5 (gl_of_laid hL hs) hb hb1).mono ?_; rintro e W' h
 cases e with
 | returned u =>
   obtain ⟨rfl, K⟩ := h; exact ⟨_, rfl, _, _, _, [], _, [], hW', trodAll_mk1 (shut_bool Tryz.underlying4 true), trodAll_mk2 (keep_trod (by kernel_rfl) (of_decide_eq_true (by kernel_rfl)) h0 K (fun x hx => hlt x (List.mem_append.2 (.inl hx)))) (keep_trod (by kernel_rfl) (of_decide_eq_true (by kernel_rfl)) h1 K (fun x hx => hlt x (List.mem_append.2 (.inr hx)))), rfl, keep_keptBut K _, fun h => by cases h⟩
 | panicked c => exact h.elim
 | outgrown => exact h.elim
theorem same_holds : Rows.PrintSameSaid :=
  OpenClaim.holds_of_wide 5 Tryz.f5 rfl rfl rfl rfl rfl rfl rfl ⟨rfl, rfl, rfl, rfl, rfl⟩ rfl rfl rfl rfl rfl (by kernel_rfl) Tryz.func5 (by kernel_rfl)
    (of_decide_eq_true (by kernel_rfl)) (by unfold Func.isWrapper; first | (rw [if_pos (by decide +kernel)]; kernel_rfl) | (rw [if_neg (by decide +kernel)]; exact ⟨rfl, rfl⟩))
    (fun os started H enc _ => same_lifted os started H enc)
theorem same_card : Rows.PrintSameCardSaid :=
 Claim7.holds_tied_plain_at .later [] [.data, .data, .data, .data, .handle, .sentinel, .sentinel, .listed, .data, .pinned] true (true, "069f827847f5d06f74c88ef4072bea09f2cf19a41c1836ac65fb1bb81358d246") true
   same_holds (fun _ h => by cases h) (by kernel_rfl) (fun _ h => by cases h) printSame_row_tie rfl ⟨rfl, rfl⟩ (by kernel_rfl) rfl
   (fun f fn hf hfn => by
     obtain rfl : f = 5 := Option.some.inj ((show Tryz.prog.funcNamed "tallow/tallowlaw06.PrintSame" = some 5 by kernel_rfl).symm.trans hf) |>.symm
     obtain rfl : fn = Tryz.f5 := (Option.some.inj (Tryz.func5.symm.trans hfn)).symm; exact ⟨by kernel_rfl, fun j t ht => by
       rw [Tryz.params5] at ht; have hm : t ∈ [22, 22] := by simpa using Array.mem_of_getElem? ht
       have hall : ([22, 22].all fun u => !Tryz.prog.wantsStandIn u) = true := by kernel_rfl
       exact (show Tryz.prog.wantsStandIn t = false by simpa using List.all_eq_true.1 hall t hm)⟩)
   (by kernel_rfl)
end Go.Proofs.YtoddjlclpnoomaaGreatDoor

import Derived.Test.YtoddjlclpnoomaaGreatDoorV3
set_option linter.unusedVariables false
set_option linter.unusedSimpArgs false
set_option maxRecDepth 100000
namespace Go.Proofs.YtoddjlclpnoomaaGreatDoor
open Go.Sh
def S9 (R : Ending → World → Prop) (a0 : Value) (w : World) : Prop :=
 V1 Tryz.prog (Instr.alloc 9 true (.tuple #[])) w (fun a2 w =>
 V1 Tryz.prog (Instr.alloc 23 true (.tuple #[])) w (fun a3 w =>
 V1 Tryz.prog (Instr.makeFunc (.func 17) #[] #[a2, a3]) w (fun a7 w =>
 D1 Tryz.prog (Deferred.ofValue a7 #[]) w (fun df1 w =>
 V1 Tryz.prog (Instr.build 56 #[]) w (fun a8 w =>
 V1 Tryz.prog (Instr.box 56 a8) w (fun a9 w =>
 Cf Tryz.prog 18 #[a9, a0] w (fun a12 w =>
 Up Tryz.prog (Nc a9) w (fun a15 w =>
 V1 Tryz.prog (Instr.fieldAt 56 a15 0) w (fun a16 w =>
 Cf Tryz.prog 19 #[a16] w (fun a17 w =>
 Cf Tryz.prog 13 #[a17] w (fun a18 w =>
 V1 Tryz.prog (Instr.extract a18 0) w (fun a19 w =>
 V1 Tryz.prog (Instr.extract a18 1) w (fun a20 w =>
 V1 Tryz.prog (Instr.makeInterface 23 (.int .i64 3)) w (fun a22 w =>
 Cf Tryz.prog 21 #[a20, a22] w (fun a23 w =>
 V1 Tryz.prog (Op.unary .not a23) w (fun a24 w =>
 Cf Tryz.prog 20 #[a24, (.int .i64 3)] w (fun a25 w =>
 V1 Tryz.prog (Bo .eql 31 false true a20 .nilIface) w (fun a27 w =>
 D1J (fun k1 =>
 Gd a27 true (Cf Tryz.prog 22 #[a19, a0] w (fun a31 w =>
 k1 a31 (df1 :: ([] : List Deferred)) w) (pnD Tryz.prog (fun w k => ∃ v0, (Instr.loadAt 9 a2).run Tryz.prog w = .ok v0 w ∧ ∃ v1, (Instr.loadAt 23 a3).run Tryz.prog w = .ok v1 w ∧ k (.tuple #[v0, v1])) R (df1 :: ([] : List Deferred)))) (k1 undef (df1 :: ([] : List Deferred)) w)) (fun a31_1 ds1 w =>
 V1 Tryz.prog (Pk a27 a31_1 (.bool false)) w (fun a32 w =>
 Cf Tryz.prog 20 #[a32, (.int .i64 2)] w (fun a33 w =>
 Up Tryz.prog (Nc a9) w (fun a35 w =>
 V1 Tryz.prog (Instr.fieldAt 56 a35 0) w (fun a36 w =>
 Cf Tryz.prog 19 #[a36] w (fun a37 w =>
 U1 Tryz.prog (Instr.storeAt 9 a2 a37) w (fun w =>
 U1 Tryz.prog (Instr.storeAt 23 a3 (.int .i64 0)) w (fun w =>
 Lv Tryz.prog (fun w k => ∃ v0, (Instr.loadAt 9 a2).run Tryz.prog w = .ok v0 w ∧ ∃ v1, (Instr.loadAt 23 a3).run Tryz.prog w = .ok v1 w ∧ k (.tuple #[v0, v1])) R ds1 .returning w) (pnD Tryz.prog (fun w k => ∃ v0, (Instr.loadAt 9 a2).run Tryz.prog w = .ok v0 w ∧ ∃ v1, (Instr.loadAt 23 a3).run Tryz.prog w = .ok v1 w ∧ k (.tuple #[v0, v1])) R ds1)) (pnD Tryz.prog (fun w k => ∃ v0, (Instr.loadAt 9 a2).run Tryz.prog w = .ok v0 w ∧ ∃ v1, (Instr.loadAt 23 a3).run Tryz.prog w = .ok v1 w ∧ k (.tuple #[v0, v1])) R ds1)) (pnD Tryz.prog (fun w k => ∃ v0, (Instr.loadAt 9 a2).run Tryz.prog w = .ok v0 w ∧ ∃ v1, (Instr.loadAt 23 a3).run Tryz.prog w = .ok v1 w ∧ k (.tuple #[v0, v1])) R ds1)) (pnD Tryz.prog (fun w k => ∃ v0, (Instr.loadAt 9 a2).run Tryz.prog w = .ok v0 w ∧ ∃ v1, (Instr.loadAt 23 a3).run Tryz.prog w = .ok v1 w ∧ k (.tuple #[v0, v1])) R ds1)) (pnD Tryz.prog (fun w k => ∃ v0, (Instr.loadAt 9 a2).run Tryz.prog w = .ok v0 w ∧ ∃ v1, (Instr.loadAt 23 a3).run Tryz.prog w = .ok v1 w ∧ k (.tuple #[v0, v1])) R ds1)) (pnD Tryz.prog (fun w k => ∃ v0, (Instr.loadAt 9 a2).run Tryz.prog w = .ok v0 w ∧ ∃ v1, (Instr.loadAt 23 a3).run Tryz.prog w = .ok v1 w ∧ k (.tuple #[v0, v1])) R ds1)) (pnD Tryz.prog (fun w k => ∃ v0, (Instr.loadAt 9 a2).run Tryz.prog w = .ok v0 w ∧ ∃ v1, (Instr.loadAt 23 a3).run Tryz.prog w = .ok v1 w ∧ k (.tuple #[v0, v1])) R ds1))) (pnD Tryz.prog (fun w k => ∃ v0, (Instr.loadAt 9 a2).run Tryz.prog w = .ok v0 w ∧ ∃ v1, (Instr.loadAt 23 a3).run Tryz.prog w = .ok v1 w ∧ k (.tuple #[v0, v1])) R (df1 :: ([] : List Deferred)))) (pnD Tryz.prog (fun w k => ∃ v0, (Instr.loadAt 9 a2).run Tryz.prog w = .ok v0 w ∧ ∃ v1, (Instr.loadAt 23 a3).run Tryz.prog w = .ok v1 w ∧ k (.tuple #[v0, v1])) R (df1 :: ([] : List Deferred)))) (pnD Tryz.prog (fun w k => ∃ v0, (Instr.loadAt 9 a2).run Tryz.prog w = .ok v0 w ∧ ∃ v1, (Instr.loadAt 23 a3).run Tryz.prog w = .ok v1 w ∧ k (.tuple #[v0, v1])) R (df1 :: ([] : List Deferred)))) (pnD Tryz.prog (fun w k => ∃ v0, (Instr.loadAt 9 a2).run Tryz.prog w = .ok v0 w ∧ ∃ v1, (Instr.loadAt 23 a3).run Tryz.prog w = .ok v1 w ∧ k (.tuple #[v0, v1])) R (df1 :: ([] : List Deferred)))) (pnD Tryz.prog (fun w k => ∃ v0, (Instr.loadAt 9 a2).run Tryz.prog w = .ok v0 w ∧ ∃ v1, (Instr.loadAt 23 a3).run Tryz.prog w = .ok v1 w ∧ k (.tuple #[v0, v1])) R (df1 :: ([] : List Deferred)))) (pnD Tryz.prog (fun w k => ∃ v0, (Instr.loadAt 9 a2).run Tryz.prog w = .ok v0 w ∧ ∃ v1, (Instr.loadAt 23 a3).run Tryz.prog w = .ok v1 w ∧ k (.tuple #[v0, v1])) R (df1 :: ([] : List Deferred)))) (pnD Tryz.prog (fun w k => ∃ v0, (Instr.loadAt 9 a2).run Tryz.prog w = .ok v0 w ∧ ∃ v1, (Instr.loadAt 23 a3).run Tryz.prog w = .ok v1 w ∧ k (.tuple #[v0, v1])) R (df1 :: ([] : List Deferred)))) (pnD Tryz.prog (fun w k => ∃ v0, (Instr.loadAt 9 a2).run Tryz.prog w = .ok v0 w ∧ ∃ v1, (Instr.loadAt 23 a3).run Tryz.prog w = .ok v1 w ∧ k (.tuple #[v0, v1])) R (df1 :: ([] : List Deferred)))) (pnD Tryz.prog (fun w k => ∃ v0, (Instr.loadAt 9 a2).run Tryz.prog w = .ok v0 w ∧ ∃ v1, (Instr.loadAt 23 a3).run Tryz.prog w = .ok v1 w ∧ k (.tuple #[v0, v1])) R (df1 :: ([] : List Deferred)))) (pnD Tryz.prog (fun w k => ∃ v0, (Instr.loadAt 9 a2).run Tryz.prog w = .ok v0 w ∧ ∃ v1, (Instr.loadAt 23 a3).run Tryz.prog w = .ok v1 w ∧ k (.tuple #[v0, v1])) R (df1 :: ([] : List Deferred)))) (pnD Tryz.prog (fun w k => ∃ v0, (Instr.loadAt 9 a2).run Tryz.prog w = .ok v0 w ∧ ∃ v1, (Instr.loadAt 23 a3).run Tryz.prog w = .ok v1 w ∧ k (.tuple #[v0, v1])) R (df1 :: ([] : List Deferred)))) (pnD Tryz.prog (fun w k => ∃ v0, (Instr.loadAt 9 a2).run Tryz.prog w = .ok v0 w ∧ ∃ v1, (Instr.loadAt 23 a3).run Tryz.prog w = .ok v1 w ∧ k (.tuple #[v0, v1])) R (df1 :: ([] : List Deferred)))) (pnD Tryz.prog (fun w k => ∃ v0, (Instr.loadAt 9 a2).run Tryz.prog w = .ok v0 w ∧ ∃ v1, (Instr.loadAt 23 a3).run Tryz.prog w = .ok v1 w ∧ k (.tuple #[v0, v1])) R (df1 :: ([] : List Deferred)))) (pnD Tryz.prog (fun w k => ∃ v0, (Instr.loadAt 9 a2).run Tryz.prog w = .ok v0 w ∧ ∃ v1, (Instr.loadAt 23 a3).run Tryz.prog w = .ok v1 w ∧ k (.tuple #[v0, v1])) R (df1 :: ([] : List Deferred)))) (pnD Tryz.prog (fun w k => ∃ v0, (Instr.loadAt 9 a2).run Tryz.prog w = .ok v0 w ∧ ∃ v1, (Instr.loadAt 23 a3).run Tryz.prog w = .ok v1 w ∧ k (.tuple #[v0, v1])) R ([] : List Deferred))) (pnD Tryz.prog (fun w k => ∃ v0, (Instr.loadAt 9 a2).run Tryz.prog w = .ok v0 w ∧ ∃ v1, (Instr.loadAt 23 a3).run Tryz.prog w = .ok v1 w ∧ k (.tuple #[v0, v1])) R ([] : List Deferred))) (pnD Tryz.prog (fun w k => ∃ v0, (Instr.loadAt 9 a2).run Tryz.prog w = .ok v0 w ∧ False) R ([] : List Deferred))) (pnD Tryz.prog (fun w k => False) R ([] : List Deferred))
set_option maxHeartbeats 4000000 in
theorem s9 {R : Ending → World → Prop} {a0 : Value} {w : World} (h : S9 R a0 w) : Calls Tryz.prog 9 #[a0] w R :=
  calls_ofD [] mixed Tryz.func9 (c := codeB Tryz.f9) (by kernel_rfl) (Nat.le_of_ble_eq_true (by kernel_rfl)) (cast (by kernel_rfl) h)
theorem cf9 : CfT 9 := CfT.mk Tryz.func9 (c := codeB Tryz.f9) (by kernel_rfl) (by kernel_rfl)
def S14 (R : Ending → World → Prop) (a0 a1 : Value) (w : World) : Prop :=
 cf R 33 #[a0] w fun a6 w =>
 J1 (fun k1 =>
 Gd a6 true (cf R 33 #[a1] w fun a9 w =>
 k1 a9 w) (k1 undef w)) (fun a9_1 w =>
 v1 R (Pk a6 a9_1 (.bool false)) w fun a10 w =>
 J1 (fun k2 =>
 Gd a10 true (cf R 22 #[a0, a1] w fun a14 w =>
 k2 a14 w) (k2 undef w)) (fun a14_1 w =>
 v1 R (Pk a10 a14_1 (.bool false)) w fun a15 w =>
 R (.returned a15) w))
theorem s14 {R : Ending → World → Prop} {a0 a1 : Value} {w : World} (h : S14 R a0 a1 w) : Calls Tryz.prog 14 #[a0, a1] w R :=
  calls_of [] mixed Tryz.func14 (c := codeB Tryz.f14) (by kernel_rfl) (Nat.le_of_ble_eq_true (by kernel_rfl)) (cast (by kernel_rfl) h)
theorem cf14 : CfT 14 := CfT.mk Tryz.func14 (c := codeB Tryz.f14) (by kernel_rfl) (by kernel_rfl)
def S18 (R : Ending → World → Prop) (a0 a1 : Value) (w : World) : Prop :=
 v1 R (Builtin.len_ #[26] 3 #[a1]) w fun a7 w =>
 L1 (.int .i64 0) w (fun g1 a8 w =>
 v1 R (Bo .lss 3 false false a8 a7) w fun a9 w =>
 If a9 (
 v1 R (Instr.indexAt 26 a1 a8) w fun a10 w =>
 v1 R (Instr.loadAt 40 a10) w fun a11 w =>
 cf R 35 #[a0, a11] w fun a14 w =>
 v1 R (Instr.buildSlice 45 1 #[(0, (.string ⟨#[10]⟩))]) w fun a16 w =>
 cf R 36 #[a0, a16] w fun a17 w =>
 v1 R (Bo .add 3 false true a8 (.int .i64 1)) w fun a18 w =>
 g1 a18 w) (
 R (.returned (.tuple #[])) w))
theorem s18 {R : Ending → World → Prop} {a0 a1 : Value} {w : World} (h : S18 R a0 a1 w) : Calls Tryz.prog 18 #[a0, a1] w R :=
  calls_of [] mixed Tryz.func18 (c := codeB Tryz.f18) (by kernel_rfl) (Nat.le_of_ble_eq_true (by kernel_rfl)) (cast (by kernel_rfl) h)
theorem cf18 : CfT 18 := CfT.mk Tryz.func18 (c := codeB Tryz.f18) (by kernel_rfl) (by kernel_rfl)
def S19 (R : Ending → World → Prop) (a0 : Value) (w : World) : Prop :=
 ∃ S1 : World → Prop, S1 w.drew ∧
 xs t0 (Nc a0) fun a4 => xw t0 (Instr.fieldAt 54 a4 1) fun a5 => xw S1 (Instr.loadAt 22 a5) fun a6 => xs t0 (Nc a0) fun a9 => xw t0 (Instr.fieldAt 54 a9 1) fun a10 => xw S1 (Instr.loadAt 22 a10) fun a11 => xw S1 (Builtin.len_ #[22] 3 #[a11]) fun a12 => v1 R (Builtin.unsafeSliceData_ #[22] 93 #[a6]) w.drew fun a7 w =>
 S1 w ∧ v1 R (Builtin.unsafeString_ #[93, 3] 9 #[a7, a12]) w fun a13 w =>
 R (.returned a13) w
theorem s19 {R : Ending → World → Prop} {a0 : Value} {w : World} (h : S19 R a0 w) : Calls Tryz.prog 19 #[a0] w R :=
  calls_of [1] mixed Tryz.func19 (c := codeB Tryz.f19) (by kernel_rfl) (Nat.le_of_ble_eq_true (by kernel_rfl)) (cast (by kernel_rfl) h)
theorem cf19 : CfT 19 := CfT.mk Tryz.func19 (c := codeB Tryz.f19) (by kernel_rfl) (by kernel_rfl)
def S20 (R : Ending → World → Prop) (a0 a1 : Value) (w : World) : Prop :=
 v1 R (Op.unary .not a0) w fun a5 w =>
 If a5 (
 v1 R (Instr.build 49 #[(0, a1)]) w fun a7 w =>
 v1 R (Instr.makeInterface 49 a7) w fun a8 w =>
 v1 R (Instr.panic a8) w fun _ w =>
 R (.returned (.tuple #[])) w) (
 R (.returned (.tuple #[])) w)
theorem s20 {R : Ending → World → Prop} {a0 a1 : Value} {w : World} (h : S20 R a0 a1 w) : Calls Tryz.prog 20 #[a0, a1] w R :=
  calls_of [] mixed Tryz.func20 (c := codeB Tryz.f20) (by kernel_rfl) (Nat.le_of_ble_eq_true (by kernel_rfl)) (cast (by kernel_rfl) h)
theorem cf20 : CfT 20 := CfT.mk Tryz.func20 (c := codeB Tryz.f20) (by kernel_rfl) (by kernel_rfl)
def S21 (R : Ending → World → Prop) (a0 a1 : Value) (w : World) : Prop :=
 v1 R (Bo .eql 31 false true a0 .nilIface) w fun a7 w =>
 J1 (fun k1 =>
 Gd a7 false (v1 R (Bo .eql 31 false true a1 .nilIface) w fun a10 w =>
 k1 a10 w) (k1 undef w)) (fun a10_1 w =>
 v1 R (Pk a7 (.bool true) a10_1) w fun a11 w =>
 If a11 (
 v1 R (Bo .eql 31 false false a0 a1) w fun a14 w =>
 R (.returned a14) w) (
 cf R 37 #[a1] w fun a16 w =>
 up R (invoke (.fn (.method "Comparable") #[]) (#[a16] ++ #[])) w fun a17 w =>
 cf R 38 #[a0, a1, a17] w fun a21 w =>
 R (.returned a21) w))
theorem s21 {R : Ending → World → Prop} {a0 a1 : Value} {w : World} (h : S21 R a0 a1 w) : Calls Tryz.prog 21 #[a0, a1] w R :=
  calls_of [] mixed Tryz.func21 (c := codeB Tryz.f21) (by kernel_rfl) (Nat.le_of_ble_eq_true (by kernel_rfl)) (cast (by kernel_rfl) h)
theorem cf21 : CfT 21 := CfT.mk Tryz.func21 (c := codeB Tryz.f21) (by kernel_rfl) (by kernel_rfl)
def S22 (R : Ending → World → Prop) (a0 a1 : Value) (w : World) : Prop :=
 cf R 39 #[a0, a1, (.func (.func 40) #[] #[])] w fun a7 w =>
 R (.returned a7) w
theorem s22 {R : Ending → World → Prop} {a0 a1 : Value} {w : World} (h : S22 R a0 a1 w) : Calls Tryz.prog 22 #[a0, a1] w R :=
  calls_of [] mixed Tryz.func22 (c := codeB Tryz.f22) (by kernel_rfl) (Nat.le_of_ble_eq_true (by kernel_rfl)) (cast (by kernel_rfl) h)
theorem cf22 : CfT 22 := CfT.mk Tryz.func22 (c := codeB Tryz.f22) (by kernel_rfl) (by kernel_rfl)
def S33 (R : Ending → World → Prop) (a0 : Value) (w : World) : Prop :=
 v1 R (Instr.alloc 118 true (.tuple #[])) w fun a3 w =>
 cf R 59 #[a3, a0] w fun a5 w =>
 v1 R (Instr.loadAt 118 a3) w fun a6 w =>
 v1 R (Bo .leq 118 false true a6 (.int .i64 65536)) w fun a7 w =>
 R (.returned a7) w
theorem s33 {R : Ending → World → Prop} {a0 : Value} {w : World} (h : S33 R a0 w) : Calls Tryz.prog 33 #[a0] w R :=
  calls_of [] mixed Tryz.func33 (c := codeB Tryz.f33) (by kernel_rfl) (Nat.le_of_ble_eq_true (by kernel_rfl)) (cast (by kernel_rfl) h)
theorem cf33 : CfT 33 := CfT.mk Tryz.func33 (c := codeB Tryz.f33) (by kernel_rfl) (by kernel_rfl)
def S35 (R : Ending → World → Prop) (a0 a1 : Value) (w : World) : Prop :=
 v1 R (Bo .neq 40 false true a1 (.pointer none)) w fun a5 w =>
 J1 (fun k1 =>
 Gd a5 true (up R (Nc a1) w fun a8 w =>
 v1 R (Instr.fieldAt 43 a8 0) w fun a9 w =>
 v1 R (Instr.loadAt 3 a9) w fun a10 w =>
 v1 R (Bo .geq 3 false true a10 (.int .i64 1)) w fun a11 w =>
 k1 a11 w) (k1 undef w)) (fun a11_1 w =>
 v1 R (Pk a5 a11_1 (.bool false)) w fun a12 w =>
 J1 (fun k2 =>
 Gd a12 true (up R (Nc a1) w fun a15 w =>
 v1 R (Instr.fieldAt 43 a15 0) w fun a16 w =>
 v1 R (Instr.loadAt 3 a16) w fun a17 w =>
 v1 R (Bo .leq 3 false true a17 (.int .i64 11)) w fun a18 w =>
 k2 a18 w) (k2 undef w)) (fun a18_1 w =>
 v1 R (Pk a12 a18_1 (.bool false)) w fun a19 w =>
 cf R 20 #[a19, (.int .i64 2)] w fun a20 w =>
 cf R 61 #[a0] w fun a22 w =>
 up R (Nc a1) w fun a24 w =>
 v1 R (Instr.fieldAt 43 a24 0) w fun a25 w =>
 v1 R (Instr.loadAt 3 a25) w fun a26 w =>
 v1 R (Bo .eql 3 false true a26 (.int .i64 1)) w fun a28 w =>
 If a28 (
 up R (Nc a1) w fun a31 w =>
 v1 R (Instr.fieldAt 43 a31 2) w fun a32 w =>
 v1 R (Instr.loadAt 9 a32) w fun a33 w =>
 v1 R (Instr.buildSlice 45 2 #[(0, (.string ⟨#[108, 111, 99, 97, 108, 32]⟩)), (1, a33)]) w fun a34 w =>
 cf R 36 #[a0, a34] w fun a35 w =>
 up R (Nc a1) w fun a38 w =>
 v1 R (Instr.fieldAt 43 a38 4) w fun a39 w =>
 v1 R (Instr.loadAt 41 a39) w fun a40 w =>
 cf R 62 #[a0, (.string ⟨#[32, 61, 32]⟩), a40] w fun a41 w =>
 R (.returned (.tuple #[])) w) (
 v1 R (Bo .eql 3 false true a26 (.int .i64 2)) w fun a43 w =>
 If a43 (
 up R (Nc a1) w fun a46 w =>
 v1 R (Instr.fieldAt 43 a46 3) w fun a47 w =>
 v1 R (Instr.loadAt 41 a47) w fun a48 w =>
 cf R 63 #[a0, a48] w fun a49 w =>
 up R (Nc a1) w fun a52 w =>
 v1 R (Instr.fieldAt 43 a52 4) w fun a53 w =>
 v1 R (Instr.loadAt 41 a53) w fun a54 w =>
 cf R 64 #[a54] w fun a55 w =>
 cf R 62 #[a0, (.string ⟨#[32, 61, 32]⟩), a55] w fun a56 w =>
 R (.returned (.tuple #[])) w) (
 v1 R (Bo .eql 3 false true a26 (.int .i64 3)) w fun a58 w =>
 If a58 (
 up R (Nc a1) w fun a61 w =>
 v1 R (Instr.fieldAt 43 a61 4) w fun a62 w =>
 v1 R (Instr.loadAt 41 a62) w fun a63 w =>
 cf R 63 #[a0, a63] w fun a64 w =>
 R (.returned (.tuple #[])) w) (
 v1 R (Bo .eql 3 false true a26 (.int .i64 4)) w fun a66 w =>
 If a66 (
 up R (Nc a1) w fun a69 w =>
 v1 R (Instr.fieldAt 43 a69 6) w fun a70 w =>
 v1 R (Instr.loadAt 26 a70) w fun a71 w =>
 cf R 65 #[a0, (.string ⟨#[100, 111]⟩), a71] w fun a72 w =>
 R (.returned (.tuple #[])) w) (
 v1 R (Bo .eql 3 false true a26 (.int .i64 5)) w fun a74 w =>
 If a74 (
 up R (Nc a1) w fun a77 w =>
 v1 R (Instr.fieldAt 43 a77 4) w fun a78 w =>
 v1 R (Instr.loadAt 41 a78) w fun a79 w =>
 cf R 64 #[a79] w fun a80 w =>
 cf R 62 #[a0, (.string ⟨#[119, 104, 105, 108, 101, 32]⟩), a80] w fun a81 w =>
 up R (Nc a1) w fun a84 w =>
 v1 R (Instr.fieldAt 43 a84 6) w fun a85 w =>
 v1 R (Instr.loadAt 26 a85) w fun a86 w =>
 cf R 65 #[a0, (.string ⟨#[32, 100, 111]⟩), a86] w fun a87 w =>
 R (.returned (.tuple #[])) w) (
 v1 R (Bo .eql 3 false true a26 (.int .i64 6)) w fun a89 w =>
 If a89 (
 v1 R (Instr.buildSlice 45 1 #[(0, (.string ⟨#[105, 102]⟩))]) w fun a91 w =>
 cf R 36 #[a0, a91] w fun a92 w =>
 cf R 66 #[a0, a1] w fun a95 w =>
 R (.returned (.tuple #[])) w) (
 v1 R (Bo .eql 3 false true a26 (.int .i64 7)) w fun a97 w =>
 If a97 (
 up R (Nc a1) w fun a100 w =>
 v1 R (Instr.fieldAt 43 a100 2) w fun a101 w =>
 v1 R (Instr.loadAt 9 a101) w fun a102 w =>
 v1 R (Instr.buildSlice 45 2 #[(0, (.string ⟨#[102, 111, 114, 32]⟩)), (1, a102)]) w fun a103 w =>
 cf R 36 #[a0, a103] w fun a104 w =>
 up R (Nc a1) w fun a107 w =>
 v1 R (Instr.fieldAt 43 a107 4) w fun a108 w =>
 v1 R (Instr.loadAt 41 a108) w fun a109 w =>
 cf R 64 #[a109] w fun a110 w =>
 cf R 62 #[a0, (.string ⟨#[32, 61, 32]⟩), a110] w fun a111 w =>
 up R (Nc a1) w fun a114 w =>
 v1 R (Instr.fieldAt 43 a114 5) w fun a115 w =>
 v1 R (Instr.loadAt 41 a115) w fun a116 w =>
 cf R 64 #[a116] w fun a117 w =>
 cf R 62 #[a0, (.string ⟨#[44, 32]⟩), a117] w fun a118 w =>
 up R (Nc a1) w fun a121 w =>
 v1 R (Instr.fieldAt 43 a121 6) w fun a122 w =>
 v1 R (Instr.loadAt 26 a122) w fun a123 w =>
 cf R 65 #[a0, (.string ⟨#[32, 100, 111]⟩), a123] w fun a124 w =>
 R (.returned (.tuple #[])) w) (
 v1 R (Bo .eql 3 false true a26 (.int .i64 8)) w fun a126 w =>
 If a126 (
 v1 R (Instr.buildSlice 45 1 #[(0, (.string ⟨#[114, 101, 116, 117, 114, 110]⟩))]) w fun a128 w =>
 cf R 36 #[a0, a128] w fun a129 w =>
 up R (Nc a1) w fun a132 w =>
 v1 R (Instr.fieldAt 43 a132 4) w fun a133 w =>
 v1 R (Instr.loadAt 41 a133) w fun a134 w =>
 cf R 62 #[a0, (.string ⟨#[32]⟩), a134] w fun a135 w =>
 R (.returned (.tuple #[])) w) (
 v1 R (Bo .eql 3 false true a26 (.int .i64 9)) w fun a137 w =>
 If a137 (
 v1 R (Instr.buildSlice 45 1 #[(0, (.string ⟨#[98, 114, 101, 97, 107]⟩))]) w fun a139 w =>
 cf R 36 #[a0, a139] w fun a140 w =>
 R (.returned (.tuple #[])) w) (
 v1 R (Bo .eql 3 false true a26 (.int .i64 10)) w fun a142 w =>
 If a142 (
 v1 R (Instr.buildSlice 45 1 #[(0, (.string ⟨#[116, 114, 121]⟩))]) w fun a144 w =>
 cf R 36 #[a0, a144] w fun a145 w =>
 up R (Nc a1) w fun a148 w =>
 v1 R (Instr.fieldAt 43 a148 6) w fun a149 w =>
 v1 R (Instr.loadAt 26 a149) w fun a150 w =>
 cf R 67 #[a0, a150] w fun a151 w =>
 up R (Nc a1) w fun a154 w =>
 v1 R (Instr.fieldAt 43 a154 2) w fun a155 w =>
 v1 R (Instr.loadAt 9 a155) w fun a156 w =>
 v1 R (Instr.buildSlice 45 2 #[(0, (.string ⟨#[99, 97, 116, 99, 104, 32]⟩)), (1, a156)]) w fun a157 w =>
 cf R 36 #[a0, a157] w fun a158 w =>
 up R (Nc a1) w fun a161 w =>
 v1 R (Instr.fieldAt 43 a161 7) w fun a162 w =>
 v1 R (Instr.loadAt 26 a162) w fun a163 w =>
 cf R 65 #[a0, (.string ⟨#[]⟩), a163] w fun a164 w =>
 R (.returned (.tuple #[])) w) (
 v1 R (Bo .eql 3 false true a26 (.int .i64 11)) w fun a166 w =>
 If a166 (
 up R (Nc a1) w fun a169 w =>
 v1 R (Instr.fieldAt 43 a169 2) w fun a170 w =>
 v1 R (Instr.loadAt 9 a170) w fun a171 w =>
 v1 R (Instr.buildSlice 45 2 #[(0, (.string ⟨#[108, 111, 99, 97, 108, 32, 102, 117, 110, 99, 116, 105, 111, 110, 32]⟩)), (1, a171)]) w fun a172 w =>
 cf R 36 #[a0, a172] w fun a173 w =>
 up R (Nc a1) w fun a175 w =>
 v1 R (Instr.fieldAt 43 a175 4) w fun a176 w =>
 v1 R (Instr.loadAt 41 a176) w fun a177 w =>
 v1 R (Bo .neq 41 false true a177 (.pointer none)) w fun a178 w =>
 J1 (fun k3 =>
 Gd a178 true (up R (Nc a1) w fun a181 w =>
 v1 R (Instr.fieldAt 43 a181 4) w fun a182 w =>
 v1 R (Instr.loadAt 41 a182) w fun a183 w =>
 up R (Nc a183) w fun a184 w =>
 v1 R (Instr.fieldAt 47 a184 0) w fun a185 w =>
 v1 R (Instr.loadAt 3 a185) w fun a186 w =>
 v1 R (Bo .eql 3 false true a186 (.int .i64 9)) w fun a187 w =>
 k3 a187 w) (k3 undef w)) (fun a187_1 w =>
 v1 R (Pk a178 a187_1 (.bool false)) w fun a188 w =>
 cf R 20 #[a188, (.int .i64 2)] w fun a189 w =>
 cf R 61 #[a0] w fun a191 w =>
 up R (Nc a1) w fun a194 w =>
 v1 R (Instr.fieldAt 43 a194 4) w fun a195 w =>
 v1 R (Instr.loadAt 41 a195) w fun a196 w =>
 cf R 68 #[a0, a196] w fun a197 w =>
 R (.returned (.tuple #[])) w)) (
 R (.returned (.tuple #[])) w)))))))))))))
set_option maxHeartbeats 4000000 in
theorem s35 {R : Ending → World → Prop} {a0 a1 : Value} {w : World} (h : S35 R a0 a1 w) : Calls Tryz.prog 35 #[a0, a1] w R :=
  calls_of [] mixed Tryz.func35 (c := codeB Tryz.f35) (by kernel_rfl) (Nat.le_of_ble_eq_true (by kernel_rfl)) (cast (by kernel_rfl) h)
theorem cf35 : CfT 35 := CfT.mk Tryz.func35 (c := codeB Tryz.f35) (by kernel_rfl) (by kernel_rfl)
def S36 (R : Ending → World → Prop) (a0 a1 : Value) (w : World) : Prop :=
 v1 R (Builtin.len_ #[45] 3 #[a1]) w fun a7 w =>
 L1 (.int .i64 0) w (fun g1 a8 w =>
 v1 R (Bo .lss 3 false false a8 a7) w fun a9 w =>
 If a9 (
 v1 R (Instr.indexAt 45 a1 a8) w fun a10 w =>
 v1 R (Instr.loadAt 9 a10) w fun a11 w =>
 v1 R (Builtin.len_ #[9] 3 #[a11]) w fun a13 w =>
 up R (Nc a0) w fun a15 w =>
 v1 R (Instr.fieldAt 56 a15 0) w fun a16 w =>
 cf R 69 #[a16] w fun a17 w =>
 v1 R (Bo .sub 3 true false (.int .i64 32768) a17) w fun a18 w =>
 v1 R (Bo .leq 3 false false a13 a18) w fun a19 w =>
 cf R 20 #[a19, (.int .i64 3)] w fun a20 w =>
 up R (Nc a0) w fun a22 w =>
 v1 R (Instr.fieldAt 56 a22 0) w fun a23 w =>
 cf R 70 #[a23, a11] w fun a25 w =>
 v1 R (Bo .add 3 false true a8 (.int .i64 1)) w fun a26 w =>
 g1 a26 w) (
 R (.returned (.tuple #[])) w))
theorem s36 {R : Ending → World → Prop} {a0 a1 : Value} {w : World} (h : S36 R a0 a1 w) : Calls Tryz.prog 36 #[a0, a1] w R :=
  calls_of [] mixed Tryz.func36 (c := codeB Tryz.f36) (by kernel_rfl) (Nat.le_of_ble_eq_true (by kernel_rfl)) (cast (by kernel_rfl) h)
theorem cf36 : CfT 36 := CfT.mk Tryz.func36 (c := codeB Tryz.f36) (by kernel_rfl) (by kernel_rfl)
def S38 (R : Ending → World → Prop) (a0 a1 a2 : Value) (w : World) : Prop :=
 L2 a0 (.bool false) w (fun g1 a0_1 a6 w =>
 J1 (fun k1 =>
 Gd a2 true (v1 R (Bo .eql 31 false false a0_1 a1) w fun a18 w =>
 k1 a18 w) (k1 undef w)) (fun a18_1 w =>
 v1 R (Pk a2 a18_1 (.bool false)) w fun a19 w =>
 If a19 (
 R (.returned (.bool true)) w) (
 v1 R (Instr.typeAssert a0_1 31 130 true) w fun a22 w =>
 v1 R (Instr.extract a22 0) w fun a23 w =>
 v1 R (Instr.extract a22 1) w fun a24 w =>
 J1 (fun k2 =>
 Gd a24 true (up R (invoke (.fn (.method "Is") #[]) (#[a23] ++ #[a1])) w fun a29 w =>
 k2 a29 w) (k2 undef w)) (fun a29_1 w =>
 v1 R (Pk a24 a29_1 (.bool false)) w fun a30 w =>
 If a30 (
 R (.returned (.bool true)) w) (
 v1 R (Instr.typeAssert a0_1 31 133 true) w fun a32 w =>
 v1 R (Instr.extract a32 1) w fun a33 w =>
 v1 R (Instr.extract a32 0) w fun a34 w =>
 If a33 (
 up R (invoke (.fn (.method "Unwrap") #[]) (#[a34] ++ #[])) w fun a36 w =>
 v1 R (Bo .eql 31 false true a36 .nilIface) w fun a38 w =>
 If a38 (
 R (.returned (.bool false)) w) (
 g1 a36 a6 w)) (
 v1 R (Instr.typeAssert a0_1 31 135 true) w fun a39 w =>
 v1 R (Instr.extract a39 1) w fun a40 w =>
 v1 R (Instr.extract a39 0) w fun a41 w =>
 If a40 (
 up R (invoke (.fn (.method "Unwrap") #[]) (#[a41] ++ #[])) w fun a43 w =>
 v1 R (Builtin.len_ #[136] 3 #[a43]) w fun a44 w =>
 L2 a6 (.int .i64 0) w (fun g2 a6_1 a45 w =>
 v1 R (Bo .lss 3 false false a45 a44) w fun a46 w =>
 If a46 (
 v1 R (Instr.indexAt 136 a43 a45) w fun a47 w =>
 v1 R (Instr.loadAt 31 a47) w fun a48 w =>
 cf R 38 #[a48, a1, a2] w fun a52 w =>
 If a52 (
 R (.returned (.bool true)) w) (
 v1 R (Bo .add 3 false true a45 (.int .i64 1)) w fun a53 w =>
 g2 a6_1 a53 w)) (
 R (.returned (.bool false)) w))) (
 R (.returned (.bool false)) w)))))))
theorem e38 (R : Ending → World → Prop) (a0 a1 a2 : Value) (w : World) : body Tryz.prog Tryz.f38.ntmps [] Tryz.f38.results.toList (codeB Tryz.f38) [a0, a1, a2] R w = S38 R a0 a1 a2 w := by kernel_rfl
theorem s38 {R : Ending → World → Prop} {a0 a1 a2 : Value} {w : World} (h : S38 R a0 a1 a2 w) : Calls Tryz.prog 38 #[a0, a1, a2] w R :=
  calls_of [] mixed Tryz.func38 (c := codeB Tryz.f38) (by kernel_rfl) (Nat.le_of_ble_eq_true (by kernel_rfl)) (by rw [e38]; exact h)
theorem cf38 : CfT 38 := CfT.mk Tryz.func38 (c := codeB Tryz.f38) (by kernel_rfl) (by kernel_rfl)
def S39 (R : Ending → World → Prop) (a0 a1 a2 : Value) (w : World) : Prop :=
 v1 R (Builtin.len_ #[26] 3 #[a0]) w fun a11 w =>
 v1 R (Builtin.len_ #[26] 3 #[a1]) w fun a13 w =>
 v1 R (Bo .neq 3 false false a11 a13) w fun a14 w =>
 If a14 (
 R (.returned (.bool false)) w) (
 v1 R (Builtin.len_ #[26] 3 #[a0]) w fun a16 w =>
 L2 (.bool false) (.int .i64 0) w (fun g1 a6 a17 w =>
 v1 R (Bo .lss 3 false false a17 a16) w fun a18 w =>
 If a18 (
 v1 R (Instr.indexAt 26 a0 a17) w fun a20 w =>
 v1 R (Instr.loadAt 40 a20) w fun a21 w =>
 v1 R (Instr.indexAt 26 a1 a17) w fun a24 w =>
 v1 R (Instr.loadAt 40 a24) w fun a25 w =>
 up R (Cv a2 #[a21, a25]) w fun a29 w =>
 v1 R (Op.unary .not a29) w fun a30 w =>
 If a30 (
 R (.returned (.bool false)) w) (
 v1 R (Bo .add 3 false true a17 (.int .i64 1)) w fun a31 w =>
 g1 a6 a31 w)) (
 R (.returned (.bool true)) w)))
theorem s39 {R : Ending → World → Prop} {a0 a1 a2 : Value} {w : World} (h : S39 R a0 a1 a2 w) : Calls Tryz.prog 39 #[a0, a1, a2] w R :=
  calls_of [] mixed Tryz.func39 (c := codeB Tryz.f39) (by kernel_rfl) (Nat.le_of_ble_eq_true (by kernel_rfl)) (cast (by kernel_rfl) h)
theorem cf39 : CfT 39 := CfT.mk Tryz.func39 (c := codeB Tryz.f39) (by kernel_rfl) (by kernel_rfl)
def S40 (R : Ending → World → Prop) (a0 a1 : Value) (w : World) : Prop :=
 v1 R (Bo .eql 40 false true a0 (.pointer none)) w fun a6 w =>
 J1 (fun k1 =>
 Gd a6 false (v1 R (Bo .eql 40 false true a1 (.pointer none)) w fun a9 w =>
 k1 a9 w) (k1 undef w)) (fun a9_1 w =>
 v1 R (Pk a6 (.bool true) a9_1) w fun a10 w =>
 If a10 (
 v1 R (Bo .eql 40 false true a0 (.pointer none)) w fun a12 w =>
 J1 (fun k2 =>
 Gd a12 true (v1 R (Bo .eql 40 false true a1 (.pointer none)) w fun a15 w =>
 k2 a15 w) (k2 undef w)) (fun a15_1 w =>
 v1 R (Pk a12 a15_1 (.bool false)) w fun a16 w =>
 R (.returned a16) w)) (
 ∃ C1 : World → Prop, C1 w.drew ∧
 xq C1 (Nc a0) fun a18 => xv C1 (Instr.fieldAt 43 a18 0) fun a19 => xv C1 (Instr.loadAt 3 a19) fun a20 => xq C1 (Nc a1) fun a22 => xv C1 (Instr.fieldAt 43 a22 0) fun a23 => xv C1 (Instr.loadAt 3 a23) fun a24 => xv C1 (Bo .eql 3 false false a20 a24) fun a25 => Q1 (fun k3 =>
 Gd a25 true (xq C1 (Nc a0) fun a28 => xv C1 (Instr.fieldAt 43 a28 2) fun a29 => xv C1 (Instr.loadAt 9 a29) fun a30 => xq C1 (Nc a1) fun a32 => xv C1 (Instr.fieldAt 43 a32 2) fun a33 => xv C1 (Instr.loadAt 9 a33) fun a34 => xv C1 (Bo .eql 9 false false a30 a34) fun a35 => k3 a35) (k3 undef)) (fun a35_1 =>
 xv C1 (Pk a25 a35_1 (.bool false)) fun a36 => Q1 (fun k4 =>
 Gd a36 true (xq C1 (Nc a0) fun a39 => xv C1 (Instr.fieldAt 43 a39 3) fun a40 => xv C1 (Instr.loadAt 41 a40) fun a41 => xq C1 (Nc a1) fun a43 => xv C1 (Instr.fieldAt 43 a43 3) fun a44 => xv C1 (Instr.loadAt 41 a44) fun a45 => xq C1 (callFunc 41 #[a41, a45]) fun a46 => k4 a46) (k4 undef)) (fun a46_1 =>
 xv C1 (Pk a36 a46_1 (.bool false)) fun a47 => Q1 (fun k5 =>
 Gd a47 true (xq C1 (Nc a0) fun a50 => xv C1 (Instr.fieldAt 43 a50 4) fun a51 => xv C1 (Instr.loadAt 41 a51) fun a52 => xq C1 (Nc a1) fun a54 => xv C1 (Instr.fieldAt 43 a54 4) fun a55 => xv C1 (Instr.loadAt 41 a55) fun a56 => xq C1 (callFunc 41 #[a52, a56]) fun a57 => k5 a57) (k5 undef)) (fun a57_1 =>
 xv C1 (Pk a47 a57_1 (.bool false)) fun a58 => Q1 (fun k6 =>
 Gd a58 true (xq C1 (Nc a0) fun a61 => xv C1 (Instr.fieldAt 43 a61 5) fun a62 => xv C1 (Instr.loadAt 41 a62) fun a63 => xq C1 (Nc a1) fun a65 => xv C1 (Instr.fieldAt 43 a65 5) fun a66 => xv C1 (Instr.loadAt 41 a66) fun a67 => xq C1 (callFunc 41 #[a63, a67]) fun a68 => k6 a68) (k6 undef)) (fun a68_1 =>
 xv C1 (Pk a58 a68_1 (.bool false)) fun a69 => Q1 (fun k7 =>
 Gd a69 true (xq C1 (Nc a0) fun a72 => xv C1 (Instr.fieldAt 43 a72 6) fun a73 => xv C1 (Instr.loadAt 26 a73) fun a74 => xq C1 (Nc a1) fun a76 => xv C1 (Instr.fieldAt 43 a76 6) fun a77 => xv C1 (Instr.loadAt 26 a77) fun a78 => xq C1 (callFunc 22 #[a74, a78]) fun a79 => k7 a79) (k7 undef)) (fun a79_1 =>
 xv C1 (Pk a69 a79_1 (.bool false)) fun a80 => Q1 (fun k8 =>
 Gd a80 true (xq C1 (Nc a0) fun a83 => xv C1 (Instr.fieldAt 43 a83 7) fun a84 => xv C1 (Instr.loadAt 26 a84) fun a85 => xq C1 (Nc a1) fun a87 => xv C1 (Instr.fieldAt 43 a87 7) fun a88 => xv C1 (Instr.loadAt 26 a88) fun a89 => xq C1 (callFunc 22 #[a85, a89]) fun a90 => k8 a90) (k8 undef)) (fun a90_1 =>
 xv C1 (Pk a80 a90_1 (.bool false)) fun a91 => ∀ w, C1 w → R (.returned a91) w))))))))
theorem s40 {R : Ending → World → Prop} {a0 a1 : Value} {w : World} (h : S40 R a0 a1 w) : Calls Tryz.prog 40 #[a0, a1] w R :=
  calls_of [] mixed Tryz.func40 (c := codeB Tryz.f40) (by kernel_rfl) (Nat.le_of_ble_eq_true (by kernel_rfl)) (cast (by kernel_rfl) h)
def S41 (R : Ending → World → Prop) (a0 a1 : Value) (w : World) : Prop :=
 v1 R (Bo .eql 41 false true a0 (.pointer none)) w fun a6 w =>
 J1 (fun k1 =>
 Gd a6 false (v1 R (Bo .eql 41 false true a1 (.pointer none)) w fun a9 w =>
 k1 a9 w) (k1 undef w)) (fun a9_1 w =>
 v1 R (Pk a6 (.bool true) a9_1) w fun a10 w =>
 If a10 (
 v1 R (Bo .eql 41 false true a0 (.pointer none)) w fun a12 w =>
 J1 (fun k2 =>
 Gd a12 true (v1 R (Bo .eql 41 false true a1 (.pointer none)) w fun a15 w =>
 k2 a15 w) (k2 undef w)) (fun a15_1 w =>
 v1 R (Pk a12 a15_1 (.bool false)) w fun a16 w =>
 R (.returned a16) w)) (
 ∃ C1 : World → Prop, C1 w.drew ∧
 xq C1 (Nc a0) fun a18 => xv C1 (Instr.fieldAt 47 a18 0) fun a19 => xv C1 (Instr.loadAt 3 a19) fun a20 => xq C1 (Nc a1) fun a22 => xv C1 (Instr.fieldAt 47 a22 0) fun a23 => xv C1 (Instr.loadAt 3 a23) fun a24 => xv C1 (Bo .eql 3 false false a20 a24) fun a25 => Q1 (fun k3 =>
 Gd a25 true (xq C1 (Nc a0) fun a28 => xv C1 (Instr.fieldAt 47 a28 2) fun a29 => xv C1 (Instr.loadAt 2 a29) fun a30 => xq C1 (Nc a1) fun a32 => xv C1 (Instr.fieldAt 47 a32 2) fun a33 => xv C1 (Instr.loadAt 2 a33) fun a34 => xv C1 (Bo .eql 2 false false a30 a34) fun a35 => k3 a35) (k3 undef)) (fun a35_1 =>
 xv C1 (Pk a25 a35_1 (.bool false)) fun a36 => Q1 (fun k4 =>
 Gd a36 true (xq C1 (Nc a0) fun a39 => xv C1 (Instr.fieldAt 47 a39 3) fun a40 => xv C1 (Instr.loadAt 9 a40) fun a41 => xq C1 (Nc a1) fun a43 => xv C1 (Instr.fieldAt 47 a43 3) fun a44 => xv C1 (Instr.loadAt 9 a44) fun a45 => xv C1 (Bo .eql 9 false false a41 a45) fun a46 => k4 a46) (k4 undef)) (fun a46_1 =>
 xv C1 (Pk a36 a46_1 (.bool false)) fun a47 => Q1 (fun k5 =>
 Gd a47 true (xq C1 (Nc a0) fun a50 => xv C1 (Instr.fieldAt 47 a50 4) fun a51 => xv C1 (Instr.loadAt 41 a51) fun a52 => xq C1 (Nc a1) fun a54 => xv C1 (Instr.fieldAt 47 a54 4) fun a55 => xv C1 (Instr.loadAt 41 a55) fun a56 => xq C1 (callFunc 41 #[a52, a56]) fun a57 => k5 a57) (k5 undef)) (fun a57_1 =>
 xv C1 (Pk a47 a57_1 (.bool false)) fun a58 => Q1 (fun k6 =>
 Gd a58 true (xq C1 (Nc a0) fun a61 => xv C1 (Instr.fieldAt 47 a61 5) fun a62 => xv C1 (Instr.loadAt 41 a62) fun a63 => xq C1 (Nc a1) fun a65 => xv C1 (Instr.fieldAt 47 a65 5) fun a66 => xv C1 (Instr.loadAt 41 a66) fun a67 => xq C1 (callFunc 41 #[a63, a67]) fun a68 => k6 a68) (k6 undef)) (fun a68_1 =>
 xv C1 (Pk a58 a68_1 (.bool false)) fun a69 => Q1 (fun k7 =>
 Gd a69 true (xq C1 (Nc a0) fun a72 => xv C1 (Instr.fieldAt 47 a72 6) fun a73 => xv C1 (Instr.loadAt 44 a73) fun a74 => xq C1 (Nc a1) fun a76 => xv C1 (Instr.fieldAt 47 a76 6) fun a77 => xv C1 (Instr.loadAt 44 a77) fun a78 => xq C1 (callFunc 71 #[a74, a78, (.func (.func 41) #[] #[])]) fun a79 => k7 a79) (k7 undef)) (fun a79_1 =>
 xv C1 (Pk a69 a79_1 (.bool false)) fun a80 => Q1 (fun k8 =>
 Gd a80 true (xq C1 (Nc a0) fun a83 => xv C1 (Instr.fieldAt 47 a83 7) fun a84 => xv C1 (Instr.loadAt 44 a84) fun a85 => xq C1 (Nc a1) fun a87 => xv C1 (Instr.fieldAt 47 a87 7) fun a88 => xv C1 (Instr.loadAt 44 a88) fun a89 => xq C1 (callFunc 71 #[a85, a89, (.func (.func 41) #[] #[])]) fun a90 => k8 a90) (k8 undef)) (fun a90_1 =>
 xv C1 (Pk a80 a90_1 (.bool false)) fun a91 => Q1 (fun k9 =>
 Gd a91 true (xq C1 (Nc a0) fun a94 => xv C1 (Instr.fieldAt 47 a94 8) fun a95 => xv C1 (Instr.loadAt 45 a95) fun a96 => xq C1 (Nc a1) fun a98 => xv C1 (Instr.fieldAt 47 a98 8) fun a99 => xv C1 (Instr.loadAt 45 a99) fun a100 => xq C1 (callFunc 72 #[a96, a100]) fun a101 => k9 a101) (k9 undef)) (fun a101_1 =>
 xv C1 (Pk a91 a101_1 (.bool false)) fun a102 => Q1 (fun k10 =>
 Gd a102 true (xq C1 (Nc a0) fun a105 => xv C1 (Instr.fieldAt 47 a105 9) fun a106 => xv C1 (Instr.loadAt 26 a106) fun a107 => xq C1 (Nc a1) fun a109 => xv C1 (Instr.fieldAt 47 a109 9) fun a110 => xv C1 (Instr.loadAt 26 a110) fun a111 => xq C1 (callFunc 22 #[a107, a111]) fun a112 => k10 a112) (k10 undef)) (fun a112_1 =>
 xv C1 (Pk a102 a112_1 (.bool false)) fun a113 => ∀ w, C1 w → R (.returned a113) w))))))))))
theorem s41 {R : Ending → World → Prop} {a0 a1 : Value} {w : World} (h : S41 R a0 a1 w) : Calls Tryz.prog 41 #[a0, a1] w R :=
  calls_of [] mixed Tryz.func41 (c := codeB Tryz.f41) (by kernel_rfl) (Nat.le_of_ble_eq_true (by kernel_rfl)) (cast (by kernel_rfl) h)
def S55 (R : Ending → World → Prop) (a0 a1 : Value) (w : World) : Prop :=
 v1 R (Bo .eql 31 false true a0 .nilIface) w fun a9 w =>
 If a9 (
 R (.returned (.bool false)) w) (
 J0 (fun k1 =>
 v1 R (Bo .eql 20 false true a1 .nilIface) w fun a11 w =>
 If a11 (
 v1 R (Instr.makeInterface 9 (.string ⟨#[101, 114, 114, 111, 114, 115, 58, 32, 116, 97, 114, 103, 101, 116, 32, 99, 97, 110, 110, 111, 116, 32, 98, 101, 32, 110, 105, 108]⟩)) w fun a12 w =>
 v1 R (Instr.panic a12) w fun _ w =>
 k1 w) (
 k1 w)) (fun w =>
 cf R 93 #[a1] w fun a14 w =>
 v1 R (Instr.alloc 149 true (.tuple #[])) w fun a5 w =>
 u1 R (Instr.storeAt 149 a5 a14) w fun w =>
 v1 R (Instr.loadAt 149 a5) w fun a15 w =>
 cf R 94 #[a15] w fun a16 w =>
 J0 (fun k2 =>
 up R (invoke (.fn (.method "Kind") #[]) (#[a16] ++ #[])) w fun a18 w =>
 v1 R (Bo .neq 152 false true a18 (.int .u8 22)) w fun a19 w =>
 J1 (fun k3 =>
 Gd a19 false (v1 R (Instr.loadAt 149 a5) w fun a21 w =>
 cf R 95 #[a21] w fun a22 w =>
 k3 a22 w) (k3 undef w)) (fun a22_1 w =>
 v1 R (Pk a19 (.bool true) a22_1) w fun a23 w =>
 If a23 (
 v1 R (Instr.makeInterface 9 (.string ⟨#[101, 114, 114, 111, 114, 115, 58, 32, 116, 97, 114, 103, 101, 116, 32, 109, 117, 115, 116, 32, 98, 101, 32, 97, 32, 110, 111, 110, 45, 110, 105, 108, 32, 112, 111, 105, 110, 116, 101, 114]⟩)) w fun a24 w =>
 v1 R (Instr.panic a24) w fun _ w =>
 k2 w) (
 k2 w))) (fun w =>
 up R (invoke (.fn (.method "Elem") #[]) (#[a16] ++ #[])) w fun a26 w =>
 J0 (fun k4 =>
 up R (invoke (.fn (.method "Kind") #[]) (#[a26] ++ #[])) w fun a28 w =>
 v1 R (Bo .neq 152 false true a28 (.int .u8 20)) w fun a29 w =>
 J1 (fun k5 =>
 Gd a29 true (v1 R (Instr.loadAt 95 (.pointer (some ⟨0, 0, none⟩))) w fun a32 w =>
 up R (invoke (.fn (.method "Implements") #[]) (#[a26] ++ #[a32])) w fun a33 w =>
 v1 R (Op.unary .not a33) w fun a34 w =>
 k5 a34 w) (k5 undef w)) (fun a34_1 w =>
 v1 R (Pk a29 a34_1 (.bool false)) w fun a35 w =>
 If a35 (
 v1 R (Instr.makeInterface 9 (.string ⟨#[101, 114, 114, 111, 114, 115, 58, 32, 42, 116, 97, 114, 103, 101, 116, 32, 109, 117, 115, 116, 32, 98, 101, 32, 105, 110, 116, 101, 114, 102, 97, 99, 101, 32, 111, 114, 32, 105, 109, 112, 108, 101, 109, 101, 110, 116, 32, 101, 114, 114, 111, 114]⟩)) w fun a36 w =>
 v1 R (Instr.panic a36) w fun _ w =>
 k4 w) (
 k4 w))) (fun w =>
 v1 R (Instr.loadAt 149 a5) w fun a39 w =>
 cf R 96 #[a0, a1, a39, a26] w fun a41 w =>
 R (.returned a41) w))))
theorem s55 {R : Ending → World → Prop} {a0 a1 : Value} {w : World} (h : S55 R a0 a1 w) : Calls Tryz.prog 55 #[a0, a1] w R :=
  calls_of [] mixed Tryz.func55 (c := codeB Tryz.f55) (by kernel_rfl) (Nat.le_of_ble_eq_true (by kernel_rfl)) (cast (by kernel_rfl) h)
theorem cf55 : CfT 55 := CfT.mk Tryz.func55 (c := codeB Tryz.f55) (by kernel_rfl) (by kernel_rfl)
def S59 (R : Ending → World → Prop) (a0 a1 : Value) (w : World) : Prop :=
 v1 R (Builtin.len_ #[26] 3 #[a1]) w fun a7 w =>
 L1 (.int .i64 0) w (fun g1 a8 w =>
 v1 R (Bo .lss 3 false false a8 a7) w fun a9 w =>
 If a9 (
 J0 (fun k1 =>
 v1 R (Instr.indexAt 26 a1 a8) w fun a10 w =>
 v1 R (Instr.loadAt 40 a10) w fun a11 w =>
 v1 R (Bo .eql 40 false true a11 (.pointer none)) w fun a13 w =>
 J1 (fun k2 =>
 Gd a13 false (up R (Nc a0) w fun a16 w =>
 v1 R (Instr.loadAt 118 a16) w fun a17 w =>
 v1 R (Bo .gtr 118 false true a17 (.int .i64 65536)) w fun a18 w =>
 k2 a18 w) (k2 undef w)) (fun a18_1 w =>
 v1 R (Pk a13 (.bool true) a18_1) w fun a19 w =>
 If a19 (
 k1 w) (
 up R (Nc a0) w fun a21 w =>
 v1 R (Instr.loadAt 118 a21) w fun a22 w =>
 v1 R (Bo .add 118 false true a22 (.int .i64 1)) w fun a23 w =>
 up R (Nc a0) w fun a24 w =>
 u1 R (Instr.storeAt 118 a24 a23) w fun w =>
 ∃ S1 : World → Prop, S1 w.drew ∧
 xs t0 (Nc a11) fun a27 => xw t0 (Instr.fieldAt 43 a27 3) fun a28 => xw S1 (Instr.loadAt 41 a28) fun a29 => xs t0 (Nc a11) fun a31 => xw t0 (Instr.fieldAt 43 a31 4) fun a32 => xw S1 (Instr.loadAt 41 a32) fun a33 => xs t0 (Nc a11) fun a35 => xw t0 (Instr.fieldAt 43 a35 5) fun a36 => xw S1 (Instr.loadAt 41 a36) fun a37 => v1 R (Instr.buildSlice 44 3 #[(0, a29), (1, a33), (2, a37)]) w.drew fun a38 w =>
 cf R 111 #[a0, a38] w fun a39 w =>
 up R (Nc a11) w fun a42 w =>
 v1 R (Instr.fieldAt 43 a42 6) w fun a43 w =>
 v1 R (Instr.loadAt 26 a43) w fun a44 w =>
 cf R 59 #[a0, a44] w fun a45 w =>
 up R (Nc a11) w fun a48 w =>
 v1 R (Instr.fieldAt 43 a48 7) w fun a49 w =>
 v1 R (Instr.loadAt 26 a49) w fun a50 w =>
 cf R 59 #[a0, a50] w fun a51 w =>
 k1 w))) (fun w =>
 v1 R (Bo .add 3 false true a8 (.int .i64 1)) w fun a52 w =>
 g1 a52 w)) (
 R (.returned (.tuple #[])) w))
theorem s59 {R : Ending → World → Prop} {a0 a1 : Value} {w : World} (h : S59 R a0 a1 w) : Calls Tryz.prog 59 #[a0, a1] w R :=
  calls_of [5] mixed Tryz.func59 (c := codeB Tryz.f59) (by kernel_rfl) (Nat.le_of_ble_eq_true (by kernel_rfl)) (cast (by kernel_rfl) h)
theorem cf59 : CfT 59 := CfT.mk Tryz.func59 (c := codeB Tryz.f59) (by kernel_rfl) (by kernel_rfl)
def S61 (R : Ending → World → Prop) (a0 : Value) (w : World) : Prop :=
 up R (Nc a0) w fun a3 w =>
 v1 R (Instr.fieldAt 56 a3 1) w fun a4 w =>
 v1 R (Instr.loadAt 3 a4) w fun a5 w =>
 v1 R (Bo .add 3 false true a5 (.int .i64 1)) w fun a6 w =>
 up R (Nc a0) w fun a7 w =>
 v1 R (Instr.fieldAt 56 a7 1) w fun a8 w =>
 u1 R (Instr.storeAt 3 a8 a6) w fun w =>
 up R (Nc a0) w fun a10 w =>
 v1 R (Instr.fieldAt 56 a10 1) w fun a11 w =>
 v1 R (Instr.loadAt 3 a11) w fun a12 w =>
 v1 R (Bo .leq 3 false true a12 (.int .i64 65536)) w fun a13 w =>
 cf R 20 #[a13, (.int .i64 3)] w fun a14 w =>
 R (.returned (.tuple #[])) w
theorem s61 {R : Ending → World → Prop} {a0 : Value} {w : World} (h : S61 R a0 w) : Calls Tryz.prog 61 #[a0] w R :=
  calls_of [] mixed Tryz.func61 (c := codeB Tryz.f61) (by kernel_rfl) (Nat.le_of_ble_eq_true (by kernel_rfl)) (cast (by kernel_rfl) h)
theorem cf61 : CfT 61 := CfT.mk Tryz.func61 (c := codeB Tryz.f61) (by kernel_rfl) (by kernel_rfl)
def S62 (R : Ending → World → Prop) (a0 a1 a2 : Value) (w : World) : Prop :=
 v1 R (Bo .neq 41 false true a2 (.pointer none)) w fun a7 w =>
 If a7 (
 v1 R (Instr.buildSlice 45 1 #[(0, a1)]) w fun a10 w =>
 cf R 36 #[a0, a10] w fun a11 w =>
 cf R 63 #[a0, a2] w fun a14 w =>
 R (.returned (.tuple #[])) w) (
 R (.returned (.tuple #[])) w)
theorem s62 {R : Ending → World → Prop} {a0 a1 a2 : Value} {w : World} (h : S62 R a0 a1 a2 w) : Calls Tryz.prog 62 #[a0, a1, a2] w R :=
  calls_of [] mixed Tryz.func62 (c := codeB Tryz.f62) (by kernel_rfl) (Nat.le_of_ble_eq_true (by kernel_rfl)) (cast (by kernel_rfl) h)
theorem cf62 : CfT 62 := CfT.mk Tryz.func62 (c := codeB Tryz.f62) (by kernel_rfl) (by kernel_rfl)
def S63 (R : Ending → World → Prop) (a0 a1 : Value) (w : World) : Prop :=
 v1 R (Bo .neq 41 false true a1 (.pointer none)) w fun a7 w =>
 J1 (fun k1 =>
 Gd a7 true (up R (Nc a1) w fun a10 w =>
 v1 R (Instr.fieldAt 47 a10 0) w fun a11 w =>
 v1 R (Instr.loadAt 3 a11) w fun a12 w =>
 v1 R (Bo .geq 3 false true a12 (.int .i64 1)) w fun a13 w =>
 k1 a13 w) (k1 undef w)) (fun a13_1 w =>
 v1 R (Pk a7 a13_1 (.bool false)) w fun a14 w =>
 J1 (fun k2 =>
 Gd a14 true (up R (Nc a1) w fun a17 w =>
 v1 R (Instr.fieldAt 47 a17 0) w fun a18 w =>
 v1 R (Instr.loadAt 3 a18) w fun a19 w =>
 v1 R (Bo .leq 3 false true a19 (.int .i64 12)) w fun a20 w =>
 k2 a20 w) (k2 undef w)) (fun a20_1 w =>
 v1 R (Pk a14 a20_1 (.bool false)) w fun a21 w =>
 cf R 20 #[a21, (.int .i64 2)] w fun a22 w =>
 cf R 61 #[a0] w fun a24 w =>
 up R (Nc a1) w fun a26 w =>
 v1 R (Instr.fieldAt 47 a26 0) w fun a27 w =>
 v1 R (Instr.loadAt 3 a27) w fun a28 w =>
 v1 R (Bo .eql 3 false true a28 (.int .i64 1)) w fun a30 w =>
 If a30 (
 v1 R (Instr.buildSlice 45 1 #[(0, (.string ⟨#[110, 105, 108]⟩))]) w fun a32 w =>
 cf R 36 #[a0, a32] w fun a33 w =>
 R (.returned (.tuple #[])) w) (
 v1 R (Bo .eql 3 false true a28 (.int .i64 2)) w fun a35 w =>
 If a35 (
 v1 R (Instr.buildSlice 45 1 #[(0, (.string ⟨#[116, 114, 117, 101]⟩))]) w fun a37 w =>
 cf R 36 #[a0, a37] w fun a38 w =>
 R (.returned (.tuple #[])) w) (
 v1 R (Bo .eql 3 false true a28 (.int .i64 3)) w fun a40 w =>
 If a40 (
 v1 R (Instr.buildSlice 45 1 #[(0, (.string ⟨#[102, 97, 108, 115, 101]⟩))]) w fun a42 w =>
 cf R 36 #[a0, a42] w fun a43 w =>
 R (.returned (.tuple #[])) w) (
 v1 R (Bo .eql 3 false true a28 (.int .i64 4)) w fun a45 w =>
 If a45 (
 up R (Nc a1) w fun a48 w =>
 v1 R (Instr.fieldAt 47 a48 2) w fun a49 w =>
 v1 R (Instr.loadAt 2 a49) w fun a50 w =>
 cf R 112 #[a50] w fun a51 w =>
 v1 R (Instr.buildSlice 45 1 #[(0, a51)]) w fun a52 w =>
 cf R 36 #[a0, a52] w fun a53 w =>
 R (.returned (.tuple #[])) w) (
 v1 R (Bo .eql 3 false true a28 (.int .i64 5)) w fun a55 w =>
 If a55 (
 up R (Nc a1) w fun a58 w =>
 v1 R (Instr.fieldAt 47 a58 3) w fun a59 w =>
 v1 R (Instr.loadAt 9 a59) w fun a60 w =>
 cf R 113 #[a60] w fun a61 w =>
 v1 R (Instr.buildSlice 45 1 #[(0, a61)]) w fun a62 w =>
 cf R 36 #[a0, a62] w fun a63 w =>
 R (.returned (.tuple #[])) w) (
 v1 R (Bo .eql 3 false true a28 (.int .i64 6)) w fun a65 w =>
 If a65 (
 up R (Nc a1) w fun a68 w =>
 v1 R (Instr.fieldAt 47 a68 3) w fun a69 w =>
 v1 R (Instr.loadAt 9 a69) w fun a70 w =>
 v1 R (Instr.buildSlice 45 1 #[(0, a70)]) w fun a71 w =>
 cf R 36 #[a0, a71] w fun a72 w =>
 R (.returned (.tuple #[])) w) (
 v1 R (Bo .eql 3 false true a28 (.int .i64 7)) w fun a74 w =>
 If a74 (
 up R (Nc a1) w fun a77 w =>
 v1 R (Instr.fieldAt 47 a77 4) w fun a78 w =>
 v1 R (Instr.loadAt 41 a78) w fun a79 w =>
 cf R 114 #[a0, a79] w fun a80 w =>
 up R (Nc a1) w fun a82 w =>
 v1 R (Instr.fieldAt 47 a82 5) w fun a83 w =>
 v1 R (Instr.loadAt 41 a83) w fun a84 w =>
 cf R 115 #[a84] w fun a85 w =>
 If a85 (
 cf R 61 #[a0] w fun a87 w =>
 up R (Nc a1) w fun a90 w =>
 v1 R (Instr.fieldAt 47 a90 5) w fun a91 w =>
 v1 R (Instr.loadAt 41 a91) w fun a92 w =>
 up R (Nc a92) w fun a93 w =>
 v1 R (Instr.fieldAt 47 a93 3) w fun a94 w =>
 v1 R (Instr.loadAt 9 a94) w fun a95 w =>
 v1 R (Instr.buildSlice 45 2 #[(0, (.string ⟨#[46]⟩)), (1, a95)]) w fun a96 w =>
 cf R 36 #[a0, a96] w fun a97 w =>
 R (.returned (.tuple #[])) w) (
 v1 R (Instr.buildSlice 45 1 #[(0, (.string ⟨#[91]⟩))]) w fun a99 w =>
 cf R 36 #[a0, a99] w fun a100 w =>
 up R (Nc a1) w fun a103 w =>
 v1 R (Instr.fieldAt 47 a103 5) w fun a104 w =>
 v1 R (Instr.loadAt 41 a104) w fun a105 w =>
 cf R 63 #[a0, a105] w fun a106 w =>
 v1 R (Instr.buildSlice 45 1 #[(0, (.string ⟨#[93]⟩))]) w fun a108 w =>
 cf R 36 #[a0, a108] w fun a109 w =>
 R (.returned (.tuple #[])) w)) (
 v1 R (Bo .eql 3 false true a28 (.int .i64 8)) w fun a111 w =>
 If a111 (
 up R (Nc a1) w fun a114 w =>
 v1 R (Instr.fieldAt 47 a114 4) w fun a115 w =>
 v1 R (Instr.loadAt 41 a115) w fun a116 w =>
 cf R 114 #[a0, a116] w fun a117 w =>
 v1 R (Instr.buildSlice 45 1 #[(0, (.string ⟨#[40]⟩))]) w fun a119 w =>
 cf R 36 #[a0, a119] w fun a120 w =>
 up R (Nc a1) w fun a122 w =>
 v1 R (Instr.fieldAt 47 a122 7) w fun a123 w =>
 v1 R (Instr.loadAt 44 a123) w fun a124 w =>
 v1 R (Builtin.len_ #[44] 3 #[a124]) w fun a125 w =>
 L1 (.int .i64 0) w (fun g1 a126 w =>
 v1 R (Bo .lss 3 false false a126 a125) w fun a127 w =>
 If a127 (
 v1 R (Instr.indexAt 44 a124 a126) w fun a129 w =>
 v1 R (Instr.loadAt 41 a129) w fun a130 w =>
 J0 (fun k3 =>
 v1 R (Bo .gtr 3 false true a126 (.int .i64 0)) w fun a132 w =>
 If a132 (
 v1 R (Instr.buildSlice 45 1 #[(0, (.string ⟨#[44, 32]⟩))]) w fun a134 w =>
 cf R 36 #[a0, a134] w fun a135 w =>
 k3 w) (
 k3 w)) (fun w =>
 cf R 63 #[a0, a130] w fun a138 w =>
 v1 R (Bo .add 3 false true a126 (.int .i64 1)) w fun a139 w =>
 g1 a139 w)) (
 v1 R (Instr.buildSlice 45 1 #[(0, (.string ⟨#[41]⟩))]) w fun a141 w =>
 cf R 36 #[a0, a141] w fun a142 w =>
 R (.returned (.tuple #[])) w))) (
 v1 R (Bo .eql 3 false true a28 (.int .i64 9)) w fun a144 w =>
 If a144 (
 v1 R (Instr.buildSlice 45 1 #[(0, (.string ⟨#[102, 117, 110, 99, 116, 105, 111, 110]⟩))]) w fun a146 w =>
 cf R 36 #[a0, a146] w fun a147 w =>
 cf R 68 #[a0, a1] w fun a150 w =>
 R (.returned (.tuple #[])) w) (
 v1 R (Bo .eql 3 false true a28 (.int .i64 10)) w fun a152 w =>
 If a152 (
 up R (Nc a1) w fun a155 w =>
 v1 R (Instr.fieldAt 47 a155 3) w fun a156 w =>
 v1 R (Instr.loadAt 9 a156) w fun a157 w =>
 v1 R (Instr.buildSlice 45 2 #[(0, a157), (1, (.string ⟨#[32]⟩))]) w fun a158 w =>
 cf R 36 #[a0, a158] w fun a159 w =>
 ∃ S1 : World → Prop, S1 w.drew ∧
 xs t0 (Nc a1) fun a162 => xw t0 (Instr.fieldAt 47 a162 5) fun a163 => xw S1 (Instr.loadAt 41 a163) fun a164 => xs t0 (Nc a1) fun a166 => xw t0 (Instr.fieldAt 47 a166 5) fun a167 => xw S1 (Instr.loadAt 41 a167) fun a168 => xw t0 (Bo .neq 41 false true a168 (.pointer none)) fun a169 => J1 (fun k4 =>
 Gd a169 true (xs t0 (Nc a1) fun a172 => xw t0 (Instr.fieldAt 47 a172 5) fun a173 => xw S1 (Instr.loadAt 41 a173) fun a174 => xs t0 (Nc a174) fun a175 => xw t0 (Instr.fieldAt 47 a175 0) fun a176 => xw S1 (Instr.loadAt 3 a176) fun a177 => xw t0 (Bo .eql 3 false true a177 (.int .i64 11)) fun a178 => k4 a178 w.drew) (k4 undef w.drew)) (fun a178_1 w =>
 xw t0 (Pk a169 a178_1 (.bool false)) fun a179 => cf R 116 #[a0, a164, a179] w fun a180 w =>
 R (.returned (.tuple #[])) w)) (
 v1 R (Bo .eql 3 false true a28 (.int .i64 11)) w fun a182 w =>
 If a182 (
 cf R 117 #[a0, a1] w fun a185 w =>
 R (.returned (.tuple #[])) w) (
 v1 R (Bo .eql 3 false true a28 (.int .i64 12)) w fun a187 w =>
 If a187 (
 cf R 118 #[a0, a1] w fun a190 w =>
 R (.returned (.tuple #[])) w) (
 R (.returned (.tuple #[])) w))))))))))))))
set_option maxHeartbeats 4000000 in
theorem s63 {R : Ending → World → Prop} {a0 a1 : Value} {w : World} (h : S63 R a0 a1 w) : Calls Tryz.prog 63 #[a0, a1] w R :=
  calls_of [39] mixed Tryz.func63 (c := codeB Tryz.f63) (by kernel_rfl) (Nat.le_of_ble_eq_true (by kernel_rfl)) (cast (by kernel_rfl) h)
theorem cf63 : CfT 63 := CfT.mk Tryz.func63 (c := codeB Tryz.f63) (by kernel_rfl) (by kernel_rfl)
def S64 (R : Ending → World → Prop) (a0 : Value) (w : World) : Prop :=
 v1 R (Bo .eql 41 false true a0 (.pointer none)) w fun a4 w =>
 If a4 (
 v1 R (Instr.build 47 #[]) w fun a5 w =>
 v1 R (Instr.box 47 a5) w fun a6 w =>
 R (.returned a6) w) (
 R (.returned a0) w)
theorem s64 {R : Ending → World → Prop} {a0 : Value} {w : World} (h : S64 R a0 w) : Calls Tryz.prog 64 #[a0] w R :=
  calls_of [] mixed Tryz.func64 (c := codeB Tryz.f64) (by kernel_rfl) (Nat.le_of_ble_eq_true (by kernel_rfl)) (cast (by kernel_rfl) h)
theorem cf64 : CfT 64 := CfT.mk Tryz.func64 (c := codeB Tryz.f64) (by kernel_rfl) (by kernel_rfl)
def S65 (R : Ending → World → Prop) (a0 a1 a2 : Value) (w : World) : Prop :=
 v1 R (Instr.buildSlice 45 1 #[(0, a1)]) w fun a8 w =>
 cf R 36 #[a0, a8] w fun a9 w =>
 cf R 67 #[a0, a2] w fun a12 w =>
 v1 R (Instr.buildSlice 45 1 #[(0, (.string ⟨#[101, 110, 100]⟩))]) w fun a14 w =>
 cf R 36 #[a0, a14] w fun a15 w =>
 R (.returned (.tuple #[])) w
theorem s65 {R : Ending → World → Prop} {a0 a1 a2 : Value} {w : World} (h : S65 R a0 a1 a2 w) : Calls Tryz.prog 65 #[a0, a1, a2] w R :=
  calls_of [] mixed Tryz.func65 (c := codeB Tryz.f65) (by kernel_rfl) (Nat.le_of_ble_eq_true (by kernel_rfl)) (cast (by kernel_rfl) h)
theorem cf65 : CfT 65 := CfT.mk Tryz.func65 (c := codeB Tryz.f65) (by kernel_rfl) (by kernel_rfl)
def S66 (R : Ending → World → Prop) (a0 a1 : Value) (w : World) : Prop :=
 up R (Nc a1) w fun a6 w =>
 v1 R (Instr.fieldAt 43 a6 4) w fun a7 w =>
 v1 R (Instr.loadAt 41 a7) w fun a8 w =>
 cf R 64 #[a8] w fun a9 w =>
 cf R 62 #[a0, (.string ⟨#[32]⟩), a9] w fun a10 w =>
 v1 R (Instr.buildSlice 45 1 #[(0, (.string ⟨#[32, 116, 104, 101, 110]⟩))]) w fun a12 w =>
 cf R 36 #[a0, a12] w fun a13 w =>
 up R (Nc a1) w fun a16 w =>
 v1 R (Instr.fieldAt 43 a16 6) w fun a17 w =>
 v1 R (Instr.loadAt 26 a17) w fun a18 w =>
 cf R 67 #[a0, a18] w fun a19 w =>
 up R (Nc a1) w fun a21 w =>
 v1 R (Instr.fieldAt 43 a21 7) w fun a22 w =>
 v1 R (Instr.loadAt 26 a22) w fun a23 w =>
 v1 R (Builtin.len_ #[26] 3 #[a23]) w fun a24 w =>
 v1 R (Bo .eql 3 false true a24 (.int .i64 1)) w fun a25 w =>
 J1 (fun k1 =>
 Gd a25 true (up R (Nc a1) w fun a28 w =>
 v1 R (Instr.fieldAt 43 a28 7) w fun a29 w =>
 v1 R (Instr.loadAt 26 a29) w fun a30 w =>
 v1 R (Instr.indexAt 26 a30 (.int .i64 0)) w fun a31 w =>
 v1 R (Instr.loadAt 40 a31) w fun a32 w =>
 v1 R (Bo .neq 40 false true a32 (.pointer none)) w fun a33 w =>
 k1 a33 w) (k1 undef w)) (fun a33_1 w =>
 v1 R (Pk a25 a33_1 (.bool false)) w fun a34 w =>
 J1 (fun k2 =>
 Gd a34 true (up R (Nc a1) w fun a37 w =>
 v1 R (Instr.fieldAt 43 a37 7) w fun a38 w =>
 v1 R (Instr.loadAt 26 a38) w fun a39 w =>
 v1 R (Instr.indexAt 26 a39 (.int .i64 0)) w fun a40 w =>
 v1 R (Instr.loadAt 40 a40) w fun a41 w =>
 up R (Nc a41) w fun a42 w =>
 v1 R (Instr.fieldAt 43 a42 0) w fun a43 w =>
 v1 R (Instr.loadAt 3 a43) w fun a44 w =>
 v1 R (Bo .eql 3 false true a44 (.int .i64 6)) w fun a45 w =>
 k2 a45 w) (k2 undef w)) (fun a45_1 w =>
 v1 R (Pk a34 a45_1 (.bool false)) w fun a46 w =>
 If a46 (
 cf R 61 #[a0] w fun a48 w =>
 v1 R (Instr.buildSlice 45 1 #[(0, (.string ⟨#[101, 108, 115, 101, 105, 102]⟩))]) w fun a50 w =>
 cf R 36 #[a0, a50] w fun a51 w =>
 up R (Nc a1) w fun a54 w =>
 v1 R (Instr.fieldAt 43 a54 7) w fun a55 w =>
 v1 R (Instr.loadAt 26 a55) w fun a56 w =>
 v1 R (Instr.indexAt 26 a56 (.int .i64 0)) w fun a57 w =>
 v1 R (Instr.loadAt 40 a57) w fun a58 w =>
 cf R 66 #[a0, a58] w fun a59 w =>
 R (.returned (.tuple #[])) w) (
 J0 (fun k3 =>
 up R (Nc a1) w fun a61 w =>
 v1 R (Instr.fieldAt 43 a61 7) w fun a62 w =>
 v1 R (Instr.loadAt 26 a62) w fun a63 w =>
 v1 R (Builtin.len_ #[26] 3 #[a63]) w fun a64 w =>
 v1 R (Bo .gtr 3 false true a64 (.int .i64 0)) w fun a65 w =>
 If a65 (
 v1 R (Instr.buildSlice 45 1 #[(0, (.string ⟨#[101, 108, 115, 101]⟩))]) w fun a67 w =>
 cf R 36 #[a0, a67] w fun a68 w =>
 up R (Nc a1) w fun a71 w =>
 v1 R (Instr.fieldAt 43 a71 7) w fun a72 w =>
 v1 R (Instr.loadAt 26 a72) w fun a73 w =>
 cf R 67 #[a0, a73] w fun a74 w =>
 k3 w) (
 k3 w)) (fun w =>
 v1 R (Instr.buildSlice 45 1 #[(0, (.string ⟨#[101, 110, 100]⟩))]) w fun a76 w =>
 cf R 36 #[a0, a76] w fun a77 w =>
 R (.returned (.tuple #[])) w))))
theorem s66 {R : Ending → World → Prop} {a0 a1 : Value} {w : World} (h : S66 R a0 a1 w) : Calls Tryz.prog 66 #[a0, a1] w R :=
  calls_of [] mixed Tryz.func66 (c := codeB Tryz.f66) (by kernel_rfl) (Nat.le_of_ble_eq_true (by kernel_rfl)) (cast (by kernel_rfl) h)
theorem cf66 : CfT 66 := CfT.mk Tryz.func66 (c := codeB Tryz.f66) (by kernel_rfl) (by kernel_rfl)
def S67 (R : Ending → World → Prop) (a0 a1 : Value) (w : World) : Prop :=
 v1 R (Instr.buildSlice 45 1 #[(0, (.string ⟨#[10]⟩))]) w fun a5 w =>
 cf R 36 #[a0, a5] w fun a6 w =>
 cf R 18 #[a0, a1] w fun a9 w =>
 R (.returned (.tuple #[])) w
theorem s67 {R : Ending → World → Prop} {a0 a1 : Value} {w : World} (h : S67 R a0 a1 w) : Calls Tryz.prog 67 #[a0, a1] w R :=
  calls_of [] mixed Tryz.func67 (c := codeB Tryz.f67) (by kernel_rfl) (Nat.le_of_ble_eq_true (by kernel_rfl)) (cast (by kernel_rfl) h)
theorem cf67 : CfT 67 := CfT.mk Tryz.func67 (c := codeB Tryz.f67) (by kernel_rfl) (by kernel_rfl)
def S68 (R : Ending → World → Prop) (a0 a1 : Value) (w : World) : Prop :=
 v1 R (Instr.buildSlice 45 1 #[(0, (.string ⟨#[40]⟩))]) w fun a7 w =>
 cf R 36 #[a0, a7] w fun a8 w =>
 up R (Nc a1) w fun a10 w =>
 v1 R (Instr.fieldAt 47 a10 8) w fun a11 w =>
 v1 R (Instr.loadAt 45 a11) w fun a12 w =>
 v1 R (Builtin.len_ #[45] 3 #[a12]) w fun a13 w =>
 L1 (.int .i64 0) w (fun g1 a14 w =>
 v1 R (Bo .lss 3 false false a14 a13) w fun a15 w =>
 If a15 (
 v1 R (Instr.indexAt 45 a12 a14) w fun a17 w =>
 v1 R (Instr.loadAt 9 a17) w fun a18 w =>
 J0 (fun k1 =>
 v1 R (Bo .gtr 3 false true a14 (.int .i64 0)) w fun a20 w =>
 If a20 (
 v1 R (Instr.buildSlice 45 1 #[(0, (.string ⟨#[44, 32]⟩))]) w fun a22 w =>
 cf R 36 #[a0, a22] w fun a23 w =>
 k1 w) (
 k1 w)) (fun w =>
 v1 R (Instr.buildSlice 45 1 #[(0, a18)]) w fun a26 w =>
 cf R 36 #[a0, a26] w fun a27 w =>
 v1 R (Bo .add 3 false true a14 (.int .i64 1)) w fun a28 w =>
 g1 a28 w)) (
 v1 R (Instr.buildSlice 45 1 #[(0, (.string ⟨#[41]⟩))]) w fun a30 w =>
 cf R 36 #[a0, a30] w fun a31 w =>
 up R (Nc a1) w fun a34 w =>
 v1 R (Instr.fieldAt 47 a34 9) w fun a35 w =>
 v1 R (Instr.loadAt 26 a35) w fun a36 w =>
 cf R 67 #[a0, a36] w fun a37 w =>
 v1 R (Instr.buildSlice 45 1 #[(0, (.string ⟨#[101, 110, 100]⟩))]) w fun a39 w =>
 cf R 36 #[a0, a39] w fun a40 w =>
 R (.returned (.tuple #[])) w))
theorem s68 {R : Ending → World → Prop} {a0 a1 : Value} {w : World} (h : S68 R a0 a1 w) : Calls Tryz.prog 68 #[a0, a1] w R :=
  calls_of [] mixed Tryz.func68 (c := codeB Tryz.f68) (by kernel_rfl) (Nat.le_of_ble_eq_true (by kernel_rfl)) (cast (by kernel_rfl) h)
theorem cf68 : CfT 68 := CfT.mk Tryz.func68 (c := codeB Tryz.f68) (by kernel_rfl) (by kernel_rfl)
def S69 (R : Ending → World → Prop) (a0 : Value) (w : World) : Prop :=
 up R (Nc a0) w fun a4 w =>
 v1 R (Instr.fieldAt 54 a4 1) w fun a5 w =>
 v1 R (Instr.loadAt 22 a5) w fun a6 w =>
 v1 R (Builtin.len_ #[22] 3 #[a6]) w fun a7 w =>
 R (.returned a7) w
theorem s69 {R : Ending → World → Prop} {a0 : Value} {w : World} (h : S69 R a0 w) : Calls Tryz.prog 69 #[a0] w R :=
  calls_of [] mixed Tryz.func69 (c := codeB Tryz.f69) (by kernel_rfl) (Nat.le_of_ble_eq_true (by kernel_rfl)) (cast (by kernel_rfl) h)
theorem cf69 : CfT 69 := CfT.mk Tryz.func69 (c := codeB Tryz.f69) (by kernel_rfl) (by kernel_rfl)
def S70 (R : Ending → World → Prop) (a0 a1 : Value) (w : World) : Prop :=
 cf R 119 #[a0] w fun a7 w =>
 up R (Nc a0) w fun a10 w =>
 v1 R (Instr.fieldAt 54 a10 1) w fun a11 w =>
 v1 R (Instr.loadAt 22 a11) w fun a12 w =>
 v1 R (Builtin.append_ #[22, 9] 22 #[a12, a1]) w fun a14 w =>
 up R (Nc a0) w fun a15 w =>
 v1 R (Instr.fieldAt 54 a15 1) w fun a16 w =>
 u1 R (Instr.storeAt 22 a16 a14) w fun w =>
 v1 R (Builtin.len_ #[9] 3 #[a1]) w fun a18 w =>
 R (.returned (.tuple #[a18, .nilIface])) w
theorem s70 {R : Ending → World → Prop} {a0 a1 : Value} {w : World} (h : S70 R a0 a1 w) : Calls Tryz.prog 70 #[a0, a1] w R :=
  calls_of [] mixed Tryz.func70 (c := codeB Tryz.f70) (by kernel_rfl) (Nat.le_of_ble_eq_true (by kernel_rfl)) (cast (by kernel_rfl) h)
theorem cf70 : CfT 70 := CfT.mk Tryz.func70 (c := codeB Tryz.f70) (by kernel_rfl) (by kernel_rfl)
def S71 (R : Ending → World → Prop) (a0 a1 a2 : Value) (w : World) : Prop :=
 v1 R (Builtin.len_ #[44] 3 #[a0]) w fun a11 w =>
 v1 R (Builtin.len_ #[44] 3 #[a1]) w fun a13 w =>
 v1 R (Bo .neq 3 false false a11 a13) w fun a14 w =>
 If a14 (
 R (.returned (.bool false)) w) (
 v1 R (Builtin.len_ #[44] 3 #[a0]) w fun a16 w =>
 L2 (.bool false) (.int .i64 0) w (fun g1 a6 a17 w =>
 v1 R (Bo .lss 3 false false a17 a16) w fun a18 w =>
 If a18 (
 v1 R (Instr.indexAt 44 a0 a17) w fun a20 w =>
 v1 R (Instr.loadAt 41 a20) w fun a21 w =>
 v1 R (Instr.indexAt 44 a1 a17) w fun a24 w =>
 v1 R (Instr.loadAt 41 a24) w fun a25 w =>
 up R (Cv a2 #[a21, a25]) w fun a29 w =>
 v1 R (Op.unary .not a29) w fun a30 w =>
 If a30 (
 R (.returned (.bool false)) w) (
 v1 R (Bo .add 3 false true a17 (.int .i64 1)) w fun a31 w =>
 g1 a6 a31 w)) (
 R (.returned (.bool true)) w)))
theorem s71 {R : Ending → World → Prop} {a0 a1 a2 : Value} {w : World} (h : S71 R a0 a1 a2 w) : Calls Tryz.prog 71 #[a0, a1, a2] w R :=
  calls_of [] mixed Tryz.func71 (c := codeB Tryz.f71) (by kernel_rfl) (Nat.le_of_ble_eq_true (by kernel_rfl)) (cast (by kernel_rfl) h)
def S72 (R : Ending → World → Prop) (a0 a1 : Value) (w : World) : Prop :=
 v1 R (Builtin.len_ #[45] 3 #[a0]) w fun a7 w =>
 v1 R (Builtin.len_ #[45] 3 #[a1]) w fun a9 w =>
 v1 R (Bo .neq 3 false false a7 a9) w fun a10 w =>
 If a10 (
 R (.returned (.bool false)) w) (
 v1 R (Builtin.len_ #[45] 3 #[a0]) w fun a12 w =>
 L2 (.bool false) (.int .i64 0) w (fun g1 a4 a13 w =>
 v1 R (Bo .lss 3 false false a13 a12) w fun a14 w =>
 If a14 (
 ∃ C1 : World → Prop, C1 w.drew ∧
 xv C1 (Instr.indexAt 45 a0 a13) fun a18 => xv C1 (Instr.loadAt 9 a18) fun a19 => xv C1 (Instr.indexAt 45 a1 a13) fun a22 => xv C1 (Instr.loadAt 9 a22) fun a23 => xv C1 (Bo .neq 9 false false a19 a23) fun a24 => ∀ w, C1 w → If a24 (
 R (.returned (.bool false)) w) (
 v1 R (Bo .add 3 false true a13 (.int .i64 1)) w fun a25 w =>
 g1 a4 a25 w)) (
 R (.returned (.bool true)) w)))
theorem s72 {R : Ending → World → Prop} {a0 a1 : Value} {w : World} (h : S72 R a0 a1 w) : Calls Tryz.prog 72 #[a0, a1] w R :=
  calls_of [] mixed Tryz.func72 (c := codeB Tryz.f72) (by kernel_rfl) (Nat.le_of_ble_eq_true (by kernel_rfl)) (cast (by kernel_rfl) h)
def S96 (R : Ending → World → Prop) (a0 a1 a2 a3 : Value) (w : World) : Prop :=
 v1 R (Instr.box 149 a2) w fun a6 w =>
 L2 a0 (.bool false) w (fun g1 a0_1 a8 w =>
 cf R 37 #[a0_1] w fun a17 w =>
 up R (invoke (.fn (.method "AssignableTo") #[]) (#[a17] ++ #[a3])) w fun a19 w =>
 If a19 (
 v1 R (Instr.loadAt 149 a6) w fun a20 w =>
 cf R 153 #[a20] w fun a21 w =>
 cf R 93 #[a0_1] w fun a23 w =>
 cf R 154 #[a21, a23] w fun a24 w =>
 R (.returned (.bool true)) w) (
 v1 R (Instr.typeAssert a0_1 31 184 true) w fun a27 w =>
 v1 R (Instr.extract a27 0) w fun a28 w =>
 v1 R (Instr.extract a27 1) w fun a29 w =>
 J1 (fun k1 =>
 Gd a29 true (up R (invoke (.fn (.method "As") #[]) (#[a28] ++ #[a1])) w fun a34 w =>
 k1 a34 w) (k1 undef w)) (fun a34_1 w =>
 v1 R (Pk a29 a34_1 (.bool false)) w fun a35 w =>
 If a35 (
 R (.returned (.bool true)) w) (
 v1 R (Instr.typeAssert a0_1 31 133 true) w fun a37 w =>
 v1 R (Instr.extract a37 1) w fun a38 w =>
 v1 R (Instr.extract a37 0) w fun a39 w =>
 If a38 (
 up R (invoke (.fn (.method "Unwrap") #[]) (#[a39] ++ #[])) w fun a41 w =>
 v1 R (Bo .eql 31 false true a41 .nilIface) w fun a43 w =>
 If a43 (
 R (.returned (.bool false)) w) (
 g1 a41 a8 w)) (
 v1 R (Instr.typeAssert a0_1 31 135 true) w fun a44 w =>
 v1 R (Instr.extract a44 1) w fun a45 w =>
 v1 R (Instr.extract a44 0) w fun a46 w =>
 If a45 (
 up R (invoke (.fn (.method "Unwrap") #[]) (#[a46] ++ #[])) w fun a48 w =>
 v1 R (Builtin.len_ #[136] 3 #[a48]) w fun a49 w =>
 L2 a8 (.int .i64 0) w (fun g2 a8_1 a50 w =>
 v1 R (Bo .lss 3 false false a50 a49) w fun a51 w =>
 If a51 (
 J1 (fun k2 =>
 v1 R (Instr.indexAt 136 a48 a50) w fun a52 w =>
 v1 R (Instr.loadAt 31 a52) w fun a53 w =>
 v1 R (Bo .eql 31 false true a53 .nilIface) w fun a55 w =>
 If a55 (
 k2 a8_1 w) (
 v1 R (Instr.loadAt 149 a6) w fun a58 w =>
 cf R 96 #[a53, a1, a58, a3] w fun a60 w =>
 If a60 (
 R (.returned (.bool true)) w) (
 k2 a8_1 w))) (fun a8_2 w =>
 v1 R (Bo .add 3 false true a50 (.int .i64 1)) w fun a61 w =>
 g2 a8_2 a61 w)) (
 R (.returned (.bool false)) w))) (
 R (.returned (.bool false)) w))))))
theorem e96 (R : Ending → World → Prop) (a0 a1 a2 a3 : Value) (w : World) : body Tryz.prog Tryz.f96.ntmps [] Tryz.f96.results.toList (codeB Tryz.f96) [a0, a1, a2, a3] R w = S96 R a0 a1 a2 a3 w := by kernel_rfl
theorem s96 {R : Ending → World → Prop} {a0 a1 a2 a3 : Value} {w : World} (h : S96 R a0 a1 a2 a3 w) : Calls Tryz.prog 96 #[a0, a1, a2, a3] w R :=
  calls_of [] mixed Tryz.func96 (c := codeB Tryz.f96) (by kernel_rfl) (Nat.le_of_ble_eq_true (by kernel_rfl)) (by rw [e96]; exact h)
theorem cf96 : CfT 96 := CfT.mk Tryz.func96 (c := codeB Tryz.f96) (by kernel_rfl) (by kernel_rfl)
def S111 (R : Ending → World → Prop) (a0 a1 : Value) (w : World) : Prop :=
 v1 R (Builtin.len_ #[44] 3 #[a1]) w fun a7 w =>
 L1 (.int .i64 0) w (fun g1 a8 w =>
 v1 R (Bo .lss 3 false false a8 a7) w fun a9 w =>
 If a9 (
 J0 (fun k1 =>
 v1 R (Instr.indexAt 44 a1 a8) w fun a10 w =>
 v1 R (Instr.loadAt 41 a10) w fun a11 w =>
 v1 R (Bo .eql 41 false true a11 (.pointer none)) w fun a13 w =>
 J1 (fun k2 =>
 Gd a13 false (up R (Nc a0) w fun a16 w =>
 v1 R (Instr.loadAt 118 a16) w fun a17 w =>
 v1 R (Bo .gtr 118 false true a17 (.int .i64 65536)) w fun a18 w =>
 k2 a18 w) (k2 undef w)) (fun a18_1 w =>
 v1 R (Pk a13 (.bool true) a18_1) w fun a19 w =>
 If a19 (
 k1 w) (
 up R (Nc a0) w fun a21 w =>
 v1 R (Instr.loadAt 118 a21) w fun a22 w =>
 v1 R (Bo .add 118 false true a22 (.int .i64 1)) w fun a23 w =>
 up R (Nc a0) w fun a24 w =>
 u1 R (Instr.storeAt 118 a24 a23) w fun w =>
 ∃ S1 : World → Prop, S1 w.drew ∧
 xs t0 (Nc a11) fun a27 => xw t0 (Instr.fieldAt 47 a27 4) fun a28 => xw S1 (Instr.loadAt 41 a28) fun a29 => xs t0 (Nc a11) fun a31 => xw t0 (Instr.fieldAt 47 a31 5) fun a32 => xw S1 (Instr.loadAt 41 a32) fun a33 => v1 R (Instr.buildSlice 44 2 #[(0, a29), (1, a33)]) w.drew fun a34 w =>
 cf R 111 #[a0, a34] w fun a35 w =>
 up R (Nc a11) w fun a38 w =>
 v1 R (Instr.fieldAt 47 a38 6) w fun a39 w =>
 v1 R (Instr.loadAt 44 a39) w fun a40 w =>
 cf R 111 #[a0, a40] w fun a41 w =>
 up R (Nc a11) w fun a44 w =>
 v1 R (Instr.fieldAt 47 a44 7) w fun a45 w =>
 v1 R (Instr.loadAt 44 a45) w fun a46 w =>
 cf R 111 #[a0, a46] w fun a47 w =>
 up R (Nc a11) w fun a50 w =>
 v1 R (Instr.fieldAt 47 a50 9) w fun a51 w =>
 v1 R (Instr.loadAt 26 a51) w fun a52 w =>
 cf R 59 #[a0, a52] w fun a53 w =>
 k1 w))) (fun w =>
 v1 R (Bo .add 3 false true a8 (.int .i64 1)) w fun a54 w =>
 g1 a54 w)) (
 R (.returned (.tuple #[])) w))
theorem s111 {R : Ending → World → Prop} {a0 a1 : Value} {w : World} (h : S111 R a0 a1 w) : Calls Tryz.prog 111 #[a0, a1] w R :=
  calls_of [5] mixed Tryz.func111 (c := codeB Tryz.f111) (by kernel_rfl) (Nat.le_of_ble_eq_true (by kernel_rfl)) (cast (by kernel_rfl) h)
theorem cf111 : CfT 111 := CfT.mk Tryz.func111 (c := codeB Tryz.f111) (by kernel_rfl) (by kernel_rfl)
def S113 (R : Ending → World → Prop) (a0 : Value) (w : World) : Prop :=
 v1 R (Builtin.len_ #[9] 3 #[a0]) w fun a4 w =>
 v1 R (Bo .gtr 3 false true a4 (.int .i64 32768)) w fun a5 w =>
 If a5 (
 R (.returned a0) w) (
 cf R 165 #[a0] w fun a8 w =>
 R (.returned a8) w)
theorem s113 {R : Ending → World → Prop} {a0 : Value} {w : World} (h : S113 R a0 w) : Calls Tryz.prog 113 #[a0] w R :=
  calls_of [] mixed Tryz.func113 (c := codeB Tryz.f113) (by kernel_rfl) (Nat.le_of_ble_eq_true (by kernel_rfl)) (cast (by kernel_rfl) h)
theorem cf113 : CfT 113 := CfT.mk Tryz.func113 (c := codeB Tryz.f113) (by kernel_rfl) (by kernel_rfl)
def S114 (R : Ending → World → Prop) (a0 a1 : Value) (w : World) : Prop :=
 v1 R (Bo .neq 41 false true a1 (.pointer none)) w fun a7 w =>
 J1 (fun k1 =>
 Gd a7 true (v1 R (Instr.buildSlice 199 3 #[(0, (.int .i64 10)), (1, (.int .i64 11)), (2, (.int .i64 9))]) w fun a9 w =>
 up R (Nc a1) w fun a11 w =>
 v1 R (Instr.fieldAt 47 a11 0) w fun a12 w =>
 v1 R (Instr.loadAt 3 a12) w fun a13 w =>
 cf R 166 #[a9, a13] w fun a14 w =>
 k1 a14 w) (k1 undef w)) (fun a14_1 w =>
 v1 R (Pk a7 a14_1 (.bool false)) w fun a15 w =>
 cf R 116 #[a0, a1, a15] w fun a16 w =>
 R (.returned (.tuple #[])) w)
theorem s114 {R : Ending → World → Prop} {a0 a1 : Value} {w : World} (h : S114 R a0 a1 w) : Calls Tryz.prog 114 #[a0, a1] w R :=
  calls_of [] mixed Tryz.func114 (c := codeB Tryz.f114) (by kernel_rfl) (Nat.le_of_ble_eq_true (by kernel_rfl)) (cast (by kernel_rfl) h)
theorem cf114 : CfT 114 := CfT.mk Tryz.func114 (c := codeB Tryz.f114) (by kernel_rfl) (by kernel_rfl)
def S115 (R : Ending → World → Prop) (a0 : Value) (w : World) : Prop :=
 v1 R (Bo .eql 41 false true a0 (.pointer none)) w fun a4 w =>
 J1 (fun k1 =>
 Gd a4 false (up R (Nc a0) w fun a7 w =>
 v1 R (Instr.fieldAt 47 a7 0) w fun a8 w =>
 v1 R (Instr.loadAt 3 a8) w fun a9 w =>
 v1 R (Bo .neq 3 false true a9 (.int .i64 5)) w fun a10 w =>
 k1 a10 w) (k1 undef w)) (fun a10_1 w =>
 v1 R (Pk a4 (.bool true) a10_1) w fun a11 w =>
 J1 (fun k2 =>
 Gd a11 false (up R (Nc a0) w fun a14 w =>
 v1 R (Instr.fieldAt 47 a14 3) w fun a15 w =>
 v1 R (Instr.loadAt 9 a15) w fun a16 w =>
 v1 R (Bo .eql 9 false true a16 (.string ⟨#[]⟩)) w fun a17 w =>
 k2 a17 w) (k2 undef w)) (fun a17_1 w =>
 v1 R (Pk a11 (.bool true) a17_1) w fun a18 w =>
 J1 (fun k3 =>
 Gd a18 false (up R (Nc a0) w fun a21 w =>
 v1 R (Instr.fieldAt 47 a21 3) w fun a22 w =>
 v1 R (Instr.loadAt 9 a22) w fun a23 w =>
 v1 R (Builtin.len_ #[9] 3 #[a23]) w fun a24 w =>
 v1 R (Bo .gtr 3 false true a24 (.int .i64 24)) w fun a25 w =>
 k3 a25 w) (k3 undef w)) (fun a25_1 w =>
 v1 R (Pk a18 (.bool true) a25_1) w fun a26 w =>
 J1 (fun k4 =>
 Gd a26 false (up R (Nc a0) w fun a29 w =>
 v1 R (Instr.fieldAt 47 a29 3) w fun a30 w =>
 v1 R (Instr.loadAt 9 a30) w fun a31 w =>
 cf R 89 #[a31] w fun a32 w =>
 k4 a32 w) (k4 undef w)) (fun a32_1 w =>
 v1 R (Pk a26 (.bool true) a32_1) w fun a33 w =>
 If a33 (
 R (.returned (.bool false)) w) (
 up R (Nc a0) w fun a35 w =>
 v1 R (Instr.fieldAt 47 a35 3) w fun a36 w =>
 v1 R (Instr.loadAt 9 a36) w fun a37 w =>
 cf R 168 #[a37, (.string ⟨#[97, 98, 99, 100, 101, 102, 103, 104, 105, 106, 107, 108, 109, 110, 111, 112, 113, 114, 115, 116, 117, 118, 119, 120, 121, 122, 65, 66, 67, 68, 69, 70, 71, 72, 73, 74, 75, 76, 77, 78, 79, 80, 81, 82, 83, 84, 85, 86, 87, 88, 89, 90, 95, 48, 49, 50, 51, 52, 53, 54, 55, 56, 57]⟩)] w fun a38 w =>
 cf R 167 #[a38, (.string ⟨#[97, 98, 99, 100, 101, 102, 103, 104, 105, 106, 107, 108, 109, 110, 111, 112, 113, 114, 115, 116, 117, 118, 119, 120, 121, 122, 65, 66, 67, 68, 69, 70, 71, 72, 73, 74, 75, 76, 77, 78, 79, 80, 81, 82, 83, 84, 85, 86, 87, 88, 89, 90, 95, 48, 49, 50, 51, 52, 53, 54, 55, 56, 57]⟩)] w fun a39 w =>
 v1 R (Bo .eql 9 false true a39 (.string ⟨#[]⟩)) w fun a40 w =>
 J1 (fun k5 =>
 Gd a40 true (up R (Nc a0) w fun a43 w =>
 v1 R (Instr.fieldAt 47 a43 3) w fun a44 w =>
 v1 R (Instr.loadAt 9 a44) w fun a45 w =>
 v1 R (Instr.sliceAt 9 a45 none (some (.int .i64 1)) none) w fun a46 w =>
 cf R 92 #[(.string ⟨#[48, 49, 50, 51, 52, 53, 54, 55, 56, 57]⟩), a46] w fun a47 w =>
 v1 R (Op.unary .not a47) w fun a48 w =>
 k5 a48 w) (k5 undef w)) (fun a48_1 w =>
 v1 R (Pk a40 a48_1 (.bool false)) w fun a49 w =>
 R (.returned a49) w))))))
theorem s115 {R : Ending → World → Prop} {a0 : Value} {w : World} (h : S115 R a0 w) : Calls Tryz.prog 115 #[a0] w R :=
  calls_of [] mixed Tryz.func115 (c := codeB Tryz.f115) (by kernel_rfl) (Nat.le_of_ble_eq_true (by kernel_rfl)) (cast (by kernel_rfl) h)
theorem cf115 : CfT 115 := CfT.mk Tryz.func115 (c := codeB Tryz.f115) (by kernel_rfl) (by kernel_rfl)
def S116 (R : Ending → World → Prop) (a0 a1 a2 : Value) (w : World) : Prop :=
 v1 R (Instr.box 51 a0) w fun a3 w =>
 v1 R (Instr.box 41 a1) w fun a4 w =>
 v1 R (Instr.makeFunc (.func 169) #[] #[a3, a4]) w fun a8 w =>
 J1 (fun k1 =>
 If a2 (
 v1 R (Instr.alloc 1 true (.tuple #[])) w fun a7 w =>
 u1 R (Instr.storeAt 1 a7 a8) w fun w =>
 v1 R (Instr.makeFunc (.func 170) #[] #[a3, a7]) w fun a11 w =>
 k1 a11 w) (
 k1 a8 w)) (fun a6 w =>
 up R (Cv a6 #[]) w fun a13 w =>
 R (.returned (.tuple #[])) w)
theorem s116 {R : Ending → World → Prop} {a0 a1 a2 : Value} {w : World} (h : S116 R a0 a1 a2 w) : Calls Tryz.prog 116 #[a0, a1, a2] w R :=
  calls_of [] mixed Tryz.func116 (c := codeB Tryz.f116) (by kernel_rfl) (Nat.le_of_ble_eq_true (by kernel_rfl)) (cast (by kernel_rfl) h)
theorem cf116 : CfT 116 := CfT.mk Tryz.func116 (c := codeB Tryz.f116) (by kernel_rfl) (by kernel_rfl)
def S117 (R : Ending → World → Prop) (a0 a1 : Value) (w : World) : Prop :=
 ∃ C1 : World → Prop, C1 w.drew ∧
 xq C1 (Nc a1) fun a9 => xv C1 (Instr.fieldAt 47 a9 3) fun a10 => xv C1 (Instr.loadAt 9 a10) fun a11 => xq C1 (callFunc 171 #[a11]) fun a12 => xq C1 (Nc a1) fun a14 => xv C1 (Instr.fieldAt 47 a14 3) fun a15 => xv C1 (Instr.loadAt 9 a15) fun a16 => xv C1 (Bo .eql 9 false true a16 (.string ⟨#[46, 46]⟩)) fun a17 => ∀ w, C1 w → ∃ C2 : World → Prop, C2 w.drew ∧
 xq C2 (Nc a1) fun a19 => xv C2 (Instr.fieldAt 47 a19 4) fun a20 => xv C2 (Instr.loadAt 41 a20) fun a21 => xq C2 (callFunc 172 #[a21]) fun a22 => xq C2 (Nc a1) fun a24 => xv C2 (Instr.fieldAt 47 a24 5) fun a25 => xv C2 (Instr.loadAt 41 a25) fun a26 => xq C2 (callFunc 172 #[a26]) fun a27 => ∀ w, C2 w → up R (Nc a1) w fun a30 w =>
 v1 R (Instr.fieldAt 47 a30 4) w fun a31 w =>
 v1 R (Instr.loadAt 41 a31) w fun a32 w =>
 v1 R (Bo .lss 3 false false a22 a12) w fun a35 w =>
 J1 (fun k1 =>
 Gd a35 false (k1 a17 w) (k1 undef w)) (fun a38 w =>
 J1 (fun k2 =>
 Gd a38 true (v1 R (Bo .eql 3 false false a22 a12) w fun a41 w =>
 k2 a41 w) (k2 undef w)) (fun a41_1 w =>
 J1 (fun k3 =>
 Gd a35 false (v1 R (Pk a38 a41_1 (.bool false)) w fun a42 w =>
 k3 a42 w) (k3 undef w)) (fun a42_1 w =>
 v1 R (Pk a35 (.bool true) a42_1) w fun a43 w =>
 cf R 116 #[a0, a32, a43] w fun a44 w =>
 up R (Nc a1) w fun a47 w =>
 v1 R (Instr.fieldAt 47 a47 3) w fun a48 w =>
 v1 R (Instr.loadAt 9 a48) w fun a49 w =>
 v1 R (Instr.buildSlice 45 3 #[(0, (.string ⟨#[32]⟩)), (1, a49), (2, (.string ⟨#[32]⟩))]) w fun a50 w =>
 cf R 36 #[a0, a50] w fun a51 w =>
 up R (Nc a1) w fun a54 w =>
 v1 R (Instr.fieldAt 47 a54 5) w fun a55 w =>
 v1 R (Instr.loadAt 41 a55) w fun a56 w =>
 v1 R (Bo .lss 3 false false a27 a12) w fun a59 w =>
 J1 (fun k4 =>
 Gd a59 false (v1 R (Op.unary .not a17) w fun a62 w =>
 k4 a62 w) (k4 undef w)) (fun a63 w =>
 J1 (fun k5 =>
 Gd a63 true (v1 R (Bo .eql 3 false false a27 a12) w fun a66 w =>
 k5 a66 w) (k5 undef w)) (fun a66_1 w =>
 J1 (fun k6 =>
 Gd a59 false (v1 R (Pk a63 a66_1 (.bool false)) w fun a67 w =>
 k6 a67 w) (k6 undef w)) (fun a67_1 w =>
 v1 R (Pk a59 (.bool true) a67_1) w fun a68 w =>
 cf R 116 #[a0, a56, a68] w fun a69 w =>
 R (.returned (.tuple #[])) w))))))
theorem s117 {R : Ending → World → Prop} {a0 a1 : Value} {w : World} (h : S117 R a0 a1 w) : Calls Tryz.prog 117 #[a0, a1] w R :=
  calls_of [] mixed Tryz.func117 (c := codeB Tryz.f117) (by kernel_rfl) (Nat.le_of_ble_eq_true (by kernel_rfl)) (cast (by kernel_rfl) h)
theorem cf117 : CfT 117 := CfT.mk Tryz.func117 (c := codeB Tryz.f117) (by kernel_rfl) (by kernel_rfl)
def S118 (R : Ending → World → Prop) (a0 a1 : Value) (w : World) : Prop :=
 ∃ S1 : World → Prop, S1 w.drew ∧
 xs t0 (Nc a1) fun a8 => xw t0 (Instr.fieldAt 47 a8 6) fun a9 => xw S1 (Instr.loadAt 44 a9) fun a10 => xw S1 (Builtin.len_ #[44] 3 #[a10]) fun a11 => xs t0 (Nc a1) fun a13 => xw t0 (Instr.fieldAt 47 a13 7) fun a14 => xw S1 (Instr.loadAt 44 a14) fun a15 => xw S1 (Builtin.len_ #[44] 3 #[a15]) fun a16 => xw t0 (Bo .eql 3 false false a11 a16) fun a17 => cf R 20 #[a17, (.int .i64 2)] w.drew fun a18 w =>
 v1 R (Instr.buildSlice 45 1 #[(0, (.string ⟨#[123]⟩))]) w fun a20 w =>
 cf R 36 #[a0, a20] w fun a21 w =>
 up R (Nc a1) w fun a23 w =>
 v1 R (Instr.fieldAt 47 a23 7) w fun a24 w =>
 v1 R (Instr.loadAt 44 a24) w fun a25 w =>
 v1 R (Builtin.len_ #[44] 3 #[a25]) w fun a26 w =>
 L1 (.int .i64 0) w (fun g1 a27 w =>
 v1 R (Bo .lss 3 false false a27 a26) w fun a28 w =>
 If a28 (
 v1 R (Instr.indexAt 44 a25 a27) w fun a30 w =>
 v1 R (Instr.loadAt 41 a30) w fun a31 w =>
 J0 (fun k1 =>
 v1 R (Bo .gtr 3 false true a27 (.int .i64 0)) w fun a33 w =>
 If a33 (
 v1 R (Instr.buildSlice 45 1 #[(0, (.string ⟨#[44, 32]⟩))]) w fun a35 w =>
 cf R 36 #[a0, a35] w fun a36 w =>
 k1 w) (
 k1 w)) (fun w =>
 J0 (fun k2 =>
 up R (Nc a1) w fun a38 w =>
 v1 R (Instr.fieldAt 47 a38 6) w fun a39 w =>
 v1 R (Instr.loadAt 44 a39) w fun a40 w =>
 v1 R (Instr.indexAt 44 a40 a27) w fun a42 w =>
 v1 R (Instr.loadAt 41 a42) w fun a43 w =>
 cf R 115 #[a43] w fun a46 w =>
 If a46 (
 cf R 61 #[a0] w fun a48 w =>
 up R (Nc a43) w fun a51 w =>
 v1 R (Instr.fieldAt 47 a51 3) w fun a52 w =>
 v1 R (Instr.loadAt 9 a52) w fun a53 w =>
 v1 R (Instr.buildSlice 45 2 #[(0, a53), (1, (.string ⟨#[32, 61, 32]⟩))]) w fun a54 w =>
 cf R 36 #[a0, a54] w fun a55 w =>
 k2 w) (
 v1 R (Bo .neq 41 false true a43 (.pointer none)) w fun a58 w =>
 If a58 (
 v1 R (Instr.buildSlice 45 1 #[(0, (.string ⟨#[91]⟩))]) w fun a60 w =>
 cf R 36 #[a0, a60] w fun a61 w =>
 cf R 63 #[a0, a43] w fun a64 w =>
 v1 R (Instr.buildSlice 45 1 #[(0, (.string ⟨#[93, 32, 61, 32]⟩))]) w fun a66 w =>
 cf R 36 #[a0, a66] w fun a67 w =>
 k2 w) (
 k2 w))) (fun w =>
 cf R 63 #[a0, a31] w fun a70 w =>
 v1 R (Bo .add 3 false true a27 (.int .i64 1)) w fun a71 w =>
 g1 a71 w))) (
 v1 R (Instr.buildSlice 45 1 #[(0, (.string ⟨#[125]⟩))]) w fun a73 w =>
 cf R 36 #[a0, a73] w fun a74 w =>
 R (.returned (.tuple #[])) w))
theorem s118 {R : Ending → World → Prop} {a0 a1 : Value} {w : World} (h : S118 R a0 a1 w) : Calls Tryz.prog 118 #[a0, a1] w R :=
  calls_of [0] mixed Tryz.func118 (c := codeB Tryz.f118) (by kernel_rfl) (Nat.le_of_ble_eq_true (by kernel_rfl)) (cast (by kernel_rfl) h)
theorem cf118 : CfT 118 := CfT.mk Tryz.func118 (c := codeB Tryz.f118) (by kernel_rfl) (by kernel_rfl)
def S166 (R : Ending → World → Prop) (a0 a1 : Value) (w : World) : Prop :=
 cf R 205 #[a0, a1] w fun a7 w =>
 v1 R (Bo .geq 3 false true a7 (.int .i64 0)) w fun a8 w =>
 R (.returned a8) w
theorem s166 {R : Ending → World → Prop} {a0 a1 : Value} {w : World} (h : S166 R a0 a1 w) : Calls Tryz.prog 166 #[a0, a1] w R :=
  calls_of [] mixed Tryz.func166 (c := codeB Tryz.f166) (by kernel_rfl) (Nat.le_of_ble_eq_true (by kernel_rfl)) (cast (by kernel_rfl) h)
theorem cf166 : CfT 166 := CfT.mk Tryz.func166 (c := codeB Tryz.f166) (by kernel_rfl) (by kernel_rfl)
def S167 (R : Ending → World → Prop) (a0 a1 : Value) (w : World) : Prop :=
 L2 (.string ⟨#[]⟩) a0 w (fun g1 a4 a0_1 w =>
 v1 R (Builtin.len_ #[9] 3 #[a0_1]) w fun a11 w =>
 v1 R (Bo .gtr 3 false true a11 (.int .i64 0)) w fun a12 w =>
 If a12 (
 cf R 206 #[a0_1] w fun a15 w =>
 v1 R (Instr.extract a15 0) w fun a16 w =>
 v1 R (Instr.extract a15 1) w fun a17 w =>
 v1 R (Instr.range 9 a1) w fun a19 w =>
 L1 (.bool false) w (fun g2 a7 w =>
 v1 R (Instr.next a19 true 0) w fun a20 w =>
 v1 R (Instr.extract a20 0) w fun a21 w =>
 If a21 (
 v1 R (Instr.extract a20 2) w fun a22 w =>
 J1 (fun k1 =>
 Gd a7 false (v1 R (Bo .eql 21 false false a16 a22) w fun a27 w =>
 k1 a27 w) (k1 undef w)) (fun a27_1 w =>
 v1 R (Pk a7 (.bool true) a27_1) w fun a28 w =>
 g2 a28 w)) (
 v1 R (Op.unary .not a7) w fun a30 w =>
 If a30 (
 R (.returned a0_1) w) (
 v1 R (Builtin.len_ #[9] 3 #[a0_1]) w fun a34 w =>
 v1 R (Bo .sub 3 false false a34 a17) w fun a36 w =>
 v1 R (Instr.sliceAt 9 a0_1 none (some a36) none) w fun a37 w =>
 g1 a4 a37 w)))) (
 R (.returned a0_1) w))
theorem s167 {R : Ending → World → Prop} {a0 a1 : Value} {w : World} (h : S167 R a0 a1 w) : Calls Tryz.prog 167 #[a0, a1] w R :=
  calls_of [] mixed Tryz.func167 (c := codeB Tryz.f167) (by kernel_rfl) (Nat.le_of_ble_eq_true (by kernel_rfl)) (cast (by kernel_rfl) h)
theorem cf167 : CfT 167 := CfT.mk Tryz.func167 (c := codeB Tryz.f167) (by kernel_rfl) (by kernel_rfl)
def S168 (R : Ending → World → Prop) (a0 a1 : Value) (w : World) : Prop :=
 v1 R (Instr.range 9 a0) w fun a11 w =>
 L1 (.string ⟨#[]⟩) w (fun g1 a4 w =>
 v1 R (Instr.next a11 true 0) w fun a12 w =>
 v1 R (Instr.extract a12 0) w fun a13 w =>
 If a13 (
 v1 R (Instr.extract a12 1) w fun a14 w =>
 v1 R (Instr.extract a12 2) w fun a15 w =>
 v1 R (Instr.range 9 a1) w fun a17 w =>
 L1 (.bool false) w (fun g2 a7 w =>
 v1 R (Instr.next a17 true 0) w fun a18 w =>
 v1 R (Instr.extract a18 0) w fun a19 w =>
 If a19 (
 v1 R (Instr.extract a18 2) w fun a20 w =>
 J1 (fun k1 =>
 Gd a7 false (v1 R (Bo .eql 21 false false a15 a20) w fun a25 w =>
 k1 a25 w) (k1 undef w)) (fun a25_1 w =>
 v1 R (Pk a7 (.bool true) a25_1) w fun a26 w =>
 g2 a26 w)) (
 v1 R (Op.unary .not a7) w fun a28 w =>
 If a28 (
 v1 R (Instr.sliceAt 9 a0 (some a14) none none) w fun a31 w =>
 R (.returned a31) w) (
 g1 a4 w)))) (
 R (.returned (.string ⟨#[]⟩)) w))
theorem s168 {R : Ending → World → Prop} {a0 a1 : Value} {w : World} (h : S168 R a0 a1 w) : Calls Tryz.prog 168 #[a0, a1] w R :=
  calls_of [] mixed Tryz.func168 (c := codeB Tryz.f168) (by kernel_rfl) (Nat.le_of_ble_eq_true (by kernel_rfl)) (cast (by kernel_rfl) h)
theorem cf168 : CfT 168 := CfT.mk Tryz.func168 (c := codeB Tryz.f168) (by kernel_rfl) (by kernel_rfl)
def S169 (R : Ending → World → Prop) (a0 a1 : Value) (w : World) : Prop :=
 v1 R (Instr.loadAt 51 a0) w fun a2 w =>
 v1 R (Instr.loadAt 41 a1) w fun a3 w =>
 cf R 63 #[a2, a3] w fun a4 w =>
 R (.returned (.tuple #[])) w
theorem s169 {R : Ending → World → Prop} {a0 a1 : Value} {w : World} (h : S169 R a0 a1 w) : Calls Tryz.prog 169 #[a0, a1] w R :=
  calls_of [] mixed Tryz.func169 (c := codeB Tryz.f169) (by kernel_rfl) (Nat.le_of_ble_eq_true (by kernel_rfl)) (cast (by kernel_rfl) h)
def S170 (R : Ending → World → Prop) (a0 a1 : Value) (w : World) : Prop :=
 v1 R (Instr.loadAt 51 a0) w fun a2 w =>
 v1 R (Instr.buildSlice 45 1 #[(0, (.string ⟨#[40]⟩))]) w fun a3 w =>
 cf R 36 #[a2, a3] w fun a4 w =>
 v1 R (Instr.loadAt 1 a1) w fun a5 w =>
 up R (Cv a5 #[]) w fun a6 w =>
 v1 R (Instr.loadAt 51 a0) w fun a7 w =>
 v1 R (Instr.buildSlice 45 1 #[(0, (.string ⟨#[41]⟩))]) w fun a8 w =>
 cf R 36 #[a7, a8] w fun a9 w =>
 R (.returned (.tuple #[])) w
theorem s170 {R : Ending → World → Prop} {a0 a1 : Value} {w : World} (h : S170 R a0 a1 w) : Calls Tryz.prog 170 #[a0, a1] w R :=
  calls_of [] mixed Tryz.func170 (c := codeB Tryz.f170) (by kernel_rfl) (Nat.le_of_ble_eq_true (by kernel_rfl)) (cast (by kernel_rfl) h)
def S171 (R : Ending → World → Prop) (a0 : Value) (w : World) : Prop :=
 v1 R (Instr.build 235 #[(0, (.string ⟨#[111, 114]⟩)), (1, (.string ⟨#[97, 110, 100]⟩)), (2, (.string ⟨#[60, 32, 60, 61, 32, 62, 32, 62, 61, 32, 61, 61, 32, 126, 61]⟩)), (3, (.string ⟨#[124]⟩)), (4, (.string ⟨#[126]⟩)), (5, (.string ⟨#[38]⟩)), (6, (.string ⟨#[60, 60, 32, 62, 62]⟩)), (7, (.string ⟨#[46, 46]⟩)), (8, (.string ⟨#[43, 32, 45]⟩)), (9, (.string ⟨#[42, 32, 47, 47, 32, 37]⟩))]) w fun a6 w =>
 v1 R (Instr.alloc 235 true (.tuple #[])) w fun a3 w =>
 u1 R (Instr.storeAt 235 a3 a6) w fun w =>
 v1 R (Instr.loadAt 235 a3) w fun a7 w =>
 L2 (.int .i64 0) (.int .i64 0) w (fun g1 a2 a8 w =>
 v1 R (Bo .lss 3 false true a8 (.int .i64 10)) w fun a9 w =>
 If a9 (
 v1 R (Instr.index 235 a7 a8) w fun a11 w =>
 cf R 56 #[a11] w fun a13 w =>
 cf R 207 #[a13, a0] w fun a15 w =>
 If a15 (
 v1 R (Bo .add 3 false true a8 (.int .i64 1)) w fun a17 w =>
 R (.returned a17) w) (
 v1 R (Bo .add 3 false true a8 (.int .i64 1)) w fun a18 w =>
 g1 a2 a18 w)) (
 R (.returned (.int .i64 0)) w))
theorem e171 (R : Ending → World → Prop) (a0 : Value) (w : World) : body Tryz.prog Tryz.f171.ntmps [] Tryz.f171.results.toList (codeB Tryz.f171) [a0] R w = S171 R a0 w := by kernel_rfl
theorem s171 {R : Ending → World → Prop} {a0 : Value} {w : World} (h : S171 R a0 w) : Calls Tryz.prog 171 #[a0] w R :=
  calls_of [] mixed Tryz.func171 (c := codeB Tryz.f171) (by kernel_rfl) (Nat.le_of_ble_eq_true (by kernel_rfl)) (by rw [e171]; exact h)
theorem cf171 : CfT 171 := CfT.mk Tryz.func171 (c := codeB Tryz.f171) (by kernel_rfl) (by kernel_rfl)
def S172 (R : Ending → World → Prop) (a0 : Value) (w : World) : Prop :=
 v1 R (Bo .neq 41 false true a0 (.pointer none)) w fun a5 w =>
 J1 (fun k1 =>
 Gd a5 true (up R (Nc a0) w fun a8 w =>
 v1 R (Instr.fieldAt 47 a8 0) w fun a9 w =>
 v1 R (Instr.loadAt 3 a9) w fun a10 w =>
 v1 R (Bo .eql 3 false true a10 (.int .i64 11)) w fun a11 w =>
 k1 a11 w) (k1 undef w)) (fun a11_1 w =>
 v1 R (Pk a5 a11_1 (.bool false)) w fun a12 w =>
 If a12 (
 up R (Nc a0) w fun a14 w =>
 v1 R (Instr.fieldAt 47 a14 3) w fun a15 w =>
 v1 R (Instr.loadAt 9 a15) w fun a16 w =>
 cf R 171 #[a16] w fun a17 w =>
 R (.returned a17) w) (
 v1 R (Bo .neq 41 false true a0 (.pointer none)) w fun a20 w =>
 J1 (fun k2 =>
 Gd a20 true (up R (Nc a0) w fun a23 w =>
 v1 R (Instr.fieldAt 47 a23 0) w fun a24 w =>
 v1 R (Instr.loadAt 3 a24) w fun a25 w =>
 v1 R (Bo .eql 3 false true a25 (.int .i64 10)) w fun a26 w =>
 k2 a26 w) (k2 undef w)) (fun a26_1 w =>
 v1 R (Pk a20 a26_1 (.bool false)) w fun a27 w =>
 If a27 (
 R (.returned (.int .i64 50)) w) (
 R (.returned (.int .i64 100)) w))))
theorem s172 {R : Ending → World → Prop} {a0 : Value} {w : World} (h : S172 R a0 w) : Calls Tryz.prog 172 #[a0] w R :=
  calls_of [] mixed Tryz.func172 (c := codeB Tryz.f172) (by kernel_rfl) (Nat.le_of_ble_eq_true (by kernel_rfl)) (cast (by kernel_rfl) h)
def S204 (R : Ending → World → Prop) (a0 a1 : Value) (w : World) : Prop :=
 cf R 119 #[a0] w fun a6 w =>
 up R (Nc a0) w fun a9 w =>
 v1 R (Instr.fieldAt 54 a9 1) w fun a10 w =>
 v1 R (Instr.loadAt 22 a10) w fun a11 w =>
 v1 R (Instr.buildSlice 22 1 #[(0, a1)]) w fun a13 w =>
 v1 R (Builtin.append_ #[22, 22] 22 #[a11, a13]) w fun a14 w =>
 up R (Nc a0) w fun a15 w =>
 v1 R (Instr.fieldAt 54 a15 1) w fun a16 w =>
 u1 R (Instr.storeAt 22 a16 a14) w fun w =>
 R (.returned .nilIface) w
theorem s204 {R : Ending → World → Prop} {a0 a1 : Value} {w : World} (h : S204 R a0 a1 w) : Calls Tryz.prog 204 #[a0, a1] w R :=
  calls_of [] mixed Tryz.func204 (c := codeB Tryz.f204) (by kernel_rfl) (Nat.le_of_ble_eq_true (by kernel_rfl)) (cast (by kernel_rfl) h)
theorem cf204 : CfT 204 := CfT.mk Tryz.func204 (c := codeB Tryz.f204) (by kernel_rfl) (by kernel_rfl)
def S205 (R : Ending → World → Prop) (a0 a1 : Value) (w : World) : Prop :=
 v1 R (Builtin.len_ #[199] 3 #[a0]) w fun a7 w =>
 L2 (.int .i64 0) (.int .i64 0) w (fun g1 a4 a8 w =>
 v1 R (Bo .lss 3 false false a8 a7) w fun a9 w =>
 If a9 (
 v1 R (Instr.indexAt 199 a0 a8) w fun a14 w =>
 v1 R (Instr.loadAt 3 a14) w fun a15 w =>
 v1 R (Bo .eql 3 false false a1 a15) w fun a16 w =>
 If a16 (
 R (.returned a8) w) (
 v1 R (Bo .add 3 false true a8 (.int .i64 1)) w fun a18 w =>
 g1 a4 a18 w)) (
 R (.returned (.int .i64 (-1))) w))
theorem s205 {R : Ending → World → Prop} {a0 a1 : Value} {w : World} (h : S205 R a0 a1 w) : Calls Tryz.prog 205 #[a0, a1] w R :=
  calls_of [] mixed Tryz.func205 (c := codeB Tryz.f205) (by kernel_rfl) (Nat.le_of_ble_eq_true (by kernel_rfl)) (cast (by kernel_rfl) h)
theorem cf205 : CfT 205 := CfT.mk Tryz.func205 (c := codeB Tryz.f205) (by kernel_rfl) (by kernel_rfl)
def S207 (R : Ending → World → Prop) (a0 a1 : Value) (w : World) : Prop :=
 cf R 227 #[a0, a1] w fun a7 w =>
 v1 R (Bo .geq 3 false true a7 (.int .i64 0)) w fun a8 w =>
 R (.returned a8) w
theorem s207 {R : Ending → World → Prop} {a0 a1 : Value} {w : World} (h : S207 R a0 a1 w) : Calls Tryz.prog 207 #[a0, a1] w R :=
  calls_of [] mixed Tryz.func207 (c := codeB Tryz.f207) (by kernel_rfl) (Nat.le_of_ble_eq_true (by kernel_rfl)) (cast (by kernel_rfl) h)
theorem cf207 : CfT 207 := CfT.mk Tryz.func207 (c := codeB Tryz.f207) (by kernel_rfl) (by kernel_rfl)
def S227 (R : Ending → World → Prop) (a0 a1 : Value) (w : World) : Prop :=
 v1 R (Builtin.len_ #[45] 3 #[a0]) w fun a7 w =>
 L2 (.int .i64 0) (.int .i64 0) w (fun g1 a4 a8 w =>
 v1 R (Bo .lss 3 false false a8 a7) w fun a9 w =>
 If a9 (
 v1 R (Instr.indexAt 45 a0 a8) w fun a14 w =>
 v1 R (Instr.loadAt 9 a14) w fun a15 w =>
 v1 R (Bo .eql 9 false false a1 a15) w fun a16 w =>
 If a16 (
 R (.returned a8) w) (
 v1 R (Bo .add 3 false true a8 (.int .i64 1)) w fun a18 w =>
 g1 a4 a18 w)) (
 R (.returned (.int .i64 (-1))) w))
theorem s227 {R : Ending → World → Prop} {a0 a1 : Value} {w : World} (h : S227 R a0 a1 w) : Calls Tryz.prog 227 #[a0, a1] w R :=
  calls_of [] mixed Tryz.func227 (c := codeB Tryz.f227) (by kernel_rfl) (Nat.le_of_ble_eq_true (by kernel_rfl)) (cast (by kernel_rfl) h)
theorem cf227 : CfT 227 := CfT.mk Tryz.func227 (c := codeB Tryz.f227) (by kernel_rfl) (by kernel_rfl)
end Go.Proofs.YtoddjlclpnoomaaGreatDoor

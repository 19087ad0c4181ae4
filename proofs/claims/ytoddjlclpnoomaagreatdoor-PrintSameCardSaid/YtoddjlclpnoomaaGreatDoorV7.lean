import Derived.Test.YtoddjlclpnoomaaGreatDoorV3
set_option linter.unusedVariables false
set_option linter.unusedSimpArgs false
set_option maxRecDepth 100000
namespace Go.Proofs.YtoddjlclpnoomaaGreatDoor
open Go.Sh
def S13 (R : Ending → World → Prop) (a0 : Value) (w : World) : Prop :=
 V1 Tryz.prog (Instr.alloc 26 true (.tuple #[])) w (fun a2 w =>
 V1 Tryz.prog (Instr.alloc 31 true (.tuple #[])) w (fun a3 w =>
 Cf Tryz.prog 27 #[a0] w (fun a8 w =>
 V1 Tryz.prog (Instr.extract a8 0) w (fun a9 w =>
 V1 Tryz.prog (Instr.extract a8 1) w (fun a10 w =>
 U1 Tryz.prog (Instr.storeAt 31 a3 a10) w (fun w =>
 V1 Tryz.prog (Instr.loadAt 31 a3) w (fun a11 w =>
 V1 Tryz.prog (Bo .neq 31 false true a11 .nilIface) w (fun a12 w =>
 If a12 (
 ∃ S1 : World → Prop, S1 w.drew ∧
 xw S1 (Instr.loadAt 31 a3) fun a13 => U1 Tryz.prog (Instr.storeAt 26 a2 (.slice none 0 0)) w.drew (fun w =>
 S1 w ∧ U1 Tryz.prog (Instr.storeAt 31 a3 a13) w (fun w =>
 Lv Tryz.prog (fun w k => ∃ v0, (Instr.loadAt 26 a2).run Tryz.prog w = .ok v0 w ∧ ∃ v1, (Instr.loadAt 31 a3).run Tryz.prog w = .ok v1 w ∧ k (.tuple #[v0, v1])) R ([] : List Deferred) .returning w) (pnD Tryz.prog (fun w k => ∃ v0, (Instr.loadAt 26 a2).run Tryz.prog w = .ok v0 w ∧ ∃ v1, (Instr.loadAt 31 a3).run Tryz.prog w = .ok v1 w ∧ k (.tuple #[v0, v1])) R ([] : List Deferred))) (pnD Tryz.prog (fun w k => ∃ v0, (Instr.loadAt 26 a2).run Tryz.prog w = .ok v0 w ∧ ∃ v1, (Instr.loadAt 31 a3).run Tryz.prog w = .ok v1 w ∧ k (.tuple #[v0, v1])) R ([] : List Deferred))) (
 V1 Tryz.prog (Instr.makeFunc (.func 28) #[] #[a2, a3]) w (fun a14 w =>
 D1 Tryz.prog (Deferred.ofValue a14 #[]) w (fun df1 w =>
 Cf Tryz.prog 29 #[] w (fun a16 w =>
 V1 Tryz.prog (Instr.build 83 #[(0, a9), (1, a16)]) w (fun a17 w =>
 V1 Tryz.prog (Instr.box 83 a17) w (fun a18 w =>
 Cf Tryz.prog 30 #[a18] w (fun a20 w =>
 U1 Tryz.prog (Instr.storeAt 26 a2 a20) w (fun w =>
 D0J (fun k1 =>
 Cf Tryz.prog 31 #[a18] w (fun a22 w =>
 V1 Tryz.prog (Instr.field 86 a22 0) w (fun a23 w =>
 V1 Tryz.prog (Bo .neq 3 false true a23 (.int .i64 5)) w (fun a24 w =>
 If a24 (
 Cf Tryz.prog 32 #[a18, (.int .i64 4)] w (fun a26 w =>
 k1 (df1 :: ([] : List Deferred)) w) (pnD Tryz.prog (fun w k => ∃ v0, (Instr.loadAt 26 a2).run Tryz.prog w = .ok v0 w ∧ ∃ v1, (Instr.loadAt 31 a3).run Tryz.prog w = .ok v1 w ∧ k (.tuple #[v0, v1])) R (df1 :: ([] : List Deferred)))) (
 k1 (df1 :: ([] : List Deferred)) w)) (pnD Tryz.prog (fun w k => ∃ v0, (Instr.loadAt 26 a2).run Tryz.prog w = .ok v0 w ∧ ∃ v1, (Instr.loadAt 31 a3).run Tryz.prog w = .ok v1 w ∧ k (.tuple #[v0, v1])) R (df1 :: ([] : List Deferred)))) (pnD Tryz.prog (fun w k => ∃ v0, (Instr.loadAt 26 a2).run Tryz.prog w = .ok v0 w ∧ ∃ v1, (Instr.loadAt 31 a3).run Tryz.prog w = .ok v1 w ∧ k (.tuple #[v0, v1])) R (df1 :: ([] : List Deferred)))) (pnD Tryz.prog (fun w k => ∃ v0, (Instr.loadAt 26 a2).run Tryz.prog w = .ok v0 w ∧ ∃ v1, (Instr.loadAt 31 a3).run Tryz.prog w = .ok v1 w ∧ k (.tuple #[v0, v1])) R (df1 :: ([] : List Deferred)))) (fun ds1 w =>
 V1 Tryz.prog (Instr.loadAt 26 a2) w (fun a27 w =>
 U1 Tryz.prog (Instr.storeAt 26 a2 a27) w (fun w =>
 U1 Tryz.prog (Instr.storeAt 31 a3 .nilIface) w (fun w =>
 Lv Tryz.prog (fun w k => ∃ v0, (Instr.loadAt 26 a2).run Tryz.prog w = .ok v0 w ∧ ∃ v1, (Instr.loadAt 31 a3).run Tryz.prog w = .ok v1 w ∧ k (.tuple #[v0, v1])) R ds1 .returning w) (pnD Tryz.prog (fun w k => ∃ v0, (Instr.loadAt 26 a2).run Tryz.prog w = .ok v0 w ∧ ∃ v1, (Instr.loadAt 31 a3).run Tryz.prog w = .ok v1 w ∧ k (.tuple #[v0, v1])) R ds1)) (pnD Tryz.prog (fun w k => ∃ v0, (Instr.loadAt 26 a2).run Tryz.prog w = .ok v0 w ∧ ∃ v1, (Instr.loadAt 31 a3).run Tryz.prog w = .ok v1 w ∧ k (.tuple #[v0, v1])) R ds1)) (pnD Tryz.prog (fun w k => ∃ v0, (Instr.loadAt 26 a2).run Tryz.prog w = .ok v0 w ∧ ∃ v1, (Instr.loadAt 31 a3).run Tryz.prog w = .ok v1 w ∧ k (.tuple #[v0, v1])) R ds1))) (pnD Tryz.prog (fun w k => ∃ v0, (Instr.loadAt 26 a2).run Tryz.prog w = .ok v0 w ∧ ∃ v1, (Instr.loadAt 31 a3).run Tryz.prog w = .ok v1 w ∧ k (.tuple #[v0, v1])) R (df1 :: ([] : List Deferred)))) (pnD Tryz.prog (fun w k => ∃ v0, (Instr.loadAt 26 a2).run Tryz.prog w = .ok v0 w ∧ ∃ v1, (Instr.loadAt 31 a3).run Tryz.prog w = .ok v1 w ∧ k (.tuple #[v0, v1])) R (df1 :: ([] : List Deferred)))) (pnD Tryz.prog (fun w k => ∃ v0, (Instr.loadAt 26 a2).run Tryz.prog w = .ok v0 w ∧ ∃ v1, (Instr.loadAt 31 a3).run Tryz.prog w = .ok v1 w ∧ k (.tuple #[v0, v1])) R (df1 :: ([] : List Deferred)))) (pnD Tryz.prog (fun w k => ∃ v0, (Instr.loadAt 26 a2).run Tryz.prog w = .ok v0 w ∧ ∃ v1, (Instr.loadAt 31 a3).run Tryz.prog w = .ok v1 w ∧ k (.tuple #[v0, v1])) R (df1 :: ([] : List Deferred)))) (pnD Tryz.prog (fun w k => ∃ v0, (Instr.loadAt 26 a2).run Tryz.prog w = .ok v0 w ∧ ∃ v1, (Instr.loadAt 31 a3).run Tryz.prog w = .ok v1 w ∧ k (.tuple #[v0, v1])) R (df1 :: ([] : List Deferred)))) (pnD Tryz.prog (fun w k => ∃ v0, (Instr.loadAt 26 a2).run Tryz.prog w = .ok v0 w ∧ ∃ v1, (Instr.loadAt 31 a3).run Tryz.prog w = .ok v1 w ∧ k (.tuple #[v0, v1])) R ([] : List Deferred))) (pnD Tryz.prog (fun w k => ∃ v0, (Instr.loadAt 26 a2).run Tryz.prog w = .ok v0 w ∧ ∃ v1, (Instr.loadAt 31 a3).run Tryz.prog w = .ok v1 w ∧ k (.tuple #[v0, v1])) R ([] : List Deferred)))) (pnD Tryz.prog (fun w k => ∃ v0, (Instr.loadAt 26 a2).run Tryz.prog w = .ok v0 w ∧ ∃ v1, (Instr.loadAt 31 a3).run Tryz.prog w = .ok v1 w ∧ k (.tuple #[v0, v1])) R ([] : List Deferred))) (pnD Tryz.prog (fun w k => ∃ v0, (Instr.loadAt 26 a2).run Tryz.prog w = .ok v0 w ∧ ∃ v1, (Instr.loadAt 31 a3).run Tryz.prog w = .ok v1 w ∧ k (.tuple #[v0, v1])) R ([] : List Deferred))) (pnD Tryz.prog (fun w k => ∃ v0, (Instr.loadAt 26 a2).run Tryz.prog w = .ok v0 w ∧ ∃ v1, (Instr.loadAt 31 a3).run Tryz.prog w = .ok v1 w ∧ k (.tuple #[v0, v1])) R ([] : List Deferred))) (pnD Tryz.prog (fun w k => ∃ v0, (Instr.loadAt 26 a2).run Tryz.prog w = .ok v0 w ∧ ∃ v1, (Instr.loadAt 31 a3).run Tryz.prog w = .ok v1 w ∧ k (.tuple #[v0, v1])) R ([] : List Deferred))) (pnD Tryz.prog (fun w k => ∃ v0, (Instr.loadAt 26 a2).run Tryz.prog w = .ok v0 w ∧ ∃ v1, (Instr.loadAt 31 a3).run Tryz.prog w = .ok v1 w ∧ k (.tuple #[v0, v1])) R ([] : List Deferred))) (pnD Tryz.prog (fun w k => ∃ v0, (Instr.loadAt 26 a2).run Tryz.prog w = .ok v0 w ∧ ∃ v1, (Instr.loadAt 31 a3).run Tryz.prog w = .ok v1 w ∧ k (.tuple #[v0, v1])) R ([] : List Deferred))) (pnD Tryz.prog (fun w k => ∃ v0, (Instr.loadAt 26 a2).run Tryz.prog w = .ok v0 w ∧ False) R ([] : List Deferred))) (pnD Tryz.prog (fun w k => False) R ([] : List Deferred))
set_option maxHeartbeats 4000000 in
theorem s13 {R : Ending → World → Prop} {a0 : Value} {w : World} (h : S13 R a0 w) : Calls Tryz.prog 13 #[a0] w R :=
  calls_ofD [3] mixed Tryz.func13 (c := codeB Tryz.f13) (by kernel_rfl) (Nat.le_of_ble_eq_true (by kernel_rfl)) (cast (by kernel_rfl) h)
theorem cf13 : CfT 13 := CfT.mk Tryz.func13 (c := codeB Tryz.f13) (by kernel_rfl) (by kernel_rfl)
def S29 (R : Ending → World → Prop) (w : World) : Prop :=
 v1 R (Instr.makeMap 80 none) w fun a6 w =>
 v1 R (Instr.buildSlice 45 10 #[(0, (.string ⟨#[111, 114]⟩)), (1, (.string ⟨#[97, 110, 100]⟩)), (2, (.string ⟨#[60, 32, 60, 61, 32, 62, 32, 62, 61, 32, 61, 61, 32, 126, 61]⟩)), (3, (.string ⟨#[124]⟩)), (4, (.string ⟨#[126]⟩)), (5, (.string ⟨#[38]⟩)), (6, (.string ⟨#[60, 60, 32, 62, 62]⟩)), (7, (.string ⟨#[46, 46]⟩)), (8, (.string ⟨#[43, 32, 45]⟩)), (9, (.string ⟨#[42, 32, 47, 47, 32, 37]⟩))]) w fun a7 w =>
 v1 R (Builtin.len_ #[45] 3 #[a7]) w fun a8 w =>
 L1 (.int .i64 0) w (fun g1 a9 w =>
 v1 R (Bo .lss 3 false false a9 a8) w fun a10 w =>
 If a10 (
 v1 R (Instr.indexAt 45 a7 a9) w fun a12 w =>
 v1 R (Instr.loadAt 9 a12) w fun a13 w =>
 cf R 56 #[a13] w fun a15 w =>
 v1 R (Builtin.len_ #[45] 3 #[a15]) w fun a16 w =>
 L1 (.int .i64 0) w (fun g2 a17 w =>
 v1 R (Bo .lss 3 false false a17 a16) w fun a18 w =>
 If a18 (
 v1 R (Instr.indexAt 45 a15 a17) w fun a19 w =>
 v1 R (Instr.loadAt 9 a19) w fun a20 w =>
 v1 R (Bo .add 3 false true a9 (.int .i64 1)) w fun a24 w =>
 u1 R (Instr.mapUpdate 80 a6 a20 a24) w fun w =>
 v1 R (Bo .add 3 false true a17 (.int .i64 1)) w fun a25 w =>
 g2 a25 w) (
 v1 R (Bo .add 3 false true a9 (.int .i64 1)) w fun a26 w =>
 g1 a26 w))) (
 R (.returned a6) w))
theorem s29 {R : Ending → World → Prop} {w : World} (h : S29 R  w) : Calls Tryz.prog 29 #[] w R :=
  calls_of [] mixed Tryz.func29 (c := codeB Tryz.f29) (by kernel_rfl) (Nat.le_of_ble_eq_true (by kernel_rfl)) (cast (by kernel_rfl) h)
theorem cf29 : CfT 29 := CfT.mk Tryz.func29 (c := codeB Tryz.f29) (by kernel_rfl) (by kernel_rfl)
def S30 (R : Ending → World → Prop) (a0 : Value) (w : World) : Prop :=
 J1 (fun k1 =>
 L1 (.slice none 0 0) w (fun g1 a3 w =>
 cf R 57 #[a0] w fun a6 w =>
 v1 R (Op.unary .not a6) w fun a7 w =>
 If a7 (
 cf R 31 #[a0] w fun a9 w =>
 v1 R (Instr.field 86 a9 3) w fun a10 w =>
 v1 R (Instr.build 43 #[(1, a10)]) w fun a11 w =>
 v1 R (Instr.box 43 a11) w fun a12 w =>
 cf R 58 #[a0, a12] w fun a15 w =>
 v1 R (Instr.buildSlice 26 1 #[(0, a12)]) w fun a18 w =>
 v1 R (Builtin.append_ #[26, 26] 26 #[a3, a18]) w fun a19 w =>
 up R (Nc a12) w fun a21 w =>
 v1 R (Instr.fieldAt 43 a21 0) w fun a22 w =>
 v1 R (Instr.loadAt 3 a22) w fun a23 w =>
 v1 R (Bo .eql 3 false true a23 (.int .i64 8)) w fun a24 w =>
 If a24 (
 k1 a19 w) (
 g1 a19 w)) (
 k1 a3 w))) (fun a3_1 w =>
 R (.returned a3_1) w)
theorem s30 {R : Ending → World → Prop} {a0 : Value} {w : World} (h : S30 R a0 w) : Calls Tryz.prog 30 #[a0] w R :=
  calls_of [] mixed Tryz.func30 (c := codeB Tryz.f30) (by kernel_rfl) (Nat.le_of_ble_eq_true (by kernel_rfl)) (cast (by kernel_rfl) h)
theorem cf30 : CfT 30 := CfT.mk Tryz.func30 (c := codeB Tryz.f30) (by kernel_rfl) (by kernel_rfl)
def S31 (R : Ending → World → Prop) (a0 : Value) (w : World) : Prop :=
 v1 R (Instr.alloc 86 true (.tuple #[])) w fun a2 w =>
 up R (Nc a0) w fun a4 w =>
 v1 R (Instr.fieldAt 83 a4 0) w fun a5 w =>
 v1 R (Instr.loadAt 73 a5) w fun a6 w =>
 v1 R (Instr.indexAt 73 a6 (.int .i64 0)) w fun a7 w =>
 v1 R (Instr.loadAt 86 a7) w fun a8 w =>
 u1 R (Instr.storeAt 86 a2 a8) w fun w =>
 ∃ v0, (Instr.loadAt 86 a2).run Tryz.prog w = .ok v0 w ∧ R (.returned v0) w
theorem s31 {R : Ending → World → Prop} {a0 : Value} {w : World} (h : S31 R a0 w) : Calls Tryz.prog 31 #[a0] w R :=
  calls_of [] mixed Tryz.func31 (c := codeB Tryz.f31) (by kernel_rfl) (Nat.le_of_ble_eq_true (by kernel_rfl)) (cast (by kernel_rfl) h)
theorem cf31 : CfT 31 := CfT.mk Tryz.func31 (c := codeB Tryz.f31) (by kernel_rfl) (by kernel_rfl)
def S32 (R : Ending → World → Prop) (a0 a1 : Value) (w : World) : Prop :=
 cf R 31 #[a0] w fun a6 w =>
 v1 R (Instr.field 86 a6 3) w fun a7 w =>
 v1 R (Instr.build 69 #[(0, a1), (1, a7)]) w fun a8 w =>
 v1 R (Instr.box 69 a8) w fun a9 w =>
 v1 R (Instr.build 78 #[(0, a9)]) w fun a10 w =>
 v1 R (Instr.makeInterface 78 a10) w fun a11 w =>
 v1 R (Instr.panic a11) w fun _ w =>
 R (.returned (.tuple #[])) w
theorem s32 {R : Ending → World → Prop} {a0 a1 : Value} {w : World} (h : S32 R a0 a1 w) : Calls Tryz.prog 32 #[a0, a1] w R :=
  calls_of [] mixed Tryz.func32 (c := codeB Tryz.f32) (by kernel_rfl) (Nat.le_of_ble_eq_true (by kernel_rfl)) (cast (by kernel_rfl) h)
theorem cf32 : CfT 32 := CfT.mk Tryz.func32 (c := codeB Tryz.f32) (by kernel_rfl) (by kernel_rfl)
def S57 (R : Ending → World → Prop) (a0 : Value) (w : World) : Prop :=
 cf R 31 #[a0] w fun a4 w =>
 v1 R (Instr.field 86 a4 0) w fun a5 w =>
 v1 R (Bo .eql 3 false true a5 (.int .i64 5)) w fun a6 w =>
 J1 (fun k1 =>
 Gd a6 false (v1 R (Instr.buildSlice 45 4 #[(0, (.string ⟨#[101, 110, 100]⟩)), (1, (.string ⟨#[101, 108, 115, 101]⟩)), (2, (.string ⟨#[101, 108, 115, 101, 105, 102]⟩)), (3, (.string ⟨#[99, 97, 116, 99, 104]⟩))]) w fun a9 w =>
 cf R 99 #[a0, a9] w fun a10 w =>
 k1 a10 w) (k1 undef w)) (fun a10_1 w =>
 v1 R (Pk a6 (.bool true) a10_1) w fun a11 w =>
 R (.returned a11) w)
theorem s57 {R : Ending → World → Prop} {a0 : Value} {w : World} (h : S57 R a0 w) : Calls Tryz.prog 57 #[a0] w R :=
  calls_of [] mixed Tryz.func57 (c := codeB Tryz.f57) (by kernel_rfl) (Nat.le_of_ble_eq_true (by kernel_rfl)) (cast (by kernel_rfl) h)
theorem cf57 : CfT 57 := CfT.mk Tryz.func57 (c := codeB Tryz.f57) (by kernel_rfl) (by kernel_rfl)
def S58 (R : Ending → World → Prop) (a0 a1 : Value) (w : World) : Prop :=
 v1 R (Instr.box 79 a0) w fun a2 w =>
 v1 R (Instr.box 40 a1) w fun a3 w =>
 v1 R (Instr.loadAt 79 a2) w fun a5 w =>
 cf R 31 #[a5] w fun a6 w =>
 v1 R (Instr.alloc 86 true (.tuple #[])) w fun a4 w =>
 u1 R (Instr.storeAt 86 a4 a6) w fun w =>
 v1 R (Instr.fieldAt 86 a4 0) w fun a11 w =>
 v1 R (Instr.loadAt 3 a11) w fun a12 w =>
 v1 R (Bo .neq 3 false true a12 (.int .i64 4)) w fun a13 w =>
 If a13 (
 v1 R (Instr.loadAt 79 a2) w fun a14 w =>
 v1 R (Instr.loadAt 40 a3) w fun a15 w =>
 cf R 100 #[a14, a15] w fun a16 w =>
 R (.returned (.tuple #[])) w) (
 v1 R (Instr.fieldAt 86 a4 1) w fun a18 w =>
 v1 R (Instr.loadAt 9 a18) w fun a19 w =>
 v1 R (Bo .eql 9 false true a19 (.string ⟨#[108, 111, 99, 97, 108]⟩)) w fun a20 w =>
 If a20 (
 v1 R (Instr.loadAt 79 a2) w fun a21 w =>
 v1 R (Instr.loadAt 40 a3) w fun a22 w =>
 cf R 101 #[a21, a22] w fun a23 w =>
 R (.returned (.tuple #[])) w) (
 v1 R (Instr.fieldAt 86 a4 1) w fun a25 w =>
 v1 R (Instr.loadAt 9 a25) w fun a26 w =>
 v1 R (Bo .eql 9 false true a26 (.string ⟨#[102, 117, 110, 99, 116, 105, 111, 110]⟩)) w fun a27 w =>
 If a27 (
 v1 R (Instr.loadAt 40 a3) w fun a28 w =>
 up R (Nc a28) w fun a29 w =>
 v1 R (Instr.fieldAt 43 a29 0) w fun a30 w =>
 u1 R (Instr.storeAt 3 a30 (.int .i64 2)) w fun w =>
 ∃ S1 : World → Prop, S1 w.drew ∧
 xw S1 (Instr.loadAt 40 a3) fun a31 => xw S1 (Instr.loadAt 79 a2) fun a32 => xw t0 (Instr.makeFunc (.func 103) #[] #[a2, a3]) fun a33 => cf R 102 #[a32, a33] w.drew fun a34 w =>
 S1 w ∧ xs t0 (Nc a31) fun a35 => xw t0 (Instr.fieldAt 43 a35 4) fun a36 => u1 R (Instr.storeAt 41 a36 a34) w fun w =>
 R (.returned (.tuple #[])) w) (
 v1 R (Instr.fieldAt 86 a4 1) w fun a38 w =>
 v1 R (Instr.loadAt 9 a38) w fun a39 w =>
 v1 R (Bo .eql 9 false true a39 (.string ⟨#[100, 111]⟩)) w fun a40 w =>
 If a40 (
 ∃ S2 : World → Prop, S2 w.drew ∧
 xw S2 (Instr.loadAt 40 a3) fun a41 => xw S2 (Instr.loadAt 40 a3) fun a42 => xw S2 (Instr.loadAt 79 a2) fun a43 => cf R 105 #[a43, (.string ⟨#[100, 111]⟩)] w.drew fun a44 w =>
 S2 w ∧ xs t0 (Nc a41) fun a45 => xw t0 (Instr.fieldAt 43 a45 0) fun a46 => u1 R (Instr.storeAt 3 a46 (.int .i64 4)) w fun w =>
 S2 w ∧ xs t0 (Nc a42) fun a47 => xw t0 (Instr.fieldAt 43 a47 6) fun a48 => u1 R (Instr.storeAt 26 a48 a44) w fun w =>
 v1 R (Instr.loadAt 79 a2) w fun a49 w =>
 cf R 106 #[a49, (.string ⟨#[101, 110, 100]⟩)] w fun a50 w =>
 R (.returned (.tuple #[])) w) (
 v1 R (Instr.fieldAt 86 a4 1) w fun a52 w =>
 v1 R (Instr.loadAt 9 a52) w fun a53 w =>
 v1 R (Bo .eql 9 false true a53 (.string ⟨#[119, 104, 105, 108, 101]⟩)) w fun a54 w =>
 If a54 (
 v1 R (Instr.loadAt 79 a2) w fun a55 w =>
 cf R 107 #[a55] w fun a56 w =>
 ∃ S3 : World → Prop, S3 w.drew ∧
 xw S3 (Instr.loadAt 40 a3) fun a57 => xw S3 (Instr.loadAt 40 a3) fun a58 => xw S3 (Instr.loadAt 79 a2) fun a59 => cf R 108 #[a59, (.int .i64 0)] w.drew fun a60 w =>
 S3 w ∧ xs t0 (Nc a57) fun a61 => xw t0 (Instr.fieldAt 43 a61 0) fun a62 => u1 R (Instr.storeAt 3 a62 (.int .i64 5)) w fun w =>
 S3 w ∧ xs t0 (Nc a58) fun a63 => xw t0 (Instr.fieldAt 43 a63 4) fun a64 => u1 R (Instr.storeAt 41 a64 a60) w fun w =>
 ∃ S4 : World → Prop, S4 w.drew ∧
 xw S4 (Instr.loadAt 40 a3) fun a65 => xw S4 (Instr.loadAt 79 a2) fun a66 => cf R 105 #[a66, (.string ⟨#[100, 111]⟩)] w.drew fun a67 w =>
 S4 w ∧ xs t0 (Nc a65) fun a68 => xw t0 (Instr.fieldAt 43 a68 6) fun a69 => u1 R (Instr.storeAt 26 a69 a67) w fun w =>
 v1 R (Instr.loadAt 79 a2) w fun a70 w =>
 cf R 106 #[a70, (.string ⟨#[101, 110, 100]⟩)] w fun a71 w =>
 R (.returned (.tuple #[])) w) (
 v1 R (Instr.fieldAt 86 a4 1) w fun a73 w =>
 v1 R (Instr.loadAt 9 a73) w fun a74 w =>
 v1 R (Bo .eql 9 false true a74 (.string ⟨#[102, 111, 114]⟩)) w fun a75 w =>
 If a75 (
 v1 R (Instr.loadAt 79 a2) w fun a76 w =>
 cf R 107 #[a76] w fun a77 w =>
 ∃ S5 : World → Prop, S5 w.drew ∧
 xw S5 (Instr.loadAt 40 a3) fun a78 => xw S5 (Instr.loadAt 40 a3) fun a79 => xw S5 (Instr.loadAt 79 a2) fun a80 => cf R 104 #[a80] w.drew fun a81 w =>
 S5 w ∧ xw t0 (Instr.field 86 a81 1) fun a82 => xs t0 (Nc a78) fun a83 => xw t0 (Instr.fieldAt 43 a83 0) fun a84 => u1 R (Instr.storeAt 3 a84 (.int .i64 7)) w fun w =>
 S5 w ∧ xs t0 (Nc a79) fun a85 => xw t0 (Instr.fieldAt 43 a85 2) fun a86 => u1 R (Instr.storeAt 9 a86 a82) w fun w =>
 v1 R (Instr.loadAt 79 a2) w fun a87 w =>
 cf R 106 #[a87, (.string ⟨#[61]⟩)] w fun a88 w =>
 ∃ S6 : World → Prop, S6 w.drew ∧
 xw S6 (Instr.loadAt 40 a3) fun a89 => xw S6 (Instr.loadAt 79 a2) fun a90 => cf R 108 #[a90, (.int .i64 0)] w.drew fun a91 w =>
 S6 w ∧ xs t0 (Nc a89) fun a92 => xw t0 (Instr.fieldAt 43 a92 4) fun a93 => u1 R (Instr.storeAt 41 a93 a91) w fun w =>
 v1 R (Instr.loadAt 79 a2) w fun a94 w =>
 cf R 106 #[a94, (.string ⟨#[44]⟩)] w fun a95 w =>
 ∃ S7 : World → Prop, S7 w.drew ∧
 xw S7 (Instr.loadAt 40 a3) fun a96 => xw S7 (Instr.loadAt 79 a2) fun a97 => cf R 108 #[a97, (.int .i64 0)] w.drew fun a98 w =>
 S7 w ∧ xs t0 (Nc a96) fun a99 => xw t0 (Instr.fieldAt 43 a99 5) fun a100 => u1 R (Instr.storeAt 41 a100 a98) w fun w =>
 ∃ S8 : World → Prop, S8 w.drew ∧
 xw S8 (Instr.loadAt 40 a3) fun a101 => xw S8 (Instr.loadAt 79 a2) fun a102 => cf R 105 #[a102, (.string ⟨#[100, 111]⟩)] w.drew fun a103 w =>
 S8 w ∧ xs t0 (Nc a101) fun a104 => xw t0 (Instr.fieldAt 43 a104 6) fun a105 => u1 R (Instr.storeAt 26 a105 a103) w fun w =>
 v1 R (Instr.loadAt 79 a2) w fun a106 w =>
 cf R 106 #[a106, (.string ⟨#[101, 110, 100]⟩)] w fun a107 w =>
 R (.returned (.tuple #[])) w) (
 v1 R (Instr.fieldAt 86 a4 1) w fun a109 w =>
 v1 R (Instr.loadAt 9 a109) w fun a110 w =>
 v1 R (Bo .eql 9 false true a110 (.string ⟨#[105, 102]⟩)) w fun a111 w =>
 If a111 (
 v1 R (Instr.loadAt 79 a2) w fun a112 w =>
 cf R 107 #[a112] w fun a113 w =>
 v1 R (Instr.loadAt 79 a2) w fun a114 w =>
 v1 R (Instr.loadAt 40 a3) w fun a115 w =>
 cf R 109 #[a114, a115] w fun a116 w =>
 v1 R (Instr.loadAt 79 a2) w fun a117 w =>
 cf R 106 #[a117, (.string ⟨#[101, 110, 100]⟩)] w fun a118 w =>
 R (.returned (.tuple #[])) w) (
 v1 R (Instr.fieldAt 86 a4 1) w fun a120 w =>
 v1 R (Instr.loadAt 9 a120) w fun a121 w =>
 v1 R (Bo .eql 9 false true a121 (.string ⟨#[114, 101, 116, 117, 114, 110]⟩)) w fun a122 w =>
 If a122 (
 v1 R (Instr.loadAt 79 a2) w fun a123 w =>
 cf R 107 #[a123] w fun a124 w =>
 v1 R (Instr.loadAt 40 a3) w fun a125 w =>
 up R (Nc a125) w fun a126 w =>
 v1 R (Instr.fieldAt 43 a126 0) w fun a127 w =>
 u1 R (Instr.storeAt 3 a127 (.int .i64 8)) w fun w =>
 J0 (fun k1 =>
 v1 R (Instr.loadAt 79 a2) w fun a128 w =>
 cf R 57 #[a128] w fun a129 w =>
 v1 R (Op.unary .not a129) w fun a130 w =>
 If a130 (
 ∃ S9 : World → Prop, S9 w.drew ∧
 xw S9 (Instr.loadAt 40 a3) fun a131 => xw S9 (Instr.loadAt 79 a2) fun a132 => cf R 108 #[a132, (.int .i64 0)] w.drew fun a133 w =>
 S9 w ∧ xs t0 (Nc a131) fun a134 => xw t0 (Instr.fieldAt 43 a134 4) fun a135 => u1 R (Instr.storeAt 41 a135 a133) w fun w =>
 k1 w) (
 k1 w)) (fun w =>
 v1 R (Instr.loadAt 79 a2) w fun a136 w =>
 cf R 57 #[a136] w fun a137 w =>
 v1 R (Op.unary .not a137) w fun a138 w =>
 If a138 (
 v1 R (Instr.loadAt 79 a2) w fun a139 w =>
 cf R 32 #[a139, (.int .i64 4)] w fun a140 w =>
 R (.returned (.tuple #[])) w) (
 R (.returned (.tuple #[])) w))) (
 v1 R (Instr.fieldAt 86 a4 1) w fun a142 w =>
 v1 R (Instr.loadAt 9 a142) w fun a143 w =>
 v1 R (Bo .eql 9 false true a143 (.string ⟨#[98, 114, 101, 97, 107]⟩)) w fun a144 w =>
 If a144 (
 v1 R (Instr.loadAt 79 a2) w fun a145 w =>
 cf R 107 #[a145] w fun a146 w =>
 v1 R (Instr.loadAt 40 a3) w fun a147 w =>
 up R (Nc a147) w fun a148 w =>
 v1 R (Instr.fieldAt 43 a148 0) w fun a149 w =>
 u1 R (Instr.storeAt 3 a149 (.int .i64 9)) w fun w =>
 R (.returned (.tuple #[])) w) (
 v1 R (Instr.fieldAt 86 a4 1) w fun a151 w =>
 v1 R (Instr.loadAt 9 a151) w fun a152 w =>
 v1 R (Bo .eql 9 false true a152 (.string ⟨#[116, 114, 121]⟩)) w fun a153 w =>
 If a153 (
 ∃ S10 : World → Prop, S10 w.drew ∧
 xw S10 (Instr.loadAt 40 a3) fun a154 => xw S10 (Instr.loadAt 40 a3) fun a155 => xw S10 (Instr.loadAt 79 a2) fun a156 => cf R 105 #[a156, (.string ⟨#[116, 114, 121]⟩)] w.drew fun a157 w =>
 S10 w ∧ xs t0 (Nc a154) fun a158 => xw t0 (Instr.fieldAt 43 a158 0) fun a159 => u1 R (Instr.storeAt 3 a159 (.int .i64 10)) w fun w =>
 S10 w ∧ xs t0 (Nc a155) fun a160 => xw t0 (Instr.fieldAt 43 a160 6) fun a161 => u1 R (Instr.storeAt 26 a161 a157) w fun w =>
 v1 R (Instr.loadAt 79 a2) w fun a162 w =>
 v1 R (Instr.loadAt 40 a3) w fun a163 w =>
 cf R 110 #[a162, a163] w fun a164 w =>
 v1 R (Instr.loadAt 79 a2) w fun a165 w =>
 cf R 106 #[a165, (.string ⟨#[101, 110, 100]⟩)] w fun a166 w =>
 R (.returned (.tuple #[])) w) (
 v1 R (Instr.loadAt 79 a2) w fun a7 w =>
 v1 R (Instr.loadAt 40 a3) w fun a8 w =>
 cf R 100 #[a7, a8] w fun a9 w =>
 R (.returned (.tuple #[])) w))))))))))
set_option maxHeartbeats 4000000 in
theorem s58 {R : Ending → World → Prop} {a0 a1 : Value} {w : World} (h : S58 R a0 a1 w) : Calls Tryz.prog 58 #[a0, a1] w R :=
  calls_of [9, 11, 15, 16, 20, 22, 24, 25, 35, 42] mixed Tryz.func58 (c := codeB Tryz.f58) (by kernel_rfl) (Nat.le_of_ble_eq_true (by kernel_rfl)) (cast (by kernel_rfl) h)
theorem cf58 : CfT 58 := CfT.mk Tryz.func58 (c := codeB Tryz.f58) (by kernel_rfl) (by kernel_rfl)
def S99 (R : Ending → World → Prop) (a0 a1 : Value) (w : World) : Prop :=
 cf R 31 #[a0] w fun a9 w =>
 v1 R (Instr.alloc 86 true (.tuple #[])) w fun a5 w =>
 u1 R (Instr.storeAt 86 a5 a9) w fun w =>
 v1 R (Builtin.len_ #[45] 3 #[a1]) w fun a11 w =>
 L2 (.bool false) (.int .i64 0) w (fun g1 a4 a12 w =>
 v1 R (Bo .lss 3 false false a12 a11) w fun a13 w =>
 If a13 (
 v1 R (Instr.indexAt 45 a1 a12) w fun a14 w =>
 v1 R (Instr.loadAt 9 a14) w fun a15 w =>
 v1 R (Instr.fieldAt 86 a5 0) w fun a16 w =>
 v1 R (Instr.loadAt 3 a16) w fun a17 w =>
 v1 R (Bo .eql 3 false true a17 (.int .i64 4)) w fun a18 w =>
 J1 (fun k1 =>
 Gd a18 true (v1 R (Instr.fieldAt 86 a5 1) w fun a20 w =>
 v1 R (Instr.loadAt 9 a20) w fun a21 w =>
 v1 R (Bo .eql 9 false false a21 a15) w fun a23 w =>
 k1 a23 w) (k1 undef w)) (fun a23_1 w =>
 v1 R (Pk a18 a23_1 (.bool false)) w fun a24 w =>
 If a24 (
 R (.returned (.bool true)) w) (
 v1 R (Bo .add 3 false true a12 (.int .i64 1)) w fun a25 w =>
 g1 a4 a25 w))) (
 R (.returned (.bool false)) w))
theorem s99 {R : Ending → World → Prop} {a0 a1 : Value} {w : World} (h : S99 R a0 a1 w) : Calls Tryz.prog 99 #[a0, a1] w R :=
  calls_of [] mixed Tryz.func99 (c := codeB Tryz.f99) (by kernel_rfl) (Nat.le_of_ble_eq_true (by kernel_rfl)) (cast (by kernel_rfl) h)
theorem cf99 : CfT 99 := CfT.mk Tryz.func99 (c := codeB Tryz.f99) (by kernel_rfl) (by kernel_rfl)
def S100 (R : Ending → World → Prop) (a0 a1 : Value) (w : World) : Prop :=
 cf R 156 #[a0] w fun a7 w =>
 up R (Nc a0) w fun a9 w =>
 v1 R (Instr.fieldAt 83 a9 3) w fun a10 w =>
 v1 R (Instr.loadAt 4 a10) w fun a11 w =>
 v1 R (Instr.buildSlice 45 1 #[(0, (.string ⟨#[61]⟩))]) w fun a16 w =>
 cf R 99 #[a0, a16] w fun a17 w =>
 J1 (fun k1 =>
 Gd a17 true (v1 R (Op.unary .not a11) w fun a20 w =>
 k1 a20 w) (k1 undef w)) (fun a20_1 w =>
 v1 R (Pk a17 a20_1 (.bool false)) w fun a21 w =>
 J1 (fun k2 =>
 Gd a21 true (up R (Nc a7) w fun a24 w =>
 v1 R (Instr.fieldAt 47 a24 0) w fun a25 w =>
 v1 R (Instr.loadAt 3 a25) w fun a26 w =>
 v1 R (Bo .eql 3 false true a26 (.int .i64 6)) w fun a27 w =>
 k2 a27 w) (k2 undef w)) (fun a28 w =>
 J1 (fun k3 =>
 Gd a28 false (up R (Nc a7) w fun a30 w =>
 v1 R (Instr.fieldAt 47 a30 0) w fun a31 w =>
 v1 R (Instr.loadAt 3 a31) w fun a32 w =>
 v1 R (Bo .eql 3 false true a32 (.int .i64 7)) w fun a33 w =>
 k3 a33 w) (k3 undef w)) (fun a33_1 w =>
 J1 (fun k4 =>
 Gd a21 true (v1 R (Pk a28 (.bool true) a33_1) w fun a34 w =>
 k4 a34 w) (k4 undef w)) (fun a34_1 w =>
 v1 R (Pk a21 a34_1 (.bool false)) w fun a35 w =>
 If a35 (
 cf R 107 #[a0] w fun a37 w =>
 cf R 108 #[a0, (.int .i64 0)] w fun a43 w =>
 up R (Nc a1) w fun a44 w =>
 v1 R (Instr.fieldAt 43 a44 0) w fun a45 w =>
 u1 R (Instr.storeAt 3 a45 (.int .i64 2)) w fun w =>
 up R (Nc a1) w fun a46 w =>
 v1 R (Instr.fieldAt 43 a46 3) w fun a47 w =>
 u1 R (Instr.storeAt 41 a47 a7) w fun w =>
 up R (Nc a1) w fun a48 w =>
 v1 R (Instr.fieldAt 43 a48 4) w fun a49 w =>
 u1 R (Instr.storeAt 41 a49 a43) w fun w =>
 R (.returned (.tuple #[])) w) (
 v1 R (Instr.buildSlice 45 1 #[(0, (.string ⟨#[61]⟩))]) w fun a52 w =>
 cf R 99 #[a0, a52] w fun a53 w =>
 v1 R (Op.unary .not a53) w fun a54 w =>
 J1 (fun k5 =>
 Gd a54 true (v1 R (Op.unary .not a11) w fun a57 w =>
 k5 a57 w) (k5 undef w)) (fun a57_1 w =>
 v1 R (Pk a54 a57_1 (.bool false)) w fun a58 w =>
 J1 (fun k6 =>
 Gd a58 true (up R (Nc a7) w fun a61 w =>
 v1 R (Instr.fieldAt 47 a61 0) w fun a62 w =>
 v1 R (Instr.loadAt 3 a62) w fun a63 w =>
 v1 R (Bo .eql 3 false true a63 (.int .i64 8)) w fun a64 w =>
 k6 a64 w) (k6 undef w)) (fun a64_1 w =>
 v1 R (Pk a58 a64_1 (.bool false)) w fun a65 w =>
 If a65 (
 up R (Nc a1) w fun a69 w =>
 v1 R (Instr.fieldAt 43 a69 0) w fun a70 w =>
 u1 R (Instr.storeAt 3 a70 (.int .i64 3)) w fun w =>
 up R (Nc a1) w fun a71 w =>
 v1 R (Instr.fieldAt 43 a71 4) w fun a72 w =>
 u1 R (Instr.storeAt 41 a72 a7) w fun w =>
 R (.returned (.tuple #[])) w) (
 cf R 32 #[a0, (.int .i64 4)] w fun a13 w =>
 R (.returned (.tuple #[])) w))))))))
theorem s100 {R : Ending → World → Prop} {a0 a1 : Value} {w : World} (h : S100 R a0 a1 w) : Calls Tryz.prog 100 #[a0, a1] w R :=
  calls_of [] mixed Tryz.func100 (c := codeB Tryz.f100) (by kernel_rfl) (Nat.le_of_ble_eq_true (by kernel_rfl)) (cast (by kernel_rfl) h)
theorem cf100 : CfT 100 := CfT.mk Tryz.func100 (c := codeB Tryz.f100) (by kernel_rfl) (by kernel_rfl)
def S101 (R : Ending → World → Prop) (a0 a1 : Value) (w : World) : Prop :=
 v1 R (Instr.box 79 a0) w fun a2 w =>
 v1 R (Instr.box 40 a1) w fun a3 w =>
 v1 R (Instr.loadAt 79 a2) w fun a4 w =>
 cf R 107 #[a4] w fun a5 w =>
 v1 R (Instr.loadAt 79 a2) w fun a6 w =>
 v1 R (Instr.buildSlice 45 1 #[(0, (.string ⟨#[102, 117, 110, 99, 116, 105, 111, 110]⟩))]) w fun a7 w =>
 cf R 99 #[a6, a7] w fun a8 w =>
 If a8 (
 v1 R (Instr.loadAt 40 a3) w fun a9 w =>
 up R (Nc a9) w fun a10 w =>
 v1 R (Instr.fieldAt 43 a10 0) w fun a11 w =>
 u1 R (Instr.storeAt 3 a11 (.int .i64 11)) w fun w =>
 ∃ S1 : World → Prop, S1 w.drew ∧
 xw S1 (Instr.loadAt 40 a3) fun a12 => xw S1 (Instr.loadAt 79 a2) fun a13 => xw t0 (Instr.makeFunc (.func 157) #[] #[a2, a3]) fun a14 => cf R 102 #[a13, a14] w.drew fun a15 w =>
 S1 w ∧ xs t0 (Nc a12) fun a16 => xw t0 (Instr.fieldAt 43 a16 4) fun a17 => u1 R (Instr.storeAt 41 a17 a15) w fun w =>
 R (.returned (.tuple #[])) w) (
 ∃ S2 : World → Prop, S2 w.drew ∧
 xw S2 (Instr.loadAt 40 a3) fun a18 => xw S2 (Instr.loadAt 40 a3) fun a19 => xw S2 (Instr.loadAt 79 a2) fun a20 => cf R 104 #[a20] w.drew fun a21 w =>
 S2 w ∧ xw t0 (Instr.field 86 a21 1) fun a22 => xs t0 (Nc a18) fun a23 => xw t0 (Instr.fieldAt 43 a23 0) fun a24 => u1 R (Instr.storeAt 3 a24 (.int .i64 1)) w fun w =>
 S2 w ∧ xs t0 (Nc a19) fun a25 => xw t0 (Instr.fieldAt 43 a25 2) fun a26 => u1 R (Instr.storeAt 9 a26 a22) w fun w =>
 v1 R (Instr.loadAt 79 a2) w fun a27 w =>
 cf R 158 #[a27, (.string ⟨#[61]⟩)] w fun a28 w =>
 If a28 (
 ∃ S3 : World → Prop, S3 w.drew ∧
 xw S3 (Instr.loadAt 40 a3) fun a29 => xw S3 (Instr.loadAt 79 a2) fun a30 => cf R 108 #[a30, (.int .i64 0)] w.drew fun a31 w =>
 S3 w ∧ xs t0 (Nc a29) fun a32 => xw t0 (Instr.fieldAt 43 a32 4) fun a33 => u1 R (Instr.storeAt 41 a33 a31) w fun w =>
 R (.returned (.tuple #[])) w) (
 R (.returned (.tuple #[])) w))
theorem s101 {R : Ending → World → Prop} {a0 a1 : Value} {w : World} (h : S101 R a0 a1 w) : Calls Tryz.prog 101 #[a0, a1] w R :=
  calls_of [4, 5, 7] mixed Tryz.func101 (c := codeB Tryz.f101) (by kernel_rfl) (Nat.le_of_ble_eq_true (by kernel_rfl)) (cast (by kernel_rfl) h)
theorem cf101 : CfT 101 := CfT.mk Tryz.func101 (c := codeB Tryz.f101) (by kernel_rfl) (by kernel_rfl)
def S102 (R : Ending → World → Prop) (a0 a1 : Value) (w : World) : Prop :=
 V1 Tryz.prog (Instr.box 79 a0) w (fun a2 w =>
 V1 Tryz.prog (Instr.loadAt 79 a2) w (fun a6 w =>
 Cf Tryz.prog 159 #[a6] w (fun a7 w =>
 D1 Tryz.prog (Deferred.ofValue a7 #[]) w (fun df1 w =>
 V1 Tryz.prog (Instr.loadAt 79 a2) w (fun a8 w =>
 Cf Tryz.prog 106 #[a8, (.string ⟨#[102, 117, 110, 99, 116, 105, 111, 110]⟩)] w (fun a9 w =>
 V1 Tryz.prog (Instr.build 47 #[(0, (.int .i64 9)), (1, a9)]) w (fun a10 w =>
 V1 Tryz.prog (Instr.box 47 a10) w (fun a11 w =>
 V1 Tryz.prog (Instr.alloc 41 true (.tuple #[])) w (fun a5 w =>
 U1 Tryz.prog (Instr.storeAt 41 a5 a11) w (fun w =>
 Up Tryz.prog (Cv a1 #[]) w (fun a13 w =>
 D0J (fun k1 =>
 V1 Tryz.prog (Instr.loadAt 79 a2) w (fun a14 w =>
 V1 Tryz.prog (Instr.buildSlice 45 1 #[(0, (.string ⟨#[40]⟩))]) w (fun a15 w =>
 Cf Tryz.prog 99 #[a14, a15] w (fun a16 w =>
 V1 Tryz.prog (Op.unary .not a16) w (fun a17 w =>
 If a17 (
 V1 Tryz.prog (Instr.loadAt 79 a2) w (fun a18 w =>
 Cf Tryz.prog 32 #[a18, (.int .i64 4)] w (fun a19 w =>
 k1 (df1 :: ([] : List Deferred)) w) (pnD Tryz.prog (r1 (.pointer none)) R (df1 :: ([] : List Deferred)))) (pnD Tryz.prog (r1 (.pointer none)) R (df1 :: ([] : List Deferred)))) (
 k1 (df1 :: ([] : List Deferred)) w)) (pnD Tryz.prog (r1 (.pointer none)) R (df1 :: ([] : List Deferred)))) (pnD Tryz.prog (r1 (.pointer none)) R (df1 :: ([] : List Deferred)))) (pnD Tryz.prog (r1 (.pointer none)) R (df1 :: ([] : List Deferred)))) (pnD Tryz.prog (r1 (.pointer none)) R (df1 :: ([] : List Deferred)))) (fun ds1 w =>
 V1 Tryz.prog (Instr.loadAt 79 a2) w (fun a20 w =>
 V1 Tryz.prog (Instr.makeFunc (.func 161) #[] #[a5, a2]) w (fun a21 w =>
 Cf Tryz.prog 160 #[a20, (.string ⟨#[40]⟩), (.string ⟨#[41]⟩), a21] w (fun a22 w =>
 ∃ S1 : World → Prop, S1 w.drew ∧
 xw S1 (Instr.loadAt 41 a5) fun a23 => xw S1 (Instr.loadAt 79 a2) fun a24 => Cf Tryz.prog 30 #[a24] w.drew (fun a25 w =>
 S1 w ∧ xs t0 (Nc a23) fun a26 => xw t0 (Instr.fieldAt 47 a26 9) fun a27 => U1 Tryz.prog (Instr.storeAt 26 a27 a25) w (fun w =>
 V1 Tryz.prog (Instr.loadAt 79 a2) w (fun a28 w =>
 Cf Tryz.prog 106 #[a28, (.string ⟨#[101, 110, 100]⟩)] w (fun a29 w =>
 V1 Tryz.prog (Instr.loadAt 41 a5) w (fun a30 w =>
 Lv Tryz.prog (r1 a30) R ds1 .returning w) (pnD Tryz.prog (r1 (.pointer none)) R ds1)) (pnD Tryz.prog (r1 (.pointer none)) R ds1)) (pnD Tryz.prog (r1 (.pointer none)) R ds1)) (pnD Tryz.prog (r1 (.pointer none)) R ds1)) (pnD Tryz.prog (r1 (.pointer none)) R ds1)) (pnD Tryz.prog (r1 (.pointer none)) R ds1)) (pnD Tryz.prog (r1 (.pointer none)) R ds1)) (pnD Tryz.prog (r1 (.pointer none)) R ds1))) (pnD Tryz.prog (r1 (.pointer none)) R (df1 :: ([] : List Deferred)))) (pnD Tryz.prog (r1 (.pointer none)) R (df1 :: ([] : List Deferred)))) (pnD Tryz.prog (r1 (.pointer none)) R (df1 :: ([] : List Deferred)))) (pnD Tryz.prog (r1 (.pointer none)) R (df1 :: ([] : List Deferred)))) (pnD Tryz.prog (r1 (.pointer none)) R (df1 :: ([] : List Deferred)))) (pnD Tryz.prog (r1 (.pointer none)) R (df1 :: ([] : List Deferred)))) (pnD Tryz.prog (r1 (.pointer none)) R (df1 :: ([] : List Deferred)))) (pnD Tryz.prog (r1 (.pointer none)) R ([] : List Deferred))) (pnD Tryz.prog (r1 (.pointer none)) R ([] : List Deferred))) (pnD Tryz.prog (r1 (.pointer none)) R ([] : List Deferred))) (pnD Tryz.prog (fun w k => False) R ([] : List Deferred))
theorem s102 {R : Ending → World → Prop} {a0 a1 : Value} {w : World} (h : S102 R a0 a1 w) : Calls Tryz.prog 102 #[a0, a1] w R :=
  calls_ofD [7] mixed Tryz.func102 (c := codeB Tryz.f102) (by kernel_rfl) (Nat.le_of_ble_eq_true (by kernel_rfl)) (cast (by kernel_rfl) h)
theorem cf102 : CfT 102 := CfT.mk Tryz.func102 (c := codeB Tryz.f102) (by kernel_rfl) (by kernel_rfl)
def S103 (R : Ending → World → Prop) (a0 a1 : Value) (w : World) : Prop :=
 v1 R (Instr.loadAt 79 a0) w fun a3 w =>
 cf R 104 #[a3] w fun a4 w =>
 v1 R (Instr.alloc 86 true (.tuple #[])) w fun a2 w =>
 u1 R (Instr.storeAt 86 a2 a4) w fun w =>
 v1 R (Instr.loadAt 40 a1) w fun a5 w =>
 v1 R (Instr.fieldAt 86 a2 3) w fun a6 w =>
 v1 R (Instr.loadAt 3 a6) w fun a7 w =>
 v1 R (Instr.fieldAt 86 a2 1) w fun a8 w =>
 v1 R (Instr.loadAt 9 a8) w fun a9 w =>
 v1 R (Instr.build 47 #[(0, (.int .i64 6)), (1, a7), (3, a9)]) w fun a10 w =>
 v1 R (Instr.box 47 a10) w fun a11 w =>
 up R (Nc a5) w fun a12 w =>
 v1 R (Instr.fieldAt 43 a12 3) w fun a13 w =>
 u1 R (Instr.storeAt 41 a13 a11) w fun w =>
 R (.returned (.tuple #[])) w
theorem s103 {R : Ending → World → Prop} {a0 a1 : Value} {w : World} (h : S103 R a0 a1 w) : Calls Tryz.prog 103 #[a0, a1] w R :=
  calls_of [] mixed Tryz.func103 (c := codeB Tryz.f103) (by kernel_rfl) (Nat.le_of_ble_eq_true (by kernel_rfl)) (cast (by kernel_rfl) h)
def S104 (R : Ending → World → Prop) (a0 : Value) (w : World) : Prop :=
 v1 R (Instr.alloc 86 true (.tuple #[])) w fun a2 w =>
 J0 (fun k1 =>
 cf R 31 #[a0] w fun a4 w =>
 v1 R (Instr.field 86 a4 0) w fun a5 w =>
 v1 R (Bo .neq 3 false true a5 (.int .i64 1)) w fun a6 w =>
 If a6 (
 cf R 32 #[a0, (.int .i64 4)] w fun a8 w =>
 k1 w) (
 k1 w)) (fun w =>
 cf R 107 #[a0] w fun a10 w =>
 u1 R (Instr.storeAt 86 a2 a10) w fun w =>
 ∃ v0, (Instr.loadAt 86 a2).run Tryz.prog w = .ok v0 w ∧ R (.returned v0) w)
theorem s104 {R : Ending → World → Prop} {a0 : Value} {w : World} (h : S104 R a0 w) : Calls Tryz.prog 104 #[a0] w R :=
  calls_of [] mixed Tryz.func104 (c := codeB Tryz.f104) (by kernel_rfl) (Nat.le_of_ble_eq_true (by kernel_rfl)) (cast (by kernel_rfl) h)
theorem cf104 : CfT 104 := CfT.mk Tryz.func104 (c := codeB Tryz.f104) (by kernel_rfl) (by kernel_rfl)
def S105 (R : Ending → World → Prop) (a0 a1 : Value) (w : World) : Prop :=
 D0J (fun k1 =>
 V1 Tryz.prog (Instr.buildSlice 45 1 #[(0, a1)]) w (fun a7 w =>
 Cf Tryz.prog 99 #[a0, a7] w (fun a8 w =>
 V1 Tryz.prog (Op.unary .not a8) w (fun a9 w =>
 If a9 (
 Cf Tryz.prog 32 #[a0, (.int .i64 4)] w (fun a11 w =>
 k1 ([] : List Deferred) w) (pnD Tryz.prog (r1 (.slice none 0 0)) R ([] : List Deferred))) (
 k1 ([] : List Deferred) w)) (pnD Tryz.prog (r1 (.slice none 0 0)) R ([] : List Deferred))) (pnD Tryz.prog (r1 (.slice none 0 0)) R ([] : List Deferred))) (pnD Tryz.prog (r1 (.slice none 0 0)) R ([] : List Deferred))) (fun ds1 w =>
 Cf Tryz.prog 159 #[a0] w (fun a13 w =>
 D1 Tryz.prog (Deferred.ofValue a13 #[]) w (fun df1 w =>
 Cf Tryz.prog 107 #[a0] w (fun a15 w =>
 Cf Tryz.prog 30 #[a0] w (fun a17 w =>
 Lv Tryz.prog (r1 a17) R (df1 :: ds1) .returning w) (pnD Tryz.prog (r1 (.slice none 0 0)) R (df1 :: ds1))) (pnD Tryz.prog (r1 (.slice none 0 0)) R (df1 :: ds1))) (pnD Tryz.prog (r1 (.slice none 0 0)) R ds1)) (pnD Tryz.prog (r1 (.slice none 0 0)) R ds1))
theorem s105 {R : Ending → World → Prop} {a0 a1 : Value} {w : World} (h : S105 R a0 a1 w) : Calls Tryz.prog 105 #[a0, a1] w R :=
  calls_ofD [] mixed Tryz.func105 (c := codeB Tryz.f105) (by kernel_rfl) (Nat.le_of_ble_eq_true (by kernel_rfl)) (cast (by kernel_rfl) h)
theorem cf105 : CfT 105 := CfT.mk Tryz.func105 (c := codeB Tryz.f105) (by kernel_rfl) (by kernel_rfl)
def S106 (R : Ending → World → Prop) (a0 a1 : Value) (w : World) : Prop :=
 J0 (fun k1 =>
 v1 R (Instr.buildSlice 45 1 #[(0, a1)]) w fun a7 w =>
 cf R 99 #[a0, a7] w fun a8 w =>
 v1 R (Op.unary .not a8) w fun a9 w =>
 If a9 (
 cf R 32 #[a0, (.int .i64 4)] w fun a11 w =>
 k1 w) (
 k1 w)) (fun w =>
 cf R 107 #[a0] w fun a13 w =>
 v1 R (Instr.field 86 a13 3) w fun a14 w =>
 R (.returned a14) w)
theorem s106 {R : Ending → World → Prop} {a0 a1 : Value} {w : World} (h : S106 R a0 a1 w) : Calls Tryz.prog 106 #[a0, a1] w R :=
  calls_of [] mixed Tryz.func106 (c := codeB Tryz.f106) (by kernel_rfl) (Nat.le_of_ble_eq_true (by kernel_rfl)) (cast (by kernel_rfl) h)
theorem cf106 : CfT 106 := CfT.mk Tryz.func106 (c := codeB Tryz.f106) (by kernel_rfl) (by kernel_rfl)
def S107 (R : Ending → World → Prop) (a0 : Value) (w : World) : Prop :=
 v1 R (Instr.alloc 86 true (.tuple #[])) w fun a2 w =>
 up R (Nc a0) w fun a5 w =>
 v1 R (Instr.fieldAt 83 a5 0) w fun a6 w =>
 v1 R (Instr.loadAt 73 a6) w fun a7 w =>
 v1 R (Instr.indexAt 73 a7 (.int .i64 0)) w fun a8 w =>
 v1 R (Instr.loadAt 86 a8) w fun a9 w =>
 v1 R (Instr.alloc 86 true (.tuple #[])) w fun a3 w =>
 u1 R (Instr.storeAt 86 a3 a9) w fun w =>
 J0 (fun k1 =>
 up R (Nc a0) w fun a11 w =>
 v1 R (Instr.fieldAt 83 a11 0) w fun a12 w =>
 v1 R (Instr.loadAt 73 a12) w fun a13 w =>
 v1 R (Builtin.len_ #[73] 3 #[a13]) w fun a14 w =>
 v1 R (Bo .gtr 3 false true a14 (.int .i64 1)) w fun a15 w =>
 If a15 (
 up R (Nc a0) w fun a18 w =>
 v1 R (Instr.fieldAt 83 a18 0) w fun a19 w =>
 v1 R (Instr.loadAt 73 a19) w fun a20 w =>
 v1 R (Instr.sliceAt 73 a20 (some (.int .i64 1)) none none) w fun a21 w =>
 up R (Nc a0) w fun a22 w =>
 v1 R (Instr.fieldAt 83 a22 0) w fun a23 w =>
 u1 R (Instr.storeAt 73 a23 a21) w fun w =>
 k1 w) (
 k1 w)) (fun w =>
 v1 R (Instr.loadAt 86 a3) w fun a24 w =>
 u1 R (Instr.storeAt 86 a2 a24) w fun w =>
 ∃ v0, (Instr.loadAt 86 a2).run Tryz.prog w = .ok v0 w ∧ R (.returned v0) w)
theorem s107 {R : Ending → World → Prop} {a0 : Value} {w : World} (h : S107 R a0 w) : Calls Tryz.prog 107 #[a0] w R :=
  calls_of [] mixed Tryz.func107 (c := codeB Tryz.f107) (by kernel_rfl) (Nat.le_of_ble_eq_true (by kernel_rfl)) (cast (by kernel_rfl) h)
theorem cf107 : CfT 107 := CfT.mk Tryz.func107 (c := codeB Tryz.f107) (by kernel_rfl) (by kernel_rfl)
def S108 (R : Ending → World → Prop) (a0 a1 : Value) (w : World) : Prop :=
 P2 (fun j1 =>
 cf R 162 #[a0] w fun a9 w =>
 cf R 31 #[a0] w fun a11 w =>
 v1 R (Instr.alloc 86 true (.tuple #[])) w fun a6 w =>
 u1 R (Instr.storeAt 86 a6 a11) w fun w =>
 ∃ C1 : World → Prop, C1 w.drew ∧
 xq C1 (Nc a0) fun a13 => xv C1 (Instr.fieldAt 83 a13 1) fun a14 => xv C1 (Instr.loadAt 80 a14) fun a15 => xv C1 (Instr.fieldAt 86 a6 1) fun a16 => xv C1 (Instr.loadAt 9 a16) fun a17 => xv C1 (Instr.lookup 80 a15 a17 false) fun a18 => ∀ w, C1 w → v1 R (Instr.fieldAt 86 a6 0) w fun a19 w =>
 v1 R (Instr.loadAt 3 a19) w fun a20 w =>
 v1 R (Bo .neq 3 false true a20 (.int .i64 4)) w fun a21 w =>
 J1 (fun k1 =>
 Gd a21 false (v1 R (Bo .leq 3 false false a18 a1) w fun a25 w =>
 k1 a25 w) (k1 undef w)) (fun a25_1 w =>
 v1 R (Pk a21 (.bool true) a25_1) w fun a26 w =>
 If a26 (
 up R (Nc a0) w fun a28 w =>
 v1 R (Instr.fieldAt 83 a28 3) w fun a29 w =>
 u1 R (Instr.storeAt 4 a29 (.bool false)) w fun w =>
 R (.returned a9) w) (
 cf R 163 #[a0, a9, a18] w fun a34 w =>
 j1 (.pointer none) a34 w))) (fun j1 a4 a5 w =>
 cf R 31 #[a0] w fun a11_1 w =>
 v1 R (Instr.alloc 86 true (.tuple #[])) w fun a6_1 w =>
 u1 R (Instr.storeAt 86 a6_1 a11_1) w fun w =>
 ∃ C2 : World → Prop, C2 w.drew ∧
 xq C2 (Nc a0) fun a13_1 => xv C2 (Instr.fieldAt 83 a13_1 1) fun a14_1 => xv C2 (Instr.loadAt 80 a14_1) fun a15_1 => xv C2 (Instr.fieldAt 86 a6_1 1) fun a16_1 => xv C2 (Instr.loadAt 9 a16_1) fun a17_1 => xv C2 (Instr.lookup 80 a15_1 a17_1 false) fun a18_1 => ∀ w, C2 w → v1 R (Instr.fieldAt 86 a6_1 0) w fun a19_1 w =>
 v1 R (Instr.loadAt 3 a19_1) w fun a20_1 w =>
 v1 R (Bo .neq 3 false true a20_1 (.int .i64 4)) w fun a21_1 w =>
 J1 (fun k2 =>
 Gd a21_1 false (v1 R (Bo .leq 3 false false a18_1 a1) w fun a25_2 w =>
 k2 a25_2 w) (k2 undef w)) (fun a25_3 w =>
 v1 R (Pk a21_1 (.bool true) a25_3) w fun a26_1 w =>
 If a26_1 (
 up R (Nc a0) w fun a28_1 w =>
 v1 R (Instr.fieldAt 83 a28_1 3) w fun a29_1 w =>
 u1 R (Instr.storeAt 4 a29_1 (.bool false)) w fun w =>
 R (.returned a5) w) (
 cf R 163 #[a0, a5, a18_1] w fun a34_1 w =>
 j1 a4 a34_1 w)))
theorem s108 {R : Ending → World → Prop} {a0 a1 : Value} {w : World} (h : S108 R a0 a1 w) : Calls Tryz.prog 108 #[a0, a1] w R :=
  calls_of [] mixed Tryz.func108 (c := codeB Tryz.f108) (by kernel_rfl) (Nat.le_of_ble_eq_true (by kernel_rfl)) (cast (by kernel_rfl) h)
theorem cf108 : CfT 108 := CfT.mk Tryz.func108 (c := codeB Tryz.f108) (by kernel_rfl) (by kernel_rfl)
def S109 (R : Ending → World → Prop) (a0 a1 : Value) (w : World) : Prop :=
 cf R 108 #[a0, (.int .i64 0)] w fun a8 w =>
 up R (Nc a1) w fun a9 w =>
 v1 R (Instr.fieldAt 43 a9 0) w fun a10 w =>
 u1 R (Instr.storeAt 3 a10 (.int .i64 6)) w fun w =>
 up R (Nc a1) w fun a11 w =>
 v1 R (Instr.fieldAt 43 a11 4) w fun a12 w =>
 u1 R (Instr.storeAt 41 a12 a8) w fun w =>
 cf R 105 #[a0, (.string ⟨#[116, 104, 101, 110]⟩)] w fun a15 w =>
 up R (Nc a1) w fun a16 w =>
 v1 R (Instr.fieldAt 43 a16 6) w fun a17 w =>
 u1 R (Instr.storeAt 26 a17 a15) w fun w =>
 v1 R (Instr.buildSlice 45 1 #[(0, (.string ⟨#[101, 108, 115, 101, 105, 102]⟩))]) w fun a20 w =>
 cf R 99 #[a0, a20] w fun a21 w =>
 If a21 (
 cf R 107 #[a0] w fun a23 w =>
 v1 R (Instr.field 86 a23 3) w fun a24 w =>
 v1 R (Instr.build 43 #[(1, a24)]) w fun a25 w =>
 v1 R (Instr.box 43 a25) w fun a26 w =>
 cf R 109 #[a0, a26] w fun a29 w =>
 v1 R (Instr.buildSlice 26 1 #[(0, a26)]) w fun a32 w =>
 up R (Nc a1) w fun a33 w =>
 v1 R (Instr.fieldAt 43 a33 7) w fun a34 w =>
 u1 R (Instr.storeAt 26 a34 a32) w fun w =>
 R (.returned (.tuple #[])) w) (
 v1 R (Instr.buildSlice 45 1 #[(0, (.string ⟨#[101, 108, 115, 101]⟩))]) w fun a37 w =>
 cf R 99 #[a0, a37] w fun a38 w =>
 If a38 (
 cf R 105 #[a0, (.string ⟨#[101, 108, 115, 101]⟩)] w fun a41 w =>
 up R (Nc a1) w fun a42 w =>
 v1 R (Instr.fieldAt 43 a42 7) w fun a43 w =>
 u1 R (Instr.storeAt 26 a43 a41) w fun w =>
 R (.returned (.tuple #[])) w) (
 R (.returned (.tuple #[])) w))
theorem s109 {R : Ending → World → Prop} {a0 a1 : Value} {w : World} (h : S109 R a0 a1 w) : Calls Tryz.prog 109 #[a0, a1] w R :=
  calls_of [] mixed Tryz.func109 (c := codeB Tryz.f109) (by kernel_rfl) (Nat.le_of_ble_eq_true (by kernel_rfl)) (cast (by kernel_rfl) h)
theorem cf109 : CfT 109 := CfT.mk Tryz.func109 (c := codeB Tryz.f109) (by kernel_rfl) (by kernel_rfl)
def S110 (R : Ending → World → Prop) (a0 a1 : Value) (w : World) : Prop :=
 D0J (fun k1 =>
 V1 Tryz.prog (Instr.buildSlice 45 1 #[(0, (.string ⟨#[99, 97, 116, 99, 104]⟩))]) w (fun a5 w =>
 Cf Tryz.prog 99 #[a0, a5] w (fun a6 w =>
 V1 Tryz.prog (Op.unary .not a6) w (fun a7 w =>
 If a7 (
 Cf Tryz.prog 32 #[a0, (.int .i64 4)] w (fun a9 w =>
 k1 ([] : List Deferred) w) (pnD Tryz.prog (r1 (.tuple #[])) R ([] : List Deferred))) (
 k1 ([] : List Deferred) w)) (pnD Tryz.prog (r1 (.tuple #[])) R ([] : List Deferred))) (pnD Tryz.prog (r1 (.tuple #[])) R ([] : List Deferred))) (pnD Tryz.prog (r1 (.tuple #[])) R ([] : List Deferred))) (fun ds1 w =>
 Cf Tryz.prog 159 #[a0] w (fun a11 w =>
 D1 Tryz.prog (Deferred.ofValue a11 #[]) w (fun df1 w =>
 Cf Tryz.prog 107 #[a0] w (fun a13 w =>
 Cf Tryz.prog 104 #[a0] w (fun a16 w =>
 V1 Tryz.prog (Instr.field 86 a16 1) w (fun a17 w =>
 Up Tryz.prog (Nc a1) w (fun a18 w =>
 V1 Tryz.prog (Instr.fieldAt 43 a18 2) w (fun a19 w =>
 U1 Tryz.prog (Instr.storeAt 9 a19 a17) w (fun w =>
 Cf Tryz.prog 30 #[a0] w (fun a22 w =>
 Up Tryz.prog (Nc a1) w (fun a23 w =>
 V1 Tryz.prog (Instr.fieldAt 43 a23 7) w (fun a24 w =>
 U1 Tryz.prog (Instr.storeAt 26 a24 a22) w (fun w =>
 Lv Tryz.prog (r1 (.tuple #[])) R (df1 :: ds1) .returning w) (pnD Tryz.prog (r1 (.tuple #[])) R (df1 :: ds1))) (pnD Tryz.prog (r1 (.tuple #[])) R (df1 :: ds1))) (pnD Tryz.prog (r1 (.tuple #[])) R (df1 :: ds1))) (pnD Tryz.prog (r1 (.tuple #[])) R (df1 :: ds1))) (pnD Tryz.prog (r1 (.tuple #[])) R (df1 :: ds1))) (pnD Tryz.prog (r1 (.tuple #[])) R (df1 :: ds1))) (pnD Tryz.prog (r1 (.tuple #[])) R (df1 :: ds1))) (pnD Tryz.prog (r1 (.tuple #[])) R (df1 :: ds1))) (pnD Tryz.prog (r1 (.tuple #[])) R (df1 :: ds1))) (pnD Tryz.prog (r1 (.tuple #[])) R (df1 :: ds1))) (pnD Tryz.prog (r1 (.tuple #[])) R ds1)) (pnD Tryz.prog (r1 (.tuple #[])) R ds1))
theorem s110 {R : Ending → World → Prop} {a0 a1 : Value} {w : World} (h : S110 R a0 a1 w) : Calls Tryz.prog 110 #[a0, a1] w R :=
  calls_ofD [] mixed Tryz.func110 (c := codeB Tryz.f110) (by kernel_rfl) (Nat.le_of_ble_eq_true (by kernel_rfl)) (cast (by kernel_rfl) h)
theorem cf110 : CfT 110 := CfT.mk Tryz.func110 (c := codeB Tryz.f110) (by kernel_rfl) (by kernel_rfl)
def S156 (R : Ending → World → Prop) (a0 : Value) (w : World) : Prop :=
 v1 R (Instr.box 79 a0) w fun a1 w =>
 v1 R (Instr.loadAt 79 a1) w fun a8 w =>
 v1 R (Instr.buildSlice 45 1 #[(0, (.string ⟨#[40]⟩))]) w fun a9 w =>
 cf R 99 #[a8, a9] w fun a10 w =>
 v1 R (Instr.loadAt 79 a1) w fun a11 w =>
 cf R 199 #[a11] w fun a12 w =>
 L3 a12 (.pointer none) a10 w (fun g1 a4 a2 a3 w =>
 J2 (fun k1 =>
 v1 R (Instr.loadAt 79 a1) w fun a19 w =>
 v1 R (Instr.buildSlice 45 1 #[(0, (.string ⟨#[91]⟩))]) w fun a20 w =>
 cf R 99 #[a19, a20] w fun a21 w =>
 If a21 (
 v1 R (Instr.loadAt 79 a1) w fun a22 w =>
 cf R 200 #[a22, a4] w fun a24 w =>
 k1 a24 a2 w) (
 v1 R (Instr.loadAt 79 a1) w fun a26 w =>
 v1 R (Instr.buildSlice 45 1 #[(0, (.string ⟨#[46]⟩))]) w fun a27 w =>
 cf R 99 #[a26, a27] w fun a28 w =>
 If a28 (
 v1 R (Instr.loadAt 79 a1) w fun a29 w =>
 cf R 107 #[a29] w fun a30 w =>
 v1 R (Instr.field 86 a30 3) w fun a31 w =>
 v1 R (Instr.loadAt 79 a1) w fun a32 w =>
 cf R 104 #[a32] w fun a33 w =>
 v1 R (Instr.alloc 86 true (.tuple #[])) w fun a6 w =>
 u1 R (Instr.storeAt 86 a6 a33) w fun w =>
 v1 R (Instr.fieldAt 86 a6 3) w fun a36 w =>
 v1 R (Instr.loadAt 3 a36) w fun a37 w =>
 v1 R (Instr.fieldAt 86 a6 1) w fun a38 w =>
 v1 R (Instr.loadAt 9 a38) w fun a39 w =>
 v1 R (Instr.build 47 #[(0, (.int .i64 5)), (1, a37), (3, a39)]) w fun a40 w =>
 v1 R (Instr.box 47 a40) w fun a41 w =>
 v1 R (Instr.build 47 #[(0, (.int .i64 7)), (1, a31), (4, a4), (5, a41)]) w fun a42 w =>
 v1 R (Instr.box 47 a42) w fun a43 w =>
 k1 a43 a2 w) (
 v1 R (Instr.loadAt 79 a1) w fun a45 w =>
 v1 R (Instr.buildSlice 45 1 #[(0, (.string ⟨#[40]⟩))]) w fun a46 w =>
 cf R 99 #[a45, a46] w fun a47 w =>
 If a47 (
 v1 R (Instr.build 47 #[(0, (.int .i64 8)), (4, a4)]) w fun a49 w =>
 v1 R (Instr.box 47 a49) w fun a50 w =>
 v1 R (Instr.alloc 41 true (.tuple #[])) w fun a7 w =>
 u1 R (Instr.storeAt 41 a7 a50) w fun w =>
 ∃ S1 : World → Prop, S1 w.drew ∧
 xw S1 (Instr.loadAt 41 a7) fun a51 => xw S1 (Instr.loadAt 79 a1) fun a52 => xw t0 (Instr.makeFunc (.func 201) #[] #[a7, a1]) fun a53 => cf R 160 #[a52, (.string ⟨#[40]⟩), (.string ⟨#[41]⟩), a53] w.drew fun a54 w =>
 S1 w ∧ xs t0 (Nc a51) fun a55 => xw t0 (Instr.fieldAt 47 a55 1) fun a56 => u1 R (Instr.storeAt 3 a56 a54) w fun w =>
 v1 R (Instr.loadAt 41 a7) w fun a57 w =>
 k1 a57 a2 w) (
 v1 R (Instr.loadAt 79 a1) w fun a13 w =>
 up R (Nc a13) w fun a15 w =>
 v1 R (Instr.fieldAt 83 a15 3) w fun a16 w =>
 u1 R (Instr.storeAt 4 a16 a3) w fun w =>
 R (.returned a4) w)))) (fun a4_1 a2_1 w =>
 g1 a4_1 a2_1 (.bool false) w))
theorem s156 {R : Ending → World → Prop} {a0 : Value} {w : World} (h : S156 R a0 w) : Calls Tryz.prog 156 #[a0] w R :=
  calls_of [14] mixed Tryz.func156 (c := codeB Tryz.f156) (by kernel_rfl) (Nat.le_of_ble_eq_true (by kernel_rfl)) (cast (by kernel_rfl) h)
theorem cf156 : CfT 156 := CfT.mk Tryz.func156 (c := codeB Tryz.f156) (by kernel_rfl) (by kernel_rfl)
def S157 (R : Ending → World → Prop) (a0 a1 : Value) (w : World) : Prop :=
 ∃ S1 : World → Prop, S1 w.drew ∧
 xw S1 (Instr.loadAt 40 a1) fun a2 => xw S1 (Instr.loadAt 79 a0) fun a3 => cf R 104 #[a3] w.drew fun a4 w =>
 S1 w ∧ xw t0 (Instr.field 86 a4 1) fun a5 => xs t0 (Nc a2) fun a6 => xw t0 (Instr.fieldAt 43 a6 2) fun a7 => u1 R (Instr.storeAt 9 a7 a5) w fun w =>
 R (.returned (.tuple #[])) w
theorem s157 {R : Ending → World → Prop} {a0 a1 : Value} {w : World} (h : S157 R a0 a1 w) : Calls Tryz.prog 157 #[a0, a1] w R :=
  calls_of [0] mixed Tryz.func157 (c := codeB Tryz.f157) (by kernel_rfl) (Nat.le_of_ble_eq_true (by kernel_rfl)) (cast (by kernel_rfl) h)
def S158 (R : Ending → World → Prop) (a0 a1 : Value) (w : World) : Prop :=
 v1 R (Instr.buildSlice 45 1 #[(0, a1)]) w fun a8 w =>
 cf R 99 #[a0, a8] w fun a9 w =>
 J0 (fun k1 =>
 If a9 (
 cf R 107 #[a0] w fun a12 w =>
 k1 w) (
 k1 w)) (fun w =>
 R (.returned a9) w)
theorem s158 {R : Ending → World → Prop} {a0 a1 : Value} {w : World} (h : S158 R a0 a1 w) : Calls Tryz.prog 158 #[a0, a1] w R :=
  calls_of [] mixed Tryz.func158 (c := codeB Tryz.f158) (by kernel_rfl) (Nat.le_of_ble_eq_true (by kernel_rfl)) (cast (by kernel_rfl) h)
theorem cf158 : CfT 158 := CfT.mk Tryz.func158 (c := codeB Tryz.f158) (by kernel_rfl) (by kernel_rfl)
def S159 (R : Ending → World → Prop) (a0 : Value) (w : World) : Prop :=
 v1 R (Instr.box 79 a0) w fun a1 w =>
 v1 R (Instr.loadAt 79 a1) w fun a3 w =>
 up R (Nc a3) w fun a4 w =>
 v1 R (Instr.fieldAt 83 a4 2) w fun a5 w =>
 v1 R (Instr.loadAt 3 a5) w fun a6 w =>
 v1 R (Bo .add 3 false true a6 (.int .i64 1)) w fun a7 w =>
 up R (Nc a3) w fun a8 w =>
 v1 R (Instr.fieldAt 83 a8 2) w fun a9 w =>
 u1 R (Instr.storeAt 3 a9 a7) w fun w =>
 J0 (fun k1 =>
 v1 R (Instr.loadAt 79 a1) w fun a10 w =>
 up R (Nc a10) w fun a11 w =>
 v1 R (Instr.fieldAt 83 a11 2) w fun a12 w =>
 v1 R (Instr.loadAt 3 a12) w fun a13 w =>
 v1 R (Bo .gtr 3 false true a13 (.int .i64 64)) w fun a14 w =>
 If a14 (
 v1 R (Instr.loadAt 79 a1) w fun a15 w =>
 cf R 32 #[a15, (.int .i64 3)] w fun a16 w =>
 k1 w) (
 k1 w)) (fun w =>
 v1 R (Instr.makeFunc (.func 202) #[] #[a1]) w fun a17 w =>
 R (.returned a17) w)
theorem s159 {R : Ending → World → Prop} {a0 : Value} {w : World} (h : S159 R a0 w) : Calls Tryz.prog 159 #[a0] w R :=
  calls_of [] mixed Tryz.func159 (c := codeB Tryz.f159) (by kernel_rfl) (Nat.le_of_ble_eq_true (by kernel_rfl)) (cast (by kernel_rfl) h)
theorem cf159 : CfT 159 := CfT.mk Tryz.func159 (c := codeB Tryz.f159) (by kernel_rfl) (by kernel_rfl)
def S160 (R : Ending → World → Prop) (a0 a1 a2 a3 : Value) (w : World) : Prop :=
 Cf Tryz.prog 159 #[a0] w (fun a12 w =>
 D1 Tryz.prog (Deferred.ofValue a12 #[]) w (fun df1 w =>
 Cf Tryz.prog 106 #[a0, a1] w (fun a15 w =>
 V1 Tryz.prog (Instr.buildSlice 45 1 #[(0, a2)]) w (fun a18 w =>
 Cf Tryz.prog 99 #[a0, a18] w (fun a19 w =>
 V1 Tryz.prog (Op.unary .not a19) w (fun a20 w =>
 D1L a20 (df1 :: ([] : List Deferred)) w (fun g1 a10 ds1 w =>
 If a10 (
 Up Tryz.prog (Cv a3 #[]) w (fun a25 w =>
 Cf Tryz.prog 158 #[a0, (.string ⟨#[44]⟩)] w (fun a23 w =>
 g1 a23 ds1 w) (pnD Tryz.prog (r1 (.int .i64 0)) R ds1)) (pnD Tryz.prog (r1 (.int .i64 0)) R ds1)) (
 Cf Tryz.prog 106 #[a0, a2] w (fun a28 w =>
 Lv Tryz.prog (r1 a15) R ds1 .returning w) (pnD Tryz.prog (r1 (.int .i64 0)) R ds1)))) (pnD Tryz.prog (r1 (.int .i64 0)) R (df1 :: ([] : List Deferred)))) (pnD Tryz.prog (r1 (.int .i64 0)) R (df1 :: ([] : List Deferred)))) (pnD Tryz.prog (r1 (.int .i64 0)) R (df1 :: ([] : List Deferred)))) (pnD Tryz.prog (r1 (.int .i64 0)) R (df1 :: ([] : List Deferred)))) (pnD Tryz.prog (r1 (.int .i64 0)) R ([] : List Deferred))) (pnD Tryz.prog (r1 (.int .i64 0)) R ([] : List Deferred))
theorem s160 {R : Ending → World → Prop} {a0 a1 a2 a3 : Value} {w : World} (h : S160 R a0 a1 a2 a3 w) : Calls Tryz.prog 160 #[a0, a1, a2, a3] w R :=
  calls_ofD [] mixed Tryz.func160 (c := codeB Tryz.f160) (by kernel_rfl) (Nat.le_of_ble_eq_true (by kernel_rfl)) (cast (by kernel_rfl) h)
theorem cf160 : CfT 160 := CfT.mk Tryz.func160 (c := codeB Tryz.f160) (by kernel_rfl) (by kernel_rfl)
def S161 (R : Ending → World → Prop) (a0 a1 : Value) (w : World) : Prop :=
 ∃ S1 : World → Prop, S1 w.drew ∧
 xw S1 (Instr.loadAt 41 a0) fun a2 => xw S1 (Instr.loadAt 41 a0) fun a3 => xs t0 (Nc a3) fun a4 => xw t0 (Instr.fieldAt 47 a4 8) fun a5 => xw S1 (Instr.loadAt 45 a5) fun a6 => xw S1 (Instr.loadAt 79 a1) fun a7 => cf R 104 #[a7] w.drew fun a8 w =>
 S1 w ∧ xw t0 (Instr.field 86 a8 1) fun a9 => v1 R (Instr.buildSlice 45 1 #[(0, a9)]) w fun a10 w =>
 S1 w ∧ v1 R (Builtin.append_ #[45, 45] 45 #[a6, a10]) w fun a11 w =>
 S1 w ∧ xs t0 (Nc a2) fun a12 => xw t0 (Instr.fieldAt 47 a12 8) fun a13 => u1 R (Instr.storeAt 45 a13 a11) w fun w =>
 R (.returned (.tuple #[])) w
theorem s161 {R : Ending → World → Prop} {a0 a1 : Value} {w : World} (h : S161 R a0 a1 w) : Calls Tryz.prog 161 #[a0, a1] w R :=
  calls_of [0] mixed Tryz.func161 (c := codeB Tryz.f161) (by kernel_rfl) (Nat.le_of_ble_eq_true (by kernel_rfl)) (cast (by kernel_rfl) h)
def S162 (R : Ending → World → Prop) (a0 : Value) (w : World) : Prop :=
 V1 Tryz.prog (Instr.buildSlice 45 4 #[(0, (.string ⟨#[110, 111, 116]⟩)), (1, (.string ⟨#[45]⟩)), (2, (.string ⟨#[35]⟩)), (3, (.string ⟨#[126]⟩))]) w (fun a5 w =>
 Cf Tryz.prog 99 #[a0, a5] w (fun a6 w =>
 V1 Tryz.prog (Op.unary .not a6) w (fun a7 w =>
 If a7 (
 Cf Tryz.prog 156 #[a0] w (fun a9 w =>
 Lv Tryz.prog (r1 a9) R ([] : List Deferred) .returning w) (pnD Tryz.prog (r1 (.pointer none)) R ([] : List Deferred))) (
 Cf Tryz.prog 159 #[a0] w (fun a11 w =>
 D1 Tryz.prog (Deferred.ofValue a11 #[]) w (fun df1 w =>
 Cf Tryz.prog 107 #[a0] w (fun a13 w =>
 V1 Tryz.prog (Instr.alloc 86 true (.tuple #[])) w (fun a3 w =>
 U1 Tryz.prog (Instr.storeAt 86 a3 a13) w (fun w =>
 ∃ S1 : World → Prop, S1 w.drew ∧
 xw t0 (Instr.fieldAt 86 a3 3) fun a14 => xw S1 (Instr.loadAt 3 a14) fun a15 => xw t0 (Instr.fieldAt 86 a3 1) fun a16 => xw S1 (Instr.loadAt 9 a16) fun a17 => Cf Tryz.prog 162 #[a0] w.drew (fun a19 w =>
 S1 w ∧ xw t0 (Instr.build 47 #[(0, (.int .i64 10)), (1, a15), (3, a17), (5, a19)]) fun a20 => V1 Tryz.prog (Instr.box 47 a20) w (fun a21 w =>
 Lv Tryz.prog (r1 a21) R (df1 :: ([] : List Deferred)) .returning w) (pnD Tryz.prog (r1 (.pointer none)) R (df1 :: ([] : List Deferred)))) (pnD Tryz.prog (r1 (.pointer none)) R (df1 :: ([] : List Deferred)))) (pnD Tryz.prog (r1 (.pointer none)) R (df1 :: ([] : List Deferred)))) (pnD Tryz.prog (r1 (.pointer none)) R (df1 :: ([] : List Deferred)))) (pnD Tryz.prog (r1 (.pointer none)) R (df1 :: ([] : List Deferred)))) (pnD Tryz.prog (r1 (.pointer none)) R ([] : List Deferred))) (pnD Tryz.prog (r1 (.pointer none)) R ([] : List Deferred)))) (pnD Tryz.prog (r1 (.pointer none)) R ([] : List Deferred))) (pnD Tryz.prog (r1 (.pointer none)) R ([] : List Deferred))) (pnD Tryz.prog (r1 (.pointer none)) R ([] : List Deferred))
theorem s162 {R : Ending → World → Prop} {a0 : Value} {w : World} (h : S162 R a0 w) : Calls Tryz.prog 162 #[a0] w R :=
  calls_ofD [5] mixed Tryz.func162 (c := codeB Tryz.f162) (by kernel_rfl) (Nat.le_of_ble_eq_true (by kernel_rfl)) (cast (by kernel_rfl) h)
theorem cf162 : CfT 162 := CfT.mk Tryz.func162 (c := codeB Tryz.f162) (by kernel_rfl) (by kernel_rfl)
def S163 (R : Ending → World → Prop) (a0 a1 a2 : Value) (w : World) : Prop :=
 Cf Tryz.prog 31 #[a0] w (fun a9 w =>
 V1 Tryz.prog (Instr.field 86 a9 3) w (fun a10 w =>
 Cf Tryz.prog 31 #[a0] w (fun a12 w =>
 V1 Tryz.prog (Instr.field 86 a12 1) w (fun a13 w =>
 V1 Tryz.prog (Instr.build 47 #[(0, (.int .i64 11)), (1, a10), (3, a13), (4, a1)]) w (fun a15 w =>
 V1 Tryz.prog (Instr.box 47 a15) w (fun a16 w =>
 D1J (fun k1 =>
 Up Tryz.prog (Nc a16) w (fun a18 w =>
 V1 Tryz.prog (Instr.fieldAt 47 a18 3) w (fun a19 w =>
 V1 Tryz.prog (Instr.loadAt 9 a19) w (fun a20 w =>
 V1 Tryz.prog (Bo .eql 9 false true a20 (.string ⟨#[46, 46]⟩)) w (fun a21 w =>
 If a21 (
 Cf Tryz.prog 159 #[a0] w (fun a23 w =>
 D1 Tryz.prog (Deferred.ofValue a23 #[]) w (fun df1 w =>
 V1 Tryz.prog (Bo .sub 3 false true a2 (.int .i64 1)) w (fun a25 w =>
 k1 a25 (df1 :: ([] : List Deferred)) w) (pnD Tryz.prog (r1 (.pointer none)) R (df1 :: ([] : List Deferred)))) (pnD Tryz.prog (r1 (.pointer none)) R ([] : List Deferred))) (pnD Tryz.prog (r1 (.pointer none)) R ([] : List Deferred))) (
 k1 a2 ([] : List Deferred) w)) (pnD Tryz.prog (r1 (.pointer none)) R ([] : List Deferred))) (pnD Tryz.prog (r1 (.pointer none)) R ([] : List Deferred))) (pnD Tryz.prog (r1 (.pointer none)) R ([] : List Deferred))) (pnD Tryz.prog (r1 (.pointer none)) R ([] : List Deferred))) (fun a2_1 ds1 w =>
 Cf Tryz.prog 107 #[a0] w (fun a27 w =>
 Cf Tryz.prog 108 #[a0, a2_1] w (fun a31 w =>
 Up Tryz.prog (Nc a16) w (fun a32 w =>
 V1 Tryz.prog (Instr.fieldAt 47 a32 5) w (fun a33 w =>
 U1 Tryz.prog (Instr.storeAt 41 a33 a31) w (fun w =>
 Lv Tryz.prog (r1 a16) R ds1 .returning w) (pnD Tryz.prog (r1 (.pointer none)) R ds1)) (pnD Tryz.prog (r1 (.pointer none)) R ds1)) (pnD Tryz.prog (r1 (.pointer none)) R ds1)) (pnD Tryz.prog (r1 (.pointer none)) R ds1)) (pnD Tryz.prog (r1 (.pointer none)) R ds1))) (pnD Tryz.prog (r1 (.pointer none)) R ([] : List Deferred))) (pnD Tryz.prog (r1 (.pointer none)) R ([] : List Deferred))) (pnD Tryz.prog (r1 (.pointer none)) R ([] : List Deferred))) (pnD Tryz.prog (r1 (.pointer none)) R ([] : List Deferred))) (pnD Tryz.prog (r1 (.pointer none)) R ([] : List Deferred))) (pnD Tryz.prog (r1 (.pointer none)) R ([] : List Deferred))
theorem s163 {R : Ending → World → Prop} {a0 a1 a2 : Value} {w : World} (h : S163 R a0 a1 a2 w) : Calls Tryz.prog 163 #[a0, a1, a2] w R :=
  calls_ofD [] mixed Tryz.func163 (c := codeB Tryz.f163) (by kernel_rfl) (Nat.le_of_ble_eq_true (by kernel_rfl)) (cast (by kernel_rfl) h)
theorem cf163 : CfT 163 := CfT.mk Tryz.func163 (c := codeB Tryz.f163) (by kernel_rfl) (by kernel_rfl)
def S199 (R : Ending → World → Prop) (a0 : Value) (w : World) : Prop :=
 cf R 31 #[a0] w fun a6 w =>
 v1 R (Instr.alloc 86 true (.tuple #[])) w fun a3 w =>
 u1 R (Instr.storeAt 86 a3 a6) w fun w =>
 v1 R (Instr.fieldAt 86 a3 3) w fun a7 w =>
 v1 R (Instr.loadAt 3 a7) w fun a8 w =>
 v1 R (Instr.fieldAt 86 a3 1) w fun a9 w =>
 v1 R (Instr.loadAt 9 a9) w fun a10 w =>
 v1 R (Instr.build 47 #[(1, a8), (3, a10)]) w fun a11 w =>
 v1 R (Instr.box 47 a11) w fun a12 w =>
 J1 (fun k1 =>
 v1 R (Instr.fieldAt 86 a3 0) w fun a13 w =>
 v1 R (Instr.loadAt 3 a13) w fun a14 w =>
 v1 R (Bo .eql 3 false true a14 (.int .i64 1)) w fun a18 w =>
 If a18 (
 up R (Nc a12) w fun a20 w =>
 v1 R (Instr.fieldAt 47 a20 0) w fun a21 w =>
 u1 R (Instr.storeAt 3 a21 (.int .i64 6)) w fun w =>
 k1 (.pointer none) w) (
 v1 R (Bo .eql 3 false true a14 (.int .i64 2)) w fun a23 w =>
 If a23 (
 ∃ S1 : World → Prop, S1 w.drew ∧
 xw t0 (Instr.fieldAt 86 a3 2) fun a27 => xw S1 (Instr.loadAt 2 a27) fun a28 => xs t0 (Nc a12) fun a29 => xw t0 (Instr.fieldAt 47 a29 0) fun a30 => u1 R (Instr.storeAt 3 a30 (.int .i64 4)) w.drew fun w =>
 S1 w ∧ xs t0 (Nc a12) fun a31 => xw t0 (Instr.fieldAt 47 a31 2) fun a32 => u1 R (Instr.storeAt 2 a32 a28) w fun w =>
 xs t0 (Nc a12) fun a33 => xw t0 (Instr.fieldAt 47 a33 3) fun a34 => u1 R (Instr.storeAt 9 a34 (.string ⟨#[]⟩)) w fun w =>
 k1 (.pointer none) w) (
 v1 R (Bo .eql 3 false true a14 (.int .i64 3)) w fun a36 w =>
 If a36 (
 up R (Nc a12) w fun a38 w =>
 v1 R (Instr.fieldAt 47 a38 0) w fun a39 w =>
 u1 R (Instr.storeAt 3 a39 (.int .i64 5)) w fun w =>
 k1 (.pointer none) w) (
 cf R 220 #[a0] w fun a16 w =>
 R (.returned a16) w)))) (fun a2 w =>
 cf R 107 #[a0] w fun a41 w =>
 R (.returned a12) w)
theorem s199 {R : Ending → World → Prop} {a0 : Value} {w : World} (h : S199 R a0 w) : Calls Tryz.prog 199 #[a0] w R :=
  calls_of [8] mixed Tryz.func199 (c := codeB Tryz.f199) (by kernel_rfl) (Nat.le_of_ble_eq_true (by kernel_rfl)) (cast (by kernel_rfl) h)
theorem cf199 : CfT 199 := CfT.mk Tryz.func199 (c := codeB Tryz.f199) (by kernel_rfl) (by kernel_rfl)
def S200 (R : Ending → World → Prop) (a0 a1 : Value) (w : World) : Prop :=
 Cf Tryz.prog 159 #[a0] w (fun a7 w =>
 D1 Tryz.prog (Deferred.ofValue a7 #[]) w (fun df1 w =>
 Cf Tryz.prog 106 #[a0, (.string ⟨#[91]⟩)] w (fun a9 w =>
 Cf Tryz.prog 108 #[a0, (.int .i64 0)] w (fun a12 w =>
 V1 Tryz.prog (Instr.build 47 #[(0, (.int .i64 7)), (1, a9), (4, a1), (5, a12)]) w (fun a13 w =>
 V1 Tryz.prog (Instr.box 47 a13) w (fun a14 w =>
 Cf Tryz.prog 106 #[a0, (.string ⟨#[93]⟩)] w (fun a16 w =>
 Lv Tryz.prog (r1 a14) R (df1 :: ([] : List Deferred)) .returning w) (pnD Tryz.prog (r1 (.pointer none)) R (df1 :: ([] : List Deferred)))) (pnD Tryz.prog (r1 (.pointer none)) R (df1 :: ([] : List Deferred)))) (pnD Tryz.prog (r1 (.pointer none)) R (df1 :: ([] : List Deferred)))) (pnD Tryz.prog (r1 (.pointer none)) R (df1 :: ([] : List Deferred)))) (pnD Tryz.prog (r1 (.pointer none)) R (df1 :: ([] : List Deferred)))) (pnD Tryz.prog (r1 (.pointer none)) R ([] : List Deferred))) (pnD Tryz.prog (r1 (.pointer none)) R ([] : List Deferred))
theorem s200 {R : Ending → World → Prop} {a0 a1 : Value} {w : World} (h : S200 R a0 a1 w) : Calls Tryz.prog 200 #[a0, a1] w R :=
  calls_ofD [] mixed Tryz.func200 (c := codeB Tryz.f200) (by kernel_rfl) (Nat.le_of_ble_eq_true (by kernel_rfl)) (cast (by kernel_rfl) h)
theorem cf200 : CfT 200 := CfT.mk Tryz.func200 (c := codeB Tryz.f200) (by kernel_rfl) (by kernel_rfl)
def S201 (R : Ending → World → Prop) (a0 a1 : Value) (w : World) : Prop :=
 ∃ S1 : World → Prop, S1 w.drew ∧
 xw S1 (Instr.loadAt 41 a0) fun a2 => xw S1 (Instr.loadAt 41 a0) fun a3 => xs t0 (Nc a3) fun a4 => xw t0 (Instr.fieldAt 47 a4 7) fun a5 => xw S1 (Instr.loadAt 44 a5) fun a6 => xw S1 (Instr.loadAt 79 a1) fun a7 => cf R 108 #[a7, (.int .i64 0)] w.drew fun a8 w =>
 S1 w ∧ v1 R (Instr.buildSlice 44 1 #[(0, a8)]) w fun a9 w =>
 S1 w ∧ v1 R (Builtin.append_ #[44, 44] 44 #[a6, a9]) w fun a10 w =>
 S1 w ∧ xs t0 (Nc a2) fun a11 => xw t0 (Instr.fieldAt 47 a11 7) fun a12 => u1 R (Instr.storeAt 44 a12 a10) w fun w =>
 R (.returned (.tuple #[])) w
theorem s201 {R : Ending → World → Prop} {a0 a1 : Value} {w : World} (h : S201 R a0 a1 w) : Calls Tryz.prog 201 #[a0, a1] w R :=
  calls_of [0] mixed Tryz.func201 (c := codeB Tryz.f201) (by kernel_rfl) (Nat.le_of_ble_eq_true (by kernel_rfl)) (cast (by kernel_rfl) h)
def S202 (R : Ending → World → Prop) (a0 : Value) (w : World) : Prop :=
 v1 R (Instr.loadAt 79 a0) w fun a1 w =>
 up R (Nc a1) w fun a2 w =>
 v1 R (Instr.fieldAt 83 a2 2) w fun a3 w =>
 v1 R (Instr.loadAt 3 a3) w fun a4 w =>
 v1 R (Bo .sub 3 false true a4 (.int .i64 1)) w fun a5 w =>
 up R (Nc a1) w fun a6 w =>
 v1 R (Instr.fieldAt 83 a6 2) w fun a7 w =>
 u1 R (Instr.storeAt 3 a7 a5) w fun w =>
 R (.returned (.tuple #[])) w
theorem e202 (R : Ending → World → Prop) (a0 : Value) (w : World) : body Tryz.prog Tryz.f202.ntmps [] Tryz.f202.results.toList (codeB Tryz.f202) [a0] R w = S202 R a0 w := by kernel_rfl
def S220 (R : Ending → World → Prop) (a0 : Value) (w : World) : Prop :=
 V1 Tryz.prog (Instr.box 79 a0) w (fun a1 w =>
 V1 Tryz.prog (Instr.makeMap 80 none) w (fun a7 w =>
 U1 Tryz.prog (Instr.mapUpdate 80 a7 (.string ⟨#[110, 105, 108]⟩) (.int .i64 1)) w (fun w =>
 U1 Tryz.prog (Instr.mapUpdate 80 a7 (.string ⟨#[116, 114, 117, 101]⟩) (.int .i64 2)) w (fun w =>
 U1 Tryz.prog (Instr.mapUpdate 80 a7 (.string ⟨#[102, 97, 108, 115, 101]⟩) (.int .i64 3)) w (fun w =>
 V1 Tryz.prog (Instr.range 80 a7) w (fun a9 w =>
 D1L (.pointer none) ([] : List Deferred) w (fun g1 a2 ds1 w =>
 V1 Tryz.prog (Instr.next a9 false 0) w (fun a10 w =>
 V1 Tryz.prog (Instr.extract a10 0) w (fun a11 w =>
 If a11 (
 V1 Tryz.prog (Instr.entry a9) w (fun a12 w =>
 V1 Tryz.prog (Instr.extract a12 0) w (fun a13 w =>
 V1 Tryz.prog (Instr.extract a12 1) w (fun a14 w =>
 V1 Tryz.prog (Instr.loadAt 79 a1) w (fun a15 w =>
 V1 Tryz.prog (Instr.buildSlice 45 1 #[(0, a13)]) w (fun a17 w =>
 Cf Tryz.prog 99 #[a15, a17] w (fun a18 w =>
 If a18 (
 V1 Tryz.prog (Instr.loadAt 79 a1) w (fun a20 w =>
 Cf Tryz.prog 107 #[a20] w (fun a21 w =>
 V1 Tryz.prog (Instr.field 86 a21 3) w (fun a22 w =>
 V1 Tryz.prog (Instr.build 47 #[(0, a14), (1, a22)]) w (fun a23 w =>
 V1 Tryz.prog (Instr.box 47 a23) w (fun a24 w =>
 Lv Tryz.prog (r1 a24) R ds1 .returning w) (pnD Tryz.prog (r1 a2) R ds1)) (pnD Tryz.prog (r1 a2) R ds1)) (pnD Tryz.prog (r1 a2) R ds1)) (pnD Tryz.prog (r1 a2) R ds1)) (pnD Tryz.prog (r1 a2) R ds1)) (
 g1 a2 ds1 w)) (pnD Tryz.prog (r1 a2) R ds1)) (pnD Tryz.prog (r1 a2) R ds1)) (pnD Tryz.prog (r1 a2) R ds1)) (pnD Tryz.prog (r1 a2) R ds1)) (pnD Tryz.prog (r1 a2) R ds1)) (pnD Tryz.prog (r1 a2) R ds1)) (
 V1 Tryz.prog (Instr.loadAt 79 a1) w (fun a26 w =>
 V1 Tryz.prog (Instr.buildSlice 45 1 #[(0, (.string ⟨#[40]⟩))]) w (fun a27 w =>
 Cf Tryz.prog 99 #[a26, a27] w (fun a28 w =>
 If a28 (
 V1 Tryz.prog (Instr.loadAt 79 a1) w (fun a29 w =>
 Cf Tryz.prog 159 #[a29] w (fun a30 w =>
 D1 Tryz.prog (Deferred.ofValue a30 #[]) w (fun df1 w =>
 V1 Tryz.prog (Instr.loadAt 79 a1) w (fun a31 w =>
 Cf Tryz.prog 107 #[a31] w (fun a32 w =>
 V1 Tryz.prog (Instr.loadAt 79 a1) w (fun a33 w =>
 Cf Tryz.prog 108 #[a33, (.int .i64 0)] w (fun a34 w =>
 V1 Tryz.prog (Instr.loadAt 79 a1) w (fun a35 w =>
 Cf Tryz.prog 106 #[a35, (.string ⟨#[41]⟩)] w (fun a36 w =>
 Lv Tryz.prog (r1 a34) R (df1 :: ds1) .returning w) (pnD Tryz.prog (r1 a2) R (df1 :: ds1))) (pnD Tryz.prog (r1 a2) R (df1 :: ds1))) (pnD Tryz.prog (r1 a2) R (df1 :: ds1))) (pnD Tryz.prog (r1 a2) R (df1 :: ds1))) (pnD Tryz.prog (r1 a2) R (df1 :: ds1))) (pnD Tryz.prog (r1 a2) R (df1 :: ds1))) (pnD Tryz.prog (r1 a2) R ds1)) (pnD Tryz.prog (r1 a2) R ds1)) (pnD Tryz.prog (r1 a2) R ds1)) (
 V1 Tryz.prog (Instr.loadAt 79 a1) w (fun a39 w =>
 V1 Tryz.prog (Instr.buildSlice 45 1 #[(0, (.string ⟨#[102, 117, 110, 99, 116, 105, 111, 110]⟩))]) w (fun a40 w =>
 Cf Tryz.prog 99 #[a39, a40] w (fun a41 w =>
 If a41 (
 V1 Tryz.prog (Instr.loadAt 79 a1) w (fun a42 w =>
 Cf Tryz.prog 102 #[a42, (.func (.func 238) #[] #[])] w (fun a43 w =>
 Lv Tryz.prog (r1 a43) R ds1 .returning w) (pnD Tryz.prog (r1 a2) R ds1)) (pnD Tryz.prog (r1 a2) R ds1)) (
 V1 Tryz.prog (Instr.loadAt 79 a1) w (fun a45 w =>
 V1 Tryz.prog (Instr.buildSlice 45 1 #[(0, (.string ⟨#[123]⟩))]) w (fun a46 w =>
 Cf Tryz.prog 99 #[a45, a46] w (fun a47 w =>
 If a47 (
 V1 Tryz.prog (Instr.build 47 #[(0, (.int .i64 12))]) w (fun a48 w =>
 V1 Tryz.prog (Instr.box 47 a48) w (fun a49 w =>
 V1 Tryz.prog (Instr.alloc 41 true (.tuple #[])) w (fun a6 w =>
 U1 Tryz.prog (Instr.storeAt 41 a6 a49) w (fun w =>
 ∃ S1 : World → Prop, S1 w.drew ∧
 xw S1 (Instr.loadAt 41 a6) fun a50 => xw S1 (Instr.loadAt 79 a1) fun a51 => xw t0 (Instr.makeFunc (.func 239) #[] #[a1, a6]) fun a52 => Cf Tryz.prog 160 #[a51, (.string ⟨#[123]⟩), (.string ⟨#[125]⟩), a52] w.drew (fun a53 w =>
 S1 w ∧ xs t0 (Nc a50) fun a54 => xw t0 (Instr.fieldAt 47 a54 1) fun a55 => U1 Tryz.prog (Instr.storeAt 3 a55 a53) w (fun w =>
 V1 Tryz.prog (Instr.loadAt 41 a6) w (fun a56 w =>
 Lv Tryz.prog (r1 a56) R ds1 .returning w) (pnD Tryz.prog (r1 a2) R ds1)) (pnD Tryz.prog (r1 a2) R ds1)) (pnD Tryz.prog (r1 a2) R ds1)) (pnD Tryz.prog (r1 a2) R ds1)) (pnD Tryz.prog (r1 a2) R ds1)) (pnD Tryz.prog (r1 a2) R ds1)) (pnD Tryz.prog (r1 a2) R ds1)) (
 V1 Tryz.prog (Instr.loadAt 79 a1) w (fun a57 w =>
 Cf Tryz.prog 32 #[a57, (.int .i64 4)] w (fun a58 w =>
 Lv Tryz.prog (r1 (.pointer none)) R ds1 .returning w) (pnD Tryz.prog (r1 a2) R ds1)) (pnD Tryz.prog (r1 a2) R ds1))) (pnD Tryz.prog (r1 a2) R ds1)) (pnD Tryz.prog (r1 a2) R ds1)) (pnD Tryz.prog (r1 a2) R ds1))) (pnD Tryz.prog (r1 a2) R ds1)) (pnD Tryz.prog (r1 a2) R ds1)) (pnD Tryz.prog (r1 a2) R ds1))) (pnD Tryz.prog (r1 a2) R ds1)) (pnD Tryz.prog (r1 a2) R ds1)) (pnD Tryz.prog (r1 a2) R ds1))) (pnD Tryz.prog (r1 a2) R ds1)) (pnD Tryz.prog (r1 a2) R ds1))) (pnD Tryz.prog (r1 (.pointer none)) R ([] : List Deferred))) (pnD Tryz.prog (r1 (.pointer none)) R ([] : List Deferred))) (pnD Tryz.prog (r1 (.pointer none)) R ([] : List Deferred))) (pnD Tryz.prog (r1 (.pointer none)) R ([] : List Deferred))) (pnD Tryz.prog (r1 (.pointer none)) R ([] : List Deferred))) (pnD Tryz.prog (fun w k => False) R ([] : List Deferred))
set_option maxHeartbeats 4000000 in
theorem s220 {R : Ending → World → Prop} {a0 : Value} {w : World} (h : S220 R a0 w) : Calls Tryz.prog 220 #[a0] w R :=
  calls_ofD [16] mixed Tryz.func220 (c := codeB Tryz.f220) (by kernel_rfl) (Nat.le_of_ble_eq_true (by kernel_rfl)) (cast (by kernel_rfl) h)
theorem cf220 : CfT 220 := CfT.mk Tryz.func220 (c := codeB Tryz.f220) (by kernel_rfl) (by kernel_rfl)
def S238 (R : Ending → World → Prop) (w : World) : Prop :=
 R (.returned (.tuple #[])) w
theorem s238 {R : Ending → World → Prop} {w : World} (h : S238 R  w) : Calls Tryz.prog 238 #[] w R :=
  calls_of [] mixed Tryz.func238 (c := codeB Tryz.f238) (by kernel_rfl) (Nat.le_of_ble_eq_true (by kernel_rfl)) (cast (by kernel_rfl) h)
def S239 (R : Ending → World → Prop) (a0 a1 : Value) (w : World) : Prop :=
 v1 R (Instr.loadAt 79 a0) w fun a2 w =>
 v1 R (Instr.loadAt 41 a1) w fun a3 w =>
 cf R 240 #[a2, a3] w fun a4 w =>
 R (.returned (.tuple #[])) w
theorem s239 {R : Ending → World → Prop} {a0 a1 : Value} {w : World} (h : S239 R a0 a1 w) : Calls Tryz.prog 239 #[a0, a1] w R :=
  calls_of [] mixed Tryz.func239 (c := codeB Tryz.f239) (by kernel_rfl) (Nat.le_of_ble_eq_true (by kernel_rfl)) (cast (by kernel_rfl) h)
def S240 (R : Ending → World → Prop) (a0 a1 : Value) (w : World) : Prop :=
 J1 (fun k1 =>
 cf R 31 #[a0] w fun a7 w =>
 v1 R (Instr.alloc 86 true (.tuple #[])) w fun a5 w =>
 u1 R (Instr.storeAt 86 a5 a7) w fun w =>
 v1 R (Instr.fieldAt 86 a5 0) w fun a9 w =>
 v1 R (Instr.loadAt 3 a9) w fun a10 w =>
 v1 R (Bo .eql 3 false true a10 (.int .i64 1)) w fun a11 w =>
 J1 (fun k2 =>
 Gd a11 true (up R (Nc a0) w fun a14 w =>
 v1 R (Instr.fieldAt 83 a14 0) w fun a15 w =>
 v1 R (Instr.loadAt 73 a15) w fun a16 w =>
 v1 R (Builtin.len_ #[73] 3 #[a16]) w fun a17 w =>
 v1 R (Bo .gtr 3 false true a17 (.int .i64 1)) w fun a18 w =>
 k2 a18 w) (k2 undef w)) (fun a18_1 w =>
 v1 R (Pk a11 a18_1 (.bool false)) w fun a19 w =>
 J1 (fun k3 =>
 Gd a19 true (up R (Nc a0) w fun a22 w =>
 v1 R (Instr.fieldAt 83 a22 0) w fun a23 w =>
 v1 R (Instr.loadAt 73 a23) w fun a24 w =>
 v1 R (Instr.indexAt 73 a24 (.int .i64 1)) w fun a25 w =>
 v1 R (Instr.fieldAt 86 a25 0) w fun a26 w =>
 v1 R (Instr.loadAt 3 a26) w fun a27 w =>
 v1 R (Bo .eql 3 false true a27 (.int .i64 4)) w fun a28 w =>
 k3 a28 w) (k3 undef w)) (fun a28_1 w =>
 v1 R (Pk a19 a28_1 (.bool false)) w fun a29 w =>
 J1 (fun k4 =>
 Gd a29 true (up R (Nc a0) w fun a32 w =>
 v1 R (Instr.fieldAt 83 a32 0) w fun a33 w =>
 v1 R (Instr.loadAt 73 a33) w fun a34 w =>
 v1 R (Instr.indexAt 73 a34 (.int .i64 1)) w fun a35 w =>
 v1 R (Instr.fieldAt 86 a35 1) w fun a36 w =>
 v1 R (Instr.loadAt 9 a36) w fun a37 w =>
 v1 R (Bo .eql 9 false true a37 (.string ⟨#[61]⟩)) w fun a38 w =>
 k4 a38 w) (k4 undef w)) (fun a38_1 w =>
 v1 R (Pk a29 a38_1 (.bool false)) w fun a39 w =>
 If a39 (
 cf R 107 #[a0] w fun a41 w =>
 cf R 107 #[a0] w fun a43 w =>
 v1 R (Instr.fieldAt 86 a5 3) w fun a44 w =>
 v1 R (Instr.loadAt 3 a44) w fun a45 w =>
 v1 R (Instr.fieldAt 86 a5 1) w fun a46 w =>
 v1 R (Instr.loadAt 9 a46) w fun a47 w =>
 v1 R (Instr.build 47 #[(0, (.int .i64 5)), (1, a45), (3, a47)]) w fun a48 w =>
 v1 R (Instr.box 47 a48) w fun a49 w =>
 k1 a49 w) (
 v1 R (Instr.buildSlice 45 1 #[(0, (.string ⟨#[91]⟩))]) w fun a52 w =>
 cf R 99 #[a0, a52] w fun a53 w =>
 If a53 (
 cf R 200 #[a0, (.pointer none)] w fun a55 w =>
 up R (Nc a55) w fun a56 w =>
 v1 R (Instr.fieldAt 47 a56 5) w fun a57 w =>
 v1 R (Instr.loadAt 41 a57) w fun a58 w =>
 cf R 106 #[a0, (.string ⟨#[61]⟩)] w fun a60 w =>
 k1 a58 w) (
 k1 (.pointer none) w)))))) (fun a4 w =>
 up R (Nc a1) w fun a63 w =>
 v1 R (Instr.fieldAt 47 a63 6) w fun a64 w =>
 v1 R (Instr.loadAt 44 a64) w fun a65 w =>
 v1 R (Instr.buildSlice 44 1 #[(0, a4)]) w fun a67 w =>
 v1 R (Builtin.append_ #[44, 44] 44 #[a65, a67]) w fun a68 w =>
 up R (Nc a1) w fun a69 w =>
 v1 R (Instr.fieldAt 47 a69 6) w fun a70 w =>
 u1 R (Instr.storeAt 44 a70 a68) w fun w =>
 ∃ S1 : World → Prop, S1 w.drew ∧
 xs t0 (Nc a1) fun a73 => xw t0 (Instr.fieldAt 47 a73 7) fun a74 => xw S1 (Instr.loadAt 44 a74) fun a75 => cf R 108 #[a0, (.int .i64 0)] w.drew fun a77 w =>
 S1 w ∧ v1 R (Instr.buildSlice 44 1 #[(0, a77)]) w fun a78 w =>
 S1 w ∧ v1 R (Builtin.append_ #[44, 44] 44 #[a75, a78]) w fun a79 w =>
 xs t0 (Nc a1) fun a80 => xw t0 (Instr.fieldAt 47 a80 7) fun a81 => u1 R (Instr.storeAt 44 a81 a79) w fun w =>
 R (.returned (.tuple #[])) w)
theorem s240 {R : Ending → World → Prop} {a0 a1 : Value} {w : World} (h : S240 R a0 a1 w) : Calls Tryz.prog 240 #[a0, a1] w R :=
  calls_of [10] mixed Tryz.func240 (c := codeB Tryz.f240) (by kernel_rfl) (Nat.le_of_ble_eq_true (by kernel_rfl)) (cast (by kernel_rfl) h)
theorem cf240 : CfT 240 := CfT.mk Tryz.func240 (c := codeB Tryz.f240) (by kernel_rfl) (by kernel_rfl)
end Go.Proofs.YtoddjlclpnoomaaGreatDoor

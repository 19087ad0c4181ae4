import Derived.IntWalk
import Derived.Shelf.LaysC
import Derived.Shelf.LaysM
import Derived.Shelf.Small.Strs
import Derived.Shelf.Small.Wraps
import Derived.Shelf.Strconv.ErrVarParseInt
import Derived.Shelf.Strconv.Itoa4
import Derived.Shelf.Strconv.ParseIntPublic10
import Derived.Shelf.Strings.Cut
import Derived.Shelf.Strings.Fields
import Derived.Shelf.Strings.Prefix
import Derived.Shelf.Strings.Search3
import Derived.Shelf.Unicode.DecodeLast
import Derived.Test.YtoddjlclpnoomaaGreatDoorProg
import Derived.Test.YtoddjlclpnoomaaGreatDoorV3
set_option linter.unusedVariables false
set_option linter.unusedSimpArgs false
set_option maxRecDepth 100000
namespace Go.Proofs.YtoddjlclpnoomaaGreatDoor
open Go.Sh
def S119 (R : Ending → World → Prop) (a0 : Value) (w : World) : Prop :=
 up R (Nc a0) w fun a3 w =>
 v1 R (Instr.fieldAt 54 a3 0) w fun a4 w =>
 v1 R (Instr.loadAt 52 a4) w fun a5 w =>
 v1 R (Bo .eql 52 false true a5 (.pointer none)) w fun a6 w =>
 If a6 (
 v1 R (Go.convert 52 146 a0) w fun a9 w =>
 cf R 173 #[a9] w fun a10 w =>
 v1 R (Go.convert 146 52 a10) w fun a11 w =>
 up R (Nc a0) w fun a12 w =>
 v1 R (Instr.fieldAt 54 a12 0) w fun a13 w =>
 u1 R (Instr.storeAt 52 a13 a11) w fun w =>
 R (.returned (.tuple #[])) w) (
 up R (Nc a0) w fun a15 w =>
 v1 R (Instr.fieldAt 54 a15 0) w fun a16 w =>
 v1 R (Instr.loadAt 52 a16) w fun a17 w =>
 v1 R (Bo .neq 52 false false a17 a0) w fun a19 w =>
 If a19 (
 False) (
 R (.returned (.tuple #[])) w))
theorem s119 {R : Ending → World → Prop} {a0 : Value} {w : World} (h : S119 R a0 w) : Calls Tryz.prog 119 #[a0] w R :=
  calls_of [] mixed Tryz.func119 (c := codeB Tryz.f119) (by kernel_rfl) (Nat.le_of_ble_eq_true (by kernel_rfl)) (cast (by kernel_rfl) h)
theorem cf119 : CfT 119 := CfT.mk Tryz.func119 (c := codeB Tryz.f119) (by kernel_rfl) (by kernel_rfl)
def S275 (R : Ending → World → Prop) (a0 : Value) (w : World) : Prop :=
 v1 R (Bo .eql 76 false true a0 (.pointer none)) w fun a4 w =>
 If a4 (
 R (.returned .nilIface) w) (
 up R (Nc a0) w fun a6 w =>
 v1 R (Instr.fieldAt 69 a6 0) w fun a7 w =>
 v1 R (Instr.loadAt 23 a7) w fun a8 w =>
 v1 R (Instr.makeInterface 23 a8) w fun a9 w =>
 R (.returned a9) w)
theorem s275 {R : Ending → World → Prop} {a0 : Value} {w : World} (h : S275 R a0 w) : Calls Tryz.prog 275 #[a0] w R :=
  calls_of [] mixed Tryz.func275 (c := codeB Tryz.f275) (by kernel_rfl) (Nat.le_of_ble_eq_true (by kernel_rfl)) (cast (by kernel_rfl) h)
def S292 (R : Ending → World → Prop) (a0 : Value) (w : World) : Prop :=
 up R (Nc a0) w fun a4 w =>
 v1 R (Instr.fieldAt 266 a4 2) w fun a5 w =>
 v1 R (Instr.loadAt 31 a5) w fun a6 w =>
 R (.returned a6) w
theorem s292 {R : Ending → World → Prop} {a0 : Value} {w : World} (h : S292 R a0 w) : Calls Tryz.prog 292 #[a0] w R :=
  calls_of [] mixed Tryz.func292 (c := codeB Tryz.f292) (by kernel_rfl) (Nat.le_of_ble_eq_true (by kernel_rfl)) (cast (by kernel_rfl) h)
def S27 (R : Ending → World → Prop) (a0 : Value) (w : World) : Prop :=
 v1 R (Builtin.len_ #[9] 3 #[a0]) w fun a12 w =>
 v1 R (Bo .gtr 3 false true a12 (.int .i64 32768)) w fun a13 w =>
 If a13 (
 v1 R (Instr.build 69 #[(0, (.int .i64 3))]) w fun a14 w =>
 v1 R (Instr.box 69 a14) w fun a15 w =>
 v1 R (Instr.makeInterface 76 a15) w fun a16 w =>
 R (.returned (.tuple #[(.slice none 0 0), a16])) w) (
 J4 (fun k1 =>
 L5 (.int .i64 0) (.slice none 0 0) .nilIface (.slice none 0 0) a0 w (fun g1 a5 a2 a3 a4 a0_1 w =>
 v1 R (Bo .neq 9 false true a0_1 (.string ⟨#[]⟩)) w fun a18 w =>
 If a18 (
 v1 R (Instr.index 9 a0_1 (.int .i64 0)) w fun a21 w =>
 v1 R (Bo .eql 5 false true a21 (.int .u8 10)) w fun a22 w =>
 If a22 (
 v1 R (Bo .add 3 false true a5 (.int .i64 1)) w fun a24 w =>
 v1 R (Instr.sliceAt 9 a0_1 (some (.int .i64 1)) none none) w fun a26 w =>
 g1 a24 a2 a3 a4 a26 w) (
 v1 R (Instr.index 9 a0_1 (.int .i64 0)) w fun a29 w =>
 cf R 51 #[a29, (.string ⟨#[32, 9, 13]⟩)] w fun a30 w =>
 If a30 (
 v1 R (Instr.sliceAt 9 a0_1 (some (.int .i64 1)) none none) w fun a32 w =>
 g1 a5 a2 a3 a4 a32 w) (
 cf R 52 #[a0_1, (.string ⟨#[45, 45]⟩)] w fun a35 w =>
 If a35 (
 cf R 53 #[a0_1, (.int .u8 10)] w fun a37 w =>
 v1 R (Bo .geq 3 false true a37 (.int .i64 0)) w fun a39 w =>
 If a39 (
 v1 R (Instr.sliceAt 9 a0_1 (some a37) none none) w fun a42 w =>
 g1 a5 a2 a3 a4 a42 w) (
 k1 a5 a2 a3 a4 w)) (
 cf R 54 #[a0_1] w fun a45 w =>
 v1 R (Instr.extract a45 0) w fun a46 w =>
 v1 R (Instr.extract a45 1) w fun a47 w =>
 v1 R (Instr.extract a45 2) w fun a48 w =>
 v1 R (Instr.alloc 86 true (.tuple #[])) w fun a7 w =>
 u1 R (Instr.storeAt 86 a7 a46) w fun w =>
 v1 R (Bo .neq 31 false true a48 .nilIface) w fun a50 w =>
 If a50 (
 v1 R (Instr.alloc 23 true (.tuple #[])) w fun a10 w =>
 v1 R (Instr.makeInterface 116 a10) w fun a52 w =>
 cf R 55 #[a48, a52] w fun a53 w =>
 ∃ S1 : World → Prop, S1 w.drew ∧
 xw S1 (Instr.loadAt 23 a10) fun a54 => xw t0 (Instr.build 69 #[(0, a54), (1, a5)]) fun a56 => v1 R (Instr.box 69 a56) w.drew fun a57 w =>
 S1 w ∧ xw S1 (Instr.makeInterface 76 a57) fun a58 => R (.returned (.tuple #[(.slice none 0 0), a58])) w) (
 v1 R (Instr.fieldAt 86 a7 3) w fun a60 w =>
 u1 R (Instr.storeAt 3 a60 a5) w fun w =>
 v1 R (Instr.loadAt 86 a7) w fun a62 w =>
 v1 R (Instr.buildSlice 73 1 #[(0, a62)]) w fun a63 w =>
 v1 R (Builtin.append_ #[73, 73] 73 #[a4, a63]) w fun a64 w =>
 v1 R (Instr.sliceAt 9 a0_1 (some a47) none none) w fun a67 w =>
 g1 a5 a2 a3 a64 a67 w))))) (
 k1 a5 a2 a3 a4 w))) (fun a5_1 a2_1 a3_1 a4_1 w =>
 v1 R (Instr.build 86 #[(0, (.int .i64 5)), (3, a5_1)]) w fun a70 w =>
 v1 R (Instr.buildSlice 73 1 #[(0, a70)]) w fun a71 w =>
 v1 R (Builtin.append_ #[73, 73] 73 #[a4_1, a71]) w fun a72 w =>
 R (.returned (.tuple #[a72, .nilIface])) w))
theorem s27 {R : Ending → World → Prop} {a0 : Value} {w : World} (h : S27 R a0 w) : Calls Tryz.prog 27 #[a0] w R :=
  calls_of [19] mixed Tryz.func27 (c := codeB Tryz.f27) (by kernel_rfl) (Nat.le_of_ble_eq_true (by kernel_rfl)) (cast (by kernel_rfl) h)
theorem cf27 : CfT 27 := CfT.mk Tryz.func27 (c := codeB Tryz.f27) (by kernel_rfl) (by kernel_rfl)
def S51 (R : Ending → World → Prop) (a0 a1 : Value) (w : World) : Prop :=
 cf R 53 #[a1, a0] w fun a7 w =>
 v1 R (Bo .geq 3 false true a7 (.int .i64 0)) w fun a8 w =>
 R (.returned a8) w
theorem s51 {R : Ending → World → Prop} {a0 a1 : Value} {w : World} (h : S51 R a0 a1 w) : Calls Tryz.prog 51 #[a0, a1] w R :=
  calls_of [] mixed Tryz.func51 (c := codeB Tryz.f51) (by kernel_rfl) (Nat.le_of_ble_eq_true (by kernel_rfl)) (cast (by kernel_rfl) h)
theorem cf51 : CfT 51 := CfT.mk Tryz.func51 (c := codeB Tryz.f51) (by kernel_rfl) (by kernel_rfl)
def S54 (R : Ending → World → Prop) (a0 : Value) (w : World) : Prop :=
 v1 R (Instr.box 9 a0) w fun a1 w =>
 v1 R (Instr.alloc 86 true (.tuple #[])) w fun a2 w =>
 v1 R (Instr.makeFunc (.func 87) #[] #[a1]) w fun a8 w =>
 v1 R (Instr.loadAt 9 a1) w fun a9 w =>
 v1 R (Instr.index 9 a9 (.int .i64 0)) w fun a10 w =>
 cf R 51 #[a10, (.string ⟨#[97, 98, 99, 100, 101, 102, 103, 104, 105, 106, 107, 108, 109, 110, 111, 112, 113, 114, 115, 116, 117, 118, 119, 120, 121, 122, 65, 66, 67, 68, 69, 70, 71, 72, 73, 74, 75, 76, 77, 78, 79, 80, 81, 82, 83, 84, 85, 86, 87, 88, 89, 90, 95]⟩)] w fun a13 w =>
 If a13 (
 v1 R (Instr.loadAt 9 a1) w fun a14 w =>
 cf R 88 #[a14, (.string ⟨#[97, 98, 99, 100, 101, 102, 103, 104, 105, 106, 107, 108, 109, 110, 111, 112, 113, 114, 115, 116, 117, 118, 119, 120, 121, 122, 65, 66, 67, 68, 69, 70, 71, 72, 73, 74, 75, 76, 77, 78, 79, 80, 81, 82, 83, 84, 85, 86, 87, 88, 89, 90, 95, 48, 49, 50, 51, 52, 53, 54, 55, 56, 57]⟩)] w fun a15 w =>
 v1 R (Bo .gtr 3 false true a15 (.int .i64 24)) w fun a17 w =>
 If a17 (
 v1 R (Instr.build 86 #[]) w fun a18 w =>
 v1 R (Instr.makeInterface 23 (.int .i64 14)) w fun a19 w =>
 u1 R (Instr.storeAt 86 a2 a18) w fun w =>
 ∃ v0, (Instr.loadAt 86 a2).run Tryz.prog w = .ok v0 w ∧ R (.returned (.tuple #[v0, (.int .i64 0), a19])) w) (
 v1 R (Instr.loadAt 9 a1) w fun a20 w =>
 v1 R (Instr.sliceAt 9 a20 none (some a15) none) w fun a22 w =>
 cf R 89 #[a22] w fun a23 w =>
 If a23 (
 up R (Cv a8 #[(.int .i64 4), a15]) w fun a26 w =>
 v1 R (Instr.extract a26 0) w fun a27 w =>
 v1 R (Instr.extract a26 1) w fun a28 w =>
 v1 R (Instr.extract a26 2) w fun a29 w =>
 u1 R (Instr.storeAt 86 a2 a27) w fun w =>
 ∃ v0, (Instr.loadAt 86 a2).run Tryz.prog w = .ok v0 w ∧ R (.returned (.tuple #[v0, a28, a29])) w) (
 up R (Cv a8 #[(.int .i64 1), a15]) w fun a32 w =>
 v1 R (Instr.extract a32 0) w fun a33 w =>
 v1 R (Instr.extract a32 1) w fun a34 w =>
 v1 R (Instr.extract a32 2) w fun a35 w =>
 u1 R (Instr.storeAt 86 a2 a33) w fun w =>
 ∃ v0, (Instr.loadAt 86 a2).run Tryz.prog w = .ok v0 w ∧ R (.returned (.tuple #[v0, a34, a35])) w))) (
 cf R 51 #[a10, (.string ⟨#[48, 49, 50, 51, 52, 53, 54, 55, 56, 57]⟩)] w fun a38 w =>
 If a38 (
 v1 R (Instr.loadAt 9 a1) w fun a39 w =>
 cf R 90 #[a39] w fun a40 w =>
 v1 R (Instr.extract a40 0) w fun a41 w =>
 v1 R (Instr.extract a40 1) w fun a42 w =>
 v1 R (Instr.extract a40 2) w fun a43 w =>
 u1 R (Instr.storeAt 86 a2 a41) w fun w =>
 ∃ v0, (Instr.loadAt 86 a2).run Tryz.prog w = .ok v0 w ∧ R (.returned (.tuple #[v0, a42, a43])) w) (
 v1 R (Bo .eql 5 false true a10 (.int .u8 34)) w fun a46 w =>
 If a46 (
 v1 R (Instr.loadAt 9 a1) w fun a47 w =>
 cf R 91 #[a47] w fun a48 w =>
 v1 R (Instr.extract a48 0) w fun a49 w =>
 v1 R (Instr.extract a48 1) w fun a50 w =>
 v1 R (Instr.extract a48 2) w fun a51 w =>
 u1 R (Instr.storeAt 86 a2 a49) w fun w =>
 ∃ v0, (Instr.loadAt 86 a2).run Tryz.prog w = .ok v0 w ∧ R (.returned (.tuple #[v0, a50, a51])) w) (
 v1 R (Instr.loadAt 9 a1) w fun a53 w =>
 v1 R (Builtin.len_ #[9] 3 #[a53]) w fun a54 w =>
 v1 R (Bo .gtr 3 false true a54 (.int .i64 1)) w fun a55 w =>
 J1 (fun k1 =>
 Gd a55 true (v1 R (Instr.loadAt 9 a1) w fun a57 w =>
 v1 R (Instr.sliceAt 9 a57 none (some (.int .i64 2)) none) w fun a58 w =>
 cf R 51 #[(.int .u8 32), a58] w fun a59 w =>
 v1 R (Op.unary .not a59) w fun a60 w =>
 k1 a60 w) (k1 undef w)) (fun a60_1 w =>
 v1 R (Pk a55 a60_1 (.bool false)) w fun a61 w =>
 J1 (fun k2 =>
 Gd a61 true (v1 R (Instr.loadAt 9 a1) w fun a63 w =>
 v1 R (Instr.sliceAt 9 a63 none (some (.int .i64 2)) none) w fun a64 w =>
 cf R 92 #[(.string ⟨#[47, 47, 32, 60, 60, 32, 62, 62, 32, 61, 61, 32, 126, 61, 32, 60, 61, 32, 62, 61, 32, 46, 46]⟩), a64] w fun a65 w =>
 k2 a65 w) (k2 undef w)) (fun a65_1 w =>
 v1 R (Pk a61 a65_1 (.bool false)) w fun a66 w =>
 If a66 (
 up R (Cv a8 #[(.int .i64 4), (.int .i64 2)]) w fun a68 w =>
 v1 R (Instr.extract a68 0) w fun a69 w =>
 v1 R (Instr.extract a68 1) w fun a70 w =>
 v1 R (Instr.extract a68 2) w fun a71 w =>
 u1 R (Instr.storeAt 86 a2 a69) w fun w =>
 ∃ v0, (Instr.loadAt 86 a2).run Tryz.prog w = .ok v0 w ∧ R (.returned (.tuple #[v0, a70, a71])) w) (
 cf R 51 #[a10, (.string ⟨#[43, 45, 42, 37, 38, 124, 126, 60, 62, 61, 46, 44, 40, 41, 91, 93, 123, 125, 35]⟩)] w fun a74 w =>
 If a74 (
 up R (Cv a8 #[(.int .i64 4), (.int .i64 1)]) w fun a76 w =>
 v1 R (Instr.extract a76 0) w fun a77 w =>
 v1 R (Instr.extract a76 1) w fun a78 w =>
 v1 R (Instr.extract a76 2) w fun a79 w =>
 u1 R (Instr.storeAt 86 a2 a77) w fun w =>
 ∃ v0, (Instr.loadAt 86 a2).run Tryz.prog w = .ok v0 w ∧ R (.returned (.tuple #[v0, a78, a79])) w) (
 v1 R (Instr.build 86 #[]) w fun a80 w =>
 v1 R (Instr.makeInterface 23 (.int .i64 14)) w fun a81 w =>
 u1 R (Instr.storeAt 86 a2 a80) w fun w =>
 ∃ v0, (Instr.loadAt 86 a2).run Tryz.prog w = .ok v0 w ∧ R (.returned (.tuple #[v0, (.int .i64 0), a81])) w)))))))
set_option maxHeartbeats 4000000 in
theorem s54 {R : Ending → World → Prop} {a0 : Value} {w : World} (h : S54 R a0 w) : Calls Tryz.prog 54 #[a0] w R :=
  calls_of [] mixed Tryz.func54 (c := codeB Tryz.f54) (by kernel_rfl) (Nat.le_of_ble_eq_true (by kernel_rfl)) (cast (by kernel_rfl) h)
theorem cf54 : CfT 54 := CfT.mk Tryz.func54 (c := codeB Tryz.f54) (by kernel_rfl) (by kernel_rfl)
def S87 (R : Ending → World → Prop) (a0 a1 a2 : Value) (w : World) : Prop :=
 v1 R (Instr.alloc 86 true (.tuple #[])) w fun a5 w =>
 v1 R (Instr.loadAt 9 a2) w fun a9 w =>
 v1 R (Instr.sliceAt 9 a9 none (some a1) none) w fun a11 w =>
 v1 R (Instr.build 86 #[(0, a0), (1, a11)]) w fun a12 w =>
 u1 R (Instr.storeAt 86 a5 a12) w fun w =>
 ∃ v0, (Instr.loadAt 86 a5).run Tryz.prog w = .ok v0 w ∧ R (.returned (.tuple #[v0, a1, .nilIface])) w
theorem s87 {R : Ending → World → Prop} {a0 a1 a2 : Value} {w : World} (h : S87 R a0 a1 a2 w) : Calls Tryz.prog 87 #[a0, a1, a2] w R :=
  calls_of [] mixed Tryz.func87 (c := codeB Tryz.f87) (by kernel_rfl) (Nat.le_of_ble_eq_true (by kernel_rfl)) (cast (by kernel_rfl) h)
def S88 (R : Ending → World → Prop) (a0 a1 : Value) (w : World) : Prop :=
 v1 R (Builtin.len_ #[9] 3 #[a0]) w fun a7 w =>
 L2 (.int .i64 0) (.int .i64 0) w (fun g1 a4 a8 w =>
 v1 R (Bo .lss 3 false false a8 a7) w fun a9 w =>
 If a9 (
 v1 R (Instr.index 9 a0 a8) w fun a13 w =>
 cf R 51 #[a13, a1] w fun a15 w =>
 v1 R (Op.unary .not a15) w fun a16 w =>
 If a16 (
 R (.returned a8) w) (
 v1 R (Bo .add 3 false true a8 (.int .i64 1)) w fun a18 w =>
 g1 a4 a18 w)) (
 v1 R (Builtin.len_ #[9] 3 #[a0]) w fun a20 w =>
 R (.returned a20) w))
theorem s88 {R : Ending → World → Prop} {a0 a1 : Value} {w : World} (h : S88 R a0 a1 w) : Calls Tryz.prog 88 #[a0, a1] w R :=
  calls_of [] mixed Tryz.func88 (c := codeB Tryz.f88) (by kernel_rfl) (Nat.le_of_ble_eq_true (by kernel_rfl)) (cast (by kernel_rfl) h)
theorem cf88 : CfT 88 := CfT.mk Tryz.func88 (c := codeB Tryz.f88) (by kernel_rfl) (by kernel_rfl)
def S89 (R : Ending → World → Prop) (a0 : Value) (w : World) : Prop :=
 v1 R (Bo .neq 9 false true a0 (.string ⟨#[]⟩)) w fun a4 w =>
 J1 (fun k1 =>
 Gd a4 true (cf R 92 #[a0, (.string ⟨#[32]⟩)] w fun a7 w =>
 v1 R (Op.unary .not a7) w fun a8 w =>
 k1 a8 w) (k1 undef w)) (fun a8_1 w =>
 v1 R (Pk a4 a8_1 (.bool false)) w fun a9 w =>
 J1 (fun k2 =>
 Gd a9 true (v1 R (Bo .add 9 true false (.string ⟨#[32]⟩) a0) w fun a12 w =>
 v1 R (Bo .add 9 false true a12 (.string ⟨#[32]⟩)) w fun a13 w =>
 cf R 92 #[(.string ⟨#[32, 97, 110, 100, 32, 98, 114, 101, 97, 107, 32, 99, 97, 116, 99, 104, 32, 100, 111, 32, 101, 108, 115, 101, 32, 101, 108, 115, 101, 105, 102, 32, 101, 110, 100, 32, 102, 97, 108, 115, 101, 32, 102, 111, 114, 32, 102, 117, 110, 99, 116, 105, 111, 110, 32, 105, 102, 32, 108, 111, 99, 97, 108, 32, 110, 105, 108, 32, 110, 111, 116, 32, 111, 114, 32, 114, 101, 116, 117, 114, 110, 32, 116, 104, 101, 110, 32, 116, 114, 117, 101, 32, 116, 114, 121, 32, 119, 104, 105, 108, 101, 32]⟩), a13] w fun a14 w =>
 k2 a14 w) (k2 undef w)) (fun a14_1 w =>
 v1 R (Pk a9 a14_1 (.bool false)) w fun a15 w =>
 R (.returned a15) w))
theorem s89 {R : Ending → World → Prop} {a0 : Value} {w : World} (h : S89 R a0 w) : Calls Tryz.prog 89 #[a0] w R :=
  calls_of [] mixed Tryz.func89 (c := codeB Tryz.f89) (by kernel_rfl) (Nat.le_of_ble_eq_true (by kernel_rfl)) (cast (by kernel_rfl) h)
theorem cf89 : CfT 89 := CfT.mk Tryz.func89 (c := codeB Tryz.f89) (by kernel_rfl) (by kernel_rfl)
def S90 (R : Ending → World → Prop) (a0 : Value) (w : World) : Prop :=
 v1 R (Instr.alloc 86 true (.tuple #[])) w fun a2 w =>
 cf R 88 #[a0, (.string ⟨#[48, 49, 50, 51, 52, 53, 54, 55, 56, 57]⟩)] w fun a9 w =>
 v1 R (Instr.sliceAt 9 a0 none (some a9) none) w fun a13 w =>
 cf R 148 #[a13] w fun a14 w =>
 v1 R (Instr.extract a14 0) w fun a15 w =>
 v1 R (Instr.extract a14 1) w fun a16 w =>
 v1 R (Bo .eql 23 false true a16 (.int .i64 4)) w fun a18 w =>
 J1 (fun k1 =>
 Gd a18 false (v1 R (Builtin.len_ #[9] 3 #[a0]) w fun a22 w =>
 v1 R (Bo .lss 3 false false a9 a22) w fun a23 w =>
 k1 a23 w) (k1 undef w)) (fun a24 w =>
 J1 (fun k2 =>
 Gd a24 true (v1 R (Instr.index 9 a0 a9) w fun a27 w =>
 cf R 51 #[a27, (.string ⟨#[97, 98, 99, 100, 101, 102, 103, 104, 105, 106, 107, 108, 109, 110, 111, 112, 113, 114, 115, 116, 117, 118, 119, 120, 121, 122, 65, 66, 67, 68, 69, 70, 71, 72, 73, 74, 75, 76, 77, 78, 79, 80, 81, 82, 83, 84, 85, 86, 87, 88, 89, 90, 95]⟩)] w fun a28 w =>
 k2 a28 w) (k2 undef w)) (fun a28_1 w =>
 J1 (fun k3 =>
 Gd a18 false (v1 R (Pk a24 a28_1 (.bool false)) w fun a29 w =>
 k3 a29 w) (k3 undef w)) (fun a29_1 w =>
 v1 R (Pk a18 (.bool true) a29_1) w fun a30 w =>
 If a30 (
 v1 R (Instr.build 86 #[]) w fun a31 w =>
 v1 R (Instr.makeInterface 23 (.int .i64 14)) w fun a32 w =>
 u1 R (Instr.storeAt 86 a2 a31) w fun w =>
 ∃ v0, (Instr.loadAt 86 a2).run Tryz.prog w = .ok v0 w ∧ R (.returned (.tuple #[v0, (.int .i64 0), a32])) w) (
 v1 R (Bo .neq 23 false true a16 (.int .i64 0)) w fun a34 w =>
 If a34 (
 v1 R (Instr.build 86 #[]) w fun a35 w =>
 v1 R (Instr.makeInterface 23 a16) w fun a37 w =>
 u1 R (Instr.storeAt 86 a2 a35) w fun w =>
 ∃ v0, (Instr.loadAt 86 a2).run Tryz.prog w = .ok v0 w ∧ R (.returned (.tuple #[v0, (.int .i64 0), a37])) w) (
 v1 R (Instr.sliceAt 9 a0 none (some a9) none) w fun a40 w =>
 v1 R (Instr.build 86 #[(0, (.int .i64 2)), (1, a40), (2, a15)]) w fun a42 w =>
 u1 R (Instr.storeAt 86 a2 a42) w fun w =>
 ∃ v0, (Instr.loadAt 86 a2).run Tryz.prog w = .ok v0 w ∧ R (.returned (.tuple #[v0, a9, .nilIface])) w)))))
theorem s90 {R : Ending → World → Prop} {a0 : Value} {w : World} (h : S90 R a0 w) : Calls Tryz.prog 90 #[a0] w R :=
  calls_of [] mixed Tryz.func90 (c := codeB Tryz.f90) (by kernel_rfl) (Nat.le_of_ble_eq_true (by kernel_rfl)) (cast (by kernel_rfl) h)
theorem cf90 : CfT 90 := CfT.mk Tryz.func90 (c := codeB Tryz.f90) (by kernel_rfl) (by kernel_rfl)
def S91 (R : Ending → World → Prop) (a0 : Value) (w : World) : Prop :=
 v1 R (Instr.alloc 86 true (.tuple #[])) w fun a2 w =>
 cf R 149 #[a0, (.string ⟨#[10]⟩)] w fun a13 w =>
 v1 R (Instr.extract a13 0) w fun a14 w =>
 v1 R (Instr.extract a13 1) w fun a15 w =>
 v1 R (Instr.extract a13 2) w fun a16 w =>
 L3 (.int .i64 0) .nilIface (.int .i64 1) w (fun g1 a3 a4 a8 w =>
 v1 R (Builtin.len_ #[9] 3 #[a14]) w fun a19 w =>
 v1 R (Bo .lss 3 false false a8 a19) w fun a20 w =>
 If a20 (
 J3 (fun k1 =>
 v1 R (Instr.index 9 a14 a8) w fun a25 w =>
 v1 R (Bo .eql 5 false true a25 (.int .u8 34)) w fun a27 w =>
 If a27 (
 v1 R (Bo .add 3 false true a8 (.int .i64 1)) w fun a31 w =>
 v1 R (Instr.sliceAt 9 a14 none (some a31) none) w fun a32 w =>
 cf R 150 #[a32] w fun a33 w =>
 v1 R (Instr.extract a33 0) w fun a34 w =>
 v1 R (Instr.extract a33 1) w fun a35 w =>
 v1 R (Bo .neq 23 false true a35 (.int .i64 0)) w fun a37 w =>
 If a37 (
 v1 R (Instr.build 86 #[]) w fun a38 w =>
 cf R 151 #[a35] w fun a40 w =>
 u1 R (Instr.storeAt 86 a2 a38) w fun w =>
 ∃ v0, (Instr.loadAt 86 a2).run Tryz.prog w = .ok v0 w ∧ R (.returned (.tuple #[v0, (.int .i64 0), a40])) w) (
 v1 R (Instr.build 86 #[(0, (.int .i64 3)), (1, a34)]) w fun a42 w =>
 v1 R (Bo .add 3 false true a8 (.int .i64 1)) w fun a44 w =>
 u1 R (Instr.storeAt 86 a2 a42) w fun w =>
 ∃ v0, (Instr.loadAt 86 a2).run Tryz.prog w = .ok v0 w ∧ R (.returned (.tuple #[v0, a44, .nilIface])) w)) (
 v1 R (Bo .eql 5 false true a25 (.int .u8 92)) w fun a46 w =>
 If a46 (
 v1 R (Bo .add 3 false true a8 (.int .i64 1)) w fun a48 w =>
 k1 a3 a4 a48 w) (
 k1 a3 a4 a8 w))) (fun a3_1 a4_1 a8_1 w =>
 v1 R (Bo .add 3 false true a8_1 (.int .i64 1)) w fun a22 w =>
 g1 a3_1 a4_1 a22 w)) (
 v1 R (Instr.build 86 #[]) w fun a49 w =>
 v1 R (Instr.makeInterface 23 (.int .i64 14)) w fun a50 w =>
 u1 R (Instr.storeAt 86 a2 a49) w fun w =>
 ∃ v0, (Instr.loadAt 86 a2).run Tryz.prog w = .ok v0 w ∧ R (.returned (.tuple #[v0, (.int .i64 0), a50])) w))
theorem s91 {R : Ending → World → Prop} {a0 : Value} {w : World} (h : S91 R a0 w) : Calls Tryz.prog 91 #[a0] w R :=
  calls_of [] mixed Tryz.func91 (c := codeB Tryz.f91) (by kernel_rfl) (Nat.le_of_ble_eq_true (by kernel_rfl)) (cast (by kernel_rfl) h)
theorem cf91 : CfT 91 := CfT.mk Tryz.func91 (c := codeB Tryz.f91) (by kernel_rfl) (by kernel_rfl)
def S112 (R : Ending → World → Prop) (a0 : Value) (w : World) : Prop :=
 cf R 164 #[a0, (.int .i64 10)] w fun a4 w =>
 R (.returned a4) w
theorem s112 {R : Ending → World → Prop} {a0 : Value} {w : World} (h : S112 R a0 w) : Calls Tryz.prog 112 #[a0] w R :=
  calls_of [] mixed Tryz.func112 (c := codeB Tryz.f112) (by kernel_rfl) (Nat.le_of_ble_eq_true (by kernel_rfl)) (cast (by kernel_rfl) h)
theorem cf112 : CfT 112 := CfT.mk Tryz.func112 (c := codeB Tryz.f112) (by kernel_rfl) (by kernel_rfl)
def S148 (R : Ending → World → Prop) (a0 : Value) (w : World) : Prop :=
 cf R 189 #[a0, (.string ⟨#[45]⟩)] w fun a9 w =>
 v1 R (Bo .eql 9 false true a9 (.string ⟨#[]⟩)) w fun a11 w =>
 J1 (fun k1 =>
 Gd a11 false (v1 R (Instr.index 9 a9 (.int .i64 0)) w fun a14 w =>
 v1 R (Bo .eql 5 false true a14 (.int .u8 48)) w fun a15 w =>
 k1 a15 w) (k1 undef w)) (fun a16 w =>
 J1 (fun k2 =>
 Gd a16 true (v1 R (Bo .neq 9 false true a0 (.string ⟨#[48]⟩)) w fun a18 w =>
 k2 a18 w) (k2 undef w)) (fun a18_1 w =>
 J1 (fun k3 =>
 Gd a11 false (v1 R (Pk a16 a18_1 (.bool false)) w fun a19 w =>
 k3 a19 w) (k3 undef w)) (fun a19_1 w =>
 v1 R (Pk a11 (.bool true) a19_1) w fun a20 w =>
 If a20 (
 R (.returned (.tuple #[(.int .i64 0), (.int .i64 4)])) w) (
 v1 R (Builtin.len_ #[9] 3 #[a9]) w fun a22 w =>
 L3 (.int .i64 0) (.int .i64 0) (.int .i64 0) w (fun g1 a2 a3 a23 w =>
 v1 R (Bo .lss 3 false false a23 a22) w fun a24 w =>
 If a24 (
 v1 R (Instr.index 9 a9 a23) w fun a28 w =>
 v1 R (Bo .lss 5 false true a28 (.int .u8 48)) w fun a29 w =>
 J1 (fun k4 =>
 Gd a29 false (v1 R (Instr.index 9 a9 a23) w fun a33 w =>
 v1 R (Bo .gtr 5 false true a33 (.int .u8 57)) w fun a34 w =>
 k4 a34 w) (k4 undef w)) (fun a34_1 w =>
 v1 R (Pk a29 (.bool true) a34_1) w fun a35 w =>
 If a35 (
 R (.returned (.tuple #[(.int .i64 0), (.int .i64 4)])) w) (
 v1 R (Bo .add 3 false true a23 (.int .i64 1)) w fun a36 w =>
 g1 a2 a3 a36 w))) (
 cf R 190 #[a0, (.int .i64 10), (.int .i64 64)] w fun a39 w =>
 v1 R (Instr.extract a39 0) w fun a40 w =>
 v1 R (Instr.extract a39 1) w fun a41 w =>
 v1 R (Instr.loadAt 31 (.pointer (some ⟨4, 0, none⟩))) w fun a43 w =>
 cf R 21 #[a41, a43] w fun a44 w =>
 If a44 (
 R (.returned (.tuple #[(.int .i64 0), (.int .i64 15)])) w) (
 R (.returned (.tuple #[a40, (.int .i64 0)])) w)))))))
theorem s148 {R : Ending → World → Prop} {a0 : Value} {w : World} (h : S148 R a0 w) : Calls Tryz.prog 148 #[a0] w R :=
  calls_of [] mixed Tryz.func148 (c := codeB Tryz.f148) (by kernel_rfl) (Nat.le_of_ble_eq_true (by kernel_rfl)) (cast (by kernel_rfl) h)
theorem cf148 : CfT 148 := CfT.mk Tryz.func148 (c := codeB Tryz.f148) (by kernel_rfl) (by kernel_rfl)
def S150 (R : Ending → World → Prop) (a0 : Value) (w : World) : Prop :=
 P5 (fun j1 =>
 cf R 192 #[a0, (.string ⟨#[34]⟩)] w fun a13 w =>
 v1 R (Instr.extract a13 0) w fun a14 w =>
 v1 R (Instr.extract a13 1) w fun a15 w =>
 cf R 193 #[a14, (.string ⟨#[34]⟩)] w fun a18 w =>
 v1 R (Instr.extract a18 0) w fun a19 w =>
 v1 R (Instr.extract a18 1) w fun a20 w =>
 v1 R (Op.unary .not a15) w fun a22 w =>
 J1 (fun k1 =>
 Gd a22 false (v1 R (Op.unary .not a20) w fun a25 w =>
 k1 a25 w) (k1 undef w)) (fun a25_1 w =>
 v1 R (Pk a22 (.bool true) a25_1) w fun a26 w =>
 If a26 (
 R (.returned (.tuple #[(.string ⟨#[]⟩), (.int .i64 4)])) w) (
 cf R 194 #[] w fun a27 w =>
 v1 R (Bo .eql 9 false true a19 (.string ⟨#[]⟩)) w fun a29 w =>
 If a29 (
 v1 R (Builtin.len_ #[22] 3 #[(.slice none 0 0)]) w fun a31 w =>
 v1 R (Bo .gtr 3 false true a31 (.int .i64 4096)) w fun a32 w =>
 If a32 (
 R (.returned (.tuple #[(.string ⟨#[]⟩), (.int .i64 3)])) w) (
 v1 R (Go.convert 22 9 (.slice none 0 0)) w fun a34 w =>
 R (.returned (.tuple #[a34, (.int .i64 0)])) w)) (
 v1 R (Instr.index 9 a19 (.int .i64 0)) w fun a36 w =>
 J4 (fun k2 =>
 v1 R (Bo .lss 5 false true a36 (.int .u8 32)) w fun a39 w =>
 J1 (fun k3 =>
 Gd a39 false (v1 R (Bo .gtr 5 false true a36 (.int .u8 126)) w fun a42 w =>
 k3 a42 w) (k3 undef w)) (fun a42_1 w =>
 v1 R (Pk a39 (.bool true) a42_1) w fun a43 w =>
 J1 (fun k4 =>
 Gd a43 false (v1 R (Bo .eql 5 false true a36 (.int .u8 34)) w fun a46 w =>
 k4 a46 w) (k4 undef w)) (fun a46_1 w =>
 v1 R (Pk a43 (.bool true) a46_1) w fun a47 w =>
 J1 (fun k5 =>
 Gd a47 false (v1 R (Bo .eql 5 false true a36 (.int .u8 92)) w fun a50 w =>
 k5 a50 w) (k5 undef w)) (fun a51 w =>
 J1 (fun k6 =>
 Gd a51 true (v1 R (Builtin.len_ #[9] 3 #[a19]) w fun a53 w =>
 v1 R (Bo .lss 3 false true a53 (.int .i64 2)) w fun a54 w =>
 k6 a54 w) (k6 undef w)) (fun a54_1 w =>
 J1 (fun k7 =>
 Gd a47 false (v1 R (Pk a51 a54_1 (.bool false)) w fun a55 w =>
 k7 a55 w) (k7 undef w)) (fun a55_1 w =>
 v1 R (Pk a47 (.bool true) a55_1) w fun a56 w =>
 If a56 (
 R (.returned (.tuple #[(.string ⟨#[]⟩), (.int .i64 4)])) w) (
 v1 R (Bo .eql 5 false true a36 (.int .u8 92)) w fun a59 w =>
 J1 (fun k8 =>
 Gd a59 true (v1 R (Instr.index 9 a19 (.int .i64 1)) w fun a62 w =>
 v1 R (Bo .eql 5 false true a62 (.int .u8 120)) w fun a63 w =>
 k8 a63 w) (k8 undef w)) (fun a63_1 w =>
 v1 R (Pk a59 a63_1 (.bool false)) w fun a64 w =>
 If a64 (
 v1 R (Builtin.len_ #[9] 3 #[a19]) w fun a66 w =>
 v1 R (Bo .lss 3 false true a66 (.int .i64 4)) w fun a67 w =>
 J1 (fun k9 =>
 Gd a67 false (v1 R (Instr.index 9 a19 (.int .i64 2)) w fun a70 w =>
 v1 R (Go.convert 5 21 a70) w fun a71 w =>
 cf R 195 #[a71] w fun a72 w =>
 v1 R (Bo .lss 3 false true a72 (.int .i64 0)) w fun a73 w =>
 k9 a73 w) (k9 undef w)) (fun a73_1 w =>
 v1 R (Pk a67 (.bool true) a73_1) w fun a74 w =>
 J1 (fun k10 =>
 Gd a74 false (v1 R (Instr.index 9 a19 (.int .i64 3)) w fun a77 w =>
 v1 R (Go.convert 5 21 a77) w fun a78 w =>
 cf R 195 #[a78] w fun a79 w =>
 v1 R (Bo .lss 3 false true a79 (.int .i64 0)) w fun a80 w =>
 k10 a80 w) (k10 undef w)) (fun a80_1 w =>
 v1 R (Pk a74 (.bool true) a80_1) w fun a81 w =>
 If a81 (
 R (.returned (.tuple #[(.string ⟨#[]⟩), (.int .i64 4)])) w) (
 ∃ C1 : World → Prop, C1 w.drew ∧
 xv C1 (Instr.index 9 a19 (.int .i64 2)) fun a83 => xv C1 (Go.convert 5 21 a83) fun a84 => xq C1 (callFunc 195 #[a84]) fun a85 => xv C1 (Bo .shl 3 false true a85 (.int .u64 4)) fun a86 => xv C1 (Instr.index 9 a19 (.int .i64 3)) fun a88 => xv C1 (Go.convert 5 21 a88) fun a89 => xq C1 (callFunc 195 #[a89]) fun a90 => xv C1 (Bo .or 3 false false a86 a90) fun a91 => xv C1 (Go.convert 3 5 a91) fun a92 => ∀ w, C1 w → k2 a92 (.string ⟨#[]⟩) (.int .i64 0) (.int .i64 4) w)))) (
 v1 R (Bo .eql 5 false true a36 (.int .u8 92)) w fun a95 w =>
 If a95 (
 v1 R (Instr.index 9 a19 (.int .i64 1)) w fun a99 w =>
 v1 R (Instr.lookup 215 a27 a99 true) w fun a100 w =>
 v1 R (Instr.extract a100 0) w fun a101 w =>
 v1 R (Instr.extract a100 1) w fun a102 w =>
 v1 R (Op.unary .not a102) w fun a104 w =>
 If a104 (
 R (.returned (.tuple #[(.string ⟨#[]⟩), (.int .i64 4)])) w) (
 k2 a101 (.string ⟨#[]⟩) (.int .i64 0) (.int .i64 2) w)) (
 k2 a36 (.string ⟨#[]⟩) (.int .i64 0) (.int .i64 1) w)))))))))) (fun a9 a2 a3 a10 w =>
 v1 R (Instr.buildSlice 22 1 #[(0, a9)]) w fun a107 w =>
 v1 R (Builtin.append_ #[22, 22] 22 #[(.slice none 0 0), a107]) w fun a108 w =>
 v1 R (Instr.sliceAt 9 a19 (some a10) none none) w fun a111 w =>
 j1 a27 a2 a3 a108 a111 w))))) (fun j1 a7 a2_1 a3_1 a8 a4 w =>
 v1 R (Bo .eql 9 false true a4 (.string ⟨#[]⟩)) w fun a29_1 w =>
 If a29_1 (
 v1 R (Builtin.len_ #[22] 3 #[a8]) w fun a31_1 w =>
 v1 R (Bo .gtr 3 false true a31_1 (.int .i64 4096)) w fun a32_1 w =>
 If a32_1 (
 R (.returned (.tuple #[(.string ⟨#[]⟩), (.int .i64 3)])) w) (
 v1 R (Go.convert 22 9 a8) w fun a34_1 w =>
 R (.returned (.tuple #[a34_1, (.int .i64 0)])) w)) (
 v1 R (Instr.index 9 a4 (.int .i64 0)) w fun a36_1 w =>
 J4 (fun k11 =>
 v1 R (Bo .lss 5 false true a36_1 (.int .u8 32)) w fun a39_1 w =>
 J1 (fun k12 =>
 Gd a39_1 false (v1 R (Bo .gtr 5 false true a36_1 (.int .u8 126)) w fun a42_2 w =>
 k12 a42_2 w) (k12 undef w)) (fun a42_3 w =>
 v1 R (Pk a39_1 (.bool true) a42_3) w fun a43_1 w =>
 J1 (fun k13 =>
 Gd a43_1 false (v1 R (Bo .eql 5 false true a36_1 (.int .u8 34)) w fun a46_2 w =>
 k13 a46_2 w) (k13 undef w)) (fun a46_3 w =>
 v1 R (Pk a43_1 (.bool true) a46_3) w fun a47_1 w =>
 J1 (fun k14 =>
 Gd a47_1 false (v1 R (Bo .eql 5 false true a36_1 (.int .u8 92)) w fun a50_1 w =>
 k14 a50_1 w) (k14 undef w)) (fun a51_1 w =>
 J1 (fun k15 =>
 Gd a51_1 true (v1 R (Builtin.len_ #[9] 3 #[a4]) w fun a53_1 w =>
 v1 R (Bo .lss 3 false true a53_1 (.int .i64 2)) w fun a54_2 w =>
 k15 a54_2 w) (k15 undef w)) (fun a54_3 w =>
 J1 (fun k16 =>
 Gd a47_1 false (v1 R (Pk a51_1 a54_3 (.bool false)) w fun a55_2 w =>
 k16 a55_2 w) (k16 undef w)) (fun a55_3 w =>
 v1 R (Pk a47_1 (.bool true) a55_3) w fun a56_1 w =>
 If a56_1 (
 R (.returned (.tuple #[(.string ⟨#[]⟩), (.int .i64 4)])) w) (
 v1 R (Bo .eql 5 false true a36_1 (.int .u8 92)) w fun a59_1 w =>
 J1 (fun k17 =>
 Gd a59_1 true (v1 R (Instr.index 9 a4 (.int .i64 1)) w fun a62_1 w =>
 v1 R (Bo .eql 5 false true a62_1 (.int .u8 120)) w fun a63_2 w =>
 k17 a63_2 w) (k17 undef w)) (fun a63_3 w =>
 v1 R (Pk a59_1 a63_3 (.bool false)) w fun a64_1 w =>
 If a64_1 (
 v1 R (Builtin.len_ #[9] 3 #[a4]) w fun a66_1 w =>
 v1 R (Bo .lss 3 false true a66_1 (.int .i64 4)) w fun a67_1 w =>
 J1 (fun k18 =>
 Gd a67_1 false (v1 R (Instr.index 9 a4 (.int .i64 2)) w fun a70_1 w =>
 v1 R (Go.convert 5 21 a70_1) w fun a71_1 w =>
 cf R 195 #[a71_1] w fun a72_1 w =>
 v1 R (Bo .lss 3 false true a72_1 (.int .i64 0)) w fun a73_2 w =>
 k18 a73_2 w) (k18 undef w)) (fun a73_3 w =>
 v1 R (Pk a67_1 (.bool true) a73_3) w fun a74_1 w =>
 J1 (fun k19 =>
 Gd a74_1 false (v1 R (Instr.index 9 a4 (.int .i64 3)) w fun a77_1 w =>
 v1 R (Go.convert 5 21 a77_1) w fun a78_1 w =>
 cf R 195 #[a78_1] w fun a79_1 w =>
 v1 R (Bo .lss 3 false true a79_1 (.int .i64 0)) w fun a80_2 w =>
 k19 a80_2 w) (k19 undef w)) (fun a80_3 w =>
 v1 R (Pk a74_1 (.bool true) a80_3) w fun a81_1 w =>
 If a81_1 (
 R (.returned (.tuple #[(.string ⟨#[]⟩), (.int .i64 4)])) w) (
 ∃ C2 : World → Prop, C2 w.drew ∧
 xv C2 (Instr.index 9 a4 (.int .i64 2)) fun a83_1 => xv C2 (Go.convert 5 21 a83_1) fun a84_1 => xq C2 (callFunc 195 #[a84_1]) fun a85_1 => xv C2 (Bo .shl 3 false true a85_1 (.int .u64 4)) fun a86_1 => xv C2 (Instr.index 9 a4 (.int .i64 3)) fun a88_1 => xv C2 (Go.convert 5 21 a88_1) fun a89_1 => xq C2 (callFunc 195 #[a89_1]) fun a90_1 => xv C2 (Bo .or 3 false false a86_1 a90_1) fun a91_1 => xv C2 (Go.convert 3 5 a91_1) fun a92_1 => ∀ w, C2 w → k11 a92_1 a2_1 a3_1 (.int .i64 4) w)))) (
 v1 R (Bo .eql 5 false true a36_1 (.int .u8 92)) w fun a95_1 w =>
 If a95_1 (
 v1 R (Instr.index 9 a4 (.int .i64 1)) w fun a99_1 w =>
 v1 R (Instr.lookup 215 a7 a99_1 true) w fun a100_1 w =>
 v1 R (Instr.extract a100_1 0) w fun a101_1 w =>
 v1 R (Instr.extract a100_1 1) w fun a102_1 w =>
 v1 R (Op.unary .not a102_1) w fun a104_1 w =>
 If a104_1 (
 R (.returned (.tuple #[(.string ⟨#[]⟩), (.int .i64 4)])) w) (
 k11 a101_1 a2_1 a3_1 (.int .i64 2) w)) (
 k11 a36_1 a2_1 a3_1 (.int .i64 1) w)))))))))) (fun a9_1 a2_2 a3_2 a10_1 w =>
 v1 R (Instr.buildSlice 22 1 #[(0, a9_1)]) w fun a107_1 w =>
 v1 R (Builtin.append_ #[22, 22] 22 #[a8, a107_1]) w fun a108_1 w =>
 v1 R (Instr.sliceAt 9 a4 (some a10_1) none none) w fun a111_1 w =>
 j1 a7 a2_2 a3_2 a108_1 a111_1 w)))
set_option maxHeartbeats 4000000 in
theorem s150 {R : Ending → World → Prop} {a0 : Value} {w : World} (h : S150 R a0 w) : Calls Tryz.prog 150 #[a0] w R :=
  calls_of [] mixed Tryz.func150 (c := codeB Tryz.f150) (by kernel_rfl) (Nat.le_of_ble_eq_true (by kernel_rfl)) (cast (by kernel_rfl) h)
theorem cf150 : CfT 150 := CfT.mk Tryz.func150 (c := codeB Tryz.f150) (by kernel_rfl) (by kernel_rfl)
def S151 (R : Ending → World → Prop) (a0 : Value) (w : World) : Prop :=
 v1 R (Instr.makeInterface 23 a0) w fun a4 w =>
 v1 R (Instr.makeInterface 23 (.int .i64 4)) w fun a5 w =>
 cf R 21 #[a4, a5] w fun a6 w =>
 If a6 (
 v1 R (Instr.makeInterface 23 (.int .i64 14)) w fun a7 w =>
 R (.returned a7) w) (
 v1 R (Instr.makeInterface 23 a0) w fun a9 w =>
 R (.returned a9) w)
theorem s151 {R : Ending → World → Prop} {a0 : Value} {w : World} (h : S151 R a0 w) : Calls Tryz.prog 151 #[a0] w R :=
  calls_of [] mixed Tryz.func151 (c := codeB Tryz.f151) (by kernel_rfl) (Nat.le_of_ble_eq_true (by kernel_rfl)) (cast (by kernel_rfl) h)
theorem cf151 : CfT 151 := CfT.mk Tryz.func151 (c := codeB Tryz.f151) (by kernel_rfl) (by kernel_rfl)
def S165 (R : Ending → World → Prop) (a0 : Value) (w : World) : Prop :=
 v1 R (Instr.makeMap 215 none) w fun a11 w =>
 cf R 194 #[] w fun a12 w =>
 v1 R (Instr.range 215 a12) w fun a13 w =>
 L0  w (fun g1  w =>
 v1 R (Instr.next a13 false 0) w fun a14 w =>
 v1 R (Instr.extract a14 0) w fun a15 w =>
 If a15 (
 v1 R (Instr.entry a13) w fun a16 w =>
 v1 R (Instr.extract a16 0) w fun a17 w =>
 v1 R (Instr.extract a16 1) w fun a18 w =>
 u1 R (Instr.mapUpdate 215 a11 a18 a17) w fun w =>
 g1 w) (
 v1 R (Instr.alloc 54 true (.tuple #[])) w fun a6 w =>
 cf R 204 #[a6, (.int .u8 34)] w fun a22 w =>
 v1 R (Builtin.len_ #[9] 3 #[a0]) w fun a24 w =>
 L1 (.int .i64 0) w (fun g2 a25 w =>
 v1 R (Bo .lss 3 false false a25 a24) w fun a26 w =>
 If a26 (
 J0 (fun k1 =>
 v1 R (Instr.index 9 a0 a25) w fun a30 w =>
 v1 R (Instr.lookup 215 a11 a30 true) w fun a34 w =>
 v1 R (Instr.extract a34 0) w fun a35 w =>
 v1 R (Instr.extract a34 1) w fun a36 w =>
 If a36 (
 cf R 204 #[a6, (.int .u8 92)] w fun a41 w =>
 cf R 204 #[a6, a35] w fun a43 w =>
 k1 w) (
 v1 R (Bo .lss 5 false true a30 (.int .u8 32)) w fun a46 w =>
 J1 (fun k2 =>
 Gd a46 false (v1 R (Bo .gtr 5 false true a30 (.int .u8 126)) w fun a49 w =>
 k2 a49 w) (k2 undef w)) (fun a49_1 w =>
 v1 R (Pk a46 (.bool true) a49_1) w fun a50 w =>
 If a50 (
 cf R 70 #[a6, (.string ⟨#[92, 120]⟩)] w fun a51 w =>
 v1 R (Bo .shr 5 false true a30 (.int .u64 4)) w fun a53 w =>
 v1 R (Instr.index 9 (.string ⟨#[48, 49, 50, 51, 52, 53, 54, 55, 56, 57, 97, 98, 99, 100, 101, 102]⟩) a53) w fun a54 w =>
 cf R 204 #[a6, a54] w fun a55 w =>
 v1 R (Bo .and 5 false true a30 (.int .u8 15)) w fun a57 w =>
 v1 R (Instr.index 9 (.string ⟨#[48, 49, 50, 51, 52, 53, 54, 55, 56, 57, 97, 98, 99, 100, 101, 102]⟩) a57) w fun a58 w =>
 cf R 204 #[a6, a58] w fun a59 w =>
 k1 w) (
 cf R 204 #[a6, a30] w fun a38 w =>
 k1 w)))) (fun w =>
 v1 R (Bo .add 3 false true a25 (.int .i64 1)) w fun a60 w =>
 g2 a60 w)) (
 cf R 204 #[a6, (.int .u8 34)] w fun a61 w =>
 cf R 19 #[a6] w fun a62 w =>
 R (.returned a62) w))))
theorem s165 {R : Ending → World → Prop} {a0 : Value} {w : World} (h : S165 R a0 w) : Calls Tryz.prog 165 #[a0] w R :=
  calls_of [] mixed Tryz.func165 (c := codeB Tryz.f165) (by kernel_rfl) (Nat.le_of_ble_eq_true (by kernel_rfl)) (cast (by kernel_rfl) h)
theorem cf165 : CfT 165 := CfT.mk Tryz.func165 (c := codeB Tryz.f165) (by kernel_rfl) (by kernel_rfl)
def S194 (R : Ending → World → Prop) (w : World) : Prop :=
 v1 R (Instr.makeMap 215 none) w fun a1 w =>
 u1 R (Instr.mapUpdate 215 a1 (.int .u8 110) (.int .u8 10)) w fun w =>
 u1 R (Instr.mapUpdate 215 a1 (.int .u8 116) (.int .u8 9)) w fun w =>
 u1 R (Instr.mapUpdate 215 a1 (.int .u8 92) (.int .u8 92)) w fun w =>
 u1 R (Instr.mapUpdate 215 a1 (.int .u8 34) (.int .u8 34)) w fun w =>
 R (.returned a1) w
theorem s194 {R : Ending → World → Prop} {w : World} (h : S194 R  w) : Calls Tryz.prog 194 #[] w R :=
  calls_of [] mixed Tryz.func194 (c := codeB Tryz.f194) (by kernel_rfl) (Nat.le_of_ble_eq_true (by kernel_rfl)) (cast (by kernel_rfl) h)
theorem cf194 : CfT 194 := CfT.mk Tryz.func194 (c := codeB Tryz.f194) (by kernel_rfl) (by kernel_rfl)
def S195 (R : Ending → World → Prop) (a0 : Value) (w : World) : Prop :=
 v1 R (Bo .geq 21 false true a0 (.int .i32 48)) w fun a5 w =>
 J1 (fun k1 =>
 Gd a5 true (v1 R (Bo .leq 21 false true a0 (.int .i32 57)) w fun a8 w =>
 k1 a8 w) (k1 undef w)) (fun a8_1 w =>
 v1 R (Pk a5 a8_1 (.bool false)) w fun a9 w =>
 If a9 (
 v1 R (Bo .sub 21 false true a0 (.int .i32 48)) w fun a11 w =>
 v1 R (Go.convert 21 3 a11) w fun a12 w =>
 R (.returned a12) w) (
 v1 R (Bo .geq 21 false true a0 (.int .i32 97)) w fun a15 w =>
 J1 (fun k2 =>
 Gd a15 true (v1 R (Bo .leq 21 false true a0 (.int .i32 102)) w fun a18 w =>
 k2 a18 w) (k2 undef w)) (fun a18_1 w =>
 v1 R (Pk a15 a18_1 (.bool false)) w fun a19 w =>
 If a19 (
 v1 R (Bo .sub 21 false true a0 (.int .i32 97)) w fun a21 w =>
 v1 R (Go.convert 21 3 a21) w fun a22 w =>
 v1 R (Bo .add 3 false true a22 (.int .i64 10)) w fun a23 w =>
 R (.returned a23) w) (
 R (.returned (.int .i64 (-1))) w))))
theorem s195 {R : Ending → World → Prop} {a0 : Value} {w : World} (h : S195 R a0 w) : Calls Tryz.prog 195 #[a0] w R :=
  calls_of [] mixed Tryz.func195 (c := codeB Tryz.f195) (by kernel_rfl) (Nat.le_of_ble_eq_true (by kernel_rfl)) (cast (by kernel_rfl) h)
theorem cf195 : CfT 195 := CfT.mk Tryz.func195 (c := codeB Tryz.f195) (by kernel_rfl) (by kernel_rfl)
end Go.Proofs.YtoddjlclpnoomaaGreatDoor
namespace Go.Proofs
open Go.Shelf
def Tryz.lays137_ren : Go.Shelf.Ren := ⟨fun | 137 => 53 | 217 => 86 | 266 => 147 | n => n, fun | 9 => 9 | 5 => 5 | 3 => 3 | n => n, fun | n => n⟩
theorem Tryz.lays137 : Go.Proofs.Lays.n137 Tryz.prog Tryz.lays137_ren := {
  mixed := by kernel_rfl
  f137 := Tryz.func53.trans (congrArg some (by kernel_rfl))
  f217 := Tryz.func86.trans (congrArg some (by kernel_rfl))
  f266 := Tryz.func147.trans (congrArg some (by kernel_rfl))
  t3 := Tryz.underlying3
  a3 := Tryz.isAgg3
  z3 := Tryz.sizeOf3
  v3 := Tryz.zeroValue3
  t5 := Tryz.underlying5
  a5 := Tryz.isAgg5
  z5 := Tryz.sizeOf5
  v5 := Tryz.zeroValue5
  t9 := Tryz.underlying9
  a9 := Tryz.isAgg9
  z9 := Tryz.sizeOf9
  v9 := Tryz.zeroValue9 }
open Go.RowKit in
theorem Tryz.strings_IndexByte (s : ByteArray) (c : Int) (w : World) :
    Calls Tryz.prog 53 #[.string s, .int .u8 c] w fun e w' => e = .returned (.int .i64 (Lib.indexByte s.data.toList c.toNat.toUInt8)) ∧ w' = w := Any.strings_IndexByte Tryz.lays137 s c w
def Tryz.lays144_ren : Go.Shelf.Ren := ⟨fun | 144 => 92 | 143 => 152 | 219 => 196 | 217 => 86 | 225 => 217 | 224 => 218 | 267 => 219 | 266 => 147 | 314 => 237 | n => n, fun | 9 => 9 | 4 => 4 | 3 => 3 | 5 => 5 | 46 => 218 | 146 => 259 | 51 => 190 | n => n, fun | 1 => 3 | n => n⟩
theorem Tryz.lays144 : Go.Proofs.Lays.n144 Tryz.prog Tryz.lays144_ren := {
  mixed := by kernel_rfl
  f143 := Tryz.func152.trans (congrArg some (by kernel_rfl))
  f144 := Tryz.func92.trans (congrArg some (by kernel_rfl))
  f217 := Tryz.func86.trans (congrArg some (by kernel_rfl))
  f219 := Tryz.func196.trans (congrArg some (by kernel_rfl))
  f224 := Tryz.func218.trans (congrArg some (by kernel_rfl))
  f225 := Tryz.func217.trans (congrArg some (by kernel_rfl))
  f266 := Tryz.func147.trans (congrArg some (by kernel_rfl))
  f267 := Tryz.func219.trans (congrArg some (by kernel_rfl))
  f314 := Tryz.func237.trans (congrArg some (by kernel_rfl))
  t3 := Tryz.underlying3
  a3 := Tryz.isAgg3
  z3 := Tryz.sizeOf3
  v3 := Tryz.zeroValue3
  t4 := Tryz.underlying4
  a4 := Tryz.isAgg4
  z4 := Tryz.sizeOf4
  v4 := Tryz.zeroValue4
  t5 := Tryz.underlying5
  a5 := Tryz.isAgg5
  z5 := Tryz.sizeOf5
  v5 := Tryz.zeroValue5
  t9 := Tryz.underlying9
  a9 := Tryz.isAgg9
  z9 := Tryz.sizeOf9
  v9 := Tryz.zeroValue9
  t46 := Tryz.underlying218
  a46 := Tryz.isAgg218
  z46 := Tryz.sizeOf218
  v46 := Tryz.zeroValue218
  t51 := Tryz.underlying190
  a51 := Tryz.isAgg190
  z51 := Tryz.sizeOf190
  v51 := Tryz.zeroValue190
  t146 := Tryz.underlying259
  a146 := Tryz.isAgg259
  z146 := Tryz.sizeOf259
  v146 := Tryz.zeroValue259
  g1 := by kernel_rfl }
open Go.RowKit Go.Lib in
theorem Tryz.strings_Contains (s sub : ByteArray) (m : Int) (w : World) (hs : s.size < 4294967281) (hm : w.cell? ⟨3, 0, none⟩ = some (.int .i64 m)) :
    Calls Tryz.prog 92 #[.string s, .string sub] w fun e w' => e = .returned (.bool (Lib.contains s.data.toList sub.data.toList)) ∧ w' = w := Any.strings_Contains Tryz.lays144 s sub m w hs hm
def Tryz.lays145_ren : Go.Shelf.Ren := ⟨fun | 145 => 149 | 220 => 191 | 219 => 196 | 217 => 86 | 225 => 217 | 224 => 218 | 267 => 219 | 266 => 147 | 314 => 237 | n => n, fun | 9 => 9 | 4 => 4 | 59 => 178 | 3 => 3 | 5 => 5 | 46 => 218 | 146 => 259 | 51 => 190 | n => n, fun | 1 => 3 | n => n⟩
theorem Tryz.lays145 : Go.Proofs.Lays.n145 Tryz.prog Tryz.lays145_ren := {
  mixed := by kernel_rfl
  f145 := Tryz.func149.trans (congrArg some (by kernel_rfl))
  f217 := Tryz.func86.trans (congrArg some (by kernel_rfl))
  f219 := Tryz.func196.trans (congrArg some (by kernel_rfl))
  f220 := Tryz.func191.trans (congrArg some (by kernel_rfl))
  f224 := Tryz.func218.trans (congrArg some (by kernel_rfl))
  f225 := Tryz.func217.trans (congrArg some (by kernel_rfl))
  f266 := Tryz.func147.trans (congrArg some (by kernel_rfl))
  f267 := Tryz.func219.trans (congrArg some (by kernel_rfl))
  f314 := Tryz.func237.trans (congrArg some (by kernel_rfl))
  t3 := Tryz.underlying3
  a3 := Tryz.isAgg3
  z3 := Tryz.sizeOf3
  v3 := Tryz.zeroValue3
  t4 := Tryz.underlying4
  a4 := Tryz.isAgg4
  z4 := Tryz.sizeOf4
  v4 := Tryz.zeroValue4
  t5 := Tryz.underlying5
  a5 := Tryz.isAgg5
  z5 := Tryz.sizeOf5
  v5 := Tryz.zeroValue5
  t9 := Tryz.underlying9
  a9 := Tryz.isAgg9
  z9 := Tryz.sizeOf9
  v9 := Tryz.zeroValue9
  t46 := Tryz.underlying218
  a46 := Tryz.isAgg218
  z46 := Tryz.sizeOf218
  v46 := Tryz.zeroValue218
  t51 := Tryz.underlying190
  a51 := Tryz.isAgg190
  z51 := Tryz.sizeOf190
  v51 := Tryz.zeroValue190
  t59 := Tryz.underlying178
  a59 := Tryz.isAgg178
  z59 := Tryz.sizeOf178
  v59 := Tryz.zeroValue178
  t146 := Tryz.underlying259
  a146 := Tryz.isAgg259
  z146 := Tryz.sizeOf259
  v146 := Tryz.zeroValue259
  g1 := by kernel_rfl }
open Go.RowKit Go.Lib in
theorem Tryz.strings_Cut (s sep : ByteArray) (m : Int) (w : World) (hs : s.size < 4294967281) (hm : w.cell? ⟨3, 0, none⟩ = some (.int .i64 m)) :
    Calls Tryz.prog 149 #[.string s, .string sep] w fun e w' => e = .returned (.tuple #[.string ⟨(Lib.cut s.data.toList sep.data.toList).1.toArray⟩, .string ⟨(Lib.cut s.data.toList sep.data.toList).2.1.toArray⟩, .bool (Lib.cut s.data.toList sep.data.toList).2.2]) ∧ ∃ n, w' = w.drewN n := Any.strings_Cut Tryz.lays145 s sep m w hs hm
def Tryz.lays157_ren : Go.Shelf.Ren := ⟨fun | 157 => 56 | 229 => 97 | 199 => 98 | 261 => 155 | 311 => 197 | 312 => 198 | n => n, fun | 9 => 9 | 31 => 45 | 3 => 3 | 5 => 5 | 4 => 4 | 119 => 156 | 0 => 0 | 40 => 158 | 152 => 187 | 21 => 21 | 154 => 189 | 51 => 190 | 141 => 192 | 196 => 223 | 193 => 220 | 198 => 226 | 49 => 224 | 194 => 221 | 201 => 229 | 226 => 243 | 46 => 218 | 227 => 244 | n => n, fun | 0 => 1 | 6 => 2 | n => n⟩
theorem Tryz.lays157 : Go.Proofs.Lays.n157 Tryz.prog Tryz.lays157_ren := {
  mixed := by kernel_rfl
  f157 := Tryz.func56.trans (congrArg some (by kernel_rfl))
  f199 := Tryz.func98.trans (congrArg some (by kernel_rfl))
  f229 := Tryz.func97.trans (congrArg some (by kernel_rfl))
  f261 := Tryz.func155.trans (congrArg some (by kernel_rfl))
  f311 := Tryz.func197.trans (congrArg some (by kernel_rfl))
  f312 := Tryz.func198.trans (congrArg some (by kernel_rfl))
  t0 := Tryz.underlying0
  a0 := Tryz.isAgg0
  z0 := Tryz.sizeOf0
  v0 := Tryz.zeroValue0
  t3 := Tryz.underlying3
  a3 := Tryz.isAgg3
  z3 := Tryz.sizeOf3
  v3 := Tryz.zeroValue3
  t4 := Tryz.underlying4
  a4 := Tryz.isAgg4
  z4 := Tryz.sizeOf4
  v4 := Tryz.zeroValue4
  t5 := Tryz.underlying5
  a5 := Tryz.isAgg5
  z5 := Tryz.sizeOf5
  v5 := Tryz.zeroValue5
  t9 := Tryz.underlying9
  a9 := Tryz.isAgg9
  z9 := Tryz.sizeOf9
  v9 := Tryz.zeroValue9
  t21 := Tryz.underlying21
  a21 := Tryz.isAgg21
  z21 := Tryz.sizeOf21
  v21 := Tryz.zeroValue21
  t31 := Tryz.underlying45
  a31 := Tryz.isAgg45
  z31 := Tryz.sizeOf45
  v31 := Tryz.zeroValue45
  t40 := Tryz.underlying158
  a40 := Tryz.isAgg158
  z40 := Tryz.sizeOf158
  v40 := Tryz.zeroValue158
  t46 := Tryz.underlying218
  a46 := Tryz.isAgg218
  z46 := Tryz.sizeOf218
  v46 := Tryz.zeroValue218
  t49 := Tryz.underlying224
  a49 := Tryz.isAgg224
  z49 := Tryz.sizeOf224
  v49 := Tryz.zeroValue224
  t51 := Tryz.underlying190
  a51 := Tryz.isAgg190
  z51 := Tryz.sizeOf190
  v51 := Tryz.zeroValue190
  t119 := Tryz.underlying156
  a119 := Tryz.isAgg156
  z119 := Tryz.sizeOf156
  t141 := Tryz.underlying192
  a141 := Tryz.isAgg192
  z141 := Tryz.sizeOf192
  v141 := Tryz.zeroValue192
  t152 := Tryz.underlying187
  a152 := Tryz.isAgg187
  z152 := Tryz.sizeOf187
  v152 := Tryz.zeroValue187
  t154 := Tryz.underlying189
  a154 := Tryz.isAgg189
  z154 := Tryz.sizeOf189
  v154 := Tryz.zeroValue189
  t193 := Tryz.underlying220
  a193 := Tryz.isAgg220
  z193 := Tryz.sizeOf220
  v193 := Tryz.zeroValue220
  t194 := Tryz.underlying221
  a194 := Tryz.isAgg221
  z194 := Tryz.sizeOf221
  v194 := Tryz.zeroValue221
  t196 := Tryz.underlying223
  a196 := Tryz.isAgg223
  z196 := Tryz.sizeOf223
  v196 := Tryz.zeroValue223
  t198 := Tryz.underlying226
  a198 := Tryz.isAgg226
  z198 := Tryz.sizeOf226
  v198 := Tryz.zeroValue226
  t201 := Tryz.underlying229
  a201 := Tryz.isAgg229
  z201 := Tryz.sizeOf229
  v201 := Tryz.zeroValue229
  t226 := Tryz.underlying243
  a226 := Tryz.isAgg243
  z226 := Tryz.sizeOf243
  v226 := Tryz.zeroValue243
  t227 := Tryz.underlying244
  a227 := Tryz.isAgg244
  z227 := Tryz.sizeOf244
  v227 := Tryz.zeroValue244
  g0 := by kernel_rfl
  g6 := by kernel_rfl }
open Go.RowKit Go.Lib in
theorem Tryz.strings_Fields (s : ByteArray) (w : World) (hs : s.size < 4294967281) (hascii : ∀ (j : Nat) b, s.data.toList[j]? = some b → b.toNat < 128) (htab : Lib.TabIs Tryz.prog w "strings.asciiSpace" .u8 Lib.asciiSpaceTab) :
    Calls Tryz.prog 56 #[.string s] w fun e w' =>
      e = .returned (.slice (some ⟨w.heap.size, 0, none⟩) (Lib.fields s.data.toList).length (Lib.fields s.data.toList).length) ∧ w' = w.alloc (.cells ((Lib.fields s.data.toList).map fun l => Value.string ⟨l.toArray⟩).toArray 9) := Any.strings_Fields Tryz.lays157 (by kernel_rfl) (by kernel_rfl) s w hs hascii htab
def Tryz.lays99_ren : Go.Shelf.Ren := ⟨fun | 99 => 52 | 206 => 85 | n => n, fun | 9 => 9 | 4 => 4 | 3 => 3 | n => n, fun | n => n⟩
theorem Tryz.lays99 : Go.Proofs.Lays.n99 Tryz.prog Tryz.lays99_ren := {
  mixed := by kernel_rfl
  f99 := Tryz.func52.trans (congrArg some (by kernel_rfl))
  f206 := Tryz.func85.trans (congrArg some (by kernel_rfl))
  t3 := Tryz.underlying3
  a3 := Tryz.isAgg3
  z3 := Tryz.sizeOf3
  v3 := Tryz.zeroValue3
  t4 := Tryz.underlying4
  a4 := Tryz.isAgg4
  z4 := Tryz.sizeOf4
  v4 := Tryz.zeroValue4
  t9 := Tryz.underlying9
  a9 := Tryz.isAgg9
  z9 := Tryz.sizeOf9
  v9 := Tryz.zeroValue9 }
open Go.RowKit Go.Lib in
theorem Tryz.strings_HasPrefix (s p : ByteArray) (w : World) :
    Calls Tryz.prog 52 #[.string s, .string p] w fun e w' => e = .returned (.bool (Lib.hasPrefix s.data.toList p.data.toList)) ∧ w' = w := Any.strings_HasPrefix Tryz.lays99 s p w
def Tryz.lays101_ren : Go.Shelf.Ren := ⟨fun | 101 => 189 | 208 => 212 | 206 => 85 | n => n, fun | 9 => 9 | 4 => 4 | 3 => 3 | n => n, fun | n => n⟩
theorem Tryz.lays101 : Go.Proofs.Lays.n101 Tryz.prog Tryz.lays101_ren := {
  mixed := by kernel_rfl
  f101 := Tryz.func189.trans (congrArg some (by kernel_rfl))
  f206 := Tryz.func85.trans (congrArg some (by kernel_rfl))
  f208 := Tryz.func212.trans (congrArg some (by kernel_rfl))
  t3 := Tryz.underlying3
  a3 := Tryz.isAgg3
  z3 := Tryz.sizeOf3
  v3 := Tryz.zeroValue3
  t4 := Tryz.underlying4
  a4 := Tryz.isAgg4
  z4 := Tryz.sizeOf4
  v4 := Tryz.zeroValue4
  t9 := Tryz.underlying9
  a9 := Tryz.isAgg9
  z9 := Tryz.sizeOf9
  v9 := Tryz.zeroValue9 }
open Go.RowKit Go.Lib in
theorem Tryz.strings_TrimPrefix (s p : ByteArray) (w : World) :
    Calls Tryz.prog 189 #[.string s, .string p] w fun e w' => e = .returned (.string ⟨(Lib.trimPrefix s.data.toList p.data.toList).toArray⟩) ∧ w' = w := Any.strings_TrimPrefix Tryz.lays101 s p w
def Tryz.lays103_ren : Go.Shelf.Ren := ⟨fun | 103 => 192 | 210 => 215 | 206 => 85 | n => n, fun | 9 => 9 | 4 => 4 | 24 => 213 | 3 => 3 | n => n, fun | n => n⟩
theorem Tryz.lays103 : Go.Proofs.Lays.n103 Tryz.prog Tryz.lays103_ren := {
  mixed := by kernel_rfl
  f103 := Tryz.func192.trans (congrArg some (by kernel_rfl))
  f206 := Tryz.func85.trans (congrArg some (by kernel_rfl))
  f210 := Tryz.func215.trans (congrArg some (by kernel_rfl))
  t3 := Tryz.underlying3
  a3 := Tryz.isAgg3
  z3 := Tryz.sizeOf3
  v3 := Tryz.zeroValue3
  t4 := Tryz.underlying4
  a4 := Tryz.isAgg4
  z4 := Tryz.sizeOf4
  v4 := Tryz.zeroValue4
  t9 := Tryz.underlying9
  a9 := Tryz.isAgg9
  z9 := Tryz.sizeOf9
  v9 := Tryz.zeroValue9
  t24 := Tryz.underlying213
  a24 := Tryz.isAgg213
  z24 := Tryz.sizeOf213
  v24 := Tryz.zeroValue213 }
open Go.RowKit in
theorem Tryz.strings_CutPrefix (s p : ByteArray) (w : World) :
    Calls Tryz.prog 192 #[.string s, .string p] w fun e w' => e = .returned (.tuple #[.string ⟨(Lib.trimPrefix s.data.toList p.data.toList).toArray⟩, .bool (Lib.hasPrefix s.data.toList p.data.toList)]) ∧ w' = w := Any.strings_CutPrefix Tryz.lays103 s p w
def Tryz.lays104_ren : Go.Shelf.Ren := ⟨fun | 104 => 193 | 211 => 216 | 207 => 236 | n => n, fun | 9 => 9 | 4 => 4 | 24 => 213 | 3 => 3 | n => n, fun | n => n⟩
theorem Tryz.lays104 : Go.Proofs.Lays.n104 Tryz.prog Tryz.lays104_ren := {
  mixed := by kernel_rfl
  f104 := Tryz.func193.trans (congrArg some (by kernel_rfl))
  f207 := Tryz.func236.trans (congrArg some (by kernel_rfl))
  f211 := Tryz.func216.trans (congrArg some (by kernel_rfl))
  t3 := Tryz.underlying3
  a3 := Tryz.isAgg3
  z3 := Tryz.sizeOf3
  v3 := Tryz.zeroValue3
  t4 := Tryz.underlying4
  a4 := Tryz.isAgg4
  z4 := Tryz.sizeOf4
  v4 := Tryz.zeroValue4
  t9 := Tryz.underlying9
  a9 := Tryz.isAgg9
  z9 := Tryz.sizeOf9
  v9 := Tryz.zeroValue9
  t24 := Tryz.underlying213
  a24 := Tryz.isAgg213
  z24 := Tryz.sizeOf213
  v24 := Tryz.zeroValue213 }
open Go.RowKit in
theorem Tryz.strings_CutSuffix (s p : ByteArray) (w : World) (hs : s.size ≤ 9223372036854775807) :
    Calls Tryz.prog 193 #[.string s, .string p] w fun e w' => e = .returned (.tuple #[.string ⟨(Lib.trimSuffix s.data.toList p.data.toList).toArray⟩, .bool (Lib.hasSuffix s.data.toList p.data.toList)]) ∧ w' = w := Any.strings_CutSuffix Tryz.lays104 s p w hs
def Tryz.laysM173_ren : Go.Shelf.Ren := ⟨fun | 173 => 164 | 246 => 203 | 283 => 221 | 284 => 222 | 285 => 223 | 286 => 224 | 129 => 242 | 317 => 241 | 318 => 243 | 319 => 244 | 320 => 245 | 337 => 252 | 338 => 253 | n => n, fun | 2 => 2 | 3 => 3 | 9 => 9 | 4 => 4 | 171 => 246 | 0 => 0 | 53 => 205 | 37 => 22 | 5 => 5 | 173 => 249 | 212 => 262 | 51 => 190 | 20 => 20 | 213 => 263 | 46 => 218 | 232 => 275 | 233 => 276 | n => n, fun | 17 => 5 | 18 => 9 | 19 => 10 | n => n⟩
theorem Tryz.laysM173 : Go.Proofs.LaysM.n173 Tryz.prog Tryz.laysM173_ren := {
  mixed := by kernel_rfl
  f129 := Tryz.func242.trans (congrArg some (by kernel_rfl))
  f173 := Tryz.func164.trans (congrArg some (by kernel_rfl))
  f246 := Tryz.func203.trans (congrArg some (by kernel_rfl))
  f283 := Tryz.func221.trans (congrArg some (by kernel_rfl))
  f284 := Tryz.func222.trans (congrArg some (by kernel_rfl))
  f285 := Tryz.func223.trans (congrArg some (by kernel_rfl))
  f286 := Tryz.func224.trans (congrArg some (by kernel_rfl))
  f317 := Tryz.func241.trans (congrArg some (by kernel_rfl))
  f318 := Tryz.func243.trans (congrArg some (by kernel_rfl))
  f319 := Tryz.func244.trans (congrArg some (by kernel_rfl))
  f320 := Tryz.func245.trans (congrArg some (by kernel_rfl))
  f337 := Tryz.func252.trans (congrArg some (by kernel_rfl))
  f338 := Tryz.func253.trans (congrArg some (by kernel_rfl))
  t0 := Tryz.underlying0
  a0 := Tryz.isAgg0
  z0 := Tryz.sizeOf0
  v0 := Tryz.zeroValue0
  t2 := Tryz.underlying2
  a2 := Tryz.isAgg2
  z2 := Tryz.sizeOf2
  v2 := Tryz.zeroValue2
  t3 := Tryz.underlying3
  a3 := Tryz.isAgg3
  z3 := Tryz.sizeOf3
  v3 := Tryz.zeroValue3
  t4 := Tryz.underlying4
  a4 := Tryz.isAgg4
  z4 := Tryz.sizeOf4
  v4 := Tryz.zeroValue4
  t5 := Tryz.underlying5
  a5 := Tryz.isAgg5
  z5 := Tryz.sizeOf5
  v5 := Tryz.zeroValue5
  t9 := Tryz.underlying9
  a9 := Tryz.isAgg9
  z9 := Tryz.sizeOf9
  v9 := Tryz.zeroValue9
  t20 := Tryz.underlying20
  a20 := Tryz.isAgg20
  z20 := Tryz.sizeOf20
  v20 := Tryz.zeroValue20
  t37 := Tryz.underlying22
  a37 := Tryz.isAgg22
  z37 := Tryz.sizeOf22
  v37 := Tryz.zeroValue22
  t46 := Tryz.underlying218
  a46 := Tryz.isAgg218
  z46 := Tryz.sizeOf218
  v46 := Tryz.zeroValue218
  t51 := Tryz.underlying190
  a51 := Tryz.isAgg190
  z51 := Tryz.sizeOf190
  v51 := Tryz.zeroValue190
  t53 := Tryz.underlying205
  a53 := Tryz.isAgg205
  z53 := Tryz.sizeOf205
  v53 := Tryz.zeroValue205
  t171 := Tryz.underlying246
  a171 := Tryz.isAgg246
  z171 := Tryz.sizeOf246
  v171 := Tryz.zeroValue246
  t173 := Tryz.underlying249
  a173 := Tryz.isAgg249
  z173 := Tryz.sizeOf249
  v173 := Tryz.zeroValue249
  t212 := Tryz.underlying262
  a212 := Tryz.isAgg262
  z212 := Tryz.sizeOf262
  v212 := Tryz.zeroValue262
  t213 := Tryz.underlying263
  a213 := Tryz.isAgg263
  z213 := Tryz.sizeOf263
  t232 := Tryz.underlying275
  a232 := Tryz.isAgg275
  z232 := Tryz.sizeOf275
  v232 := Tryz.zeroValue275
  t233 := Tryz.underlying276
  a233 := Tryz.isAgg276
  z233 := Tryz.sizeOf276
  v233 := Tryz.zeroValue276
  g17 := by kernel_rfl
  g18 := by kernel_rfl
  g19 := by kernel_rfl
  i0 := by kernel_rfl
  i2 := by kernel_rfl
  i3 := by kernel_rfl
  i4 := by kernel_rfl
  i5 := by kernel_rfl
  i9 := by kernel_rfl
  i20 := by kernel_rfl
  i37 := by kernel_rfl
  i46 := by kernel_rfl
  i51 := by kernel_rfl
  i53 := by kernel_rfl
  i171 := by kernel_rfl
  i173 := by kernel_rfl
  i212 := by kernel_rfl
  i232 := by kernel_rfl
  i233 := by kernel_rfl
  m17 := by kernel_rfl
  m18 := by kernel_rfl
  m19 := by kernel_rfl }
open Go.RowKit Go.Sort Go.Lib in
theorem Tryz.strconv_FormatInt_10 (n : Int) (h0 : -9223372036854775808 ≤ n) (h1 : n ≤ 9223372036854775807) (w : World) (htab : Lib.TabIs Tryz.prog w "internal/strconv.uint64pow10" .u64 Lib.pow10Tab) :
    Calls Tryz.prog 164 #[.int .i64 n, .int .i64 10] w fun e w' => e = .returned (.string ⟨(Lib.itoa n).toArray⟩) ∧ ∃ k os, w' = grow (w.drewN k) os := Any.strconv_FormatInt_10 Tryz.laysM173 n h0 h1 w htab
def Tryz.laysC174_ren : Go.Shelf.Ren := ⟨fun | 174 => 190 | 247 => 213 | 245 => 214 | 287 => 231 | 279 => 232 | 280 => 233 | 281 => 234 | 282 => 235 | 321 => 247 | 322 => 248 | 316 => 249 | 171 => 251 | 205 => 250 | 243 => 254 | 246 => 203 | 283 => 221 | 284 => 222 | 285 => 223 | 286 => 224 | 129 => 242 | 317 => 241 | 318 => 243 | 319 => 244 | 320 => 245 | 337 => 252 | 338 => 253 | n => n, fun | 9 => 9 | 3 => 3 | 2 => 2 | 75 => 31 | 85 => 211 | 4 => 4 | 167 => 253 | 5 => 5 | 53 => 205 | 175 => 254 | 46 => 218 | 168 => 256 | 37 => 22 | 0 => 0 | 210 => 266 | 21 => 21 | 127 => 93 | 145 => 274 | 143 => 272 | 171 => 246 | 173 => 249 | 212 => 262 | 51 => 190 | 20 => 20 | 213 => 263 | 232 => 275 | 233 => 276 | 80 => 58 | n => n, fun | 15 => 6 | 16 => 4 | 17 => 5 | 18 => 9 | 19 => 10 | n => n⟩
theorem Tryz.laysC174 : Go.Proofs.LaysC.n174 Tryz.prog Tryz.laysC174_ren := {
  mixed := by kernel_rfl
  f129 := Tryz.func242.trans (congrArg some (by kernel_rfl))
  f171 := Tryz.func251.trans (congrArg some (by kernel_rfl))
  f174 := Tryz.func190.trans (congrArg some (by kernel_rfl))
  f205 := Tryz.func250.trans (congrArg some (by kernel_rfl))
  f243 := Tryz.func254.trans (congrArg some (by kernel_rfl))
  f245 := Tryz.func214.trans (congrArg some (by kernel_rfl))
  f246 := Tryz.func203.trans (congrArg some (by kernel_rfl))
  f247 := Tryz.func213.trans (congrArg some (by kernel_rfl))
  f279 := Tryz.func232.trans (congrArg some (by kernel_rfl))
  f280 := Tryz.func233.trans (congrArg some (by kernel_rfl))
  f281 := Tryz.func234.trans (congrArg some (by kernel_rfl))
  f282 := Tryz.func235.trans (congrArg some (by kernel_rfl))
  f283 := Tryz.func221.trans (congrArg some (by kernel_rfl))
  f284 := Tryz.func222.trans (congrArg some (by kernel_rfl))
  f285 := Tryz.func223.trans (congrArg some (by kernel_rfl))
  f286 := Tryz.func224.trans (congrArg some (by kernel_rfl))
  f287 := Tryz.func231.trans (congrArg some (by kernel_rfl))
  f316 := Tryz.func249.trans (congrArg some (by kernel_rfl))
  f317 := Tryz.func241.trans (congrArg some (by kernel_rfl))
  f318 := Tryz.func243.trans (congrArg some (by kernel_rfl))
  f319 := Tryz.func244.trans (congrArg some (by kernel_rfl))
  f320 := Tryz.func245.trans (congrArg some (by kernel_rfl))
  f321 := Tryz.func247.trans (congrArg some (by kernel_rfl))
  f322 := Tryz.func248.trans (congrArg some (by kernel_rfl))
  f337 := Tryz.func252.trans (congrArg some (by kernel_rfl))
  f338 := Tryz.func253.trans (congrArg some (by kernel_rfl))
  t0 := Tryz.underlying0
  a0 := Tryz.isAgg0
  z0 := Tryz.sizeOf0
  v0 := Tryz.zeroValue0
  t2 := Tryz.underlying2
  a2 := Tryz.isAgg2
  z2 := Tryz.sizeOf2
  v2 := Tryz.zeroValue2
  t3 := Tryz.underlying3
  a3 := Tryz.isAgg3
  z3 := Tryz.sizeOf3
  v3 := Tryz.zeroValue3
  t4 := Tryz.underlying4
  a4 := Tryz.isAgg4
  z4 := Tryz.sizeOf4
  v4 := Tryz.zeroValue4
  t5 := Tryz.underlying5
  a5 := Tryz.isAgg5
  z5 := Tryz.sizeOf5
  v5 := Tryz.zeroValue5
  t9 := Tryz.underlying9
  a9 := Tryz.isAgg9
  z9 := Tryz.sizeOf9
  v9 := Tryz.zeroValue9
  t20 := Tryz.underlying20
  a20 := Tryz.isAgg20
  z20 := Tryz.sizeOf20
  v20 := Tryz.zeroValue20
  t21 := Tryz.underlying21
  a21 := Tryz.isAgg21
  z21 := Tryz.sizeOf21
  v21 := Tryz.zeroValue21
  t37 := Tryz.underlying22
  a37 := Tryz.isAgg22
  z37 := Tryz.sizeOf22
  v37 := Tryz.zeroValue22
  t46 := Tryz.underlying218
  a46 := Tryz.isAgg218
  z46 := Tryz.sizeOf218
  v46 := Tryz.zeroValue218
  t51 := Tryz.underlying190
  a51 := Tryz.isAgg190
  z51 := Tryz.sizeOf190
  v51 := Tryz.zeroValue190
  t53 := Tryz.underlying205
  a53 := Tryz.isAgg205
  z53 := Tryz.sizeOf205
  v53 := Tryz.zeroValue205
  t75 := Tryz.underlying31
  a75 := Tryz.isAgg31
  z75 := Tryz.sizeOf31
  v75 := Tryz.zeroValue31
  t85 := Tryz.underlying211
  a85 := Tryz.isAgg211
  z85 := Tryz.sizeOf211
  v85 := Tryz.zeroValue211
  t127 := Tryz.underlying93
  a127 := Tryz.isAgg93
  z127 := Tryz.sizeOf93
  v127 := Tryz.zeroValue93
  t143 := Tryz.underlying272
  a143 := Tryz.isAgg272
  z143 := Tryz.sizeOf272
  v143 := Tryz.zeroValue272
  t145 := Tryz.underlying274
  a145 := Tryz.isAgg274
  z145 := Tryz.sizeOf274
  v145 := Tryz.zeroValue274
  t167 := Tryz.underlying253
  a167 := Tryz.isAgg253
  z167 := Tryz.sizeOf253
  v167 := Tryz.zeroValue253
  t168 := Tryz.underlying256
  a168 := Tryz.isAgg256
  z168 := Tryz.sizeOf256
  v168 := Tryz.zeroValue256
  t171 := Tryz.underlying246
  a171 := Tryz.isAgg246
  z171 := Tryz.sizeOf246
  v171 := Tryz.zeroValue246
  t173 := Tryz.underlying249
  a173 := Tryz.isAgg249
  z173 := Tryz.sizeOf249
  v173 := Tryz.zeroValue249
  t175 := Tryz.underlying254
  a175 := Tryz.isAgg254
  z175 := Tryz.sizeOf254
  v175 := Tryz.zeroValue254
  t210 := Tryz.underlying266
  a210 := Tryz.isAgg266
  z210 := Tryz.sizeOf266
  v210 := Tryz.zeroValue266
  t212 := Tryz.underlying262
  a212 := Tryz.isAgg262
  z212 := Tryz.sizeOf262
  v212 := Tryz.zeroValue262
  t213 := Tryz.underlying263
  a213 := Tryz.isAgg263
  z213 := Tryz.sizeOf263
  t232 := Tryz.underlying275
  a232 := Tryz.isAgg275
  z232 := Tryz.sizeOf275
  v232 := Tryz.zeroValue275
  t233 := Tryz.underlying276
  a233 := Tryz.isAgg276
  z233 := Tryz.sizeOf276
  v233 := Tryz.zeroValue276
  g15 := by kernel_rfl
  g16 := by kernel_rfl
  g17 := by kernel_rfl
  g18 := by kernel_rfl
  g19 := by kernel_rfl
  t80 := Tryz.underlying58
  a80 := Tryz.isAgg58
  z80 := Tryz.sizeOf58
  v80 := Tryz.zeroValue58
  i0 := by kernel_rfl
  i2 := by kernel_rfl
  i3 := by kernel_rfl
  i4 := by kernel_rfl
  i5 := by kernel_rfl
  i9 := by kernel_rfl
  i20 := by kernel_rfl
  i21 := by kernel_rfl
  i37 := by kernel_rfl
  i46 := by kernel_rfl
  i51 := by kernel_rfl
  i53 := by kernel_rfl
  i75 := by kernel_rfl
  i80 := by kernel_rfl
  i85 := by kernel_rfl
  i127 := by kernel_rfl
  i143 := by kernel_rfl
  i145 := by kernel_rfl
  i167 := by kernel_rfl
  i168 := by kernel_rfl
  i171 := by kernel_rfl
  i173 := by kernel_rfl
  i175 := by kernel_rfl
  i210 := by kernel_rfl
  i212 := by kernel_rfl
  i232 := by kernel_rfl
  i233 := by kernel_rfl
  m15 := by kernel_rfl
  m16 := by kernel_rfl
  m17 := by kernel_rfl
  m18 := by kernel_rfl
  m19 := by kernel_rfl
  c0 := by kernel_rfl
  c2 := by kernel_rfl
  c3 := by kernel_rfl
  c4 := by kernel_rfl
  c5 := by kernel_rfl
  c9 := by kernel_rfl
  c20 := by kernel_rfl
  c21 := by kernel_rfl
  c37 := by kernel_rfl
  c46 := by kernel_rfl
  c51 := by kernel_rfl
  c53 := by kernel_rfl
  c75 := by kernel_rfl
  c80 := by kernel_rfl
  c85 := by kernel_rfl
  c127 := by kernel_rfl
  c143 := by kernel_rfl
  c145 := by kernel_rfl
  c167 := by kernel_rfl
  c168 := by kernel_rfl
  c171 := by kernel_rfl
  c173 := by kernel_rfl
  c175 := by kernel_rfl
  c210 := by kernel_rfl
  c212 := by kernel_rfl
  c213 := by kernel_rfl
  c232 := by kernel_rfl
  c233 := by kernel_rfl }
open Go.RowKit in
theorem Tryz.strconv_ParseInt_10_at64_ok (s : ByteArray) (hmax : s.size ≤ 9223372036854775806) (v : Int) (h : Lib.parseIntB 64 s.data.toList = .ok v) (w : World) :
    Calls Tryz.prog 190 #[.string s, .int .i64 10, .int .i64 64] w fun e w' => e = .returned (.tuple #[.int .i64 v, .nilIface]) ∧ (w' = w ∨ ∃ t, w' = Lib.bytesWorld w 5 t) := Any.strconv_ParseInt_10_at64_ok Tryz.laysC174 s hmax v h w
open Go.RowKit in
theorem Tryz.strconv_ParseInt_10_at64_range_var (s : ByteArray) (hlim : s.size ≤ 281474976710656) (h : Lib.parseIntB 64 s.data.toList = .range) (tp : TypeId) (p : Value) (w : World) (hvar : w.var? Tryz.prog "strconv.ErrRange" = some #[.iface tp p]) :
    Calls Tryz.prog 190 #[.string s, .int .i64 10, .int .i64 64] w fun e w' => ∃ N, e = .returned (.tuple #[.int .i64 (Lib.intSat 64 s.data.toList), .iface 256 (.pointer (some ⟨N, 0, none⟩))]) ∧ w.heap.size ≤ N ∧ w'.heap[N]? = some (.cells #[.string ⟨#[80, 97, 114, 115, 101, 73, 110, 116]⟩, .string s, .iface tp p] 266 (0, 0)) ∧ Below w.heap.size w w' := Any.strconv_ParseInt_10_at64_range_var Tryz.laysC174 s hlim h tp p w hvar
def Tryz.lays271_ren : Go.Shelf.Ren := ⟨fun | 271 => 206 | 120 => 225 | 197 => 226 | 260 => 246 | n => n, fun | 9 => 9 | 21 => 21 | 3 => 3 | 4 => 4 | 5 => 5 | 105 => 233 | 119 => 156 | 0 => 0 | 46 => 218 | 139 => 271 | 138 => 270 | n => n, fun | 3 => 7 | 4 => 8 | n => n⟩
theorem Tryz.lays271 : Go.Proofs.Lays.n271 Tryz.prog Tryz.lays271_ren := {
  mixed := by kernel_rfl
  f120 := Tryz.func225.trans (congrArg some (by kernel_rfl))
  f197 := Tryz.func226.trans (congrArg some (by kernel_rfl))
  f260 := Tryz.func246.trans (congrArg some (by kernel_rfl))
  f271 := Tryz.func206.trans (congrArg some (by kernel_rfl))
  t0 := Tryz.underlying0
  a0 := Tryz.isAgg0
  z0 := Tryz.sizeOf0
  v0 := Tryz.zeroValue0
  t3 := Tryz.underlying3
  a3 := Tryz.isAgg3
  z3 := Tryz.sizeOf3
  v3 := Tryz.zeroValue3
  t4 := Tryz.underlying4
  a4 := Tryz.isAgg4
  z4 := Tryz.sizeOf4
  v4 := Tryz.zeroValue4
  t5 := Tryz.underlying5
  a5 := Tryz.isAgg5
  z5 := Tryz.sizeOf5
  v5 := Tryz.zeroValue5
  t9 := Tryz.underlying9
  a9 := Tryz.isAgg9
  z9 := Tryz.sizeOf9
  v9 := Tryz.zeroValue9
  t21 := Tryz.underlying21
  a21 := Tryz.isAgg21
  z21 := Tryz.sizeOf21
  v21 := Tryz.zeroValue21
  t46 := Tryz.underlying218
  a46 := Tryz.isAgg218
  z46 := Tryz.sizeOf218
  v46 := Tryz.zeroValue218
  t105 := Tryz.underlying233
  a105 := Tryz.isAgg233
  z105 := Tryz.sizeOf233
  v105 := Tryz.zeroValue233
  t119 := Tryz.underlying156
  a119 := Tryz.isAgg156
  z119 := Tryz.sizeOf156
  t138 := Tryz.underlying270
  a138 := Tryz.isAgg270
  z138 := Tryz.sizeOf270
  v138 := Tryz.zeroValue270
  t139 := Tryz.underlying271
  a139 := Tryz.isAgg271
  z139 := Tryz.sizeOf271
  v139 := Tryz.zeroValue271
  g3 := by kernel_rfl
  g4 := by kernel_rfl }
open Go.RowKit Go.Lib in
theorem Tryz.utf8_DecodeLastRuneInString (s : ByteArray) (w : World) (hs : s.size ≤ 9223372036854775807) (hT : Lib.Utf8Tabs 7 8 w) :
    Calls Tryz.prog 206 #[.string s] w fun e w' => e = .returned (.tuple #[.int .i32 (Lib.decodeLastL s.data.toList).1, .int .i64 (Lib.decodeLastL s.data.toList).2]) ∧ Below w.heap.size w w' := Any.utf8_DecodeLastRuneInString Tryz.lays271 s w hs hT
end Go.Proofs
namespace Go.Proofs.YtoddjlclpnoomaaGreatDoor
open Go.Sh
attribute [go_sem] Bo Pk
@[go_sem ↓] theorem cells_str (l : List UInt8) : (str l).cells = #[str l] := rfl
variable (w : World)
@[go_sem ↓] theorem lenS (a : TypeId) (l : List UInt8) : (Builtin.len_ #[9] a #[str l]).run Tryz.prog w = .ok (.int .i64 l.length) w := by simp [go_sem, str]
@[go_sem ↓] theorem eqS (cx cy : Bool) (l m : List UInt8) : (Bo .eql 9 cx cy (str l) (str m)).run Tryz.prog w = .ok (.bool (l == m)) w := by simp [go_sem, str, Bo]
@[go_sem ↓] theorem neS (cx cy : Bool) (l m : List UInt8) : (Bo .neq 9 cx cy (str l) (str m)).run Tryz.prog w = .ok (.bool (!(l == m))) w := by simp [go_sem, str, Bo]
@[go_sem ↓] theorem eqS1 (cx cy : Bool) (l m : List UInt8) : (Bo .eql 9 cx cy (str l) (.string ⟨m.toArray⟩)).run Tryz.prog w = .ok (.bool (l == m)) w := eqS w cx cy l m
@[go_sem ↓] theorem neS1 (cx cy : Bool) (l m : List UInt8) : (Bo .neq 9 cx cy (str l) (.string ⟨m.toArray⟩)).run Tryz.prog w = .ok (.bool (!(l == m))) w := neS w cx cy l m
theorem idxS (l : List UInt8) (i : Nat) (h : i < l.length) : (Instr.index 9 (str l) (.int .i64 i)).run Tryz.prog w = .ok (.int .u8 (l[i]).toNat) w := by
 simp [go_sem, str, h]; rfl
theorem fromS (l : List UInt8) (i : Nat) (h : i ≤ l.length) : (Instr.sliceAt 9 (str l) (some (.int .i64 i)) none none).run Tryz.prog w = .ok (str (l.drop i)) w := by
 simp [go_sem, str, h]
 rw [show ({ data := l.toArray } : ByteArray).extract i l.length = { data := (l.drop i).toArray } from by
   simp [ByteArray.extract_mk]
   exact List.take_of_length_le (by simp)]
theorem toS (l : List UInt8) (i : Nat) (h : i ≤ l.length) : (Instr.sliceAt 9 (str l) none (some (.int .i64 i)) none).run Tryz.prog w = .ok (str (l.take i)) w := by
 simp [go_sem, str, h]
 rw [show ({ data := l.toArray } : ByteArray).extract 0 i = { data := (l.take i).toArray } from by
   simp [ByteArray.extract_mk]]
theorem addS (cx cy : Bool) (l m : List UInt8) (h : l.length + m.length ≤ 9223372036854775807) : (Bo .add 9 cx cy (str l) (str m)).run Tryz.prog w = .ok (str (l ++ m)) w := by
 have h' : ¬ 9223372036854775807 < l.length + m.length := by omega
 simp [go_sem, str, Bo, h']
 rfl
theorem sl73 {b o n c : Nat} (h : 1 < n) (h2 : n ≤ c) : (Instr.sliceAt 73 (.slice (some ⟨b, o, none⟩) n c) (some (.int .i64 1)) none none).run Tryz.prog w = .ok (.slice (some ⟨b, o + 4, none⟩) (n - 1) (c - 1)) w := by
 have h3 : (1 : Int) ≤ n := by omega
 have h4 : ¬ c = 1 := by omega
 simp [go_sem, h3, h4]
theorem ix45 {b n c k : Nat} (h : k < n) : (Instr.indexAt 45 (.slice (some ⟨b, 0, none⟩) n c) (.int .i64 k)).run Tryz.prog w = .ok (.pointer (some ⟨b, k, none⟩)) w := by
 have : (k : Int) < n := by omega
 simp [go_sem, h, Addr.add]
 rintro rfl; rfl
theorem addI (t : TypeId) (cx cy : Bool) (a b : Int) (h : -9223372036854775808 ≤ a + b) (h' : a + b ≤ 9223372036854775807) : (Bo .add t cx cy (.int .i64 a) (.int .i64 b)).run Tryz.prog w = .ok (.int .i64 (a + b)) w := by
 simp [go_sem, Bo]; rw [IntWalk.i64_in _ (by omega)]
theorem subI (t : TypeId) (cx cy : Bool) (a b : Int) (h : -9223372036854775808 ≤ a - b) (h' : a - b ≤ 9223372036854775807) : (Bo .sub t cx cy (.int .i64 a) (.int .i64 b)).run Tryz.prog w = .ok (.int .i64 (a - b)) w := by
 simp [go_sem, Bo]; rw [IntWalk.i64_in _ (by omega)]
end Go.Proofs.YtoddjlclpnoomaaGreatDoor

namespace Go.Proofs.YtoddjlclpnoomaaGreatDoor
open Go.Sh
inductive Tr where
  | nil
  | hole
  | cons (a b : Tr)
  | ex (kind n : Int) (text : List UInt8) (l r keys args : Tr) (params : List (List UInt8)) (body : Tr)
  | st (kind : Int) (name : List UInt8) (l r tt1 a b : Tr)
inductive Md where
  | P (v : Value)
  | L (v : Value)
  | E (b o n : Nat)
def ptr (b : Nat) : Value := .pointer (some ⟨b, 0, none⟩)
def Strs (F : Nat → Prop) (w : World) (v : Value) (ss : List (List UInt8)) : Prop :=
  (v = .slice none 0 0 ∧ ss = []) ∨ ∃ b c cs, v = .slice (some ⟨b, 0, none⟩) ss.length c ∧ F b ∧ At w b cs ∧ cs.take ss.length = ss.map str ∧ ss.length ≤ c
def Rep (F : Nat → Prop) (w : World) : Tr → Md → Prop
  | .hole, _ => True
  | .nil, .P v => v = .pointer none
  | .nil, .L v => v = .slice none 0 0 ∨ ∃ b c, v = .slice (some ⟨b, 0, none⟩) 0 c
  | .nil, .E _ _ n => n = 0
  | .cons a t, .L v => ∃ b n c u, v = .slice (some ⟨b, 0, none⟩) (n + 1) c ∧ n + 1 ≤ c ∧ F b ∧ w.cell? ⟨b, 0, none⟩ = some u ∧ Rep F w a (.P u) ∧ Rep F w t (.E b 1 n)
  | .cons a t, .E b o n => ∃ m u, n = m + 1 ∧ w.cell? ⟨b, o, none⟩ = some u ∧ F b ∧ Rep F w a (.P u) ∧ Rep F w t (.E b (o + 1) m)
  | .ex k n text l r keys args params body, .P v => ∃ b line lv rv kv av pv bv, v = ptr b ∧ F b ∧
      At w b [.int .i64 k, .int .i64 line, .int .i64 n, str text, lv, rv, kv, av, pv, bv] ∧
      Rep F w l (.P lv) ∧ Rep F w r (.P rv) ∧ Rep F w keys (.L kv) ∧ Rep F w args (.L av) ∧ Strs F w pv params ∧ Rep F w body (.L bv)
  | .st k name l r tt1 a b, .P v => ∃ c line lv rv tv av bv, v = ptr c ∧ F c ∧
      At w c [.int .i64 k, .int .i64 line, str name, lv, rv, tv, av, bv] ∧
      Rep F w l (.P lv) ∧ Rep F w r (.P rv) ∧ Rep F w tt1 (.P tv) ∧ Rep F w a (.L av) ∧ Rep F w b (.L bv)
  | _, _ => False
theorem cell_lt {w : World} {a : Addr} {v : Value} (hc : w.cell? a = some v) : a.block < w.heap.size := by
 unfold World.cell? at hc; rcases Nat.lt_or_ge a.block w.heap.size with h' | h'
 · exact h'
 · rw [Array.getElem?_eq_none h'] at hc; cases hc
theorem Strs.keep {F G : Nat → Prop} {w w' : World} {M : List Nat} (hk : Keep M w w') (hM : ∀ b, F b → b < w.heap.size → b ∉ M ∧ G b) {v : Value} {ss : List (List UInt8)}
   (h : Strs F w v ss) : Strs G w' v ss := by
 rcases h with h | ⟨b, c, cs, h1, h2, h3, h4⟩
 · exact .inl h
 · exact .inr ⟨b, c, cs, h1, (hM b h2 h3.lt).2, hk.at h3 (hM b h2 h3.lt).1, h4⟩
theorem Rep.keep {F G : Nat → Prop} {w w' : World} {M : List Nat} (hk : Keep M w w') (hM : ∀ b, F b → b < w.heap.size → b ∉ M ∧ G b) :
   ∀ (t : Tr) (m : Md), Rep F w t m → Rep G w' t m := by
 intro t; induction t with
 | hole => intro m _; cases m <;> trivial
 | nil => intro m h; cases m <;> exact h
 | cons a t iha iht =>
   intro m h
   cases m with
   | P v => exact h
   | L v =>
     obtain ⟨b, n, c, u, h1, h2, h3, h4, h5, h6⟩ := h; have := hM b h3 (cell_lt h4); exact ⟨b, n, c, u, h1, h2, this.2, hk.cell h4 this.1, iha _ h5, iht _ h6⟩
   | E b o n =>
     obtain ⟨m, u, h1, h2, h3, h4, h5⟩ := h; have := hM b h3 (cell_lt h2); exact ⟨m, u, h1, hk.cell h2 this.1, this.2, iha _ h4, iht _ h5⟩
 | ex k n text l r keys args params body ihl ihr ihk iha ihb =>
   intro m h
   cases m with
   | P v =>
     obtain ⟨b, line, lv, rv, kv, av, pv, bv, h1, h2, h3, h4, h5, h6, h7, h8, h9⟩ := h; have := hM b h2 h3.lt; exact ⟨b, line, lv, rv, kv, av, pv, bv, h1, this.2, hk.at h3 this.1, ihl _ h4, ihr _ h5, ihk _ h6, iha _ h7, h8.keep hk hM, ihb _ h9⟩
   | L v => exact h
   | E b o n => exact h
 | st k name l r tt1 a b ihl ihr iht iha ihb =>
   intro m h
   cases m with
   | P v =>
     obtain ⟨c, line, lv, rv, tv, av, bv, h1, h2, h3, h4, h5, h6, h7, h8⟩ := h; have := hM c h2 h3.lt; exact ⟨c, line, lv, rv, tv, av, bv, h1, this.2, hk.at h3 this.1, ihl _ h4, ihr _ h5, iht _ h6, iha _ h7, ihb _ h8⟩
   | L v => exact h
   | E b o n => exact h
theorem Rep.imp {F G : Nat → Prop} {w : World} (hM : ∀ b, F b → b < w.heap.size → G b) (t : Tr) (m : Md) (h : Rep F w t m) : Rep G w t m :=
  Rep.keep (Keep.refl [] w) (fun b h1 h2 => ⟨by simp, hM b h1 h2⟩) t m h
theorem Rep.new {F : Nat → Prop} {w w' : World} (hk : Keep [] w w') (t : Tr) (m : Md) (h : Rep F w t m) : Rep F w' t m :=
  Rep.keep hk (fun b h1 h2 => ⟨by simp, h1⟩) t m h
def snoc : Tr → Tr → Tr
  | .cons a t, x => .cons a (snoc t x)
  | _, x => .cons x .nil
def isList : Tr → Bool
  | .nil => true
  | .cons _ t => isList t
  | _ => false
def len : Tr → Nat
  | .cons _ t => len t + 1
  | _ => 0
theorem rep_row {F : Nat → Prop} {w : World} : ∀ (t : Tr) (b o n : Nat), isList t = true → Rep F w t (.E b o n) → n = len t
  | .nil, b, o, n, _, h => h
  | .cons a t, b, o, n, hl, ⟨m, u, h1, _, _, _, h5⟩ => by rw [h1, rep_row t b (o + 1) m hl h5]; rfl
end Go.Proofs.YtoddjlclpnoomaaGreatDoor

import Derived.KernelRfl
import Derived.Laws.EntriesVeiled
import Derived.Test.YtoddjlclpnoomaaGreatDoorProg
import Derived.WalkLawsBesides
import Derived.Test.YtoddjlclpnoomaaGreatDoorV2
set_option linter.unusedVariables false
set_option linter.unusedSimpArgs false
set_option maxRecDepth 100000
namespace Go.Proofs.YtoddjlclpnoomaaGreatDoor
open Go.Sh
theorem mixed : Tryz.prog.follows .mixedOrders = true := by kernel_rfl
theorem one1 : One Tryz.prog 1 := by intro a w v h; simp [go_sem, h]
theorem ones1 (v : Value) (hv : Sc v = true) : OneS Tryz.prog 1 v := by
 intro a w u h hf; cases v <;> first | (simp [go_sem, h, hf]; done) | cases hv
theorem one2 : One Tryz.prog 2 := by intro a w v h; simp [go_sem, h]
theorem ones2 (v : Value) (hv : Sc v = true) : OneS Tryz.prog 2 v := by
 intro a w u h hf; cases v <;> first | (simp [go_sem, h, hf]; done) | cases hv
theorem one3 : One Tryz.prog 3 := by intro a w v h; simp [go_sem, h]
theorem ones3 (v : Value) (hv : Sc v = true) : OneS Tryz.prog 3 v := by
 intro a w u h hf; cases v <;> first | (simp [go_sem, h, hf]; done) | cases hv
theorem one4 : One Tryz.prog 4 := by intro a w v h; simp [go_sem, h]
theorem ones4 (v : Value) (hv : Sc v = true) : OneS Tryz.prog 4 v := by
 intro a w u h hf; cases v <;> first | (simp [go_sem, h, hf]; done) | cases hv
theorem one5 : One Tryz.prog 5 := by intro a w v h; simp [go_sem, h]
theorem ones5 (v : Value) (hv : Sc v = true) : OneS Tryz.prog 5 v := by
 intro a w u h hf; cases v <;> first | (simp [go_sem, h, hf]; done) | cases hv
theorem one9 : One Tryz.prog 9 := by intro a w v h; simp [go_sem, h]
theorem ones9 (v : Value) (hv : Sc v = true) : OneS Tryz.prog 9 v := by
 intro a w u h hf; cases v <;> first | (simp [go_sem, h, hf]; done) | cases hv
theorem one22 : One Tryz.prog 22 := by intro a w v h; simp [go_sem, h]
theorem ones22 (v : Value) (hv : Sc v = true) : OneS Tryz.prog 22 v := by
 intro a w u h hf; cases v <;> first | (simp [go_sem, h, hf]; done) | cases hv
theorem one23 : One Tryz.prog 23 := by intro a w v h; simp [go_sem, h]
theorem ones23 (v : Value) (hv : Sc v = true) : OneS Tryz.prog 23 v := by
 intro a w u h hf; cases v <;> first | (simp [go_sem, h, hf]; done) | cases hv
theorem one26 : One Tryz.prog 26 := by intro a w v h; simp [go_sem, h]
theorem ones26 (v : Value) (hv : Sc v = true) : OneS Tryz.prog 26 v := by
 intro a w u h hf; cases v <;> first | (simp [go_sem, h, hf]; done) | cases hv
theorem one31 : One Tryz.prog 31 := by intro a w v h; simp [go_sem, h]
theorem ones31 (v : Value) (hv : Sc v = true) : OneS Tryz.prog 31 v := by
 intro a w u h hf; cases v <;> first | (simp [go_sem, h, hf]; done) | cases hv
theorem one40 : One Tryz.prog 40 := by intro a w v h; simp [go_sem, h]
theorem ones40 (v : Value) (hv : Sc v = true) : OneS Tryz.prog 40 v := by
 intro a w u h hf; cases v <;> first | (simp [go_sem, h, hf]; done) | cases hv
theorem one41 : One Tryz.prog 41 := by intro a w v h; simp [go_sem, h]
theorem ones41 (v : Value) (hv : Sc v = true) : OneS Tryz.prog 41 v := by
 intro a w u h hf; cases v <;> first | (simp [go_sem, h, hf]; done) | cases hv
theorem one44 : One Tryz.prog 44 := by intro a w v h; simp [go_sem, h]
theorem ones44 (v : Value) (hv : Sc v = true) : OneS Tryz.prog 44 v := by
 intro a w u h hf; cases v <;> first | (simp [go_sem, h, hf]; done) | cases hv
theorem one45 : One Tryz.prog 45 := by intro a w v h; simp [go_sem, h]
theorem ones45 (v : Value) (hv : Sc v = true) : OneS Tryz.prog 45 v := by
 intro a w u h hf; cases v <;> first | (simp [go_sem, h, hf]; done) | cases hv
theorem one51 : One Tryz.prog 51 := by intro a w v h; simp [go_sem, h]
theorem ones51 (v : Value) (hv : Sc v = true) : OneS Tryz.prog 51 v := by
 intro a w u h hf; cases v <;> first | (simp [go_sem, h, hf]; done) | cases hv
theorem one52 : One Tryz.prog 52 := by intro a w v h; simp [go_sem, h]
theorem ones52 (v : Value) (hv : Sc v = true) : OneS Tryz.prog 52 v := by
 intro a w u h hf; cases v <;> first | (simp [go_sem, h, hf]; done) | cases hv
theorem one73 : One Tryz.prog 73 := by intro a w v h; simp [go_sem, h]
theorem ones73 (v : Value) (hv : Sc v = true) : OneS Tryz.prog 73 v := by
 intro a w u h hf; cases v <;> first | (simp [go_sem, h, hf]; done) | cases hv
theorem one79 : One Tryz.prog 79 := by intro a w v h; simp [go_sem, h]
theorem ones79 (v : Value) (hv : Sc v = true) : OneS Tryz.prog 79 v := by
 intro a w u h hf; cases v <;> first | (simp [go_sem, h, hf]; done) | cases hv
theorem one80 : One Tryz.prog 80 := by intro a w v h; simp [go_sem, h]
theorem ones80 (v : Value) (hv : Sc v = true) : OneS Tryz.prog 80 v := by
 intro a w u h hf; cases v <;> first | (simp [go_sem, h, hf]; done) | cases hv
theorem one95 : One Tryz.prog 95 := by intro a w v h; simp [go_sem, h]
theorem ones95 (v : Value) (hv : Sc v = true) : OneS Tryz.prog 95 v := by
 intro a w u h hf; cases v <;> first | (simp [go_sem, h, hf]; done) | cases hv
theorem one118 : One Tryz.prog 118 := by intro a w v h; simp [go_sem, h]
theorem ones118 (v : Value) (hv : Sc v = true) : OneS Tryz.prog 118 v := by
 intro a w u h hf; cases v <;> first | (simp [go_sem, h, hf]; done) | cases hv
theorem one190 : One Tryz.prog 190 := by intro a w v h; simp [go_sem, h]
theorem ones190 (v : Value) (hv : Sc v = true) : OneS Tryz.prog 190 v := by
 intro a w u h hf; cases v <;> first | (simp [go_sem, h, hf]; done) | cases hv
theorem one192 : One Tryz.prog 192 := by intro a w v h; simp [go_sem, h]
theorem ones192 (v : Value) (hv : Sc v = true) : OneS Tryz.prog 192 v := by
 intro a w u h hf; cases v <;> first | (simp [go_sem, h, hf]; done) | cases hv
theorem one205 : One Tryz.prog 205 := by intro a w v h; simp [go_sem, h]
theorem ones205 (v : Value) (hv : Sc v = true) : OneS Tryz.prog 205 v := by
 intro a w u h hf; cases v <;> first | (simp [go_sem, h, hf]; done) | cases hv
theorem one220 : One Tryz.prog 220 := by intro a w v h; simp [go_sem, h]
theorem ones220 (v : Value) (hv : Sc v = true) : OneS Tryz.prog 220 v := by
 intro a w u h hf; cases v <;> first | (simp [go_sem, h, hf]; done) | cases hv
theorem one221 : One Tryz.prog 221 := by intro a w v h; simp [go_sem, h]
theorem ones221 (v : Value) (hv : Sc v = true) : OneS Tryz.prog 221 v := by
 intro a w u h hf; cases v <;> first | (simp [go_sem, h, hf]; done) | cases hv
theorem one224 : One Tryz.prog 224 := by intro a w v h; simp [go_sem, h]
theorem ones224 (v : Value) (hv : Sc v = true) : OneS Tryz.prog 224 v := by
 intro a w u h hf; cases v <;> first | (simp [go_sem, h, hf]; done) | cases hv
def oneCell (t : Nat) : Bool := [1, 2, 3, 4, 5, 9, 22, 23, 26, 31, 40, 41, 44, 45, 51, 52, 73, 79, 80, 95, 118, 190, 192, 205, 220, 221, 224].contains t
theorem oneAll {t : Nat} (h : oneCell t = true) : One Tryz.prog t := by
 simp only [oneCell, List.contains_eq_mem, List.mem_cons, List.not_mem_nil, or_false, decide_eq_true_eq] at h; rcases h with rfl | rfl | rfl | rfl | rfl | rfl | rfl | rfl | rfl | rfl | rfl | rfl | rfl | rfl | rfl | rfl | rfl | rfl | rfl | rfl | rfl | rfl | rfl | rfl | rfl | rfl | rfl
 · exact one1
 · exact one2
 · exact one3
 · exact one4
 · exact one5
 · exact one9
 · exact one22
 · exact one23
 · exact one26
 · exact one31
 · exact one40
 · exact one41
 · exact one44
 · exact one45
 · exact one51
 · exact one52
 · exact one73
 · exact one79
 · exact one80
 · exact one95
 · exact one118
 · exact one190
 · exact one192
 · exact one205
 · exact one220
 · exact one221
 · exact one224
theorem onesAll {t : Nat} {v : Value} (h : oneCell t = true) (hv : Sc v = true) : OneS Tryz.prog t v := by
 simp only [oneCell, List.contains_eq_mem, List.mem_cons, List.not_mem_nil, or_false, decide_eq_true_eq] at h; rcases h with rfl | rfl | rfl | rfl | rfl | rfl | rfl | rfl | rfl | rfl | rfl | rfl | rfl | rfl | rfl | rfl | rfl | rfl | rfl | rfl | rfl | rfl | rfl | rfl | rfl | rfl | rfl
 · exact ones1 v hv
 · exact ones2 v hv
 · exact ones3 v hv
 · exact ones4 v hv
 · exact ones5 v hv
 · exact ones9 v hv
 · exact ones22 v hv
 · exact ones23 v hv
 · exact ones26 v hv
 · exact ones31 v hv
 · exact ones40 v hv
 · exact ones41 v hv
 · exact ones44 v hv
 · exact ones45 v hv
 · exact ones51 v hv
 · exact ones52 v hv
 · exact ones73 v hv
 · exact ones79 v hv
 · exact ones80 v hv
 · exact ones95 v hv
 · exact ones118 v hv
 · exact ones190 v hv
 · exact ones192 v hv
 · exact ones205 v hv
 · exact ones220 v hv
 · exact ones221 v hv
 · exact ones224 v hv
theorem ldc86 (w : World) (b o : Nat) (v0 v1 v2 v3 : Value) (h0 : w.cell? ⟨b, o, none⟩ = some v0) (h1 : w.cell? ⟨b, o + 1, none⟩ = some v1) (h2 : w.cell? ⟨b, o + 2, none⟩ = some v2) (h3 : w.cell? ⟨b, o + 3, none⟩ = some v3) : (Instr.loadAt 86 (.pointer (some ⟨b, o, none⟩))).run Tryz.prog w = .ok (.agg #[v0, v1, v2, v3]) w := by simp [go_sem, *]
theorem al1 (w : World) : (Instr.alloc 1 true (.tuple #[])).run Tryz.prog w = .ok (.pointer (some ⟨w.heap.size, 0, none⟩)) (w.alloc (.cells #[.nilFunc] 1)) := by kernel_rfl
theorem al9 (w : World) : (Instr.alloc 9 true (.tuple #[])).run Tryz.prog w = .ok (.pointer (some ⟨w.heap.size, 0, none⟩)) (w.alloc (.cells #[.string ⟨#[]⟩] 9)) := by kernel_rfl
theorem al23 (w : World) : (Instr.alloc 23 true (.tuple #[])).run Tryz.prog w = .ok (.pointer (some ⟨w.heap.size, 0, none⟩)) (w.alloc (.cells #[.int .i64 0] 23)) := by kernel_rfl
theorem al26 (w : World) : (Instr.alloc 26 true (.tuple #[])).run Tryz.prog w = .ok (.pointer (some ⟨w.heap.size, 0, none⟩)) (w.alloc (.cells #[.slice none 0 0] 26)) := by kernel_rfl
theorem al31 (w : World) : (Instr.alloc 31 true (.tuple #[])).run Tryz.prog w = .ok (.pointer (some ⟨w.heap.size, 0, none⟩)) (w.alloc (.cells #[.nilIface] 31)) := by kernel_rfl
theorem al41 (w : World) : (Instr.alloc 41 true (.tuple #[])).run Tryz.prog w = .ok (.pointer (some ⟨w.heap.size, 0, none⟩)) (w.alloc (.cells #[.pointer none] 41)) := by kernel_rfl
theorem al49 (w : World) : (Instr.alloc 49 true (.tuple #[])).run Tryz.prog w = .ok (.pointer (some ⟨w.heap.size, 0, none⟩)) (w.alloc (.cells #[.int .i64 0] 49)) := by kernel_rfl
theorem al54 (w : World) : (Instr.alloc 54 true (.tuple #[])).run Tryz.prog w = .ok (.pointer (some ⟨w.heap.size, 0, none⟩)) (w.alloc (.cells #[.pointer none, .slice none 0 0] 54)) := by kernel_rfl
theorem al86 (w : World) : (Instr.alloc 86 true (.tuple #[])).run Tryz.prog w = .ok (.pointer (some ⟨w.heap.size, 0, none⟩)) (w.alloc (.cells #[.int .i64 0, .string ⟨#[]⟩, .int .i64 0, .int .i64 0] 86)) := by kernel_rfl
theorem al118 (w : World) : (Instr.alloc 118 true (.tuple #[])).run Tryz.prog w = .ok (.pointer (some ⟨w.heap.size, 0, none⟩)) (w.alloc (.cells #[.int .i64 0] 118)) := by kernel_rfl
theorem al149 (w : World) : (Instr.alloc 149 true (.tuple #[])).run Tryz.prog w = .ok (.pointer (some ⟨w.heap.size, 0, none⟩)) (w.alloc (.cells #[.pointer none, .pointer none, .int .u64 0] 149)) := by kernel_rfl
theorem al168 (w : World) : (Instr.alloc 168 true (.tuple #[])).run Tryz.prog w = .ok (.pointer (some ⟨w.heap.size, 0, none⟩)) (w.alloc (.cells #[.string ⟨#[]⟩, .string ⟨#[]⟩, .string ⟨#[]⟩, .string ⟨#[]⟩, .string ⟨#[]⟩, .string ⟨#[]⟩] 168)) := by kernel_rfl
theorem al169 (w : World) : (Instr.alloc 169 true (.tuple #[])).run Tryz.prog w = .ok (.pointer (some ⟨w.heap.size, 0, none⟩)) (w.alloc (.cells #[.string ⟨#[]⟩, .string ⟨#[]⟩, .string ⟨#[]⟩, .string ⟨#[]⟩, .string ⟨#[]⟩] 169)) := by kernel_rfl
theorem al203 (w : World) : (Instr.alloc 203 true (.tuple #[])).run Tryz.prog w = .ok (.pointer (some ⟨w.heap.size, 0, none⟩)) (w.alloc (.cells #[.string ⟨#[]⟩, .string ⟨#[]⟩, .string ⟨#[]⟩, .string ⟨#[]⟩, .string ⟨#[]⟩, .string ⟨#[]⟩, .string ⟨#[]⟩, .string ⟨#[]⟩, .string ⟨#[]⟩, .string ⟨#[]⟩, .string ⟨#[]⟩, .string ⟨#[]⟩, .string ⟨#[]⟩, .string ⟨#[]⟩, .string ⟨#[]⟩, .string ⟨#[]⟩, .string ⟨#[]⟩, .string ⟨#[]⟩] 203)) := by kernel_rfl
theorem al235 (w : World) : (Instr.alloc 235 true (.tuple #[])).run Tryz.prog w = .ok (.pointer (some ⟨w.heap.size, 0, none⟩)) (w.alloc (.cells #[.string ⟨#[]⟩, .string ⟨#[]⟩, .string ⟨#[]⟩, .string ⟨#[]⟩, .string ⟨#[]⟩, .string ⟨#[]⟩, .string ⟨#[]⟩, .string ⟨#[]⟩, .string ⟨#[]⟩, .string ⟨#[]⟩] 235)) := by kernel_rfl
theorem bx9 (w : World) (v : Value) : (Instr.box 9 v).run Tryz.prog w = .ok (.pointer (some ⟨w.heap.size, 0, none⟩)) (w.alloc (.cells v.cells 9)) := by simp [go_sem]
theorem bx40 (w : World) (v : Value) : (Instr.box 40 v).run Tryz.prog w = .ok (.pointer (some ⟨w.heap.size, 0, none⟩)) (w.alloc (.cells v.cells 40)) := by simp [go_sem]
theorem bx41 (w : World) (v : Value) : (Instr.box 41 v).run Tryz.prog w = .ok (.pointer (some ⟨w.heap.size, 0, none⟩)) (w.alloc (.cells v.cells 41)) := by simp [go_sem]
theorem bx43 (w : World) (v : Value) : (Instr.box 43 v).run Tryz.prog w = .ok (.pointer (some ⟨w.heap.size, 0, none⟩)) (w.alloc (.cells v.cells 43)) := by simp [go_sem]
theorem bx47 (w : World) (v : Value) : (Instr.box 47 v).run Tryz.prog w = .ok (.pointer (some ⟨w.heap.size, 0, none⟩)) (w.alloc (.cells v.cells 47)) := by simp [go_sem]
theorem bx51 (w : World) (v : Value) : (Instr.box 51 v).run Tryz.prog w = .ok (.pointer (some ⟨w.heap.size, 0, none⟩)) (w.alloc (.cells v.cells 51)) := by simp [go_sem]
theorem bx56 (w : World) (v : Value) : (Instr.box 56 v).run Tryz.prog w = .ok (.pointer (some ⟨w.heap.size, 0, none⟩)) (w.alloc (.cells v.cells 56)) := by simp [go_sem]
theorem bx63 (w : World) (v : Value) : (Instr.box 63 v).run Tryz.prog w = .ok (.pointer (some ⟨w.heap.size, 0, none⟩)) (w.alloc (.cells v.cells 63)) := by simp [go_sem]
theorem bx69 (w : World) (v : Value) : (Instr.box 69 v).run Tryz.prog w = .ok (.pointer (some ⟨w.heap.size, 0, none⟩)) (w.alloc (.cells v.cells 69)) := by simp [go_sem]
theorem bx79 (w : World) (v : Value) : (Instr.box 79 v).run Tryz.prog w = .ok (.pointer (some ⟨w.heap.size, 0, none⟩)) (w.alloc (.cells v.cells 79)) := by simp [go_sem]
theorem bx83 (w : World) (v : Value) : (Instr.box 83 v).run Tryz.prog w = .ok (.pointer (some ⟨w.heap.size, 0, none⟩)) (w.alloc (.cells v.cells 83)) := by simp [go_sem]
theorem bx149 (w : World) (v : Value) : (Instr.box 149 v).run Tryz.prog w = .ok (.pointer (some ⟨w.heap.size, 0, none⟩)) (w.alloc (.cells v.cells 149)) := by simp [go_sem]
@[go_sem ↓] theorem fd78_0 (w : World) (v0 : Value) : (Instr.field 78 (.agg #[v0]) 0).run Tryz.prog w = .ok v0 w := by kernel_rfl
@[go_sem ↓] theorem fd86_0 (w : World) (v0 v1 v2 v3 : Value) : (Instr.field 86 (.agg #[v0, v1, v2, v3]) 0).run Tryz.prog w = .ok v0 w := by kernel_rfl
@[go_sem ↓] theorem fd86_1 (w : World) (v0 v1 v2 v3 : Value) : (Instr.field 86 (.agg #[v0, v1, v2, v3]) 1).run Tryz.prog w = .ok v1 w := by kernel_rfl
@[go_sem ↓] theorem fd86_3 (w : World) (v0 v1 v2 v3 : Value) : (Instr.field 86 (.agg #[v0, v1, v2, v3]) 3).run Tryz.prog w = .ok v3 w := by kernel_rfl
section
variable (R : Ending → World → Prop)
abbrev v1 (s : Sem Value) (w : World) (k : Value → World → Prop) : Prop := V1 Tryz.prog s w k (pn R)
abbrev u1 (s : Sem Unit) (w : World) (k : World → Prop) : Prop := U1 Tryz.prog s w k (pn R)
abbrev up (s : Sem Next) (w : World) (k : Value → World → Prop) : Prop := Up Tryz.prog s w k (pn R)
abbrev cf (f : FuncId) (args : Array Value) (w : World) (k : Value → World → Prop) : Prop := Cf Tryz.prog f args w k (pn R)
end
abbrev t0 : World → Prop := fun _ => True
abbrev xw (S : World → Prop) (s : Sem Value) (k : Value → Prop) : Prop := Xw Tryz.prog S s k
abbrev xs (S : World → Prop) (s : Sem Next) (k : Value → Prop) : Prop := Xs Tryz.prog S s k
abbrev xv (C : World → Prop) (s : Sem Value) (k : Value → Prop) : Prop := Xv Tryz.prog C s k
abbrev xq (C : World → Prop) (s : Sem Next) (k : Value → Prop) : Prop := Xq Tryz.prog C s k
abbrev CfT (n : FuncId) : Prop := ∀ {args : Array Value} {w : World} {k Q : Value → World → Prop} {e E : List PanicEntry → World → Prop}, Calls Tryz.prog n args w (Ret Q E) → (∀ v w', Q v w' → k v w') → (∀ c w', E c w' → e c w') → Cf Tryz.prog n args w k e
set_option maxRecDepth 100000 in
theorem CfT.mk {n : FuncId} {fn : Func} {c : Code} (h1 : Tryz.prog.funcs[n]? = some fn) (h2 : fn.body = some c) (h3 : (fn.name == "runtime.NumGoroutine") = false) : CfT n := by
  intro args w k Q e E h hk he; exact Cf.go (callFunc_run h1 h2 h3 args w) h hk he
end Go.Proofs.YtoddjlclpnoomaaGreatDoor


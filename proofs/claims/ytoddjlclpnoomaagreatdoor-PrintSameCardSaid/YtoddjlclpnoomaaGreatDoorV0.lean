import Derived.Deep.Quiet
import Derived.OrdersHeld
import Derived.ScopeJumps
import Derived.WalkKit
set_option linter.unusedVariables false
set_option linter.unusedSimpArgs false
set_option maxRecDepth 100000
namespace Go.Sh
abbrev Env := List (Nat × Value)
def Env.has (ρ : Env) (t : Nat) : Bool := (List.lookup t ρ).isSome
def Env.at (ρ : Env) (t : Nat) : Value := (List.lookup t ρ).getD undef
def Env.ev (ρ : Env) : Operand → Value
  | .tmp t => ρ.at t
  | .const v => v
  | .global g => .pointer (some ⟨g, 0, none⟩)
  | .func f => .func (.func f) #[] #[]
def Env.knows (ρ : Env) : Operand → Bool
  | .tmp t => ρ.has t
  | _ => true
structure Dm where
  D : Type
  get : D → List Deferred
  back : List Deferred → D
  push : Option (Deferred → D → D)
  back_get : ∀ d, back (get d) = d
  get_push : ∀ f, push = some f → ∀ x d, get (f x d) = x :: get d
def Dm.no : Dm := ⟨Unit, fun _ => [], fun _ => (), none, fun _ => rfl, fun _ h => by cases h⟩
def Dm.yes : Dm := ⟨List Deferred, id, id, some List.cons, fun _ => rfl, fun f h x d => by cases h; rfl⟩
inductive OpS where
  | now (v : Value)
  | val (s : Sem Value)
  | unit (s : Sem Unit)
  | nxt (s : Sem Next)
  | call (k : FuncId) (args : Array Value)
  | dfr (s : Sem Deferred)
def OpS.toNext : OpS → Sem Next
  | .now v => pure (.value v)
  | .val s => do pure (.value (← s))
  | .unit s => do s; pure .skip
  | .nxt s => s
  | .call k args => callFunc k args
  | .dfr s => do pure (.defer (← s))
def Bo (op : BinOp) (t : TypeId) (cx cy : Bool) (a b : Value) : Sem Value := do
  eqGuard op t (if cx then .const undef else .tmp 0) (if cy then .const undef else .tmp 0) a b; binOp op t a b
def Nc (v : Value) : Sem Next := execOp (fun _ => v) { dst := none, op := .nilCheck (.tmp 0), type := 0, pos := "", after := #[], guard := none }
def Pk (c a b : Value) : Sem Value := do pure (if ← asBool c then a else b)
def Cv (f : Value) (args : Array Value) : Sem Next := do let d ← Deferred.ofValue f args; invoke d.target d.args
def isC : Operand → Bool | .const _ => true | _ => false
def evs (ev : Operand → Value) (l : Array Operand) : Array Value := (l.toList.map ev).toArray
def evp (ev : Operand → Value) (l : Array (Nat × Operand)) : Array (Nat × Value) := (l.toList.map fun p => (p.1, ev p.2)).toArray
def opS (ev : Operand → Value) (o : Oper) : OpS :=
  match o.op with
  | .move x | .assign x => .now (ev x)
  | .pick c a b => .val (Pk (ev c) (ev a) (ev b))
  | .alloc t => .val (Instr.alloc t true (.tuple #[]))
  | .box t x => .val (Instr.box t (ev x))
  | .build t ps => .val (Instr.build t (evp ev ps))
  | .buildSlice t n ps => .val (Instr.buildSlice t n (evp ev ps))
  | .load t a => .val (Instr.loadAt t (ev a))
  | .store t a x => .unit (Instr.storeAt t (ev a) (ev x))
  | .nilCheck x => .nxt (Nc (ev x))
  | .binOp op t x y _ => .val (Bo op t (isC x) (isC y) (ev x) (ev y))
  | .unOp op _ x => .val (Op.unary op (ev x))
  | .convert s t x => .val (Go.convert s t (ev x))
  | .makeInterface t x => .val (Instr.makeInterface t (ev x))
  | .makeFunc f a c => .val (Instr.makeFunc f (evs ev a) (evs ev c))
  | .makeMap t none => .val (Instr.makeMap t none)
  | .makeSlice t l c => .val (Instr.makeSlice t (ev l) (ev c))
  | .slice t x lo hi none => .val (Instr.sliceAt t (ev x) (lo.map ev) (hi.map ev) none)
  | .fieldAddr s x f => .val (Instr.fieldAt s (ev x) f)
  | .field t x f => .val (Instr.field t (ev x) f)
  | .indexAddr t x i => .val (Instr.indexAt t (ev x) (ev i))
  | .index t x i => .val (Instr.index t (ev x) (ev i))
  | .lookup t x i ok => .val (Instr.lookup t (ev x) (ev i) ok)
  | .mapUpdate t m k x | .insert t m k x => .unit (Instr.mapUpdate t (ev m) (ev k) (ev x))
  | .range t x => .val (Instr.range t (ev x))
  | .next it s => .val (Instr.next (ev it) s o.type)
  | .entry it => .val (Instr.entry (ev it))
  | .typeAssert x t u ok => .val (Instr.typeAssert (ev x) t u ok)
  | .extract t i => .val (Instr.extract (ev t) i)
  | .panic x => .val (Instr.panic (ev x))
  | .call { callee := .value (.func k), args, .. } => .call k (evs ev args)
  | .call { callee := .value f, args, .. } => .nxt (Cv (ev f) (evs ev args))
  | .call { callee := .invoke r name, args, .. } => .nxt (invoke (.fn (.method name) #[]) (#[ev r] ++ evs ev args))
  | .call { callee := .builtin .append, args, argTypes } => .val (Builtin.append_ argTypes o.type (evs ev args))
  | .call { callee := .builtin .len, args, argTypes } => .val (Builtin.len_ argTypes o.type (evs ev args))
  | .call { callee := .builtin .cap, args, argTypes } => .val (Builtin.cap_ argTypes o.type (evs ev args))
  | .call { callee := .builtin .min, args, argTypes } => .val (Builtin.min_ argTypes o.type (evs ev args))
  | .call { callee := .builtin .max, args, argTypes } => .val (Builtin.max_ argTypes o.type (evs ev args))
  | .call { callee := .builtin .copy, args, argTypes } => .val (Builtin.copy_ argTypes o.type (evs ev args))
  | .call { callee := .builtin .unsafeSliceData, args, argTypes } => .val (Builtin.unsafeSliceData_ argTypes o.type (evs ev args))
  | .call { callee := .builtin .unsafeString, args, argTypes } => .val (Builtin.unsafeString_ argTypes o.type (evs ev args))
  | .defer { callee := .value f, args, .. } => .dfr (Deferred.ofValue (ev f) (evs ev args))
  | _ => .nxt (execOp ev o)
theorem evs_eq (ev : Operand → Value) (l : Array Operand) : evs ev l = l.map ev := by
 simp [evs, ← Array.toList_map]
theorem evp_eq (ev : Operand → Value) (l : Array (Nat × Operand)) : evp ev l = l.map fun (i, x) => (i, ev x) := by
 simp [evp, ← Array.toList_map]
theorem eqGuard_shape (op : BinOp) (t : TypeId) (x y : Operand) (a b : Value) :
   eqGuard op t x y a b = eqGuard op t (if isC x then .const undef else .tmp 0) (if isC y then .const undef else .tmp 0) a b := by
 unfold eqGuard
 cases x <;> cases y <;> rfl
theorem execOp_opS (ev : Operand → Value) (hev : ∀ k, ev (.func k) = .func (.func k) #[] #[]) (o : Oper) : execOp ev o = (opS ev o).toNext := by
 obtain ⟨dst, op, type, pos, after, guard⟩ := o
 cases op with
 | move x => rfl
 | assign x => rfl
 | pick c a b => simp only [execOp, opS, OpS.toNext, Pk]; unfold asBool; cases ev c <;> rfl
 | build t ps => simp only [execOp, opS, OpS.toNext, evp_eq]
 | buildSlice t n ps => simp only [execOp, opS, OpS.toNext, evp_eq]
 | binOp op t x y u => simp only [execOp, opS, OpS.toNext, Bo]; rw [eqGuard_shape op t x y]
 | makeFunc f a c => simp only [execOp, opS, OpS.toNext, evs_eq]
 | makeMap t r => cases r <;> rfl
 | slice t x lo hi mx => cases mx <;> rfl
 | call c =>
   obtain ⟨callee, args, tys⟩ := c
   cases callee with
   | value f =>
     cases f with
     | func k =>
       simp only [execOp, opS, OpS.toNext, resolve, hev, evs_eq]; show callFunc k (#[] ++ args.map ev ++ #[]) = _
       simp
     | _ => simp only [execOp, opS, OpS.toNext, resolve, evs_eq, Cv]
   | invoke r name => simp only [execOp, opS, OpS.toNext, resolve, evs_eq]; rfl
   | builtin b => cases b <;> first | rfl | (simp only [execOp, opS, OpS.toNext, resolve, evs_eq]; rfl)
 | defer c =>
   obtain ⟨callee, args, tys⟩ := c
   cases callee with
   | value f => simp only [execOp, opS, OpS.toNext, resolve, evs_eq]
   | _ => rfl
 | _ => rfl
section
variable (P : Program)
def V1 (s : Sem Value) (w : World) (k : Value → World → Prop) (e : List PanicEntry → World → Prop) : Prop :=
  match s.run P w with
  | .ok v w' => k v w'
  | .halt (.panic v) w' => e [{ v, recovered := false }] w'
  | _ => False
def U1 (s : Sem Unit) (w : World) (k : World → Prop) (e : List PanicEntry → World → Prop) : Prop :=
  match s.run P w with
  | .ok _ w' => k w'
  | .halt (.panic v) w' => e [{ v, recovered := false }] w'
  | _ => False
def D1 (s : Sem Deferred) (w : World) (k : Deferred → World → Prop) (e : List PanicEntry → World → Prop) : Prop :=
  match s.run P w with
  | .ok v w' => k v w'
  | .halt (.panic v) w' => e [{ v, recovered := false }] w'
  | _ => False
def Ret (k : Value → World → Prop) (e : List PanicEntry → World → Prop) : Ending → World → Prop
  | .returned v, w => k v w
  | .panicked c, w => e c w
  | .outgrown, _ => False
def Up (s : Sem Next) (w : World) (k : Value → World → Prop) (e : List PanicEntry → World → Prop) : Prop :=
  match s.run P w with
  | .ok (.value v) w' => k v w'
  | .ok .skip w' => k undef w'
  | .ok (.enter f args) w' => Calls P f args w' (Ret k e)
  | .halt (.panic v) w' => e [{ v, recovered := false }] w'
  | _ => False
def Cf (f : FuncId) (args : Array Value) (w : World) (k : Value → World → Prop) (e : List PanicEntry → World → Prop) : Prop :=
  Up P (callFunc f args) w k e
end
def If (v : Value) (x y : Prop) : Prop := match v with
  | .bool b => (b = true → x) ∧ (b = false → y)
  | _ => False
def Gd (v : Value) (b : Bool) (x y : Prop) : Prop := match v with
  | .bool c => (c = b → x) ∧ (c = !b → y)
  | _ => y
def Jn {D : Type} (f : (List Value → D → World → Prop) → Prop) (g : List Value → D → World → Prop) : Prop :=
  ∃ K : List Value → D → World → Prop, (∀ l d w, K l d w → g l d w) ∧ f K
def Jp (f : (List Value → Prop) → Prop) (g : List Value → Prop) : Prop := ∃ K : List Value → Prop, (∀ l, K l → g l) ∧ f K
def Lp {D : Type} (l : List Value) (d : D) (w : World) (f : (List Value → D → World → Prop) → List Value → D → World → Prop) : Prop :=
  ∃ (I : List Value → D → World → Prop) (μ : List Value → D → World → Nat), I l d w ∧
    ∀ l d w, I l d w → f (fun l' d' w' => I l' d' w' ∧ μ l' d' w' < μ l d w) l d w
def Sp {D : Type} (f : (List Value → D → World → Prop) → Prop) (g : (List Value → D → World → Prop) → List Value → D → World → Prop) : Prop :=
  ∃ (J : List Value → D → World → Prop) (μ : List Value → D → World → Nat), f J ∧
    ∀ l d w, J l d w → g (fun l' d' w' => J l' d' w' ∧ μ l' d' w' < μ l d w) l d w
def opL : Op → List Operand
  | .alloc _ | .ready _ | .waits _ => []
  | .move x | .assign x | .box _ x | .load _ x | .nilCheck x | .unOp _ _ x | .convert _ _ x | .sliceToArrayPointer _ x | .makeInterface _ x
  | .makeChan _ x | .fieldAddr _ x _ | .field _ x _ | .range _ x | .next x _ | .entry x | .typeAssert x _ _ _ | .extract x _ | .panic x | .recv _ x _ => [x]
  | .pick c a b => [c, a, b]
  | .build _ ps | .buildSlice _ _ ps => ps.toList.map (·.2)
  | .store _ a v | .binOp _ _ a v _ | .makeSlice _ a v | .indexAddr _ a v | .index _ a v | .lookup _ a v _ | .mapEntry _ a v | .send a v => [a, v]
  | .makeFunc _ first captured => first.toList ++ captured.toList
  | .makeMap _ r => r.toList
  | .slice _ x l h m => x :: (l.toList ++ h.toList ++ m.toList)
  | .mapUpdate _ m k v | .entryStore _ m k v | .insert _ m k v => [m, k, v]
  | .call c | .go c | .defer c => (match c.callee with | .value f => [f] | .invoke r _ => [r] | .builtin _ => []) ++ c.args.toList
  | .select .. => []
theorem opL_spec {op : Op} (hs : ∀ cs b, op ≠ .select cs b) {x : Operand} (h : x ∈ op.operands) : x ∈ opL op := by
 cases op <;> simp only [Op.operands, opL, Call.operands] at h ⊢
 case select cs b => exact absurd rfl (hs cs b)
 case call c => cases hc : c.callee <;> simp [hc] at h ⊢ <;> exact h
 case go c => cases hc : c.callee <;> simp [hc] at h ⊢ <;> exact h
 case defer c => cases hc : c.callee <;> simp [hc] at h ⊢ <;> exact h
 case slice t x l hh m => cases l <;> cases hh <;> cases m <;> simpa using h
 all_goals (first | exact h | (simp at h; done) | simpa using h)
def tm : Operand → List Nat | .tmp t => [t] | _ => []
def rdOp (o : Oper) : List Nat := (opL o.op).flatMap tm
def dsts (l : List Oper) : List Nat := l.filterMap (·.dst)
def rbwL : List Oper → List Nat → List Nat
  | [], _ => []
  | o :: l, done => (rdOp o).filter (fun t => !done.contains t) ++ rbwL l (o.dst.toList ++ done)
def leaves : Code → Bool
  | .exit _ | .goto _ | .ret => true
  | .seq a b => leaves a || leaves b
  | .cond _ a b => leaves a || leaves b
  | .block _ a | .loop a | .scope a => leaves a
  | _ => false
def wr : Code → List Nat
  | .region _ ops _ => dsts ops.toList
  | .seq a b | .cond _ a b => wr a ++ wr b
  | .block _ a | .loop a | .scope a => wr a
  | _ => []
def da : Code → List Nat
  | .region _ ops _ => dsts ops.toList
  | .seq a b => da a ++ da b
  | .cond _ a b => match leaves a, leaves b with
    | true, true => [] | true, false => da b | false, true => da a
    | false, false => (da a).filter (da b).contains
  | _ => []
def rbw (rs : List Nat) : Code → List Nat
  | .region _ ops _ => rbwL ops.toList []
  | .seq a b => rbw rs a ++ (rbw rs b).filter (fun t => !(da a).contains t)
  | .cond c a b => tm c ++ rbw rs a ++ rbw rs b
  | .block _ a | .loop a | .scope a => rbw rs a
  | .ret => rs
  | _ => []
def live (rs : List Nat) (c : Code) (lv : List Nat) : List Nat :=
  rbw rs c ++ (match leaves c with | true => lv | false => lv.filter (fun t => !(da c).contains t))
def ends : Code → Nat
  | .skip | .region .. | .label _ => 1
  | .seq a b => match ends a with | 0 => 0 | _ => ends b
  | .cond _ a b => ends a + ends b
  | .block id a => ends a + exits id a
  | .scope a => ends a
  | _ => 0
where exits (id : Nat) : Code → Nat
  | .exit j => match Nat.beq j id with | true => 1 | false => 0
  | .seq a b | .cond _ a b => exits id a + exits id b
  | .block _ a | .loop a | .scope a => exits id a
  | _ => 0
def forks (c : Code) : Bool := Nat.ble 2 (ends c)
def label? : Code → Option Nat
  | .label l => some l
  | .seq a b => (label? a).orElse fun _ => label? b
  | _ => none
def nub : List Nat → List Nat
  | [] => []
  | a :: l => match l.contains a with | true => nub l | false => a :: nub l
def bindEnv : List Nat → List Value → Env
  | [], _ => []
  | s :: ss, l => (s, l.headD undef) :: bindEnv ss l.tail
def newEnv (ρ : Env) (W outs : List Nat) (l : List Value) : Env := bindEnv outs l ++ ρ.filter (fun p => !W.contains p.1)
def frc : Env → (Env → Prop) → Prop
  | [], k => k []
  | p :: l, k => frc l fun l' => k (p :: l')
theorem frc_eq : ∀ (l : Env) (k : Env → Prop), frc l k = k l
  | [], _ => rfl
  | p :: l, k => frc_eq l fun l' => k (p :: l')
structure Ks (M : Dm) where
  nxt : Env → M.D → World → Prop
  ext : Nat → Env → M.D → World → Prop
  gto : Nat → Env → M.D → World → Prop
  ret : Env → M.D → World → Prop
  pan : List PanicEntry → Env → M.D → World → Prop
def putK (n : Nat) (ρ : Env) (dst : Option Nat) (v : Value) (k : Env → Prop) : Prop :=
  match dst with
  | some d => cond (Nat.blt d n) (k ((d, v) :: ρ)) False
  | none => k ρ
def toAll (ρ : Env) (outs : List Nat) (k : List Value → Prop) : Prop := cond (outs.all ρ.has) (k (outs.map ρ.at)) False
section
variable (P : Program) (M : Dm) (n : Nat)
def stepS (s : OpS) (dst : Option Nat) (ρ : Env) (d : M.D) (w : World) (k : Env → M.D → World → Prop) (e : List PanicEntry → Env → M.D → World → Prop) : Prop :=
  match s with
  | .now v => putK n ρ dst v fun ρ => k ρ d w
  | .val s => V1 P s w (fun v w => putK n ρ dst v fun ρ => k ρ d w) (fun c w => e c ρ d w)
  | .unit s => U1 P s w (fun w => putK n ρ dst undef fun ρ => k ρ d w) (fun c w => e c ρ d w)
  | .nxt s => Up P s w (fun v w => putK n ρ dst v fun ρ => k ρ d w) (fun c w => e c ρ d w)
  | .call f args => Cf P f args w (fun v w => putK n ρ dst v fun ρ => k ρ d w) (fun c w => e c ρ d w)
  | .dfr s => match M.push with
    | none => False
    | some f => D1 P s w (fun x w => putK n ρ dst undef fun ρ => k ρ (f x d) w) (fun c w => e c ρ d w)
def isSelect : Op → Bool | .select .. => true | _ => false
def stepO (o : Oper) (ρ : Env) (d : M.D) (w : World) (k : Env → M.D → World → Prop) (e : List PanicEntry → Env → M.D → World → Prop) : Prop :=
  cond (!isSelect o.op && (opL o.op).all ρ.knows) (stepS P M n (opS ρ.ev o) o.dst ρ d w k e) False
def stepL : List Oper → Env → M.D → World → (Env → M.D → World → Prop) → (List PanicEntry → Env → M.D → World → Prop) → Prop
  | [], ρ, d, w, k, _ => k ρ d w
  | o :: l, ρ, d, w, k, e => stepO P M n o ρ d w (fun ρ d w => stepL l ρ d w k e) e
end
abbrev Grp := Option (Nat × Bool) × List Oper
def sameG (g h : Option (Nat × Bool)) : Bool := match g, h with
  | none, none => true
  | some (i, a), some (j, b) => Nat.beq i j && (a == b)
  | _, _ => false
def groups : List Oper → List Grp
  | [] => []
  | o :: l => match groups l with
    | (g, os) :: gs => match sameG o.guard g with | true => (g, o :: os) :: gs | false => (o.guard, [o]) :: (g, os) :: gs
    | [] => [(o.guard, [o])]
def rdG : List Grp → List Nat
  | [] => []
  | (g, os) :: gs => os.flatMap rdOp ++ rdG gs
def gdst (ops : List Oper) (j : Nat) : Option Nat := (ops[j]?).bind (·.dst)
def rdGuards (ops : List Oper) : List Grp → List Nat
  | [] => []
  | (g, _) :: gs => (match g with | some (j, _) => (gdst ops j).toList | none => []) ++ rdGuards ops gs
section
variable (P : Program) (M : Dm) (n : Nat)
def denG (ops : List Oper) (lv : List Nat) : List Grp → Env → M.D → World → (Env → M.D → World → Prop) → (List PanicEntry → Env → M.D → World → Prop) → Prop
  | [], ρ, d, w, k, _ => k ρ d w
  | (none, os) :: gs, ρ, d, w, k, e => stepL P M n os ρ d w (fun ρ d w => denG ops lv gs ρ d w k e) e
  | (some (j, b), os) :: gs, ρ, d, w, k, e =>
    match gdst ops j with
    | none => False
    | some t =>
      cond (ρ.has t && !(dsts os).contains t && (dsts os).all (fun s => Nat.blt s n))
        (Jn (fun K => Gd (ρ.at t) b (stepL P M n os ρ d w (fun ρ' d' w' => toAll ρ' (nub ((dsts os).filter (rdG gs ++ rdGuards ops gs ++ lv).contains)) fun l => K l d' w') e)
              (K ((nub ((dsts os).filter (rdG gs ++ rdGuards ops gs ++ lv).contains)).map fun _ => undef) d w))
            (fun l d' w' => frc (newEnv ρ (dsts os) (nub ((dsts os).filter (rdG gs ++ rdGuards ops gs ++ lv).contains)) l) fun ρ => denG ops lv gs ρ d' w' k e))
        False
end
def Xq (P : Program) (C : World → Prop) (s : Sem Next) (k : Value → Prop) : Prop :=
  ∃ v, (∀ w, C w → Oper.quietUpon P C w v (s.run P w)) ∧ k v
section
variable (P : Program) (n : Nat) (C : World → Prop)
def stepQ (o : Oper) (ρ : Env) (k : Env → Prop) : Prop :=
  cond (!isSelect o.op && (opL o.op).all ρ.knows)
    (match opS ρ.ev o with
     | .now v => putK n ρ o.dst v k
     | s => Xq P C s.toNext fun v => putK n ρ o.dst v k) False
def stepLQ : List Oper → Env → (Env → Prop) → Prop
  | [], ρ, k => k ρ
  | o :: l, ρ, k => stepQ P n C o ρ fun ρ => stepLQ l ρ k
def denQ (ops : List Oper) (lv : List Nat) : List Grp → Env → (Env → Prop) → Prop
  | [], ρ, k => k ρ
  | (none, os) :: gs, ρ, k => stepLQ P n C os ρ fun ρ => denQ ops lv gs ρ k
  | (some (j, b), os) :: gs, ρ, k =>
    match gdst ops j with
    | none => False
    | some t =>
      cond (ρ.has t && !(dsts os).contains t && (dsts os).all (fun s => Nat.blt s n))
        (Jp (fun K => Gd (ρ.at t) b (stepLQ P n C os ρ fun ρ' => toAll ρ' (nub ((dsts os).filter (rdG gs ++ rdGuards ops gs ++ lv).contains)) K)
              (K ((nub ((dsts os).filter (rdG gs ++ rdGuards ops gs ++ lv).contains)).map fun _ => undef)))
            (fun l => frc (newEnv ρ (dsts os) (nub ((dsts os).filter (rdG gs ++ rdGuards ops gs ++ lv).contains)) l) fun ρ => denQ ops lv gs ρ k))
        False
end
def stillOp : Op → Bool
  | .move _ | .assign _ | .pick .. | .build .. | .convert .. | .load .. | .nilCheck _ | .binOp .. | .unOp .. | .makeInterface .. | .makeFunc .. | .slice .. | .fieldAddr ..
  | .field .. | .indexAddr .. | .index .. | .lookup .. | .typeAssert .. | .extract .. | .entry _ => true
  | .call { callee := .builtin .len, .. } | .call { callee := .builtin .cap, .. } | .call { callee := .builtin .min, .. } | .call { callee := .builtin .max, .. } => true
  | _ => false
def readsOp : Op → Bool
  | .load .. | .lookup .. | .entry _ | .makeInterface .. | .typeAssert .. => true
  | .call { callee := .builtin .len, .. } => true
  | _ => false
def stillO (ps : List Nat) (o : Oper) : Bool := stillOp o.op && o.dst.toList.all fun t => !ps.contains t
def bnd (e : Edge) : Bool := Region.binds .any e
def ancSets : List Oper → List (List Nat) → List (List Nat)
  | [], acc => acc
  | o :: l, acc => ancSets l (acc ++ [nub ((o.after.toList.filter bnd).flatMap fun e => e.on :: acc.getD e.on [])])
def anc (ops : List Oper) (j i : Nat) : Bool := ((ancSets ops []).getD j []).contains i
def need (ops : List Oper) (j : Nat) : Bool :=
  (List.range ops.length).any fun i => !Nat.beq i j && (match ops[i]? with | some o => readsOp o.op | none => false) && !anc ops j i
def rdy (ops : List Oper) (done : List Nat) : List Nat :=
  (List.range ops.length).filter fun i => !done.contains i && (match ops[i]? with | some o => o.after.toList.all fun e => !bnd e || done.contains e.on | none => false)
def order (ps : List Nat) (ops : List Oper) : Nat → List Nat → List Nat
  | 0, _ => []
  | f + 1, done =>
    let r := rdy ops done
    match r.find? (fun i => match ops[i]? with | some o => stillO ps o | none => false) with
    | some i => i :: order ps ops f (i :: done)
    | none => match r with
      | [] => []
      | i :: _ => i :: order ps ops f (i :: done)
def Xs (P : Program) (S : World → Prop) (s : Sem Next) (k : Value → Prop) : Prop := ∃ v, (∀ w, S w → s.run P w = .ok (.value v) w) ∧ k v
section
variable (P : Program) (M : Dm) (n : Nat) (S : World → Prop)
def stepH (ps : List Nat) (ops : List Oper) (i : Nat) (o : Oper) (ρ : Env) (d : M.D) (w : World) (k : Env → M.D → World → Prop) (e : List PanicEntry → Env → M.D → World → Prop) : Prop :=
  match stillO ps o with
  | true => cond ((opL o.op).all ρ.knows) (match opS ρ.ev o with
     | .now v => putK n ρ o.dst v fun ρ => k ρ d w
     | s => match readsOp o.op with
       | true => Xs P S s.toNext fun v => putK n ρ o.dst v fun ρ => k ρ d w
       | false => Xs P (fun _ => True) s.toNext fun v => putK n ρ o.dst v fun ρ => k ρ d w) False
  | false => match need ops i with
    | true => stepO P M n o ρ d w (fun ρ d w => S w ∧ k ρ d w) e
    | false => stepO P M n o ρ d w k e
def nextK (ps : List Nat) (ops : List Oper) (i : Nat) (o : Oper) (sk : Bool) : Bool := match stillO ps o with | true => sk | false => need ops i
def stepLH (ps : List Nat) (ops : List Oper) : List Nat → Bool → Env → M.D → World → (Env → M.D → World → Prop) → (List PanicEntry → Env → M.D → World → Prop) → Prop
  | [], _, ρ, d, w, k, _ => k ρ d w
  | i :: l, sk, ρ, d, w, k, e => match ops[i]? with
    | none => False
    | some o => cond (sk || !readsOp o.op) (stepH P M n S ps ops i o ρ d w (fun ρ d w => stepLH ps ops l (nextK ps ops i o sk) ρ d w k e) e) False
def skL (ps : List Nat) (ops : List Oper) : List Nat → Bool → Bool
  | [], sk => sk
  | i :: l, sk => match ops[i]? with
    | none => false
    | some o => skL ps ops l (nextK ps ops i o sk)
end
abbrev GrpH := Option (Nat × Bool) × List Nat
def groupsH (ops : List Oper) : List Nat → List GrpH
  | [] => []
  | i :: l => match ops[i]? with
    | none => []
    | some o => match groupsH ops l with
      | (g, is) :: gs => match sameG o.guard g with | true => (g, i :: is) :: gs | false => (o.guard, [i]) :: (g, is) :: gs
      | [] => [(o.guard, [i])]
def opsAt (ops : List Oper) (l : List Nat) : List Oper := l.filterMap fun i => ops[i]?
def toG (ops : List Oper) (gs : List GrpH) : List Grp := gs.map fun g => (g.1, opsAt ops g.2)
section
variable (P : Program) (M : Dm) (n : Nat) (S : World → Prop)
def denH (ps : List Nat) (ops : List Oper) (lv : List Nat) : List GrpH → Bool → Env → M.D → World → (Env → M.D → World → Prop) → (List PanicEntry → Env → M.D → World → Prop) → Prop
  | [], _, ρ, d, w, k, _ => k ρ d w
  | (none, is) :: gs, sk, ρ, d, w, k, e => stepLH P M n S ps ops is sk ρ d w (fun ρ d w => denH ps ops lv gs (skL ps ops is sk) ρ d w k e) e
  | (some (j, b), is) :: gs, sk, ρ, d, w, k, e =>
    match gdst ops j with
    | none => False
    | some t =>
      cond (ρ.has t && !(dsts (opsAt ops is)).contains t && (dsts (opsAt ops is)).all (fun s => Nat.blt s n) && (sk || is.all fun i => (match ops[i]? with | some o => !readsOp o.op && (stillO ps o || !need ops i) | none => false)))
        (Jn (fun K => Gd (ρ.at t) b (stepLH P M n S ps ops is sk ρ d w (fun ρ' d' w' => toAll ρ' (nub ((dsts (opsAt ops is)).filter (rdG (toG ops gs) ++ rdGuards ops (toG ops gs) ++ lv).contains)) fun l => K l d' w') e)
              (K ((nub ((dsts (opsAt ops is)).filter (rdG (toG ops gs) ++ rdGuards ops (toG ops gs) ++ lv).contains)).map fun _ => undef) d w))
            (fun l d' w' => frc (newEnv ρ (dsts (opsAt ops is)) (nub ((dsts (opsAt ops is)).filter (rdG (toG ops gs) ++ rdGuards ops (toG ops gs) ++ lv).contains)) l) fun ρ => denH ps ops lv gs (sk && skL ps ops is sk) ρ d' w' k e))
        False
end
def looksL (ops : List Oper) (o : Oper) : List Nat := rdOp o ++ (match o.guard with | some (g, _) => (gdst ops g).toList | none => [])
def apartL (ops : List Oper) (x y : Oper) : Bool :=
  !isSelect x.op && !isSelect y.op && (match x.dst with | some d => !(looksL ops y).contains d && !(y.dst.toList.contains d) | none => true) && (match y.dst with | some d => !(looksL ops x).contains d | none => true)
def freeB (rs : List Nat) (ops : List Oper) (done : List Nat) (i : Nat) (o : Oper) : Bool :=
  (o.dst.toList.all fun t => !rs.contains t) && (List.range ops.length).all fun j => Nat.beq j i || done.contains j || (match ops[j]? with
    | some oj => (oj.after.toList.any fun e => bnd e && Nat.beq e.on i) || apartL ops o oj
    | none => true)
def okOrder (rs : List Nat) (ops : List Oper) : List Nat → List Nat → Bool
  | [], done => match rdy ops done with | [] => true | _ => false
  | i :: l, done => match ops[i]? with
    | none => false
    | some o => (rdy ops done).contains i && !isSelect o.op &&
      (match stillO rs o with
       | true => freeB rs ops done i o
       | false => match rdy ops done with | [_] => true | _ => false) &&
      okOrder rs ops l (i :: done)
abbrev Row := List Nat × List Nat × List Nat
def rowOf (ops : List Oper) (o : Oper) : Row := (o.dst.toList, looksL ops o, (o.after.toList.filter bnd).map (·.on))
def frcL : List Nat → (List Nat → Bool) → Bool
  | [], k => k []
  | p :: l, k => frcL l fun l' => k (p :: l')
def frcR : List Row → (List Row → Bool) → Bool
  | [], k => k []
  | r :: l, k => frcL r.1 fun a => frcL r.2.1 fun b => frcL r.2.2 fun c => frcR l fun l' => k ((a, b, c) :: l')
def mem1 (d : Nat) : List Nat → Bool
  | [] => false
  | a :: l => match Nat.beq d a with | true => true | false => mem1 d l
def meet : List Nat → List Nat → Bool
  | [], _ => false
  | a :: l, m => match mem1 a m with | true => true | false => meet l m
def apR (r s : Row) : Bool := match meet r.1 s.2.1 with | true => false | false => match meet r.1 s.1 with | true => false | false => !meet s.1 r.2.1
def lexR1 (k : Nat) (r : Row) : List Row → Bool
  | [] => true
  | s :: l => match mem1 k s.2.2 with | true => lexR1 k r l | false => match apR r s with | true => lexR1 k r l | false => false
def allLt (k : Nat) : List Nat → Bool
  | [] => true
  | a :: l => match Nat.blt a k with | true => allLt k l | false => false
def lexR : Nat → List Row → Bool
  | _, [] => true
  | k, r :: l => match allLt k r.2.2 with | false => false | true => match lexR1 k r l with | false => false | true => lexR (k + 1) l
def lexL (ops : List Oper) : Bool := match ops.all (fun o => !isSelect o.op) with | false => false | true => frcR (ops.map (rowOf ops)) (lexR 0)
section
variable (P : Program) (M : Dm) (n : Nat) (hd : List Nat)
def denR (rs : List Nat) (id : Nat) (ops : List Oper) (draw : Bool) (lv : List Nat) (ρ : Env) (d : M.D) (w : World) (k : Env → M.D → World → Prop) (e : List PanicEntry → Env → M.D → World → Prop) : Prop :=
  match draw with
  | false => denG P M n ops lv (groups ops) ρ d w k e
  | true => match hd.contains id with
    | false => cond (lexL ops) (∃ C : World → Prop, C w.drew ∧ denQ P n C ops lv (groups ops) ρ fun ρ => ∀ w, C w → k ρ d w) False
    | true => cond (okOrder rs ops (order rs ops ops.length []) [] && ops.all fun o => !isSelect o.op) (∃ S : World → Prop, S w.drew ∧ denH P M n S rs ops lv (groupsH ops (order rs ops ops.length [])) true ρ d w.drew k e) False
variable (ps rs : List Nat)
def outsJ (a : Code) (lv' : List Nat) (ρ : Env) : List Nat := nub ((wr a).filter fun t => lv'.contains t && (ρ.has t || (da a).contains t))
def outsL (c : Code) (lv : List Nat) (ρ : Env) : List Nat := nub ((wr c).filter fun t => ρ.has t && (rbw rs c ++ lv).contains t)
def hasL (l : Nat) : Code → Bool
  | .label k => Nat.beq k l
  | .seq a b => hasL l a || hasL l b
  | _ => false
def hasG : Code → Bool
  | .goto _ => true
  | .seq a b | .cond _ a b => hasG a || hasG b
  | .block _ a | .loop a | .scope a => hasG a
  | _ => false
def jumps (c : Code) : Option Nat := match hasG c with | true => label? c | false => none
def rbwF (rs : List Nat) (x : Nat) : Code → List Nat
  | .seq a b => match hasL x a with | true => rbwF rs x a ++ rbw rs b | false => rbwF rs x b
  | _ => []
def preL (x : Nat) : Code → List Nat
  | .seq a b => match hasL x a with | true => preL x a | false => da a ++ preL x b
  | _ => []
def outsS (c : Code) (x : Nat) (lv : List Nat) (ρ : Env) : List Nat := nub ((wr c).filter fun t => (rbwF rs x c ++ lv).contains t && (ρ.has t || (preL x c).contains t))
def den : Code → Option Nat → List Nat → Env → M.D → World → Ks M → Prop
  | .skip, none, _, ρ, d, w, K => K.nxt ρ d w
  | .label _, _, _, ρ, d, w, K => K.nxt ρ d w
  | .region id ops draw, none, lv, ρ, d, w, K => denR P M n hd ps id ops.toList draw lv ρ d w K.nxt K.pan
  | .seq a b, none, lv, ρ, d, w, K =>
    match forks a with
    | true => Jn (fun J => den a none (live rs b lv) ρ d w { K with nxt := fun ρ' d' w' => toAll ρ' (outsJ a (live rs b lv) ρ) fun l => J l d' w' })
        (fun l d' w' => den b none lv (newEnv ρ (wr a) (outsJ a (live rs b lv) ρ) l) d' w' K)
    | false => den a none (live rs b lv) ρ d w { K with nxt := fun ρ' d' w' => den b none lv ρ' d' w' K }
  | .seq a b, some x, lv, ρ, d, w, K =>
    match hasL x a with
    | true => den a (some x) (live rs b lv) ρ d w { K with nxt := fun ρ' d' w' => den b none lv ρ' d' w' K }
    | false => den b (some x) lv ρ d w K
  | .cond c x y, none, lv, ρ, d, w, K => cond (ρ.knows c) (If (ρ.ev c) (den x none lv ρ d w K) (den y none lv ρ d w K)) False
  | .block id c, none, lv, ρ, d, w, K => den c none lv ρ d w { K with ext := fun i ρ' d' w' => match Nat.beq i id with | true => K.nxt ρ' d' w' | false => K.ext i ρ' d' w' }
  | .loop c, none, lv, ρ, d, w, K =>
    toAll ρ (outsL rs c lv ρ) fun l => Lp l d w fun ag l d' w' => den c none (rbw rs c ++ lv) (newEnv ρ (wr c) (outsL rs c lv ρ) l) d' w' { K with nxt := fun ρ' d' w' => toAll ρ' (outsL rs c lv ρ) fun l => ag l d' w' }
  | .scope c, none, lv, ρ, d, w, K => match jumps c with
    | none => den c none lv ρ d w { K with gto := fun _ _ _ _ => False }
    | some x => Sp (fun J => den c none (rbwF rs x c ++ rbw rs c ++ lv) ρ d w { K with gto := fun y ρ' d' w' => match Nat.beq y x with | true => toAll ρ' (outsS rs c x lv ρ) fun l => J l d' w' | false => False })
        (fun J l d' w' => den c (some x) (rbwF rs x c ++ rbw rs c ++ lv) (newEnv ρ (wr c) (outsS rs c x lv ρ) l) d' w' { K with gto := fun y ρ' d' w' => match Nat.beq y x with | true => toAll ρ' (outsS rs c x lv ρ) fun l => J l d' w' | false => False })
  | .exit i, none, _, ρ, d, w, K => K.ext i ρ d w
  | .goto l, none, _, ρ, d, w, K => K.gto l ρ d w
  | .ret, none, _, ρ, d, w, K => K.ret ρ d w
  | _, _, _, _, _, _, _ => False
end
def argEnv : Nat → List Value → Env
  | _, [] => []
  | i, v :: l => (i, v) :: argEnv (i + 1) l
def resE (P : Program) (ρ : Env) : List ResultVar → World → (List Value → Prop) → Prop
  | [], _, k => k []
  | .tmp t :: rs, w, k => cond (ρ.has t) (resE P ρ rs w fun l => k (ρ.at t :: l)) False
  | .cell a t :: rs, w, k => cond (ρ.has a) (∃ v, (Instr.loadAt t (ρ.at a)).run P w = .ok v w ∧ resE P ρ rs w fun l => k (v :: l)) False
def tup : List Value → Value
  | [v] => v
  | l => .tuple l.toArray
def resSlots : List ResultVar → List Nat
  | [] => []
  | .tmp t :: l => t :: resSlots l
  | .cell a _ :: l => a :: resSlots l
def fin (P : Program) (rs : List ResultVar) (R : Ending → World → Prop) (ρ : Env) (w : World) : Prop := resE P ρ rs w fun l => R (.returned (tup l)) w
def pn (R : Ending → World → Prop) (c : List PanicEntry) (w : World) : Prop := R (.panicked c) w
def body (P : Program) (n : Nat) (hd : List Nat) (rs : List ResultVar) (c : Code) (args : List Value) (R : Ending → World → Prop) (w : World) : Prop :=
  den P Dm.no n hd [] (resSlots rs) c none (resSlots rs) (argEnv 0 args) () w
    { nxt := fun ρ _ w => fin P rs R ρ w, ext := fun _ _ _ _ => False, gto := fun _ _ _ _ => False, ret := fun ρ _ w => fin P rs R ρ w, pan := fun c _ _ w => R (.panicked c) w }
def Lv (P : Program) (res : World → (Value → Prop) → Prop) (R : Ending → World → Prop) : List Deferred → FrameMode → World → Prop
  | [], .returning, w => res w fun v => R (.returned v) w
  | [], .panicking chain, w => R (.panicked chain) w
  | [], .run, _ => False
  | d :: ds, u, w => u ≠ .run ∧ ∃ fv cap f args, d.target = .fn fv cap ∧ (invoke d.target d.args).run P w = .ok (.enter f args) w ∧
      CallsD P f args u w fun
        | .returned _, u', w' => Lv P res R ds (settle u') w'
        | .panicked chain, u', w' => Lv P res R ds (raised u' chain) w'
        | .outgrown, _, _ => False
def bodyD (P : Program) (n : Nat) (hd : List Nat) (rs : List ResultVar) (c : Code) (args : List Value) (R : Ending → World → Prop) (w : World) : Prop :=
  den P Dm.yes n hd (resSlots rs) (resSlots rs) c none (resSlots rs) (argEnv 0 args) ([] : List Deferred) w
    { nxt := fun ρ d w => Lv P (fun w k => resE P ρ rs w fun l => k (tup l)) R d .returning w, ext := fun _ _ _ _ => False, gto := fun _ _ _ _ => False,
      ret := fun ρ d w => Lv P (fun w k => resE P ρ rs w fun l => k (tup l)) R d .returning w,
      pan := fun c ρ d w => Lv P (fun w k => resE P ρ rs w fun l => k (tup l)) R d (.panicking c) w }
end Go.Sh

namespace Go.Sh
structure Ag (n : Nat) (ρ : Env) (a : Act) : Prop where
  size : a.tmps.size = n
  val : ∀ t v, List.lookup t ρ = some v → a.tmps[t]? = some v
def Fr (W : List Nat) (a a' : Act) : Prop := ∀ t, t ∉ W → a'.tmps[t]? = a.tmps[t]?
theorem Fr.refl (W : List Nat) (a : Act) : Fr W a a := fun _ _ => rfl
theorem Fr.trans {W V : List Nat} {a b c : Act} (h : Fr W a b) (h' : Fr V b c) : Fr (W ++ V) a c := fun t ht => by
 rw [List.mem_append, not_or] at ht; rw [h' t ht.2, h t ht.1]
theorem Fr.mono {W V : List Nat} {a b : Act} (h : Fr W a b) (hs : ∀ t, t ∈ W → t ∈ V) : Fr V a b := fun t ht => h t fun hw => ht (hs t hw)
theorem Ag.at {n : Nat} {ρ : Env} {a : Act} (h : Ag n ρ a) {t : Nat} (ht : ρ.has t = true) : a.tmps.getD t undef = ρ.at t ∧ a.tmps[t]? = some (ρ.at t) := by
 unfold Env.has at ht; obtain ⟨v, hv⟩ := Option.isSome_iff_exists.1 ht; have h1 := h.val t v hv; unfold Env.at
 rw [hv]; exact ⟨by simp [Array.getD_eq_getD_getElem?, h1], h1⟩
theorem Ag.ev {n : Nat} {ρ : Env} {a : Act} (h : Ag n ρ a) {x : Operand} (hx : ρ.knows x = true) : a.eval x = ρ.ev x := by
 cases x with
 | tmp t => exact (h.at hx).1
 | _ => rfl
theorem lookup_cons (ρ : Env) (d t : Nat) (v : Value) : List.lookup t ((d, v) :: ρ) = if t = d then some v else List.lookup t ρ := by
 simp only [List.lookup]; by_cases h : t = d
 · subst h; simp
 · have : (t == d) = false := by simpa using h
   simp [this, h]
theorem Ag.put {n : Nat} {ρ : Env} {a : Act} (h : Ag n ρ a) {d : Nat} (hd : d < n) (v : Value) : Ag n ((d, v) :: ρ) (a.put (some d) v) where
 size := by simp [Act.put, h.size]
 val := by
   intro t u hu; rw [lookup_cons] at hu; simp only [Act.put]; by_cases ht : t = d
   · subst ht; simp at hu; subst hu; simp [h.size, hd]
   · rw [if_neg ht] at hu; rw [Array.getElem?_setIfInBounds_ne (Ne.symm ht)]; exact h.val t u hu
theorem Fr.put (a : Act) (dst : Option Nat) (v : Value) : Fr dst.toList a (a.put dst v) := by
 intro t ht
 cases dst with
 | none => rfl
 | some d =>
   have : d ≠ t := fun h => ht (by simp [h]); simp [Act.put, Array.getElem?_setIfInBounds_ne this]
theorem putK_ok {n : Nat} {ρ : Env} {a : Act} {dst : Option Nat} {v : Value} {k : Env → Prop} (h : putK n ρ dst v k) (ha : Ag n ρ a) : ∃ ρ', k ρ' ∧ Ag n ρ' (a.put dst v) := by
 cases dst with
 | none => exact ⟨ρ, h, ha⟩
 | some d =>
   unfold putK at h
   cases hb : Nat.blt d n with
   | false => simp [hb] at h
   | true =>
     simp only [hb, cond_true] at h; exact ⟨_, h, ha.put (by simpa [Nat.blt_eq] using hb) v⟩
theorem defers_put (a : Act) (dst : Option Nat) (v : Value) : (a.put dst v).defers = a.defers := by cases dst <;> rfl
theorem execOp_den {n : Nat} {ρ : Env} {a : Act} {o : Oper} (ha : Ag n ρ a) (hs : isSelect o.op = false) (hk : (opL o.op).all ρ.knows = true) :
   execOp a.eval o = (opS ρ.ev o).toNext := by
 have hsel : ∀ cs b, o.op ≠ .select cs b := fun cs b h => by rw [h] at hs; cases hs
 rw [← execOp_opS ρ.ev (fun _ => rfl) o]; refine execOp_congr o hsel fun x hx => ha.ev ?_; exact List.all_eq_true.1 hk x (opL_spec hsel hx)
variable {P : Program} {M : Dm} {n : Nat}
theorem Calls.ret {f : FuncId} {args : Array Value} {w : World} {k : Value → World → Prop} {e : List PanicEntry → World → Prop}
   {R : Ending → World → Prop} (h : Calls P f args w (Ret k e)) (h1 : ∀ v w, k v w → R (.returned v) w) (h2 : ∀ c w, e c w → R (.panicked c) w) : Calls P f args w R :=
 h.mono fun en w' hr => by
   cases en with
   | returned v => exact h1 v w' hr
   | panicked c => exact h2 c w' hr
   | outgrown => exact hr.elim
theorem stepO_wp {o : Oper} {ρ : Env} {d : M.D} {w : World} {a : Act} {k : Env → M.D → World → Prop} {e : List PanicEntry → Env → M.D → World → Prop}
   {next : Act → World → Prop} {Q : Exit → Act → World → Prop} (h : stepO P M n o ρ d w k e) (ha : Ag n ρ a) (hd : a.defers = M.get d)
   (hk : ∀ ρ' d' w' a', Ag n ρ' a' → a'.defers = M.get d' → Fr o.dst.toList a a' → k ρ' d' w' → next a' w')
   (he : ∀ c w', e c ρ d w' → Q (.panic c) a w') : o.wp P a w next Q := by
 unfold stepO at h
 cases hc : (!isSelect o.op && (opL o.op).all ρ.knows) with
 | false => simp [hc] at h
 | true =>
   simp only [hc, cond_true] at h; simp only [Bool.and_eq_true, Bool.not_eq_true'] at hc; unfold Oper.wp; rw [execOp_den ha hc.1 hc.2]; have put : ∀ {v : Value} {w' : World} {d' : M.D}, putK n ρ o.dst v (fun ρ => k ρ d' w') → M.get d' = M.get d → next (a.put o.dst v) w' := by
     intro v w' d' hp hdd; obtain ⟨ρ', h1, h2⟩ := putK_ok hp ha; exact hk ρ' d' w' _ h2 (by rw [defers_put, hd, hdd]) (Fr.put a o.dst v) h1
   cases hs : opS ρ.ev o with
   | now v => rw [hs] at h; exact put h rfl
   | val s =>
     rw [hs] at h; simp only [stepS, V1] at h; simp only [OpS.toNext, Sem.run_bind]
     cases hr : s.run P w with
     | ok v w' => rw [hr] at h; exact put h rfl
     | halt x w' =>
       rw [hr] at h
       cases x <;> first | exact h.elim | exact he _ _ h
   | unit s =>
     rw [hs] at h; simp only [stepS, U1] at h; simp only [OpS.toNext, Sem.run_bind]
     cases hr : s.run P w with
     | ok v w' => rw [hr] at h; exact put h rfl
     | halt x w' =>
       rw [hr] at h
       cases x <;> first | exact h.elim | exact he _ _ h
   | nxt s =>
     rw [hs] at h; simp only [stepS, Up] at h; simp only [OpS.toNext]
     cases hr : s.run P w with
     | ok x w' =>
       rw [hr] at h
       cases x <;> first | exact h.elim | exact put h rfl | exact Calls.ret h (fun v w h => put h rfl) (fun c w h => he c w h)
     | halt x w' =>
       rw [hr] at h
       cases x <;> first | exact h.elim | exact he _ _ h
   | call f args =>
     rw [hs] at h; simp only [stepS, Cf, Up] at h; simp only [OpS.toNext]
     cases hr : (callFunc f args).run P w with
     | ok x w' =>
       rw [hr] at h
       cases x <;> first | exact h.elim | exact put h rfl | exact Calls.ret h (fun v w h => put h rfl) (fun c w h => he c w h)
     | halt x w' =>
       rw [hr] at h
       cases x <;> first | exact h.elim | exact he _ _ h
   | dfr s =>
     rw [hs] at h; simp only [stepS] at h
     cases hp : M.push with
     | none => rw [hp] at h; exact h.elim
     | some f =>
       rw [hp] at h; simp only [D1] at h; simp only [OpS.toNext, Sem.run_bind]
       cases hr : s.run P w with
       | ok v w' =>
         rw [hr] at h; obtain ⟨ρ', h1, h2⟩ := putK_ok h ha; show next (({ a with defers := v :: a.defers } : Act).put o.dst undef) w'
         have e1 : (({ a with defers := v :: a.defers } : Act).put o.dst undef).tmps = (a.put o.dst undef).tmps := by cases o.dst <;> rfl
         refine hk ρ' (f v d) w' _ ⟨by rw [e1]; exact h2.size, by rw [e1]; exact h2.val⟩ ?_ ?_ h1
         · rw [defers_put, M.get_push f hp, hd]
         · intro t ht; rw [e1]; exact Fr.put a o.dst undef t ht
       | halt x w' =>
         rw [hr] at h
         cases x <;> first | exact h.elim | exact he _ _ h
theorem stepL_wp {ops : Array Oper} {rest : List Oper} {Q : Exit → Act → World → Prop} {e : List PanicEntry → Env → M.D → World → Prop} :
   ∀ (l : List Oper) (ρ : Env) (d : M.D) (w : World) (a : Act) (k : Env → M.D → World → Prop),
   stepL P M n l ρ d w k e → Ag n ρ a → a.defers = M.get d →
   (∀ a', Fr (dsts l) a a' → ∀ o ∈ l, Region.wanted o (yielded ops a'.tmps) = true) →
   (∀ ρ' d' w' a', Ag n ρ' a' → a'.defers = M.get d' → Fr (dsts l) a a' → k ρ' d' w' → wpList P ops Q rest a' w') →
   (∀ c ρ' d' w' a', Ag n ρ' a' → a'.defers = M.get d' → Fr (dsts l) a a' → e c ρ' d' w' → Q (.panic c) a' w') →
   wpList P ops Q (l ++ rest) a w
 | [], ρ, d, w, a, k, h, ha, hd, _, hk, _ => hk ρ d w a ha hd (Fr.refl _ _) h
 | o :: l, ρ, d, w, a, k, h, ha, hd, hw, hk, he => by
   have hsub : ∀ t, t ∈ o.dst.toList ++ dsts l → t ∈ dsts (o :: l) := by
     intro t ht; rw [List.mem_append] at ht; unfold dsts at *
     cases hdst : o.dst with
     | none => rw [List.filterMap_cons_none hdst]; rcases ht with h' | h'; (simp [hdst] at h'); exact h'
     | some x => rw [List.filterMap_cons_some hdst]; rcases ht with h' | h'; (simp [hdst] at h'; simp [h']); exact List.mem_cons_of_mem _ h'
   have hsub1 : ∀ t, t ∈ o.dst.toList → t ∈ dsts (o :: l) := fun t ht => hsub t (List.mem_append_left _ ht); have hsub2 : ∀ t, t ∈ dsts l → t ∈ dsts (o :: l) := fun t ht => hsub t (List.mem_append_right _ ht); show (if Region.wanted o (yielded ops a.tmps) then _ else _)
   rw [if_pos (hw a (Fr.refl _ _) o (List.mem_cons_self ..))]; refine .inl (stepO_wp h ha hd (fun ρ' d' w' a' ha' hd' hf hk' => ?_) (fun c w' h' => he c ρ d w' a ha hd (Fr.refl _ _) h')); refine stepL_wp l ρ' d' w' a' k hk' ha' hd' (fun a'' hf' o' ho' => hw a'' ((hf.trans hf').mono hsub) o' (List.mem_cons_of_mem _ ho')) ?_ ?_
   · intro ρ'' d'' w'' a'' ha'' hd'' hf' hk''; exact hk ρ'' d'' w'' a'' ha'' hd'' ((hf.trans hf').mono hsub) hk''
   · intro c ρ'' d'' w'' a'' ha'' hd'' hf' h'; exact he c ρ'' d'' w'' a'' ha'' hd'' ((hf.trans hf').mono hsub) h'
def skip (l : List Oper) (a : Act) : Act := l.foldl (fun a o => a.put o.dst undef) a
theorem skip_wp {ops : Array Oper} {rest : List Oper} {Q : Exit → Act → World → Prop} {w : World} : ∀ (l : List Oper) (a : Act),
   (∀ a', Fr (dsts l) a a' → ∀ o ∈ l, Region.wanted o (yielded ops a'.tmps) = false) → wpList P ops Q rest (skip l a) w → wpList P ops Q (l ++ rest) a w
 | [], a, _, h => h
 | o :: l, a, hw, h => by
   have hsub : ∀ t, t ∈ o.dst.toList ++ dsts l → t ∈ dsts (o :: l) := by
     intro t ht; rw [List.mem_append] at ht; unfold dsts at *
     cases hdst : o.dst with
     | none => rw [List.filterMap_cons_none hdst]; rcases ht with h' | h'; (simp [hdst] at h'); exact h'
     | some x => rw [List.filterMap_cons_some hdst]; rcases ht with h' | h'; (simp [hdst] at h'; simp [h']); exact List.mem_cons_of_mem _ h'
   show (if Region.wanted o (yielded ops a.tmps) then _ else _)
   rw [if_neg (by rw [hw a (Fr.refl _ _) o (List.mem_cons_self ..)]; simp)]; exact skip_wp l (a.put o.dst undef) (fun a' hf o' ho' => hw a' (((Fr.put a o.dst undef).trans hf).mono hsub) o' (List.mem_cons_of_mem _ ho')) h
theorem skip_fr : ∀ (l : List Oper) (a : Act), Fr (dsts l) a (skip l a)
 | [], a => Fr.refl _ _
 | o :: l, a => by
   have h := (Fr.put a o.dst undef).trans (skip_fr l (a.put o.dst undef)); refine Fr.mono h fun t ht => ?_; rw [List.mem_append] at ht; unfold dsts at *
   cases hdst : o.dst with
   | none => rw [List.filterMap_cons_none hdst]; rcases ht with h' | h'; (simp [hdst] at h'); exact h'
   | some x => rw [List.filterMap_cons_some hdst]; rcases ht with h' | h'; (simp [hdst] at h'; simp [h']); exact List.mem_cons_of_mem _ h'
theorem skip_size : ∀ (l : List Oper) (a : Act), (skip l a).tmps.size = a.tmps.size
 | [], a => rfl
 | o :: l, a => by
   show (skip l (a.put o.dst undef)).tmps.size = _
   rw [skip_size l]; cases o.dst <;> simp [Act.put]
theorem skip_defers : ∀ (l : List Oper) (a : Act), (skip l a).defers = a.defers
  | [], a => rfl
  | o :: l, a => by show (skip l (a.put o.dst undef)).defers = _; rw [skip_defers l, defers_put]
theorem skip_at : ∀ (l : List Oper) (a : Act) (t : Nat), t ∈ dsts l → t < a.tmps.size → (skip l a).tmps[t]? = some undef
 | o :: l, a, t, ht, hlt => by
   show (skip l (a.put o.dst undef)).tmps[t]? = _
   have hs : (a.put o.dst undef).tmps.size = a.tmps.size := by cases o.dst <;> simp [Act.put]
   by_cases hm : t ∈ dsts l
   · exact skip_at l _ t hm (by rw [hs]; exact hlt)
   · rw [skip_fr l _ t hm]; unfold dsts at ht
     cases hdst : o.dst with
     | none => rw [List.filterMap_cons_none hdst] at ht; exact absurd ht hm
     | some x =>
       rw [List.filterMap_cons_some hdst] at ht; rcases List.mem_cons.1 ht with rfl | h'
       · simp [Act.put, hlt]
       · exact absurd h' hm
theorem toAll_ok {ρ : Env} {outs : List Nat} {k : List Value → Prop} (h : toAll ρ outs k) : (∀ t ∈ outs, ρ.has t = true) ∧ k (outs.map ρ.at) := by
 unfold toAll at h
 cases hc : outs.all ρ.has with
 | false => simp [hc] at h
 | true => simp only [hc, cond_true] at h; exact ⟨List.all_eq_true.1 hc, h⟩
theorem lookup_append (l m : Env) (t : Nat) : List.lookup t (l ++ m) = (List.lookup t l).orElse fun _ => List.lookup t m := by
 induction l with
 | nil => simp
 | cons p l ih =>
   obtain ⟨d, v⟩ := p; rw [List.cons_append, lookup_cons, lookup_cons, ih]; split <;> simp
theorem lookup_filter (ρ : Env) (W : List Nat) (t : Nat) (v : Value) (h : List.lookup t (ρ.filter fun p => !W.contains p.1) = some v) : t ∉ W ∧ List.lookup t ρ = some v := by
 induction ρ with
 | nil => cases h
 | cons p ρ ih =>
   obtain ⟨d, u⟩ := p; rw [lookup_cons]; by_cases hW : W.contains d = true
   · rw [List.filter_cons_of_neg (by simp only [hW]; simp)] at h; obtain ⟨h1, h2⟩ := ih h; refine ⟨h1, ?_⟩; rw [if_neg (fun e => h1 (by rw [e]; simpa using hW))]; exact h2
   · rw [List.filter_cons_of_pos (by simp only [hW]; rfl), lookup_cons] at h; by_cases ht : t = d
     · subst ht; refine ⟨by simpa using hW, ?_⟩; simpa using h
     · rw [if_neg ht] at h ⊢; exact ih h
theorem lookup_bind (f : Nat → Value) : ∀ (outs : List Nat) (t : Nat) (v : Value), List.lookup t (bindEnv outs (outs.map f)) = some v → t ∈ outs ∧ v = f t
 | [], t, v, h => by cases h
 | s :: ss, t, v, h => by
   simp only [List.map_cons, bindEnv, List.headD_cons, List.tail_cons] at h; rw [lookup_cons] at h; by_cases ht : t = s
   · subst ht; rw [if_pos rfl] at h; cases h; exact ⟨List.mem_cons_self .., rfl⟩
   · rw [if_neg ht] at h; obtain ⟨h1, h2⟩ := lookup_bind f ss t v h; exact ⟨List.mem_cons_of_mem _ h1, h2⟩
theorem Ag.new {n : Nat} {ρ : Env} {a a' : Act} {W outs : List Nat} (f : Nat → Value) (ha : Ag n ρ a) (hs : a'.tmps.size = n) (hf : Fr W a a')
   (ho : ∀ t ∈ outs, a'.tmps[t]? = some (f t)) : Ag n (newEnv ρ W outs (outs.map f)) a' where
 size := hs
 val := by
   intro t v h; unfold newEnv at h; rw [lookup_append] at h
   cases hb : List.lookup t (bindEnv outs (outs.map f)) with
   | some u =>
     rw [hb] at h; obtain ⟨h1, h2⟩ := lookup_bind f outs t u hb; simp at h; subst h; subst h2
     exact ho t h1
   | none =>
     rw [hb] at h; obtain ⟨h1, h2⟩ := lookup_filter ρ W t v (by simpa using h); rw [hf t h1]; exact ha.val t v h2
theorem mem_nub {t : Nat} : ∀ {l : List Nat}, t ∈ nub l → t ∈ l
 | [], h => h
 | a :: l, h => by
   unfold nub at h; split at h
   · exact List.mem_cons_of_mem _ (mem_nub h)
   · rcases List.mem_cons.1 h with rfl | h'
     · exact List.mem_cons_self ..
     · exact List.mem_cons_of_mem _ (mem_nub h')
theorem sameG_eq {g h : Option (Nat × Bool)} (e : sameG g h = true) : g = h := by
 unfold sameG at e; split at e
 · rfl
 · rename_i i a j b
   simp only [Bool.and_eq_true, beq_iff_eq] at e; rw [Nat.eq_of_beq_eq_true e.1, e.2]
 · cases e
theorem groups_ok : ∀ (l : List Oper), (groups l).flatMap (·.2) = l ∧ ∀ g ∈ groups l, ∀ o ∈ g.2, o.guard = g.1
 | [] => ⟨rfl, fun _ h => by cases h⟩
 | o :: l => by
   obtain ⟨h1, h2⟩ := groups_ok l; unfold groups
   cases hg : groups l with
   | nil =>
     rw [hg] at h1; simp only [List.flatMap_nil] at h1; subst h1; refine ⟨rfl, fun g hg o' ho' => ?_⟩; simp at hg; subst hg; simp at ho'; subst ho'; rfl
   | cons p gs =>
     obtain ⟨g, os⟩ := p; rw [hg] at h1 h2; simp only []
     cases hs : sameG o.guard g with
     | true =>
       refine ⟨by simpa using h1, fun q hq o' ho' => ?_⟩; rcases List.mem_cons.1 hq with rfl | hq
       · rcases List.mem_cons.1 ho' with rfl | ho'
         · exact sameG_eq hs
         · exact h2 _ (List.mem_cons_self ..) o' ho'
       · exact h2 q (List.mem_cons_of_mem _ hq) o' ho'
     | false =>
       refine ⟨by simpa using h1, fun q hq o' ho' => ?_⟩; rcases List.mem_cons.1 hq with rfl | hq
       · simp at ho'; subst ho'; rfl
       · exact h2 q hq o' ho'
theorem wanted_of {ops : Array Oper} {o : Oper} {j t : Nat} {b c : Bool} {tmps : Array Value} (hg : o.guard = some (j, b)) (ht : (ops[j]?).bind (·.dst) = some t)
   (hv : tmps[t]? = some (.bool c)) : Region.wanted o (yielded ops tmps) = (c == b) := by
 simp only [Region.wanted, hg, yielded, ht, Option.bind_some, hv]
 cases c <;> cases b <;> rfl
theorem wanted_no {ops : Array Oper} {o : Oper} {j t : Nat} {b : Bool} {v : Value} {tmps : Array Value} (hg : o.guard = some (j, b)) (ht : (ops[j]?).bind (·.dst) = some t)
   (hv : tmps[t]? = some v) (hn : ∀ c, v = .bool c → False) : Region.wanted o (yielded ops tmps) = false := by
 simp only [Region.wanted, hg, yielded, ht, Option.bind_some, hv]
 cases v <;> first | exact (hn _ rfl).elim | rfl
theorem gdst_eq (l : List Oper) (j : Nat) : gdst l j = ((l.toArray)[j]?).bind (·.dst) := by simp [gdst]
theorem denG_wp {l : List Oper} {lv : List Nat} {Q : Exit → Act → World → Prop} {e : List PanicEntry → Env → M.D → World → Prop} :
   ∀ (gs : List Grp) (ρ : Env) (d : M.D) (w : World) (a : Act) (k : Env → M.D → World → Prop),
   denG P M n l lv gs ρ d w k e → Ag n ρ a → a.defers = M.get d → (∀ g ∈ gs, ∀ o ∈ g.2, o.guard = g.1) →
   (∀ ρ' d' w' a', Ag n ρ' a' → a'.defers = M.get d' → Fr (dsts (gs.flatMap (·.2))) a a' → k ρ' d' w' → Q .normal a' w') →
   (∀ c ρ' d' w' a', Ag n ρ' a' → a'.defers = M.get d' → Fr (dsts (gs.flatMap (·.2))) a a' → e c ρ' d' w' → Q (.panic c) a' w') →
   wpList P l.toArray Q (gs.flatMap (·.2)) a w
 | [], ρ, d, w, a, k, h, ha, hd, _, hk, _ => hk ρ d w a ha hd (Fr.refl _ _) h
 | (g, os) :: gs, ρ, d, w, a, k, h, ha, hd, hg, hk, he => by
   have hsub : ∀ t, t ∈ dsts os ++ dsts (gs.flatMap (·.2)) → t ∈ dsts (((g, os) :: gs).flatMap (·.2)) := by
     intro t ht; simpa [dsts] using ht
   have hsub1 : ∀ t, t ∈ dsts os → t ∈ dsts (((g, os) :: gs).flatMap (·.2)) := fun t ht => hsub t (List.mem_append_left _ ht); rw [List.flatMap_cons]
   cases g with
   | none =>
     refine stepL_wp os ρ d w a _ h ha hd ?_ ?_ ?_
     · intro a' _ o ho; have := hg _ (List.mem_cons_self ..) o ho; simp [Region.wanted, show o.guard = none from this]
     · intro ρ' d' w' a' ha' hd' hf hk'; refine denG_wp gs ρ' d' w' a' k hk' ha' hd' (fun g' hg' => hg g' (List.mem_cons_of_mem _ hg')) ?_ ?_
       · intro ρ'' d'' w'' a'' ha'' hd'' hf' hk''; exact hk ρ'' d'' w'' a'' ha'' hd'' ((hf.trans hf').mono hsub) hk''
       · intro c ρ'' d'' w'' a'' ha'' hd'' hf' h'; exact he c ρ'' d'' w'' a'' ha'' hd'' ((hf.trans hf').mono hsub) h'
     · intro c ρ' d' w' a' ha' hd' hf h'; exact he c ρ' d' w' a' ha' hd' (hf.mono hsub1) h'
   | some jb =>
     obtain ⟨j, b⟩ := jb; unfold denG at h
     cases ht : gdst l j with
     | none => rw [ht] at h; exact h.elim
     | some t =>
       rw [ht] at h; simp only [] at h; have ht' : ((l.toArray)[j]?).bind (·.dst) = some t := by rw [← gdst_eq]; exact ht
       cases hc : (ρ.has t && !(dsts os).contains t && (dsts os).all (fun s => Nat.blt s n)) with
       | false => rw [hc] at h; exact h.elim
       | true =>
         rw [hc] at h; simp only [cond_true] at h; simp only [Bool.and_eq_true, Bool.not_eq_true', List.all_eq_true] at hc; obtain ⟨⟨h1, h2⟩, h3⟩ := hc; have hnot : t ∉ dsts os := by simpa using h2
         have hlt : ∀ s ∈ dsts os, s < n := fun s hs => by have := h3 s hs; simpa [Nat.blt_eq] using this
         obtain ⟨K, hK1, hK2⟩ := h; have hval := (ha.at h1).2; have behind : ∀ (f : Nat → Value) (d' : M.D) (w' : World) (a' : Act), a'.tmps.size = n → a'.defers = M.get d' → Fr (dsts os) a a' →
             (∀ s ∈ nub ((dsts os).filter (rdG gs ++ rdGuards l gs ++ lv).contains), a'.tmps[s]? = some (f s)) →
             K ((nub ((dsts os).filter (rdG gs ++ rdGuards l gs ++ lv).contains)).map f) d' w' → wpList P l.toArray Q (gs.flatMap (·.2)) a' w' := by
           intro f d' w' a' hs' hd' hf ho hk'; refine denG_wp gs _ d' w' a' k (Eq.mp (frc_eq _ _) (hK1 _ _ _ hk')) (Ag.new f ha hs' hf ho) hd' (fun g' hg' => hg g' (List.mem_cons_of_mem _ hg')) ?_ ?_
           · intro ρ'' d'' w'' a'' ha'' hd'' hf' hk''; exact hk ρ'' d'' w'' a'' ha'' hd'' ((hf.trans hf').mono hsub) hk''
           · intro c ρ'' d'' w'' a'' ha'' hd'' hf' h'; exact he c ρ'' d'' w'' a'' ha'' hd'' ((hf.trans hf').mono hsub) h'
         unfold Gd at hK2; split at hK2
         · rename_i c hv
           rw [hv] at hval; by_cases hcb : c = b
           · refine stepL_wp os ρ d w a _ (hK2.1 hcb) ha hd ?_ ?_ ?_
             · intro a' hf o ho; rw [wanted_of (hg _ (List.mem_cons_self ..) o ho) ht' (by rw [hf t hnot]; exact hval), hcb]; simp
             · intro ρ' d' w' a' ha' hd' hf hk'; obtain ⟨g1, g2⟩ := toAll_ok hk'; exact behind ρ'.at d' w' a' ha'.size hd' hf (fun s hs => (ha'.at (g1 s hs)).2) g2
             · intro c ρ' d' w' a' ha' hd' hf h'; exact he c ρ' d' w' a' ha' hd' (hf.mono hsub1) h'
           · have hcb' : c = !b := by cases c <;> cases b <;> simp_all
             refine skip_wp os a ?_ ?_
             · intro a' hf o ho; rw [wanted_of (hg _ (List.mem_cons_self ..) o ho) ht' (by rw [hf t hnot]; exact hval)]; simpa using hcb
             · refine behind (fun _ => undef) d w (skip os a) (by rw [skip_size]; exact ha.size) (by rw [skip_defers]; exact hd) (skip_fr os a) ?_ (hK2.2 hcb'); intro s hs; have hm := (List.mem_filter.1 (mem_nub hs)).1; exact skip_at os a s hm (by rw [ha.size]; exact hlt s hm)
         · rename_i hv
           refine skip_wp os a ?_ ?_
           · intro a' hf o ho; exact wanted_no (hg _ (List.mem_cons_self ..) o ho) ht' (by rw [hf t hnot]; exact hval) hv
           · refine behind (fun _ => undef) d w (skip os a) (by rw [skip_size]; exact ha.size) (by rw [skip_defers]; exact hd) (skip_fr os a) ?_ hK2; intro s hs; have hm := (List.mem_filter.1 (mem_nub hs)).1; exact skip_at os a s hm (by rw [ha.size]; exact hlt s hm)
end Go.Sh


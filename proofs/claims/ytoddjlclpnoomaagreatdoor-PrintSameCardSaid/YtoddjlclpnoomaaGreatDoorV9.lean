import Derived.Lib.BufferRead
import Derived.Lib.SlBytesRow
import Derived.Test.YtoddjlclpnoomaaGreatDoorV5
import Derived.Test.YtoddjlclpnoomaaGreatDoorV6
import Derived.Test.YtoddjlclpnoomaaGreatDoorV8
set_option linter.unusedVariables false
set_option linter.unusedSimpArgs false
set_option maxRecDepth 100000
namespace Go.Proofs.YtoddjlclpnoomaaGreatDoor
open Go.Sh
theorem Ret.imp2 {K : FuncId} {a : Array Value} {w : World} {Q k : Value → World → Prop} {E e : List PanicEntry → World → Prop} (h : Calls Tryz.prog K a w (Ret Q E)) (hk : ∀ v w', Q v w' → k v w') (he : ∀ c w', E c w' → e c w') : Calls Tryz.prog K a w (Ret k e) :=
 h.mono fun en w' hr => by
   cases en with
   | returned v => exact hk v w' hr
   | panicked c => exact he c w' hr
   | outgrown => exact hr
theorem c275 {w : World} {b : Nat} {c l : Int} (a : At w b [.int .i64 c, .int .i64 l]) : Calls Tryz.prog 275 #[ptr b] w (Ret (fun v w' => v = .iface 23 (.int .i64 c) ∧ w' = w) NP) := by
 refine s275 ?_; unfold S275; unfold ptr; repeat (first | refine Up.i (Nc.p _ _) ?_ | refine V1.load (oneAll rfl) (by assumption) rfl ?_ | refine V1.i (by simp [go_sem] <;> trivial) ?_)
 refine If.f ?_; refine Up.i (Nc.p _ _) ?_; refine V1.i (by simp [go_sem] <;> trivial) ?_; refine V1.load (oneAll rfl) (a) rfl ?_; refine V1.i (by simp [go_sem] <;> trivial) ?_; exact ⟨rfl, rfl⟩
theorem c292 {w : World} {b : Nat} {x y e : Value} (a : At w b [x, y, e]) : Calls Tryz.prog 292 #[ptr b] w (Ret (fun v w' => v = e ∧ w' = w) NP) := by
 refine s292 ?_; unfold S292; unfold ptr; refine Up.i (Nc.p _ _) ?_; refine V1.i (by simp [go_sem] <;> trivial) ?_; refine V1.load (oneAll rfl) (a) rfl ?_; exact ⟨rfl, rfl⟩
theorem c38e (w : World) (a b : Int) : Calls Tryz.prog 38 #[.iface 23 (.int .i64 a), .iface 23 (.int .i64 b), .bool true] w (Ret (fun v w' => v = .bool (a == b) ∧ w' = w) NP) := by
 refine s38 ?_; unfold S38; refine L2.i (fun u v w' => w' = w ∧ u = .iface 23 (.int .i64 a)) (fun u v w' => 0) ⟨rfl, rfl⟩ ?_; rintro u v w' ⟨rfl, rfl⟩; refine J1.go (Gd.tt ?_); refine V1.i (eqE w' _ _ a b) ?_; refine V1.i (by simp [go_sem] <;> trivial) ?_; refine If.b (fun hb => ⟨by rw [hb], rfl⟩) (fun hb => ?_); refine V1.i (no130_23 _ _ _) ?_; repeat (first | refine J1.go ?_ | refine J0.go ?_ | refine Gd.tt ?_ | refine Gd.ff ?_ | refine Gd.tf ?_ | refine Gd.ft ?_ | refine Gd.u ?_ | refine If.t ?_ | refine If.f ?_ | refine Up.i (Nc.p _ _) ?_ | refine V1.load (oneAll rfl) (by assumption) rfl ?_ | refine V1.i (w' := w') (by simp [go_sem]; first | done | rfl | exact ⟨rfl, rfl⟩) ?_)
 refine V1.i (no133_23 _ _ _) ?_; repeat (first | refine J1.go ?_ | refine J0.go ?_ | refine Gd.tt ?_ | refine Gd.ff ?_ | refine Gd.tf ?_ | refine Gd.ft ?_ | refine Gd.u ?_ | refine If.t ?_ | refine If.f ?_ | refine Up.i (Nc.p _ _) ?_ | refine V1.load (oneAll rfl) (by assumption) rfl ?_ | refine V1.i (w' := w') (by simp [go_sem]; first | done | rfl | exact ⟨rfl, rfl⟩) ?_)
 refine V1.i (no135_23 _ _ _) ?_; repeat (first | refine J1.go ?_ | refine J0.go ?_ | refine Gd.tt ?_ | refine Gd.ff ?_ | refine Gd.tf ?_ | refine Gd.ft ?_ | refine Gd.u ?_ | refine If.t ?_ | refine If.f ?_ | refine Up.i (Nc.p _ _) ?_ | refine V1.load (oneAll rfl) (by assumption) rfl ?_ | refine V1.i (w' := w') (by simp [go_sem]; first | done | rfl | exact ⟨rfl, rfl⟩) ?_)
 exact ⟨by rw [hb], rfl⟩
theorem c38f {w : World} {b : Nat} {c l : Int} (at1 : At w b [.int .i64 c, .int .i64 l]) (d : Int) : Calls Tryz.prog 38 #[.iface 76 (ptr b), .iface 23 (.int .i64 d), .bool true] w (Ret (fun v w' => v = .bool (c == d) ∧ w' = w) NP) := by
 refine s38 ?_; unfold S38; refine L2.i (fun u v w' => w' = w ∧ (u = .iface 76 (ptr b) ∨ u = .iface 23 (.int .i64 c))) (fun u v w' => match u with | .iface 76 _ => 1 | _ => 0) ⟨rfl, .inl rfl⟩ ?_; rintro u v w' ⟨rfl, rfl | rfl⟩
 · refine J1.go (Gd.tt ?_); refine V1.i (eqI w' _ _ _ _ _ _ (by decide)) ?_; repeat (first | refine J1.go ?_ | refine J0.go ?_ | refine Gd.tt ?_ | refine Gd.ff ?_ | refine Gd.tf ?_ | refine Gd.ft ?_ | refine Gd.u ?_ | refine If.t ?_ | refine If.f ?_ | refine Up.i (Nc.p _ _) ?_ | refine V1.load (oneAll rfl) (by assumption) rfl ?_ | refine V1.i (w' := w') (by simp [go_sem]; first | done | rfl | exact ⟨rfl, rfl⟩) ?_)
   refine V1.i (no130_76 _ _ _) ?_; repeat (first | refine J1.go ?_ | refine J0.go ?_ | refine Gd.tt ?_ | refine Gd.ff ?_ | refine Gd.tf ?_ | refine Gd.ft ?_ | refine Gd.u ?_ | refine If.t ?_ | refine If.f ?_ | refine Up.i (Nc.p _ _) ?_ | refine V1.load (oneAll rfl) (by assumption) rfl ?_ | refine V1.i (w' := w') (by simp [go_sem]; first | done | rfl | exact ⟨rfl, rfl⟩) ?_)
   refine V1.i (has133_76 _ _ _) ?_; repeat (first | refine J1.go ?_ | refine J0.go ?_ | refine Gd.tt ?_ | refine Gd.ff ?_ | refine Gd.tf ?_ | refine Gd.ft ?_ | refine Gd.u ?_ | refine If.t ?_ | refine If.f ?_ | refine Up.i (Nc.p _ _) ?_ | refine V1.load (oneAll rfl) (by assumption) rfl ?_ | refine V1.i (w' := w') (by simp [go_sem]; first | done | rfl | exact ⟨rfl, rfl⟩) ?_)
   refine Up.c (inv275 _ _) (Ret.imp2 (c275 at1) ?_ (NP.no (e := _))); rintro _ w2 ⟨rfl, rfl⟩; refine V1.i (eqNil _ _ _ _) ?_; repeat (first | refine J1.go ?_ | refine J0.go ?_ | refine Gd.tt ?_ | refine Gd.ff ?_ | refine Gd.tf ?_ | refine Gd.ft ?_ | refine Gd.u ?_ | refine If.t ?_ | refine If.f ?_ | refine Up.i (Nc.p _ _) ?_ | refine V1.load (oneAll rfl) (by assumption) rfl ?_ | refine V1.i (w' := w2) (by simp [go_sem]; first | done | rfl | exact ⟨rfl, rfl⟩) ?_)
   exact ⟨⟨rfl, .inr rfl⟩, Nat.one_pos⟩
 · refine J1.go (Gd.tt ?_); refine V1.i (eqE w' _ _ c d) ?_; refine V1.i (by simp [go_sem] <;> trivial) ?_; refine If.b (fun hb => ⟨by rw [hb], rfl⟩) (fun hb => ?_); refine V1.i (no130_23 _ _ _) ?_; repeat (first | refine J1.go ?_ | refine J0.go ?_ | refine Gd.tt ?_ | refine Gd.ff ?_ | refine Gd.tf ?_ | refine Gd.ft ?_ | refine Gd.u ?_ | refine If.t ?_ | refine If.f ?_ | refine Up.i (Nc.p _ _) ?_ | refine V1.load (oneAll rfl) (by assumption) rfl ?_ | refine V1.i (w' := w') (by simp [go_sem]; first | done | rfl | exact ⟨rfl, rfl⟩) ?_)
   refine V1.i (no133_23 _ _ _) ?_; repeat (first | refine J1.go ?_ | refine J0.go ?_ | refine Gd.tt ?_ | refine Gd.ff ?_ | refine Gd.tf ?_ | refine Gd.ft ?_ | refine Gd.u ?_ | refine If.t ?_ | refine If.f ?_ | refine Up.i (Nc.p _ _) ?_ | refine V1.load (oneAll rfl) (by assumption) rfl ?_ | refine V1.i (w' := w') (by simp [go_sem]; first | done | rfl | exact ⟨rfl, rfl⟩) ?_)
   refine V1.i (no135_23 _ _ _) ?_; repeat (first | refine J1.go ?_ | refine J0.go ?_ | refine Gd.tt ?_ | refine Gd.ff ?_ | refine Gd.tf ?_ | refine Gd.ft ?_ | refine Gd.u ?_ | refine If.t ?_ | refine If.f ?_ | refine Up.i (Nc.p _ _) ?_ | refine V1.load (oneAll rfl) (by assumption) rfl ?_ | refine V1.i (w' := w') (by simp [go_sem]; first | done | rfl | exact ⟨rfl, rfl⟩) ?_)
   exact ⟨by rw [hb], rfl⟩
theorem c38n {w : World} {b : Nat} {x y : Value} {p : Addr} (at1 : At w b [x, y, .iface 272 (.pointer (some p))]) : Calls Tryz.prog 38 #[.iface 256 (ptr b), .iface 272 (.pointer (some p)), .bool true] w (Ret (fun v w' => v = .bool true ∧ w' = w) NP) := by
 refine s38 ?_; unfold S38; refine L2.i (fun u v w' => w' = w ∧ (u = .iface 256 (ptr b) ∨ u = .iface 272 (.pointer (some p)))) (fun u v w' => match u with | .iface 256 _ => 1 | _ => 0) ⟨rfl, .inl rfl⟩ ?_; rintro u v w' ⟨rfl, rfl | rfl⟩
 · refine J1.go (Gd.tt ?_); refine V1.i (eqI w' _ _ _ _ _ _ (by decide)) ?_; repeat (first | refine J1.go ?_ | refine J0.go ?_ | refine Gd.tt ?_ | refine Gd.ff ?_ | refine Gd.tf ?_ | refine Gd.ft ?_ | refine Gd.u ?_ | refine If.t ?_ | refine If.f ?_ | refine Up.i (Nc.p _ _) ?_ | refine V1.load (oneAll rfl) (by assumption) rfl ?_ | refine V1.i (w' := w') (by simp [go_sem]; first | done | rfl | exact ⟨rfl, rfl⟩) ?_)
   refine V1.i (no130_256 _ _ _) ?_; repeat (first | refine J1.go ?_ | refine J0.go ?_ | refine Gd.tt ?_ | refine Gd.ff ?_ | refine Gd.tf ?_ | refine Gd.ft ?_ | refine Gd.u ?_ | refine If.t ?_ | refine If.f ?_ | refine Up.i (Nc.p _ _) ?_ | refine V1.load (oneAll rfl) (by assumption) rfl ?_ | refine V1.i (w' := w') (by simp [go_sem]; first | done | rfl | exact ⟨rfl, rfl⟩) ?_)
   refine V1.i (has133_256 _ _ _) ?_; repeat (first | refine J1.go ?_ | refine J0.go ?_ | refine Gd.tt ?_ | refine Gd.ff ?_ | refine Gd.tf ?_ | refine Gd.ft ?_ | refine Gd.u ?_ | refine If.t ?_ | refine If.f ?_ | refine Up.i (Nc.p _ _) ?_ | refine V1.load (oneAll rfl) (by assumption) rfl ?_ | refine V1.i (w' := w') (by simp [go_sem]; first | done | rfl | exact ⟨rfl, rfl⟩) ?_)
   refine Up.c (inv292 _ _) (Ret.imp2 (c292 at1) ?_ (NP.no (e := _))); rintro _ w2 ⟨rfl, rfl⟩; refine V1.i (eqNil _ _ _ _) ?_; repeat (first | refine J1.go ?_ | refine J0.go ?_ | refine Gd.tt ?_ | refine Gd.ff ?_ | refine Gd.tf ?_ | refine Gd.ft ?_ | refine Gd.u ?_ | refine If.t ?_ | refine If.f ?_ | refine Up.i (Nc.p _ _) ?_ | refine V1.load (oneAll rfl) (by assumption) rfl ?_ | refine V1.i (w' := w2) (by simp [go_sem]; first | done | rfl | exact ⟨rfl, rfl⟩) ?_)
   exact ⟨⟨rfl, .inr rfl⟩, Nat.one_pos⟩
 · refine J1.go (Gd.tt ?_); refine V1.i (eqP w' _ _ p) ?_; repeat (first | refine J1.go ?_ | refine J0.go ?_ | refine Gd.tt ?_ | refine Gd.ff ?_ | refine Gd.tf ?_ | refine Gd.ft ?_ | refine Gd.u ?_ | refine If.t ?_ | refine If.f ?_ | refine Up.i (Nc.p _ _) ?_ | refine V1.load (oneAll rfl) (by assumption) rfl ?_ | refine V1.i (w' := w') (by simp [go_sem]; first | done | rfl | exact ⟨rfl, rfl⟩) ?_)
   exact ⟨rfl, rfl⟩
theorem Cf.ext {k : FuncId} {a : Array Value} {w w' : World} {v : Value} {K : Value → World → Prop} {e : List PanicEntry → World → Prop} (h : (callFunc k a).run Tryz.prog w = .ok (.value v) w') (hK : K v w') : Cf Tryz.prog k a w K e := Up.i h hK
theorem c21_nil (w : World) (t : TypeId) (v : Value) : Calls Tryz.prog 21 #[.nilIface, .iface t v] w (Ret (fun v w' => v = .bool false ∧ w' = w) NP) := by
 refine s21 ?_; unfold S21; refine V1.i (eqNN _ _) ?_; refine J1.go (Gd.tf ?_); repeat (first | refine J1.go ?_ | refine J0.go ?_ | refine Gd.tt ?_ | refine Gd.ff ?_ | refine Gd.tf ?_ | refine Gd.ft ?_ | refine Gd.u ?_ | refine If.t ?_ | refine If.f ?_ | refine Up.i (Nc.p _ _) ?_ | refine V1.load (oneAll rfl) (by assumption) rfl ?_ | refine V1.i (w' := w) (by simp [go_sem]; first | done | rfl | exact ⟨rfl, rfl⟩) ?_)
 exact ⟨rfl, rfl⟩
theorem c21_of {w : World} {te tt : TypeId} {ve vt : Value} {r : Bool} (hc : (invoke (.fn (.method "Comparable") #[]) #[RT tt]).run Tryz.prog w = .ok (.value (.bool true)) w)
   (h : Calls Tryz.prog 38 #[.iface te ve, .iface tt vt, .bool true] w (Ret (fun v w' => v = .bool r ∧ w' = w) NP)) : Calls Tryz.prog 21 #[.iface te ve, .iface tt vt] w (Ret (fun v w' => v = .bool r ∧ w' = w) NP) := by
 refine s21 ?_; unfold S21; refine V1.i (eqNil _ _ _ _) ?_; refine J1.go (Gd.ff ?_); refine V1.i (eqNil _ _ _ _) ?_; refine V1.i (v := .bool false) (w' := w) (by simp [go_sem]) ?_; refine If.f ?_; unfold cf up; refine Cf.ext (ext37 tt vt w) ?_; have hc' : (invoke (.fn (.method "Comparable") #[]) (#[RT tt] ++ #[])).run Tryz.prog w = .ok (.value (.bool true)) w := by rw [Array.append_empty]; exact hc
 show Up Tryz.prog (invoke (.fn (.method "Comparable") #[]) (#[RT tt] ++ #[])) w _ _
 generalize hs : invoke (.fn (.method "Comparable") #[]) (#[RT tt] ++ #[]) = s at hc' ⊢; refine Up.i hc' ?_; refine cf38 (h) ?_ (NP.no (e := _)); rintro _ w1 ⟨rfl, rfl⟩; exact ⟨rfl, rfl⟩
theorem c21e (w : World) (a b : Int) : Calls Tryz.prog 21 #[.iface 23 (.int .i64 a), .iface 23 (.int .i64 b)] w (Ret (fun v w' => v = .bool (a == b) ∧ w' = w) NP) := c21_of (extC23 w) (c38e w a b)
theorem c21f {w : World} {b : Nat} {c l : Int} (at1 : At w b [.int .i64 c, .int .i64 l]) (d : Int) : Calls Tryz.prog 21 #[.iface 76 (ptr b), .iface 23 (.int .i64 d)] w (Ret (fun v w' => v = .bool (c == d) ∧ w' = w) NP) := c21_of (extC23 w) (c38f at1 d)
theorem c21n {w : World} {b : Nat} {x y : Value} {p : Addr} (at1 : At w b [x, y, .iface 272 (.pointer (some p))]) : Calls Tryz.prog 21 #[.iface 256 (ptr b), .iface 272 (.pointer (some p))] w (Ret (fun v w' => v = .bool true ∧ w' = w) NP) := c21_of (extC272 w) (c38n at1)
theorem ld149 (w : World) (b : Nat) (x y z : Value) (a : At w b [x, y, z]) : (Instr.loadAt 149 (.pointer (some ⟨b, 0, none⟩))).run Tryz.prog w = .ok (.agg #[x, y, z]) w := by
 have h0 := a.cell 0; have h1 := a.cell 1; have h2 := a.cell 2; simp at h0 h1 h2
 simp [go_sem, h0, h1, h2]
theorem U1.rv {w : World} {b : Nat} {c : List Value} {p q : Option Addr} {n : Int} {k : World → Prop} {e : List PanicEntry → World → Prop} (hA : At w b c) (hl : c.length = 3)
   (hk : ∀ w', Upd w b [.pointer p, .pointer q, .int .u64 n] w' → k w') : U1 Tryz.prog (Instr.storeAt 149 (.pointer (some ⟨b, 0, none⟩)) (.agg #[.pointer p, .pointer q, .int .u64 n])) w k e := by
 match c, hl with
 | [c0, c1, c2], _ =>
   have h0 := hA.set 0 (.pointer p); have h1 := h0.set 1 (.pointer q); have h2 := h1.set 2 (.int .u64 n); refine U1.i (w' := ((w.setCell ⟨b, 0, none⟩ (.pointer p)).setCell ⟨b, 1, none⟩ (.pointer q)).setCell ⟨b, 2, none⟩ (.int .u64 n)) (v := ()) ?_ (hk _ ⟨h2, by simp [World.setCell], ?_, fun q => by simp only [shape_set]⟩)
   · simp [go_sem, hA.cell, hA.fr]
   · exact (((Keep.refl _ _).set _ (.inl (by simp))).set _ (.inl (by simp))).set _ (.inl (by simp))
theorem c96 {w : World} {b b1 : Nat} {c : Int} {x : Value} (at1 : At w b [x]) (at2 : At w b1 [.pointer (some ⟨b, 0, none⟩)]) (a1 : Value) :
   Calls Tryz.prog 96 #[.iface 23 (.int .i64 c), a1, .agg #[.pointer (some ⟨12, 116, none⟩), ptr b1, .int .u64 150], RT 23] w (Ret (fun v w' => v = .bool true ∧ At w' b [.int .i64 c] ∧ Keep [b] w w') NP) := by
 refine s96 ?_; unfold S96; unfold ptr; have l1 := at1.lt; have l2 := at2.lt; have kk := Keep.refl [b] w; have e1 := ext37 23 (.int .i64 c); refine V1.new (bx149 _ _) fun b6 w1 N1 => ?_; have gN1 := N1.ge; have lN1 := N1.lt; have zN1 := N1.keep.size; have a6 := N1.at_; try simp only [Value.cells, List.toList_toArray] at a6
 refine L2.i (fun u v w' => w' = w1 ∧ u = .iface 23 (.int .i64 c)) (fun u v w' => 0) ⟨rfl, rfl⟩ ?_; rintro u v w' ⟨rfl, rfl⟩; refine Cf.ext (ext37 23 (.int .i64 c) w') ?_; have e2 : (invoke (.fn (.method "AssignableTo") #[]) (#[RT 23] ++ #[RT 23])).run Tryz.prog w' = .ok (.value (.bool true)) w' := by rw [show (#[RT 23] ++ #[RT 23] : Array Value) = #[RT 23, RT 23] from rfl]; exact extAssign w'
 show Up Tryz.prog (invoke (.fn (.method "AssignableTo") #[]) (#[RT 23] ++ #[RT 23])) w' _ _
 generalize invoke (.fn (.method "AssignableTo") #[]) (#[RT 23] ++ #[RT 23]) = s at e2 ⊢; refine Up.i e2 ?_; refine If.t ?_; refine V1.i (ld149 w' b6 _ _ _ a6) ?_; have hc1 : w'.cell? ⟨b1, 0, none⟩ = some (.pointer (some ⟨b, 0, none⟩)) := by rw [(N1.keep.at at2 (by simp)).cell]; rfl
 have e3 := ext153 w' b1 ⟨b, 0, none⟩ hc1; show Up Tryz.prog (callFunc 153 #[.agg #[.pointer (some ⟨12, 116, none⟩), .pointer (some ⟨b1, 0, none⟩), .int .u64 150]]) w' _ _
 generalize callFunc 153 #[.agg #[.pointer (some ⟨12, 116, none⟩), .pointer (some ⟨b1, 0, none⟩), .int .u64 150]] = s at e3 ⊢; refine Up.i e3 ?_; have e4 := ext93e w' c; show Up Tryz.prog (callFunc 93 #[.iface 23 (.int .i64 c)]) w' _ _
 generalize callFunc 93 #[.iface 23 (.int .i64 c)] = s at e4 ⊢; refine Up.i e4 ?_; have a7 := At.new w' #[.int .i64 c] 23; have k7 := (Keep.refl [] w').alloc (.cells #[.int .i64 c] 23); have n7 : w'.heap.size < (w'.alloc (.cells #[.int .i64 c] 23)).heap.size := by simp
 generalize hw : w'.alloc (.cells #[.int .i64 c] 23) = w8 at a7 k7 n7 ⊢; have ab := (N1.keep.trans k7).at at1 (by simp); have e5 := ext154 w8 ⟨b, 0, none⟩ ⟨w'.heap.size, 0, none⟩ c x (by rw [a7.cell]; rfl) (by rw [ab.cell]; rfl) (ab.fr 0); show Up Tryz.prog (callFunc 154 #[.agg #[.pointer (some ⟨12, 23, none⟩), .pointer (some ⟨b, 0, none⟩), .int .u64 386], .agg #[.pointer (some ⟨12, 23, none⟩), .pointer (some ⟨w'.heap.size, 0, none⟩), .int .u64 130]]) w8 _ _
 generalize callFunc 154 #[.agg #[.pointer (some ⟨12, 23, none⟩), .pointer (some ⟨b, 0, none⟩), .int .u64 386], .agg #[.pointer (some ⟨12, 23, none⟩), .pointer (some ⟨w'.heap.size, 0, none⟩), .int .u64 130]] = s at e5 ⊢; refine Up.i e5 ?_; exact ⟨rfl, ab.set 0 _, ((N1.keep.trans k7).mono (by simp)).set _ (.inl (by simp))⟩
theorem c55 {w : World} {b : Nat} {c : Int} {x : Value} (g : GL w) (at1 : At w b [x]) :
   Calls Tryz.prog 55 #[.iface 23 (.int .i64 c), .iface 116 (ptr b)] w (Ret (fun v w' => v = .bool true ∧ At w' b [.int .i64 c] ∧ Keep [b] w w') NP) := by
 refine s55 ?_; unfold S55; have l1 := at1.lt; refine V1.i (eqNil _ _ _ _) ?_; refine If.f ?_; refine J0.go ?_; refine V1.i (by simp [go_sem] <;> trivial) ?_; refine If.f ?_; refine Cf.ext (ext93 w ⟨b, 0, none⟩) ?_; have a7 := At.new w #[.pointer (some ⟨b, 0, none⟩)] 116; have k7 := (Keep.refl [] w).alloc (.cells #[.pointer (some ⟨b, 0, none⟩)] 116); have n7 : w.heap.size < (w.alloc (.cells #[.pointer (some ⟨b, 0, none⟩)] 116)).heap.size := by simp
 generalize hw : w.alloc (.cells #[.pointer (some ⟨b, 0, none⟩)] 116) = w8 at a7 k7 n7 ⊢; have kk := k7; replace at1 := k7.at at1 (by simp); refine V1.new (al149 _) fun b5 w1 N1 => ?_; have gN1 := N1.ge; have lN1 := N1.lt; have zN1 := N1.keep.size; have a5 := N1.at_; try simp only [Value.cells, List.toList_toArray] at a5
 replace kk := N1.kp kk; replace a7 := N1.a a7; replace at1 := N1.a at1; refine U1.rv a5 rfl fun w2 U2 => ?_; have z2 := U2.size; replace kk := kk.trans' U2.keep (by simp <;> omega); replace a7 := U2.keep.at a7 (by simp <;> omega); replace at1 := U2.keep.at at1 (by simp <;> omega); have a5 := U2.at_; refine V1.i (ld149 _ _ _ _ _ a5) ?_; have e := ext94 w2 w.heap.size; show Up Tryz.prog (callFunc 94 #[.agg #[.pointer (some ⟨12, 116, none⟩), .pointer (some ⟨w.heap.size, 0, none⟩), .int .u64 150]]) w2 _ _
 generalize callFunc 94 #[.agg #[.pointer (some ⟨12, 116, none⟩), .pointer (some ⟨w.heap.size, 0, none⟩), .int .u64 150]] = s at e ⊢; refine Up.i e ?_; refine J0.go ?_; have e1 := extKind116 w2; show Up Tryz.prog (invoke (.fn (.method "Kind") #[]) (#[RT 116])) w2 _ _
 generalize invoke (.fn (.method "Kind") #[]) (#[RT 116]) = s at e1 ⊢; refine Up.i e1 ?_; refine V1.i (by simp [go_sem] <;> trivial) ?_; refine J1.go (Gd.ff ?_); refine V1.i (ld149 _ _ _ _ _ a5) ?_; have hc1 : w2.cell? ⟨w.heap.size, 0, none⟩ = some (.pointer (some ⟨b, 0, none⟩)) := by rw [a7.cell]; rfl
 have e2 := ext95 w2 w.heap.size ⟨b, 0, none⟩ hc1; show Up Tryz.prog (callFunc 95 #[.agg #[.pointer (some ⟨12, 116, none⟩), .pointer (some ⟨w.heap.size, 0, none⟩), .int .u64 150]]) w2 _ _
 generalize callFunc 95 #[.agg #[.pointer (some ⟨12, 116, none⟩), .pointer (some ⟨w.heap.size, 0, none⟩), .int .u64 150]] = s at e2 ⊢; refine Up.i e2 ?_; refine V1.i (by simp [go_sem] <;> trivial) ?_; refine If.f ?_; have e3 := extElem116 w2; show Up Tryz.prog (invoke (.fn (.method "Elem") #[]) (#[RT 116])) w2 _ _
 generalize invoke (.fn (.method "Elem") #[]) (#[RT 116]) = s at e3 ⊢; refine Up.i e3 ?_; refine J0.go ?_; have e4 := extKind23 w2; show Up Tryz.prog (invoke (.fn (.method "Kind") #[]) (#[RT 23])) w2 _ _
 generalize invoke (.fn (.method "Kind") #[]) (#[RT 23]) = s at e4 ⊢; refine Up.i e4 ?_; refine V1.i (by simp [go_sem] <;> trivial) ?_; refine J1.go (Gd.tt ?_); have hc2 : w2.cell? ⟨0, 0, none⟩ = some (RT 31) := (g.keep kk (by simp)).etype; refine V1.i ((oneAll rfl) _ _ _ hc2) ?_; have e5 := extImpl w2; show Up Tryz.prog (invoke (.fn (.method "Implements") #[]) (#[RT 23, RT 31])) w2 _ _
 generalize invoke (.fn (.method "Implements") #[]) (#[RT 23, RT 31]) = s at e5 ⊢; refine Up.i e5 ?_; refine V1.i (by simp [go_sem] <;> trivial) ?_; refine V1.i (by simp [go_sem] <;> trivial) ?_; refine If.f ?_; refine V1.i (ld149 _ _ _ _ _ a5) ?_; refine cf96 (c96 at1 a7 (.iface 116 (.pointer (some ⟨b, 0, none⟩)))) ?_ (NP.no (e := _)); rintro _ w9 ⟨rfl, ab, k9⟩; exact ⟨rfl, ab, (kk.mono (by simp)).trans' k9 (by simp)⟩
def fold10 (acc : Nat) (d : List UInt8) : Nat := d.foldl (fun a c => 10 * a + (c.toNat - 48)) acc
theorem fold10_le : ∀ (d : List UInt8) (acc : Nat), acc ≤ fold10 acc d
  | [], acc => Nat.le_refl _
  | c :: d, acc => by have := fold10_le d (10 * acc + (c.toNat - 48)); show acc ≤ fold10 (10 * acc + (c.toNat - 48)) d; omega
def isD (c : UInt8) : Prop := 48 ≤ c.toNat ∧ c.toNat ≤ 57
theorem parseM : ∀ (d : List UInt8) (acc : Nat), (∀ c ∈ d, isD c) → acc ≤ 18446744073709551615 →
   Lib.parseUintM 18446744073709551615 acc d = if 18446744073709551615 < fold10 acc d then .range else .ok (fold10 acc d)
 | [], acc, _, h => by
   have e : fold10 acc [] = acc := rfl; rw [e, if_neg (by omega)]; rfl
 | c :: d, acc, hd, h => by
   have hc : 48 ≤ c.toNat ∧ c.toNat ≤ 57 := hd c (by simp); have e : fold10 acc (c :: d) = fold10 (10 * acc + (c.toNat - 48)) d := rfl; have hle := fold10_le d (10 * acc + (c.toNat - 48)); unfold Lib.parseUintM; rw [if_pos hc, e]; by_cases h1 : 1844674407370955162 ≤ acc
   · rw [if_pos h1, if_pos (by omega)]
   · rw [if_neg h1]; by_cases h2 : 18446744073709551615 < acc * 10 + (c.toNat - 48)
     · rw [if_pos h2, if_pos (by omega)]
     · rw [if_neg h2, show acc * 10 + (c.toNat - 48) = 10 * acc + (c.toNat - 48) by omega]; exact parseM d _ (fun x hx => hd x (by simp [hx])) (by omega)
theorem parseB (d : List UInt8) (hd : ∀ c ∈ d, isD c) (hne : d ≠ []) : Lib.parseIntB 64 d = if 9223372036854775808 ≤ valN d then .range else .ok (valN d) := by
 cases d with
 | nil => exact absurd rfl hne
 | cons c d =>
   have hc : 48 ≤ c.toNat ∧ c.toNat ≤ 57 := hd c (by simp); have e : valN (c :: d) = fold10 0 (c :: d) := rfl; unfold Lib.parseIntB Lib.parseUintB; simp only []; rw [if_neg (by omega : ¬ (c.toNat = 43 ∨ c.toNat = 45)), if_neg (by simp), e]; have := parseM (c :: d) 0 hd (by omega); rw [show (2 ^ 64 - 1 : Nat) = 18446744073709551615 by decide, this]; by_cases h1 : 18446744073709551615 < fold10 0 (c :: d)
   · rw [if_pos h1, if_pos (by omega)]
   · rw [if_neg h1]; have h45 : ¬ c.toNat = 45 := by omega
     simp only [h45, not_false_eq_true, true_and, false_and, if_false]
theorem c148 (w : World) (d : List UInt8) (g : GL w) (hd : ∀ c ∈ d, isD c) (hne : d ≠ []) (hl : d.length ≤ 65536) : Calls Tryz.prog 148 #[str d] w (Ret (fun v w' => v = .tuple #[.int .i64 (numP d).1, .int .i64 (numP d).2] ∧ Keep [] w w') NP) := by
 refine s148 ?_; unfold S148; obtain ⟨c, d', rfl⟩ := List.exists_cons_of_ne_nil hne; have hc : 48 ≤ c.toNat ∧ c.toNat ≤ 57 := hd c (by simp); have e45 : Lib.trimPrefix (c :: d') [45] = c :: d' := by
   have : ¬ c = 45 := by rintro rfl; simp at hc
   have h2 : ((45 : UInt8) == c) = false := by simp; exact fun e => this e.symm
   simp [Lib.trimPrefix, Lib.hasPrefix, List.isPrefixOf, h2]
 refine cf189 (c189 w (c :: d') [45]) ?_ (NP.no (e := _)); rintro _ w1 ⟨rfl, rfl⟩; rw [e45]; refine V1.i (by simp [go_sem] <;> trivial) ?_; refine J1.go (Gd.ff ?_); refine V1.i (idxS _ (c :: d') 0 (by simp)) ?_; refine V1.i (by simp [go_sem] <;> trivial) ?_; refine J1.gd (!((c :: d') == [48])) (fun h k hk => ?_) ?_
 · refine V1.i (neS1 _ _ _ (c :: d') [48]) ?_; exact hk
 refine J1.go (Gd.ff ?_); refine V1.i (pkA _ _ _) ?_; refine V1.i (by simp [go_sem] <;> trivial) ?_; have eb : ((c.toNat : Int) == 48) = decide (c = 48) := by
   by_cases h : c = 48
   · subst h; rfl
   · have : ¬ (c.toNat : Int) = 48 := fun e => h (UInt8.toNat_inj.1 (by simp; omega)); simp [h, this]
 refine If.b (fun h => ?_) (fun h => ?_)
 · have h2 : (c :: d').headD 0 = 48 ∧ (c :: d') ≠ [48] := by
     rw [eb, Bool.and_eq_true] at h; exact ⟨by simpa using h.1, fun e => by
       obtain ⟨rfl, rfl⟩ : c = 48 ∧ d' = [] := by simpa using e
       simp at h⟩
   exact ⟨by simp only [numP]; rw [if_pos h2], Keep.refl _ _⟩
 have h2 : ¬ ((c :: d').headD 0 = 48 ∧ (c :: d') ≠ [48]) := by
   rintro ⟨h3, h4⟩; simp only [List.headD_cons] at h3; rw [eb, h3] at h; simp at h
   rw [h3] at h4; exact h4 (by rw [h])
 clear h eb; generalize c :: d' = d at *; refine V1.i (by simp [go_sem] <;> trivial) ?_; refine L3.i (fun u v x w' => w' = w1 ∧ ∃ k : Nat, k ≤ d.length ∧ x = .int .i64 k) (fun u v x w' => match x with | .int _ n => (d.length - n.toNat) | _ => 0) ⟨rfl, 0, by omega, rfl⟩ ?_; rintro u v x w' ⟨rfl, k, hk, rfl⟩; by_cases hlt : k < d.length
 · have hdk : 48 ≤ (d[k]).toNat ∧ (d[k]).toNat ≤ 57 := hd _ (List.getElem_mem _); refine V1.i (by simp [go_sem] <;> trivial) ?_; refine If.b (fun _ => ?_) (fun h => by simp at h; omega); refine V1.i (idxS _ d k hlt) ?_; refine V1.i (v := .bool false) (w' := w') (by simp [go_sem]; omega) ?_; refine J1.go (Gd.ff ?_); refine V1.i (idxS _ d k hlt) ?_; refine V1.i (v := .bool false) (w' := w') (by simp [go_sem]; omega) ?_; refine V1.i (by simp [go_sem] <;> trivial) ?_; refine If.f ?_; refine V1.i (addI _ _ _ _ _ _ (by omega) (by omega)) ?_; exact ⟨⟨rfl, k + 1, by omega, by simp⟩, by simp; omega⟩
 · have : k = d.length := by omega
   subst this; refine V1.i (by simp [go_sem] <;> trivial) ?_; refine If.b (fun h => by simp at h) (fun _ => ?_); have hp := parseB d hd hne; by_cases h63 : 9223372036854775808 ≤ valN d
   · rw [if_pos h63] at hp; refine cf190 (c190_range w' d g (by omega) hp) ?_ (NP.no (e := _)); rintro _ w2 ⟨v, N, a, rfl, aN, gN, c4, K2⟩; refine V1.i (by simp [go_sem] <;> trivial) ?_; refine V1.i (by simp [go_sem] <;> trivial) ?_; refine V1.i ((oneAll rfl) _ _ _ (K2.cell c4 (by simp))) ?_; refine cf21 (c21n aN) ?_ (NP.no (e := _)); rintro _ w3 ⟨rfl, rfl⟩; refine If.t ?_; exact ⟨by simp only [numP]; rw [if_neg h2, if_pos h63], K2⟩
   · rw [if_neg h63] at hp; refine cf190 (c190_ok w' d (by omega) _ hp) ?_ (NP.no (e := _)); rintro _ w2 ⟨rfl, K2⟩; refine V1.i (by simp [go_sem] <;> trivial) ?_; refine V1.i (by simp [go_sem] <;> trivial) ?_; obtain ⟨a, -, c4⟩ := g.erange; refine V1.i ((oneAll rfl) _ _ _ (K2.cell c4 (by simp))) ?_; refine cf21 (c21_nil w2 _ _) ?_ (NP.no (e := _)); rintro _ w3 ⟨rfl, rfl⟩; refine If.f ?_; exact ⟨by simp only [numP]; rw [if_neg h2, if_neg h63], K2⟩
theorem lng_digits (s : List UInt8) : ∀ c ∈ s.take (lng s digB), isD c := by
 induction s with
 | nil => simp
 | cons a s ih =>
   cases h : digB.contains a with
   | false => rw [lng_no h]; simp
   | true =>
     rw [lng_yes h]; intro c hc; simp only [List.take_succ_cons, List.mem_cons] at hc; rcases hc with rfl | hc
     · have hm : c ∈ digB := by simpa using h
       simp only [digB, List.mem_cons, List.not_mem_nil, or_false] at hm; rcases hm with rfl | rfl | rfl | rfl | rfl | rfl | rfl | rfl | rfl | rfl <;> (constructor <;> decide)
     · exact ih c hc
def WQ (r : WR) (v : Value) : Prop := match r with
  | .tok t n => v = .tuple #[tokV t, .int .i64 n, .nilIface]
  | .err c => ∃ x n, v = .tuple #[tokV x, n, .iface 23 (.int .i64 c)]
theorem c90 (w : World) (s : List UInt8) (g : GL w) (hl : s.length ≤ 65536) (h0 : digB.contains (s.headD 0) = true) :
   Calls Tryz.prog 90 #[str s] w (Ret (fun v w' => WQ (numT s) v ∧ Keep [] w w') NP) := by
 refine s90 ?_; unfold WQ; unfold S90; have hle := lng_le s digB; have hd := lng_digits s; have hne : s.take (lng s digB) ≠ [] := by
   cases s with
   | nil => simp [digB] at h0
   | cons a s => rw [lng_yes (by simpa using h0)]; simp
 have hlt : (s.take (lng s digB)).length ≤ 65536 := by simp; omega
 refine V1.new (al86 _) fun b1 w1 N1 => ?_; have gN1 := N1.ge; have lN1 := N1.lt; have zN1 := N1.keep.size; have a1 := N1.at_; try simp only [Value.cells, List.toList_toArray] at a1
 refine cf88 (c88 w1 s digB (by omega)) ?_ (NP.no (e := _)); rintro _ w2 ⟨rfl, rfl⟩; unfold numT; generalize hn : lng s digB = n at *; refine V1.i (toS _ s n hle) ?_; have g2 := g.new N1.keep; refine cf148 (c148 w2 (s.take n) g2 hd hne hlt) ?_ (NP.no (e := _)); rintro _ w3 ⟨rfl, K3⟩; have z3 := K3.size; replace a1 := K3.at a1 (by simp); have kk := N1.keep.trans K3; generalize hp : numP (s.take n) = r at *; obtain ⟨v, e⟩ := r; refine V1.i (by simp [go_sem] <;> trivial) ?_; refine V1.i (by simp [go_sem] <;> trivial) ?_; refine V1.i (by simp [go_sem] <;> trivial) ?_; have lb1 := a1.lt
 cases he : (e == 4) with
 | true =>
   have he' : e = 4 := by simpa using he
   refine J1.go (Gd.tf ?_); refine J1.go (Gd.u ?_); refine J1.go (Gd.tf ?_); refine V1.i (by simp [go_sem] <;> trivial) ?_; refine If.t ?_; refine V1.i (by simp [go_sem] <;> trivial) ?_; refine V1.i (by simp [go_sem] <;> trivial) ?_; refine U1.tok (t := ⟨0, [], 0, 0⟩) a1 rfl fun w4 U4 => ?_; refine ⟨_, ld_tok U4.at_, ?_, kk.then U4.keep (by simp) (by simp; omega)⟩; simp only [he', true_or, if_true]; exact ⟨⟨0, [], 0, 0⟩, _, rfl⟩
 | false =>
   have he' : ¬ e = 4 := by simpa using he
   refine J1.go (Gd.ff ?_); refine V1.i (by simp [go_sem] <;> trivial) ?_; refine V1.i (v := .bool (decide (n < s.length))) (w' := w3) (by simp [go_sem]) ?_; have hln : letB.contains ((s.drop n).headD 0) = (decide (n < s.length) && letB.contains ((s.drop n).headD 0)) := by
     by_cases h : n < s.length
     · simp [h]
     · rw [List.drop_eq_nil_of_le (by omega)]; simp [h, letB]
   refine J1.gd (letB.contains ((s.drop n).headD 0)) (fun h k hk => ?_) ?_
   · have h' : n < s.length := by simpa using h
     refine V1.i (idxS _ s n h') ?_; refine cf51 (c51 w3 s[n] letB) ?_ (NP.no (e := _)); rintro _ w4 ⟨rfl, rfl⟩; rw [List.drop_eq_getElem_cons h'] at hk; exact hk
   refine J1.go (Gd.ff ?_); refine V1.i (pkA _ _ _) ?_; rw [← hln]
   cases hb : letB.contains ((s.drop n).headD 0) with
   | true =>
     refine V1.i (by simp [go_sem] <;> trivial) ?_; refine If.t ?_; refine V1.i (by simp [go_sem] <;> trivial) ?_; refine V1.i (by simp [go_sem] <;> trivial) ?_; refine U1.tok (t := ⟨0, [], 0, 0⟩) a1 rfl fun w4 U4 => ?_; refine ⟨_, ld_tok U4.at_, ?_, kk.then U4.keep (by simp) (by simp; omega)⟩; simp only [he', or_true, if_true]; exact ⟨⟨0, [], 0, 0⟩, _, rfl⟩
   | false =>
     refine V1.i (by simp [go_sem] <;> trivial) ?_; refine If.f ?_; refine V1.i (v := .bool (!(e == 0))) (w' := w3) (by simp [go_sem]; rfl) ?_; simp only [he', false_or, Bool.false_eq_true, if_false]
     cases h0 : (e == 0) with
     | true =>
       have h0' : e = 0 := by simpa using h0
       refine If.f ?_; refine V1.i (toS _ s n hle) ?_; refine V1.i (by simp [go_sem] <;> trivial) ?_; refine U1.tok (t := ⟨2, s.take n, v, 0⟩) a1 rfl fun w4 U4 => ?_; refine ⟨_, ld_tok U4.at_, ?_, kk.then U4.keep (by simp) (by simp; omega)⟩; rw [if_pos h0']
     | false =>
       have h0' : ¬ e = 0 := by simpa using h0
       refine If.t ?_; refine V1.i (by simp [go_sem] <;> trivial) ?_; refine V1.i (by simp [go_sem] <;> trivial) ?_; refine U1.tok (t := ⟨0, [], 0, 0⟩) a1 rfl fun w4 U4 => ?_; refine ⟨_, ld_tok U4.at_, ?_, kk.then U4.keep (by simp) (by simp; omega)⟩; rw [if_neg h0']; exact ⟨⟨0, [], 0, 0⟩, _, rfl⟩
def Fr (lo : Nat) (X : List Nat) (q : Nat) : Prop := lo ≤ q ∧ q ∉ X
theorem Rep.fr {lo : Nat} {X M : List Nat} {w w' : World} {t : Tr} {m : Md} (h : Rep (Fr lo X) w t m) (hk : Keep M w w') (hM : ∀ i ∈ M, i < lo ∨ i ∈ X ∨ w.heap.size ≤ i) : Rep (Fr lo X) w' t m :=
 Rep.keep hk (fun b h1 h2 => ⟨fun hb => by
   rcases hM b hb with h | h | h
   · have := h1.1; omega
   · exact h1.2 h
   · omega, h1⟩) t m h
theorem Rep.f0 {lo : Nat} {X : List Nat} {w w' : World} {t : Tr} {m : Md} (h : Rep (Fr lo X) w t m) (hk : Keep [] w w') : Rep (Fr lo X) w' t m := h.fr hk (by simp)
theorem Rep.fit {lo lo' : Nat} {X Y : List Nat} {w : World} {t : Tr} {m : Md} (h : Rep (Fr lo X) w t m) (hl : lo' ≤ lo) (hM : ∀ i ∈ Y, i < lo ∨ i ∈ X ∨ w.heap.size ≤ i) : Rep (Fr lo' Y) w t m :=
 Rep.imp (fun b h1 h2 => ⟨by have := h1.1; omega, fun hb => by
   rcases hM b hb with h | h | h
   · have := h1.1; omega
   · exact h1.2 h
   · omega⟩) t m h
theorem Strs.fit {lo lo' : Nat} {X Y : List Nat} {w : World} {v : Value} {ss : List (List UInt8)} (h : Strs (Fr lo X) w v ss) (hl : lo' ≤ lo) (hM : ∀ i ∈ Y, i < lo ∨ i ∈ X ∨ w.heap.size ≤ i) : Strs (Fr lo' Y) w v ss :=
 Strs.keep (Keep.refl [] w) (fun b h1 h2 => ⟨by simp, by have := h1.1; omega, fun hb => by
   rcases hM b hb with h | h | h
   · have := h1.1; omega
   · exact h1.2 h
   · omega⟩) h
theorem Rep.nw {lo : Nat} {X : List Nat} {w w' : World} {t : Tr} {m : Md} {b : Nat} {cs : List Value} (h : Rep (Fr lo X) w t m) (hN : New w b cs w') : Rep (Fr lo (b :: X)) w' t m :=
 Rep.fr (Rep.fit h (Nat.le_refl _) (fun i hi => by
   rcases List.mem_cons.1 hi with rfl | h
   · exact .inr (.inr hN.ge)
   · exact .inr (.inl h))) hN.keep (by simp)
theorem Rep.scL {F : Nat → Prop} {w : World} {t : Tr} {v : Value} (h : Rep F w t (.L v)) (ht : isList t = true) : Sc v = true := by
 cases t with
 | nil => rcases h with rfl | ⟨b, c, rfl⟩ <;> rfl
 | cons a t => obtain ⟨b, n, c, u, rfl, _⟩ := h; rfl
 | hole => cases ht
 | ex => cases ht
 | st => cases ht
theorem own_keep {w w' : World} {M : List Nat} {e : TypeId} {size : Nat} {v : Value} {n : Nat} {xs : List Value} (h : w.ownsRow 0 e size v n xs) (hk : Keep M w w') (hM : ∀ g, v.ownBlock = some g → g ∉ M) : w'.ownsRow 0 e size v n xs := by
 refine ⟨h.1, ?_⟩; rcases h.2 with h2 | ⟨g, cap, cur, rfl, hb, hg, h3⟩
 · exact .inl h2
 · refine .inr ⟨g, cap, cur, rfl, hb, ?_, h3⟩; rw [hk.same g ?_ (hM g rfl), hg]; rcases Nat.lt_or_ge g w.heap.size with h' | h'
   · exact h'
   · rw [Array.getElem?_eq_none h'] at hg; cases hg
def Cells (F : Nat → Prop) (w : World) : Tr → List Value → Prop
  | .nil, [] => True
  | .cons a t, u :: us => Rep F w a (.P u) ∧ Cells F w t us
  | _, _ => False
theorem Cells.keep {F G : Nat → Prop} {w w' : World} {M : List Nat} (hk : Keep M w w') (hM : ∀ b, F b → b < w.heap.size → b ∉ M ∧ G b) : ∀ (t : Tr) (us : List Value), Cells F w t us → Cells G w' t us
  | .nil, [], _ => trivial
  | .cons a t, u :: us, h => ⟨Rep.keep hk hM a _ h.1, Cells.keep hk hM t us h.2⟩
theorem Cells.snoc {F : Nat → Prop} {w : World} {x : Tr} {u : Value} (hx : Rep F w x (.P u)) : ∀ (t : Tr) (us : List Value), Cells F w t us → Cells F w (snoc t x) (us ++ [u])
  | .nil, [], _ => ⟨hx, trivial⟩
  | .cons a t, v :: us, h => ⟨h.1, Cells.snoc hx t us h.2⟩
theorem Cells.row {F : Nat → Prop} {w : World} {b : Nat} (hF : F b) : ∀ (t : Tr) (us : List Value) (o : Nat), Cells F w t us → (∀ j u, us[j]? = some u → w.cell? ⟨b, o + j, none⟩ = some u) → Rep F w t (.E b o us.length)
 | .nil, [], _, _, _ => rfl
 | .cons a t, u :: us, o, h, hc => ⟨us.length, u, rfl, by simpa using hc 0 u rfl, hF, h.1, Cells.row hF t us (o + 1) h.2 fun j v hj => by
     have := hc (j + 1) v (by simpa using hj); rwa [show o + 1 + j = o + (j + 1) by omega]⟩
theorem Cells.count {F : Nat → Prop} {w : World} : ∀ (t : Tr) (us : List Value), Cells F w t us → us.length = len t ∧ isList t = true
  | .nil, [], _ => ⟨rfl, rfl⟩
  | .cons a t, u :: us, h => by have := Cells.count t us h.2; exact ⟨by simp [len, this.1], this.2⟩
def Acc (e : TypeId) (lo : Nat) (X : List Nat) (w : World) (v : Value) (t : Tr) : Prop :=
  ∃ us, w.ownsRow 0 e 1 v us.length us ∧ Cells (Fr lo (v.ownBlock.toList ++ X)) w t us ∧ ∀ g, v.ownBlock = some g → lo ≤ g ∧ g ∉ X
theorem Acc.nil (e : TypeId) (lo : Nat) (X : List Nat) (w : World) : Acc e lo X w (.slice none 0 0) .nil := ⟨[], World.ownsRow_nil w 0 e 1, trivial, fun g h => by cases h⟩
theorem Acc.fr {e : TypeId} {lo : Nat} {X M : List Nat} {w w' : World} {v : Value} {t : Tr} (h : Acc e lo X w v t) (hk : Keep M w w') (hM : ∀ i ∈ M, i < lo ∨ i ∈ X ∨ w.heap.size ≤ i) : Acc e lo X w' v t := by
 obtain ⟨us, h1, h2, h3⟩ := h; refine ⟨us, own_keep h1 hk fun g hg hgM => ?_, Cells.keep hk (fun b h1 h2 => ⟨fun hb => ?_, h1⟩) t us h2, h3⟩
 · have := h3 g hg; have := (h1.lt g hg).2; rcases hM g hgM with h | h | h
   · omega
   · exact absurd h (h3 g hg).2
   · omega
 · rcases hM b hb with h | h | h
   · have := h1.1; omega
   · exact h1.2 (by simp [h])
   · omega
theorem Acc.f0 {e : TypeId} {lo : Nat} {X : List Nat} {w w' : World} {v : Value} {t : Tr} (h : Acc e lo X w v t) (hk : Keep [] w w') : Acc e lo X w' v t := h.fr hk (by simp)
theorem Acc.fit {e : TypeId} {lo : Nat} {X Y : List Nat} {w : World} {v : Value} {t : Tr} (h : Acc e lo X w v t) (hM : ∀ i ∈ Y, i < lo ∨ i ∈ X ∨ w.heap.size ≤ i) : Acc e lo Y w v t := by
 obtain ⟨us, h1, h2, h3⟩ := h; refine ⟨us, h1, Cells.keep (Keep.refl [] w) (fun b hb hlt => ⟨by simp, hb.1, fun hm => ?_⟩) t us h2, fun g hg => ⟨(h3 g hg).1, fun hm => ?_⟩⟩
 · have := (h1.lt g hg).2; rcases hM g hm with h | h | h
   · have := (h3 g hg).1; omega
   · exact (h3 g hg).2 h
   · omega
 · simp at hm
   rcases hm with hm | hm
   · exact hb.2 (by simp [hm])
   · rcases hM b hm with h | h | h
     · have := hb.1; omega
     · exact hb.2 (by simp [h])
     · omega
theorem Acc.nw {e : TypeId} {lo : Nat} {X : List Nat} {w w' : World} {v : Value} {t : Tr} {b : Nat} {cs : List Value} (h : Acc e lo X w v t) (hN : New w b cs w') : Acc e lo (b :: X) w' v t :=
 (h.fit (fun i hi => by
   rcases List.mem_cons.1 hi with rfl | h
   · exact .inr (.inr hN.ge)
   · exact .inr (.inl h))).fr hN.keep (by simp)
theorem Acc.sc {e : TypeId} {lo : Nat} {X : List Nat} {w : World} {v : Value} {t : Tr} (h : Acc e lo X w v t) : Sc v = true := by
 obtain ⟨us, h1, h2, h3⟩ := h; rcases h1.2 with ⟨rfl, _⟩ | ⟨g, cap, cur, rfl, _⟩ <;> rfl
theorem Acc.lt {e : TypeId} {lo : Nat} {X : List Nat} {w : World} {v : Value} {t : Tr} (h : Acc e lo X w v t) {g : Nat} (hg : v.ownBlock = some g) : lo ≤ g ∧ g < w.heap.size := by
 obtain ⟨us, h1, h2, h3⟩ := h; exact ⟨(h3 g hg).1, (h1.lt g hg).2⟩
theorem Acc.isL {e : TypeId} {lo : Nat} {X : List Nat} {w : World} {v : Value} {t : Tr} (h : Acc e lo X w v t) : isList t = true := by
 obtain ⟨us, h1, h2, h3⟩ := h; exact (h2.count).2
theorem Acc.rep {e : TypeId} {lo : Nat} {X : List Nat} {w : World} {v : Value} {t : Tr} (h : Acc e lo X w v t) : Rep (Fr lo X) w t (.L v) := by
 obtain ⟨us, h1, h2, h3⟩ := h; have h2' : Cells (Fr lo X) w t us := Cells.keep (Keep.refl [] w) (fun b h1 h2 => ⟨by simp, h1.1, fun hb => h1.2 (by simp [hb])⟩) t us h2
 cases t with
 | nil =>
   cases us with
   | nil =>
     rcases h1.2 with ⟨h, _⟩ | ⟨g, cap, cur, h, _⟩
     · exact .inl h
     · exact .inr ⟨g, cap, h⟩
   | cons u us => exact h2.elim
 | cons a t =>
   cases us with
   | nil => exact h2.elim
   | cons u us =>
     rcases h1.2 with ⟨h, hn⟩ | ⟨g, cap, cur, rfl, hb, hg, hn, _⟩
     · simp at hn
     · have hc := h1.cells (g := g) rfl; refine ⟨g, us.length, cap, u, rfl, by simpa using hn, h3 g rfl, by simpa [Addr.add] using hc 0 u rfl, h2'.1, Cells.row (F := Fr lo X) (h3 g rfl) t us 1 h2'.2 fun j v hj => ?_⟩; have := hc (j + 1) v (by simpa using hj); simpa [Addr.add, Nat.add_comm] using this
 | hole => cases us <;> exact h2.elim
 | ex => cases us <;> exact h2.elim
 | st => cases us <;> exact h2.elim
theorem Acc.app {t e : TypeId} {i : TypeInfo} {z : Value} (ht : Tryz.prog.underlying t = some (.slice e)) (hi : Tryz.prog.info? e = some i) (hz : i.zero = some z) (hsize : i.size = 1) (hby : i.bytes = 8) (hzs : z.cells.size = 1)
   {lo : Nat} {X : List Nat} {w : World} {v : Value} {acc x : Tr} {u : Value} {b n : Nat} (h : Acc e lo X w v acc) (hb : At w b [u]) (hu : u.oneCell' = true) (hx : Rep (Fr lo (v.ownBlock.toList ++ X)) w x (.P u)) (hn : len acc ≤ n) (h40 : n ≤ 1099511627776)
   (hX : ∀ i ∈ X, i < w.heap.size) (hlo : lo ≤ w.heap.size) :
   ∃ v' w', (Builtin.append_ #[t, t] t #[v, .slice (some ⟨b, 0, none⟩) 1 1]).run Tryz.prog w = .ok v' w' ∧ Acc e lo X w' v' (snoc acc x) ∧ Keep v.ownBlock.toList w w' ∧ ∀ g, v'.ownBlock = some g → v.ownBlock = some g ∨ w.heap.size ≤ g := by
 obtain ⟨us, h1, h2, h3⟩ := h; have hl := h2.count.1; obtain ⟨v', w', hr, ho, hk, hv⟩ := append_own (P := Tryz.prog) t t e i z 1 8 ht hi hz hsize hby hzs (by omega) v us.length us h1 ⟨b, 0, none⟩ 1 1 [u] rfl (fun j a hj => by
   cases j with
   | zero => simp at hj; subst hj; simpa [Addr.add] using hb.cell 0
   | succ j => simp at hj) (by simpa using hu) (by simp only [maxLen]; omega) (by omega)
 have hgX : ∀ g, v'.ownBlock = some g → v.ownBlock = some g ∨ w.heap.size ≤ g := by
   intro g hg; rcases hv with hv | ⟨g', hv, hge⟩
   · exact .inl (by rw [← hv, hg])
   · rw [hv] at hg; cases hg; exact .inr hge
 refine ⟨v', w', hr, ⟨us ++ [u], by simpa using ho, ?_, ?_⟩, hk, hgX⟩
 · refine Cells.keep hk (fun q hq hlt => ⟨fun hm => hq.2 (by simp [hm]), hq.1, fun hm => ?_⟩) _ _ (Cells.snoc hx _ _ h2); simp at hm
   rcases hm with hm | hm
   · rcases hgX q hm with h | h
     · exact hq.2 (by simp [h])
     · omega
   · exact hq.2 (by simp [hm])
 · intro g hg; rcases hgX g hg with h | h
   · exact h3 g h
   · exact ⟨by omega, fun hm => by have := hX g hm; omega⟩
theorem app26 {lo : Nat} {X : List Nat} {w : World} {v : Value} {acc x : Tr} {u : Value} {b n : Nat} (h : Acc 40 lo X w v acc) (hb : At w b [u]) (hu : u.oneCell' = true) (hx : Rep (Fr lo (v.ownBlock.toList ++ X)) w x (.P u)) (hn : len acc ≤ n) (h40 : n ≤ 1099511627776)
    (hX : ∀ i ∈ X, i < w.heap.size) (hlo : lo ≤ w.heap.size) :
    ∃ v' w', (Builtin.append_ #[26, 26] 26 #[v, .slice (some ⟨b, 0, none⟩) 1 1]).run Tryz.prog w = .ok v' w' ∧ Acc 40 lo X w' v' (snoc acc x) ∧ Keep v.ownBlock.toList w w' ∧ ∀ g, v'.ownBlock = some g → v.ownBlock = some g ∨ w.heap.size ≤ g :=
  Acc.app (by kernel_rfl) (i := (Tryz.prog.info? 40).getD default) (z := .pointer none) (by kernel_rfl) (by kernel_rfl) (by kernel_rfl) (by kernel_rfl) (by kernel_rfl) h hb hu hx hn h40 hX hlo
theorem app44 {lo : Nat} {X : List Nat} {w : World} {v : Value} {acc x : Tr} {u : Value} {b n : Nat} (h : Acc 41 lo X w v acc) (hb : At w b [u]) (hu : u.oneCell' = true) (hx : Rep (Fr lo (v.ownBlock.toList ++ X)) w x (.P u)) (hn : len acc ≤ n) (h40 : n ≤ 1099511627776)
    (hX : ∀ i ∈ X, i < w.heap.size) (hlo : lo ≤ w.heap.size) :
    ∃ v' w', (Builtin.append_ #[44, 44] 44 #[v, .slice (some ⟨b, 0, none⟩) 1 1]).run Tryz.prog w = .ok v' w' ∧ Acc 41 lo X w' v' (snoc acc x) ∧ Keep v.ownBlock.toList w w' ∧ ∀ g, v'.ownBlock = some g → v.ownBlock = some g ∨ w.heap.size ≤ g :=
  Acc.app (by kernel_rfl) (i := (Tryz.prog.info? 41).getD default) (z := .pointer none) (by kernel_rfl) (by kernel_rfl) (by kernel_rfl) (by kernel_rfl) (by kernel_rfl) h hb hu hx hn h40 hX hlo
theorem len_snoc (t x : Tr) : isList t = true → len (snoc t x) = len t + 1 := by
 induction t with
 | cons a t _ ih => intro h; simp [snoc, len, ih h]
 | nil => intro _; rfl
 | hole => intro h; cases h
 | ex => intro h; cases h
 | st => intro h; cases h
def AccS (lo : Nat) (w : World) (v : Value) (ss : List (List UInt8)) : Prop := w.ownsRow 0 9 1 v ss.length (ss.map str) ∧ ∀ g, v.ownBlock = some g → lo ≤ g
theorem AccS.nil (lo : Nat) (w : World) : AccS lo w (.slice none 0 0) [] := ⟨World.ownsRow_nil w 0 9 1, fun g h => by cases h⟩
theorem AccS.lt {lo : Nat} {w : World} {v : Value} {ss : List (List UInt8)} (h : AccS lo w v ss) {g : Nat} (hg : v.ownBlock = some g) : lo ≤ g ∧ g < w.heap.size := ⟨h.2 g hg, (h.1.lt g hg).2⟩
theorem AccS.fr {lo : Nat} {M : List Nat} {w w' : World} {v : Value} {ss : List (List UInt8)} (h : AccS lo w v ss) (hk : Keep M w w') (hM : ∀ i ∈ M, i < lo ∨ w.heap.size ≤ i) : AccS lo w' v ss :=
 ⟨own_keep h.1 hk fun g hg hgM => by
   have := h.lt hg; have := hM g hgM; omega, h.2⟩
theorem AccS.f0 {lo : Nat} {w w' : World} {v : Value} {ss : List (List UInt8)} (h : AccS lo w v ss) (hk : Keep [] w w') : AccS lo w' v ss := h.fr hk (by simp)
theorem AccS.sc {lo : Nat} {w : World} {v : Value} {ss : List (List UInt8)} (h : AccS lo w v ss) : Sc v = true := by
 rcases h.1.2 with ⟨rfl, _⟩ | ⟨g, cap, cur, rfl, _⟩ <;> rfl
theorem AccS.strs {lo : Nat} {w : World} {v : Value} {ss : List (List UInt8)} (h : AccS lo w v ss) : Strs (Fr lo []) w v ss := by
 rcases h.1.2 with ⟨h1, h2⟩ | ⟨g, cap, cur, rfl, hb, hg, hn, hc, hs, ht⟩
 · exact .inl ⟨h1, List.eq_nil_of_length_eq_zero h2⟩
 · exact .inr ⟨g, cap, cur.toList, rfl, ⟨h.2 g rfl, by simp⟩, ⟨_, hg⟩, by simpa using ht, hn⟩
theorem app45 {lo : Nat} {w : World} {v : Value} {ss : List (List UInt8)} {s : List UInt8} {b n : Nat} (h : AccS lo w v ss) (hb : At w b [str s]) (hn : ss.length ≤ n) (h40 : n ≤ 1099511627776) (hlo : lo ≤ w.heap.size) :
   ∃ v' w', (Builtin.append_ #[45, 45] 45 #[v, .slice (some ⟨b, 0, none⟩) 1 1]).run Tryz.prog w = .ok v' w' ∧ AccS lo w' v' (ss ++ [s]) ∧ Keep v.ownBlock.toList w w' := by
 obtain ⟨v', w', hr, ho, hk, hv⟩ := append_own (P := Tryz.prog) 45 45 9 ((Tryz.prog.info? 9).getD default) (.string ⟨#[]⟩) 1 16 (by kernel_rfl) (by kernel_rfl) (by kernel_rfl) (by kernel_rfl) (by kernel_rfl) (by kernel_rfl) (by omega) v ss.length (ss.map str) h.1 ⟨b, 0, none⟩ 1 1 [str s] rfl (fun j a hj => by
   cases j with
   | zero => simp at hj; subst hj; simpa [Addr.add] using hb.cell 0
   | succ j => simp at hj) (by simp; rfl) (by simp only [maxLen]; omega) (by omega)
 refine ⟨v', w', hr, ⟨by simpa using ho, ?_⟩, hk⟩; intro g hg; rcases hv with hv | ⟨g', hv, hge⟩
 · exact h.2 g (by rw [← hv, hg])
 · rw [hv] at hg; cases hg; omega
def AccB (lo : Nat) (w : World) (v : Value) (ss : List UInt8) : Prop :=
  w.ownsRow 0 5 1 v ss.length (ss.map fun c => .int .u8 c.toNat) ∧ ∀ g, v.ownBlock = some g → lo ≤ g
theorem AccB.nil (lo : Nat) (w : World) : AccB lo w (.slice none 0 0) [] := ⟨World.ownsRow_nil w 0 5 1, fun g h => by cases h⟩
theorem AccB.lt {lo : Nat} {w : World} {v : Value} {ss : List UInt8} (h : AccB lo w v ss) {g : Nat} (hg : v.ownBlock = some g) : lo ≤ g ∧ g < w.heap.size := ⟨h.2 g hg, (h.1.lt g hg).2⟩
theorem AccB.fr {lo : Nat} {M : List Nat} {w w' : World} {v : Value} {ss : List UInt8} (h : AccB lo w v ss) (hk : Keep M w w') (hM : ∀ i ∈ M, i < lo ∨ w.heap.size ≤ i) : AccB lo w' v ss :=
 ⟨own_keep h.1 hk fun g hg hgM => by
   have := h.lt hg; have := hM g hgM; omega, h.2⟩
theorem AccB.f0 {lo : Nat} {w w' : World} {v : Value} {ss : List UInt8} (h : AccB lo w v ss) (hk : Keep [] w w') : AccB lo w' v ss := h.fr hk (by simp)
theorem app22 {lo : Nat} {w : World} {v : Value} {ss : List UInt8} {c : UInt8} {b n : Nat} (h : AccB lo w v ss) (hb : At w b [.int .u8 c.toNat]) (hn : ss.length ≤ n) (h40 : n ≤ 1099511627776) (hlo : lo ≤ w.heap.size) :
   ∃ v' w', (Builtin.append_ #[22, 22] 22 #[v, .slice (some ⟨b, 0, none⟩) 1 1]).run Tryz.prog w = .ok v' w' ∧ AccB lo w' v' (ss ++ [c]) ∧ Keep v.ownBlock.toList w w' := by
 obtain ⟨v', w', hr, ho, hk, hv⟩ := append_own (P := Tryz.prog) 22 22 5 ((Tryz.prog.info? 5).getD default) (.int .u8 0) 1 1 (by kernel_rfl) (by kernel_rfl) (by kernel_rfl) (by kernel_rfl) (by kernel_rfl) (by kernel_rfl) (by omega) v ss.length (ss.map fun c => .int .u8 c.toNat) h.1 ⟨b, 0, none⟩ 1 1 [.int .u8 c.toNat] rfl (fun j a hj => by
   cases j with
   | zero => simp at hj; subst hj; simpa [Addr.add] using hb.cell 0
   | succ j => simp at hj) (by simp; rfl) (by simp only [maxLen]; omega) (by omega)
 refine ⟨v', w', hr, ⟨by simpa using ho, ?_⟩, hk⟩; intro g hg; rcases hv with hv | ⟨g', hv, hge⟩
 · exact h.2 g (by rw [← hv, hg])
 · rw [hv] at hg; cases hg; omega
theorem AccB.sl {lo : Nat} {w : World} {v : Value} {ss : List UInt8} (h : AccB lo w v ss) : ∃ a c, v = .slice a ss.length c := by
 rcases h.1.2 with ⟨h1, h2⟩ | ⟨g, cap, cur, rfl, _⟩
 · exact ⟨none, 0, by rw [h1, h2]⟩
 · exact ⟨_, _, rfl⟩
theorem AccB.str {lo : Nat} {w : World} {v : Value} {ss : List UInt8} (h : AccB lo w v ss) : (Go.convert 22 9 v).run Tryz.prog w = .ok (Go.Sh.str ss) w := by
 rcases h.1.2 with ⟨h1, h2⟩ | ⟨g, cap, cur, rfl, hb, hg, hn, _⟩
 · have : ss = [] := List.eq_nil_of_length_eq_zero h2; subst this; rw [h1]; exact Lib.run_convert_nil_bytes w 22 9 5 0 (by kernel_rfl) (by kernel_rfl) (by kernel_rfl)
 · have hc := h.1.cells (g := g) rfl; exact Lib.run_convert_whole w 22 5 9 (by kernel_rfl) (by kernel_rfl) (by kernel_rfl) g 0 ⟨ss.toArray⟩ (fun i hi => by
     have hi' : i < ss.length := hi; have := hc i (.int .u8 (ss[i].toNat : Int)) (by simp [hi']); simp only [Addr.add, Nat.zero_add] at this ⊢; split at this
     · rename_i h
       obtain rfl : i = 0 := by simpa using h
       exact this
     · exact this) cap
theorem unq1_cons (c : UInt8) (l : List UInt8) : unq1 (c :: l) = if c < 32 ∨ 126 < c ∨ c = 34 ∨ (c = 92 ∧ l = []) then none else (if c = 92 then
      (if l.headD 0 = 120 then (if (c :: l).length < 4 ∨ hexV ((c :: l).getD 2 0) < 0 ∨ hexV ((c :: l).getD 3 0) < 0 then none else some (UInt8.ofNat ((hexV ((c :: l).getD 2 0)).toNat * 16 + (hexV ((c :: l).getD 3 0)).toNat), 4))
       else match nmd (l.headD 0) with | some v => some (v, 2) | none => none)
    else some (c, 1)) := rfl
theorem hexV_le (c : UInt8) : -1 ≤ hexV c ∧ hexV c ≤ 15 := by
 have := c.toNat_lt; unfold hexV; simp only [UInt8.le_iff_toNat_le, UInt8.reduceToNat]; split
 · omega
 · split <;> omega
theorem orI (a b : Fin 16) : bits .or .i64 ((a.val * 16 : Nat) : Int) ((b.val : Nat) : Int) = ((a.val * 16 + b.val : Nat) : Int) := by revert a b; decide
theorem hex2 (w : World) (x y : Int) (hx : 0 ≤ x ∧ x ≤ 15) (hy : 0 ≤ y ∧ y ≤ 15) : (Bo .or 3 false false (.int .i64 (x * 16)) (.int .i64 y)).run Tryz.prog w = .ok (.int .i64 (x * 16 + y)) w := by
 have := orI ⟨x.toNat, by omega⟩ ⟨y.toNat, by omega⟩; have e1 : ((x.toNat * 16 : Nat) : Int) = x * 16 := by omega
 have e2 : ((y.toNat : Nat) : Int) = y := by omega
 have e3 : ((x.toNat * 16 + y.toNat : Nat) : Int) = x * 16 + y := by omega
 simp only [e1, e2, e3] at this; simp [go_sem, Bo, this]
theorem convHex (w : World) (a b : Int) (ha : 0 ≤ a ∧ a ≤ 15) (hb : 0 ≤ b ∧ b ≤ 15) : (Go.convert 3 5 (.int .i64 (a * 16 + b))).run Tryz.prog w = .ok (.int .u8 ((UInt8.ofNat (a.toNat * 16 + b.toNat)).toNat : Int)) w := by
 simp [go_sem]
 rw [IntWalk.u8_in _ (by omega)]; omega
def B150 (R : Ending → World → Prop) (j1 : Value → Value → Value → Value → Value → World → Prop) (a7 a2_1 a3_1 a8 a4 : Value) (w : World) : Prop :=
 V1 Tryz.prog (Bo .eql 9 false true a4 (.string ⟨#[]⟩)) w (fun a29_1 w =>
 If a29_1 (
 V1 Tryz.prog (Builtin.len_ #[22] 3 #[a8]) w (fun a31_1 w =>
 V1 Tryz.prog (Bo .gtr 3 false true a31_1 (.int .i64 4096)) w (fun a32_1 w =>
 If a32_1 (
 R (.returned (.tuple #[(.string ⟨#[]⟩), (.int .i64 3)])) w) (
 V1 Tryz.prog (Go.convert 22 9 a8) w (fun a34_1 w =>
 R (.returned (.tuple #[a34_1, (.int .i64 0)])) w) (pn R))) (pn R)) (pn R)) (
 V1 Tryz.prog (Instr.index 9 a4 (.int .i64 0)) w (fun a36_1 w =>
 J4 (fun k11 =>
 V1 Tryz.prog (Bo .lss 5 false true a36_1 (.int .u8 32)) w (fun a39_1 w =>
 J1 (fun k12 =>
 Gd a39_1 false (V1 Tryz.prog (Bo .gtr 5 false true a36_1 (.int .u8 126)) w (fun a42_2 w =>
 k12 a42_2 w) (pn R)) (k12 undef w)) (fun a42_3 w =>
 V1 Tryz.prog (Pk a39_1 (.bool true) a42_3) w (fun a43_1 w =>
 J1 (fun k13 =>
 Gd a43_1 false (V1 Tryz.prog (Bo .eql 5 false true a36_1 (.int .u8 34)) w (fun a46_2 w =>
 k13 a46_2 w) (pn R)) (k13 undef w)) (fun a46_3 w =>
 V1 Tryz.prog (Pk a43_1 (.bool true) a46_3) w (fun a47_1 w =>
 J1 (fun k14 =>
 Gd a47_1 false (V1 Tryz.prog (Bo .eql 5 false true a36_1 (.int .u8 92)) w (fun a50_1 w =>
 k14 a50_1 w) (pn R)) (k14 undef w)) (fun a51_1 w =>
 J1 (fun k15 =>
 Gd a51_1 true (V1 Tryz.prog (Builtin.len_ #[9] 3 #[a4]) w (fun a53_1 w =>
 V1 Tryz.prog (Bo .lss 3 false true a53_1 (.int .i64 2)) w (fun a54_2 w =>
 k15 a54_2 w) (pn R)) (pn R)) (k15 undef w)) (fun a54_3 w =>
 J1 (fun k16 =>
 Gd a47_1 false (V1 Tryz.prog (Pk a51_1 a54_3 (.bool false)) w (fun a55_2 w =>
 k16 a55_2 w) (pn R)) (k16 undef w)) (fun a55_3 w =>
 V1 Tryz.prog (Pk a47_1 (.bool true) a55_3) w (fun a56_1 w =>
 If a56_1 (
 R (.returned (.tuple #[(.string ⟨#[]⟩), (.int .i64 4)])) w) (
 V1 Tryz.prog (Bo .eql 5 false true a36_1 (.int .u8 92)) w (fun a59_1 w =>
 J1 (fun k17 =>
 Gd a59_1 true (V1 Tryz.prog (Instr.index 9 a4 (.int .i64 1)) w (fun a62_1 w =>
 V1 Tryz.prog (Bo .eql 5 false true a62_1 (.int .u8 120)) w (fun a63_2 w =>
 k17 a63_2 w) (pn R)) (pn R)) (k17 undef w)) (fun a63_3 w =>
 V1 Tryz.prog (Pk a59_1 a63_3 (.bool false)) w (fun a64_1 w =>
 If a64_1 (
 V1 Tryz.prog (Builtin.len_ #[9] 3 #[a4]) w (fun a66_1 w =>
 V1 Tryz.prog (Bo .lss 3 false true a66_1 (.int .i64 4)) w (fun a67_1 w =>
 J1 (fun k18 =>
 Gd a67_1 false (V1 Tryz.prog (Instr.index 9 a4 (.int .i64 2)) w (fun a70_1 w =>
 V1 Tryz.prog (Go.convert 5 21 a70_1) w (fun a71_1 w =>
 Cf Tryz.prog 195 #[a71_1] w (fun a72_1 w =>
 V1 Tryz.prog (Bo .lss 3 false true a72_1 (.int .i64 0)) w (fun a73_2 w =>
 k18 a73_2 w) (pn R)) (pn R)) (pn R)) (pn R)) (k18 undef w)) (fun a73_3 w =>
 V1 Tryz.prog (Pk a67_1 (.bool true) a73_3) w (fun a74_1 w =>
 J1 (fun k19 =>
 Gd a74_1 false (V1 Tryz.prog (Instr.index 9 a4 (.int .i64 3)) w (fun a77_1 w =>
 V1 Tryz.prog (Go.convert 5 21 a77_1) w (fun a78_1 w =>
 Cf Tryz.prog 195 #[a78_1] w (fun a79_1 w =>
 V1 Tryz.prog (Bo .lss 3 false true a79_1 (.int .i64 0)) w (fun a80_2 w =>
 k19 a80_2 w) (pn R)) (pn R)) (pn R)) (pn R)) (k19 undef w)) (fun a80_3 w =>
 V1 Tryz.prog (Pk a74_1 (.bool true) a80_3) w (fun a81_1 w =>
 If a81_1 (
 R (.returned (.tuple #[(.string ⟨#[]⟩), (.int .i64 4)])) w) (
 ∃ C2 : World → Prop, C2 w.drew ∧
 Xv Tryz.prog C2 (Instr.index 9 a4 (.int .i64 2)) fun a83_1 => Xv Tryz.prog C2 (Go.convert 5 21 a83_1) fun a84_1 => Xq Tryz.prog C2 (callFunc 195 #[a84_1]) fun a85_1 => Xv Tryz.prog C2 (Bo .shl 3 false true a85_1 (.int .u64 4)) fun a86_1 => Xv Tryz.prog C2 (Instr.index 9 a4 (.int .i64 3)) fun a88_1 => Xv Tryz.prog C2 (Go.convert 5 21 a88_1) fun a89_1 => Xq Tryz.prog C2 (callFunc 195 #[a89_1]) fun a90_1 => Xv Tryz.prog C2 (Bo .or 3 false false a86_1 a90_1) fun a91_1 => Xv Tryz.prog C2 (Go.convert 3 5 a91_1) fun a92_1 => ∀ w, C2 w → k11 a92_1 a2_1 a3_1 (.int .i64 4) w)) (pn R))) (pn R))) (pn R)) (pn R)) (
 V1 Tryz.prog (Bo .eql 5 false true a36_1 (.int .u8 92)) w (fun a95_1 w =>
 If a95_1 (
 V1 Tryz.prog (Instr.index 9 a4 (.int .i64 1)) w (fun a99_1 w =>
 V1 Tryz.prog (Instr.lookup 215 a7 a99_1 true) w (fun a100_1 w =>
 V1 Tryz.prog (Instr.extract a100_1 0) w (fun a101_1 w =>
 V1 Tryz.prog (Instr.extract a100_1 1) w (fun a102_1 w =>
 V1 Tryz.prog (Op.unary .not a102_1) w (fun a104_1 w =>
 If a104_1 (
 R (.returned (.tuple #[(.string ⟨#[]⟩), (.int .i64 4)])) w) (
 k11 a101_1 a2_1 a3_1 (.int .i64 2) w)) (pn R)) (pn R)) (pn R)) (pn R)) (pn R)) (
 k11 a36_1 a2_1 a3_1 (.int .i64 1) w)) (pn R))) (pn R))) (pn R))) (pn R))))) (pn R))) (pn R))) (pn R)) (fun a9_1 a2_2 a3_2 a10_1 w =>
 V1 Tryz.prog (Instr.buildSlice 22 1 #[(0, a9_1)]) w (fun a107_1 w =>
 V1 Tryz.prog (Builtin.append_ #[22, 22] 22 #[a8, a107_1]) w (fun a108_1 w =>
 V1 Tryz.prog (Instr.sliceAt 9 a4 (some a10_1) none none) w (fun a111_1 w =>
 j1 a7 a2_2 a3_2 a108_1 a111_1 w) (pn R)) (pn R)) (pn R))) (pn R))) (pn R)
theorem b150 {R : Ending → World → Prop} {j1 : Value → Value → Value → Value → Value → World → Prop} {x y : Value} {bm lo : Nat} {v : Value} {s acc : List UInt8} {w w0 : World} {n : Nat}
   (hm : NamedAt w bm) (ha : AccB lo w v acc) (hlo : lo ≤ w.heap.size) (hbm : bm < lo) (hl : acc.length + s.length ≤ 65536) (hn : s.length < n) (k0 : Keep [] w0 w) (h0 : w0.heap.size ≤ lo)
   (hfin : ∀ w', Keep [] w0 w' → R (.returned (.tuple #[str (match (unqGo n s).map (acc ++ ·) with | none => ([], (4 : Int)) | some b => if 4096 < b.length then ([], 3) else (b, 0)).1, .int .i64 (match (unqGo n s).map (acc ++ ·) with | none => (([] : List UInt8), (4 : Int)) | some b => if 4096 < b.length then ([], 3) else (b, 0)).2])) w')
   (hj : ∀ (v' : Value) (s' acc' : List UInt8) (w' : World) (m : Nat), NamedAt w' bm → AccB lo w' v' acc' → lo ≤ w'.heap.size → acc'.length + s'.length ≤ 65536 → s'.length < m → m < n → Keep [] w0 w' → (unqGo m s').map (acc' ++ ·) = (unqGo n s).map (acc ++ ·) → j1 (.map (some bm)) x y v' (str s') w') :
   B150 R j1 (.map (some bm)) x y v (str s) w := by
 unfold B150; obtain ⟨n, rfl⟩ : ∃ k, n = k + 1 := ⟨n - 1, by omega⟩; rcases s with _ | ⟨c, l⟩
 · refine V1.i (by simp [go_sem] <;> trivial) ?_; refine If.t ?_; obtain ⟨a, cp, rfl⟩ := ha.sl; have e : (unqGo (n + 1) []).map (acc ++ ·) = some acc := by simp [unqGo]
   rw [e] at hfin; refine V1.i (by simp [go_sem] <;> trivial) ?_; refine V1.i (by simp [go_sem] <;> trivial) ?_; refine If.b (fun h => ?_) (fun h => ?_)
   · have h' : 4096 < acc.length := by simp at h; omega
     have := hfin w k0; simp only [if_pos h'] at this; exact this
   · have h' : ¬ 4096 < acc.length := by simp at h; omega
     refine V1.i ha.str ?_; have := hfin w k0; simp only [if_neg h'] at this; exact this
 refine V1.i (by simp [go_sem] <;> trivial) ?_; refine If.f ?_; refine V1.i (idxS _ (c :: l) 0 (by simp)) ?_; have hbad : unq1 (c :: l) = none → ∀ w', Keep [] w0 w' → R (.returned (.tuple #[.string ⟨#[]⟩, .int .i64 4])) w' := by
   intro h w' k'; have := hfin w' k'; rw [show (unqGo (n + 1) (c :: l)) = none by simp only [unqGo, h]; simp] at this; exact this
 have hcc := c.toNat_lt; simp only [List.getElem_cons_zero]; have e92 : ((c.toNat : Int) == 92) = decide (c = 92) := by
   by_cases h : c = 92
   · subst h; rfl
   · have : ¬ (c.toNat : Int) = 92 := fun e => h (UInt8.toNat_inj.1 (by simp; omega)); simp [h, this]
 have ebad : (decide ((c.toNat : Int) < 32) || decide (126 < (c.toNat : Int)) || ((c.toNat : Int) == 34)) = decide (c < 32 ∨ 126 < c ∨ c = 34) := by
   have e34 : ((c.toNat : Int) == 34) = decide (c = 34) := by
     by_cases h : c = 34
     · subst h; rfl
     · have : ¬ (c.toNat : Int) = 34 := fun e => h (UInt8.toNat_inj.1 (by simp; omega)); simp [h, this]
   rw [e34]; simp only [UInt8.lt_iff_toNat_lt, UInt8.reduceToNat, Bool.or_assoc]; have a1 : decide ((c.toNat : Int) < 32) = decide (c.toNat < 32) := by congr 1; apply propext; omega
   have a2 : decide (126 < (c.toNat : Int)) = decide (126 < c.toNat) := by congr 1; apply propext; omega
   rw [a1, a2, Bool.decide_or, Bool.decide_or]
 refine J4.cut (fun v9 v2 v3 v10 w' => ∃ c' k, unq1 (c :: l) = some (c', k) ∧ v9 = .int .u8 c'.toNat ∧ v10 = .int .i64 k ∧ v2 = x ∧ v3 = y ∧ Keep [] w w' ∧ k ≤ (c :: l).length ∧ 1 ≤ k) ?_ ?_
 · refine V1.i (v := .bool (decide ((c.toNat : Int) < 32))) (w' := w) (by simp [go_sem]) ?_; refine J1.gd (decide (126 < (c.toNat : Int))) (fun h k hk => ?_) ?_
   · refine V1.i (v := .bool (decide (126 < (c.toNat : Int)))) (w' := w) (by simp [go_sem]) ?_; exact hk
   refine V1.i (pkO _ _ _) ?_; refine J1.gd ((c.toNat : Int) == 34) (fun h k hk => ?_) ?_
   · refine V1.i (v := .bool ((c.toNat : Int) == 34)) (w' := w) (by simp [go_sem]) ?_; exact hk
   refine V1.i (pkO _ _ _) ?_; rw [ebad]; by_cases hq : c < 32 ∨ 126 < c ∨ c = 34
   · have hu : unq1 (c :: l) = none := by
       rw [unq1_cons, if_pos (by rcases hq with h | h | h <;> simp [h])]
     simp only [hq, decide_true]; refine J1.go (Gd.tf ?_); refine J1.go (Gd.u ?_); refine J1.go (Gd.tf ?_); refine V1.i (by simp [go_sem] <;> trivial) ?_; refine If.t ?_; exact hbad hu w k0
   simp only [hq, decide_false]; refine J1.go (Gd.ff ?_); refine V1.i (v := .bool (decide (c = 92))) (w' := w) (by simp [go_sem, ← e92]) ?_; refine J1.gd (decide (l = [])) (fun h k hk => ?_) ?_
   · refine V1.i (by simp [go_sem] <;> trivial) ?_; refine V1.i (v := .bool (decide (l = []))) (w' := w) (by cases l <;> simp [go_sem]; omega) ?_; exact hk
   refine J1.go (Gd.ff ?_); refine V1.i (pkA _ _ _) ?_; refine V1.i (by simp [go_sem] <;> trivial) ?_; rw [← Bool.decide_and]; by_cases hq2 : c = 92 ∧ l = []
   · have hu : unq1 (c :: l) = none := by
       rw [unq1_cons, if_pos (by simp [hq2])]
     simp only [hq2, and_self, decide_true]; refine If.t ?_; exact hbad hu w k0
   simp only [hq2, decide_false]; refine If.f ?_; have hu0 : unq1 (c :: l) = (if c = 92 then
     (if l.headD 0 = 120 then (if (c :: l).length < 4 ∨ hexV ((c :: l).getD 2 0) < 0 ∨ hexV ((c :: l).getD 3 0) < 0 then none else some (UInt8.ofNat ((hexV ((c :: l).getD 2 0)).toNat * 16 + (hexV ((c :: l).getD 3 0)).toNat), 4))
      else match nmd (l.headD 0) with | some v => some (v, 2) | none => none)
   else some (c, 1)) := by
     rw [unq1_cons, if_neg]; rintro (h | h | h | h)
     · exact hq (.inl h)
     · exact hq (.inr (.inl h))
     · exact hq (.inr (.inr h))
     · exact hq2 h
   refine V1.i (v := .bool (decide (c = 92))) (w' := w) (by simp [go_sem, ← e92]) ?_; by_cases h92 : c = 92
   · subst h92; rcases l with _ | ⟨d, l⟩
     · exact absurd ⟨rfl, rfl⟩ hq2
     rw [if_pos rfl] at hu0; simp only [List.headD_cons] at hu0; have hdd := d.toNat_lt; have e120 : ((d.toNat : Int) == 120) = decide (d = 120) := by
       by_cases h : d = 120
       · subst h; rfl
       · have : ¬ (d.toNat : Int) = 120 := fun e => h (UInt8.toNat_inj.1 (by simp; omega)); simp [h, this]
     simp only [decide_true]; refine J1.go (Gd.tt ?_); refine V1.i (idxS _ (92 :: d :: l) 1 (by simp)) ?_; simp only [List.getElem_cons_succ, List.getElem_cons_zero]; refine V1.i (v := .bool (decide (d = 120))) (w' := w) (by simp [go_sem, ← e120]) ?_; refine V1.i (by simp [go_sem] <;> trivial) ?_; by_cases h120 : d = 120
     · subst h120; simp only [if_true] at hu0; simp only [decide_true]; refine If.t ?_; generalize hs : (92 :: 120 :: l : List UInt8) = s at *; refine V1.i (by simp [go_sem] <;> trivial) ?_; refine V1.i (v := .bool (decide (s.length < 4))) (w' := w) (by simp [go_sem]; congr 1; omega) ?_; have hx := hexV_le (s.getD 2 0); have hy := hexV_le (s.getD 3 0); refine J1.gd (decide (hexV (s.getD 2 0) < 0)) (fun h k hk => ?_) ?_
       · have h4 : ¬ s.length < 4 := by simpa using h
         refine V1.i (idxS _ s 2 (by omega)) ?_; have e2 : s[2] = s.getD 2 0 := by simp; rw [List.getElem?_eq_getElem (by omega)]; rfl
         rw [e2]; refine V1.i (conv521 _ _ (by omega) (by have := (s.getD 2 0).toNat_lt; omega)) ?_; refine cf195 (c195 w (s.getD 2 0)) ?_ (NP.no (e := _)); rintro _ w1 ⟨rfl, rfl⟩; refine V1.i (by simp [go_sem] <;> trivial) ?_; exact hk
       refine V1.i (pkO _ _ _) ?_; refine J1.gd (decide (hexV (s.getD 3 0) < 0)) (fun h k hk => ?_) ?_
       · have h4 : ¬ s.length < 4 := by simp at h; omega
         refine V1.i (idxS _ s 3 (by omega)) ?_; have e2 : s[3] = s.getD 3 0 := by simp; rw [List.getElem?_eq_getElem (by omega)]; rfl
         rw [e2]; refine V1.i (conv521 _ _ (by omega) (by have := (s.getD 3 0).toNat_lt; omega)) ?_; refine cf195 (c195 w (s.getD 3 0)) ?_ (NP.no (e := _)); rintro _ w1 ⟨rfl, rfl⟩; refine V1.i (by simp [go_sem] <;> trivial) ?_; exact hk
       refine V1.i (pkO _ _ _) ?_; by_cases hb : s.length < 4 ∨ hexV (s.getD 2 0) < 0 ∨ hexV (s.getD 3 0) < 0
       · rw [if_pos hb] at hu0; have : (decide (s.length < 4) || decide (hexV (s.getD 2 0) < 0) || decide (hexV (s.getD 3 0) < 0)) = true := by simpa [or_assoc] using hb
         rw [this]; exact If.t (hbad hu0 w k0)
       · rw [if_neg hb] at hu0; have : (decide (s.length < 4) || decide (hexV (s.getD 2 0) < 0) || decide (hexV (s.getD 3 0) < 0)) = false := by simp only [Bool.or_eq_false_iff, decide_eq_false_iff_not]; omega
         rw [this]; refine If.f ?_; have h4 : 4 ≤ s.length := by omega
         have e2 : s[2] = s.getD 2 0 := by simp; rw [List.getElem?_eq_getElem (by omega)]; rfl
         have e3 : s[3] = s.getD 3 0 := by simp; rw [List.getElem?_eq_getElem (by omega)]; rfl
         have hx0 : 0 ≤ hexV (s.getD 2 0) := by omega
         have hy0 : 0 ≤ hexV (s.getD 3 0) := by omega
         refine ⟨fun w' => w' = w.drew, rfl, ?_⟩; refine Xv.i _ (fun w' _ => idxS w' s 2 (by omega)) ?_; rw [e2]; refine Xv.i _ (fun w' _ => conv521 w' _ (by omega) (by have := (s.getD 2 0).toNat_lt; omega)) ?_; refine Xq.call (fn := Tryz.f195) (.int .i64 (hexV (s.getD 2 0))) (callFunc_run Tryz.func195 (c := codeB Tryz.f195) (by kernel_rfl) (by kernel_rfl) _) (fun w' hw => (c195 w' _).mono ?_) ?_
         · rintro e w'' h
           cases e with
           | returned v => exact ⟨by rw [h.1], by rw [h.2, hw]⟩
           | panicked c => exact h.elim
           | outgrown => exact h.elim
         refine Xv.i (.int .i64 (hexV (s.getD 2 0) * 16)) (fun w' _ => by simp only [List.getD_eq_getElem?_getD] at *; simp [go_sem, Bo]; rw [IntWalk.i64_in _ (by omega)]) ?_; refine Xv.i _ (fun w' _ => idxS w' s 3 (by omega)) ?_; rw [e3]; refine Xv.i _ (fun w' _ => conv521 w' _ (by omega) (by have := (s.getD 3 0).toNat_lt; omega)) ?_; refine Xq.call (fn := Tryz.f195) (.int .i64 (hexV (s.getD 3 0))) (callFunc_run Tryz.func195 (c := codeB Tryz.f195) (by kernel_rfl) (by kernel_rfl) _) (fun w' hw => (c195 w' _).mono ?_) ?_
         · rintro e w'' h
           cases e with
           | returned v => exact ⟨by rw [h.1], by rw [h.2, hw]⟩
           | panicked c => exact h.elim
           | outgrown => exact h.elim
         refine Xv.i _ (fun w' _ => hex2 w' _ _ ⟨hx0, by omega⟩ ⟨hy0, by omega⟩) ?_; refine Xv.i _ (fun w' _ => convHex w' _ _ ⟨hx0, by omega⟩ ⟨hy0, by omega⟩) ?_; rintro _ rfl; exact ⟨_, 4, hu0, by first | rfl | trivial, by first | rfl | trivial, by first | rfl | trivial, by first | rfl | trivial, (Keep.refl _ _).drew, h4, by omega⟩
     · simp only [h120, decide_false]; refine If.f ?_; simp only [h120, if_false] at hu0; refine V1.i (v := .bool true) (w' := w) (by simp [go_sem]) ?_; refine If.t ?_; refine V1.i (idxS _ (92 :: d :: l) 1 (by simp)) ?_; simp only [List.getElem_cons_succ, List.getElem_cons_zero]; refine V1.i (hm.look d) ?_
       cases hn2 : nmd d with
       | none =>
         rw [hn2] at hu0; refine V1.i (by simp [go_sem] <;> trivial) ?_; refine V1.i (by simp [go_sem] <;> trivial) ?_; refine V1.i (by simp [go_sem] <;> trivial) ?_; refine If.t ?_; exact hbad hu0 w k0
       | some v2 =>
         rw [hn2] at hu0; refine V1.i (by simp [go_sem] <;> trivial) ?_; refine V1.i (by simp [go_sem] <;> trivial) ?_; refine V1.i (by simp [go_sem] <;> trivial) ?_; refine If.f ?_; exact ⟨v2, 2, hu0, by first | rfl | trivial, by first | rfl | trivial, by first | rfl | trivial, by first | rfl | trivial, Keep.refl _ _, by simp, by omega⟩
   · rw [if_neg h92] at hu0; simp only [h92, decide_false]; refine J1.go (Gd.ft ?_); refine V1.i (by simp [go_sem] <;> trivial) ?_; refine If.f ?_; refine V1.i (v := .bool (decide (c = 92))) (w' := w) (by simp [go_sem, ← e92]) ?_; simp only [h92, decide_false]; refine If.f ?_; exact ⟨c, 1, hu0, by first | rfl | trivial, by first | rfl | trivial, by first | rfl | trivial, by first | rfl | trivial, Keep.refl _ _, by simp, by omega⟩
 · rintro v9 v2 v3 v10 w' ⟨c', k, hu, rfl, rfl, rfl, rfl, k1, hk, hk1⟩; have z1 := k1.size; refine V1.newSlice (by simp [go_sem] <;> trivial) fun b2 w2 N2 => ?_; have gN2 := N2.ge; have lN2 := N2.lt; have zN2 := N2.keep.size; have a2 := N2.at_; try simp only [Value.cells, List.toList_toArray] at a2
   have ha2 := (ha.fr k1 (by simp)).fr N2.keep (by simp); simp at hl
   obtain ⟨v', w3, hr, ha3, k3⟩ := app22 (n := 65536) ha2 a2 (by omega) (by omega) (by omega); refine V1.i hr ?_; have z3 := k3.size; have kw : Keep v.ownBlock.toList w w3 := ((k1.trans N2.keep).mono (by simp)).trans k3; have hown : ∀ i ∈ v.ownBlock.toList, lo ≤ i := fun i hi => by
     simp only [Option.mem_toList, Option.mem_def] at hi; exact (ha.lt hi).1
   have kw0 : Keep [] w0 w3 := k0.trans' kw (fun i hi hlt => by have := hown i hi; omega); refine V1.i (fromS _ (c :: l) k hk) ?_; refine hj v' _ _ w3 n (hm.keep kw (fun hi => by have := hown _ hi; omega)) ha3 (by omega) ?_ ?_ (by omega) kw0 ?_
   · simp; omega
   · simp; simp at hn hk; omega
   · simp only [unqGo, hu]; simp [Option.map_map, Function.comp_def]
theorem trimQ (m : List UInt8) : Lib.trimPrefix (34 :: m) [34] = m ∧ Lib.hasPrefix (34 :: m) [34] = true := by
 simp [Lib.trimPrefix, Lib.hasPrefix, List.isPrefixOf]
theorem trimQ2 (m : List UInt8) : Lib.trimSuffix (m ++ [34]) [34] = m ∧ Lib.hasSuffix (m ++ [34]) [34] = true := by
 simp [Lib.trimSuffix, Lib.hasSuffix, List.isSuffixOf, List.isPrefixOf]
theorem c150 (w : World) (m : List UInt8) (hl : m.length ≤ 65000) : Calls Tryz.prog 150 #[str (34 :: (m ++ [34]))] w (Ret (fun v w' => v = .tuple #[str (unqT m).1, .int .i64 (unqT m).2] ∧ Keep [] w w') NP) := by
 refine s150 ?_; unfold S150; have key : ∀ (lo bm : Nat) (v x y : Value) (s acc : List UInt8) (w1 : World) (n : Nat) (j1 : Value → Value → Value → Value → Value → World → Prop), NamedAt w1 bm → AccB lo w1 v acc → lo ≤ w1.heap.size → bm < lo → acc.length + s.length ≤ 65536 → s.length < n → Keep [] w w1 → w.heap.size ≤ lo →
     (unqGo n s).map (acc ++ ·) = unqGo (m.length + 1) m →
     (∀ (v' : Value) (s' acc' : List UInt8) (w' : World) (k : Nat), NamedAt w' bm → AccB lo w' v' acc' → lo ≤ w'.heap.size → acc'.length + s'.length ≤ 65536 → s'.length < k → k < n → Keep [] w w' → (unqGo k s').map (acc' ++ ·) = (unqGo n s).map (acc ++ ·) → j1 (.map (some bm)) x y v' (str s') w') →
     B150 (Ret (fun v w' => v = .tuple #[str (unqT m).1, .int .i64 (unqT m).2] ∧ Keep [] w w') NP) j1 (.map (some bm)) x y v (str s) w1 := by
   intro lo bm v x y s acc w1 n j1 hm ha hlo hbm hl hn k0 h0 hT hj; refine b150 hm ha hlo hbm hl hn k0 h0 ?_ hj; intro w' k'; rw [hT]; exact ⟨rfl, k'⟩
 refine P5.g (fun n a7 x y a8 a4 w' => ∃ lo bm s acc, a7 = .map (some bm) ∧ a4 = str s ∧ NamedAt w' bm ∧ AccB lo w' a8 acc ∧ lo ≤ w'.heap.size ∧ bm < lo ∧ acc.length + s.length ≤ 65536 ∧ s.length < n ∧ Keep [] w w' ∧ w.heap.size ≤ lo ∧ (unqGo n s).map (acc ++ ·) = unqGo (m.length + 1) m) ?_ ?_
 · intro K hK; refine cf192 (c192 w (34 :: (m ++ [34])) [34]) ?_ (NP.no (e := _)); rintro _ w1 ⟨rfl, rfl⟩; rw [(trimQ _).1, (trimQ _).2]; refine V1.i (by simp [go_sem] <;> trivial) ?_; refine V1.i (by simp [go_sem] <;> trivial) ?_; refine cf193 (c193 w1 (m ++ [34]) [34] (by simp; omega)) ?_ (NP.no (e := _)); rintro _ w2 ⟨rfl, rfl⟩; rw [(trimQ2 _).1, (trimQ2 _).2]; refine V1.i (by simp [go_sem] <;> trivial) ?_; refine V1.i (by simp [go_sem] <;> trivial) ?_; refine V1.i (by simp [go_sem] <;> trivial) ?_; refine J1.go (Gd.ff ?_); refine V1.i (by simp [go_sem] <;> trivial) ?_; refine V1.i (by simp [go_sem] <;> trivial) ?_; refine If.f ?_; refine cf194 (c194 w2) ?_ (NP.no (e := _)); rintro _ w3 ⟨bm, rfl, nm, gb, lb, K3⟩
   refine key w3.heap.size bm (.slice none 0 0) (.string ⟨#[]⟩) (.int .i64 0) m [] w3 (m.length + 1) K nm (AccB.nil _ _) (Nat.le_refl _) lb (by simp; omega) (by omega) K3 K3.size (by simp) ?_; intro v' s' acc' w' k h1 h2 h3 h4 h5 h6 h7 h8; refine hK k _ _ _ _ _ _ ⟨w3.heap.size, bm, s', acc', rfl, rfl, h1, h2, h3, lb, h4, h5, h7, K3.size, ?_⟩; rw [h8]; simp
 · rintro n a7 x y a8 a4 w1 K ⟨lo, bm, s, acc, rfl, rfl, h1, h2, h3, h4, h5, h6, h7, h8, h9⟩ hK; refine key lo bm a8 x y s acc w1 n K h1 h2 h3 h4 h5 h6 h7 h8 h9 ?_; intro v' s' acc' w' k g1 g2 g3 g4 g5 g6 g7 g8; exact hK k _ _ _ _ _ _ g6 ⟨lo, bm, s', acc', rfl, rfl, g1, g2, g3, h4, g4, g5, g7, h8, by rw [g8, h9]⟩
theorem c151 (w : World) (e : Int) : Calls Tryz.prog 151 #[.int .i64 e] w (Ret (fun v w' => v = .iface 23 (.int .i64 (if e = 4 then 14 else e)) ∧ w' = w) NP) := by
 refine s151 ?_; unfold S151; refine V1.i (by simp [go_sem] <;> trivial) ?_; refine V1.i (by simp [go_sem] <;> trivial) ?_; refine cf21 (c21e w e 4) ?_ (NP.no (e := _)); rintro _ w1 ⟨rfl, rfl⟩; refine If.b (fun h => ?_) (fun h => ?_)
 · refine V1.i (by simp [go_sem] <;> trivial) ?_; exact ⟨by rw [if_pos (by simpa using h)], rfl⟩
 · refine V1.i (by simp [go_sem] <;> trivial) ?_; exact ⟨by rw [if_neg (by simpa using h)], rfl⟩
end Go.Proofs.YtoddjlclpnoomaaGreatDoor

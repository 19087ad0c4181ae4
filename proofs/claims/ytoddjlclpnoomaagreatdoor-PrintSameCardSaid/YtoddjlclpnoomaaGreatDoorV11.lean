import Derived.Test.YtoddjlclpnoomaaGreatDoorV10
set_option linter.unusedVariables false
set_option linter.unusedSimpArgs false
set_option maxRecDepth 100000
namespace Go.Proofs.YtoddjlclpnoomaaGreatDoor
open Go.Sh
theorem g200 {n : Nat} (ih : All n) : G1 (n + 1) .bracket 200 [] idx := by
 intro w x ts deep own r l la lo p hdp hn hr hne rl hlo hxp; refine s200 ?_; unfold S200; simp only [run] at hr; have lp := p.ltp; have lt := p.ltt; have lm := p.ltm; have kk := Keep.refl [x.p] w; refine cf159 (d159 p hdp) ?_ ?_; rotate_left
 · intro c w3 hF; rw [← hr]; exact (hF _).pre kk (by simp)
 rintro _ w3 ⟨h64, b3, rfl, hb3, a3, p, K3⟩; have h64' : deep + 1 ≤ 64 := by simpa using h64
 have l3 := a3.lt; have zK3 := K3.size; replace kk := kk.trans' K3 (by simp <;> omega); replace rl := rl.fr K3 (by simp <;> omega); rw [openT_t h64] at hr; refine D1.i (by simp [go_sem, clo, Deferred.ofValue]; exact ⟨rfl, rfl⟩) ?_; refine cf106 (d106 [91] p) ?_ ?_; rotate_left
 · intro c w4 hF; exact lv_fail (Er.all hF hr) lp (by simp) a3 (by simp; omega) kk (by simp)
 rintro _ w4 ⟨hi, rfl, p, K4⟩; have zK4 := K4.size; replace kk := kk.trans' K4 (by simp <;> omega); replace rl := rl.fr K4 (by simp <;> omega); replace a3 := K4.at a3 (by simp <;> omega); rw [mustT_t hi] at hr; refine cf108 (ih.expr 0 _ _ _ _ _ _ p (by omega) (by omega) rfl (bind_ne hr hne)) ?_ ?_; rotate_left
 · intro c w5 h; exact lv_fail (h.next hr) lp (by simp) a3 (by simp; omega) kk (by simp)
 intro rv w5 h; obtain ⟨t, ts1, o, hr1, r1, S1, ⟨o', -, p⟩, K5⟩ := h.out; simp only [hr1, Res.bind] at hr; have zK5 := K5.size; replace kk := kk.trans' K5 (by simp <;> omega); replace rl := rl.fr K5 (by simp <;> omega); replace a3 := K5.at a3 (by simp <;> omega); obtain ⟨br, rfl, -, -⟩ := r1.kind S1; unfold ptr; refine V1.i (by simp [go_sem] <;> trivial) ?_; refine V1.new (bx47 _ _) fun b6 w6 N6 => ?_; have gN6 := N6.ge; have lN6 := N6.lt; have zN6 := N6.keep.size; have a6 := N6.at_; try simp only [Value.cells, List.toList_toArray] at a6
 replace kk := N6.kp kk; replace rl := rl.nw N6; replace a3 := N6.a a3; replace r1 := r1.nw N6; replace p := p.new N6.keep; refine cf106 (d106 [93] p) ?_ ?_; rotate_left
 · intro c w7 hF; exact lv_fail (Er.all hF hr) lp (by simp) a3 (by simp; omega) kk (by simp)
 rintro _ w7 ⟨hi, rfl, p, K7⟩; have zK7 := K7.size; replace kk := kk.trans' K7 (by simp <;> omega); replace rl := rl.fr K7 (by simp <;> omega); replace a3 := K7.at a3 (by simp <;> omega); replace r1 := r1.fr K7 (by simp <;> omega); replace a6 := K7.at a6 (by simp <;> omega); rw [mustT_t hi] at hr; refine lv_ok p hdp a3 fun w8 p8 K8 => ?_; have zK8 := K8.size; replace kk := kk.trans' K8 (by simp <;> omega); replace rl := rl.fr K8 (by simp <;> omega); replace a3 := K8.at a3 (by simp <;> omega); replace r1 := r1.fr K8 (by simp <;> omega); replace a6 := K8.at a6 (by simp <;> omega); subst hr; exact ⟨⟨b6, _, _, _, _, _, _, _, rfl, ⟨by omega, by simp⟩, a6, rl.fit (by omega) (by simp), r1.fit (by omega) (by simp), .inl rfl, .inl rfl, .inl ⟨rfl, rfl⟩, .inl rfl⟩, S1, ⟨_, by simp, p8⟩, kk⟩
theorem g162 {n : Nat} (ih : All n) : G0 (n + 1) .operand 162 [] .P solid false := by
 intro w x ts deep own r p hdp hn hr hne; refine s162 ?_; unfold S162; simp only [run] at hr; have lp := p.ltp; have lt := p.ltt; have lm := p.ltm; have kk := Keep.refl [x.p] w; refine V1.newSlice (by simp [go_sem] <;> trivial) fun b w1 N => ?_; have gN := N.ge; have lN := N.lt; have zN := N.keep.size; have a1 := N.at_; try simp only [Value.cells, List.toList_toArray] at a1
 replace p := p.new N.keep; replace kk := N.kp kk; refine cf99 (d99 (ss := [[110, 111, 116], [45], [35], [126]]) p a1 (by simp)) ?_ (NP.no (e := _)); rintro _ w2 ⟨rfl, K2⟩; have zK2 := K2.size; replace p := p.keep K2 (by simp <;> omega) (by simp <;> omega) (by simp <;> omega); replace kk := kk.trans' K2 (by simp <;> omega); replace a1 := K2.at a1 (by simp <;> omega); repeat (first | refine Up.i (Nc.p _ _) ?_ | refine V1.load (oneAll rfl) (by assumption) rfl ?_ | refine V1.i (by simp [go_sem] <;> trivial) ?_)
 refine If.b (fun hb => ?_) (fun hb => ?_)
 · have hb' : isB (hd ts) [sNot, [45], [35], [126]] = false := (by simpa using hb : isB (hd ts) [[110, 111, 116], [45], [35], [126]] = false); simp only [hb'] at hr; refine cf156 (ih.post _ _ _ _ _ _ p hdp (by omega) hr hne) ?_ ?_
   · intro v w3 h; exact (h.pre kk (by simp) (by omega)).weak
   · intro c w3 hF; exact hF.pre kk (by simp)
 · have hb' : isB (hd ts) [sNot, [45], [35], [126]] = true := (by simpa using hb : isB (hd ts) [[110, 111, 116], [45], [35], [126]] = true); simp only [hb'] at hr; refine cf159 (d159 p hdp) ?_ ?_; rotate_left
   · intro c w3 hF; exact (Er.all hF hr).pre kk (by simp)
   rintro _ w3 ⟨h64, b3, rfl, hb3, a3, p, K3⟩; have h64' : deep + 1 ≤ 64 := by simpa using h64
   have l3 := a3.lt; have zK3 := K3.size; replace kk := kk.trans' K3 (by simp <;> omega); rw [openT_t h64] at hr; refine D1.i (by simp [go_sem, clo, Deferred.ofValue]; exact ⟨rfl, rfl⟩) ?_; refine cf107 (d107 p) ?_ (NP.no (e := _)); rintro _ w4 ⟨rfl, p, K4⟩; have zK4 := K4.size; replace kk := kk.trans' K4 (by simp <;> omega); replace a3 := K4.at a3 (by simp <;> omega); refine V1.new (al86 _) fun b5 w5 N5 => ?_; have gN5 := N5.ge; have lN5 := N5.lt; have zN5 := N5.keep.size; have a5 := N5.at_; try simp only [Value.cells, List.toList_toArray] at a5
   replace kk := N5.kp kk; replace a3 := N5.a a3; replace p := p.new N5.keep; refine U1.tok (t := hd ts) a5 rfl fun w6 U6 => ?_; have zU6 := U6.size; replace kk := kk.trans' U6.keep (by simp <;> omega); replace a3 := U6.keep.at a3 (by simp <;> omega); replace p := p.keep U6.keep (by simp <;> omega) (by simp <;> omega) (by simp <;> omega); have a5 := U6.at_; refine ⟨fun w' => At w' b5 [.int .i64 (hd ts).kind, str (hd ts).text, .int .i64 (hd ts).n, .int .i64 (hd ts).line], a5, ?_⟩; have K7 : Keep [] w6 w6.drew := (Keep.refl _ _).drew; generalize w6.drew = w7 at K7 ⊢; have zK7 := K7.size; replace kk := kk.trans' K7 (by simp <;> omega); replace a3 := K7.at a3 (by simp <;> omega); replace p := p.keep K7 (by simp <;> omega) (by simp <;> omega) (by simp <;> omega)
   replace a5 := K7.at a5 (by simp <;> omega); refine Xw.i _ (fun w' _ => by simp [go_sem] <;> trivial) ?_; refine Xw.i _ (fun w' hw => (oneAll rfl) _ _ _ (by rw [hw.cell]; rfl)) ?_; refine Xw.i _ (fun w' _ => by simp [go_sem] <;> trivial) ?_; refine Xw.i _ (fun w' hw => (oneAll rfl) _ _ _ (by rw [hw.cell]; rfl)) ?_; refine cf162 (ih.operand _ _ _ _ _ _ p (by omega) (by omega) rfl (bind_ne hr hne)) ?_ ?_; rotate_left
   · intro c w8 h; exact lv_fail (h.next hr) lp (by simp) a3 (by simp; omega) kk (by simp)
   intro rv w8 h; obtain ⟨t, ts1, o, hr1, r1, S1, ⟨o', -, p⟩, K8⟩ := h.out; simp only [hr1, Res.bind] at hr; have zK8 := K8.size; replace kk := kk.trans' K8 (by simp <;> omega); replace a3 := K8.at a3 (by simp <;> omega); replace a5 := K8.at a5 (by simp <;> omega); refine ⟨a5, ?_⟩; obtain ⟨br, rfl, -, -⟩ := r1.kind S1; unfold ptr; refine Xw.i _ (fun w' _ => by simp [go_sem] <;> trivial) ?_; refine V1.new (bx47 _ _) fun b9 w9 N9 => ?_; have gN9 := N9.ge; have lN9 := N9.lt; have zN9 := N9.keep.size; have a9 := N9.at_; try simp only [Value.cells, List.toList_toArray] at a9
   replace kk := N9.kp kk; replace a3 := N9.a a3; replace r1 := r1.nw N9; replace p := p.new N9.keep; refine lv_ok p hdp a3 fun w10 p8 K10 => ?_; have zK10 := K10.size; replace kk := kk.trans' K10 (by simp <;> omega); replace a3 := K10.at a3 (by simp <;> omega); replace r1 := r1.fr K10 (by simp <;> omega); replace a9 := K10.at a9 (by simp <;> omega); subst hr; exact ⟨⟨b9, _, _, _, _, _, _, _, rfl, ⟨by omega, by simp⟩, a9, rfl, r1.fit (by omega) (by simp), .inl rfl, .inl rfl, .inl ⟨rfl, rfl⟩, .inl rfl⟩, rfl, ⟨_, by simp, p8⟩, kk⟩
theorem g163 {n : Nat} (ih : All n) (k : Int) (hk0 : 0 ≤ k ∧ k ≤ 100) : G1 (n + 1) (fun l => .bin l k) 163 [.int .i64 k] solid := by
 intro w x ts deep own r l la lo p hdp hn hr hne rl hlo hxp; refine s163 ?_; unfold S163; simp only [run] at hr; have lp := p.ltp; have lt := p.ltt; have lm := p.ltm; have kk := Keep.refl [x.p] w; refine cf31 (d31 p) ?_ (NP.no (e := _)); rintro _ w2 ⟨rfl, K2⟩; have zK2 := K2.size; replace kk := kk.trans' K2 (by simp <;> omega); replace rl := rl.fr K2 (by simp <;> omega); replace p := p.keep K2 (by simp <;> omega) (by simp <;> omega) (by simp <;> omega); rw [tokV]; refine V1.i (by simp [go_sem] <;> trivial) ?_; refine cf31 (d31 p) ?_ (NP.no (e := _)); rintro _ w3 ⟨rfl, K3⟩; have zK3 := K3.size; replace kk := kk.trans' K3 (by simp <;> omega); replace rl := rl.fr K3 (by simp <;> omega); replace p := p.keep K3 (by simp <;> omega) (by simp <;> omega) (by simp <;> omega); rw [tokV]; refine V1.i (by simp [go_sem] <;> trivial) ?_; refine V1.i (by simp [go_sem] <;> trivial) ?_
 refine V1.new (bx47 _ _) fun b4 w4 N4 => ?_; have gN4 := N4.ge; have lN4 := N4.lt; have zN4 := N4.keep.size; have a4 := N4.at_; try simp only [Value.cells, List.toList_toArray] at a4
 replace kk := N4.kp kk; replace rl := rl.nw N4; replace p := p.new N4.keep; refine D1J.go ?_; repeat (first | refine Up.i (Nc.p _ _) ?_ | refine V1.load (oneAll rfl) (by assumption) rfl ?_ | refine V1.i (by simp [go_sem] <;> trivial) ?_)
 refine If.b (fun hb => ?_) (fun hb => ?_)
 · have hb' : ((hd ts).text == [46, 46]) = true := by simpa using hb
   simp only [hb'] at hr; refine cf159 (d159 p hdp) ?_ ?_; rotate_left
   · intro c w3 hF; exact (Er.all hF hr).pre kk (by simp)
   rintro _ w5 ⟨h64, b5, rfl, hb5, a5, p, K5⟩; have h64' : deep + 1 ≤ 64 := by simpa using h64
   have l5 := a5.lt; have zK5 := K5.size; replace kk := kk.trans' K5 (by simp <;> omega); replace rl := rl.fr K5 (by simp <;> omega); replace a4 := K5.at a4 (by simp <;> omega); rw [openT_t h64] at hr; refine D1.i (by simp [go_sem, clo, Deferred.ofValue]; exact ⟨rfl, rfl⟩) ?_; refine V1.i (subI _ _ _ _ _ _ (by omega) (by omega)) ?_; refine cf107 (d107 p) ?_ (NP.no (e := _)); rintro _ w6 ⟨rfl, p, K6⟩; have zK6 := K6.size; replace kk := kk.trans' K6 (by simp <;> omega); replace rl := rl.fr K6 (by simp <;> omega); replace a4 := K6.at a4 (by simp <;> omega); replace a5 := K6.at a5 (by simp <;> omega); refine cf108 (ih.expr _ _ _ _ _ _ _ p (by omega) (by omega) rfl (bind_ne hr hne)) ?_ ?_; rotate_left
   · intro c w7 h; exact lv_fail (h.next hr) lp (by simp) a5 (by simp; omega) kk (by simp)
   intro rv w7 h; obtain ⟨t, ts1, o, hr1, r1, S1, ⟨o', -, p⟩, K7⟩ := h.out; simp only [hr1, Res.bind] at hr; have zK7 := K7.size; replace kk := kk.trans' K7 (by simp <;> omega); replace rl := rl.fr K7 (by simp <;> omega); replace a4 := K7.at a4 (by simp <;> omega); replace a5 := K7.at a5 (by simp <;> omega); obtain ⟨br, rfl, -, -⟩ := r1.kind S1; unfold ptr at *; repeat (first | refine Up.i (Nc.p _ _) ?_ | refine V1.load (oneAll rfl) (by assumption) rfl ?_ | refine V1.i (by simp [go_sem] <;> trivial) ?_)
   refine U1.store (onesAll rfl rfl) a4 (by simp) fun w8 U8 => ?_; have zU8 := U8.size; replace kk := kk.trans' U8.keep (by simp <;> omega); replace rl := rl.fr U8.keep (by simp <;> omega); replace a5 := U8.keep.at a5 (by simp <;> omega); replace r1 := r1.fr U8.keep (by simp <;> omega); replace p := p.keep U8.keep (by simp <;> omega) (by simp <;> omega) (by simp <;> omega); replace a4 := U8.at_; simp only [List.set_cons_zero, List.set_cons_succ] at a4; refine lv_ok p hdp a5 fun w9 p9 K9 => ?_; have zK9 := K9.size; replace kk := kk.trans' K9 (by simp <;> omega); replace rl := rl.fr K9 (by simp <;> omega); replace a4 := K9.at a4 (by simp <;> omega); replace r1 := r1.fr K9 (by simp <;> omega); subst hr
   exact ⟨⟨b4, _, _, _, _, _, _, _, rfl, ⟨by omega, by simp⟩, a4, rl.fit (by omega) (by simp), r1.fit (by omega) (by simp), .inl rfl, .inl rfl, .inl ⟨rfl, rfl⟩, .inl rfl⟩, rfl, ⟨_, by simp, p9⟩, kk⟩
 · have hb' : ((hd ts).text == [46, 46]) = false := by simpa using hb
   simp only [hb'] at hr; refine cf107 (d107 p) ?_ (NP.no (e := _)); rintro _ w6 ⟨rfl, p, K6⟩; have zK6 := K6.size; replace kk := kk.trans' K6 (by simp <;> omega); replace rl := rl.fr K6 (by simp <;> omega); replace a4 := K6.at a4 (by simp <;> omega); refine cf108 (ih.expr _ _ _ _ _ _ _ p (by omega) (by omega) rfl (bind_ne hr hne)) ?_ ?_; rotate_left
   · intro c w7 h; exact (h.next hr).pre kk (by simp)
   intro rv w7 h; obtain ⟨t, ts1, o, hr1, r1, S1, ⟨o', -, p⟩, K7⟩ := h.out; simp only [hr1, Res.bind] at hr; have zK7 := K7.size; replace kk := kk.trans' K7 (by simp <;> omega); replace rl := rl.fr K7 (by simp <;> omega); replace a4 := K7.at a4 (by simp <;> omega); obtain ⟨br, rfl, -, -⟩ := r1.kind S1; unfold ptr at *; repeat (first | refine Up.i (Nc.p _ _) ?_ | refine V1.load (oneAll rfl) (by assumption) rfl ?_ | refine V1.i (by simp [go_sem] <;> trivial) ?_)
   refine U1.store (onesAll rfl rfl) a4 (by simp) fun w8 U8 => ?_; have zU8 := U8.size; replace kk := kk.trans' U8.keep (by simp <;> omega); replace rl := rl.fr U8.keep (by simp <;> omega); replace r1 := r1.fr U8.keep (by simp <;> omega); replace p := p.keep U8.keep (by simp <;> omega) (by simp <;> omega) (by simp <;> omega); replace a4 := U8.at_; simp only [List.set_cons_zero, List.set_cons_succ] at a4; subst hr; exact ⟨⟨b4, _, _, _, _, _, _, _, rfl, ⟨by omega, by simp⟩, a4, rl.fit (by omega) (by simp), r1.fit (by omega) (by simp), .inl rfl, .inl rfl, .inl ⟨rfl, rfl⟩, .inl rfl⟩, rfl, ⟨_, by simp, p⟩, kk⟩
theorem putOwn {R : Ending → World → Prop} {k : World → Prop} {w : World} {x : Psr} {ts : List Tok} {deep : Int} {own : Bool} (b : Bool) (p : PS w x ts deep own) (hk : ∀ w', PS w' x ts deep b → Keep [x.p] w w' → k w') :
   Up Tryz.prog (Nc (ptr x.p)) w (fun a w => V1 Tryz.prog (Instr.fieldAt 83 a 3) w (fun a w => U1 Tryz.prog (Instr.storeAt 4 a (.bool b)) w k (pn R)) (pn R)) (pn R) := by
 obtain ⟨o, c, h1, h2, h3⟩ := p.ex; unfold ptr; repeat (first | refine Up.i (Nc.p _ _) ?_ | refine V1.load (oneAll rfl) (by assumption) rfl ?_ | refine V1.i (by simp [go_sem] <;> trivial) ?_)
 refine U1.store (onesAll rfl rfl) (h1) (by simp) fun w1 U => ?_; refine hk w1 (p.deep fun o' c' h1' => ?_) U.keep; obtain ⟨T, hT⟩ := h1; obtain ⟨T', hT'⟩ := h1'; rw [hT] at hT'; injection hT' with e1; simp at e1
 obtain ⟨h1, h2⟩ : o = o' ∧ c = c' := by grind
 subst h1 h2; exact U
theorem bindN_range (s : List UInt8) : 0 ≤ bindN s ∧ bindN s ≤ 100 := by
 unfold bindN; repeat' split
 all_goals omega
def B108 (R : Ending → World → Prop) (a0 a1 : Value) (j1 : Value → Value → World → Prop) (a4 a5 : Value) (w : World) : Prop :=
 Cf Tryz.prog 31 #[a0] w (fun a11_1 w =>
 V1 Tryz.prog (Instr.alloc 86 true (.tuple #[])) w (fun a6_1 w =>
 U1 Tryz.prog (Instr.storeAt 86 a6_1 a11_1) w (fun w =>
 ∃ C2 : World → Prop, C2 w.drew ∧
 Xq Tryz.prog C2 (Nc a0) fun a13_1 => Xv Tryz.prog C2 (Instr.fieldAt 83 a13_1 1) fun a14_1 => Xv Tryz.prog C2 (Instr.loadAt 80 a14_1) fun a15_1 => Xv Tryz.prog C2 (Instr.fieldAt 86 a6_1 1) fun a16_1 => Xv Tryz.prog C2 (Instr.loadAt 9 a16_1) fun a17_1 => Xv Tryz.prog C2 (Instr.lookup 80 a15_1 a17_1 false) fun a18_1 => ∀ w, C2 w → V1 Tryz.prog (Instr.fieldAt 86 a6_1 0) w (fun a19_1 w =>
 V1 Tryz.prog (Instr.loadAt 3 a19_1) w (fun a20_1 w =>
 V1 Tryz.prog (Bo .neq 3 false true a20_1 (.int .i64 4)) w (fun a21_1 w =>
 J1 (fun k2 =>
 Gd a21_1 false (V1 Tryz.prog (Bo .leq 3 false false a18_1 a1) w (fun a25_2 w =>
 k2 a25_2 w) (pn R)) (k2 undef w)) (fun a25_3 w =>
 V1 Tryz.prog (Pk a21_1 (.bool true) a25_3) w (fun a26_1 w =>
 If a26_1 (
 Up Tryz.prog (Nc a0) w (fun a28_1 w =>
 V1 Tryz.prog (Instr.fieldAt 83 a28_1 3) w (fun a29_1 w =>
 U1 Tryz.prog (Instr.storeAt 4 a29_1 (.bool false)) w (fun w =>
 R (.returned a5) w) (pn R)) (pn R)) (pn R)) (
 Cf Tryz.prog 163 #[a0, a5, a18_1] w (fun a34_1 w =>
 j1 a4 a34_1 w) (pn R))) (pn R))) (pn R)) (pn R)) (pn R)) (pn R)) (pn R)) (pn R)
theorem b108 {n m : Nat} (ih : ∀ m, m ≤ n → All m) (hm : m ≤ n) {K : Value → Value → World → Prop} {v1 v2 : Value} {w w0 : World} {x : Psr} {ts : List Tok} {deep above : Int} {own : Bool} {r : Res} {e : Tr} (p : PS w x ts deep own) (hdp : 0 ≤ deep ∧ deep ≤ 64) (hn : n ≤ fuelMax)
   (hr : run (m + 1) (.exprL e above) deep ts = r) (hne : r ≠ .oof) (re : Rep (Fr w0.heap.size []) w e (.P v2)) (hs : solid e = true) (kk : Keep [x.p] w0 w) (lp : x.p < w0.heap.size)
   (hK : ∀ v2 w' ts' own' e', PS w' x ts' deep own' → Rep (Fr w0.heap.size []) w' e' (.P v2) → solid e' = true → Keep [x.p] w0 w' → run m (.exprL e' above) deep ts' = r → K v1 v2 w') :
   B108 (Ret (Ok [x.p] w0.heap.size x w0 deep .P solid false r) (Er [x.p] x w0 r)) (ptr x.p) (.int .i64 above) K v1 v2 w := by
 unfold B108; simp only [run] at hr; have z0 := kk.size; have lt := p.ltt; have lm := p.ltm; refine cf31 (d31 p) ?_ (NP.no (e := _)); rintro _ w2 ⟨rfl, K2⟩; have zK2 := K2.size; replace kk := kk.trans' K2 (by simp <;> omega); replace re := re.fr K2 (by simp <;> omega); replace p := p.keep K2 (by simp <;> omega) (by simp <;> omega) (by simp <;> omega); refine V1.new (al86 _) fun b3 w3 N3 => ?_; have gN3 := N3.ge; have lN3 := N3.lt; have zN3 := N3.keep.size; have a3 := N3.at_; try simp only [Value.cells, List.toList_toArray] at a3
 replace kk := N3.kp kk; replace re := re.nw N3; replace p := p.new N3.keep; refine U1.tok (t := hd ts) a3 rfl fun w4 U4 => ?_; have zU4 := U4.size; replace kk := kk.trans' U4.keep (by simp <;> omega); replace re := re.fr U4.keep (by simp <;> omega); replace p := p.keep U4.keep (by simp <;> omega) (by simp <;> omega) (by simp <;> omega); have a3 := U4.at_; replace re := re.fit (lo' := w0.heap.size) (Y := []) (by omega) (by simp); have K5 : Keep [] w4 w4.drew := (Keep.refl _ _).drew; generalize w4.drew = w5 at K5 ⊢; have zK5 := K5.size; replace kk := kk.trans' K5 (by simp <;> omega); replace re := re.fr K5 (by simp <;> omega); replace p := p.keep K5 (by simp <;> omega) (by simp <;> omega) (by simp <;> omega); replace a3 := K5.at a3 (by simp <;> omega); refine ⟨fun w' => w' = w5, rfl, ?_⟩
 refine ⟨_, fun w' _ => ⟨rfl, rfl⟩, ?_⟩; obtain ⟨o, c, h1, h2, h3⟩ := p.ex; obtain ⟨es, c', hm', hl⟩ := p.sat
 refine Xv.i _ (fun w' _ => by simp [go_sem] <;> trivial) ?_; refine Xv.i _ (fun w' hw => by subst hw; exact (oneAll rfl) _ _ _ (by rw [h1.cell]; rfl)) ?_; refine Xv.i _ (fun w' _ => by simp [go_sem] <;> trivial) ?_; refine Xv.i _ (fun w' hw => by subst hw; exact (oneAll rfl) _ _ _ (by rw [a3.cell]; rfl)) ?_; refine Xv.i _ (fun w' hw => by subst hw; exact hl _ _ hm') ?_; intro w6 hw6; rw [hw6]; clear hw6 w6; repeat (first | refine Up.i (Nc.p _ _) ?_ | refine V1.load (oneAll rfl) (by assumption) rfl ?_ | refine V1.i (by simp [go_sem] <;> trivial) ?_)
 refine J1.go (Gd.b (fun hc => ?_) (fun hc => ?_))
 · have hc' : ((hd ts).kind == 4) = true := by simpa using hc
   rw [hc'] at hr; repeat (first | refine Up.i (Nc.p _ _) ?_ | refine V1.load (oneAll rfl) (by assumption) rfl ?_ | refine V1.i (by simp [go_sem, hc] <;> trivial) ?_)
   refine If.b (fun hb => ?_) (fun hb => ?_)
   · rw [hb] at hr; refine putOwn false p fun w6 p6 K6 => ?_; simp only [Bool.not_true, Bool.false_or] at hr; have zK6 := K6.size; replace kk := kk.trans' K6 (by simp <;> omega); replace re := re.fr K6 (by simp <;> omega); subst hr; exact ⟨re, hs, ⟨_, by simp, p6⟩, kk⟩
   · rw [hb] at hr; simp only [Bool.not_true, Bool.false_or] at hr; obtain ⟨b2, rfl, -, -⟩ := re.kind hs; refine cf163 ((ih m hm).bin _ (bindN_range _) _ _ _ _ _ _ _ _ w0.heap.size p hdp (by omega) rfl (bind_ne hr hne) re (by omega) (by omega)) ?_ ?_
     · intro v w7 h; obtain ⟨t, ts1, o, hr1, r1, S1, ⟨o', -, p⟩, K7⟩ := h.out; simp only [hr1, Res.bind] at hr; have zK7 := K7.size; replace kk := kk.trans' K7 (by simp <;> omega); exact hK _ _ _ _ _ p r1 S1 kk hr
     · intro c w7 h; exact h.up hr kk (by simp)
 · have hc' : ((hd ts).kind == 4) = false := by simpa using hc
   rw [hc'] at hr; repeat (first | refine Up.i (Nc.p _ _) ?_ | refine V1.load (oneAll rfl) (by assumption) rfl ?_ | refine V1.i (by simp [go_sem, hc] <;> trivial) ?_)
   refine If.t ?_; refine putOwn false p fun w6 p6 K6 => ?_; simp only [Bool.not_false, Bool.true_or] at hr; have zK6 := K6.size; replace kk := kk.trans' K6 (by simp <;> omega); replace re := re.fr K6 (by simp <;> omega); subst hr; exact ⟨re, hs, ⟨_, by simp, p6⟩, kk⟩
theorem g108 {n : Nat} (ih : ∀ m, m ≤ n → All m) (above : Int) : G0 (n + 1) (.expr above) 108 [.int .i64 above] .P solid false := by
 intro w x ts deep own r p hdp hn hr hne; refine s108 ?_; unfold S108; simp only [run] at hr; have lp := p.ltp; refine P2.g (fun m v1 v2 w' => ∃ e ts' own', PS w' x ts' deep own' ∧ Rep (Fr w.heap.size []) w' e (.P v2) ∧ solid e = true ∧ Keep [x.p] w w' ∧ run m (.exprL e above) deep ts' = r ∧ m ≤ n) ?_ ?_
 · intro K hK; refine cf162 ((ih n (by omega)).operand _ _ _ _ _ _ p hdp (by omega) rfl (bind_ne hr hne)) ?_ ?_
   · intro v w2 h; obtain ⟨t, ts1, o, hr1, r1, S1, ⟨o', -, p⟩, K2⟩ := h.out; simp only [hr1, Res.bind] at hr
     cases n with
     | zero => exact absurd hr.symm hne
     | succ m =>
       exact b108 ih (by omega) p hdp (by omega) hr hne r1 S1 K2 lp fun v2 w' ts' own' e' h1 h2 h3 h4 h5 => hK m _ _ _ ⟨e', ts', own', h1, h2, h3, h4, h5, by omega⟩
   · intro c w3 hF; exact hF.next hr
 · rintro m v1 v2 w2 K ⟨e, ts1, own1, p, r1, S1, K2, hr, hm⟩ hK
   cases m with
   | zero => exact absurd hr.symm hne
   | succ m =>
     exact b108 ih (by omega) p hdp (by omega) hr hne r1 S1 K2 lp fun v2 w' ts' own' e' h1 h2 h3 h4 h5 => hK m _ _ _ (by omega) ⟨e', ts', own', h1, h2, h3, h4, h5, by omega⟩
theorem Ret.imp {f : FuncId} {args : Array Value} {w : World} {k Q : Value → World → Prop} {e E : List PanicEntry → World → Prop} (h : Calls Tryz.prog f args w (Ret Q E)) (hk : ∀ v w', Q v w' → k v w') (he : ∀ c w', E c w' → e c w') : Calls Tryz.prog f args w (Ret k e) :=
 h.mono fun en w' hr => by
   cases en with
   | returned v => exact hk v w' hr
   | panicked c => exact he c w' hr
   | outgrown => exact hr
theorem g160 {w : World} {x : Psr} {ts : List Tok} {deep : Int} {own : Bool} {r : Res} {fs ls : List UInt8} {cv : Value} {kc : FuncId} {cap : Array Value} {M : List Nat} {N : Nat} {J : World → Nat → List Tok → World → Prop} {Z : World → List Tok → World → Prop}
   (p : PS w x ts deep own) (hdp : 0 ≤ deep ∧ deep ≤ 64) (hcv : ∀ w', (Cv cv #[]).run Tryz.prog w' = .ok (.enter kc cap) w') (hxM : x.p ∈ M) (hMlt : ∀ i ∈ M, i < w.heap.size) (htM : x.bt ∉ M) (hmM : x.bm ∉ M) (hf : is1 fs ts = true)
   (ho : decide (64 < deep + 1) = true → r = .fail 3)
   (h0 : ∀ wb, Keep [x.p] w wb → PS wb x (adv ts) (deep + 1) own → decide (64 < deep + 1) = false → (is1 ls (adv ts) = true → Z wb (adv ts) wb) ∧ (is1 ls (adv ts) = false → J wb N (adv ts) wb))
   (hj : ∀ wb m ts' w' own', Keep [x.p] w wb → J wb m ts' w' → PS w' x ts' (deep + 1) own' → Keep M wb w' → decide (64 < deep + 1) = false →
     Calls Tryz.prog kc cap w' (Ret (fun _ w2 => ∃ ts2 own2, PS w2 x ts2 (deep + 1) own2 ∧ Keep M wb w2 ∧ ∀ w3, Keep [x.p] w2 w3 → (is1 [44] ts2 = true → ∃ m', m' < m ∧ J wb m' (adv ts2) w3) ∧ (is1 [44] ts2 = false → Z wb ts2 w3)) (fun c w2 => Er M x wb r c w2)))
   (hz : ∀ wb ts' w', Z wb ts' w' → is1 ls ts' = false → r = .fail 4)
   (hzk : ∀ wb ts' w1 w2, Z wb ts' w1 → Keep [x.p] w1 w2 → Z wb ts' w2) :
   Calls Tryz.prog 160 #[ptr x.p, str fs, str ls, cv] w (Ret (fun v w' => v = .int .i64 (hd ts).line ∧ decide (64 < deep + 1) = false ∧ ∃ wb ts1 own1, Keep [x.p] w wb ∧ PS w' x (adv ts1) deep own1 ∧ is1 ls ts1 = true ∧ Z wb ts1 w' ∧ Keep M w w') (Er M x w r)) := by
 refine s160 ?_; unfold S160; have lp := p.ltp; have kk := Keep.refl [x.p] w; refine cf159 (d159 p hdp) ?_ ?_; rotate_left
 · intro c w3 hF; have hF := hF fun _ => .oof
   cases h64 : decide (64 < deep + 1) with
   | true =>
     rw [ho h64]; simp only [openT, h64] at hF; exact hF.pre (Keep.refl M w) (by simp [hxM])
   | false =>
     simp only [openT, h64] at hF; exact hF.elim
 rintro _ w3 ⟨h64, b3, rfl, hb3, a3, p, K3⟩; have h64' : deep + 1 ≤ 64 := by simpa using h64
 have l3 := a3.lt; have zK3 := K3.size; replace kk := kk.trans' K3 (by simp <;> omega); refine D1.i (by simp [go_sem, clo, Deferred.ofValue]; exact ⟨rfl, rfl⟩) ?_; refine cf106 (d106 fs p) ?_ ?_; rotate_left
 · intro c w4 hF; have hF := hF fun _ => .oof; simp only [mustT, hf] at hF; exact hF.elim
 rintro _ w4 ⟨hi, rfl, p, K4⟩; have zK4 := K4.size; replace kk := kk.trans' K4 (by simp <;> omega); replace a3 := K4.at a3 (by simp <;> omega); refine V1.newSlice (by simp [go_sem] <;> trivial) fun b5 w5 N5 => ?_; have gN5 := N5.ge; have lN5 := N5.lt; have zN5 := N5.keep.size; have a5 := N5.at_; try simp only [Value.cells, List.toList_toArray] at a5
 replace kk := N5.kp kk; replace a3 := N5.a a3; replace p := p.new N5.keep; refine cf99 (d99s p a5) ?_ (NP.no (e := _)); rintro _ w6 ⟨rfl, K6⟩; have zK6 := K6.size; replace kk := kk.trans' K6 (by simp <;> omega); replace a3 := K6.at a3 (by simp <;> omega); replace p := p.keep K6 (by simp <;> omega) (by simp <;> omega) (by simp <;> omega); replace a5 := K6.at a5 (by simp <;> omega); repeat (first | refine Up.i (Nc.p _ _) ?_ | refine V1.load (oneAll rfl) (by assumption) rfl ?_ | refine V1.i (by simp [go_sem] <;> trivial) ?_)
 have h1 := h0 w6 kk p h64; refine D1L.g (fun m v ds w' => ds = [⟨.fn (.func 202) #[ptr b3], #[]⟩] ∧ ∃ ts' own', PS w' x ts' (deep + 1) own' ∧ Keep M w6 w' ∧ ((v = .bool true ∧ ∃ k, m = k + 1 ∧ J w6 k ts' w') ∨ (v = .bool false ∧ Z w6 ts' w'))) (N + 1)
   ⟨rfl, _, _, p, Keep.refl _ _, by
     cases h : is1 ls (adv ts) with
     | true => exact .inr ⟨rfl, h1.1 h⟩
     | false => exact .inl ⟨rfl, N, rfl, h1.2 h⟩⟩ ?_
 rintro m v ds w7 K ⟨rfl, ts', own', p, kM, hv⟩ hK; have z7 := kM.size; have a3' := a3; have a3 := kM.at a3 (fun h => by have := hMlt _ h; omega); have kx := (kk.mono (N := M) (by simp [hxM])).trans' kM (fun i hi _ => hi); rcases hv with ⟨rfl, k, rfl, hJ⟩ | ⟨rfl, hZ⟩
 · refine If.t ?_; refine Up.c (hcv _) (Ret.imp (hj w6 k ts' w7 own' kk hJ p kM h64) ?_ ?_)
   · rintro _ w8 ⟨ts2, own2, p, kM, h3⟩; refine cf158 (d158 [44] p) ?_ (NP.no (e := _)); rintro _ w9 ⟨rfl, p, K9⟩; have h4 := h3 w9 K9; have kM := kM.trans' K9 (by simp [hxM])
     cases h5 : is1 [44] ts2 with
     | true =>
       rw [h5] at p; obtain ⟨m', hm, hJ'⟩ := h4.1 h5; exact hK (m' + 1) _ _ _ (by omega) ⟨rfl, _, _, p, kM, .inl ⟨rfl, m', rfl, hJ'⟩⟩
     | false =>
       rw [h5] at p; exact hK 0 _ _ _ (by omega) ⟨rfl, _, _, p, kM, .inr ⟨rfl, h4.2 h5⟩⟩
   · intro c w8 hF; exact lv_fail hF lp hxM a3' (fun h => by have := hMlt _ h; omega) (kk.mono (by simp [hxM])) (fun i hi _ => hi)
 · refine If.f ?_; refine cf106 (d106 ls p) ?_ ?_; rotate_left
   · intro c w8 hF; have hF := hF fun _ => .oof
     cases h5 : is1 ls ts' with
     | true =>
       simp only [mustT, h5] at hF; exact hF.elim
     | false =>
       simp only [mustT, h5] at hF; rw [hz _ _ _ hZ h5]; exact lv_fail hF lp hxM a3 (by simp; omega) kx (by simp [hxM])
   rintro _ w8 ⟨hi, rfl, p, K8⟩; have zK8 := K8.size; replace a3 := K8.at a3 (by simp <;> omega); refine lv_ok p hdp a3 fun w9 p9 K9 => ?_; exact ⟨rfl, h64, w6, ts', _, kk, p9, hi, hzk _ _ _ _ (hzk _ _ _ _ hZ K8) K9, (kx.trans' K8 (by simp [hxM])).trans' K9 (by simp [hxM])⟩
def JA (x : Psr) (r : Res) (deep : Int) (n bc : Nat) (line : Int) (lv : Value) (F : Tr → List Tok → Bool → Res) (wb : World) (m : Nat) (ts : List Tok) (w : World) : Prop :=
  ∃ acc av, At w bc [.int .i64 8, .int .i64 line, .int .i64 0, str [], lv, .pointer none, .slice none 0 0, av, .slice none 0 0, .slice none 0 0] ∧ Acc 41 wb.heap.size [] w av acc ∧ (run m (.args acc) (deep + 1) ts).bind F = r ∧ len acc + m ≤ n
def ZA (x : Psr) (r : Res) (bc : Nat) (line : Int) (lv : Value) (F : Tr → List Tok → Bool → Res) (wb : World) (ts : List Tok) (w : World) : Prop :=
  ∃ acc av, At w bc [.int .i64 8, .int .i64 line, .int .i64 0, str [], lv, .pointer none, .slice none 0 0, av, .slice none 0 0, .slice none 0 0] ∧ Acc 41 wb.heap.size [] w av acc ∧ F acc ts false = r ∧ x.p < wb.heap.size
theorem g201 {n : Nat} (ih : ∀ m, m ≤ n → All m) (hn : n ≤ fuelMax) {x : Psr} {r : Res} {deep : Int} {bc ba bp : Nat} {line : Int} {lv : Value} {F : Tr → List Tok → Bool → Res} {wb w : World} {m : Nat} {ts : List Tok} {own : Bool} (hne : r ≠ .oof) (hd : 0 ≤ deep ∧ deep + 1 ≤ 64)
   (lp : x.p < wb.heap.size) (hJ : JA x r deep n bc line lv F wb m ts w) (p : PS w x ts (deep + 1) own) (kM : Keep [x.p, bc] wb w) (aa : At wb ba [ptr bc]) (ap : At wb bp [ptr x.p]) (hc : bc < wb.heap.size) (h1 : ba ≠ x.p) (h2 : ba ≠ bc) (h3 : bp ≠ x.p) (h4 : bp ≠ bc) (h5 : bc ≠ x.p) (h6 : bc ≠ x.bt) (h7 : bc ≠ x.bm) (h8 : x.bt < wb.heap.size) (h9 : x.bm < wb.heap.size) :
   Calls Tryz.prog 201 #[ptr ba, ptr bp] w (Ret (fun _ w2 => ∃ ts2 own2, PS w2 x ts2 (deep + 1) own2 ∧ Keep [x.p, bc] wb w2 ∧ ∀ w3, Keep [x.p] w2 w3 → (is1 [44] ts2 = true → ∃ m', m' < m ∧ JA x r deep n bc line lv F wb m' (adv ts2) w3) ∧ (is1 [44] ts2 = false → ZA x r bc line lv F wb ts2 w3)) (fun c w2 => Er [x.p, bc] x wb r c w2)) := by
 obtain ⟨acc, av, ac, ca, hr, hm⟩ := hJ
 cases m with
 | zero => exact absurd hr.symm hne
 | succ m =>
 simp only [run] at hr; refine s201 ?_; unfold S201; have z0 := kM.size; have la := aa.lt; have lpp := ap.lt; replace aa := kM.at aa (by simp; omega); replace ap := kM.at ap (by simp; omega); have K1 : Keep [] w w.drew := (Keep.refl _ _).drew; generalize w.drew = w1 at K1 ⊢; have zK1 := K1.size; replace kM := kM.trans' K1 (by simp <;> omega); replace aa := K1.at aa (by simp <;> omega); replace ap := K1.at ap (by simp <;> omega); replace ac := K1.at ac (by simp <;> omega); replace ca := ca.fr K1 (by simp <;> omega); replace p := p.keep K1 (by simp <;> omega) (by simp <;> omega) (by simp <;> omega); refine ⟨fun w' => At w' ba [ptr bc] ∧ At w' bp [ptr x.p] ∧ At w' bc [.int .i64 8, .int .i64 line, .int .i64 0, str [], lv, .pointer none, .slice none 0 0, av, .slice none 0 0, .slice none 0 0], ⟨aa, ap, ac⟩, ?_⟩; refine Xw.i _ (fun w' hw => (oneAll rfl) _ _ _ (by rw [hw.1.cell]; rfl)) ?_
 refine Xw.i _ (fun w' hw => (oneAll rfl) _ _ _ (by rw [hw.1.cell]; rfl)) ?_; refine ⟨_, fun w' _ => Nc.p _ w', ?_⟩; refine Xw.i _ (fun w' _ => by simp [go_sem] <;> trivial) ?_; refine Xw.i _ (fun w' hw => (oneAll rfl) _ _ _ (by rw [hw.2.2.cell]; rfl)) ?_; refine Xw.i _ (fun w' hw => (oneAll rfl) _ _ _ (by rw [hw.2.1.cell]; rfl)) ?_; have hlt : ∀ g, av.ownBlock = some g → wb.heap.size ≤ g ∧ g < w1.heap.size := fun g hg => ca.lt hg; have hr' : ∃ f, (run m (.expr 0) (deep + 1) ts).bind f = r := by
   cases h : run m (.expr 0) (deep + 1) ts with
   | ok t ts o => rw [h] at hr; exact ⟨fun _ _ _ => r, rfl⟩
   | fail c => rw [h] at hr; exact ⟨fun _ _ _ => .oof, hr⟩
   | oof => rw [h] at hr; exact absurd hr.symm hne
 obtain ⟨f, hf⟩ := hr'; refine cf108 ((ih m (by omega)).expr 0 _ _ _ _ _ _ p (by omega) (by omega) rfl (bind_ne hf hne)) ?_ ?_; rotate_left
 · intro c w2 h; exact h.up hf kM (by simp)
 intro v w2 h; obtain ⟨t, ts1, o, hr1, r1, S1, ⟨o', -, p⟩, K2⟩ := h.out; simp only [hr1, Res.bind] at hr; have zK2 := K2.size; replace kM := kM.trans' K2 (by simp <;> omega); replace aa := K2.at aa (by simp <;> omega); replace ap := K2.at ap (by simp <;> omega); replace ac := K2.at ac (by simp <;> omega); replace ca := ca.fr K2 (by simp <;> omega); refine ⟨⟨aa, ap, ac⟩, ?_⟩; obtain ⟨br, rfl, -, -⟩ := r1.kind S1; have r2 : Rep (Fr wb.heap.size (av.ownBlock.toList ++ [])) w2 t (.P (ptr br)) := Rep.imp (fun q hq _ => ⟨by have := hq.1; omega, by
   simp
   intro hm; have := hlt q hm; have := hq.1; omega⟩) _ _ r1
 refine V1.newSlice (by simp [go_sem] <;> trivial) fun b3 w3 N3 => ?_; have gN3 := N3.ge; have lN3 := N3.lt; have zN3 := N3.keep.size; have a3 := N3.at_; try simp only [Value.cells, List.toList_toArray] at a3
 replace kM := N3.kp kM; replace aa := N3.a aa; replace ap := N3.a ap; replace ac := N3.a ac; replace p := p.new N3.keep; replace ca := ca.f0 N3.keep; replace r2 := r2.f0 N3.keep; refine ⟨⟨aa, ap, ac⟩, ?_⟩; obtain ⟨v', w4, hrun, ca', K4, hg⟩ := app44 (n := n) ca a3 rfl r2 (by omega) (by simp only [fuelMax] at hn; omega) (by simp) (by omega); refine V1.i hrun ?_; have hM : ∀ i ∈ av.ownBlock.toList, wb.heap.size ≤ i ∧ i < w1.heap.size := by
   intro i hi; simp at hi; exact hlt i hi
 replace p := p.keep K4 (fun h => by have := hM _ h; omega) (fun h => by have := hM _ h; omega) (fun h => by have := hM _ h; omega); replace kM := kM.trans' K4 (fun i hi h => by have := hM i hi; omega); replace aa := K4.at aa (fun h => by have := hM _ h; omega); replace ap := K4.at ap (fun h => by have := hM _ h; omega); replace ac := K4.at ac (fun h => by have := hM _ h; omega); have z4 := K4.size; refine ⟨⟨aa, ap, ac⟩, ?_⟩; refine ⟨_, fun w' _ => Nc.p _ w', ?_⟩; refine Xw.i _ (fun w' _ => by simp [go_sem] <;> trivial) ?_; refine U1.store (onesAll rfl ca'.sc) ac (by simp) fun w5 U5 => ?_; have zU5 := U5.size; replace kM := kM.trans' U5.keep (by simp <;> omega); replace p := p.keep U5.keep (by simp <;> omega) (by simp <;> omega) (by simp <;> omega); replace ac := U5.at_; simp only [List.set_cons_zero, List.set_cons_succ] at ac; replace ca' := ca'.fr U5.keep (by simp; omega)
 refine ⟨ts1, _, p, kM, fun w6 K6 => ?_⟩; have zK6 := K6.size; replace ac := K6.at ac (by simp <;> omega); replace ca' := ca'.fr K6 (by simp <;> omega); refine ⟨fun h => ⟨m, by omega, _, _, ac, ca', ?_, by rw [len_snoc _ _ ca.isL]; omega⟩, fun h => ⟨_, _, ac, ca', ?_⟩⟩
 · rw [h] at hr; exact hr
 · rw [h] at hr; exact ⟨hr, lp⟩
theorem ZA.keep {x : Psr} {r : Res} {bc : Nat} {line : Int} {lv : Value} {F : Tr → List Tok → Bool → Res} {wb w w' : World} {ts : List Tok} (h : ZA x r bc line lv F wb ts w) (hk : Keep [x.p] w w') (h5 : bc ≠ x.p) : ZA x r bc line lv F wb ts w' := by
 obtain ⟨acc, av, h1, h2, h3, h4⟩ := h; exact ⟨acc, av, hk.at h1 (by simp; omega), h2.fr hk (by simp; omega), h3, h4⟩
theorem g156 {n : Nat} (ih : ∀ m, m ≤ n → All m) : G0 (n + 1) .post 156 [] .P solid true := by
 intro w x ts deep own r p hdp hn hr hne; refine s156 ?_; unfold S156; simp only [run] at hr; have lp := p.ltp; have lt := p.ltt; have lm := p.ltm; have kk := Keep.refl [x.p] w; refine V1.new (bx79 _ _) fun b1 w1 N1 => ?_; have gN1 := N1.ge; have lN1 := N1.lt; have zN1 := N1.keep.size; have a1 := N1.at_; try simp only [Value.cells, List.toList_toArray] at a1
 replace p := p.new N1.keep; replace kk := N1.kp kk; refine V1.load (oneAll rfl) (a1) rfl ?_; refine V1.newSlice (by simp [go_sem] <;> trivial) fun b2 w2 N2 => ?_; have gN2 := N2.ge; have lN2 := N2.lt; have zN2 := N2.keep.size; have a2 := N2.at_; try simp only [Value.cells, List.toList_toArray] at a2
 replace p := p.new N2.keep; replace kk := N2.kp kk; replace a1 := N2.a a1; refine cf99 (d99s p a2) ?_ (NP.no (e := _)); rintro _ w3 ⟨rfl, K3⟩; have zK3 := K3.size; replace p := p.keep K3 (by simp <;> omega) (by simp <;> omega) (by simp <;> omega); replace kk := kk.trans' K3 (by simp <;> omega); replace a1 := K3.at a1 (by simp <;> omega); replace a2 := K3.at a2 (by simp <;> omega); refine V1.load (oneAll rfl) (a1) rfl ?_; refine cf199 ((ih n (by omega)).primary _ _ _ _ _ _ p hdp (by omega) rfl (bind_ne hr hne)) ?_ ?_; rotate_left
 · intro c w4 h; exact h.up hr kk (by simp)
 intro v w4 h; obtain ⟨t, ts1, o, hr1, r1, S1, ⟨o', -, p⟩, K4⟩ := h.out; simp only [hr1, Res.bind] at hr; have zK4 := K4.size; replace a1 := K4.at a1 (by simp <;> omega); replace kk := kk.trans' K4 (by simp <;> omega); refine L3.g (fun m v4 v2 v3 w' => ∃ e ts' own' ob, v3 = .bool ob ∧ PS w' x ts' deep own' ∧ Rep (Fr w.heap.size []) w' e (.P v4) ∧ solid e = true ∧ Keep [x.p] w w' ∧ At w' b1 [ptr x.p] ∧ run m (.postL e ob) deep ts' = r ∧ m ≤ n) n
   ⟨t, ts1, o', _, rfl, p, r1.fit (by omega) (by simp), S1, kk, a1, hr, Nat.le_refl _⟩ ?_
 clear hr1 r1 S1 p kk a1 hr h K4 a2 t ts1 o o' K3; rintro m v4 v2 v3 w5 K ⟨e, ts1, own1, ob, rfl, p, re, se, kk, a1, hr, hm⟩ hK
 cases m with
 | zero => exact absurd hr.symm hne
 | succ m =>
 simp only [run] at hr; have z5 := kk.size; have lb := a1.lt; refine J2.go ?_; refine V1.load (oneAll rfl) (a1) rfl ?_; refine V1.newSlice (by simp [go_sem] <;> trivial) fun b6 w6 N6 => ?_; have gN6 := N6.ge; have lN6 := N6.lt; have zN6 := N6.keep.size; have a6 := N6.at_; try simp only [Value.cells, List.toList_toArray] at a6
 replace p := p.new N6.keep; replace kk := N6.kp kk; replace a1 := N6.a a1; replace re := re.nw N6; refine cf99 (d99s p a6) ?_ (NP.no (e := _)); rintro _ w7 ⟨rfl, K7⟩; have zK7 := K7.size; replace p := p.keep K7 (by simp <;> omega) (by simp <;> omega) (by simp <;> omega); replace kk := kk.trans' K7 (by simp <;> omega); replace a1 := K7.at a1 (by simp <;> omega); replace re := re.fr K7 (by simp <;> omega); replace a6 := K7.at a6 (by simp <;> omega); refine If.b (fun hb => ?_) (fun hb => ?_)
 · simp only [hb] at hr; refine V1.load (oneAll rfl) (a1) rfl ?_; obtain ⟨br, rfl, -, -⟩ := re.kind se; refine cf200 ((ih m (by omega)).bracket _ _ _ _ _ _ _ _ w.heap.size p hdp (by omega) rfl (bind_ne hr hne) (re.fit (by omega) (by simp)) (by omega) (by omega)) ?_ ?_
   · intro v w8 h; obtain ⟨t, ts2, o, hr1, r1, S1, ⟨o', -, p⟩, K8⟩ := h.out; simp only [hr1, Res.bind] at hr; have zK8 := K8.size; replace kk := kk.trans' K8 (by simp <;> omega); replace a1 := K8.at a1 (by simp <;> omega); exact hK m _ _ _ _ (by omega) ⟨_, _, _, _, rfl, p, r1, idx_solid S1, kk, a1, hr, by omega⟩
   · intro c w8 h; exact h.up hr kk (by simp)
 simp only [hb] at hr; refine V1.load (oneAll rfl) (a1) rfl ?_; refine V1.newSlice (by simp [go_sem] <;> trivial) fun b8 w8 N8 => ?_; have gN8 := N8.ge; have lN8 := N8.lt; have zN8 := N8.keep.size; have a8 := N8.at_; try simp only [Value.cells, List.toList_toArray] at a8
 replace p := p.new N8.keep; replace kk := N8.kp kk; replace a1 := N8.a a1; replace re := re.nw N8; refine cf99 (d99s p a8) ?_ (NP.no (e := _)); rintro _ w9 ⟨rfl, K9⟩; have zK9 := K9.size; replace p := p.keep K9 (by simp <;> omega) (by simp <;> omega) (by simp <;> omega); replace kk := kk.trans' K9 (by simp <;> omega); replace a1 := K9.at a1 (by simp <;> omega); replace re := re.fr K9 (by simp <;> omega); replace a8 := K9.at a8 (by simp <;> omega); refine If.b (fun hb => ?_) (fun hb => ?_)
 · simp only [hb] at hr; refine V1.load (oneAll rfl) (a1) rfl ?_; refine cf107 (d107 p) ?_ (NP.no (e := _)); rintro _ w10 ⟨rfl, p, K10⟩; have zK10 := K10.size; replace kk := kk.trans' K10 (by simp <;> omega); replace a1 := K10.at a1 (by simp <;> omega); replace re := re.fr K10 (by simp <;> omega); rw [tokV]; refine V1.i (by simp [go_sem] <;> trivial) ?_; refine V1.load (oneAll rfl) (a1) rfl ?_; refine cf104 (d104 p) ?_ ?_; rotate_left
   · intro c w11 hF; exact (Er.all hF hr).pre kk (by simp)
   rintro _ w11 ⟨hi, rfl, p, K11⟩; have zK11 := K11.size; replace kk := kk.trans' K11 (by simp <;> omega); replace a1 := K11.at a1 (by simp <;> omega); replace re := re.fr K11 (by simp <;> omega); rw [nameT_t hi] at hr; refine V1.new (al86 _) fun b12 w12 N12 => ?_; have gN12 := N12.ge; have lN12 := N12.lt; have zN12 := N12.keep.size; have a12 := N12.at_; try simp only [Value.cells, List.toList_toArray] at a12
   replace p := p.new N12.keep; replace kk := N12.kp kk; replace a1 := N12.a a1; replace re := re.nw N12; refine U1.tok (t := hd (adv ts1)) a12 rfl fun w13 U13 => ?_; have z13 := U13.size; replace p := p.keep U13.keep (by simp <;> omega) (by simp <;> omega) (by simp <;> omega); replace kk := kk.trans' U13.keep (by simp <;> omega); replace a1 := U13.keep.at a1 (by simp <;> omega); replace re := re.fr U13.keep (by simp <;> omega); have a12 := U13.at_; refine V1.i (by simp [go_sem] <;> trivial) ?_; refine V1.load (oneAll rfl) (a12) rfl ?_; refine V1.i (by simp [go_sem] <;> trivial) ?_; refine V1.load (oneAll rfl) (a12) rfl ?_; refine V1.i (by simp [go_sem] <;> trivial) ?_; refine V1.new (bx47 _ _) fun b14 w14 N14 => ?_; have gN14 := N14.ge; have lN14 := N14.lt
   have zN14 := N14.keep.size; have a14 := N14.at_; try simp only [Value.cells, List.toList_toArray] at a14
   replace p := p.new N14.keep; replace kk := N14.kp kk; replace a1 := N14.a a1; replace re := re.nw N14; obtain ⟨br, rfl, -, -⟩ := re.kind se; unfold ptr at *; refine V1.i (by simp [go_sem] <;> trivial) ?_; refine V1.new (bx47 _ _) fun b15 w15 N15 => ?_; have gN15 := N15.ge; have lN15 := N15.lt; have zN15 := N15.keep.size; have a15 := N15.at_; try simp only [Value.cells, List.toList_toArray] at a15
   replace p := p.new N15.keep; replace kk := N15.kp kk; replace a1 := N15.a a1; replace re := re.nw N15; replace a14 := N15.a a14; exact hK m _ _ _ _ (by omega) ⟨.ex 7 0 [] e (lf 5 0 (hd (adv ts1)).text) .nil .nil [] .nil, _, _, _, rfl, p, ⟨b15, _, _, _, _, _, _, _, rfl, ⟨by omega, by simp⟩, a15, re.fit (by omega) (by simp), ⟨b14, _, _, _, _, _, _, _, rfl, ⟨by omega, by simp⟩, a14, rfl, rfl, .inl rfl, .inl rfl, .inl ⟨rfl, rfl⟩, .inl rfl⟩, .inl rfl, .inl rfl, .inl ⟨rfl, rfl⟩, .inl rfl⟩, rfl, kk, a1, hr, by omega⟩
 simp only [hb] at hr; refine V1.load (oneAll rfl) (a1) rfl ?_; refine V1.newSlice (by simp [go_sem] <;> trivial) fun b10 w10 N10 => ?_; have gN10 := N10.ge; have lN10 := N10.lt; have zN10 := N10.keep.size; have a10 := N10.at_; try simp only [Value.cells, List.toList_toArray] at a10
 replace p := p.new N10.keep; replace kk := N10.kp kk; replace a1 := N10.a a1; replace re := re.nw N10; refine cf99 (d99s p a10) ?_ (NP.no (e := _)); rintro _ w11 ⟨rfl, K11⟩; have zK11 := K11.size; replace p := p.keep K11 (by simp <;> omega) (by simp <;> omega) (by simp <;> omega); replace kk := kk.trans' K11 (by simp <;> omega); replace a1 := K11.at a1 (by simp <;> omega); replace re := re.fr K11 (by simp <;> omega); replace a10 := K11.at a10 (by simp <;> omega); refine If.b (fun hb => ?_) (fun hb => ?_)
 · simp only [hb] at hr; obtain ⟨br, rfl, -, -⟩ := re.kind se; unfold ptr at *; refine V1.i (by simp [go_sem] <;> trivial) ?_; refine V1.new (bx47 _ _) fun b12 w12 N12 => ?_; have gN12 := N12.ge; have lN12 := N12.lt; have zN12 := N12.keep.size; have a12 := N12.at_; try simp only [Value.cells, List.toList_toArray] at a12
   replace p := p.new N12.keep; replace kk := N12.kp kk; replace a1 := N12.a a1; replace re := re.nw N12; refine V1.new (al41 _) fun b13 w13 N13 => ?_; have gN13 := N13.ge; have lN13 := N13.lt; have zN13 := N13.keep.size; have a13 := N13.at_; try simp only [Value.cells, List.toList_toArray] at a13
   replace p := p.new N13.keep; replace kk := N13.kp kk; replace a1 := N13.a a1; replace re := re.nw N13; replace a12 := N13.a a12; refine U1.store (onesAll rfl rfl) a13 (by simp) fun w14 U14 => ?_; have zU14 := U14.size; replace p := p.keep U14.keep (by simp <;> omega) (by simp <;> omega) (by simp <;> omega); replace kk := kk.trans' U14.keep (by simp <;> omega); replace a1 := U14.keep.at a1 (by simp <;> omega); replace re := re.fr U14.keep (by simp <;> omega); replace a12 := U14.keep.at a12 (by simp <;> omega); replace a13 := U14.at_; simp only [List.set_cons_zero, List.set_cons_succ] at a13; have K15 : Keep [] w14 w14.drew := (Keep.refl _ _).drew; generalize w14.drew = w15 at K15 ⊢; have zK15 := K15.size
   replace p := p.keep K15 (by simp <;> omega) (by simp <;> omega) (by simp <;> omega); replace kk := kk.trans' K15 (by simp <;> omega); replace a1 := K15.at a1 (by simp <;> omega); replace re := re.fr K15 (by simp <;> omega); replace a12 := K15.at a12 (by simp <;> omega); replace a13 := K15.at a13 (by simp <;> omega); refine ⟨fun w' => At w' b13 [ptr b12] ∧ At w' b1 [ptr x.p], ⟨a13, a1⟩, ?_⟩; refine Xw.i _ (fun w' hw => (oneAll rfl) _ _ _ (by rw [hw.1.cell]; rfl)) ?_; refine Xw.i _ (fun w' hw => (oneAll rfl) _ _ _ (by rw [hw.2.cell]; rfl)) ?_; refine Xw.i _ (fun w' _ => by simp [go_sem] <;> trivial) ?_; have q1 := p.ltt; have q2 := p.tp; have q3 := p.mp
   refine cf160 (g160 (M := [x.p, b12]) (N := m) (r := r) (kc := 201) (cap := #[ptr b13, ptr b1]) (J := JA x r deep n b12 0 (ptr br) fun ags ts _ => mustT [41] ts fun ts => run m (.postL (.ex 8 0 [] e .nil .nil ags [] .nil) false) deep ts) (Z := ZA x r b12 0 (ptr br) fun ags ts _ => mustT [41] ts fun ts => run m (.postL (.ex 8 0 [] e .nil .nil ags [] .nil) false) deep ts) p hdp (callFunc_run Tryz.func201 (c := codeB Tryz.f201) (by kernel_rfl) (by kernel_rfl) _) (by simp) (by simp; omega) (by simp; omega) (by simp; omega) hb ?_ ?_ ?_ ?_ ?_) ?_ ?_
   · intro h; simp only [openT, h] at hr; exact hr.symm
   · intro wb Kb pb h64; rw [openT_t h64] at hr; have zb := Kb.size; have zKb := Kb.size; replace a12 := Kb.at a12 (by simp <;> omega); constructor
     · intro h; simp only [h] at hr; exact ⟨.nil, _, a12, Acc.nil _ _ _ _, (mustT_t h).trans hr, by omega⟩
     · intro h; simp only [h] at hr; exact ⟨.nil, _, a12, Acc.nil _ _ _ _, hr, by simp [len]; omega⟩
   · intro wb m' ts' w' own' Kb hJ p' kM h64; have zb := Kb.size; exact g201 ih (by omega) hne ⟨hdp.1, by simpa using h64⟩ (by omega) hJ p' kM (Kb.at a13 (by simp; omega)) (Kb.at a1 (by simp; omega)) (by omega) (by omega) (by omega) (by omega) (by omega) (by omega) (by omega) (by omega) (by omega) (by omega)
   · rintro wb ts' w' ⟨acc, av, ac, ca, hF, hl⟩ h; simp only [mustT, h] at hF; exact hF.symm
   · intro wb ts' w1 w2 hZ hk; exact hZ.keep hk (by omega)
   · rintro v w16 ⟨rfl, h64, wb, ts2, own2, Kb, p, hi, ⟨acc, av, ac, ca, hF, hl⟩, K16⟩; have zb := Kb.size; have zK16 := K16.size; replace kk := kk.trans' K16 (by simp <;> omega); replace a1 := K16.at a1 (by simp <;> omega); replace re := re.fr K16 (by simp <;> omega); replace a13 := K16.at a13 (by simp <;> omega); replace hF := (mustT_t hi).symm.trans hF; refine ⟨⟨a13, a1⟩, ?_⟩; unfold ptr at *; refine ⟨_, fun w' _ => Nc.p _ w', ?_⟩; refine Xw.i _ (fun w' _ => by simp [go_sem] <;> trivial) ?_; refine U1.store (onesAll rfl rfl) ac (by simp) fun w17 U17 => ?_; have zU17 := U17.size; replace kk := kk.trans' U17.keep (by simp <;> omega); replace a1 := U17.keep.at a1 (by simp <;> omega); replace re := re.fr U17.keep (by simp <;> omega); replace a13 := U17.keep.at a13 (by simp <;> omega); replace p := p.keep U17.keep (by simp <;> omega) (by simp <;> omega) (by simp <;> omega)
     replace ca := ca.fr U17.keep (by simp <;> omega); replace ac := U17.at_; simp only [List.set_cons_zero, List.set_cons_succ] at ac; refine V1.load (oneAll rfl) (a13) rfl ?_; exact hK m _ _ _ _ (by omega) ⟨.ex 8 0 [] e .nil .nil acc [] .nil, _, _, _, rfl, p, ⟨b12, _, _, _, _, _, _, _, rfl, ⟨by omega, by simp⟩, ac, re.fit (by omega) (by simp), rfl, .inl rfl, ca.rep.fit (by omega) (by simp), .inl ⟨rfl, rfl⟩, .inl rfl⟩, rfl, kk, a1, hF, by omega⟩
   · intro c w16 hF; exact hF.pre kk (by simp; omega)
 simp only [hb] at hr; refine V1.load (oneAll rfl) (a1) rfl ?_; refine putOwn _ p fun w12 p12 K12 => ?_; have zK12 := K12.size; replace kk := kk.trans' K12 (by simp <;> omega); replace re := re.fr K12 (by simp <;> omega); subst hr; exact ⟨re.fit (by omega) (by simp), se, ⟨_, by simp, p12⟩, kk⟩
theorem g199 {n : Nat} (ih : All n) : G0 (n + 1) .primary 199 [] .P solid false := by
 intro w x ts deep own r p hdp hn hr hne; refine s199 ?_; unfold S199; simp only [run] at hr; have lp := p.ltp; have lt := p.ltt; have lm := p.ltm; have kk := Keep.refl [x.p] w; refine cf31 (d31 p) ?_ (NP.no (e := _)); rintro _ w2 ⟨rfl, K2⟩; have zK2 := K2.size; replace p := p.keep K2 (by simp <;> omega) (by simp <;> omega) (by simp <;> omega); replace kk := kk.trans' K2 (by simp <;> omega); refine V1.new (al86 _) fun b3 w3 N3 => ?_; have gN3 := N3.ge; have lN3 := N3.lt; have zN3 := N3.keep.size; have a3 := N3.at_; try simp only [Value.cells, List.toList_toArray] at a3
 replace p := p.new N3.keep; replace kk := N3.kp kk; refine U1.tok (t := hd ts) a3 rfl fun w4 U4 => ?_; have z4 := U4.size; replace p := p.keep U4.keep (by simp <;> omega) (by simp <;> omega) (by simp <;> omega); replace kk := kk.trans' U4.keep (by simp <;> omega); have a3 := U4.at_; refine V1.i (by simp [go_sem] <;> trivial) ?_; refine V1.load (oneAll rfl) (a3) rfl ?_; refine V1.i (by simp [go_sem] <;> trivial) ?_; refine V1.load (oneAll rfl) (a3) rfl ?_; refine V1.i (by simp [go_sem] <;> trivial) ?_; refine V1.new (bx47 _ _) fun b5 w5 N5 => ?_; have gN5 := N5.ge; have lN5 := N5.lt; have zN5 := N5.keep.size; have a5 := N5.at_; try simp only [Value.cells, List.toList_toArray] at a5
 replace p := p.new N5.keep; replace kk := N5.kp kk; replace a3 := N5.a a3; refine J1.go ?_; refine V1.i (by simp [go_sem] <;> trivial) ?_; refine V1.load (oneAll rfl) (a3) rfl ?_; refine V1.i (by simp [go_sem] <;> trivial) ?_; refine If.b (fun hb => ?_) (fun hb => ?_)
 · have hb' : (hd ts).kind = 1 := by simpa using hb
   rw [if_pos hb'] at hr; unfold ptr at *; refine Up.i (Nc.p _ _) ?_; refine V1.i (by simp [go_sem] <;> trivial) ?_; refine U1.store (onesAll rfl rfl) a5 (by simp) fun w6 U6 => ?_; have zU6 := U6.size; replace p := p.keep U6.keep (by simp <;> omega) (by simp <;> omega) (by simp <;> omega); replace kk := kk.trans' U6.keep (by simp <;> omega); replace a5 := U6.at_; simp only [List.set_cons_zero, List.set_cons_succ] at a5; refine cf107 (d107 p) ?_ (NP.no (e := _)); rintro _ w7 ⟨rfl, p, K7⟩; have zK7 := K7.size; replace kk := kk.trans' K7 (by simp <;> omega); replace a5 := K7.at a5 (by simp <;> omega); subst hr; exact ⟨⟨b5, _, _, _, _, _, _, _, rfl, ⟨by omega, by simp⟩, a5, rfl, rfl, .inl rfl, .inl rfl, .inl ⟨rfl, rfl⟩, .inl rfl⟩, rfl, ⟨_, by simp, p⟩, kk⟩
 have hb' : ¬ (hd ts).kind = 1 := by simpa using hb
 rw [if_neg hb'] at hr; refine V1.i (by simp [go_sem] <;> trivial) ?_; refine If.b (fun hb => ?_) (fun hb => ?_)
 · have hb' : (hd ts).kind = 2 := by simpa using hb
   rw [if_pos hb'] at hr; have K6 : Keep [] w5 w5.drew := (Keep.refl _ _).drew; generalize w5.drew = w6 at K6 ⊢; have zK6 := K6.size; replace p := p.keep K6 (by simp <;> omega) (by simp <;> omega) (by simp <;> omega); replace kk := kk.trans' K6 (by simp <;> omega); replace a3 := K6.at a3 (by simp <;> omega); replace a5 := K6.at a5 (by simp <;> omega); refine ⟨fun w' => At w' b3 [.int .i64 (hd ts).kind, str (hd ts).text, .int .i64 (hd ts).n, .int .i64 (hd ts).line], a3, ?_⟩; refine Xw.i _ (fun w' _ => by simp [go_sem] <;> trivial) ?_; refine Xw.i _ (fun w' hw => (oneAll rfl) _ _ _ (by rw [hw.cell]; rfl)) ?_; refine ⟨_, fun w' _ => Nc.p _ w', ?_⟩; refine Xw.i _ (fun w' _ => by simp [go_sem] <;> trivial) ?_; refine U1.store (onesAll rfl rfl) a5 (by simp) fun w7 U7 => ?_; have zU7 := U7.size; replace p := p.keep U7.keep (by simp <;> omega) (by simp <;> omega) (by simp <;> omega)
   replace kk := kk.trans' U7.keep (by simp <;> omega); replace a3 := U7.keep.at a3 (by simp <;> omega); replace a5 := U7.at_; simp only [List.set_cons_zero, List.set_cons_succ] at a5; refine ⟨a3, ?_⟩; refine ⟨_, fun w' _ => Nc.p _ w', ?_⟩; refine Xw.i _ (fun w' _ => by simp [go_sem] <;> trivial) ?_; refine U1.store (onesAll rfl rfl) a5 (by simp) fun w8 U8 => ?_; have zU8 := U8.size; replace p := p.keep U8.keep (by simp <;> omega) (by simp <;> omega) (by simp <;> omega); replace kk := kk.trans' U8.keep (by simp <;> omega); replace a3 := U8.keep.at a3 (by simp <;> omega); replace a5 := U8.at_; simp only [List.set_cons_zero, List.set_cons_succ] at a5; refine ⟨_, fun w' _ => Nc.p _ w', ?_⟩; refine Xw.i _ (fun w' _ => by simp [go_sem] <;> trivial) ?_; refine U1.store (onesAll rfl rfl) a5 (by simp) fun w9 U9 => ?_; have zU9 := U9.size
   replace p := p.keep U9.keep (by simp <;> omega) (by simp <;> omega) (by simp <;> omega); replace kk := kk.trans' U9.keep (by simp <;> omega); replace a3 := U9.keep.at a3 (by simp <;> omega); replace a5 := U9.at_; simp only [List.set_cons_zero, List.set_cons_succ] at a5; refine cf107 (d107 p) ?_ (NP.no (e := _)); rintro _ w7 ⟨rfl, p, K7⟩; have zK7 := K7.size; replace kk := kk.trans' K7 (by simp <;> omega); replace a5 := K7.at a5 (by simp <;> omega); subst hr; exact ⟨⟨b5, _, _, _, _, _, _, _, rfl, ⟨by omega, by simp⟩, a5, rfl, rfl, .inl rfl, .inl rfl, .inl ⟨rfl, rfl⟩, .inl rfl⟩, rfl, ⟨_, by simp, p⟩, kk⟩
 have hb' : ¬ (hd ts).kind = 2 := by simpa using hb
 rw [if_neg hb'] at hr; refine V1.i (by simp [go_sem] <;> trivial) ?_; refine If.b (fun hb => ?_) (fun hb => ?_)
 · have hb' : (hd ts).kind = 3 := by simpa using hb
   rw [if_pos hb'] at hr; unfold ptr at *; refine Up.i (Nc.p _ _) ?_; refine V1.i (by simp [go_sem] <;> trivial) ?_; refine U1.store (onesAll rfl rfl) a5 (by simp) fun w6 U6 => ?_; have zU6 := U6.size; replace p := p.keep U6.keep (by simp <;> omega) (by simp <;> omega) (by simp <;> omega); replace kk := kk.trans' U6.keep (by simp <;> omega); replace a5 := U6.at_; simp only [List.set_cons_zero, List.set_cons_succ] at a5; refine cf107 (d107 p) ?_ (NP.no (e := _)); rintro _ w7 ⟨rfl, p, K7⟩; have zK7 := K7.size; replace kk := kk.trans' K7 (by simp <;> omega); replace a5 := K7.at a5 (by simp <;> omega); subst hr; exact ⟨⟨b5, _, _, _, _, _, _, _, rfl, ⟨by omega, by simp⟩, a5, rfl, rfl, .inl rfl, .inl rfl, .inl ⟨rfl, rfl⟩, .inl rfl⟩, rfl, ⟨_, by simp, p⟩, kk⟩
 have hb' : ¬ (hd ts).kind = 3 := by simpa using hb
 rw [if_neg hb'] at hr; refine cf220 (ih.signed _ _ _ _ _ _ p hdp (by omega) hr hne) ?_ ?_
 · intro v w6 h; exact h.pre kk (by simp) (by omega)
 · intro c w6 h; exact h.pre kk (by simp)
def B240 (R : Ending → World → Prop) (a0 a1 : Value) (a4 : Value) (w : World) : Prop :=
 Up Tryz.prog (Nc a1) w (fun a63 w =>
 V1 Tryz.prog (Instr.fieldAt 47 a63 6) w (fun a64 w =>
 V1 Tryz.prog (Instr.loadAt 44 a64) w (fun a65 w =>
 V1 Tryz.prog (Instr.buildSlice 44 1 #[(0, a4)]) w (fun a67 w =>
 V1 Tryz.prog (Builtin.append_ #[44, 44] 44 #[a65, a67]) w (fun a68 w =>
 Up Tryz.prog (Nc a1) w (fun a69 w =>
 V1 Tryz.prog (Instr.fieldAt 47 a69 6) w (fun a70 w =>
 U1 Tryz.prog (Instr.storeAt 44 a70 a68) w (fun w =>
 ∃ S1 : World → Prop, S1 w.drew ∧
 Xs Tryz.prog (fun _ => True) (Nc a1) fun a73 => Xw Tryz.prog (fun _ => True) (Instr.fieldAt 47 a73 7) fun a74 => Xw Tryz.prog S1 (Instr.loadAt 44 a74) fun a75 => Cf Tryz.prog 108 #[a0, (.int .i64 0)] w.drew (fun a77 w =>
 S1 w ∧ V1 Tryz.prog (Instr.buildSlice 44 1 #[(0, a77)]) w (fun a78 w =>
 S1 w ∧ V1 Tryz.prog (Builtin.append_ #[44, 44] 44 #[a75, a78]) w (fun a79 w =>
 Xs Tryz.prog (fun _ => True) (Nc a1) fun a80 => Xw Tryz.prog (fun _ => True) (Instr.fieldAt 47 a80 7) fun a81 => U1 Tryz.prog (Instr.storeAt 44 a81 a79) w (fun w =>
 R (.returned (.tuple #[])) w) (pn R)) (pn R)) (pn R)) (pn R)) (pn R)) (pn R)) (pn R)) (pn R)) (pn R)) (pn R)) (pn R)) (pn R)
def tabV (kv av : Value) : List Value := [.int .i64 12, .int .i64 0, .int .i64 0, str [], .pointer none, .pointer none, kv, av, .slice none 0 0, .slice none 0 0]
def ItemQ (x : Psr) (bc : Nat) (wb : World) (deep : Int) (r : Res) (ks ags : Tr) (w : World) : Prop :=
  ∃ k a ts o kv av, r = .ok (.cons k (.cons a .nil)) ts o ∧ (∃ o', PS w x ts deep o') ∧ Keep [x.p, bc] wb w ∧ At w bc (tabV kv av) ∧ Acc 41 wb.heap.size av.ownBlock.toList w kv (snoc ks k) ∧ Acc 41 wb.heap.size kv.ownBlock.toList w av (snoc ags a)
theorem b240 {m n : Nat} (ih : All m) (hn : n ≤ fuelMax) (hm : m ≤ n) {x : Psr} {r : Res} {deep : Int} {bc : Nat} {wb w : World} {ts : List Tok} {own : Bool} {ks ags k : Tr} {kv av : Value} {ka : Option Addr} (hne : r ≠ .oof) (hdp : 0 ≤ deep ∧ deep ≤ 64)
   (lp : x.p < wb.heap.size) (p : PS w x ts deep own) (kM : Keep [x.p, bc] wb w) (hc : bc < wb.heap.size) (h5 : bc ≠ x.p) (h6 : bc ≠ x.bt) (h7 : bc ≠ x.bm) (h8 : x.bt < wb.heap.size) (h9 : x.bm < wb.heap.size)
   (ac : At w bc (tabV kv av)) (ck : Acc 41 wb.heap.size av.ownBlock.toList w kv ks) (ca : Acc 41 wb.heap.size kv.ownBlock.toList w av ags) (lk : len ks ≤ n) (la : len ags ≤ n)
   (rk : Rep (Fr wb.heap.size (kv.ownBlock.toList ++ av.ownBlock.toList)) w k (.P (.pointer ka))) (hr : (run m (.expr 0) deep ts).bind (fun a ts' _ => .ok (.cons k (.cons a .nil)) ts' false) = r) :
   B240 (Ret (fun _ w2 => ItemQ x bc wb deep r ks ags w2) (Er [x.p, bc] x wb r)) (ptr x.p) (ptr bc) (.pointer ka) w := by
 unfold B240; have z0 := kM.size; unfold tabV at ac; rw [show ptr bc = .pointer (some ⟨bc, 0, none⟩) from rfl]; refine Up.i (Nc.p _ _) ?_; refine V1.i (by simp [go_sem] <;> trivial) ?_; refine V1.load (oneAll rfl) (ac) rfl ?_; have hlk : ∀ g, kv.ownBlock = some g → wb.heap.size ≤ g ∧ g < w.heap.size := fun g hg => ck.lt hg; have hla : ∀ g, av.ownBlock = some g → wb.heap.size ≤ g ∧ g < w.heap.size := fun g hg => ca.lt hg; refine V1.newSlice (by simp [go_sem] <;> trivial) fun b2 w2 N2 => ?_; have gN2 := N2.ge; have lN2 := N2.lt; have zN2 := N2.keep.size; have a2 := N2.at_; try simp only [Value.cells, List.toList_toArray] at a2
 replace kM := N2.kp kM; replace p := p.new N2.keep; replace ac := N2.a ac; replace ck := ck.f0 N2.keep; replace ca := ca.f0 N2.keep; replace rk := rk.f0 N2.keep; obtain ⟨kv', w3, hrun, ck', K3, hg⟩ := app44 (n := n) ck a2 rfl rk (by omega) (by simpa only [fuelMax] using hn) (by intro i hi; simp at hi; have := hla i hi; omega) (by omega); refine V1.i hrun ?_; have hM : ∀ i ∈ kv.ownBlock.toList, wb.heap.size ≤ i ∧ i < w.heap.size := by
   intro i hi; simp at hi; exact hlk i hi
 replace p := p.keep K3 (fun h => by have := hM _ h; omega) (fun h => by have := hM _ h; omega) (fun h => by have := hM _ h; omega); replace kM := kM.trans' K3 (fun i hi h => by have := hM i hi; omega); replace ac := K3.at ac (fun h => by have := hM _ h; omega); have z3 := K3.size; replace ca := ((ca.fit (Y := kv.ownBlock.toList ++ kv'.ownBlock.toList) (by
   intro i hi; simp only [List.mem_append, Option.mem_toList, Option.mem_def] at hi ⊢; rcases hi with h | h
   · exact .inr (.inl h)
   · rcases hg i h with h | h
     · exact .inr (.inl h)
     · exact .inr (.inr h))).fr K3 (fun i hi => .inr (.inl (by simp only [List.mem_append]; exact .inl hi)))).fit (Y := kv'.ownBlock.toList) (fun i hi => .inr (.inl (by simp only [List.mem_append]; exact .inr hi)))
 refine Up.i (Nc.p _ _) ?_; refine V1.i (by simp [go_sem] <;> trivial) ?_; refine U1.store (onesAll rfl ck'.sc) ac (by simp) fun w4 U4 => ?_; have zU4 := U4.size; replace kM := kM.trans' U4.keep (by simp <;> omega); replace p := p.keep U4.keep (by simp <;> omega) (by simp <;> omega) (by simp <;> omega); replace ac := U4.at_; simp only [List.set_cons_zero, List.set_cons_succ] at ac; replace ck' := ck'.fr U4.keep (by simp; omega); replace ca := ca.fr U4.keep (by simp; omega); have hlk : ∀ g, kv'.ownBlock = some g → wb.heap.size ≤ g ∧ g < w4.heap.size := fun g hg => ck'.lt hg; have hla : ∀ g, av.ownBlock = some g → wb.heap.size ≤ g ∧ g < w4.heap.size := fun g hg => ca.lt hg; have q1 := p.ltt; have K5 : Keep [] w4 w4.drew := (Keep.refl _ _).drew; generalize w4.drew = w5 at K5 ⊢; have zK5 := K5.size; replace kM := kM.trans' K5 (by simp <;> omega)
 replace p := p.keep K5 (by simp <;> omega) (by simp <;> omega) (by simp <;> omega); replace ac := K5.at ac (by simp <;> omega); replace ck' := ck'.fr K5 (by simp <;> omega); replace ca := ca.fr K5 (by simp <;> omega); refine ⟨fun w' => At w' bc (tabV kv' av), ac, ?_⟩; refine ⟨_, fun w' _ => Nc.p _ w', ?_⟩; refine Xw.i _ (fun w' _ => by simp [go_sem] <;> trivial) ?_; refine Xw.i _ (fun w' hw => (oneAll rfl) _ _ _ (by rw [hw.cell]; rfl)) ?_; refine cf108 (ih.expr 0 _ _ _ _ _ _ p hdp (by omega) rfl (bind_ne hr hne)) ?_ ?_; rotate_left
 · intro c w6 h; exact h.up hr kM (by simp)
 intro v w6 h; obtain ⟨t, ts1, o, hr1, r1, S1, ⟨o', -, p⟩, K6⟩ := h.out; simp only [hr1, Res.bind] at hr; have zK6 := K6.size; replace kM := kM.trans' K6 (by simp <;> omega); replace ac := K6.at ac (by simp <;> omega); replace ck' := ck'.fr K6 (by simp <;> omega); replace ca := ca.fr K6 (by simp <;> omega); refine ⟨ac, ?_⟩; obtain ⟨br, rfl, -, -⟩ := r1.kind S1; have r2 : Rep (Fr wb.heap.size (av.ownBlock.toList ++ kv'.ownBlock.toList)) w6 t (.P (ptr br)) := Rep.imp (fun q hq _ => ⟨by have := hq.1; omega, by
   simp only [List.mem_append, Option.mem_toList, Option.mem_def]; intro hm; rcases hm with hm | hm
   · have := hla q hm; have := hq.1; omega
   · have := hlk q hm; have := hq.1; omega⟩) _ _ r1
 refine V1.newSlice (by simp [go_sem] <;> trivial) fun b7 w7 N7 => ?_; have gN7 := N7.ge; have lN7 := N7.lt; have zN7 := N7.keep.size; have a7 := N7.at_; try simp only [Value.cells, List.toList_toArray] at a7
 replace kM := N7.kp kM; replace p := p.new N7.keep; replace ac := N7.a ac; replace ck' := ck'.fr N7.keep (by simp); replace ca := ca.f0 N7.keep; replace r2 := r2.f0 N7.keep; refine ⟨ac, ?_⟩; obtain ⟨av', w8, hrun, ca', K8, hg⟩ := app44 (n := n) ca a7 rfl r2 (by omega) (by simpa only [fuelMax] using hn) (by intro i hi; simp at hi; have := hlk i hi; omega) (by omega); refine V1.i hrun ?_; have hM : ∀ i ∈ av.ownBlock.toList, wb.heap.size ≤ i ∧ i < w4.heap.size := by
   intro i hi; simp at hi; exact hla i hi
 replace p := p.keep K8 (fun h => by have := hM _ h; omega) (fun h => by have := hM _ h; omega) (fun h => by have := hM _ h; omega); replace kM := kM.trans' K8 (fun i hi h => by have := hM i hi; omega); replace ac := K8.at ac (fun h => by have := hM _ h; omega); have z8 := K8.size; replace ck' := ((ck'.fit (Y := av.ownBlock.toList ++ av'.ownBlock.toList) (by
   intro i hi; simp only [List.mem_append, Option.mem_toList, Option.mem_def] at hi ⊢; rcases hi with h | h
   · exact .inr (.inl h)
   · rcases hg i h with h | h
     · exact .inr (.inl h)
     · exact .inr (.inr h))).fr K8 (fun i hi => .inr (.inl (by simp only [List.mem_append]; exact .inl hi)))).fit (Y := av'.ownBlock.toList) (fun i hi => .inr (.inl (by simp only [List.mem_append]; exact .inr hi)))
 refine ⟨_, fun w' _ => Nc.p _ w', ?_⟩; refine Xw.i _ (fun w' _ => by simp [go_sem] <;> trivial) ?_; refine U1.store (onesAll rfl ca'.sc) ac (by simp) fun w9 U9 => ?_; have zU9 := U9.size; replace kM := kM.trans' U9.keep (by simp <;> omega); replace p := p.keep U9.keep (by simp <;> omega) (by simp <;> omega) (by simp <;> omega); replace ac := U9.at_; simp only [List.set_cons_zero, List.set_cons_succ] at ac; subst hr; exact ⟨k, t, ts1, _, kv', av', rfl, ⟨_, p⟩, kM, ac, ck'.fr U9.keep (by simp; omega), ca'.fr U9.keep (by simp; omega)⟩
theorem pkT {w : World} {c d : Bool} {v : Value} (h : c = true → v = .bool d) : (Pk (.bool c) v (.bool false)).run Tryz.prog w = .ok (.bool (c && d)) w := by
 cases c with
 | false => simp [go_sem]
 | true => rw [h rfl]; simp [go_sem]
theorem ToksAt.two {w : World} {b o : Nat} {ts : List Tok} (h : ToksAt w b o ts) (hl : 1 < ts.length) : w.cell? ⟨b, o + 4, none⟩ = some (.int .i64 (hd (adv ts)).kind) ∧ w.cell? ⟨b, o + 5, none⟩ = some (str (hd (adv ts)).text) := by
 match ts, hl with
 | t :: u :: us, _ => exact ⟨h.2.1.1, h.2.1.2.1⟩
theorem ix73b {w : World} {b o n c : Nat} (h : 1 < n) : (Instr.indexAt 73 (.slice (some ⟨b, o, none⟩) n c) (.int .i64 1)).run Tryz.prog w = .ok (.pointer (some ⟨b, o + 4, none⟩)) w := by
 have : (1 : Int) < n := by omega
 simp [go_sem, this, h, Addr.add]
theorem g240 {m n : Nat} (ih : All m) (hn : n ≤ fuelMax) (hm : m ≤ n) {x : Psr} {r : Res} {deep : Int} {bc : Nat} {wb w : World} {ts : List Tok} {own : Bool} {ks ags : Tr} {kv av : Value} (hne : r ≠ .oof) (hdp : 0 ≤ deep ∧ deep ≤ 64)
   (lp : x.p < wb.heap.size) (p : PS w x ts deep own) (kM : Keep [x.p, bc] wb w) (hc : bc < wb.heap.size) (h5 : bc ≠ x.p) (h6 : bc ≠ x.bt) (h7 : bc ≠ x.bm) (h8 : x.bt < wb.heap.size) (h9 : x.bm < wb.heap.size)
   (ac : At w bc (tabV kv av)) (ck : Acc 41 wb.heap.size av.ownBlock.toList w kv ks) (ca : Acc 41 wb.heap.size kv.ownBlock.toList w av ags) (lk : len ks ≤ n) (la : len ags ≤ n) (hr : run (m + 1) .item deep ts = r) :
   Calls Tryz.prog 240 #[ptr x.p, ptr bc] w (Ret (fun _ w2 => ItemQ x bc wb deep r ks ags w2) (Er [x.p, bc] x wb r)) := by
 refine s240 ?_; unfold S240; simp only [run] at hr; have z0 := kM.size; refine J1.cut (fun v w' => ∃ ka k ts1 own1, v = .pointer ka ∧ PS w' x ts1 deep own1 ∧ Keep [x.p, bc] wb w' ∧ At w' bc (tabV kv av) ∧ Acc 41 wb.heap.size av.ownBlock.toList w' kv ks ∧ Acc 41 wb.heap.size kv.ownBlock.toList w' av ags ∧
   Rep (Fr wb.heap.size (kv.ownBlock.toList ++ av.ownBlock.toList)) w' k (.P (.pointer ka)) ∧ (run m (.expr 0) deep ts1).bind (fun a ts' _ => .ok (.cons k (.cons a .nil)) ts' false) = r) ?_ ?_
 rotate_left
 · rintro _ w' ⟨ka, k, ts1, own1, rfl, p, kM, ac, ck, ca, rk, hr⟩; exact b240 ih hn hm hne hdp lp p kM hc h5 h6 h7 h8 h9 ac ck ca lk la rk hr
 have hlk : ∀ g, kv.ownBlock = some g → wb.heap.size ≤ g ∧ g < w.heap.size := fun g hg => ck.lt hg; have hla : ∀ g, av.ownBlock = some g → wb.heap.size ≤ g ∧ g < w.heap.size := fun g hg => ca.lt hg; refine cf31 (d31 p) ?_ (NP.no (e := _)); rintro _ w2 ⟨rfl, K2⟩; have zK2 := K2.size; replace kM := kM.trans' K2 (by simp <;> omega); replace p := p.keep K2 (by simp <;> omega) (by simp <;> omega) (by simp <;> omega); replace ac := K2.at ac (by simp <;> omega); replace ck := ck.fr K2 (by simp <;> omega); replace ca := ca.fr K2 (by simp <;> omega); refine V1.new (al86 _) fun b3 w3 N3 => ?_; have gN3 := N3.ge; have lN3 := N3.lt; have zN3 := N3.keep.size; have a3 := N3.at_; try simp only [Value.cells, List.toList_toArray] at a3
 replace kM := N3.kp kM; replace p := p.new N3.keep; replace ac := N3.a ac; replace ck := ck.nw N3; replace ca := ca.nw N3; refine U1.tok (t := hd ts) a3 rfl fun w4 U4 => ?_; have z4 := U4.size; replace kM := kM.trans' U4.keep (by simp <;> omega); replace p := p.keep U4.keep (by simp <;> omega) (by simp <;> omega) (by simp <;> omega); replace ac := U4.keep.at ac (by simp <;> omega); replace ck := ck.fr U4.keep (by simp <;> omega); replace ca := ca.fr U4.keep (by simp <;> omega); have a3 := U4.at_; replace ck := ck.fit (Y := av.ownBlock.toList) (fun i hi => .inr (.inl (List.mem_cons_of_mem _ hi))); replace ca := ca.fit (Y := kv.ownBlock.toList) (fun i hi => .inr (.inl (List.mem_cons_of_mem _ hi))); refine V1.i (by simp [go_sem] <;> trivial) ?_
 refine V1.load (oneAll rfl) (a3) rfl ?_; refine V1.i (by simp [go_sem] <;> trivial) ?_; obtain ⟨o, c, h1, h2, h3⟩ := p.ex; refine J1.cut (fun v w' => w4 = w' ∧ (((hd ts).kind == 1) = true → v = .bool (decide (1 < ts.length)))) (Gd.b (fun hc => ?_) (fun hc => ?_)) ?_
 · unfold ptr at *; refine Up.i (Nc.p _ _) ?_; refine V1.i (by simp [go_sem] <;> trivial) ?_; refine V1.load (oneAll rfl) (h1) rfl ?_; refine V1.i (by simp [go_sem] <;> trivial) ?_; refine V1.i (by simp [go_sem] <;> trivial) ?_; exact ⟨rfl, fun _ => by simp; omega⟩
 · exact ⟨rfl, fun h => by rw [hc] at h; cases h⟩
 rintro v _ ⟨rfl, hv⟩; refine V1.i (pkT hv) ?_; refine J1.cut (fun v w' => w4 = w' ∧ (((hd ts).kind == 1 && decide (1 < ts.length)) = true → v = .bool ((hd (adv ts)).kind == 4))) (Gd.b (fun hc => ?_) (fun hc => ?_)) ?_
 · have hc2 : 1 < ts.length := by simp at hc; exact hc.2
   unfold ptr at *; refine Up.i (Nc.p _ _) ?_; refine V1.i (by simp [go_sem] <;> trivial) ?_; refine V1.load (oneAll rfl) (h1) rfl ?_; refine V1.i (ix73b hc2) ?_; refine V1.i (by simp [go_sem] <;> trivial) ?_; refine V1.i (one3 _ _ _ (h3.two hc2).1) ?_; refine V1.i (by simp [go_sem] <;> trivial) ?_; exact ⟨rfl, fun _ => rfl⟩
 · exact ⟨rfl, fun h => by rw [hc] at h; cases h⟩
 rintro v _ ⟨rfl, hv⟩; refine V1.i (pkT hv) ?_; refine J1.cut (fun v w' => w4 = w' ∧ (((hd ts).kind == 1 && decide (1 < ts.length) && (hd (adv ts)).kind == 4) = true → v = .bool ((hd (adv ts)).text == [61]))) (Gd.b (fun hc => ?_) (fun hc => ?_)) ?_
 · have hc2 : 1 < ts.length := by simp at hc; exact hc.1.2
   unfold ptr at *; refine Up.i (Nc.p _ _) ?_; refine V1.i (by simp [go_sem] <;> trivial) ?_; refine V1.load (oneAll rfl) (h1) rfl ?_; refine V1.i (ix73b hc2) ?_; refine V1.i (by simp [go_sem] <;> trivial) ?_; refine V1.i (one9 _ _ _ (h3.two hc2).2) ?_; refine V1.i (by simp [go_sem] <;> trivial) ?_; exact ⟨rfl, fun _ => rfl⟩
 · exact ⟨rfl, fun h => by rw [hc] at h; cases h⟩
 rintro v _ ⟨rfl, hv⟩; refine V1.i (pkT hv) ?_; refine If.b (fun hb => ?_) (fun hb => ?_)
 · have hcond : (hd ts).kind = 1 ∧ 1 < ts.length ∧ is1 [61] (adv ts) = true := by
     simp only [Bool.and_eq_true, beq_iff_eq, decide_eq_true_eq] at hb; refine ⟨hb.1.1.1, hb.1.1.2, ?_⟩; simp [is1, isB, hb.1.2, hb.2]
   rw [if_pos hcond] at hr; refine cf107 (d107 p) ?_ (NP.no (e := _)); rintro _ w5 ⟨rfl, p, K5⟩; have zK5 := K5.size; replace kM := kM.trans' K5 (by simp <;> omega); replace ac := K5.at ac (by simp <;> omega); replace a3 := K5.at a3 (by simp <;> omega); replace ck := ck.fr K5 (by simp <;> omega); replace ca := ca.fr K5 (by simp <;> omega); refine cf107 (d107 p) ?_ (NP.no (e := _)); rintro _ w6 ⟨rfl, p, K6⟩; have zK6 := K6.size; replace kM := kM.trans' K6 (by simp <;> omega); replace ac := K6.at ac (by simp <;> omega); replace a3 := K6.at a3 (by simp <;> omega); replace ck := ck.fr K6 (by simp <;> omega); replace ca := ca.fr K6 (by simp <;> omega); refine V1.i (by simp [go_sem] <;> trivial) ?_; refine V1.load (oneAll rfl) (a3) rfl ?_; refine V1.i (by simp [go_sem] <;> trivial) ?_; refine V1.load (oneAll rfl) (a3) rfl ?_; refine V1.i (by simp [go_sem] <;> trivial) ?_
   refine V1.new (bx47 _ _) fun b7 w7 N7 => ?_; have gN7 := N7.ge; have lN7 := N7.lt; have zN7 := N7.keep.size; have a7 := N7.at_; try simp only [Value.cells, List.toList_toArray] at a7
   replace kM := N7.kp kM; replace ac := N7.a ac; replace ck := ck.nw N7; replace ca := ca.nw N7; replace p := p.new N7.keep; refine ⟨_, lf 5 0 (hd ts).text, _, _, rfl, p, kM, ac, ck.fit (fun i hi => .inr (.inl (List.mem_cons_of_mem _ hi))), ca.fit (fun i hi => .inr (.inl (List.mem_cons_of_mem _ hi))), ⟨b7, _, _, _, _, _, _, _, rfl, ⟨by omega, ?_⟩, a7, rfl, rfl, .inl rfl, .inl rfl, .inl ⟨rfl, rfl⟩, .inl rfl⟩, hr⟩; simp only [List.mem_append, Option.mem_toList, Option.mem_def]; rintro (h | h)
   · have := hlk _ h; omega
   · have := hla _ h; omega
 have hcond : ¬ ((hd ts).kind = 1 ∧ 1 < ts.length ∧ is1 [61] (adv ts) = true) := by
   rintro ⟨h1, h2, h3⟩; simp only [is1, isB, Bool.and_eq_true, beq_iff_eq] at h3; simp [h1, h2, h3.1] at hb
   simp [hb] at h3
 rw [if_neg hcond] at hr; refine V1.newSlice (by simp [go_sem] <;> trivial) fun b5 w5 N5 => ?_; have gN5 := N5.ge; have lN5 := N5.lt; have zN5 := N5.keep.size; have a5 := N5.at_; try simp only [Value.cells, List.toList_toArray] at a5
 replace kM := N5.kp kM; replace ac := N5.a ac; replace ck := ck.nw N5; replace ca := ca.nw N5; replace p := p.new N5.keep; refine cf99 (d99s p a5) ?_ (NP.no (e := _)); rintro _ w6 ⟨rfl, K6⟩; have zK6 := K6.size; replace kM := kM.trans' K6 (by simp <;> omega); replace ac := K6.at ac (by simp <;> omega); replace ck := ck.fr K6 (by simp <;> omega); replace ca := ca.fr K6 (by simp <;> omega); replace p := p.keep K6 (by simp <;> omega) (by simp <;> omega) (by simp <;> omega); replace a5 := K6.at a5 (by simp <;> omega); replace ck := ck.fit (Y := av.ownBlock.toList) (fun i hi => .inr (.inl (List.mem_cons_of_mem _ hi))); replace ca := ca.fit (Y := kv.ownBlock.toList) (fun i hi => .inr (.inl (List.mem_cons_of_mem _ hi))); refine If.b (fun hb => ?_) (fun hb => ?_)
 · rw [if_pos hb] at hr; have q1 := p.ltt; refine cf200 (ih.bracket _ _ _ _ _ _ .nil none w6.heap.size p hdp (by omega) rfl (bind_ne hr hne) rfl (by omega) (by omega)) ?_ ?_; rotate_left
   · intro c w7 h; exact h.up hr kM (by simp)
   intro v w7 h; obtain ⟨t, ts1, o, hr1, r1, S1, ⟨o', -, p⟩, K7⟩ := h.out; rw [hr1, bind_ok] at hr; have zK7 := K7.size; replace kM := kM.trans' K7 (by simp <;> omega); replace ac := K7.at ac (by simp <;> omega); replace ck := ck.fr K7 (by simp <;> omega); replace ca := ca.fr K7 (by simp <;> omega)
   cases t with
   | ex ek en etx el er eks ea epr eb =>
     dsimp only at hr; obtain ⟨be, line, lv, rv, kv1, av1, pv, bv, rfl, hbe, ae, rl, rr, _⟩ := r1; obtain ⟨br, rfl, -, -⟩ := rr.kind S1; unfold ptr at *; refine Up.i (Nc.p _ _) ?_; refine V1.i (by simp [go_sem] <;> trivial) ?_; refine V1.load (oneAll rfl) (ae) rfl ?_; refine cf106 (d106 [61] p) ?_ ?_; rotate_left
     · intro c w8 hF; exact (Er.all hF hr).pre kM (by simp)
     rintro _ w8 ⟨hi, rfl, p, K8⟩; have zK8 := K8.size; replace kM := kM.trans' K8 (by simp <;> omega); replace ac := K8.at ac (by simp <;> omega); replace ck := ck.fr K8 (by simp <;> omega); replace ca := ca.fr K8 (by simp <;> omega); replace rr := rr.fr K8 (by simp <;> omega); rw [mustT_t hi] at hr; refine ⟨_, er, _, _, rfl, p, kM, ac, ck, ca, rr.fit (by omega) ?_, hr⟩; simp only [List.mem_append, Option.mem_toList, Option.mem_def]; rintro i (h | h)
     · have := hlk _ h; omega
     · have := hla _ h; omega
   | st => exact absurd S1 (by simp [idx])
   | nil => exact absurd S1 (by simp [idx])
   | hole => exact absurd S1 (by simp [idx])
   | cons => exact absurd S1 (by simp [idx])
 · rw [if_neg (by simp [hb])] at hr; exact ⟨none, .nil, _, _, rfl, p, kM, ac, ck, ca, rfl, hr⟩
end Go.Proofs.YtoddjlclpnoomaaGreatDoor

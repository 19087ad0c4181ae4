import Derived.Test.YtoddjlclpnoomaaGreatDoorV0
set_option linter.unusedVariables false
set_option linter.unusedSimpArgs false
set_option maxRecDepth 100000
namespace Go.Sh
variable {P : Program} {M : Dm} {n : Nat}
theorem dsts_cons (o : Oper) (l : List Oper) (t : Nat) : t ∈ o.dst.toList ++ dsts l → t ∈ dsts (o :: l) := by
 intro ht; rw [List.mem_append] at ht; unfold dsts at *
 cases hdst : o.dst with
 | none => rw [List.filterMap_cons_none hdst]; rcases ht with h' | h'; (simp [hdst] at h'); exact h'
 | some x => rw [List.filterMap_cons_some hdst]; rcases ht with h' | h'; (simp [hdst] at h'; simp [h']); exact List.mem_cons_of_mem _ h'
theorem stepQ_ok {C : World → Prop} {o : Oper} {ρ : Env} {a : Act} {k : Env → Prop} (h : stepQ P n C o ρ k) (ha : Ag n ρ a) :
   ∃ ρ' v, k ρ' ∧ Ag n ρ' (a.put o.dst v) ∧ ∀ w, C w → o.quietAt P a C w v := by
 unfold stepQ at h
 cases hc : (!isSelect o.op && (opL o.op).all ρ.knows) with
 | false => simp [hc] at h
 | true =>
   simp only [hc, cond_true] at h; simp only [Bool.and_eq_true, Bool.not_eq_true'] at hc; have he := execOp_den ha hc.1 hc.2; have fin : ∀ s : OpS, opS ρ.ev o = s → Xq P C s.toNext (fun v => putK n ρ o.dst v k) → ∃ ρ' v, k ρ' ∧ Ag n ρ' (a.put o.dst v) ∧ ∀ w, C w → o.quietAt P a C w v := by
     intro s hs hx; obtain ⟨v, h1, h2⟩ := hx; obtain ⟨ρ', h3, h4⟩ := putK_ok h2 ha; exact ⟨ρ', v, h3, h4, fun w hw => by unfold Oper.quietAt; rw [he, hs]; exact h1 w hw⟩
   cases hs : opS ρ.ev o with
   | now v =>
     rw [hs] at h; obtain ⟨ρ', h3, h4⟩ := putK_ok h ha; exact ⟨ρ', v, h3, h4, fun w hw => by unfold Oper.quietAt; rw [he, hs]; exact ⟨rfl, rfl⟩⟩
   | val s => rw [hs] at h; exact fin _ hs h
   | unit s => rw [hs] at h; exact fin _ hs h
   | nxt s => rw [hs] at h; exact fin _ hs h
   | call f args => rw [hs] at h; exact fin _ hs h
   | dfr s => rw [hs] at h; exact fin _ hs h
theorem stepLQ_wp {C : World → Prop} {ops : Array Oper} {rest : List Oper} {Q : Act → Prop} :
   ∀ (l : List Oper) (ρ : Env) (a : Act) (k : Env → Prop), stepLQ P n C l ρ k → Ag n ρ a →
   (∀ a', Fr (dsts l) a a' → ∀ o ∈ l, Region.wanted o (yielded ops a'.tmps) = true) →
   (∀ ρ' a', Ag n ρ' a' → a'.defers = a.defers → Fr (dsts l) a a' → k ρ' → wpQuiet P ops C Q rest a') → wpQuiet P ops C Q (l ++ rest) a
 | [], ρ, a, k, h, ha, _, hk => hk ρ a ha rfl (Fr.refl _ _) h
 | o :: l, ρ, a, k, h, ha, hw, hk => by
   obtain ⟨ρ', v, h1, h2, h3⟩ := stepQ_ok h ha; show (if Region.wanted o (yielded ops a.tmps) then _ else _)
   rw [if_pos (hw a (Fr.refl _ _) o (List.mem_cons_self ..))]; refine ⟨v, h3, stepLQ_wp l ρ' _ k h1 h2 (fun a'' hf' o' ho' => hw a'' (((Fr.put a o.dst v).trans hf').mono (dsts_cons o l)) o' (List.mem_cons_of_mem _ ho')) ?_⟩; intro ρ'' a'' ha'' hd'' hf' hk'; exact hk ρ'' a'' ha'' (by rw [hd'', defers_put]) (((Fr.put a o.dst v).trans hf').mono (dsts_cons o l)) hk'
theorem skipQ_wp {C : World → Prop} {ops : Array Oper} {rest : List Oper} {Q : Act → Prop} : ∀ (l : List Oper) (a : Act),
   (∀ a', Fr (dsts l) a a' → ∀ o ∈ l, Region.wanted o (yielded ops a'.tmps) = false) → wpQuiet P ops C Q rest (skip l a) → wpQuiet P ops C Q (l ++ rest) a
 | [], a, _, h => h
 | o :: l, a, hw, h => by
   show (if Region.wanted o (yielded ops a.tmps) then _ else _)
   rw [if_neg (by rw [hw a (Fr.refl _ _) o (List.mem_cons_self ..)]; simp)]; exact skipQ_wp l (a.put o.dst undef) (fun a' hf o' ho' => hw a' (((Fr.put a o.dst undef).trans hf).mono (dsts_cons o l)) o' (List.mem_cons_of_mem _ ho')) h
theorem denQ_wp {C : World → Prop} {l : List Oper} {lv : List Nat} {Q : Act → Prop} :
   ∀ (gs : List Grp) (ρ : Env) (a : Act) (k : Env → Prop), denQ P n C l lv gs ρ k → Ag n ρ a → (∀ g ∈ gs, ∀ o ∈ g.2, o.guard = g.1) →
   (∀ ρ' a', Ag n ρ' a' → a'.defers = a.defers → Fr (dsts (gs.flatMap (·.2))) a a' → k ρ' → Q a') → wpQuiet P l.toArray C Q (gs.flatMap (·.2)) a
 | [], ρ, a, k, h, ha, _, hk => hk ρ a ha rfl (Fr.refl _ _) h
 | (g, os) :: gs, ρ, a, k, h, ha, hg, hk => by
   have hsub : ∀ t, t ∈ dsts os ++ dsts (gs.flatMap (·.2)) → t ∈ dsts (((g, os) :: gs).flatMap (·.2)) := by
     intro t ht; simpa [dsts] using ht
   rw [List.flatMap_cons]
   cases g with
   | none =>
     refine stepLQ_wp os ρ a _ h ha ?_ ?_
     · intro a' _ o ho; have := hg _ (List.mem_cons_self ..) o ho; simp [Region.wanted, show o.guard = none from this]
     · intro ρ' a' ha' hd' hf hk'; refine denQ_wp gs ρ' a' k hk' ha' (fun g' hg' => hg g' (List.mem_cons_of_mem _ hg')) ?_; intro ρ'' a'' ha'' hd'' hf' hk''; exact hk ρ'' a'' ha'' (by rw [hd'', hd']) ((hf.trans hf').mono hsub) hk''
   | some jb =>
     obtain ⟨j, b⟩ := jb; unfold denQ at h
     cases ht : gdst l j with
     | none => rw [ht] at h; exact h.elim
     | some t =>
       rw [ht] at h; simp only [] at h; have ht' : ((l.toArray)[j]?).bind (·.dst) = some t := by rw [← gdst_eq]; exact ht
       cases hc : (ρ.has t && !(dsts os).contains t && (dsts os).all (fun s => Nat.blt s n)) with
       | false => rw [hc] at h; exact h.elim
       | true =>
         rw [hc] at h; simp only [cond_true] at h; simp only [Bool.and_eq_true, Bool.not_eq_true', List.all_eq_true] at hc; obtain ⟨⟨h1, h2⟩, h3⟩ := hc; have hnot : t ∉ dsts os := by simpa using h2
         have hlt : ∀ s ∈ dsts os, s < n := fun s hs => by have := h3 s hs; simpa [Nat.blt_eq] using this
         obtain ⟨K, hK1, hK2⟩ := h; have hval := (ha.at h1).2; have behind : ∀ (f : Nat → Value) (a' : Act), a'.tmps.size = n → a'.defers = a.defers → Fr (dsts os) a a' →
             (∀ s ∈ nub ((dsts os).filter (rdG gs ++ rdGuards l gs ++ lv).contains), a'.tmps[s]? = some (f s)) →
             K ((nub ((dsts os).filter (rdG gs ++ rdGuards l gs ++ lv).contains)).map f) → wpQuiet P l.toArray C Q (gs.flatMap (·.2)) a' := by
           intro f a' hs' hd' hf ho hk'; refine denQ_wp gs _ a' k (Eq.mp (frc_eq _ _) (hK1 _ hk')) (Ag.new f ha hs' hf ho) (fun g' hg' => hg g' (List.mem_cons_of_mem _ hg')) ?_; intro ρ'' a'' ha'' hd'' hf' hk''; exact hk ρ'' a'' ha'' (by rw [hd'', hd']) ((hf.trans hf').mono hsub) hk''
         unfold Gd at hK2; split at hK2
         · rename_i c hv
           rw [hv] at hval; by_cases hcb : c = b
           · refine stepLQ_wp os ρ a _ (hK2.1 hcb) ha ?_ ?_
             · intro a' hf o ho; rw [wanted_of (hg _ (List.mem_cons_self ..) o ho) ht' (by rw [hf t hnot]; exact hval), hcb]; simp
             · intro ρ' a' ha' hd' hf hk'; obtain ⟨g1, g2⟩ := toAll_ok hk'; exact behind ρ'.at a' ha'.size hd' hf (fun s hs => (ha'.at (g1 s hs)).2) g2
           · have hcb' : c = !b := by cases c <;> cases b <;> simp_all
             refine skipQ_wp os a ?_ ?_
             · intro a' hf o ho; rw [wanted_of (hg _ (List.mem_cons_self ..) o ho) ht' (by rw [hf t hnot]; exact hval)]; simpa using hcb
             · refine behind (fun _ => undef) (skip os a) (by rw [skip_size]; exact ha.size) (skip_defers os a) (skip_fr os a) ?_ (hK2.2 hcb'); intro s hs; have hm := (List.mem_filter.1 (mem_nub hs)).1; exact skip_at os a s hm (by rw [ha.size]; exact hlt s hm)
         · rename_i hv
           refine skipQ_wp os a ?_ ?_
           · intro a' hf o ho; exact wanted_no (hg _ (List.mem_cons_self ..) o ho) ht' (by rw [hf t hnot]; exact hval) hv
           · refine behind (fun _ => undef) (skip os a) (by rw [skip_size]; exact ha.size) (skip_defers os a) (skip_fr os a) ?_ hK2; intro s hs; have hm := (List.mem_filter.1 (mem_nub hs)).1; exact skip_at os a s hm (by rw [ha.size]; exact hlt s hm)
section
variable {Q : Exit → Act → World → Prop} {S : World → Prop}
def Asks (ps : List Nat) (l : List Oper) (S : World → Prop) (i : Nat) (w w' : World) : Prop :=
  match l[i]? with
  | some o => match stillO ps o with | true => S w → S w' | false => need l i = true → S w'
  | none => S w → S w'
def Any (P : Program) (ps : List Nat) (l : List Oper) (S : World → Prop) (Q : Exit → Act → World → Prop) : Nat → Array Bool → Act → World → Prop
  | 0, done, a, w => Region.ready .any l.toArray done = [] ∧ Q .normal a w
  | f + 1, done, a, w => (Region.ready .any l.toArray done = [] → Q .normal a w) ∧
    ∀ i ∈ Region.ready .any l.toArray done, wpOp P l.toArray Q i (fun a' w' => Asks ps l S i w w' ∧ Any P ps l S Q f (done.setIfInBounds i true) a' w') a w
theorem Any.wpAny {ps : List Nat} {l : List Oper} : ∀ (f : Nat) (done : Array Bool) (a : Act) (w : World), Any P ps l S Q f done a w → wpAny P .any l.toArray Q f done a w
  | 0, _, _, _, h => h
  | f + 1, _, _, _, h => ⟨h.1, fun i hi => wpOp_mono (fun a' w' h' => Any.wpAny f _ a' w' h'.2) (h.2 i hi)⟩
def Cl (ops : Array Oper) (done : Array Bool) : Prop := ∀ (j : Nat) (o : Oper), ops[j]? = some o → done.getD j false = true → ∀ e ∈ o.after, Region.binds .any e = true → done.getD e.on false = true
theorem Cl.set {ops : Array Oper} {done : Array Bool} (h : Cl ops done) {i : Nat} (hi : i ∈ Region.ready .any ops done) : Cl ops (done.setIfInBounds i true) := by
 intro j o hj hd e he hb; by_cases hji : i = j
 · subst hji; obtain ⟨_, o', ho', hall⟩ := mem_ready.1 hi; rw [hj] at ho'; cases ho'
   exact getD_set_true (hall e he hb)
 · rw [getD_set_ne false hji] at hd; exact getD_set_true (h j o hj hd e he hb)
def Hol (done : Array Bool) (o : Oper) (l : List Nat) : Prop := (∀ e ∈ o.after, Region.binds .any e = true → done.getD e.on false = true) → ∀ i ∈ l, done.getD i false = true
theorem ancSets_ok {ops : List Oper} {done : Array Bool} (hcl : Cl ops.toArray done) : ∀ (l pre : List Oper) (acc : List (List Nat)), ops = pre ++ l → acc.length = pre.length →
   (∀ j o, pre[j]? = some o → Hol done o (acc.getD j [])) → ∀ j o, ops[j]? = some o → Hol done o ((ancSets l acc).getD j [])
 | [], pre, acc, he, hlen, h, j, o, ho => by
   rw [List.append_nil] at he; subst he; exact h j o ho
 | x :: l, pre, acc, he, hlen, h, j, o, ho => by
   refine ancSets_ok hcl l (pre ++ [x]) _ (by rw [he]; simp) (by simp [hlen]) ?_ j o ho; intro j' o' ho'; rcases Nat.lt_or_ge j' pre.length with hlt | hge
   · rw [List.getElem?_append_left hlt] at ho'; have : (acc ++ [nub ((x.after.toList.filter bnd).flatMap fun e => e.on :: acc.getD e.on [])]).getD j' [] = acc.getD j' [] := by
       simp [List.getElem?_append_left (show j' < acc.length by rw [hlen]; exact hlt)]
     rw [this]; exact h j' o' ho'
   · have hj' : j' = pre.length := by
       rcases Nat.lt_or_ge j' (pre ++ [x]).length with h1 | h1
       · simp at h1; omega
       · rw [List.getElem?_eq_none h1] at ho'; cases ho'
     subst hj'; simp at ho'
     subst ho'; have : (acc ++ [nub ((x.after.toList.filter bnd).flatMap fun e => e.on :: acc.getD e.on [])]).getD pre.length [] = nub ((x.after.toList.filter bnd).flatMap fun e => e.on :: acc.getD e.on []) := by
       rw [← hlen]; simp
     rw [this]; intro hall i hi; obtain ⟨e, he', hie⟩ := List.mem_flatMap.1 (mem_nub hi); obtain ⟨he1, hb⟩ := List.mem_filter.1 he'; have hd := hall e (by simpa using he1) hb; rcases List.mem_cons.1 hie with rfl | hie
     · exact hd
     · cases hx : pre[e.on]? with
       | none =>
         have : acc.getD e.on [] = [] := by
           have : acc.length ≤ e.on := by
             rw [hlen]; rcases Nat.lt_or_ge e.on pre.length with h1 | h1
             · simp [h1] at hx
             · exact h1
           simp [List.getElem?_eq_none this]
         rw [this] at hie; cases hie
       | some p =>
         have hp : (ops.toArray)[e.on]? = some p := by
           have hl : e.on < pre.length := by
             rcases Nat.lt_or_ge e.on pre.length with h1 | h1
             · exact h1
             · rw [List.getElem?_eq_none h1] at hx; cases hx
           rw [List.getElem?_toArray, he, List.getElem?_append_left hl]; exact hx
         exact h e.on p hx (fun e' he'' hb' => hcl e.on p hp hd e' he'' hb') i hie
theorem anc_done {l : List Oper} {done : Array Bool} (hcl : Cl l.toArray done) {j i : Nat} {o : Oper} (hj : l[j]? = some o)
    (hall : ∀ e ∈ o.after, Region.binds .any e = true → done.getD e.on false = true) (h : anc l j i = true) : done.getD i false = true :=
  ancSets_ok hcl l [] [] rfl rfl (fun j o h => by simp at h) j o hj hall i (by unfold anc at h; simpa using h)
theorem lt_of_get {l : List Oper} {i : Nat} {o : Oper} (h : l[i]? = some o) : i < l.length := by
 rcases Nat.lt_or_ge i l.length with h' | h'
 · exact h'
 · rw [List.getElem?_eq_none h'] at h; cases h
theorem beq_false {i j : Nat} (h : i ≠ j) : Nat.beq i j = false := by
 cases hbb : Nat.beq i j with
 | false => rfl
 | true => exact absurd (Nat.eq_of_beq_eq_true hbb) h
theorem need_of {l : List Oper} {done : Array Bool} (hcl : Cl l.toArray done) {i j : Nat} {oi : Oper} (hi : l[i]? = some oi) (hr : readsOp oi.op = true) (hij : i ≠ j)
   (hun : done.getD i false = false) (hj : j ∈ Region.ready .any l.toArray done) : need l j = true := by
 unfold need; rw [List.any_eq_true]; refine ⟨i, List.mem_range.2 (lt_of_get hi), ?_⟩; obtain ⟨_, oj, hoj, hall⟩ := mem_ready.1 hj; have hna : anc l j i = false := by
   cases ha : anc l j i with
   | false => rfl
   | true => rw [anc_done hcl (by simpa using hoj) hall ha] at hun; cases hun
 simp [hi, hr, hna, beq_false hij]
theorem undone {done : Array Bool} {i : Nat} (h : done.getD i true = false) : done.getD i false = false := by
 rcases Nat.lt_or_ge i done.size with h' | h'
 · simp [h'] at h ⊢; exact h
 · simp [Array.getElem?_eq_none h']
theorem Any.first {ps : List Nat} {l : List Oper} {i : Nat} {oi : Oper} {v : Value} {T : World → Prop} (hi : l[i]? = some oi) (hst : stillO ps oi = true) (hT : ∀ w, (readsOp oi.op = true → S w) → T w)
   (hsel : ∀ (j : Nat) (o : Oper) cs b, l[j]? = some o → o.op ≠ .select cs b)
   (hQ : ∀ c a w, Q (.panic c) (a.put oi.dst v) w → Q (.panic c) a w) :
   ∀ (f : Nat) (done : Array Bool) (a : Act) (w : World), Cl l.toArray done →
     (∀ j oj, l[j]? = some oj → j ≠ i → done.getD j true = false → (∀ e ∈ oj.after, Region.binds .any e = true → e.on ≠ i) → oi.apart l.toArray oj = true) →
     i ∈ Region.ready .any l.toArray done → YieldsIf P l.toArray T oi v a → (readsOp oi.op = true → S w) →
     Any P ps l S Q f (done.setIfInBounds i true) (a.put oi.dst v) w → Any P ps l S Q (f + 1) done a w := by
 have hi' : (l.toArray)[i]? = some oi := by simpa using hi
 have hme : ∀ w, Asks ps l S i w w := fun w => by simp only [Asks, hi, hst]; exact id
 intro f; induction f with
 | zero =>
   intro done a w _ _ hr hy hS H; refine ⟨fun h => (by rw [h] at hr; cases hr), fun j hj => ?_⟩; by_cases hji : j = i
   · subst hji; exact hy.wpOp hi' (hT w hS) ⟨hme w, H⟩
   · have := ready_mono hj hji; rw [H.1] at this
     cases this
 | succ f ih =>
   intro done a w hcl hfree hr hy hS H; refine ⟨fun h => (by rw [h] at hr; cases hr), fun j hj => ?_⟩; by_cases hji : j = i
   · subst hji; exact hy.wpOp hi' (hT w hS) ⟨hme w, H⟩
   · have h1 := H.2 j (ready_mono hj hji); obtain ⟨hjun, oj, hoj, hall⟩ := mem_ready.1 hj; have hun := undone (mem_ready.1 hr).1; have hnot : ∀ e ∈ oj.after, Region.binds .any e = true → e.on ≠ i := fun e he hb heq => by
       have h1 := hall e he hb; rw [heq, hun] at h1; cases h1
     have hoj' : l[j]? = some oj := by simpa using hoj
     have h2 := wpOp_putIf hoj (hfree j oj hoj' hji hjun hnot) (fun cs b => hsel i oi cs b hi) (fun cs b => hsel j oj cs b hoj') hQ hy h1; have hfree' : ∀ k ok, l[k]? = some ok → k ≠ i → (done.setIfInBounds j true).getD k true = false →
         (∀ e ∈ ok.after, Region.binds .any e = true → e.on ≠ i) → oi.apart l.toArray ok = true := fun k ok hk hki hun' hno => by
       refine hfree k ok hk hki ?_ hno; by_cases hjk : j = k
       · subst hjk; exact hjun
       · rw [getD_set_ne true hjk] at hun'; exact hun'
     refine wpOp_mono (fun a' w' h3 => ⟨h3.2.1, ?_⟩) h2; have hS' : readsOp oi.op = true → S w' := fun hrd => by
       have h4 := h3.2.1; simp only [Asks, hoj'] at h4
       cases hso : stillO ps oj with
       | true => rw [hso] at h4; exact h4 (hS hrd)
       | false => rw [hso] at h4; exact h4 (need_of hcl hi hrd (Ne.symm hji) hun hj)
     refine ih (done.setIfInBounds j true) a' w' (hcl.set hj) hfree' (ready_mono hr (Ne.symm hji)) h3.1 hS' ?_; rw [Array.setIfInBounds_comm _ _ hji]; exact h3.2.2
def PI (rs : List Nat) (Q : Exit → Act → World → Prop) : Prop := ∀ c a w d v, d ∉ rs → Q (.panic c) (a.put (some d) v) w → Q (.panic c) a w
structure Dn (l : List Oper) (done : List Nat) (arr : Array Bool) : Prop where
  size : arr.size = l.length
  val : ∀ j, arr.getD j false = done.contains j
theorem Dn.set {l : List Oper} {done : List Nat} {arr : Array Bool} (h : Dn l done arr) {i : Nat} {o : Oper} (hi : l[i]? = some o) : Dn l (i :: done) (arr.setIfInBounds i true) where
 size := by simp [h.size]
 val := by
   intro j; have hlt := lt_of_get hi; by_cases hj : i = j
   · subst hj; simp [h.size, hlt]
   · rw [getD_set_ne false hj, h.val j, List.contains_cons]; have : (j == i) = false := by simp; exact fun e => hj e.symm
     simp [this]
theorem Dn.ready {l : List Oper} {done : List Nat} {arr : Array Bool} (h : Dn l done arr) (j : Nat) : j ∈ Region.ready .any l.toArray arr ↔ j ∈ rdy l done := by
 rw [mem_ready]; unfold rdy; simp only [List.mem_filter, List.mem_range, Bool.and_eq_true, Bool.not_eq_true']; constructor
 · rintro ⟨h1, o, ho, hall⟩; have ho' : l[j]? = some o := by simpa using ho
   refine ⟨lt_of_get ho', ?_, ?_⟩
   · rw [← h.val j]; exact undone h1
   · rw [ho']; simp only [List.all_eq_true, Bool.or_eq_true, Bool.not_eq_true']; intro e he
     cases hb : bnd e with
     | false => exact .inl rfl
     | true => right; rw [← h.val]; exact hall e (by simpa using he) hb
 · rintro ⟨h1, h2, h3⟩; rw [← h.val j] at h2; refine ⟨?_, ?_⟩
   · have : j < arr.size := by rw [h.size]; exact h1
     simp [this] at h2 ⊢; exact h2
   · cases ho : l[j]? with
     | none => rw [ho] at h3; cases h3
     | some o =>
       rw [ho] at h3; simp only [List.all_eq_true, Bool.or_eq_true, Bool.not_eq_true'] at h3; refine ⟨o, by simpa using ho, fun e he hb => ?_⟩; rcases h3 e (by simpa using he) with h' | h'
       · unfold bnd at h'; rw [hb] at h'; cases h'
       · rw [h.val]; exact h'
theorem apartL_apart {l : List Oper} {x y : Oper} (h : apartL l x y = true) : x.apart l.toArray y = true := by
 have look : ∀ (o : Oper) (d : Nat), (o.looksAt l.toArray).contains d = true → isSelect o.op = false →
     (looksL l o).contains d = true := by
   intro o d hd hs; unfold looksL; simp only [Oper.looksAt, List.contains_eq_mem, List.mem_append, List.mem_filterMap, decide_eq_true_eq] at hd ⊢; rcases hd with ⟨x, hx, hxd⟩ | hd
   · left
     unfold rdOp; rw [List.mem_flatMap]; refine ⟨x, opL_spec (fun cs b h => by rw [h] at hs; cases hs) (by simpa using hx), ?_⟩
     cases x <;> simp at hxd
     subst hxd; simp [tm]
   · right
     cases hg : o.guard with
     | none => rw [hg] at hd; cases hd
     | some p =>
       obtain ⟨g, b⟩ := p; rw [hg] at hd; simp only [gdst_eq] at hd ⊢; exact hd
 unfold apartL at h; simp only [Bool.and_eq_true, Bool.not_eq_true'] at h; obtain ⟨⟨⟨hx, hy⟩, h1⟩, h2⟩ := h; unfold Oper.apart; simp only [Bool.and_eq_true]; constructor
 · cases hd : x.dst with
   | none => rfl
   | some d =>
     rw [hd] at h1; simp only [Bool.and_eq_true, Bool.not_eq_true'] at h1 ⊢; refine ⟨?_, ?_⟩
     · cases hc : (y.looksAt l.toArray).contains d with
       | false => rfl
       | true => rw [look y d hc hy] at h1; cases h1.1
     · cases he : y.dst with
       | none => rfl
       | some e =>
         rw [he] at h1; have := h1.2; simp at this
         simp only [bne_iff_ne, ne_eq, Option.some.injEq]; exact fun h => this h.symm
 · cases hd : y.dst with
   | none => rfl
   | some d =>
     rw [hd] at h2; simp only [Bool.not_eq_true'] at h2 ⊢
     cases hc : (x.looksAt l.toArray).contains d with
     | false => rfl
     | true => rw [look x d hc hx] at h2; cases h2
theorem stepS_still {rs : List Nat} {l : List Oper} {i : Nat} {o : Oper} {done : List Nat} {arr : Array Bool} {a : Act} {w : World} {v : Value} {f : Nat} {T : World → Prop}
   (hPI : PI rs Q) (hi : l[i]? = some o) (hst : stillO rs o = true) (hok : (rdy l done).contains i = true)
   (hap : freeB rs l done i o = true)
   (hsel : ∀ (j : Nat) (o : Oper) cs b, l[j]? = some o → o.op ≠ .select cs b)
   (hT : ∀ w, (readsOp o.op = true → S w) → T w)
   (hdn : Dn l done arr) (hcl : Cl l.toArray arr) (hy : YieldsIf P l.toArray T o v a) (hS : readsOp o.op = true → S w)
   (h : Any P rs l S Q f (arr.setIfInBounds i true) (a.put o.dst v) w) : Any P rs l S Q (f + 1) arr a w := by
 unfold freeB at hap; simp only [Bool.and_eq_true] at hap; refine Any.first hi hst hT hsel ?_ f arr a w hcl ?_ ((hdn.ready i).2 (by simpa using hok)) hy hS h
 · intro c a' w' hq
   cases hd : o.dst with
   | none => rw [hd] at hq; exact hq
   | some d =>
     rw [hd] at hq; refine hPI c a' w' d v ?_ hq; have := hap.1; rw [hd] at this; simpa using this
 · intro j oj hj hji hun hno; have h2 := List.all_eq_true.1 hap.2 j (List.mem_range.2 (lt_of_get hj)); simp only [beq_false hji, hj, Bool.false_or, Bool.or_eq_true] at h2; rcases h2 with h2 | h2
   · rw [← hdn.val j, undone hun] at h2; cases h2
   · rcases h2 with h2 | h2
     · simp only [List.any_eq_true, Bool.and_eq_true] at h2; obtain ⟨e, he, hb, ho⟩ := h2; exact absurd (Nat.eq_of_beq_eq_true ho) (hno e (by simpa using he) hb)
     · exact apartL_apart h2
theorem okOrder_cons {rs : List Nat} {l : List Oper} {i : Nat} {is done : List Nat} (h : okOrder rs l (i :: is) done = true) :
   ∃ o, l[i]? = some o ∧ (rdy l done).contains i = true ∧ isSelect o.op = false ∧ okOrder rs l is (i :: done) = true ∧
     (stillO rs o = true → freeB rs l done i o = true) ∧
     (stillO rs o = false → rdy l done = [i]) := by
 unfold okOrder at h
 cases ho : l[i]? with
 | none => rw [ho] at h; cases h
 | some o =>
   rw [ho] at h; simp only [Bool.and_eq_true, Bool.not_eq_true'] at h; obtain ⟨⟨⟨h1, h2⟩, h3⟩, h4⟩ := h; refine ⟨o, rfl, h1, h2, h4, ?_, ?_⟩
   · intro hs; rw [hs] at h3; exact h3
   · intro hs; rw [hs] at h3
     cases hr : rdy l done with
     | nil => rw [hr] at h1; simp at h1
     | cons x xs =>
       rw [hr] at h3 h1
       cases xs with
       | nil => simp at h1; rw [h1]
       | cons _ _ => cases h3
theorem wpOp_act {l : List Oper} {i : Nat} {o : Oper} {a : Act} {w : World} {K : Act → World → Prop} (hi : l[i]? = some o)
   (hw : Region.wanted o (yielded l.toArray a.tmps) = true) (h : o.wp P a w K Q) : wpOp P l.toArray Q i K a w := by
 unfold wpOp; simp only [List.getElem?_toArray, hi, hw, if_true]; exact .inl h
theorem wpOp_no {l : List Oper} {i : Nat} {o : Oper} {a : Act} {w : World} {K : Act → World → Prop} (hi : l[i]? = some o)
   (hw : Region.wanted o (yielded l.toArray a.tmps) = false) (h : K (a.put o.dst undef) w) : wpOp P l.toArray Q i K a w := by
 unfold wpOp; simp only [List.getElem?_toArray, hi, hw, Bool.false_eq_true, if_false]; exact h
theorem Any.one {rs : List Nat} {l : List Oper} {i : Nat} {done : List Nat} {arr : Array Bool} {a : Act} {w : World} {f : Nat} (hdn : Dn l done arr) (hr : rdy l done = [i])
   (h : wpOp P l.toArray Q i (fun a' w' => Asks rs l S i w w' ∧ Any P rs l S Q f (arr.setIfInBounds i true) a' w') a w) : Any P rs l S Q (f + 1) arr a w := by
 have key : ∀ j, j ∈ Region.ready .any l.toArray arr ↔ j = i := fun j => by rw [hdn.ready j, hr]; simp
 refine ⟨fun h0 => ?_, fun j hj => ?_⟩
 · have := (key i).2 rfl; rw [h0] at this; cases this
 · rw [(key j).1 hj]; exact h
theorem stepLH_any {rs : List Nat} {l : List Oper} (hPI : PI rs Q) (hsel : ∀ (j : Nat) (o : Oper) cs b, l[j]? = some o → o.op ≠ .select cs b) {e : List PanicEntry → Env → M.D → World → Prop} :
   ∀ (is rest : List Nat) (f : Nat) (done : List Nat) (arr : Array Bool) (sk : Bool) (ρ : Env) (d : M.D) (w : World) (a : Act) (k : Env → M.D → World → Prop),
   stepLH P M n S rs l is sk ρ d w k e → Ag n ρ a → a.defers = M.get d → okOrder rs l (is ++ rest) done = true → Dn l done arr → Cl l.toArray arr → (sk = true → S w) →
   (∀ a', Fr (dsts (opsAt l is)) a a' → ∀ o ∈ opsAt l is, Region.wanted o (yielded l.toArray a'.tmps) = true) →
   (∀ ρ' d' w' a' done' arr', Ag n ρ' a' → a'.defers = M.get d' → Fr (dsts (opsAt l is)) a a' → Dn l done' arr' → Cl l.toArray arr' → okOrder rs l rest done' = true →
     (skL rs l is sk = true → S w') → k ρ' d' w' → Any P rs l S Q f arr' a' w') →
   (∀ c ρ' d' w' a', Ag n ρ' a' → a'.defers = M.get d' → Fr (dsts (opsAt l is)) a a' → e c ρ' d' w' → Q (.panic c) a' w') →
   Any P rs l S Q (is.length + f) arr a w
 | [], rest, f, done, arr, sk, ρ, d, w, a, k, h, ha, hd, hok, hdn, hcl, hS, hw, hk, he => by
   simpa using hk ρ d w a done arr ha hd (Fr.refl _ _) hdn hcl hok hS h
 | i :: is, rest, f, done, arr, sk, ρ, d, w, a, k, h, ha, hd, hok, hdn, hcl, hS, hw, hk, he => by
   obtain ⟨o, hi, hr, hse, hok', hstl, hact⟩ := okOrder_cons hok; have hops : opsAt l (i :: is) = o :: opsAt l is := by simp [opsAt, hi]
   rw [hops] at hw hk he; have hcl' : Cl l.toArray (arr.setIfInBounds i true) := hcl.set ((hdn.ready i).2 (by simpa using hr)); have hdn' := hdn.set hi; have hlen : (i :: is).length + f = (is.length + f) + 1 := by simp; omega
   rw [hlen]; unfold stepLH at h; rw [hi] at h; simp only [] at h
   cases hc : (sk || !readsOp o.op) with
   | false => rw [hc] at h; exact h.elim
   | true =>
     rw [hc] at h; simp only [cond_true] at h; have hSr : readsOp o.op = true → S w := fun hr => hS (by rw [hr] at hc; simpa using hc); have hwo := hw a (Fr.refl _ _) o (List.mem_cons_self ..); have next : ∀ (ρ' : Env) (d' : M.D) (w' : World) (a' : Act), Ag n ρ' a' → a'.defers = M.get d' → Fr o.dst.toList a a' → (nextK rs l i o sk = true → S w') →
         stepLH P M n S rs l is (nextK rs l i o sk) ρ' d' w' k e → Any P rs l S Q (is.length + f) (arr.setIfInBounds i true) a' w' := by
       intro ρ' d' w' a' ha' hd' hf hs' h'; refine stepLH_any hPI hsel is rest f (i :: done) _ _ ρ' d' w' a' k h' ha' hd' hok' hdn' hcl' hs' ?_ ?_ ?_
       · intro a'' hf' o' ho'; exact hw a'' ((hf.trans hf').mono (dsts_cons o _)) o' (List.mem_cons_of_mem _ ho')
       · intro ρ'' d'' w'' a'' done'' arr'' ha'' hd'' hf' hdn'' hcl'' hok'' hs'' hk''; refine hk ρ'' d'' w'' a'' done'' arr'' ha'' hd'' ((hf.trans hf').mono (dsts_cons o _)) hdn'' hcl'' hok'' ?_ hk''; intro hsk; refine hs'' ?_
         unfold skL at hsk; rw [hi] at hsk; exact hsk
       · intro c ρ'' d'' w'' a'' ha'' hd'' hf' h''; exact he c ρ'' d'' w'' a'' ha'' hd'' ((hf.trans hf').mono (dsts_cons o _)) h''
     unfold stepH at h
     cases hst : stillO rs o with
     | true =>
       rw [hst] at h; simp only [] at h; have hnk : nextK rs l i o sk = sk := by unfold nextK; rw [hst]
       cases hkn : (opL o.op).all ρ.knows with
       | false => rw [hkn] at h; exact h.elim
       | true =>
         rw [hkn] at h; simp only [cond_true] at h; have hexe := execOp_den ha hse hkn; have fin : ∀ (v : Value) (T : World → Prop), (∀ w, (readsOp o.op = true → S w) → T w) → (∀ w, T w → (execOp a.eval o).run P w = .ok (.value v) w) →
             putK n ρ o.dst v (fun ρ => stepLH P M n S rs l is (nextK rs l i o sk) ρ d w k e) → Any P rs l S Q ((is.length + f) + 1) arr a w := by
           intro v T hT hv hp; obtain ⟨ρ', h1, h2⟩ := putK_ok hp ha; refine stepS_still hPI hi hst hr (hstl hst) hsel hT hdn hcl (.inl ⟨hwo, hv⟩) hSr ?_; exact next ρ' d w _ h2 (by rw [defers_put, hd]) (Fr.put a o.dst v) (by rw [hnk]; exact hS) h1
         have fins : ∀ s : OpS, opS ρ.ev o = s → (match readsOp o.op with
             | true => Xs P S s.toNext fun v => putK n ρ o.dst v fun ρ => stepLH P M n S rs l is (nextK rs l i o sk) ρ d w k e
             | false => Xs P (fun _ => True) s.toNext fun v => putK n ρ o.dst v fun ρ => stepLH P M n S rs l is (nextK rs l i o sk) ρ d w k e) → Any P rs l S Q ((is.length + f) + 1) arr a w := by
           intro s hs hx
           cases hrd : readsOp o.op with
           | true =>
             rw [hrd] at hx; obtain ⟨v, h1, h2⟩ := hx; exact fin v S (fun w h => h hrd) (fun w hw => by rw [hexe, hs]; exact h1 w hw) h2
           | false =>
             rw [hrd] at hx; obtain ⟨v, h1, h2⟩ := hx; exact fin v (fun _ => True) (fun _ _ => trivial) (fun w hw => by rw [hexe, hs]; exact h1 w hw) h2
         cases hs : opS ρ.ev o with
         | now v => rw [hs] at h; exact fin v (fun _ => True) (fun _ _ => trivial) (fun w _ => by rw [hexe, hs]; rfl) h
         | val s => rw [hs] at h; exact fins _ hs h
         | unit s => rw [hs] at h; exact fins _ hs h
         | nxt s => rw [hs] at h; exact fins _ hs h
         | call g args => rw [hs] at h; exact fins _ hs h
         | dfr s => rw [hs] at h; exact fins _ hs h
     | false =>
       rw [hst] at h; simp only [] at h; refine Any.one hdn (hact hst) (wpOp_act hi hwo ?_)
       cases hnd : need l i with
       | true =>
         rw [hnd] at h; simp only [] at h; refine stepO_wp h ha hd (fun ρ' d' w' a' ha' hd' hf hk' => ⟨?_, ?_⟩) (fun c w' h' => he c ρ d w' a ha hd (Fr.refl _ _) h')
         · simp only [Asks, hi, hst]; exact fun _ => hk'.1
         · exact next ρ' d' w' a' ha' hd' hf (fun _ => hk'.1) hk'.2
       | false =>
         rw [hnd] at h; simp only [] at h; refine stepO_wp h ha hd (fun ρ' d' w' a' ha' hd' hf hk' => ⟨?_, ?_⟩) (fun c w' h' => he c ρ d w' a ha hd (Fr.refl _ _) h')
         · simp only [Asks, hi, hst, hnd]; exact fun h => by cases h
         · exact next ρ' d' w' a' ha' hd' hf (fun h => by unfold nextK at h; rw [hst, hnd] at h; cases h) hk'
theorem skipH_any {rs : List Nat} {l : List Oper} (hPI : PI rs Q) (hsel : ∀ (j : Nat) (o : Oper) cs b, l[j]? = some o → o.op ≠ .select cs b) :
   ∀ (is rest : List Nat) (f : Nat) (done : List Nat) (arr : Array Bool) (w : World) (a : Act) (hS : S w ∨ (∀ i ∈ is, ∀ o, l[i]? = some o → readsOp o.op = false ∧ (stillO rs o = true ∨ need l i = false))),
   okOrder rs l (is ++ rest) done = true → Dn l done arr → Cl l.toArray arr →
   (∀ a', Fr (dsts (opsAt l is)) a a' → ∀ o ∈ opsAt l is, Region.wanted o (yielded l.toArray a'.tmps) = false) →
   (∀ done' arr', Dn l done' arr' → Cl l.toArray arr' → okOrder rs l rest done' = true → Any P rs l S Q f arr' (skip (opsAt l is) a) w) →
   Any P rs l S Q (is.length + f) arr a w
 | [], rest, f, done, arr, w, a, hS, hok, hdn, hcl, hw, hk => by simpa [opsAt, skip] using hk done arr hdn hcl hok
 | i :: is, rest, f, done, arr, w, a, hS, hok, hdn, hcl, hw, hk => by
   obtain ⟨o, hi, hr, hse, hok', hstl, hact⟩ := okOrder_cons hok; have hops : opsAt l (i :: is) = o :: opsAt l is := by simp [opsAt, hi]
   rw [hops] at hw hk; have hcl' : Cl l.toArray (arr.setIfInBounds i true) := hcl.set ((hdn.ready i).2 (by simpa using hr)); have hdn' := hdn.set hi; have hlen : (i :: is).length + f = (is.length + f) + 1 := by simp; omega
   rw [hlen]; have hwo := hw a (Fr.refl _ _) o (List.mem_cons_self ..); have next : Any P rs l S Q (is.length + f) (arr.setIfInBounds i true) (a.put o.dst undef) w := by
     refine skipH_any hPI hsel is rest f (i :: done) _ w _ (hS.imp id fun h j hj => h j (List.mem_cons_of_mem _ hj)) hok' hdn' hcl' ?_ ?_
     · intro a'' hf' o' ho'; exact hw a'' (((Fr.put a o.dst undef).trans hf').mono (dsts_cons o _)) o' (List.mem_cons_of_mem _ ho')
     · exact hk
   cases hst : stillO rs o with
   | true =>
     refine stepS_still (T := fun w => readsOp o.op = true → S w) hPI hi hst hr (hstl hst) hsel (fun _ h => h) hdn hcl (.inr ⟨hwo, rfl⟩) (fun hrd => ?_) next; rcases hS with h | h
     · exact h
     · rw [(h i (List.mem_cons_self ..) o hi).1] at hrd; cases hrd
   | false =>
     refine Any.one hdn (hact hst) (wpOp_no hi hwo ⟨?_, next⟩); simp only [Asks, hi, hst]; intro hnd; rcases hS with h | h
     · exact h
     · rcases (h i (List.mem_cons_self ..) o hi).2 with h' | h'
       · rw [hst] at h'; cases h'
       · rw [hnd] at h'; cases h'
end
theorem frcL_eq : ∀ (l : List Nat) (k : List Nat → Bool), frcL l k = k l
  | [], _ => rfl
  | p :: l, k => frcL_eq l fun l' => k (p :: l')
theorem frcR_eq : ∀ (l : List Row) (k : List Row → Bool), frcR l k = k l
 | [], _ => rfl
 | (a, b, c) :: l, k => by
   unfold frcR; simp only [frcL_eq]; exact frcR_eq l fun l' => k ((a, b, c) :: l')
theorem mem1_iff (d : Nat) : ∀ l : List Nat, mem1 d l = true ↔ d ∈ l
 | [] => by simp [mem1]
 | a :: l => by
   unfold mem1
   cases h : Nat.beq d a with
   | true => simp [Nat.eq_of_beq_eq_true h]
   | false => simp only [List.mem_cons, mem1_iff d l]; simp [Nat.ne_of_beq_eq_false h]
theorem meet_iff : ∀ (l m : List Nat), meet l m = true ↔ ∃ a, a ∈ l ∧ a ∈ m
 | [], m => by simp [meet]
 | a :: l, m => by
   unfold meet
   cases h : mem1 a m with
   | true => simp only [true_iff]; exact ⟨a, by simp, (mem1_iff a m).1 h⟩
   | false =>
     simp only [meet_iff l m, List.mem_cons]; have h' : a ∉ m := fun hm => by rw [(mem1_iff a m).2 hm] at h; cases h
     constructor
     · rintro ⟨b, h1, h2⟩; exact ⟨b, .inr h1, h2⟩
     · rintro ⟨b, rfl | h1, h2⟩
       · exact absurd h2 h'
       · exact ⟨b, h1, h2⟩
theorem apR_apart {l : List Oper} {x y : Oper} (hx : isSelect x.op = false) (hy : isSelect y.op = false) (h : apR (rowOf l x) (rowOf l y) = true) : x.apart l.toArray y = true := by
 apply apartL_apart
 unfold apR at h; split at h
 · cases h
 · rename_i h1
   split at h
   · cases h
   · rename_i h2
     replace h1 : meet x.dst.toList (looksL l y) = false := by cases h0 : meet x.dst.toList (looksL l y) with | false => rfl | true => exact absurd (h1.symm.trans h0) (by simp)
     replace h2 : meet x.dst.toList y.dst.toList = false := by cases h0 : meet x.dst.toList y.dst.toList with | false => rfl | true => exact absurd (h2.symm.trans h0) (by simp)
     replace h : (!meet y.dst.toList (looksL l x)) = true := h; have n1 : ¬ ∃ a, a ∈ x.dst.toList ∧ a ∈ looksL l y := fun e => by rw [(meet_iff _ _).2 e] at h1; cases h1
     have n2 : ¬ ∃ a, a ∈ x.dst.toList ∧ a ∈ y.dst.toList := fun e => by rw [(meet_iff _ _).2 e] at h2; cases h2
     have n3 : ¬ ∃ a, a ∈ y.dst.toList ∧ a ∈ looksL l x := fun e => by rw [(meet_iff _ _).2 e] at h; cases h
     unfold apartL; simp only [hx, hy, Bool.not_false, Bool.true_and, Bool.and_eq_true]; constructor
     · cases hd : x.dst with
       | none => rfl
       | some d =>
         simp only [Bool.and_eq_true, Bool.not_eq_true']; constructor
         · rw [List.contains_eq_mem]; exact decide_eq_false fun hm => n1 ⟨d, by simp [hd], hm⟩
         · rw [List.contains_eq_mem]; exact decide_eq_false fun hm => n2 ⟨d, by simp [hd], hm⟩
     · cases hd : y.dst with
       | none => rfl
       | some d =>
         simp only [Bool.not_eq_true']; rw [List.contains_eq_mem]; exact decide_eq_false fun hm => n3 ⟨d, by simp [hd], hm⟩
theorem lexR1_spec {k : Nat} {r : Row} : ∀ {l : List Row}, lexR1 k r l = true → ∀ s ∈ l, k ∈ s.2.2 ∨ apR r s = true
 | [], _, s, hs => by cases hs
 | t :: l, h, s, hs => by
   unfold lexR1 at h; split at h
   · rename_i h1
     rcases List.mem_cons.1 hs with rfl | hs
     · exact .inl ((mem1_iff _ _).1 h1)
     · exact lexR1_spec h s hs
   · split at h
     · rename_i h2
       rcases List.mem_cons.1 hs with rfl | hs
       · exact .inr h2
       · exact lexR1_spec h s hs
     · cases h
theorem allLt_spec {k : Nat} : ∀ {l : List Nat}, allLt k l = true → ∀ a ∈ l, a < k
 | [], _, a, ha => by cases ha
 | b :: l, h, a, ha => by
   unfold allLt at h; split at h
   · rename_i h1
     rcases List.mem_cons.1 ha with rfl | ha
     · exact Nat.le_of_ble_eq_true h1
     · exact allLt_spec h a ha
   · cases h
theorem lexR_from {l : List Oper} (hs : ∀ o ∈ l, isSelect o.op = false) : ∀ (fuel k : Nat) (arr : Array Bool), k + fuel = l.length → arr.size = l.length → (∀ j, j < l.length → arr[j]? = some (decide (j < k))) →
   lexR k ((l.drop k).map (rowOf l)) = true → Region.lexFrom .any l.toArray fuel k arr = true := by
 intro fuel; induction fuel with
 | zero =>
   intro k arr hk hz ha _; simp only [Region.lexFrom, Region.ready, List.isEmpty_iff, List.filter_eq_nil_iff, List.mem_range]; intro i hi; have hi : i < l.length := by simpa using hi
   have : arr.getD i true = true := by rw [Array.getD_eq_getD_getElem?, ha i hi]; simp; omega
   simp [this]
 | succ fuel ih =>
   intro k arr hk hz ha h; have hlt : k < l.length := by omega
   rw [List.drop_eq_getElem_cons hlt, List.map_cons] at h; unfold lexR at h; split at h
   · cases h
   · rename_i h1
     split at h
     · cases h
     · rename_i h2
       have hk0 : arr.getD k true = false := by rw [Array.getD_eq_getD_getElem?, ha k hlt]; simp
       simp only [Region.lexFrom, Bool.and_eq_true]; refine ⟨⟨?_, ?_⟩, ?_⟩
       · rw [List.contains_eq_mem, decide_eq_true_eq]; unfold Region.ready; rw [List.mem_filter]; refine ⟨by simpa using hlt, ?_⟩; simp only [hk0, Bool.not_false, Bool.true_and, List.getElem?_toArray, hlt, List.getElem?_eq_getElem, Option.map_some, Option.getD_some]; rw [Array.all_eq_true_iff_forall_mem]; intro e he
         cases hb : Region.binds .any e with
         | false => rfl
         | true =>
           have hlt2 : e.on < k := allLt_spec h1 e.on (List.mem_map.2 ⟨e, List.mem_filter.2 ⟨by simpa using he, hb⟩, rfl⟩); simp only [Bool.not_true, Bool.false_or]; rw [Array.getD_eq_getD_getElem?, ha e.on (by omega)]; simp [hlt2]
       · unfold Region.free; simp only [List.getElem?_toArray, hlt, List.getElem?_eq_getElem]; rw [List.all_eq_true]; intro j hj; have hj' : j < l.length := by simpa using hj
         rcases Nat.lt_trichotomy j k with hjk | hjk | hjk
         · have : arr.getD j true = true := by rw [Array.getD_eq_getD_getElem?, ha j hj']; simp [hjk]
           simp [this]
         · simp [hjk]
         · have hm : rowOf l l[j] ∈ (l.drop (k + 1)).map (rowOf l) := List.mem_map.2 ⟨l[j], List.mem_drop_iff_getElem.2 ⟨j - (k + 1), by omega, by congr 1; omega⟩, rfl⟩; simp only [hj', List.getElem?_eq_getElem, Bool.or_eq_true]; right
           rcases lexR1_spec h2 _ hm with h3 | h3
           · left
             obtain ⟨e, he, rfl⟩ := List.mem_map.1 h3; obtain ⟨he1, he2⟩ := List.mem_filter.1 he; rw [Array.any_eq_true']; exact ⟨e, by simpa using he1, by simpa [bnd] using he2⟩
           · right
             exact apR_apart (hs _ (List.getElem_mem _)) (hs _ (List.getElem_mem _)) h3
       · refine ih (k + 1) _ (by omega) (by simpa using hz) ?_ h; intro j hj; by_cases hjk : k = j
         · subst hjk; simp [hz, hj]
         · rw [Array.getElem?_setIfInBounds_ne hjk, ha j hj]; congr 1
           simp only [decide_eq_decide]; omega
theorem lexL_lexB {l : List Oper} (h : lexL l = true) : Region.lexB .any l.toArray = true := by
 unfold lexL at h; split at h
 · cases h
 · rename_i h1
   rw [frcR_eq] at h; have hs : ∀ o ∈ l, isSelect o.op = false := fun o ho => by
     have := List.all_eq_true.1 h1 o ho; simpa using this
   unfold Region.lexB; rw [Bool.and_eq_true]; constructor
   · unfold Region.noSelect; rw [Array.all_eq_true_iff_forall_mem]; intro o ho; have := hs o (by simpa using ho); unfold isSelect at this; split at this
     · cases this
     · rename_i h2
       split
       · rename_i h3; exact absurd h3 (h2 _ _)
       · rfl
   · exact lexR_from hs l.length 0 _ (by simp) (by simp) (fun j hj => by simp [hj]) (by simpa using h)
end Go.Sh


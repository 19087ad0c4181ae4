import Derived.Test.YtoddjlclpnoomaaGreatDoorV1
set_option linter.unusedVariables false
set_option linter.unusedSimpArgs false
set_option maxRecDepth 100000
namespace Go.Sh
variable {P : Program} {M : Dm} {n : Nat}
theorem groupsH_ok {l : List Oper} : ∀ (is : List Nat), (∀ i ∈ is, ∃ o, l[i]? = some o) → (groupsH l is).flatMap (·.2) = is ∧ ∀ g ∈ groupsH l is, ∀ i ∈ g.2, ∀ o, l[i]? = some o → o.guard = g.1
 | [], _ => ⟨rfl, fun _ h => by cases h⟩
 | i :: is, hall => by
   obtain ⟨h1, h2⟩ := groupsH_ok is fun j hj => hall j (List.mem_cons_of_mem _ hj); obtain ⟨o, ho⟩ := hall i (List.mem_cons_self ..); unfold groupsH; rw [ho]; simp only []
   cases hg : groupsH l is with
   | nil =>
     rw [hg] at h1; simp only [List.flatMap_nil] at h1; subst h1; refine ⟨rfl, fun g hg j hj o' ho' => ?_⟩; simp at hg; subst hg; simp at hj; subst hj; rw [ho] at ho'; cases ho'; rfl
   | cons p gs =>
     obtain ⟨g, os⟩ := p; rw [hg] at h1 h2; simp only []
     cases hs : sameG o.guard g with
     | true =>
       refine ⟨by simpa using h1, fun q hq j hj o' ho' => ?_⟩; rcases List.mem_cons.1 hq with rfl | hq
       · rcases List.mem_cons.1 hj with rfl | hj
         · rw [ho] at ho'; cases ho'; exact sameG_eq hs
         · exact h2 _ (List.mem_cons_self ..) j hj o' ho'
       · exact h2 q (List.mem_cons_of_mem _ hq) j hj o' ho'
     | false =>
       refine ⟨by simpa using h1, fun q hq j hj o' ho' => ?_⟩; rcases List.mem_cons.1 hq with rfl | hq
       · simp at hj; subst hj; rw [ho] at ho'; cases ho'; rfl
       · exact h2 q hq j hj o' ho'
theorem cond_prop {b : Bool} {p : Prop} (h : cond b p False) : b = true ∧ p := by
 cases b with
 | false => exact h.elim
 | true => exact ⟨rfl, h⟩
theorem order_length (rs : List Nat) (l : List Oper) : ∀ (f : Nat) (done : List Nat), (order rs l f done).length ≤ f
 | 0, _ => by simp [order]
 | f + 1, done => by
   unfold order; simp only []; split
   · simp only [List.length_cons]; exact Nat.succ_le_succ (order_length rs l f _)
   · split
     · simp
     · simp only [List.length_cons]; exact Nat.succ_le_succ (order_length rs l f _)
theorem opsAt_mem {l : List Oper} {is : List Nat} {o : Oper} (h : o ∈ opsAt l is) : ∃ i ∈ is, l[i]? = some o := by
 unfold opsAt at h; obtain ⟨i, hi, ho⟩ := List.mem_filterMap.1 h; exact ⟨i, hi, ho⟩
theorem opsAt_append (l : List Oper) (a b : List Nat) : opsAt l (a ++ b) = opsAt l a ++ opsAt l b := by simp [opsAt]
section
variable {Q : Exit → Act → World → Prop} {S : World → Prop}
theorem denH_any {rs : List Nat} {l : List Oper} {lv : List Nat} (hPI : PI rs Q) (hsel : ∀ (j : Nat) (o : Oper) cs b, l[j]? = some o → o.op ≠ .select cs b) {e : List PanicEntry → Env → M.D → World → Prop} :
   ∀ (gs : List GrpH) (f : Nat) (done : List Nat) (arr : Array Bool) (sk : Bool) (ρ : Env) (d : M.D) (w : World) (a : Act) (k : Env → M.D → World → Prop),
   denH P M n S rs l lv gs sk ρ d w k e → Ag n ρ a → a.defers = M.get d → okOrder rs l (gs.flatMap (·.2)) done = true → Dn l done arr → Cl l.toArray arr → (sk = true → S w) →
   (∀ g ∈ gs, ∀ i ∈ g.2, ∀ o, l[i]? = some o → o.guard = g.1) →
   (∀ ρ' d' w' a', Ag n ρ' a' → a'.defers = M.get d' → Fr (dsts (opsAt l (gs.flatMap (·.2)))) a a' → k ρ' d' w' → Q .normal a' w') →
   (∀ c ρ' d' w' a', Ag n ρ' a' → a'.defers = M.get d' → Fr (dsts (opsAt l (gs.flatMap (·.2)))) a a' → e c ρ' d' w' → Q (.panic c) a' w') →
   Any P rs l S Q ((gs.flatMap (·.2)).length + f) arr a w
 | [], f, done, arr, sk, ρ, d, w, a, k, h, ha, hd, hok, hdn, hcl, hS, hg, hk, he => by
   have hq := hk ρ d w a ha hd (Fr.refl _ _) h; have hr : Region.ready .any l.toArray arr = [] := by
     unfold okOrder at hok
     cases hc : rdy l done with
     | cons x xs => simp [hc] at hok
     | nil =>
       cases hcr : Region.ready .any l.toArray arr with
       | nil => rfl
       | cons x xs =>
         have := (hdn.ready x).1 (by rw [hcr]; exact List.mem_cons_self ..); rw [hc] at this; cases this
   cases f with
   | zero => exact ⟨hr, hq⟩
   | succ f => exact ⟨fun _ => hq, fun i hi => by simp only [Nat.add_eq] at *; rw [hr] at hi; cases hi⟩
 | (g, is) :: gs, f, done, arr, sk, ρ, d, w, a, k, h, ha, hd, hok, hdn, hcl, hS, hg, hk, he => by
   have hfl : ((g, is) :: gs).flatMap (·.2) = is ++ gs.flatMap (·.2) := by simp
   rw [hfl] at hok hk he ⊢; rw [opsAt_append] at hk he; have hsub : ∀ t, t ∈ dsts (opsAt l is) ++ dsts (opsAt l (gs.flatMap (·.2))) → t ∈ dsts (opsAt l is ++ opsAt l (gs.flatMap (·.2))) := by
     intro t ht; simpa [dsts] using ht
   have hsub1 : ∀ t, t ∈ dsts (opsAt l is) → t ∈ dsts (opsAt l is ++ opsAt l (gs.flatMap (·.2))) := fun t ht => hsub t (List.mem_append_left _ ht); have hlen : (is ++ gs.flatMap (·.2)).length + f = is.length + ((gs.flatMap (·.2)).length + f) := by simp; omega
   rw [hlen]
   cases g with
   | none =>
     refine stepLH_any hPI hsel is _ _ done arr sk ρ d w a _ h ha hd hok hdn hcl hS ?_ ?_ ?_
     · intro a' _ o ho; obtain ⟨i, hi, ho'⟩ := opsAt_mem ho; have := hg _ (List.mem_cons_self ..) i hi o ho'; simp [Region.wanted, show o.guard = none from this]
     · intro ρ' d' w' a' done' arr' ha' hd' hf hdn' hcl' hok' hS' hk'; refine denH_any hPI hsel gs f done' arr' _ ρ' d' w' a' k hk' ha' hd' hok' hdn' hcl' hS' (fun g' hg' => hg g' (List.mem_cons_of_mem _ hg')) ?_ ?_
       · intro ρ'' d'' w'' a'' ha'' hd'' hf' hk''; exact hk ρ'' d'' w'' a'' ha'' hd'' ((hf.trans hf').mono hsub) hk''
       · intro c ρ'' d'' w'' a'' ha'' hd'' hf' h'; exact he c ρ'' d'' w'' a'' ha'' hd'' ((hf.trans hf').mono hsub) h'
     · intro c ρ' d' w' a' ha' hd' hf h'; exact he c ρ' d' w' a' ha' hd' (hf.mono hsub1) h'
   | some jb =>
     obtain ⟨j, b⟩ := jb; unfold denH at h
     cases ht : gdst l j with
     | none => rw [ht] at h; exact h.elim
     | some t =>
       rw [ht] at h; simp only [] at h; have ht' : ((l.toArray)[j]?).bind (·.dst) = some t := by rw [← gdst_eq]; exact ht
       obtain ⟨hc, h⟩ := cond_prop h; simp only [Bool.and_eq_true, Bool.not_eq_true', List.all_eq_true, Bool.or_eq_true] at hc; obtain ⟨⟨⟨h1, h2⟩, h3⟩, h4⟩ := hc; have hnot : t ∉ dsts (opsAt l is) := by simpa using h2
       have hlt : ∀ s ∈ dsts (opsAt l is), s < n := fun s hs => by have := h3 s hs; simpa [Nat.blt_eq] using this
       obtain ⟨K, hK1, hK2⟩ := h; have hval := (ha.at h1).2; have behind : ∀ (f' : Nat → Value) (d' : M.D) (w' : World) (a' : Act) (done' : List Nat) (arr' : Array Bool), a'.tmps.size = n → a'.defers = M.get d' → Fr (dsts (opsAt l is)) a a' →
           Dn l done' arr' → Cl l.toArray arr' → okOrder rs l (gs.flatMap (·.2)) done' = true → ((sk && skL rs l is sk) = true → S w') →
           (∀ s ∈ nub ((dsts (opsAt l is)).filter (rdG (toG l gs) ++ rdGuards l (toG l gs) ++ lv).contains), a'.tmps[s]? = some (f' s)) →
           K ((nub ((dsts (opsAt l is)).filter (rdG (toG l gs) ++ rdGuards l (toG l gs) ++ lv).contains)).map f') d' w' → Any P rs l S Q ((gs.flatMap (·.2)).length + f) arr' a' w' := by
         intro f' d' w' a' done' arr' hs' hd' hf hdn' hcl' hok' hS' ho hk'; refine denH_any hPI hsel gs f done' arr' _ _ d' w' a' k (Eq.mp (frc_eq _ _) (hK1 _ _ _ hk')) (Ag.new f' ha hs' hf ho) hd' hok' hdn' hcl' hS' (fun g' hg' => hg g' (List.mem_cons_of_mem _ hg')) ?_ ?_
         · intro ρ'' d'' w'' a'' ha'' hd'' hf' hk''; exact hk ρ'' d'' w'' a'' ha'' hd'' ((hf.trans hf').mono hsub) hk''
         · intro c ρ'' d'' w'' a'' ha'' hd'' hf' h'; exact he c ρ'' d'' w'' a'' ha'' hd'' ((hf.trans hf').mono hsub) h'
       unfold Gd at hK2; split at hK2
       · rename_i c hv
         rw [hv] at hval; by_cases hcb : c = b
         · refine stepLH_any hPI hsel is _ _ done arr sk ρ d w a _ (hK2.1 hcb) ha hd hok hdn hcl hS ?_ ?_ ?_
           · intro a' hf o ho; obtain ⟨i, hi, ho'⟩ := opsAt_mem ho; rw [wanted_of (hg _ (List.mem_cons_self ..) i hi o ho') ht' (by rw [hf t hnot]; exact hval), hcb]; simp
           · intro ρ' d' w' a' done' arr' ha' hd' hf hdn' hcl' hok' hS' hk'; obtain ⟨g1, g2⟩ := toAll_ok hk'; exact behind ρ'.at d' w' a' done' arr' ha'.size hd' hf hdn' hcl' hok' (fun h => hS' (by simp only [Bool.and_eq_true] at h; exact h.2)) (fun s hs => (ha'.at (g1 s hs)).2) g2
           · intro c ρ' d' w' a' ha' hd' hf h'; exact he c ρ' d' w' a' ha' hd' (hf.mono hsub1) h'
         · have hcb' : c = !b := by cases c <;> cases b <;> simp_all
           refine skipH_any hPI hsel is _ _ done arr w a ?_ hok hdn hcl ?_ ?_
           · rcases h4 with h4 | h4
             · exact .inl (hS h4)
             · refine .inr fun i hi o ho => ?_; have h5 := h4 i hi; rw [ho] at h5; simpa using h5
           · intro a' hf o ho; obtain ⟨i, hi, ho'⟩ := opsAt_mem ho; rw [wanted_of (hg _ (List.mem_cons_self ..) i hi o ho') ht' (by rw [hf t hnot]; exact hval)]; simpa using hcb
           · intro done' arr' hdn' hcl' hok'; refine behind (fun _ => undef) d w (skip (opsAt l is) a) done' arr' (by rw [skip_size]; exact ha.size) (by rw [skip_defers]; exact hd) (skip_fr _ a) hdn' hcl' hok' (fun h => hS (by simp only [Bool.and_eq_true] at h; exact h.1)) ?_ (hK2.2 hcb'); intro s hs; have hm := (List.mem_filter.1 (mem_nub hs)).1; exact skip_at _ a s hm (by rw [ha.size]; exact hlt s hm)
       · rename_i hv
         refine skipH_any hPI hsel is _ _ done arr w a ?_ hok hdn hcl ?_ ?_
         · rcases h4 with h4 | h4
           · exact .inl (hS h4)
           · refine .inr fun i hi o ho => ?_; have h5 := h4 i hi; rw [ho] at h5; simpa using h5
         · intro a' hf o ho; obtain ⟨i, hi, ho'⟩ := opsAt_mem ho; exact wanted_no (hg _ (List.mem_cons_self ..) i hi o ho') ht' (by rw [hf t hnot]; exact hval) hv
         · intro done' arr' hdn' hcl' hok'; refine behind (fun _ => undef) d w (skip (opsAt l is) a) done' arr' (by rw [skip_size]; exact ha.size) (by rw [skip_defers]; exact hd) (skip_fr _ a) hdn' hcl' hok' (fun h => hS (by simp only [Bool.and_eq_true] at h; exact h.1)) ?_ hK2; intro s hs; have hm := (List.mem_filter.1 (mem_nub hs)).1; exact skip_at _ a s hm (by rw [ha.size]; exact hlt s hm)
theorem okOrder_mem {rs : List Nat} {l : List Oper} : ∀ (is done : List Nat), okOrder rs l is done = true → ∀ i ∈ is, ∃ o, l[i]? = some o ∧ isSelect o.op = false
 | [], _, _, _, h => by cases h
 | i :: is, done, h, j, hj => by
   obtain ⟨o, h1, _, h3, h4, _⟩ := okOrder_cons h; rcases List.mem_cons.1 hj with rfl | hj
   · exact ⟨o, h1, h3⟩
   · exact okOrder_mem is _ h4 j hj
structure Ok (M : Dm) (n : Nat) (K : Ks M) (Q : Exit → Act → World → Prop) (W : List Nat) (a₀ : Act) : Prop where
  nxt : ∀ ρ d w a, Ag n ρ a → a.defers = M.get d → Fr W a₀ a → K.nxt ρ d w → Q .normal a w
  ext : ∀ i ρ d w a, Ag n ρ a → a.defers = M.get d → Fr W a₀ a → K.ext i ρ d w → Q (.exit i) a w
  gto : ∀ i ρ d w a, Ag n ρ a → a.defers = M.get d → Fr W a₀ a → K.gto i ρ d w → Q (.goto i) a w
  ret : ∀ ρ d w a, Ag n ρ a → a.defers = M.get d → Fr W a₀ a → K.ret ρ d w → Q .ret a w
  pan : ∀ c ρ d w a, Ag n ρ a → a.defers = M.get d → Fr W a₀ a → K.pan c ρ d w → Q (.panic c) a w
theorem denR_wp {hd rs : List Nat} {id : Nat} {ops : Array Oper} {draw : Bool} {lv : List Nat} {ρ : Env} {d : M.D} {w : World} {a : Act}
   {k : Env → M.D → World → Prop} {e : List PanicEntry → Env → M.D → World → Prop} (hm : P.follows .mixedOrders = true) (hPI : PI rs Q)
   (h : denR P M n hd rs id ops.toList draw lv ρ d w k e) (ha : Ag n ρ a) (hdf : a.defers = M.get d)
   (hk : ∀ ρ' d' w' a', Ag n ρ' a' → a'.defers = M.get d' → Fr (dsts ops.toList) a a' → k ρ' d' w' → Q .normal a' w')
   (he : ∀ c ρ' d' w' a', Ag n ρ' a' → a'.defers = M.get d' → Fr (dsts ops.toList) a a' → e c ρ' d' w' → Q (.panic c) a' w') :
   (Code.region id ops draw).wp P Q a w := by
 unfold denR at h
 cases draw with
 | false =>
   simp only [] at h; obtain ⟨h1, h2⟩ := groups_ok ops.toList; refine wp_region ?_; have h3 := denG_wp (groups ops.toList) ρ d w a k h ha hdf h2 (by rw [h1]; exact hk) (by rw [h1]; exact he); rw [h1] at h3; have h4 := wpOps_eq_wpList (P := P) (ops := ops) (Q := Q) ops.toList 0 (fun j => by simp); rw [List.range_eq_range']; have h5 : List.range' 0 ops.size = List.range' 0 ops.toList.length := by simp
   rw [h5, h4]; simpa using h3
 | true =>
   simp only [] at h
   cases hc : hd.contains id with
   | false =>
     rw [hc] at h; simp only [] at h; obtain ⟨hB, h⟩ := cond_prop h; obtain ⟨C, hC, hq⟩ := h; obtain ⟨h1, h2⟩ := groups_ok ops.toList; refine wp_region_quiet (C := C) hm (by simpa using lexL_lexB hB) hC ?_; have h3 := denQ_wp (P := P) (C := C) (Q := fun a' => ∀ w', C w' → Q .normal a' w') (groups ops.toList) ρ a _ hq ha h2 (by
       rw [h1]; intro ρ' a' ha' hd' hf hk' w' hw'; exact hk ρ' d w' a' ha' (by rw [hd', hdf]) hf (hk' w' hw'))
     rw [h1] at h3; simpa using h3
   | true =>
     rw [hc] at h; simp only [] at h; obtain ⟨hok, h⟩ := cond_prop h; simp only [Bool.and_eq_true] at hok; obtain ⟨hok, hnosel⟩ := hok; obtain ⟨S, hS, hq⟩ := h; have hmem := okOrder_mem _ _ hok; obtain ⟨h1, h2⟩ := groupsH_ok (l := ops.toList) (order rs ops.toList ops.toList.length []) fun i hi => let ⟨o, ho, _⟩ := hmem i hi; ⟨o, ho⟩
     refine wp_region_any hm ?_; have hall : ∀ (j : Nat) (o : Oper) cs b, ops.toList[j]? = some o → o.op ≠ .select cs b := by
       intro j o cs b ho h; have := List.all_eq_true.1 hnosel o (List.mem_of_getElem? ho); rw [h] at this; cases this
     have hcl0 : Cl ops.toList.toArray (Array.replicate ops.size false) := by
       intro j o _ hd; exfalso
       simp [Array.getElem?_replicate] at hd
       split at hd <;> simp at hd
     have hsub : ∀ t, t ∈ dsts (opsAt ops.toList ((groupsH ops.toList (order rs ops.toList ops.toList.length [])).flatMap (·.2))) → t ∈ dsts ops.toList := by
       intro t ht; unfold dsts at *; obtain ⟨o, ho, hod⟩ := List.mem_filterMap.1 ht; obtain ⟨i, _, hi⟩ := opsAt_mem ho; exact List.mem_filterMap.2 ⟨o, List.mem_of_getElem? hi, hod⟩
     have h3 := denH_any (P := P) (S := S) (rs := rs) (Q := Q) (e := e) hPI hall (groupsH ops.toList (order rs ops.toList ops.toList.length [])) (ops.size - (order rs ops.toList ops.toList.length []).length) []
       (Array.replicate ops.size false) true ρ d w.drew a k hq ha hdf (by rw [h1]; exact hok) ⟨by simp, fun j => by
         simp only [List.contains_nil]
         cases hx : (Array.replicate ops.size false).getD j false with
         | false => rfl
         | true => simp [Array.getElem?_replicate] at hx; split at hx <;> simp at hx⟩ hcl0 (fun _ => hS) h2
       (fun ρ' d' w' a' ha' hd' hf hk' => hk ρ' d' w' a' ha' hd' (hf.mono hsub) hk') (fun c ρ' d' w' a' ha' hd' hf h' => he c ρ' d' w' a' ha' hd' (hf.mono hsub) h')
     have hlen := order_length rs ops.toList ops.toList.length []; rw [h1] at h3; have hsz : (order rs ops.toList ops.toList.length []).length + (ops.size - (order rs ops.toList ops.toList.length []).length) = ops.size := by
       simp only [Array.length_toList] at hlen ⊢; omega
     rw [hsz] at h3; have h4 := Any.wpAny _ _ _ _ h3; simpa using h4
theorem PI.then {rs : List Nat} {nx : Act → World → Prop} (h : PI rs Q) : PI rs (Exit.then nx Q) := fun c a w d v hd hq => h c a w d v hd hq
theorem PI.block {rs : List Nat} {id : Nat} (h : PI rs Q) : PI rs (Exit.inBlock id Q) := fun c a w d v hd hq => h c a w d v hd hq
theorem PI.noGoto {rs : List Nat} (h : PI rs Q) : PI rs (Exit.noGoto Q) := fun c a w d v hd hq => h c a w d v hd hq
theorem PI.jump {rs : List Nat} {l : Nat} {J : Act → World → Prop} (h : PI rs Q) : PI rs (Exit.jump l J Q) := fun c a w d v hd hq => h c a w d v hd hq
end
theorem Ag.outs {ρ : Env} {a : Act} (h : Ag n ρ a) {outs : List Nat} (ho : ∀ t ∈ outs, ρ.has t = true) : outs.map (fun t => a.tmps.getD t undef) = outs.map ρ.at :=
  List.map_congr_left fun t ht => (h.at (ho t ht)).1
theorem hasL_some {x : Nat} : ∀ (c : Code) (rest : Code), findLabel c x = some rest → hasL x c = true
 | .seq a b, rest, h => by
   unfold findLabel at h; unfold hasL
   cases ha : findLabel a x with
   | some r => rw [hasL_some a r ha]; rfl
   | none => rw [ha] at h; rw [hasL_some b rest h]; simp
 | .label k, rest, h => by
   unfold findLabel at h; split at h
   · rename_i hk; unfold hasL; simp at hk; rw [hk]; exact Nat.beq_refl x
   · cases h
 | .skip, _, h => by cases h
 | .region .., _, h => by cases h
 | .cond .., _, h => by cases h
 | .block .., _, h => by cases h
 | .loop .., _, h => by cases h
 | .rangeFunc .., _, h => by cases h
 | .exit .., _, h => by cases h
 | .scope .., _, h => by cases h
 | .goto .., _, h => by cases h
 | .ret, _, h => by cases h
 | .refuse .., _, h => by cases h
theorem findLabel_none {x : Nat} : ∀ (c : Code), findLabel c x = none → hasL x c = false
 | .seq a b, h => by
   unfold findLabel at h; unfold hasL
   cases ha : findLabel a x with
   | some r => rw [ha] at h; cases h
   | none => rw [ha] at h; rw [findLabel_none a ha, findLabel_none b h]; rfl
 | .label k, h => by
   unfold findLabel at h; split at h
   · cases h
   · rename_i hk; unfold hasL
     exact beq_false (by simpa using hk)
 | .skip, h => rfl
 | .region .., h => rfl
 | .cond .., h => rfl
 | .block .., h => rfl
 | .loop .., h => rfl
 | .rangeFunc .., h => rfl
 | .exit .., h => rfl
 | .scope .., h => rfl
 | .goto .., h => rfl
 | .ret, h => rfl
 | .refuse .., h => rfl
theorem label?_find : ∀ (c : Code) (y : Nat), label? c = some y → ∃ rest, findLabel c y = some rest
 | .seq a b, y, h => by
   unfold label? at h; unfold findLabel
   cases ha : findLabel a y with
   | some r => exact ⟨_, rfl⟩
   | none =>
     cases hl : label? a with
     | some z =>
       rw [hl] at h; simp at h; subst h
       obtain ⟨r, hr⟩ := label?_find a z hl; rw [ha] at hr; cases hr
     | none =>
       rw [hl] at h; exact label?_find b y (by simpa using h)
 | .label l, y, h => by cases h; exact ⟨.skip, by simp [findLabel]⟩
 | .skip, _, h => by cases h
 | .region .., _, h => by cases h
 | .cond .., _, h => by cases h
 | .block .., _, h => by cases h
 | .loop .., _, h => by cases h
 | .rangeFunc .., _, h => by cases h
 | .exit .., _, h => by cases h
 | .scope .., _, h => by cases h
 | .goto .., _, h => by cases h
 | .ret, _, h => by cases h
 | .refuse .., _, h => by cases h
def codeOf (c : Code) : Option Nat → Option Code
  | none => some c
  | some x => findLabel c x
set_option maxHeartbeats 1000000 in
theorem den_wp {hd ps rs : List Nat} (hm : P.follows .mixedOrders = true) : ∀ (c : Code) (fr : Option Nat) (lv : List Nat) (ρ : Env) (d : M.D) (w : World) (K : Ks M) (a : Act) (Q : Exit → Act → World → Prop) (c' : Code),
    codeOf c fr = some c' → den P M n hd ps rs c fr lv ρ d w K → Ag n ρ a → a.defers = M.get d → PI ps Q → Ok M n K Q (wr c) a → c'.wp P Q a w := by
  intro c; induction c with
  | skip =>
    intro fr lv ρ d w K a Q c' hc h ha hdf hPI hK
    cases fr with
    | none => cases hc; exact wp_skip (hK.nxt ρ d w a ha hdf (Fr.refl _ _) h)
    | some x => cases hc
  | label l =>
    intro fr lv ρ d w K a Q c' hc h ha hdf hPI hK
    cases fr with
    | none => cases hc; exact wp_label (hK.nxt ρ d w a ha hdf (Fr.refl _ _) h)
    | some x =>
      simp only [codeOf, findLabel] at hc; split at hc
      · cases hc; exact wp_skip (hK.nxt ρ d w a ha hdf (Fr.refl _ _) h)
      · cases hc
  | region id ops draw =>
    intro fr lv ρ d w K a Q c' hc h ha hdf hPI hK
    cases fr with
    | none => cases hc; exact denR_wp hm hPI h ha hdf hK.nxt hK.pan
    | some x => cases hc
  | seq x y ihx ihy =>
    intro fr lv ρ d w K a Q c' hc h ha hdf hPI hK; have sub2 : ∀ {a₁ a₂ : Act}, Fr (wr x) a a₁ → Fr (wr y) a₁ a₂ → Fr (wr (.seq x y)) a a₂ := fun h1 h2 => h1.trans h2; have sub1 : ∀ {a₁ : Act}, Fr (wr x) a a₁ → Fr (wr (.seq x y)) a a₁ := fun h1 => h1.mono fun t ht => List.mem_append_left _ ht; have suby : ∀ {a₁ : Act}, Fr (wr y) a a₁ → Fr (wr (.seq x y)) a a₁ := fun h1 => h1.mono fun t ht => List.mem_append_right _ ht; have behind : ∀ (ρ' : Env) (d' : M.D) (w' : World) (a' : Act), Ag n ρ' a' → a'.defers = M.get d' → Fr (wr x) a a' → den P M n hd ps rs y none lv ρ' d' w' K → y.wp P Q a' w' := by
      intro ρ' d' w' a' ha' hd' hf h'; refine ihy none lv ρ' d' w' K a' Q y rfl h' ha' hd' hPI ⟨?_, ?_, ?_, ?_, ?_⟩
      · intro ρ'' d'' w'' a'' ha'' hd'' hf' hk; exact hK.nxt ρ'' d'' w'' a'' ha'' hd'' (sub2 hf hf') hk
      · intro i ρ'' d'' w'' a'' ha'' hd'' hf' hk; exact hK.ext i ρ'' d'' w'' a'' ha'' hd'' (sub2 hf hf') hk
      · intro i ρ'' d'' w'' a'' ha'' hd'' hf' hk; exact hK.gto i ρ'' d'' w'' a'' ha'' hd'' (sub2 hf hf') hk
      · intro ρ'' d'' w'' a'' ha'' hd'' hf' hk; exact hK.ret ρ'' d'' w'' a'' ha'' hd'' (sub2 hf hf') hk
      · intro c ρ'' d'' w'' a'' ha'' hd'' hf' hk; exact hK.pan c ρ'' d'' w'' a'' ha'' hd'' (sub2 hf hf') hk
    have okx : ∀ (nx : Env → M.D → World → Prop) (T : Act → World → Prop), (∀ ρ d w a', Ag n ρ a' → a'.defers = M.get d → Fr (wr x) a a' → nx ρ d w → T a' w) →
        Ok M n { K with nxt := nx } (Exit.then T Q) (wr x) a := by
      intro nx T hT; refine ⟨hT, ?_, ?_, ?_, ?_⟩
      · intro i ρ'' d'' w'' a'' ha'' hd'' hf' hk; exact hK.ext i ρ'' d'' w'' a'' ha'' hd'' (sub1 hf') hk
      · intro i ρ'' d'' w'' a'' ha'' hd'' hf' hk; exact hK.gto i ρ'' d'' w'' a'' ha'' hd'' (sub1 hf') hk
      · intro ρ'' d'' w'' a'' ha'' hd'' hf' hk; exact hK.ret ρ'' d'' w'' a'' ha'' hd'' (sub1 hf') hk
      · intro c ρ'' d'' w'' a'' ha'' hd'' hf' hk; exact hK.pan c ρ'' d'' w'' a'' ha'' hd'' (sub1 hf') hk
    cases fr with
    | none =>
      cases hc
      unfold den at h; refine wp_seq ?_
      cases hfk : forks x with
      | true =>
        rw [hfk] at h; obtain ⟨J, hJ1, hJ2⟩ := h; refine ihx none _ ρ d w _ a (Exit.then (y.wp P Q) Q) x rfl hJ2 ha hdf hPI.then (okx _ _ ?_)
        intro ρ' d' w' a' ha' hd' hf hk; obtain ⟨g1, g2⟩ := toAll_ok hk; exact behind _ d' w' a' (Ag.new ρ'.at ha ha'.size hf fun t ht => (ha'.at (g1 t ht)).2) hd' hf (hJ1 _ _ _ g2)
      | false =>
        rw [hfk] at h; refine ihx none _ ρ d w _ a (Exit.then (y.wp P Q) Q) x rfl h ha hdf hPI.then (okx _ _ ?_)
        intro ρ' d' w' a' ha' hd' hf hk; exact behind ρ' d' w' a' ha' hd' hf hk
    | some l =>
      unfold den at h; simp only [codeOf, findLabel] at hc
      cases hx : findLabel x l with
      | some r =>
        rw [hx] at hc
        cases hc
        rw [hasL_some x r hx] at h; refine wp_seq ?_; refine ihx (some l) _ ρ d w _ a (Exit.then (y.wp P Q) Q) r hx h ha hdf hPI.then (okx _ _ ?_)
        intro ρ' d' w' a' ha' hd' hf hk; exact behind ρ' d' w' a' ha' hd' hf hk
      | none =>
        rw [hx] at hc; rw [findLabel_none x hx] at h; refine ihy (some l) lv ρ d w K a Q c' hc h ha hdf hPI ⟨?_, ?_, ?_, ?_, ?_⟩
        · intro ρ'' d'' w'' a'' ha'' hd'' hf' hk; exact hK.nxt ρ'' d'' w'' a'' ha'' hd'' (suby hf') hk
        · intro i ρ'' d'' w'' a'' ha'' hd'' hf' hk; exact hK.ext i ρ'' d'' w'' a'' ha'' hd'' (suby hf') hk
        · intro i ρ'' d'' w'' a'' ha'' hd'' hf' hk; exact hK.gto i ρ'' d'' w'' a'' ha'' hd'' (suby hf') hk
        · intro ρ'' d'' w'' a'' ha'' hd'' hf' hk; exact hK.ret ρ'' d'' w'' a'' ha'' hd'' (suby hf') hk
        · intro c ρ'' d'' w'' a'' ha'' hd'' hf' hk; exact hK.pan c ρ'' d'' w'' a'' ha'' hd'' (suby hf') hk
  | cond c x y ihx ihy =>
    intro fr lv ρ d w K a Q c' hc h ha hdf hPI hK
    cases fr with
    | some l => cases hc
    | none =>
      cases hc
      unfold den at h; obtain ⟨hkn, h⟩ := cond_prop h; have hev := ha.ev hkn; unfold If at h; split at h
      · rename_i b hb
        rw [hb] at hev; refine wp_cond_split hev (fun hb => ?_) (fun hb => ?_)
        · refine ihx none lv ρ d w K a Q x rfl (h.1 hb) ha hdf hPI ⟨?_, ?_, ?_, ?_, ?_⟩
          · intro ρ'' d'' w'' a'' ha'' hd'' hf' hk; exact hK.nxt ρ'' d'' w'' a'' ha'' hd'' (hf'.mono fun t ht => List.mem_append_left _ ht) hk
          · intro i ρ'' d'' w'' a'' ha'' hd'' hf' hk; exact hK.ext i ρ'' d'' w'' a'' ha'' hd'' (hf'.mono fun t ht => List.mem_append_left _ ht) hk
          · intro i ρ'' d'' w'' a'' ha'' hd'' hf' hk; exact hK.gto i ρ'' d'' w'' a'' ha'' hd'' (hf'.mono fun t ht => List.mem_append_left _ ht) hk
          · intro ρ'' d'' w'' a'' ha'' hd'' hf' hk; exact hK.ret ρ'' d'' w'' a'' ha'' hd'' (hf'.mono fun t ht => List.mem_append_left _ ht) hk
          · intro c ρ'' d'' w'' a'' ha'' hd'' hf' hk; exact hK.pan c ρ'' d'' w'' a'' ha'' hd'' (hf'.mono fun t ht => List.mem_append_left _ ht) hk
        · refine ihy none lv ρ d w K a Q y rfl (h.2 hb) ha hdf hPI ⟨?_, ?_, ?_, ?_, ?_⟩
          · intro ρ'' d'' w'' a'' ha'' hd'' hf' hk; exact hK.nxt ρ'' d'' w'' a'' ha'' hd'' (hf'.mono fun t ht => List.mem_append_right _ ht) hk
          · intro i ρ'' d'' w'' a'' ha'' hd'' hf' hk; exact hK.ext i ρ'' d'' w'' a'' ha'' hd'' (hf'.mono fun t ht => List.mem_append_right _ ht) hk
          · intro i ρ'' d'' w'' a'' ha'' hd'' hf' hk; exact hK.gto i ρ'' d'' w'' a'' ha'' hd'' (hf'.mono fun t ht => List.mem_append_right _ ht) hk
          · intro ρ'' d'' w'' a'' ha'' hd'' hf' hk; exact hK.ret ρ'' d'' w'' a'' ha'' hd'' (hf'.mono fun t ht => List.mem_append_right _ ht) hk
          · intro c ρ'' d'' w'' a'' ha'' hd'' hf' hk; exact hK.pan c ρ'' d'' w'' a'' ha'' hd'' (hf'.mono fun t ht => List.mem_append_right _ ht) hk
      · exact h.elim
  | block id x ih =>
    intro fr lv ρ d w K a Q c' hc h ha hdf hPI hK
    cases fr with
    | some l => cases hc
    | none =>
      cases hc
      unfold den at h; refine wp_block (ih none lv ρ d w _ a (Exit.inBlock id Q) x rfl h ha hdf hPI.block ⟨hK.nxt, ?_, hK.gto, hK.ret, hK.pan⟩); intro i ρ'' d'' w'' a'' ha'' hd'' hf' hk; simp only [Exit.inBlock]
      cases hb : Nat.beq i id with
      | true =>
        simp only [hb] at hk; rw [if_pos (Nat.eq_of_beq_eq_true hb)]; exact hK.nxt ρ'' d'' w'' a'' ha'' hd'' hf' hk
      | false =>
        simp only [hb] at hk; rw [if_neg (fun e => by rw [e, Nat.beq_refl] at hb; cases hb)]; exact hK.ext i ρ'' d'' w'' a'' ha'' hd'' hf' hk
  | loop x ih =>
    intro fr lv ρ d w K a Q c' hc h ha hdf hPI hK
    cases fr with
    | some l => cases hc
    | none =>
      cases hc
      unfold den at h; obtain ⟨g1, I, μ, h0, hround⟩ := toAll_ok h; refine wp_loop (fun a' w' => ∃ d', a'.defers = M.get d' ∧ a'.tmps.size = n ∧ Fr (wr x) a a' ∧ (∀ t ∈ outsL rs x lv ρ, t < n) ∧ I ((outsL rs x lv ρ).map fun t => a'.tmps.getD t undef) d' w')
        (fun a' w' => μ ((outsL rs x lv ρ).map fun t => a'.tmps.getD t undef) (M.back a'.defers) w') ?_ ?_
      · refine ⟨d, hdf, ha.size, Fr.refl _ _, ?_, by rw [ha.outs g1]; exact h0⟩; intro t ht; have := (ha.at (g1 t ht)).2; rcases Nat.lt_or_ge t a.tmps.size with h' | h'
        · rw [ha.size] at h'; exact h'
        · rw [Array.getElem?_eq_none h'] at this; cases this
      · rintro a' w' ⟨d', hd', hs', hf, hlt, hI⟩; have ha' : Ag n (newEnv ρ (wr x) (outsL rs x lv ρ) ((outsL rs x lv ρ).map fun t => a'.tmps.getD t undef)) a' := by
          refine Ag.new _ ha hs' hf fun t ht => ?_; have := hlt t ht; simp [hs', this]
        refine ih none _ _ d' w' _ a' (Exit.then _ Q) x rfl (hround _ _ _ hI) ha' hd' hPI.then ⟨?_, ?_, ?_, ?_, ?_⟩
        · intro ρ'' d'' w'' a'' ha'' hd'' hf' hk; have hk2 : toAll ρ'' (outsL rs x lv ρ) (fun l => I l d'' w'' ∧ μ l d'' w'' < μ ((outsL rs x lv ρ).map fun t => a'.tmps.getD t undef) d' w') := hk; obtain ⟨q1, q2, q3⟩ := toAll_ok hk2; refine ⟨⟨d'', hd'', ha''.size, fun t ht => by rw [hf' t ht, hf t ht], hlt, by rw [ha''.outs q1]; exact q2⟩, ?_⟩; simp only [ha''.outs q1, hd'', hd', M.back_get]; exact q3
        · intro i ρ'' d'' w'' a'' ha'' hd'' hf' hk; exact hK.ext i ρ'' d'' w'' a'' ha'' hd'' (fun t ht => by rw [hf' t ht, hf t ht]) hk
        · intro i ρ'' d'' w'' a'' ha'' hd'' hf' hk; exact hK.gto i ρ'' d'' w'' a'' ha'' hd'' (fun t ht => by rw [hf' t ht, hf t ht]) hk
        · intro ρ'' d'' w'' a'' ha'' hd'' hf' hk; exact hK.ret ρ'' d'' w'' a'' ha'' hd'' (fun t ht => by rw [hf' t ht, hf t ht]) hk
        · intro c ρ'' d'' w'' a'' ha'' hd'' hf' hk; exact hK.pan c ρ'' d'' w'' a'' ha'' hd'' (fun t ht => by rw [hf' t ht, hf t ht]) hk
  | scope x ih =>
    intro fr lv ρ d w K a Q c' hc h ha hdf hPI hK
    cases fr with
    | some l => cases hc
    | none =>
      cases hc
      unfold den at h
      cases hl : jumps x with
      | none =>
        rw [hl] at h; refine wp_scope_straight (ih none lv ρ d w _ a (Exit.noGoto Q) x rfl h ha hdf hPI.noGoto ⟨hK.nxt, hK.ext, ?_, hK.ret, hK.pan⟩); intro i ρ'' d'' w'' a'' ha'' hd'' hf' hk; exact hk.elim
      | some y =>
        rw [hl] at h; obtain ⟨J, μ, h1, h2⟩ := h
        cases hfl : findLabel x y with
        | none => obtain ⟨r, hr⟩ := label?_find x y (by unfold jumps at hl; split at hl; exact hl; cases hl); rw [hfl] at hr; cases hr
        | some rest =>
          refine wp_scope_jumps y (fun a' w' => ∃ d', a'.defers = M.get d' ∧ a'.tmps.size = n ∧ Fr (wr x) a a' ∧ (∀ t ∈ outsS rs x y lv ρ, t < n) ∧ J ((outsS rs x y lv ρ).map fun t => a'.tmps.getD t undef) d' w')
            (fun a' w' => μ ((outsS rs x y lv ρ).map fun t => a'.tmps.getD t undef) (M.back a'.defers) w') hfl ?_ ?_
          · refine ih none _ ρ d w _ a (Exit.jump y _ Q) x rfl h1 ha hdf hPI.jump ⟨hK.nxt, hK.ext, ?_, hK.ret, hK.pan⟩; intro i ρ'' d'' w'' a'' ha'' hd'' hf' hk
            cases hb : Nat.beq i y with
            | false => simp only [hb] at hk
            | true =>
              simp only [hb] at hk; obtain ⟨q1, q2⟩ := toAll_ok hk; refine ⟨Nat.eq_of_beq_eq_true hb, d'', hd'', ha''.size, hf', ?_, by rw [ha''.outs q1]; exact q2⟩; intro t ht; have := (ha''.at (q1 t ht)).2; rcases Nat.lt_or_ge t a''.tmps.size with h' | h'
              · rw [ha''.size] at h'; exact h'
              · rw [Array.getElem?_eq_none h'] at this; cases this
          · rintro a' w' ⟨d', hd', hs', hf, hlt, hI⟩; have ha' : Ag n (newEnv ρ (wr x) (outsS rs x y lv ρ) ((outsS rs x y lv ρ).map fun t => a'.tmps.getD t undef)) a' := by
              refine Ag.new _ ha hs' hf fun t ht => ?_; have := hlt t ht; simp [hs', this]
            refine ih (some y) _ _ d' w' _ a' (Exit.jump y _ Q) rest hfl (h2 _ _ _ hI) ha' hd' hPI.jump ⟨?_, ?_, ?_, ?_, ?_⟩
            · intro ρ'' d'' w'' a'' ha'' hd'' hf' hk; exact hK.nxt ρ'' d'' w'' a'' ha'' hd'' (fun t ht => by rw [hf' t ht, hf t ht]) hk
            · intro i ρ'' d'' w'' a'' ha'' hd'' hf' hk; exact hK.ext i ρ'' d'' w'' a'' ha'' hd'' (fun t ht => by rw [hf' t ht, hf t ht]) hk
            · intro i ρ'' d'' w'' a'' ha'' hd'' hf' hk
              cases hb : Nat.beq i y with
              | false => simp only [hb] at hk
              | true =>
                simp only [hb] at hk; obtain ⟨q1, q2, q3⟩ := toAll_ok hk; refine ⟨Nat.eq_of_beq_eq_true hb, ⟨d'', hd'', ha''.size, fun t ht => by rw [hf' t ht, hf t ht], hlt, by rw [ha''.outs q1]; exact q2⟩, ?_⟩; simp only [ha''.outs q1, hd'', hd', M.back_get]; exact q3
            · intro ρ'' d'' w'' a'' ha'' hd'' hf' hk; exact hK.ret ρ'' d'' w'' a'' ha'' hd'' (fun t ht => by rw [hf' t ht, hf t ht]) hk
            · intro c ρ'' d'' w'' a'' ha'' hd'' hf' hk; exact hK.pan c ρ'' d'' w'' a'' ha'' hd'' (fun t ht => by rw [hf' t ht, hf t ht]) hk
  | exit i =>
    intro fr lv ρ d w K a Q c' hc h ha hdf hPI hK
    cases fr with
    | none => cases hc; exact wp_exit (hK.ext i ρ d w a ha hdf (Fr.refl _ _) h)
    | some x => cases hc
  | goto l =>
    intro fr lv ρ d w K a Q c' hc h ha hdf hPI hK
    cases fr with
    | none => cases hc; exact wp_goto (hK.gto l ρ d w a ha hdf (Fr.refl _ _) h)
    | some x => cases hc
  | ret =>
    intro fr lv ρ d w K a Q c' hc h ha hdf hPI hK
    cases fr with
    | none => cases hc; exact wp_ret (hK.ret ρ d w a ha hdf (Fr.refl _ _) h)
    | some x => cases hc
  | rangeFunc f ps as1 b ih1 ih2 =>
    intro fr lv ρ d w K a Q c' hc h ha hdf hPI hK
    cases fr with
    | none => exact h.elim
    | some x => cases hc
  | refuse why =>
    intro fr lv ρ d w K a Q c' hc h ha hdf hPI hK
    cases fr with
    | none => exact h.elim
    | some x => cases hc
theorem ag_args (args : List Value) (n : Nat) (h : args.length ≤ n) (ds : List Deferred) :
   Ag n (argEnv 0 args) { tmps := args.toArray ++ Array.replicate (n - args.toArray.size) undef, defers := ds } where
 size := by simp; omega
 val := by
   have key : ∀ (l : List Value) (i t : Nat) (v : Value), List.lookup t (argEnv i l) = some v → i ≤ t ∧ l[t - i]? = some v := by
     intro l; induction l with
     | nil => intro i t v h; cases h
     | cons x l ih =>
       intro i t v h; simp only [argEnv] at h; rw [lookup_cons] at h; by_cases ht : t = i
       · subst ht; rw [if_pos rfl] at h; cases h; exact ⟨Nat.le_refl _, by simp⟩
       · rw [if_neg ht] at h; obtain ⟨h1, h2⟩ := ih (i + 1) t v h; refine ⟨by omega, ?_⟩; have : t - i = (t - (i + 1)) + 1 := by omega
         rw [this]; simpa using h2
   intro t v hv; obtain ⟨_, h2⟩ := key args 0 t v hv; simp only [Nat.sub_zero] at h2; have hlt : t < args.length := by
     rcases Nat.lt_or_ge t args.length with h | h
     · exact h
     · rw [List.getElem?_eq_none h] at h2; cases h2
   rw [Array.getElem?_append_left (by simpa using hlt)]; simpa using h2
def getR (tmps : Array Value) : ResultVar → Sem Value
  | .tmp t => pure (tmps.getD t undef)
  | .cell b t => do loadVar t (← asAddr (tmps.getD b undef))
theorem run_results {n : Nat} {a : Act} {ρ : Env} {w : World} (ha : Ag n ρ a) : ∀ (rs : List ResultVar) (k : List Value → Prop), resE P ρ rs w k →
   ∃ l, k l ∧ (List.mapM (getR a.tmps) rs).run P w = .ok l w
 | [], k, h => ⟨[], h, by simp [pure]⟩
 | .tmp t :: rs, k, h => by
   obtain ⟨h1, h2⟩ := cond_prop h; obtain ⟨l, h3, h4⟩ := run_results ha rs _ h2; refine ⟨_, h3, ?_⟩; rw [List.mapM_cons]; simp only [getR, Sem.run_bind, Sem.run_pure, Result.andThen_ok, h4, (ha.at h1).1]
 | .cell b t :: rs, k, h => by
   obtain ⟨h1, v, h2, h3⟩ := cond_prop h; obtain ⟨l, h4, h5⟩ := run_results ha rs _ h3; refine ⟨_, h4, ?_⟩; rw [List.mapM_cons]; have : (getR a.tmps (.cell b t)).run P w = .ok v w := by
     show (do loadVar t (← asAddr (a.tmps.getD b undef)) : Sem Value).run P w = .ok v w
     rw [(ha.at h1).1]; unfold Instr.loadAt at h2
     cases hx : ρ.at b with
     | pointer p => cases p with
       | some q => rw [hx] at h2; exact h2
       | none => rw [hx] at h2; simp [Instr.sureAddr, stuck, Sem.run] at h2
     | _ => rw [hx] at h2; simp [Instr.sureAddr, stuck, Sem.run] at h2
   simp only [Sem.run_bind, Sem.run_pure, Result.andThen_ok, this, h5]
theorem results_run {n : Nat} {fn : Func} {a : Act} {ρ : Env} {w : World} {k : Value → Prop} (ha : Ag n ρ a)
   (h : resE P ρ fn.results.toList w fun l => k (tup l)) : ∃ v, (results fn a.tmps).run P w = .ok v w ∧ k v := by
 obtain ⟨l, h1, h2⟩ := run_results ha _ _ h; refine ⟨tup l, ?_, h1⟩; have e : results fn a.tmps = (do let vs ← fn.results.mapM (getR a.tmps); pure (if h : vs.size = 1 then vs[0] else .tuple vs)) := by
   unfold results; congr 1
 rw [e, Array.mapM_eq_mapM_toList]; simp only [Sem.run_bind, map_eq_pure_bind, Sem.run_pure, h2, Result.andThen_ok]; congr 1
 unfold tup; match l with
 | [] => rfl
 | [v] => rfl
 | _ :: _ :: _ => simp
theorem calls_of {f : FuncId} {fn : Func} {c : Code} {args : List Value} {w : World} {R : Ending → World → Prop} (hd : List Nat) (hm : P.follows .mixedOrders = true)
   (hf : P.funcs[f]? = some fn) (hb : fn.body = some c) (hn : args.length ≤ fn.ntmps) (h : body P fn.ntmps hd fn.results.toList c args R w) : Calls P f args.toArray w R := by
 refine calls_of_wp hf hb ?_; refine den_wp (M := Dm.no) (n := fn.ntmps) (ps := []) (rs := resSlots fn.results.toList) (hd := hd) hm c none (resSlots fn.results.toList) (argEnv 0 args) () w _ _ _ c rfl h (ag_args args _ hn []) rfl ?_ ⟨?_, ?_, ?_, ?_, ?_⟩
 · intro c' a' w' d v _ hq; exact ⟨hq.1, hq.2⟩
 · intro ρ d w' a' ha hd' _ hk; obtain ⟨v, h1, h2⟩ := results_run (fn := fn) (k := fun v => R (.returned v) w') ha hk; exact ⟨hd', v, h1, h2⟩
 · intro i ρ d w' a' _ _ _ hk; exact hk.elim
 · intro i ρ d w' a' _ _ _ hk; exact hk.elim
 · intro ρ d w' a' ha hd' _ hk; obtain ⟨v, h1, h2⟩ := results_run (fn := fn) (k := fun v => R (.returned v) w') ha hk; exact ⟨hd', v, h1, h2⟩
 · intro c' ρ d w' a' ha hd' _ hk; exact ⟨hd', hk⟩
theorem callsD_of {f : FuncId} {fn : Func} {c : Code} {args : List Value} {u : FrameMode} {w : World} {R : Ending → World → Prop} (hd : List Nat) (hm : P.follows .mixedOrders = true)
   (hf : P.funcs[f]? = some fn) (hb : fn.body = some c) (hn : args.length ≤ fn.ntmps) (h : body P fn.ntmps hd fn.results.toList c args R w) :
   CallsD P f args.toArray u w fun e u' w' => u' = u ∧ R e w' := by
 refine callsD_of_wp hf hb ?_; refine den_wp (M := Dm.no) (n := fn.ntmps) (ps := []) (rs := resSlots fn.results.toList) (hd := hd) hm c none (resSlots fn.results.toList) (argEnv 0 args) () w _ _ _ c rfl h (ag_args args _ hn []) rfl ?_ ⟨?_, ?_, ?_, ?_, ?_⟩
 · intro c' a' w' d v _ hq; exact ⟨hq.1, hq.2⟩
 · intro ρ d w' a' ha hd' _ hk; obtain ⟨v, h1, h2⟩ := results_run (fn := fn) (k := fun v => R (.returned v) w') ha hk; exact ⟨hd', v, h1, h2⟩
 · intro i ρ d w' a' _ _ _ hk; exact hk.elim
 · intro i ρ d w' a' _ _ _ hk; exact hk.elim
 · intro ρ d w' a' ha hd' _ hk; obtain ⟨v, h1, h2⟩ := results_run (fn := fn) (k := fun v => R (.returned v) w') ha hk; exact ⟨hd', v, h1, h2⟩
 · intro c' ρ d w' a' ha hd' _ hk; exact ⟨hd', hk⟩
theorem Lv.leaves {fn : Func} {tmps : Array Value} {res : World → (Value → Prop) → Prop} {R : Ending → World → Prop}
   (hr : ∀ w k, res w k → ∃ v, (results fn tmps).run P w = .ok v w ∧ k v) : ∀ (ds : List Deferred) (u : FrameMode) (w : World), Lv P res R ds u w → Leaves P fn tmps R ds u w
 | [], .returning, w, h => hr w _ h
 | [], .panicking _, w, h => h
 | [], .run, w, h => h
 | d :: ds, u, w, ⟨hu, fv, cap, f, args, ht, hi, h⟩ => ⟨hu, fv, cap, f, args, ht, hi, h.mono fun e u' w' he => by
     cases e with
     | returned v => exact Lv.leaves hr ds _ w' he
     | panicked c => exact Lv.leaves hr ds _ w' he
     | outgrown => exact he.elim⟩
theorem Leaves.tmps {fn : Func} {tmps tmps' : Array Value} {R : Ending → World → Prop} (hr : ∀ w v, (results fn tmps).run P w = .ok v w → (results fn tmps').run P w = .ok v w) :
   ∀ (ds : List Deferred) (u : FrameMode) (w : World), Leaves P fn tmps R ds u w → Leaves P fn tmps' R ds u w
 | [], .returning, w, ⟨v, h1, h2⟩ => ⟨v, hr w v h1, h2⟩
 | [], .panicking _, w, h => h
 | [], .run, w, h => h
 | d :: ds, u, w, ⟨hu, fv, cap, f, args, ht, hi, h⟩ => ⟨hu, fv, cap, f, args, ht, hi, h.mono fun e u' w' he => by
     cases e with
     | returned v => exact Leaves.tmps hr ds _ w' he
     | panicked c => exact Leaves.tmps hr ds _ w' he
     | outgrown => exact he⟩
theorem results_put {fn : Func} (a : Act) (d : Nat) (v : Value) (h : d ∉ resSlots fn.results.toList) : results fn (a.put (some d) v).tmps = results fn a.tmps := by
 have key : ∀ (rs : List ResultVar), d ∉ resSlots rs → ∀ r ∈ rs, getR (a.put (some d) v).tmps r = getR a.tmps r := by
   intro rs; induction rs with
   | nil => intro _ r hr; cases hr
   | cons x rs ih =>
     intro hd r hr; have hx : d ∉ resSlots rs := fun hm => hd (by cases x <;> exact List.mem_cons_of_mem _ hm); have hne : ∀ t, (x = .tmp t ∨ ∃ u, x = .cell t u) → (a.put (some d) v).tmps.getD t undef = a.tmps.getD t undef := by
       intro t ht; have hdt : d ≠ t := by
         rintro rfl; rcases ht with rfl | ⟨u, rfl⟩ <;> exact hd (List.mem_cons_self ..)
       simp [Act.put, Array.getElem?_setIfInBounds_ne hdt]
     rcases List.mem_cons.1 hr with rfl | hr
     · cases r with
       | tmp t => simp only [getR, hne t (.inl rfl)]
       | cell t u => simp only [getR, hne t (.inr ⟨u, rfl⟩)]
     · exact ih hx r hr
 have e : ∀ tmps, results fn tmps = (do let vs ← fn.results.mapM (getR tmps); pure (if h : vs.size = 1 then vs[0] else .tuple vs)) := by
   intro tmps; unfold results; congr 1
 rw [e, e, Array.mapM_eq_mapM_toList, Array.mapM_eq_mapM_toList]; have e2 : ∀ (rs : List ResultVar), (∀ r ∈ rs, getR (a.put (some d) v).tmps r = getR a.tmps r) → List.mapM (getR (a.put (some d) v).tmps) rs = List.mapM (getR a.tmps) rs := by
   intro rs; induction rs with
   | nil => intro _; rfl
   | cons x rs ih =>
     intro hx; rw [List.mapM_cons, List.mapM_cons, hx x (List.mem_cons_self ..), ih fun r hr => hx r (List.mem_cons_of_mem _ hr)]
 rw [e2 _ (key _ h)]
theorem calls_ofD {f : FuncId} {fn : Func} {c : Code} {args : List Value} {w : World} {R : Ending → World → Prop} (hd : List Nat) (hm : P.follows .mixedOrders = true)
   (hf : P.funcs[f]? = some fn) (hb : fn.body = some c) (hn : args.length ≤ fn.ntmps) (h : bodyD P fn.ntmps hd fn.results.toList c args R w) : Calls P f args.toArray w R := by
 refine calls_of_wp_defers hf hb ?_; refine den_wp (M := Dm.yes) (n := fn.ntmps) (ps := resSlots fn.results.toList) (rs := resSlots fn.results.toList) (hd := hd) hm c none (resSlots fn.results.toList) (argEnv 0 args) ([] : List Deferred) w _ _ _ c rfl h (ag_args args _ hn []) rfl ?_ ⟨?_, ?_, ?_, ?_, ?_⟩
 · intro c' a' w' d v hdn hq; refine Leaves.tmps (fun w u hu => ?_) _ _ _ hq; rw [results_put a' d v hdn] at hu; exact hu
 · intro ρ d w' a' ha hd' _ hk; show Leaves P fn a'.tmps R a'.defers .returning w'
   rw [hd']; exact Lv.leaves (fun w k h => results_run ha h) d .returning w' hk
 · intro i ρ d w' a' _ _ _ hk; exact hk.elim
 · intro i ρ d w' a' _ _ _ hk; exact hk.elim
 · intro ρ d w' a' ha hd' _ hk; show Leaves P fn a'.tmps R a'.defers .returning w'
   rw [hd']; exact Lv.leaves (fun w k h => results_run ha h) d .returning w' hk
 · intro c' ρ d w' a' ha hd' _ hk; show Leaves P fn a'.tmps R a'.defers (.panicking c') w'
   rw [hd']; exact Lv.leaves (fun w k h => results_run ha h) d (.panicking c') w' hk
end Go.Sh

namespace Go.Sh
variable {P : Program}
def codeB (fn : Func) : Code := fn.body.getD .skip
def r1 (v : Value) (w : World) (k : Value → Prop) : Prop := k v
def pnD (P : Program) (res : World → (Value → Prop) → Prop) (R : Ending → World → Prop) (ds : List Deferred) (c : List PanicEntry) (w : World) : Prop := Lv P res R ds (.panicking c) w
def Xv (P : Program) (C : World → Prop) (s : Sem Value) (k : Value → Prop) : Prop := Xq P C (do pure (.value (← s))) k
def Xw (P : Program) (S : World → Prop) (s : Sem Value) (k : Value → Prop) : Prop := Xs P S (do pure (.value (← s))) k
theorem Xv.i {C : World → Prop} {s : Sem Value} {k : Value → Prop} (v : Value) (h : ∀ w, C w → s.run P w = .ok v w) (hk : k v) : Xv P C s k :=
  ⟨v, fun w hw => by simp only [Sem.run_bind, h w hw, Result.andThen_ok, Sem.run_pure]; exact ⟨rfl, rfl⟩, hk⟩
theorem Xw.i {S : World → Prop} {s : Sem Value} {k : Value → Prop} (v : Value) (h : ∀ w, S w → s.run P w = .ok v w) (hk : k v) : Xw P S s k :=
  ⟨v, fun w hw => by simp only [Sem.run_bind, h w hw, Result.andThen_ok, Sem.run_pure], hk⟩
theorem Xq.call {C : World → Prop} {f : FuncId} {fn : Func} {args : Array Value} {k : Value → Prop} (v : Value) (hr : ∀ w, (callFunc f args).run P w = .ok (.enter f args) w)
    (h : ∀ w, C w → Calls P f args w fun e w' => e = .returned v ∧ C w') (hk : k v) : Xq P C (callFunc f args) k :=
  ⟨v, fun w hw => by rw [hr w]; exact ⟨rfl, h w hw⟩, hk⟩
theorem V1.i {s : Sem Value} {w w' : World} {v : Value} {k : Value → World → Prop} {e : List PanicEntry → World → Prop} (h : s.run P w = .ok v w') (hk : k v w') : V1 P s w k e := by
 unfold V1; rw [h]; exact hk
theorem V1.p {s : Sem Value} {w w' : World} {v : Value} {k : Value → World → Prop} {e : List PanicEntry → World → Prop} (h : s.run P w = .halt (.panic v) w') (hk : e [{ v, recovered := false }] w') : V1 P s w k e := by
 unfold V1; rw [h]; exact hk
theorem U1.i {s : Sem Unit} {w w' : World} {v : Unit} {k : World → Prop} {e : List PanicEntry → World → Prop} (h : s.run P w = .ok v w') (hk : k w') : U1 P s w k e := by
 unfold U1; rw [h]; exact hk
theorem D1.i {s : Sem Deferred} {w w' : World} {v : Deferred} {k : Deferred → World → Prop} {e : List PanicEntry → World → Prop} (h : s.run P w = .ok v w') (hk : k v w') : D1 P s w k e := by
 unfold D1; rw [h]; exact hk
theorem Up.i {s : Sem Next} {w w' : World} {v : Value} {k : Value → World → Prop} {e : List PanicEntry → World → Prop} (h : s.run P w = .ok (.value v) w') (hk : k v w') : Up P s w k e := by
 unfold Up; rw [h]; exact hk
theorem Up.c {s : Sem Next} {w w' : World} {f : FuncId} {args : Array Value} {k : Value → World → Prop} {e : List PanicEntry → World → Prop} (h : s.run P w = .ok (.enter f args) w')
   (hk : Calls P f args w' (Ret k e)) : Up P s w k e := by
 unfold Up; rw [h]; exact hk
theorem callFunc_run {f : FuncId} {fn : Func} {c : Code} (hf : P.funcs[f]? = some fn) (hb : fn.body = some c) (hn : (fn.name == "runtime.NumGoroutine") = false) (args : Array Value) (w : World) :
   (callFunc f args).run P w = .ok (.enter f args) w := by
 have hn' : fn.name ≠ "runtime.NumGoroutine" := by simpa using hn
 simp [callFunc, program, hf, hb, hn', Sem.run]
theorem Cf.i {f : FuncId} {args : Array Value} {w : World} {k : Value → World → Prop} {e : List PanicEntry → World → Prop} (hr : (callFunc f args).run P w = .ok (.enter f args) w)
   (h : Calls P f args w (Ret k e)) : Cf P f args w k e := by
 unfold Cf Up; rw [hr]; exact h
theorem Cf.go {f : FuncId} {args : Array Value} {w : World} {k Q : Value → World → Prop} {e E : List PanicEntry → World → Prop} (hr : (callFunc f args).run P w = .ok (.enter f args) w)
   (h : Calls P f args w (Ret Q E)) (hk : ∀ v w', Q v w' → k v w') (he : ∀ c w', E c w' → e c w') : Cf P f args w k e :=
 Cf.i hr (h.mono fun en w' hr => by
   cases en with
   | returned v => exact hk v w' hr
   | panicked c => exact he c w' hr
   | outgrown => exact hr)
def NP (c : List PanicEntry) (w : World) : Prop := False
theorem NP.no {e : List PanicEntry → World → Prop} (c : List PanicEntry) (w : World) (h : NP c w) : e c w := h.elim
theorem Nc.p (a : Addr) (w : World) : (Nc (.pointer (some a))).run P w = .ok (.value (.pointer (some a))) w := rfl
theorem If.b {b : Bool} {x y : Prop} (hx : b = true → x) (hy : b = false → y) : If (.bool b) x y := ⟨hx, hy⟩
theorem If.t {x y : Prop} (hx : x) : If (.bool true) x y := ⟨fun _ => hx, fun h => by cases h⟩
theorem If.f {x y : Prop} (hy : y) : If (.bool false) x y := ⟨fun h => (by cases h), fun _ => hy⟩
theorem Gd.b {c b : Bool} {x y : Prop} (hx : c = b → x) (hy : c = !b → y) : Gd (.bool c) b x y := ⟨hx, hy⟩
theorem Gd.u {b : Bool} {x y : Prop} (hy : y) : Gd undef b x y := hy
theorem Gd.tf {x y : Prop} (hy : y) : Gd (.bool true) false x y := ⟨fun h => (by cases h), fun _ => hy⟩
theorem Gd.ft {x y : Prop} (hy : y) : Gd (.bool false) true x y := ⟨fun h => (by cases h), fun _ => hy⟩
theorem Gd.tt {x y : Prop} (hx : x) : Gd (.bool true) true x y := ⟨fun _ => hx, fun h => (by cases h)⟩
theorem Gd.ff {x y : Prop} (hx : x) : Gd (.bool false) false x y := ⟨fun _ => hx, fun h => (by cases h)⟩
def J0 (f : (World → Prop) → Prop) (g : World → Prop) : Prop := Jn (D := Unit) (fun k => f (fun w => k [] () w)) (fun l _ w => g  w)
theorem J0.go {f : (World → Prop) → Prop} {g : World → Prop} (h : f g) : J0 f g := ⟨fun l _ w => g  w, fun _ _ _ h => h, h⟩
theorem J0.cut {f : (World → Prop) → Prop} {g : World → Prop} (K : World → Prop) (h : f K) (hg : ∀ w, K  w → g  w) : J0 f g := ⟨fun l _ w => K  w, fun _ _ _ h => hg _ h, h⟩
def D0J (f : (List Deferred → World → Prop) → Prop) (g : List Deferred → World → Prop) : Prop := Jn (D := List Deferred) (fun k => f (fun d w => k [] d w)) (fun l d w => g  d w)
theorem D0J.go {f : (List Deferred → World → Prop) → Prop} {g : List Deferred → World → Prop} (h : f g) : D0J f g := ⟨fun l d w => g  d w, fun _ _ _ h => h, h⟩
def J1 (f : (Value → World → Prop) → Prop) (g : Value → World → Prop) : Prop := Jn (D := Unit) (fun k => f (fun x0 w => k [x0] () w)) (fun l _ w => g (l.headD undef) w)
theorem J1.go {f : (Value → World → Prop) → Prop} {g : Value → World → Prop} (h : f g) : J1 f g := ⟨fun l _ w => g (l.headD undef) w, fun _ _ _ h => h, h⟩
theorem J1.cut {f : (Value → World → Prop) → Prop} {g : Value → World → Prop} (K : Value → World → Prop) (h : f K) (hg : ∀ x0 w, K x0 w → g x0 w) : J1 f g := ⟨fun l _ w => K (l.headD undef) w, fun _ _ _ h => hg _ _ h, h⟩
def D1J (f : (Value → List Deferred → World → Prop) → Prop) (g : Value → List Deferred → World → Prop) : Prop := Jn (D := List Deferred) (fun k => f (fun x0 d w => k [x0] d w)) (fun l d w => g (l.headD undef) d w)
theorem D1J.go {f : (Value → List Deferred → World → Prop) → Prop} {g : Value → List Deferred → World → Prop} (h : f g) : D1J f g := ⟨fun l d w => g (l.headD undef) d w, fun _ _ _ h => h, h⟩
def J2 (f : (Value → Value → World → Prop) → Prop) (g : Value → Value → World → Prop) : Prop := Jn (D := Unit) (fun k => f (fun x0 x1 w => k [x0, x1] () w)) (fun l _ w => g (l.headD undef) (l.tail.headD undef) w)
theorem J2.go {f : (Value → Value → World → Prop) → Prop} {g : Value → Value → World → Prop} (h : f g) : J2 f g := ⟨fun l _ w => g (l.headD undef) (l.tail.headD undef) w, fun _ _ _ h => h, h⟩
def J3 (f : (Value → Value → Value → World → Prop) → Prop) (g : Value → Value → Value → World → Prop) : Prop := Jn (D := Unit) (fun k => f (fun x0 x1 x2 w => k [x0, x1, x2] () w)) (fun l _ w => g (l.headD undef) (l.tail.headD undef) (l.tail.tail.headD undef) w)
theorem J3.go {f : (Value → Value → Value → World → Prop) → Prop} {g : Value → Value → Value → World → Prop} (h : f g) : J3 f g := ⟨fun l _ w => g (l.headD undef) (l.tail.headD undef) (l.tail.tail.headD undef) w, fun _ _ _ h => h, h⟩
def J4 (f : (Value → Value → Value → Value → World → Prop) → Prop) (g : Value → Value → Value → Value → World → Prop) : Prop := Jn (D := Unit) (fun k => f (fun x0 x1 x2 x3 w => k [x0, x1, x2, x3] () w)) (fun l _ w => g (l.headD undef) (l.tail.headD undef) (l.tail.tail.headD undef) (l.tail.tail.tail.headD undef) w)
theorem J4.cut {f : (Value → Value → Value → Value → World → Prop) → Prop} {g : Value → Value → Value → Value → World → Prop} (K : Value → Value → Value → Value → World → Prop) (h : f K) (hg : ∀ x0 x1 x2 x3 w, K x0 x1 x2 x3 w → g x0 x1 x2 x3 w) : J4 f g := ⟨fun l _ w => K (l.headD undef) (l.tail.headD undef) (l.tail.tail.headD undef) (l.tail.tail.tail.headD undef) w, fun _ _ _ h => hg _ _ _ _ _ h, h⟩
def L0 (w : World) (f : (World → Prop) → World → Prop) : Prop := Lp (D := Unit) [] () w (fun ag l _ w => f (fun w => ag [] () w)  w)
def L1 (x0 : Value) (w : World) (f : (Value → World → Prop) → Value → World → Prop) : Prop := Lp (D := Unit) [x0] () w (fun ag l _ w => f (fun x0 w => ag [x0] () w) (l.headD undef) w)
theorem L1.i {x0 : Value} {w : World} {f : (Value → World → Prop) → Value → World → Prop} (I : Value → World → Prop) (μ : Value → World → Nat) (h0 : I x0 w)
    (h : ∀ x0 w, I x0 w → f (fun y0 w' => I y0 w' ∧ μ y0 w' < μ x0 w) x0 w) : L1 x0 w f :=
  ⟨fun l _ w => I (l.headD undef) w, fun l _ w => μ (l.headD undef) w, h0, fun _ _ _ hi => h _ _ hi⟩
def D1L (x0 : Value) (d : List Deferred) (w : World) (f : (Value → List Deferred → World → Prop) → Value → List Deferred → World → Prop) : Prop := Lp (D := List Deferred) [x0] d w (fun ag l d w => f (fun x0 d w => ag [x0] d w) (l.headD undef) d w)
def L2 (x0 x1 : Value) (w : World) (f : (Value → Value → World → Prop) → Value → Value → World → Prop) : Prop := Lp (D := Unit) [x0, x1] () w (fun ag l _ w => f (fun x0 x1 w => ag [x0, x1] () w) (l.headD undef) (l.tail.headD undef) w)
theorem L2.i {x0 x1 : Value} {w : World} {f : (Value → Value → World → Prop) → Value → Value → World → Prop} (I : Value → Value → World → Prop) (μ : Value → Value → World → Nat) (h0 : I x0 x1 w)
    (h : ∀ x0 x1 w, I x0 x1 w → f (fun y0 y1 w' => I y0 y1 w' ∧ μ y0 y1 w' < μ x0 x1 w) x0 x1 w) : L2 x0 x1 w f :=
  ⟨fun l _ w => I (l.headD undef) (l.tail.headD undef) w, fun l _ w => μ (l.headD undef) (l.tail.headD undef) w, h0, fun _ _ _ hi => h _ _ _ hi⟩
def P2 (f : (Value → Value → World → Prop) → Prop) (g : (Value → Value → World → Prop) → Value → Value → World → Prop) : Prop := Sp (D := Unit) (fun J => f (fun x0 x1 w => J [x0, x1] () w)) (fun J l _ w => g (fun x0 x1 w => J [x0, x1] () w) (l.headD undef) (l.tail.headD undef) w)
def L3 (x0 x1 x2 : Value) (w : World) (f : (Value → Value → Value → World → Prop) → Value → Value → Value → World → Prop) : Prop := Lp (D := Unit) [x0, x1, x2] () w (fun ag l _ w => f (fun x0 x1 x2 w => ag [x0, x1, x2] () w) (l.headD undef) (l.tail.headD undef) (l.tail.tail.headD undef) w)
theorem L3.i {x0 x1 x2 : Value} {w : World} {f : (Value → Value → Value → World → Prop) → Value → Value → Value → World → Prop} (I : Value → Value → Value → World → Prop) (μ : Value → Value → Value → World → Nat) (h0 : I x0 x1 x2 w)
    (h : ∀ x0 x1 x2 w, I x0 x1 x2 w → f (fun y0 y1 y2 w' => I y0 y1 y2 w' ∧ μ y0 y1 y2 w' < μ x0 x1 x2 w) x0 x1 x2 w) : L3 x0 x1 x2 w f :=
  ⟨fun l _ w => I (l.headD undef) (l.tail.headD undef) (l.tail.tail.headD undef) w, fun l _ w => μ (l.headD undef) (l.tail.headD undef) (l.tail.tail.headD undef) w, h0, fun _ _ _ hi => h _ _ _ _ hi⟩
def L5 (x0 x1 x2 x3 x4 : Value) (w : World) (f : (Value → Value → Value → Value → Value → World → Prop) → Value → Value → Value → Value → Value → World → Prop) : Prop := Lp (D := Unit) [x0, x1, x2, x3, x4] () w (fun ag l _ w => f (fun x0 x1 x2 x3 x4 w => ag [x0, x1, x2, x3, x4] () w) (l.headD undef) (l.tail.headD undef) (l.tail.tail.headD undef) (l.tail.tail.tail.headD undef) (l.tail.tail.tail.tail.headD undef) w)
def P5 (f : (Value → Value → Value → Value → Value → World → Prop) → Prop) (g : (Value → Value → Value → Value → Value → World → Prop) → Value → Value → Value → Value → Value → World → Prop) : Prop := Sp (D := Unit) (fun J => f (fun x0 x1 x2 x3 x4 w => J [x0, x1, x2, x3, x4] () w)) (fun J l _ w => g (fun x0 x1 x2 x3 x4 w => J [x0, x1, x2, x3, x4] () w) (l.headD undef) (l.tail.headD undef) (l.tail.tail.headD undef) (l.tail.tail.tail.headD undef) (l.tail.tail.tail.tail.headD undef) w)
def Q1 (f : (Value → Prop) → Prop) (g : Value → Prop) : Prop := Jp (fun k => f (fun x0 => k [x0])) (fun l => g (l.headD undef))
theorem Q1.go {f : (Value → Prop) → Prop} {g : Value → Prop} (h : f g) : Q1 f g := ⟨fun l => g (l.headD undef), fun _ h => h, h⟩
end Go.Sh

namespace Go.Sh
def At (w : World) (b : Nat) (cs : List Value) : Prop := ∃ T, w.heap[b]? = some (.cells cs.toArray T (0, 0))
structure Keep (M : List Nat) (w w' : World) : Prop where
  size : w.heap.size ≤ w'.heap.size
  same : ∀ b, b < w.heap.size → b ∉ M → w'.heap[b]? = w.heap[b]?
  io : w'.os = w.os ∧ w'.output = w.output
theorem alloc_get (w : World) (o : Obj) (i : Nat) : (w.alloc o).heap[i]? = if i = w.heap.size then some o else w.heap[i]? := by
 show (w.heap.push o)[i]? = _
 rw [Array.getElem?_push]
theorem Keep.refl (M : List Nat) (w : World) : Keep M w w := ⟨Nat.le_refl _, fun _ _ _ => rfl, rfl, rfl⟩
theorem Keep.trans {M : List Nat} {a b c : World} (h : Keep M a b) (h' : Keep M b c) : Keep M a c :=
  ⟨Nat.le_trans h.size h'.size, fun i hi hm => by rw [h'.same i (Nat.lt_of_lt_of_le hi h.size) hm, h.same i hi hm], h'.io.1.trans h.io.1, h'.io.2.trans h.io.2⟩
theorem Keep.mono {M N : List Nat} {a b : World} (h : Keep M a b) (hs : ∀ i ∈ M, i < a.heap.size → i ∈ N) : Keep N a b :=
  ⟨h.size, fun i hi hm => h.same i hi fun hM => hm (hs i hM hi), h.io⟩
theorem Keep.trans' {M N : List Nat} {a b c : World} (h : Keep M a b) (h' : Keep N b c) (hs : ∀ i ∈ N, i < a.heap.size → i ∈ M) : Keep M a c :=
 ⟨Nat.le_trans h.size h'.size, fun i hi hm => by
   rw [h'.same i (Nat.lt_of_lt_of_le hi h.size) fun hN => hm (hs i hN hi), h.same i hi hm], h'.io.1.trans h.io.1, h'.io.2.trans h.io.2⟩
theorem Keep.then {M N L : List Nat} {a b c : World} (h : Keep M a b) (h' : Keep N b c) (h1 : ∀ i ∈ M, i < a.heap.size → i ∈ L) (h2 : ∀ i ∈ N, i < a.heap.size → i ∈ L) : Keep L a c :=
  (h.mono h1).trans' h' h2
theorem Keep.alloc {M : List Nat} {a b : World} (h : Keep M a b) (o : Obj) : Keep M a (b.alloc o) :=
  h.trans ⟨by simp, fun i hi _ => by rw [alloc_get, if_neg (Nat.ne_of_lt hi)], rfl, rfl⟩
theorem Keep.drew {M : List Nat} {a b : World} (h : Keep M a b) : Keep M a b.drew := h.trans ⟨Nat.le_refl _, fun _ _ _ => rfl, rfl, rfl⟩
theorem Keep.set {M : List Nat} {a b : World} (h : Keep M a b) {c : Addr} (v : Value) (hc : c.block ∈ M ∨ a.heap.size ≤ c.block) : Keep M a (b.setCell c v) :=
 h.trans' (N := [c.block]) ⟨by simp [World.setCell], fun i hi hm => by
   have : c.block ≠ i := fun e => hm (by simp [e]); simp [World.setCell, Array.getElem?_modify, this], rfl, rfl⟩ (fun i hi hlt => by
   simp at hi; subst hi
   rcases hc with h1 | h1
   · exact h1
   · omega)
theorem Keep.at {M : List Nat} {w w' : World} (h : Keep M w w') {b : Nat} {cs : List Value} (ha : At w b cs) (hb : b ∉ M) : At w' b cs := by
 obtain ⟨T, hT⟩ := ha; refine ⟨T, ?_⟩; rw [h.same b ?_ hb, hT]; rcases Nat.lt_or_ge b w.heap.size with h' | h'
 · exact h'
 · rw [Array.getElem?_eq_none h'] at hT; cases hT
theorem Keep.cell {M : List Nat} {w w' : World} (h : Keep M w w') {a : Addr} {v : Value} (hc : w.cell? a = some v) (hb : a.block ∉ M) : w'.cell? a = some v := by
 have hlt : a.block < w.heap.size := by
   unfold World.cell? at hc; rcases Nat.lt_or_ge a.block w.heap.size with h' | h'
   · exact h'
   · rw [Array.getElem?_eq_none h'] at hc; cases hc
 unfold World.cell? at *; rw [h.same a.block hlt hb]; exact hc
theorem At.lt {w : World} {b : Nat} {cs : List Value} (h : At w b cs) : b < w.heap.size := by
 obtain ⟨T, hT⟩ := h; rcases Nat.lt_or_ge b w.heap.size with h' | h'
 · exact h'
 · rw [Array.getElem?_eq_none h'] at hT; cases hT
theorem At.cell {w : World} {b : Nat} {cs : List Value} (h : At w b cs) (o : Nat) : w.cell? ⟨b, o, none⟩ = cs[o]? := by
 obtain ⟨T, hT⟩ := h; simp [World.cell?, hT]
theorem At.fr {w : World} {b : Nat} {cs : List Value} (h : At w b cs) (o : Nat) : w.frozen? ⟨b, o, none⟩ = false := by
 obtain ⟨T, hT⟩ := h; simp [World.frozen?, hT]
theorem At.new (w : World) (cs : Array Value) (T : TypeId) : At (w.alloc (.cells cs T)) w.heap.size cs.toList := ⟨T, by rw [alloc_get, if_pos rfl]⟩
theorem At.set {w : World} {b : Nat} {cs : List Value} (h : At w b cs) (o : Nat) (v : Value) : At (w.setCell ⟨b, o, none⟩ v) b (cs.set o v) := by
 obtain ⟨T, hT⟩ := h; exact ⟨T, by simp [World.setCell, Array.getElem?_modify, hT]⟩
def str (l : List UInt8) : Value := .string ⟨l.toArray⟩
structure New (w : World) (b : Nat) (cs : List Value) (w' : World) : Prop where
  at_ : At w' b cs
  ge : w.heap.size ≤ b
  lt : b < w'.heap.size
  keep : Keep [] w w'
structure Upd (w : World) (b : Nat) (cs : List Value) (w' : World) : Prop where
  at_ : At w' b cs
  size : w'.heap.size = w.heap.size
  keep : Keep [b] w w'
  shp : ∀ q, w'.shape? q = w.shape? q
variable {P : Program}
theorem New.mk' (w : World) (cs : Array Value) (T : TypeId) : New w w.heap.size cs.toList (w.alloc (.cells cs T)) :=
  ⟨At.new w cs T, Nat.le_refl _, by simp, (Keep.refl _ _).alloc _⟩
theorem shape_set (w : World) (a : Addr) (v : Value) (q : Nat) : (w.setCell a v).shape? q = w.shape? q := by
 unfold World.shape? World.setCell; simp only [Array.getElem?_modify]; by_cases h : a.block = q
 · rw [if_pos h]
   cases w.heap[q]? with
   | none => rfl
   | some o =>
     cases o <;> simp
     split <;> simp
 · rw [if_neg h]
theorem Upd.mk' {w : World} {b : Nat} {cs : List Value} (h : At w b cs) (o : Nat) (v : Value) : Upd w b (cs.set o v) (w.setCell ⟨b, o, none⟩ v) :=
  ⟨h.set o v, by simp [World.setCell], (Keep.refl _ _).set v (.inl (by simp)), fun q => shape_set _ _ _ q⟩
section
variable {w : World} {k : Value → World → Prop} {ku : World → Prop} {e : List PanicEntry → World → Prop}
def Sc : Value → Bool
  | .int .. | .bool _ | .string _ | .pointer _ | .slice .. | .map _ | .iface .. | .nilIface | .func .. | .nilFunc => true
  | _ => false
def One (P : Program) (t : TypeId) : Prop := ∀ a w v, w.cell? a = some v → (Instr.loadAt t (.pointer (some a))).run P w = .ok v w
def OneS (P : Program) (t : TypeId) (v : Value) : Prop := ∀ a w u, w.cell? a = some u → w.frozen? a = false → (Instr.storeAt t (.pointer (some a)) v).run P w = .ok () (w.setCell a v)
theorem V1.load {t : TypeId} {b o : Nat} {cs : List Value} {v : Value} (h1 : One P t) (hA : At w b cs) (hv : cs[o]? = some v) (hk : k v w) :
    V1 P (Instr.loadAt t (.pointer (some ⟨b, o, none⟩))) w k e := V1.i (h1 _ _ _ (by rw [hA.cell, hv])) hk
theorem U1.store {t : TypeId} {b o : Nat} {cs : List Value} {v : Value} (h1 : OneS P t v) (hA : At w b cs) (ho : o < cs.length)
    (hk : ∀ w', Upd w b (cs.set o v) w' → ku w') : U1 P (Instr.storeAt t (.pointer (some ⟨b, o, none⟩)) v) w ku e :=
  U1.i (h1 _ _ cs[o] (by rw [hA.cell]; simp [ho]) (hA.fr o)) (hk _ (Upd.mk' hA o v))
theorem V1.new {s : Sem Value} {z : Array Value} {T : TypeId} (h : s.run P w = .ok (.pointer (some ⟨w.heap.size, 0, none⟩)) (w.alloc (.cells z T)))
    (hk : ∀ b w', New w b z.toList w' → k (.pointer (some ⟨b, 0, none⟩)) w') : V1 P s w k e := V1.i h (hk _ _ (New.mk' w z T))
theorem V1.newSlice {s : Sem Value} {z : Array Value} {T : TypeId} {n c : Nat} (h : s.run P w = .ok (.slice (some ⟨w.heap.size, 0, none⟩) n c) (w.alloc (.cells z T)))
    (hk : ∀ b w', New w b z.toList w' → k (.slice (some ⟨b, 0, none⟩) n c) w') : V1 P s w k e := V1.i h (hk _ _ (New.mk' w z T))
theorem New.a {w w' : World} {b c : Nat} {cs ds : List Value} (N : New w b cs w') (h : At w c ds) : At w' c ds := N.keep.at h (by simp)
theorem New.kp {w w' v : World} {b : Nat} {cs : List Value} {M : List Nat} (N : New w b cs w') (h : Keep M v w) : Keep M v w' := h.trans' N.keep (by simp)
end
end Go.Sh


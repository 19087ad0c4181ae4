import Derived.Test.YtoddjlclpnoomaaGreatDoorV0
set_option linter.unusedVariables false
set_option linter.unusedSimpArgs false
set_option maxRecDepth 100000
open List (mem_append all_eq_true mem_cons_of_mem mem_cons_self mem_cons map_cons mem_filter mem_range contains_cons drop_eq_getElem_cons getElem?_eq_getElem mem_map getElem_mem)
open Nat (beq blt lt_or_ge le_of_ble_eq_true)
open Bool (and_eq_true not_eq_true' or_eq_true false_eq_true)
namespace Go.Sh
variable {P:Program}{M:Dm}{n:Nat}
theorem fA(o:Oper)(l:List Oper)(t:Nat):t∈o.dst.toList++bS l->t∈bS (o::l):=by
 intro ht;rw[mem_append]at ht;unfold bS at*
 cases gJ:o.dst with
 |none=>rw[List.filterMap_cons_none gJ];rcases ht with h'|h';(simp[gJ]at h');exact h'
 |some x=>rw[List.filterMap_cons_some gJ];rcases ht with h'|h';(simp[gJ]at h';simp[h']);exact mem_cons_of_mem _ h'
theorem xT{C:WP}{o:Oper}{ρ:Env}{a:Act}{k:Env->Prop}(h:xN P n C o ρ k)(ha:Ag n ρ a):
  ∃ρ' v,k ρ'/\Ag n ρ' (a.put o.dst v)/\∀w,C w->o.quietAt P a C w v:=by
 unfold xN at h
 cases hc:(!cZ o.op&&(AM o.op).all ρ.kz)with
 |false=>simp[hc]at h
 |true=>
  simp only[hc,cond_true]at h;simp only[and_eq_true,not_eq_true']at hc;have he:=jV ha hc.1 hc.2;have fin:∀s:oB,oT ρ.ev o=s->Xq P C s.dJ (λv=>iV n ρ o.dst v k)->∃ρ' v,k ρ'/\Ag n ρ' (a.put o.dst v)/\∀w,C w->o.quietAt P a C w v:=by
   intro s hs hx;obtain⟨v,h1,h2⟩:=hx;obtain⟨ρ',h3,h4⟩:=kB h2 ha;exact⟨ρ',v,h3,h4,λw hw=>by unfold Oper.quietAt;rw[he,hs];exact h1 w hw⟩
  cases hs:oT ρ.ev o with
  |now v=>
   rw[hs]at h;obtain⟨ρ',h3,h4⟩:=kB h ha;exact⟨ρ',v,h3,h4,λw hw=>by unfold Oper.quietAt;rw[he,hs];exact⟨rfl,rfl⟩⟩
  |val s=>rw[hs]at h;exact fin _ hs h
  |unit s=>rw[hs]at h;exact fin _ hs h
  |bV s=>rw[hs]at h;exact fin _ hs h
  |call f args=>rw[hs]at h;exact fin _ hs h
  |H7 s=>rw[hs]at h;exact fin _ hs h
theorem lC{C:WP}{ops:Array Oper}{rest:List Oper}{Q:Act->Prop}:
  ∀(l:List Oper) (ρ:Env) (a:Act) (k:Env->Prop),pN P n C l ρ k->Ag n ρ a->
  (∀a',Fr (bS l) a a'->∀o∈l,Region.wanted o (yielded ops a'.tmps)=true)->
  (∀ρ' a',Ag n ρ' a'->a'.defers=a.defers->Fr (bS l) a a'->k ρ'->wpQuiet P ops C Q rest a')->wpQuiet P ops C Q (l++rest) a
 |[],ρ,a,k,h,ha,_,hk=>hk ρ a ha rfl (Fr.refl _ _) h
 |o::l,ρ,a,k,h,ha,hw,hk=>by
  obtain⟨ρ',v,h1,h2,h3⟩:=xT h ha;show(if Region.wanted o (yielded ops a.tmps)then _ else _)
  rw[if_pos (hw a (Fr.refl _ _) o (mem_cons_self ..))];refine⟨v,h3,lC l ρ' _ k h1 h2 (λdt dk o' fj=>hw dt (((Fr.put a o.dst v).trans dk).mono (fA o l)) o' (mem_cons_of_mem _ fj)) ?_⟩;intro ρ'' dt bI bL dk jW;exact hk ρ'' dt bI (by rw[bL,gA]) (((Fr.put a o.dst v).trans dk).mono (fA o l)) jW
theorem ng{C:WP}{ops:Array Oper}{rest:List Oper}{Q:Act->Prop}:∀(l:List Oper) (a:Act),
  (∀a',Fr (bS l) a a'->∀o∈l,Region.wanted o (yielded ops a'.tmps)=false)->wpQuiet P ops C Q rest (skip l a)->wpQuiet P ops C Q (l++rest) a
 |[],a,_,h=>h
 |o::l,a,hw,h=>by
  show(if Region.wanted o (yielded ops a.tmps)then _ else _)
  rw[if_neg (by rw[hw a (Fr.refl _ _) o (mem_cons_self ..)];simp)];exact ng l (a.put o.dst undef) (λa' hf o' fj=>hw a' (((Fr.put a o.dst undef).trans hf).mono (fA o l)) o' (mem_cons_of_mem _ fj)) h
theorem pS{C:WP}{l:List Oper}{lv:List Nat}{Q:Act->Prop}:
  ∀(gs:List Dt) (ρ:Env) (a:Act) (k:Env->Prop),xO P n C l lv gs ρ k->Ag n ρ a->(∀g∈gs,∀o∈g.2,o.guard=g.1)->
  (∀ρ' a',Ag n ρ' a'->a'.defers=a.defers->Fr (bS (gs.flatMap (·.2))) a a'->k ρ'->Q a')->wpQuiet P l.toArray C Q (gs.flatMap (·.2)) a
 |[],ρ,a,k,h,ha,_,hk=>hk ρ a ha rfl (Fr.refl _ _) h
 |(g,os)::gs,ρ,a,k,h,ha,hg,hk=>by
  have fU:∀t,t∈bS os++bS (gs.flatMap (·.2))->t∈bS (((g,os)::gs).flatMap (·.2)):=by
   intro t ht;simpa[bS]using ht
  rw[List.flatMap_cons]
  cases g with
  |none=>
   refine lC os ρ a _ h ha ?_ ?_
   .intro a' _ o ho;have:=hg _ (mem_cons_self ..) o ho;simp[Region.wanted,show o.guard=none from this]
   .intro ρ' a' fH eg hf jW;refine pS gs ρ' a' k jW fH (λg' rE=>hg g' (mem_cons_of_mem _ rE)) ?_;intro ρ'' dt bI bL dk jX;exact hk ρ'' dt bI (by rw[bL,eg]) ((hf.trans dk).mono fU) jX
  |some jb=>
   obtain⟨j,b⟩:=jb;unfold xO at h
   cases ht:oD l j with
   |none=>rw[ht]at h;exact h.elim
   |some t=>
    rw[ht]at h;simp only[]at h;have vY:((l.toArray)[j]?).bind (·.dst)=some t:=by rw[←mP];exact ht
    cases hc:(ρ.has t&&!(bS os).contains t&&(bS os).all (λs=>blt s n))with
    |false=>rw[hc]at h;exact h.elim
    |true=>
     rw[hc]at h;simp only[cond_true]at h;simp only[and_eq_true,not_eq_true',all_eq_true]at hc;obtain⟨⟨h1,h2⟩,h3⟩:=hc;have jI:t∉bS os:=by simpa using h2
     have bO:∀s∈bS os,s<n:=λs hs=>by have:=h3 s hs;simpa[Nat.blt_eq]using this
     obtain⟨K,IW,rF⟩:=h;have fz:=(ha.at h1).2;have behind:∀(f:Nat->Va) (a':Act),a'.tmps.size=n->a'.defers=a.defers->Fr (bS os) a a'->
       (∀s∈mc ((bS os).filter (tB gs++dD l gs++lv).contains),a'.tmps[s]?=some (f s))->
       K ((mc ((bS os).filter (tB gs++dD l gs++lv).contains)).map f)->wpQuiet P l.toArray C Q (gs.flatMap (·.2)) a':=by
      intro f a' tR eg hf ho jW;refine pS gs _ a' k (Eq.mp (pM _ _) (IW _ jW)) (Ag.new f ha tR hf ho) (λg' rE=>hg g' (mem_cons_of_mem _ rE)) ?_;intro ρ'' dt bI bL dk jX;exact hk ρ'' dt bI (by rw[bL,eg]) ((hf.trans dk).mono fU) jX
     unfold Gd at rF;split at rF
     .rename_i c hv
      rw[hv]at fz;by_cases rG:c=b
      .refine lC os ρ a _ (rF.1 rG) ha ?_ ?_
       .intro a' hf o ho;rw[gp (hg _ (mem_cons_self ..) o ho) vY (by rw[hf t jI];exact fz),rG];simp
       .intro ρ' a' fH eg hf jW;obtain⟨g1,g2⟩:=fN jW;exact behind ρ'.at a' fH.size eg hf (λs hs=>(fH.at (g1 s hs)).2) g2
      .have xS:c=!b:=by cases c<;>cases b<;>simp_all
       refine ng os a ?_ ?_
       .intro a' hf o ho;rw[gp (hg _ (mem_cons_self ..) o ho) vY (by rw[hf t jI];exact fz)];simpa using rG
       .refine behind (λ_=>undef) (skip os a) (by rw[fy];exact ha.size) (ez os a) (gL os a) ?_ (rF.2 xS);intro s hs;have hm:=(mem_filter.1 (gh hs)).1;exact iB os a s hm (by rw[ha.size];exact bO s hm)
     .rename_i hv
      refine ng os a ?_ ?_
      .intro a' hf o ho;exact lB (hg _ (mem_cons_self ..) o ho) vY (by rw[hf t jI];exact fz) hv
      .refine behind (λ_=>undef) (skip os a) (by rw[fy];exact ha.size) (ez os a) (gL os a) ?_ rF;intro s hs;have hm:=(mem_filter.1 (gh hs)).1;exact iB os a s hm (by rw[ha.size];exact bO s hm)
section
variable {Q:Exit->Act->WP}{S:WP}
def rH(ps:List Nat)(l:List Oper)(S:WP)(i:Nat)(w w':Wd):Prop:=
 match l[i]? with
 |some o=>match eX ps o with|true=>S w->S w'|false=>cG l i=true->S w'
 |none=>S w->S w'
def Any(P:Program)(ps:List Nat)(l:List Oper)(S:WP)(Q:Exit->Act->WP):Nat->Array Bool->Act->WP
 |0,done,a,w=>Region.ready .any l.toArray done=[]/\Q .normal a w
 |f+1,done,a,w=>(Region.ready .any l.toArray done=[]->Q .normal a w)/\
  ∀i∈Region.ready .any l.toArray done,wpOp P l.toArray Q i (λa' w'=>rH ps l S i w w'/\Any P ps l S Q f (done.setIfInBounds i true) a' w') a w
theorem Any.wpAny{ps:List Nat}{l:List Oper}:∀(f:Nat) (done:Array Bool) (a:Act) (w:Wd),Any P ps l S Q f done a w->wpAny P .any l.toArray Q f done a w
 |0,_,_,_,h=>h
 |f+1,_,_,_,h=>⟨h.1,λi hi=>wpOp_mono (λa' w' h'=>Any.wpAny f _ a' w' h'.2) (h.2 i hi)⟩
def Cl(ops:Array Oper)(done:Array Bool):Prop:=∀(j:Nat) (o:Oper),ops[j]?=some o->done.getD j false=true->∀e∈o.after,Region.binds .any e=true->done.getD e.on false=true
theorem Cl.set{ops:Array Oper}{done:Array Bool}(h:Cl ops done){i:Nat}(hi:i∈Region.ready .any ops done):Cl ops (done.setIfInBounds i true):=by
 intro j o hj hd e he hb;by_cases tS:i=j
 .subst tS;obtain⟨_,o',fj,eY⟩:=mem_ready.1 hi;rw[hj]at fj;cases fj
  exact getD_set_true (eY e he hb)
 .rw[getD_set_ne false tS]at hd;exact getD_set_true (h j o hj hd e he hb)
def Y3(done:Array Bool)(o:Oper)(l:List Nat):Prop:=(∀e∈o.after,Region.binds .any e=true->done.getD e.on false=true)->∀i∈l,done.getD i false=true
theorem nh{ops:List Oper}{done:Array Bool}(jY:Cl ops.toArray done):∀(l pre:List Oper) (acc:List (List Nat)),ops=pre++l->acc.length=pre.length->
  (∀j o,pre[j]?=some o->Y3 done o (acc.getD j []))->∀j o,ops[j]?=some o->Y3 done o ((pO l acc).getD j [])
 |[],pre,acc,he,hlen,h,j,o,ho=>by
  rw[List.append_nil]at he;subst he;exact h j o ho
 |x::l,pre,acc,he,hlen,h,j,o,ho=>by
  refine nh jY l (pre++[x]) _ (by rw[he];simp) (by simp[hlen]) ?_ j o ho;intro j' o' fj;rcases lt_or_ge j' pre.length with bO|Bn
  .rw[List.getElem?_append_left bO]at fj;have:(acc++[mc ((x.after.toList.filter AN).flatMap λe=>e.on::acc.getD e.on [])]).getD j' []=acc.getD j' []:=by
    simp[List.getElem?_append_left (show j'<acc.length by rw[hlen];exact bO)]
   rw[this];exact h j' o' fj
  .have ox:j'=pre.length:=by
    rcases lt_or_ge j' (pre++[x]).length with h1|h1
    .simp at h1;omega
    .rw[List.getElem?_eq_none h1]at fj;cases fj
   subst ox;simp at fj
   subst fj;have:(acc++[mc ((x.after.toList.filter AN).flatMap λe=>e.on::acc.getD e.on [])]).getD pre.length []=mc ((x.after.toList.filter AN).flatMap λe=>e.on::acc.getD e.on []):=by
    rw[←hlen];simp
   rw[this];intro eY i hi;obtain⟨e,vZ,IX⟩:=List.mem_flatMap.1 (gh hi);obtain⟨Ss,hb⟩:=mem_filter.1 vZ;have hd:=eY e (by simpa using Ss) hb;rcases mem_cons.1 IX with rfl|IX
   .exact hd
   .cases hx:pre[e.on]? with
    |none=>
     have:acc.getD e.on []=[]:=by
      have:acc.length<=e.on:=by
       rw[hlen];rcases lt_or_ge e.on pre.length with h1|h1
       .simp[h1]at hx
       .exact h1
      simp[List.getElem?_eq_none this]
     rw[this]at IX;cases IX
    |some p=>
     have hp:(ops.toArray)[e.on]?=some p:=by
      have hl:e.on<pre.length:=by
       rcases lt_or_ge e.on pre.length with h1|h1
       .exact h1
       .rw[List.getElem?_eq_none h1]at hx;cases hx
      rw[List.getElem?_toArray,he,List.getElem?_append_left hl];exact hx
     exact h e.on p hx (λe' Su eF=>jY e.on p hp hd e' Su eF) i IX
theorem xU{l:List Oper}{done:Array Bool}(jY:Cl l.toArray done){j i:Nat}{o:Oper}(hj:l[j]?=some o)
  (eY:∀e∈o.after,Region.binds .any e=true->done.getD e.on false=true) (h:IV l j i=true):done.getD i false=true:=
 nh jY l [] [] rfl rfl (λj o h=>by simp at h) j o hj eY i (by unfold IV at h;simpa using h)
theorem jA{l:List Oper}{i:Nat}{o:Oper}(h:l[i]?=some o):i<l.length:=by
 rcases lt_or_ge i l.length with h'|h'
 .exact h'
 .rw[List.getElem?_eq_none h']at h;cases h
theorem beq_false{i j:Nat}(h:i≠j):beq i j=false:=by
 cases Fg:beq i j with
 |false=>rfl
 |true=>exact absurd (Nat.eq_of_beq_eq_true Fg) h
theorem Bp{l:List Oper}{done:Array Bool}(jY:Cl l.toArray done){i j:Nat}{oi:Oper}(hi:l[i]?=some oi)(hr:dP oi.op=true)(tC:i≠j)
  (xV:done.getD i false=false) (hj:j∈Region.ready .any l.toArray done):cG l j=true:=by
 unfold cG;rw[List.any_eq_true];refine⟨i,mem_range.2 (jA hi),?_⟩;obtain⟨_,oj,Rh,eY⟩:=mem_ready.1 hj;have rI:IV l j i=false:=by
  cases ha:IV l j i with
  |false=>rfl
  |true=>rw[xU jY (by simpa using Rh) eY ha]at xV;cases xV
 simp[hi,hr,rI,beq_false tC]
theorem tT{done:Array Bool}{i:Nat}(h:done.getD i true=false):done.getD i false=false:=by
 rcases lt_or_ge i done.size with h'|h'
 .simp[h']at h⊢;exact h
 .simp[Array.getElem?_eq_none h']
theorem Any.first{ps:List Nat}{l:List Oper}{i:Nat}{oi:Oper}{v:Va}{T:WP}(hi:l[i]?=some oi)(mC:eX ps oi=true)(hT:∀w,(dP oi.op=true->S w)->T w)
  (ib:∀(j:Nat) (o:Oper) cs b,l[j]?=some o->o.op≠.select cs b)
  (hQ:∀c a w,Q (.panic c) (a.put oi.dst v) w->Q (.panic c) a w):
  ∀(f:Nat) (done:Array Bool) (a:Act) (w:Wd),Cl l.toArray done->
   (∀j oj,l[j]?=some oj->j≠i->done.getD j true=false->(∀e∈oj.after,Region.binds .any e=true->e.on≠i)->oi.apart l.toArray oj=true)->
   i∈Region.ready .any l.toArray done->YieldsIf P l.toArray T oi v a->(dP oi.op=true->S w)->
   Any P ps l S Q f (done.setIfInBounds i true) (a.put oi.dst v) w->Any P ps l S Q (f+1) done a w:=by
 have IY:(l.toArray)[i]?=some oi:=by simpa using hi
 have Y4:∀w,rH ps l S i w w:=λw=>by simp only[rH,hi,mC];exact id
 intro f;induction f with
 |zero=>
  intro done a w _ _ hr hy hS H;refine⟨λh=>(by rw[h]at hr;cases hr),λj hj=>?_⟩;by_cases tS:j=i
  .subst tS;exact hy.wpOp IY (hT w hS) ⟨Y4 w,H⟩
  .have:=ready_mono hj tS;rw[H.1]at this
   cases this
 |succ f ih=>
  intro done a w jY Dx hr hy hS H;refine⟨λh=>(by rw[h]at hr;cases hr),λj hj=>?_⟩;by_cases tS:j=i
  .subst tS;exact hy.wpOp IY (hT w hS) ⟨Y4 w,H⟩
  .have h1:=H.2 j (ready_mono hj tS);obtain⟨IZ,oj,Rh,eY⟩:=mem_ready.1 hj;have xV:=tT (mem_ready.1 hr).1;have jI:∀e∈oj.after,Region.binds .any e=true->e.on≠i:=λe he hb heq=>by
    have h1:=eY e he hb;rw[heq,xV]at h1;cases h1
   have Fh:l[j]?=some oj:=by simpa using Rh
   have h2:=wpOp_putIf Rh (Dx j oj Fh tS IZ jI) (λcs b=>ib i oi cs b hi) (λcs b=>ib j oj cs b Fh) hQ hy h1;have Fi:∀k ok,l[k]?=some ok->k≠i->(done.setIfInBounds j true).getD k true=false->
     (∀e∈ok.after,Region.binds .any e=true->e.on≠i)->oi.apart l.toArray ok=true:=λk ok hk hki I0 iw=>by
    refine Dx k ok hk hki ?_ iw;by_cases AP:j=k
    .subst AP;exact IZ
    .rw[getD_set_ne true AP]at I0;exact I0
   refine wpOp_mono (λa' w' h3=>⟨h3.2.1,?_⟩) h2;have Fj:dP oi.op=true->S w':=λv7=>by
    have h4:=h3.2.1;simp only[rH,Fh]at h4
    cases Y5:eX ps oj with
    |true=>rw[Y5]at h4;exact h4 (hS v7)
    |false=>rw[Y5]at h4;exact h4 (Bp jY hi v7 (Ne.symm tS) xV hj)
   refine ih (done.setIfInBounds j true) a' w' (jY.set hj) Fi (ready_mono hr (Ne.symm tS)) h3.1 Fj ?_;rw[Array.setIfInBounds_comm _ _ tS];exact h3.2.2
def PI(rs:List Nat)(Q:Exit->Act->WP):Prop:=∀c a w d v,d∉rs->Q (.panic c) (a.put (some d) v) w->Q (.panic c) a w
structure Dn(l:List Oper)(done:List Nat)(arr:Array Bool):Prop where
 size:arr.size=l.length
 val:∀j,arr.getD j false=done.contains j
theorem Dn.set{l:List Oper}{done:List Nat}{arr:Array Bool}(h:Dn l done arr){i:Nat}{o:Oper}(hi:l[i]?=some o):Dn l (i::done) (arr.setIfInBounds i true) where
 size:=by simp[h.size]
 val:=by
  intro j;have bO:=jA hi;by_cases hj:i=j
  .subst hj;simp[h.size,bO]
  .rw[getD_set_ne false hj,h.val j,contains_cons];have:(j==i)=false:=by simp;exact λe=>hj e.symm
   simp[this]
theorem Dn.ready{l:List Oper}{done:List Nat}{arr:Array Bool}(h:Dn l done arr)(j:Nat):j∈Region.ready .any l.toArray arr↔j∈xm l done:=by
 rw[mem_ready];unfold xm;simp only[mem_filter,mem_range,and_eq_true,not_eq_true'];constructor
 .rintro⟨h1,o,ho,eY⟩;have fj:l[j]?=some o:=by simpa using ho
  refine⟨jA fj,?_,?_⟩
  .rw[←h.val j];exact tT h1
  .rw[fj];simp only[all_eq_true,or_eq_true,not_eq_true'];intro e he
   cases hb:AN e with
   |false=>exact .inl rfl
   |true=>right;rw[←h.val];exact eY e (by simpa using he) hb
 .rintro⟨h1,h2,h3⟩;rw[←h.val j]at h2;refine⟨?_,?_⟩
  .have:j<arr.size:=by rw[h.size];exact h1
   simp[this]at h2⊢;exact h2
  .cases ho:l[j]? with
   |none=>rw[ho]at h3;cases h3
   |some o=>
    rw[ho]at h3;simp only[all_eq_true,or_eq_true,not_eq_true']at h3;refine⟨o,by simpa using ho,λe he hb=>?_⟩;rcases h3 e (by simpa using he)with h'|h'
    .unfold AN at h';rw[hb]at h';cases h'
    .rw[h.val];exact h'
theorem kC{l:List Oper}{x y:Oper}(h:pP l x y=true):x.apart l.toArray y=true:=by
 have look:∀(o:Oper) (d:Nat),(o.looksAt l.toArray).contains d=true->cZ o.op=false->
   (gV l o).contains d=true:=by
  intro o d hd hs;unfold gV;simp only[Oper.looksAt,List.contains_eq_mem,mem_append,List.mem_filterMap,decide_eq_true_eq]at hd⊢;rcases hd with⟨x,hx,Y6⟩|hd
  .left
   unfold Bg;rw[List.mem_flatMap];refine⟨x,rz (λcs b h=>by rw[h]at hs;cases hs) (by simpa using hx),?_⟩
   cases x<;>simp at Y6
   subst Y6;simp[tm]
  .right
   cases hg:o.guard with
   |none=>rw[hg]at hd;cases hd
   |some p=>
    obtain⟨g,b⟩:=p;rw[hg]at hd;simp only[mP]at hd⊢;exact hd
 unfold pP at h;simp only[and_eq_true,not_eq_true']at h;obtain⟨⟨⟨hx,hy⟩,h1⟩,h2⟩:=h;unfold Oper.apart;simp only[and_eq_true];constructor
 .cases hd:x.dst with
  |none=>rfl
  |some d=>
   rw[hd]at h1;simp only[and_eq_true,not_eq_true']at h1⊢;refine⟨?_,?_⟩
   .cases hc:(y.looksAt l.toArray).contains d with
    |false=>rfl
    |true=>rw[look y d hc hy]at h1;cases h1.1
   .cases he:y.dst with
    |none=>rfl
    |some e=>
     rw[he]at h1;have:=h1.2;simp at this
     simp only[bne_iff_ne,ne_eq,Option.some.injEq];exact λh=>this h.symm
 .cases hd:y.dst with
  |none=>rfl
  |some d=>
   rw[hd]at h2;simp only[not_eq_true']at h2⊢
   cases hc:(x.looksAt l.toArray).contains d with
   |false=>rfl
   |true=>rw[look x d hc hx]at h2;cases h2
theorem mg{rs:List Nat}{l:List Oper}{i:Nat}{o:Oper}{done:List Nat}{arr:Array Bool}{a:Act}{w:Wd}{v:Va}{f:Nat}{T:WP}
  (hO:PI rs Q) (hi:l[i]?=some o) (mC:eX rs o=true) (iW:(xm l done).contains i=true)
  (Ri:vd rs l done i o=true)
  (ib:∀(j:Nat) (o:Oper) cs b,l[j]?=some o->o.op≠.select cs b)
  (hT:∀w,(dP o.op=true->S w)->T w)
  (lE:Dn l done arr) (jY:Cl l.toArray arr) (hy:YieldsIf P l.toArray T o v a) (hS:dP o.op=true->S w)
  (h:Any P rs l S Q f (arr.setIfInBounds i true) (a.put o.dst v) w):Any P rs l S Q (f+1) arr a w:=by
 unfold vd at Ri;simp only[and_eq_true]at Ri;refine Any.first hi mC hT ib ?_ f arr a w jY ?_ ((lE.ready i).2 (by simpa using iW)) hy hS h
 .intro c a' w' hq
  cases hd:o.dst with
  |none=>rw[hd]at hq;exact hq
  |some d=>
   rw[hd]at hq;refine hO c a' w' d v ?_ hq;have:=Ri.1;rw[hd]at this;simpa using this
 .intro j oj hj tS xV iw;have h2:=all_eq_true.1 Ri.2 j (mem_range.2 (jA hj));simp only[beq_false tS,hj,Bool.false_or,or_eq_true]at h2;rcases h2 with h2|h2
  .rw[←lE.val j,tT xV]at h2;cases h2
  .rcases h2 with h2|h2
   .simp only[List.any_eq_true,and_eq_true]at h2;obtain⟨e,he,hb,ho⟩:=h2;exact absurd (Nat.eq_of_beq_eq_true ho) (iw e (by simpa using he) hb)
   .exact kC h2
theorem iC{rs:List Nat}{l:List Oper}{i:Nat}{is done:List Nat}(h:eE rs l (i::is) done=true):
  ∃o,l[i]?=some o/\(xm l done).contains i=true/\cZ o.op=false/\eE rs l is (i::done)=true/\
   (eX rs o=true->vd rs l done i o=true)/\
   (eX rs o=false->xm l done=[i]):=by
 unfold eE at h
 cases ho:l[i]? with
 |none=>rw[ho]at h;cases h
 |some o=>
  rw[ho]at h;simp only[and_eq_true,not_eq_true']at h;obtain⟨⟨⟨h1,h2⟩,h3⟩,h4⟩:=h;refine⟨o,rfl,h1,h2,h4,?_,?_⟩
  .intro hs;rw[hs]at h3;exact h3
  .intro hs;rw[hs]at h3
   cases hr:xm l done with
   |nil=>rw[hr]at h1;simp at h1
   |cons x xs=>
    rw[hr]at h3 h1
    cases xs with
    |nil=>simp at h1;rw[h1]
    |cons _ _=>cases h3
theorem xW{l:List Oper}{i:Nat}{o:Oper}{a:Act}{w:Wd}{K:Act->WP}(hi:l[i]?=some o)
  (hw:Region.wanted o (yielded l.toArray a.tmps)=true) (h:o.wp P a w K Q):wpOp P l.toArray Q i K a w:=by
 unfold wpOp;simp only[List.getElem?_toArray,hi,hw,if_true];exact .inl h
theorem Bq{l:List Oper}{i:Nat}{o:Oper}{a:Act}{w:Wd}{K:Act->WP}(hi:l[i]?=some o)
  (hw:Region.wanted o (yielded l.toArray a.tmps)=false) (h:K (a.put o.dst undef) w):wpOp P l.toArray Q i K a w:=by
 unfold wpOp;simp only[List.getElem?_toArray,hi,hw,false_eq_true,if_false];exact h
theorem Any.one{rs:List Nat}{l:List Oper}{i:Nat}{done:List Nat}{arr:Array Bool}{a:Act}{w:Wd}{f:Nat}(lE:Dn l done arr)(hr:xm l done=[i])
  (h:wpOp P l.toArray Q i (λa' w'=>rH rs l S i w w'/\Any P rs l S Q f (arr.setIfInBounds i true) a' w') a w):Any P rs l S Q (f+1) arr a w:=by
 have key:∀j,j∈Region.ready .any l.toArray arr↔j=i:=λj=>by rw[lE.ready j,hr];simp
 refine⟨λh0=>?_,λj hj=>?_⟩
 .have:=(key i).2 rfl;rw[h0]at this;cases this
 .rw[(key j).1 hj];exact h
theorem jZ{rs:List Nat}{l:List Oper}(hO:PI rs Q)(ib:∀(j:Nat) (o:Oper) cs b,l[j]?=some o->o.op≠.select cs b){e:List PanicEntry->Env->M.D->WP}:
  ∀(is rest:List Nat) (f:Nat) (done:List Nat) (arr:Array Bool) (sk:Bool) (ρ:Env) (d:M.D) (w:Wd) (a:Act) (k:Env->M.D->WP),
  iA P M n S rs l is sk ρ d w k e->Ag n ρ a->a.defers=M.get d->eE rs l (is++rest) done=true->Dn l done arr->Cl l.toArray arr->(sk=true->S w)->
  (∀a',Fr (bS (cP l is)) a a'->∀o∈cP l is,Region.wanted o (yielded l.toArray a'.tmps)=true)->
  (∀ρ' d' w' a' fw gW,Ag n ρ' a'->a'.defers=M.get d'->Fr (bS (cP l is)) a a'->Dn l fw gW->Cl l.toArray gW->eE rs l rest fw=true->
   (H8 rs l is sk=true->S w')->k ρ' d' w'->Any P rs l S Q f gW a' w')->
  (∀c ρ' d' w' a',Ag n ρ' a'->a'.defers=M.get d'->Fr (bS (cP l is)) a a'->e c ρ' d' w'->Q (.panic c) a' w')->
  Any P rs l S Q (is.length+f) arr a w
 |[],rest,f,done,arr,sk,ρ,d,w,a,k,h,ha,hd,iW,lE,jY,hS,hw,hk,he=>by
  simpa using hk ρ d w a done arr ha hd (Fr.refl _ _) lE jY iW hS h
 |i::is,rest,f,done,arr,sk,ρ,d,w,a,k,h,ha,hd,iW,lE,jY,hS,hw,hk,he=>by
  obtain⟨o,hi,hr,Y7,lG,Fk,Fl⟩:=iC iW;have Fm:cP l (i::is)=o::cP l is:=by simp[cP,hi]
  rw[Fm]at hw hk he;have lH:Cl l.toArray (arr.setIfInBounds i true):=jY.set ((lE.ready i).2 (by simpa using hr));have lI:=lE.set hi;have hlen:(i::is).length+f=(is.length+f)+1:=by simp;omega
  rw[hlen];unfold iA at h;rw[hi]at h;simp only[]at h
  cases hc:(sk||!dP o.op)with
  |false=>rw[hc]at h;exact h.elim
  |true=>
   rw[hc]at h;simp only[cond_true]at h;have hSr:dP o.op=true->S w:=λhr=>hS (by rw[hr]at hc;simpa using hc);have I1:=hw a (Fr.refl _ _) o (mem_cons_self ..);have next:∀(ρ':Env) (d':M.D) (w':Wd) (a':Act),Ag n ρ' a'->a'.defers=M.get d'->Fr o.dst.toList a a'->(jO rs l i o sk=true->S w')->
     iA P M n S rs l is (jO rs l i o sk) ρ' d' w' k e->Any P rs l S Q (is.length+f) (arr.setIfInBounds i true) a' w':=by
    intro ρ' d' w' a' fH eg hf tR h';refine jZ hO ib is rest f (i::done) _ _ ρ' d' w' a' k h' fH eg lG lI lH tR ?_ ?_ ?_
    .intro dt dk o' fj;exact hw dt ((hf.trans dk).mono (fA o _)) o' (mem_cons_of_mem _ fj)
    .intro ρ'' dG dE dt Fp I2 bI bL dk I3 I4 I5 Sv jX;refine hk ρ'' dG dE dt Fp I2 bI bL ((hf.trans dk).mono (fA o _)) I3 I4 I5 ?_ jX;intro Sw;refine Sv ?_
     unfold H8 at Sw;rw[hi]at Sw;exact Sw
    .intro c ρ'' dG dE dt bI bL dk h'';exact he c ρ'' dG dE dt bI bL ((hf.trans dk).mono (fA o _)) h''
   unfold Du at h
   cases mC:eX rs o with
   |true=>
    rw[mC]at h;simp only[]at h;have tU:jO rs l i o sk=sk:=by unfold jO;rw[mC]
    cases I6:(AM o.op).all ρ.kz with
    |false=>rw[I6]at h;exact h.elim
    |true=>
     rw[I6]at h;simp only[cond_true]at h;have Fq:=jV ha Y7 I6;have fin:∀(v:Va) (T:WP),(∀w,(dP o.op=true->S w)->T w)->(∀w,T w->(execOp a.eval o).run P w=.ok (.value v) w)->
       iV n ρ o.dst v (λρ=>iA P M n S rs l is (jO rs l i o sk) ρ d w k e)->Any P rs l S Q ((is.length+f)+1) arr a w:=by
      intro v T hT hv hp;obtain⟨ρ',h1,h2⟩:=kB hp ha;refine mg hO hi mC hr (Fk mC) ib hT lE jY (.inl ⟨I1,hv⟩) hSr ?_;exact next ρ' d w _ h2 (by rw[gA,hd]) (Fr.put a o.dst v) (by rw[tU];exact hS) h1
     have xX:∀s:oB,oT ρ.ev o=s->(match dP o.op with
       |true=>Xs P S s.dJ λv=>iV n ρ o.dst v λρ=>iA P M n S rs l is (jO rs l i o sk) ρ d w k e
       |false=>Xs P (λ_=>True) s.dJ λv=>iV n ρ o.dst v λρ=>iA P M n S rs l is (jO rs l i o sk) ρ d w k e)->Any P rs l S Q ((is.length+f)+1) arr a w:=by
      intro s hs hx
      cases v7:dP o.op with
      |true=>
       rw[v7]at hx;obtain⟨v,h1,h2⟩:=hx;exact fin v S (λw h=>h v7) (λw hw=>by rw[Fq,hs];exact h1 w hw) h2
      |false=>
       rw[v7]at hx;obtain⟨v,h1,h2⟩:=hx;exact fin v (λ_=>True) (λ_ _=>trivial) (λw hw=>by rw[Fq,hs];exact h1 w hw) h2
     cases hs:oT ρ.ev o with
     |now v=>rw[hs]at h;exact fin v (λ_=>True) (λ_ _=>trivial) (λw _=>by rw[Fq,hs];rfl) h
     |val s=>rw[hs]at h;exact xX _ hs h
     |unit s=>rw[hs]at h;exact xX _ hs h
     |bV s=>rw[hs]at h;exact xX _ hs h
     |call g args=>rw[hs]at h;exact xX _ hs h
     |H7 s=>rw[hs]at h;exact xX _ hs h
   |false=>
    rw[mC]at h;simp only[]at h;refine Any.one lE (Fl mC) (xW hi I1 ?_)
    cases AQ:cG l i with
    |true=>
     rw[AQ]at h;simp only[]at h;refine nd h ha hd (λρ' d' w' a' fH eg hf jW=>⟨?_,?_⟩) (λc w' h'=>he c ρ d w' a ha hd (Fr.refl _ _) h')
     .simp only[rH,hi,mC];exact λ_=>jW.1
     .exact next ρ' d' w' a' fH eg hf (λ_=>jW.1) jW.2
    |false=>
     rw[AQ]at h;simp only[]at h;refine nd h ha hd (λρ' d' w' a' fH eg hf jW=>⟨?_,?_⟩) (λc w' h'=>he c ρ d w' a ha hd (Fr.refl _ _) h')
     .simp only[rH,hi,mC,AQ];exact λh=>by cases h
     .exact next ρ' d' w' a' fH eg hf (λh=>by unfold jO at h;rw[mC,AQ]at h;cases h) jW
theorem lJ{rs:List Nat}{l:List Oper}(hO:PI rs Q)(ib:∀(j:Nat) (o:Oper) cs b,l[j]?=some o->o.op≠.select cs b):
  ∀(is rest:List Nat) (f:Nat) (done:List Nat) (arr:Array Bool) (w:Wd) (a:Act) (hS:S w\/(∀i∈is,∀o,l[i]?=some o->dP o.op=false/\(eX rs o=true\/cG l i=false))),
  eE rs l (is++rest) done=true->Dn l done arr->Cl l.toArray arr->
  (∀a',Fr (bS (cP l is)) a a'->∀o∈cP l is,Region.wanted o (yielded l.toArray a'.tmps)=false)->
  (∀fw gW,Dn l fw gW->Cl l.toArray gW->eE rs l rest fw=true->Any P rs l S Q f gW (skip (cP l is) a) w)->
  Any P rs l S Q (is.length+f) arr a w
 |[],rest,f,done,arr,w,a,hS,iW,lE,jY,hw,hk=>by simpa[cP,skip]using hk done arr lE jY iW
 |i::is,rest,f,done,arr,w,a,hS,iW,lE,jY,hw,hk=>by
  obtain⟨o,hi,hr,Y7,lG,Fk,Fl⟩:=iC iW;have Fm:cP l (i::is)=o::cP l is:=by simp[cP,hi]
  rw[Fm]at hw hk;have lH:Cl l.toArray (arr.setIfInBounds i true):=jY.set ((lE.ready i).2 (by simpa using hr));have lI:=lE.set hi;have hlen:(i::is).length+f=(is.length+f)+1:=by simp;omega
  rw[hlen];have I1:=hw a (Fr.refl _ _) o (mem_cons_self ..);have next:Any P rs l S Q (is.length+f) (arr.setIfInBounds i true) (a.put o.dst undef) w:=by
   refine lJ hO ib is rest f (i::done) _ w _ (hS.imp id λh j hj=>h j (mem_cons_of_mem _ hj)) lG lI lH ?_ ?_
   .intro dt dk o' fj;exact hw dt (((Fr.put a o.dst undef).trans dk).mono (fA o _)) o' (mem_cons_of_mem _ fj)
   .exact hk
  cases mC:eX rs o with
  |true=>
   refine mg (T:=λw=>dP o.op=true->S w) hO hi mC hr (Fk mC) ib (λ_ h=>h) lE jY (.inr ⟨I1,rfl⟩) (λv7=>?_) next;rcases hS with h|h
   .exact h
   .rw[(h i (mem_cons_self ..) o hi).1]at v7;cases v7
  |false=>
   refine Any.one lE (Fl mC) (Bq hi I1 ⟨?_,next⟩);simp only[rH,hi,mC];intro AQ;rcases hS with h|h
   .exact h
   .rcases(h i (mem_cons_self ..) o hi).2 with h'|h'
    .rw[mC]at h';cases h'
    .rw[AQ]at h';cases h'
end
theorem vg:∀(l:List Nat) (k:List Nat->Bool),xQ l k=k l
 |[],_=>rfl
 |p::l,k=>vg l λl'=>k (p::l')
theorem vh:∀(l:List Row) (k:List Row->Bool),Bj l k=k l
 |[],_=>rfl
 |(a,b,c)::l,k=>by
  unfold Bj;simp only[vg];exact vh l λl'=>k ((a,b,c)::l')
theorem kD(d:Nat):∀l:List Nat,tQ d l=true↔d∈l
 |[]=>by simp[tQ]
 |a::l=>by
  unfold tQ
  cases h:beq d a with
  |true=>simp[Nat.eq_of_beq_eq_true h]
  |false=>simp only[mem_cons,kD d l];simp[Nat.ne_of_beq_eq_false h]
theorem kE:∀(l m:List Nat),meet l m=true↔∃a,a∈l/\a∈m
 |[],m=>by simp[meet]
 |a::l,m=>by
  unfold meet
  cases h:tQ a m with
  |true=>simp only[true_iff];exact⟨a,by simp,(kD a m).1 h⟩
  |false=>
   simp only[kE l m,mem_cons];have h':a∉m:=λhm=>by rw[(kD a m).2 hm]at h;cases h
   constructor
   .rintro⟨b,h1,h2⟩;exact⟨b,.inr h1,h2⟩
   .rintro⟨b,rfl|h1,h2⟩
    .exact absurd h2 h'
    .exact⟨b,h1,h2⟩
theorem v8{l:List Oper}{x y:Oper}(hx:cZ x.op=false)(hy:cZ y.op=false)(h:Re (rowOf l x) (rowOf l y)=true):x.apart l.toArray y=true:=by
 apply kC
 unfold Re at h;split at h
 .cases h
 .rename_i h1
  split at h
  .cases h
  .rename_i h2
   replace h1:meet x.dst.toList (gV l y)=false:=by cases h0:meet x.dst.toList (gV l y)with|false=>rfl|true=>exact absurd (h1.symm.trans h0) ak
   replace h2:meet x.dst.toList y.dst.toList=false:=by cases h0:meet x.dst.toList y.dst.toList with|false=>rfl|true=>exact absurd (h2.symm.trans h0) ak
   replace h:(!meet y.dst.toList (gV l x))=true:=h;have n1:¬∃a,a∈x.dst.toList/\a∈gV l y:=λe=>by rw[(kE _ _).2 e]at h1;cases h1
   have n2:¬∃a,a∈x.dst.toList/\a∈y.dst.toList:=λe=>by rw[(kE _ _).2 e]at h2;cases h2
   have n3:¬∃a,a∈y.dst.toList/\a∈gV l x:=λe=>by rw[(kE _ _).2 e]at h;cases h
   unfold pP;simp only[hx,hy,Bool.not_false,Bool.true_and,and_eq_true];constructor
   .cases hd:x.dst with
    |none=>rfl
    |some d=>
     simp only[and_eq_true,not_eq_true'];constructor
     .rw[List.contains_eq_mem];exact decide_eq_false λhm=>n1 ⟨d,by simp[hd],hm⟩
     .rw[List.contains_eq_mem];exact decide_eq_false λhm=>n2 ⟨d,by simp[hd],hm⟩
   .cases hd:y.dst with
    |none=>rfl
    |some d=>
     simp only[not_eq_true'];rw[List.contains_eq_mem];exact decide_eq_false λhm=>n3 ⟨d,by simp[hd],hm⟩
theorem j0{k:Nat}{r:Row}:∀{l:List Row},rB k r l=true->∀s∈l,k∈s.2.2\/Re r s=true
 |[],_,s,hs=>by cases hs
 |t::l,h,s,hs=>by
  unfold rB at h;split at h
  .rename_i h1
   rcases mem_cons.1 hs with rfl|hs
   .exact .inl ((kD _ _).1 h1)
   .exact j0 h s hs
  .split at h
   .rename_i h2
    rcases mem_cons.1 hs with rfl|hs
    .exact .inr h2
    .exact j0 h s hs
   .cases h
theorem ni{k:Nat}:∀{l:List Nat},vf k l=true->∀a∈l,a<k
 |[],_,a,ha=>by cases ha
 |b::l,h,a,ha=>by
  unfold vf at h;split at h
  .rename_i h1
   rcases mem_cons.1 ha with rfl|ha
   .exact le_of_ble_eq_true h1
   .exact ni h a ha
  .cases h
theorem wc{l:List Oper}(hs:∀o∈l,cZ o.op=false):∀(fuel k:Nat) (arr:Array Bool),k+fuel=l.length->arr.size=l.length->(∀j,j<l.length->arr[j]?=some (decide (j<k)))->
  Bk k ((l.drop k).map (rowOf l))=true->Region.lexFrom .any l.toArray fuel k arr=true:=by
 intro fuel;induction fuel with
 |zero=>
  intro k arr hk hz ha _;simp only[Region.lexFrom,Region.ready,List.isEmpty_iff,List.filter_eq_nil_iff,mem_range];intro i hi;have hi:i<l.length:=by simpa using hi
  have:arr.getD i true=true:=by rw[Array.getD_eq_getD_getElem?,ha i hi];simp;omega
  simp[this]
 |succ fuel ih=>
  intro k arr hk hz ha h;have bO:k<l.length:=by omega
  rw[drop_eq_getElem_cons bO,map_cons]at h;unfold Bk at h;split at h
  .cases h
  .rename_i h1
   split at h
   .cases h
   .rename_i h2
    have Y8:arr.getD k true=false:=by rw[Array.getD_eq_getD_getElem?,ha k bO];simp
    simp only[Region.lexFrom,and_eq_true];refine⟨⟨?_,?_⟩,?_⟩
    .rw[List.contains_eq_mem,decide_eq_true_eq];unfold Region.ready;rw[mem_filter];refine⟨by simpa using bO,?_⟩;simp only[Y8,Bool.not_false,Bool.true_and,List.getElem?_toArray,bO,getElem?_eq_getElem,Option.map_some,Option.getD_some];rw[Array.all_eq_true_iff_forall_mem];intro e he
     cases hb:Region.binds .any e with
     |false=>rfl
     |true=>
      have oF:e.on<k:=ni h1 e.on (mem_map.2 ⟨e,mem_filter.2 ⟨by simpa using he,hb⟩,rfl⟩);simp only[Bool.not_true,Bool.false_or];rw[Array.getD_eq_getD_getElem?,ha e.on aj];simp[oF]
    .unfold Region.free;simp only[List.getElem?_toArray,bO,getElem?_eq_getElem];rw[all_eq_true];intro j hj;have ox:j<l.length:=by simpa using hj
     rcases Nat.lt_trichotomy j k with AP|AP|AP
     .have:arr.getD j true=true:=by rw[Array.getD_eq_getD_getElem?,ha j ox];simp[AP]
      simp[this]
     .simp[AP]
     .have hm:rowOf l l[j]∈(l.drop (k+1)).map (rowOf l):=mem_map.2 ⟨l[j],List.mem_drop_iff_getElem.2 ⟨j-(k+1),by omega,by congr 1;omega⟩,rfl⟩;simp only[ox,getElem?_eq_getElem,or_eq_true];right
      rcases j0 h2 _ hm with h3|h3
      .left
       obtain⟨e,he,rfl⟩:=mem_map.1 h3;obtain⟨Ss,H9⟩:=mem_filter.1 he;rw[Array.any_eq_true'];exact⟨e,by simpa using Ss,by simpa[AN]using H9⟩
      .right
       exact v8 (hs _ (getElem_mem _)) (hs _ (getElem_mem _)) h3
    .refine ih (k+1) _ aj (by simpa using hz) ?_ h;intro j hj;by_cases AP:k=j
     .subst AP;simp[hz,hj]
     .rw[Array.getElem?_setIfInBounds_ne AP,ha j hj];congr 1
      simp only[decide_eq_decide];omega
theorem we{l:List Oper}(h:Fa l=true):Region.lexB .any l.toArray=true:=by
 unfold Fa at h;split at h
 .cases h
 .rename_i h1
  rw[vh]at h;have hs:∀o∈l,cZ o.op=false:=λo ho=>by
   have:=all_eq_true.1 h1 o ho;simpa using this
  unfold Region.lexB;rw[and_eq_true];constructor
  .unfold Region.noSelect;rw[Array.all_eq_true_iff_forall_mem];intro o ho;have:=hs o (by simpa using ho);unfold cZ at this;split at this
   .cases this
   .rename_i h2
    split
    .rename_i h3;exact absurd h3 (h2 _ _)
    .rfl
  .exact wc hs l.length 0 _ ak ak (λj hj=>by simp[hj]) (by simpa using h)
end Go.Sh


import Derived.Test.YtoddjlclpnoomaaGreatDoorU0
set_option linter.unusedVariables false
set_option linter.unusedSimpArgs false
set_option maxRecDepth 100000
open List (mem_append all_eq_true mem_cons_of_mem mem_cons_self mem_cons map_cons mem_filter mem_range contains_cons drop_eq_getElem_cons getElem?_eq_getElem mem_map getElem_mem)
open Nat (beq blt lt_or_ge le_of_ble_eq_true)
open Bool (and_eq_true not_eq_true' or_eq_true false_eq_true)
namespace Go.Sh
variable {P:Program}{M:Dm}{n:Nat}
theorem eV(o:Oper)(l:List Oper)(t:Nat):t∈o.dst.toList++bQ l->t∈bQ (o::l):=by
 intro ht;rw[mem_append]at ht;unfold bQ at*
 cases fX:o.dst with
 |none=>rw[List.filterMap_cons_none fX];rcases ht with h'|h';(simp[fX]at h');exact h'
 |some x=>rw[List.filterMap_cons_some fX];rcases ht with h'|h';(simp[fX]at h';simp[h']);exact mem_cons_of_mem _ h'
theorem vV{C:WP}{o:Oper}{ρ:Env}{a:Act}{k:Env->Prop}(h:vO P n C o ρ k)(ha:Ag n ρ a):
  ∃ρ' v,k ρ'/\Ag n ρ' (a.put o.dst v)/\∀w,C w->o.quietAt P a C w v:=by
 unfold vO at h
 cases hc:(!cT o.op&&(yQ o.op).all ρ.jD)with
 |false=>simp[hc]at h
 |true=>
  simp only[hc,cond_true]at h;simp only[and_eq_true,not_eq_true']at hc;have he:=jm ha hc.1 hc.2;have fin:∀s:nk,nD ρ.ev o=s->Xq P C s.dB (λv=>iu n ρ o.dst v k)->∃ρ' v,k ρ'/\Ag n ρ' (a.put o.dst v)/\∀w,C w->o.quietAt P a C w v:=by
   intro s hs hx;obtain⟨v,h1,h2⟩:=hx;obtain⟨ρ',h3,h4⟩:=jF h2 ha;exact⟨ρ',v,h3,h4,λw hw=>by unfold Oper.quietAt;rw[he,hs];exact h1 w hw⟩
  cases hs:nD ρ.ev o with
  |now v=>
   rw[hs]at h;obtain⟨ρ',h3,h4⟩:=jF h ha;exact⟨ρ',v,h3,h4,λw hw=>by unfold Oper.quietAt;rw[he,hs];exact⟨rfl,rfl⟩⟩
  |val s=>rw[hs]at h;exact fin _ hs h
  |unit s=>rw[hs]at h;exact fin _ hs h
  |iG s=>rw[hs]at h;exact fin _ hs h
  |call f args=>rw[hs]at h;exact fin _ hs h
  |FD s=>rw[hs]at h;exact fin _ hs h
theorem km{C:WP}{ops:Array Oper}{rest:List Oper}{Q:Act->Prop}:
  ∀(l:List Oper) (ρ:Env) (a:Act) (k:Env->Prop),ox P n C l ρ k->Ag n ρ a->
  (∀a',Fr (bQ l) a a'->∀o∈l,Region.wanted o (yielded ops a'.tmps)=true)->
  (∀ρ' a',Ag n ρ' a'->a'.defers=a.defers->Fr (bQ l) a a'->k ρ'->wpQuiet P ops C Q rest a')->wpQuiet P ops C Q (l++rest) a
 |[],ρ,a,k,h,ha,_,hk=>hk ρ a ha rfl (Fr.refl _ _) h
 |o::l,ρ,a,k,h,ha,hw,hk=>by
  obtain⟨ρ',v,h1,h2,h3⟩:=vV h ha;show(if Region.wanted o (yielded ops a.tmps)then _ else _)
  rw[if_pos (hw a (Fr.refl _ _) o (mem_cons_self ..))];refine⟨v,h3,km l ρ' _ k h1 h2 (λdh cV o' eM=>hw dh (((Fr.put a o.dst v).trans cV).mono (eV o l)) o' (mem_cons_of_mem _ eM)) ?_⟩;intro ρ'' dh bG bK cV jn;exact hk ρ'' dh bG (by rw[bK,fL]) (((Fr.put a o.dst v).trans cV).mono (eV o l)) jn
theorem ml{C:WP}{ops:Array Oper}{rest:List Oper}{Q:Act->Prop}:∀(l:List Oper) (a:Act),
  (∀a',Fr (bQ l) a a'->∀o∈l,Region.wanted o (yielded ops a'.tmps)=false)->wpQuiet P ops C Q rest (skip l a)->wpQuiet P ops C Q (l++rest) a
 |[],a,_,h=>h
 |o::l,a,hw,h=>by
  show(if Region.wanted o (yielded ops a.tmps)then _ else _)
  rw[if_neg (by rw[hw a (Fr.refl _ _) o (mem_cons_self ..)];simp)];exact ml l (a.put o.dst undef) (λa' hf o' eM=>hw a' (((Fr.put a o.dst undef).trans hf).mono (eV o l)) o' (mem_cons_of_mem _ eM)) h
theorem oD{C:WP}{l:List Oper}{lv:List Nat}{Q:Act->Prop}:
  ∀(gs:List Bn) (ρ:Env) (a:Act) (k:Env->Prop),vP P n C l lv gs ρ k->Ag n ρ a->(∀g∈gs,∀o∈g.2,o.guard=g.1)->
  (∀ρ' a',Ag n ρ' a'->a'.defers=a.defers->Fr (bQ (gs.flatMap (·.2))) a a'->k ρ'->Q a')->wpQuiet P l.toArray C Q (gs.flatMap (·.2)) a
 |[],ρ,a,k,h,ha,_,hk=>hk ρ a ha rfl (Fr.refl _ _) h
 |(g,os)::gs,ρ,a,k,h,ha,hg,hk=>by
  have fp:∀t,t∈bQ os++bQ (gs.flatMap (·.2))->t∈bQ (((g,os)::gs).flatMap (·.2)):=by
   intro t ht;simpa[bQ]using ht
  rw[List.flatMap_cons]
  cases g with
  |none=>
   refine km os ρ a _ h ha ?_ ?_
   .intro a' _ o ho;have:=hg _ (mem_cons_self ..) o ho;simp[Region.wanted,show o.guard=none from this]
   .intro ρ' a' fk dQ hf jn;refine oD gs ρ' a' k jn fk (λg' pX=>hg g' (mem_cons_of_mem _ pX)) ?_;intro ρ'' dh bG bK cV jo;exact hk ρ'' dh bG (by rw[bK,dQ]) ((hf.trans cV).mono fp) jo
  |some jb=>
   obtain⟨j,b⟩:=jb;unfold vP at h
   cases ht:nq l j with
   |none=>rw[ht]at h;exact h.elim
   |some t=>
    rw[ht]at h;simp only[]at h;have uj:((l.toArray)[j]?).bind (·.dst)=some t:=by rw[←lT];exact ht
    cases hc:(ρ.has t&&!(bQ os).contains t&&(bQ os).all (λs=>blt s n))with
    |false=>rw[hc]at h;exact h.elim
    |true=>
     rw[hc]at h;simp only[cond_true]at h;simp only[and_eq_true,not_eq_true',all_eq_true]at hc;obtain⟨⟨h1,h2⟩,h3⟩:=hc;have iX:t∉bQ os:=by simpa using h2
     have bO:∀s∈bQ os,s<n:=λs hs=>by have:=h3 s hs;simpa[Nat.blt_eq]using this
     obtain⟨K,Gi,pY⟩:=h;have fu:=(ha.at h1).2;have behind:∀(f:Nat->Va) (a':Act),a'.tmps.size=n->a'.defers=a.defers->Fr (bQ os) a a'->
       (∀s∈kR ((bQ os).filter (rG gs++dt l gs++lv).contains),a'.tmps[s]?=some (f s))->
       K ((kR ((bQ os).filter (rG gs++dt l gs++lv).contains)).map f)->wpQuiet P l.toArray C Q (gs.flatMap (·.2)) a':=by
      intro f a' rU dQ hf ho jn;refine oD gs _ a' k (Eq.mp (ov _ _) (Gi _ jn)) (Ag.new f ha rU hf ho) (λg' pX=>hg g' (mem_cons_of_mem _ pX)) ?_;intro ρ'' dh bG bK cV jo;exact hk ρ'' dh bG (by rw[bK,dQ]) ((hf.trans cV).mono fp) jo
     unfold Gd at pY;split at pY
     .rename_i c hv
      rw[hv]at fu;by_cases vT:c=b
      .refine km os ρ a _ (pY.1 vT) ha ?_ ?_
       .intro a' hf o ho;rw[fF (hg _ (mem_cons_self ..) o ho) uj (by rw[hf t iX];exact fu),vT];simp
       .intro ρ' a' fk dQ hf jn;obtain⟨g1,g2⟩:=fh jn;exact behind ρ'.at a' fk.size dQ hf (λs hs=>(fk.at (g1 s hs)).2) g2
      .have vU:c=!b:=by cases c<;>cases b<;>simp_all
       refine ml os a ?_ ?_
       .intro a' hf o ho;rw[fF (hg _ (mem_cons_self ..) o ho) uj (by rw[hf t iX];exact fu)];simpa using vT
       .refine behind (λ_=>undef) (skip os a) (by rw[eU];exact ha.size) (dW os a) (gf os a) ?_ (pY.2 vU);intro s hs;have hm:=(mem_filter.1 (fC hs)).1;exact gU os a s hm (by rw[ha.size];exact bO s hm)
     .rename_i hv
      refine ml os a ?_ ?_
      .intro a' hf o ho;exact kj (hg _ (mem_cons_self ..) o ho) uj (by rw[hf t iX];exact fu) hv
      .refine behind (λ_=>undef) (skip os a) (by rw[eU];exact ha.size) (dW os a) (gf os a) ?_ pY;intro s hs;have hm:=(mem_filter.1 (fC hs)).1;exact gU os a s hm (by rw[ha.size];exact bO s hm)
section
variable {Q:Exit->Act->WP}{S:WP}
def pZ(ps:List Nat)(l:List Oper)(S:WP)(i:Nat)(w w':Wd):Prop:=
 match l[i]? with
 |some o=>match eE ps o with|true=>S w->S w'|false=>pT l i=true->S w'
 |none=>S w->S w'
def Any(P:Program)(ps:List Nat)(l:List Oper)(S:WP)(Q:Exit->Act->WP):Nat->Array Bool->Act->WP
 |0,done,a,w=>Region.ready .any l.toArray done=[]/\Q .normal a w
 |f+1,done,a,w=>(Region.ready .any l.toArray done=[]->Q .normal a w)/\
  ∀i∈Region.ready .any l.toArray done,wpOp P l.toArray Q i (λa' w'=>pZ ps l S i w w'/\Any P ps l S Q f (done.setIfInBounds i true) a' w') a w
theorem Any.wpAny{ps:List Nat}{l:List Oper}:∀(f:Nat) (done:Array Bool) (a:Act) (w:Wd),Any P ps l S Q f done a w->wpAny P .any l.toArray Q f done a w
 |0,_,_,_,h=>h
 |f+1,_,_,_,h=>⟨h.1,λi hi=>wpOp_mono (λa' w' h'=>Any.wpAny f _ a' w' h'.2) (h.2 i hi)⟩
def Cl(ops:Array Oper)(done:Array Bool):Prop:=∀(j:Nat) (o:Oper),ops[j]?=some o->done.getD j false=true->∀e∈o.after,Region.binds .any e=true->done.getD e.on false=true
theorem Cl.set{ops:Array Oper}{done:Array Bool}(h:Cl ops done){i:Nat}(hi:i∈Region.ready .any ops done):Cl ops (done.setIfInBounds i true):=by
 intro j o hj hd e he hb;by_cases rV:i=j
 .subst rV;obtain⟨_,o',eM,fM⟩:=mem_ready.1 hi;rw[hj]at eM;cases eM
  exact getD_set_true (fM e he hb)
 .rw[getD_set_ne false rV]at hd;exact getD_set_true (h j o hj hd e he hb)
def VA(done:Array Bool)(o:Oper)(l:List Nat):Prop:=(∀e∈o.after,Region.binds .any e=true->done.getD e.on false=true)->∀i∈l,done.getD i false=true
theorem mm{ops:List Oper}{done:Array Bool}(jq:Cl ops.toArray done):∀(l pre:List Oper) (acc:List (List Nat)),ops=pre++l->acc.length=pre.length->
  (∀j o,pre[j]?=some o->VA done o (acc.getD j []))->∀j o,ops[j]?=some o->VA done o ((oy l acc).getD j [])
 |[],pre,acc,he,hlen,h,j,o,ho=>by
  rw[List.append_nil]at he;subst he;exact h j o ho
 |x::l,pre,acc,he,hlen,h,j,o,ho=>by
  refine mm jq l (pre++[x]) _ (by rw[he];simp) (by simp[hlen]) ?_ j o ho;intro j' o' eM;rcases lt_or_ge j' pre.length with bO|zq
  .rw[List.getElem?_append_left bO]at eM;have:(acc++[kR ((x.after.toList.filter yR).flatMap λe=>e.on::acc.getD e.on [])]).getD j' []=acc.getD j' []:=by
    simp[List.getElem?_append_left (show j'<acc.length by rw[hlen];exact bO)]
   rw[this];exact h j' o' eM
  .have ng:j'=pre.length:=by
    rcases lt_or_ge j' (pre++[x]).length with h1|h1
    .simp at h1;omega
    .rw[List.getElem?_eq_none h1]at eM;cases eM
   subst ng;simp at eM
   subst eM;have:(acc++[kR ((x.after.toList.filter yR).flatMap λe=>e.on::acc.getD e.on [])]).getD pre.length []=kR ((x.after.toList.filter yR).flatMap λe=>e.on::acc.getD e.on []):=by
    rw[←hlen];simp
   rw[this];intro fM i hi;obtain⟨e,um,Gj⟩:=List.mem_flatMap.1 (fC hi);obtain⟨OX,hb⟩:=mem_filter.1 um;have hd:=fM e (by simpa using OX) hb;rcases mem_cons.1 Gj with rfl|Gj
   .exact hd
   .cases hx:pre[e.on]? with
    |none=>
     have:acc.getD e.on []=[]:=by
      have:acc.length<=e.on:=by
       rw[hlen];rcases lt_or_ge e.on pre.length with h1|h1
       .simp[h1]at hx
       .exact h1
      simp[List.getElem?_eq_none this]
     rw[this]at Gj;cases Gj
    |some p=>
     have hp:(ops.toArray)[e.on]?=some p:=by
      have hl:e.on<pre.length:=by
       rcases lt_or_ge e.on pre.length with h1|h1
       .exact h1
       .rw[List.getElem?_eq_none h1]at hx;cases hx
      rw[List.getElem?_toArray,he,List.getElem?_append_left hl];exact hx
     exact h e.on p hx (λe' OY dZ=>jq e.on p hp hd e' OY dZ) i Gj
theorem vW{l:List Oper}{done:Array Bool}(jq:Cl l.toArray done){j i:Nat}{o:Oper}(hj:l[j]?=some o)
  (fM:∀e∈o.after,Region.binds .any e=true->done.getD e.on false=true) (h:Gh l j i=true):done.getD i false=true:=
 mm jq l [] [] rfl rfl (λj o h=>by simp at h) j o hj fM i (by unfold Gh at h;simpa using h)
theorem iR{l:List Oper}{i:Nat}{o:Oper}(h:l[i]?=some o):i<l.length:=by
 rcases lt_or_ge i l.length with h'|h'
 .exact h'
 .rw[List.getElem?_eq_none h']at h;cases h
theorem beq_false{i j:Nat}(h:i≠j):beq i j=false:=by
 cases X8:beq i j with
 |false=>rfl
 |true=>exact absurd (Nat.eq_of_beq_eq_true X8) h
theorem zr{l:List Oper}{done:Array Bool}(jq:Cl l.toArray done){i j:Nat}{oi:Oper}(hi:l[i]?=some oi)(hr:dH oi.op=true)(rH:i≠j)
  (vX:done.getD i false=false) (hj:j∈Region.ready .any l.toArray done):pT l j=true:=by
 unfold pT;rw[List.any_eq_true];refine⟨i,mem_range.2 (iR hi),?_⟩;obtain⟨_,oj,Ob,fM⟩:=mem_ready.1 hj;have X9:Gh l j i=false:=by
  cases ha:Gh l j i with
  |false=>rfl
  |true=>rw[vW jq (by simpa using Ob) fM ha]at vX;cases vX
 simp[hi,hr,X9,beq_false rH]
theorem rW{done:Array Bool}{i:Nat}(h:done.getD i true=false):done.getD i false=false:=by
 rcases lt_or_ge i done.size with h'|h'
 .simp[h']at h⊢;exact h
 .simp[Array.getElem?_eq_none h']
theorem Any.first{ps:List Nat}{l:List Oper}{i:Nat}{oi:Oper}{v:Va}{T:WP}(hi:l[i]?=some oi)(lU:eE ps oi=true)(hT:∀w,(dH oi.op=true->S w)->T w)
  (gD:∀(j:Nat) (o:Oper) cs b,l[j]?=some o->o.op≠.select cs b)
  (hQ:∀c a w,Q (.panic c) (a.put oi.dst v) w->Q (.panic c) a w):
  ∀(f:Nat) (done:Array Bool) (a:Act) (w:Wd),Cl l.toArray done->
   (∀j oj,l[j]?=some oj->j≠i->done.getD j true=false->(∀e∈oj.after,Region.binds .any e=true->e.on≠i)->oi.apart l.toArray oj=true)->
   i∈Region.ready .any l.toArray done->YieldsIf P l.toArray T oi v a->(dH oi.op=true->S w)->
   Any P ps l S Q f (done.setIfInBounds i true) (a.put oi.dst v) w->Any P ps l S Q (f+1) done a w:=by
 have Gk:(l.toArray)[i]?=some oi:=by simpa using hi
 have VB:∀w,pZ ps l S i w w:=λw=>by simp only[pZ,hi,lU];exact id
 intro f;induction f with
 |zero=>
  intro done a w _ _ hr hy hS H;refine⟨λh=>(by rw[h]at hr;cases hr),λj hj=>?_⟩;by_cases rV:j=i
  .subst rV;exact hy.wpOp Gk (hT w hS) ⟨VB w,H⟩
  .have:=ready_mono hj rV;rw[H.1]at this
   cases this
 |succ f ih=>
  intro done a w jq Bs hr hy hS H;refine⟨λh=>(by rw[h]at hr;cases hr),λj hj=>?_⟩;by_cases rV:j=i
  .subst rV;exact hy.wpOp Gk (hT w hS) ⟨VB w,H⟩
  .have h1:=H.2 j (ready_mono hj rV);obtain⟨Gl,oj,Ob,fM⟩:=mem_ready.1 hj;have vX:=rW (mem_ready.1 hr).1;have iX:∀e∈oj.after,Region.binds .any e=true->e.on≠i:=λe he hb heq=>by
    have h1:=fM e he hb;rw[heq,vX]at h1;cases h1
   have C7:l[j]?=some oj:=by simpa using Ob
   have h2:=wpOp_putIf Ob (Bs j oj C7 rV Gl iX) (λcs b=>gD i oi cs b hi) (λcs b=>gD j oj cs b C7) hQ hy h1;have C8:∀k ok,l[k]?=some ok->k≠i->(done.setIfInBounds j true).getD k true=false->
     (∀e∈ok.after,Region.binds .any e=true->e.on≠i)->oi.apart l.toArray ok=true:=λk ok hk Ya Gm gP=>by
    refine Bs k ok hk Ya ?_ gP;by_cases yT:j=k
    .subst yT;exact Gl
    .rw[getD_set_ne true yT]at Gm;exact Gm
   refine wpOp_mono (λa' w' h3=>⟨h3.2.1,?_⟩) h2;have C9:dH oi.op=true->S w':=λuo=>by
    have h4:=h3.2.1;simp only[pZ,C7]at h4
    cases VC:eE ps oj with
    |true=>rw[VC]at h4;exact h4 (hS uo)
    |false=>rw[VC]at h4;exact h4 (zr jq hi uo (Ne.symm rV) vX hj)
   refine ih (done.setIfInBounds j true) a' w' (jq.set hj) C8 (ready_mono hr (Ne.symm rV)) h3.1 C9 ?_;rw[Array.setIfInBounds_comm _ _ rV];exact h3.2.2
def PI(rs:List Nat)(Q:Exit->Act->WP):Prop:=∀c a w d v,d∉rs->Q (.panic c) (a.put (some d) v) w->Q (.panic c) a w
structure Dn(l:List Oper)(done:List Nat)(arr:Array Bool):Prop where
 size:arr.size=l.length
 val:∀j,arr.getD j false=done.contains j
theorem Dn.set{l:List Oper}{done:List Nat}{arr:Array Bool}(h:Dn l done arr){i:Nat}{o:Oper}(hi:l[i]?=some o):Dn l (i::done) (arr.setIfInBounds i true) where
 size:=by simp[h.size]
 val:=by
  intro j;have bO:=iR hi;by_cases hj:i=j
  .subst hj;simp[h.size,bO]
  .rw[getD_set_ne false hj,h.val j,contains_cons];have:(j==i)=false:=by simp;exact λe=>hj e.symm
   simp[this]
theorem Dn.ready{l:List Oper}{done:List Nat}{arr:Array Bool}(h:Dn l done arr)(j:Nat):j∈Region.ready .any l.toArray arr↔j∈vo l done:=by
 rw[mem_ready];unfold vo;simp only[mem_filter,mem_range,and_eq_true,not_eq_true'];constructor
 .rintro⟨h1,o,ho,fM⟩;have eM:l[j]?=some o:=by simpa using ho
  refine⟨iR eM,?_,?_⟩
  .rw[←h.val j];exact rW h1
  .rw[eM];simp only[all_eq_true,or_eq_true,not_eq_true'];intro e he
   cases hb:yR e with
   |false=>exact .inl rfl
   |true=>right;rw[←h.val];exact fM e (by simpa using he) hb
 .rintro⟨h1,h2,h3⟩;rw[←h.val j]at h2;refine⟨?_,?_⟩
  .have:j<arr.size:=by rw[h.size];exact h1
   simp[this]at h2⊢;exact h2
  .cases ho:l[j]? with
   |none=>rw[ho]at h3;cases h3
   |some o=>
    rw[ho]at h3;simp only[all_eq_true,or_eq_true,not_eq_true']at h3;refine⟨o,by simpa using ho,λe he hb=>?_⟩;rcases h3 e (by simpa using he)with h'|h'
    .unfold yR at h';rw[hb]at h';cases h'
    .rw[h.val];exact h'
theorem jG{l:List Oper}{x y:Oper}(h:oz l x y=true):x.apart l.toArray y=true:=by
 have look:∀(o:Oper) (d:Nat),(o.looksAt l.toArray).contains d=true->cT o.op=false->
   (gu l o).contains d=true:=by
  intro o d hd hs;unfold gu;simp only[Oper.looksAt,List.contains_eq_mem,mem_append,List.mem_filterMap,decide_eq_true_eq]at hd⊢;rcases hd with⟨x,hx,VD⟩|hd
  .left
   unfold zk;rw[List.mem_flatMap];refine⟨x,pR (λcs b h=>by rw[h]at hs;cases hs) (by simpa using hx),?_⟩
   cases x<;>simp at VD
   subst VD;simp[tm]
  .right
   cases hg:o.guard with
   |none=>rw[hg]at hd;cases hd
   |some p=>
    obtain⟨g,b⟩:=p;rw[hg]at hd;simp only[lT]at hd⊢;exact hd
 unfold oz at h;simp only[and_eq_true,not_eq_true']at h;obtain⟨⟨⟨hx,hy⟩,h1⟩,h2⟩:=h;unfold Oper.apart;simp only[and_eq_true];constructor
 .cases hd:x.dst with
  |none=>rfl
  |some d=>
   rw[hd]at h1;simp only[and_eq_true,not_eq_true']at h1⊢;refine⟨?_,?_⟩
   .cases hc:(y.looksAt l.toArray).contains d with
    |false=>rfl
    |true=>rw[look y d hc hy]at h1;cases h1.1
   .cases he:y.dst with
    |none=>rfl
    |some e=>
     rw[he]at h1;have:=h1.2;simp at this
     simp only[bne_iff_ne,ne_eq,Option.some.injEq];exact λh=>this h.symm
 .cases hd:y.dst with
  |none=>rfl
  |some d=>
   rw[hd]at h2;simp only[not_eq_true']at h2⊢
   cases hc:(x.looksAt l.toArray).contains d with
   |false=>rfl
   |true=>rw[look x d hc hx]at h2;cases h2
theorem kV{rs:List Nat}{l:List Oper}{i:Nat}{o:Oper}{done:List Nat}{arr:Array Bool}{a:Act}{w:Wd}{v:Va}{f:Nat}{T:WP}
  (gB:PI rs Q) (hi:l[i]?=some o) (lU:eE rs o=true) (iv:(vo l done).contains i=true)
  (Oc:tj rs l done i o=true)
  (gD:∀(j:Nat) (o:Oper) cs b,l[j]?=some o->o.op≠.select cs b)
  (hT:∀w,(dH o.op=true->S w)->T w)
  (kq:Dn l done arr) (jq:Cl l.toArray arr) (hy:YieldsIf P l.toArray T o v a) (hS:dH o.op=true->S w)
  (h:Any P rs l S Q f (arr.setIfInBounds i true) (a.put o.dst v) w):Any P rs l S Q (f+1) arr a w:=by
 unfold tj at Oc;simp only[and_eq_true]at Oc;refine Any.first hi lU hT gD ?_ f arr a w jq ?_ ((kq.ready i).2 (by simpa using iv)) hy hS h
 .intro c a' w' hq
  cases hd:o.dst with
  |none=>rw[hd]at hq;exact hq
  |some d=>
   rw[hd]at hq;refine gB c a' w' d v ?_ hq;have:=Oc.1;rw[hd]at this;simpa using this
 .intro j oj hj rV vX gP;have h2:=all_eq_true.1 Oc.2 j (mem_range.2 (iR hj));simp only[beq_false rV,hj,Bool.false_or,or_eq_true]at h2;rcases h2 with h2|h2
  .rw[←kq.val j,rW vX]at h2;cases h2
  .rcases h2 with h2|h2
   .simp only[List.any_eq_true,and_eq_true]at h2;obtain⟨e,he,hb,ho⟩:=h2;exact absurd (Nat.eq_of_beq_eq_true ho) (gP e (by simpa using he) hb)
   .exact jG h2
theorem gV{rs:List Nat}{l:List Oper}{i:Nat}{is done:List Nat}(h:dY rs l (i::is) done=true):
  ∃o,l[i]?=some o/\(vo l done).contains i=true/\cT o.op=false/\dY rs l is (i::done)=true/\
   (eE rs o=true->tj rs l done i o=true)/\
   (eE rs o=false->vo l done=[i]):=by
 unfold dY at h
 cases ho:l[i]? with
 |none=>rw[ho]at h;cases h
 |some o=>
  rw[ho]at h;simp only[and_eq_true,not_eq_true']at h;obtain⟨⟨⟨h1,h2⟩,h3⟩,h4⟩:=h;refine⟨o,rfl,h1,h2,h4,?_,?_⟩
  .intro hs;rw[hs]at h3;exact h3
  .intro hs;rw[hs]at h3
   cases hr:vo l done with
   |nil=>rw[hr]at h1;simp at h1
   |cons x xs=>
    rw[hr]at h3 h1
    cases xs with
    |nil=>simp at h1;rw[h1]
    |cons _ _=>cases h3
theorem vY{l:List Oper}{i:Nat}{o:Oper}{a:Act}{w:Wd}{K:Act->WP}(hi:l[i]?=some o)
  (hw:Region.wanted o (yielded l.toArray a.tmps)=true) (h:o.wp P a w K Q):wpOp P l.toArray Q i K a w:=by
 unfold wpOp;simp only[List.getElem?_toArray,hi,hw,if_true];exact .inl h
theorem zt{l:List Oper}{i:Nat}{o:Oper}{a:Act}{w:Wd}{K:Act->WP}(hi:l[i]?=some o)
  (hw:Region.wanted o (yielded l.toArray a.tmps)=false) (h:K (a.put o.dst undef) w):wpOp P l.toArray Q i K a w:=by
 unfold wpOp;simp only[List.getElem?_toArray,hi,hw,false_eq_true,if_false];exact h
theorem Any.one{rs:List Nat}{l:List Oper}{i:Nat}{done:List Nat}{arr:Array Bool}{a:Act}{w:Wd}{f:Nat}(kq:Dn l done arr)(hr:vo l done=[i])
  (h:wpOp P l.toArray Q i (λa' w'=>pZ rs l S i w w'/\Any P rs l S Q f (arr.setIfInBounds i true) a' w') a w):Any P rs l S Q (f+1) arr a w:=by
 have key:∀j,j∈Region.ready .any l.toArray arr↔j=i:=λj=>by rw[kq.ready j,hr];simp
 refine⟨λh0=>?_,λj hj=>?_⟩
 .have:=(key i).2 rfl;rw[h0]at this;cases this
 .rw[(key j).1 hj];exact h
theorem jr{rs:List Nat}{l:List Oper}(gB:PI rs Q)(gD:∀(j:Nat) (o:Oper) cs b,l[j]?=some o->o.op≠.select cs b){e:List PanicEntry->Env->M.D->WP}:
  ∀(is rest:List Nat) (f:Nat) (done:List Nat) (arr:Array Bool) (sk:Bool) (ρ:Env) (d:M.D) (w:Wd) (a:Act) (k:Env->M.D->WP),
  gT P M n S rs l is sk ρ d w k e->Ag n ρ a->a.defers=M.get d->dY rs l (is++rest) done=true->Dn l done arr->Cl l.toArray arr->(sk=true->S w)->
  (∀a',Fr (bQ (cL l is)) a a'->∀o∈cL l is,Region.wanted o (yielded l.toArray a'.tmps)=true)->
  (∀ρ' d' w' a' eS gv,Ag n ρ' a'->a'.defers=M.get d'->Fr (bQ (cL l is)) a a'->Dn l eS gv->Cl l.toArray gv->dY rs l rest eS=true->
   (FE rs l is sk=true->S w')->k ρ' d' w'->Any P rs l S Q f gv a' w')->
  (∀c ρ' d' w' a',Ag n ρ' a'->a'.defers=M.get d'->Fr (bQ (cL l is)) a a'->e c ρ' d' w'->Q (.panic c) a' w')->
  Any P rs l S Q (is.length+f) arr a w
 |[],rest,f,done,arr,sk,ρ,d,w,a,k,h,ha,hd,iv,kq,jq,hS,hw,hk,he=>by
  simpa using hk ρ d w a done arr ha hd (Fr.refl _ _) kq jq iv hS h
 |i::is,rest,f,done,arr,sk,ρ,d,w,a,k,h,ha,hd,iv,kq,jq,hS,hw,hk,he=>by
  obtain⟨o,hi,hr,VE,ky,Da,Db⟩:=gV iv;have Dc:cL l (i::is)=o::cL l is:=by simp[cL,hi]
  rw[Dc]at hw hk he;have kz:Cl l.toArray (arr.setIfInBounds i true):=jq.set ((kq.ready i).2 (by simpa using hr));have kA:=kq.set hi;have hlen:(i::is).length+f=(is.length+f)+1:=by simp;omega
  rw[hlen];unfold gT at h;rw[hi]at h;simp only[]at h
  cases hc:(sk||!dH o.op)with
  |false=>rw[hc]at h;exact h.elim
  |true=>
   rw[hc]at h;simp only[cond_true]at h;have Yb:dH o.op=true->S w:=λhr=>hS (by rw[hr]at hc;simpa using hc);have Gn:=hw a (Fr.refl _ _) o (mem_cons_self ..);have next:∀(ρ':Env) (d':M.D) (w':Wd) (a':Act),Ag n ρ' a'->a'.defers=M.get d'->Fr o.dst.toList a a'->(jf rs l i o sk=true->S w')->
     gT P M n S rs l is (jf rs l i o sk) ρ' d' w' k e->Any P rs l S Q (is.length+f) (arr.setIfInBounds i true) a' w':=by
    intro ρ' d' w' a' fk dQ hf rU h';refine jr gB gD is rest f (i::done) _ _ ρ' d' w' a' k h' fk dQ ky kA kz rU ?_ ?_ ?_
    .intro dh cV o' eM;exact hw dh ((hf.trans cV).mono (eV o _)) o' (mem_cons_of_mem _ eM)
    .intro ρ'' dx du dh Dd Gp bG bK cV Gq Gr Gs OZ jo;refine hk ρ'' dx du dh Dd Gp bG bK ((hf.trans cV).mono (eV o _)) Gq Gr Gs ?_ jo;intro O0;refine OZ ?_
     unfold FE at O0;rw[hi]at O0;exact O0
    .intro c ρ'' dx du dh bG bK cV Yc;exact he c ρ'' dx du dh bG bK ((hf.trans cV).mono (eV o _)) Yc
   unfold Bp at h
   cases lU:eE rs o with
   |true=>
    rw[lU]at h;simp only[]at h;have Yd:jf rs l i o sk=sk:=by unfold jf;rw[lU]
    cases Gt:(yQ o.op).all ρ.jD with
    |false=>rw[Gt]at h;exact h.elim
    |true=>
     rw[Gt]at h;simp only[cond_true]at h;have De:=jm ha VE Gt;have fin:∀(v:Va) (T:WP),(∀w,(dH o.op=true->S w)->T w)->(∀w,T w->(execOp a.eval o).run P w=.ok (.value v) w)->
       iu n ρ o.dst v (λρ=>gT P M n S rs l is (jf rs l i o sk) ρ d w k e)->Any P rs l S Q ((is.length+f)+1) arr a w:=by
      intro v T hT hv hp;obtain⟨ρ',h1,h2⟩:=jF hp ha;refine kV gB hi lU hr (Da lU) gD hT kq jq (.inl ⟨Gn,hv⟩) Yb ?_;exact next ρ' d w _ h2 (by rw[fL,hd]) (Fr.put a o.dst v) (by rw[Yd];exact hS) h1
     have vZ:∀s:nk,nD ρ.ev o=s->(match dH o.op with
       |true=>Xs P S s.dB λv=>iu n ρ o.dst v λρ=>gT P M n S rs l is (jf rs l i o sk) ρ d w k e
       |false=>Xs P (λ_=>True) s.dB λv=>iu n ρ o.dst v λρ=>gT P M n S rs l is (jf rs l i o sk) ρ d w k e)->Any P rs l S Q ((is.length+f)+1) arr a w:=by
      intro s hs hx
      cases uo:dH o.op with
      |true=>
       rw[uo]at hx;obtain⟨v,h1,h2⟩:=hx;exact fin v S (λw h=>h uo) (λw hw=>by rw[De,hs];exact h1 w hw) h2
      |false=>
       rw[uo]at hx;obtain⟨v,h1,h2⟩:=hx;exact fin v (λ_=>True) (λ_ _=>trivial) (λw hw=>by rw[De,hs];exact h1 w hw) h2
     cases hs:nD ρ.ev o with
     |now v=>rw[hs]at h;exact fin v (λ_=>True) (λ_ _=>trivial) (λw _=>by rw[De,hs];rfl) h
     |val s=>rw[hs]at h;exact vZ _ hs h
     |unit s=>rw[hs]at h;exact vZ _ hs h
     |iG s=>rw[hs]at h;exact vZ _ hs h
     |call g args=>rw[hs]at h;exact vZ _ hs h
     |FD s=>rw[hs]at h;exact vZ _ hs h
   |false=>
    rw[lU]at h;simp only[]at h;refine Any.one kq (Db lU) (vY hi Gn ?_)
    cases yU:pT l i with
    |true=>
     rw[yU]at h;simp only[]at h;refine mi h ha hd (λρ' d' w' a' fk dQ hf jn=>⟨?_,?_⟩) (λc w' h'=>he c ρ d w' a ha hd (Fr.refl _ _) h')
     .simp only[pZ,hi,lU];exact λ_=>jn.1
     .exact next ρ' d' w' a' fk dQ hf (λ_=>jn.1) jn.2
    |false=>
     rw[yU]at h;simp only[]at h;refine mi h ha hd (λρ' d' w' a' fk dQ hf jn=>⟨?_,?_⟩) (λc w' h'=>he c ρ d w' a ha hd (Fr.refl _ _) h')
     .simp only[pZ,hi,lU,yU];exact λh=>by cases h
     .exact next ρ' d' w' a' fk dQ hf (λh=>by unfold jf at h;rw[lU,yU]at h;cases h) jn
theorem kB{rs:List Nat}{l:List Oper}(gB:PI rs Q)(gD:∀(j:Nat) (o:Oper) cs b,l[j]?=some o->o.op≠.select cs b):
  ∀(is rest:List Nat) (f:Nat) (done:List Nat) (arr:Array Bool) (w:Wd) (a:Act) (hS:S w\/(∀i∈is,∀o,l[i]?=some o->dH o.op=false/\(eE rs o=true\/pT l i=false))),
  dY rs l (is++rest) done=true->Dn l done arr->Cl l.toArray arr->
  (∀a',Fr (bQ (cL l is)) a a'->∀o∈cL l is,Region.wanted o (yielded l.toArray a'.tmps)=false)->
  (∀eS gv,Dn l eS gv->Cl l.toArray gv->dY rs l rest eS=true->Any P rs l S Q f gv (skip (cL l is) a) w)->
  Any P rs l S Q (is.length+f) arr a w
 |[],rest,f,done,arr,w,a,hS,iv,kq,jq,hw,hk=>by simpa[cL,skip]using hk done arr kq jq iv
 |i::is,rest,f,done,arr,w,a,hS,iv,kq,jq,hw,hk=>by
  obtain⟨o,hi,hr,VE,ky,Da,Db⟩:=gV iv;have Dc:cL l (i::is)=o::cL l is:=by simp[cL,hi]
  rw[Dc]at hw hk;have kz:Cl l.toArray (arr.setIfInBounds i true):=jq.set ((kq.ready i).2 (by simpa using hr));have kA:=kq.set hi;have hlen:(i::is).length+f=(is.length+f)+1:=by simp;omega
  rw[hlen];have Gn:=hw a (Fr.refl _ _) o (mem_cons_self ..);have next:Any P rs l S Q (is.length+f) (arr.setIfInBounds i true) (a.put o.dst undef) w:=by
   refine kB gB gD is rest f (i::done) _ w _ (hS.imp id λh j hj=>h j (mem_cons_of_mem _ hj)) ky kA kz ?_ ?_
   .intro dh cV o' eM;exact hw dh (((Fr.put a o.dst undef).trans cV).mono (eV o _)) o' (mem_cons_of_mem _ eM)
   .exact hk
  cases lU:eE rs o with
  |true=>
   refine kV (T:=λw=>dH o.op=true->S w) gB hi lU hr (Da lU) gD (λ_ h=>h) kq jq (.inr ⟨Gn,rfl⟩) (λuo=>?_) next;rcases hS with h|h
   .exact h
   .rw[(h i (mem_cons_self ..) o hi).1]at uo;cases uo
  |false=>
   refine Any.one kq (Db lU) (zt hi Gn ⟨?_,next⟩);simp only[pZ,hi,lU];intro yU;rcases hS with h|h
   .exact h
   .rcases(h i (mem_cons_self ..) o hi).2 with h'|h'
    .rw[lU]at h';cases h'
    .rw[yU]at h';cases h'
end
theorem tu:∀(l:List Nat) (k:List Nat->Bool),vR l k=k l
 |[],_=>rfl
 |p::l,k=>tu l λl'=>k (p::l')
theorem tA:∀(l:List Row) (k:List Row->Bool),zn l k=k l
 |[],_=>rfl
 |(a,b,c)::l,k=>by
  unfold zn;simp only[tu];exact tA l λl'=>k ((a,b,c)::l')
theorem jH(d:Nat):∀l:List Nat,rT d l=true↔d∈l
 |[]=>by simp[rT]
 |a::l=>by
  unfold rT
  cases h:beq d a with
  |true=>simp[Nat.eq_of_beq_eq_true h]
  |false=>simp only[mem_cons,jH d l];simp[Nat.ne_of_beq_eq_false h]
theorem jI:∀(l m:List Nat),meet l m=true↔∃a,a∈l/\a∈m
 |[],m=>by simp[meet]
 |a::l,m=>by
  unfold meet
  cases h:rT a m with
  |true=>simp only[true_iff];exact⟨a,by simp,(jH a m).1 h⟩
  |false=>
   simp only[jI l m,mem_cons];have h':a∉m:=λhm=>by rw[(jH a m).2 hm]at h;cases h
   constructor
   .rintro⟨b,h1,h2⟩;exact⟨b,.inr h1,h2⟩
   .rintro⟨b,rfl|h1,h2⟩
    .exact absurd h2 h'
    .exact⟨b,h1,h2⟩
theorem uq{l:List Oper}{x y:Oper}(hx:cT x.op=false)(hy:cT y.op=false)(h:Oa (rowOf l x) (rowOf l y)=true):x.apart l.toArray y=true:=by
 apply jG
 unfold Oa at h;split at h
 .cases h
 .rename_i h1
  split at h
  .cases h
  .rename_i h2
   replace h1:meet x.dst.toList (gu l y)=false:=by cases h0:meet x.dst.toList (gu l y)with|false=>rfl|true=>exact absurd (h1.symm.trans h0) ak
   replace h2:meet x.dst.toList y.dst.toList=false:=by cases h0:meet x.dst.toList y.dst.toList with|false=>rfl|true=>exact absurd (h2.symm.trans h0) ak
   replace h:(!meet y.dst.toList (gu l x))=true:=h;have n1:¬∃a,a∈x.dst.toList/\a∈gu l y:=λe=>by rw[(jI _ _).2 e]at h1;cases h1
   have n2:¬∃a,a∈x.dst.toList/\a∈y.dst.toList:=λe=>by rw[(jI _ _).2 e]at h2;cases h2
   have n3:¬∃a,a∈y.dst.toList/\a∈gu l x:=λe=>by rw[(jI _ _).2 e]at h;cases h
   unfold oz;simp only[hx,hy,Bool.not_false,Bool.true_and,and_eq_true];constructor
   .cases hd:x.dst with
    |none=>rfl
    |some d=>
     simp only[and_eq_true,not_eq_true'];constructor
     .rw[List.contains_eq_mem];exact decide_eq_false λhm=>n1 ⟨d,by simp[hd],hm⟩
     .rw[List.contains_eq_mem];exact decide_eq_false λhm=>n2 ⟨d,by simp[hd],hm⟩
   .cases hd:y.dst with
    |none=>rfl
    |some d=>
     simp only[not_eq_true'];rw[List.contains_eq_mem];exact decide_eq_false λhm=>n3 ⟨d,by simp[hd],hm⟩
theorem js{k:Nat}{r:Row}:∀{l:List Row},pU k r l=true->∀s∈l,k∈s.2.2\/Oa r s=true
 |[],_,s,hs=>by cases hs
 |t::l,h,s,hs=>by
  unfold pU at h;split at h
  .rename_i h1
   rcases mem_cons.1 hs with rfl|hs
   .exact .inl ((jH _ _).1 h1)
   .exact js h s hs
  .split at h
   .rename_i h2
    rcases mem_cons.1 hs with rfl|hs
    .exact .inr h2
    .exact js h s hs
   .cases h
theorem mn{k:Nat}:∀{l:List Nat},tq k l=true->∀a∈l,a<k
 |[],_,a,ha=>by cases ha
 |b::l,h,a,ha=>by
  unfold tq at h;split at h
  .rename_i h1
   rcases mem_cons.1 ha with rfl|ha
   .exact le_of_ble_eq_true h1
   .exact mn h a ha
  .cases h
theorem ur{l:List Oper}(hs:∀o∈l,cT o.op=false):∀(fuel k:Nat) (arr:Array Bool),k+fuel=l.length->arr.size=l.length->(∀j,j<l.length->arr[j]?=some (decide (j<k)))->
  zo k ((l.drop k).map (rowOf l))=true->Region.lexFrom .any l.toArray fuel k arr=true:=by
 intro fuel;induction fuel with
 |zero=>
  intro k arr hk hz ha _;simp only[Region.lexFrom,Region.ready,List.isEmpty_iff,List.filter_eq_nil_iff,mem_range];intro i hi;have hi:i<l.length:=by simpa using hi
  have:arr.getD i true=true:=by rw[Array.getD_eq_getD_getElem?,ha i hi];simp;omega
  simp[this]
 |succ fuel ih=>
  intro k arr hk hz ha h;have bO:k<l.length:=by omega
  rw[drop_eq_getElem_cons bO,map_cons]at h;unfold zo at h;split at h
  .cases h
  .rename_i h1
   split at h
   .cases h
   .rename_i h2
    have VF:arr.getD k true=false:=by rw[Array.getD_eq_getD_getElem?,ha k bO];simp
    simp only[Region.lexFrom,and_eq_true];refine⟨⟨?_,?_⟩,?_⟩
    .rw[List.contains_eq_mem,decide_eq_true_eq];unfold Region.ready;rw[mem_filter];refine⟨by simpa using bO,?_⟩;simp only[VF,Bool.not_false,Bool.true_and,List.getElem?_toArray,bO,getElem?_eq_getElem,Option.map_some,Option.getD_some];rw[Array.all_eq_true_iff_forall_mem];intro e he
     cases hb:Region.binds .any e with
     |false=>rfl
     |true=>
      have ns:e.on<k:=mn h1 e.on (mem_map.2 ⟨e,mem_filter.2 ⟨by simpa using he,hb⟩,rfl⟩);simp only[Bool.not_true,Bool.false_or];rw[Array.getD_eq_getD_getElem?,ha e.on aj];simp[ns]
    .unfold Region.free;simp only[List.getElem?_toArray,bO,getElem?_eq_getElem];rw[all_eq_true];intro j hj;have ng:j<l.length:=by simpa using hj
     rcases Nat.lt_trichotomy j k with yT|yT|yT
     .have:arr.getD j true=true:=by rw[Array.getD_eq_getD_getElem?,ha j ng];simp[yT]
      simp[this]
     .simp[yT]
     .have hm:rowOf l l[j]∈(l.drop (k+1)).map (rowOf l):=mem_map.2 ⟨l[j],List.mem_drop_iff_getElem.2 ⟨j-(k+1),by omega,by congr 1;omega⟩,rfl⟩;simp only[ng,getElem?_eq_getElem,or_eq_true];right
      rcases js h2 _ hm with h3|h3
      .left
       obtain⟨e,he,rfl⟩:=mem_map.1 h3;obtain⟨OX,FG⟩:=mem_filter.1 he;rw[Array.any_eq_true'];exact⟨e,by simpa using OX,by simpa[yR]using FG⟩
      .right
       exact uq (hs _ (getElem_mem _)) (hs _ (getElem_mem _)) h3
    .refine ih (k+1) _ aj (by simpa using hz) ?_ h;intro j hj;by_cases yT:k=j
     .subst yT;simp[hz,hj]
     .rw[Array.getElem?_setIfInBounds_ne yT,ha j hj];congr 1
      simp only[decide_eq_decide];omega
theorem uu{l:List Oper}(h:CY l=true):Region.lexB .any l.toArray=true:=by
 unfold CY at h;split at h
 .cases h
 .rename_i h1
  rw[tA]at h;have hs:∀o∈l,cT o.op=false:=λo ho=>by
   have:=all_eq_true.1 h1 o ho;simpa using this
  unfold Region.lexB;rw[and_eq_true];constructor
  .unfold Region.noSelect;rw[Array.all_eq_true_iff_forall_mem];intro o ho;have:=hs o (by simpa using ho);unfold cT at this;split at this
   .cases this
   .rename_i h2
    split
    .rename_i h3;exact absurd h3 (h2 _ _)
    .rfl
  .exact ur hs l.length 0 _ ak ak (λj hj=>by simp[hj]) (by simpa using h)
end Go.Sh


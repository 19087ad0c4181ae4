import Derived.Test.YtoddjlclpnoomaaGreatDoorU1
set_option linter.unusedVariables false
set_option linter.unusedSimpArgs false
set_option maxRecDepth 100000
open Go.Instr (loadAt)
open List (all_eq_true mem_cons_of_mem mem_append_left mem_cons_self mem_cons mem_filter length_cons contains_nil)
open Nat (beq lt_or_ge le_refl)
open Array (replicate)
open Bool (and_eq_true not_eq_true' or_eq_true)
namespace Go.Sh
variable {P:Program}{M:Dm}{n:Nat}
theorem mo{l:List Oper}:∀(is:List Nat),(∀i∈is,∃o,l[i]?=some o)->(fZ l is).flatMap (·.2)=is/\∀g∈fZ l is,∀i∈g.2,∀o,l[i]?=some o->o.guard=g.1
 |[],_=>⟨rfl,λ_ h=>by cases h⟩
 |i::is,fM=>by
  obtain⟨h1,h2⟩:=mo is λj hj=>fM j (mem_cons_of_mem _ hj);obtain⟨o,ho⟩:=fM i (mem_cons_self ..);unfold fZ;rw[ho];simp only[]
  cases hg:fZ l is with
  |nil=>
   rw[hg]at h1;simp only[List.flatMap_nil]at h1;subst h1;refine⟨rfl,λg hg j hj o' eM=>?_⟩;simp at hg;subst hg;simp at hj;subst hj;rw[ho]at eM;cases eM;rfl
  |cons p gs=>
   obtain⟨g,os⟩:=p;rw[hg]at h1 h2;simp only[]
   cases hs:nF o.guard g with
   |true=>
    refine⟨by simpa using h1,λq hq j hj o' eM=>?_⟩;rcases mem_cons.1 hq with rfl|hq
    .rcases mem_cons.1 hj with rfl|hj
     .rw[ho]at eM;cases eM;exact pW hs
     .exact h2 _ (mem_cons_self ..) j hj o' eM
    .exact h2 q (mem_cons_of_mem _ hq) j hj o' eM
   |false=>
    refine⟨by simpa using h1,λq hq j hj o' eM=>?_⟩;rcases mem_cons.1 hq with rfl|hq
    .simp at hj;subst hj;rw[ho]at eM;cases eM;rfl
    .exact h2 q hq j hj o' eM
theorem cond_prop{b:Bool}{p:Prop}(h:cond b p False):b=true/\p:=by
 cases b with
 |false=>exact h.elim
 |true=>exact⟨rfl,h⟩
theorem gW(rs:List Nat)(l:List Oper):∀(f:Nat) (done:List Nat),(order rs l f done).length<=f
 |0,_=>by simp[order]
 |f+1,done=>by
  unfold order;simp only[];split
  .simp only[length_cons];exact Nat.succ_le_succ (gW rs l f _)
  .split
   .simp
   .simp only[length_cons];exact Nat.succ_le_succ (gW rs l f _)
theorem gE{l:List Oper}{is:List Nat}{o:Oper}(h:o∈cL l is):∃i∈is,l[i]?=some o:=by
 unfold cL at h;obtain⟨i,hi,ho⟩:=List.mem_filterMap.1 h;exact⟨i,hi,ho⟩
theorem oE(l:List Oper)(a b:List Nat):cL l (a++b)=cL l a++cL l b:=by simp[cL]
section
variable {Q:Exit->Act->WP}{S:WP}
theorem mq{rs:List Nat}{l:List Oper}{lv:List Nat}(gB:PI rs Q)(gD:∀(j:Nat) (o:Oper) cs b,l[j]?=some o->o.op≠.select cs b){e:List PanicEntry->Env->M.D->WP}:
  ∀(gs:List zm) (f:Nat) (done:List Nat) (arr:Array Bool) (sk:Bool) (ρ:Env) (d:M.D) (w:Wd) (a:Act) (k:Env->M.D->WP),
  vQ P M n S rs l lv gs sk ρ d w k e->Ag n ρ a->a.defers=M.get d->dY rs l (gs.flatMap (·.2)) done=true->Dn l done arr->Cl l.toArray arr->(sk=true->S w)->
  (∀g∈gs,∀i∈g.2,∀o,l[i]?=some o->o.guard=g.1)->
  (∀ρ' d' w' a',Ag n ρ' a'->a'.defers=M.get d'->Fr (bQ (cL l (gs.flatMap (·.2)))) a a'->k ρ' d' w'->Q .normal a' w')->
  (∀c ρ' d' w' a',Ag n ρ' a'->a'.defers=M.get d'->Fr (bQ (cL l (gs.flatMap (·.2)))) a a'->e c ρ' d' w'->Q (.panic c) a' w')->
  Any P rs l S Q ((gs.flatMap (·.2)).length+f) arr a w
 |[],f,done,arr,sk,ρ,d,w,a,k,h,ha,hd,iv,kq,jq,hS,hg,hk,he=>by
  have hq:=hk ρ d w a ha hd (Fr.refl _ _) h;have hr:Region.ready .any l.toArray arr=[]:=by
   unfold dY at iv
   cases hc:vo l done with
   |cons x xs=>simp[hc]at iv
   |nil=>
    cases Ye:Region.ready .any l.toArray arr with
    |nil=>rfl
    |cons x xs=>
     have:=(kq.ready x).1 (by rw[Ye];exact mem_cons_self ..);rw[hc]at this;cases this
  cases f with
  |zero=>exact⟨hr,hq⟩
  |succ f=>exact⟨λ_=>hq,λi hi=>by simp only[Nat.add_eq]at*;rw[hr]at hi;cases hi⟩
 |(g,is)::gs,f,done,arr,sk,ρ,d,w,a,k,h,ha,hd,iv,kq,jq,hS,hg,hk,he=>by
  have Gu:((g,is)::gs).flatMap (·.2)=is++gs.flatMap (·.2):=by simp
  rw[Gu]at iv hk he⊢;rw[oE]at hk he;have fp:∀t,t∈bQ (cL l is)++bQ (cL l (gs.flatMap (·.2)))->t∈bQ (cL l is++cL l (gs.flatMap (·.2))):=by
   intro t ht;simpa[bQ]using ht
  have nG:∀t,t∈bQ (cL l is)->t∈bQ (cL l is++cL l (gs.flatMap (·.2))):=λt ht=>fp t (mem_append_left _ ht);have hlen:(is++gs.flatMap (·.2)).length+f=is.length+((gs.flatMap (·.2)).length+f):=by simp;omega
  rw[hlen]
  cases g with
  |none=>
   refine jr gB gD is _ _ done arr sk ρ d w a _ h ha hd iv kq jq hS ?_ ?_ ?_
   .intro a' _ o ho;obtain⟨i,hi,eM⟩:=gE ho;have:=hg _ (mem_cons_self ..) i hi o eM;simp[Region.wanted,show o.guard=none from this]
   .intro ρ' d' w' a' eS gv fk dQ hf kA kz ky C9 jn;refine mq gB gD gs f eS gv _ ρ' d' w' a' k jn fk dQ ky kA kz C9 (λg' pX=>hg g' (mem_cons_of_mem _ pX)) ?_ ?_
    .intro ρ'' dx du dh bG bK cV jo;exact hk ρ'' dx du dh bG bK ((hf.trans cV).mono fp) jo
    .intro c ρ'' dx du dh bG bK cV h';exact he c ρ'' dx du dh bG bK ((hf.trans cV).mono fp) h'
   .intro c ρ' d' w' a' fk dQ hf h';exact he c ρ' d' w' a' fk dQ (hf.mono nG) h'
  |some jb=>
   obtain⟨j,b⟩:=jb;unfold vQ at h
   cases ht:nq l j with
   |none=>rw[ht]at h;exact h.elim
   |some t=>
    rw[ht]at h;simp only[]at h;have uj:((l.toArray)[j]?).bind (·.dst)=some t:=by rw[←lT];exact ht
    obtain⟨hc,h⟩:=cond_prop h;simp only[and_eq_true,not_eq_true',all_eq_true,or_eq_true]at hc;obtain⟨⟨⟨h1,h2⟩,h3⟩,h4⟩:=hc;have iX:t∉bQ (cL l is):=by simpa using h2
    have bO:∀s∈bQ (cL l is),s<n:=λs hs=>by have:=h3 s hs;simpa[Nat.blt_eq]using this
    obtain⟨K,Gi,pY⟩:=h;have fu:=(ha.at h1).2;have behind:∀(f':Nat->Va) (d':M.D) (w':Wd) (a':Act) (eS:List Nat) (gv:Array Bool),a'.tmps.size=n->a'.defers=M.get d'->Fr (bQ (cL l is)) a a'->
      Dn l eS gv->Cl l.toArray gv->dY rs l (gs.flatMap (·.2)) eS=true->((sk&&FE rs l is sk)=true->S w')->
      (∀s∈kR ((bQ (cL l is)).filter (rG (yS l gs)++dt l (yS l gs)++lv).contains),a'.tmps[s]?=some (f' s))->
      K ((kR ((bQ (cL l is)).filter (rG (yS l gs)++dt l (yS l gs)++lv).contains)).map f') d' w'->Any P rs l S Q ((gs.flatMap (·.2)).length+f) gv a' w':=by
     intro f' d' w' a' eS gv rU dQ hf kA kz ky C9 ho jn;refine mq gB gD gs f eS gv _ _ d' w' a' k (Eq.mp (ov _ _) (Gi _ _ _ jn)) (Ag.new f' ha rU hf ho) dQ ky kA kz C9 (λg' pX=>hg g' (mem_cons_of_mem _ pX)) ?_ ?_
     .intro ρ'' dx du dh bG bK cV jo;exact hk ρ'' dx du dh bG bK ((hf.trans cV).mono fp) jo
     .intro c ρ'' dx du dh bG bK cV h';exact he c ρ'' dx du dh bG bK ((hf.trans cV).mono fp) h'
    unfold Gd at pY;split at pY
    .rename_i c hv
     rw[hv]at fu;by_cases vT:c=b
     .refine jr gB gD is _ _ done arr sk ρ d w a _ (pY.1 vT) ha hd iv kq jq hS ?_ ?_ ?_
      .intro a' hf o ho;obtain⟨i,hi,eM⟩:=gE ho;rw[fF (hg _ (mem_cons_self ..) i hi o eM) uj (by rw[hf t iX];exact fu),vT];simp
      .intro ρ' d' w' a' eS gv fk dQ hf kA kz ky C9 jn;obtain⟨g1,g2⟩:=fh jn;exact behind ρ'.at d' w' a' eS gv fk.size dQ hf kA kz ky (λh=>C9 (by simp only[and_eq_true]at h;exact h.2)) (λs hs=>(fk.at (g1 s hs)).2) g2
      .intro c ρ' d' w' a' fk dQ hf h';exact he c ρ' d' w' a' fk dQ (hf.mono nG) h'
     .have vU:c=!b:=by cases c<;>cases b<;>simp_all
      refine kB gB gD is _ _ done arr w a ?_ iv kq jq ?_ ?_
      .rcases h4 with h4|h4
       .exact .inl (hS h4)
       .refine .inr λi hi o ho=>?_;have h5:=h4 i hi;rw[ho]at h5;simpa using h5
      .intro a' hf o ho;obtain⟨i,hi,eM⟩:=gE ho;rw[fF (hg _ (mem_cons_self ..) i hi o eM) uj (by rw[hf t iX];exact fu)];simpa using vT
      .intro eS gv kA kz ky;refine behind (λ_=>undef) d w (skip (cL l is) a) eS gv (by rw[eU];exact ha.size) (by rw[dW];exact hd) (gf _ a) kA kz ky (λh=>hS (by simp only[and_eq_true]at h;exact h.1)) ?_ (pY.2 vU);intro s hs;have hm:=(mem_filter.1 (fC hs)).1;exact gU _ a s hm (by rw[ha.size];exact bO s hm)
    .rename_i hv
     refine kB gB gD is _ _ done arr w a ?_ iv kq jq ?_ ?_
     .rcases h4 with h4|h4
      .exact .inl (hS h4)
      .refine .inr λi hi o ho=>?_;have h5:=h4 i hi;rw[ho]at h5;simpa using h5
     .intro a' hf o ho;obtain⟨i,hi,eM⟩:=gE ho;exact kj (hg _ (mem_cons_self ..) i hi o eM) uj (by rw[hf t iX];exact fu) hv
     .intro eS gv kA kz ky;refine behind (λ_=>undef) d w (skip (cL l is) a) eS gv (by rw[eU];exact ha.size) (by rw[dW];exact hd) (gf _ a) kA kz ky (λh=>hS (by simp only[and_eq_true]at h;exact h.1)) ?_ pY;intro s hs;have hm:=(mem_filter.1 (fC hs)).1;exact gU _ a s hm (by rw[ha.size];exact bO s hm)
theorem kW{rs:List Nat}{l:List Oper}:∀(is done:List Nat),dY rs l is done=true->∀i∈is,∃o,l[i]?=some o/\cT o.op=false
 |[],_,_,_,h=>by cases h
 |i::is,done,h,j,hj=>by
  obtain⟨o,h1,_,h3,h4,_⟩:=gV h;rcases mem_cons.1 hj with rfl|hj
  .exact⟨o,h1,h3⟩
  .exact kW is _ h4 j hj
structure Ok(M:Dm)(n:Nat)(K:Ks M)(Q:Exit->Act->WP)(W:List Nat)(a₀:Act):Prop where
 iG:∀ρ d w a,Ag n ρ a->a.defers=M.get d->Fr W a₀ a->K.iG ρ d w->Q .normal a w
 ext:∀i ρ d w a,Ag n ρ a->a.defers=M.get d->Fr W a₀ a->K.ext i ρ d w->Q (.exit i) a w
 rF:∀i ρ d w a,Ag n ρ a->a.defers=M.get d->Fr W a₀ a->K.rF i ρ d w->Q (.goto i) a w
 ret:∀ρ d w a,Ag n ρ a->a.defers=M.get d->Fr W a₀ a->K.ret ρ d w->Q .ret a w
 pH:∀c ρ d w a,Ag n ρ a->a.defers=M.get d->Fr W a₀ a->K.pH c ρ d w->Q (.panic c) a w
theorem zu{hd rs:List Nat}{id:Nat}{ops:Array Oper}{draw:Bool}{lv:List Nat}{ρ:Env}{d:M.D}{w:Wd}{a:Act}
  {k:Env->M.D->WP}{e:List PanicEntry->Env->M.D->WP}(hm:P.follows .mixedOrders=true) (gB:PI rs Q)
  (h:CZ P M n hd rs id ops.toList draw lv ρ d w k e) (ha:Ag n ρ a) (iY:a.defers=M.get d)
  (hk:∀ρ' d' w' a',Ag n ρ' a'->a'.defers=M.get d'->Fr (bQ ops.toList) a a'->k ρ' d' w'->Q .normal a' w')
  (he:∀c ρ' d' w' a',Ag n ρ' a'->a'.defers=M.get d'->Fr (bQ ops.toList) a a'->e c ρ' d' w'->Q (.panic c) a' w'):
  (Code.region id ops draw).wp P Q a w:=by
 unfold CZ at h
 cases draw with
 |false=>
  simp only[]at h;obtain⟨h1,h2⟩:=ki ops.toList;refine wp_region ?_;have h3:=oC (gS ops.toList) ρ d w a k h ha iY h2 (by rw[h1];exact hk) (by rw[h1];exact he);rw[h1]at h3;have h4:=wpOps_eq_wpList (P:=P) (ops:=ops) (Q:=Q) ops.toList 0 (λj=>by simp);rw[List.range_eq_range'];have h5:List.range' 0 ops.size=List.range' 0 ops.toList.length:=by simp
  rw[h5,h4];simpa using h3
 |true=>
  simp only[]at h
  cases hc:hd.contains id with
  |false=>
   rw[hc]at h;simp only[]at h;obtain⟨hB,h⟩:=cond_prop h;obtain⟨C,hC,hq⟩:=h;obtain⟨h1,h2⟩:=ki ops.toList;refine wp_region_quiet (C:=C) hm (by simpa using uu hB) hC ?_;have h3:=oD (P:=P) (C:=C) (Q:=λa'=>∀w',C w'->Q .normal a' w') (gS ops.toList) ρ a _ hq ha h2 (by
    rw[h1];intro ρ' a' fk dQ hf jn w' zv;exact hk ρ' d w' a' fk (by rw[dQ,iY]) hf (jn w' zv))
   rw[h1]at h3;simpa using h3
  |true=>
   rw[hc]at h;simp only[]at h;obtain⟨iv,h⟩:=cond_prop h;simp only[and_eq_true]at iv;obtain⟨iv,Df⟩:=iv;obtain⟨S,hS,hq⟩:=h;have nt:=kW _ _ iv;obtain⟨h1,h2⟩:=mo (l:=ops.toList) (order rs ops.toList ops.toList.length []) λi hi=>let⟨o,ho,_⟩:=nt i hi;⟨o,ho⟩
   refine wp_region_any hm ?_;have fM:∀(j:Nat) (o:Oper) cs b,ops.toList[j]?=some o->o.op≠.select cs b:=by
    intro j o cs b ho h;have:=all_eq_true.1 Df o (List.mem_of_getElem? ho);rw[h]at this;cases this
   have O1:Cl ops.toList.toArray (replicate ops.size false):=by
    intro j o _ hd;exfalso
    simp[Array.getElem?_replicate]at hd
    split at hd<;>simp at hd
   have fp:∀t,t∈bQ (cL ops.toList ((fZ ops.toList (order rs ops.toList ops.toList.length [])).flatMap (·.2)))->t∈bQ ops.toList:=by
    intro t ht;unfold bQ at*;obtain⟨o,ho,Yf⟩:=List.mem_filterMap.1 ht;obtain⟨i,_,hi⟩:=gE ho;exact List.mem_filterMap.2 ⟨o,List.mem_of_getElem? hi,Yf⟩
   have h3:=mq (P:=P) (S:=S) (rs:=rs) (Q:=Q) (e:=e) gB fM (fZ ops.toList (order rs ops.toList ops.toList.length [])) (ops.size-(order rs ops.toList ops.toList.length []).length) []
    (replicate ops.size false) true ρ d w.drew a k hq ha iY (by rw[h1];exact iv) ⟨by simp,λj=>by
     simp only[contains_nil]
     cases hx:(replicate ops.size false).getD j false with
     |false=>rfl
     |true=>simp[Array.getElem?_replicate]at hx;split at hx<;>simp at hx⟩ O1 (λ_=>hS) h2
    (λρ' d' w' a' fk dQ hf jn=>hk ρ' d' w' a' fk dQ (hf.mono fp) jn) (λc ρ' d' w' a' fk dQ hf h'=>he c ρ' d' w' a' fk dQ (hf.mono fp) h')
   have hlen:=gW rs ops.toList ops.toList.length [];rw[h1]at h3;have FH:(order rs ops.toList ops.toList.length []).length+(ops.size-(order rs ops.toList ops.toList.length []).length)=ops.size:=by
    simp only[Array.length_toList]at hlen⊢;omega
   rw[FH]at h3;have h4:=Any.wpAny _ _ _ _ h3;simpa using h4
theorem PI.then{rs:List Nat}{nx:Act->WP}(h:PI rs Q):PI rs (Exit.then nx Q):=λc a w d v hd hq=>h c a w d v hd hq
theorem PI.block{rs:List Nat}{id:Nat}(h:PI rs Q):PI rs (Exit.inBlock id Q):=λc a w d v hd hq=>h c a w d v hd hq
theorem PI.noGoto{rs:List Nat}(h:PI rs Q):PI rs (Exit.noGoto Q):=λc a w d v hd hq=>h c a w d v hd hq
theorem PI.jump{rs:List Nat}{l:Nat}{J:Act->WP}(h:PI rs Q):PI rs (Exit.jump l J Q):=λc a w d v hd hq=>h c a w d v hd hq
end
theorem Ag.outs{ρ:Env}{a:Act}(h:Ag n ρ a){outs:List Nat}(ho:∀t∈outs,ρ.has t=true):outs.map (λt=>a.tmps.getD t undef)=outs.map ρ.at:=
 List.map_congr_left λt ht=>(h.at (ho t ht)).1
theorem kC{x:Nat}:∀(c:Code) (rest:Code),findLabel c x=some rest->mh x c=true
 |.seq a b,rest,h=>by
  unfold findLabel at h;unfold mh
  cases ha:findLabel a x with
  |some r=>rw[kC a r ha];rfl
  |none=>rw[ha]at h;rw[kC b rest h];simp
 |.label k,rest,h=>by
  unfold findLabel at h;split at h
  .rename_i hk;unfold mh;simp at hk;rw[hk];exact Nat.beq_refl x
  .cases h
 |.skip,_,h=>by cases h
 |.region ..,_,h=>by cases h
 |.cond ..,_,h=>by cases h
 |.block ..,_,h=>by cases h
 |.loop ..,_,h=>by cases h
 |.rangeFunc ..,_,h=>by cases h
 |.exit ..,_,h=>by cases h
 |.scope ..,_,h=>by cases h
 |.goto ..,_,h=>by cases h
 |.ret,_,h=>by cases h
 |.refuse ..,_,h=>by cases h
theorem fN{x:Nat}:∀(c:Code),findLabel c x=none->mh x c=false
 |.seq a b,h=>by
  unfold findLabel at h;unfold mh
  cases ha:findLabel a x with
  |some r=>rw[ha]at h;cases h
  |none=>rw[ha]at h;rw[fN a ha,fN b h];rfl
 |.label k,h=>by
  unfold findLabel at h;split at h
  .cases h
  .rename_i hk;unfold mh
   exact beq_false (by simpa using hk)
 |.skip,h=>rfl
 |.region ..,h=>rfl
 |.cond ..,h=>rfl
 |.block ..,h=>rfl
 |.loop ..,h=>rfl
 |.rangeFunc ..,h=>rfl
 |.exit ..,h=>rfl
 |.scope ..,h=>rfl
 |.goto ..,h=>rfl
 |.ret,h=>rfl
 |.refuse ..,h=>rfl
theorem label?_find:∀(c:Code) (y:Nat),label? c=some y->∃rest,findLabel c y=some rest
 |.seq a b,y,h=>by
  unfold label? at h;unfold findLabel
  cases ha:findLabel a y with
  |some r=>exact⟨_,rfl⟩
  |none=>
   cases hl:label? a with
   |some z=>
    rw[hl]at h;simp at h;subst h
    obtain⟨r,hr⟩:=label?_find a z hl;rw[ha]at hr;cases hr
   |none=>
    rw[hl]at h;exact label?_find b y (by simpa using h)
 |.label l,y,h=>by cases h;exact⟨.skip,by simp[findLabel]⟩
 |.skip,_,h=>by cases h
 |.region ..,_,h=>by cases h
 |.cond ..,_,h=>by cases h
 |.block ..,_,h=>by cases h
 |.loop ..,_,h=>by cases h
 |.rangeFunc ..,_,h=>by cases h
 |.exit ..,_,h=>by cases h
 |.scope ..,_,h=>by cases h
 |.goto ..,_,h=>by cases h
 |.ret,_,h=>by cases h
 |.refuse ..,_,h=>by cases h
def codeOf(c:Code):Option Nat->Option Code
 |none=>some c
 |some x=>findLabel c x
set_option maxHeartbeats 1000000 in
theorem oF{hd ps rs:List Nat}(hm:P.follows .mixedOrders=true):∀(c:Code) (fr:Option Nat) (lv:List Nat) (ρ:Env) (d:M.D) (w:Wd) (K:Ks M) (a:Act) (Q:Exit->Act->WP) (c':Code),
  codeOf c fr=some c'->den P M n hd ps rs c fr lv ρ d w K->Ag n ρ a->a.defers=M.get d->PI ps Q->Ok M n K Q (wr c) a->c'.wp P Q a w:=by
 intro c;induction c with
 |skip=>
  intro fr lv ρ d w K a Q c' hc h ha iY gB hK
  cases fr with
  |none=>cases hc;exact wp_skip (hK.iG ρ d w a ha iY (Fr.refl _ _) h)
  |some x=>cases hc
 |label l=>
  intro fr lv ρ d w K a Q c' hc h ha iY gB hK
  cases fr with
  |none=>cases hc;exact wp_label (hK.iG ρ d w a ha iY (Fr.refl _ _) h)
  |some x=>
   simp only[codeOf,findLabel]at hc;split at hc
   .cases hc;exact wp_skip (hK.iG ρ d w a ha iY (Fr.refl _ _) h)
   .cases hc
 |region id ops draw=>
  intro fr lv ρ d w K a Q c' hc h ha iY gB hK
  cases fr with
  |none=>cases hc;exact zu hm gB h ha iY hK.iG hK.pH
  |some x=>cases hc
 |seq x y Gv Od=>
  intro fr lv ρ d w K a Q c' hc h ha iY gB hK;have v7:∀{a₁ a₂:Act},Fr (wr x) a a₁->Fr (wr y) a₁ a₂->Fr (wr (.seq x y)) a a₂:=λh1 h2=>h1.trans h2;have zw:∀{a₁:Act},Fr (wr x) a a₁->Fr (wr (.seq x y)) a a₁:=λh1=>h1.mono λt ht=>mem_append_left _ ht;have v8:∀{a₁:Act},Fr (wr y) a a₁->Fr (wr (.seq x y)) a a₁:=λh1=>h1.mono λt ht=>List.mem_append_right _ ht;have behind:∀(ρ':Env) (d':M.D) (w':Wd) (a':Act),Ag n ρ' a'->a'.defers=M.get d'->Fr (wr x) a a'->den P M n hd ps rs y none lv ρ' d' w' K->y.wp P Q a' w':=by
   intro ρ' d' w' a' fk dQ hf h';refine Od none lv ρ' d' w' K a' Q y rfl h' fk dQ gB ⟨?_,?_,?_,?_,?_⟩
   .intro ρ'' dx du dh bG bK cV hk;exact hK.iG ρ'' dx du dh bG bK (v7 hf cV) hk
   .intro i ρ'' dx du dh bG bK cV hk;exact hK.ext i ρ'' dx du dh bG bK (v7 hf cV) hk
   .intro i ρ'' dx du dh bG bK cV hk;exact hK.rF i ρ'' dx du dh bG bK (v7 hf cV) hk
   .intro ρ'' dx du dh bG bK cV hk;exact hK.ret ρ'' dx du dh bG bK (v7 hf cV) hk
   .intro c ρ'' dx du dh bG bK cV hk;exact hK.pH c ρ'' dx du dh bG bK (v7 hf cV) hk
  have O2:∀(nx:Env->M.D->WP) (T:Act->WP),(∀ρ d w a',Ag n ρ a'->a'.defers=M.get d->Fr (wr x) a a'->nx ρ d w->T a' w)->
    Ok M n {K with iG:=nx} (Exit.then T Q) (wr x) a:=by
   intro nx T hT;refine⟨hT,?_,?_,?_,?_⟩
   .intro i ρ'' dx du dh bG bK cV hk;exact hK.ext i ρ'' dx du dh bG bK (zw cV) hk
   .intro i ρ'' dx du dh bG bK cV hk;exact hK.rF i ρ'' dx du dh bG bK (zw cV) hk
   .intro ρ'' dx du dh bG bK cV hk;exact hK.ret ρ'' dx du dh bG bK (zw cV) hk
   .intro c ρ'' dx du dh bG bK cV hk;exact hK.pH c ρ'' dx du dh bG bK (zw cV) hk
  cases fr with
  |none=>
   cases hc
   unfold den at h;refine wp_seq ?_
   cases Oe:Bm x with
   |true=>
    rw[Oe]at h;obtain⟨J,Yg,Yh⟩:=h;refine Gv none _ ρ d w _ a (Exit.then (y.wp P Q) Q) x rfl Yh ha iY gB.then (O2 _ _ ?_)
    intro ρ' d' w' a' fk dQ hf hk;obtain⟨g1,g2⟩:=fh hk;exact behind _ d' w' a' (Ag.new ρ'.at ha fk.size hf λt ht=>(fk.at (g1 t ht)).2) dQ hf (Yg _ _ _ g2)
   |false=>
    rw[Oe]at h;refine Gv none _ ρ d w _ a (Exit.then (y.wp P Q) Q) x rfl h ha iY gB.then (O2 _ _ ?_)
    intro ρ' d' w' a' fk dQ hf hk;exact behind ρ' d' w' a' fk dQ hf hk
  |some l=>
   unfold den at h;simp only[codeOf,findLabel]at hc
   cases hx:findLabel x l with
   |some r=>
    rw[hx]at hc
    cases hc
    rw[kC x r hx]at h;refine wp_seq ?_;refine Gv (some l) _ ρ d w _ a (Exit.then (y.wp P Q) Q) r hx h ha iY gB.then (O2 _ _ ?_)
    intro ρ' d' w' a' fk dQ hf hk;exact behind ρ' d' w' a' fk dQ hf hk
   |none=>
    rw[hx]at hc;rw[fN x hx]at h;refine Od (some l) lv ρ d w K a Q c' hc h ha iY gB ⟨?_,?_,?_,?_,?_⟩
    .intro ρ'' dx du dh bG bK cV hk;exact hK.iG ρ'' dx du dh bG bK (v8 cV) hk
    .intro i ρ'' dx du dh bG bK cV hk;exact hK.ext i ρ'' dx du dh bG bK (v8 cV) hk
    .intro i ρ'' dx du dh bG bK cV hk;exact hK.rF i ρ'' dx du dh bG bK (v8 cV) hk
    .intro ρ'' dx du dh bG bK cV hk;exact hK.ret ρ'' dx du dh bG bK (v8 cV) hk
    .intro c ρ'' dx du dh bG bK cV hk;exact hK.pH c ρ'' dx du dh bG bK (v8 cV) hk
 |cond c x y Gv Od=>
  intro fr lv ρ d w K a Q c' hc h ha iY gB hK
  cases fr with
  |some l=>cases hc
  |none=>
   cases hc
   unfold den at h;obtain⟨Gt,h⟩:=cond_prop h;have NZ:=ha.ev Gt;unfold If at h;split at h
   .rename_i b hb
    rw[hb]at NZ;refine wp_cond_split NZ (λhb=>?_) (λhb=>?_)
    .refine Gv none lv ρ d w K a Q x rfl (h.1 hb) ha iY gB ⟨?_,?_,?_,?_,?_⟩
     .intro ρ'' dx du dh bG bK cV hk;exact hK.iG ρ'' dx du dh bG bK (cV.mono λt ht=>mem_append_left _ ht) hk
     .intro i ρ'' dx du dh bG bK cV hk;exact hK.ext i ρ'' dx du dh bG bK (cV.mono λt ht=>mem_append_left _ ht) hk
     .intro i ρ'' dx du dh bG bK cV hk;exact hK.rF i ρ'' dx du dh bG bK (cV.mono λt ht=>mem_append_left _ ht) hk
     .intro ρ'' dx du dh bG bK cV hk;exact hK.ret ρ'' dx du dh bG bK (cV.mono λt ht=>mem_append_left _ ht) hk
     .intro c ρ'' dx du dh bG bK cV hk;exact hK.pH c ρ'' dx du dh bG bK (cV.mono λt ht=>mem_append_left _ ht) hk
    .refine Od none lv ρ d w K a Q y rfl (h.2 hb) ha iY gB ⟨?_,?_,?_,?_,?_⟩
     .intro ρ'' dx du dh bG bK cV hk;exact hK.iG ρ'' dx du dh bG bK (cV.mono λt ht=>List.mem_append_right _ ht) hk
     .intro i ρ'' dx du dh bG bK cV hk;exact hK.ext i ρ'' dx du dh bG bK (cV.mono λt ht=>List.mem_append_right _ ht) hk
     .intro i ρ'' dx du dh bG bK cV hk;exact hK.rF i ρ'' dx du dh bG bK (cV.mono λt ht=>List.mem_append_right _ ht) hk
     .intro ρ'' dx du dh bG bK cV hk;exact hK.ret ρ'' dx du dh bG bK (cV.mono λt ht=>List.mem_append_right _ ht) hk
     .intro c ρ'' dx du dh bG bK cV hk;exact hK.pH c ρ'' dx du dh bG bK (cV.mono λt ht=>List.mem_append_right _ ht) hk
   .exact h.elim
 |block id x ih=>
  intro fr lv ρ d w K a Q c' hc h ha iY gB hK
  cases fr with
  |some l=>cases hc
  |none=>
   cases hc
   unfold den at h;refine wp_block (ih none lv ρ d w _ a (Exit.inBlock id Q) x rfl h ha iY gB.block ⟨hK.iG,?_,hK.rF,hK.ret,hK.pH⟩);intro i ρ'' dx du dh bG bK cV hk;simp only[Exit.inBlock]
   cases hb:beq i id with
   |true=>
    simp only[hb]at hk;rw[if_pos (Nat.eq_of_beq_eq_true hb)];exact hK.iG ρ'' dx du dh bG bK cV hk
   |false=>
    simp only[hb]at hk;rw[if_neg (λe=>by rw[e,Nat.beq_refl]at hb;cases hb)];exact hK.ext i ρ'' dx du dh bG bK cV hk
 |loop x ih=>
  intro fr lv ρ d w K a Q c' hc h ha iY gB hK
  cases fr with
  |some l=>cases hc
  |none=>
   cases hc
   unfold den at h;obtain⟨g1,I,μ,h0,Dg⟩:=fh h;refine wp_loop (λa' w'=>∃d',a'.defers=M.get d'/\a'.tmps.size=n/\Fr (wr x) a a'/\(∀t∈jg rs x lv ρ,t<n)/\I ((jg rs x lv ρ).map λt=>a'.tmps.getD t undef) d' w')
    (λa' w'=>μ ((jg rs x lv ρ).map λt=>a'.tmps.getD t undef) (M.back a'.defers) w') ?_ ?_
   .refine⟨d,iY,ha.size,Fr.refl _ _,?_,by rw[ha.outs g1];exact h0⟩;intro t ht;have:=(ha.at (g1 t ht)).2;rcases lt_or_ge t a.tmps.size with h'|h'
    .rw[ha.size]at h';exact h'
    .rw[Array.getElem?_eq_none h']at this;cases this
   .rintro a' w' ⟨d',dQ,rU,hf,bO,hI⟩;have fk:Ag n (gp ρ (wr x) (jg rs x lv ρ) ((jg rs x lv ρ).map λt=>a'.tmps.getD t undef)) a':=by
     refine Ag.new _ ha rU hf λt ht=>?_;have:=bO t ht;simp[rU,this]
    refine ih none _ _ d' w' _ a' (Exit.then _ Q) x rfl (Dg _ _ _ hI) fk dQ gB.then ⟨?_,?_,?_,?_,?_⟩
    .intro ρ'' dx du dh bG bK cV hk;have jy:iH ρ'' (jg rs x lv ρ) (λl=>I l dx du/\μ l dx du<μ ((jg rs x lv ρ).map λt=>a'.tmps.getD t undef) d' w'):=hk;obtain⟨q1,q2,q3⟩:=fh jy;refine⟨⟨dx,bK,bG.size,λt ht=>by rw[cV t ht,hf t ht],bO,by rw[bG.outs q1];exact q2⟩,?_⟩;simp only[bG.outs q1,bK,dQ,M.pQ];exact q3
    .intro i ρ'' dx du dh bG bK cV hk;exact hK.ext i ρ'' dx du dh bG bK (λt ht=>by rw[cV t ht,hf t ht]) hk
    .intro i ρ'' dx du dh bG bK cV hk;exact hK.rF i ρ'' dx du dh bG bK (λt ht=>by rw[cV t ht,hf t ht]) hk
    .intro ρ'' dx du dh bG bK cV hk;exact hK.ret ρ'' dx du dh bG bK (λt ht=>by rw[cV t ht,hf t ht]) hk
    .intro c ρ'' dx du dh bG bK cV hk;exact hK.pH c ρ'' dx du dh bG bK (λt ht=>by rw[cV t ht,hf t ht]) hk
 |scope x ih=>
  intro fr lv ρ d w K a Q c' hc h ha iY gB hK
  cases fr with
  |some l=>cases hc
  |none=>
   cases hc
   unfold den at h
   cases hl:jumps x with
   |none=>
    rw[hl]at h;refine wp_scope_straight (ih none lv ρ d w _ a (Exit.noGoto Q) x rfl h ha iY gB.noGoto ⟨hK.iG,hK.ext,?_,hK.ret,hK.pH⟩);intro i ρ'' dx du dh bG bK cV hk;exact hk.elim
   |some y=>
    rw[hl]at h;obtain⟨J,μ,h1,h2⟩:=h
    cases Gu:findLabel x y with
    |none=>obtain⟨r,hr⟩:=label?_find x y (by unfold jumps at hl;split at hl;exact hl;cases hl);rw[Gu]at hr;cases hr
    |some rest=>
     refine wp_scope_jumps y (λa' w'=>∃d',a'.defers=M.get d'/\a'.tmps.size=n/\Fr (wr x) a a'/\(∀t∈kT rs x y lv ρ,t<n)/\J ((kT rs x y lv ρ).map λt=>a'.tmps.getD t undef) d' w')
      (λa' w'=>μ ((kT rs x y lv ρ).map λt=>a'.tmps.getD t undef) (M.back a'.defers) w') Gu ?_ ?_
     .refine ih none _ ρ d w _ a (Exit.jump y _ Q) x rfl h1 ha iY gB.jump ⟨hK.iG,hK.ext,?_,hK.ret,hK.pH⟩;intro i ρ'' dx du dh bG bK cV hk
      cases hb:beq i y with
      |false=>simp only[hb]at hk
      |true=>
       simp only[hb]at hk;obtain⟨q1,q2⟩:=fh hk;refine⟨Nat.eq_of_beq_eq_true hb,dx,bK,bG.size,cV,?_,by rw[bG.outs q1];exact q2⟩;intro t ht;have:=(bG.at (q1 t ht)).2;rcases lt_or_ge t dh.tmps.size with h'|h'
       .rw[bG.size]at h';exact h'
       .rw[Array.getElem?_eq_none h']at this;cases this
     .rintro a' w' ⟨d',dQ,rU,hf,bO,hI⟩;have fk:Ag n (gp ρ (wr x) (kT rs x y lv ρ) ((kT rs x y lv ρ).map λt=>a'.tmps.getD t undef)) a':=by
       refine Ag.new _ ha rU hf λt ht=>?_;have:=bO t ht;simp[rU,this]
      refine ih (some y) _ _ d' w' _ a' (Exit.jump y _ Q) rest Gu (h2 _ _ _ hI) fk dQ gB.jump ⟨?_,?_,?_,?_,?_⟩
      .intro ρ'' dx du dh bG bK cV hk;exact hK.iG ρ'' dx du dh bG bK (λt ht=>by rw[cV t ht,hf t ht]) hk
      .intro i ρ'' dx du dh bG bK cV hk;exact hK.ext i ρ'' dx du dh bG bK (λt ht=>by rw[cV t ht,hf t ht]) hk
      .intro i ρ'' dx du dh bG bK cV hk
       cases hb:beq i y with
       |false=>simp only[hb]at hk
       |true=>
        simp only[hb]at hk;obtain⟨q1,q2,q3⟩:=fh hk;refine⟨Nat.eq_of_beq_eq_true hb,⟨dx,bK,bG.size,λt ht=>by rw[cV t ht,hf t ht],bO,by rw[bG.outs q1];exact q2⟩,?_⟩;simp only[bG.outs q1,bK,dQ,M.pQ];exact q3
      .intro ρ'' dx du dh bG bK cV hk;exact hK.ret ρ'' dx du dh bG bK (λt ht=>by rw[cV t ht,hf t ht]) hk
      .intro c ρ'' dx du dh bG bK cV hk;exact hK.pH c ρ'' dx du dh bG bK (λt ht=>by rw[cV t ht,hf t ht]) hk
 |exit i=>
  intro fr lv ρ d w K a Q c' hc h ha iY gB hK
  cases fr with
  |none=>cases hc;exact wp_exit (hK.ext i ρ d w a ha iY (Fr.refl _ _) h)
  |some x=>cases hc
 |goto l=>
  intro fr lv ρ d w K a Q c' hc h ha iY gB hK
  cases fr with
  |none=>cases hc;exact wp_goto (hK.rF l ρ d w a ha iY (Fr.refl _ _) h)
  |some x=>cases hc
 |ret=>
  intro fr lv ρ d w K a Q c' hc h ha iY gB hK
  cases fr with
  |none=>cases hc;exact wp_ret (hK.ret ρ d w a ha iY (Fr.refl _ _) h)
  |some x=>cases hc
 |rangeFunc f ps Gw b ih1 ih2=>
  intro fr lv ρ d w K a Q c' hc h ha iY gB hK
  cases fr with
  |none=>exact h.elim
  |some x=>cases hc
 |refuse why=>
  intro fr lv ρ d w K a Q c' hc h ha iY gB hK
  cases fr with
  |none=>exact h.elim
  |some x=>cases hc
theorem oG(args:LV)(n:Nat)(h:args.length<=n)(ds:LD):
  Ag n (ez 0 args) {tmps:=args.toArray++replicate (n-args.toArray.size) undef,defers:=ds} where
 size:=by simp;omega
 val:=by
  have key:∀(l:LV) (i t:Nat) (v:Va),List.lookup t (ez i l)=some v->i<=t/\l[t-i]?=some v:=by
   intro l;induction l with
   |nil=>intro i t v h;cases h
   |cons x l ih=>
    intro i t v h;simp only[ez]at h;rw[lookup_cons]at h;by_cases ht:t=i
    .subst ht;rw[if_pos rfl]at h;cases h;exact⟨le_refl _,by simp⟩
    .rw[if_neg ht]at h;obtain⟨h1,h2⟩:=ih (i+1) t v h;refine⟨by omega,?_⟩;have:t-i=(t-(i+1))+1:=by omega
     rw[this];simpa using h2
  intro t v hv;obtain⟨_,h2⟩:=key args 0 t v hv;simp only[Nat.sub_zero]at h2;have bO:t<args.length:=by
   rcases lt_or_ge t args.length with h|h
   .exact h
   .rw[List.getElem?_eq_none h]at h2;cases h2
  rw[Array.getElem?_append_left (by simpa using bO)];simpa using h2
def kD(tmps:AV):ResultVar->Sem Va
 |.tmp t=>pure (tmps.getD t undef)
 |.cell b t=>do loadVar t (←asAddr (tmps.getD b undef))
theorem iI{n:Nat}{a:Act}{ρ:Env}{w:Wd}(ha:Ag n ρ a):∀(rs:List ResultVar) (k:LV->Prop),pV P ρ rs w k->
  ∃l,k l/\(List.mapM (kD a.tmps) rs).run P w=.ok l w
 |[],k,h=>⟨[],h,by simp[pure]⟩
 |.tmp t::rs,k,h=>by
  obtain⟨h1,h2⟩:=cond_prop h;obtain⟨l,h3,h4⟩:=iI ha rs _ h2;refine⟨_,h3,?_⟩;rw[List.mapM_cons];simp only[kD,Sem.run_bind,Sem.run_pure,Result.andThen_ok,h4,(ha.at h1).1]
 |.cell b t::rs,k,h=>by
  obtain⟨h1,v,h2,h3⟩:=cond_prop h;obtain⟨l,h4,h5⟩:=iI ha rs _ h3;refine⟨_,h4,?_⟩;rw[List.mapM_cons];have:(kD a.tmps (.cell b t)).run P w=.ok v w:=by
   show(do loadVar t (←asAddr (a.tmps.getD b undef)):Sem Va).run P w=.ok v w
   rw[(ha.at h1).1];unfold loadAt at h2
   cases hx:ρ.at b with
   |pointer p=>cases p with
    |some q=>rw[hx]at h2;exact h2
    |none=>rw[hx]at h2;simp[Instr.sureAddr,stuck,Sem.run]at h2
   |_=>rw[hx]at h2;simp[Instr.sureAddr,stuck,Sem.run]at h2
  simp only[Sem.run_bind,Sem.run_pure,Result.andThen_ok,this,h5]
theorem dX{n:Nat}{fn:Func}{a:Act}{ρ:Env}{w:Wd}{k:Va->Prop}(ha:Ag n ρ a)
  (h:pV P ρ fn.results.toList w λl=>k (C6 l)):∃v,(results fn a.tmps).run P w=.ok v w/\k v:=by
 obtain⟨l,h1,h2⟩:=iI ha _ _ h;refine⟨C6 l,?_,h1⟩;have e:results fn a.tmps=(do let vs←fn.results.mapM (kD a.tmps);pure (if h:vs.size=1 then vs[0]else .tuple vs)):=by
  unfold results;congr 1
 rw[e,Array.mapM_eq_mapM_toList];simp only[Sem.run_bind,map_eq_pure_bind,Sem.run_pure,h2,Result.andThen_ok];congr 1
 unfold C6;match l with
 |[]=>rfl
 |[v]=>rfl
 |_::_::_=>simp
theorem gF{f:FuncId}{fn:Func}{c:Code}{args:LV}{w:Wd}{R:ER}(hd:List Nat)(hm:P.follows .mixedOrders=true)
  (hf:P.funcs[f]?=some fn) (hb:fn.body=some c) (hn:args.length<=fn.ntmps) (h:body P fn.ntmps hd fn.results.toList c args R w):Calls P f args.toArray w R:=by
 refine calls_of_wp hf hb ?_;refine oF (M:=Dm.no) (n:=fn.ntmps) (ps:=[]) (rs:=dj fn.results.toList) (hd:=hd) hm c none (dj fn.results.toList) (ez 0 args) () w _ _ _ c rfl h (oG args _ hn []) rfl ?_ ⟨?_,?_,?_,?_,?_⟩
 .intro c' a' w' d v _ hq;exact⟨hq.1,hq.2⟩
 .intro ρ d w' a' ha dQ _ hk;obtain⟨v,h1,h2⟩:=dX (fn:=fn) (k:=λv=>R (.returned v) w') ha hk;exact⟨dQ,v,h1,h2⟩
 .intro i ρ d w' a' _ _ _ hk;exact hk.elim
 .intro i ρ d w' a' _ _ _ hk;exact hk.elim
 .intro ρ d w' a' ha dQ _ hk;obtain⟨v,h1,h2⟩:=dX (fn:=fn) (k:=λv=>R (.returned v) w') ha hk;exact⟨dQ,v,h1,h2⟩
 .intro c' ρ d w' a' ha dQ _ hk;exact⟨dQ,hk⟩
theorem uv{f:FuncId}{fn:Func}{c:Code}{args:LV}{u:FrameMode}{w:Wd}{R:ER}(hd:List Nat)(hm:P.follows .mixedOrders=true)
  (hf:P.funcs[f]?=some fn) (hb:fn.body=some c) (hn:args.length<=fn.ntmps) (h:body P fn.ntmps hd fn.results.toList c args R w):
  CallsD P f args.toArray u w λe u' w'=>u'=u/\R e w':=by
 refine callsD_of_wp hf hb ?_;refine oF (M:=Dm.no) (n:=fn.ntmps) (ps:=[]) (rs:=dj fn.results.toList) (hd:=hd) hm c none (dj fn.results.toList) (ez 0 args) () w _ _ _ c rfl h (oG args _ hn []) rfl ?_ ⟨?_,?_,?_,?_,?_⟩
 .intro c' a' w' d v _ hq;exact⟨hq.1,hq.2⟩
 .intro ρ d w' a' ha dQ _ hk;obtain⟨v,h1,h2⟩:=dX (fn:=fn) (k:=λv=>R (.returned v) w') ha hk;exact⟨dQ,v,h1,h2⟩
 .intro i ρ d w' a' _ _ _ hk;exact hk.elim
 .intro i ρ d w' a' _ _ _ hk;exact hk.elim
 .intro ρ d w' a' ha dQ _ hk;obtain⟨v,h1,h2⟩:=dX (fn:=fn) (k:=λv=>R (.returned v) w') ha hk;exact⟨dQ,v,h1,h2⟩
 .intro c' ρ d w' a' ha dQ _ hk;exact⟨dQ,hk⟩
theorem Lv.leaves{fn:Func}{tmps:AV}{res:Wd->(Va->Prop)->Prop}{R:ER}
  (hr:∀w k,res w k->∃v,(results fn tmps).run P w=.ok v w/\k v):∀(ds:LD) (u:FrameMode) (w:Wd),Lv P res R ds u w->Leaves P fn tmps R ds u w
 |[],.returning,w,h=>hr w _ h
 |[],.panicking _,w,h=>h
 |[],.run,w,h=>h
 |d::ds,u,w,⟨hu,fv,cap,f,args,ht,hi,h⟩=>⟨hu,fv,cap,f,args,ht,hi,h.mono λe u' w' he=>by
   cases e with
   |returned v=>exact Lv.leaves hr ds _ w' he
   |panicked c=>exact Lv.leaves hr ds _ w' he
   |outgrown=>exact he.elim⟩
theorem Leaves.tmps{fn:Func}{tmps Bt:AV}{R:ER}(hr:∀w v,(results fn tmps).run P w=.ok v w->(results fn Bt).run P w=.ok v w):
  ∀(ds:LD) (u:FrameMode) (w:Wd),Leaves P fn tmps R ds u w->Leaves P fn Bt R ds u w
 |[],.returning,w,⟨v,h1,h2⟩=>⟨v,hr w v h1,h2⟩
 |[],.panicking _,w,h=>h
 |[],.run,w,h=>h
 |d::ds,u,w,⟨hu,fv,cap,f,args,ht,hi,h⟩=>⟨hu,fv,cap,f,args,ht,hi,h.mono λe u' w' he=>by
   cases e with
   |returned v=>exact Leaves.tmps hr ds _ w' he
   |panicked c=>exact Leaves.tmps hr ds _ w' he
   |outgrown=>exact he⟩
theorem qc{fn:Func}(a:Act)(d:Nat)(v:Va)(h:d∉dj fn.results.toList):results fn (a.put (some d) v).tmps=results fn a.tmps:=by
 have key:∀(rs:List ResultVar),d∉dj rs->∀r∈rs,kD (a.put (some d) v).tmps r=kD a.tmps r:=by
  intro rs;induction rs with
  |nil=>intro _ r hr;cases hr
  |cons x rs ih=>
   intro hd r hr;have hx:d∉dj rs:=λhm=>hd (by cases x<;>exact mem_cons_of_mem _ hm);have aI:∀t,(x=.tmp t\/∃u,x=.cell t u)->(a.put (some d) v).tmps.getD t undef=a.tmps.getD t undef:=by
    intro t ht;have Yi:d≠t:=by
     rintro rfl;rcases ht with rfl|⟨u,rfl⟩<;>exact hd (mem_cons_self ..)
    simp[Act.put,Array.getElem?_setIfInBounds_ne Yi]
   rcases mem_cons.1 hr with rfl|hr
   .cases r with
    |tmp t=>simp only[kD,aI t (.inl rfl)]
    |cell t u=>simp only[kD,aI t (.inr ⟨u,rfl⟩)]
   .exact ih hx r hr
 have e:∀tmps,results fn tmps=(do let vs←fn.results.mapM (kD tmps);pure (if h:vs.size=1 then vs[0]else .tuple vs)):=by
  intro tmps;unfold results;congr 1
 rw[e,e,Array.mapM_eq_mapM_toList,Array.mapM_eq_mapM_toList];have e2:∀(rs:List ResultVar),(∀r∈rs,kD (a.put (some d) v).tmps r=kD a.tmps r)->List.mapM (kD (a.put (some d) v).tmps) rs=List.mapM (kD a.tmps) rs:=by
  intro rs;induction rs with
  |nil=>intro _;rfl
  |cons x rs ih=>
   intro hx;rw[List.mapM_cons,List.mapM_cons,hx x (mem_cons_self ..),ih λr hr=>hx r (mem_cons_of_mem _ hr)]
 rw[e2 _ (key _ h)]
theorem uw{f:FuncId}{fn:Func}{c:Code}{args:LV}{w:Wd}{R:ER}(hd:List Nat)(hm:P.follows .mixedOrders=true)
  (hf:P.funcs[f]?=some fn) (hb:fn.body=some c) (hn:args.length<=fn.ntmps) (h:Br P fn.ntmps hd fn.results.toList c args R w):Calls P f args.toArray w R:=by
 refine calls_of_wp_defers hf hb ?_;refine oF (M:=Dm.yes) (n:=fn.ntmps) (ps:=dj fn.results.toList) (rs:=dj fn.results.toList) (hd:=hd) hm c none (dj fn.results.toList) (ez 0 args) ([]:LD) w _ _ _ c rfl h (oG args _ hn []) rfl ?_ ⟨?_,?_,?_,?_,?_⟩
 .intro c' a' w' d v kq hq;refine Leaves.tmps (λw u hu=>?_) _ _ _ hq;rw[qc a' d v kq]at hu;exact hu
 .intro ρ d w' a' ha dQ _ hk;show Leaves P fn a'.tmps R a'.defers .returning w'
  rw[dQ];exact Lv.leaves (λw k h=>dX ha h) d .returning w' hk
 .intro i ρ d w' a' _ _ _ hk;exact hk.elim
 .intro i ρ d w' a' _ _ _ hk;exact hk.elim
 .intro ρ d w' a' ha dQ _ hk;show Leaves P fn a'.tmps R a'.defers .returning w'
  rw[dQ];exact Lv.leaves (λw k h=>dX ha h) d .returning w' hk
 .intro c' ρ d w' a' ha dQ _ hk;show Leaves P fn a'.tmps R a'.defers (.panicking c') w'
  rw[dQ];exact Lv.leaves (λw k h=>dX ha h) d (.panicking c') w' hk
end Go.Sh

namespace Go.Sh
variable {P:Program}
def bC(fn:Func):Code:=fn.body.getD .skip
def r1(v:Va)(w:Wd)(k:Va->Prop):Prop:=k v
def bN(P:Program)(res:Wd->(Va->Prop)->Prop)(R:ER)(ds:LD)(c:List PanicEntry)(w:Wd):Prop:=Lv P res R ds (.panicking c) w
def Xv(P:Program)(C:WP)(s:Sem Va)(k:Va->Prop):Prop:=Xq P C (do pure (.value (←s))) k
def Xw(P:Program)(S:WP)(s:Sem Va)(k:Va->Prop):Prop:=Xs P S (do pure (.value (←s))) k
theorem Xv.i{C:WP}{s:Sem Va}{k:Va->Prop}(v:Va)(h:∀w,C w->s.run P w=.ok v w)(hk:k v):Xv P C s k:=
 ⟨v,λw hw=>by simp only[Sem.run_bind,h w hw,Result.andThen_ok,Sem.run_pure];exact⟨rfl,rfl⟩,hk⟩
theorem Xw.i{S:WP}{s:Sem Va}{k:Va->Prop}(v:Va)(h:∀w,S w->s.run P w=.ok v w)(hk:k v):Xw P S s k:=
 ⟨v,λw hw=>by simp only[Sem.run_bind,h w hw,Result.andThen_ok,Sem.run_pure],hk⟩
theorem Xq.call{C:WP}{f:FuncId}{fn:Func}{args:AV}{k:Va->Prop}(v:Va)(hr:∀w,(callFunc f args).run P w=.ok (.enter f args) w)
  (h:∀w,C w->Calls P f args w λe w'=>e=.returned v/\C w') (hk:k v):Xq P C (callFunc f args) k:=
 ⟨v,λw hw=>by rw[hr w];exact⟨rfl,h w hw⟩,hk⟩
theorem V1.i{s:Sem Va}{w w':Wd}{v:Va}{k:VK}{e:EK}(h:s.run P w=.ok v w')(hk:k v w'):V1 P s w k e:=by
 unfold V1;rw[h];exact hk
theorem V1.bt{s:Sem Va}{w:Wd}{k:VK}{e:EK}(h:s.run P w=.ok (.bool true) w)(hk:k (.bool true) w):V1 P s w k e:=V1.i h hk
theorem V1.bf{s:Sem Va}{w:Wd}{k:VK}{e:EK}(h:s.run P w=.ok (.bool false) w)(hk:k (.bool false) w):V1 P s w k e:=V1.i h hk
theorem V1.p{s:Sem Va}{w w':Wd}{v:Va}{k:VK}{e:EK}(h:s.run P w=.halt (.panic v) w')(hk:e [{v,recovered:=false}] w'):V1 P s w k e:=by
 unfold V1;rw[h];exact hk
theorem U1.i{s:Sem Unit}{w w':Wd}{v:Unit}{k:WP}{e:EK}(h:s.run P w=.ok v w')(hk:k w'):U1 P s w k e:=by
 unfold U1;rw[h];exact hk
theorem D1.i{s:Sem Deferred}{w w':Wd}{v:Deferred}{k:Deferred->WP}{e:EK}(h:s.run P w=.ok v w')(hk:k v w'):D1 P s w k e:=by
 unfold D1;rw[h];exact hk
theorem Up.i{s:Sem Next}{w w':Wd}{v:Va}{k:VK}{e:EK}(h:s.run P w=.ok (.value v) w')(hk:k v w'):Up P s w k e:=by
 unfold Up;rw[h];exact hk
theorem Up.c{s:Sem Next}{w w':Wd}{f:FuncId}{args:AV}{k:VK}{e:EK}(h:s.run P w=.ok (.enter f args) w')
  (hk:Calls P f args w' (aZ k e)):Up P s w k e:=by
 unfold Up;rw[h];exact hk
theorem aH{f:FuncId}{fn:Func}{c:Code}(hf:P.funcs[f]?=some fn)(hb:fn.body=some c)(hn:(fn.name== "runtime.NumGoroutine")=false)(args:AV)(w:Wd):
  (callFunc f args).run P w=.ok (.enter f args) w:=by
 have Yj:fn.name≠ "runtime.NumGoroutine":=by simpa using hn
 simp[callFunc,program,hf,hb,Yj,Sem.run]
theorem Cf.i{f:FuncId}{args:AV}{w:Wd}{k:VK}{e:EK}(hr:(callFunc f args).run P w=.ok (.enter f args) w)
  (h:Calls P f args w (aZ k e)):Cf P f args w k e:=by
 unfold Cf Up;rw[hr];exact h
theorem Cf.go{f:FuncId}{args:AV}{w:Wd}{k Q:VK}{e E:EK}(hr:(callFunc f args).run P w=.ok (.enter f args) w)
  (h:Calls P f args w (aZ Q E)) (hk:∀v w',Q v w'->k v w') (he:∀c w',E c w'->e c w'):Cf P f args w k e:=
 Cf.i hr (h.mono λen w' hr=>by
  cases en with
  |returned v=>exact hk v w' hr
  |panicked c=>exact he c w' hr
  |outgrown=>exact hr)
def NP(c:List PanicEntry)(w:Wd):Prop:=False
theorem NP.no{e:EK}(c:List PanicEntry)(w:Wd)(h:NP c w):e c w:=h.elim
theorem Nc.p(a:Addr)(w:Wd):(Nc (.pointer (some a))).run P w=.ok (.value (.pointer (some a))) w:=rfl
theorem If.b{b:Bool}{x y:Prop}(hx:b=true->x)(hy:b=false->y):If (.bool b) x y:=⟨hx,hy⟩
theorem If.t{x y:Prop}(hx:x):If (.bool true) x y:=⟨λ_=>hx,λh=>by cases h⟩
theorem If.f{x y:Prop}(hy:y):If (.bool false) x y:=⟨λh=>(by cases h),λ_=>hy⟩
theorem Gd.b{c b:Bool}{x y:Prop}(hx:c=b->x)(hy:c=!b->y):Gd (.bool c) b x y:=⟨hx,hy⟩
theorem Gd.u{b:Bool}{x y:Prop}(hy:y):Gd undef b x y:=hy
theorem Gd.tf{x y:Prop}(hy:y):Gd (.bool true) false x y:=⟨λh=>(by cases h),λ_=>hy⟩
theorem Gd.ft{x y:Prop}(hy:y):Gd (.bool false) true x y:=⟨λh=>(by cases h),λ_=>hy⟩
theorem Gd.tt{x y:Prop}(hx:x):Gd (.bool true) true x y:=⟨λ_=>hx,λh=>(by cases h)⟩
theorem Gd.ff{x y:Prop}(hx:x):Gd (.bool false) false x y:=⟨λ_=>hx,λh=>(by cases h)⟩
def J0(f:(WP)->Prop)(g:WP):Prop:=Jn (D:=Unit) (λk=>f (λw=>k [] () w)) (λl _ w=>g  w)
theorem J0.go{f:(WP)->Prop}{g:WP}(h:f g):J0 f g:=⟨λl _ w=>g  w,λ_ _ _ h=>h,h⟩
theorem J0.cut{f:(WP)->Prop}{g:WP}(K:WP)(h:f K)(hg:∀w,K  w->g  w):J0 f g:=⟨λl _ w=>K  w,λ_ _ _ h=>hg _ h,h⟩
def yV(f:(LD->WP)->Prop)(g:LD->WP):Prop:=Jn (D:=LD) (λk=>f (λd w=>k [] d w)) (λl d w=>g  d w)
theorem yV.go{f:(LD->WP)->Prop}{g:LD->WP}(h:f g):yV f g:=⟨λl d w=>g  d w,λ_ _ _ h=>h,h⟩
def J1(f:(VK)->Prop)(g:VK):Prop:=Jn (D:=Unit) (λk=>f (λx0 w=>k [x0] () w)) (λl _ w=>g (l.headD undef) w)
theorem J1.go{f:(VK)->Prop}{g:VK}(h:f g):J1 f g:=⟨λl _ w=>g (l.headD undef) w,λ_ _ _ h=>h,h⟩
theorem J1.cut{f:(VK)->Prop}{g:VK}(K:VK)(h:f K)(hg:∀x0 w,K x0 w->g x0 w):J1 f g:=⟨λl _ w=>K (l.headD undef) w,λ_ _ _ h=>hg _ _ h,h⟩
def Dh(f:(Va->LD->WP)->Prop)(g:Va->LD->WP):Prop:=Jn (D:=LD) (λk=>f (λx0 d w=>k [x0] d w)) (λl d w=>g (l.headD undef) d w)
theorem Dh.go{f:(Va->LD->WP)->Prop}{g:Va->LD->WP}(h:f g):Dh f g:=⟨λl d w=>g (l.headD undef) d w,λ_ _ _ h=>h,h⟩
def J2(f:(Va->VK)->Prop)(g:Va->VK):Prop:=Jn (D:=Unit) (λk=>f (λx0 x1 w=>k [x0,x1] () w)) (λl _ w=>g (l.headD undef) (l.tail.headD undef) w)
theorem J2.go{f:(Va->VK)->Prop}{g:Va->VK}(h:f g):J2 f g:=⟨λl _ w=>g (l.headD undef) (l.tail.headD undef) w,λ_ _ _ h=>h,h⟩
theorem J2.cut{f:(Va->VK)->Prop}{g:Va->VK}(K:Va->VK)(h:f K)(hg:∀x0 x1 w,K x0 x1 w->g x0 x1 w):J2 f g:=⟨λl _ w=>K (l.headD undef) (l.tail.headD undef) w,λ_ _ _ h=>hg _ _ _ h,h⟩
def J3(f:(Va->Va->VK)->Prop)(g:Va->Va->VK):Prop:=Jn (D:=Unit) (λk=>f (λx0 x1 x2 w=>k [x0,x1,x2] () w)) (λl _ w=>g (l.headD undef) (l.tail.headD undef) (l.tail.tail.headD undef) w)
theorem J3.go{f:(Va->Va->VK)->Prop}{g:Va->Va->VK}(h:f g):J3 f g:=⟨λl _ w=>g (l.headD undef) (l.tail.headD undef) (l.tail.tail.headD undef) w,λ_ _ _ h=>h,h⟩
def J4(f:(Va->Va->Va->VK)->Prop)(g:Va->Va->Va->VK):Prop:=Jn (D:=Unit) (λk=>f (λx0 x1 x2 x3 w=>k [x0,x1,x2,x3] () w)) (λl _ w=>g (l.headD undef) (l.tail.headD undef) (l.tail.tail.headD undef) (l.tail.tail.tail.headD undef) w)
theorem J4.cut{f:(Va->Va->Va->VK)->Prop}{g:Va->Va->Va->VK}(K:Va->Va->Va->VK)(h:f K)(hg:∀x0 x1 x2 x3 w,K x0 x1 x2 x3 w->g x0 x1 x2 x3 w):J4 f g:=⟨λl _ w=>K (l.headD undef) (l.tail.headD undef) (l.tail.tail.headD undef) (l.tail.tail.tail.headD undef) w,λ_ _ _ h=>hg _ _ _ _ _ h,h⟩
def L0(w:Wd)(f:(WP)->WP):Prop:=Lp (D:=Unit) [] () w (λag l _ w=>f (λw=>ag [] () w)  w)
def L1(x0:Va)(w:Wd)(f:(VK)->VK):Prop:=Lp (D:=Unit) [x0] () w (λag l _ w=>f (λx0 w=>ag [x0] () w) (l.headD undef) w)
theorem L1.i{x0:Va}{w:Wd}{f:(VK)->VK}(I:VK)(μ:Va->Wd->Nat)(h0:I x0 w)
  (h:∀x0 w,I x0 w->f (λy0 w'=>I y0 w'/\μ y0 w'<μ x0 w) x0 w):L1 x0 w f:=
 ⟨λl _ w=>I (l.headD undef) w,λl _ w=>μ (l.headD undef) w,h0,λ_ _ _ hi=>h _ _ hi⟩
def FI(x0:Va)(d:LD)(w:Wd)(f:(Va->LD->WP)->Va->LD->WP):Prop:=Lp (D:=LD) [x0] d w (λag l d w=>f (λx0 d w=>ag [x0] d w) (l.headD undef) d w)
def L2(x0 x1:Va)(w:Wd)(f:(Va->VK)->Va->VK):Prop:=Lp (D:=Unit) [x0,x1] () w (λag l _ w=>f (λx0 x1 w=>ag [x0,x1] () w) (l.headD undef) (l.tail.headD undef) w)
theorem L2.i{x0 x1:Va}{w:Wd}{f:(Va->VK)->Va->VK}(I:Va->VK)(μ:Va->Va->Wd->Nat)(h0:I x0 x1 w)
  (h:∀x0 x1 w,I x0 x1 w->f (λy0 y1 w'=>I y0 y1 w'/\μ y0 y1 w'<μ x0 x1 w) x0 x1 w):L2 x0 x1 w f:=
 ⟨λl _ w=>I (l.headD undef) (l.tail.headD undef) w,λl _ w=>μ (l.headD undef) (l.tail.headD undef) w,h0,λ_ _ _ hi=>h _ _ _ hi⟩
def P2(f:(Va->VK)->Prop)(g:(Va->VK)->Va->VK):Prop:=Sp (D:=Unit) (λJ=>f (λx0 x1 w=>J [x0,x1] () w)) (λJ l _ w=>g (λx0 x1 w=>J [x0,x1] () w) (l.headD undef) (l.tail.headD undef) w)
def L3(x0 x1 x2:Va)(w:Wd)(f:(Va->Va->VK)->Va->Va->VK):Prop:=Lp (D:=Unit) [x0,x1,x2] () w (λag l _ w=>f (λx0 x1 x2 w=>ag [x0,x1,x2] () w) (l.headD undef) (l.tail.headD undef) (l.tail.tail.headD undef) w)
theorem L3.i{x0 x1 x2:Va}{w:Wd}{f:(Va->Va->VK)->Va->Va->VK}(I:Va->Va->VK)(μ:Va->Va->Va->Wd->Nat)(h0:I x0 x1 x2 w)
  (h:∀x0 x1 x2 w,I x0 x1 x2 w->f (λy0 y1 y2 w'=>I y0 y1 y2 w'/\μ y0 y1 y2 w'<μ x0 x1 x2 w) x0 x1 x2 w):L3 x0 x1 x2 w f:=
 ⟨λl _ w=>I (l.headD undef) (l.tail.headD undef) (l.tail.tail.headD undef) w,λl _ w=>μ (l.headD undef) (l.tail.headD undef) (l.tail.tail.headD undef) w,h0,λ_ _ _ hi=>h _ _ _ _ hi⟩
def L4(x0 x1 x2 x3:Va)(w:Wd)(f:(Va->Va->Va->VK)->Va->Va->Va->VK):Prop:=Lp (D:=Unit) [x0,x1,x2,x3] () w (λag l _ w=>f (λx0 x1 x2 x3 w=>ag [x0,x1,x2,x3] () w) (l.headD undef) (l.tail.headD undef) (l.tail.tail.headD undef) (l.tail.tail.tail.headD undef) w)
theorem L4.i{x0 x1 x2 x3:Va}{w:Wd}{f:(Va->Va->Va->VK)->Va->Va->Va->VK}(I:Va->Va->Va->VK)(μ:Va->Va->Va->Va->Wd->Nat)(h0:I x0 x1 x2 x3 w)
  (h:∀x0 x1 x2 x3 w,I x0 x1 x2 x3 w->f (λy0 y1 y2 y3 w'=>I y0 y1 y2 y3 w'/\μ y0 y1 y2 y3 w'<μ x0 x1 x2 x3 w) x0 x1 x2 x3 w):L4 x0 x1 x2 x3 w f:=
 ⟨λl _ w=>I (l.headD undef) (l.tail.headD undef) (l.tail.tail.headD undef) (l.tail.tail.tail.headD undef) w,λl _ w=>μ (l.headD undef) (l.tail.headD undef) (l.tail.tail.headD undef) (l.tail.tail.tail.headD undef) w,h0,λ_ _ _ hi=>h _ _ _ _ _ hi⟩
def L5(x0 x1 x2 x3 x4:Va)(w:Wd)(f:(Va->Va->Va->Va->VK)->Va->Va->Va->Va->VK):Prop:=Lp (D:=Unit) [x0,x1,x2,x3,x4] () w (λag l _ w=>f (λx0 x1 x2 x3 x4 w=>ag [x0,x1,x2,x3,x4] () w) (l.headD undef) (l.tail.headD undef) (l.tail.tail.headD undef) (l.tail.tail.tail.headD undef) (l.tail.tail.tail.tail.headD undef) w)
def P5(f:(Va->Va->Va->Va->VK)->Prop)(g:(Va->Va->Va->Va->VK)->Va->Va->Va->Va->VK):Prop:=Sp (D:=Unit) (λJ=>f (λx0 x1 x2 x3 x4 w=>J [x0,x1,x2,x3,x4] () w)) (λJ l _ w=>g (λx0 x1 x2 x3 x4 w=>J [x0,x1,x2,x3,x4] () w) (l.headD undef) (l.tail.headD undef) (l.tail.tail.headD undef) (l.tail.tail.tail.headD undef) (l.tail.tail.tail.tail.headD undef) w)
def Q1(f:(Va->Prop)->Prop)(g:Va->Prop):Prop:=Jp (λk=>f (λx0=>k [x0])) (λl=>g (l.headD undef))
theorem Q1.go{f:(Va->Prop)->Prop}{g:Va->Prop}(h:f g):Q1 f g:=⟨λl=>g (l.headD undef),λ_ h=>h,h⟩
end Go.Sh


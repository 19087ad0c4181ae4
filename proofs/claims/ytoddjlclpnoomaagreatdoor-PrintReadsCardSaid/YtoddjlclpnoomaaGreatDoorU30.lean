import Derived.Test.YtoddjlclpnoomaaGreatDoorU29
set_option linter.unusedVariables false
set_option linter.unusedSimpArgs false
set_option maxRecDepth 100000
open Go.Proofs.Tryz
open List (contains_cons drop_eq_getElem_cons contains_nil drop_eq_nil_of_le set_cons_zero set_cons_succ)
open Nat (lt_or_ge le_refl)
open Go.Builtin (append_)
open Go.Value (cells)
open Bool (and_eq_true false_eq_true or_eq_false_iff)
namespace Go.Proofs.YtoddjlclpnoomaaGreatDoor
open Go.Sh
def vH(lo:Nat)(w:Wd)(kv av:Va)(ks gs:Tr):Prop:=Acc 41 lo av.ownBlock.toList w kv ks/\Acc 41 lo kv.ownBlock.toList w av gs
theorem vH.swap{lo:Nat}{w:Wd}{kv av:Va}{ks gs:Tr}(h:vH lo w kv av ks gs):vH lo w av kv gs ks:=⟨h.2,h.1⟩
theorem vH.fr{lo:Nat}{w w':Wd}{kv av:Va}{ks gs:Tr}{M:List Nat}(h:vH lo w kv av ks gs)(K:aD M w w')(hM:∀i∈M,i<lo\/w.heap.size<=i):vH lo w' kv av ks gs:=
 ⟨h.1.fr K (λi hi=>(hM i hi).imp id .inr),h.2.fr K (λi hi=>(hM i hi).imp id .inr)⟩
theorem vH.f0{lo:Nat}{w w':Wd}{kv av:Va}{ks gs:Tr}(h:vH lo w kv av ks gs)(K:aD [] w w'):vH lo w' kv av ks gs:=h.fr K ak
theorem vH.app{n lo:Nat}{w:Wd}{kv av:Va}{ks gs k:Tr}{u:Va}{b:Nat}(h:vH lo w kv av ks gs)(hb:At w b [u])(hu:u.oneCell'=true){ON:Nat}(hk:aU (Fr ON []) w k (.P u))(tc:lo<=ON)
  (Rn:∀g,kv.ownBlock=some g->g<ON) (H5:∀g,av.ownBlock=some g->g<ON) (hn:len ks<=n) (lO:n<=1099511627776) (eQ:lo<=w.heap.size):
  ∃v' w',(append_ #[44,44] 44 #[kv,.slice (some ⟨b,0,none⟩) 1 1]).run prog w=.ok v' w'/\vH lo w' v' av (snoc ks k) gs/\aD kv.ownBlock.toList w w':=by
 have hx:aU (Fr lo (kv.ownBlock.toList++av.ownBlock.toList)) w k (.P u):=hk.fit tc (λi hi=>by
  simp at hi
  rcases hi with hi|hi
  .exact .inl (Rn i hi)
  .exact .inl (H5 i hi))
 obtain⟨v',w',hr,ha,K,hg⟩:=qA (n:=n) h.1 hb hu hx hn lO (λi hi=>by simp at hi;exact(h.2.lt hi).2) eQ;refine⟨v',w',hr,⟨ha,?_⟩,K⟩;have h2:Acc 41 lo (kv.ownBlock.toList++v'.ownBlock.toList) w av gs:=h.2.fit (λi hi=>by
  simp at hi
  rcases hi with hi|hi
  .exact .inr (.inl (by simp[hi]))
  .rcases hg i hi with h|h
   .exact .inr (.inl (by simp[h]))
   .exact .inr (.inr h))
 exact(h2.fr K (λi hi=>.inr (.inl (by simp at hi;simp[hi])))).fit (λi hi=>.inr (.inl (by simp at hi;simp[hi])))
def td(ks gs:Tr)(ts:LT):bL:=aP [125] ts λts=>.ok (.ex 12 0 [] .nil .nil ks gs [] .nil) ts false
def zi(t:Tr)(ts:LT)(_:Bool):bL:=match t with
 |.cons ks (.cons gs .nil)=>td ks gs ts
 |_=>.bH
def vI(m:Nat)(d:Int)(ks gs:Tr)(ts:LT):bL:=match gs with
 |.nil=>(match bB [125] ts with
  |true=>.ok (.ex 12 0 [] .nil .nil ks .nil [] .nil) (bF ts) false
  |false=>(run m (.items ks .nil) d ts).bind zi)
 |_=>match bB [44] ts with
  |true=>(run m (.items ks gs) d (bF ts)).bind zi
  |false=>td ks gs ts
theorem Ba{m:Nat}{d:Int}{ks gs:Tr}{ts:LT}(h:bB [125] ts=true):vI m d ks gs ts=td ks gs ts:=by
 cases gs<;>simp only[vI,td,h,cR h,pt (q:=[44]) h ak]
theorem yz{m:Nat}{d:Int}{ks gs:Tr}{ts:LT}(h:bB [125] ts=false):
  vI m d ks gs ts=(match gs with|.nil=>(run m (.items ks gs) d ts).bind zi|_=>aP [44] ts λts=>(run m (.items ks gs) d ts).bind zi):=by
 cases gs<;>simp only[vI,td,h,px h]<;>unfold aP<;>cases bB [44] ts<;>rfl
theorem yA{m:Nat}{d:Int}{ks gs a:Tr}{ts:LT}:vI m d ks (snoc gs a) ts=(match bB [44] ts with
 |true=>(run m (.items ks (snoc gs a)) d (bF ts)).bind zi
 |false=>td ks (snoc gs a) ts):=by cases gs<;>rfl
def qZ(m:Nat)(d:Int)(ks gs kt:Tr)(ts:LT):bL:=(run (m-2) (.expr 0) d ts).bind λa bU _=>vI (m-1) d (snoc ks kt) (snoc gs a) bU
def Gc(ts:LT):Bool:=((hd ts).kind==1)&&((hd (bF ts)).kind==4)&&((hd (bF ts)).text==[61])
theorem vk{m:Nat}{d:Int}{ks gs:Tr}{ts:LT}{r:bL}(hr:(run m (.items ks gs) d ts).bind zi=r)(aI:r≠.bH)(h2:(hd ts).kind≠5->1<ts.length):2<=m/\
  (match Gc ts with
   |true=>cP ts λnm ts=>aP [61] ts λts=>qZ m d ks gs (lf 5 0 nm) ts
   |false=>match bB [91] ts with
    |true=>bY d λd'=>aP [91] ts λts=>(run (m-3) (.expr 0) d' ts).bind λk ts _=>aP [93] ts λts=>aP [61] ts λts=>qZ m d ks gs k ts
    |false=>qZ m d ks gs .nil ts)=r:=by
 match m,hr with
 |0,hr=>exact absurd hr.symm aI
 |1,hr=>exact absurd hr.symm aI
 |m+2,hr=>
  refine⟨by omega,?_⟩;rw[←hr];have hit:∀k a bX,vI (m+1) d (snoc ks k) (snoc gs a) bX=(match bB [44] bX with
    |true=>run (m+1) (.items (snoc ks k) (snoc gs a)) d (bF bX)
    |false=>bL.ok (.cons (snoc ks k) (.cons (snoc gs a) .nil)) bX false).bind zi:=by
   intro k a bX;rw[yA]
   cases bB [44] bX<;>rfl
  simp only[qZ,Nat.add_sub_cancel,show m+2-1=m+1 from rfl,hit];have e:run (m+2) (.items ks gs) d ts=(run (m+1) .item d ts).bind λr ts _=>match r with
   |.cons k (.cons a .nil)=>(match bB [44] ts with
    |true=>run (m+1) (.items (snoc ks k) (snoc gs a)) d (bF ts)
    |false=>.ok (.cons (snoc ks k) (.cons (snoc gs a) .nil)) ts false)
   |_=>.bH:=rfl
  rw[e,ed];have e1:run (m+1) .item d ts=if(hd ts).kind=1/\1<ts.length/\bB [61] (bF ts)=true then(run m (.expr 0) d (bF (bF ts))).bind λa bU _=>.ok (.cons (lf 5 0 (hd ts).text) (.cons a .nil)) bU false
   else if bB [91] ts then(run m (.bracket .nil) d ts).bind λk ts _=>match k with
    |.ex _ _ _ _ r _ _ _ _=>aP [61] ts λts=>(run m (.expr 0) d ts).bind λa ts _=>.ok (.cons r (.cons a .nil)) ts false
    |_=>.bH
   else(run m (.expr 0) d ts).bind λa ts _=>.ok (.cons .nil (.cons a .nil)) ts false:=rfl
  rw[e1];have hc:((hd ts).kind=1/\1<ts.length/\bB [61] (bF ts)=true)↔Gc ts=true:=by
   simp only[Gc,bB,fI,contains_cons,contains_nil,Bool.or_false,and_eq_true,beq_iff_eq];constructor
   .rintro⟨h1,_,h3,h4⟩;exact⟨⟨h1,h3⟩,h4⟩
   .rintro⟨⟨h1,h3⟩,h4⟩;exact⟨h1,h2 aj,h3,h4⟩
  cases hq:Gc ts with
  |true=>
   have yY:=hc.2 hq;rw[if_pos yY,ed];simp only[fc (show((hd ts).kind==1)=true by simpa using yY.1),cR yY.2.2,eL]
  |false=>
   rw[if_neg (λh=>by rw[hc.1 h]at hq;cases hq)]
   cases hb:bB [91] ts with
   |true=>
    simp only[if_true];clear e e1 hit
    cases m with
    |zero=>
     have e:run 2 (.items ks gs) d ts=(run 1 .item d ts).bind λr ts _=>match r with
      |.cons k (.cons a .nil)=>(match bB [44] ts with
       |true=>run 1 (.items (snoc ks k) (snoc gs a)) d (bF ts)
       |false=>.ok (.cons (snoc ks k) (.cons (snoc gs a) .nil)) ts false)
      |_=>.bH:=rfl
     have e1:run 1 .item d ts=.bH:=by
      have:run 1 .item d ts=if(hd ts).kind=1/\1<ts.length/\bB [61] (bF ts)=true then .bH else if bB [91] ts then .bH else .bH:=rfl
      rw[this];split
      .rfl
      .rfl
     rw[e,e1]at hr;exact absurd hr.symm aI
    |succ m=>
     simp only[show run (m+1) (.bracket .nil) d ts=bY d λd'=>aP [91] ts λts=>(run m (.expr 0) d' ts).bind λr ts _=>aP [93] ts λts=>.ok (.ex 7 0 [] .nil r .nil .nil [] .nil) ts false from rfl,ik,jx,ed,eL,show m+1+2-3=m from by omega]
   |false=>
    simp only[false_eq_true,if_false,ed,eL]
def Sg.bh(x:Rp):Sg->Tok
 |.go ts=>Go.Proofs.YtoddjlclpnoomaaGreatDoor.hd (bF ts)
 |.bad _=>Go.Proofs.YtoddjlclpnoomaaGreatDoor.hd (x.all.drop (x.all.length-1))
theorem Fl{x:Rp}{s:Sg}{i:Nat}(h:s.pos x i):∃hi:min (i+1) (x.all.length-1)<x.all.length,s.bh x=x.all[min (i+1) (x.all.length-1)]:=by
 have hb:=x.wo;have bO:min (i+1) (x.all.length-1)<x.all.length:=by omega
 refine⟨bO,?_⟩
 cases s with
 |bad c=>
  obtain rfl:i=x.all.length-1:=h;show hd (x.all.drop (x.all.length-1))=_
  rw[me aj];congr 1
  omega
 |go ts=>
  obtain⟨rfl,h2⟩:=h;show hd (bF (x.all.drop i))=_
  rw[drop_eq_getElem_cons h2];rcases lt_or_ge (i+1) x.all.length with h3|h3
  .rw[drop_eq_getElem_cons h3];show x.all[i+1]=_
   congr 1
   omega
  .rw[drop_eq_nil_of_le h3];show x.all[i]=_
   congr 1
   omega
theorem Fm{x:Rp}{ts:LT}{i:Nat}(h:(Sg.go ts).pos x i)(hk:(hd ts).kind≠5):1<ts.length:=by
 obtain⟨rfl,hi⟩:=h;rcases lt_or_ge 1 (x.all.drop i).length with h|h
 .exact h
 .simp at h
  obtain rfl:i=x.all.length-1:=by omega
  exact absurd x.e5 hk
theorem fa(w:Wd)(a b:Int):(Bo .eql 3 false true (.int .i64 a) (.int .i64 b)).run prog w=.ok (.bool (a==b)) w:=by simp[go_sem,Bo]
set_option maxHeartbeats 2000000 in
theorem UG{n:Nat}(ih:∀m,m<=n->pP m)(hn:n+1<=aX){w:Wd}{x:Rp}{ts:LT}{d:Int}{r:bL}{e:Nat}{line:Int}(h:RS w x (.go ts) d)
  (aE:At w e [.int .i64 12,.int .i64 line,.int .i64 0,str [],.pointer none,.pointer none,.slice none 0 0,.slice none 0 0,.slice none 0 0,.slice none 0 0]) (he:e≠x.p/\e≠x.bt) (hq:bB [123] ts=true) (hr:Fj n d ts=r) (aI:r≠.bH):
  Calls prog 230 #[ptr x.p,ptr e] w (aZ (λ_ w'=>∃s' ks gs kv av o,RS w' x s' d/\r=s'.res (.ex 12 0 [] .nil .nil ks gs [] .nil) o/\At w' e [.int .i64 12,.int .i64 line,.int .i64 0,str [],.pointer none,.pointer none,kv,av,.slice none 0 0,.slice none 0 0]/\
   aU (Fr w.heap.size []) w' ks (.L kv)/\aU (Fr w.heap.size []) w' gs (.L av)/\aD [x.p,e] w w') NP):=by
 refine Us ?_;unfold MN;have c:CX w w x [e] (.go ts) d:=CX.mk' h;have oA:=h.dp.2.1;have le:=aE.lt;have lp:=c.lp;have lt:=c.lt;replace hr:(bY d λd=>vI n d .nil .nil (bF ts))=r:=by
  rw[←hr];unfold Fj vI;congr 1
 replace hr:=eC (q:=[123]) (f:=λd ts=>vI n d .nil .nil ts) hq hr;refine c.open λ_ w2 c K2=>?_;refine c.cI [123] hr λ_ w3 c hr K3=>?_;replace aE:=K3.at (K2.at aE al) al;refine L0.g (λk w'=>∃ks gs s' m kv av,CX w w' x [e] s' (d+1)/\At w' e [.int .i64 12,.int .i64 line,.int .i64 0,str [],.pointer none,.pointer none,kv,av,.slice none 0 0,.slice none 0 0]/\vH w.heap.size w' kv av ks gs/\
  s'.run (vI m (d+1) ks gs)=r/\len ks<=n+1/\len gs<=n+1/\∀ts,s'=.go ts->m<k/\len ks+m<=n/\len gs+m<=n) (n+1) ⟨.nil,.nil,_,n,_,_,c,aE,⟨Acc.nil _ _ _ _,Acc.nil _ _ _ _⟩,hr,by simp[len],by simp[len],λ_ _=>by simp[len]⟩ ?_
 clear hr c aE K2 K3 hq h;rintro k w4 KK ⟨ks,gs,s1,m,kv,av,c,aE,ca,hr,tR,OO,hm⟩ hK;have z4:=c.kk.size;obtain⟨i,ln,h1,h2⟩:=c.rs.raw;refine lF.i h1.at_ ?_;clear h1 h2;generalize hQ:(fun(_:Va) (w':Wd)=>∃s' ks gs kv av o,RS w' x s' d/\r=s'.res (.ex 12 0 [] .nil .nil ks gs [] .nil) o/\At w' e [.int .i64 12,.int .i64 line,.int .i64 0,str [],.pointer none,.pointer none,kv,av,.slice none 0 0,.slice none 0 0]/\
   aU (Fr w.heap.size []) w' ks (.L kv)/\aU (Fr w.heap.size []) w' gs (.L av)/\aD [x.p,e] w w')=Q
 have lS:∀(w5:Wd),CX w w5 x [e] s1 (d+1)->At w5 e [.int .i64 12,.int .i64 line,.int .i64 0,str [],.pointer none,.pointer none,kv,av,.slice none 0 0,.slice none 0 0]->vH w.heap.size w5 kv av ks gs->s1.run (td ks gs)=r->
   cf (aZ Q NP) 141 #[ptr x.p,.string ⟨#[125]⟩] w5 λGa w=>
   lF (aZ Q NP) 108 2 3 (ptr x.p) w λUB w=>v1 (aZ Q NP) (Bo .sub 3 false true UB (.int .i64 1)) w λUC w=>sF (aZ Q NP) 108 2 3 (ptr x.p) UC w λw=>aZ Q NP (.returned (.tuple #[])) w:=by
  intro w5 c aE ca hr;refine c.cI [125] (f:=λts=>.ok (.ex 12 0 [] .nil .nil ks gs [] .nil) ts false) hr λ_ w6 c hr K6=>?_;refine c.close oA λw7 c K7=>?_;have K:=K6.trans K7;replace ca:=ca.fr K al;exact hQ▸⟨_,ks,gs,kv,av,false,c.rs,fD hr,K.at aE al,aU.fit ca.1.rep (le_refl _) ak,aU.fit ca.2.rep (le_refl _) ak,c.kk⟩
 cases s1 with
 |bad cd=>
  refine V1.bf (by simp[go_sem,Sg.dS]) ?_;refine J1.go (Gd.ft ?_);refine V1.i ah ?_;exact If.f (lS w4 c aE ca hr)
 |go ts=>
 refine V1.bt (by simp[go_sem,Sg.dS]) ?_;refine andNot [125] c aE λw5 c aE K5=>?_;replace ca:=ca.fr K5 ak;replace hr:vI m (d+1) ks gs ts=r:=hr;rw[show(true&&!((Sg.go ts).is [125]))=!(bB [125] ts)from by simp[Sg.is]];obtain⟨XF,EE,hmg⟩:=hm ts rfl
 cases jc:bB [125] ts with
 |true=>
  rw[Ba jc]at hr;exact If.f (lS w5 c aE ca hr)
 |false=>
 rw[yz jc]at hr;clear lS jc;refine If.t ?_;refine J0.cut (λw'=>∃s2,CX w w' x [e] s2 (d+1)/\At w' e [.int .i64 12,.int .i64 line,.int .i64 0,str [],.pointer none,.pointer none,kv,av,.slice none 0 0,.slice none 0 0]/\vH w.heap.size w' kv av ks gs/\s2.run (λts=>(run m (.items ks gs) (d+1) ts).bind zi)=r) ?_ ?_
 .refine lF.i aE ?_;have hL:=ca.2.uG;obtain⟨va,vc,rfl⟩:=ca.2.oc;refine V1.i ah ?_
  cases gs with
  |nil=>
   refine V1.bf (by simp[go_sem,len]) ?_;exact If.f ⟨_,c,aE,ca,hr⟩
  |cons a l=>
   replace hr:(Sg.go ts).run (λts=>aP [44] ts λts=>(run m (.items ks (.cons a l)) (d+1) ts).bind zi)=r:=hr;refine V1.bt (by simp[go_sem,len]) ?_;refine If.t (c.cI [44] (s:=.go ts) hr λ_ w6 c hr K6=>?_);exact⟨_,c,K6.at aE al,ca.fr K6 al,hr⟩
  |hole=>cases hL
  |ex=>cases hL
  |st=>cases hL
 clear hr c aE ca K5;rintro w6 ⟨s2,c,aE,ca,hr⟩;refine c.copy λb w7 c a4 hb K7=>?_;replace aE:=K7.at aE ak;replace ca:=ca.fr K7 ak;obtain⟨i,ln,h1,h2⟩:=c.rs.raw;obtain⟨hi,AR⟩:=pq h2;obtain⟨hj,XH⟩:=Fl h2;have mW:=x.wo;have KD:aD [] w7 w7.drew:=(aD.refl _ _).drew;have hA:∀w',aD [] w7 w'->At w' x.p _:=λw' hw=>hw.at h1.at_ ak;refine⟨λw'=>aD [] w7 w',KD,xF.i hA (xF.i hA ?_)⟩;refine Xw.i (.int .i64 ((i+1:Nat):Int)) (λw' _=>by rw[cC _ _ _ _ _ _ aj aj];simp) ?_;refine xF.i hA ?_;refine Xw.i _ (λw' _=>by simp[go_sem]<;>trivial) ?_;refine Xw.i (.int .i64 ((x.all.length-1:Nat):Int)) (λw' _=>by rw[jK _ _ _ _ _ _ aj aj];congr 2;omega) ?_
 refine Xw.i (.int .i64 ((min (i+1) (x.all.length-1):Nat):Int)) (λw' _=>by simp[go_sem];omega) ?_;refine Xw.i _ (λw' _=>mY hj) ?_;refine Xw.i _ (λw' hw=>(h1.new hw).tok hj) ?_;refine V1.new (eW _) λb5 w8 N=>?_;refine⟨KD.trans N.aA,?_⟩;refine U1.tok (t:=x.all[min (i+1) (x.all.length-1)]) N.at_ rfl λw9 U=>?_;have K9:aD [] w7 w9:=(KD.trans N.aA).trans' U.aA (by have:=N.ge;have:=KD.size;simp;omega);have a5:At w9 b5 (A5 (s2.bh x)):=by rw[XH];exact U.at_
 replace c:=c.c0 K9;replace aE:=K9.at aE ak;replace ca:=ca.fr K9 ak;replace a4:=K9.at a4 ak;clear hA h1 N U KD XH AR K7 K9 hi hj w8 w7;have c9:CX w9 w9 x [] s2 (d+1):=CX.mk' c.rs;have z9:=c.kk.size;have py:∀g,kv.ownBlock=some g->w.heap.size<=g/\g<w9.heap.size:=λg hg=>ca.1.lt hg;have tc:∀g,av.ownBlock=some g->w.heap.size<=g/\g<w9.heap.size:=λg hg=>ca.2.lt hg;have OP:=c9.lp;have l4:=a4.lt;refine J1.cut (λkey w'=>∃s3 kt,CX w9 w' x [] s3 (d+1)/\aU (Fr w9.heap.size []) w' kt (.P key)/\fV key/\s3.run (qZ m (d+1) ks gs kt)=r/\(∀ts,s3=.go ts->2<=m)) ?_ ?_
 .refine lD.i a4 ?_;refine V1.i (fa _ _ _) ?_;refine J1.gd ((s2.bh x).kind==4) (λ_ k hk=>lD.i a5 (V1.i (fa _ _ _) hk)) ?_;refine V1.i (fP _ _ _) ?_;refine J1.gd ((s2.bh x).text==[61]) (λ_ k hk=>lD.i a5 (V1.i (mu _ _ _ _ _) hk)) ?_;refine V1.i (fP _ _ _) ?_
  cases s2 with
  |bad cd=>
   rw[show(((Sg.bad cd).hd x).kind==1)=false by rw[jw];rfl];refine If.f (c9.sign [91] λeo oo dE=>?_);show If (.bool false) _ _
   exact If.f ⟨.bad cd,.nil,oo,jl,⟨_,rfl⟩,hr,λ_ h=>by cases h⟩
  |go dA=>
  replace hr:(run m (.items ks gs) (d+1) dA).bind zi=r:=hr;obtain⟨zW,hr⟩:=vk hr aI (Fm h2);show If (.bool (Gc dA)) _ _
  cases hq:Gc dA with
  |true=>
   simp only[hq]at hr;have KD:aD [] w9 w9.drew:=(aD.refl _ _).drew;refine If.t ⟨λw'=>At w' b (A5 ((Sg.go dA).hd x)),KD.at a4 ak,xD.i (λ_ h=>h) ?_⟩;replace hr:(Sg.go dA).run (λts=>cP ts λnm ts=>aP [61] ts λts=>qZ m (d+1) ks gs (lf 5 0 nm) ts)=r:=hr;refine(c9.c0 KD).name hr λnm eo oo hr dE=>?_;refine⟨dE.at (KD.at a4 ak) al,?_⟩;refine Xw.i _ (λw' _=>by simp[go_sem]<;>trivial) ?_;refine yp oo.kk.size jl jl fy fy rR fy λq fB dz _ _ RN=>?_;replace oo:=oo.c0 dz;refine oo.cI [61] hr λ_ gz c12 hr dw=>?_;exact⟨_,lf 5 0 nm,c12,RN.cx dw OP,⟨_,rfl⟩,hr,λ_ _=>zW⟩
  |false=>
   simp only[hq]at hr;refine If.f (c9.sign [91] λeo oo dE=>?_);show If (.bool (bB [91] dA)) _ _
   cases M0:bB [91] dA with
   |false=>
    simp only[M0]at hr;exact If.f ⟨.go dA,.nil,oo,jl,⟨_,rfl⟩,hr,λ_ _=>zW⟩
   |true=>
    simp only[M0]at hr;replace hr:=na (f:=λd' ts=>aP [91] ts λts=>(run (m-3) (.expr 0) d' ts).bind λk ts _=>aP [93] ts λts=>aP [61] ts λts=>qZ m (d+1) ks gs k ts) hr;refine If.t (oo.open λ_ fB MX dz=>?_);refine MX.cI [91] hr λ_ gz c12 hr dw=>?_;refine c12.call ((ih (m-3) aj).expr 0 aj) fU aj hr aI λv lZ kt Qg o KA hr Rk hv iA=>?_;refine KA.cI [93] hr λ_ lu UH hr mO=>?_;refine UH.close aj λsE UI iU=>?_;refine UI.cI [61] hr λ_ wV Tp hr jC=>?_;exact⟨_,kt,Tp,((Rk.cx mO OP).cx iU OP).cx jC OP,hv,hr,λ_ _=>zW⟩
 clear hr c9 a4 a5 l4;rintro key eo ⟨s3,kt,oo,Rk,⟨pk,rfl⟩,hr,vC⟩;replace aE:=oo.kk.at aE al;replace ca:=ca.fr oo.kk al;replace c:=c.tr oo;have lX:=ca.1.uG;have Sf:=oo.kk.size;clear oo;refine lF.i aE ?_;refine V1.aG (yy _ _) λb11 fB N=>?_;replace c:=c.c0 N.aA;replace aE:=N.a aE;replace ca:=ca.f0 N.aA;have z11:=c.kk.size;obtain⟨y9,gz,fR,fW,dw⟩:=ca.app (n:=n+1) N.at_ rfl (Rk.c0 N.aA) z9 (λg hg=>(py g hg).2) (λg hg=>(tc g hg).2) tR (by simp only[aX]at hn;omega) z11;refine V1.i fR ?_;have hM:∀i∈kv.ownBlock.toList,w.heap.size<=i:=by intro i hi;simp at hi;exact(py i hi).1
 replace c:CX w gz x [e] s3 (d+1):=⟨c.rs.aA dw (λh=>by have:=hM _ h;omega) (λh=>by have:=hM _ h;omega),c.kk.trans' dw (λi hi h=>by have:=hM i hi;omega),c.lp,c.lt⟩;replace aE:=dw.at aE (λh=>by have:=hM _ h;omega);refine sF.i aE (λlZ U=>?_) fW.1.sc;replace c:=c.own U.aA (.inr ak) (Ne.symm he.1) (Ne.symm he.2);replace fW:=fW.fr U.aA al;have qX:=U.at_;simp only[set_cons_zero,set_cons_succ]at qX;clear aE ca U dw N fR Rk hM py tc;have KD:aD [] lZ lZ.drew:=(aD.refl _ _).drew;refine⟨λw'=>At w' e _,KD.at qX ak,xF.i (λ_ h=>h) ?_⟩;replace c:=c.c0 KD;replace qX:=KD.at qX ak;replace fW:=fW.fr KD ak;generalize lZ.drew=lu at*;have UH:CX lu lu x [] s3 (d+1):=CX.mk' c.rs;have z14:=c.kk.size
 have py:∀g,y9.ownBlock=some g->w.heap.size<=g/\g<lu.heap.size:=λg hg=>fW.1.lt hg;have tc:∀g,av.ownBlock=some g->w.heap.size<=g/\g<lu.heap.size:=λg hg=>fW.2.lt hg;unfold qZ at hr;refine UH.call2 ((ih (m-2) aj).expr 0 aj) fU aj hr aI λv sE a OQ o UI hr Ra hv iU UJ=>?_;obtain⟨pa,rfl⟩:=hv;replace qX:=iU.at qX al;replace fW:=fW.fr iU al;replace c:=c.tr UI;refine⟨qX,?_⟩;refine V1.aG (yy _ _) λb16 wV N=>?_;replace c:=c.c0 N.aA;replace qX:=N.aA.at qX ak;replace fW:=fW.fr N.aA ak;have z16:=c.kk.size;refine⟨qX,?_⟩
 obtain⟨FW,En,fR,XI,nR⟩:=fW.swap.app (n:=n+1) N.at_ rfl (Ra.c0 N.aA) z14 (λg hg=>(tc g hg).2) (λg hg=>(py g hg).2) OO (by simp only[aX]at hn;omega) z16;refine V1.i fR ?_;have hM:∀i∈av.ownBlock.toList,w.heap.size<=i:=by intro i hi;simp at hi;exact(tc i hi).1
 replace c:CX w En x [e] OQ (d+1):=⟨c.rs.aA nR (λh=>by have:=hM _ h;omega) (λh=>by have:=hM _ h;omega),c.kk.trans' nR (λi hi h=>by have:=hM i hi;omega),c.lp,c.lt⟩;replace qX:=nR.at qX (λh=>by have:=hM _ h;omega);refine⟨_,λw' _=>Nc.p _ w',?_⟩;refine Xw.i _ (λw' _=>xZ rfl) ?_;refine U1.store (aO rfl XI.1.sc) qX ak λEs U=>?_;replace c:=c.own U.aA (.inr ak) (Ne.symm he.1) (Ne.symm he.2);have hlk2:len (snoc ks kt)=len ks+1:=eJ _ _ lX;have hlg2:len (snoc gs a)=len gs+1:=eJ _ _ fW.2.uG;refine hK (k-1) _ aj ⟨snoc ks kt,snoc gs a,OQ,m-1,y9,FW,c,U.at_,XI.swap.fr U.aA al,hr,by omega,by omega,λbU hs=>?_⟩;have:=UJ bU hs;obtain⟨vw,rfl⟩:=this;have:=vC vw rfl;omega
end Go.Proofs.YtoddjlclpnoomaaGreatDoor
namespace Go.Proofs.YtoddjlclpnoomaaGreatDoor
open Go.Sh
set_option maxRecDepth 100000
section
variable {w0 w:Wd}{x:Rp}{M:List Nat}{d:Int}{ts:LT}{KK:VK}{e:EK}
theorem CX.lC(q:By)(c:CX w0 w x M (.go ts) d)(hk:bB q ts=true->∀w',CX w0 w' x M (.go ts) d->aD [] w w'->KK (.bool true) w')(jy:bB q ts=false->∀w',CX w0 w' x M (.go ts) d->aD [] w w'->KK (.bool false) w'):Cf prog 136 #[ptr x.p,str q] w KK e:=by
 refine c.sign q λw' c K=>?_;show KK (.bool (bB q ts)) w'
 cases hq:bB q ts with
 |true=>exact hk hq w' c K
 |false=>exact jy hq w' c K
theorem CX.iO(q:By)(c:CX w0 w x M (.go ts) d)(hk:bB q ts=true->∀w',CX w0 w' x M (.go (bF ts)) d->aD [x.p] w w'->KK (.bool true) w')(jy:bB q ts=false->∀w',CX w0 w' x M (.go ts) d->aD [x.p] w w'->KK (.bool false) w'):Cf prog 137 #[ptr x.p,str q] w KK e:=by
 refine c.take q λw' c K=>?_;show KK (.bool (bB q ts)) w'
 simp only[Sg.take]at c
 cases hq:bB q ts with
 |true=>rw[hq,if_pos rfl]at c;exact hk hq w' c K
 |false=>rw[hq,if_neg ak]at c;exact jy hq w' c K
end
theorem oq(n:Nat)(d:Int)(ts:LT):run (n+1) .signed d ts=if bB kF ts then .ok (lf 1 0 []) (bF ts) false else if bB gG ts then .ok (lf 2 0 []) (bF ts) false else if bB eZ ts then .ok (lf 3 0 []) (bF ts) false
 else if bB [40] ts then bY d λd=>(run n (.expr 0) d (bF ts)).bind λe ts _=>aP [41] ts λts=>.ok e ts false
 else if bB bP ts then run n (.func false) d ts
 else if bB [123] ts then Fj n d ts
 else .fail 4:=rfl
set_option maxHeartbeats 1000000 in
theorem g211{n:Nat}(ih:∀m,m<=n->pP m):sX (n+1) .dq 211 [] .P fV:=by
 intro w x s d r h hn hr aI;refine MM ?_;unfold Fb;have oA:=h.dp.2.1;have c:CX w w x [] s d:=CX.mk' h;refine c.copy λb w1 c a3 hb K1=>?_;refine lD.i a3 ?_;refine V1.i ah ?_;have z1:=c.kk.size;have l3:=a3.lt;refine yp z1 jl jl fy fy rR fy λe w2 K2 he aE _=>?_;replace c:=c.c0 K2;replace a3:=K2.at a3 ak;have lp:=c.lp;have lt:=c.lt;have um:w.heap.size<=e:=by omega
 have pg:∀(w':Wd) (s':Sg) (k nn:Int) (tx:By),CX w w' x [] s' d->s'.run (λts=>.ok (lf k nn tx) ts false)=r->At w' e [.int .i64 k,.int .i64 (s.hd x).line,.int .i64 nn,str tx,.pointer none,.pointer none,.slice none 0 0,.slice none 0 0,.slice none 0 0,.slice none 0 0]->
   Fin w x d .P fV r (ptr e) w':=by
  intro w' s' k nn tx c hr a;exact c.fin hr ⟨e,_,_,_,_,_,_,_,rfl,⟨um,by simp⟩,a,jl,jl,fy,fy,rR,fy⟩ ⟨_,rfl⟩
 refine J1.go ?_;refine lD.i a3 (V1.i (fa _ _ _) ?_)
 cases s with
 |bad cd=>
  rw[show(((Sg.bad cd).hd x).kind==1)=false by rw[jw];rfl];refine If.f (lD.i a3 (V1.i (fa _ _ _) ?_));rw[show(((Sg.bad cd).hd x).kind==2)=false by rw[jw];rfl];refine J1.go (Gd.ff (lD.i a3 (V1.i (fa _ _ _) ?_)));rw[show(((Sg.bad cd).hd x).kind==3)=false by rw[jw];rfl];refine V1.i ah ?_;refine If.f (c.take kF λw3 c K3=>If.f (c.take gG λw4 c K4=>If.f (c.take eZ λw5 c K5=>If.f (c.sign [40] λw6 c K6=>If.f (c.sign bP λw7 c K7=>If.f (c.sign [123] λw8 c K8=>If.f (c.fail 4 λ_ w9 c K9=>?_)))))));exact c.sY hr ⟨_,rfl⟩ nb
 |go ts=>
 replace hr:run (n+1) .dq d ts=r:=hr;simp only[run]at hr;show If (.bool ((hd ts).kind==1)) _ _
 have jY:∀{R:ER}{f t:Nat}{v:Va}{w':Wd}{s':Sg}{K:WP}{cs:LV},CX w w' x [] s' d->At w' e cs->(∀w2,CX w w2 x [] s' d->At w2 e (cs.set f v)->aD [e] w' w2->K w2)->Sc v=true->f<cs.length->xY 47 f=true->dT t=true->sF R 47 f t (ptr e) v w' K:=by
  intro R f t v w' s' K cs c a hk h1 h2 h3 h4;exact sF.i a (λw2 U=>hk w2 (c.own U.aA (.inl um) aj aj) U.at_ U.aA) h1 h2 h3 h4
 have UK:b≠e:=by omega
 cases uB:((hd ts).kind==1)with
 |true=>
  rw[if_pos (by simpa using uB)]at hr;refine If.t (jY c aE (λw3 c a K3=>?_) rfl ak rfl rfl);have hr:(Sg.go ts).run (λts=>cP ts λnm ts=>.ok (lf 6 0 nm) ts false)=r:=(fc (f:=λnm ts=>.ok (lf 6 0 nm) ts false) uB).trans hr;refine c.name hr λnm w4 c hr K4=>?_;refine jY c (K4.at a al) (λw5 c a K5=>?_) rfl ak rfl rfl;exact pg _ _ 6 0 nm c hr a
 |false=>
 rw[if_neg (by simpa using uB)]at hr;refine If.f (lD.i a3 (V1.i (fa _ _ _) ?_));refine J1.gd (c:=false) ((hd ts).kind==3) (λ_ k hk=>lD.i a3 (V1.i (fa _ _ _) hk)) ?_;refine V1.i (fm _ _ _) ?_;show If (.bool (((hd ts).kind==2)||((hd ts).kind==3))) _ _
 cases yB:(((hd ts).kind==2)||((hd ts).kind==3))with
 |true=>
  refine If.t (jY c aE (λw3 c a K3=>?_) rfl ak rfl rfl);replace a3:=K3.at a3 (by simpa using UK);refine lD.i a3 ?_;refine jY c a (λw4 c a K4=>?_) rfl ak rfl rfl;replace a3:=K4.at a3 (by simpa using UK);have M1:(hd ts).kind≠5:=by simp at yB;omega
  refine J0.go ?_;refine lD.i a3 (V1.i (fa _ _ _) ?_);show If (.bool ((hd ts).kind==2)) _ _
  cases jy:((hd ts).kind==2)with
  |true=>
   rw[if_pos (by simpa using jy)]at hr;refine If.t (jY c a (λw5 c a K5=>?_) rfl ak rfl rfl);replace a3:=K5.at a3 (by simpa using UK);refine lD.i a3 ?_;refine jY c a (λw6 c a K6=>?_) rfl ak rfl rfl;refine jY c a (λw7 c a K7=>?_) rfl ak rfl rfl;refine step1 c.rs M1 λw8 h8 K8=>?_;exact pg _ _ 4 (hd ts).n [] (c.cx h8 K8) hr (K8.at a al)
  |false=>
   rw[if_neg (by simpa using jy),if_pos (by simpa[jy]using yB)]at hr;refine If.f (step1 c.rs M1 λw8 h8 K8=>?_);exact pg _ _ 5 0 (hd ts).text (c.cx h8 K8) hr (K8.at a al)
 |false=>
 rw[or_eq_false_iff]at yB;rw[if_neg (by simpa using yB.1),if_neg (by simpa using yB.2)]at hr
 cases n with
 |zero=>exact absurd hr.symm aI
 |succ n=>
 rw[oq]at hr;refine If.f (c.iO kF (λhq w3 c K3=>?_) λhq w3 c K3=>?_)
 .rw[hq,if_pos rfl]at hr;refine If.t (jY c (K3.at aE al) (λw4 c a K4=>?_) rfl ak rfl rfl);exact pg _ _ 1 0 [] c hr a
 rw[hq,if_neg ak]at hr;replace aE:=K3.at aE al;refine If.f (c.iO gG (λhq w4 c K4=>?_) λhq w4 c K4=>?_)
 .rw[hq,if_pos rfl]at hr;refine If.t (jY c (K4.at aE al) (λw4 c a K4=>?_) rfl ak rfl rfl);exact pg _ _ 2 0 [] c hr a
 rw[hq,if_neg ak]at hr;replace aE:=K4.at aE al;refine If.f (c.iO eZ (λhq w5 c K5=>?_) λhq w5 c K5=>?_)
 .rw[hq,if_pos rfl]at hr;refine If.t (jY c (K5.at aE al) (λw4 c a K4=>?_) rfl ak rfl rfl);exact pg _ _ 3 0 [] c hr a
 rw[hq,if_neg ak]at hr;replace aE:=K5.at aE al;refine If.f (c.lC [40] (λhq w6 c K6=>?_) λhq w6 c K6=>?_)
 .rw[hq,if_pos rfl]at hr;replace hr:=eC (q:=[40]) (f:=λd' ts=>(run n (.expr 0) d' ts).bind λe ts _=>aP [41] ts λts=>.ok e ts false) hq hr;refine If.t (c.open λ_ w7 c K7=>?_);refine c.cI [40] hr λ_ w8 c hr K8=>?_;refine c.call ((ih n aj).expr 0 aj) fU aj hr aI λv w9 t s9 o c hr R hv K9=>?_;refine c.cI [41] hr λ_ eo c hr dE=>?_;refine c.close oA λfB c dz=>?_;exact c.fin hr ((R.cx dE lp).cx dz lp) hv
 rw[hq,if_neg ak]at hr;replace aE:=K6.at aE ak;refine If.f (c.lC bP (λhq w7 c K7=>?_) λhq w7 c K7=>?_)
 .rw[hq,if_pos rfl]at hr;refine If.t (yk ((ih n aj).func false _ _ _ _ _ c.rs aj hr aI) ?_ (NP.no (e:=_)));rintro _ w8 ⟨f,nm,s8,o,q,e2,rfl,h8,he8,Rf,_,K8⟩;have z7:=c.kk.size;replace c:=c.cx h8 K8;refine V1.i ah ?_;refine V1.i ah ?_;exact⟨f,s8,o,h8,he8,Rf.fit z7 ak,⟨_,rfl⟩,c.kk⟩
 rw[hq,if_neg ak]at hr;replace aE:=K7.at aE ak;refine If.f (c.lC [123] (λhq w8 c K8=>?_) λhq w8 c K8=>?_)
 .rw[hq,if_pos rfl]at hr;refine If.t (jY c (K8.at aE ak) (λw9 c a K9=>?_) rfl ak rfl rfl);have z9:=c.kk.size;refine MO (UG (λm hm=>ih m aj) aj c.rs a ⟨by omega,by omega⟩ hq hr aI) ?_ (NP.no (e:=_));rintro _ eo ⟨UF,ks,gs,kv,av,o,jj,UL,jA,Rk,Rg,dE⟩;have kk:aD [x.p] w eo:=c.kk.trans' dE al;exact⟨_,UF,o,jj,UL,⟨e,_,_,_,_,_,_,_,rfl,⟨um,by simp⟩,jA,jl,jl,Rk.fit z9 ak,Rg.fit z9 ak,rR,fy⟩,⟨_,rfl⟩,kk⟩
 rw[hq,if_neg ak]at hr;refine If.f (c.fail 4 λ_ w9 c K9=>?_);exact CX.sY (cd:=4) (f:=λ_=>.bH) c hr ⟨_,rfl⟩ nb
end Go.Proofs.YtoddjlclpnoomaaGreatDoor

namespace Go.Proofs.YtoddjlclpnoomaaGreatDoor
open Go.Sh
theorem CX.st{w0 w w':Wd}{x:Rp}{s:Sg}{d:Int}{bs:Nat}(c:CX w0 w x [bs] s d)(K:aD [bs] w w')(hp:bs≠x.p)(ht:bs≠x.bt):CX w0 w' x [bs] s d:=c.own K (.inr ak) (Ne.symm hp) (Ne.symm ht)
structure BS(w:Wd)(x:Rp)(bs:Nat):Prop where
 p:bs≠x.p
 t:bs≠x.bt
 lt:bs<w.heap.size
def OR(n:Nat)(d:Int)(K:By->Tr->LT->bL)(ts:LT):bL:=match bB eG ts with
 |false=>.fail 4
 |true=>bY d λd=>cP (bF ts) λnm ts=>(run n .block d ts).bind λb ts _=>K nm b ts
theorem c145{n:Nat}(ih:∀m,m<=n->pP m)(hn:n<=aX){w0 w:Wd}{x:Rp}{s:Sg}{d:Int}{r:bL}{bs:Nat}{k:Int}{nm:By}{l r1 t a b:Tr}{K:By->Tr->LT->bL}(c:CX w0 w x [bs] s d)(hb:BS w0 x bs)(S:ST w w0.heap.size bs k nm l r1 t a b)
  (hr:s.run (OR n d K)=r) (aI:r≠.bH):
  Calls prog 145 #[ptr x.p,ptr bs] w (aZ (λ_ w'=>∃s' Fi b',CX w0 w' x [bs] s' d/\s'.run (K Fi b')=r/\ST w' w0.heap.size bs k Fi l r1 t a b') NP):=by
 refine Um ?_;unfold Mz;have oA:=c.rs.dp.2.1;have lp:=c.lp;refine c.sign eG λw1 c K1=>?_;replace S:=S.c0 K1
 cases s with
 |bad cd=>
  refine V1.bt (by simp[go_sem,Sg.is]) ?_;refine If.t (c.fail 4 λ_ w2 c K2=>?_);exact⟨_,nm,b,c,hr,S.cx K2 hb.p lp⟩
 |go ts=>
 replace hr:OR n d K ts=r:=hr;unfold OR at hr;refine V1.i (v:=.bool (!(bB eG ts))) (w':=w1) (by simp[go_sem,Sg.is]) ?_
 cases hq:bB eG ts with
 |false=>
  simp only[hq]at hr;refine If.t (c.fail 4 λ_ w2 c K2=>?_);exact⟨.bad 4,nm,b,c,hr,S.cx K2 hb.p lp⟩
 |true=>
 simp only[hq]at hr;replace hr:=eC (q:=eG) (f:=λd ts=>cP ts λnm ts=>(run n .block d ts).bind λb ts _=>K nm b ts) hq hr;refine If.f (c.open λ_ w2 c K2=>?_);refine c.cI eG hr λ_ w3 c hr K3=>?_;refine c.name hr λFi w4 c hr K4=>?_;replace S:=((S.cx K2 hb.p lp).cx K3 hb.p lp).cx K4 hb.p lp;refine S.AX hb.lt λw5 S K5=>?_;replace c:=c.st K5 hb.p hb.t;refine c.call (ih n aj).block AU hn hr aI λv w6 b' s6 o c hr R hv K6=>?_;replace S:=S.cx K6 hb.p lp;refine S.Fh hb.lt R hv λw7 S K7=>?_;replace c:=c.st K7 hb.p hb.t;refine c.close oA λw8 c K8=>?_;exact⟨_,Fi,b',c,hr,S.cx K8 hb.p lp⟩
theorem c138{n:Nat}(ih:∀m,m<=n->pP m)(hn:n+1<=aX){w0 w:Wd}{x:Rp}{ts:LT}{d:Int}{r:bL}{bs:Nat}{k:Int}(c:CX w0 w x [bs] (.go (bF ts)) d)(hb:BS w0 x bs)(S:ST w w0.heap.size bs k [] .nil .nil .nil .nil .nil)
  (hr:run (n+1) .kE d ts=r) (aI:r≠.bH):
  Calls prog 138 #[ptr x.p,ptr bs] w (aZ (λ_ w'=>∃s' k nm r1 o,CX w0 w' x [bs] s' d/\r=s'.res (.st k nm .nil r1 .nil .nil .nil) o/\ST w' w0.heap.size bs k nm .nil r1 .nil .nil .nil) NP):=by
 refine Ui ?_;unfold Mp;have lp:=c.lp;simp only[run]at hr;refine c.lC bP (λhq w1 c K1=>?_) λhq w1 c K1=>?_
 .simp only[hq]at hr;replace S:=S.c0 K1;refine If.t (S.kO hb.lt λw2 S K2=>?_);replace c:=c.st K2 hb.p hb.t;refine yk ((ih n aj).func true _ _ _ _ _ c.rs aj rfl (aL hr aI)) ?_ (NP.no (e:=_));rintro _ w3 ⟨f,nm,s3,o,q,e,rfl,h3,he3,Rf,Rq,K3⟩;have z2:=c.kk.size;replace c:=c.cx h3 K3;replace S:=S.cx K3 hb.p lp;replace hr:=run_bind (s:=.go (bF ts)) hr he3;refine V1.i ah ?_;refine V1.i ah ?_;refine S.nC hb.lt (Rf.fit z2 ak) ⟨_,rfl⟩ λw4 S K4=>?_;replace c:=c.st K4 hb.p hb.t;replace Rq:=(Rq.fit (Y:=[]) z2 ak).fr K4 (by have:=hb.lt;simp;omega);obtain⟨q',line,lv,rv,kv,av,pv,bv,qD,fq,aq,_⟩:=Rq;injection qD with qD;injection qD with qD;injection qD with qD
  subst qD;refine lF.i aq ?_;refine S.AX hb.lt λw5 S K5=>?_;replace c:=c.st K5 hb.p hb.t;exact⟨s3,11,nm,f,false,c,fD hr,S⟩
 simp only[hq]at hr;replace S:=S.c0 K1;refine If.f (S.kO hb.lt λw2 S K2=>?_);replace c:=c.st K2 hb.p hb.t;replace hr:(Sg.go (bF ts)).run (λts=>cP ts λnm ts=>match bB [61] ts with|true=>(run n (.expr 0) d (bF ts)).bind λr ts _=>.ok (.st 1 nm .nil r .nil .nil .nil) ts false|false=>.ok (.st 1 nm .nil .nil .nil .nil .nil) ts false)=r:=hr;refine c.name hr λnm w3 c hr K3=>?_;replace S:=S.cx K3 hb.p lp;refine S.AX hb.lt λw4 S K4=>?_;replace c:=c.st K4 hb.p hb.t;generalize(Sg.go (bF ts)).Ff=s4 at*
 cases s4 with
 |bad cd=>
  refine c.take [61] λw5 c K5=>?_;show If (.bool false) _ _
  exact If.f ⟨_,1,nm,.nil,false,c,hr.symm,S.cx K5 hb.p lp⟩
 |go mN=>
 refine c.iO [61] (λhq w5 c K5=>?_) λhq w5 c K5=>?_
 .replace hr:(match bB [61] mN with|true=>(run n (.expr 0) d (bF mN)).bind λr ts _=>.ok (.st 1 nm .nil r .nil .nil .nil) ts false|false=>.ok (.st 1 nm .nil .nil .nil .nil .nil) mN false)=r:=hr;simp only[hq]at hr;replace S:=S.cx K5 hb.p lp;refine If.t (c.call (s:=.go (bF mN)) ((ih n aj).expr 0 aj) fU aj hr aI λv w6 t s6 o c hr R hv K6=>?_);replace S:=S.cx K6 hb.p lp;refine S.nC hb.lt R hv λw7 S K7=>?_;exact⟨_,1,nm,t,false,c.st K7 hb.p hb.t,fD hr,S⟩
 .replace hr:(match bB [61] mN with|true=>(run n (.expr 0) d (bF mN)).bind λr ts _=>.ok (.st 1 nm .nil r .nil .nil .nil) ts false|false=>.ok (.st 1 nm .nil .nil .nil .nil .nil) mN false)=r:=hr;simp only[hq]at hr;exact If.f ⟨.go mN,1,nm,.nil,false,c,hr.symm,S.cx K5 hb.p lp⟩
theorem M3(w:Wd)(a:Option Addr):(Instr.buildSlice 26 1 #[(0,.pointer a)]).run prog w=.ok (.slice (some ⟨w.heap.size,0,none⟩) 1 1) (w.alloc (.cells #[.pointer a] 40)):=by simp[go_sem]
theorem AY.go{n:Nat}{f:LT->Int->bL}{K:FuncId}(H:AY n f K)(hn:n<=aX){w0 w:Wd}{x:Rp}{s:Sg}{d:Int}{r:bL}{bs:Nat}{k:Int}(c:CX w0 w x [bs] s d)(hb:BS w0 x bs)(S:ST w w0.heap.size bs k [] .nil .nil .nil .nil .nil)
  (hr:s.run (λts=>f ts d)=r) (aI:r≠.bH):
  Calls prog K #[ptr x.p,ptr bs] w (aZ (λ_ w'=>∃s' k nm l r1 t a b o,CX w0 w' x [bs] s' d/\r=s'.res (.st k nm l r1 t a b) o/\ST w' w0.heap.size bs k nm l r1 t a b) NP):=by
 have z:=c.kk.size;have S':ST w w.heap.size bs k [] .nil .nil .nil .nil .nil:=by
  obtain⟨line,lv,rv,tv,av,bv,h1,h2,h3,h4,h5,h6⟩:=S;exact⟨line,lv,rv,tv,av,bv,h1,h2,h3,h4,h5,h6⟩
 refine(H w x s d r bs k c.rs hn hr aI S' hb.p hb.t (by have:=hb.lt;omega)).mono ?_;intro e w' h
 cases e with
 |returned v=>
  obtain⟨k,nm,l,r1,t,a,b,s',o,h',he,S1,K1⟩:=h;exact⟨s',k,nm,l,r1,t,a,b,o,c.XE h' K1 ak,he,S1.lower z⟩
 |panicked=>exact h.elim
 |outgrown=>exact h.elim
theorem g144{n:Nat}(ih:∀m,m<=n->pP m):AY (n+1) (λts d=>run (n+1) .branch d ts) 144:=by
 intro w x s d r bs k h hn hr aI S hp ht hl;refine My ?_;unfold E7;simp only[run]at hr;have hb:BS w x bs:=⟨hp,ht,hl⟩;have c:CX w w x [bs] s d:=CX.mk' h;have lp:=c.lp;refine S.kO hl λw1 S K1=>?_;replace c:=c.st K1 hp ht;refine c.call ((ih n aj).expr 0 aj) fU aj hr aI λv w2 t s2 o c hr R hv K2=>?_;refine(S.cx K2 hp lp).nC hl R hv λw3 S K3=>?_;replace c:=c.st K3 hp ht;refine c.call ((ih n aj).inner qs) mX aj hr aI λv w4 a s4 o c hr R hv K4=>?_;refine(S.cx K4 hp lp).vh hl R hv λw5 S K5=>?_;replace c:=c.st K5 hp ht;refine c.next λw6 c K6=>?_;replace S:=S.c0 K6;unfold dm;refine V1.i ah ?_
 cases s4 with
 |bad cd=>
  refine c.take ew λw7 c K7=>?_;show If (.bool false) _ _
  refine If.f (c.sign dU λw8 c K8=>?_);show If (.bool false) _ _
  exact If.f ⟨_,_,_,_,_,_,_,.bad cd,false,c.rs,hr.symm,(S.cx K7 hp lp).c0 K8,c.kk⟩
 |go mN=>
 replace hr:(match bB ew mN with
   |true=>(run n .branch d (bF mN)).bind λs ts _=>.ok (.st 6 [] .nil t .nil a (.cons s .nil)) ts false
   |false=>match bB dU mN with
    |true=>(run n (.inner dU) d mN).bind λb ts _=>.ok (.st 6 [] .nil t .nil a b) ts false
    |false=>.ok (.st 6 [] .nil t .nil a .nil) mN false)=r:=hr
 refine c.iO ew (λhq w7 c K7=>?_) λhq w7 c K7=>?_
 .simp only[hq]at hr;replace S:=S.cx K7 hp lp;refine If.t ?_;refine V1.i ah ?_;refine V1.new (zF _ _) λb2 w8 N=>?_;have a2:At w8 b2 [.int .i64 0,.int .i64 ((Sg.go mN).hd x).line,str [],.pointer none,.pointer none,.pointer none,.slice none 0 0,.slice none 0 0]:=by
   have:=N.at_;simpa[cells,str]using this
  have g2:=N.ge;have z7:=c.kk.size;have lt:=c.lt;have K8:=N.aA;clear N;replace c:=c.c0 K8;have c8:CX w8 w8 x [b2] (.go (bF mN)) d:=CX.mk' c.rs;refine CL (AY.go (ih n aj).branch aj (k:=0) c8 ⟨by omega,by omega,a2.lt⟩ ⟨_,_,_,_,_,_,a2,jl,jl,jl,fy,fy⟩ rfl (aL hr aI)) ?_ (NP.no (e:=_));rintro _ w9 ⟨s9,k9,nm9,l9,r9,t9,a9,b9,o9,c9,he9,S9⟩;replace hr:=run_bind (s:=.go (bF mN)) hr he9;have z8:=c.kk.size;have K79:aD [x.p] w7 w9:=(K8.mono ak:aD [x.p] w7 w8).trans' c9.kk (λi hi bO=>by
   simp at hi
   rcases hi with rfl|rfl
   .simp
   .omega)
  replace S:=S.cx K79 hp lp;replace c:=c.back c9 aj;have R9:=S9.rep (lo':=w.heap.size) z8 aj;refine V1.aG (M3 _ _) λy8 eo N=>?_;replace c:=c.c0 N.aA;replace S:=S.c0 N.aA;have z9:=c9.kk.size;have RL:aU (Fr w.heap.size []) eo (.cons (.st k9 nm9 l9 r9 t9 a9 b9) .nil) (.L (.slice (some ⟨y8,0,none⟩) 1 1)):=⟨y8,0,1,ptr b2,rfl,by omega,⟨by have:=N.ge;omega,by simp⟩,by rw[N.at_.cell];rfl,R9.c0 N.aA,rfl⟩;refine S.Fh hl RL ⟨_,_,_,rfl⟩ λfB S dz=>?_;replace c:=c.st dz hp ht;exact⟨_,_,_,_,_,_,_,_,_,c.rs,fD hr,S,c.kk⟩
 simp only[hq]at hr;replace S:=S.cx K7 hp lp;refine If.f (c.lC dU (λjc w8 c K8=>?_) λjc w8 c K8=>?_)
 .simp only[jc]at hr;refine If.t (c.call (s:=.go mN) ((ih n aj).inner dU) mX aj hr aI λv w9 b s9 o c hr R hv K9=>?_);refine((S.c0 K8).cx K9 hp lp).Fh hl R hv λeo S dE=>?_;replace c:=c.st dE hp ht;exact⟨_,_,_,_,_,_,_,_,_,c.rs,fD hr,S,c.kk⟩
 .simp only[jc]at hr;exact If.f ⟨_,_,_,_,_,_,_,.go mN,false,c.rs,hr.symm,S.c0 K8,c.kk⟩
end Go.Proofs.YtoddjlclpnoomaaGreatDoor

import Derived.Test.YtoddjlclpnoomaaGreatDoorU28
set_option linter.unusedVariables false
set_option linter.unusedSimpArgs false
set_option maxRecDepth 100000
open Go.Proofs.Tryz
open Go.Instr (alloc storeAt fieldAt)
open List (cons_append contains_cons contains_nil)
open Nat (le_refl)
open Go.Builtin (append_ len_)
open Bool (and_eq_true)
namespace Go.Proofs.YtoddjlclpnoomaaGreatDoor
open Go.Sh
set_option maxRecDepth 100000
def A5(t:Tok):LV:=[.int .i64 t.kind,str t.text,.int .i64 t.n,.int .i64 t.line]
theorem ed{r:bL}{f g:Tr->LT->Bool->bL}:(r.bind f).bind g=r.bind λt ts o=>(f t ts o).bind g:=by cases r<;>rfl
theorem ik{d:Int}{f:Int->bL}{g:Tr->LT->Bool->bL}:(bY d f).bind g=bY d λd=>(f d).bind g:=by
 unfold bY
 cases decide (64<d+1)<;>rfl
theorem jx{q:By}{ts:LT}{f:LT->bL}{g:Tr->LT->Bool->bL}:(aP q ts f).bind g=aP q ts λts=>(f ts).bind g:=by
 unfold aP
 cases bB q ts<;>rfl
theorem sZ{ts:LT}{f:By->LT->bL}{g:Tr->LT->Bool->bL}:(cP ts f).bind g=cP ts λnm ts=>(f nm ts).bind g:=by
 unfold cP
 cases(hd ts).kind==1<;>rfl
theorem eL{t:Tr}{ts:LT}{o:Bool}{f:Tr->LT->Bool->bL}:(bL.ok t ts o).bind f=f t ts o:=rfl
theorem qW(q:By):0<=bD q/\bD q<=10:=by
 unfold bD;repeat' split
 all_goals omega
theorem lB{ts:LT}{q:By}{f:LT->bL}(h:bB q ts=true):(Sg.go ts).run (λOM=>aP q OM f)=f (bF ts):=by
 rw[mZ];simp only[Sg.cI,h,if_true];rfl
theorem s0{ts:LT}{q:By}(hk:((hd ts).kind==4)=true)(hq:(hd ts).text=q):bB q ts=true:=by simp[bB,fI,hk,hq]
section
variable {w0 w:Wd}{x:Rp}{M:List Nat}{s:Sg}{d:Int}{R:ER}
theorem CX.copy{k:VK}(c:CX w0 w x M s d)(hk:∀b w',CX w0 w' x M s d->At w' b (A5 (s.hd x))->w0.heap.size<=b->aD [] w w'->k (.pointer (some ⟨b,0,none⟩)) w'):
  cf R 48 #[ptr x.p] w λa6 w=>v1 R (alloc 86 true (.tuple #[])) w λa3 w=>u1 R (storeAt 86 a3 a6) w λw=>k a3 w:=by
 refine c.next λw1 c1 K1=>?_;refine V1.new (eW _) λb w2 N=>?_;have g:=N.ge;have z1:=c1.kk.size;have lp:=c1.lp;have lt:=c1.lt;refine U1.tok (t:=s.hd x) N.at_ rfl λw3 U=>?_;exact hk b w3 ((c1.c0 N.aA).own U.aA (.inl aj) aj aj) U.at_ aj ((K1.trans N.aA).trans' U.aA (by have:=K1.size;simp;omega))
theorem andNot{a:Bool}(q:By){k0:VK}{b:Nat}{T:LV}(c:CX w0 w x M s d)(a1:At w b T)(hk:∀w2,CX w0 w2 x M s d->At w2 b T->aD [] w w2->k0 (.bool (a&&!(s.is q))) w2):
  J1 (λk1=>Gd (.bool a) true (cf R 136 #[ptr x.p,str q] w λa12 w=>v1 R (Op.unary .not a12) w λnz w=>k1 nz w) (k1 undef w)) (λnz w=>v1 R (Pk (.bool a) nz (.bool false)) w k0):=by
 refine J1.go ?_
 cases a with
 |false=>
  refine Gd.ft ?_;refine V1.i ah ?_;exact hk w c a1 (aD.refl _ _)
 |true=>
  refine Gd.tt ?_;refine c.sign q λw2 c K=>?_;refine V1.i ah ?_;refine V1.i ah ?_;exact hk w2 c (K.at a1 ak) K
end
theorem g186{n:Nat}(ih:∀m,m<=n->pP m):sX (n+1) .operand 186 [] .P fV:=by
 intro w x s d r h hn hr aI;refine MI ?_;unfold E9;have c:CX w w x [] s d:=CX.mk' h;refine c.copy λb w1 c a1 hb _=>?_;have lp:=c.lp;refine c.sign lH λw2 c K2=>?_;replace a1:=K2.at a1 ak;refine V1.i ah ?_;refine andNot [45] c a1 λw3 c a1 _=>?_;refine andNot [35] c a1 λw4 c a1 _=>?_;refine andNot [126] c a1 λw5 c a1 _=>?_
 cases s with
 |bad cd=>
  refine If.t (c.call (k:=λt ts o=>.ok t ts o) (ih n aj).post oh aj hr aI λv w6 t s' o c hr R hv K=>?_);exact c.fin hr R hv
 |go ts=>
 replace hr:run (n+1) .operand d ts=r:=hr;replace a1:At w5 b (A5 (hd ts)):=a1;simp only[run]at hr;have hc:(((!((Sg.go ts).is lH)&&!((Sg.go ts).is [45]))&&!((Sg.go ts).is [35]))&&!((Sg.go ts).is [126]))=!(fI (hd ts) [lH,[45],[35],[126]]):=by
  simp only[Sg.is,bB,fI,contains_cons,contains_nil,Bool.or_false]
  cases((hd ts).kind==4)<;>simp[Bool.and_assoc]
 rw[hc]
 cases hB:fI (hd ts) [lH,[45],[35],[126]]with
 |false=>
  simp only[hB]at hr;refine If.t (c.call (ih n aj).post oh aj (qU (s:=.go ts) hr) aI λv w6 t s' o c hr R hv K=>?_);exact c.fin hr R hv
 |true=>
 simp only[hB]at hr;have hk:((hd ts).kind==4)=true:=by
  unfold fI at hB;rw[and_eq_true]at hB;exact hB.1
 refine If.f (c.open λ_ w6 c K6=>?_);replace hr:=eC (f:=λd bU=>(run n .operand d bU).bind λr bU _=>.ok (.ex 10 0 (hd ts).text .nil r .nil .nil [] .nil) bU false) (s0 hk rfl) hr;replace a1:=K6.at a1 al;refine lD.i a1 ?_;refine c.cI _ hr λ_ w7 c hr K7=>?_;replace a1:=K7.at a1 al;have KD:aD [] w7 w7.drew:=(aD.refl _ _).drew;refine⟨λw'=>At w' b (A5 (hd ts)),KD.at a1 ak,xD.i (λ_ h=>h) (xD.i (λ_ h=>h) ?_)⟩;refine(c.c0 KD).call (ih n aj).operand ym aj hr aI λv w8 t s' o c hr R hv K8=>?_;replace a1:=K8.at (KD.at a1 ak) al;obtain⟨pv,rfl⟩:=hv;refine⟨a1,?_⟩;refine Xw.i _ (λw' _=>by simp[go_sem]<;>trivial) ?_;refine yp c.kk.size jl R fy fy rR fy λq w9 K9 _ _ RE=>?_;replace c:=c.c0 K9
 refine c.close h.dp.2.1 λeo c dE=>?_;exact c.fin hr (RE.cx dE c.lp) ⟨_,rfl⟩
theorem g142{n:Nat}(ih:∀m,m<=n->pP m)(a:Int)(ha:0<=a/\a<=100):sX (n+1) (.expr a) 142 [.int .i64 a] .P fV:=by
 intro w x s d r h hn hr aI;refine Mv ?_;unfold E6;simp only[run]at hr;have c:CX w w x [] s d:=CX.mk' h;refine c.call (ih n aj).operand ym aj hr aI λv w1 t s1 o c hr R hv K1=>?_;refine J1.go ?_;refine L1.g (λm v w'=>∃l s',CX w w' x [] s' d/\aU (Fr w.heap.size []) w' l (.P v)/\fV v/\s'.run (λts=>run m (.exprL l a) d ts)=r/\m<=n) n ⟨t,s1,c,R,hv,hr,le_refl _⟩ ?_;have oA:=h.dp.2.1;clear hr R hv K1 c v w1 s1 t o h;rintro m v w1 K ⟨l,s1,c,R,hv,hr,hm⟩ hK;have lp:=c.lp;have lt:=c.lt;obtain⟨i,line,h1,h2⟩:=c.rs.raw;refine lF.i h1.at_ ?_;clear h1 h2
 cases s1 with
 |bad cd=>
  refine V1.bf (by simp[go_sem,Sg.dS]) ?_;refine J1.go (Gd.ft ?_);refine V1.i ah ?_;exact If.f (c.sY hr hv nb)
 |go ts=>
 cases m with
 |zero=>exact absurd hr.symm aI
 |succ m=>
 replace hr:run (m+1) (.exprL l a) d ts=r:=hr;simp only[run]at hr;refine V1.bt (by simp[go_sem,Sg.dS]) ?_;refine J1.go (Gd.tt ?_);refine c.next λw2 c K2=>?_;replace R:=R.c0 K2;unfold dm;refine V1.i ah ?_;refine V1.i (v:=.bool ((hd ts).kind==4)) (w':=w2) (by simp[go_sem,Bo,Sg.hd]) ?_;refine V1.i ah ?_
 cases hk:((hd ts).kind==4)with
 |false=>
  simp only[hk,Bool.not_false,Bool.true_or]at hr;exact If.f (c.fin (o:=false) hr R hv)
 |true=>
 refine If.t (c.copy λb w3 c a3 hb K3=>?_);replace R:=R.c0 K3;replace a3:At w3 b (A5 (hd ts)):=a3;refine lD.i a3 ?_;refine yl (Fk _ _) ?_ (NP.no (e:=_));rintro _ w4 ⟨rfl,K4⟩;replace c:=c.c0 K4;replace R:=R.c0 K4;replace a3:=K4.at a3 ak;refine V1.i (v:=.bool (decide (bD (hd ts).text<=a))) (w':=w4) am ?_
 cases hle:decide (bD (hd ts).text<=a)with
 |true=>
  simp only[hk,hle,Bool.or_true]at hr;exact If.t (c.fin (o:=false) hr R hv)
 |false=>
 simp only[hk,hle,Bool.not_true,Bool.false_or]at hr;refine If.f (lD.i a3 (lD.i a3 ?_));obtain⟨pl,rfl⟩:=hv;refine V1.i ah ?_;have z4:=c.kk.size;refine yp z4 R jl fy fy rR fy λq w5 K5 hq a5 _=>?_;replace c:=c.c0 K5;replace R:aU (Fr w.heap.size [q]) w5 l (.P (.pointer pl)):=(R.fit (Y:=[q]) (le_refl _) al).fr K5 ak;have hbq:b<q:=by have:=a3.lt;omega
 replace a3:=K5.at a3 ak;have lq:=a5.lt;have hbn:=qW (hd ts).text
 cases m with
 |zero=>exact absurd hr.symm aI
 |succ m=>
 rw[show run (m+1) (.bin l (bD (hd ts).text)) d ts=(match(hd ts).text==[46,46]with
   |true=>bY d λd=>(run m (.expr (bD (hd ts).text-1)) d (bF ts)).bind λr bU _=>.ok (.ex 11 0 (hd ts).text l r .nil .nil [] .nil) bU false
   |false=>(run m (.expr (bD (hd ts).text)) d (bF ts)).bind λr bU _=>.ok (.ex 11 0 (hd ts).text l r .nil .nil [] .nil) bU false)from rfl]at hr
 refine J0.go ?_;refine lD.i a3 ?_;refine V1.i (mu _ _ _ _ _) ?_;have c5:CX w5 w5 x [] (.go ts) d:=CX.mk' c.rs;have z5:=c.kk.size;have ua:∀(w6:Wd) (s6:Sg) (v:Va) (t:Tr),CX w5 w6 x [q] s6 d->aU (Fr w5.heap.size []) w6 t (.P v)->At w6 q [.int .i64 11,.int .i64 (hd ts).line,.int .i64 0,str (hd ts).text,.pointer pl,v,.slice none 0 0,.slice none 0 0,.slice none 0 0,.slice none 0 0]->
   s6.run (λbU=>run (m+1) (.exprL (.ex 11 0 (hd ts).text l t .nil .nil [] .nil) a) d bU)=r->K (ptr q) w6:=by
  intro w6 s6 v t c6 Rt aq hr;have Rl:aU (Fr w.heap.size []) w6 l (.P (.pointer pl)):=(R.fr c6.kk al).fit (le_refl _) ak;have RE:aU (Fr w.heap.size []) w6 (.ex 11 0 (hd ts).text l t .nil .nil [] .nil) (.P (ptr q)):=⟨q,_,_,_,_,_,_,_,rfl,⟨by omega,by simp⟩,aq,Rl,Rt.fit z5 ak,fy,fy,rR,fy⟩;exact hK (m+1) _ _ aj ⟨_,s6,c.back c6 aj,RE,⟨_,rfl⟩,hr,by omega⟩
 have jY:∀(w6:Wd) (s6:Sg) (d6:Int) (v:Va) (t:Tr) (k:WP),CX w5 w6 x [] s6 d6->aU (Fr w5.heap.size []) w6 t (.P v)->fV v->(∀w7,CX w5 w7 x [q] s6 d6->aU (Fr w5.heap.size []) w7 t (.P v)->At w7 q [.int .i64 11,.int .i64 (hd ts).line,.int .i64 0,str (hd ts).text,.pointer pl,v,.slice none 0 0,.slice none 0 0,.slice none 0 0,.slice none 0 0]->k w7)->
   sF (aZ (Fin w x d .P fV r) NP) 47 5 41 (ptr q) v w6 k:=by
  intro w6 s6 d6 v t k c6 Rt hv hk;have a6:=c6.kk.at a5 al;obtain⟨pv,rfl⟩:=hv;refine sF.i a6 λw7 U=>?_;exact hk w7 (c6.mono.own U.aA (.inr ak) aj aj) (Rt.fr U.aA al) U.at_
 cases A6:((hd ts).text==[46,46])with
 |true=>
  simp only[A6,ik,ed,eL]at hr;refine If.t (c5.open λ_ w6 c K6=>?_);replace hr:=eC (q:=[46,46]) (f:=λd' bU=>(run m (.expr (bD (hd ts).text-1)) d' bU).bind λt bX _=>run (m+1) (.exprL (.ex 11 0 (hd ts).text l t .nil .nil [] .nil) a) d bX) (s0 hk (by simpa using A6)) hr;refine c.cI [46,46] hr λ_ w7 c hr K7=>?_;refine V1.i (jK _ _ _ _ _ _ aj aj) ?_;refine c.call ((ih m aj).expr (bD (hd ts).text-1) ?_) fU aj hr aI λv w8 t s8 o c hr Rt hv K8=>?_
  .have:bD (hd ts).text=8:=by rw[show(hd ts).text=[46,46]by simpa using A6];rfl
   omega
  refine jY _ _ _ _ _ _ c Rt hv λw9 c Rt aq=>?_;refine c.close oA λeo c dE=>?_;exact ua _ _ _ _ c (Rt.cx dE aj) (dE.at aq al) hr
 |false=>
  simp only[A6,ed,eL]at hr;refine If.f (lD.i a3 ?_);have pL:=(lB (q:=(hd ts).text) (f:=λbX=>(run m (.expr (bD (hd ts).text)) d bX).bind λt dA _=>run (m+1) (.exprL (.ex 11 0 (hd ts).text l t .nil .nil [] .nil) a) d dA) (s0 hk rfl)).trans hr;refine c5.cI _ pL λ_ w7 c hr K7=>?_;refine c.call ((ih m aj).expr (bD (hd ts).text) aj) fU aj hr aI λv w8 t s8 o c hr Rt hv K8=>?_;refine jY _ _ _ _ _ _ c Rt hv λw9 c Rt aq=>?_;exact ua _ _ _ _ c Rt aq hr
end Go.Proofs.YtoddjlclpnoomaaGreatDoor

namespace Go.Proofs.YtoddjlclpnoomaaGreatDoor
open Go.Sh
def s5(K:LB->LT->bL)(t:Tr)(ts:LT)(_:Bool):bL:=match t with
 |.ex _ _ _ _ _ _ _ pl _=>aP [41] ts (K pl)
 |_=>.bH
def vG(m:Nat)(d:Int)(K:LB->LT->bL)(acc:LB)(ts:LT):bL:=match acc with
 |[]=>(match bB [41] ts with
  |true=>K [] (bF ts)
  |false=>(run m (.params []) d ts).bind (s5 K))
 |_::_=>match bB [44] ts with
  |true=>(run m (.params acc) d (bF ts)).bind (s5 K)
  |false=>aP [41] ts (K acc)
theorem pt{ts:LT}{p q:By}(h:bB p ts=true)(La:p≠q):bB q ts=false:=by
 simp only[bB,fI,contains_cons,contains_nil,Bool.or_false,and_eq_true,beq_iff_eq]at h;simp only[bB,fI,contains_cons,contains_nil,Bool.or_false,h.1,h.2];simpa using La
theorem px{s:By}{ts:LT}{f:LT->bL}(h:bB s ts=false):aP s ts f=.fail 4:=by unfold aP;rw[h]
theorem A7{m:Nat}{d:Int}{K:LB->LT->bL}{acc:LB}{ts:LT}(h:bB [41] ts=true):vG m d K acc ts=aP [41] ts (K acc):=by
 cases acc with
 |nil=>simp only[vG,h,cR h]
 |cons a l=>simp only[vG,pt (q:=[44]) h ak]
theorem ys{m:Nat}{d:Int}{K:LB->LT->bL}{acc:LB}{ts:LT}(h:bB [41] ts=false):
  vG m d K acc ts=(match acc with|[]=>(run m (.params acc) d ts).bind (s5 K)|_::_=>aP [44] ts λts=>(run m (.params acc) d ts).bind (s5 K)):=by
 cases acc with
 |nil=>simp only[vG,h]
 |cons a l=>
  simp only[vG,px h];unfold aP
  cases bB [44] ts<;>rfl
theorem yt{m:Nat}{d:Int}{K:LB->LT->bL}{acc:LB}{s:Sg}{r:bL}(hr:s.run (λts=>(run m (.params acc) d ts).bind (s5 K))=r)(aI:r≠.bH):
  s.run (λts=>cP ts λnm ts=>vG (m-1) d K (acc++[nm]) ts)=r/\(∀ts,s=.go ts->0<m):=by
 cases s with
 |bad c=>exact⟨hr,λts h=>by cases h⟩
 |go ts=>
  cases m with
  |zero=>exact absurd hr.symm aI
  |succ m=>
   refine⟨?_,λ_ _=>by omega⟩;rw[←hr];simp only[Sg.run,run,sZ];congr 1
   funext nm bX
   cases acc with
   |nil=>
    simp only[vG,List.nil_append,Nat.add_sub_cancel]
    cases bB [44] bX<;>rfl
   |cons a l=>
    simp only[vG,cons_append,Nat.add_sub_cancel]
    cases bB [44] bX<;>rfl
theorem fi.sl{lo:Nat}{w:Wd}{v:Va}{ss:LB}(h:fi lo w v ss):∃a c,v=.slice a ss.length c:=by
 rcases h.1.2 with⟨h1,h2⟩|⟨g,cap,cur,rfl,_⟩
 .exact⟨none,0,by rw[h1,h2]⟩
 .exact⟨_,_,rfl⟩
theorem UA{n:Nat}(hn:n+1<=aX){w:Wd}{x:Rp}{s:Sg}{d:Int}{r:bL}{e:Nat}{line:Int}{K:LB->LT->bL}(h:RS w x s d)
  (aE:At w e [.int .i64 9,.int .i64 line,.int .i64 0,str [],.pointer none,.pointer none,.slice none 0 0,.slice none 0 0,.slice none 0 0,.slice none 0 0]) (he:e≠x.p/\e≠x.bt) (hr:s.run (qV n d K)=r) (aI:r≠.bH):
  Calls prog 185 #[ptr x.p,ptr e] w (aZ (λ_ w'=>∃s' pl v,RS w' x s' d/\s'.run (K pl)=r/\At w' e [.int .i64 9,.int .i64 line,.int .i64 0,str [],.pointer none,.pointer none,.slice none 0 0,.slice none 0 0,v,.slice none 0 0]/\Strs (Fr w.heap.size []) w' v pl/\aD [x.p,e] w w') NP):=by
 generalize hQ:(λ_ w'=>∃s' pl v,RS w' x s' d/\s'.run (K pl)=r/\At w' e [.int .i64 9,.int .i64 line,.int .i64 0,str [],.pointer none,.pointer none,.slice none 0 0,.slice none 0 0,v,.slice none 0 0]/\Strs (Fr w.heap.size []) w' v pl/\aD [x.p,e] w w')=Q;refine Uq ?_;unfold MG;have c:CX w w x [e] s d:=CX.mk' h;have oA:=h.dp.2.1;have le:=aE.lt;have lp:=c.lp;have lt:=c.lt;refine c.sign [40] λw1 c K1=>?_;replace aE:=K1.at aE ak
 cases s with
 |bad cd=>
  refine V1.bt (by simp[go_sem,Sg.is]) ?_;refine If.t (c.fail 4 λ_ w2 c K2=>?_);exact hQ▸⟨_,[],_,c.rs,hr,K2.at aE al,.inl ⟨rfl,rfl⟩,c.kk⟩
 |go ts=>
 replace hr:qV n d K ts=r:=hr;unfold qV at hr;refine V1.i (v:=.bool (!(bB [40] ts))) (w':=w1) (by simp[go_sem,Sg.is]) ?_
 cases hq:bB [40] ts with
 |false=>
  simp only[hq]at hr;refine If.t (c.fail 4 λ_ w2 c K2=>?_);exact hQ▸⟨.bad 4,[],_,c.rs,hr,K2.at aE al,.inl ⟨rfl,rfl⟩,c.kk⟩
 |true=>
 simp only[hq]at hr;replace hr:=eC (q:=[40]) (f:=λd2 bX=>vG n d2 K [] bX) hq hr;refine If.f (c.open λ_ w2 c K2=>?_);refine c.cI [40] hr λ_ w3 c hr K3=>?_;replace aE:=K3.at (K2.at aE al) al;refine L0.g (λk w'=>∃acc s' m v,CX w w' x [e] s' (d+1)/\At w' e [.int .i64 9,.int .i64 line,.int .i64 0,str [],.pointer none,.pointer none,.slice none 0 0,.slice none 0 0,v,.slice none 0 0]/\fi w.heap.size w' v acc/\
  s'.run (vG m (d+1) K acc)=r/\acc.length<=n+1/\∀ts,s'=.go ts->m<k/\acc.length+m<=n) (n+1) ⟨[],_,n,_,c,aE,fi.nil _ _,hr,by simp,λ_ _=>by simp⟩ ?_
 clear hr c aE K1 K2 K3 hq h;rintro k w4 KK ⟨acc,s1,m,v,c,aE,ca,hr,hlen,hm⟩ hK;have z4:=c.kk.size;obtain⟨i,ln,h1,h2⟩:=c.rs.raw;refine lF.i h1.at_ ?_;clear h1 h2;have lS:∀(w5:Wd),CX w w5 x [e] s1 (d+1)->At w5 e [.int .i64 9,.int .i64 line,.int .i64 0,str [],.pointer none,.pointer none,.slice none 0 0,.slice none 0 0,v,.slice none 0 0]->fi w.heap.size w5 v acc->s1.run (λts=>aP [41] ts (K acc))=r->
   cf (aZ Q NP) 141 #[ptr x.p,.string ⟨#[41]⟩] w5 λGa w=>
   lF (aZ Q NP) 108 2 3 (ptr x.p) w λUB w=>v1 (aZ Q NP) (Bo .sub 3 false true UB (.int .i64 1)) w λUC w=>sF (aZ Q NP) 108 2 3 (ptr x.p) UC w λw=>aZ Q NP (.returned (.tuple #[])) w:=by
  intro w5 c aE ca hr;refine c.cI [41] hr λ_ w6 c hr K6=>?_;refine c.close oA λw7 c K7=>?_;exact hQ▸⟨_,acc,v,c.rs,hr,K7.at (K6.at aE al) al,((ca.fr K6 al).fr K7 al).strs,c.kk⟩
 cases s1 with
 |bad cd=>
  refine V1.bf (by simp[go_sem,Sg.dS]) ?_;refine J1.go (Gd.ft ?_);refine V1.i ah ?_;exact If.f (lS w4 c aE ca hr)
 |go ts=>
 refine V1.bt (by simp[go_sem,Sg.dS]) ?_;refine andNot [41] c aE λw5 c aE K5=>?_;replace ca:=ca.fr K5 ak;replace hr:vG m (d+1) K acc ts=r:=hr;rw[show(true&&!((Sg.go ts).is [41]))=!(bB [41] ts)from by simp[Sg.is]];obtain⟨XF,EE⟩:=hm ts rfl
 cases hq:bB [41] ts with
 |true=>
  rw[A7 hq]at hr;exact If.f (lS w5 c aE ca hr)
 |false=>
 rw[ys hq]at hr;refine If.t ?_;refine J0.cut (λw'=>∃s2,CX w w' x [e] s2 (d+1)/\At w' e [.int .i64 9,.int .i64 line,.int .i64 0,str [],.pointer none,.pointer none,.slice none 0 0,.slice none 0 0,v,.slice none 0 0]/\fi w.heap.size w' v acc/\s2.run (λts=>(run m (.params acc) (d+1) ts).bind (s5 K))=r) ?_ ?_
 .refine lF.i aE ?_;obtain⟨va,vc,rfl⟩:=ca.sl;refine V1.i ah ?_
  cases acc with
  |nil=>
   refine V1.bf am ?_;exact If.f ⟨_,c,aE,ca,hr⟩
  |cons a l=>
   replace hr:(Sg.go ts).run (λts=>aP [44] ts λts=>(run m (.params (a::l)) (d+1) ts).bind (s5 K))=r:=hr;refine V1.bt am ?_;refine If.t (c.cI [44] (s:=.go ts) hr λ_ w6 c hr K6=>?_);exact⟨_,c,K6.at aE al,ca.fr K6 al,hr⟩
 clear hr c aE ca;rintro w6 ⟨s2,c,aE,ca,hr⟩;obtain⟨hr,UD⟩:=yt hr aI;have KD:aD [] w6 w6.drew:=(aD.refl _ _).drew;refine⟨λw'=>At w' e _,KD.at aE ak,xF.i (λ_ h=>h) ?_⟩;refine(c.c0 KD).name hr λnm w7 c hr K7=>?_;have z6:=KD.size;have z7:=c.kk.size;have eQ:∀g,v.ownBlock=some g->w.heap.size<=g/\g<w7.heap.size:=λg hg=>by have:=ca.lt hg;have:=K7.size;omega
 replace aE:=K7.at (KD.at aE ak) al;replace ca:=(ca.fr KD ak).fr K7 al;refine⟨aE,?_⟩;refine V1.aG (nd _ _) λb8 w8 N8=>?_;replace c:=c.c0 N8.aA;replace aE:=N8.a aE;replace ca:=ca.f0 N8.aA;have z8:=c.kk.size;refine⟨aE,?_⟩;obtain⟨v',w9,fR,fW,K9⟩:=BO (n:=n+1) ca N8.at_ hlen (by simp only[aX]at hn;omega) aj;refine V1.i fR ?_;have hM:∀i∈v.ownBlock.toList,w.heap.size<=i:=by intro i hi;simp at hi;exact(eQ i hi).1
 replace c:CX w w9 x [e] _ (d+1):=⟨c.rs.aA K9 (λh=>by have:=hM _ h;omega) (λh=>by have:=hM _ h;omega),c.kk.trans' K9 (λi hi h=>by have:=hM i hi;omega),c.lp,c.lt⟩;replace aE:=K9.at aE (λh=>by have:=hM _ h;omega);refine⟨_,λw' _=>Nc.p _ w',?_⟩;refine Xw.i _ (λw' _=>xZ rfl) ?_;refine U1.store (aO rfl fW.sc) aE ak λeo U=>?_;replace c:=c.own U.aA (.inr ak) (Ne.symm he.1) (Ne.symm he.2);refine hK (k-1) _ ?_ ⟨acc++[nm],_,m-1,v',c,U.at_,fW.fr U.aA al,hr,by simp;omega,λbU hs=>?_⟩
 .omega
 .cases s2 with
  |bad cd=>cases hs
  |go dA=>
   have:=UD dA rfl;simp
   omega
def Gb(n:Nat)(d:Int)(named:Bool)(nm:By)(pl:LB)(ts:LT):bL:=
 (run n .block d ts).bind λb ts _=>aP cO ts λts=>.ok (Uy named (.ex 9 0 [] .nil .nil .nil .nil pl b) nm) ts false
theorem A8(n:Nat)(named:Bool)(d:Int)(ts:LT):run (n+1) (.func named) d ts=bY d λd=>aP bP ts λts=>match(generalizing:=false) named with
  |true=>cP ts λnm ts=>qV n d (Gb n d true nm) ts
  |false=>qV n d (Gb n d false []) ts:=by
 cases named<;>rfl
theorem g139{n:Nat}(ih:∀m,m<=n->pP m)(named:Bool)(w:Wd)(x:Rp)(ts:LT)(d:Int)(r:bL)(h:RS w x (.go ts) d)(hn:n+1<=aX)(hr:run (n+1) (.func named) d ts=r)(aI:r≠.bH):
  Calls prog 139 #[ptr x.p,.bool named] w (aZ (λv w'=>
   ∃f nm s o q e,v=.tuple #[ptr e,ptr q]/\RS w' x s d/\r=s.res (Uy named f nm) o/\aU (Fr w.heap.size []) w' f (.P (ptr e))/\aU (Fr w.heap.size []) w' (lf 6 0 nm) (.P (ptr q))/\aD [x.p] w w') NP):=by
 refine Uj ?_;unfold Mr;rw[A8]at hr;have oA:=h.dp.2.1;have c:CX w w x [] (.go ts) d:=CX.mk' h;refine c.next λw1 c K1=>?_;unfold dm;refine V1.i ah ?_;refine V1.i ah ?_;have z1:=c.kk.size;refine yp z1 jl jl fy fy rR fy λe w2 K2 he aE _=>?_;replace c:=c.c0 K2;have c2:CX w2 w2 x [e] (.go ts) d:=CX.mk' c.rs;have le:=aE.lt;have lp:=c.lp;have lt:=c.lt;replace hr:=na (f:=λd ts=>aP bP ts λts=>match(generalizing:=false) named with
  |true=>cP ts λnm ts=>qV n d (Gb n d true nm) ts
  |false=>qV n d (Gb n d false []) ts) hr
 refine c2.open λ_ w3 c3 K3=>?_;refine c3.cI bP hr λ_ w4 c4 hr K4=>?_;refine c4.next λw5 c5 K5=>?_;unfold dm;refine V1.i ah ?_;refine V1.i ah ?_;have z5:=c5.kk.size;refine yp z5 jl jl fy fy rR fy λq w6 K6 hq aQ _=>?_;replace c5:=c5.c0 K6;replace aE:=K6.at (K5.at (K4.at (K3.at aE al) al) ak) ak;refine J0.cut (λw'=>∃s7 nm,CX w2 w' x [e] s7 (d+1)/\At w' e [.int .i64 9,.int .i64 ((Sg.go ts).hd x).line,.int .i64 0,str [],.pointer none,.pointer none,.slice none 0 0,.slice none 0 0,.slice none 0 0,.slice none 0 0]/\
  At w' q [.int .i64 6,.int .i64 (((iN ts d).cI bP).hd x).line,.int .i64 0,str nm,.pointer none,.pointer none,.slice none 0 0,.slice none 0 0,.slice none 0 0,.slice none 0 0]/\s7.run (qV n (d+1) (Gb n (d+1) named nm))=r) ?_ ?_
 .cases named with
  |false=>exact If.f ⟨_,[],c5,aE,aQ,hr⟩
  |true=>
   refine If.t (c5.name hr λnm w7 c7 hr K7=>?_);replace aE:=K7.at aE al;replace aQ:=K7.at aQ al;refine sF.i aQ λw8 U=>?_;exact⟨_,nm,c7.own U.aA (.inl aj) aj aj,U.aA.at aE al,U.at_,hr⟩
 clear hr aE aQ c5 c4 c3;rintro w7 ⟨s7,nm,c7,aE,aQ,hr⟩;have lq:=aQ.lt;refine MH (UA aj c7.rs aE ⟨by omega,by omega⟩ hr aI) ?_ (NP.no (e:=_));rintro _ w8 ⟨s8,pl,pv,h8,hr,aE,St,K8⟩;have z7:=c7.kk.size;have c8:=c7.XE h8 K8 ak;replace aQ:=K8.at aQ al;unfold Gb at hr;refine c8.call (ih n aj).block AU aj hr aI λv w9 b s9 o c9 hr Rb hv K9=>?_;replace aE:=K9.at aE al;replace aQ:=K9.at aQ al;replace St:Strs (Fr w2.heap.size []) w9 pv pl:=(St.fit z7 ak).fr K9 al;obtain⟨ba,bn,bc,rfl⟩:=hv;refine sF.i aE λeo U=>?_;have oo:=c9.own U.aA (.inr ak) aj aj;have qX:=U.at_;replace aQ:=U.aA.at aQ al;replace St:=St.fr U.aA al;replace Rb:=Rb.fr U.aA al
 refine oo.cI cO hr λ_ fB MX hr dz=>?_;refine MX.close oA λgz c12 dw=>?_;have K:=dz.trans dw;replace qX:=K.at qX al;replace aQ:=K.at aQ al;replace St:=St.fr K al;replace Rb:=Rb.fr K al;have z2:=c.kk.size;have um:w.heap.size<=e:=by omega
 have cc:=c.back c12 um;have hF:∀{t:Tr}{m:Md},aU (Fr w2.heap.size []) gz t m->aU (Fr w.heap.size []) gz t m:=λh=>h.fit z2 ak;refine⟨.ex 9 0 [] .nil .nil .nil .nil pl b,nm,_,false,q,e,rfl,c12.rs,fD hr,?_,?_,cc.kk⟩
 .exact⟨e,_,_,_,_,_,_,_,rfl,⟨um,by simp⟩,qX,jl,jl,fy,fy,St.fit z2 ak,hF Rb⟩
 .exact⟨q,_,_,_,_,_,_,_,rfl,⟨by omega,by simp⟩,aQ,jl,jl,fy,fy,rR,fy⟩
def qY(Kf:Tr->LT->bL)(t:Tr)(ts:LT)(_:Bool):bL:=aP [41] ts (Kf t)
def yu(m:Nat)(d:Int)(Kf:Tr->LT->bL)(acc:Tr)(ts:LT):bL:=match acc with
 |.nil=>(match bB [41] ts with
  |true=>Kf .nil (bF ts)
  |false=>(run m (.args .nil) d ts).bind (qY Kf))
 |_=>match bB [44] ts with
  |true=>(run m (.args acc) d (bF ts)).bind (qY Kf)
  |false=>aP [41] ts (Kf acc)
theorem A9{m:Nat}{d:Int}{Kf:Tr->LT->bL}{acc:Tr}{ts:LT}(h:bB [41] ts=true):yu m d Kf acc ts=aP [41] ts (Kf acc):=by
 cases acc<;>simp only[yu,h,cR h,pt (q:=[44]) h ak]
theorem yv{m:Nat}{d:Int}{Kf:Tr->LT->bL}{acc:Tr}{ts:LT}(h:bB [41] ts=false):
  yu m d Kf acc ts=(match acc with|.nil=>(run m (.args acc) d ts).bind (qY Kf)|_=>aP [44] ts λts=>(run m (.args acc) d ts).bind (qY Kf)):=by
 cases acc<;>simp only[yu,h,px h]<;>unfold aP<;>cases bB [44] ts<;>rfl
theorem yw{m:Nat}{d:Int}{Kf:Tr->LT->bL}{acc a:Tr}{ts:LT}:yu m d Kf (snoc acc a) ts=(match bB [44] ts with
 |true=>(run m (.args (snoc acc a)) d (bF ts)).bind (qY Kf)
 |false=>aP [41] ts (Kf (snoc acc a))):=by cases acc<;>rfl
theorem yx{m:Nat}{d:Int}{Kf:Tr->LT->bL}{acc:Tr}{s:Sg}{r:bL}(hr:s.run (λts=>(run m (.args acc) d ts).bind (qY Kf))=r)(aI:r≠.bH):
  s.run (λts=>(run (m-1) (.expr 0) d ts).bind λa ts _=>yu (m-1) d Kf (snoc acc a) ts)=r/\(∀ts,s=.go ts->0<m):=by
 cases s with
 |bad c=>exact⟨hr,λts h=>by cases h⟩
 |go ts=>
  cases m with
  |zero=>exact absurd hr.symm aI
  |succ m=>
   refine⟨?_,λ_ _=>by omega⟩;rw[←hr];simp only[Sg.run,run,ed,Nat.add_sub_cancel];congr 1
   funext a bX o
   rw[yw]
   cases bB [44] bX<;>rfl
theorem Acc.oc{e:TypeId}{lo:Nat}{X:List Nat}{w:Wd}{v:Va}{t:Tr}(h:Acc e lo X w v t):∃a c,v=.slice a (len t) c:=by
 obtain⟨us,h1,h2,h3⟩:=h;have:=h2.count.1;rcases h1.2 with⟨rfl,h0⟩|⟨g,cap,cur,rfl,_⟩
 .exact⟨none,0,by rw[←this,h0]⟩
 .exact⟨_,_,by rw[this]⟩
theorem yy(w:Wd)(a:Option Addr):(Instr.buildSlice 44 1 #[(0,.pointer a)]).run prog w=.ok (.slice (some ⟨w.heap.size,0,none⟩) 1 1) (w.alloc (.cells #[.pointer a] 41)):=by simp[go_sem]
theorem vi{n:Nat}(ih:∀m,m<=n->pP m)(hn:n+1<=aX){w:Wd}{x:Rp}{s:Sg}{d:Int}{r:bL}{q:Nat}{c0 c1 c2 c3 c4 c5 c6 c8 c9:Va}{Kf:Tr->LT->bL}{R:ER}{X:WP}(h:RS w x s d)
    (aQ:At w q [c0,c1,c2,c3,c4,c5,c6,.slice none 0 0,c8,c9]) (hq:q≠x.p/\q≠x.bt) (hr:s.run (yu n d Kf .nil)=r) (aI:r≠.bH)
    (hX:∀w' s' acc v,CX w w' x [q] s' d->At w' q [c0,c1,c2,c3,c4,c5,c6,v,c8,c9]->aU (Fr w.heap.size []) w' acc (.L v)->s'.run (λts=>aP [41] ts (Kf acc))=r->X w'):
    L0 w (λg2 w=>
 lF R 108 3 4 (ptr x.p) w λa70 w=>
 v1 R (Op.unary .not a70) w λXG w=>
 J1 (λk1=>
 Gd XG true (cf R 136 #[(ptr x.p),(.string ⟨#[41]⟩)] w λR3 w=>
 v1 R (Op.unary .not R3) w λa75 w=>
 k1 a75 w) (k1 undef w)) (λMY w=>
 v1 R (Pk XG MY (.bool false)) w λa76 w=>
 If a76 (
 J0 (λk2=>
 lF R 47 7 44 (ptr q) w λa80 w=>
 v1 R (len_ #[44] 3 #[a80]) w λR4 w=>
 v1 R (Bo .gtr 3 false true R4 (.int .i64 0)) w λa82 w=>
 If a82 (
 cf R 141 #[(ptr x.p),(.string ⟨#[44]⟩)] w λa84 w=>
 k2 w) (
 k2 w)) (λw=>
 ∃S3:WP,S3 w.drew/\
 xF S3 47 7 44 (ptr q) λa89=>cf R 142 #[(ptr x.p),(.int .i64 0)] w.drew λa91 w=>
 S3 w/\v1 R (Instr.buildSlice 44 1 #[(0,a91)]) w λa92 w=>
 S3 w/\v1 R (append_ #[44,44] 44 #[a89,a92]) w λa93 w=>
 xs t0 (Nc (ptr q)) λa94=>xw t0 (fieldAt 47 a94 7) λa95=>u1 R (storeAt 44 a95 a93) w λw=>
 g2 w)) (X w))):=by
  have c:CX w w x [q] s d:=CX.mk' h;have le:=aQ.lt;have lp:=c.lp;have lt:=c.lt;refine L0.g (λk w'=>∃acc s' m v,CX w w' x [q] s' d/\At w' q [c0,c1,c2,c3,c4,c5,c6,v,c8,c9]/\Acc 41 w.heap.size [] w' v acc/\
    s'.run (yu m d Kf acc)=r/\len acc<=n+1/\∀ts,s'=.go ts->m<k/\len acc+m<=n) (n+1) ⟨.nil,_,n,_,c,aQ,Acc.nil _ _ _ _,hr,by simp[len],λ_ _=>by simp[len]⟩ ?_
  clear hr c aQ h;rintro k w4 KK ⟨acc,s1,m,v,c,aQ,ca,hr,hlen,hm⟩ hK;have z4:=c.kk.size;obtain⟨i,ln,h1,h2⟩:=c.rs.raw;refine lF.i h1.at_ ?_;clear h1 h2
  cases s1 with
  |bad cd=>
    refine V1.bf (by simp[go_sem,Sg.dS]) ?_;refine J1.go (Gd.ft ?_);refine V1.i ah ?_;exact If.f (hX _ _ _ _ c aQ ca.rep hr)
  |go ts=>
  refine V1.bt (by simp[go_sem,Sg.dS]) ?_;refine andNot [41] c aQ λw5 c aQ K5=>?_;replace ca:=ca.fr K5 ak;replace hr:yu m d Kf acc ts=r:=hr;rw[show(true&&!((Sg.go ts).is [41]))=!(bB [41] ts)from by simp[Sg.is]];obtain⟨XF,EE⟩:=hm ts rfl
  cases jc:bB [41] ts with
  |true=>
    rw[A9 jc]at hr;exact If.f (hX _ _ _ _ c aQ ca.rep hr)
  |false=>
  rw[yv jc]at hr;refine If.t ?_;refine J0.cut (λw'=>∃s2,CX w w' x [q] s2 d/\At w' q [c0,c1,c2,c3,c4,c5,c6,v,c8,c9]/\Acc 41 w.heap.size [] w' v acc/\s2.run (λts=>(run m (.args acc) d ts).bind (qY Kf))=r) ?_ ?_
  . refine lF.i aQ ?_;have hL:=ca.uG;obtain⟨va,vc,rfl⟩:=ca.oc;refine V1.i ah ?_
    cases acc with
    |nil=>
      refine V1.bf (by simp[go_sem,len]) ?_;exact If.f ⟨_,c,aQ,ca,hr⟩
    |cons a l=>
      replace hr:(Sg.go ts).run (λts=>aP [44] ts λts=>(run m (.args (.cons a l)) d ts).bind (qY Kf))=r:=hr;refine V1.bt (by simp[go_sem,len]) ?_;refine If.t (c.cI [44] (s:=.go ts) hr λ_ w6 c hr K6=>?_);exact⟨_,c,K6.at aQ al,ca.fr K6 al,hr⟩
    |hole=>cases hL
    |ex=>cases hL
    |st=>cases hL
  clear hr c aQ ca;rintro w6 ⟨s2,c,aQ,ca,hr⟩;obtain⟨hr,UD⟩:=yx hr aI;have KD:aD [] w6 w6.drew:=(aD.refl _ _).drew;have z5:=c.kk.size;refine⟨λw'=>At w' q _,KD.at aQ ak,xF.i (λ_ h=>h) ?_⟩;replace c:=c.c0 KD;replace aQ:=KD.at aQ ak;replace ca:=ca.fr KD ak;generalize w6.drew=w6 at*;have z6:=c.kk.size;have eQ:∀g,v.ownBlock=some g->w.heap.size<=g/\g<w6.heap.size:=λg hg=>ca.lt hg;refine fU (((ih (m-1) aj).expr 0 aj) _ _ _ _ _ c.rs aj rfl (yo hr aI)) ?_ (NP.no (e:=_));rintro va w7 ⟨a,s7,o,h7,he,Ra,⟨pa,rfl⟩,K7⟩;replace hr:=run_bind hr he;replace c:=c.cx h7 K7;have z7:=c.kk.size;replace aQ:=K7.at aQ al;replace ca:=ca.fr K7 al;refine⟨aQ,?_⟩;refine V1.aG (yy _ _) λb8 w8 N8=>?_
  replace c:=c.c0 N8.aA;replace aQ:=N8.a aQ;replace ca:=ca.f0 N8.aA;have Ra2:aU (Fr w.heap.size (v.ownBlock.toList++[])) w8 a (.P (.pointer pa)):=(Ra.fit (Y:=v.ownBlock.toList++[]) z6 (λi hi=>by simp at hi;have:=eQ i hi;omega)).fr N8.aA ak;have z8:=c.kk.size;refine⟨aQ,?_⟩;obtain⟨v',w9,fR,fW,K9,hg⟩:=qA (n:=n+1) ca N8.at_ rfl Ra2 hlen (by simp only[aX]at hn;omega) ak aj;refine V1.i fR ?_;have hM:∀i∈v.ownBlock.toList,w.heap.size<=i:=by intro i hi;simp at hi;exact(eQ i hi).1
  replace c:CX w w9 x [q] s7 d:=⟨c.rs.aA K9 (λh=>by have:=hM _ h;omega) (λh=>by have:=hM _ h;omega),c.kk.trans' K9 (λi hi h=>by have:=hM i hi;omega),c.lp,c.lt⟩;replace aQ:=K9.at aQ (λh=>by have:=hM _ h;omega);refine⟨_,λw' _=>Nc.p _ w',?_⟩;refine Xw.i _ (λw' _=>xZ rfl) ?_;refine U1.store (aO rfl fW.sc) aQ ak λeo U=>?_;replace c:=c.own U.aA (.inr ak) (Ne.symm hq.1) (Ne.symm hq.2);refine hK (k-1) _ ?_ ⟨snoc acc a,_,m-1,v',c,U.at_,fW.fr U.aA al,hr,by rw[eJ _ _ ca.uG];omega,λbU hs=>?_⟩
  .omega
  . have tO:∃dA,s2=.go dA:=by
      cases s2 with
      |go dA=>exact⟨_,rfl⟩
      |bad cd=>
        subst hs
        cases he
    obtain⟨dA,rfl⟩:=tO;have:=UD dA rfl;rw[eJ _ _ ca.uG];omega
theorem g187{n:Nat}(ih:∀m,m<=n->pP m):sX (n+1) .post 187 [] .P fV:=by
 intro w x s d r h hn hr aI;refine MJ ?_;unfold Fa;have oA:=h.dp.2.1;have c:CX w w x [] s d:=CX.mk' h;have hr:∃ob:LT->Bool,s.run (λts=>(run n .dq d ts).bind λe bU _=>run n (.dy e (ob ts)) d bU)=r:=⟨λts=>bB [40] ts,hr⟩;obtain⟨ob0,hr⟩:∃ob:Bool,s.run (λts=>(run n .dq d ts).bind λe bU _=>run n (.dy e ob) d bU)=r:=by
  obtain⟨ob,hr⟩:=hr
  cases s with
  |bad cd=>exact⟨false,hr⟩
  |go ts=>exact⟨ob ts,hr⟩
 refine c.call (ih n aj).dq CM aj hr aI λv w1 t s1 o c hr R hv K1=>?_;refine L2.g (λm v _ w'=>∃e s' ob,CX w w' x [] s' d/\aU (Fr w.heap.size []) w' e (.P v)/\fV v/\s'.run (λts=>run m (.dy e ob) d ts)=r/\m<=n) n ⟨t,s1,ob0,c,R,hv,hr,le_refl _⟩ ?_;clear hr R hv K1 c v w1 s1 t o h;rintro m v vj w1 K ⟨l,s1,ob,c,R,⟨pl,rfl⟩,hr,hm⟩ hK;have lp:=c.lp;have lt:=c.lt;obtain⟨i,line,h1,h2⟩:=c.rs.raw;refine lF.i h1.at_ ?_;clear h1 h2
 cases s1 with
 |bad cd=>
  refine V1.bf (by simp[go_sem,Sg.dS]) ?_;exact If.f (c.sY hr ⟨_,rfl⟩ nb)
 |go ts=>
 cases m with
 |zero=>exact absurd hr.symm aI
 |succ m=>
 replace hr:run (m+1) (.dy l ob) d ts=r:=hr;simp only[run]at hr;refine V1.bt (by simp[go_sem,Sg.dS]) ?_;refine If.t (c.copy λb w3 c a3 hb K3=>?_);replace R:=R.c0 K3;replace a3:At w3 b (A5 (hd ts)):=a3;refine c.sign [91] λw4 c K4=>?_;replace R:=R.c0 K4;replace a3:=K4.at a3 ak;show If (.bool (bB [91] ts)) _ _
 cases MZ:bB [91] ts with
 |true=>
  simp only[MZ]at hr
  cases m with
  |zero=>exact absurd hr.symm aI
  |succ m=>
  have hr:(bY d λd'=>aP [91] ts λts=>(run m (.expr 0) d' ts).bind λr ts _=>aP [93] ts λts=>run (m+1) (.dy (.ex 7 0 [] l r .nil .nil [] .nil) false) d ts)=r:=by
   rw[←hr];simp only[run,ik,jx,ed,eL]
  replace hr:=na (f:=λd' ts=>aP [91] ts λts=>(run m (.expr 0) d' ts).bind λr ts _=>aP [93] ts λts=>run (m+1) (.dy (.ex 7 0 [] l r .nil .nil [] .nil) false) d ts) hr;refine If.t (c.open λ_ w5 c K5=>?_);refine c.cI [91] hr λ_ w6 c hr K6=>?_;replace a3:=K6.at (K5.at a3 al) al;replace R:=(R.cx K5 lp).cx K6 lp;have KD:aD [] w6 w6.drew:=(aD.refl _ _).drew;refine⟨λw'=>At w' b (A5 (hd ts)),KD.at a3 ak,xD.i (λ_ h=>h) ?_⟩;refine(c.c0 KD).call ((ih m aj).expr 0 aj) fU aj hr aI λv w7 t s7 o c hr Rt hv K7=>?_;replace a3:=K7.at (KD.at a3 ak) al;replace R:=(R.c0 KD).cx K7 lp;obtain⟨pv,rfl⟩:=hv;refine⟨a3,?_⟩;refine Xw.i _ (λw' _=>by simp[go_sem]<;>trivial) ?_
  refine yp c.kk.size R Rt fy fy rR fy λq w9 K9 _ _ RE=>?_;replace c:=c.c0 K9;refine c.cI [93] hr λ_ eo c hr dE=>?_;refine c.close oA λfB c dz=>?_;exact hK (m+1) _ _ _ aj ⟨_,_,false,c,(RE.cx dE lp).cx dz lp,⟨_,rfl⟩,hr,by omega⟩
 |false=>
 simp only[MZ]at hr;refine If.f (c.take [46] λw5 c K5=>?_);replace a3:=K5.at a3 al;replace R:=R.cx K5 lp;simp only[Sg.take]at c;show If (.bool (bB [46] ts)) _ _
 cases jc:bB [46] ts with
 |true=>
  simp only[jc]at hr;rw[jc,if_pos rfl]at c;have hr:(Sg.go (bF ts)).run (λbX=>cP bX λnm ts=>run m (.dy (.ex 7 0 [] l (lf 5 0 nm) .nil .nil [] .nil) false) d ts)=r:=hr;refine If.t (c.next λw6 c K6=>?_);replace a3:=K6.at a3 ak;replace R:=R.c0 K6;unfold dm;refine V1.i ah ?_;have KD:aD [] w6 w6.drew:=(aD.refl _ _).drew;refine⟨λw'=>At w' b (A5 (hd ts)),KD.at a3 ak,xD.i (λ_ h=>h) ?_⟩;refine(c.c0 KD).name hr λnm w7 c hr K7=>?_;replace a3:=K7.at (KD.at a3 ak) al;replace R:=(R.c0 KD).cx K7 lp;refine⟨a3,?_⟩;refine Xw.i _ (λw' _=>by simp[go_sem]<;>trivial) ?_;refine yp c.kk.size jl jl fy fy rR fy λq w9 K9 _ _ RN=>?_;replace c:=c.c0 K9;replace R:=R.c0 K9;replace a3:=K9.at a3 ak;refine⟨a3,?_⟩
  unfold ptr at RN⊢;refine Xw.i _ (λw' _=>by simp[go_sem]<;>trivial) ?_;refine yp c.kk.size R RN fy fy rR fy λq2 eo dE _ _ RE=>?_;replace c:=c.c0 dE;exact hK m _ _ _ aj ⟨_,_,false,c,RE,⟨_,rfl⟩,hr,by omega⟩
 |false=>
 simp only[jc]at hr;rw[jc,if_neg ak]at c;refine If.f (c.sign [40] λw6 c K6=>?_);replace a3:=K6.at a3 ak;replace R:=R.c0 K6;show If (.bool (bB [40] ts)) _ _
 cases UE:bB [40] ts with
 |false=>
  simp only[UE]at hr;exact If.f (c.fin (o:=ob) hr R ⟨_,rfl⟩)
 |true=>
 simp only[UE]at hr;have hr:(bY d λd'=>yu m d' (λdV ts=>run m (.dy (.ex 8 0 [] l .nil .nil dV [] .nil) false) d ts) .nil (bF ts))=r:=hr;replace hr:=eC (q:=[40]) (f:=λd' ts=>yu m d' (λdV ts=>run m (.dy (.ex 8 0 [] l .nil .nil dV [] .nil) false) d ts) .nil ts) UE hr;refine If.t (c.open λ_ w7 c K7=>?_);refine c.cI [40] hr λ_ w8 c hr K8=>?_;replace a3:=K8.at (K7.at a3 al) al;replace R:=(R.cx K7 lp).cx K8 lp;refine lD.i a3 ?_;refine V1.i ah ?_;have z8:=c.kk.size;refine yp z8 R jl fy fy rR fy λq w9 K9 hq aQ _=>?_;replace c:=c.c0 K9;replace R:aU (Fr w.heap.size [q]) w9 l (.P (.pointer pl)):=(R.fit (Y:=[q]) (le_refl _) al).fr K9 ak;have z9:=c.kk.size;have lq:=aQ.lt
 refine vi (λj hj=>ih j aj) (n:=m) aj c.rs aQ ⟨by omega,by omega⟩ hr aI λeo UF acc v oo aQ RA hr=>?_;have cc:=c.back oo aj;refine cc.cI [41] hr λ_ fB cc hr dz=>?_;refine cc.close oA λgz cc dw=>?_;have K2:=dz.trans dw;have KR:=oo.kk.trans' K2 ak;have Rl:aU (Fr w.heap.size []) gz l (.P (.pointer pl)):=(R.fr KR al).fit (le_refl _) ak;have RE:aU (Fr w.heap.size []) gz (.ex 8 0 [] l .nil .nil acc [] .nil) (.P (ptr q)):=⟨q,_,_,_,_,_,_,_,rfl,⟨by omega,by simp⟩,K2.at aQ al,Rl,jl,fy,(RA.cx K2 aj).fit z9 ak,rR,fy⟩;exact hK m _ _ _ aj ⟨_,_,false,cc,RE,⟨_,rfl⟩,hr,by omega⟩
end Go.Proofs.YtoddjlclpnoomaaGreatDoor

import Derived.Lib.ItoaMem
import Derived.Test.YtoddjlclpnoomaaGreatDoorU26
import Derived.Test.YtoddjlclpnoomaaGreatDoorU31
set_option linter.unusedVariables false
set_option linter.unusedSimpArgs false
set_option maxRecDepth 100000
open Go.Proofs.Tryz
open List (contains_cons drop_eq_getElem_cons contains_nil toList_toArray take_succ_cons length_append length take_zero)
open Nat (lt_or_ge le_refl)
open Go.Value (cells)
open Bool (and_eq_true false_eq_true)
namespace Go.Proofs.YtoddjlclpnoomaaGreatDoor
open Go.Sh
theorem XL{R:ER}{w:Wd}{b i:Nat}{l:LT}{k:VK}(h:cW w b 0 l)(hi:i<l.length)(hk:k (.int .i64 l[i].kind) w):lD R 86 0 3 (.pointer (some ⟨b,4*i,none⟩)) w k:=by
 obtain⟨h0,h1,h2,h3⟩:=jX _ _ _ hi h;simp only[Nat.zero_add]at h0;unfold lD;refine V1.i (v:=.pointer (some ⟨b,4*i,none⟩)) (w':=w) (by simp[go_sem,Addr.add]) ?_;exact V1.i ((aC rfl) _ _ _ h0) hk
theorem UQ{R:ER}{w:Wd}{b i:Nat}{l:LT}{k:VK}(h:cW w b 0 l)(hi:i<l.length)(hk:k (str l[i].text) w):lD R 86 1 9 (.pointer (some ⟨b,4*i,none⟩)) w k:=by
 obtain⟨h0,h1,h2,h3⟩:=jX _ _ _ hi h;simp only[Nat.zero_add]at h1;unfold lD;refine V1.i (v:=.pointer (some ⟨b,4*i+1,none⟩)) (w':=w) (by simp[go_sem,Addr.add]) ?_;exact V1.i ((aC rfl) _ _ _ h1) hk
theorem yI(w:Wd)(a b:Int):(Bo .neq 3 false true (.int .i64 a) (.int .i64 b)).run prog w=.ok (.bool (!(a==b))) w:=by simp[go_sem,Bo];rfl
theorem Fv(t:Tok):jZ t=if(t.kind==4)=true then(if(t.text==[40])=true then 1 else if(t.text==[41])=true then-1 else 0)else 0:=by
 unfold jZ;by_cases h:t.kind=4<;>by_cases h2:t.text=[40]<;>by_cases h3:t.text=[41]<;>simp[h,h2,h3]
set_option maxHeartbeats 1000000 in
theorem UR{w:Wd}{x:Rp}{ts bU pre:LT}{d:Int}{i0:Nat}(h:RS w x (.go bU) d)(h0:(Sg.go ts).pos x i0)(hp:ts=pre++bU):
  Calls prog 188 #[ptr x.p,.int .i64 i0] w (aZ (λv w'=>v=.bool (bB [40] ts&&iF pre 0)/\aD [] w w') NP):=by
 refine Ur ?_;unfold MK;obtain⟨i',line,h1,h2,Gk⟩:=h.raw;obtain⟨rfl,zj⟩:=h0;have mW:=x.wo;subst h2;have hl:x.all.length-i0=pre.length+(x.all.length-i'):=by
  have:=congrArg length hp;simpa using this
 have sS:pre=(x.all.drop i0).take (i'-i0):=by
  rw[hp,List.take_left' aj]
 have tk:=h1.tk;refine lF.i h1.at_ ?_;refine V1.i (mY zj) ?_;refine XL tk zj ?_;refine V1.i (yI _ _ _) ?_;have e0:bB [40] (x.all.drop i0)=((x.all[i0].kind==4)&&(x.all[i0].text==[40])):=by
  simp only[bB,fI,me zj,contains_cons,contains_nil,Bool.or_false]
 rw[e0];refine J1.gd (c:=false) (!(x.all[i0].text==[40])) (λ_ k hk=>lF.i h1.at_ (V1.i (mY zj) (UQ tk zj (V1.i (H2 _ _ _ _ _) hk)))) ?_;refine V1.i (fm _ _ _) ?_
 cases hA:(x.all[i0].kind==4)&&(x.all[i0].text==[40])with
 |false=>
  refine If.t' ?_ ⟨rfl,aD.refl _ _⟩;rw[←Bool.not_and,hA];rfl
 |true=>
 refine If.f' (by rw[←Bool.not_and,hA];rfl) ?_;rw[Bool.true_and];refine L3.i (λx0 x1 x2 w'=>w'=w/\∃(j:Nat) (D:Int),x0=.int .i64 D/\x2=.int .i64 j/\i0<=j/\j<=i'/\-(j:Int)<=D/\D<=j/\iF pre 0=iF ((x.all.drop j).take (i'-j)) D) (λ_ _ v _=>match v with|.int _ n=>(i'-n.toNat)|_=>0)
  ⟨rfl,i0,0,rfl,rfl,by omega,by omega,by omega,by omega,by rw[←sS]⟩ ?_
 rintro x0 x1 x2 w' ⟨rfl,j,D,rfl,rfl,hj0,hj,hD1,hD2,ou⟩;refine lF.i h1.at_ ?_;by_cases bO:j<i'
 rotate_left
 .obtain rfl:j=i':=by omega
  refine V1.bf am ?_;refine If.f ⟨?_,aD.refl _ _⟩;rw[ou];simp[iF]
 refine V1.bt ax ?_;refine If.t ?_;have lh:j<x.all.length:=by omega
 have M6:(x.all.drop j).take (i'-j)=x.all[j]::(x.all.drop (j+1)).take (i'-(j+1)):=by
  rw[drop_eq_getElem_cons lh,show i'-j=(i'-(j+1))+1 by omega,take_succ_cons]
 have US:((x.all.drop (j+1)).take (i'-(j+1))).isEmpty=decide (j=i'-1):=by
  rw[Bool.eq_iff_iff];simp only[List.isEmpty_iff,decide_eq_true_eq];constructor
  .intro h;have:=congrArg length h;simp at this
   omega
  .rintro rfl;rw[show i'-(i'-1+1)=0 by omega,take_zero]
 rw[M6]at ou;have kL:=Fv x.all[j];refine J2.cut (λy0 y1 wz=>wz=w'/\∃D':Int,y0=.int .i64 D'/\-((j:Int)+1)<=D'/\D'<=(j:Int)+1/\iF pre 0=iF ((x.all.drop (j+1)).take (i'-(j+1))) D') ?_ ?_;rotate_left
 .rintro y0 y1 w2 ⟨rfl,D',rfl,hD1,hD2,ou⟩;refine V1.i (cC _ _ _ _ _ _ aj aj) ?_;exact⟨⟨rfl,j+1,D',rfl,by simp,by omega,by omega,by omega,by omega,ou⟩,by simp;omega⟩
 refine lF.i h1.at_ (V1.i (mY lh) (XL tk lh (V1.i (yI _ _ _) ?_)))
 cases hk:(x.all[j].kind==4)with
 |false=>
  rw[hk,if_neg ak]at kL;simp only[iF,kL]at ou;rw[if_neg ak]at ou;exact If.t ⟨rfl,D,rfl,by omega,by omega,by simpa using ou⟩
 |true=>
 rw[hk,if_pos rfl]at kL;refine If.f ?_;refine J1.cut (λy wz=>wz=w'/\y=.int .i64 (if(x.all[j].text==[40])=true then D+1 else D)) ?_ ?_
 .refine lF.i h1.at_ (V1.i (mY lh) (UQ tk lh (V1.i (mu _ _ _ _ _) ?_)))
  cases ht:(x.all[j].text==[40])with
  |true=>
   refine If.t ?_;refine V1.i (cC _ _ _ _ _ _ aj aj) ?_;exact⟨rfl,by simp⟩
  |false=>exact If.f ⟨rfl,by simp⟩
 rintro y w2 ⟨rfl,rfl⟩;refine lF.i h1.at_ (V1.i (mY lh) (UQ tk lh (V1.i (mu _ _ _ _ _) ?_)))
 cases ht:(x.all[j].text==[40])with
 |true=>
  rw[ht,if_pos rfl]at kL;simp only[iF,kL]at ou;rw[if_neg ak]at ou;have:(x.all[j].text==[41])=false:=by
   have:x.all[j].text=[40]:=by simpa using ht
   rw[this];rfl
  rw[this];exact If.f ⟨rfl,D+1,by simp,by omega,by omega,ou⟩
 |false=>
 rw[ht,if_neg ak]at kL
 cases Cz:(x.all[j].text==[41])with
 |false=>
  rw[Cz,if_neg ak]at kL;simp only[iF,kL]at ou;rw[if_neg ak]at ou;exact If.f ⟨rfl,D,by simp,by omega,by omega,by simpa using ou⟩
 |true=>
 rw[Cz,if_pos rfl]at kL;simp only[iF,kL,true_and]at ou;refine If.t ?_;rw[if_neg ak];refine V1.i (jK _ _ _ _ _ _ aj aj) ?_;refine V1.i (fa _ _ _) ?_;by_cases hz:D-1=0
 .rw[show(D-1==0)=true by simpa using hz];refine If.t (lF.i h1.at_ ?_);refine V1.i (jK _ _ _ _ _ _ aj aj) ?_;refine V1.i (v:=.bool ((j:Int)==(i':Int)-1)) (w':=w2) (by simp[go_sem,Bo]) ?_;rw[if_pos hz]at ou;refine⟨?_,aD.refl _ _⟩;rw[ou,US];congr 1
  rw[Bool.eq_iff_iff];simp
  omega
 .rw[show(D-1==0)=false by simpa using hz];rw[if_neg hz]at ou;exact If.f ⟨rfl,D-1,rfl,by omega,by omega,by simpa[Int.sub_eq_add_neg]using ou⟩
def M8:Tr->Bool
 |.ex ..=>true
 |_=>false
def gR(r:bL):Prop:=∀t ts o,r=.ok t ts o->M8 t=true
theorem gR.ok{t:Tr}{ts:LT}{o:Bool}(h:M8 t=true):gR (.ok t ts o):=λ_ _ _ e=>by cases e;exact h
theorem gR.fail{c:Int}:gR (.fail c):=λ_ _ _ e=>by cases e
theorem gR.bH:gR .bH:=λ_ _ _ e=>by cases e
theorem gR.bind{r:bL}{f:Tr->LT->Bool->bL}(h1:gR r)(h2:∀t ts o,M8 t=true->gR (f t ts o)):gR (r.bind f):=by
 cases r with
 |ok t ts o=>exact h2 _ _ _ (h1 _ _ _ rfl)
 |fail c=>exact gR.fail
 |bH=>exact gR.bH
theorem gR.any{r:bL}{f:Tr->LT->Bool->bL}(h2:∀t ts o,gR (f t ts o)):gR (r.bind f):=by
 cases r with
 |ok t ts o=>exact h2 _ _ _
 |fail c=>exact gR.fail
 |bH=>exact gR.bH
theorem gR.cI{q:By}{ts:LT}{f:LT->bL}(hf:∀ts,gR (f ts)):gR (aP q ts f):=by
 unfold aP;split
 .exact hf _
 .exact gR.fail
theorem gR.name{ts:LT}{f:By->LT->bL}(hf:∀nm ts,gR (f nm ts)):gR (cP ts f):=by
 unfold cP;split
 .exact hf _ _
 .exact gR.fail
theorem gR.open{d:Int}{f:Int->bL}(hf:∀d,gR (f d)):gR (bY d f):=by
 unfold bY;split
 .exact gR.fail
 .exact hf _
def CQ:Cl->Prop
 |.expr _|.bin ..|.operand|.post|.dq|.signed|.bracket _=>True
 |.exprL l _=>M8 l=true
 |.dy e _=>M8 e=true
 |.func b=>b=false
 |_=>False
theorem yJ:∀(n:Nat) (cl:Cl) (d:Int) (ts:LT),CQ cl->gR (run n cl d ts)
 |0,cl,d,ts,hs=>gR.bH
 |n+1,cl,d,ts,hs=>by
  have H:=yJ n
  cases cl<;>simp only[CQ]at hs<;>(try exact hs.elim)<;>(try subst hs)<;>simp only[run]
  all_goals repeat' (first
   |exact gR.fail
   |exact gR.bH
   |exact gR.ok rfl
   |exact gR.ok au
   |exact H _ _ _ (by first|trivial|exact rfl|assumption)
   |refine gR.open λ_=>?_
   |refine gR.name λ_ _=>?_
   |refine gR.cI λ_=>?_
   |refine gR.bind (H _ _ _ (by first|trivial|exact rfl|assumption)) λ_ _ _ _=>?_
   |refine gR.any λ_ _ _=>?_
   |split)
theorem pB:∀(l:LT) (i:Nat),i<l.length->(hd (l.drop (l.length-1))).kind=5->E5 (l.drop i)
 |[],i,h,_=>absurd h ak
 |[t],0,h,h5=>h5
 |[t],i+1,h,_=>absurd h ak
 |t::u::l,0,h,h5=>by
  have:=pB (u::l) 0 ak (by simpa using h5);simpa[E5]using this
 |t::u::l,i+1,h,h5=>by
  have:=pB (u::l) i (by simpa using h) (by simpa using h5);simpa using this
theorem M9{B b6 b7:Bool}{w:Wd}{R:ER}{X6:(VK)->Prop}{X7:Wd->(VK)->Prop}{g:VK}(h6:∀k:VK,k (.bool b6) w->X6 k)(h7:∀k:VK,k (.bool b7) w->X7 w k)
  (hg:g (.bool (B&&(b6||b7))) w):J1 (λk2=>Gd (.bool B) true (X6 k2) (k2 undef w)) (λMg w=>J1 (λk3=>Gd Mg false (X7 w k3) (k3 undef w)) (λa37 w=>
   J1 (λk4=>Gd (.bool B) true (v1 R (Pk Mg (.bool true) a37) w λze w=>k4 ze w) (k4 undef w)) (λze w=>v1 R (Pk (.bool B) ze (.bool false)) w g))):=by
 cases B with
 |false=>
  refine J1.go (Gd.ft ?_);refine J1.go (Gd.u ?_);refine J1.go (Gd.ft ?_);exact V1.bf am hg
 |true=>
  refine J1.go (Gd.tt (h6 _ ?_));refine J1.gd (c:=false) b7 (λ_ k hk=>h7 k hk) ?_;refine J1.go (Gd.tt ?_);refine V1.i (fm _ _ _) ?_;exact V1.i (v:=.bool (b6||b7)) (w':=w) am (by simpa using hg)
theorem g146{n:Nat}(ih:∀m,m<=n->pP m):AY (n+1) (λts d=>run (n+1) .simple d ts) 146:=by
 intro w x s d r bs k h hn hr aI S hp ht hl;refine MB ?_;unfold E8;have hb:BS w x bs:=⟨hp,ht,hl⟩;have c:CX w w x [bs] s d:=CX.mk' h;have lp:=c.lp;obtain⟨i0,line,h1,h2⟩:=h.raw;refine lF.i h1.at_ ?_;clear h1
 cases s with
 |bad cd=>
  refine oh ((ih n aj).post _ _ _ _ (.fail cd) h aj rfl bL.noConfusion) ?_ (NP.no (e:=_));rintro v w1 ⟨t,s',o,h',he,R,hv,K1⟩
  cases s' with
  |go ts=>cases he
  |bad XM=>
  replace c:=c.cx h' K1;obtain⟨i1,CR,h3,_⟩:=c.rs.raw;refine lF.i h3.at_ (If.t ?_);injection he with he;subst he;exact⟨_,_,_,_,_,_,_,.bad cd,false,c.rs,hr.symm,S.cx K1 hp lp,c.kk⟩
 |go ts=>
 replace hr:run (n+1) .simple d ts=r:=hr;simp only[run]at hr;refine oh ((ih n aj).post _ _ _ _ _ h aj rfl (aL hr aI)) ?_ (NP.no (e:=_));rintro v w1 ⟨t,s',o,h',he,R,⟨pv,rfl⟩,K1⟩;replace c:=c.cx h' K1;replace S:=S.cx K1 hp lp;obtain⟨i1,CR,h3,_⟩:=c.rs.raw;refine lF.i h3.at_ ?_;replace he:run n .post d ts=s'.res t o:=he;rw[he]at hr
 cases s' with
 |bad XM=>
  exact If.t ⟨_,_,_,_,_,_,_,.bad XM,false,c.rs,hr.symm,S,c.kk⟩
 |go bU=>
 replace hr:(match bB [61] bU&&!o&&(kindOf t==6||kindOf t==7)with
   |true=>(run n (.expr 0) d (bF bU)).bind λr ts _=>.ok (.st 2 [] t r .nil .nil .nil) ts false
   |false=>match !bB [61] bU&&!o&&kindOf t==8 with
    |true=>.ok (.st 3 [] .nil t .nil .nil .nil) bU false
    |false=>.fail 4)=r:=hr
 have hE:E5 ts:=by
  obtain⟨e,hi⟩:=h2;rw[e];exact pB _ _ hi x.e5
 obtain⟨pre,sS,ho⟩:=yE hE he;have hx:=yJ n .post d ts trivial _ _ _ he;obtain⟨kk,nn,tx,l,rr,ks,gs,ps,bd,rfl⟩:∃kk nn tx l rr ks gs ps bd,t=.ex kk nn tx l rr ks gs ps bd:=by
  cases t<;>first|exact⟨_,_,_,_,_,_,_,_,_,rfl⟩|cases hx
 refine If.f (ML (UR c.rs h2 sS) ?_ (NP.no (e:=_)));rintro _ w2 ⟨rfl,K2⟩;rw[←ho];replace c:=c.c0 K2;replace S:=S.c0 K2;replace R:=R.c0 K2;simp only[kindOf]at hr;refine c.sign [61] λw3 c K3=>?_;replace S:=S.c0 K3;replace R:=R.c0 K3;have CS:∀{w':Wd},aD [] w3 w'->∃b,pv=some ⟨b,0,none⟩/\∃cs,At w' b (.int .i64 kk::cs):=by
  intro w' K;obtain⟨b,line,lv,rv,kv,av,zd,bv,e,_,a,_⟩:=R.c0 K;unfold ptr at e;injection e with e;exact⟨b,e,_,a⟩
 obtain⟨b,rfl,cs,aK⟩:=CS (aD.refl _ _);clear CS;rw[show(Sg.go bU).is [61]=bB [61] bU from rfl];refine J1.gd (b:=bB [61] bU) (c:=true) (!o) (λ_ k hk=>V1.i am hk) ?_;refine V1.i (fP _ _ _) ?_;refine M9 (b6:=kk==6) (b7:=kk==7) (λk hk=>lF.i aK (V1.i (fa _ _ _) hk)) (λk hk=>lF.i aK (V1.i (fa _ _ _) hk)) ?_
 cases hc:(bB [61] bU&&!o&&(kk==6||kk==7))with
 |true=>
  simp only[hc]at hr;rw[and_eq_true,and_eq_true]at hc;have pL:=(lB (q:=[61]) (f:=λbU=>(run n (.expr 0) d bU).bind λr ts _=>.ok (.st 2 [] (.ex kk nn tx l rr ks gs ps bd) r .nil .nil .nil) ts false) hc.1.1).trans hr;refine If.t (c.cI [61] pL λ_ w4 c hr K4=>?_);refine(S.cx K4 hp lp).kO hl λw5 S K5=>?_;replace c:=c.st K5 hp ht;replace R:=(R.cx K4 lp).fr K5 al;refine S.MV hl R ⟨_,rfl⟩ λw6 S K6=>?_;replace c:=c.st K6 hp ht;refine c.call ((ih n aj).expr 0 aj) fU aj hr aI λv w7 t2 s7 o c hr R2 hv K7=>?_;refine(S.cx K7 hp lp).nC hl R2 hv λw8 S K8=>?_;replace c:=c.st K8 hp ht;exact⟨_,_,_,_,_,_,_,_,_,c.rs,fD hr,S,c.kk⟩
 |false=>
 simp only[hc]at hr;refine If.f (c.sign [61] λw4 c K4=>?_);replace S:=S.c0 K4;replace R:=R.c0 K4;replace aK:=K4.at aK ak;rw[show(Sg.go bU).is [61]=bB [61] bU from rfl];refine J1.gd (b:=bB [61] bU) (c:=false) o (λ_ k hk=>hk) ?_;refine V1.i (fm _ _ _) ?_;refine J1.gd (c:=false) (!(kk==8)) (λ_ k hk=>lF.i aK (V1.i (yI _ _ _) hk)) ?_;refine V1.i (fm _ _ _) ?_;have hc8:((bB [61] bU||o)||!(kk==8))=!(!bB [61] bU&&!o&&kk==8):=by
  cases bB [61] bU<;>cases o<;>rfl
 rw[hc8]
 cases lM:(!bB [61] bU&&!o&&kk==8)with
 |true=>
  simp only[lM]at hr;refine If.f (S.kO hl λw5 S K5=>?_);replace c:=c.st K5 hp ht;replace R:=R.fr K5 al;refine S.nC hl R ⟨_,rfl⟩ λw6 S K6=>?_;replace c:=c.st K6 hp ht;exact⟨_,_,_,_,_,_,_,.go bU,false,c.rs,hr.symm,S,c.kk⟩
 |false=>
  simp only[lM]at hr;refine If.t (c.fail 4 λ_ w5 c K5=>?_);exact⟨_,_,_,_,_,_,_,.bad 4,false,c.rs,hr.symm,S.cx K5 hp lp,c.kk⟩
theorem Be(n:Nat)(d:Int)(ts:LT):run (n+1) .stmt d ts=
  if bB mw ts=true then run n .kE d ts
  else if bB bP ts=true then(run n (.func true) d ts).bind λr ts _=>match r with
   |.cons f (.cons nm .nil)=>.ok (.st 2 [] nm f .nil .nil .nil) ts false
   |_=>.bH
  else if bB oL ts=true then(run n (.inner oL) d ts).bind λa ts _=>aP cO ts λts=>.ok (.st 4 [] .nil .nil .nil a .nil) ts false
  else if bB my ts=true then(run n (.expr 0) d (bF ts)).bind λr ts _=>(run n (.inner oL) d ts).bind λa ts _=>aP cO ts λts=>.ok (.st 5 [] .nil r .nil a .nil) ts false
  else if bB wm ts=true then cP (bF ts) λnm ts=>aP [61] ts λts=>(run n (.expr 0) d ts).bind λr ts _=>aP [44] ts λts=>
     (run n (.expr 0) d ts).bind λt2 ts _=>(run n (.inner oL) d ts).bind λa ts _=>aP cO ts λts=>.ok (.st 7 nm .nil r t2 a .nil) ts false
  else if bB BB ts=true then(run n .branch d (bF ts)).bind λs ts _=>aP cO ts λts=>.ok s ts false
  else if bB gg ts=true then match dI (hd (bF ts))with
     |true=>.ok (.st 8 [] .nil .nil .nil .nil .nil) (bF ts) false
     |false=>(run n (.expr 0) d (bF ts)).bind λr ts _=>match dI (hd ts)with
      |true=>.ok (.st 8 [] .nil r .nil .nil .nil) ts false
      |false=>.fail 4
  else if bB jt ts=true then .ok (.st 9 [] .nil .nil .nil .nil .nil) (bF ts) false
  else if bB mz ts=true then(run n (.inner mz) d ts).bind λa ts _=>OR n d (λnm b ts=>aP cO ts λts=>.ok (.st 10 nm .nil .nil .nil a b) ts false) ts
  else run n .simple d ts:=by
 have hq:∀q,bB q ts=((hd ts).kind==4&&decide ((hd ts).text=q)):=by
  intro q;simp only[bB,fI,contains_cons,contains_nil,Bool.or_false];congr 1
  rw[Bool.eq_iff_iff];simp
 simp only[hq];simp only[run]
 cases hk:((hd ts).kind==4)with
 |false=>simp only[Bool.false_and,false_eq_true,if_false]
 |true=>
  simp only[Bool.true_and,decide_eq_true_eq];rfl
set_option maxHeartbeats 2000000 in
theorem g84{n:Nat}(ih:∀m,m<=n->pP m)(w:Wd)(x:Rp)(ts:LT)(d:Int)(r:bL)(h:RS w x (.go ts) d)(hn:n+1<=aX)(hr:run (n+1) .stmt d ts=r)(aI:r≠.bH):
  Calls prog 84 #[ptr x.p] w (aZ (λv w'=>AZ w x d r v w') NP):=by
 refine s84 ?_;unfold XC;rw[Be]at hr;have c0:CX w w x [] (.go ts) d:=CX.mk' h;refine c0.copy λb w1 c a3 hb K1=>?_;refine lD.i a3 ?_;refine V1.i ah ?_;refine V1.new (zF _ _) λbs w2 N=>?_;have a2:At w2 bs [.int .i64 0,.int .i64 ((Sg.go ts).hd x).line,str [],.pointer none,.pointer none,.pointer none,.slice none 0 0,.slice none 0 0]:=by
  have:=N.at_;simpa[cells,str]using this
 have lp0:=c.lp;have lt0:=c.lt;have z1:=c.kk.size;have gbs:=N.ge;have c1:=c.c0 N.aA;have z2:=c1.kk.size;have hB:BS w2 x bs:=⟨by omega,by omega,a2.lt⟩;have hl:=hB.lt;have hp:=hB.p;have ht:=hB.t;have S:ST w2 w2.heap.size bs 0 [] .nil .nil .nil .nil .nil:=⟨_,_,_,_,_,_,a2,jl,jl,jl,fy,fy⟩;replace c:CX w2 w2 x [bs] (.go ts) d:=CX.mk' c1.rs;clear a2 N a3 h;have lp:=c.lp;have ja:∀{w':Wd}{s':Sg}{k:Int}{nm:By}{l r1 t a b:Tr}{o:Bool},CX w2 w' x [bs] s' d->r=s'.res (.st k nm l r1 t a b) o->ST w' w2.heap.size bs k nm l r1 t a b->AZ w x d r (ptr bs) w':=by
  intro w' s' k nm l r1 t a b o c hr S;exact⟨k,nm,l,r1,t,a,b,s',o,bs,rfl,c.rs,hr,S.rep z2 aj,(c1.back c aj).kk⟩
 have iv:∀{w':Wd}{s':Sg}{k:Int}{nm:By}{l r1 t a b:Tr}{o:Bool},CX w2 w' x [bs] s' d->s'.run (λts=>.ok (.st k nm l r1 t a b) ts o)=r->ST w' w2.heap.size bs k nm l r1 t a b->AZ w x d r (ptr bs) w':=
  λc hr S=>ja c (fD hr) S
 refine J0.go ?_;refine c.iO mw (λhq w3 c K3=>?_) λhq w3 c K3=>?_
 .rw[if_pos hq]at hr
  cases n with
  |zero=>exact absurd hr.symm aI
  |succ n=>
  refine If.t (Mq (c138 (λm hm=>ih m aj) aj c hB (S.cx K3 hp lp) hr aI) ?_ (NP.no (e:=_)));rintro _ w4 ⟨s4,k,nm,r1,o,c,hr,S⟩;exact ja c hr S
 rw[if_neg (by rw[hq];simp)]at hr;replace S:=S.cx K3 hp lp;refine If.f (c.lC bP (λhq w4 c K4=>?_) λhq w4 c K4=>?_)
 .rw[if_pos hq]at hr;refine If.t ((S.c0 K4).kO hl λw5 S K5=>?_);replace c:=c.st K5 hp ht;refine yk ((ih n aj).func true _ _ _ _ _ c.rs aj rfl (aL hr aI)) ?_ (NP.no (e:=_));rintro _ w6 ⟨f,nm,s6,o,q,e,rfl,h6,he6,Rf,Rq,K6⟩;have z5:=c.kk.size;replace c:=c.cx h6 K6;replace hr:=run_bind (s:=.go ts) hr he6;refine V1.i ah ?_;refine V1.i ah ?_;refine(S.cx K6 hp lp).nC hl (Rf.fit z5 ak) ⟨_,rfl⟩ λw7 S K7=>?_;replace c:=c.st K7 hp ht;refine S.MV hl ((Rq.fit (Y:=[]) z5 ak).fr K7 al) ⟨_,rfl⟩ λw8 S K8=>?_;exact iv (c.st K8 hp ht) hr S
 rw[if_neg (by rw[hq];simp)]at hr;replace S:=S.c0 K4;refine If.f (c.lC oL (λhq w5 c K5=>?_) λhq w5 c K5=>?_)
 .rw[if_pos hq]at hr;refine If.t ((S.c0 K5).kO hl λw6 S K6=>?_);replace c:=c.st K6 hp ht;refine c.call (s:=.go ts) ((ih n aj).inner oL) mX aj hr aI λv w7 a s7 o c hr R hv K7=>?_;refine(S.cx K7 hp lp).vh hl R hv λw8 S K8=>?_;replace c:=c.st K8 hp ht;refine c.cI cO hr λ_ w9 c hr K9=>?_;exact iv c hr (S.cx K9 hp lp)
 rw[if_neg (by rw[hq];simp)]at hr;replace S:=S.c0 K5;refine If.f (c.iO my (λhq w6 c K6=>?_) λhq w6 c K6=>?_)
 .rw[if_pos hq]at hr;refine If.t ((S.cx K6 hp lp).kO hl λw7 S K7=>?_);replace c:=c.st K7 hp ht;refine c.call (s:=.go (bF ts)) ((ih n aj).expr 0 aj) fU aj hr aI λv w8 t s8 o c hr R hv K8=>?_;refine(S.cx K8 hp lp).nC hl R hv λw9 S K9=>?_;replace c:=c.st K9 hp ht;refine c.call ((ih n aj).inner oL) mX aj hr aI λv eo a UF o c hr R hv dE=>?_;refine(S.cx dE hp lp).vh hl R hv λfB S dz=>?_;replace c:=c.st dz hp ht;refine c.cI cO hr λ_ gz c hr dw=>?_;exact iv c hr (S.cx dw hp lp)
 rw[if_neg (by rw[hq];simp)]at hr;replace S:=S.cx K6 hp lp;refine If.f (c.iO wm (λhq w7 c K7=>?_) λhq w7 c K7=>?_)
 .rw[if_pos hq]at hr;replace hr:(Sg.go (bF ts)).run (λts=>cP ts λnm ts=>aP [61] ts λts=>(run n (.expr 0) d ts).bind λr ts _=>aP [44] ts λts=>
     (run n (.expr 0) d ts).bind λt2 ts _=>(run n (.inner oL) d ts).bind λa ts _=>aP cO ts λts=>.ok (.st 7 nm .nil r t2 a .nil) ts false)=r:=hr
  refine If.t ((S.cx K7 hp lp).kO hl λw8 S K8=>?_);replace c:=c.st K8 hp ht;refine c.name hr λnm w9 c hr K9=>?_;refine(S.cx K9 hp lp).AX hl λeo S dE=>?_;replace c:=c.st dE hp ht;refine c.cI [61] hr λ_ fB c hr dz=>?_;replace S:=S.cx dz hp lp;refine c.call ((ih n aj).expr 0 aj) fU aj hr aI λv gz t Ll o c hr R hv dw=>?_;refine(S.cx dw hp lp).nC hl R hv λlZ S iA=>?_;replace c:=c.st iA hp ht;refine c.cI [44] hr λ_ lu c hr mO=>?_;replace S:=S.cx mO hp lp;refine c.call ((ih n aj).expr 0 aj) fU aj hr aI λv sE t2 OQ o c hr R hv iU=>?_;refine(S.cx iU hp lp).Uw hl R hv λwV S jC=>?_;replace c:=c.st jC hp ht;refine c.call ((ih n aj).inner oL) mX aj hr aI λv En a s17 o c hr R hv nR=>?_
  refine(S.cx nR hp lp).vh hl R hv λEs S FY=>?_;replace c:=c.st FY hp ht;refine c.cI cO hr λ_ WW c hr xg=>?_;exact iv c hr (S.cx xg hp lp)
 rw[if_neg (by rw[hq];simp)]at hr;replace S:=S.cx K7 hp lp;refine If.f (c.iO BB (λhq w8 c K8=>?_) λhq w8 c K8=>?_)
 .rw[if_pos hq]at hr;refine If.t (CL (AY.go (ih n aj).branch aj c hB (S.cx K8 hp lp) rfl (aL hr aI)) ?_ (NP.no (e:=_)));rintro _ w9 ⟨s9,k,nm,l,r1,t,a,b,o,c,he,S⟩;replace hr:=run_bind (s:=.go (bF ts)) hr he;refine c.cI cO hr λ_ eo c hr dE=>?_;exact iv c hr (S.cx dE hp lp)
 rw[if_neg (by rw[hq];simp)]at hr;replace S:=S.cx K8 hp lp;refine If.f (c.iO gg (λhq w9 c K9=>?_) λhq w9 c K9=>?_)
 .rw[if_pos hq]at hr;refine If.t ((S.cx K9 hp lp).kO hl λeo S dE=>?_);replace c:=c.st dE hp ht;refine J0.go ?_;refine c.ends λfB c dz=>?_;replace S:=S.c0 dz;refine V1.i (v:=.bool (!(dI (hd (bF ts))))) (w':=fB) (by simp[go_sem,Sg.ends]) ?_
  cases he:dI (hd (bF ts))with
  |true=>
   simp only[he]at hr;refine If.f (c.ends λgz c dw=>?_);refine V1.i (v:=.bool (!(dI (hd (bF ts))))) (w':=gz) (by simp[go_sem,Sg.ends]) ?_;rw[he];exact If.f (ja (s':=.go (bF ts)) (o:=false) c hr.symm (S.c0 dw))
  |false=>
   simp only[he]at hr;refine If.t (c.call (s:=.go (bF ts)) ((ih n aj).expr 0 aj) fU aj hr aI λv gz t Ll o c hr R hv dw=>?_);refine(S.cx dw hp lp).nC hl R hv λlZ S iA=>?_;replace c:=c.st iA hp ht;refine c.ends λlu c mO=>?_;replace S:=S.c0 mO
   cases Ll with
   |bad cd=>
    refine V1.bf (by simp[go_sem,Sg.ends]) ?_;exact If.f (ja (s':=.bad cd) (o:=false) c hr.symm S)
   |go dA=>
    refine V1.i (v:=.bool (!(dI (hd dA)))) (w':=lu) (by simp[go_sem,Sg.ends]) ?_;replace hr:(match dI (hd dA)with|true=>.ok (.st 8 [] .nil t .nil .nil .nil) dA false|false=>.fail 4)=r:=hr
    cases FG:dI (hd dA)with
    |true=>
     simp only[FG]at hr;exact If.f (ja (s':=.go dA) (o:=false) c hr.symm S)
    |false=>
     simp only[FG]at hr;refine If.t (c.fail 4 λ_ sE c iU=>?_);exact ja (s':=.bad 4) (o:=false) c hr.symm (S.cx iU hp lp)
 rw[if_neg (by rw[hq];simp)]at hr;replace S:=S.cx K9 hp lp;refine If.f (c.iO jt (λhq eo c dE=>?_) λhq eo c dE=>?_)
 .rw[if_pos hq]at hr;refine If.t ((S.cx dE hp lp).kO hl λfB S dz=>?_);exact ja (s':=.go (bF ts)) (o:=false) (c.st dz hp ht) hr.symm S
 rw[if_neg (by rw[hq];simp)]at hr;replace S:=S.cx dE hp lp;refine If.f (c.lC mz (λhq fB c dz=>?_) λhq fB c dz=>?_)
 .rw[if_pos hq]at hr;refine If.t ((S.c0 dz).kO hl λgz S dw=>?_);replace c:=c.st dw hp ht;refine c.call (s:=.go ts) ((ih n aj).inner mz) mX aj hr aI λv lZ a Qg o c hr R hv iA=>?_;refine(S.cx iA hp lp).vh hl R hv λlu S mO=>?_;replace c:=c.st mO hp ht;refine MA (c145 ih aj c hB S hr aI) ?_ (NP.no (e:=_));rintro _ sE ⟨OQ,nm,b,c,hr,S⟩;refine c.cI cO hr λ_ wV c hr jC=>?_;exact iv c hr (S.cx jC hp lp)
 rw[if_neg (by rw[hq];simp)]at hr;refine If.f (MC (AY.go (ih n aj).simple aj c hB (S.c0 dz) (s:=.go ts) hr aI) ?_ (NP.no (e:=_)));rintro _ gz ⟨Ll,k,nm,l,r1,t,a,b,o,c,he,S⟩;exact ja c he S
def B0(K:FuncId)(args:LV)(sh:Va->Prop):Prop:=∀(w:Wd) (x:Rp) (cd d:Int),RS w x (.bad cd) d->Calls prog K (ptr x.p::args).toArray w (aZ (λv w'=>RS w' x (.bad cd) d/\sh v/\aD [x.p] w w') NP)
theorem B0.rq{cl:Cl}{K:FuncId}{args:LV}{mk:Va->Md}{sh:Va->Prop}(H:B0 K args sh)(hm:∀(lo:Nat) (w':Wd) (v:Va),aU (Fr lo []) w' .hole (mk v)):sX 0 cl K args mk sh:=by
 intro w x s d r h hn hr aI
 cases s with
 |go ts=>exact absurd hr.symm aI
 |bad cd=>
  refine(H w x cd d h).mono ?_;intro e w' h
  cases e with
  |returned v=>exact⟨.hole,.bad cd,false,h.1,hr.symm,hm _ w' v,h.2.1,h.2.2⟩
  |panicked=>exact h.elim
  |outgrown=>exact h.elim
theorem B0.go{K:FuncId}{args:LV}{sh:Va->Prop}(H:B0 K args sh)(AW:bZ K){w0 w:Wd}{x:Rp}{M:List Nat}{cd d:Int}{KK:VK}{e:EK}(c:CX w0 w x M (.bad cd) d)
  (hk:∀v w',CX w0 w' x M (.bad cd) d->sh v->aD [x.p] w w'->KK v w'):Cf prog K (ptr x.p::args).toArray w KK e:=by
 refine AW (H _ _ _ _ c.rs) ?_ (NP.no (e:=_));rintro v w' ⟨h,hv,K1⟩;exact hk v w' (c.cx h K1) hv K1
theorem b47:B0 47 [] nB:=by
 intro w x cd d h;refine Xx ?_;unfold Ud;refine J1.go ?_;refine L1.g (λm v w'=>CX w w' x [] (.bad cd) d/\nB v) 0 ⟨CX.mk' h,⟨_,_,_,rfl⟩⟩ ?_;rintro m v w' K ⟨c,sv⟩ hK;refine c.ends λw1 c K1=>?_;refine V1.bf (by simp[go_sem,Sg.ends]) ?_;exact If.f ⟨c.rs,sv,c.kk⟩
theorem Na(q:By):B0 140 [str q] nB:=by
 intro w x cd d h;refine Ms ?_;unfold E4;have c:CX w w x [] (.bad cd) d:=CX.mk' h;refine c.sign q λw1 c K1=>?_;refine V1.bt (by simp[go_sem,Sg.is]) ?_;exact If.t (c.fail 4 λ_ w2 c K2=>⟨c.rs,⟨_,_,_,rfl⟩,c.kk⟩)
theorem Nb:B0 211 [] fV:=by
 intro w x cd d h;refine MM ?_;unfold Fb;have c:CX w w x [] (.bad cd) d:=CX.mk' h;refine c.copy λb w1 c a3 hb K1=>?_;refine lD.i a3 ?_;refine V1.i ah ?_;refine yp c.kk.size jl jl fy fy rR fy λe w2 K2 he aE _=>?_;replace c:=c.c0 K2;replace a3:=K2.at a3 ak;refine J1.go ?_;refine lD.i a3 (V1.i (fa _ _ _) ?_);rw[show(((Sg.bad cd).hd x).kind==1)=false by rw[jw];rfl];refine If.f (lD.i a3 (V1.i (fa _ _ _) ?_));rw[show(((Sg.bad cd).hd x).kind==2)=false by rw[jw];rfl];refine J1.go (Gd.ff (lD.i a3 (V1.i (fa _ _ _) ?_)));rw[show(((Sg.bad cd).hd x).kind==3)=false by rw[jw];rfl];refine V1.i ah ?_
 refine If.f (c.take kF λw3 c K3=>If.f (c.take gG λw4 c K4=>If.f (c.take eZ λw5 c K5=>If.f (c.sign [40] λw6 c K6=>If.f (c.sign bP λw7 c K7=>If.f (c.sign [123] λw8 c K8=>If.f (c.fail 4 λ_ w9 c K9=>?_)))))));exact⟨c.rs,⟨_,rfl⟩,c.kk⟩
theorem Fw:B0 187 [] fV:=by
 intro w x cd d h;refine MJ ?_;unfold Fa;have c:CX w w x [] (.bad cd) d:=CX.mk' h;refine Nb.go CM c λv w1 c hv K1=>?_;refine L2.g (λm v _ w'=>CX w w' x [] (.bad cd) d/\fV v) 0 ⟨c,hv⟩ ?_;rintro m v vj w1 K ⟨c,hv⟩ hK;obtain⟨i,line,h1,h2⟩:=c.rs.raw;refine lF.i h1.at_ ?_;refine V1.bf (by simp[go_sem,Sg.dS]) ?_;exact If.f ⟨c.rs,hv,c.kk⟩
theorem Nd:B0 186 [] fV:=by
 intro w x cd d h;refine MI ?_;unfold E9;have c:CX w w x [] (.bad cd) d:=CX.mk' h;refine c.copy λb w1 c a1 hb _=>?_;refine c.sign lH λw2 c K2=>?_;replace a1:=K2.at a1 ak;refine V1.i ah ?_;refine andNot [45] c a1 λw3 c a1 _=>?_;refine andNot [35] c a1 λw4 c a1 _=>?_;refine andNot [126] c a1 λw5 c a1 _=>?_;exact If.t (Fw.go oh c λv w6 c hv K=>⟨c.rs,hv,c.kk⟩)
theorem Nf(a:Int):B0 142 [.int .i64 a] fV:=by
 intro w x cd d h;refine Mv ?_;unfold E6;have c:CX w w x [] (.bad cd) d:=CX.mk' h;refine Nd.go ym c λv w1 c hv K1=>?_;refine J1.go ?_;refine L1.g (λm v w'=>CX w w' x [] (.bad cd) d/\fV v) 0 ⟨c,hv⟩ ?_;rintro m v w1 K ⟨c,hv⟩ hK;obtain⟨i,line,h1,h2⟩:=c.rs.raw;refine lF.i h1.at_ ?_;refine V1.bf (by simp[go_sem,Sg.dS]) ?_;refine J1.go (Gd.ft ?_);refine V1.i ah ?_;exact If.f ⟨c.rs,hv,c.kk⟩
theorem pP.zero:pP 0:=by
 refine⟨b47.rq λ_ _ _=>trivial,λq=>(Na q).rq λ_ _ _=>trivial,λa _=>(Nf a).rq λ_ _ _=>trivial,Nd.rq λ_ _ _=>trivial,Fw.rq λ_ _ _=>trivial,Nb.rq λ_ _ _=>trivial,?_,?_,?_,?_⟩
 .intro named w x ts d r h hn hr aI;exact absurd hr.symm aI
 .intro w x ts d r h hn hr aI;exact absurd hr.symm aI
 .intro w x s d r bs k h hn hr aI S hp ht hl
  cases s with
  |go ts=>exact absurd hr.symm aI
  |bad cd=>
  refine My ?_;unfold E7;have c:CX w w x [bs] (.bad cd) d:=CX.mk' h;have lp:=c.lp;refine S.kO hl λw1 S K1=>?_;replace c:=c.st K1 hp ht;refine(Nf 0).go fU c λv w2 c hv K2=>?_;refine(S.cx K2 hp lp).nC hl nb hv λw3 S K3=>?_;replace c:=c.st K3 hp ht;refine(Na qs).go mX c λv w4 c hv K4=>?_;refine(S.cx K4 hp lp).vh hl pr hv λw5 S K5=>?_;replace c:=c.st K5 hp ht;refine c.next λw6 c K6=>?_;replace S:=S.c0 K6;unfold dm;refine V1.i ah ?_;refine c.take ew λw7 c K7=>?_;show If (.bool false) _ _
  refine If.f (c.sign dU λw8 c K8=>?_);show If (.bool false) _ _
  exact If.f ⟨_,_,_,_,_,_,_,.bad cd,false,c.rs,hr.symm,(S.cx K7 hp lp).c0 K8,c.kk⟩
 .intro w x s d r bs k h hn hr aI S hp ht hl
  cases s with
  |go ts=>exact absurd hr.symm aI
  |bad cd=>
  refine MB ?_;unfold E8;have c:CX w w x [bs] (.bad cd) d:=CX.mk' h;obtain⟨i0,line,h1,h2⟩:=h.raw;refine lF.i h1.at_ ?_;refine Fw.go oh c λv w1 c hv K1=>?_;obtain⟨i1,CR,h3,_⟩:=c.rs.raw;refine lF.i h3.at_ (If.t ?_);exact⟨_,_,_,_,_,_,_,.bad cd,false,c.rs,hr.symm,S.cx K1 hp c.lp,c.kk⟩
theorem ue:∀n,(∀m,m<=n->pP m)
 |0,m,hm=>by
  obtain rfl:m=0:=by omega
  exact pP.zero
 |n+1,m,hm=>by
  have ih:=ue n;rcases lt_or_ge n m with h|h
  .obtain rfl:m=n+1:=by omega
   exact⟨g47 ih,g140 ih,g142 ih,g186 ih,g187 ih,g211 ih,g139 ih,g84 ih,g144 ih,g146 ih⟩
  .exact ih m h
def PQr(w:Wd)(r:bL)(v:Va)(w':Wd):Prop:=match r with
 |.ok t _ _=>∃lv,v=.tuple #[lv,iM 0 0,.bool false]/\aU (Fr w.heap.size []) w' t (.L lv)
 |.fail c=>∃line,v=.tuple #[.slice none 0 0,iM c line,.bool true]
 |.bH=>False
theorem uf:∀ts,TG ts->(hd (ts.drop (ts.length-1))).kind=5
 |[t],h=>h
 |t::u::ts,h=>by
  have:=uf (u::ts) h.2.2;simpa using this
theorem c25(w:Wd)(s:By)(hs:s.length<=60000)(n:Nat)(hn:n<=aX)(r:bL)(hr:dC n s=r)(aI:r≠.bH):Calls prog 25 #[str s] w (aZ (λv w'=>PQr w r v w'/\aD [] w w') NP):=by
 refine s25 ?_;unfold Xt;refine V1.new (ux _) λb1 w1 N1=>?_;have z1:=N1.aA.size;have g1:=N1.ge;refine Tv (c46 w1 s hs) ?_ (NP.no (e:=_));rintro v w2 ⟨hT,K2⟩;have z2:=K2.size;have a1:=K2.at N1.at_ ak;have kk:=N1.aA.trans K2;unfold dC at hr;generalize Ez:jL s=lx at*;have l1:=N1.lt
 cases lx with
 |fail c=>
  obtain⟨hc,line,rfl⟩:=hT;subst hr;refine V1.i ah ?_;refine V1.i ah ?_;refine V1.new (ux _) λb3 w3 N3=>?_;have g3:=N3.ge;refine U1.zh (c:=c) (l:=line) N3.at_ λw4 U4=>?_;refine lD.i U4.at_ ?_;refine V1.bt (by simp[go_sem,hc]) ?_;refine If.t ?_;have KD:aD [] w4 w4.drew:=(aD.refl _ _).drew;refine⟨λw'=>At w' b3 (E3 c line),KD.at U4.at_ ak,Xw.i (iM c line) (λw' hw=>jv hw) ?_⟩;have k3:aD [] w w4.drew:=((kk.trans N3.aA).then U4.aA ak al).trans KD;have a4:=KD.at (U4.aA.at (N3.aA.at a1 ak) al) ak;refine U1.zh a4 λw5 U5=>?_;exact⟨_,jv U5.at_,⟨line,rfl⟩,k3.then U5.aA ak al⟩
 |ok ts=>
  obtain⟨bt,ct,rfl,ht,KB,hbt,lbt,Ad⟩:=hT;have hr:kG n ts=r:=hr;obtain⟨hTG,hlen,_⟩:=tX Ez;refine V1.i ah ?_;refine V1.i ah ?_;refine V1.new (ux _) λb3 w3 N3=>?_;have g3:=N3.ge;have z3:=N3.aA.size;refine U1.zh (c:=0) (l:=0) N3.at_ λw4 U4=>?_;have z4:=U4.size;refine lD.i U4.at_ ?_;refine V1.bf am ?_;refine If.f ?_;have k4:aD [] w2 w4:=N3.aA.then U4.aA ak al
  refine V1.i ah ?_;refine V1.new (G5 _ _) λp w5 N5=>?_;have g5:=N5.ge;have z5:=N5.aA.size;have a5:=N5.at_;simp only[cells,toList_toArray]at a5;have h5:At w5 p [.slice (some ⟨bt,0,none⟩) ts.length ct,.int .i64 0,.int .i64 0,.bool false,.int .i64 0,.int .i64 0]:=by simpa using a5
  have XN:cW w5 bt 0 ts:=(ht.aA k4 ak).aA N5.aA ak;have uQ:1<=ts.length:=by
   cases ts with
   |nil=>exact absurd rfl Ad
   |cons=>simp
  obtain⟨x,rfl,hRS⟩:∃x:Rp,x.p=p/\RS w5 x (.go ts) 0:=⟨⟨p,bt,ct,ts,by omega,KB,⟨uQ,by omega⟩,uf ts hTG⟩,rfl,⟨⟨0,0,h5,rfl,uQ⟩,XN,by show bt<_;omega,by omega,by omega,λ_=>by omega⟩⟩;clear h5 XN a5;unfold kG at hr;have hb:run n .block 0 ts≠.bH:=by
   intro h;rw[h]at hr;exact aI hr.symm
  refine AU ((ue n n (le_refl _)).block w5 x (.go ts) 0 _ hRS hn rfl hb) ?_ (NP.no (e:=_));rintro lv w6 ⟨t,s2,o,Ng,he,UT,Xl,K6⟩;have he:run n .block 0 ts=s2.res t o:=he;rw[he]at hr;refine J0.cut (λw'=>∃s3,RS w' x s3 0/\aD [x.p] w6 w'/\r=s3.res t false) ?_ ?_
  .obtain⟨i0,ln,h6,p6⟩:=Ng.ex;refine lF.i h6 ?_;refine V1.i (v:=.bool (!s2.dS)) (w':=w6) am ?_
   cases s2 with
   |bad c=>
    rw[show(!(Sg.bad c).dS)=false from rfl];refine J1.go (Gd.ft ?_);refine V1.bf am ?_;exact If.f ⟨.bad c,Ng,aD.refl _ _,hr.symm⟩
   |go bU=>
    have hr:(match(hd bU).kind==5 with|true=>bL.ok t bU false|false=>.fail 4)=r:=hr;rw[show(!(Sg.go bU).dS)=true from rfl];refine J1.go (Gd.tt (sU (F9 Ng) ?_ (NP.no (e:=_))));rintro _ w7 ⟨rfl,K7⟩;refine V1.i (v:=.int .i64 (hd bU).kind) (w':=w7) (by simp[go_sem,dm,Sg.hd]) ?_;refine V1.i (yI _ _ _) ?_;refine V1.i (v:=.bool (!((hd bU).kind==5))) (w':=w7) am ?_
    cases XO:((hd bU).kind==5)with
    |true=>
     rw[XO]at hr;exact If.f ⟨.go bU,Ng.new K7,K7.mono ak,hr.symm⟩
    |false=>
     rw[XO]at hr;refine If.t (sW (c49 4 (Ng.new K7)) ?_ (NP.no (e:=_)));rintro _ w8 ⟨hR8,K8⟩;exact⟨_,hR8,(K7.mono ak).trans K8,hr.symm⟩
  clear hr he;rintro w7 ⟨s3,hR7,K7,hr⟩;obtain⟨i1,ln,h7,_⟩:=hR7.ex;have z6:=K6.size;have z7:=K7.size;have l4:=U4.at_.lt;have k5:aD [] w w5:=(kk.trans k4).trans N5.aA;have k6:aD [] w w6:=k5.then K6 ak al
  have k7:aD [] w w7:=k6.then K7 ak al
  have a7:At w7 b1 _:=K7.at (K6.at (N5.aA.at (k4.at a1 ak) ak) al) al;refine lF.i h7 ?_
  cases s3 with
  |bad c=>
   refine If.t ?_;have KD:aD [] w7 w7.drew:=(aD.refl _ _).drew;refine⟨λw'=>At w' x.p _,KD.at h7 ak,⟨_,λw' _=>Nc.p _ w',Xw.i _ (λw _=>xZ rfl) (Xw.i (iM c ln) (λw' hw=>Bu w' x.p 4 _ _ (by rw[hw.cell];rfl) (by rw[hw.cell];rfl)) ?_)⟩⟩;refine U1.zh (KD.at a7 ak) λw8 U8=>?_;subst hr;exact⟨_,jv U8.at_,⟨ln,rfl⟩,(k7.trans KD).then U8.aA ak al⟩
  |go bU=>
   refine If.f ?_;refine V1.i (v:=iM 0 0) (w':=w7) (by simp[go_sem,iM]) ?_;refine U1.zh a7 λw8 U8=>?_;subst hr;refine⟨_,jv U8.at_,⟨lv,rfl,?_⟩,k7.then U8.aA ak al⟩
   .have l5:=N5.lt;refine aU.aA U8.aA (λq hq _=>⟨by simp;have:=hq.1;omega,by have:=hq.1;omega,by simp⟩) _ _ (aU.aA K7 (G:=Fr w5.heap.size []) (λq hq _=>⟨by simp;have:=hq.1;omega,hq⟩) _ _ UT)
theorem c228(w:Wd)(x:BitVec 64):Calls prog 228 #[uV x,.int .u64 1] w (aZ (λv w'=>v=uV (x+1)/\w'=w) NP):=by
 refine TT ?_;unfold Mb;refine L2.i (λu v w'=>w'=w/\∃a t:BitVec 64,u=uV a/\v=uV t/\a+t=x+1/\(t=0\/∃k,k<64/\t=BitVec.twoPow 64 k)) (λu v _=>match v with|.int _ n=>if n=0 then 0 else 18446744073709551616-n.toNat|_=>0)
  ⟨rfl,x,1,rfl,rfl,rfl,.inr ⟨0,by omega,rfl⟩⟩ ?_
 rintro u v w' ⟨rfl,a,t,rfl,rfl,hs,ht⟩;refine V1.i (T2 _ _) ?_;rcases ht with rfl|⟨k,hk,ht⟩
 .refine If.f ⟨?_,rfl⟩;rw[←hs];simp
 have hp:t.toNat=2^k:=by
  subst ht;rw[BitVec.toNat_twoPow,Nat.mod_eq_of_lt (Nat.pow_lt_pow_right aj hk)]
 have hp0:0<2^k:=Nat.pos_of_ne_zero ak;have bO:=t.isLt;have aI:(t==0)=false:=by
  rw[beq_eq_false_iff_ne];intro h;rw[h]at hp;simp at hp
  omega
 rw[aI];refine If.t ?_;refine V1.i (TY _ _ _) ?_;refine V1.i (TZ _ _ _) ?_;refine V1.i (T1 _ _) ?_;have hm:(t.toNat:Int)≠0:=by omega
 rcases yd a t k ht with⟨h1,h2⟩|⟨h1,h2⟩
 .rw[h1,h2];refine⟨⟨rfl,a+t,0,rfl,rfl,by rw[←hs];simp,.inl rfl⟩,?_⟩;show(if((0:BitVec 64).toNat:Int)=0 then 0 else 18446744073709551616-((0:BitVec 64).toNat:Int).toNat)<(if(t.toNat:Int)=0 then 0 else 18446744073709551616-(t.toNat:Int).toNat)
  rw[if_neg hm];simp
  omega
 .rw[h1];refine⟨⟨rfl,a^^^t,t+t,rfl,rfl,by rw[h2,hs],?_⟩,?_⟩
  .by_cases vp:k=63
   .left
    subst vp;subst ht;decide
   .right
    refine⟨k+1,by omega,?_⟩;apply BitVec.eq_of_toNat_eq
    rw[BitVec.toNat_add,hp,BitVec.toNat_twoPow];congr 1
    omega
  .show(if((t+t:BitVec 64).toNat:Int)=0 then 0 else 18446744073709551616-((t+t:BitVec 64).toNat:Int).toNat)<(if(t.toNat:Int)=0 then 0 else 18446744073709551616-(t.toNat:Int).toNat)
   rw[if_neg hm];have:=BitVec.toNat_add t t;split
   .omega
   .rename_i h
    have h4:(t+t).toNat=2*t.toNat:=by
     rw[this]at h⊢;by_cases vp:k=63
     .subst vp;rw[hp]at h;exact absurd ay h
     .have:t.toNat*2=2^(k+1):=by rw[hp,Nat.pow_succ]
      have:2^(k+1)<=2^63:=Nat.pow_le_pow_right aj aj;omega
    omega
theorem c208(w:Wd)(x:BitVec 64):Calls prog 208 #[uV x] w (aZ (λv w'=>v=uV (-x)/\w'=w) NP):=by
 refine TP ?_;unfold LW;refine V1.i (T0 _ _) ?_;refine Mc (c228 _ _) ?_ (NP.no (e:=_));rintro _ w' ⟨rfl,rfl⟩;exact⟨by rw[BitVec.neg_eq_not_add];rfl,rfl⟩
theorem yK(w:Wd)(n:Int):(Go.convert 2 205 (.int .i64 n)).run prog w=.ok (uV (BitVec.ofInt 64 n)) w:=by
 have:(Go.convert 2 205 (.int .i64 n)).run prog w=.ok (.int .u64 (IntKind.u64.wrap n)) w:=by simp[go_sem]
 rw[this,IntKind.wrap_u64];unfold uV;rw[BitVec.toNat_ofInt];congr 2
 omega
theorem c175(w:Wd)(n:Int)(h:i64 n=true):Calls prog 175 #[.int .i64 n] w (aZ (λv w'=>v=.int .u64 (n.natAbs:Nat)/\w'=w) NP):=by
 refine TK ?_;unfold LK;have h:=of_decide_eq_true h;refine V1.i (v:=.bool (decide (n<0))) (w':=w) am ?_;refine If.b (λhn=>?_) (λhn=>?_)
 .have hn:=of_decide_eq_true hn;refine V1.i (yK _ _) ?_;refine LX (c208 _ _) ?_ (NP.no (e:=_));rintro _ w' ⟨rfl,rfl⟩;refine⟨?_,rfl⟩;unfold uV;rw[BitVec.toNat_neg,BitVec.toNat_ofInt];congr 1
  omega
 .have hn:=of_decide_eq_false hn;refine V1.i (yK _ _) ?_;refine⟨?_,rfl⟩;unfold uV;rw[BitVec.toNat_ofInt];congr 1
  omega
theorem pC:∀u:Nat,(Lib.decDigits u).length<=u/2+1:=by
 intro u;induction u using Nat.strongRecOn with
 |_ u ih=>
  unfold Lib.decDigits;split
  .simp
  .have:=ih (u/10) aj;rw[length_append];simp
   omega
theorem Nh:∀(u:Nat) (w:Wd),u<18446744073709551616->Calls prog 174 #[.int .u64 (u:Nat)] w (aZ (λv w'=>v=str (Lib.decDigits u)/\aD [] w w') NP):=by
 intro u;induction u using Nat.strongRecOn with
 |_ u ih=>
  intro w hu;refine TJ ?_;unfold LJ;refine V1.i (v:=.bool (decide (u<10))) (w':=w) ax ?_;by_cases h:u<10
  .rw[show decide (u<10)=true by simpa using h];refine If.t ?_;refine V1.i (v:=.int .u8 (u:Nat)) (w':=w) (by simp[go_sem];rw[IntKind.wrap_u8];omega) ?_;refine V1.i (v:=.int .u8 ((48+u:Nat):Int)) (w':=w) (by simp[go_sem];rw[IntKind.wrap_u8];omega) ?_;have e:((UInt8.ofNat (48+u)).toNat:Int)=((48+u:Nat):Int):=by
    rw[UInt8.toNat_ofNat'];omega
   refine V1.E1 [UInt8.ofNat (48+u)] ak ak (by simp[go_sem,pO];rw[show((48:Int)+(u:Int))%256=48+u by omega]) λb w1 A N=>?_;refine V1.i A.str ?_;refine⟨?_,N.aA⟩;unfold Lib.decDigits;rw[dif_pos h]
  .rw[show decide (u<10)=false by simpa using h];refine If.f ?_;refine V1.i (v:=.int .u64 ((u/10:Nat):Int)) (w':=w) (by simp[go_sem];rw[IntKind.wrap_u64];omega) ?_;refine tY (ih (u/10) aj w aj) ?_ (NP.no (e:=_));rintro _ w1 ⟨rfl,K1⟩;refine V1.i (v:=.int .u64 ((u%10:Nat):Int)) (w':=w1) (by simp[go_sem];rw[Int.tmod_eq_emod_of_nonneg aj]) ?_;refine tY (ih (u%10) aj w1 aj) ?_ (NP.no (e:=_));rintro _ w2 ⟨rfl,K2⟩;have l1:=pC (u/10);have l2:=pC (u%10);refine V1.i (zR _ _ _ _ _ aj) ?_;refine⟨?_,K1.trans K2⟩;have e:Lib.decDigits (u%10)=[UInt8.ofNat (48+u%10)]:=by
    unfold Lib.decDigits;rw[dif_pos aj]
   rw[e];conv=>rhs;unfold Lib.decDigits
   rw[dif_neg h]
theorem UU(w:Wd)(n:Int)(h:i64 n=true):Calls prog 121 #[.int .i64 n] w (aZ (λv w'=>v=str (Lib.itoa n)/\aD [] w w') NP):=by
 refine Tx ?_;unfold Lu;have h':=of_decide_eq_true h;refine V1.i (v:=.bool (decide (n<0))) (w':=w) am ?_;unfold Lib.itoa;refine If.b (λhn=>?_) (λhn=>?_)
 .have hn:=of_decide_eq_true hn;rw[if_pos hn];refine CD (c175 w n h) ?_ (NP.no (e:=_));rintro _ w' ⟨rfl,rfl⟩;refine tY (Nh n.natAbs w' aj) ?_ (NP.no (e:=_));rintro _ w1 ⟨rfl,K1⟩;have l1:=pC n.natAbs;refine V1.i (zR _ _ _ [45] _ al) ?_;exact⟨rfl,K1⟩
 .have hn:=of_decide_eq_false hn;rw[if_neg hn];refine CD (c175 w n h) ?_ (NP.no (e:=_));rintro _ w' ⟨rfl,rfl⟩;refine tY (Nh n.natAbs w' aj) ?_ (NP.no (e:=_));rintro _ w1 ⟨rfl,K1⟩;exact⟨by rw[show n.toNat=n.natAbs by omega],K1⟩
end Go.Proofs.YtoddjlclpnoomaaGreatDoor

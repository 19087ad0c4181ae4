import Derived.Lib.ItoaMem
import Derived.Test.YtoddjlclpnoomaaGreatDoorV30
import Derived.Test.YtoddjlclpnoomaaGreatDoorV35
set_option linter.unusedVariables false
set_option linter.unusedSimpArgs false
set_option maxRecDepth 100000
open Go.Proofs.Tryz
open List (contains_cons drop_eq_getElem_cons contains_nil toList_toArray take_succ_cons length_append length take_zero)
open Nat (lt_or_ge le_refl)
open Go.Value (cells)
open Bool (and_eq_true false_eq_true)
namespace Go.Proofs.YtoddjlclpnoomaaGreatDoor
open Go.Sh
theorem lDk{R:ER}{w:Wd}{b i:Nat}{l:LT}{k:VK}(h:dm w b 0 l)(hi:i<l.length)(hk:k (.int .i64 l[i].kind) w):lD R 86 0 3 (.pointer (some ⟨b,4*i,none⟩)) w k:=by
 obtain⟨h0,h1,h2,h3⟩:=kY _ _ _ hi h;simp only[Nat.zero_add]at h0;unfold lD;refine V1.i (v:=.pointer (some ⟨b,4*i,none⟩)) (w':=w) (by simp[go_sem,Addr.add]) ?_;exact V1.i ((aC rfl) _ _ _ h0) hk
theorem Yv{R:ER}{w:Wd}{b i:Nat}{l:LT}{k:VK}(h:dm w b 0 l)(hi:i<l.length)(hk:k (str l[i].text) w):lD R 86 1 9 (.pointer (some ⟨b,4*i,none⟩)) w k:=by
 obtain⟨h0,h1,h2,h3⟩:=kY _ _ _ hi h;simp only[Nat.zero_add]at h1;unfold lD;refine V1.i (v:=.pointer (some ⟨b,4*i+1,none⟩)) (w':=w) (by simp[go_sem,Addr.add]) ?_;exact V1.i ((aC rfl) _ _ _ h1) hk
theorem AE(w:Wd)(a b:Int):(Bo .neq 3 false true (.int .i64 a) (.int .i64 b)).run prog w=.ok (.bool (!(a==b))) w:=by simp[go_sem,Bo];rfl
theorem HY(t:Tok):ld t=if(t.kind==4)=true then(if(t.text==[40])=true then 1 else if(t.text==[41])=true then-1 else 0)else 0:=by
 unfold ld;by_cases h:t.kind=4<;>by_cases h2:t.text=[40]<;>by_cases h3:t.text=[41]<;>simp[h,h2,h3]
set_option maxHeartbeats 1000000 in
theorem Yw{w:Wd}{x:Rp}{ts bX pre:LT}{d:Int}{i0:Nat}(h:RS w x (.go bX) d)(h0:(Sg.go ts).pos x i0)(hp:ts=pre++bX):
  Calls prog 188 #[ptr x.p,.int .i64 i0] w (aZ (λv w'=>v=.bool (bC [40] ts&&jh pre 0)/\aD [] w w') NP):=by
 refine X8 ?_;unfold P6;obtain⟨i',line,h1,h2,IY⟩:=h.raw;obtain⟨rfl,Bf⟩:=h0;have oa:=x.yf;subst h2;have hl:x.all.length-i0=pre.length+(x.all.length-i'):=by
  have:=congrArg length hp;simpa using this
 have oN:pre=(x.all.drop i0).take (i'-i0):=by
  rw[hp,List.take_left' aj]
 have tk:=h1.tk;refine lF.i h1.at_ ?_;refine V1.i (od Bf) ?_;refine lDk tk Bf ?_;refine V1.i (AE _ _ _) ?_;have e0:bC [40] (x.all.drop i0)=((x.all[i0].kind==4)&&(x.all[i0].text==[40])):=by
  simp only[bC,gw,mZ Bf,contains_cons,contains_nil,Bool.or_false]
 rw[e0];refine J1.gd (c:=false) (!(x.all[i0].text==[40])) (λ_ k hk=>lF.i h1.at_ (V1.i (od Bf) (Yv tk Bf (V1.i (KP _ _ _ _ _) hk)))) ?_;refine V1.i (fI _ _ _) ?_
 cases hA:(x.all[i0].kind==4)&&(x.all[i0].text==[40])with
 |false=>
  refine If.t' ?_ ⟨rfl,aD.refl _ _⟩;rw[←Bool.not_and,hA];rfl
 |true=>
 refine If.f' (by rw[←Bool.not_and,hA];rfl) ?_;rw[Bool.true_and];refine L3.i (λx0 x1 x2 w'=>w'=w/\∃(j:Nat) (D:Int),x0=.int .i64 D/\x2=.int .i64 j/\i0<=j/\j<=i'/\-(j:Int)<=D/\D<=j/\jh pre 0=jh ((x.all.drop j).take (i'-j)) D) (λ_ _ v _=>match v with|.int _ n=>(i'-n.toNat)|_=>0)
  ⟨rfl,i0,0,rfl,rfl,by omega,by omega,by omega,by omega,by rw[←oN]⟩ ?_
 rintro x0 x1 x2 w' ⟨rfl,j,D,rfl,rfl,hj0,hj,hD1,hD2,pL⟩;refine lF.i h1.at_ ?_;by_cases bO:j<i'
 rotate_left
 .obtain rfl:j=i':=by omega
  refine V1.bf au ?_;refine If.f ⟨?_,aD.refl _ _⟩;rw[pL];simp[jh]
 refine V1.bt ay ?_;refine If.t ?_;have mn:j<x.all.length:=by omega
 have Qr:(x.all.drop j).take (i'-j)=x.all[j]::(x.all.drop (j+1)).take (i'-(j+1)):=by
  rw[drop_eq_getElem_cons mn,show i'-j=(i'-(j+1))+1 by omega,take_succ_cons]
 have Yx:((x.all.drop (j+1)).take (i'-(j+1))).isEmpty=decide (j=i'-1):=by
  rw[Bool.eq_iff_iff];simp only[List.isEmpty_iff,decide_eq_true_eq];constructor
  .intro h;have:=congrArg length h;simp at this
   omega
  .rintro rfl;rw[show i'-(i'-1+1)=0 by omega,take_zero]
 rw[Qr]at pL;have lW:=HY x.all[j];refine J2.cut (λy0 y1 wz=>wz=w'/\∃D':Int,y0=.int .i64 D'/\-((j:Int)+1)<=D'/\D'<=(j:Int)+1/\jh pre 0=jh ((x.all.drop (j+1)).take (i'-(j+1))) D') ?_ ?_;rotate_left
 .rintro y0 y1 w2 ⟨rfl,D',rfl,hD1,hD2,pL⟩;refine V1.i (cC _ _ _ _ _ _ aj aj) ?_;exact⟨⟨rfl,j+1,D',rfl,by simp,by omega,by omega,by omega,by omega,pL⟩,by simp;omega⟩
 refine lF.i h1.at_ (V1.i (od mn) (lDk tk mn (V1.i (AE _ _ _) ?_)))
 cases hk:(x.all[j].kind==4)with
 |false=>
  rw[hk,if_neg ak]at lW;simp only[jh,lW]at pL;rw[if_neg ak]at pL;exact If.t ⟨rfl,D,rfl,by omega,by omega,by simpa using pL⟩
 |true=>
 rw[hk,if_pos rfl]at lW;refine If.f ?_;refine J1.cut (λy wz=>wz=w'/\y=.int .i64 (if(x.all[j].text==[40])=true then D+1 else D)) ?_ ?_
 .refine lF.i h1.at_ (V1.i (od mn) (Yv tk mn (V1.i (nq _ _ _ _ _) ?_)))
  cases ht:(x.all[j].text==[40])with
  |true=>
   refine If.t ?_;refine V1.i (cC _ _ _ _ _ _ aj aj) ?_;exact⟨rfl,by simp⟩
  |false=>exact If.f ⟨rfl,by simp⟩
 rintro y w2 ⟨rfl,rfl⟩;refine lF.i h1.at_ (V1.i (od mn) (Yv tk mn (V1.i (nq _ _ _ _ _) ?_)))
 cases ht:(x.all[j].text==[40])with
 |true=>
  rw[ht,if_pos rfl]at lW;simp only[jh,lW]at pL;rw[if_neg ak]at pL;have:(x.all[j].text==[41])=false:=by
   have:x.all[j].text=[40]:=by simpa using ht
   rw[this];rfl
  rw[this];exact If.f ⟨rfl,D+1,by simp,by omega,by omega,pL⟩
 |false=>
 rw[ht,if_neg ak]at lW
 cases Ez:(x.all[j].text==[41])with
 |false=>
  rw[Ez,if_neg ak]at lW;simp only[jh,lW]at pL;rw[if_neg ak]at pL;exact If.f ⟨rfl,D,by simp,by omega,by omega,by simpa using pL⟩
 |true=>
 rw[Ez,if_pos rfl]at lW;simp only[jh,lW,true_and]at pL;refine If.t ?_;rw[if_neg ak];refine V1.i (fP _ _ _ _ _ _ aj aj) ?_;refine V1.i (fG _ _ _) ?_;by_cases hz:D-1=0
 .rw[show(D-1==0)=true by simpa using hz];refine If.t (lF.i h1.at_ ?_);refine V1.i (fP _ _ _ _ _ _ aj aj) ?_;refine V1.i (v:=.bool ((j:Int)==(i':Int)-1)) (w':=w2) (by simp[go_sem,Bo]) ?_;rw[if_pos hz]at pL;refine⟨?_,aD.refl _ _⟩;rw[pL,Yx];congr 1
  rw[Bool.eq_iff_iff];simp
  omega
 .rw[show(D-1==0)=false by simpa using hz];rw[if_neg hz]at pL;exact If.f ⟨rfl,D-1,rfl,by omega,by omega,by simpa[Int.sub_eq_add_neg]using pL⟩
def Qs:Tr->Bool
 |.ex ..=>true
 |_=>false
def iy(r:bN):Prop:=∀t ts o,r=.ok t ts o->Qs t=true
theorem iy.ok{t:Tr}{ts:LT}{o:Bool}(h:Qs t=true):iy (.ok t ts o):=λ_ _ _ e=>by cases e;exact h
theorem iy.fail{c:Int}:iy (.fail c):=λ_ _ _ e=>by cases e
theorem iy.bH:iy .bH:=λ_ _ _ e=>by cases e
theorem iy.bind{r:bN}{f:Tr->LT->Bool->bN}(h1:iy r)(h2:∀t ts o,Qs t=true->iy (f t ts o)):iy (r.bind f):=by
 cases r with
 |ok t ts o=>exact h2 _ _ _ (h1 _ _ _ rfl)
 |fail c=>exact iy.fail
 |bH=>exact iy.bH
theorem iy.any{r:bN}{f:Tr->LT->Bool->bN}(h2:∀t ts o,iy (f t ts o)):iy (r.bind f):=by
 cases r with
 |ok t ts o=>exact h2 _ _ _
 |fail c=>exact iy.fail
 |bH=>exact iy.bH
theorem iy.cM{q:By}{ts:LT}{f:LT->bN}(hf:∀ts,iy (f ts)):iy (aR q ts f):=by
 unfold aR;split
 .exact hf _
 .exact iy.fail
theorem iy.name{ts:LT}{f:By->LT->bN}(hf:∀nm ts,iy (f nm ts)):iy (cU ts f):=by
 unfold cU;split
 .exact hf _ _
 .exact iy.fail
theorem iy.open{d:Int}{f:Int->bN}(hf:∀d,iy (f d)):iy (cD d f):=by
 unfold cD;split
 .exact iy.fail
 .exact hf _
def E2:Cl->Prop
 |.expr _|.bin ..|.operand|.post|.dz|.signed|.bracket _=>True
 |.exprL l _=>Qs l=true
 |.dH e _=>Qs e=true
 |.func b=>b=false
 |_=>False
theorem AF:∀(n:Nat) (cl:Cl) (d:Int) (ts:LT),E2 cl->iy (run n cl d ts)
 |0,cl,d,ts,hs=>iy.bH
 |n+1,cl,d,ts,hs=>by
  have H:=AF n
  cases cl<;>simp only[E2]at hs<;>(try exact hs.elim)<;>(try subst hs)<;>simp only[run]
  all_goals repeat' (first
   |exact iy.fail
   |exact iy.bH
   |exact iy.ok rfl
   |exact iy.ok aw
   |exact H _ _ _ (by first|trivial|exact rfl|assumption)
   |refine iy.open λ_=>?_
   |refine iy.name λ_ _=>?_
   |refine iy.cM λ_=>?_
   |refine iy.bind (H _ _ _ (by first|trivial|exact rfl|assumption)) λ_ _ _ _=>?_
   |refine iy.any λ_ _ _=>?_
   |split)
theorem qR:∀(l:LT) (i:Nat),i<l.length->(hd (l.drop (l.length-1))).kind=5->E5 (l.drop i)
 |[],i,h,_=>absurd h ak
 |[t],0,h,h5=>h5
 |[t],i+1,h,_=>absurd h ak
 |t::u::l,0,h,h5=>by
  have:=qR (u::l) 0 ak (by simpa using h5);simpa[E5]using this
 |t::u::l,i+1,h,h5=>by
  have:=qR (u::l) i (by simpa using h) (by simpa using h5);simpa using this
theorem Qt{B b6 b7:Bool}{w:Wd}{R:ER}{X6:(VK)->Prop}{X7:Wd->(VK)->Prop}{g:VK}(h6:∀k:VK,k (.bool b6) w->X6 k)(h7:∀k:VK,k (.bool b7) w->X7 w k)
  (hg:g (.bool (B&&(b6||b7))) w):J1 (λk2=>Gd (.bool B) true (X6 k2) (k2 undef w)) (λPv w=>J1 (λk3=>Gd Pv false (X7 w k3) (k3 undef w)) (λa37 w=>
   J1 (λk4=>Gd (.bool B) true (v1 R (Pk Pv (.bool true) a37) w λBa w=>k4 Ba w) (k4 undef w)) (λBa w=>v1 R (Pk (.bool B) Ba (.bool false)) w g))):=by
 cases B with
 |false=>
  refine J1.go (Gd.ft ?_);refine J1.go (Gd.u ?_);refine J1.go (Gd.ft ?_);exact V1.bf au hg
 |true=>
  refine J1.go (Gd.tt (h6 _ ?_));refine J1.gd (c:=false) b7 (λ_ k hk=>h7 k hk) ?_;refine J1.go (Gd.tt ?_);refine V1.i (fI _ _ _) ?_;exact V1.i (v:=.bool (b6||b7)) (w':=w) au (by simpa using hg)
theorem g146{n:Nat}(ih:∀m,m<=n->rn m):C0 (n+1) (λts d=>run (n+1) .simple d ts) 146:=by
 intro w x s d r bs k h hn hr aI S hp ht hl;refine PV ?_;unfold HH;have hb:BS w x bs:=⟨hp,ht,hl⟩;have c:CX w w x [bs] s d:=CX.mk' h;have lp:=c.lp;obtain⟨i0,line,h1,h2⟩:=h.raw;refine lF.i h1.at_ ?_;clear h1
 cases s with
 |bad cd=>
  refine pJ ((ih n aj).post _ _ _ _ (.fail cd) h aj rfl bN.noConfusion) ?_ (NP.no (e:=_));rintro v w1 ⟨t,s',o,h',he,R,hv,K1⟩
  cases s' with
  |go ts=>cases he
  |bad cd'=>
  replace c:=c.cx h' K1;obtain⟨i1,E3,h3,_⟩:=c.rs.raw;refine lF.i h3.at_ (If.t ?_);injection he with he;subst he;exact⟨_,_,_,_,_,_,_,.bad cd,false,c.rs,hr.symm,S.cx K1 hp lp,c.kk⟩
 |go ts=>
 replace hr:run (n+1) .simple d ts=r:=hr;simp only[run]at hr;refine pJ ((ih n aj).post _ _ _ _ _ h aj rfl (aM hr aI)) ?_ (NP.no (e:=_));rintro v w1 ⟨t,s',o,h',he,R,⟨pv,rfl⟩,K1⟩;replace c:=c.cx h' K1;replace S:=S.cx K1 hp lp;obtain⟨i1,E3,h3,_⟩:=c.rs.raw;refine lF.i h3.at_ ?_;replace he:run n .post d ts=s'.res t o:=he;rw[he]at hr
 cases s' with
 |bad cd'=>
  exact If.t ⟨_,_,_,_,_,_,_,.bad cd',false,c.rs,hr.symm,S,c.kk⟩
 |go bX=>
 replace hr:(match bC [61] bX&&!o&&(kindOf t==6||kindOf t==7)with
   |true=>(run n (.expr 0) d (bG bX)).bind λr ts _=>.ok (.st 2 [] t r .nil .nil .nil) ts false
   |false=>match !bC [61] bX&&!o&&kindOf t==8 with
    |true=>.ok (.st 3 [] .nil t .nil .nil .nil) bX false
    |false=>.fail 4)=r:=hr
 have hE:E5 ts:=by
  obtain⟨e,hi⟩:=h2;rw[e];exact qR _ _ hi x.e5
 obtain⟨pre,oN,ho⟩:=Az hE he;have hx:=AF n .post d ts trivial _ _ _ he;obtain⟨kk,nn,tx,l,rr,ks,gs,ps,bd,rfl⟩:∃kk nn tx l rr ks gs ps bd,t=.ex kk nn tx l rr ks gs ps bd:=by
  cases t<;>first|exact⟨_,_,_,_,_,_,_,_,_,rfl⟩|cases hx
 refine If.f (P7 (Yw c.rs h2 oN) ?_ (NP.no (e:=_)));rintro _ w2 ⟨rfl,K2⟩;rw[←ho];replace c:=c.c0 K2;replace S:=S.c0 K2;replace R:=R.c0 K2;simp only[kindOf]at hr;refine c.sign [61] λw3 c K3=>?_;replace S:=S.c0 K3;replace R:=R.c0 K3;have E4:∀{w':Wd},aD [] w3 w'->∃b,pv=some ⟨b,0,none⟩/\∃cs,At w' b (.int .i64 kk::cs):=by
  intro w' K;obtain⟨b,line,lv,rv,kv,av,A9,bv,e,_,a,_⟩:=R.c0 K;unfold ptr at e;injection e with e;exact⟨b,e,_,a⟩
 obtain⟨b,rfl,cs,aK⟩:=E4 (aD.refl _ _);clear E4;rw[show(Sg.go bX).is [61]=bC [61] bX from rfl];refine J1.gd (b:=bC [61] bX) (c:=true) (!o) (λ_ k hk=>V1.i au hk) ?_;refine V1.i (gi _ _ _) ?_;refine Qt (b6:=kk==6) (b7:=kk==7) (λk hk=>lF.i aK (V1.i (fG _ _ _) hk)) (λk hk=>lF.i aK (V1.i (fG _ _ _) hk)) ?_
 cases hc:(bC [61] bX&&!o&&(kk==6||kk==7))with
 |true=>
  simp only[hc]at hr;rw[and_eq_true,and_eq_true]at hc;have rh:=(mz (q:=[61]) (f:=λbX=>(run n (.expr 0) d bX).bind λr ts _=>.ok (.st 2 [] (.ex kk nn tx l rr ks gs ps bd) r .nil .nil .nil) ts false) hc.1.1).trans hr;refine If.t (c.cM [61] rh λ_ w4 c hr K4=>?_);refine(S.cx K4 hp lp).ma hl λw5 S K5=>?_;replace c:=c.st K5 hp ht;replace R:=(R.cx K4 lp).fr K5 al;refine S.Qh hl R ⟨_,rfl⟩ λw6 S K6=>?_;replace c:=c.st K6 hp ht;refine c.call ((ih n aj).expr 0 aj) gF aj hr aI λv w7 t2 s7 o c hr R2 hv K7=>?_;refine(S.cx K7 hp lp).oR hl R2 hv λw8 S K8=>?_;replace c:=c.st K8 hp ht;exact⟨_,_,_,_,_,_,_,_,_,c.rs,gk hr,S,c.kk⟩
 |false=>
 simp only[hc]at hr;refine If.f (c.sign [61] λw4 c K4=>?_);replace S:=S.c0 K4;replace R:=R.c0 K4;replace aK:=K4.at aK ak;rw[show(Sg.go bX).is [61]=bC [61] bX from rfl];refine J1.gd (b:=bC [61] bX) (c:=false) o (λ_ k hk=>hk) ?_;refine V1.i (fI _ _ _) ?_;refine J1.gd (c:=false) (!(kk==8)) (λ_ k hk=>lF.i aK (V1.i (AE _ _ _) hk)) ?_;refine V1.i (fI _ _ _) ?_;have hc8:((bC [61] bX||o)||!(kk==8))=!(!bC [61] bX&&!o&&kk==8):=by
  cases bC [61] bX<;>cases o<;>rfl
 rw[hc8]
 cases kI:(!bC [61] bX&&!o&&kk==8)with
 |true=>
  simp only[kI]at hr;refine If.f (S.ma hl λw5 S K5=>?_);replace c:=c.st K5 hp ht;replace R:=R.fr K5 al;refine S.oR hl R ⟨_,rfl⟩ λw6 S K6=>?_;replace c:=c.st K6 hp ht;exact⟨_,_,_,_,_,_,_,.go bX,false,c.rs,hr.symm,S,c.kk⟩
 |false=>
  simp only[kI]at hr;refine If.t (c.fail 4 λ_ w5 c K5=>?_);exact⟨_,_,_,_,_,_,_,.bad 4,false,c.rs,hr.symm,S.cx K5 hp lp,c.kk⟩
theorem Di(n:Nat)(d:Int)(ts:LT):run (n+1) .stmt d ts=
  if bC nt ts=true then run n .lM d ts
  else if bC bR ts=true then(run n (.func true) d ts).bind λr ts _=>match r with
   |.cons f (.cons nm .nil)=>.ok (.st 2 [] nm f .nil .nil .nil) ts false
   |_=>.bH
  else if bC qd ts=true then(run n (.inner qd) d ts).bind λa ts _=>aR cT ts λts=>.ok (.st 4 [] .nil .nil .nil a .nil) ts false
  else if bC nu ts=true then(run n (.expr 0) d (bG ts)).bind λr ts _=>(run n (.inner qd) d ts).bind λa ts _=>aR cT ts λts=>.ok (.st 5 [] .nil r .nil a .nil) ts false
  else if bC ye ts=true then cU (bG ts) λnm ts=>aR [61] ts λts=>(run n (.expr 0) d ts).bind λr ts _=>aR [44] ts λts=>
     (run n (.expr 0) d ts).bind λt2 ts _=>(run n (.inner qd) d ts).bind λa ts _=>aR cT ts λts=>.ok (.st 7 nm .nil r t2 a .nil) ts false
  else if bC DG ts=true then(run n .branch d (bG ts)).bind λs ts _=>aR cT ts λts=>.ok s ts false
  else if bC gM ts=true then match dQ (hd (bG ts))with
     |true=>.ok (.st 8 [] .nil .nil .nil .nil .nil) (bG ts) false
     |false=>(run n (.expr 0) d (bG ts)).bind λr ts _=>match dQ (hd ts)with
      |true=>.ok (.st 8 [] .nil r .nil .nil .nil) ts false
      |false=>.fail 4
  else if bC ke ts=true then .ok (.st 9 [] .nil .nil .nil .nil .nil) (bG ts) false
  else if bC nv ts=true then(run n (.inner nv) d ts).bind λa ts _=>Sl n d (λnm b ts=>aR cT ts λts=>.ok (.st 10 nm .nil .nil .nil a b) ts false) ts
  else run n .simple d ts:=by
 have hq:∀q,bC q ts=((hd ts).kind==4&&decide ((hd ts).text=q)):=by
  intro q;simp only[bC,gw,contains_cons,contains_nil,Bool.or_false];congr 1
  rw[Bool.eq_iff_iff];simp
 simp only[hq];simp only[run]
 cases hk:((hd ts).kind==4)with
 |false=>simp only[Bool.false_and,false_eq_true,if_false]
 |true=>
  simp only[Bool.true_and,decide_eq_true_eq];rfl
set_option maxHeartbeats 2000000 in
theorem g84{n:Nat}(ih:∀m,m<=n->rn m)(w:Wd)(x:Rp)(ts:LT)(d:Int)(r:bN)(h:RS w x (.go ts) d)(hn:n+1<=aX)(hr:run (n+1) .stmt d ts=r)(aI:r≠.bH):
  Calls prog 84 #[ptr x.p] w (aZ (λv w'=>C6 w x d r v w') NP):=by
 refine s84 ?_;unfold S84;rw[Di]at hr;have c0:CX w w x [] (.go ts) d:=CX.mk' h;refine c0.copy λb w1 c a3 hb K1=>?_;refine lD.i a3 ?_;refine V1.i ah ?_;refine V1.new (wo _ _) λbs w2 N=>?_;have a2:At w2 bs [.int .i64 0,.int .i64 ((Sg.go ts).hd x).line,str [],.pointer none,.pointer none,.pointer none,.slice none 0 0,.slice none 0 0]:=by
  have:=N.at_;simpa[cells,str]using this
 have lp0:=c.lp;have lt0:=c.lt;have z1:=c.kk.size;have gbs:=N.ge;have c1:=c.c0 N.aA;have z2:=c1.kk.size;have hB:BS w2 x bs:=⟨by omega,by omega,a2.lt⟩;have hl:=hB.lt;have hp:=hB.p;have ht:=hB.t;have S:ST w2 w2.heap.size bs 0 [] .nil .nil .nil .nil .nil:=⟨_,_,_,_,_,_,a2,jU,jU,jU,fZ,fZ⟩;replace c:CX w2 w2 x [bs] (.go ts) d:=CX.mk' c1.rs;clear a2 N a3 h;have lp:=c.lp;have jL:∀{w':Wd}{s':Sg}{k:Int}{nm:By}{l r1 t a b:Tr}{o:Bool},CX w2 w' x [bs] s' d->r=s'.res (.st k nm l r1 t a b) o->ST w' w2.heap.size bs k nm l r1 t a b->C6 w x d r (ptr bs) w':=by
  intro w' s' k nm l r1 t a b o c hr S;exact⟨k,nm,l,r1,t,a,b,s',o,bs,rfl,c.rs,hr,S.rep z2 aj,(c1.back c aj).kk⟩
 have iW:∀{w':Wd}{s':Sg}{k:Int}{nm:By}{l r1 t a b:Tr}{o:Bool},CX w2 w' x [bs] s' d->s'.run (λts=>.ok (.st k nm l r1 t a b) ts o)=r->ST w' w2.heap.size bs k nm l r1 t a b->C6 w x d r (ptr bs) w':=
  λc hr S=>jL c (gk hr) S
 refine J0.go ?_;refine c.jx nt (λhq w3 c K3=>?_) λhq w3 c K3=>?_
 .rw[if_pos hq]at hr
  cases n with
  |zero=>exact absurd hr.symm aI
  |succ n=>
  refine If.t (PF (c138 (λm hm=>ih m aj) aj c hB (S.cx K3 hp lp) hr aI) ?_ (NP.no (e:=_)));rintro _ w4 ⟨s4,k,nm,r1,o,c,hr,S⟩;exact jL c hr S
 rw[if_neg (by rw[hq];simp)]at hr;replace S:=S.cx K3 hp lp;refine If.f (c.mA bR (λhq w4 c K4=>?_) λhq w4 c K4=>?_)
 .rw[if_pos hq]at hr;refine If.t ((S.c0 K4).ma hl λw5 S K5=>?_);replace c:=c.st K5 hp ht;refine Ac ((ih n aj).func true _ _ _ _ _ c.rs aj rfl (aM hr aI)) ?_ (NP.no (e:=_));rintro _ w6 ⟨f,nm,s6,o,q,e,rfl,h6,he6,Rf,Rq,K6⟩;have z5:=c.kk.size;replace c:=c.cx h6 K6;replace hr:=run_bind (s:=.go ts) hr he6;refine V1.i ah ?_;refine V1.i ah ?_;refine(S.cx K6 hp lp).oR hl (Rf.fit z5 ak) ⟨_,rfl⟩ λw7 S K7=>?_;replace c:=c.st K7 hp ht;refine S.Qh hl ((Rq.fit (Y:=[]) z5 ak).fr K7 al) ⟨_,rfl⟩ λw8 S K8=>?_;exact iW (c.st K8 hp ht) hr S
 rw[if_neg (by rw[hq];simp)]at hr;replace S:=S.c0 K4;refine If.f (c.mA qd (λhq w5 c K5=>?_) λhq w5 c K5=>?_)
 .rw[if_pos hq]at hr;refine If.t ((S.c0 K5).ma hl λw6 S K6=>?_);replace c:=c.st K6 hp ht;refine c.call (s:=.go ts) ((ih n aj).inner qd) oc aj hr aI λv w7 a s7 o c hr R hv K7=>?_;refine(S.cx K7 hp lp).xh hl R hv λw8 S K8=>?_;replace c:=c.st K8 hp ht;refine c.cM cT hr λ_ w9 c hr K9=>?_;exact iW c hr (S.cx K9 hp lp)
 rw[if_neg (by rw[hq];simp)]at hr;replace S:=S.c0 K5;refine If.f (c.jx nu (λhq w6 c K6=>?_) λhq w6 c K6=>?_)
 .rw[if_pos hq]at hr;refine If.t ((S.cx K6 hp lp).ma hl λw7 S K7=>?_);replace c:=c.st K7 hp ht;refine c.call (s:=.go (bG ts)) ((ih n aj).expr 0 aj) gF aj hr aI λv w8 t s8 o c hr R hv K8=>?_;refine(S.cx K8 hp lp).oR hl R hv λw9 S K9=>?_;replace c:=c.st K9 hp ht;refine c.call ((ih n aj).inner qd) oc aj hr aI λv ei a Oo o c hr R hv dA=>?_;refine(S.cx dA hp lp).xh hl R hv λfp S cR=>?_;replace c:=c.st cR hp ht;refine c.cM cT hr λ_ fT c hr dB=>?_;exact iW c hr (S.cx dB hp lp)
 rw[if_neg (by rw[hq];simp)]at hr;replace S:=S.cx K6 hp lp;refine If.f (c.jx ye (λhq w7 c K7=>?_) λhq w7 c K7=>?_)
 .rw[if_pos hq]at hr;replace hr:(Sg.go (bG ts)).run (λts=>cU ts λnm ts=>aR [61] ts λts=>(run n (.expr 0) d ts).bind λr ts _=>aR [44] ts λts=>
     (run n (.expr 0) d ts).bind λt2 ts _=>(run n (.inner qd) d ts).bind λa ts _=>aR cT ts λts=>.ok (.st 7 nm .nil r t2 a .nil) ts false)=r:=hr
  refine If.t ((S.cx K7 hp lp).ma hl λw8 S K8=>?_);replace c:=c.st K8 hp ht;refine c.name hr λnm w9 c hr K9=>?_;refine(S.cx K9 hp lp).CZ hl λei S dA=>?_;replace c:=c.st dA hp ht;refine c.cM [61] hr λ_ fp c hr cR=>?_;replace S:=S.cx cR hp lp;refine c.call ((ih n aj).expr 0 aj) gF aj hr aI λv fT t Ot o c hr R hv dB=>?_;refine(S.cx dB hp lp).oR hl R hv λmK S ja=>?_;replace c:=c.st ja hp ht;refine c.cM [44] hr λ_ lu c hr kN=>?_;replace S:=S.cx kN hp lp;refine c.call ((ih n aj).expr 0 aj) gF aj hr aI λv sx t2 Sk o c hr R hv jD=>?_;refine(S.cx jD hp lp).Yd hl R hv λxp S jk=>?_;replace c:=c.st jk hp ht;refine c.call ((ih n aj).inner qd) oc aj hr aI λv Ef a s17 o c hr R hv pq=>?_
  refine(S.cx pq hp lp).xh hl R hv λGF S Iq=>?_;replace c:=c.st Iq hp ht;refine c.cM cT hr λ_ w19 c hr yQ=>?_;exact iW c hr (S.cx yQ hp lp)
 rw[if_neg (by rw[hq];simp)]at hr;replace S:=S.cx K7 hp lp;refine If.f (c.jx DG (λhq w8 c K8=>?_) λhq w8 c K8=>?_)
 .rw[if_pos hq]at hr;refine If.t (EX (C0.go (ih n aj).branch aj c hB (S.cx K8 hp lp) rfl (aM hr aI)) ?_ (NP.no (e:=_)));rintro _ w9 ⟨s9,k,nm,l,r1,t,a,b,o,c,he,S⟩;replace hr:=run_bind (s:=.go (bG ts)) hr he;refine c.cM cT hr λ_ ei c hr dA=>?_;exact iW c hr (S.cx dA hp lp)
 rw[if_neg (by rw[hq];simp)]at hr;replace S:=S.cx K8 hp lp;refine If.f (c.jx gM (λhq w9 c K9=>?_) λhq w9 c K9=>?_)
 .rw[if_pos hq]at hr;refine If.t ((S.cx K9 hp lp).ma hl λei S dA=>?_);replace c:=c.st dA hp ht;refine J0.go ?_;refine c.ends λfp c cR=>?_;replace S:=S.c0 cR;refine V1.i (v:=.bool (!(dQ (hd (bG ts))))) (w':=fp) (by simp[go_sem,Sg.ends]) ?_
  cases he:dQ (hd (bG ts))with
  |true=>
   simp only[he]at hr;refine If.f (c.ends λfT c dB=>?_);refine V1.i (v:=.bool (!(dQ (hd (bG ts))))) (w':=fT) (by simp[go_sem,Sg.ends]) ?_;rw[he];exact If.f (jL (s':=.go (bG ts)) (o:=false) c hr.symm (S.c0 dB))
  |false=>
   simp only[he]at hr;refine If.t (c.call (s:=.go (bG ts)) ((ih n aj).expr 0 aj) gF aj hr aI λv fT t Ot o c hr R hv dB=>?_);refine(S.cx dB hp lp).oR hl R hv λmK S ja=>?_;replace c:=c.st ja hp ht;refine c.ends λlu c kN=>?_;replace S:=S.c0 kN
   cases Ot with
   |bad cd=>
    refine V1.bf (by simp[go_sem,Sg.ends]) ?_;exact If.f (jL (s':=.bad cd) (o:=false) c hr.symm S)
   |go dI=>
    refine V1.i (v:=.bool (!(dQ (hd dI)))) (w':=lu) (by simp[go_sem,Sg.ends]) ?_;replace hr:(match dQ (hd dI)with|true=>.ok (.st 8 [] .nil t .nil .nil .nil) dI false|false=>.fail 4)=r:=hr
    cases H9:dQ (hd dI)with
    |true=>
     simp only[H9]at hr;exact If.f (jL (s':=.go dI) (o:=false) c hr.symm S)
    |false=>
     simp only[H9]at hr;refine If.t (c.fail 4 λ_ sx c jD=>?_);exact jL (s':=.bad 4) (o:=false) c hr.symm (S.cx jD hp lp)
 rw[if_neg (by rw[hq];simp)]at hr;replace S:=S.cx K9 hp lp;refine If.f (c.jx ke (λhq ei c dA=>?_) λhq ei c dA=>?_)
 .rw[if_pos hq]at hr;refine If.t ((S.cx dA hp lp).ma hl λfp S cR=>?_);exact jL (s':=.go (bG ts)) (o:=false) (c.st cR hp ht) hr.symm S
 rw[if_neg (by rw[hq];simp)]at hr;replace S:=S.cx dA hp lp;refine If.f (c.mA nv (λhq fp c cR=>?_) λhq fp c cR=>?_)
 .rw[if_pos hq]at hr;refine If.t ((S.c0 cR).ma hl λfT S dB=>?_);replace c:=c.st dB hp ht;refine c.call (s:=.go ts) ((ih n aj).inner nv) oc aj hr aI λv mK a TT o c hr R hv ja=>?_;refine(S.cx ja hp lp).xh hl R hv λlu S kN=>?_;replace c:=c.st kN hp ht;refine PU (c145 ih aj c hB S hr aI) ?_ (NP.no (e:=_));rintro _ sx ⟨Sk,nm,b,c,hr,S⟩;refine c.cM cT hr λ_ xp c hr jk=>?_;exact iW c hr (S.cx jk hp lp)
 rw[if_neg (by rw[hq];simp)]at hr;refine If.f (PW (C0.go (ih n aj).simple aj c hB (S.c0 cR) (s:=.go ts) hr aI) ?_ (NP.no (e:=_)));rintro _ fT ⟨Ot,k,nm,l,r1,t,a,b,o,c,he,S⟩;exact jL c he S
def B0(K:FuncId)(args:LV)(sh:Va->Prop):Prop:=∀(w:Wd) (x:Rp) (cd d:Int),RS w x (.bad cd) d->Calls prog K (ptr x.p::args).toArray w (aZ (λv w'=>RS w' x (.bad cd) d/\sh v/\aD [x.p] w w') NP)
theorem B0.rq{cl:Cl}{K:FuncId}{args:LV}{mk:Va->Md}{sh:Va->Prop}(H:B0 K args sh)(hm:∀(lo:Nat) (w':Wd) (v:Va),aP (Fr lo []) w' .hole (mk v)):uS 0 cl K args mk sh:=by
 intro w x s d r h hn hr aI
 cases s with
 |go ts=>exact absurd hr.symm aI
 |bad cd=>
  refine(H w x cd d h).mono ?_;intro e w' h
  cases e with
  |returned v=>exact⟨.hole,.bad cd,false,h.1,hr.symm,hm _ w' v,h.2.1,h.2.2⟩
  |panicked=>exact h.elim
  |outgrown=>exact h.elim
theorem B0.go{K:FuncId}{args:LV}{sh:Va->Prop}(H:B0 K args sh)(CY:bZ K){w0 w:Wd}{x:Rp}{M:List Nat}{cd d:Int}{KK:VK}{e:EK}(c:CX w0 w x M (.bad cd) d)
  (hk:∀v w',CX w0 w' x M (.bad cd) d->sh v->aD [x.p] w w'->KK v w'):Cf prog K (ptr x.p::args).toArray w KK e:=by
 refine CY (H _ _ _ _ c.rs) ?_ (NP.no (e:=_));rintro v w' ⟨h,hv,K1⟩;exact hk v w' (c.cx h K1) hv K1
theorem b47:B0 47 [] oQ:=by
 intro w x cd d h;refine s47 ?_;unfold XT;refine J1.go ?_;refine L1.g (λm v w'=>CX w w' x [] (.bad cd) d/\oQ v) 0 ⟨CX.mk' h,⟨_,_,_,rfl⟩⟩ ?_;rintro m v w' K ⟨c,sv⟩ hK;refine c.ends λw1 c K1=>?_;refine V1.bf (by simp[go_sem,Sg.ends]) ?_;exact If.f ⟨c.rs,sv,c.kk⟩
theorem Qu(q:By):B0 140 [str q] oQ:=by
 intro w x cd d h;refine PH ?_;unfold HE;have c:CX w w x [] (.bad cd) d:=CX.mk' h;refine c.sign q λw1 c K1=>?_;refine V1.bt (by simp[go_sem,Sg.is]) ?_;exact If.t (c.fail 4 λ_ w2 c K2=>⟨c.rs,⟨_,_,_,rfl⟩,c.kk⟩)
theorem Qv:B0 211 [] gG:=by
 intro w x cd d h;refine P8 ?_;unfold HK;have c:CX w w x [] (.bad cd) d:=CX.mk' h;refine c.copy λb w1 c a3 hb K1=>?_;refine lD.i a3 ?_;refine V1.i ah ?_;refine Ai c.kk.size jU jU fZ fZ tO fZ λe w2 K2 he aE _=>?_;replace c:=c.c0 K2;replace a3:=K2.at a3 ak;refine J1.go ?_;refine lD.i a3 (V1.i (fG _ _ _) ?_);rw[show(((Sg.bad cd).hd x).kind==1)=false by rw[ki];rfl];refine If.f (lD.i a3 (V1.i (fG _ _ _) ?_));rw[show(((Sg.bad cd).hd x).kind==2)=false by rw[ki];rfl];refine J1.go (Gd.ff (lD.i a3 (V1.i (fG _ _ _) ?_)));rw[show(((Sg.bad cd).hd x).kind==3)=false by rw[ki];rfl];refine V1.i ah ?_
 refine If.f (c.take lO λw3 c K3=>If.f (c.take ie λw4 c K4=>If.f (c.take fE λw5 c K5=>If.f (c.sign [40] λw6 c K6=>If.f (c.sign bR λw7 c K7=>If.f (c.sign [123] λw8 c K8=>If.f (c.fail 4 λ_ w9 c K9=>?_)))))));exact⟨c.rs,⟨_,rfl⟩,c.kk⟩
theorem HZ:B0 187 [] gG:=by
 intro w x cd d h;refine P4 ?_;unfold HJ;have c:CX w w x [] (.bad cd) d:=CX.mk' h;refine Qv.go EY c λv w1 c hv K1=>?_;refine L2.g (λm v _ w'=>CX w w' x [] (.bad cd) d/\gG v) 0 ⟨c,hv⟩ ?_;rintro m v vj w1 K ⟨c,hv⟩ hK;obtain⟨i,line,h1,h2⟩:=c.rs.raw;refine lF.i h1.at_ ?_;refine V1.bf (by simp[go_sem,Sg.ej]) ?_;exact If.f ⟨c.rs,hv,c.kk⟩
theorem Qw:B0 186 [] gG:=by
 intro w x cd d h;refine P3 ?_;unfold HI;have c:CX w w x [] (.bad cd) d:=CX.mk' h;refine c.copy λb w1 c a1 hb _=>?_;refine c.sign mE λw2 c K2=>?_;replace a1:=K2.at a1 ak;refine V1.i ah ?_;refine andNot [45] c a1 λw3 c a1 _=>?_;refine andNot [35] c a1 λw4 c a1 _=>?_;refine andNot [126] c a1 λw5 c a1 _=>?_;exact If.t (HZ.go pJ c λv w6 c hv K=>⟨c.rs,hv,c.kk⟩)
theorem Qx(a:Int):B0 142 [.int .i64 a] gG:=by
 intro w x cd d h;refine PL ?_;unfold HF;have c:CX w w x [] (.bad cd) d:=CX.mk' h;refine Qw.go Ae c λv w1 c hv K1=>?_;refine J1.go ?_;refine L1.g (λm v w'=>CX w w' x [] (.bad cd) d/\gG v) 0 ⟨c,hv⟩ ?_;rintro m v w1 K ⟨c,hv⟩ hK;obtain⟨i,line,h1,h2⟩:=c.rs.raw;refine lF.i h1.at_ ?_;refine V1.bf (by simp[go_sem,Sg.ej]) ?_;refine J1.go (Gd.ft ?_);refine V1.i ah ?_;exact If.f ⟨c.rs,hv,c.kk⟩
theorem rn.zero:rn 0:=by
 refine⟨b47.rq λ_ _ _=>trivial,λq=>(Qu q).rq λ_ _ _=>trivial,λa _=>(Qx a).rq λ_ _ _=>trivial,Qw.rq λ_ _ _=>trivial,HZ.rq λ_ _ _=>trivial,Qv.rq λ_ _ _=>trivial,?_,?_,?_,?_⟩
 .intro named w x ts d r h hn hr aI;exact absurd hr.symm aI
 .intro w x ts d r h hn hr aI;exact absurd hr.symm aI
 .intro w x s d r bs k h hn hr aI S hp ht hl
  cases s with
  |go ts=>exact absurd hr.symm aI
  |bad cd=>
  refine PO ?_;unfold HG;have c:CX w w x [bs] (.bad cd) d:=CX.mk' h;have lp:=c.lp;refine S.ma hl λw1 S K1=>?_;replace c:=c.st K1 hp ht;refine(Qx 0).go gF c λv w2 c hv K2=>?_;refine(S.cx K2 hp lp).oR hl oo hv λw3 S K3=>?_;replace c:=c.st K3 hp ht;refine(Qu rW).go oc c λv w4 c hv K4=>?_;refine(S.cx K4 hp lp).xh hl qM hv λw5 S K5=>?_;replace c:=c.st K5 hp ht;refine c.next λw6 c K6=>?_;replace S:=S.c0 K6;unfold dx;refine V1.i ah ?_;refine c.take eR λw7 c K7=>?_;show If (.bool false) _ _
  refine If.f (c.sign eu λw8 c K8=>?_);show If (.bool false) _ _
  exact If.f ⟨_,_,_,_,_,_,_,.bad cd,false,c.rs,hr.symm,(S.cx K7 hp lp).c0 K8,c.kk⟩
 .intro w x s d r bs k h hn hr aI S hp ht hl
  cases s with
  |go ts=>exact absurd hr.symm aI
  |bad cd=>
  refine PV ?_;unfold HH;have c:CX w w x [bs] (.bad cd) d:=CX.mk' h;obtain⟨i0,line,h1,h2⟩:=h.raw;refine lF.i h1.at_ ?_;refine HZ.go pJ c λv w1 c hv K1=>?_;obtain⟨i1,E3,h3,_⟩:=c.rs.raw;refine lF.i h3.at_ (If.t ?_);exact⟨_,_,_,_,_,_,_,.bad cd,false,c.rs,hr.symm,S.cx K1 hp c.lp,c.kk⟩
theorem vT:∀n,(∀m,m<=n->rn m)
 |0,m,hm=>by
  obtain rfl:m=0:=by omega
  exact rn.zero
 |n+1,m,hm=>by
  have ih:=vT n;rcases lt_or_ge n m with h|h
  .obtain rfl:m=n+1:=by omega
   exact⟨g47 ih,g140 ih,g142 ih,g186 ih,g187 ih,g211 ih,g139 ih,g84 ih,g144 ih,g146 ih⟩
  .exact ih m h
def PQr(w:Wd)(r:bN)(v:Va)(w':Wd):Prop:=match r with
 |.ok t _ _=>∃lv,v=.tuple #[lv,jv 0 0,.bool false]/\aP (Fr w.heap.size []) w' t (.L lv)
 |.fail c=>∃line,v=.tuple #[.slice none 0 0,jv c line,.bool true]
 |.bH=>False
theorem vU:∀ts,TG ts->(hd (ts.drop (ts.length-1))).kind=5
 |[t],h=>h
 |t::u::ts,h=>by
  have:=vU (u::ts) h.2.2;simpa using this
theorem c25(w:Wd)(s:By)(hs:s.length<=60000)(n:Nat)(hn:n<=aX)(r:bN)(hr:dN n s=r)(aI:r≠.bH):Calls prog 25 #[str s] w (aZ (λv w'=>PQr w r v w'/\aD [] w w') NP):=by
 refine s25 ?_;unfold S25;refine V1.new (wm _) λb1 w1 N1=>?_;have z1:=N1.aA.size;have g1:=N1.ge;refine Xb (c46 w1 s hs) ?_ (NP.no (e:=_));rintro v w2 ⟨hT,K2⟩;have z2:=K2.size;have a1:=K2.at N1.at_ ak;have kk:=N1.aA.trans K2;unfold dN at hr;generalize GM:kF s=lx at*;have l1:=N1.lt
 cases lx with
 |fail c=>
  obtain⟨hc,line,rfl⟩:=hT;subst hr;refine V1.i ah ?_;refine V1.i ah ?_;refine V1.new (wm _) λb3 w3 N3=>?_;have g3:=N3.ge;refine U1.Bd (c:=c) (l:=line) N3.at_ λw4 U4=>?_;refine lD.i U4.at_ ?_;refine V1.bt (by simp[go_sem,hc]) ?_;refine If.t ?_;have KD:aD [] w4 w4.drew:=(aD.refl _ _).drew;refine⟨λw'=>At w' b3 (HD c line),KD.at U4.at_ ak,Xw.i (jv c line) (λw' hw=>kh hw) ?_⟩;have k3:aD [] w w4.drew:=((kk.trans N3.aA).then U4.aA ak al).trans KD;have a4:=KD.at (U4.aA.at (N3.aA.at a1 ak) al) ak;refine U1.Bd a4 λw5 U5=>?_;exact⟨_,kh U5.at_,⟨line,rfl⟩,k3.then U5.aA ak al⟩
 |ok ts=>
  obtain⟨bt,ct,rfl,ht,NG,hbt,lbt,B4⟩:=hT;have hr:lP n ts=r:=hr;obtain⟨hTG,hlen,_⟩:=vK GM;refine V1.i ah ?_;refine V1.i ah ?_;refine V1.new (wm _) λb3 w3 N3=>?_;have g3:=N3.ge;have z3:=N3.aA.size;refine U1.Bd (c:=0) (l:=0) N3.at_ λw4 U4=>?_;have z4:=U4.size;refine lD.i U4.at_ ?_;refine V1.bf au ?_;refine If.f ?_;have k4:aD [] w2 w4:=N3.aA.then U4.aA ak al
  refine V1.i ah ?_;refine V1.new (JG _ _) λp w5 N5=>?_;have g5:=N5.ge;have z5:=N5.aA.size;have a5:=N5.at_;simp only[cells,toList_toArray]at a5;have h5:At w5 p [.slice (some ⟨bt,0,none⟩) ts.length ct,.int .i64 0,.int .i64 0,.bool false,.int .i64 0,.int .i64 0]:=by simpa using a5
  have tk5:dm w5 bt 0 ts:=(ht.aA k4 ak).aA N5.aA ak;have vI:1<=ts.length:=by
   cases ts with
   |nil=>exact absurd rfl B4
   |cons=>simp
  obtain⟨x,rfl,hRS⟩:∃x:Rp,x.p=p/\RS w5 x (.go ts) 0:=⟨⟨p,bt,ct,ts,by omega,NG,⟨vI,by omega⟩,vU ts hTG⟩,rfl,⟨⟨0,0,h5,rfl,vI⟩,tk5,by show bt<_;omega,by omega,by omega,λ_=>by omega⟩⟩;clear h5 tk5 a5;unfold lP at hr;have hb:run n .block 0 ts≠.bH:=by
   intro h;rw[h]at hr;exact aI hr.symm
  refine CW ((vT n n (le_refl _)).block w5 x (.go ts) 0 _ hRS hn rfl hb) ?_ (NP.no (e:=_));rintro lv w6 ⟨t,s2,o,Qy,he,Yy,hsl,K6⟩;have he:run n .block 0 ts=s2.res t o:=he;rw[he]at hr;refine J0.cut (λw'=>∃s3,RS w' x s3 0/\aD [x.p] w6 w'/\r=s3.res t false) ?_ ?_
  .obtain⟨i0,ln,h6,p6⟩:=Qy.ex;refine lF.i h6 ?_;refine V1.i (v:=.bool (!s2.ej)) (w':=w6) au ?_
   cases s2 with
   |bad c=>
    rw[show(!(Sg.bad c).ej)=false from rfl];refine J1.go (Gd.ft ?_);refine V1.bf au ?_;exact If.f ⟨.bad c,Qy,aD.refl _ _,hr.symm⟩
   |go bX=>
    have hr:(match(hd bX).kind==5 with|true=>bN.ok t bX false|false=>.fail 4)=r:=hr;rw[show(!(Sg.go bX).ej)=true from rfl];refine J1.go (Gd.tt (uQ (IJ Qy) ?_ (NP.no (e:=_))));rintro _ w7 ⟨rfl,K7⟩;refine V1.i (v:=.int .i64 (hd bX).kind) (w':=w7) (by simp[go_sem,dx,Sg.hd]) ?_;refine V1.i (AE _ _ _) ?_;refine V1.i (v:=.bool (!((hd bX).kind==5))) (w':=w7) au ?_
    cases h5k:((hd bX).kind==5)with
    |true=>
     rw[h5k]at hr;exact If.f ⟨.go bX,Qy.new K7,K7.mono ak,hr.symm⟩
    |false=>
     rw[h5k]at hr;refine If.t (uR (c49 4 (Qy.new K7)) ?_ (NP.no (e:=_)));rintro _ w8 ⟨hR8,K8⟩;exact⟨_,hR8,(K7.mono ak).trans K8,hr.symm⟩
  clear hr he;rintro w7 ⟨s3,hR7,K7,hr⟩;obtain⟨i1,ln,h7,_⟩:=hR7.ex;have z6:=K6.size;have z7:=K7.size;have l4:=U4.at_.lt;have k5:aD [] w w5:=(kk.trans k4).trans N5.aA;have k6:aD [] w w6:=k5.then K6 ak al
  have k7:aD [] w w7:=k6.then K7 ak al
  have a7:At w7 b1 _:=K7.at (K6.at (N5.aA.at (k4.at a1 ak) ak) al) al;refine lF.i h7 ?_
  cases s3 with
  |bad c=>
   refine If.t ?_;have KD:aD [] w7 w7.drew:=(aD.refl _ _).drew;refine⟨λw'=>At w' x.p _,KD.at h7 ak,⟨_,λw' _=>Nc.p _ w',Xw.i _ (λw _=>zQ rfl) (Xw.i (jv c ln) (λw' hw=>Dz w' x.p 4 _ _ (by rw[hw.cell];rfl) (by rw[hw.cell];rfl)) ?_)⟩⟩;refine U1.Bd (KD.at a7 ak) λw8 U8=>?_;subst hr;exact⟨_,kh U8.at_,⟨ln,rfl⟩,(k7.trans KD).then U8.aA ak al⟩
  |go bX=>
   refine If.f ?_;refine V1.i (v:=jv 0 0) (w':=w7) (by simp[go_sem,jv]) ?_;refine U1.Bd a7 λw8 U8=>?_;subst hr;refine⟨_,kh U8.at_,⟨lv,rfl,?_⟩,k7.then U8.aA ak al⟩
   .have l5:=N5.lt;refine aP.aA U8.aA (λq hq _=>⟨by simp;have:=hq.1;omega,by have:=hq.1;omega,by simp⟩) _ _ (aP.aA K7 (G:=Fr w5.heap.size []) (λq hq _=>⟨by simp;have:=hq.1;omega,hq⟩) _ _ Yy)
theorem c228(w:Wd)(x:BitVec 64):Calls prog 228 #[uV x,.int .u64 1] w (aZ (λv w'=>v=uV (x+1)/\w'=w) NP):=by
 refine XA ?_;unfold Pr;refine L2.i (λu v w'=>w'=w/\∃a t:BitVec 64,u=uV a/\v=uV t/\a+t=x+1/\(t=0\/∃k,k<64/\t=BitVec.twoPow 64 k)) (λu v _=>match v with|.int _ n=>if n=0 then 0 else 18446744073709551616-n.toNat|_=>0)
  ⟨rfl,x,1,rfl,rfl,rfl,.inr ⟨0,by omega,rfl⟩⟩ ?_
 rintro u v w' ⟨rfl,a,t,rfl,rfl,hs,ht⟩;refine V1.i (XI _ _) ?_;rcases ht with rfl|⟨k,hk,ht⟩
 .refine If.f ⟨?_,rfl⟩;rw[←hs];simp
 have hp:t.toNat=2^k:=by
  subst ht;rw[BitVec.toNat_twoPow,Nat.mod_eq_of_lt (Nat.pow_lt_pow_right aj hk)]
 have hp0:0<2^k:=Nat.pos_of_ne_zero ak;have bO:=t.isLt;have aI:(t==0)=false:=by
  rw[beq_eq_false_iff_ne];intro h;rw[h]at hp;simp at hp
  omega
 rw[aI];refine If.t ?_;refine V1.i (XE _ _ _) ?_;refine V1.i (XF _ _ _) ?_;refine V1.i (XH _ _) ?_;have hm:(t.toNat:Int)≠0:=by omega
 rcases zW a t k ht with⟨h1,h2⟩|⟨h1,h2⟩
 .rw[h1,h2];refine⟨⟨rfl,a+t,0,rfl,rfl,by rw[←hs];simp,.inl rfl⟩,?_⟩;show(if((0:BitVec 64).toNat:Int)=0 then 0 else 18446744073709551616-((0:BitVec 64).toNat:Int).toNat)<(if(t.toNat:Int)=0 then 0 else 18446744073709551616-(t.toNat:Int).toNat)
  rw[if_neg hm];simp
  omega
 .rw[h1];refine⟨⟨rfl,a^^^t,t+t,rfl,rfl,by rw[h2,hs],?_⟩,?_⟩
  .by_cases xn:k=63
   .left
    subst xn;subst ht;decide
   .right
    refine⟨k+1,by omega,?_⟩;apply BitVec.eq_of_toNat_eq
    rw[BitVec.toNat_add,hp,BitVec.toNat_twoPow];congr 1
    omega
  .show(if((t+t:BitVec 64).toNat:Int)=0 then 0 else 18446744073709551616-((t+t:BitVec 64).toNat:Int).toNat)<(if(t.toNat:Int)=0 then 0 else 18446744073709551616-(t.toNat:Int).toNat)
   rw[if_neg hm];have:=BitVec.toNat_add t t;split
   .omega
   .rename_i h
    have h4:(t+t).toNat=2*t.toNat:=by
     rw[this]at h⊢;by_cases xn:k=63
     .subst xn;rw[hp]at h;exact absurd az h
     .have:t.toNat*2=2^(k+1):=by rw[hp,Nat.pow_succ]
      have:2^(k+1)<=2^63:=Nat.pow_le_pow_right aj aj;omega
    omega
theorem c208(w:Wd)(x:BitVec 64):Calls prog 208 #[uV x] w (aZ (λv w'=>v=uV (-x)/\w'=w) NP):=by
 refine Xx ?_;unfold Pm;refine V1.i (XG _ _) ?_;refine Ps (c228 _ _) ?_ (NP.no (e:=_));rintro _ w' ⟨rfl,rfl⟩;exact⟨by rw[BitVec.neg_eq_not_add];rfl,rfl⟩
theorem AG(w:Wd)(n:Int):(Go.convert 2 205 (.int .i64 n)).run prog w=.ok (uV (BitVec.ofInt 64 n)) w:=by
 have:(Go.convert 2 205 (.int .i64 n)).run prog w=.ok (.int .u64 (IntKind.u64.wrap n)) w:=by simp[go_sem]
 rw[this,IntKind.wrap_u64];unfold uV;rw[BitVec.toNat_ofInt];congr 2
 omega
theorem c175(w:Wd)(n:Int)(h:i64 n=true):Calls prog 175 #[.int .i64 n] w (aZ (λv w'=>v=.int .u64 (n.natAbs:Nat)/\w'=w) NP):=by
 refine Xo ?_;unfold Pb;have h:=of_decide_eq_true h;refine V1.i (v:=.bool (decide (n<0))) (w':=w) au ?_;refine If.b (λhn=>?_) (λhn=>?_)
 .have hn:=of_decide_eq_true hn;refine V1.i (AG _ _) ?_;refine Pn (c208 _ _) ?_ (NP.no (e:=_));rintro _ w' ⟨rfl,rfl⟩;refine⟨?_,rfl⟩;unfold uV;rw[BitVec.toNat_neg,BitVec.toNat_ofInt];congr 1
  omega
 .have hn:=of_decide_eq_false hn;refine V1.i (AG _ _) ?_;refine⟨?_,rfl⟩;unfold uV;rw[BitVec.toNat_ofInt];congr 1
  omega
theorem qS:∀u:Nat,(Lib.decDigits u).length<=u/2+1:=by
 intro u;induction u using Nat.strongRecOn with
 |_ u ih=>
  unfold Lib.decDigits;split
  .simp
  .have:=ih (u/10) aj;rw[length_append];simp
   omega
theorem Qz:∀(u:Nat) (w:Wd),u<18446744073709551616->Calls prog 174 #[.int .u64 (u:Nat)] w (aZ (λv w'=>v=str (Lib.decDigits u)/\aD [] w w') NP):=by
 intro u;induction u using Nat.strongRecOn with
 |_ u ih=>
  intro w hu;refine Xn ?_;unfold Pa;refine V1.i (v:=.bool (decide (u<10))) (w':=w) ay ?_;by_cases h:u<10
  .rw[show decide (u<10)=true by simpa using h];refine If.t ?_;refine V1.i (v:=.int .u8 (u:Nat)) (w':=w) (by simp[go_sem];rw[IntKind.wrap_u8];omega) ?_;refine V1.i (v:=.int .u8 ((48+u:Nat):Int)) (w':=w) (by simp[go_sem];rw[IntKind.wrap_u8];omega) ?_;have e:((UInt8.ofNat (48+u)).toNat:Int)=((48+u:Nat):Int):=by
    rw[UInt8.toNat_ofNat'];omega
   refine V1.HB [UInt8.ofNat (48+u)] ak ak (by simp[go_sem,rj];rw[show((48:Int)+(u:Int))%256=48+u by omega]) λb w1 A N=>?_;refine V1.i A.str ?_;refine⟨?_,N.aA⟩;unfold Lib.decDigits;rw[dif_pos h]
  .rw[show decide (u<10)=false by simpa using h];refine If.f ?_;refine V1.i (v:=.int .u64 ((u/10:Nat):Int)) (w':=w) (by simp[go_sem];rw[IntKind.wrap_u64];omega) ?_;refine vN (ih (u/10) aj w aj) ?_ (NP.no (e:=_));rintro _ w1 ⟨rfl,K1⟩;refine V1.i (v:=.int .u64 ((u%10:Nat):Int)) (w':=w1) (by simp[go_sem];rw[Int.tmod_eq_emod_of_nonneg aj]) ?_;refine vN (ih (u%10) aj w1 aj) ?_ (NP.no (e:=_));rintro _ w2 ⟨rfl,K2⟩;have l1:=qS (u/10);have l2:=qS (u%10);refine V1.i (BO _ _ _ _ _ aj) ?_;refine⟨?_,K1.trans K2⟩;have e:Lib.decDigits (u%10)=[UInt8.ofNat (48+u%10)]:=by
    unfold Lib.decDigits;rw[dif_pos aj]
   rw[e];conv=>rhs;unfold Lib.decDigits
   rw[dif_neg h]
theorem Yz(w:Wd)(n:Int)(h:i64 n=true):Calls prog 121 #[.int .i64 n] w (aZ (λv w'=>v=str (Lib.itoa n)/\aD [] w w') NP):=by
 refine Xd ?_;unfold OZ;have h':=of_decide_eq_true h;refine V1.i (v:=.bool (decide (n<0))) (w':=w) au ?_;unfold Lib.itoa;refine If.b (λhn=>?_) (λhn=>?_)
 .have hn:=of_decide_eq_true hn;rw[if_pos hn];refine EO (c175 w n h) ?_ (NP.no (e:=_));rintro _ w' ⟨rfl,rfl⟩;refine vN (Qz n.natAbs w' aj) ?_ (NP.no (e:=_));rintro _ w1 ⟨rfl,K1⟩;have l1:=qS n.natAbs;refine V1.i (BO _ _ _ [45] _ al) ?_;exact⟨rfl,K1⟩
 .have hn:=of_decide_eq_false hn;rw[if_neg hn];refine EO (c175 w n h) ?_ (NP.no (e:=_));rintro _ w' ⟨rfl,rfl⟩;refine vN (Qz n.natAbs w' aj) ?_ (NP.no (e:=_));rintro _ w1 ⟨rfl,K1⟩;exact⟨by rw[show n.toNat=n.natAbs by omega],K1⟩
end Go.Proofs.YtoddjlclpnoomaaGreatDoor

import Derived.Test.YtoddjlclpnoomaaGreatDoorV23
set_option linter.unusedVariables false
set_option linter.unusedSimpArgs false
set_option maxRecDepth 100000
open Go.Proofs.Tryz
open Go.Instr (alloc loadAt storeAt fieldAt typeAssert extract)
open List (take_succ_eq_append_getElem take_length)
open Nat (lt_or_ge le_refl)
open Array (replicate)
open Bool (and_eq_true)
open Go.World (setCell)
namespace Go.Proofs.YtoddjlclpnoomaaGreatDoor
open Go.Sh
noncomputable def dr(s t:Tr):Bool:=@decide (s=t) (Classical.propDecidable _)
theorem mW{s t:Tr}:dr s t=true↔s=t:=by simp[dr]
theorem eQ(s:Tr):dr s s=true:=mW.2 rfl
theorem fX{s t:Tr}(h:s≠t):dr s t=false:=by simp[dr,h]
theorem zu{k n:Int}{x:By}{l r ks gs:Tr}{ps:LB}{b:Tr}{k2 n2:Int}{x2:By}{l2 r2 oy oz:Tr}{ix:LB}{b2:Tr}:dr (.ex k n x l r ks gs ps b) (.ex k2 n2 x2 l2 r2 oy oz ix b2)=(((((((((k==k2)&&(n==n2))&&(x==x2))&&dr l l2)&&dr r r2)&&dr ks oy)&&dr gs oz)&&(ps==ix))&&dr b b2):=by
 rw[Bool.eq_iff_iff];simp[mW,and_assoc]
theorem zv{k:Int}{x:By}{l r t a b:Tr}{k2:Int}{x2:By}{l2 r2 t2 a2 b2:Tr}:dr (.st k x l r t a b) (.st k2 x2 l2 r2 t2 a2 b2)=(((((((k==k2)&&(x==x2))&&dr l l2)&&dr r r2)&&dr t t2)&&dr a a2)&&dr b b2):=by
 rw[Bool.eq_iff_iff];simp[mW,and_assoc]
theorem ir{a b a2 b2:Tr}:dr (.cons a b) (.cons a2 b2)=(dr a a2&&dr b b2):=by
 rw[Bool.eq_iff_iff];simp[mW]
theorem Ew(w:Wd)(cx cy:Bool)(a b:Nat):(Bo .neq 3 cx cy (.int .i64 (a:Nat)) (.int .i64 (b:Nat))).run prog w=.ok (.bool (!decide (a=b))) w:=by
 simp[go_sem,Bo]
 by_cases h:a=b
 .subst h;simp
 .simp[h];omega
theorem Of(w:Wd)(cx cy:Bool)(a b:Int):(Bo .eql 2 cx cy (.int .i64 a) (.int .i64 b)).run prog w=.ok (.bool (a==b)) w:=by simp[go_sem,Bo]
theorem Q1.gd{b c:Bool}{X:(Va->Prop)->Prop}{g:Va->Prop}(r:Bool)(hX:b=c->∀k:Va->Prop,k (.bool r)->X k)(hg:g (if b=c then .bool r else undef)):
  Q1 (λk=>Gd (.bool b) c (X k) (k undef)) g:=by
 refine Q1.go (Gd.b (λh=>hX h g ?_) (λh=>?_))
 .rw[if_pos h]at hg;exact hg
 .rw[if_neg (by rw[h];cases c<;>simp)]at hg;exact hg
theorem cI.aA{F:Nat->Prop}{w w':Wd}{t:Tr}{a:Option Addr}{i k:Nat}(h:cI F w t a i k)(hk:aD [] w w'):cI F w' t a i k:=by
 rcases h with h|⟨q,e,h⟩
 .exact .inl h
 .exact .inr ⟨q,e,aP.new hk _ _ h⟩
theorem jT{w:Wd}{b o t:Nat}{cs:LV}{v:Va}(ha:At w b cs)(h1:eo t=true)(h2:cs[o]?=some v):∀w',aD [] w w'->(loadAt t (.pointer (some ⟨b,o,none⟩))).run prog w'=.ok v w':=
 λw' hw=>(aC h1) _ _ _ (by rw[(aD.at hw ha ak).cell];exact h2)
theorem cS{b:Bool}{w w':Wd}(hw:aD [] w w'):∀(e:Ending) (w2:Wd),aZ (λx w2=>x=.bool b/\aD [] w' w2) NP e w2->e=.returned (.bool b)/\aD [] w w2:=by
 intro e w2 h
 cases e<;>first|exact(False.elim h)|(obtain⟨rfl,h2⟩:=h;exact⟨rfl,aD.trans hw h2⟩)
theorem Strs.cell{F:Nat->Prop}{w:Wd}{q n c:Nat}{ss:LB}(h:Strs F w (.slice (some ⟨q,0,none⟩) n c) ss){i:Nat}(hi:i<ss.length):w.cell? ⟨q,i,none⟩=some (str ss[i]):=by
 obtain⟨q',e,hc⟩:=h.get hi;injection e with e;injection e with e;subst e;exact hc
theorem c72{F:Nat->Prop}{w:Wd}{u v:Va}{ps ix:LB}(hu:Strs F w u ps)(hv:Strs F w v ix)(hp:ps.length<=aX):
  Calls prog 72 #[u,v] w (aZ (λx w'=>x=.bool (ps==ix)/\aD [] w w') NP):=by
 refine s72 ?_;unfold Zv;obtain⟨a,c,rfl⟩:=hu.sl;obtain⟨a',c',rfl⟩:=hv.sl;refine V1.i ah ?_;refine V1.i ah ?_;refine V1.i (Ew _ _ _ _ _) ?_;by_cases hl:ps.length=ix.length
 rotate_left
 .rw[show decide (ps.length=ix.length)=false by simpa using hl];refine If.t ⟨?_,aD.refl _ _⟩;rw[show(ps==ix)=false by simp;rintro rfl;exact hl rfl]
 rw[show decide (ps.length=ix.length)=true by simpa using hl];refine If.f ?_;refine V1.i ah ?_;unfold aX at hp;refine L2.i (λx0 x1 w'=>∃i:Nat,x1=.int .i64 (i:Nat)/\i<=ps.length/\ps.take i=ix.take i/\aD [] w w') (λ_ v _=>match v with|.int _ n=>(ps.length-n.toNat)|_=>0) ⟨0,rfl,by omega,by simp,aD.refl _ _⟩ ?_;rintro x0 x1 w1 ⟨i,rfl,hi,he,K1⟩;by_cases bO:i<ps.length
 .refine V1.bt ay ?_;refine If.t ?_;have oF:i<ix.length:=by omega
  obtain⟨q,rfl,_⟩:=hu.get bO;obtain⟨q2,rfl,_⟩:=hv.get oF;have Wp:=Strs.aA K1 (λb h1 _=>⟨by simp,h1⟩) hu;have Wq:=Strs.aA K1 (λb h1 _=>⟨by simp,h1⟩) hv;refine⟨λw'=>aD [] w1 w',(aD.refl _ _).drew,?_⟩;refine Xv.i _ (λw' _=>mD w' bO) ?_;refine Xv.i (str ps[i]) (λw' hw=>(aC rfl) _ _ _ (Strs.cell (Strs.aA hw (λb h1 _=>⟨by simp,h1⟩) Wp) bO)) ?_;refine Xv.i _ (λw' _=>mD w' aj) ?_;refine Xv.i (str ix[i]) (λw' hw=>(aC rfl) _ _ _ (Strs.cell (Strs.aA hw (λb h1 _=>⟨by simp,h1⟩) Wq) oF)) ?_;refine Xv.i _ (λw' _=>KN w' _ _ _ _) ?_;intro w2 K2;by_cases hx:ps[i]=ix[i]
  .rw[show(!(ps[i]==ix[i]))=false by simp[hx]];refine If.f ?_;refine V1.i (cC _ _ _ _ _ _ aj aj) ?_;refine⟨⟨i+1,by simp,by omega,?_,K1.trans K2⟩,by simp;omega⟩;rw[take_succ_eq_append_getElem bO,take_succ_eq_append_getElem oF,he,hx]
  .rw[show(!(ps[i]==ix[i]))=true by simp[hx]];refine If.t ⟨?_,K1.trans K2⟩;rw[show(ps==ix)=false by simp;rintro rfl;exact hx rfl]
 .obtain rfl:i=ps.length:=by omega
  refine V1.bf au ?_;refine If.f ⟨?_,K1⟩;rw[take_length,hl,take_length]at he;rw[he];simp
structure wV(n:Nat):Prop where
 same:∀{F:Nat->Prop}{w:Wd}{s t:Tr}{u v:Va},tz s<n->wf s 0=true->wf t 0=true->aP F w s (.P u)->aP F w t (.P v)->Calls prog 41 #[u,v] w (aZ (λx w'=>x=.bool (dr s t)/\aD [] w w') NP)
 stm:∀{F:Nat->Prop}{w:Wd}{s t:Tr}{u v:Va},tz s<n->wf s 2=true->wf t 2=true->aP F w s (.P u)->aP F w t (.P v)->Calls prog 40 #[u,v] w (aZ (λx w'=>x=.bool (dr s t)/\aD [] w w') NP)
theorem Wr(w:Wd)(a b:Va):(Cv (.func (.func 41) #[] #[]) #[a,b]).run prog w=.ok (.enter 41 #[a,b]) w:=ai
theorem c71{n:Nat}(hn:n<=aX)(H:wV n){F:Nat->Prop}{w:Wd}{s t:Tr}{u v:Va}(hz:tz s<=n)(hs:wf s 1=true)(ht:wf t 1=true)(rs:aP F w s (.L u))(rt:aP F w t (.L v)):
  Calls prog 71 #[u,v,.func (.func 41) #[] #[]] w (aZ (λx w'=>x=.bool (dr s t)/\aD [] w w') NP):=by
 refine s71 ?_;unfold Zu;have is:=bF 1 ak hs;have it:=bF 1 ak ht;obtain⟨a,c,rfl⟩:=rs.oK is;obtain⟨a',c',rfl⟩:=rt.oK it;have os:=rs.rowAt is;have ot:=rt.rowAt it;refine V1.i ah ?_;refine V1.i ah ?_;refine V1.i (Ew _ _ _ _ _) ?_;by_cases hl:len s=len t
 rotate_left
 .rw[show decide (len s=len t)=false by simpa using hl];refine If.t ⟨?_,aD.refl _ _⟩;rw[fX (λh=>hl (by rw[h]))]
 rw[show decide (len s=len t)=true by simpa using hl];refine If.f ?_;refine V1.i ah ?_;rw[←hl]at ot;refine L2.i (λx0 x1 w'=>∃i j s' t',x1=.int .i64 (i:Nat)/\i+j=len s/\tz s'<=n/\i+tz s'<=n/\wf s' 1=true/\wf t' 1=true/\cI F w' s' a i j/\cI F w' t' a' i j/\aD [] w w'/\dr s t=dr s' t') (λ_ v _=>match v with|.int _ n=>(len s-n.toNat)|_=>0) ⟨0,len s,s,t,rfl,by omega,hz,by omega,hs,ht,os,ot,aD.refl _ _,rfl⟩ ?_;clear os ot hs ht rs rt is it hz;rintro x0 x1 w1 ⟨i,j,s',t',rfl,tC,hz,zw,hs,ht,os,ot,K1,he⟩;unfold aX at hn;rcases dn hs with rfl|⟨x,l,rfl,hx,Cz⟩
 .have hj:j=0:=by
   rcases os with⟨_,h⟩|⟨q,_,h⟩
   .exact h
   .exact h
  subst hj;refine V1.bf ay ?_;refine If.f ⟨?_,K1⟩;rw[he];rcases dn ht with rfl|⟨y,m,rfl,hy,hm⟩
  .rw[eQ]
  .rcases ot with⟨h,_⟩|⟨q,_,j',u,h,_⟩
   .cases h
   .omega
 .rcases os with⟨h,_⟩|⟨q,rfl,j',u,rfl,hc,hf,rx,rl⟩
  .cases h
  have ol:cI F w1 l (some ⟨q,0,none⟩) (i+1) j':=.inr ⟨q,rfl,rl⟩;rcases dn ht with rfl|⟨y,m,rfl,hy,hm⟩
  .rcases ot with⟨_,h⟩|⟨q,_,h⟩
   .omega
   .exact absurd (show j'+1=0 from h) aj
  rcases ot with⟨h,_⟩|⟨q2,rfl,j2,u2,e2,kI,IA,ry,rm⟩
  .cases h
  obtain rfl:j'=j2:=by omega
  have om:cI F w1 m (some ⟨q2,0,none⟩) (i+1) j':=.inr ⟨q2,rfl,rm⟩;clear rl rm;have Bb:=hz;simp only[tz]at Bb zw;have xt:=bE x;have wL:=bE l;refine V1.bt ay ?_;refine If.t ?_;refine V1.i (mL aj) ?_;refine V1.i ((aC rfl) _ _ _ hc) ?_;refine V1.i (mL aj) ?_;refine V1.i ((aC rfl) _ _ _ kI) ?_;refine Up.c (Wr _ _ _) ?_;refine aZ.imp (H.same aj hx hy rx ry) ?_ (λ_ _ h=>h.elim);rintro _ w2 ⟨rfl,K2⟩;rw[ir]at he
  cases uJ:dr x y with
  |false=>
   rw[uJ,Bool.false_and]at he;refine V1.i ah ?_;refine If.t ⟨?_,K1.trans K2⟩;rw[he]
  |true=>
   rw[uJ,Bool.true_and]at he;refine V1.i ah ?_;refine If.f ?_;refine V1.i (cC _ _ _ _ _ _ aj aj) ?_;exact⟨⟨i+1,j',l,m,by simp,by omega,by omega,by omega,Cz,hm,ol.aA K2,om.aA K2,K1.trans K2,he⟩,by simp;omega⟩
theorem Ws(w:Wd)(a b:Va):(Cv (.func (.func 40) #[] #[]) #[a,b]).run prog w=.ok (.enter 40 #[a,b]) w:=ai
theorem c39{n:Nat}(hn:n<=aX)(H:wV n){F:Nat->Prop}{w:Wd}{s t:Tr}{u v:Va}(hz:tz s<=n)(hs:wf s 3=true)(ht:wf t 3=true)(rs:aP F w s (.L u))(rt:aP F w t (.L v)):
  Calls prog 39 #[u,v,.func (.func 40) #[] #[]] w (aZ (λx w'=>x=.bool (dr s t)/\aD [] w w') NP):=by
 refine s39 ?_;unfold Zh;have is:=bF 3 ak hs;have it:=bF 3 ak ht;obtain⟨a,c,rfl⟩:=rs.oK is;obtain⟨a',c',rfl⟩:=rt.oK it;have os:=rs.rowAt is;have ot:=rt.rowAt it;refine V1.i ah ?_;refine V1.i ah ?_;refine V1.i (Ew _ _ _ _ _) ?_;by_cases hl:len s=len t
 rotate_left
 .rw[show decide (len s=len t)=false by simpa using hl];refine If.t ⟨?_,aD.refl _ _⟩;rw[fX (λh=>hl (by rw[h]))]
 rw[show decide (len s=len t)=true by simpa using hl];refine If.f ?_;refine V1.i ah ?_;rw[←hl]at ot;refine L2.i (λx0 x1 w'=>∃i j s' t',x1=.int .i64 (i:Nat)/\i+j=len s/\tz s'<=n/\i+tz s'<=n/\wf s' 3=true/\wf t' 3=true/\cI F w' s' a i j/\cI F w' t' a' i j/\aD [] w w'/\dr s t=dr s' t') (λ_ v _=>match v with|.int _ n=>(len s-n.toNat)|_=>0) ⟨0,len s,s,t,rfl,by omega,hz,by omega,hs,ht,os,ot,aD.refl _ _,rfl⟩ ?_;clear os ot hs ht rs rt is it hz;rintro x0 x1 w1 ⟨i,j,s',t',rfl,tC,hz,zw,hs,ht,os,ot,K1,he⟩;unfold aX at hn;rcases dq hs with rfl|⟨x,l,rfl,hx,Cz⟩
 .have hj:j=0:=by
   rcases os with⟨_,h⟩|⟨q,_,h⟩
   .exact h
   .exact h
  subst hj;refine V1.bf ay ?_;refine If.f ⟨?_,K1⟩;rw[he];rcases dq ht with rfl|⟨y,m,rfl,hy,hm⟩
  .rw[eQ]
  .rcases ot with⟨h,_⟩|⟨q,_,j',u,h,_⟩
   .cases h
   .omega
 .rcases os with⟨h,_⟩|⟨q,rfl,j',u,rfl,hc,hf,rx,rl⟩
  .cases h
  have ol:cI F w1 l (some ⟨q,0,none⟩) (i+1) j':=.inr ⟨q,rfl,rl⟩;rcases dq ht with rfl|⟨y,m,rfl,hy,hm⟩
  .rcases ot with⟨_,h⟩|⟨q,_,h⟩
   .omega
   .exact absurd (show j'+1=0 from h) aj
  rcases ot with⟨h,_⟩|⟨q2,rfl,j2,u2,e2,kI,IA,ry,rm⟩
  .cases h
  obtain rfl:j'=j2:=by omega
  have om:cI F w1 m (some ⟨q2,0,none⟩) (i+1) j':=.inr ⟨q2,rfl,rm⟩;clear rl rm;have Bb:=hz;simp only[tz]at Bb zw;have xt:=bE x;have wL:=bE l;refine V1.bt ay ?_;refine If.t ?_;refine V1.i (uD aj) ?_;refine V1.i ((aC rfl) _ _ _ hc) ?_;refine V1.i (uD aj) ?_;refine V1.i ((aC rfl) _ _ _ kI) ?_;refine Up.c (Ws _ _ _) ?_;refine aZ.imp (H.stm aj hx hy rx ry) ?_ (λ_ _ h=>h.elim);rintro _ w2 ⟨rfl,K2⟩;rw[ir]at he
  cases uJ:dr x y with
  |false=>
   rw[uJ,Bool.false_and]at he;refine V1.i ah ?_;refine If.t ⟨?_,K1.trans K2⟩;rw[he]
  |true=>
   rw[uJ,Bool.true_and]at he;refine V1.i ah ?_;refine If.f ?_;refine V1.i (cC _ _ _ _ _ _ aj aj) ?_;exact⟨⟨i+1,j',l,m,by simp,by omega,by omega,by omega,Cz,hm,ol.aA K2,om.aA K2,K1.trans K2,he⟩,by simp;omega⟩
theorem RZ{n:Nat}(hn:n<=aX)(H:wV n){F:Nat->Prop}{w:Wd}{s t:Tr}{u v:Va}(hz:tz s<=n)(hs:wf s 3=true)(ht:wf t 3=true)(rs:aP F w s (.L u))(rt:aP F w t (.L v)):
  Calls prog 22 #[u,v] w (aZ (λx w'=>x=.bool (dr s t)/\aD [] w w') NP):=by
 refine s22 ?_;unfold Ze;refine SU (c39 hn H hz hs ht rs rt) ?_ (NP.no (e:=_));rintro _ w1 ⟨rfl,K1⟩;exact⟨rfl,K1⟩
theorem c41{n:Nat}(hn:n<=aX)(H:wV n){F:Nat->Prop}{w:Wd}{s t:Tr}{u v:Va}(hz:tz s<n+1)(hs:wf s 0=true)(ht:wf t 0=true)(rs:aP F w s (.P u))(rt:aP F w t (.P v)):
  Calls prog 41 #[u,v] w (aZ (λx w'=>x=.bool (dr s t)/\aD [] w w') NP):=by
 refine s41 ?_;unfold Zj;rcases bM hs with rfl|⟨k,nn,x,l,r,ks,gs,ps,b,rfl⟩
 .obtain rfl:u=.pointer none:=rs;rcases bM ht with rfl|⟨k2,Bc,x2,l2,r2,oy,oz,ix,b2,rfl⟩
  .obtain rfl:v=.pointer none:=rt;repeat(first|refine J1.go ?_|refine J0.go ?_|refine Gd.tt ?_|refine Gd.ff ?_|refine Gd.tf ?_|refine Gd.ft ?_|refine Gd.u ?_|refine If.t ?_|refine If.f ?_|refine Up.i (Nc.p _ _) ?_|refine V1.load (aC rfl) aw rfl ?_|refine V1.i (w':=w) ax ?_)
   exact⟨by rw[eQ],aD.refl _ _⟩
  .obtain⟨q2,iq,uE,uF,Cx,uG,A9,uH,rfl,_,a2,tK,tL,CA,CB,Ex,tM⟩:=rt;rw[fX bg];unfold ptr;repeat(first|refine J1.go ?_|refine J0.go ?_|refine Gd.tt ?_|refine Gd.ff ?_|refine Gd.tf ?_|refine Gd.ft ?_|refine Gd.u ?_|refine If.t ?_|refine If.f ?_|refine Up.i (Nc.p _ _) ?_|refine V1.load (aC rfl) aw rfl ?_|refine V1.i (w':=w) ax ?_)
   exact⟨rfl,aD.refl _ _⟩
 obtain⟨q,line,lv,rv,kv,av,pv,bv,rfl,_,a1,rl,rr,rk,rg,rp,rb⟩:=rs;rcases bM ht with rfl|⟨k2,Bc,x2,l2,r2,oy,oz,ix,b2,rfl⟩
 .obtain rfl:v=.pointer none:=rt;rw[fX bg];unfold ptr;repeat(first|refine J1.go ?_|refine J0.go ?_|refine Gd.tt ?_|refine Gd.ff ?_|refine Gd.tf ?_|refine Gd.ft ?_|refine Gd.u ?_|refine If.t ?_|refine If.f ?_|refine Up.i (Nc.p _ _) ?_|refine V1.load (aC rfl) aw rfl ?_|refine V1.i (w':=w) ax ?_)
  exact⟨rfl,aD.refl _ _⟩
 obtain⟨q2,iq,uE,uF,Cx,uG,A9,uH,rfl,_,a2,tK,tL,CA,CB,Ex,tM⟩:=rt;unfold ptr;refine V1.bf au ?_;refine J1.go (Gd.ff ?_);refine V1.bf au ?_;refine V1.bf au ?_;refine If.f ?_;refine⟨λw'=>aD [] w w',(aD.refl _ _).drew,?_⟩;simp only[wf,and_eq_true]at hs ht;obtain⟨⟨⟨⟨⟨_,hl⟩,hr⟩,hk⟩,hg⟩,hb⟩:=hs;obtain⟨⟨⟨⟨⟨_,gI⟩,gO⟩,km⟩,yA⟩,sC⟩:=ht;simp only[tz]at hz;refine⟨_,λw' _=>⟨rfl,rfl⟩,?_⟩;refine Xv.i _ (λw' _=>by simp[go_sem]<;>trivial) ?_;refine Xv.i (.int .i64 k) (jT a1 rfl rfl) ?_;refine⟨_,λw' _=>⟨rfl,rfl⟩,?_⟩;refine Xv.i _ (λw' _=>by simp[go_sem]<;>trivial) ?_;refine Xv.i (.int .i64 k2) (jT a2 rfl rfl) ?_
 refine Xv.i (.bool (k==k2)) (λw' _=>lX w' _ _ _ _) ?_;refine Q1.gd (nn==Bc) (λ_ kx ed=>?_) ?_
 .refine⟨_,λw' _=>⟨rfl,rfl⟩,?_⟩;refine Xv.i _ (λw' _=>by simp[go_sem]<;>trivial) ?_;refine Xv.i (.int .i64 nn) (jT a1 rfl rfl) ?_;refine⟨_,λw' _=>⟨rfl,rfl⟩,?_⟩;refine Xv.i _ (λw' _=>by simp[go_sem]<;>trivial) ?_;refine Xv.i (.int .i64 Bc) (jT a2 rfl rfl) ?_;refine Xv.i (.bool (nn==Bc)) (λw' _=>Of w' _ _ _ _) ?_;exact ed
 refine Xv.i _ (λw' _=>gi w' _ _) ?_;refine Q1.gd (x==x2) (λ_ kx ed=>?_) ?_
 .refine⟨_,λw' _=>⟨rfl,rfl⟩,?_⟩;refine Xv.i _ (λw' _=>by simp[go_sem]<;>trivial) ?_;refine Xv.i (str x) (jT a1 rfl rfl) ?_;refine⟨_,λw' _=>⟨rfl,rfl⟩,?_⟩;refine Xv.i _ (λw' _=>by simp[go_sem]<;>trivial) ?_;refine Xv.i (str x2) (jT a2 rfl rfl) ?_;refine Xv.i (.bool (x==x2)) (λw' _=>BM w' _ _ _ _) ?_;exact ed
 refine Xv.i _ (λw' _=>gi w' _ _) ?_;refine Q1.gd (dr l l2) (λ_ kx ed=>?_) ?_
 .refine⟨_,λw' _=>⟨rfl,rfl⟩,?_⟩;refine Xv.i _ (λw' _=>by simp[go_sem]<;>trivial) ?_;refine Xv.i (lv) (jT a1 rfl rfl) ?_;refine⟨_,λw' _=>⟨rfl,rfl⟩,?_⟩;refine Xv.i _ (λw' _=>by simp[go_sem]<;>trivial) ?_;refine Xv.i (uE) (jT a2 rfl rfl) ?_;refine Xq.call (fn:=f41) (.bool (dr l l2)) (aJ func41 (c:=bA f41) ai ai _) (λw' hw=>(H.same aj hl gI (aP.new hw _ _ rl) (aP.new hw _ _ tK)).mono ?_) ?_
  .exact cS hw
  exact ed
 refine Xv.i _ (λw' _=>gi w' _ _) ?_;refine Q1.gd (dr r r2) (λ_ kx ed=>?_) ?_
 .refine⟨_,λw' _=>⟨rfl,rfl⟩,?_⟩;refine Xv.i _ (λw' _=>by simp[go_sem]<;>trivial) ?_;refine Xv.i (rv) (jT a1 rfl rfl) ?_;refine⟨_,λw' _=>⟨rfl,rfl⟩,?_⟩;refine Xv.i _ (λw' _=>by simp[go_sem]<;>trivial) ?_;refine Xv.i (uF) (jT a2 rfl rfl) ?_;refine Xq.call (fn:=f41) (.bool (dr r r2)) (aJ func41 (c:=bA f41) ai ai _) (λw' hw=>(H.same aj hr gO (aP.new hw _ _ rr) (aP.new hw _ _ tL)).mono ?_) ?_
  .exact cS hw
  exact ed
 refine Xv.i _ (λw' _=>gi w' _ _) ?_;refine Q1.gd (dr ks oy) (λ_ kx ed=>?_) ?_
 .refine⟨_,λw' _=>⟨rfl,rfl⟩,?_⟩;refine Xv.i _ (λw' _=>by simp[go_sem]<;>trivial) ?_;refine Xv.i (kv) (jT a1 rfl rfl) ?_;refine⟨_,λw' _=>⟨rfl,rfl⟩,?_⟩;refine Xv.i _ (λw' _=>by simp[go_sem]<;>trivial) ?_;refine Xv.i (Cx) (jT a2 rfl rfl) ?_;refine Xq.call (fn:=f71) (.bool (dr ks oy)) (aJ func71 (c:=bA f71) ai ai _) (λw' hw=>(c71 hn H aj hk km (aP.new hw _ _ rk) (aP.new hw _ _ CA)).mono ?_) ?_
  .exact cS hw
  exact ed
 refine Xv.i _ (λw' _=>gi w' _ _) ?_;refine Q1.gd (dr gs oz) (λ_ kx ed=>?_) ?_
 .refine⟨_,λw' _=>⟨rfl,rfl⟩,?_⟩;refine Xv.i _ (λw' _=>by simp[go_sem]<;>trivial) ?_;refine Xv.i (av) (jT a1 rfl rfl) ?_;refine⟨_,λw' _=>⟨rfl,rfl⟩,?_⟩;refine Xv.i _ (λw' _=>by simp[go_sem]<;>trivial) ?_;refine Xv.i (uG) (jT a2 rfl rfl) ?_;refine Xq.call (fn:=f71) (.bool (dr gs oz)) (aJ func71 (c:=bA f71) ai ai _) (λw' hw=>(c71 hn H aj hg yA (aP.new hw _ _ rg) (aP.new hw _ _ CB)).mono ?_) ?_
  .exact cS hw
  exact ed
 refine Xv.i _ (λw' _=>gi w' _ _) ?_;refine Q1.gd (ps==ix) (λ_ kx ed=>?_) ?_
 .refine⟨_,λw' _=>⟨rfl,rfl⟩,?_⟩;refine Xv.i _ (λw' _=>by simp[go_sem]<;>trivial) ?_;refine Xv.i (pv) (jT a1 rfl rfl) ?_;refine⟨_,λw' _=>⟨rfl,rfl⟩,?_⟩;refine Xv.i _ (λw' _=>by simp[go_sem]<;>trivial) ?_;refine Xv.i (A9) (jT a2 rfl rfl) ?_;refine Xq.call (fn:=f72) (.bool (ps==ix)) (aJ func72 (c:=bA f72) ai ai _) (λw' hw=>(c72 (Strs.aA hw (λb h1 _=>⟨by simp,h1⟩) rp) (Strs.aA hw (λb h1 _=>⟨by simp,h1⟩) Ex) aj).mono ?_) ?_
  .exact cS hw
  exact ed
 refine Xv.i _ (λw' _=>gi w' _ _) ?_;refine Q1.gd (dr b b2) (λ_ kx ed=>?_) ?_
 .refine⟨_,λw' _=>⟨rfl,rfl⟩,?_⟩;refine Xv.i _ (λw' _=>by simp[go_sem]<;>trivial) ?_;refine Xv.i (bv) (jT a1 rfl rfl) ?_;refine⟨_,λw' _=>⟨rfl,rfl⟩,?_⟩;refine Xv.i _ (λw' _=>by simp[go_sem]<;>trivial) ?_;refine Xv.i (uH) (jT a2 rfl rfl) ?_;refine Xq.call (fn:=f22) (.bool (dr b b2)) (aJ func22 (c:=bA f22) ai ai _) (λw' hw=>(RZ hn H aj hb sC (aP.new hw _ _ rb) (aP.new hw _ _ tM)).mono ?_) ?_
  .exact cS hw
  exact ed
 refine Xv.i _ (λw' _=>gi w' _ _) ?_;intro w2 K2;exact⟨by rw[zu],K2⟩
theorem c40{n:Nat}(hn:n<=aX)(H:wV n){F:Nat->Prop}{w:Wd}{s t:Tr}{u v:Va}(hz:tz s<n+1)(hs:wf s 2=true)(ht:wf t 2=true)(rs:aP F w s (.P u))(rt:aP F w t (.P v)):
  Calls prog 40 #[u,v] w (aZ (λx w'=>x=.bool (dr s t)/\aD [] w w') NP):=by
 refine s40 ?_;unfold Zi;rcases dC hs with rfl|⟨k,x,l,r,t0,a,b,rfl⟩
 .obtain rfl:u=.pointer none:=rs;rcases dC ht with rfl|⟨k2,x2,l2,r2,t2,a2,b2,rfl⟩
  .obtain rfl:v=.pointer none:=rt;repeat(first|refine J1.go ?_|refine J0.go ?_|refine Gd.tt ?_|refine Gd.ff ?_|refine Gd.tf ?_|refine Gd.ft ?_|refine Gd.u ?_|refine If.t ?_|refine If.f ?_|refine Up.i (Nc.p _ _) ?_|refine V1.load (aC rfl) aw rfl ?_|refine V1.i (w':=w) ax ?_)
   exact⟨by rw[eQ],aD.refl _ _⟩
  .obtain⟨q2,iq,uE,uF,Oc,uG,uH,rfl,_,Ey,tK,tL,Og,Oh,tM⟩:=rt;rw[fX bg];unfold ptr;repeat(first|refine J1.go ?_|refine J0.go ?_|refine Gd.tt ?_|refine Gd.ff ?_|refine Gd.tf ?_|refine Gd.ft ?_|refine Gd.u ?_|refine If.t ?_|refine If.f ?_|refine Up.i (Nc.p _ _) ?_|refine V1.load (aC rfl) aw rfl ?_|refine V1.i (w':=w) ax ?_)
   exact⟨rfl,aD.refl _ _⟩
 obtain⟨q,line,lv,rv,tv,av,bv,rfl,_,a1,rl,rr,Wt,ra,rb⟩:=rs;rcases dC ht with rfl|⟨k2,x2,l2,r2,t2,a2,b2,rfl⟩
 .obtain rfl:v=.pointer none:=rt;rw[fX bg];unfold ptr;repeat(first|refine J1.go ?_|refine J0.go ?_|refine Gd.tt ?_|refine Gd.ff ?_|refine Gd.tf ?_|refine Gd.ft ?_|refine Gd.u ?_|refine If.t ?_|refine If.f ?_|refine Up.i (Nc.p _ _) ?_|refine V1.load (aC rfl) aw rfl ?_|refine V1.i (w':=w) ax ?_)
  exact⟨rfl,aD.refl _ _⟩
 obtain⟨q2,iq,uE,uF,Oc,uG,uH,rfl,_,Ey,tK,tL,Og,Oh,tM⟩:=rt;unfold ptr;refine V1.bf au ?_;refine J1.go (Gd.ff ?_);refine V1.bf au ?_;refine V1.bf au ?_;refine If.f ?_;refine⟨λw'=>aD [] w w',(aD.refl _ _).drew,?_⟩;simp only[wf,and_eq_true]at hs ht;obtain⟨⟨⟨⟨hl,hr⟩,Wu⟩,ha⟩,hb⟩:=hs;obtain⟨⟨⟨⟨gI,gO⟩,Ez⟩,D2⟩,sC⟩:=ht;simp only[tz]at hz;refine⟨_,λw' _=>⟨rfl,rfl⟩,?_⟩;refine Xv.i _ (λw' _=>by simp[go_sem]<;>trivial) ?_;refine Xv.i (.int .i64 k) (jT a1 rfl rfl) ?_;refine⟨_,λw' _=>⟨rfl,rfl⟩,?_⟩;refine Xv.i _ (λw' _=>by simp[go_sem]<;>trivial) ?_;refine Xv.i (.int .i64 k2) (jT Ey rfl rfl) ?_
 refine Xv.i (.bool (k==k2)) (λw' _=>lX w' _ _ _ _) ?_;refine Q1.gd (x==x2) (λ_ kx ed=>?_) ?_
 .refine⟨_,λw' _=>⟨rfl,rfl⟩,?_⟩;refine Xv.i _ (λw' _=>by simp[go_sem]<;>trivial) ?_;refine Xv.i (str x) (jT a1 rfl rfl) ?_;refine⟨_,λw' _=>⟨rfl,rfl⟩,?_⟩;refine Xv.i _ (λw' _=>by simp[go_sem]<;>trivial) ?_;refine Xv.i (str x2) (jT Ey rfl rfl) ?_;refine Xv.i (.bool (x==x2)) (λw' _=>BM w' _ _ _ _) ?_;exact ed
 refine Xv.i _ (λw' _=>gi w' _ _) ?_;refine Q1.gd (dr l l2) (λ_ kx ed=>?_) ?_
 .refine⟨_,λw' _=>⟨rfl,rfl⟩,?_⟩;refine Xv.i _ (λw' _=>by simp[go_sem]<;>trivial) ?_;refine Xv.i (lv) (jT a1 rfl rfl) ?_;refine⟨_,λw' _=>⟨rfl,rfl⟩,?_⟩;refine Xv.i _ (λw' _=>by simp[go_sem]<;>trivial) ?_;refine Xv.i (uE) (jT Ey rfl rfl) ?_;refine Xq.call (fn:=f41) (.bool (dr l l2)) (aJ func41 (c:=bA f41) ai ai _) (λw' hw=>(H.same aj hl gI (aP.new hw _ _ rl) (aP.new hw _ _ tK)).mono ?_) ?_
  .exact cS hw
  exact ed
 refine Xv.i _ (λw' _=>gi w' _ _) ?_;refine Q1.gd (dr r r2) (λ_ kx ed=>?_) ?_
 .refine⟨_,λw' _=>⟨rfl,rfl⟩,?_⟩;refine Xv.i _ (λw' _=>by simp[go_sem]<;>trivial) ?_;refine Xv.i (rv) (jT a1 rfl rfl) ?_;refine⟨_,λw' _=>⟨rfl,rfl⟩,?_⟩;refine Xv.i _ (λw' _=>by simp[go_sem]<;>trivial) ?_;refine Xv.i (uF) (jT Ey rfl rfl) ?_;refine Xq.call (fn:=f41) (.bool (dr r r2)) (aJ func41 (c:=bA f41) ai ai _) (λw' hw=>(H.same aj hr gO (aP.new hw _ _ rr) (aP.new hw _ _ tL)).mono ?_) ?_
  .exact cS hw
  exact ed
 refine Xv.i _ (λw' _=>gi w' _ _) ?_;refine Q1.gd (dr t0 t2) (λ_ kx ed=>?_) ?_
 .refine⟨_,λw' _=>⟨rfl,rfl⟩,?_⟩;refine Xv.i _ (λw' _=>by simp[go_sem]<;>trivial) ?_;refine Xv.i (tv) (jT a1 rfl rfl) ?_;refine⟨_,λw' _=>⟨rfl,rfl⟩,?_⟩;refine Xv.i _ (λw' _=>by simp[go_sem]<;>trivial) ?_;refine Xv.i (Oc) (jT Ey rfl rfl) ?_;refine Xq.call (fn:=f41) (.bool (dr t0 t2)) (aJ func41 (c:=bA f41) ai ai _) (λw' hw=>(H.same aj Wu Ez (aP.new hw _ _ Wt) (aP.new hw _ _ Og)).mono ?_) ?_
  .exact cS hw
  exact ed
 refine Xv.i _ (λw' _=>gi w' _ _) ?_;refine Q1.gd (dr a a2) (λ_ kx ed=>?_) ?_
 .refine⟨_,λw' _=>⟨rfl,rfl⟩,?_⟩;refine Xv.i _ (λw' _=>by simp[go_sem]<;>trivial) ?_;refine Xv.i (av) (jT a1 rfl rfl) ?_;refine⟨_,λw' _=>⟨rfl,rfl⟩,?_⟩;refine Xv.i _ (λw' _=>by simp[go_sem]<;>trivial) ?_;refine Xv.i (uG) (jT Ey rfl rfl) ?_;refine Xq.call (fn:=f22) (.bool (dr a a2)) (aJ func22 (c:=bA f22) ai ai _) (λw' hw=>(RZ hn H aj ha D2 (aP.new hw _ _ ra) (aP.new hw _ _ Oh)).mono ?_) ?_
  .exact cS hw
  exact ed
 refine Xv.i _ (λw' _=>gi w' _ _) ?_;refine Q1.gd (dr b b2) (λ_ kx ed=>?_) ?_
 .refine⟨_,λw' _=>⟨rfl,rfl⟩,?_⟩;refine Xv.i _ (λw' _=>by simp[go_sem]<;>trivial) ?_;refine Xv.i (bv) (jT a1 rfl rfl) ?_;refine⟨_,λw' _=>⟨rfl,rfl⟩,?_⟩;refine Xv.i _ (λw' _=>by simp[go_sem]<;>trivial) ?_;refine Xv.i (uH) (jT Ey rfl rfl) ?_;refine Xq.call (fn:=f22) (.bool (dr b b2)) (aJ func22 (c:=bA f22) ai ai _) (λw' hw=>(RZ hn H aj hb sC (aP.new hw _ _ rb) (aP.new hw _ _ tM)).mono ?_) ?_
  .exact cS hw
  exact ed
 refine Xv.i _ (λw' _=>gi w' _ _) ?_;intro w2 K2;exact⟨by rw[zv],K2⟩
theorem nS:∀n,n<=aX->wV n
 |0,_=>⟨λh=>absurd h (Nat.not_lt_zero _),λh=>absurd h (Nat.not_lt_zero _)⟩
 |n+1,hn=>⟨c41 aj (nS n aj),c40 aj (nS n aj)⟩
theorem alike{F:Nat->Prop}{w:Wd}{s t:Tr}{u v:Va}(hz:tz s<=aX)(hs:wf s 3=true)(ht:wf t 3=true)(rs:aP F w s (.L u))(rt:aP F w t (.L v)):
  Calls prog 22 #[u,v] w (aZ (λx w'=>x=.bool (dr s t)/\aD [] w w') NP):=
 RZ (le_refl _) (nS _ (le_refl _)) hz hs ht rs rt
theorem aP.ptr{F:Nat->Prop}{w:Wd}{t:Tr}{v:Va}(h:aP F w t (.P v))(hw:wf t 0=true):∃a,v=.pointer a:=by
 rcases bM hw with rfl|⟨k,nn,x,l,r,ks,gs,ps,b,rfl⟩
 .exact⟨_,h⟩
 .obtain⟨q,line,lv,rv,kv,av,pv,bv,rfl,_⟩:=h;exact⟨_,rfl⟩
def Oi(R:ER)(a0 a1 a2:Va)(w:Wd):Prop:=
 V1 prog (Bo .neq 20 false true a2 .nilIface) w (λc w=>If c (V1 prog (typeAssert a2 20 49 true) w (λa w=>V1 prog (extract a 0) w (λd w=>V1 prog (extract a 1) w (λe w=>V1 prog (alloc 49 true (.tuple #[])) w (λb w=>U1 prog (storeAt 49 b d) w (λw=>J0 (λk1=>V1 prog (Op.unary .not e) w (λf w=>If f (V1 prog (Instr.panic a2) w (λ_ w=>k1 w) (pn R)) (k1 w)) (pn R)) (λw=>∃S1:WP,S1 w.drew/\Xw prog (λ_=>True) (fieldAt 49 b 0) λg=>Xw prog S1 (loadAt 23 g) λh=>U1 prog (storeAt 9 a0 (.string ⟨#[]⟩)) w.drew (λw=>S1 w/\U1 prog (storeAt 23 a1 h) w (λw=>cz R (.tuple #[]) w) (pn R)) (pn R))) (pn R)) (pn R)) (pn R)) (pn R)) (pn R)) (cz R (.tuple #[]) w)) (pn R)
theorem e17(R:ER)(a0 a1 a2:Va)(w:Wd):body prog 18 [5] [] (tl (bA f17)) [a0,a1,a2] R w=Oi R a0 a1 a2 w:=ai
set_option maxHeartbeats 2000000 in
theorem Oj(p0 p1 v:Va):Ag 18 (eS 0 [p0,p1,v]) {tmps:=#[p0,p1]++((replicate 16 undef).setIfInBounds 3 v).setIfInBounds 0 v,defers:=[]}:=by
 refine⟨by simp,?_⟩;intro t x ht;simp only[eS,List.lookup]at ht;split at ht
 .rename_i h;have:=eq_of_beq h;subst this;cases ht;rfl
 .split at ht
  .rename_i h;have:=eq_of_beq h;subst this;cases ht;rfl
  .split at ht
   .rename_i h;have:=eq_of_beq h;subst this;cases ht;rfl
   .cases ht
theorem zx{p0 p1:Va}{w:Wd}{R:ER}(h:Oi R p0 p1 .nilIface w){R':Ending->FrameMode->WP}
  (hr:∀w',R (.returned (.tuple #[])) w'->R' (.returned (.tuple #[])) .returning w') (hp:∀ch w',R (.panicked ch) w'->R' (.panicked ch) .returning w'):
  CallsD prog 17 #[p0,p1] .returning w R':=by
 refine callsD_of_wpS (c:=bA f17) func17 ai λc₀ cs hu=>?_;show(Code.seq _ (tl (bA f17))).wpS _ _ _ _ _
 apply wpS_seq
 apply wpS_region
 simp[wpOpsS,go_sem,recoverD,hu,Exit.thenS]
 refine mV (n:=18) (hd:=[5]) (args:=[p0,p1,.nilIface]) (u':=.returning) (by rw[e17];exact h) (Oj p0 p1 .nilIface) rfl ?_ ai hr hp
 cases c₀
 simp_all
theorem zy{p0 p1 v:Va}{w:Wd}{R:ER}(h:Oi R p0 p1 v w){R':Ending->FrameMode->WP}
  (hr:∀w',R (.returned (.tuple #[])) w'->R' (.returned (.tuple #[])) (.panicking [{v,recovered:=true}]) w') (hp:∀ch w',R (.panicked ch) w'->R' (.panicked ch) (.panicking [{v,recovered:=true}]) w'):
  CallsD prog 17 #[p0,p1] (.panicking [{v,recovered:=false}]) w R':=by
 refine callsD_of_wpS (c:=bA f17) func17 ai λc₀ cs hu=>?_;show(Code.seq _ (tl (bA f17))).wpS _ _ _ _ _
 apply wpS_seq
 apply wpS_region
 simp[wpOpsS,go_sem,recoverD,hu,Exit.thenS]
 exact mV (n:=18) (hd:=[5]) (args:=[p0,p1,v]) (u':=.panicking [{v,recovered:=true}]) (by rw[e17];exact h) (Oj p0 p1 v) rfl rfl ai hr hp
theorem pH(a b:Va)(w:Wd):(invoke (.fn (.func 17) #[a,b]) #[]).run prog w=.ok (.enter 17 #[a,b]) w:=aJ func17 (c:=bA f17) ai ai _ _
theorem zA{res:Wd->(Va->Prop)->Prop}{R:ER}{a b:Va}{w:Wd}(h:Lv prog res R [] .returning w):
  Lv prog res R [⟨.fn (.func 17) #[a,b],#[]⟩] .returning w:=by
 refine⟨by simp,.func 17,#[a,b],17,#[a,b],rfl,pH a b w,?_⟩;refine zx (R:=λe w'=>e=.returned (.tuple #[])/\w'=w) ?_ ?_ ?_
 .unfold Oi;refine V1.bf au ?_;exact If.f ⟨rfl,rfl⟩
 .rintro w' ⟨_,rfl⟩;exact h
 .rintro ch w' ⟨e,_⟩
  cases e
theorem Wv(v:Va)(w:Wd):(typeAssert (.iface 49 v) 20 49 true).run prog w=.ok (.tuple #[v,.bool true]) w:=ai
theorem U1.w49{w:Wd}{b:Nat}{x:Va}{c:Int}{k:WP}{e:EK}(hA:At w b [x])
  (hk:∀w',tV w b [.int .i64 c] w'->k w'):U1 prog (storeAt 49 (.pointer (some ⟨b,0,none⟩)) (.agg #[.int .i64 c])) w k e:=by
 have h0:=hA.set 0 (.int .i64 c);refine U1.i (w':=w.setCell ⟨b,0,none⟩ (.int .i64 c)) (v:=()) ?_ (hk _ ⟨h0,by simp[setCell],?_,λq=>by simp only[gv]⟩)
 .simp[go_sem,hA.cell,hA.fr]
 .exact(aD.refl _ _).set _ (.inl ak)
theorem zB{res:Wd->(Va->Prop)->Prop}{R:ER}{bo be:Nat}{c:Int}{x y:Va}{w:Wd}(ao:At w bo [x])(ae:At w be [y])(aI:bo≠be)
  (h:∀w',At w' bo [str []]->At w' be [.int .i64 c]->aD [bo,be] w w'->Lv prog res R [] .returning w'):
  Lv prog res R [⟨.fn (.func 17) #[ptr bo,ptr be],#[]⟩] (.panicking (RR c)) w:=by
 refine⟨by simp,.func 17,#[ptr bo,ptr be],17,#[ptr bo,ptr be],rfl,pH _ _ w,?_⟩;refine zy (R:=λe w'=>e=.returned (.tuple #[])/\At w' bo [str []]/\At w' be [.int .i64 c]/\aD [bo,be] w w') ?_ ?_ ?_
 .unfold Oi;refine V1.bt au ?_;refine If.t ?_;refine V1.i (Wv _ w) ?_;refine V1.i ah ?_;refine V1.i ah ?_;refine V1.new (SF _) λb3 w3 N3=>?_;have lo:=ao.lt;have le:=ae.lt;have g3:=N3.ge;have ao3:=N3.aA.at ao ak;have ae3:=N3.aA.at ae ak;refine U1.w49 (x:=.int .i64 0) N3.at_ λw4 U4=>?_;have a3:At w4 b3 [.int .i64 c]:=U4.at_;have ao4:=U4.aA.at ao3 al;have ae4:=U4.aA.at ae3 al;have kk:aD [bo,be] w w4:=(N3.aA.mono ak).trans' U4.aA al;refine J0.go ?_;refine V1.i ah ?_;refine If.f ?_;have kk:aD [bo,be] w w4.drew:=kk.drew;have V2:At w4.drew bo [x]:=ao4;have V3:At w4.drew be [y]:=ae4
  have RD:At w4.drew b3 [.int .i64 c]:=a3;refine⟨λw'=>At w' b3 [.int .i64 c],RD,?_⟩;generalize w4.drew=w1 at*;refine Xw.i _ (λw' _=>by simp[go_sem]<;>trivial) ?_;refine Xw.i _ (λw' hw=>(aC rfl) _ _ _ (by rw[hw.cell];rfl)) ?_;unfold ptr;refine U1.store (aH rfl rfl) V2 ak λw2 U2=>?_;refine⟨U2.aA.at RD al,?_⟩;refine U1.store (aH rfl rfl) (U2.aA.at V3 al) ak λw3 U3=>?_;exact⟨rfl,U3.aA.at U2.at_ al,U3.at_,(kk.trans' U2.aA ak).trans' U3.aA ak⟩
 .rintro w' ⟨_,h1,h2,h3⟩;exact h w' h1 h2 h3
 .rintro ch w' ⟨e,_⟩
  cases e
def fR:Nat:=300000
noncomputable def je(n:Nat)(l:Tr):By×Int:=match bK n (.stmts l) [] 0 with
 |.fail c=>([],c)
 |.ok buf _=>(match dN fR buf with
  |.fail c=>([],if c=3 then 3 else 2)
  |.ok t _ _=>if dr t l=true then(buf,0)else([],2)
  |.bH=>([],0))
 |.bH=>([],0)
theorem BF.aA{w w':Wd}{b:Nat}{buf:By}(h:BF w b buf)(hk:aD [] w w'):BF w' b buf:=by
 obtain⟨ad,v,rest,ab,hv⟩:=h;refine⟨ad,v,rest,hk.at ab ak,?_⟩;rcases hv with h|⟨g,cap,cur,fr,h1,h2,h3,h4,h5⟩
 .exact .inl h
 .refine .inr ⟨g,cap,cur,fr,h1,h2,h3,?_,h5⟩;have:g<w.heap.size:=by
   rcases lt_or_ge g w.heap.size with h|h
   .exact h
   .rw[Array.getElem?_eq_none h]at h4;cases h4
  rw[hk.same g this ak];exact h4
theorem mw{s:By}(h:s.length<=32768):RG (λt _=>wf t 3=true/\tz t<=aX) (dN fR s):=
 (uA (by unfold fR;omega)).imp λt ts _ ht=>⟨ht.1,by have:=gT t;have:=ht.2.1;unfold aX;omega⟩
abbrev Ol(bs be:Nat):Wd->(Va->Prop)->Prop:=λw k=>∃v0,(loadAt 9 (.pointer (some ⟨bs,0,none⟩))).run prog w=.ok v0 w/\∃v1,(loadAt 23 (.pointer (some ⟨be,0,none⟩))).run prog w=.ok v1 w/\k (.tuple #[v0,v1])
theorem c9{F:Nat->Prop}{w:Wd}{l:Tr}{v:Va}(g:GL w)(n:Nat)(rl:aP F w l (.L v))(aI:bK n (.stmts l) [] 0≠.bH)(iW:∀buf p,bK n (.stmts l) [] 0=.ok buf p->wf l 3=true):
  Calls prog 9 #[v] w (aZ (λu w'=>u=.tuple #[str (je n l).1,.int .i64 (je n l).2]/\aD [] w w') NP):=by
 refine s9 ?_;unfold S9;refine V1.new (al9 _) λbs w1 N1=>?_;refine V1.new (Jx _) λbe w2 N2=>?_;have gs1:=N1.ge;have oz:=N2.ge;have ls1:=N1.lt;have ls2:=N2.lt;have z1:=N1.aA.size;have z2:=N2.aA.size;have ao:At w2 bs [str []]:=N2.aA.at N1.at_ ak;have ae:At w2 be [.int .i64 0]:=N2.at_;refine V1.i ah ?_;refine D1.i (v:=⟨.fn (.func 17) #[ptr bs,ptr be],#[]⟩) (w':=w2) (by simp[go_sem,Deferred.ofValue];exact⟨rfl,rfl⟩) ?_;refine V1.i ah ?_;refine V1.M3 (SJ _ _) λbt w5 N5 Vf=>?_;have gs5:=N5.ge;have ls5:=N5.lt;have z5:=N5.aA.size;have kk:aD [] w w5:=(N1.aA.trans N2.aA).trans N5.aA;replace ao:=N5.a ao;replace ae:=N5.a ae;have g5:=g.new kk;have Ep:=g.yf
 have a5:At w5 bt [.pointer none,.slice none 0 0,.int .i64 0]:=N5.at_;have bx:BX w5.heap.size w5 bt [.int .i64 (0:Nat)] []:=⟨_,_,a5,.inl ⟨rfl,56,3,Vf,.inr ⟨rfl,rfl⟩⟩,dS.nil _ _,.inl rfl,ls5,le_refl _⟩;have ht:TX w5 bt [] 0:=⟨_,bx,g5,by omega,by simp,by omega⟩;have rl5:aP (FO bt w5) w5 l (.L v):=aP.aA kk (λq _ hq=>⟨by simp,by omega,λad v' rest h e=>by
  have:=iK a5 h;injection this with h1 h2;injection h2 with h2 h3;subst h2
  cases e⟩) _ _ rl
 have qC:∀(w':Wd) (s:By) (c:Int),At w' bs [str s]->At w' be [.int .i64 c]->(s,c)=je n l->aD [] w w'->Lv prog (Ol bs be) (aZ (λu w'=>u=.tuple #[str (je n l).1,.int .i64 (je n l).2]/\aD [] w w') NP) [] .returning w':=by
  intro w' s c h1 h2 h3 h4;refine⟨_,(aC rfl) _ _ _ (by rw[h1.cell];rfl),_,(aC rfl) _ _ _ (by rw[h2.cell];rfl),?_,h4⟩;rw[←h3]
 have sD:∀(c:Int) (wb:Wd) (x y:Va),At wb bs [x]->At wb be [y]->([],c)=je n l->aD [] w wb->Lv prog (Ol bs be) (aZ (λu w'=>u=.tuple #[str (je n l).1,.int .i64 (je n l).2]/\aD [] w w') NP) [⟨.fn (.func 17) #[ptr bs,ptr be],#[]⟩] (.panicking (RR c)) wb:=by
  intro c wb x y h1 h2 h3 h4;refine zB h1 h2 aj λw' h5 h6 h7=>?_;exact qC w' _ _ h5 h6 h3 (h4.trans' h7 al)
 have h18:=(Cy n).stmts ht rl5 rfl aI;refine JJ h18 ?_ ?_;rotate_left
 .intro c w6 h
  cases hr:bK n (.stmts l) [] 0 with
  |bH=>exact absurd hr aI
  |ok buf p=>rw[hr]at h;exact h.elim
  |fail e=>
   rw[hr]at h;obtain⟨rfl,ko,_,_⟩:=h;have kl:=ko.kl bx;refine sD e w6 _ _ ((KL.aA kl).at ao (jq aj aj)) ((KL.aA kl).at ae (jq aj aj)) ?_ ?_
   .unfold je;rw[hr]
   .exact kk.trans' (KL.aA kl) (λi hi bO=>by rcases nI hi with h|h<;>omega)
 intro _ w6 h
 cases hr:bK n (.stmts l) [] 0 with
 |bH=>exact absurd hr aI
 |fail e=>rw[hr]at h;exact h.elim
 |ok buf p=>
 rw[hr]at h;obtain⟨ht6,ko⟩:=h;have EA:=iW buf p hr;have kl:=ko.kl bx;have Ww:=KL.aA kl;have kk6:aD [] w w6:=kk.trans' Ww (λi hi bO=>by rcases nI hi with h|h<;>omega);replace ao:=Ww.at ao (jq aj aj);replace ae:=Ww.at ae (jq aj aj);have z6:=kl.size;obtain⟨Om,bx6,g6,_,hlen,_⟩:=ht6;have bf:=bx6.bf;obtain⟨ad,vb,ab,_,hv,_,Wx,_⟩:=bx6;have hM:∀(w':Wd),At w' bt (ad::vb::[.int .i64 p])->∀q,(∃tE gf n c,At w' bt (tE::.slice (some ⟨q,0,none⟩) n c::gf))->Om<=q:=by
  rintro w' h1 q ⟨tE,gf,n',c',h2⟩;have:=iK h1 h2;injection this with _ this;injection this with this _;exact(hv.lt (g:=q) (by rw[this];rfl)).1
 have EB:buf.length<=1099511627776:=by omega
 have Cr:=mw hlen;refine Up.i (Nc.p _ _) ?_;refine V1.i (v:=ptr bt) (w':=w6) (by simp[go_sem,ptr];first|done|rfl|exact⟨rfl,rfl⟩|(rintro rfl;rfl)) ?_;refine FY (UY bf EB) ?_ (λ_ _ h=>h.elim);rintro _ w7 ⟨rfl,bf,M7,K7,hM7⟩;have R0:∀q∈M7,Om<=q:=λq hq=>hM w6 ab q (hM7 q hq);have qD:∀{M:List Nat}{q:Nat},(∀q∈M,Om<=q)->q<Om->q∉M:=λh1 h2 h3=>by have:=h1 _ h3;omega
 replace ab:=K7.at ab (qD R0 Wx);replace ao:=K7.at ao (qD R0 aj);replace ae:=K7.at ae (qD R0 aj);have kk7:aD [] w w7:=kk6.trans' K7 (λi hi bO=>by have:=R0 i hi;omega);have g7:=g.new kk7;have zC:dN fR buf≠.bH:=by
  intro e;rw[e]at Cr;exact Cr
 refine Lc (RO w7 buf g7 fR (by unfold fR aX;omega) _ rfl zC) ?_ (λ_ _ h=>h.elim);rintro _ w8 ⟨hq,K8⟩;replace ab:=K8.at ab ak;replace ao:=K8.at ao ak;replace ae:=K8.at ae ak;replace bf:=bf.aA K8;have A7:aD [] w w8:=kk7.trans K8;have CC:je n l=(match dN fR buf with
  |.fail c=>([],if c=3 then 3 else 2)
  |.ok t _ _=>if dr t l=true then(buf,0)else([],2)
  |.bH=>([],0)):=by unfold je;rw[hr]
 cases hp:dN fR buf with
 |bH=>exact absurd hp zC
 |fail c=>
  rw[hp]at hq CC;obtain⟨q,line,rfl,aq,gq⟩:=hq;refine V1.i ah ?_;refine V1.i ah ?_;refine V1.i ah ?_;refine x8 (UH aq 3) ?_ (λ_ _ h=>h.elim);rintro _ wk ⟨rfl,rfl⟩;refine V1.i (v:=.bool (!(c==3))) (w':=wk) au ?_;by_cases h3:c=3
  .subst h3;refine iF (c20 _ false 3) ?_ ?_
   .rintro _ w9 ⟨hb,_⟩
    cases hb
   .rintro c w9 ⟨_,rfl,rfl⟩;exact sD 3 _ _ _ ao ae (by rw[CC];rfl) A7
  .rw[show(!(c==3))=true by simpa using h3];refine iF (c20 _ true 3) ?_ ?_;rotate_left
   .rintro c w9 ⟨hb,_⟩
    cases hb
   rintro _ w9 ⟨_,rfl⟩;refine V1.i (pf _ _ _ _) ?_;refine Fu.go (Gd.ft ?_);refine V1.i ah ?_;refine iF (c20 _ false 2) ?_ ?_
   .rintro _ w9 ⟨hb,_⟩
    cases hb
   .rintro c' w9 ⟨_,rfl,rfl⟩;exact sD 2 _ _ _ ao ae (by rw[CC];dsimp only;rw[if_neg h3]) A7
 |ok t ts o=>
  rw[hp]at hq Cr CC;dsimp only at CC;obtain⟨lv,rfl,rt,il⟩:=hq;obtain⟨_,xB,htz⟩:=Cr;refine V1.i ah ?_;refine V1.i ah ?_;refine V1.i ah ?_;refine x8 (vq _ _ _) ?_ (λ_ _ h=>h.elim);rintro _ wj ⟨rfl,rfl⟩;refine V1.i ah ?_;refine iF (c20 _ true 3) ?_ ?_;rotate_left
  .rintro c w9 ⟨hb,_⟩
   cases hb
  rintro _ wk ⟨_,rfl⟩;refine V1.i (LX _ _) ?_;refine Fu.go (Gd.tt ?_);have rl8:aP (λ_=>True) wk l (.L v):=aP.imp (λ_ _ _=>trivial) _ _ (aP.new A7 _ _ rl);refine SO (alike (F:=λ_=>True) htz xB EA (aP.imp (λ_ _ _=>trivial) _ _ rt) rl8) ?_ (λ_ _ h=>h.elim);rintro _ ei ⟨rfl,dA⟩;replace ab:=dA.at ab ak;replace ao:=dA.at ao ak;replace ae:=dA.at ae ak;replace bf:=bf.aA dA;have On:aD [] w ei:=A7.trans dA;refine V1.i (v:=.bool (dr t l)) (w':=ei) au ?_
  cases he:dr t l with
  |false=>
   rw[he,if_neg Bool.false_ne_true]at CC;refine iF (c20 _ false 2) ?_ ?_
   .rintro _ fp ⟨hb,_⟩
    cases hb
   .rintro c' fp ⟨_,rfl,rfl⟩;exact sD 2 _ _ _ ao ae CC.symm On
  |true=>
   rw[he,if_pos rfl]at CC;refine iF (c20 _ true 2) ?_ ?_;rotate_left
   .rintro c fp ⟨hb,_⟩
    cases hb
   rintro _ fp ⟨_,rfl⟩;refine Up.i (Nc.p _ _) ?_;refine V1.i (v:=ptr bt) (w':=fp) (by simp[go_sem,ptr];first|done|rfl|exact⟨rfl,rfl⟩|(rintro rfl;rfl)) ?_;refine FY (UY bf EB) ?_ (λ_ _ h=>h.elim);rintro _ fT ⟨rfl,_,M12,dB,Wy⟩;have G7:∀q∈M12,Om<=q:=λq hq=>hM fp ab q (Wy q hq);replace ao:=dB.at ao (qD G7 aj);replace ae:=dB.at ae (qD G7 aj);have Wz:aD [] w fT:=On.trans' dB (λi hi bO=>by have:=G7 i hi;omega);refine U1.store (aH rfl rfl) ao ak λmK gE=>?_;have WA:At mK bs [str buf]:=gE.at_;have WB:=gE.aA.at ae al;refine U1.store (aH rfl rfl) WB ak λlu ky=>?_;refine zA ?_
   exact qC lu buf 0 (ky.aA.at WA al) ky.at_ CC.symm ((Wz.trans' gE.aA al).trans' ky.aA al)
end Go.Proofs.YtoddjlclpnoomaaGreatDoor

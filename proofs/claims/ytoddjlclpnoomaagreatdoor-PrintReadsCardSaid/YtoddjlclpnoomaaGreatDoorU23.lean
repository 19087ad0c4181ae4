import Derived.Test.YtoddjlclpnoomaaGreatDoorU22
set_option linter.unusedVariables false
set_option linter.unusedSimpArgs false
set_option maxRecDepth 100000
open Go.Proofs.Tryz
open Go.Instr (alloc loadAt storeAt sliceAt fieldAt typeAssert extract)
open List (take_succ_eq_append_getElem take_length)
open Nat (lt_or_ge le_refl)
open Go.Builtin (min_)
open Array (replicate)
open Bool (and_eq_true)
open Go.World (setCell)
namespace Go.Proofs.YtoddjlclpnoomaaGreatDoor
open Go.Sh
noncomputable def cZ(s t:Tr):Bool:=@decide (s=t) (Classical.propDecidable _)
theorem mc{s t:Tr}:cZ s t=true↔s=t:=by simp[cZ]
theorem eu(s:Tr):cZ s s=true:=mc.2 rfl
theorem fx{s t:Tr}(h:s≠t):cZ s t=false:=by simp[cZ,h]
theorem xM{k n:Int}{x:By}{l r ks gs:Tr}{ps:LB}{b:Tr}{k2 n2:Int}{x2:By}{l2 r2 nh ni:Tr}{gQ:LB}{b2:Tr}:cZ (.ex k n x l r ks gs ps b) (.ex k2 n2 x2 l2 r2 nh ni gQ b2)=(((((((((k==k2)&&(n==n2))&&(x==x2))&&cZ l l2)&&cZ r r2)&&cZ ks nh)&&cZ gs ni)&&(ps==gQ))&&cZ b b2):=by
 rw[Bool.eq_iff_iff];simp[mc,and_assoc]
theorem xN{k:Int}{x:By}{l r t a b:Tr}{k2:Int}{x2:By}{l2 r2 t2 a2 b2:Tr}:cZ (.st k x l r t a b) (.st k2 x2 l2 r2 t2 a2 b2)=(((((((k==k2)&&(x==x2))&&cZ l l2)&&cZ r r2)&&cZ t t2)&&cZ a a2)&&cZ b b2):=by
 rw[Bool.eq_iff_iff];simp[mc,and_assoc]
theorem gL{a b a2 b2:Tr}:cZ (.cons a b) (.cons a2 b2)=(cZ a a2&&cZ b b2):=by
 rw[Bool.eq_iff_iff];simp[mc]
theorem Cw(w:Wd)(cx cy:Bool)(a b:Nat):(Bo .neq 3 cx cy (.int .i64 (a:Nat)) (.int .i64 (b:Nat))).run prog w=.ok (.bool (!decide (a=b))) w:=by
 simp[go_sem,Bo]
 by_cases h:a=b
 .subst h;simp
 .simp[h];omega
theorem Tb(w:Wd)(cx cy:Bool)(a b:Int):(Bo .eql 2 cx cy (.int .i64 a) (.int .i64 b)).run prog w=.ok (.bool (a==b)) w:=by simp[go_sem,Bo]
theorem Q1.gd{b c:Bool}{X:(Va->Prop)->Prop}{g:Va->Prop}(r:Bool)(hX:b=c->∀k:Va->Prop,k (.bool r)->X k)(hg:g (if b=c then .bool r else undef)):
  Q1 (λk=>Gd (.bool b) c (X k) (k undef)) g:=by
 refine Q1.go (Gd.b (λh=>hX h g ?_) (λh=>?_))
 .rw[if_pos h]at hg;exact hg
 .rw[if_neg (by rw[h];cases c<;>simp)]at hg;exact hg
theorem cE.aA{F:Nat->Prop}{w w':Wd}{t:Tr}{a:Option Addr}{i k:Nat}(h:cE F w t a i k)(hk:aD [] w w'):cE F w' t a i k:=by
 rcases h with h|⟨q,e,h⟩
 .exact .inl h
 .exact .inr ⟨q,e,aU.new hk _ _ h⟩
theorem jk{w:Wd}{b o t:Nat}{cs:LV}{v:Va}(ha:At w b cs)(h1:dT t=true)(h2:cs[o]?=some v):∀w',aD [] w w'->(loadAt t (.pointer (some ⟨b,o,none⟩))).run prog w'=.ok v w':=
 λw' hw=>(aC h1) _ _ _ (by rw[(aD.at hw ha ak).cell];exact h2)
theorem cN{b:Bool}{w w':Wd}(hw:aD [] w w'):∀(e:Ending) (w2:Wd),aZ (λx w2=>x=.bool b/\aD [] w' w2) NP e w2->e=.returned (.bool b)/\aD [] w w2:=by
 intro e w2 h
 cases e<;>first|exact(False.elim h)|(obtain⟨rfl,h2⟩:=h;exact⟨rfl,aD.trans hw h2⟩)
theorem Strs.cell{F:Nat->Prop}{w:Wd}{q n c:Nat}{ss:LB}(h:Strs F w (.slice (some ⟨q,0,none⟩) n c) ss){i:Nat}(hi:i<ss.length):w.cell? ⟨q,i,none⟩=some (str ss[i]):=by
 obtain⟨q',e,hc⟩:=h.get hi;injection e with e;injection e with e;subst e;exact hc
theorem c72{F:Nat->Prop}{w:Wd}{u v:Va}{ps gQ:LB}(hu:Strs F w u ps)(hv:Strs F w v gQ)(hp:ps.length<=aX):
  Calls prog 72 #[u,v] w (aZ (λx w'=>x=.bool (ps==gQ)/\aD [] w w') NP):=by
 refine YK ?_;unfold V4;obtain⟨a,c,rfl⟩:=hu.sl;obtain⟨a',c',rfl⟩:=hv.sl;refine V1.i ah ?_;refine V1.i ah ?_;refine V1.i (Cw _ _ _ _ _) ?_;by_cases hl:ps.length=gQ.length
 rotate_left
 .rw[show decide (ps.length=gQ.length)=false by simpa using hl];refine If.t ⟨?_,aD.refl _ _⟩;rw[show(ps==gQ)=false by simp;rintro rfl;exact hl rfl]
 rw[show decide (ps.length=gQ.length)=true by simpa using hl];refine If.f ?_;refine V1.i ah ?_;unfold aX at hp;refine L2.i (λx0 x1 w'=>∃i:Nat,x1=.int .i64 (i:Nat)/\i<=ps.length/\ps.take i=gQ.take i/\aD [] w w') (λ_ v _=>match v with|.int _ n=>(ps.length-n.toNat)|_=>0) ⟨0,rfl,by omega,by simp,aD.refl _ _⟩ ?_;rintro x0 x1 w1 ⟨i,rfl,hi,he,K1⟩;by_cases bO:i<ps.length
 .refine V1.bt ax ?_;refine If.t ?_;have ns:i<gQ.length:=by omega
  obtain⟨q,rfl,_⟩:=hu.get bO;obtain⟨q2,rfl,_⟩:=hv.get ns;have Tc:=Strs.aA K1 (λb h1 _=>⟨by simp,h1⟩) hu;have Td:=Strs.aA K1 (λb h1 _=>⟨by simp,h1⟩) hv;refine⟨λw'=>aD [] w1 w',(aD.refl _ _).drew,?_⟩;refine Xv.i _ (λw' _=>lG w' bO) ?_;refine Xv.i (str ps[i]) (λw' hw=>(aC rfl) _ _ _ (Strs.cell (Strs.aA hw (λb h1 _=>⟨by simp,h1⟩) Tc) bO)) ?_;refine Xv.i _ (λw' _=>lG w' aj) ?_;refine Xv.i (str gQ[i]) (λw' hw=>(aC rfl) _ _ _ (Strs.cell (Strs.aA hw (λb h1 _=>⟨by simp,h1⟩) Td) ns)) ?_;refine Xv.i _ (λw' _=>H0 w' _ _ _ _) ?_;intro w2 K2;by_cases hx:ps[i]=gQ[i]
  .rw[show(!(ps[i]==gQ[i]))=false by simp[hx]];refine If.f ?_;refine V1.i (cC _ _ _ _ _ _ aj aj) ?_;refine⟨⟨i+1,by simp,by omega,?_,K1.trans K2⟩,by simp;omega⟩;rw[take_succ_eq_append_getElem bO,take_succ_eq_append_getElem ns,he,hx]
  .rw[show(!(ps[i]==gQ[i]))=true by simp[hx]];refine If.t ⟨?_,K1.trans K2⟩;rw[show(ps==gQ)=false by simp;rintro rfl;exact hx rfl]
 .obtain rfl:i=ps.length:=by omega
  refine V1.bf am ?_;refine If.f ⟨?_,K1⟩;rw[take_length,hl,take_length]at he;rw[he];simp
structure uX(n:Nat):Prop where
 same:∀{F:Nat->Prop}{w:Wd}{s t:Tr}{u v:Va},tz s<n->wf s 0=true->wf t 0=true->aU F w s (.P u)->aU F w t (.P v)->Calls prog 41 #[u,v] w (aZ (λx w'=>x=.bool (cZ s t)/\aD [] w w') NP)
 stm:∀{F:Nat->Prop}{w:Wd}{s t:Tr}{u v:Va},tz s<n->wf s 2=true->wf t 2=true->aU F w s (.P u)->aU F w t (.P v)->Calls prog 40 #[u,v] w (aZ (λx w'=>x=.bool (cZ s t)/\aD [] w w') NP)
theorem Te(w:Wd)(a b:Va):(Cv (.func (.func 41) #[] #[]) #[a,b]).run prog w=.ok (.enter 41 #[a,b]) w:=ai
theorem Xb{n:Nat}(hn:n<=aX)(H:uX n){F:Nat->Prop}{w:Wd}{s t:Tr}{u v:Va}(hz:tz s<=n)(hs:wf s 1=true)(ht:wf t 1=true)(rs:aU F w s (.L u))(rt:aU F w t (.L v)):
  Calls prog 71 #[u,v,.func (.func 41) #[] #[]] w (aZ (λx w'=>x=.bool (cZ s t)/\aD [] w w') NP):=by
 refine YJ ?_;unfold V3;have is:=cG 1 ak hs;have it:=cG 1 ak ht;obtain⟨a,c,rfl⟩:=rs.oc is;obtain⟨a',c',rfl⟩:=rt.oc it;have os:=rs.rowAt is;have ot:=rt.rowAt it;refine V1.i ah ?_;refine V1.i ah ?_;refine V1.i (Cw _ _ _ _ _) ?_;by_cases hl:len s=len t
 rotate_left
 .rw[show decide (len s=len t)=false by simpa using hl];refine If.t ⟨?_,aD.refl _ _⟩;rw[fx (λh=>hl (by rw[h]))]
 rw[show decide (len s=len t)=true by simpa using hl];refine If.f ?_;refine V1.i ah ?_;rw[←hl]at ot;refine L2.i (λx0 x1 w'=>∃i j s' t',x1=.int .i64 (i:Nat)/\i+j=len s/\tz s'<=n/\i+tz s'<=n/\wf s' 1=true/\wf t' 1=true/\cE F w' s' a i j/\cE F w' t' a' i j/\aD [] w w'/\cZ s t=cZ s' t') (λ_ v _=>match v with|.int _ n=>(len s-n.toNat)|_=>0) ⟨0,len s,s,t,rfl,by omega,hz,by omega,hs,ht,os,ot,aD.refl _ _,rfl⟩ ?_;clear os ot hs ht rs rt is it hz;rintro x0 x1 w1 ⟨i,j,s',t',rfl,rH,hz,xO,hs,ht,os,ot,K1,he⟩;unfold aX at hn;rcases cX hs with rfl|⟨x,l,rfl,hx,AF⟩
 .have hj:j=0:=by
   rcases os with⟨_,h⟩|⟨q,_,h⟩
   .exact h
   .exact h
  subst hj;refine V1.bf ax ?_;refine If.f ⟨?_,K1⟩;rw[he];rcases cX ht with rfl|⟨y,m,rfl,hy,hm⟩
  .rw[eu]
  .rcases ot with⟨h,_⟩|⟨q,_,j',u,h,_⟩
   .cases h
   .omega
 .rcases os with⟨h,_⟩|⟨q,rfl,j',u,rfl,hc,hf,rx,rl⟩
  .cases h
  have ol:cE F w1 l (some ⟨q,0,none⟩) (i+1) j':=.inr ⟨q,rfl,rl⟩;rcases cX ht with rfl|⟨y,m,rfl,hy,hm⟩
  .rcases ot with⟨_,h⟩|⟨q,_,h⟩
   .omega
   .exact absurd (show j'+1=0 from h) aj
  rcases ot with⟨h,_⟩|⟨q2,rfl,j2,u2,e2,lM,F6,ry,rm⟩
  .cases h
  obtain rfl:j'=j2:=by omega
  have om:cE F w1 m (some ⟨q2,0,none⟩) (i+1) j':=.inr ⟨q2,rfl,rm⟩;clear rl rm;have zf:=hz;simp only[tz]at zf xO;have vz:=bE x;have uM:=bE l;refine V1.bt ax ?_;refine If.t ?_;refine V1.i (lR aj) ?_;refine V1.i ((aC rfl) _ _ _ hc) ?_;refine V1.i (lR aj) ?_;refine V1.i ((aC rfl) _ _ _ lM) ?_;refine Up.c (Te _ _ _) ?_;refine aZ.imp (H.same aj hx hy rx ry) ?_ (λ_ _ h=>h.elim);rintro _ w2 ⟨rfl,K2⟩;rw[gL]at he
  cases sQ:cZ x y with
  |false=>
   rw[sQ,Bool.false_and]at he;refine V1.i ah ?_;refine If.t ⟨?_,K1.trans K2⟩;rw[he]
  |true=>
   rw[sQ,Bool.true_and]at he;refine V1.i ah ?_;refine If.f ?_;refine V1.i (cC _ _ _ _ _ _ aj aj) ?_;exact⟨⟨i+1,j',l,m,by simp,by omega,by omega,by omega,AF,hm,ol.aA K2,om.aA K2,K1.trans K2,he⟩,by simp;omega⟩
theorem Tf(w:Wd)(a b:Va):(Cv (.func (.func 40) #[] #[]) #[a,b]).run prog w=.ok (.enter 40 #[a,b]) w:=ai
theorem c39{n:Nat}(hn:n<=aX)(H:uX n){F:Nat->Prop}{w:Wd}{s t:Tr}{u v:Va}(hz:tz s<=n)(hs:wf s 3=true)(ht:wf t 3=true)(rs:aU F w s (.L u))(rt:aU F w t (.L v)):
  Calls prog 39 #[u,v,.func (.func 40) #[] #[]] w (aZ (λx w'=>x=.bool (cZ s t)/\aD [] w w') NP):=by
 refine Yv ?_;unfold VP;have is:=cG 3 ak hs;have it:=cG 3 ak ht;obtain⟨a,c,rfl⟩:=rs.oc is;obtain⟨a',c',rfl⟩:=rt.oc it;have os:=rs.rowAt is;have ot:=rt.rowAt it;refine V1.i ah ?_;refine V1.i ah ?_;refine V1.i (Cw _ _ _ _ _) ?_;by_cases hl:len s=len t
 rotate_left
 .rw[show decide (len s=len t)=false by simpa using hl];refine If.t ⟨?_,aD.refl _ _⟩;rw[fx (λh=>hl (by rw[h]))]
 rw[show decide (len s=len t)=true by simpa using hl];refine If.f ?_;refine V1.i ah ?_;rw[←hl]at ot;refine L2.i (λx0 x1 w'=>∃i j s' t',x1=.int .i64 (i:Nat)/\i+j=len s/\tz s'<=n/\i+tz s'<=n/\wf s' 3=true/\wf t' 3=true/\cE F w' s' a i j/\cE F w' t' a' i j/\aD [] w w'/\cZ s t=cZ s' t') (λ_ v _=>match v with|.int _ n=>(len s-n.toNat)|_=>0) ⟨0,len s,s,t,rfl,by omega,hz,by omega,hs,ht,os,ot,aD.refl _ _,rfl⟩ ?_;clear os ot hs ht rs rt is it hz;rintro x0 x1 w1 ⟨i,j,s',t',rfl,rH,hz,xO,hs,ht,os,ot,K1,he⟩;unfold aX at hn;rcases cY hs with rfl|⟨x,l,rfl,hx,AF⟩
 .have hj:j=0:=by
   rcases os with⟨_,h⟩|⟨q,_,h⟩
   .exact h
   .exact h
  subst hj;refine V1.bf ax ?_;refine If.f ⟨?_,K1⟩;rw[he];rcases cY ht with rfl|⟨y,m,rfl,hy,hm⟩
  .rw[eu]
  .rcases ot with⟨h,_⟩|⟨q,_,j',u,h,_⟩
   .cases h
   .omega
 .rcases os with⟨h,_⟩|⟨q,rfl,j',u,rfl,hc,hf,rx,rl⟩
  .cases h
  have ol:cE F w1 l (some ⟨q,0,none⟩) (i+1) j':=.inr ⟨q,rfl,rl⟩;rcases cY ht with rfl|⟨y,m,rfl,hy,hm⟩
  .rcases ot with⟨_,h⟩|⟨q,_,h⟩
   .omega
   .exact absurd (show j'+1=0 from h) aj
  rcases ot with⟨h,_⟩|⟨q2,rfl,j2,u2,e2,lM,F6,ry,rm⟩
  .cases h
  obtain rfl:j'=j2:=by omega
  have om:cE F w1 m (some ⟨q2,0,none⟩) (i+1) j':=.inr ⟨q2,rfl,rm⟩;clear rl rm;have zf:=hz;simp only[tz]at zf xO;have vz:=bE x;have uM:=bE l;refine V1.bt ax ?_;refine If.t ?_;refine V1.i (sK aj) ?_;refine V1.i ((aC rfl) _ _ _ hc) ?_;refine V1.i (sK aj) ?_;refine V1.i ((aC rfl) _ _ _ lM) ?_;refine Up.c (Tf _ _ _) ?_;refine aZ.imp (H.stm aj hx hy rx ry) ?_ (λ_ _ h=>h.elim);rintro _ w2 ⟨rfl,K2⟩;rw[gL]at he
  cases sQ:cZ x y with
  |false=>
   rw[sQ,Bool.false_and]at he;refine V1.i ah ?_;refine If.t ⟨?_,K1.trans K2⟩;rw[he]
  |true=>
   rw[sQ,Bool.true_and]at he;refine V1.i ah ?_;refine If.f ?_;refine V1.i (cC _ _ _ _ _ _ aj aj) ?_;exact⟨⟨i+1,j',l,m,by simp,by omega,by omega,by omega,AF,hm,ol.aA K2,om.aA K2,K1.trans K2,he⟩,by simp;omega⟩
theorem OD{n:Nat}(hn:n<=aX)(H:uX n){F:Nat->Prop}{w:Wd}{s t:Tr}{u v:Va}(hz:tz s<=n)(hs:wf s 3=true)(ht:wf t 3=true)(rs:aU F w s (.L u))(rt:aU F w t (.L v)):
  Calls prog 22 #[u,v] w (aZ (λx w'=>x=.bool (cZ s t)/\aD [] w w') NP):=by
 refine Yr ?_;unfold VM;refine Pn (c39 hn H hz hs ht rs rt) ?_ (NP.no (e:=_));rintro _ w1 ⟨rfl,K1⟩;exact⟨rfl,K1⟩
theorem c41{n:Nat}(hn:n<=aX)(H:uX n){F:Nat->Prop}{w:Wd}{s t:Tr}{u v:Va}(hz:tz s<n+1)(hs:wf s 0=true)(ht:wf t 0=true)(rs:aU F w s (.P u))(rt:aU F w t (.P v)):
  Calls prog 41 #[u,v] w (aZ (λx w'=>x=.bool (cZ s t)/\aD [] w w') NP):=by
 refine Yx ?_;unfold VR;rcases bM hs with rfl|⟨k,nn,x,l,r,ks,gs,ps,b,rfl⟩
 .obtain rfl:u=.pointer none:=rs;rcases bM ht with rfl|⟨k2,zg,x2,l2,r2,nh,ni,gQ,b2,rfl⟩
  .obtain rfl:v=.pointer none:=rt;repeat(first|refine J1.go ?_|refine J0.go ?_|refine Gd.tt ?_|refine Gd.ff ?_|refine Gd.tf ?_|refine Gd.ft ?_|refine Gd.u ?_|refine If.t ?_|refine If.f ?_|refine Up.i (Nc.p _ _) ?_|refine V1.load (aC rfl) au rfl ?_|refine V1.i (w':=w) aw ?_)
   exact⟨by rw[eu],aD.refl _ _⟩
  .obtain⟨q2,gK,sL,sM,AD,sN,zd,sO,rfl,_,a2,rO,rP,AG,AH,Cx,rQ⟩:=rt;rw[fx az];unfold ptr;repeat(first|refine J1.go ?_|refine J0.go ?_|refine Gd.tt ?_|refine Gd.ff ?_|refine Gd.tf ?_|refine Gd.ft ?_|refine Gd.u ?_|refine If.t ?_|refine If.f ?_|refine Up.i (Nc.p _ _) ?_|refine V1.load (aC rfl) au rfl ?_|refine V1.i (w':=w) aw ?_)
   exact⟨rfl,aD.refl _ _⟩
 obtain⟨q,line,lv,rv,kv,av,pv,bv,rfl,_,a1,rl,rr,rk,rg,rp,rb⟩:=rs;rcases bM ht with rfl|⟨k2,zg,x2,l2,r2,nh,ni,gQ,b2,rfl⟩
 .obtain rfl:v=.pointer none:=rt;rw[fx az];unfold ptr;repeat(first|refine J1.go ?_|refine J0.go ?_|refine Gd.tt ?_|refine Gd.ff ?_|refine Gd.tf ?_|refine Gd.ft ?_|refine Gd.u ?_|refine If.t ?_|refine If.f ?_|refine Up.i (Nc.p _ _) ?_|refine V1.load (aC rfl) au rfl ?_|refine V1.i (w':=w) aw ?_)
  exact⟨rfl,aD.refl _ _⟩
 obtain⟨q2,gK,sL,sM,AD,sN,zd,sO,rfl,_,a2,rO,rP,AG,AH,Cx,rQ⟩:=rt;unfold ptr;refine V1.bf am ?_;refine J1.go (Gd.ff ?_);refine V1.bf am ?_;refine V1.bf am ?_;refine If.f ?_;refine⟨λw'=>aD [] w w',(aD.refl _ _).drew,?_⟩;simp only[wf,and_eq_true]at hs ht;obtain⟨⟨⟨⟨⟨_,hl⟩,hr⟩,hk⟩,hg⟩,hb⟩:=hs;obtain⟨⟨⟨⟨⟨_,fY⟩,gh⟩,jy⟩,Ae⟩,uP⟩:=ht;simp only[tz]at hz;refine⟨_,λw' _=>⟨rfl,rfl⟩,?_⟩;refine Xv.i _ (λw' _=>by simp[go_sem]<;>trivial) ?_;refine Xv.i (.int .i64 k) (jk a1 rfl rfl) ?_;refine⟨_,λw' _=>⟨rfl,rfl⟩,?_⟩;refine Xv.i _ (λw' _=>by simp[go_sem]<;>trivial) ?_;refine Xv.i (.int .i64 k2) (jk a2 rfl rfl) ?_
 refine Xv.i (.bool (k==k2)) (λw' _=>mR w' _ _ _ _) ?_;refine Q1.gd (nn==zg) (λ_ kx dO=>?_) ?_
 .refine⟨_,λw' _=>⟨rfl,rfl⟩,?_⟩;refine Xv.i _ (λw' _=>by simp[go_sem]<;>trivial) ?_;refine Xv.i (.int .i64 nn) (jk a1 rfl rfl) ?_;refine⟨_,λw' _=>⟨rfl,rfl⟩,?_⟩;refine Xv.i _ (λw' _=>by simp[go_sem]<;>trivial) ?_;refine Xv.i (.int .i64 zg) (jk a2 rfl rfl) ?_;refine Xv.i (.bool (nn==zg)) (λw' _=>Tb w' _ _ _ _) ?_;exact dO
 refine Xv.i _ (λw' _=>fP w' _ _) ?_;refine Q1.gd (x==x2) (λ_ kx dO=>?_) ?_
 .refine⟨_,λw' _=>⟨rfl,rfl⟩,?_⟩;refine Xv.i _ (λw' _=>by simp[go_sem]<;>trivial) ?_;refine Xv.i (str x) (jk a1 rfl rfl) ?_;refine⟨_,λw' _=>⟨rfl,rfl⟩,?_⟩;refine Xv.i _ (λw' _=>by simp[go_sem]<;>trivial) ?_;refine Xv.i (str x2) (jk a2 rfl rfl) ?_;refine Xv.i (.bool (x==x2)) (λw' _=>zQ w' _ _ _ _) ?_;exact dO
 refine Xv.i _ (λw' _=>fP w' _ _) ?_;refine Q1.gd (cZ l l2) (λ_ kx dO=>?_) ?_
 .refine⟨_,λw' _=>⟨rfl,rfl⟩,?_⟩;refine Xv.i _ (λw' _=>by simp[go_sem]<;>trivial) ?_;refine Xv.i (lv) (jk a1 rfl rfl) ?_;refine⟨_,λw' _=>⟨rfl,rfl⟩,?_⟩;refine Xv.i _ (λw' _=>by simp[go_sem]<;>trivial) ?_;refine Xv.i (sL) (jk a2 rfl rfl) ?_;refine Xq.call (fn:=f41) (.bool (cZ l l2)) (aH func41 (c:=bC f41) ai ai _) (λw' hw=>(H.same aj hl fY (aU.new hw _ _ rl) (aU.new hw _ _ rO)).mono ?_) ?_
  .exact cN hw
  exact dO
 refine Xv.i _ (λw' _=>fP w' _ _) ?_;refine Q1.gd (cZ r r2) (λ_ kx dO=>?_) ?_
 .refine⟨_,λw' _=>⟨rfl,rfl⟩,?_⟩;refine Xv.i _ (λw' _=>by simp[go_sem]<;>trivial) ?_;refine Xv.i (rv) (jk a1 rfl rfl) ?_;refine⟨_,λw' _=>⟨rfl,rfl⟩,?_⟩;refine Xv.i _ (λw' _=>by simp[go_sem]<;>trivial) ?_;refine Xv.i (sM) (jk a2 rfl rfl) ?_;refine Xq.call (fn:=f41) (.bool (cZ r r2)) (aH func41 (c:=bC f41) ai ai _) (λw' hw=>(H.same aj hr gh (aU.new hw _ _ rr) (aU.new hw _ _ rP)).mono ?_) ?_
  .exact cN hw
  exact dO
 refine Xv.i _ (λw' _=>fP w' _ _) ?_;refine Q1.gd (cZ ks nh) (λ_ kx dO=>?_) ?_
 .refine⟨_,λw' _=>⟨rfl,rfl⟩,?_⟩;refine Xv.i _ (λw' _=>by simp[go_sem]<;>trivial) ?_;refine Xv.i (kv) (jk a1 rfl rfl) ?_;refine⟨_,λw' _=>⟨rfl,rfl⟩,?_⟩;refine Xv.i _ (λw' _=>by simp[go_sem]<;>trivial) ?_;refine Xv.i (AD) (jk a2 rfl rfl) ?_;refine Xq.call (fn:=f71) (.bool (cZ ks nh)) (aH func71 (c:=bC f71) ai ai _) (λw' hw=>(Xb hn H aj hk jy (aU.new hw _ _ rk) (aU.new hw _ _ AG)).mono ?_) ?_
  .exact cN hw
  exact dO
 refine Xv.i _ (λw' _=>fP w' _ _) ?_;refine Q1.gd (cZ gs ni) (λ_ kx dO=>?_) ?_
 .refine⟨_,λw' _=>⟨rfl,rfl⟩,?_⟩;refine Xv.i _ (λw' _=>by simp[go_sem]<;>trivial) ?_;refine Xv.i (av) (jk a1 rfl rfl) ?_;refine⟨_,λw' _=>⟨rfl,rfl⟩,?_⟩;refine Xv.i _ (λw' _=>by simp[go_sem]<;>trivial) ?_;refine Xv.i (sN) (jk a2 rfl rfl) ?_;refine Xq.call (fn:=f71) (.bool (cZ gs ni)) (aH func71 (c:=bC f71) ai ai _) (λw' hw=>(Xb hn H aj hg Ae (aU.new hw _ _ rg) (aU.new hw _ _ AH)).mono ?_) ?_
  .exact cN hw
  exact dO
 refine Xv.i _ (λw' _=>fP w' _ _) ?_;refine Q1.gd (ps==gQ) (λ_ kx dO=>?_) ?_
 .refine⟨_,λw' _=>⟨rfl,rfl⟩,?_⟩;refine Xv.i _ (λw' _=>by simp[go_sem]<;>trivial) ?_;refine Xv.i (pv) (jk a1 rfl rfl) ?_;refine⟨_,λw' _=>⟨rfl,rfl⟩,?_⟩;refine Xv.i _ (λw' _=>by simp[go_sem]<;>trivial) ?_;refine Xv.i (zd) (jk a2 rfl rfl) ?_;refine Xq.call (fn:=f72) (.bool (ps==gQ)) (aH func72 (c:=bC f72) ai ai _) (λw' hw=>(c72 (Strs.aA hw (λb h1 _=>⟨by simp,h1⟩) rp) (Strs.aA hw (λb h1 _=>⟨by simp,h1⟩) Cx) aj).mono ?_) ?_
  .exact cN hw
  exact dO
 refine Xv.i _ (λw' _=>fP w' _ _) ?_;refine Q1.gd (cZ b b2) (λ_ kx dO=>?_) ?_
 .refine⟨_,λw' _=>⟨rfl,rfl⟩,?_⟩;refine Xv.i _ (λw' _=>by simp[go_sem]<;>trivial) ?_;refine Xv.i (bv) (jk a1 rfl rfl) ?_;refine⟨_,λw' _=>⟨rfl,rfl⟩,?_⟩;refine Xv.i _ (λw' _=>by simp[go_sem]<;>trivial) ?_;refine Xv.i (sO) (jk a2 rfl rfl) ?_;refine Xq.call (fn:=f22) (.bool (cZ b b2)) (aH func22 (c:=bC f22) ai ai _) (λw' hw=>(OD hn H aj hb uP (aU.new hw _ _ rb) (aU.new hw _ _ rQ)).mono ?_) ?_
  .exact cN hw
  exact dO
 refine Xv.i _ (λw' _=>fP w' _ _) ?_;intro w2 K2;exact⟨by rw[xM],K2⟩
theorem c40{n:Nat}(hn:n<=aX)(H:uX n){F:Nat->Prop}{w:Wd}{s t:Tr}{u v:Va}(hz:tz s<n+1)(hs:wf s 2=true)(ht:wf t 2=true)(rs:aU F w s (.P u))(rt:aU F w t (.P v)):
  Calls prog 40 #[u,v] w (aZ (λx w'=>x=.bool (cZ s t)/\aD [] w w') NP):=by
 refine Yw ?_;unfold VQ;rcases dr hs with rfl|⟨k,x,l,r,t0,a,b,rfl⟩
 .obtain rfl:u=.pointer none:=rs;rcases dr ht with rfl|⟨k2,x2,l2,r2,t2,a2,b2,rfl⟩
  .obtain rfl:v=.pointer none:=rt;repeat(first|refine J1.go ?_|refine J0.go ?_|refine Gd.tt ?_|refine Gd.ff ?_|refine Gd.tf ?_|refine Gd.ft ?_|refine Gd.u ?_|refine If.t ?_|refine If.f ?_|refine Up.i (Nc.p _ _) ?_|refine V1.load (aC rfl) au rfl ?_|refine V1.i (w':=w) aw ?_)
   exact⟨by rw[eu],aD.refl _ _⟩
  .obtain⟨q2,gK,sL,sM,KZ,sN,sO,rfl,_,Cy,rO,rP,Ld,Le,rQ⟩:=rt;rw[fx az];unfold ptr;repeat(first|refine J1.go ?_|refine J0.go ?_|refine Gd.tt ?_|refine Gd.ff ?_|refine Gd.tf ?_|refine Gd.ft ?_|refine Gd.u ?_|refine If.t ?_|refine If.f ?_|refine Up.i (Nc.p _ _) ?_|refine V1.load (aC rfl) au rfl ?_|refine V1.i (w':=w) aw ?_)
   exact⟨rfl,aD.refl _ _⟩
 obtain⟨q,line,lv,rv,tv,av,bv,rfl,_,a1,rl,rr,Tg,ra,rb⟩:=rs;rcases dr ht with rfl|⟨k2,x2,l2,r2,t2,a2,b2,rfl⟩
 .obtain rfl:v=.pointer none:=rt;rw[fx az];unfold ptr;repeat(first|refine J1.go ?_|refine J0.go ?_|refine Gd.tt ?_|refine Gd.ff ?_|refine Gd.tf ?_|refine Gd.ft ?_|refine Gd.u ?_|refine If.t ?_|refine If.f ?_|refine Up.i (Nc.p _ _) ?_|refine V1.load (aC rfl) au rfl ?_|refine V1.i (w':=w) aw ?_)
  exact⟨rfl,aD.refl _ _⟩
 obtain⟨q2,gK,sL,sM,KZ,sN,sO,rfl,_,Cy,rO,rP,Ld,Le,rQ⟩:=rt;unfold ptr;refine V1.bf am ?_;refine J1.go (Gd.ff ?_);refine V1.bf am ?_;refine V1.bf am ?_;refine If.f ?_;refine⟨λw'=>aD [] w w',(aD.refl _ _).drew,?_⟩;simp only[wf,and_eq_true]at hs ht;obtain⟨⟨⟨⟨hl,hr⟩,Th⟩,ha⟩,hb⟩:=hs;obtain⟨⟨⟨⟨fY,gh⟩,Cz⟩,B2⟩,uP⟩:=ht;simp only[tz]at hz;refine⟨_,λw' _=>⟨rfl,rfl⟩,?_⟩;refine Xv.i _ (λw' _=>by simp[go_sem]<;>trivial) ?_;refine Xv.i (.int .i64 k) (jk a1 rfl rfl) ?_;refine⟨_,λw' _=>⟨rfl,rfl⟩,?_⟩;refine Xv.i _ (λw' _=>by simp[go_sem]<;>trivial) ?_;refine Xv.i (.int .i64 k2) (jk Cy rfl rfl) ?_
 refine Xv.i (.bool (k==k2)) (λw' _=>mR w' _ _ _ _) ?_;refine Q1.gd (x==x2) (λ_ kx dO=>?_) ?_
 .refine⟨_,λw' _=>⟨rfl,rfl⟩,?_⟩;refine Xv.i _ (λw' _=>by simp[go_sem]<;>trivial) ?_;refine Xv.i (str x) (jk a1 rfl rfl) ?_;refine⟨_,λw' _=>⟨rfl,rfl⟩,?_⟩;refine Xv.i _ (λw' _=>by simp[go_sem]<;>trivial) ?_;refine Xv.i (str x2) (jk Cy rfl rfl) ?_;refine Xv.i (.bool (x==x2)) (λw' _=>zQ w' _ _ _ _) ?_;exact dO
 refine Xv.i _ (λw' _=>fP w' _ _) ?_;refine Q1.gd (cZ l l2) (λ_ kx dO=>?_) ?_
 .refine⟨_,λw' _=>⟨rfl,rfl⟩,?_⟩;refine Xv.i _ (λw' _=>by simp[go_sem]<;>trivial) ?_;refine Xv.i (lv) (jk a1 rfl rfl) ?_;refine⟨_,λw' _=>⟨rfl,rfl⟩,?_⟩;refine Xv.i _ (λw' _=>by simp[go_sem]<;>trivial) ?_;refine Xv.i (sL) (jk Cy rfl rfl) ?_;refine Xq.call (fn:=f41) (.bool (cZ l l2)) (aH func41 (c:=bC f41) ai ai _) (λw' hw=>(H.same aj hl fY (aU.new hw _ _ rl) (aU.new hw _ _ rO)).mono ?_) ?_
  .exact cN hw
  exact dO
 refine Xv.i _ (λw' _=>fP w' _ _) ?_;refine Q1.gd (cZ r r2) (λ_ kx dO=>?_) ?_
 .refine⟨_,λw' _=>⟨rfl,rfl⟩,?_⟩;refine Xv.i _ (λw' _=>by simp[go_sem]<;>trivial) ?_;refine Xv.i (rv) (jk a1 rfl rfl) ?_;refine⟨_,λw' _=>⟨rfl,rfl⟩,?_⟩;refine Xv.i _ (λw' _=>by simp[go_sem]<;>trivial) ?_;refine Xv.i (sM) (jk Cy rfl rfl) ?_;refine Xq.call (fn:=f41) (.bool (cZ r r2)) (aH func41 (c:=bC f41) ai ai _) (λw' hw=>(H.same aj hr gh (aU.new hw _ _ rr) (aU.new hw _ _ rP)).mono ?_) ?_
  .exact cN hw
  exact dO
 refine Xv.i _ (λw' _=>fP w' _ _) ?_;refine Q1.gd (cZ t0 t2) (λ_ kx dO=>?_) ?_
 .refine⟨_,λw' _=>⟨rfl,rfl⟩,?_⟩;refine Xv.i _ (λw' _=>by simp[go_sem]<;>trivial) ?_;refine Xv.i (tv) (jk a1 rfl rfl) ?_;refine⟨_,λw' _=>⟨rfl,rfl⟩,?_⟩;refine Xv.i _ (λw' _=>by simp[go_sem]<;>trivial) ?_;refine Xv.i (KZ) (jk Cy rfl rfl) ?_;refine Xq.call (fn:=f41) (.bool (cZ t0 t2)) (aH func41 (c:=bC f41) ai ai _) (λw' hw=>(H.same aj Th Cz (aU.new hw _ _ Tg) (aU.new hw _ _ Ld)).mono ?_) ?_
  .exact cN hw
  exact dO
 refine Xv.i _ (λw' _=>fP w' _ _) ?_;refine Q1.gd (cZ a a2) (λ_ kx dO=>?_) ?_
 .refine⟨_,λw' _=>⟨rfl,rfl⟩,?_⟩;refine Xv.i _ (λw' _=>by simp[go_sem]<;>trivial) ?_;refine Xv.i (av) (jk a1 rfl rfl) ?_;refine⟨_,λw' _=>⟨rfl,rfl⟩,?_⟩;refine Xv.i _ (λw' _=>by simp[go_sem]<;>trivial) ?_;refine Xv.i (sN) (jk Cy rfl rfl) ?_;refine Xq.call (fn:=f22) (.bool (cZ a a2)) (aH func22 (c:=bC f22) ai ai _) (λw' hw=>(OD hn H aj ha B2 (aU.new hw _ _ ra) (aU.new hw _ _ Le)).mono ?_) ?_
  .exact cN hw
  exact dO
 refine Xv.i _ (λw' _=>fP w' _ _) ?_;refine Q1.gd (cZ b b2) (λ_ kx dO=>?_) ?_
 .refine⟨_,λw' _=>⟨rfl,rfl⟩,?_⟩;refine Xv.i _ (λw' _=>by simp[go_sem]<;>trivial) ?_;refine Xv.i (bv) (jk a1 rfl rfl) ?_;refine⟨_,λw' _=>⟨rfl,rfl⟩,?_⟩;refine Xv.i _ (λw' _=>by simp[go_sem]<;>trivial) ?_;refine Xv.i (sO) (jk Cy rfl rfl) ?_;refine Xq.call (fn:=f22) (.bool (cZ b b2)) (aH func22 (c:=bC f22) ai ai _) (λw' hw=>(OD hn H aj hb uP (aU.new hw _ _ rb) (aU.new hw _ _ rQ)).mono ?_) ?_
  .exact cN hw
  exact dO
 refine Xv.i _ (λw' _=>fP w' _ _) ?_;intro w2 K2;exact⟨by rw[xN],K2⟩
theorem mS:∀n,n<=aX->uX n
 |0,_=>⟨λh=>absurd h (Nat.not_lt_zero _),λh=>absurd h (Nat.not_lt_zero _)⟩
 |n+1,hn=>⟨c41 aj (mS n aj),c40 aj (mS n aj)⟩
theorem alike{F:Nat->Prop}{w:Wd}{s t:Tr}{u v:Va}(hz:tz s<=aX)(hs:wf s 3=true)(ht:wf t 3=true)(rs:aU F w s (.L u))(rt:aU F w t (.L v)):
  Calls prog 22 #[u,v] w (aZ (λx w'=>x=.bool (cZ s t)/\aD [] w w') NP):=
 OD (le_refl _) (mS _ (le_refl _)) hz hs ht rs rt
def Lf(R:ER)(a0 a1 a2:Va)(w:Wd):Prop:=
 V1 prog (Bo .neq 20 false true a2 .nilIface) w (λc w=>If c (V1 prog (typeAssert a2 20 49 true) w (λa w=>V1 prog (extract a 0) w (λd w=>V1 prog (extract a 1) w (λe w=>V1 prog (alloc 49 true (.tuple #[])) w (λb w=>U1 prog (storeAt 49 b d) w (λw=>J0 (λk1=>V1 prog (Op.unary .not e) w (λf w=>If f (V1 prog (Instr.panic a2) w (λ_ w=>k1 w) (pn R)) (k1 w)) (pn R)) (λw=>∃S1:WP,S1 w.drew/\Xw prog (λ_=>True) (fieldAt 49 b 0) λg=>Xw prog S1 (loadAt 23 g) λh=>U1 prog (storeAt 9 a0 (.string ⟨#[]⟩)) w.drew (λw=>S1 w/\U1 prog (storeAt 23 a1 h) w (λw=>cu R (.tuple #[]) w) (pn R)) (pn R))) (pn R)) (pn R)) (pn R)) (pn R)) (pn R)) (cu R (.tuple #[]) w)) (pn R)
theorem Xc(R:ER)(a0 a1 a2:Va)(w:Wd):body prog 18 [5] [] (tl (bC f17)) [a0,a1,a2] R w=Lf R a0 a1 a2 w:=ai
set_option maxHeartbeats 2000000 in
theorem Lg(p0 p1 v:Va):Ag 18 (ez 0 [p0,p1,v]) {tmps:=#[p0,p1]++((replicate 16 undef).setIfInBounds 3 v).setIfInBounds 0 v,defers:=[]}:=by
 refine⟨by simp,?_⟩;intro t x ht;simp only[ez,List.lookup]at ht;split at ht
 .rename_i h;have:=eq_of_beq h;subst this;cases ht;rfl
 .split at ht
  .rename_i h;have:=eq_of_beq h;subst this;cases ht;rfl
  .split at ht
   .rename_i h;have:=eq_of_beq h;subst this;cases ht;rfl
   .cases ht
theorem xP{p0 p1:Va}{w:Wd}{R:ER}(h:Lf R p0 p1 .nilIface w){R':Ending->FrameMode->WP}
  (hr:∀w',R (.returned (.tuple #[])) w'->R' (.returned (.tuple #[])) .returning w') (hp:∀ch w',R (.panicked ch) w'->R' (.panicked ch) .returning w'):
  CallsD prog 17 #[p0,p1] .returning w R':=by
 refine callsD_of_wpS (c:=bC f17) func17 ai λc₀ cs hu=>?_;show(Code.seq _ (tl (bC f17))).wpS _ _ _ _ _
 apply wpS_seq
 apply wpS_region
 simp[wpOpsS,go_sem,recoverD,hu,Exit.thenS]
 refine mb (n:=18) (hd:=[5]) (args:=[p0,p1,.nilIface]) (u':=.returning) (by rw[Xc];exact h) (Lg p0 p1 .nilIface) rfl ?_ ai hr hp
 cases c₀
 simp_all
theorem xQ{p0 p1 v:Va}{w:Wd}{R:ER}(h:Lf R p0 p1 v w){R':Ending->FrameMode->WP}
  (hr:∀w',R (.returned (.tuple #[])) w'->R' (.returned (.tuple #[])) (.panicking [{v,recovered:=true}]) w') (hp:∀ch w',R (.panicked ch) w'->R' (.panicked ch) (.panicking [{v,recovered:=true}]) w'):
  CallsD prog 17 #[p0,p1] (.panicking [{v,recovered:=false}]) w R':=by
 refine callsD_of_wpS (c:=bC f17) func17 ai λc₀ cs hu=>?_;show(Code.seq _ (tl (bC f17))).wpS _ _ _ _ _
 apply wpS_seq
 apply wpS_region
 simp[wpOpsS,go_sem,recoverD,hu,Exit.thenS]
 exact mb (n:=18) (hd:=[5]) (args:=[p0,p1,v]) (u':=.panicking [{v,recovered:=true}]) (by rw[Xc];exact h) (Lg p0 p1 v) rfl rfl ai hr hp
theorem od(a b:Va)(w:Wd):(invoke (.fn (.func 17) #[a,b]) #[]).run prog w=.ok (.enter 17 #[a,b]) w:=aH func17 (c:=bC f17) ai ai _ _
theorem xR{res:Wd->(Va->Prop)->Prop}{R:ER}{a b:Va}{w:Wd}(h:Lv prog res R [] .returning w):
  Lv prog res R [⟨.fn (.func 17) #[a,b],#[]⟩] .returning w:=by
 refine⟨by simp,.func 17,#[a,b],17,#[a,b],rfl,od a b w,?_⟩;refine xP (R:=λe w'=>e=.returned (.tuple #[])/\w'=w) ?_ ?_ ?_
 .unfold Lf;refine V1.bf am ?_;exact If.f ⟨rfl,rfl⟩
 .rintro w' ⟨_,rfl⟩;exact h
 .rintro ch w' ⟨e,_⟩
  cases e
theorem Ti(v:Va)(w:Wd):(typeAssert (.iface 49 v) 20 49 true).run prog w=.ok (.tuple #[v,.bool true]) w:=ai
theorem U1.w49{w:Wd}{b:Nat}{x:Va}{c:Int}{k:WP}{e:EK}(hA:At w b [x])
  (hk:∀w',tB w b [.int .i64 c] w'->k w'):U1 prog (storeAt 49 (.pointer (some ⟨b,0,none⟩)) (.agg #[.int .i64 c])) w k e:=by
 have h0:=hA.set 0 (.int .i64 c);refine U1.i (w':=w.setCell ⟨b,0,none⟩ (.int .i64 c)) (v:=()) ?_ (hk _ ⟨h0,by simp[setCell],?_,λq=>by simp only[fH]⟩)
 .simp[go_sem,hA.cell,hA.fr]
 .exact(aD.refl _ _).set _ (.inl ak)
theorem xS{res:Wd->(Va->Prop)->Prop}{R:ER}{bo be:Nat}{c:Int}{x y:Va}{w:Wd}(ao:At w bo [x])(ae:At w be [y])(aI:bo≠be)
  (h:∀w',At w' bo [str []]->At w' be [.int .i64 c]->aD [bo,be] w w'->Lv prog res R [] .returning w'):
  Lv prog res R [⟨.fn (.func 17) #[ptr bo,ptr be],#[]⟩] (.panicking (Oz c)) w:=by
 refine⟨by simp,.func 17,#[ptr bo,ptr be],17,#[ptr bo,ptr be],rfl,od _ _ w,?_⟩;refine xQ (R:=λe w'=>e=.returned (.tuple #[])/\At w' bo [str []]/\At w' be [.int .i64 c]/\aD [bo,be] w w') ?_ ?_ ?_
 .unfold Lf;refine V1.bt am ?_;refine If.t ?_;refine V1.i (Ti _ w) ?_;refine V1.i ah ?_;refine V1.i ah ?_;refine V1.new (O9 _) λb3 w3 N3=>?_;have lo:=ao.lt;have le:=ae.lt;have g3:=N3.ge;have ao3:=N3.aA.at ao ak;have ae3:=N3.aA.at ae ak;refine U1.w49 (x:=.int .i64 0) N3.at_ λw4 U4=>?_;have a3:At w4 b3 [.int .i64 c]:=U4.at_;have ao4:=U4.aA.at ao3 al;have ae4:=U4.aA.at ae3 al;have kk:aD [bo,be] w w4:=(N3.aA.mono ak).trans' U4.aA al;refine J0.go ?_;refine V1.i ah ?_;refine If.f ?_;have kk:aD [bo,be] w w4.drew:=kk.drew;have SE:At w4.drew bo [x]:=ao4;have SF:At w4.drew be [y]:=ae4
  have Ou:At w4.drew b3 [.int .i64 c]:=a3;refine⟨λw'=>At w' b3 [.int .i64 c],Ou,?_⟩;generalize w4.drew=w1 at*;refine Xw.i _ (λw' _=>by simp[go_sem]<;>trivial) ?_;refine Xw.i _ (λw' hw=>(aC rfl) _ _ _ (by rw[hw.cell];rfl)) ?_;unfold ptr;refine U1.store (aO rfl rfl) SE ak λw2 U2=>?_;refine⟨U2.aA.at Ou al,?_⟩;refine U1.store (aO rfl rfl) (U2.aA.at SF al) ak λw3 U3=>?_;exact⟨rfl,U3.aA.at U2.at_ al,U3.at_,(kk.trans' U2.aA ak).trans' U3.aA ak⟩
 .rintro w' ⟨_,h1,h2,h3⟩;exact h w' h1 h2 h3
 .rintro ch w' ⟨e,_⟩
  cases e
def ei:Nat:=300000
noncomputable def iD(n:Nat)(l:Tr):By×Int:=match bJ n (.stmts l) [] 0 with
 |.fail c=>([],c)
 |.ok buf _=>(match dC ei buf with
  |.fail c=>([],if c=3 then 3 else 2)
  |.ok t _ _=>if cZ t l=true then(buf,0)else([],2)
  |.bH=>([],0))
 |.bH=>([],0)
theorem BF.aA{w w':Wd}{b:Nat}{buf:By}(h:BF w b buf)(hk:aD [] w w'):BF w' b buf:=by
 obtain⟨ad,v,rest,ab,hv⟩:=h;refine⟨ad,v,rest,hk.at ab ak,?_⟩;rcases hv with h|⟨g,cap,cur,fr,h1,h2,h3,h4,h5⟩
 .exact .inl h
 .refine .inr ⟨g,cap,cur,fr,h1,h2,h3,?_,h5⟩;have:g<w.heap.size:=by
   rcases lt_or_ge g w.heap.size with h|h
   .exact h
   .rw[Array.getElem?_eq_none h]at h4;cases h4
  rw[hk.same g this ak];exact h4
theorem lz{s:By}(h:s.length<=32768):RG (λt _=>wf t 3=true/\tz t<=aX) (dC ei s):=
 (mP (by unfold ei;omega)).imp λt ts _ ht=>⟨ht.1,by have:=gn t;have:=ht.2.1;unfold aX;omega⟩
abbrev Lh(bs be:Nat):Wd->(Va->Prop)->Prop:=λw k=>∃v0,(loadAt 9 (.pointer (some ⟨bs,0,none⟩))).run prog w=.ok v0 w/\∃v1,(loadAt 23 (.pointer (some ⟨be,0,none⟩))).run prog w=.ok v1 w/\k (.tuple #[v0,v1])
theorem c9{F:Nat->Prop}{w:Wd}{l:Tr}{v:Va}(g:GL w)(n:Nat)(rl:aU F w l (.L v))(aI:bJ n (.stmts l) [] 0≠.bH)(iv:∀buf p,bJ n (.stmts l) [] 0=.ok buf p->wf l 3=true):
  Calls prog 9 #[v] w (aZ (λu w'=>u=.tuple #[str (iD n l).1,.int .i64 (iD n l).2]/\aD [] w w') NP):=by
 refine s9 ?_;unfold S9;refine V1.new (Ym _) λbs w1 N1=>?_;refine V1.new (GW _) λbe w2 N2=>?_;have gs1:=N1.ge;have ni:=N2.ge;have ls1:=N1.lt;have ls2:=N2.lt;have z1:=N1.aA.size;have z2:=N2.aA.size;have ao:At w2 bs [str []]:=N2.aA.at N1.at_ ak;have ae:At w2 be [.int .i64 0]:=N2.at_;refine V1.i ah ?_;refine D1.i (v:=⟨.fn (.func 17) #[ptr bs,ptr be],#[]⟩) (w':=w2) (by simp[go_sem,Deferred.ofValue];exact⟨rfl,rfl⟩) ?_;refine V1.i ah ?_;refine V1.JU (Pd _ _) λbt w5 N5 Rz=>?_;have gs5:=N5.ge;have ls5:=N5.lt;have z5:=N5.aA.size;have kk:aD [] w w5:=(N1.aA.trans N2.aA).trans N5.aA;replace ao:=N5.a ao;replace ae:=N5.a ae;have g5:=g.new kk;have F3:=g.wo
 have a5:At w5 bt [.pointer none,.slice none 0 0,.int .i64 0]:=N5.at_;have bx:BX w5.heap.size w5 bt [.int .i64 (0:Nat)] []:=⟨_,_,a5,.inl ⟨rfl,56,3,Rz,.inr ⟨rfl,rfl⟩⟩,dK.nil _ _,.inl rfl,ls5,le_refl _⟩;have ht:TX w5 bt [] 0:=⟨_,bx,g5,by omega,by simp,by omega⟩;have rl5:aU (FO bt w5) w5 l (.L v):=aU.aA kk (λq _ hq=>⟨by simp,by omega,λad v' rest h e=>by
  have:=ib a5 h;injection this with h1 h2;injection h2 with h2 h3;subst h2
  cases e⟩) _ _ rl
 have pg:∀(w':Wd) (s:By) (c:Int),At w' bs [str s]->At w' be [.int .i64 c]->(s,c)=iD n l->aD [] w w'->Lv prog (Lh bs be) (aZ (λu w'=>u=.tuple #[str (iD n l).1,.int .i64 (iD n l).2]/\aD [] w w') NP) [] .returning w':=by
  intro w' s c h1 h2 h3 h4;refine⟨_,(aC rfl) _ _ _ (by rw[h1.cell];rfl),_,(aC rfl) _ _ _ (by rw[h2.cell];rfl),?_,h4⟩;rw[←h3]
 have qM:∀(c:Int) (wb:Wd) (x y:Va),At wb bs [x]->At wb be [y]->([],c)=iD n l->aD [] w wb->Lv prog (Lh bs be) (aZ (λu w'=>u=.tuple #[str (iD n l).1,.int .i64 (iD n l).2]/\aD [] w w') NP) [⟨.fn (.func 17) #[ptr bs,ptr be],#[]⟩] (.panicking (Oz c)) wb:=by
  intro c wb x y h1 h2 h3 h4;refine xS h1 h2 aj λw' h5 h6 h7=>?_;exact pg w' _ _ h5 h6 h3 (h4.trans' h7 al)
 have h18:=(AE n).stmts ht rl5 rfl aI;refine G7 h18 ?_ ?_;rotate_left
 .intro c w6 h
  cases hr:bJ n (.stmts l) [] 0 with
  |bH=>exact absurd hr aI
  |ok buf p=>rw[hr]at h;exact h.elim
  |fail e=>
   rw[hr]at h;obtain⟨rfl,ko,_,_⟩:=h;have kl:=ko.kl bx;refine qM e w6 _ _ ((KL.aA kl).at ao (iK aj aj)) ((KL.aA kl).at ae (iK aj aj)) ?_ ?_
   .unfold iD;rw[hr]
   .exact kk.trans' (KL.aA kl) (λi hi bO=>by rcases mK hi with h|h<;>omega)
 intro _ w6 h
 cases hr:bJ n (.stmts l) [] 0 with
 |bH=>exact absurd hr aI
 |fail e=>rw[hr]at h;exact h.elim
 |ok buf p=>
 rw[hr]at h;obtain⟨ht6,ko⟩:=h;have CA:=iv buf p hr;have kl:=ko.kl bx;have Tj:=KL.aA kl;have kk6:aD [] w w6:=kk.trans' Tj (λi hi bO=>by rcases mK hi with h|h<;>omega);replace ao:=Tj.at ao (iK aj aj);replace ae:=Tj.at ae (iK aj aj);have z6:=kl.size;obtain⟨Li,Xd,g6,_,hlen,_⟩:=ht6;have bf:=Xd.bf;obtain⟨ad,vb,ab,_,hv,_,Tk,_⟩:=Xd;have hM:∀(w':Wd),At w' bt (ad::vb::[.int .i64 p])->∀q,(∃rJ fz n c,At w' bt (rJ::.slice (some ⟨q,0,none⟩) n c::fz))->Li<=q:=by
  rintro w' h1 q ⟨rJ,fz,n',c',h2⟩;have:=ib h1 h2;injection this with _ this;injection this with this _;exact(hv.lt (g:=q) (by rw[this];rfl)).1
 have CB:buf.length<=1099511627776:=by omega
 have OE:=lz hlen;refine Up.i (Nc.p _ _) ?_;refine V1.i (v:=ptr bt) (w':=w6) (by simp[go_sem,ptr];first|done|rfl|exact⟨rfl,rfl⟩|(rintro rfl;rfl)) ?_;refine DJ (Rr bf CB) ?_ (λ_ _ h=>h.elim);rintro _ w7 ⟨rfl,bf,M7,K7,hM7⟩;have OG:∀q∈M7,Li<=q:=λq hq=>hM w6 ab q (hM7 q hq);have Lj:∀{M:List Nat}{q:Nat},(∀q∈M,Li<=q)->q<Li->q∉M:=λh1 h2 h3=>by have:=h1 _ h3;omega
 replace ab:=K7.at ab (Lj OG Tk);replace ao:=K7.at ao (Lj OG aj);replace ae:=K7.at ae (Lj OG aj);have Xe:aD [] w w7:=kk6.trans' K7 (λi hi bO=>by have:=OG i hi;omega);have g7:=g.new Xe;have xT:dC ei buf≠.bH:=by
  intro e;rw[e]at OE;exact OE
 refine DP (KA w7 buf g7 ei (by unfold ei aX;omega) _ rfl xT) ?_ (λ_ _ h=>h.elim);rintro _ w8 ⟨hq,K8⟩;replace ab:=K8.at ab ak;replace ao:=K8.at ao ak;replace ae:=K8.at ae ak;replace bf:=bf.aA K8;have zc:aD [] w w8:=Xe.trans K8;have AJ:iD n l=(match dC ei buf with
  |.fail c=>([],if c=3 then 3 else 2)
  |.ok t _ _=>if cZ t l=true then(buf,0)else([],2)
  |.bH=>([],0)):=by unfold iD;rw[hr]
 cases hp:dC ei buf with
 |bH=>exact absurd hp xT
 |fail c=>
  rw[hp]at hq AJ;obtain⟨q,line,rfl,aq,gq⟩:=hq;refine V1.i ah ?_;refine V1.i ah ?_;refine V1.i ah ?_;refine wc (Q0 aq 3) ?_ (λ_ _ h=>h.elim);rintro _ wk ⟨rfl,rfl⟩;refine V1.i (v:=.bool (!(c==3))) (w':=wk) am ?_;by_cases h3:c=3
  .subst h3;refine gX (c20 _ false 3) ?_ ?_
   .rintro _ w9 ⟨hb,_⟩
    cases hb
   .rintro c w9 ⟨_,rfl,rfl⟩;exact qM 3 _ _ _ ao ae (by rw[AJ];rfl) zc
  .rw[show(!(c==3))=true by simpa using h3];refine gX (c20 _ true 3) ?_ ?_;rotate_left
   .rintro c w9 ⟨hb,_⟩
    cases hb
   rintro _ w9 ⟨_,rfl⟩;refine V1.i (nM _ _ _ _) ?_;refine Dh.go (Gd.ft ?_);refine V1.i ah ?_;refine gX (c20 _ false 2) ?_ ?_
   .rintro _ w9 ⟨hb,_⟩
    cases hb
   .rintro c' w9 ⟨_,rfl,rfl⟩;exact qM 2 _ _ _ ao ae (by rw[AJ];dsimp only;rw[if_neg h3]) zc
 |ok t ts o=>
  rw[hp]at hq OE AJ;dsimp only at AJ;obtain⟨lv,rfl,rt,il⟩:=hq;obtain⟨_,vF,htz⟩:=OE;refine V1.i ah ?_;refine V1.i ah ?_;refine V1.i ah ?_;refine wc (tJ _ _ _) ?_ (λ_ _ h=>h.elim);rintro _ wj ⟨rfl,rfl⟩;refine V1.i ah ?_;refine gX (c20 _ true 3) ?_ ?_;rotate_left
  .rintro c w9 ⟨hb,_⟩
   cases hb
  rintro _ wk ⟨_,rfl⟩;refine V1.i (IZ _ _) ?_;refine Dh.go (Gd.tt ?_);have rl8:aU (λ_=>True) wk l (.L v):=aU.imp (λ_ _ _=>trivial) _ _ (aU.new zc _ _ rl);refine Ph (alike (F:=λ_=>True) htz vF CA (aU.imp (λ_ _ _=>trivial) _ _ rt) rl8) ?_ (λ_ _ h=>h.elim);rintro _ eo ⟨rfl,dE⟩;replace ab:=dE.at ab ak;replace ao:=dE.at ao ak;replace ae:=dE.at ae ak;replace bf:=bf.aA dE;have Lk:aD [] w eo:=zc.trans dE;refine V1.i (v:=.bool (cZ t l)) (w':=eo) am ?_
  cases he:cZ t l with
  |false=>
   rw[he,if_neg Bool.false_ne_true]at AJ;refine gX (c20 _ false 2) ?_ ?_
   .rintro _ fB ⟨hb,_⟩
    cases hb
   .rintro c' fB ⟨_,rfl,rfl⟩;exact qM 2 _ _ _ ao ae AJ.symm Lk
  |true=>
   rw[he,if_pos rfl]at AJ;refine gX (c20 _ true 2) ?_ ?_;rotate_left
   .rintro c fB ⟨hb,_⟩
    cases hb
   rintro _ fB ⟨_,rfl⟩;refine Up.i (Nc.p _ _) ?_;refine V1.i (v:=ptr bt) (w':=fB) (by simp[go_sem,ptr];first|done|rfl|exact⟨rfl,rfl⟩|(rintro rfl;rfl)) ?_;refine DJ (Rr bf CB) ?_ (λ_ _ h=>h.elim);rintro _ gz ⟨rfl,_,M12,dw,Tl⟩;have EO:∀q∈M12,Li<=q:=λq hq=>hM fB ab q (Tl q hq);replace ao:=dw.at ao (Lj EO aj);replace ae:=dw.at ae (Lj EO aj);have Tm:aD [] w gz:=Lk.trans' dw (λi hi bO=>by have:=EO i hi;omega);refine U1.store (aO rfl rfl) ao ak λlZ fT=>?_;have Tn:At lZ bs [str buf]:=fT.at_;have To:=fT.aA.at ae al;refine U1.store (aO rfl rfl) To ak λlu jB=>?_;refine xR ?_
   exact pg lu buf 0 (jB.aA.at Tn al) jB.at_ AJ.symm ((Tm.trans' fT.aA al).trans' jB.aA al)
def S4(R:ER)(a0:Va)(w:Wd):Prop:=
 cr R 9 a0 w λg w=>v1 R (min_ #[3,3] 3 #[g,(.int .i64 4000)]) w λh w=>v1 R (sliceAt 9 a0 none (some h) none) w λi w=>cf R 13 #[i] w λa w=>bw R a 0 w λb w=>bw R a 1 w λj w=>bk R .neq 31 false true j .nilIface w λl w=>If l (cf R 12 #[] w λm w=>cu R m w) (cf R 9 #[b] w λc w=>bw R c 0 w λn w=>bw R c 1 w λo w=>cf R 11 #[b] w λd w=>bw R d 0 w λp w=>bw R d 1 w λq w=>bk R .eql 9 false false n p w λe w=>J1 (λk1=>Gd e true (bk R .eql 23 false false o q w λr w=>k1 r w) (k1 undef w)) (λs w=>bq R e s (.bool false) w λf w=>J1 (λk2=>Gd f true (cf R 12 #[] w λt w=>k2 t w) (k2 undef w)) (λu w=>bq R f u (.bool false) w λv w=>cu R v w)))
theorem s4:dc 4 S4:=λh=>cw [] func4 h
def Xf(R:ER)(w:Wd):Prop:=
 cf R 16 #[(.string ⟨#[97,61,49,43,50,42,51,32,98,32,61,32,40,49,43,50,41,42,51]⟩)] w λb w=>bk R .eql 9 false true b (.string ⟨#[97,32,61,32,49,32,43,32,50,32,42,32,51,10,98,32,61,32,40,49,32,43,32,50,41,32,42,32,51,10]⟩) w λa w=>J1 (λk1=>Gd a true (cf R 16 #[(.string ⟨#[116,91,34,120,34,93,61,45,40,45,49,41,32,116,91,34,101,110,100,34,93,61,110,111,116,32,40,97,61,61,98,41]⟩)] w λc w=>bk R .eql 9 false true c (.string ⟨#[116,46,120,32,61,32,45,32,45,32,49,10,116,91,34,101,110,100,34,93,32,61,32,110,111,116,32,40,97,32,61,61,32,98,41,10]⟩) w λd w=>k1 d w) (k1 undef w)) (λe w=>bq R a e (.bool false) w λf w=>cu R f w)
theorem Ll:df 12 Xf:=λh=>cw [] func12 h
theorem Lm:bZ 12:=db func12
def Xg(R:ER)(a0:Va)(w:Wd):Prop:=
 cf R 13 #[a0] w λa w=>bw R a 0 w λc w=>bw R a 1 w λd w=>bk R .neq 31 false true d .nilIface w λe w=>If e (cu R (.string ⟨#[]⟩) w) (cf R 9 #[c] w λb w=>bw R b 0 w λf w=>bw R b 1 w λg w=>cu R f w)
theorem s16:dc 16 Xg:=λh=>cw [] func16 h
theorem Lo:bZ 16:=db func16
theorem Tp{w:Wd}(g:GL w){s:By}{m n:Nat}{t:Tr}{ts:LT}{o:Bool}(hm:m<=aX)(hp:dC m s=.ok t ts o)(hw:wf t 3=true)(aI:bJ n (.stmts t) [] 0≠.bH):
  Calls prog 16 #[str s] w (aZ (λv w'=>v=str (iD n t).1/\aD [] w w') NP):=by
 refine s16 ?_;unfold Xg;refine DP (KA w s g m hm _ rfl (by rw[hp];exact bL.noConfusion)) ?_ (NP.no (e:=_));rintro _ w1 ⟨hq,K1⟩;rw[hp]at hq;obtain⟨lv,rfl,rt,il⟩:=hq;refine V1.i ah ?_;refine V1.i ah ?_;refine V1.i (Aa _ _) ?_;refine If.f ?_;refine VG (c9 (g.new K1) n rt aI (λ_ _ _=>hw)) ?_ (NP.no (e:=_));rintro _ w2 ⟨rfl,K2⟩;refine V1.i ah ?_;refine V1.i ah ?_;exact⟨rfl,K1.trans K2⟩
def ij(s:By):Tr:=match dC 2000 s with
 |.ok t _ _=>t
 |_=>.nil
def again(s o:By):Bool:=(match dC 2000 s with|.ok _ _ _=>true|_=>false)&&(match bJ 2000 (.stmts (ij s)) [] 0 with|.ok b _=>b==o|_=>false)&&
 (match dC ei o with|.ok _ _ _=>true|_=>false)
theorem oe{s o:By}(h:again s o=true)(hw:wf (ij s) 3=true)(he:(match dC ei o with|.ok t _ _=>t|_=>.hole)=ij s){w:Wd}(g:GL w):
  Calls prog 16 #[str s] w (aZ (λv w'=>v=str o/\aD [] w w') NP):=by
 unfold again at h;rw[and_eq_true,and_eq_true]at h;obtain⟨⟨h1,h2⟩,h3⟩:=h
 cases hp:dC 2000 s with
 |fail c=>rw[hp]at h1;cases h1
 |bH=>rw[hp]at h1;cases h1
 |ok t ts own=>
  have ht:ij s=t:=by unfold ij;rw[hp]
  rw[ht]at h2 hw he
  cases hr:bJ 2000 (.stmts t) [] 0 with
  |fail c=>rw[hr]at h2;cases h2
  |bH=>rw[hr]at h2;cases h2
  |ok b p=>
   rw[hr]at h2;obtain rfl:=eq_of_beq h2
   cases hq:dC ei b with
   |fail c=>rw[hq]at h3;cases h3
   |bH=>rw[hq]at h3;cases h3
   |ok t2 dA o2=>
    rw[hq]at he;dsimp only at he;have ho:(iD 2000 t).1=b:=by
     unfold iD;rw[hr];dsimp only;rw[hq];dsimp only;rw[he,eu,if_pos rfl]
    have:=Tp g (m:=2000) (n:=2000) (by unfold aX;omega) hp hw (by rw[hr];exact PR.noConfusion);rwa [ho]at this
def Tq:By:=[97,61,49,43,50,42,51,32,98,32,61,32,40,49,43,50,41,42,51]
def OH:By:=[97,32,61,32,49,32,43,32,50,32,42,32,51,10,98,32,61,32,40,49,32,43,32,50,41,32,42,32,51,10]
def Ts:By:=[116,91,34,120,34,93,61,45,40,45,49,41,32,116,91,34,101,110,100,34,93,61,110,111,116,32,40,97,61,61,98,41]
def OI:By:=[116,46,120,32,61,32,45,32,45,32,49,10,116,91,34,101,110,100,34,93,32,61,32,110,111,116,32,40,97,32,61,61,32,98,41,10]
theorem EP:again Tq OH=true:=ai
theorem ES:again Ts OI=true:=ai
theorem wf1:wf (ij Tq) 3=true:=ai
theorem wf2:wf (ij Ts) 3=true:=ai
theorem Lq:(match dC ei OH with|.ok t _ _=>t|_=>.hole)=ij Tq:=ai
theorem Lr:(match dC ei OI with|.ok t _ _=>t|_=>.hole)=ij Ts:=ai
theorem c12{w:Wd}(g:GL w):Calls prog 12 #[] w (aZ (λv w'=>v=.bool true/\aD [] w w') NP):=by
 refine Ll ?_;unfold Xf;refine Lo (oe EP wf1 Lq g) ?_ (NP.no (e:=_));rintro _ w1 ⟨rfl,K1⟩;refine V1.bt (mu w1 _ _ OH OH) ?_;refine J1.go (Gd.tt ?_);refine Lo (oe ES wf2 Lr (g.new K1)) ?_ (NP.no (e:=_));rintro _ w2 ⟨rfl,K2⟩;refine V1.bt (mu w2 _ _ OI OI) ?_;refine V1.i ah ?_;exact⟨rfl,K1.trans K2⟩
end Go.Proofs.YtoddjlclpnoomaaGreatDoor

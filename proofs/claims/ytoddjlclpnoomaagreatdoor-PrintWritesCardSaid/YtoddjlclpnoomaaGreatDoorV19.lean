import Derived.Test.YtoddjlclpnoomaaGreatDoorV18
set_option linter.unusedVariables false
set_option linter.unusedSimpArgs false
set_option maxRecDepth 100000
open List (length_cons length_append length_nil)
open Nat (le_refl)
open Bool (and_eq_true or_eq_false_iff)
namespace Go.Proofs.YtoddjlclpnoomaaGreatDoor
def TG:LT->Prop
 |[]=>False
 |[t]=>t.kind=5
 |t::u::ts=>t.kind≠5/\i64 t.n=true/\TG (u::ts)
def cn:Tr->Nat
 |.cons a b=>1+cn a+cn b
 |.ex _ _ _ l r ks ew ps b=>1+ps.length+cn l+cn r+cn ks+cn ew+cn b
 |.st _ _ l r t a b=>1+cn l+cn r+cn t+cn a+cn b
 |_=>0
def wf:Tr->Nat->Bool
 |.nil,_=>true
 |.ex _ n _ l r ks ew _ b,0=>i64 n&&wf l 0&&wf r 0&&wf ks 1&&wf ew 1&&wf b 3
 |.cons a t,1=>wf a 0&&wf t 1
 |.st _ _ l r t a b,2=>wf l 0&&wf r 0&&wf t 0&&wf a 3&&wf b 3
 |.cons a t,3=>wf a 2&&wf t 3
 |_,_=>false
theorem eC:∀(t x:Tr),wf t 1=true->wf x 0=true->wf (snoc t x) 1=true/\cn (snoc t x)=1+cn t+cn x
 |.nil,x,_,hx=>by simp[snoc,wf,hx,cn]
 |.cons a t,x,h,hx=>by
  simp only[wf,and_eq_true]at h;have:=eC t x h.2 hx;simp[snoc,wf,h,this,cn];omega
 |.hole,x,h,hx=>by simp[wf]at h
 |.ex ..,x,h,hx=>by simp[wf]at h
 |.st ..,x,h,hx=>by simp[wf]at h
theorem im:∀(t x:Tr),wf t 3=true->wf x 2=true->wf (snoc t x) 3=true/\cn (snoc t x)=1+cn t+cn x
 |.nil,x,_,hx=>by simp[snoc,wf,hx,cn]
 |.cons a t,x,h,hx=>by
  simp only[wf,and_eq_true]at h;have:=im t x h.2 hx;simp[snoc,wf,h,this,cn];omega
 |.hole,x,h,hx=>by simp[wf]at h
 |.ex ..,x,h,hx=>by simp[wf]at h
 |.st ..,x,h,hx=>by simp[wf]at h
def xx:Tr->Bool
 |.ex ..=>true
 |_=>false
def isS:Tr->Bool
 |.st ..=>true
 |_=>false
def cH:Cl->Nat
 |.func _|.bracket _|.inner _|.bin ..|.params _=>0
 |.lM|.signed|.exprL ..|.dH ..=>1
 |.dz=>2
 |.post=>3
 |.simple|.operand=>4
 |.expr _=>5
 |.stmt=>5
 |.branch|.args _|.item|.fD _=>6
 |.items ..|.block=>7
def RG(P:Tr->LT->Prop):bN->Prop
 |.ok t ts _=>TG ts/\P t ts
 |.fail _=>True
 |.bH=>False
theorem RG.bind{P Q:Tr->LT->Prop}{r:bN}{f:Tr->LT->Bool->bN}(h:RG P r)(hf:∀t ts o,TG ts->P t ts->RG Q (f t ts o)):RG Q (r.bind f):=by
 cases r with
 |ok t ts o=>exact hf t ts o h.1 h.2
 |fail c=>trivial
 |bH=>exact h.elim
theorem RG.imp{P Q:Tr->LT->Prop}{r:bN}(h:RG P r)(hf:∀t ts,TG ts->P t ts->Q t ts):RG Q r:=by
 cases r with
 |ok t ts o=>exact⟨h.1,hf t ts h.1 h.2⟩
 |fail c=>trivial
 |bH=>exact h.elim
theorem TG.bG{ts:LT}(h:TG ts)(hk:(hd ts).kind≠5):TG (bG ts)/\(bG ts).length+1=ts.length:=by
 match ts,h with
 |[t],h=>exact absurd h hk
 |t::u::ts,h=>exact⟨h.2.2,rfl⟩
theorem TG.n64{ts:LT}(h:TG ts)(hk:(hd ts).kind≠5):i64 (hd ts).n=true:=by
 match ts,h with
 |[t],h=>exact absurd h hk
 |t::u::ts,h=>exact h.2.1
theorem zd{t:Tok}{ss:LB}(h:gw t ss=true):t.kind=4:=by
 unfold gw at h;simp only[and_eq_true,beq_iff_eq]at h;exact h.1
theorem TG.is{ts:LT}{ss:LB}(h:TG ts)(hk:gw (hd ts) ss=true):TG (Go.Proofs.YtoddjlclpnoomaaGreatDoor.bG ts)/\(Go.Proofs.YtoddjlclpnoomaaGreatDoor.bG ts).length+1=ts.length:=
 h.bG (by rw[zd hk];decide)
theorem RG.cM{Q:Tr->LT->Prop}{s:By}{ts:LT}{f:LT->bN}(h:TG ts)(hf:∀bX,TG bX->bX.length+1=ts.length->RG Q (f bX)):RG Q (aR s ts f):=by
 unfold aR
 cases h1:bC s ts with
 |true=>exact hf _ (h.is h1).1 (h.is h1).2
 |false=>trivial
theorem RG.name{Q:Tr->LT->Prop}{ts:LT}{f:By->LT->bN}(h:TG ts)(hf:∀nm bX,TG bX->bX.length+1=ts.length->RG Q (f nm bX)):RG Q (cU ts f):=by
 unfold cU
 cases h1:(hd ts).kind==1 with
 |true=>
  have h2:(hd ts).kind≠5:=by rw[beq_iff_eq.mp h1];decide
  exact hf _ _ (h.bG h2).1 (h.bG h2).2
 |false=>trivial
theorem RG.open{Q:Tr->LT->Prop}{d:Int}{f:Int->bN}(hf:∀d,RG Q (f d)):RG Q (cD d f):=by
 unfold cD
 cases decide (64<d+1)with
 |true=>trivial
 |false=>exact hf _
def Pre:Cl->LT->Prop
 |.fD acc,_=>wf acc 3=true
 |.exprL l _,_=>wf l 0=true/\xx l=true
 |.bin l _,ts=>wf l 0=true/\xx l=true/\(hd ts).kind≠5
 |.dH e _,_=>wf e 0=true/\xx e=true
 |.bracket l,_=>wf l 0=true
 |.args acc,_=>wf acc 1=true
 |.items ks ew,_=>wf ks 1=true/\wf ew 1=true
 |_,_=>True
def wQ:Cl->Nat->Tr->LT->Prop
 |.block,L,t,ts=>wf t 3=true/\cn t+3*ts.length<=3*L
 |.fD acc,L,t,ts=>wf t 3=true/\cn t+3*ts.length<=cn acc+3*L
 |.inner _,L,t,ts=>wf t 3=true/\cn t+3*ts.length+3<=3*L
 |.stmt,L,t,ts|.simple,L,t,ts|.lM,L,t,ts|.branch,L,t,ts=>wf t 2=true/\isS t=true/\1<=cn t/\cn t+1+3*ts.length<=3*L
 |.func true,L,t,ts=>(∃f k n x l r ks ew ps b,t=.cons f (.cons (.ex k n x l r ks ew ps b) .nil)/\xx f=true/\wf f 0=true/\wf (.ex k n x l r ks ew ps b) 0=true)/\cn t+3*ts.length+2<=3*L
 |.func false,L,t,ts=>wf t 0=true/\xx t=true/\cn t+3*ts.length+2<=3*L
 |.params acc,L,t,ts=>(∃ps,t=.ex 0 0 [] .nil .nil .nil .nil ps .nil/\ps.length+3*ts.length+2<=acc.length+3*L)/\ts.length+1<=L
 |.expr _,L,t,ts|.operand,L,t,ts|.post,L,t,ts|.dz,L,t,ts|.signed,L,t,ts=>wf t 0=true/\xx t=true/\cn t+2+3*ts.length<=3*L
 |.exprL l _,L,t,ts=>wf t 0=true/\xx t=true/\cn t+3*ts.length<=cn l+3*L
 |.bin l _,L,t,ts=>wf t 0=true/\xx t=true/\cn t+3*ts.length<=cn l+3*L/\ts.length+1<=L
 |.dH e _,L,t,ts=>wf t 0=true/\xx t=true/\cn t+3*ts.length<=cn e+3*L
 |.bracket l,L,t,ts=>(∃r,t=.ex 7 0 [] l r .nil .nil [] .nil/\wf r 0=true/\xx r=true/\cn r+8+3*ts.length<=3*L)
 |.args acc,L,t,ts=>wf t 1=true/\cn t+3*ts.length<=cn acc+3*L
 |.items ks ew,L,t,ts=>(∃a b,t=.cons a (.cons b .nil)/\wf a 1=true/\wf b 1=true/\cn a+cn b+3*ts.length<=cn ks+cn ew+3*L)
 |.item,L,t,ts=>(∃a b,t=.cons a (.cons b .nil)/\wf a 0=true/\wf b 0=true/\cn a+cn b+3*ts.length+2<=3*L)
theorem jr:∀{t:Tr},xx t=true->1<=cn t
 |.ex ..,_=>by simp only[cn,length_nil];omega
 |.nil,h|.hole,h|.cons ..,h|.st ..,h=>by simp[xx]at h
theorem aV:∀(n:Nat) (c:Cl) (deep:Int) (ts:LT),TG ts->Pre c ts->8*ts.length+cH c<n->RG (wQ c ts.length) (run n c deep ts)
 |0,c,deep,ts,h,hp,hn=>absurd hn (Nat.not_lt_zero _)
 |n+1,.block,deep,ts,h,hp,hn=>by
  simp only[run];simp only[cH]at hn;exact(aV n (.fD .nil) deep ts h rfl (by simp only[cH];omega)).imp λt bX h' hq=>⟨hq.1,by simpa[cn]using hq.2⟩
 |n+1,.fD acc,deep,ts,h,hp,hn=>by
  simp only[run];simp only[cH]at hn
  cases h1:dQ (hd ts)with
  |true=>exact⟨h,hp,le_refl _⟩
  |false=>
   refine(aV n .stmt deep ts h trivial (by simp only[cH];omega)).bind λs cB _ h1 hs=>?_;obtain⟨B6,tF,xy,V5⟩:=hs;have hq:=im acc s hp B6;try dsimp only
   cases kindOf s==8 with
   |true=>exact⟨h1,hq.1,by rw[hq.2];omega⟩
   |false=>
    refine(aV n (.fD (snoc acc s)) deep cB h1 hq.1 (by simp only[cH];omega)).imp λt bX h' sj=>⟨sj.1,?_⟩;have:=sj.2;rw[hq.2]at this;omega
 |n+1,.inner s,deep,ts,h,hp,hn=>by
  simp only[run];simp only[cH]at hn
  cases h1:bC s ts with
  |false=>trivial
  |true=>
   obtain⟨ha,hl⟩:=h.is h1;refine RG.open λd=>(aV n .block d _ ha trivial (by simp only[cH];omega)).imp λt bX h' hq=>⟨hq.1,?_⟩;have:=hq.2;omega
 |n+1,.stmt,deep,ts,h,hp,hn=>by
  simp only[run];simp only[cH]at hn;have NI:=aV n .simple deep ts h trivial (by simp only[cH];omega)
  cases h1:(hd ts).kind==4 with
  |false=>exact NI
  |true=>
   have Gw:=beq_iff_eq.mp h1;obtain⟨ha,hl⟩:=h.bG (by rw[Gw];decide);try dsimp only
   have hinner:∀s ts,TG ts->ts.length+1<=(Go.Proofs.YtoddjlclpnoomaaGreatDoor.bG ts).length+2->8*ts.length<n->∀d,RG (wQ (.inner s) ts.length) (run n (.inner s) d ts):=λs ts h _ hn d=>aV n (.inner s) d ts h trivial (by simp only[cH];omega);have oH:∀s ts,TG ts->8*ts.length<n->∀d,RG (wQ (.inner s) ts.length) (run n (.inner s) d ts):=λs ts h hn d=>aV n (.inner s) d ts h trivial (by simp only[cH];omega);have hex:∀cB,TG cB->cB.length<ts.length->∀d a,RG (wQ (.expr a) cB.length) (run n (.expr a) d cB):=λts h hn d a=>aV n (.expr a) d ts h trivial (by simp only[cH];omega);split
   .exact aV n .lM deep ts h trivial (by simp only[cH];omega)
   split
   .refine(aV n (.func true) deep ts h trivial (by simp only[cH];omega)).bind λr cB _ h1 hs=>?_;obtain⟨⟨f,k,nn,x,l,r',ks,ew,ps,b,rfl,e1,e2,e3⟩,hc⟩:=hs;simp only[cn,length_nil]at hc;refine⟨h1,by simp[wf,e2];simpa[wf]using e3,rfl,by simp only[cn,length_nil];omega,by simp only[cn,length_nil];omega⟩
   split
   .refine(oH _ ts h aj _).bind λa cB _ h1 hs=>RG.cM h1 λdI h2 gI=>⟨h2,by simp[wf,hs.1],rfl,by simp only[cn,length_nil];omega,?_⟩;have:=hs.2;simp only[cn,length_nil];omega
   split
   .refine(hex _ ha aj _ _).bind λr cB _ h1 hs=>?_;have:=jr hs.2.1;refine(oH _ cB h1 (by have:=hs.2.2;omega) _).bind λa dI _ h2 tF=>RG.cM h2 λxr h3 GQ=>⟨h3,by simp[wf,hs.1,tF.1],rfl,by simp only[cn,length_nil];omega,?_⟩;have:=hs.2.2;have:=tF.2;simp only[cn,length_nil];omega
   split
   .refine RG.name ha λnm cB h1 vI=>RG.cM h1 λdI h2 gI=>(hex _ h2 aj _ _).bind λr xr _ h3 xy=>?_;have:=jr xy.2.1;have:=xy.2.2;refine RG.cM h3 λnM h4 V6=>(hex _ h4 aj _ _).bind λr NJ _ h5 V7=>?_;have:=jr V7.2.1;have:=V7.2.2;refine(oH _ NJ h5 aj _).bind λa RP _ h6 hs6=>RG.cM h6 λts7 h7 Iv=>⟨h7,by simp[wf,xy.1,V7.1,hs6.1],rfl,by simp only[cn,length_nil];omega,?_⟩;have:=hs6.2;simp only[cn,length_nil];omega
   split
   .refine(aV n .branch deep _ ha trivial (by simp only[cH];omega)).bind λs cB _ h1 hs=>RG.cM h1 λdI h2 gI=>⟨h2,hs.1,hs.2.1,hs.2.2.1,?_⟩;have:=hs.2.2.2;omega
   split
   .cases dQ (hd (Go.Proofs.YtoddjlclpnoomaaGreatDoor.bG ts))with
    |true=>exact⟨ha,by simp[wf],rfl,by simp only[cn,length_nil];omega,by simp only[cn,length_nil];omega⟩
    |false=>
     refine(hex _ ha aj _ _).bind λr cB _ h1 hs=>?_;try dsimp only
     cases dQ (hd cB)with
     |true=>
      have:=hs.2.2;exact⟨h1,by simp[wf,hs.1],rfl,by simp only[cn,length_nil];omega,by simp only[cn,length_nil];omega⟩
     |false=>trivial
   split
   .exact⟨ha,by simp[wf],rfl,by simp only[cn,length_nil];omega,by simp only[cn,length_nil];omega⟩
   split
   .refine(oH _ ts h aj _).bind λa cB _ h1 hs=>?_;try dsimp only
    cases h3:bC fa cB with
    |false=>trivial
    |true=>
     obtain⟨hc,hlc⟩:=h1.is h3;have:=hs.2;refine RG.open λd=>RG.name hc λnm dI h2 gI=>(aV n .block d _ h2 trivial (by simp only[cH];omega)).bind λb xr _ h3 xy=>RG.cM h3 λnM h4 V6=>⟨h4,by simp[wf,hs.1,xy.1],rfl,by simp only[cn,length_nil];omega,?_⟩;have:=xy.2;simp only[cn,length_nil];omega
   .exact NI
 |n+1,.simple,deep,ts,h,hp,hn=>by
  simp only[run];simp only[cH]at hn;refine(aV n .post deep ts h trivial (by simp only[cH];omega)).bind λe cB own h1 hs=>?_;have hc:=jr hs.2.1;have tF:=hs.2.2;try dsimp only
  cases hx:bC [61] cB&&!own&&(kindOf e==6||kindOf e==7)with
  |true=>
   simp only[and_eq_true]at hx;obtain⟨ha,hl⟩:=h1.is hx.1.1;refine(aV n (.expr 0) deep _ ha trivial (by simp only[cH];omega)).bind λr dI _ h2 xy=>⟨h2,by simp[wf,hs.1,xy.1],rfl,by simp only[cn,length_nil];omega,?_⟩;have:=xy.2.2;simp only[cn,length_nil];omega
  |false=>
   try dsimp only
   cases !bC [61] cB&&!own&&kindOf e==8 with
   |true=>exact⟨h1,by simp[wf,hs.1],rfl,by simp only[cn,length_nil];omega,by simp only[cn,length_nil];omega⟩
   |false=>trivial
 |n+1,.lM,deep,ts,h,hp,hn=>by
  simp only[run];simp only[cH]at hn
  cases hx:bC bR (bG ts)with
  |true=>
   have hle:TG (bG ts)/\(bG ts).length<=ts.length:=by
    match ts,h with
    |[t],h=>exact⟨h,le_refl _⟩
    |t::u::ts,h=>exact⟨h.2.2,by simp[Go.Proofs.YtoddjlclpnoomaaGreatDoor.bG]⟩
   refine(aV n (.func true) deep _ hle.1 trivial (by simp only[cH];omega)).bind λr cB _ h1 hs=>?_;obtain⟨⟨f,k,nn,x,l,r',ks,ew,ps,b,rfl,e1,e2,e3⟩,hc⟩:=hs;simp only[cn,length_nil]at hc;exact⟨h1,by simp[wf,e2],rfl,by simp only[cn,length_nil];omega,by simp only[cn,length_nil];omega⟩
  |false=>
   have hle:TG (bG ts)/\(bG ts).length<=ts.length:=by
    match ts,h with
    |[t],h=>exact⟨h,le_refl _⟩
    |t::u::ts,h=>exact⟨h.2.2,by simp[Go.Proofs.YtoddjlclpnoomaaGreatDoor.bG]⟩
   refine RG.name hle.1 λnm cB h1 vI=>?_
   cases hy:bC [61] cB with
   |true=>
    obtain⟨h2,gI⟩:=h1.is hy;refine(aV n (.expr 0) deep _ h2 trivial (by simp only[cH];omega)).bind λr xr _ h3 hs=>⟨h3,by simp[wf,hs.1],rfl,by simp only[cn,length_nil];omega,?_⟩;have:=hs.2.2;simp only[cn,length_nil];omega
   |false=>exact⟨h1,by simp[wf],rfl,by simp only[cn,length_nil];omega,by simp only[cn,length_nil];omega⟩
 |n+1,.branch,deep,ts,h,hp,hn=>by
  simp only[run];simp only[cH]at hn;refine(aV n (.expr 0) deep ts h trivial (by simp only[cH];omega)).bind λr cB _ h1 hs=>?_;have hc:=jr hs.2.1;have tF:=hs.2.2;refine(aV n (.inner rW) deep cB h1 trivial (by simp only[cH];omega)).bind λa dI _ h2 ha=>?_;have D2:=ha.2;try dsimp only
  cases hx:bC eR dI with
  |true=>
   obtain⟨h3,GQ⟩:=h2.is hx;refine(aV n .branch deep _ h3 trivial (by simp only[cH];omega)).bind λs nM _ h4 V5=>⟨h4,by simp[wf,hs.1,ha.1,V5.1],rfl,by simp only[cn,length_nil];omega,?_⟩;have:=V5.2.2.2;simp only[cn,length_nil];omega
  |false=>
   try dsimp only
   cases hy:bC eu dI with
   |true=>
    refine(aV n (.inner eu) deep dI h2 trivial (by simp only[cH];omega)).bind λb xr _ h3 hb=>⟨h3,by simp[wf,hs.1,ha.1,hb.1],rfl,by simp only[cn,length_nil];omega,?_⟩;have:=hb.2;simp only[cn,length_nil];omega
   |false=>exact⟨h2,by simp[wf,hs.1,ha.1],rfl,by simp only[cn,length_nil];omega,by simp only[cn,length_nil];omega⟩
 |n+1,.func named,deep,ts,h,hp,hn=>by
  simp only[run];simp only[cH]at hn;refine RG.open λd=>RG.cM h λcB h1 vI=>?_;have xo:∀cB,TG cB->cB.length<ts.length->∀d,RG (wQ .block cB.length) (run n .block d cB):=λts h hn d=>aV n .block d ts h trivial (by simp only[cH];omega);have Cn:∀cB,TG cB->cB.length<ts.length->∀d,RG (wQ (.params []) cB.length) (run n (.params []) d cB):=λts h hn d=>aV n (.params []) d ts h trivial (by simp only[cH];omega)
  cases named with
  |true=>
   refine RG.name h1 λnm dI h2 gI=>?_;try dsimp only
   cases hx:bC [40] dI with
   |false=>trivial
   |true=>
    obtain⟨h3,GQ⟩:=h2.is hx;refine RG.open λd2=>?_
    cases hy:bC [41] (bG dI)with
    |true=>
     obtain⟨h4,V6⟩:=h3.is hy;refine(xo _ h4 aj _).bind λb NJ _ h5 hs=>RG.cM h5 λRP h6 V8=>⟨h6,⟨_,_,_,_,_,_,_,_,_,_,rfl,rfl,by simp[wf,hs.1];decide,by simp[wf];decide⟩,?_⟩;have:=hs.2;simp only[cn,lf,length_nil];omega
    |false=>
     refine(Cn _ h3 aj _).bind λt NJ _ h5 hs=>?_;obtain⟨⟨ps,rfl,NK⟩,hc⟩:=hs;simp only[length_nil]at NK;refine RG.cM h5 λRP h6 V8=>(xo _ h6 aj _).bind λb ts7 _ h7 hs=>RG.cM h7 λts8 h8 hl8=>⟨h8,⟨_,_,_,_,_,_,_,_,_,_,rfl,rfl,by simp[wf,hs.1];decide,by simp[wf];decide⟩,?_⟩;have:=hs.2;simp only[cn,lf,length_nil];omega
  |false=>
   try dsimp only
   cases hx:bC [40] cB with
   |false=>trivial
   |true=>
    obtain⟨h3,GQ⟩:=h1.is hx;refine RG.open λd2=>?_
    cases hy:bC [41] (bG cB)with
    |true=>
     obtain⟨h4,V6⟩:=h3.is hy;refine(xo _ h4 aj _).bind λb NJ _ h5 hs=>RG.cM h5 λRP h6 V8=>⟨h6,by simp[wf,hs.1];decide,rfl,?_⟩;have:=hs.2;simp only[cn,lf,length_nil];omega
    |false=>
     refine(Cn _ h3 aj _).bind λt NJ _ h5 hs=>?_;obtain⟨⟨ps,rfl,NK⟩,hc⟩:=hs;simp only[length_nil]at NK;refine RG.cM h5 λRP h6 V8=>(xo _ h6 aj _).bind λb ts7 _ h7 hs=>RG.cM h7 λts8 h8 hl8=>⟨h8,by simp[wf,hs.1];decide,rfl,?_⟩;have:=hs.2;simp only[cn,lf,length_nil];omega
 |n+1,.params acc,deep,ts,h,hp,hn=>by
  simp only[run];simp only[cH]at hn;refine RG.name h λnm cB h1 vI=>?_
  cases hx:bC [44] cB with
  |true=>
   obtain⟨h3,GQ⟩:=h1.is hx;exact(aV n (.params (acc++[nm])) deep _ h3 trivial (by simp only[cH];omega)).imp λt dI h2 hs=>⟨(by obtain⟨ps,e,NK⟩:=hs.1;exact⟨ps,e,by simp only[length_append,length_cons,length_nil]at NK;omega⟩),by have:=hs.2;omega⟩
  |false=>exact⟨h1,⟨_,rfl,by simp only[length_append,length_cons,length_nil];omega⟩,by omega⟩
 |n+1,.expr ef,deep,ts,h,hp,hn=>by
  simp only[run];simp only[cH]at hn;refine(aV n .operand deep ts h trivial (by simp only[cH];omega)).bind λl cB _ h1 hs=>?_;have:=hs.2.2;have:=jr hs.2.1;exact(aV n (.exprL l ef) deep cB h1 ⟨hs.1,hs.2.1⟩ (by simp only[cH];omega)).imp λt dI h2 hs=>⟨hs.1,hs.2.1,by have:=hs.2.2;omega⟩
 |n+1,.exprL l ef,deep,ts,h,hp,hn=>by
  simp only[run];simp only[cH]at hn
  cases hx:!((hd ts).kind==4)||decide (bD (hd ts).text<=ef)with
  |true=>exact⟨h,hp.1,hp.2,le_refl _⟩
  |false=>
   simp only[or_eq_false_iff,Bool.not_eq_false',beq_iff_eq]at hx;refine(aV n (.bin l (bD (hd ts).text)) deep ts h ⟨hp.1,hp.2,by rw[hx.1];decide⟩ (by simp only[cH];omega)).bind λe cB _ h1 hs=>?_;have:=hs.2.2.1;have:=hs.2.2.2;exact(aV n (.exprL e ef) deep cB h1 ⟨hs.1,hs.2.1⟩ (by simp only[cH];omega)).imp λt dI h2 hs=>⟨hs.1,hs.2.1,by have:=hs.2.2;omega⟩
 |n+1,.bin l k,deep,ts,h,hp,hn=>by
  simp only[run];simp only[cH]at hn;obtain⟨ha,hl⟩:=h.bG hp.2.2
  cases(hd ts).text==[46,46]with
  |true=>
   refine RG.open λd=>(aV n (.expr (k-1)) d _ ha trivial (by simp only[cH];omega)).bind λr cB _ h1 hs=>?_;have:=hs.2.2;exact⟨h1,by simp[wf,hp.1,hs.1];decide,rfl,by simp only[cn,length_nil];omega,by omega⟩
  |false=>
   refine(aV n (.expr k) deep _ ha trivial (by simp only[cH];omega)).bind λr cB _ h1 hs=>?_;have:=hs.2.2;exact⟨h1,by simp[wf,hp.1,hs.1];decide,rfl,by simp only[cn,length_nil];omega,by omega⟩
 |n+1,.operand,deep,ts,h,hp,hn=>by
  simp only[run];simp only[cH]at hn
  cases hx:gw (hd ts) [mE,[45],[35],[126]]with
  |false=>exact aV n .post deep ts h trivial (by simp only[cH];omega)
  |true=>
   obtain⟨ha,hl⟩:=h.is hx;refine RG.open λd=>(aV n .operand d _ ha trivial (by simp only[cH];omega)).bind λr cB _ h1 hs=>?_;have:=hs.2.2;exact⟨h1,by simp[wf,hs.1];decide,rfl,by simp only[cn,length_nil];omega⟩
 |n+1,.post,deep,ts,h,hp,hn=>by
  simp only[run];simp only[cH]at hn;refine(aV n .dz deep ts h trivial (by simp only[cH];omega)).bind λl cB _ h1 hs=>?_;have:=hs.2.2;have:=jr hs.2.1;exact(aV n (.dH l _) deep cB h1 ⟨hs.1,hs.2.1⟩ (by simp only[cH];omega)).imp λt dI h2 hs=>⟨hs.1,hs.2.1,by have:=hs.2.2;omega⟩
 |n+1,.dH e own,deep,ts,h,hp,hn=>by
  simp only[run];simp only[cH]at hn;have hcn:=jr hp.2
  cases hx:bC [91] ts with
  |true=>
   refine(aV n (.bracket e) deep ts h hp.1 (by simp only[cH];omega)).bind λt cB _ h1 hs=>?_;obtain⟨r,rfl,e1,e2,hc⟩:=hs;exact(aV n (.dH _ false) deep cB h1 ⟨by simp[wf,hp.1,e1];decide,rfl⟩ (by simp only[cH];omega)).imp λt dI h2 hs=>⟨hs.1,hs.2.1,by have:=hs.2.2;simp only[cn,length_nil]at this;omega⟩
  |false=>
   try dsimp only
   cases hy:bC [46] ts with
   |true=>
    obtain⟨ha,hl⟩:=h.is hy;refine RG.name ha λnm cB h1 vI=>?_;exact(aV n (.dH _ false) deep cB h1 ⟨by simp[wf,hp.1,lf];decide,rfl⟩ (by simp only[cH];omega)).imp λt dI h2 hs=>⟨hs.1,hs.2.1,by have:=hs.2.2;simp only[cn,lf,length_nil]at this;omega⟩
   |false=>
    try dsimp only
    cases hz:bC [40] ts with
    |false=>exact⟨h,hp.1,hp.2,le_refl _⟩
    |true=>
     obtain⟨ha,hl⟩:=h.is hz;refine RG.open λd=>?_
     cases hw:bC [41] (bG ts)with
     |true=>
      obtain⟨hb,gI⟩:=ha.is hw;exact(aV n (.dH _ false) deep _ hb ⟨by simp[wf,hp.1];decide,rfl⟩ (by simp only[cH];omega)).imp λt dI h2 hs=>⟨hs.1,hs.2.1,by have:=hs.2.2;simp only[cn,lf,length_nil]at this;omega⟩
     |false=>
      refine(aV n (.args .nil) d _ ha rfl (by simp only[cH];omega)).bind λew cB _ h1 hs=>RG.cM h1 λdI h2 gI=>?_;have:=hs.2;exact(aV n (.dH _ false) deep _ h2 ⟨by simp[wf,hp.1,hs.1];decide,rfl⟩ (by simp only[cH];simp only[cn,length_nil]at this;omega)).imp λt dI h2 hs=>⟨hs.1,hs.2.1,by have:=hs.2.2;simp only[cn,lf,length_nil]at*;omega⟩
 |n+1,.dz,deep,ts,h,hp,hn=>by
  simp only[run];simp only[cH]at hn;split
  .rename_i hk
   obtain⟨ha,hl⟩:=h.bG (by rw[hk];decide);exact⟨ha,by simp[wf,lf];decide,rfl,by simp only[cn,lf,length_nil];omega⟩
  split
  .rename_i hk
   obtain⟨ha,hl⟩:=h.bG (by rw[hk];decide);exact⟨ha,by simp[wf,lf,h.n64 (by rw[hk];decide)],rfl,by simp only[cn,lf,length_nil];omega⟩
  split
  .rename_i hk
   obtain⟨ha,hl⟩:=h.bG (by rw[hk];decide);exact⟨ha,by simp[wf,lf];decide,rfl,by simp only[cn,lf,length_nil];omega⟩
  exact aV n .signed deep ts h trivial (by simp only[cH];omega)
 |n+1,.signed,deep,ts,h,hp,hn=>by
  simp only[run];simp only[cH]at hn;split
  .rename_i hk
   obtain⟨ha,hl⟩:=h.is hk;exact⟨ha,by simp[wf,lf];decide,rfl,by simp only[cn,lf,length_nil];omega⟩
  split
  .rename_i hk
   obtain⟨ha,hl⟩:=h.is hk;exact⟨ha,by simp[wf,lf];decide,rfl,by simp only[cn,lf,length_nil];omega⟩
  split
  .rename_i hk
   obtain⟨ha,hl⟩:=h.is hk;exact⟨ha,by simp[wf,lf];decide,rfl,by simp only[cn,lf,length_nil];omega⟩
  split
  .rename_i hk
   obtain⟨ha,hl⟩:=h.is hk;refine RG.open λd=>(aV n (.expr 0) d _ ha trivial (by simp only[cH];omega)).bind λe cB _ h1 hs=>RG.cM h1 λdI h2 gI=>⟨h2,hs.1,hs.2.1,?_⟩;have:=hs.2.2;omega
  split
  .exact(aV n (.func false) deep ts h trivial (by simp only[cH];omega)).imp λt dI h2 hs=>⟨hs.1,hs.2.1,by have:=hs.2.2;omega⟩
  split
  .rename_i hk
   obtain⟨ha,hl⟩:=h.is hk;refine RG.open λd=>?_
   cases hw:bC [125] (bG ts)with
   |true=>
    obtain⟨hb,gI⟩:=ha.is hw;exact⟨hb,by simp[wf];decide,rfl,by simp only[cn,length_nil];omega⟩
   |false=>
    refine(aV n (.items .nil .nil) d _ ha ⟨rfl,rfl⟩ (by simp only[cH];omega)).bind λr cB _ h1 hs=>?_;obtain⟨a,b,rfl,e1,e2,hc⟩:=hs;simp only[cn,length_nil]at hc;exact RG.cM h1 λdI h2 gI=>⟨h2,by simp[wf,e1,e2];decide,rfl,by simp only[cn,length_nil];omega⟩
  .trivial
 |n+1,.bracket l,deep,ts,h,hp,hn=>by
  simp only[run];simp only[cH]at hn;refine RG.open λd=>RG.cM h λcB h1 vI=>(aV n (.expr 0) d _ h1 trivial (by simp only[cH];omega)).bind λr dI _ h2 hs=>RG.cM h2 λxr h3 GQ=>⟨h3,r,rfl,hs.1,hs.2.1,?_⟩;have:=hs.2.2;omega
 |n+1,.args acc,deep,ts,h,hp,hn=>by
  simp only[run];simp only[cH]at hn;refine(aV n (.expr 0) deep _ h trivial (by simp only[cH];omega)).bind λa cB _ h1 hs=>?_;have hc:=hs.2.2;have hq:=eC acc a hp hs.1;try dsimp only
  cases hx:bC [44] cB with
  |true=>
   obtain⟨h2,gI⟩:=h1.is hx;exact(aV n (.args (snoc acc a)) deep _ h2 hq.1 (by simp only[cH];omega)).imp λt dI h2 hs=>⟨hs.1,by have:=hs.2;rw[hq.2]at this;omega⟩
  |false=>exact⟨h1,hq.1,by rw[hq.2];omega⟩
 |n+1,.items ks ew,deep,ts,h,hp,hn=>by
  simp only[run];simp only[cH]at hn;refine(aV n .item deep _ h trivial (by simp only[cH];omega)).bind λr cB _ h1 hs=>?_;obtain⟨k,a,rfl,e1,e2,hc⟩:=hs;have hk:=eC ks k hp.1 e1;have ha:=eC ew a hp.2 e2;try dsimp only
  cases hx:bC [44] cB with
  |true=>
   obtain⟨h2,gI⟩:=h1.is hx;refine(aV n (.items (snoc ks k) (snoc ew a)) deep _ h2 ⟨hk.1,ha.1⟩ (by simp only[cH];omega)).imp λt dI h2 hs=>?_;obtain⟨x,y,rfl,f1,f2,hd⟩:=hs;exact⟨x,y,rfl,f1,f2,by rw[hk.2,ha.2]at hd;omega⟩
  |false=>exact⟨h1,_,_,rfl,hk.1,ha.1,by rw[hk.2,ha.2];omega⟩
 |n+1,.item,deep,ts,h,hp,hn=>by
  simp only[run];simp only[cH]at hn;split
  .rename_i hk
   obtain⟨ha,hl⟩:=h.bG (by rw[hk.1];decide);obtain⟨hb,gI⟩:=ha.is hk.2.2;refine(aV n (.expr 0) deep _ hb trivial (by simp only[cH];omega)).bind λa cB _ h1 hs=>⟨h1,_,_,rfl,by simp[wf,lf];decide,hs.1,?_⟩;have hc:=hs.2.2;simp only[cn,lf,length_nil];omega
  split
  .refine(aV n (.bracket .nil) deep _ h rfl (by simp only[cH];omega)).bind λk cB _ h1 hs=>?_;obtain⟨r,rfl,e1,e2,hc⟩:=hs;refine RG.cM h1 λdI h2 gI=>(aV n (.expr 0) deep _ h2 trivial (by simp only[cH];omega)).bind λa cB _ h1 hs=>⟨h1,_,_,rfl,e1,hs.1,?_⟩;have hc:=hs.2.2;omega
  .refine(aV n (.expr 0) deep _ h trivial (by simp only[cH];omega)).bind λa cB _ h1 hs=>⟨h1,_,_,rfl,rfl,hs.1,?_⟩;have hc:=hs.2.2;simp only[cn,length_nil];omega
def tz:Tr->Nat
 |.cons a b=>1+tz a+tz b
 |.ex _ _ _ l r ks ew ps b=>8+ps.length+tz l+tz r+tz ks+tz ew+tz b
 |.st _ _ l r t a b=>8+tz l+tz r+tz t+tz a+tz b
 |_=>1
theorem bE:∀t,1<=tz t
 |.nil|.hole=>by simp[tz]
 |.cons ..|.ex ..|.st ..=>by simp only[tz];omega
def pz:Gv->Nat
 |.expr e=>8*tz e
 |.inner e _=>8*tz e+1
 |.more _ e=>8*tz e+1
 |.func _ b=>8*tz b+3
 |.args l _=>8*tz l+1
 |.items ks l _=>8*tz ks+8*tz l
 |.stmts l=>8*tz l+1
 |.block l=>8*tz l+2
 |.within _ l=>8*tz l+3
 |.stmt s=>8*tz s
 |.branch r a b=>8*(tz r+tz a+tz b+6)
def pw:Gv->Prop
 |.expr e=>wf e 0=true
 |.inner e _=>wf e 0=true
 |.more _ e=>wf e 0=true
 |.func _ b=>wf b 3=true
 |.args l _=>wf l 1=true
 |.items ks l _=>wf ks 1=true/\wf l 1=true/\len ks=len l
 |.stmts l=>wf l 3=true
 |.block l=>wf l 3=true
 |.within _ l=>wf l 3=true
 |.stmt s=>wf s 2=true
 |.branch r a b=>wf r 0=true/\wf a 3=true/\wf b 3=true
def NO(r:PR):Prop:=r≠.bH
theorem NO.bind{r:PR}{f:By->Nat->PR}(h:NO r)(hf:∀b p,NO (f b p)):NO (r.bind f):=by
 cases r with
 |ok b p=>exact hf b p
 |fail c=>exact PR.noConfusion
 |bH=>exact absurd rfl h
theorem NO.ite{c:Prop}{hd:Decidable c}{x y:PR}(hx:c->NO x)(hy:¬c->NO y):NO (@ite PR c hd x y):=by
 by_cases h:c
 .rw[if_pos h];exact hx h
 .rw[if_neg h];exact hy h
theorem NO.aO:∀(l:LB) (b:By) (p:Nat),NO (aO l b p)
 |[],b,p=>PR.noConfusion
 |s::l,b,p=>by
  simp only[Go.Proofs.YtoddjlclpnoomaaGreatDoor.aO];refine NO.bind ?_ λb p=>NO.aO l b p;unfold oI;split<;>exact PR.noConfusion
theorem NO.part(b:By)(p:Nat):NO (fx b p):=by
 unfold fx;split<;>exact PR.noConfusion
theorem NO.wF:∀(l:LB) (first:Bool) (b:By) (p:Nat),NO (gS l first b p)
 |[],_,b,p=>PR.noConfusion
 |s::l,first,b,p=>NO.bind (NO.aO _ _ _) λb p=>NO.wF l false b p
theorem bM:∀{t:Tr},wf t 0=true->t=.nil\/∃k n x l r ks ew ps b,t=.ex k n x l r ks ew ps b
 |.nil,_=>.inl rfl
 |.ex ..,_=>.inr ⟨_,_,_,_,_,_,_,_,_,rfl⟩
 |.hole,h|.cons ..,h|.st ..,h=>by simp[wf]at h
theorem dC:∀{t:Tr},wf t 2=true->t=.nil\/∃k n l r x a b,t=.st k n l r x a b
 |.nil,_=>.inl rfl
 |.st ..,_=>.inr ⟨_,_,_,_,_,_,_,rfl⟩
 |.hole,h|.cons ..,h|.ex ..,h=>by simp[wf]at h
theorem dn:∀{t:Tr},wf t 1=true->t=.nil\/∃a b,t=.cons a b/\wf a 0=true/\wf b 1=true
 |.nil,_=>.inl rfl
 |.cons ..,h=>by simp only[wf,and_eq_true]at h;exact .inr ⟨_,_,rfl,h.1,h.2⟩
 |.hole,h|.st ..,h|.ex ..,h=>by simp[wf]at h
theorem dq:∀{t:Tr},wf t 3=true->t=.nil\/∃a b,t=.cons a b/\wf a 2=true/\wf b 3=true
 |.nil,_=>.inl rfl
 |.cons ..,h=>by simp only[wf,and_eq_true]at h;exact .inr ⟨_,_,rfl,h.1,h.2⟩
 |.hole,h|.st ..,h|.ex ..,h=>by simp[wf]at h
theorem vJ{t:Tr}(h:wf t 0=true):kn t=true:=by
 rcases bM h with rfl|⟨_,_,_,_,_,_,_,_,_,rfl⟩<;>rfl
theorem bF{t:Tr}:∀(m:Nat),(m=1\/m=3)->wf t m=true->dM t=true:=by
 induction t with
 |nil=>intros;rfl
 |cons a b _ ih=>
  rintro m (rfl|rfl) h
  .simp only[wf,and_eq_true]at h;exact ih 1 (.inl rfl) h.2
  .simp only[wf,and_eq_true]at h;exact ih 3 (.inr rfl) h.2
 |hole|ex|st=>rintro m (rfl|rfl) h<;>simp[wf]at h
theorem Co{r:Tr}(h:wf r 0=true):wf (eJ r) 0=true/\tz (eJ r)<=tz r+12:=by
 rcases bM h with rfl|⟨_,_,_,_,_,_,_,_,_,rfl⟩
 .exact⟨rfl,by decide⟩
 .exact⟨h,by simp[eJ]⟩
theorem bT:∀(n:Nat) (c:Gv) (b:By) (p:Nat),pw c->pz c<n->NO (bK n c b p)
 |0,c,b,p,hw,hn=>absurd hn (Nat.not_lt_zero _)
 |n+1,.inner e around,b,p,hw,hn=>by
  simp only[pz]at hn;simp only[bK]
  cases around with
  |false=>exact bT n (.expr e) b p hw (by simp only[pz];omega)
  |true=>exact(NO.aO _ _ _).bind λb p=>(bT n (.expr e) b p hw (by simp only[pz];omega)).bind λb p=>NO.aO _ _ _
 |n+1,.func ps body,b,p,hw,hn=>by
  simp only[pz]at hn;simp only[bK];exact(NO.aO _ _ _).bind λb p=>(NO.wF _ _ _ _).bind λb p=>(NO.aO _ _ _).bind λb p=>(bT n (.block body) b p hw (by simp only[pz];omega)).bind λb p=>NO.aO _ _ _
 |n+1,.args l first,b,p,hw,hn=>by
  simp only[pz]at hn;rcases dn hw with rfl|⟨x,l,rfl,h1,h2⟩
  .exact PR.noConfusion
  .simp only[bK];simp only[tz]at hn;have:=bE x;have:=bE l
   exact(NO.aO _ _ _).bind λb p=>(bT n (.expr x) b p h1 (by simp only[pz];omega)).bind λb p=>bT n (.args l false) b p h2 (by simp only[pz];omega)
 |n+1,.items ks l first,b,p,hw,hn=>by
  simp only[pz]at hn;obtain⟨hk,hl,he⟩:=hw;rcases dn hl with rfl|⟨x,l,rfl,h1,h2⟩
  .exact PR.noConfusion
  rcases dn hk with rfl|⟨k,ks,rfl,k1,k2⟩
  .simp[len]at he
  .simp only[bK];simp only[tz]at hn;have:=bE x;have:=bE l;have:=bE k;have:=bE ks
   refine(NO.aO _ _ _).bind λb p=>NO.bind ?_ λb p=>(bT n (.expr x) b p h1 (by simp only[pz];omega)).bind λb p=>bT n (.items ks l false) b p ⟨k2,h2,by simpa[len]using he⟩ (by simp only[pz];omega);rcases bM k1 with rfl|⟨_,_,_,_,_,_,_,_,_,rfl⟩
   .exact PR.noConfusion
   .dsimp only;split
    .exact(NO.part _ _).bind λb p=>NO.aO _ _ _
    .exact(NO.aO _ _ _).bind λb p=>(bT n (.expr _) b p k1 (by simp only[pz];omega)).bind λb p=>NO.aO _ _ _
 |n+1,.block l,b,p,hw,hn=>by
  simp only[pz]at hn;simp only[bK];exact(NO.aO _ _ _).bind λb p=>bT n (.stmts l) b p hw (by simp only[pz];omega)
 |n+1,.stmts l,b,p,hw,hn=>by
  simp only[pz]at hn;rcases dq hw with rfl|⟨x,l,rfl,h1,h2⟩
  .exact PR.noConfusion
  .simp only[bK];simp only[tz]at hn;have:=bE x;have:=bE l
   exact(bT n (.stmt x) b p h1 (by simp only[pz];omega)).bind λb p=>(NO.aO _ _ _).bind λb p=>bT n (.stmts l) b p h2 (by simp only[pz];omega)
 |n+1,.more word e,b,p,hw,hn=>by
  simp only[pz]at hn;rcases bM hw with rfl|⟨_,_,_,_,_,_,_,_,_,rfl⟩
  .exact PR.noConfusion
  .simp only[bK];exact(NO.aO _ _ _).bind λb p=>bT n (.expr _) b p hw (by simp only[pz];omega)
 |n+1,.within word l,b,p,hw,hn=>by
  simp only[pz]at hn;simp only[bK];exact(NO.aO _ _ _).bind λb p=>(bT n (.block l) b p hw (by simp only[pz];omega)).bind λb p=>NO.aO _ _ _
 |n+1,.branch r a bb,b,p,hw,hn=>by
  simp only[pz]at hn;obtain⟨hr,ha,hb⟩:=hw;simp only[bK];have h1:=Co hr;have:=bE r;have:=bE a;have:=bE bb
  have oH:∀b p,NO (bK n (.more [32] (eJ r)) b p):=by
   intro b p;rcases bM hr with rfl|⟨_,_,_,_,_,_,_,_,_,rfl⟩
   .cases n with
    |zero=>omega
    |succ n=>
     cases n with
     |zero=>omega
     |succ n=>
      simp only[bK,eJ,yB];refine(NO.aO _ _ _).bind λb p=>?_;simp[NO]
   .exact bT n (.more [32] _) b p h1.1 (by simp only[pz,eJ]at*;omega)
  refine(oH _ _).bind λb p=>(NO.aO _ _ _).bind λb p=>(bT n (.block a) b p ha (by simp only[pz];omega)).bind λb p=>?_;have Ij:NO ((aO [eu] b p).bind λb p=>(bK n (.block bb) b p).bind λb p=>aO [cT] b p):=(NO.aO _ _ _).bind λb p=>(bT n (.block bb) b p hb (by simp only[pz];omega)).bind λb p=>NO.aO _ _ _;rcases dq hb with rfl|⟨x,l,rfl,h1,h2⟩
  .exact NO.aO _ _ _
  .rcases dC h1 with rfl|⟨k,nm,l1,r1,t1,a1,b1,rfl⟩
   .rcases dq h2 with rfl|⟨y,z,rfl,h3,h4⟩
    .exact Ij
    .exact Ij
   .rcases dq h2 with rfl|⟨y,z,rfl,h3,h4⟩
    .dsimp only;split
     .simp only[wf,and_eq_true]at h1;refine(NO.part _ _).bind λb p=>(NO.aO _ _ _).bind λb p=>bT n (.branch r1 a1 b1) b p ⟨h1.1.1.1.2,h1.1.2,h1.2⟩ (by simp only[pz,tz]at*;omega)
     .exact Ij
    .exact Ij
 |n+1,.expr e,b,p,hw,hn=>by
  simp only[pz]at hn;rcases bM hw with rfl|⟨k,nn,x,l,r,ks,ew,ps,body,rfl⟩
  .exact PR.noConfusion
  .simp only[bK];have Bs:wf (.ex k nn x l r ks ew ps body) 0=true:=hw;simp only[wf,and_eq_true]at Bs;obtain⟨⟨⟨⟨⟨hi,hl⟩,hr⟩,mS⟩,has⟩,hb⟩:=Bs;simp only[tz]at hn;rw[hi,vJ hl,vJ hr,bF 1 (.inl rfl) mS,bF 1 (.inl rfl) has];have ze:∀(t:Tr) a b p,wf t 0=true->8*tz t+1<n->NO (bK n (.inner t a) b p):=λt a b p h1 h2=>bT n (.inner t a) b p h1 h2;have:=bE l;have:=bE r;have:=bE ks;have:=bE ew;have:=bE body
   have hrt:∀b p,NO ((aO [[91]] b p).bind λb p=>(bK n (.expr r) b p).bind λb p=>aO [[93]] b p):=λb p=>(NO.aO _ _ _).bind λb p=>(bT n (.expr r) b p hr (by simp only[pz];omega)).bind λb p=>NO.aO _ _ _;refine NO.ite (λ_=>PR.noConfusion) λ_=>?_;refine(NO.part _ _).bind λb p=>?_;simp only[Bool.and_self,if_true,Bool.and_true,Bool.true_eq_false,if_false];refine NO.ite (λ_=>NO.aO _ _ _) λ_=>?_;refine NO.ite (λ_=>NO.aO _ _ _) λ_=>?_;refine NO.ite (λ_=>NO.aO _ _ _) λ_=>?_;refine NO.ite (λ_=>NO.aO _ _ _) λ_=>?_;refine NO.ite (λ_=>NO.aO _ _ _) λ_=>?_;refine NO.ite (λ_=>NO.aO _ _ _) λ_=>?_;refine NO.ite (λ_=>?_) λ_=>?_
   .refine(ze l _ _ _ hl aj).bind λb p=>?_;split
    .split
     .exact(NO.part _ _).bind λb p=>NO.aO _ _ _
     .exact hrt _ _
    .exact hrt _ _
   refine NO.ite (λ_=>?_) λ_=>?_
   .exact(ze l _ _ _ hl aj).bind λb p=>(NO.aO _ _ _).bind λb p=>(bT n (.args ew true) b p has (by simp only[pz];omega)).bind λb p=>NO.aO _ _ _
   refine NO.ite (λ_=>?_) λ_=>?_
   .exact(NO.aO _ _ _).bind λb p=>bT n (.func ps body) b p hb (by simp only[pz];omega)
   refine NO.ite (λ_=>?_) λ_=>?_
   .exact(NO.aO _ _ _).bind λb p=>ze r _ _ _ hr aj
   refine NO.ite (λ_=>?_) λ_=>?_
   .exact(ze l _ _ _ hl aj).bind λb p=>(NO.aO _ _ _).bind λb p=>ze r _ _ _ hr aj
   refine NO.ite (λ_=>?_) λ_=>?_
   .rename_i he
    exact(NO.aO _ _ _).bind λb p=>(bT n (.items ks ew true) b p ⟨mS,has,he⟩ (by simp only[pz];omega)).bind λb p=>NO.aO _ _ _
   .exact PR.noConfusion
 |n+1,.stmt s,b,p,hw,hn=>by
  simp only[pz]at hn;rcases dC hw with rfl|⟨k,nm,l,r,t,a,bb,rfl⟩
  .exact PR.noConfusion
  .simp only[bK];have Bs:wf (.st k nm l r t a bb) 2=true:=hw;simp only[wf,and_eq_true]at Bs;obtain⟨⟨⟨⟨hl,hr⟩,ht⟩,ha⟩,hb⟩:=Bs;simp only[tz]at hn;have:=bE l;have:=bE r;have:=bE t;have:=bE a;have:=bE bb
   have hm:∀w e b p,wf e 0=true->8*tz e+1<n->NO (bK n (.more w e) b p):=λw e b p h1 h2=>bT n (.more w e) b p h1 h2;have GR:∀w e b p,wf e 0=true->8*tz e+12<n->NO (bK n (.more w (eJ e)) b p):=by
    intro w e b p h1 h2;rcases bM h1 with rfl|⟨_,_,_,_,_,_,_,_,_,rfl⟩
    .cases n with
     |zero=>omega
     |succ n=>
      cases n with
      |zero=>omega
      |succ n=>
       simp only[bK,eJ,yB];refine(NO.aO _ _ _).bind λb p=>?_;simp[NO]
    .exact bT n (.more w _) b p h1 (by simp only[pz,eJ]at*;omega)
   have hx:∀e b p,wf e 0=true->8*tz e<n->NO (bK n (.expr e) b p):=λe b p h1 h2=>bT n (.expr e) b p h1 h2;have hi:∀w e b p,wf e 3=true->8*tz e+3<n->NO (bK n (.within w e) b p):=λw e b p h1 h2=>bT n (.within w e) b p h1 h2;refine NO.ite (λ_=>PR.noConfusion) λ_=>?_;refine(NO.part _ _).bind λb p=>?_;refine NO.ite (λ_=>?_) λ_=>?_
   .exact(NO.aO _ _ _).bind λb p=>hm _ _ _ _ hr aj
   refine NO.ite (λ_=>?_) λ_=>?_
   .exact(hx _ _ _ hl aj).bind λb p=>GR _ _ _ _ hr aj
   refine NO.ite (λ_=>?_) λ_=>?_
   .exact hx _ _ _ hr aj
   refine NO.ite (λ_=>?_) λ_=>?_
   .exact hi _ _ _ _ ha aj
   refine NO.ite (λ_=>?_) λ_=>?_
   .exact(GR _ _ _ _ hr aj).bind λb p=>hi _ _ _ _ ha aj
   refine NO.ite (λ_=>?_) λ_=>?_
   .exact(NO.aO _ _ _).bind λb p=>bT n (.branch r a bb) b p ⟨hr,ha,hb⟩ (by simp only[pz];omega)
   refine NO.ite (λ_=>?_) λ_=>?_
   .exact(NO.aO _ _ _).bind λb p=>(GR _ _ _ _ hr aj).bind λb p=>(GR _ _ _ _ ht aj).bind λb p=>hi _ _ _ _ ha aj
   refine NO.ite (λ_=>?_) λ_=>?_
   .exact(NO.aO _ _ _).bind λb p=>hm _ _ _ _ hr aj
   refine NO.ite (λ_=>NO.aO _ _ _) λ_=>?_;refine NO.ite (λ_=>?_) λ_=>?_
   .exact(NO.aO _ _ _).bind λb p=>(bT n (.block a) b p ha (by simp only[pz];omega)).bind λb p=>(NO.aO _ _ _).bind λb p=>hi _ _ _ _ hb aj
   .refine(NO.aO _ _ _).bind λb p=>?_;rcases bM hr with rfl|⟨k2,nn,x,l2,r2,ks,ew,ps,body,rfl⟩
    .exact PR.noConfusion
    .dsimp only;simp only[wf,and_eq_true]at hr;split
     .exact(NO.part _ _).bind λb p=>bT n (.func ps body) b p hr.2 (by simp only[pz,tz]at*;omega)
     .exact PR.noConfusion
theorem gT:∀t,tz t<=13*cn t+1
 |.nil|.hole=>by simp[tz,cn]
 |.cons a b=>by
  have:=gT a;have:=gT b
  simp only[tz,cn];omega
 |.ex _ _ _ l r ks ew _ b=>by
  have:=gT l;have:=gT r;have:=gT ks;have:=gT ew;have:=gT b
  simp only[tz,cn];omega
 |.st _ _ l r t a b=>by
  have:=gT l;have:=gT r;have:=gT t;have:=gT a;have:=gT b
  simp only[tz,cn];omega
theorem Cp{s:By}{t:Tok}{k:Nat}(h:mG s=.tok t k):t.kind≠5/\i64 t.n=true:=by
 unfold mG at h
 cases hn:iG (s.take (ia s cA))with
 |mk v e=>
  rw[hn]at h;dsimp only at h;split at h
  .cases h
  .split at h
   .rename_i h1 h2
    injection h with h3 h4;subst h3;refine⟨by simp,?_⟩;unfold iG at hn;split at hn
    .injection hn with h5 h6;omega
    .split at hn
     .injection hn with h5 h6;omega
     .injection hn with h5 h6;subst h5;simp only[i64,decide_eq_true_eq];omega
   .cases h
theorem Cq{s:By}{t:Tok}{k:Nat}(h:mF s=.tok t k):t.kind≠5/\i64 t.n=true:=by
 unfold mF at h
 cases hn:fb ((s.takeWhile (λc=>!(c==10))).drop 1) 1 with
 |none=>rw[hn]at h;cases h
 |some k'=>
  rw[hn]at h;dsimp only at h
  cases hu:iH ((s.take k').drop 1)with
  |mk x e=>
   rw[hu]at h;dsimp only at h;split at h
   .injection h with h3 h4;subst h3;exact⟨by simp,by simp[i64]⟩
   .split at h<;>cases h
theorem zf{s:By}{t:Tok}{k:Nat}(h:eT s=.tok t k):t.kind≠5/\i64 t.n=true:=by
 unfold eT at h;split at h
 .split at h
  .cases h
  .injection h with h3 h4;subst h3;exact⟨by dsimp only;split<;>decide,by simp[i64]⟩
 split at h
 .exact Cp h
 split at h
 .exact Cq h
 split at h
 .injection h with h3 h4;subst h3;exact⟨by simp,by simp[i64]⟩
 split at h
 .injection h with h3 h4;subst h3;exact⟨by simp,by simp[i64]⟩
 .cases h
theorem kO:∀(n:Nat) (s:By) (line:Int) (ts:LT),dF n s line=.ok ts->TG ts/\ts.length<=n+1
 |0,s,line,ts,h=>by
  simp only[dF]at h;injection h with h;subst h;exact⟨rfl,by simp⟩
 |n+1,s,line,ts,h=>by
  simp only[dF]at h;have he:∀ts,LR.ok [jK line]=.ok ts->TG ts/\ts.length<=n+1+1:=by
   intro ts h;injection h with h;subst h;exact⟨rfl,by simp⟩
  have hi:∀s l ts,dF n s l=.ok ts->TG ts/\ts.length<=n+1+1:=λs l ts h=>⟨(kO n s l ts h).1,Nat.le_succ_of_le (kO n s l ts h).2⟩;split at h
  .exact he _ h
  split at h
  .exact hi _ _ _ h
  split at h
  .exact hi _ _ _ h
  split at h
  .split at h
   .exact hi _ _ _ h
   .exact he _ h
  split at h
  .cases h
  .rename_i t k hw
   have hk:=zf hw
   cases hl:dF n (s.drop k) line with
   |fail c=>rw[hl]at h;cases h
   |ok us=>
    rw[hl]at h;have hu:=kO n _ _ _ hl;simp only[LR.cons]at h;injection h with h;subst h
    cases us with
    |nil=>exact hu.1.elim
    |cons u us=>exact⟨⟨hk.1,hk.2,hu.1⟩,by have:=hu.2;simp only[length_cons]at*;omega⟩
theorem vK{s:By}{ts:LT}(h:kF s=.ok ts):TG ts/\ts.length<=s.length+2/\s.length<=32768:=by
 unfold kF at h;split at h
 .cases h
 .have:=kO _ _ _ _ h;exact⟨this.1,by omega,by omega⟩
theorem sE{n:Nat}{ts:LT}(h:TG ts)(hn:8*ts.length+7<n):RG (λt _=>wf t 3=true/\cn t<=3*ts.length) (lP n ts):=by
 unfold lP;refine(aV n .block 0 ts h trivial hn).bind λt cB _ h1 hs=>?_
 cases(hd cB).kind==5 with
 |true=>exact⟨h1,hs.1,by have:=hs.2;omega⟩
 |false=>trivial
theorem uA{s:By}{n:Nat}(hn:8*s.length+23<n):RG (λt _=>wf t 3=true/\cn t<=3*(s.length+2)/\s.length<=32768) (dN n s):=by
 unfold dN
 cases h:kF s with
 |fail c=>trivial
 |ok ts=>
  obtain⟨h1,h2,h3⟩:=vK h;exact(sE h1 aj).imp λt bX _ ht=>⟨ht.1,by omega,h3⟩
end Go.Proofs.YtoddjlclpnoomaaGreatDoor

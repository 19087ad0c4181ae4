import Derived.Test.YtoddjlclpnoomaaGreatDoorU18
set_option linter.unusedVariables false
set_option linter.unusedSimpArgs false
set_option maxRecDepth 100000
open Go.Proofs.Tryz
open List (mem_cons drop_eq_getElem_cons length_cons length_append length_nil)
open Nat (le_refl)
open Bool (and_eq_true or_eq_false_iff)
open Option (mem_toList mem_def)
namespace Go.Proofs.YtoddjlclpnoomaaGreatDoor
def TG:LT->Prop
 |[]=>False
 |[t]=>t.kind=5
 |t::u::ts=>t.kind≠5/\i64 t.n=true/\TG (u::ts)
def cn:Tr->Nat
 |.cons a b=>1+cn a+cn b
 |.ex _ _ _ l r ks dV ps b=>1+ps.length+cn l+cn r+cn ks+cn dV+cn b
 |.st _ _ l r t a b=>1+cn l+cn r+cn t+cn a+cn b
 |_=>0
def wf:Tr->Nat->Bool
 |.nil,_=>true
 |.ex _ n _ l r ks dV _ b,0=>i64 n&&wf l 0&&wf r 0&&wf ks 1&&wf dV 1&&wf b 3
 |.cons a t,1=>wf a 0&&wf t 1
 |.st _ _ l r t a b,2=>wf l 0&&wf r 0&&wf t 0&&wf a 3&&wf b 3
 |.cons a t,3=>wf a 2&&wf t 3
 |_,_=>false
theorem jQ:∀(t x:Tr),wf t 1=true->wf x 0=true->wf (snoc t x) 1=true/\cn (snoc t x)=1+cn t+cn x
 |.nil,x,_,hx=>by simp[snoc,wf,hx,cn]
 |.cons a t,x,h,hx=>by
  simp only[wf,and_eq_true]at h;have:=jQ t x h.2 hx;simp[snoc,wf,h,this,cn];omega
 |.hole,x,h,hx=>by simp[wf]at h
 |.ex ..,x,h,hx=>by simp[wf]at h
 |.st ..,x,h,hx=>by simp[wf]at h
theorem qN:∀(t x:Tr),wf t 3=true->wf x 2=true->wf (snoc t x) 3=true/\cn (snoc t x)=1+cn t+cn x
 |.nil,x,_,hx=>by simp[snoc,wf,hx,cn]
 |.cons a t,x,h,hx=>by
  simp only[wf,and_eq_true]at h;have:=qN t x h.2 hx;simp[snoc,wf,h,this,cn];omega
 |.hole,x,h,hx=>by simp[wf]at h
 |.ex ..,x,h,hx=>by simp[wf]at h
 |.st ..,x,h,hx=>by simp[wf]at h
def vB:Tr->Bool
 |.ex ..=>true
 |_=>false
def isS:Tr->Bool
 |.st ..=>true
 |_=>false
def cD:Cl->Nat
 |.func _|.bracket _|.inner _|.bin ..|.params _=>0
 |.kE|.signed|.exprL ..|.dy ..=>1
 |.dq=>2
 |.post=>3
 |.simple|.operand=>4
 |.expr _=>5
 |.stmt=>5
 |.branch|.args _|.item|.eY _=>6
 |.items ..|.block=>7
def RG(P:Tr->LT->Prop):bL->Prop
 |.ok t ts _=>TG ts/\P t ts
 |.fail _=>True
 |.bH=>False
theorem RG.bind{P Q:Tr->LT->Prop}{r:bL}{f:Tr->LT->Bool->bL}(h:RG P r)(hf:∀t ts o,TG ts->P t ts->RG Q (f t ts o)):RG Q (r.bind f):=by
 cases r with
 |ok t ts o=>exact hf t ts o h.1 h.2
 |fail c=>trivial
 |bH=>exact h.elim
theorem RG.imp{P Q:Tr->LT->Prop}{r:bL}(h:RG P r)(hf:∀t ts,TG ts->P t ts->Q t ts):RG Q r:=by
 cases r with
 |ok t ts o=>exact⟨h.1,hf t ts h.1 h.2⟩
 |fail c=>trivial
 |bH=>exact h.elim
theorem TG.bF{ts:LT}(h:TG ts)(hk:(hd ts).kind≠5):TG (bF ts)/\(bF ts).length+1=ts.length:=by
 match ts,h with
 |[t],h=>exact absurd h hk
 |t::u::ts,h=>exact⟨h.2.2,rfl⟩
theorem TG.n64{ts:LT}(h:TG ts)(hk:(hd ts).kind≠5):i64 (hd ts).n=true:=by
 match ts,h with
 |[t],h=>exact absurd h hk
 |t::u::ts,h=>exact h.2.1
theorem xx{t:Tok}{ss:LB}(h:fI t ss=true):t.kind=4:=by
 unfold fI at h;simp only[and_eq_true,beq_iff_eq]at h;exact h.1
theorem TG.is{ts:LT}{ss:LB}(h:TG ts)(hk:fI (hd ts) ss=true):TG (Go.Proofs.YtoddjlclpnoomaaGreatDoor.bF ts)/\(Go.Proofs.YtoddjlclpnoomaaGreatDoor.bF ts).length+1=ts.length:=
 h.bF (by rw[xx hk];decide)
theorem RG.cI{Q:Tr->LT->Prop}{s:By}{ts:LT}{f:LT->bL}(h:TG ts)(hf:∀bU,TG bU->bU.length+1=ts.length->RG Q (f bU)):RG Q (aP s ts f):=by
 unfold aP
 cases h1:bB s ts with
 |true=>exact hf _ (h.is h1).1 (h.is h1).2
 |false=>trivial
theorem RG.name{Q:Tr->LT->Prop}{ts:LT}{f:By->LT->bL}(h:TG ts)(hf:∀nm bU,TG bU->bU.length+1=ts.length->RG Q (f nm bU)):RG Q (cP ts f):=by
 unfold cP
 cases h1:(hd ts).kind==1 with
 |true=>
  have h2:(hd ts).kind≠5:=by rw[beq_iff_eq.mp h1];decide
  exact hf _ _ (h.bF h2).1 (h.bF h2).2
 |false=>trivial
theorem RG.open{Q:Tr->LT->Prop}{d:Int}{f:Int->bL}(hf:∀d,RG Q (f d)):RG Q (bY d f):=by
 unfold bY
 cases decide (64<d+1)with
 |true=>trivial
 |false=>exact hf _
def Pre:Cl->LT->Prop
 |.eY acc,_=>wf acc 3=true
 |.exprL l _,_=>wf l 0=true/\vB l=true
 |.bin l _,ts=>wf l 0=true/\vB l=true/\(hd ts).kind≠5
 |.dy e _,_=>wf e 0=true/\vB e=true
 |.bracket l,_=>wf l 0=true
 |.args acc,_=>wf acc 1=true
 |.items ks dV,_=>wf ks 1=true/\wf dV 1=true
 |_,_=>True
def uS:Cl->Nat->Tr->LT->Prop
 |.block,L,t,ts=>wf t 3=true/\cn t+3*ts.length<=3*L
 |.eY acc,L,t,ts=>wf t 3=true/\cn t+3*ts.length<=cn acc+3*L
 |.inner _,L,t,ts=>wf t 3=true/\cn t+3*ts.length+3<=3*L
 |.stmt,L,t,ts|.simple,L,t,ts|.kE,L,t,ts|.branch,L,t,ts=>wf t 2=true/\isS t=true/\1<=cn t/\cn t+1+3*ts.length<=3*L
 |.func true,L,t,ts=>(∃f k n x l r ks dV ps b,t=.cons f (.cons (.ex k n x l r ks dV ps b) .nil)/\vB f=true/\wf f 0=true/\wf (.ex k n x l r ks dV ps b) 0=true)/\cn t+3*ts.length+2<=3*L
 |.func false,L,t,ts=>wf t 0=true/\vB t=true/\cn t+3*ts.length+2<=3*L
 |.params acc,L,t,ts=>(∃ps,t=.ex 0 0 [] .nil .nil .nil .nil ps .nil/\ps.length+3*ts.length+2<=acc.length+3*L)/\ts.length+1<=L
 |.expr _,L,t,ts|.operand,L,t,ts|.post,L,t,ts|.dq,L,t,ts|.signed,L,t,ts=>wf t 0=true/\vB t=true/\cn t+2+3*ts.length<=3*L
 |.exprL l _,L,t,ts=>wf t 0=true/\vB t=true/\cn t+3*ts.length<=cn l+3*L
 |.bin l _,L,t,ts=>wf t 0=true/\vB t=true/\cn t+3*ts.length<=cn l+3*L/\ts.length+1<=L
 |.dy e _,L,t,ts=>wf t 0=true/\vB t=true/\cn t+3*ts.length<=cn e+3*L
 |.bracket l,L,t,ts=>(∃r,t=.ex 7 0 [] l r .nil .nil [] .nil/\wf r 0=true/\vB r=true/\cn r+8+3*ts.length<=3*L)
 |.args acc,L,t,ts=>wf t 1=true/\cn t+3*ts.length<=cn acc+3*L
 |.items ks dV,L,t,ts=>(∃a b,t=.cons a (.cons b .nil)/\wf a 1=true/\wf b 1=true/\cn a+cn b+3*ts.length<=cn ks+cn dV+3*L)
 |.item,L,t,ts=>(∃a b,t=.cons a (.cons b .nil)/\wf a 0=true/\wf b 0=true/\cn a+cn b+3*ts.length+2<=3*L)
theorem iL:∀{t:Tr},vB t=true->1<=cn t
 |.ex ..,_=>by simp only[cn,length_nil];omega
 |.nil,h|.hole,h|.cons ..,h|.st ..,h=>by simp[vB]at h
theorem aV:∀(n:Nat) (c:Cl) (deep:Int) (ts:LT),TG ts->Pre c ts->8*ts.length+cD c<n->RG (uS c ts.length) (run n c deep ts)
 |0,c,deep,ts,h,hp,hn=>absurd hn (Nat.not_lt_zero _)
 |n+1,.block,deep,ts,h,hp,hn=>by
  simp only[run];simp only[cD]at hn;exact(aV n (.eY .nil) deep ts h rfl (by simp only[cD];omega)).imp λt bU h' hq=>⟨hq.1,by simpa[cn]using hq.2⟩
 |n+1,.eY acc,deep,ts,h,hp,hn=>by
  simp only[run];simp only[cD]at hn
  cases h1:dI (hd ts)with
  |true=>exact⟨h,hp,le_refl _⟩
  |false=>
   refine(aV n .stmt deep ts h trivial (by simp only[cD];omega)).bind λs bX _ h1 hs=>?_;obtain⟨Ed,tO,vC,SH⟩:=hs;have hq:=qN acc s hp Ed;try dsimp only
   cases kindOf s==8 with
   |true=>exact⟨h1,hq.1,by rw[hq.2];omega⟩
   |false=>
    refine(aV n (.eY (snoc acc s)) deep bX h1 hq.1 (by simp only[cD];omega)).imp λt bU h' qD=>⟨qD.1,?_⟩;have:=qD.2;rw[hq.2]at this;omega
 |n+1,.inner s,deep,ts,h,hp,hn=>by
  simp only[run];simp only[cD]at hn
  cases h1:bB s ts with
  |false=>trivial
  |true=>
   obtain⟨ha,hl⟩:=h.is h1;refine RG.open λd=>(aV n .block d _ ha trivial (by simp only[cD];omega)).imp λt bU h' hq=>⟨hq.1,?_⟩;have:=hq.2;omega
 |n+1,.stmt,deep,ts,h,hp,hn=>by
  simp only[run];simp only[cD]at hn;have KE:=aV n .simple deep ts h trivial (by simp only[cD];omega)
  cases h1:(hd ts).kind==4 with
  |false=>exact KE
  |true=>
   have Eg:=beq_iff_eq.mp h1;obtain⟨ha,hl⟩:=h.bF (by rw[Eg];decide);try dsimp only
   have hinner:∀s ts,TG ts->ts.length+1<=(Go.Proofs.YtoddjlclpnoomaaGreatDoor.bF ts).length+2->8*ts.length<n->∀d,RG (uS (.inner s) ts.length) (run n (.inner s) d ts):=λs ts h _ hn d=>aV n (.inner s) d ts h trivial (by simp only[cD];omega);have nu:∀s ts,TG ts->8*ts.length<n->∀d,RG (uS (.inner s) ts.length) (run n (.inner s) d ts):=λs ts h hn d=>aV n (.inner s) d ts h trivial (by simp only[cD];omega);have hex:∀bX,TG bX->bX.length<ts.length->∀d a,RG (uS (.expr a) bX.length) (run n (.expr a) d bX):=λts h hn d a=>aV n (.expr a) d ts h trivial (by simp only[cD];omega);split
   .exact aV n .kE deep ts h trivial (by simp only[cD];omega)
   split
   .refine(aV n (.func true) deep ts h trivial (by simp only[cD];omega)).bind λr bX _ h1 hs=>?_;obtain⟨⟨f,k,nn,x,l,r',ks,dV,ps,b,rfl,e1,e2,e3⟩,hc⟩:=hs;simp only[cn,length_nil]at hc;refine⟨h1,by simp[wf,e2];simpa[wf]using e3,rfl,by simp only[cn,length_nil];omega,by simp only[cn,length_nil];omega⟩
   split
   .refine(nu _ ts h aj _).bind λa bX _ h1 hs=>RG.cI h1 λdA h2 fY=>⟨h2,by simp[wf,hs.1],rfl,by simp only[cn,length_nil];omega,?_⟩;have:=hs.2;simp only[cn,length_nil];omega
   split
   .refine(hex _ ha aj _ _).bind λr bX _ h1 hs=>?_;have:=iL hs.2.1;refine(nu _ bX h1 (by have:=hs.2.2;omega) _).bind λa dA _ h2 tO=>RG.cI h2 λvw h3 ED=>⟨h3,by simp[wf,hs.1,tO.1],rfl,by simp only[cn,length_nil];omega,?_⟩;have:=hs.2.2;have:=tO.2;simp only[cn,length_nil];omega
   split
   .refine RG.name ha λnm bX h1 uQ=>RG.cI h1 λdA h2 fY=>(hex _ h2 aj _ _).bind λr vw _ h3 vC=>?_;have:=iL vC.2.1;have:=vC.2.2;refine RG.cI h3 λmN h4 SI=>(hex _ h4 aj _ _).bind λr KF _ h5 SJ=>?_;have:=iL SJ.2.1;have:=SJ.2.2;refine(nu _ KF h5 aj _).bind λa Oy _ h6 W6=>RG.cI h6 λW7 h7 F2=>⟨h7,by simp[wf,vC.1,SJ.1,W6.1],rfl,by simp only[cn,length_nil];omega,?_⟩;have:=W6.2;simp only[cn,length_nil];omega
   split
   .refine(aV n .branch deep _ ha trivial (by simp only[cD];omega)).bind λs bX _ h1 hs=>RG.cI h1 λdA h2 fY=>⟨h2,hs.1,hs.2.1,hs.2.2.1,?_⟩;have:=hs.2.2.2;omega
   split
   .cases dI (hd (Go.Proofs.YtoddjlclpnoomaaGreatDoor.bF ts))with
    |true=>exact⟨ha,by simp[wf],rfl,by simp only[cn,length_nil];omega,by simp only[cn,length_nil];omega⟩
    |false=>
     refine(hex _ ha aj _ _).bind λr bX _ h1 hs=>?_;try dsimp only
     cases dI (hd bX)with
     |true=>
      have:=hs.2.2;exact⟨h1,by simp[wf,hs.1],rfl,by simp only[cn,length_nil];omega,by simp only[cn,length_nil];omega⟩
     |false=>trivial
   split
   .exact⟨ha,by simp[wf],rfl,by simp only[cn,length_nil];omega,by simp only[cn,length_nil];omega⟩
   split
   .refine(nu _ ts h aj _).bind λa bX _ h1 hs=>?_;try dsimp only
    cases h3:bB eG bX with
    |false=>trivial
    |true=>
     obtain⟨hc,hlc⟩:=h1.is h3;have:=hs.2;refine RG.open λd=>RG.name hc λnm dA h2 fY=>(aV n .block d _ h2 trivial (by simp only[cD];omega)).bind λb vw _ h3 vC=>RG.cI h3 λmN h4 SI=>⟨h4,by simp[wf,hs.1,vC.1],rfl,by simp only[cn,length_nil];omega,?_⟩;have:=vC.2;simp only[cn,length_nil];omega
   .exact KE
 |n+1,.simple,deep,ts,h,hp,hn=>by
  simp only[run];simp only[cD]at hn;refine(aV n .post deep ts h trivial (by simp only[cD];omega)).bind λe bX own h1 hs=>?_;have hc:=iL hs.2.1;have tO:=hs.2.2;try dsimp only
  cases hx:bB [61] bX&&!own&&(kindOf e==6||kindOf e==7)with
  |true=>
   simp only[and_eq_true]at hx;obtain⟨ha,hl⟩:=h1.is hx.1.1;refine(aV n (.expr 0) deep _ ha trivial (by simp only[cD];omega)).bind λr dA _ h2 vC=>⟨h2,by simp[wf,hs.1,vC.1],rfl,by simp only[cn,length_nil];omega,?_⟩;have:=vC.2.2;simp only[cn,length_nil];omega
  |false=>
   try dsimp only
   cases !bB [61] bX&&!own&&kindOf e==8 with
   |true=>exact⟨h1,by simp[wf,hs.1],rfl,by simp only[cn,length_nil];omega,by simp only[cn,length_nil];omega⟩
   |false=>trivial
 |n+1,.kE,deep,ts,h,hp,hn=>by
  simp only[run];simp only[cD]at hn
  cases hx:bB bP (bF ts)with
  |true=>
   have hle:TG (bF ts)/\(bF ts).length<=ts.length:=by
    match ts,h with
    |[t],h=>exact⟨h,le_refl _⟩
    |t::u::ts,h=>exact⟨h.2.2,by simp[Go.Proofs.YtoddjlclpnoomaaGreatDoor.bF]⟩
   refine(aV n (.func true) deep _ hle.1 trivial (by simp only[cD];omega)).bind λr bX _ h1 hs=>?_;obtain⟨⟨f,k,nn,x,l,r',ks,dV,ps,b,rfl,e1,e2,e3⟩,hc⟩:=hs;simp only[cn,length_nil]at hc;exact⟨h1,by simp[wf,e2],rfl,by simp only[cn,length_nil];omega,by simp only[cn,length_nil];omega⟩
  |false=>
   have hle:TG (bF ts)/\(bF ts).length<=ts.length:=by
    match ts,h with
    |[t],h=>exact⟨h,le_refl _⟩
    |t::u::ts,h=>exact⟨h.2.2,by simp[Go.Proofs.YtoddjlclpnoomaaGreatDoor.bF]⟩
   refine RG.name hle.1 λnm bX h1 uQ=>?_
   cases hy:bB [61] bX with
   |true=>
    obtain⟨h2,fY⟩:=h1.is hy;refine(aV n (.expr 0) deep _ h2 trivial (by simp only[cD];omega)).bind λr vw _ h3 hs=>⟨h3,by simp[wf,hs.1],rfl,by simp only[cn,length_nil];omega,?_⟩;have:=hs.2.2;simp only[cn,length_nil];omega
   |false=>exact⟨h1,by simp[wf],rfl,by simp only[cn,length_nil];omega,by simp only[cn,length_nil];omega⟩
 |n+1,.branch,deep,ts,h,hp,hn=>by
  simp only[run];simp only[cD]at hn;refine(aV n (.expr 0) deep ts h trivial (by simp only[cD];omega)).bind λr bX _ h1 hs=>?_;have hc:=iL hs.2.1;have tO:=hs.2.2;refine(aV n (.inner qs) deep bX h1 trivial (by simp only[cD];omega)).bind λa dA _ h2 ha=>?_;have B2:=ha.2;try dsimp only
  cases hx:bB ew dA with
  |true=>
   obtain⟨h3,ED⟩:=h2.is hx;refine(aV n .branch deep _ h3 trivial (by simp only[cD];omega)).bind λs mN _ h4 SH=>⟨h4,by simp[wf,hs.1,ha.1,SH.1],rfl,by simp only[cn,length_nil];omega,?_⟩;have:=SH.2.2.2;simp only[cn,length_nil];omega
  |false=>
   try dsimp only
   cases hy:bB dU dA with
   |true=>
    refine(aV n (.inner dU) deep dA h2 trivial (by simp only[cD];omega)).bind λb vw _ h3 hb=>⟨h3,by simp[wf,hs.1,ha.1,hb.1],rfl,by simp only[cn,length_nil];omega,?_⟩;have:=hb.2;simp only[cn,length_nil];omega
   |false=>exact⟨h2,by simp[wf,hs.1,ha.1],rfl,by simp only[cn,length_nil];omega,by simp only[cn,length_nil];omega⟩
 |n+1,.func named,deep,ts,h,hp,hn=>by
  simp only[run];simp only[cD]at hn;refine RG.open λd=>RG.cI h λbX h1 uQ=>?_;have vq:∀bX,TG bX->bX.length<ts.length->∀d,RG (uS .block bX.length) (run n .block d bX):=λts h hn d=>aV n .block d ts h trivial (by simp only[cD];omega);have KG:∀bX,TG bX->bX.length<ts.length->∀d,RG (uS (.params []) bX.length) (run n (.params []) d bX):=λts h hn d=>aV n (.params []) d ts h trivial (by simp only[cD];omega)
  cases named with
  |true=>
   refine RG.name h1 λnm dA h2 fY=>?_;try dsimp only
   cases hx:bB [40] dA with
   |false=>trivial
   |true=>
    obtain⟨h3,ED⟩:=h2.is hx;refine RG.open λd2=>?_
    cases hy:bB [41] (bF dA)with
    |true=>
     obtain⟨h4,SI⟩:=h3.is hy;refine(vq _ h4 aj _).bind λb KF _ h5 hs=>RG.cI h5 λOy h6 SK=>⟨h6,⟨_,_,_,_,_,_,_,_,_,_,rfl,rfl,by simp[wf,hs.1];decide,by simp[wf];decide⟩,?_⟩;have:=hs.2;simp only[cn,lf,length_nil];omega
    |false=>
     refine(KG _ h3 aj _).bind λt KF _ h5 hs=>?_;obtain⟨⟨ps,rfl,KH⟩,hc⟩:=hs;simp only[length_nil]at KH;refine RG.cI h5 λOy h6 SK=>(vq _ h6 aj _).bind λb W7 _ h7 hs=>RG.cI h7 λts8 h8 hl8=>⟨h8,⟨_,_,_,_,_,_,_,_,_,_,rfl,rfl,by simp[wf,hs.1];decide,by simp[wf];decide⟩,?_⟩;have:=hs.2;simp only[cn,lf,length_nil];omega
  |false=>
   try dsimp only
   cases hx:bB [40] bX with
   |false=>trivial
   |true=>
    obtain⟨h3,ED⟩:=h1.is hx;refine RG.open λd2=>?_
    cases hy:bB [41] (bF bX)with
    |true=>
     obtain⟨h4,SI⟩:=h3.is hy;refine(vq _ h4 aj _).bind λb KF _ h5 hs=>RG.cI h5 λOy h6 SK=>⟨h6,by simp[wf,hs.1];decide,rfl,?_⟩;have:=hs.2;simp only[cn,lf,length_nil];omega
    |false=>
     refine(KG _ h3 aj _).bind λt KF _ h5 hs=>?_;obtain⟨⟨ps,rfl,KH⟩,hc⟩:=hs;simp only[length_nil]at KH;refine RG.cI h5 λOy h6 SK=>(vq _ h6 aj _).bind λb W7 _ h7 hs=>RG.cI h7 λts8 h8 hl8=>⟨h8,by simp[wf,hs.1];decide,rfl,?_⟩;have:=hs.2;simp only[cn,lf,length_nil];omega
 |n+1,.params acc,deep,ts,h,hp,hn=>by
  simp only[run];simp only[cD]at hn;refine RG.name h λnm bX h1 uQ=>?_
  cases hx:bB [44] bX with
  |true=>
   obtain⟨h3,ED⟩:=h1.is hx;exact(aV n (.params (acc++[nm])) deep _ h3 trivial (by simp only[cD];omega)).imp λt dA h2 hs=>⟨(by obtain⟨ps,e,KH⟩:=hs.1;exact⟨ps,e,by simp only[length_append,length_cons,length_nil]at KH;omega⟩),by have:=hs.2;omega⟩
  |false=>exact⟨h1,⟨_,rfl,by simp only[length_append,length_cons,length_nil];omega⟩,by omega⟩
 |n+1,.expr dP,deep,ts,h,hp,hn=>by
  simp only[run];simp only[cD]at hn;refine(aV n .operand deep ts h trivial (by simp only[cD];omega)).bind λl bX _ h1 hs=>?_;have:=hs.2.2;have:=iL hs.2.1;exact(aV n (.exprL l dP) deep bX h1 ⟨hs.1,hs.2.1⟩ (by simp only[cD];omega)).imp λt dA h2 hs=>⟨hs.1,hs.2.1,by have:=hs.2.2;omega⟩
 |n+1,.exprL l dP,deep,ts,h,hp,hn=>by
  simp only[run];simp only[cD]at hn
  cases hx:!((hd ts).kind==4)||decide (bD (hd ts).text<=dP)with
  |true=>exact⟨h,hp.1,hp.2,le_refl _⟩
  |false=>
   simp only[or_eq_false_iff,Bool.not_eq_false',beq_iff_eq]at hx;refine(aV n (.bin l (bD (hd ts).text)) deep ts h ⟨hp.1,hp.2,by rw[hx.1];decide⟩ (by simp only[cD];omega)).bind λe bX _ h1 hs=>?_;have:=hs.2.2.1;have:=hs.2.2.2;exact(aV n (.exprL e dP) deep bX h1 ⟨hs.1,hs.2.1⟩ (by simp only[cD];omega)).imp λt dA h2 hs=>⟨hs.1,hs.2.1,by have:=hs.2.2;omega⟩
 |n+1,.bin l k,deep,ts,h,hp,hn=>by
  simp only[run];simp only[cD]at hn;obtain⟨ha,hl⟩:=h.bF hp.2.2
  cases(hd ts).text==[46,46]with
  |true=>
   refine RG.open λd=>(aV n (.expr (k-1)) d _ ha trivial (by simp only[cD];omega)).bind λr bX _ h1 hs=>?_;have:=hs.2.2;exact⟨h1,by simp[wf,hp.1,hs.1];decide,rfl,by simp only[cn,length_nil];omega,by omega⟩
  |false=>
   refine(aV n (.expr k) deep _ ha trivial (by simp only[cD];omega)).bind λr bX _ h1 hs=>?_;have:=hs.2.2;exact⟨h1,by simp[wf,hp.1,hs.1];decide,rfl,by simp only[cn,length_nil];omega,by omega⟩
 |n+1,.operand,deep,ts,h,hp,hn=>by
  simp only[run];simp only[cD]at hn
  cases hx:fI (hd ts) [lH,[45],[35],[126]]with
  |false=>exact aV n .post deep ts h trivial (by simp only[cD];omega)
  |true=>
   obtain⟨ha,hl⟩:=h.is hx;refine RG.open λd=>(aV n .operand d _ ha trivial (by simp only[cD];omega)).bind λr bX _ h1 hs=>?_;have:=hs.2.2;exact⟨h1,by simp[wf,hs.1];decide,rfl,by simp only[cn,length_nil];omega⟩
 |n+1,.post,deep,ts,h,hp,hn=>by
  simp only[run];simp only[cD]at hn;refine(aV n .dq deep ts h trivial (by simp only[cD];omega)).bind λl bX _ h1 hs=>?_;have:=hs.2.2;have:=iL hs.2.1;exact(aV n (.dy l _) deep bX h1 ⟨hs.1,hs.2.1⟩ (by simp only[cD];omega)).imp λt dA h2 hs=>⟨hs.1,hs.2.1,by have:=hs.2.2;omega⟩
 |n+1,.dy e own,deep,ts,h,hp,hn=>by
  simp only[run];simp only[cD]at hn;have hcn:=iL hp.2
  cases hx:bB [91] ts with
  |true=>
   refine(aV n (.bracket e) deep ts h hp.1 (by simp only[cD];omega)).bind λt bX _ h1 hs=>?_;obtain⟨r,rfl,e1,e2,hc⟩:=hs;exact(aV n (.dy _ false) deep bX h1 ⟨by simp[wf,hp.1,e1];decide,rfl⟩ (by simp only[cD];omega)).imp λt dA h2 hs=>⟨hs.1,hs.2.1,by have:=hs.2.2;simp only[cn,length_nil]at this;omega⟩
  |false=>
   try dsimp only
   cases hy:bB [46] ts with
   |true=>
    obtain⟨ha,hl⟩:=h.is hy;refine RG.name ha λnm bX h1 uQ=>?_;exact(aV n (.dy _ false) deep bX h1 ⟨by simp[wf,hp.1,lf];decide,rfl⟩ (by simp only[cD];omega)).imp λt dA h2 hs=>⟨hs.1,hs.2.1,by have:=hs.2.2;simp only[cn,lf,length_nil]at this;omega⟩
   |false=>
    try dsimp only
    cases hz:bB [40] ts with
    |false=>exact⟨h,hp.1,hp.2,le_refl _⟩
    |true=>
     obtain⟨ha,hl⟩:=h.is hz;refine RG.open λd=>?_
     cases hw:bB [41] (bF ts)with
     |true=>
      obtain⟨hb,fY⟩:=ha.is hw;exact(aV n (.dy _ false) deep _ hb ⟨by simp[wf,hp.1];decide,rfl⟩ (by simp only[cD];omega)).imp λt dA h2 hs=>⟨hs.1,hs.2.1,by have:=hs.2.2;simp only[cn,lf,length_nil]at this;omega⟩
     |false=>
      refine(aV n (.args .nil) d _ ha rfl (by simp only[cD];omega)).bind λdV bX _ h1 hs=>RG.cI h1 λdA h2 fY=>?_;have:=hs.2;exact(aV n (.dy _ false) deep _ h2 ⟨by simp[wf,hp.1,hs.1];decide,rfl⟩ (by simp only[cD];simp only[cn,length_nil]at this;omega)).imp λt dA h2 hs=>⟨hs.1,hs.2.1,by have:=hs.2.2;simp only[cn,lf,length_nil]at*;omega⟩
 |n+1,.dq,deep,ts,h,hp,hn=>by
  simp only[run];simp only[cD]at hn;split
  .rename_i hk
   obtain⟨ha,hl⟩:=h.bF (by rw[hk];decide);exact⟨ha,by simp[wf,lf];decide,rfl,by simp only[cn,lf,length_nil];omega⟩
  split
  .rename_i hk
   obtain⟨ha,hl⟩:=h.bF (by rw[hk];decide);exact⟨ha,by simp[wf,lf,h.n64 (by rw[hk];decide)],rfl,by simp only[cn,lf,length_nil];omega⟩
  split
  .rename_i hk
   obtain⟨ha,hl⟩:=h.bF (by rw[hk];decide);exact⟨ha,by simp[wf,lf];decide,rfl,by simp only[cn,lf,length_nil];omega⟩
  exact aV n .signed deep ts h trivial (by simp only[cD];omega)
 |n+1,.signed,deep,ts,h,hp,hn=>by
  simp only[run];simp only[cD]at hn;split
  .rename_i hk
   obtain⟨ha,hl⟩:=h.is hk;exact⟨ha,by simp[wf,lf];decide,rfl,by simp only[cn,lf,length_nil];omega⟩
  split
  .rename_i hk
   obtain⟨ha,hl⟩:=h.is hk;exact⟨ha,by simp[wf,lf];decide,rfl,by simp only[cn,lf,length_nil];omega⟩
  split
  .rename_i hk
   obtain⟨ha,hl⟩:=h.is hk;exact⟨ha,by simp[wf,lf];decide,rfl,by simp only[cn,lf,length_nil];omega⟩
  split
  .rename_i hk
   obtain⟨ha,hl⟩:=h.is hk;refine RG.open λd=>(aV n (.expr 0) d _ ha trivial (by simp only[cD];omega)).bind λe bX _ h1 hs=>RG.cI h1 λdA h2 fY=>⟨h2,hs.1,hs.2.1,?_⟩;have:=hs.2.2;omega
  split
  .exact(aV n (.func false) deep ts h trivial (by simp only[cD];omega)).imp λt dA h2 hs=>⟨hs.1,hs.2.1,by have:=hs.2.2;omega⟩
  split
  .rename_i hk
   obtain⟨ha,hl⟩:=h.is hk;refine RG.open λd=>?_
   cases hw:bB [125] (bF ts)with
   |true=>
    obtain⟨hb,fY⟩:=ha.is hw;exact⟨hb,by simp[wf];decide,rfl,by simp only[cn,length_nil];omega⟩
   |false=>
    refine(aV n (.items .nil .nil) d _ ha ⟨rfl,rfl⟩ (by simp only[cD];omega)).bind λr bX _ h1 hs=>?_;obtain⟨a,b,rfl,e1,e2,hc⟩:=hs;simp only[cn,length_nil]at hc;exact RG.cI h1 λdA h2 fY=>⟨h2,by simp[wf,e1,e2];decide,rfl,by simp only[cn,length_nil];omega⟩
  .trivial
 |n+1,.bracket l,deep,ts,h,hp,hn=>by
  simp only[run];simp only[cD]at hn;refine RG.open λd=>RG.cI h λbX h1 uQ=>(aV n (.expr 0) d _ h1 trivial (by simp only[cD];omega)).bind λr dA _ h2 hs=>RG.cI h2 λvw h3 ED=>⟨h3,r,rfl,hs.1,hs.2.1,?_⟩;have:=hs.2.2;omega
 |n+1,.args acc,deep,ts,h,hp,hn=>by
  simp only[run];simp only[cD]at hn;refine(aV n (.expr 0) deep _ h trivial (by simp only[cD];omega)).bind λa bX _ h1 hs=>?_;have hc:=hs.2.2;have hq:=jQ acc a hp hs.1;try dsimp only
  cases hx:bB [44] bX with
  |true=>
   obtain⟨h2,fY⟩:=h1.is hx;exact(aV n (.args (snoc acc a)) deep _ h2 hq.1 (by simp only[cD];omega)).imp λt dA h2 hs=>⟨hs.1,by have:=hs.2;rw[hq.2]at this;omega⟩
  |false=>exact⟨h1,hq.1,by rw[hq.2];omega⟩
 |n+1,.items ks dV,deep,ts,h,hp,hn=>by
  simp only[run];simp only[cD]at hn;refine(aV n .item deep _ h trivial (by simp only[cD];omega)).bind λr bX _ h1 hs=>?_;obtain⟨k,a,rfl,e1,e2,hc⟩:=hs;have hk:=jQ ks k hp.1 e1;have ha:=jQ dV a hp.2 e2;try dsimp only
  cases hx:bB [44] bX with
  |true=>
   obtain⟨h2,fY⟩:=h1.is hx;refine(aV n (.items (snoc ks k) (snoc dV a)) deep _ h2 ⟨hk.1,ha.1⟩ (by simp only[cD];omega)).imp λt dA h2 hs=>?_;obtain⟨x,y,rfl,f1,f2,hd⟩:=hs;exact⟨x,y,rfl,f1,f2,by rw[hk.2,ha.2]at hd;omega⟩
  |false=>exact⟨h1,_,_,rfl,hk.1,ha.1,by rw[hk.2,ha.2];omega⟩
 |n+1,.item,deep,ts,h,hp,hn=>by
  simp only[run];simp only[cD]at hn;split
  .rename_i hk
   obtain⟨ha,hl⟩:=h.bF (by rw[hk.1];decide);obtain⟨hb,fY⟩:=ha.is hk.2.2;refine(aV n (.expr 0) deep _ hb trivial (by simp only[cD];omega)).bind λa bX _ h1 hs=>⟨h1,_,_,rfl,by simp[wf,lf];decide,hs.1,?_⟩;have hc:=hs.2.2;simp only[cn,lf,length_nil];omega
  split
  .refine(aV n (.bracket .nil) deep _ h rfl (by simp only[cD];omega)).bind λk bX _ h1 hs=>?_;obtain⟨r,rfl,e1,e2,hc⟩:=hs;refine RG.cI h1 λdA h2 fY=>(aV n (.expr 0) deep _ h2 trivial (by simp only[cD];omega)).bind λa bX _ h1 hs=>⟨h1,_,_,rfl,e1,hs.1,?_⟩;have hc:=hs.2.2;omega
  .refine(aV n (.expr 0) deep _ h trivial (by simp only[cD];omega)).bind λa bX _ h1 hs=>⟨h1,_,_,rfl,rfl,hs.1,?_⟩;have hc:=hs.2.2;simp only[cn,length_nil];omega
def tz:Tr->Nat
 |.cons a b=>1+tz a+tz b
 |.ex _ _ _ l r ks dV ps b=>8+ps.length+tz l+tz r+tz ks+tz dV+tz b
 |.st _ _ l r t a b=>8+tz l+tz r+tz t+tz a+tz b
 |_=>1
theorem bE:∀t,1<=tz t
 |.nil|.hole=>by simp[tz]
 |.cons ..|.ex ..|.st ..=>by simp only[tz];omega
def pz:Ef->Nat
 |.expr e=>8*tz e
 |.inner e _=>8*tz e+1
 |.more _ e=>8*tz e+1
 |.func _ b=>8*tz b+3
 |.args l _=>8*tz l+1
 |.items ks l _=>8*tz ks+8*tz l
 |.stmts l=>8*tz l+1
 |.block l=>8*tz l+2
 |.within _ l=>8*tz l+3
 |.stmt s=>8*tz s
 |.branch r a b=>8*(tz r+tz a+tz b+6)
def pw:Ef->Prop
 |.expr e=>wf e 0=true
 |.inner e _=>wf e 0=true
 |.more _ e=>wf e 0=true
 |.func _ b=>wf b 3=true
 |.args l _=>wf l 1=true
 |.items ks l _=>wf ks 1=true/\wf l 1=true/\len ks=len l
 |.stmts l=>wf l 3=true
 |.block l=>wf l 3=true
 |.within _ l=>wf l 3=true
 |.stmt s=>wf s 2=true
 |.branch r a b=>wf r 0=true/\wf a 3=true/\wf b 3=true
def NO(r:PR):Prop:=r≠.bH
theorem NO.bind{r:PR}{f:By->Nat->PR}(h:NO r)(hf:∀b p,NO (f b p)):NO (r.bind f):=by
 cases r with
 |ok b p=>exact hf b p
 |fail c=>exact PR.noConfusion
 |bH=>exact absurd rfl h
theorem NO.ite{c:Prop}{hd:Decidable c}{x y:PR}(hx:c->NO x)(hy:¬c->NO y):NO (@ite PR c hd x y):=by
 by_cases h:c
 .rw[if_pos h];exact hx h
 .rw[if_neg h];exact hy h
theorem NO.aM:∀(l:LB) (b:By) (p:Nat),NO (aM l b p)
 |[],b,p=>PR.noConfusion
 |s::l,b,p=>by
  simp only[Go.Proofs.YtoddjlclpnoomaaGreatDoor.aM];refine NO.bind ?_ λb p=>NO.aM l b p;unfold nv;split<;>exact PR.noConfusion
theorem NO.part(b:By)(p:Nat):NO (eT b p):=by
 unfold eT;split<;>exact PR.noConfusion
theorem NO.uI:∀(l:LB) (first:Bool) (b:By) (p:Nat),NO (gm l first b p)
 |[],_,b,p=>PR.noConfusion
 |s::l,first,b,p=>NO.bind (NO.aM _ _ _) λb p=>NO.uI l false b p
theorem bM:∀{t:Tr},wf t 0=true->t=.nil\/∃k n x l r ks dV ps b,t=.ex k n x l r ks dV ps b
 |.nil,_=>.inl rfl
 |.ex ..,_=>.inr ⟨_,_,_,_,_,_,_,_,_,rfl⟩
 |.hole,h|.cons ..,h|.st ..,h=>by simp[wf]at h
theorem dr:∀{t:Tr},wf t 2=true->t=.nil\/∃k n l r x a b,t=.st k n l r x a b
 |.nil,_=>.inl rfl
 |.st ..,_=>.inr ⟨_,_,_,_,_,_,_,rfl⟩
 |.hole,h|.cons ..,h|.ex ..,h=>by simp[wf]at h
theorem cX:∀{t:Tr},wf t 1=true->t=.nil\/∃a b,t=.cons a b/\wf a 0=true/\wf b 1=true
 |.nil,_=>.inl rfl
 |.cons ..,h=>by simp only[wf,and_eq_true]at h;exact .inr ⟨_,_,rfl,h.1,h.2⟩
 |.hole,h|.st ..,h|.ex ..,h=>by simp[wf]at h
theorem cY:∀{t:Tr},wf t 3=true->t=.nil\/∃a b,t=.cons a b/\wf a 2=true/\wf b 3=true
 |.nil,_=>.inl rfl
 |.cons ..,h=>by simp only[wf,and_eq_true]at h;exact .inr ⟨_,_,rfl,h.1,h.2⟩
 |.hole,h|.st ..,h|.ex ..,h=>by simp[wf]at h
theorem tW{t:Tr}(h:wf t 0=true):kn t=true:=by
 rcases bM h with rfl|⟨_,_,_,_,_,_,_,_,_,rfl⟩<;>rfl
theorem cG{t:Tr}:∀(m:Nat),(m=1\/m=3)->wf t m=true->dG t=true:=by
 induction t with
 |nil=>intros;rfl
 |cons a b _ ih=>
  rintro m (rfl|rfl) h
  .simp only[wf,and_eq_true]at h;exact ih 1 (.inl rfl) h.2
  .simp only[wf,and_eq_true]at h;exact ih 3 (.inr rfl) h.2
 |hole|ex|st=>rintro m (rfl|rfl) h<;>simp[wf]at h
theorem Aw{r:Tr}(h:wf r 0=true):wf (eg r) 0=true/\tz (eg r)<=tz r+12:=by
 rcases bM h with rfl|⟨_,_,_,_,_,_,_,_,_,rfl⟩
 .exact⟨rfl,by decide⟩
 .exact⟨h,by simp[eg]⟩
theorem bR:∀(n:Nat) (c:Ef) (b:By) (p:Nat),pw c->pz c<n->NO (bJ n c b p)
 |0,c,b,p,hw,hn=>absurd hn (Nat.not_lt_zero _)
 |n+1,.inner e around,b,p,hw,hn=>by
  simp only[pz]at hn;simp only[bJ]
  cases around with
  |false=>exact bR n (.expr e) b p hw (by simp only[pz];omega)
  |true=>exact(NO.aM _ _ _).bind λb p=>(bR n (.expr e) b p hw (by simp only[pz];omega)).bind λb p=>NO.aM _ _ _
 |n+1,.func ps body,b,p,hw,hn=>by
  simp only[pz]at hn;simp only[bJ];exact(NO.aM _ _ _).bind λb p=>(NO.uI _ _ _ _).bind λb p=>(NO.aM _ _ _).bind λb p=>(bR n (.block body) b p hw (by simp only[pz];omega)).bind λb p=>NO.aM _ _ _
 |n+1,.args l first,b,p,hw,hn=>by
  simp only[pz]at hn;rcases cX hw with rfl|⟨x,l,rfl,h1,h2⟩
  .exact PR.noConfusion
  .simp only[bJ];simp only[tz]at hn;have:=bE x;have:=bE l
   exact(NO.aM _ _ _).bind λb p=>(bR n (.expr x) b p h1 (by simp only[pz];omega)).bind λb p=>bR n (.args l false) b p h2 (by simp only[pz];omega)
 |n+1,.items ks l first,b,p,hw,hn=>by
  simp only[pz]at hn;obtain⟨hk,hl,he⟩:=hw;rcases cX hl with rfl|⟨x,l,rfl,h1,h2⟩
  .exact PR.noConfusion
  rcases cX hk with rfl|⟨k,ks,rfl,k1,k2⟩
  .simp[len]at he
  .simp only[bJ];simp only[tz]at hn;have:=bE x;have:=bE l;have:=bE k;have:=bE ks
   refine(NO.aM _ _ _).bind λb p=>NO.bind ?_ λb p=>(bR n (.expr x) b p h1 (by simp only[pz];omega)).bind λb p=>bR n (.items ks l false) b p ⟨k2,h2,by simpa[len]using he⟩ (by simp only[pz];omega);rcases bM k1 with rfl|⟨_,_,_,_,_,_,_,_,_,rfl⟩
   .exact PR.noConfusion
   .dsimp only;split
    .exact(NO.part _ _).bind λb p=>NO.aM _ _ _
    .exact(NO.aM _ _ _).bind λb p=>(bR n (.expr _) b p k1 (by simp only[pz];omega)).bind λb p=>NO.aM _ _ _
 |n+1,.block l,b,p,hw,hn=>by
  simp only[pz]at hn;simp only[bJ];exact(NO.aM _ _ _).bind λb p=>bR n (.stmts l) b p hw (by simp only[pz];omega)
 |n+1,.stmts l,b,p,hw,hn=>by
  simp only[pz]at hn;rcases cY hw with rfl|⟨x,l,rfl,h1,h2⟩
  .exact PR.noConfusion
  .simp only[bJ];simp only[tz]at hn;have:=bE x;have:=bE l
   exact(bR n (.stmt x) b p h1 (by simp only[pz];omega)).bind λb p=>(NO.aM _ _ _).bind λb p=>bR n (.stmts l) b p h2 (by simp only[pz];omega)
 |n+1,.more word e,b,p,hw,hn=>by
  simp only[pz]at hn;rcases bM hw with rfl|⟨_,_,_,_,_,_,_,_,_,rfl⟩
  .exact PR.noConfusion
  .simp only[bJ];exact(NO.aM _ _ _).bind λb p=>bR n (.expr _) b p hw (by simp only[pz];omega)
 |n+1,.within word l,b,p,hw,hn=>by
  simp only[pz]at hn;simp only[bJ];exact(NO.aM _ _ _).bind λb p=>(bR n (.block l) b p hw (by simp only[pz];omega)).bind λb p=>NO.aM _ _ _
 |n+1,.branch r a bb,b,p,hw,hn=>by
  simp only[pz]at hn;obtain⟨hr,ha,hb⟩:=hw;simp only[bJ];have h1:=Aw hr;have:=bE r;have:=bE a;have:=bE bb
  have nu:∀b p,NO (bJ n (.more [32] (eg r)) b p):=by
   intro b p;rcases bM hr with rfl|⟨_,_,_,_,_,_,_,_,_,rfl⟩
   .cases n with
    |zero=>omega
    |succ n=>
     cases n with
     |zero=>omega
     |succ n=>
      simp only[bJ,eg,wQ];refine(NO.aM _ _ _).bind λb p=>?_;simp[NO]
   .exact bR n (.more [32] _) b p h1.1 (by simp only[pz,eg]at*;omega)
  refine(nu _ _).bind λb p=>(NO.aM _ _ _).bind λb p=>(bR n (.block a) b p ha (by simp only[pz];omega)).bind λb p=>?_;have FP:NO ((aM [dU] b p).bind λb p=>(bJ n (.block bb) b p).bind λb p=>aM [cO] b p):=(NO.aM _ _ _).bind λb p=>(bR n (.block bb) b p hb (by simp only[pz];omega)).bind λb p=>NO.aM _ _ _;rcases cY hb with rfl|⟨x,l,rfl,h1,h2⟩
  .exact NO.aM _ _ _
  .rcases dr h1 with rfl|⟨k,nm,l1,r1,t1,a1,b1,rfl⟩
   .rcases cY h2 with rfl|⟨y,z,rfl,h3,h4⟩
    .exact FP
    .exact FP
   .rcases cY h2 with rfl|⟨y,z,rfl,h3,h4⟩
    .dsimp only;split
     .simp only[wf,and_eq_true]at h1;refine(NO.part _ _).bind λb p=>(NO.aM _ _ _).bind λb p=>bR n (.branch r1 a1 b1) b p ⟨h1.1.1.1.2,h1.1.2,h1.2⟩ (by simp only[pz,tz]at*;omega)
     .exact FP
    .exact FP
 |n+1,.expr e,b,p,hw,hn=>by
  simp only[pz]at hn;rcases bM hw with rfl|⟨k,nn,x,l,r,ks,dV,ps,body,rfl⟩
  .exact PR.noConfusion
  .simp only[bJ];have zv:wf (.ex k nn x l r ks dV ps body) 0=true:=hw;simp only[wf,and_eq_true]at zv;obtain⟨⟨⟨⟨⟨hi,hl⟩,hr⟩,lX⟩,has⟩,hb⟩:=zv;simp only[tz]at hn;rw[hi,tW hl,tW hr,cG 1 (.inl rfl) lX,cG 1 (.inl rfl) has];have xy:∀(t:Tr) a b p,wf t 0=true->8*tz t+1<n->NO (bJ n (.inner t a) b p):=λt a b p h1 h2=>bR n (.inner t a) b p h1 h2;have:=bE l;have:=bE r;have:=bE ks;have:=bE dV;have:=bE body
   have W8:∀b p,NO ((aM [[91]] b p).bind λb p=>(bJ n (.expr r) b p).bind λb p=>aM [[93]] b p):=λb p=>(NO.aM _ _ _).bind λb p=>(bR n (.expr r) b p hr (by simp only[pz];omega)).bind λb p=>NO.aM _ _ _;refine NO.ite (λ_=>PR.noConfusion) λ_=>?_;refine(NO.part _ _).bind λb p=>?_;simp only[Bool.and_self,if_true,Bool.and_true,Bool.true_eq_false,if_false];refine NO.ite (λ_=>NO.aM _ _ _) λ_=>?_;refine NO.ite (λ_=>NO.aM _ _ _) λ_=>?_;refine NO.ite (λ_=>NO.aM _ _ _) λ_=>?_;refine NO.ite (λ_=>NO.aM _ _ _) λ_=>?_;refine NO.ite (λ_=>NO.aM _ _ _) λ_=>?_;refine NO.ite (λ_=>NO.aM _ _ _) λ_=>?_;refine NO.ite (λ_=>?_) λ_=>?_
   .refine(xy l _ _ _ hl aj).bind λb p=>?_;split
    .split
     .exact(NO.part _ _).bind λb p=>NO.aM _ _ _
     .exact W8 _ _
    .exact W8 _ _
   refine NO.ite (λ_=>?_) λ_=>?_
   .exact(xy l _ _ _ hl aj).bind λb p=>(NO.aM _ _ _).bind λb p=>(bR n (.args dV true) b p has (by simp only[pz];omega)).bind λb p=>NO.aM _ _ _
   refine NO.ite (λ_=>?_) λ_=>?_
   .exact(NO.aM _ _ _).bind λb p=>bR n (.func ps body) b p hb (by simp only[pz];omega)
   refine NO.ite (λ_=>?_) λ_=>?_
   .exact(NO.aM _ _ _).bind λb p=>xy r _ _ _ hr aj
   refine NO.ite (λ_=>?_) λ_=>?_
   .exact(xy l _ _ _ hl aj).bind λb p=>(NO.aM _ _ _).bind λb p=>xy r _ _ _ hr aj
   refine NO.ite (λ_=>?_) λ_=>?_
   .rename_i he
    exact(NO.aM _ _ _).bind λb p=>(bR n (.items ks dV true) b p ⟨lX,has,he⟩ (by simp only[pz];omega)).bind λb p=>NO.aM _ _ _
   .exact PR.noConfusion
 |n+1,.stmt s,b,p,hw,hn=>by
  simp only[pz]at hn;rcases dr hw with rfl|⟨k,nm,l,r,t,a,bb,rfl⟩
  .exact PR.noConfusion
  .simp only[bJ];have zv:wf (.st k nm l r t a bb) 2=true:=hw;simp only[wf,and_eq_true]at zv;obtain⟨⟨⟨⟨hl,hr⟩,ht⟩,ha⟩,hb⟩:=zv;simp only[tz]at hn;have:=bE l;have:=bE r;have:=bE t;have:=bE a;have:=bE bb
   have hm:∀w e b p,wf e 0=true->8*tz e+1<n->NO (bJ n (.more w e) b p):=λw e b p h1 h2=>bR n (.more w e) b p h1 h2;have EE:∀w e b p,wf e 0=true->8*tz e+12<n->NO (bJ n (.more w (eg e)) b p):=by
    intro w e b p h1 h2;rcases bM h1 with rfl|⟨_,_,_,_,_,_,_,_,_,rfl⟩
    .cases n with
     |zero=>omega
     |succ n=>
      cases n with
      |zero=>omega
      |succ n=>
       simp only[bJ,eg,wQ];refine(NO.aM _ _ _).bind λb p=>?_;simp[NO]
    .exact bR n (.more w _) b p h1 (by simp only[pz,eg]at*;omega)
   have hx:∀e b p,wf e 0=true->8*tz e<n->NO (bJ n (.expr e) b p):=λe b p h1 h2=>bR n (.expr e) b p h1 h2;have hi:∀w e b p,wf e 3=true->8*tz e+3<n->NO (bJ n (.within w e) b p):=λw e b p h1 h2=>bR n (.within w e) b p h1 h2;refine NO.ite (λ_=>PR.noConfusion) λ_=>?_;refine(NO.part _ _).bind λb p=>?_;refine NO.ite (λ_=>?_) λ_=>?_
   .exact(NO.aM _ _ _).bind λb p=>hm _ _ _ _ hr aj
   refine NO.ite (λ_=>?_) λ_=>?_
   .exact(hx _ _ _ hl aj).bind λb p=>EE _ _ _ _ hr aj
   refine NO.ite (λ_=>?_) λ_=>?_
   .exact hx _ _ _ hr aj
   refine NO.ite (λ_=>?_) λ_=>?_
   .exact hi _ _ _ _ ha aj
   refine NO.ite (λ_=>?_) λ_=>?_
   .exact(EE _ _ _ _ hr aj).bind λb p=>hi _ _ _ _ ha aj
   refine NO.ite (λ_=>?_) λ_=>?_
   .exact(NO.aM _ _ _).bind λb p=>bR n (.branch r a bb) b p ⟨hr,ha,hb⟩ (by simp only[pz];omega)
   refine NO.ite (λ_=>?_) λ_=>?_
   .exact(NO.aM _ _ _).bind λb p=>(EE _ _ _ _ hr aj).bind λb p=>(EE _ _ _ _ ht aj).bind λb p=>hi _ _ _ _ ha aj
   refine NO.ite (λ_=>?_) λ_=>?_
   .exact(NO.aM _ _ _).bind λb p=>hm _ _ _ _ hr aj
   refine NO.ite (λ_=>NO.aM _ _ _) λ_=>?_;refine NO.ite (λ_=>?_) λ_=>?_
   .exact(NO.aM _ _ _).bind λb p=>(bR n (.block a) b p ha (by simp only[pz];omega)).bind λb p=>(NO.aM _ _ _).bind λb p=>hi _ _ _ _ hb aj
   .refine(NO.aM _ _ _).bind λb p=>?_;rcases bM hr with rfl|⟨k2,nn,x,l2,r2,ks,dV,ps,body,rfl⟩
    .exact PR.noConfusion
    .dsimp only;simp only[wf,and_eq_true]at hr;split
     .exact(NO.part _ _).bind λb p=>bR n (.func ps body) b p hr.2 (by simp only[pz,tz]at*;omega)
     .exact PR.noConfusion
theorem gn:∀t,tz t<=13*cn t+1
 |.nil|.hole=>by simp[tz,cn]
 |.cons a b=>by
  have:=gn a;have:=gn b
  simp only[tz,cn];omega
 |.ex _ _ _ l r ks dV _ b=>by
  have:=gn l;have:=gn r;have:=gn ks;have:=gn dV;have:=gn b
  simp only[tz,cn];omega
 |.st _ _ l r t a b=>by
  have:=gn l;have:=gn r;have:=gn t;have:=gn a;have:=gn b
  simp only[tz,cn];omega
theorem Ax{s:By}{t:Tok}{k:Nat}(h:lJ s=.tok t k):t.kind≠5/\i64 t.n=true:=by
 unfold lJ at h
 cases hn:gY (s.take (gC s bW))with
 |mk v e=>
  rw[hn]at h;dsimp only at h;split at h
  .cases h
  .split at h
   .rename_i h1 h2
    injection h with h3 h4;subst h3;refine⟨by simp,?_⟩;unfold gY at hn;split at hn
    .injection hn with h5 h6;omega
    .split at hn
     .injection hn with h5 h6;omega
     .injection hn with h5 h6;subst h5;simp only[i64,decide_eq_true_eq];omega
   .cases h
theorem Ay{s:By}{t:Tok}{k:Nat}(h:lI s=.tok t k):t.kind≠5/\i64 t.n=true:=by
 unfold lI at h
 cases hn:eH ((s.takeWhile (λc=>!(c==10))).drop 1) 1 with
 |none=>rw[hn]at h;cases h
 |some k'=>
  rw[hn]at h;dsimp only at h
  cases hu:gZ ((s.take k').drop 1)with
  |mk x e=>
   rw[hu]at h;dsimp only at h;split at h
   .injection h with h3 h4;subst h3;exact⟨by simp,by simp[i64]⟩
   .split at h<;>cases h
theorem xz{s:By}{t:Tok}{k:Nat}(h:eA s=.tok t k):t.kind≠5/\i64 t.n=true:=by
 unfold eA at h;split at h
 .split at h
  .cases h
  .injection h with h3 h4;subst h3;exact⟨by dsimp only;split<;>decide,by simp[i64]⟩
 split at h
 .exact Ax h
 split at h
 .exact Ay h
 split at h
 .injection h with h3 h4;subst h3;exact⟨by simp,by simp[i64]⟩
 split at h
 .injection h with h3 h4;subst h3;exact⟨by simp,by simp[i64]⟩
 .cases h
theorem jR:∀(n:Nat) (s:By) (line:Int) (ts:LT),dv n s line=.ok ts->TG ts/\ts.length<=n+1
 |0,s,line,ts,h=>by
  simp only[dv]at h;injection h with h;subst h;exact⟨rfl,by simp⟩
 |n+1,s,line,ts,h=>by
  simp only[dv]at h;have he:∀ts,LR.ok [iZ line]=.ok ts->TG ts/\ts.length<=n+1+1:=by
   intro ts h;injection h with h;subst h;exact⟨rfl,by simp⟩
  have hi:∀s l ts,dv n s l=.ok ts->TG ts/\ts.length<=n+1+1:=λs l ts h=>⟨(jR n s l ts h).1,Nat.le_succ_of_le (jR n s l ts h).2⟩;split at h
  .exact he _ h
  split at h
  .exact hi _ _ _ h
  split at h
  .exact hi _ _ _ h
  split at h
  .split at h
   .exact hi _ _ _ h
   .exact he _ h
  split at h
  .cases h
  .rename_i t k hw
   have hk:=xz hw
   cases hl:dv n (s.drop k) line with
   |fail c=>rw[hl]at h;cases h
   |ok us=>
    rw[hl]at h;have hu:=jR n _ _ _ hl;simp only[LR.cons]at h;injection h with h;subst h
    cases us with
    |nil=>exact hu.1.elim
    |cons u us=>exact⟨⟨hk.1,hk.2,hu.1⟩,by have:=hu.2;simp only[length_cons]at*;omega⟩
theorem tX{s:By}{ts:LT}(h:jL s=.ok ts):TG ts/\ts.length<=s.length+2/\s.length<=32768:=by
 unfold jL at h;split at h
 .cases h
 .have:=jR _ _ _ _ h;exact⟨this.1,by omega,by omega⟩
theorem qO{n:Nat}{ts:LT}(h:TG ts)(hn:8*ts.length+7<n):RG (λt _=>wf t 3=true/\cn t<=3*ts.length) (kG n ts):=by
 unfold kG;refine(aV n .block 0 ts h trivial hn).bind λt bX _ h1 hs=>?_
 cases(hd bX).kind==5 with
 |true=>exact⟨h1,hs.1,by have:=hs.2;omega⟩
 |false=>trivial
theorem mP{s:By}{n:Nat}(hn:8*s.length+23<n):RG (λt _=>wf t 3=true/\cn t<=3*(s.length+2)/\s.length<=32768) (dC n s):=by
 unfold dC
 cases h:jL s with
 |fail c=>trivial
 |ok ts=>
  obtain⟨h1,h2,h3⟩:=tX h;exact(qO h1 aj).imp λt bU _ ht=>⟨ht.1,by omega,h3⟩
end Go.Proofs.YtoddjlclpnoomaaGreatDoor
namespace Go.Proofs.YtoddjlclpnoomaaGreatDoor
open Go.Sh
def TX(w:Wd)(b:Nat)(buf:By)(parts:Nat):Prop:=
 ∃lo,BX lo w b [.int .i64 parts] buf/\GL w/\12<=b/\buf.length<=32768/\parts<=65536
theorem TX.ab{w:Wd}{b:Nat}{buf:By}{parts:Nat}(h:TX w b buf parts):∃ad v rest,At w b (ad::v::rest):=by
 obtain⟨lo,⟨ad,v,ab,_⟩,_⟩:=h;exact⟨ad,v,_,ab⟩
theorem TX.gl{w:Wd}{b:Nat}{buf:By}{parts:Nat}(h:TX w b buf parts):GL w:=by
 obtain⟨lo,_,g,_⟩:=h;exact g
theorem TX.len{w:Wd}{b:Nat}{buf:By}{parts:Nat}(h:TX w b buf parts):buf.length<=32768:=by
 obtain⟨lo,_,g,_,h1,h2⟩:=h;exact h1
theorem TX.vD{w:Wd}{b:Nat}{buf:By}{parts:Nat}(h:TX w b buf parts):parts<=65536:=by
 obtain⟨lo,_,g,_,h1,h2⟩:=h;exact h2
theorem BX.aA{lo:Nat}{w w':Wd}{b:Nat}{rest:LV}{buf:By}(h:BX lo w b rest buf)(hk:aD [] w w'):BX lo w' b rest buf:=by
 obtain⟨ad,v,ab,sx,hv,aI,hb,eQ⟩:=h;have z:=hk.size;refine⟨ad,v,hk.at ab ak,?_,hv.fr hk ak,aI,hb,by omega⟩;rcases sx with⟨h1,e,n,h2,h3⟩|h
 .refine .inl ⟨h1,e,n,?_,h3⟩;rw[←h2];unfold World.shape?;rw[hk.same b aj ak]
 .exact .inr h
theorem TX.aA{w w':Wd}{b:Nat}{buf:By}{parts:Nat}(h:TX w b buf parts)(hk:aD [] w w'):TX w' b buf parts:=by
 obtain⟨lo,h1,g,h2⟩:=h;exact⟨lo,h1.aA hk,g.new hk,h2⟩
def Oz(e:Int):List PanicEntry:=[{v:=.iface 49 (.agg #[.int .i64 e]),recovered:=false}]
theorem c20(w:Wd)(b:Bool)(e:Int):Calls prog 20 #[.bool b,.int .i64 e] w (aZ (λ_ w'=>b=true/\w'=w) (λc w'=>b=false/\c=Oz e/\w'=w)):=by
 refine Yq ?_;unfold VJ;refine V1.i ah ?_
 cases b with
 |true=>exact If.f ⟨rfl,rfl⟩
 |false=>
  refine If.t ?_;refine V1.i ah ?_;refine V1.i ah ?_;refine V1.p (by simp[go_sem];first|done|exact⟨rfl,rfl⟩) ?_;exact⟨rfl,rfl,rfl⟩
def cK(w:Wd)(b:Nat)(r:PR)(w':Wd):Prop:=match r with
 |.ok buf parts=>TX w' b buf parts/\KO b w w'
 |_=>False
def cJ(w:Wd)(b:Nat)(r:PR)(c:List PanicEntry)(w':Wd):Prop:=match r with
 |.fail e=>c=Oz e/\KO b w w'/\(∃ad v rest,At w' b (ad::v::rest))/\GL w'
 |_=>False
theorem KO.gl{b:Nat}{w w':Wd}{buf:By}{parts:Nat}(h:KO b w w')(ht:TX w b buf parts):GL w':=by
 obtain⟨lo,⟨ad,v,ab,sx,hv,aI,vq,eQ⟩,g,F3,_⟩:=ht;refine g.aA (h.2 ad v _ ab).1 λi hi=>?_;simp only[mem_cons,mem_toList,mem_def]at hi;rcases hi with hi|hi
 .omega
 .have:=(hv.lt hi).1;omega
theorem cK.out{w:Wd}{b:Nat}{r:PR}{w':Wd}(h:cK w b r w'):∃buf parts,r=.ok buf parts/\TX w' b buf parts/\KO b w w':=by
 cases r with
 |ok b p=>exact⟨b,p,rfl,h⟩
 |fail c=>exact h.elim
 |bH=>exact h.elim
theorem cJ.up{w0 w:Wd}{b:Nat}{r1 r:PR}{f:By->Nat->PR}{c:List PanicEntry}{w':Wd}{buf:By}{parts:Nat}(h:cJ w b r1 c w')(hr:r1.bind f=r)(hk:KO b w0 w)(ht:TX w b buf parts):cJ w0 b r c w':=by
 cases r1 with
 |fail e=>subst hr;exact⟨h.1,hk.trans h.2.1 ht.ab,h.2.2⟩
 |ok _ _=>exact h.elim
 |bH=>exact h.elim
theorem cK.pre{w0 w:Wd}{b:Nat}{r:PR}{w':Wd}{buf:By}{parts:Nat}(h:cK w b r w')(hk:KO b w0 w)(ht:TX w b buf parts):cK w0 b r w':=by
 cases r with
 |ok b p=>exact⟨h.1,hk.trans h.2 ht.ab⟩
 |fail c=>exact h.elim
 |bH=>exact h.elim
theorem cJ.pre{w0 w:Wd}{b:Nat}{r:PR}{c:List PanicEntry}{w':Wd}{buf:By}{parts:Nat}(h:cJ w b r c w')(hk:KO b w0 w)(ht:TX w b buf parts):cJ w0 b r c w':=by
 cases r with
 |fail e=>exact⟨h.1,hk.trans h.2.1 ht.ab,h.2.2⟩
 |ok _ _=>exact h.elim
 |bH=>exact h.elim
theorem PR.aL{r1 r:PR}{f:By->Nat->PR}(hr:r1.bind f=r)(aI:r≠.bH):r1≠.bH:=by
 rintro rfl;exact aI hr.symm
theorem PR.aJ{b:By}{p:Nat}{f:By->Nat->PR}:(PR.ok b p).bind f=f b p:=rfl
theorem fj{w:Wd}{b bs:Nat}{buf:By}{parts:Nat}{ss:LB}{r:PR}(h:TX w b buf parts)(hs:At w bs (ss.map str))(hf:FO b w bs)(hn:ss.length<=100)(hr:aM ss buf parts=r)(aI:r≠.bH):
  Calls prog 36 #[ptr b,strs bs ss.length] w (aZ (λ_=>cK w b r) (cJ w b r)):=by
 refine Yt ?_;unfold VO strs;refine V1.i ah ?_;refine L1.i (λv w'=>∃i buf parts,i<=ss.length/\v=.int .i64 (i:Nat)/\TX w' b buf parts/\At w' bs (ss.map str)/\FO b w' bs/\KO b w w'/\aM (ss.drop i) buf parts=r) (λv w'=>match v with|.int _ n=>(ss.length-n.toNat)|_=>0) ⟨0,buf,parts,by omega,rfl,h,hs,hf,KO.refl _ _,by simpa using hr⟩ ?_;clear h hs hf hr;rintro v w1 ⟨i,buf,parts,hi,rfl,h,hs,hf,kk,hr⟩;by_cases bO:i<ss.length
 .rw[drop_eq_getElem_cons bO]at hr;refine V1.bt ax ?_;refine If.t ?_;refine V1.i (lG _ bO) ?_;refine V1.load (aC rfl) hs (v:=str ss[i]) (by simp[bO]) ?_;generalize ss[i]=s at*;refine V1.i ah ?_;unfold ptr;refine Up.i (Nc.p _ _) ?_;refine V1.i ah ?_;have h':=h;obtain⟨lo,hb,g,F3,hlen,kL⟩:=h';refine Pp (Zi hb) ?_ (NP.no (e:=_));rintro _ w2 ⟨rfl,rfl⟩;refine V1.i (jK _ _ _ _ _ _ aj aj) ?_;refine V1.i (v:=.bool (decide (s.length+buf.length<=32768))) (w':=w2) ax ?_;simp only[aM,nv]at hr;refine gX (c20 w2 _ 3) ?_ ?_;rotate_left
  .rintro c w3 ⟨jS,rfl,rfl⟩;have:¬s.length+buf.length<=32768:=by simpa using jS
   rw[if_neg this]at hr;subst hr;exact⟨rfl,kk,h.ab,g⟩
  rintro _ w3 ⟨jS,rfl⟩;have hle:s.length+buf.length<=32768:=by simpa using jS
  rw[if_pos hle,PR.aJ]at hr;refine Up.i (Nc.p _ _) ?_;refine V1.i ah ?_;refine Hb (c70 hb s aj) ?_ (NP.no (e:=_));rintro _ w4 ⟨hb4,K4⟩;refine V1.i (cC _ _ _ _ _ _ aj aj) ?_;obtain⟨M,hM,hMF⟩:=K4.same h.ab (M:=[]);obtain⟨hm1,zW⟩:=hMF bs hf hs.lt;exact⟨⟨i+1,buf++s,parts,by omega,by simp,⟨lo,hb4,K4.gl h,F3,by simp;omega,kL⟩,hM.at hs hm1,zW,kk.trans K4 h.ab,hr⟩,by simp;omega⟩
 .have:i=ss.length:=by omega
  subst this;rw[List.drop_length]at hr;refine V1.bf am ?_;refine If.f ?_;subst hr;exact⟨h,kk⟩
end Go.Proofs.YtoddjlclpnoomaaGreatDoor

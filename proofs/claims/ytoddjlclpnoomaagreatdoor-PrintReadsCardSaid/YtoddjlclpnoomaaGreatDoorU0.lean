import Derived.Deep.Quiet
import Derived.OrdersHeld
import Derived.ScopeJumps
import Derived.WalkKit
import Derived.KernelRfl
set_option linter.unusedVariables false
set_option linter.unusedSimpArgs false
set_option maxRecDepth 100000
namespace Go
abbrev ER := Ending → World → Prop
abbrev VK := Value → World → Prop
abbrev EK := List PanicEntry → World → Prop
abbrev WP := World → Prop
abbrev LB := List (List UInt8)
abbrev By := List UInt8
abbrev LV := List Value
abbrev LD := List Deferred
abbrev AV := Array Value
abbrev Wd := World
abbrev Va := Value
theorem af {p:Prop}(h:p:=by simp<;>omega):p:=h
theorem ah {p:Prop}(h:p:=by simp[go_sem]<;>trivial):p:=h
theorem ai {p:Prop}(h:p:=by kernel_rfl):p:=h
theorem aj {p:Prop}(h:p:=by omega):p:=h
theorem ak {p:Prop}(h:p:=by simp):p:=h
theorem al {p:Prop}(h:p:=by simp;omega):p:=h
theorem am {p:Prop}(h:p:=by simp[go_sem]):p:=h
theorem au {p:Prop}(h:p:=by assumption):p:=h
theorem aw {p:Prop}(h:p:=by simp[go_sem];first|done|rfl|exact⟨rfl,rfl⟩):p:=h
theorem ax {p:Prop}(h:p:=by simp[go_sem];omega):p:=h
theorem ay {p:Prop}(h:p:=by decide):p:=h
theorem az {p:Prop}(h:p:=by intro h;cases h):p:=h
end Go
open Go.Instr (alloc box loadAt storeAt sliceAt fieldAt field indexAt mapUpdate typeAssert extract)
open List (mem_append all_eq_true mem_cons_of_mem mem_append_left mem_cons_self mem_cons cons_append map_cons mem_filter)
open Nat (beq blt)
open Go.Builtin (append_ len_ min_)
open Bool (and_eq_true not_eq_true')
namespace Go.Sh
abbrev Env:=List (Nat×Va)
def Env.has(ρ:Env)(t:Nat):Bool:=(List.lookup t ρ).isSome
def Env.at(ρ:Env)(t:Nat):Va:=(List.lookup t ρ).getD undef
def Env.ev(ρ:Env):Operand->Va
 |.tmp t=>ρ.at t
 |.const v=>v
 |.global g=>.pointer (some ⟨g,0,none⟩)
 |.func f=>.func (.func f) #[] #[]
def Env.jD(ρ:Env):Operand->Bool
 |.tmp t=>ρ.has t
 |_=>true
structure Dm where
 D:Type
 get:D->LD
 back:LD->D
 push:Option (Deferred->D->D)
 pQ:∀d,back (get d)=d
 vK:∀f,push=some f->∀x d,get (f x d)=x::get d
def Dm.no:Dm:=⟨Unit,λ_=>[],λ_=>(),none,λ_=>rfl,λ_ h=>by cases h⟩
def Dm.yes:Dm:=⟨LD,id,id,some List.cons,λ_=>rfl,λf h x d=>by cases h;rfl⟩
inductive nk where
 |now (v:Va)
 |val (s:Sem Va)
 |unit (s:Sem Unit)
 |iG (s:Sem Next)
 |call (k:FuncId) (args:AV)
 |FD (s:Sem Deferred)
def nk.dB:nk->Sem Next
 |.now v=>pure (.value v)
 |.val s=>do pure (.value (←s))
 |.unit s=>do s;pure .skip
 |.iG s=>s
 |.call k args=>callFunc k args
 |.FD s=>do pure (.defer (←s))
def Bo(op:BinOp)(t:TypeId)(cx cy:Bool)(a b:Va):Sem Va:=do
 eqGuard op t (if cx then .const undef else .tmp 0) (if cy then .const undef else .tmp 0) a b;binOp op t a b
def Nc(v:Va):Sem Next:=execOp (λ_=>v) {dst:=none,op:=.nilCheck (.tmp 0),type:=0,pos:= "",after:=#[],guard:=none}
def Pk(c a b:Va):Sem Va:=do pure (if←asBool c then a else b)
def Cv(f:Va)(args:AV):Sem Next:=do let d←Deferred.ofValue f args;invoke d.target d.args
def NX:Operand->Bool|.const _=>true|_=>false
def rE(ev:Operand->Va)(l:Array Operand):AV:=(l.toList.map ev).toArray
def NY(ev:Operand->Va)(l:Array (Nat×Operand)):Array (Nat×Va):=(l.toList.map λp=>(p.1,ev p.2)).toArray
def nD(ev:Operand->Va)(o:Oper):nk:=
 match o.op with
 |.move x|.assign x=>.now (ev x)
 |.pick c a b=>.val (Pk (ev c) (ev a) (ev b))
 |.alloc t=>.val (alloc t true (.tuple #[]))
 |.box t x=>.val (box t (ev x))
 |.build t ps=>.val (Instr.build t (NY ev ps))
 |.buildSlice t n ps=>.val (Instr.buildSlice t n (NY ev ps))
 |.load t a=>.val (loadAt t (ev a))
 |.store t a x=>.unit (storeAt t (ev a) (ev x))
 |.nilCheck x=>.iG (Nc (ev x))
 |.binOp op t x y _=>.val (Bo op t (NX x) (NX y) (ev x) (ev y))
 |.unOp op _ x=>.val (Op.unary op (ev x))
 |.convert s t x=>.val (Go.convert s t (ev x))
 |.makeInterface t x=>.val (Instr.makeInterface t (ev x))
 |.makeFunc f a c=>.val (Instr.makeFunc f (rE ev a) (rE ev c))
 |.makeMap t none=>.val (Instr.makeMap t none)
 |.makeSlice t l c=>.val (Instr.makeSlice t (ev l) (ev c))
 |.slice t x lo hi none=>.val (sliceAt t (ev x) (lo.map ev) (hi.map ev) none)
 |.fieldAddr s x f=>.val (fieldAt s (ev x) f)
 |.field t x f=>.val (field t (ev x) f)
 |.indexAddr t x i=>.val (indexAt t (ev x) (ev i))
 |.index t x i=>.val (Instr.index t (ev x) (ev i))
 |.lookup t x i ok=>.val (Instr.lookup t (ev x) (ev i) ok)
 |.mapUpdate t m k x|.insert t m k x=>.unit (mapUpdate t (ev m) (ev k) (ev x))
 |.range t x=>.val (Instr.range t (ev x))
 |.next it s=>.val (Instr.next (ev it) s o.type)
 |.entry it=>.val (Instr.entry (ev it))
 |.typeAssert x t u ok=>.val (typeAssert (ev x) t u ok)
 |.extract t i=>.val (extract (ev t) i)
 |.panic x=>.val (Instr.panic (ev x))
 |.call {callee:=.value (.func k),args,..}=>.call k (rE ev args)
 |.call {callee:=.value f,args,..}=>.iG (Cv (ev f) (rE ev args))
 |.call {callee:=.invoke r name,args,..}=>.iG (invoke (.fn (.method name) #[]) (#[ev r]++rE ev args))
 |.call {callee:=.builtin .append,args,argTypes}=>.val (append_ argTypes o.type (rE ev args))
 |.call {callee:=.builtin .len,args,argTypes}=>.val (len_ argTypes o.type (rE ev args))
 |.call {callee:=.builtin .cap,args,argTypes}=>.val (Builtin.cap_ argTypes o.type (rE ev args))
 |.call {callee:=.builtin .min,args,argTypes}=>.val (min_ argTypes o.type (rE ev args))
 |.call {callee:=.builtin .max,args,argTypes}=>.val (Builtin.max_ argTypes o.type (rE ev args))
 |.call {callee:=.builtin .copy,args,argTypes}=>.val (Builtin.copy_ argTypes o.type (rE ev args))
 |.call {callee:=.builtin .unsafeSliceData,args,argTypes}=>.val (Builtin.unsafeSliceData_ argTypes o.type (rE ev args))
 |.call {callee:=.builtin .unsafeString,args,argTypes}=>.val (Builtin.unsafeString_ argTypes o.type (rE ev args))
 |.defer {callee:=.value f,args,..}=>.FD (Deferred.ofValue (ev f) (rE ev args))
 |_=>.iG (execOp ev o)
theorem kh(ev:Operand->Va)(l:Array Operand):rE ev l=l.map ev:=by
 simp[rE,←Array.toList_map]
theorem vL(ev:Operand->Va)(l:Array (Nat×Operand)):NY ev l=l.map fun(i,x)=>(i,ev x):=by
 simp[NY,←Array.toList_map]
theorem np(op:BinOp)(t:TypeId)(x y:Operand)(a b:Va):
  eqGuard op t x y a b=eqGuard op t (if NX x then .const undef else .tmp 0) (if NX y then .const undef else .tmp 0) a b:=by
 unfold eqGuard
 cases x<;>cases y<;>rfl
theorem rS(ev:Operand->Va)(NZ:∀k,ev (.func k)=.func (.func k) #[] #[])(o:Oper):execOp ev o=(nD ev o).dB:=by
 obtain⟨dst,op,type,pos,after,guard⟩:=o
 cases op with
 |move x=>rfl
 |assign x=>rfl
 |pick c a b=>simp only[execOp,nD,nk.dB,Pk];unfold asBool;cases ev c<;>rfl
 |build t ps=>simp only[execOp,nD,nk.dB,vL]
 |buildSlice t n ps=>simp only[execOp,nD,nk.dB,vL]
 |binOp op t x y u=>simp only[execOp,nD,nk.dB,Bo];rw[np op t x y]
 |makeFunc f a c=>simp only[execOp,nD,nk.dB,kh]
 |makeMap t r=>cases r<;>rfl
 |slice t x lo hi mx=>cases mx<;>rfl
 |call c=>
  obtain⟨callee,args,X4⟩:=c
  cases callee with
  |value f=>
   cases f with
   |func k=>
    simp only[execOp,nD,nk.dB,resolve,NZ,kh];show callFunc k (#[]++args.map ev++#[])=_
    simp
   |_=>simp only[execOp,nD,nk.dB,resolve,kh,Cv]
  |invoke r name=>simp only[execOp,nD,nk.dB,resolve,kh];rfl
  |builtin b=>cases b<;>first|rfl|(simp only[execOp,nD,nk.dB,resolve,kh];rfl)
 |defer c=>
  obtain⟨callee,args,X4⟩:=c
  cases callee with
  |value f=>simp only[execOp,nD,nk.dB,resolve,kh]
  |_=>rfl
 |_=>rfl
section
variable (P:Program)
def V1(s:Sem Va)(w:Wd)(k:VK)(e:EK):Prop:=
 match s.run P w with
 |.ok v w'=>k v w'
 |.halt (.panic v) w'=>e [{v,recovered:=false}] w'
 |_=>False
def U1(s:Sem Unit)(w:Wd)(k:WP)(e:EK):Prop:=
 match s.run P w with
 |.ok _ w'=>k w'
 |.halt (.panic v) w'=>e [{v,recovered:=false}] w'
 |_=>False
def D1(s:Sem Deferred)(w:Wd)(k:Deferred->WP)(e:EK):Prop:=
 match s.run P w with
 |.ok v w'=>k v w'
 |.halt (.panic v) w'=>e [{v,recovered:=false}] w'
 |_=>False
def aZ(k:VK)(e:EK):ER
 |.returned v,w=>k v w
 |.panicked c,w=>e c w
 |.outgrown,_=>False
def Up(s:Sem Next)(w:Wd)(k:VK)(e:EK):Prop:=
 match s.run P w with
 |.ok (.value v) w'=>k v w'
 |.ok .skip w'=>k undef w'
 |.ok (.enter f args) w'=>Calls P f args w' (aZ k e)
 |.halt (.panic v) w'=>e [{v,recovered:=false}] w'
 |_=>False
def Cf(f:FuncId)(args:AV)(w:Wd)(k:VK)(e:EK):Prop:=
 Up P (callFunc f args) w k e
end
def If(v:Va)(x y:Prop):Prop:=match v with
 |.bool b=>(b=true->x)/\(b=false->y)
 |_=>False
def Gd(v:Va)(b:Bool)(x y:Prop):Prop:=match v with
 |.bool c=>(c=b->x)/\(c=!b->y)
 |_=>y
def Jn{D:Type}(f:(LV->D->WP)->Prop)(g:LV->D->WP):Prop:=
 ∃K:LV->D->WP,(∀l d w,K l d w->g l d w)/\f K
def Jp(f:(LV->Prop)->Prop)(g:LV->Prop):Prop:=∃K:LV->Prop,(∀l,K l->g l)/\f K
def Lp{D:Type}(l:LV)(d:D)(w:Wd)(f:(LV->D->WP)->LV->D->WP):Prop:=
 ∃(I:LV->D->WP) (μ:LV->D->Wd->Nat),I l d w/\
  ∀l d w,I l d w->f (λl' d' w'=>I l' d' w'/\μ l' d' w'<μ l d w) l d w
def Sp{D:Type}(f:(LV->D->WP)->Prop)(g:(LV->D->WP)->LV->D->WP):Prop:=
 ∃(J:LV->D->WP) (μ:LV->D->Wd->Nat),f J/\
  ∀l d w,J l d w->g (λl' d' w'=>J l' d' w'/\μ l' d' w'<μ l d w) l d w
def yQ:Op->List Operand
 |.alloc _|.ready _|.waits _=>[]
 |.move x|.assign x|.box _ x|.load _ x|.nilCheck x|.unOp _ _ x|.convert _ _ x|.sliceToArrayPointer _ x|.makeInterface _ x
 |.makeChan _ x|.fieldAddr _ x _|.field _ x _|.range _ x|.next x _|.entry x|.typeAssert x _ _ _|.extract x _|.panic x|.recv _ x _=>[x]
 |.pick c a b=>[c,a,b]
 |.build _ ps|.buildSlice _ _ ps=>ps.toList.map (·.2)
 |.store _ a v|.binOp _ _ a v _|.makeSlice _ a v|.indexAddr _ a v|.index _ a v|.lookup _ a v _|.mapEntry _ a v|.send a v=>[a,v]
 |.makeFunc _ first captured=>first.toList++captured.toList
 |.makeMap _ r=>r.toList
 |.slice _ x l h m=>x::(l.toList++h.toList++m.toList)
 |.mapUpdate _ m k v|.entryStore _ m k v|.insert _ m k v=>[m,k,v]
 |.call c|.go c|.defer c=>(match c.callee with|.value f=>[f]|.invoke r _=>[r]|.builtin _=>[])++c.args.toList
 |.select ..=>[]
theorem pR{op:Op}(hs:∀cs b,op≠.select cs b){x:Operand}(h:x∈op.operands):x∈yQ op:=by
 cases op<;>simp only[Op.operands,yQ,Call.operands]at h⊢
 case select cs b=>exact absurd rfl (hs cs b)
 case call c=>cases hc:c.callee<;>simp[hc]at h⊢<;>exact h
 case go c=>cases hc:c.callee<;>simp[hc]at h⊢<;>exact h
 case defer c=>cases hc:c.callee<;>simp[hc]at h⊢<;>exact h
 case slice t x l hh m=>cases l<;>cases hh<;>cases m<;>simpa using h
 all_goals(first|exact h|(simp at h;done)|simpa using h)
def tm:Operand->List Nat|.tmp t=>[t]|_=>[]
def zk(o:Oper):List Nat:=(yQ o.op).flatMap tm
def bQ(l:List Oper):List Nat:=l.filterMap (·.dst)
def Gf:List Oper->List Nat->List Nat
 |[],_=>[]
 |o::l,done=>(zk o).filter (λt=>!done.contains t)++Gf l (o.dst.toList++done)
def leaves:Code->Bool
 |.exit _|.goto _|.ret=>true
 |.seq a b=>leaves a||leaves b
 |.cond _ a b=>leaves a||leaves b
 |.block _ a|.loop a|.scope a=>leaves a
 |_=>false
def wr:Code->List Nat
 |.region _ ops _=>bQ ops.toList
 |.seq a b|.cond _ a b=>wr a++wr b
 |.block _ a|.loop a|.scope a=>wr a
 |_=>[]
def da:Code->List Nat
 |.region _ ops _=>bQ ops.toList
 |.seq a b=>da a++da b
 |.cond _ a b=>match leaves a,leaves b with
  |true,true=>[]|true,false=>da b|false,true=>da a
  |false,false=>(da a).filter (da b).contains
 |_=>[]
def vM(rs:List Nat):Code->List Nat
 |.region _ ops _=>Gf ops.toList []
 |.seq a b=>vM rs a++(vM rs b).filter (λt=>!(da a).contains t)
 |.cond c a b=>tm c++vM rs a++vM rs b
 |.block _ a|.loop a|.scope a=>vM rs a
 |.ret=>rs
 |_=>[]
def live(rs:List Nat)(c:Code)(lv:List Nat):List Nat:=
 vM rs c++(match leaves c with|true=>lv|false=>lv.filter (λt=>!(da c).contains t))
def ends:Code->Nat
 |.skip|.region ..|.label _=>1
 |.seq a b=>match ends a with|0=>0|_=>ends b
 |.cond _ a b=>ends a+ends b
 |.block id a=>ends a+tg id a
 |.scope a=>ends a
 |_=>0
where tg (id:Nat):Code->Nat
 |.exit j=>match beq j id with|true=>1|false=>0
 |.seq a b|.cond _ a b=>tg id a+tg id b
 |.block _ a|.loop a|.scope a=>tg id a
 |_=>0
def Bm(c:Code):Bool:=Nat.ble 2 (ends c)
def label?:Code->Option Nat
 |.label l=>some l
 |.seq a b=>(label? a).orElse λ_=>label? b
 |_=>none
def kR:List Nat->List Nat
 |[]=>[]
 |a::l=>match l.contains a with|true=>kR l|false=>a::kR l
def jE:List Nat->LV->Env
 |[],_=>[]
 |s::ss,l=>(s,l.headD undef)::jE ss l.tail
def gp(ρ:Env)(W outs:List Nat)(l:LV):Env:=jE outs l++ρ.filter (λp=>!W.contains p.1)
def Gg:Env->(Env->Prop)->Prop
 |[],k=>k []
 |p::l,k=>Gg l λl'=>k (p::l')
theorem ov:∀(l:Env) (k:Env->Prop),Gg l k=k l
 |[],_=>rfl
 |p::l,k=>ov l λl'=>k (p::l')
structure Ks(M:Dm) where
 iG:Env->M.D->WP
 ext:Nat->Env->M.D->WP
 rF:Nat->Env->M.D->WP
 ret:Env->M.D->WP
 pH:List PanicEntry->Env->M.D->WP
def iu(n:Nat)(ρ:Env)(dst:Option Nat)(v:Va)(k:Env->Prop):Prop:=
 match dst with
 |some d=>cond (blt d n) (k ((d,v)::ρ)) False
 |none=>k ρ
def iH(ρ:Env)(outs:List Nat)(k:LV->Prop):Prop:=cond (outs.all ρ.has) (k (outs.map ρ.at)) False
section
variable (P:Program) (M:Dm) (n:Nat)
def nE(s:nk)(dst:Option Nat)(ρ:Env)(d:M.D)(w:Wd)(k:Env->M.D->WP)(e:List PanicEntry->Env->M.D->WP):Prop:=
 match s with
 |.now v=>iu n ρ dst v λρ=>k ρ d w
 |.val s=>V1 P s w (λv w=>iu n ρ dst v λρ=>k ρ d w) (λc w=>e c ρ d w)
 |.unit s=>U1 P s w (λw=>iu n ρ dst undef λρ=>k ρ d w) (λc w=>e c ρ d w)
 |.iG s=>Up P s w (λv w=>iu n ρ dst v λρ=>k ρ d w) (λc w=>e c ρ d w)
 |.call f args=>Cf P f args w (λv w=>iu n ρ dst v λρ=>k ρ d w) (λc w=>e c ρ d w)
 |.FD s=>match M.push with
  |none=>False
  |some f=>D1 P s w (λx w=>iu n ρ dst undef λρ=>k ρ (f x d) w) (λc w=>e c ρ d w)
def cT:Op->Bool|.select ..=>true|_=>false
def pS(o:Oper)(ρ:Env)(d:M.D)(w:Wd)(k:Env->M.D->WP)(e:List PanicEntry->Env->M.D->WP):Prop:=
 cond (!cT o.op&&(yQ o.op).all ρ.jD) (nE P M n (nD ρ.ev o) o.dst ρ d w k e) False
def th:List Oper->Env->M.D->Wd->(Env->M.D->WP)->(List PanicEntry->Env->M.D->WP)->Prop
 |[],ρ,d,w,k,_=>k ρ d w
 |o::l,ρ,d,w,k,e=>pS P M n o ρ d w (λρ d w=>th l ρ d w k e) e
end
abbrev Bn:=Option (Nat×Bool)×List Oper
def nF(g h:Option (Nat×Bool)):Bool:=match g,h with
 |none,none=>true
 |some (i,a),some (j,b)=>beq i j&&(a==b)
 |_,_=>false
def gS:List Oper->List Bn
 |[]=>[]
 |o::l=>match gS l with
  |(g,os)::gs=>match nF o.guard g with|true=>(g,o::os)::gs|false=>(o.guard,[o])::(g,os)::gs
  |[]=>[(o.guard,[o])]
def rG:List Bn->List Nat
 |[]=>[]
 |(g,os)::gs=>os.flatMap zk++rG gs
def nq(ops:List Oper)(j:Nat):Option Nat:=(ops[j]?).bind (·.dst)
def dt(ops:List Oper):List Bn->List Nat
 |[]=>[]
 |(g,_)::gs=>(match g with|some (j,_)=>(nq ops j).toList|none=>[])++dt ops gs
section
variable (P:Program) (M:Dm) (n:Nat)
def vN(ops:List Oper)(lv:List Nat):List Bn->Env->M.D->Wd->(Env->M.D->WP)->(List PanicEntry->Env->M.D->WP)->Prop
 |[],ρ,d,w,k,_=>k ρ d w
 |(none,os)::gs,ρ,d,w,k,e=>th P M n os ρ d w (λρ d w=>vN ops lv gs ρ d w k e) e
 |(some (j,b),os)::gs,ρ,d,w,k,e=>
  match nq ops j with
  |none=>False
  |some t=>
   cond (ρ.has t&&!(bQ os).contains t&&(bQ os).all (λs=>blt s n))
    (Jn (λK=>Gd (ρ.at t) b (th P M n os ρ d w (λρ' d' w'=>iH ρ' (kR ((bQ os).filter (rG gs++dt ops gs++lv).contains)) λl=>K l d' w') e)
       (K ((kR ((bQ os).filter (rG gs++dt ops gs++lv).contains)).map λ_=>undef) d w))
      (λl d' w'=>Gg (gp ρ (bQ os) (kR ((bQ os).filter (rG gs++dt ops gs++lv).contains)) l) λρ=>vN ops lv gs ρ d' w' k e))
    False
end
def Xq(P:Program)(C:WP)(s:Sem Next)(k:Va->Prop):Prop:=
 ∃v,(∀w,C w->Oper.quietUpon P C w v (s.run P w))/\k v
section
variable (P:Program) (n:Nat) (C:WP)
def vO(o:Oper)(ρ:Env)(k:Env->Prop):Prop:=
  cond (!cT o.op&&(yQ o.op).all ρ.jD)
    (match nD ρ.ev o with
     |.now v=>iu n ρ o.dst v k
     |s=>Xq P C s.dB λv=>iu n ρ o.dst v k) False
def ox:List Oper->Env->(Env->Prop)->Prop
 |[],ρ,k=>k ρ
 |o::l,ρ,k=>vO P n C o ρ λρ=>ox l ρ k
def vP(ops:List Oper)(lv:List Nat):List Bn->Env->(Env->Prop)->Prop
 |[],ρ,k=>k ρ
 |(none,os)::gs,ρ,k=>ox P n C os ρ λρ=>vP ops lv gs ρ k
 |(some (j,b),os)::gs,ρ,k=>
  match nq ops j with
  |none=>False
  |some t=>
   cond (ρ.has t&&!(bQ os).contains t&&(bQ os).all (λs=>blt s n))
    (Jp (λK=>Gd (ρ.at t) b (ox P n C os ρ λρ'=>iH ρ' (kR ((bQ os).filter (rG gs++dt ops gs++lv).contains)) K)
       (K ((kR ((bQ os).filter (rG gs++dt ops gs++lv).contains)).map λ_=>undef)))
      (λl=>Gg (gp ρ (bQ os) (kR ((bQ os).filter (rG gs++dt ops gs++lv).contains)) l) λρ=>vP ops lv gs ρ k))
    False
end
def zl:Op->Bool
 |.move _|.assign _|.pick ..|.build ..|.convert ..|.load ..|.nilCheck _|.binOp ..|.unOp ..|.makeInterface ..|.makeFunc ..|.slice ..|.fieldAddr ..
 |.field ..|.indexAddr ..|.index ..|.lookup ..|.typeAssert ..|.extract ..|.entry _=>true
 |.call {callee:=.builtin .len,..}|.call {callee:=.builtin .cap,..}|.call {callee:=.builtin .min,..}|.call {callee:=.builtin .max,..}=>true
 |_=>false
def dH:Op->Bool
 |.load ..|.lookup ..|.entry _|.makeInterface ..|.typeAssert ..=>true
 |.call {callee:=.builtin .len,..}=>true
 |_=>false
def eE(ps:List Nat)(o:Oper):Bool:=zl o.op&&o.dst.toList.all λt=>!ps.contains t
def yR(e:Edge):Bool:=Region.binds .any e
def oy:List Oper->List (List Nat)->List (List Nat)
 |[],acc=>acc
 |o::l,acc=>oy l (acc++[kR ((o.after.toList.filter yR).flatMap λe=>e.on::acc.getD e.on [])])
def Gh(ops:List Oper)(j i:Nat):Bool:=((oy ops []).getD j []).contains i
def pT(ops:List Oper)(j:Nat):Bool:=
 (List.range ops.length).any λi=>!Nat.beq i j&&(match ops[i]? with|some o=>dH o.op|none=>false)&&!Gh ops j i
def vo(ops:List Oper)(done:List Nat):List Nat:=
 (List.range ops.length).filter λi=>!done.contains i&&(match ops[i]? with|some o=>o.after.toList.all λe=>!yR e||done.contains e.on|none=>false)
def order(ps:List Nat)(ops:List Oper):Nat->List Nat->List Nat
 |0,_=>[]
 |f+1,done=>
  let r:=vo ops done
  match r.find? (λi=>match ops[i]? with|some o=>eE ps o|none=>false)with
  |some i=>i::order ps ops f (i::done)
  |none=>match r with
   |[]=>[]
   |i::_=>i::order ps ops f (i::done)
def Xs(P:Program)(S:WP)(s:Sem Next)(k:Va->Prop):Prop:=∃v,(∀w,S w->s.run P w=.ok (.value v) w)/\k v
section
variable (P:Program) (M:Dm) (n:Nat) (S:WP)
def Bp(ps:List Nat)(ops:List Oper)(i:Nat)(o:Oper)(ρ:Env)(d:M.D)(w:Wd)(k:Env->M.D->WP)(e:List PanicEntry->Env->M.D->WP):Prop:=
  match eE ps o with
  |true=>cond ((yQ o.op).all ρ.jD) (match nD ρ.ev o with
     |.now v=>iu n ρ o.dst v λρ=>k ρ d w
     |s=>match dH o.op with
       |true=>Xs P S s.dB λv=>iu n ρ o.dst v λρ=>k ρ d w
       |false=>Xs P (λ_=>True) s.dB λv=>iu n ρ o.dst v λρ=>k ρ d w) False
  |false=>match pT ops i with
    |true=>pS P M n o ρ d w (λρ d w=>S w/\k ρ d w) e
    |false=>pS P M n o ρ d w k e
def jf(ps:List Nat)(ops:List Oper)(i:Nat)(o:Oper)(sk:Bool):Bool:=match eE ps o with|true=>sk|false=>pT ops i
def gT(ps:List Nat)(ops:List Oper):List Nat->Bool->Env->M.D->Wd->(Env->M.D->WP)->(List PanicEntry->Env->M.D->WP)->Prop
 |[],_,ρ,d,w,k,_=>k ρ d w
 |i::l,sk,ρ,d,w,k,e=>match ops[i]? with
  |none=>False
  |some o=>cond (sk||!dH o.op) (Bp P M n S ps ops i o ρ d w (λρ d w=>gT ps ops l (jf ps ops i o sk) ρ d w k e) e) False
def FE(ps:List Nat)(ops:List Oper):List Nat->Bool->Bool
 |[],sk=>sk
 |i::l,sk=>match ops[i]? with
  |none=>false
  |some o=>FE ps ops l (jf ps ops i o sk)
end
abbrev zm:=Option (Nat×Bool)×List Nat
def fZ(ops:List Oper):List Nat->List zm
 |[]=>[]
 |i::l=>match ops[i]? with
  |none=>[]
  |some o=>match fZ ops l with
   |(g,is)::gs=>match nF o.guard g with|true=>(g,i::is)::gs|false=>(o.guard,[i])::(g,is)::gs
   |[]=>[(o.guard,[i])]
def cL(ops:List Oper)(l:List Nat):List Oper:=l.filterMap λi=>ops[i]?
def yS(ops:List Oper)(gs:List zm):List Bn:=gs.map λg=>(g.1,cL ops g.2)
section
variable (P:Program) (M:Dm) (n:Nat) (S:WP)
def vQ(ps:List Nat)(ops:List Oper)(lv:List Nat):List zm->Bool->Env->M.D->Wd->(Env->M.D->WP)->(List PanicEntry->Env->M.D->WP)->Prop
 |[],_,ρ,d,w,k,_=>k ρ d w
 |(none,is)::gs,sk,ρ,d,w,k,e=>gT P M n S ps ops is sk ρ d w (λρ d w=>vQ ps ops lv gs (FE ps ops is sk) ρ d w k e) e
 |(some (j,b),is)::gs,sk,ρ,d,w,k,e=>
  match nq ops j with
  |none=>False
  |some t=>
   cond (ρ.has t&&!(bQ (cL ops is)).contains t&&(bQ (cL ops is)).all (λs=>blt s n)&&(sk||is.all λi=>(match ops[i]? with|some o=>!dH o.op&&(eE ps o||!pT ops i)|none=>false)))
    (Jn (λK=>Gd (ρ.at t) b (gT P M n S ps ops is sk ρ d w (λρ' d' w'=>iH ρ' (kR ((bQ (cL ops is)).filter (rG (yS ops gs)++dt ops (yS ops gs)++lv).contains)) λl=>K l d' w') e)
       (K ((kR ((bQ (cL ops is)).filter (rG (yS ops gs)++dt ops (yS ops gs)++lv).contains)).map λ_=>undef) d w))
      (λl d' w'=>Gg (gp ρ (bQ (cL ops is)) (kR ((bQ (cL ops is)).filter (rG (yS ops gs)++dt ops (yS ops gs)++lv).contains)) l) λρ=>vQ ps ops lv gs (sk&&FE ps ops is sk) ρ d' w' k e))
    False
end
def gu(ops:List Oper)(o:Oper):List Nat:=zk o++(match o.guard with|some (g,_)=>(nq ops g).toList|none=>[])
def oz(ops:List Oper)(x y:Oper):Bool:=
 !cT x.op&&!cT y.op&&(match x.dst with|some d=>!(gu ops y).contains d&&!(y.dst.toList.contains d)|none=>true)&&(match y.dst with|some d=>!(gu ops x).contains d|none=>true)
def tj(rs:List Nat)(ops:List Oper)(done:List Nat)(i:Nat)(o:Oper):Bool:=
 (o.dst.toList.all λt=>!rs.contains t)&&(List.range ops.length).all λj=>beq j i||done.contains j||(match ops[j]? with
  |some oj=>(oj.after.toList.any λe=>yR e&&beq e.on i)||oz ops o oj
  |none=>true)
def dY(rs:List Nat)(ops:List Oper):List Nat->List Nat->Bool
  |[],done=>match vo ops done with|[]=>true|_=>false
  |i::l,done=>match ops[i]? with
    |none=>false
    |some o=>(vo ops done).contains i&&!cT o.op&&
      (match eE rs o with
       |true=>tj rs ops done i o
       |false=>match vo ops done with|[_]=>true|_=>false)&&
      dY rs ops l (i::done)
abbrev Row:=List Nat×List Nat×List Nat
def rowOf(ops:List Oper)(o:Oper):Row:=(o.dst.toList,gu ops o,(o.after.toList.filter yR).map (·.on))
def vR:List Nat->(List Nat->Bool)->Bool
 |[],k=>k []
 |p::l,k=>vR l λl'=>k (p::l')
def zn:List Row->(List Row->Bool)->Bool
 |[],k=>k []
 |r::l,k=>vR r.1 λa=>vR r.2.1 λb=>vR r.2.2 λc=>zn l λl'=>k ((a,b,c)::l')
def rT(d:Nat):List Nat->Bool
 |[]=>false
 |a::l=>match beq d a with|true=>true|false=>rT d l
def meet:List Nat->List Nat->Bool
 |[],_=>false
 |a::l,m=>match rT a m with|true=>true|false=>meet l m
def Oa(r s:Row):Bool:=match meet r.1 s.2.1 with|true=>false|false=>match meet r.1 s.1 with|true=>false|false=>!meet s.1 r.2.1
def pU(k:Nat)(r:Row):List Row->Bool
 |[]=>true
 |s::l=>match rT k s.2.2 with|true=>pU k r l|false=>match Oa r s with|true=>pU k r l|false=>false
def tq(k:Nat):List Nat->Bool
 |[]=>true
 |a::l=>match blt a k with|true=>tq k l|false=>false
def zo:Nat->List Row->Bool
 |_,[]=>true
 |k,r::l=>match tq k r.2.2 with|false=>false|true=>match pU k r l with|false=>false|true=>zo (k+1) l
def CY(ops:List Oper):Bool:=match ops.all (λo=>!cT o.op)with|false=>false|true=>zn (ops.map (rowOf ops)) (zo 0)
section
variable (P:Program) (M:Dm) (n:Nat) (hd:List Nat)
def CZ(rs:List Nat)(id:Nat)(ops:List Oper)(draw:Bool)(lv:List Nat)(ρ:Env)(d:M.D)(w:Wd)(k:Env->M.D->WP)(e:List PanicEntry->Env->M.D->WP):Prop:=
 match draw with
 |false=>vN P M n ops lv (gS ops) ρ d w k e
 |true=>match hd.contains id with
  |false=>cond (CY ops) (∃C:WP,C w.drew/\vP P n C ops lv (gS ops) ρ λρ=>∀w,C w->k ρ d w) False
  |true=>cond (dY rs ops (order rs ops ops.length []) []&&ops.all λo=>!cT o.op) (∃S:WP,S w.drew/\vQ P M n S rs ops lv (fZ ops (order rs ops ops.length [])) true ρ d w.drew k e) False
variable (ps rs:List Nat)
def Bq(a:Code)(X5:List Nat)(ρ:Env):List Nat:=kR ((wr a).filter λt=>X5.contains t&&(ρ.has t||(da a).contains t))
def jg(c:Code)(lv:List Nat)(ρ:Env):List Nat:=kR ((wr c).filter λt=>ρ.has t&&(vM rs c++lv).contains t)
def mh(l:Nat):Code->Bool
 |.label k=>beq k l
 |.seq a b=>mh l a||mh l b
 |_=>false
def zp:Code->Bool
 |.goto _=>true
 |.seq a b|.cond _ a b=>zp a||zp b
 |.block _ a|.loop a|.scope a=>zp a
 |_=>false
def jumps(c:Code):Option Nat:=match zp c with|true=>label? c|false=>none
def vS(rs:List Nat)(x:Nat):Code->List Nat
 |.seq a b=>match mh x a with|true=>vS rs x a++vM rs b|false=>vS rs x b
 |_=>[]
def C0(x:Nat):Code->List Nat
 |.seq a b=>match mh x a with|true=>C0 x a|false=>da a++C0 x b
 |_=>[]
def kT(c:Code)(x:Nat)(lv:List Nat)(ρ:Env):List Nat:=kR ((wr c).filter λt=>(vS rs x c++lv).contains t&&(ρ.has t||(C0 x c).contains t))
def den:Code->Option Nat->List Nat->Env->M.D->Wd->Ks M->Prop
 |.skip,none,_,ρ,d,w,K=>K.iG ρ d w
 |.label _,_,_,ρ,d,w,K=>K.iG ρ d w
 |.region id ops draw,none,lv,ρ,d,w,K=>CZ P M n hd ps id ops.toList draw lv ρ d w K.iG K.pH
 |.seq a b,none,lv,ρ,d,w,K=>
  match Bm a with
  |true=>Jn (λJ=>den a none (live rs b lv) ρ d w {K with iG:=λρ' d' w'=>iH ρ' (Bq a (live rs b lv) ρ) λl=>J l d' w'})
    (λl d' w'=>den b none lv (gp ρ (wr a) (Bq a (live rs b lv) ρ) l) d' w' K)
  |false=>den a none (live rs b lv) ρ d w {K with iG:=λρ' d' w'=>den b none lv ρ' d' w' K}
 |.seq a b,some x,lv,ρ,d,w,K=>
  match mh x a with
  |true=>den a (some x) (live rs b lv) ρ d w {K with iG:=λρ' d' w'=>den b none lv ρ' d' w' K}
  |false=>den b (some x) lv ρ d w K
 |.cond c x y,none,lv,ρ,d,w,K=>cond (ρ.jD c) (If (ρ.ev c) (den x none lv ρ d w K) (den y none lv ρ d w K)) False
 |.block id c,none,lv,ρ,d,w,K=>den c none lv ρ d w {K with ext:=λi ρ' d' w'=>match beq i id with|true=>K.iG ρ' d' w'|false=>K.ext i ρ' d' w'}
 |.loop c,none,lv,ρ,d,w,K=>
  iH ρ (jg rs c lv ρ) λl=>Lp l d w λag l d' w'=>den c none (vM rs c++lv) (gp ρ (wr c) (jg rs c lv ρ) l) d' w' {K with iG:=λρ' d' w'=>iH ρ' (jg rs c lv ρ) λl=>ag l d' w'}
 |.scope c,none,lv,ρ,d,w,K=>match jumps c with
  |none=>den c none lv ρ d w {K with rF:=λ_ _ _ _=>False}
  |some x=>Sp (λJ=>den c none (vS rs x c++vM rs c++lv) ρ d w {K with rF:=λy ρ' d' w'=>match beq y x with|true=>iH ρ' (kT rs c x lv ρ) λl=>J l d' w'|false=>False})
    (λJ l d' w'=>den c (some x) (vS rs x c++vM rs c++lv) (gp ρ (wr c) (kT rs c x lv ρ) l) d' w' {K with rF:=λy ρ' d' w'=>match beq y x with|true=>iH ρ' (kT rs c x lv ρ) λl=>J l d' w'|false=>False})
 |.exit i,none,_,ρ,d,w,K=>K.ext i ρ d w
 |.goto l,none,_,ρ,d,w,K=>K.rF l ρ d w
 |.ret,none,_,ρ,d,w,K=>K.ret ρ d w
 |_,_,_,_,_,_,_=>False
end
def ez:Nat->LV->Env
 |_,[]=>[]
 |i,v::l=>(i,v)::ez (i+1) l
def pV(P:Program)(ρ:Env):List ResultVar->Wd->(LV->Prop)->Prop
 |[],_,k=>k []
 |.tmp t::rs,w,k=>cond (ρ.has t) (pV P ρ rs w λl=>k (ρ.at t::l)) False
 |.cell a t::rs,w,k=>cond (ρ.has a) (∃v,(loadAt t (ρ.at a)).run P w=.ok v w/\pV P ρ rs w λl=>k (v::l)) False
def C6:LV->Va
 |[v]=>v
 |l=>.tuple l.toArray
def dj:List ResultVar->List Nat
 |[]=>[]
 |.tmp t::l=>t::dj l
 |.cell a _::l=>a::dj l
def fin(P:Program)(rs:List ResultVar)(R:ER)(ρ:Env)(w:Wd):Prop:=pV P ρ rs w λl=>R (.returned (C6 l)) w
def pn(R:ER)(c:List PanicEntry)(w:Wd):Prop:=R (.panicked c) w
def body(P:Program)(n:Nat)(hd:List Nat)(rs:List ResultVar)(c:Code)(args:LV)(R:ER)(w:Wd):Prop:=
 den P Dm.no n hd [] (dj rs) c none (dj rs) (ez 0 args) () w
  {iG:=λρ _ w=>fin P rs R ρ w,ext:=λ_ _ _ _=>False,rF:=λ_ _ _ _=>False,ret:=λρ _ w=>fin P rs R ρ w,pH:=λc _ _ w=>R (.panicked c) w}
def Lv(P:Program)(res:Wd->(Va->Prop)->Prop)(R:ER):LD->FrameMode->WP
 |[],.returning,w=>res w λv=>R (.returned v) w
 |[],.panicking chain,w=>R (.panicked chain) w
 |[],.run,_=>False
 |d::ds,u,w=>u≠.run/\∃fv cap f args,d.target=.fn fv cap/\(invoke d.target d.args).run P w=.ok (.enter f args) w/\
   CallsD P f args u w fun
    |.returned _,u',w'=>Lv P res R ds (settle u') w'
    |.panicked chain,u',w'=>Lv P res R ds (raised u' chain) w'
    |.outgrown,_,_=>False
def Br(P:Program)(n:Nat)(hd:List Nat)(rs:List ResultVar)(c:Code)(args:LV)(R:ER)(w:Wd):Prop:=
 den P Dm.yes n hd (dj rs) (dj rs) c none (dj rs) (ez 0 args) ([]:LD) w
  {iG:=λρ d w=>Lv P (λw k=>pV P ρ rs w λl=>k (C6 l)) R d .returning w,ext:=λ_ _ _ _=>False,rF:=λ_ _ _ _=>False,
   ret:=λρ d w=>Lv P (λw k=>pV P ρ rs w λl=>k (C6 l)) R d .returning w,
   pH:=λc ρ d w=>Lv P (λw k=>pV P ρ rs w λl=>k (C6 l)) R d (.panicking c) w}
end Go.Sh

namespace Go.Sh
structure Ag(n:Nat)(ρ:Env)(a:Act):Prop where
 size:a.tmps.size=n
 val:∀t v,List.lookup t ρ=some v->a.tmps[t]?=some v
def Fr(W:List Nat)(a a':Act):Prop:=∀t,t∉W->a'.tmps[t]?=a.tmps[t]?
theorem Fr.refl(W:List Nat)(a:Act):Fr W a a:=λ_ _=>rfl
theorem Fr.trans{W V:List Nat}{a b c:Act}(h:Fr W a b)(h':Fr V b c):Fr (W++V) a c:=λt ht=>by
 rw[mem_append,not_or]at ht;rw[h' t ht.2,h t ht.1]
theorem Fr.mono{W V:List Nat}{a b:Act}(h:Fr W a b)(hs:∀t,t∈W->t∈V):Fr V a b:=λt ht=>h t λhw=>ht (hs t hw)
theorem Ag.at{n:Nat}{ρ:Env}{a:Act}(h:Ag n ρ a){t:Nat}(ht:ρ.has t=true):a.tmps.getD t undef=ρ.at t/\a.tmps[t]?=some (ρ.at t):=by
 unfold Env.has at ht;obtain⟨v,hv⟩:=Option.isSome_iff_exists.1 ht;have h1:=h.val t v hv;unfold Env.at
 rw[hv];exact⟨by simp[Array.getD_eq_getD_getElem?,h1],h1⟩
theorem Ag.ev{n:Nat}{ρ:Env}{a:Act}(h:Ag n ρ a){x:Operand}(hx:ρ.jD x=true):a.eval x=ρ.ev x:=by
 cases x with
 |tmp t=>exact(h.at hx).1
 |_=>rfl
theorem lookup_cons(ρ:Env)(d t:Nat)(v:Va):List.lookup t ((d,v)::ρ)=if t=d then some v else List.lookup t ρ:=by
 simp only[List.lookup];by_cases h:t=d
 .subst h;simp
 .have:(t==d)=false:=by simpa using h
  simp[this,h]
theorem Ag.put{n:Nat}{ρ:Env}{a:Act}(h:Ag n ρ a){d:Nat}(hd:d<n)(v:Va):Ag n ((d,v)::ρ) (a.put (some d) v) where
 size:=by simp[Act.put,h.size]
 val:=by
  intro t u hu;rw[lookup_cons]at hu;simp only[Act.put];by_cases ht:t=d
  .subst ht;simp at hu;subst hu;simp[h.size,hd]
  .rw[if_neg ht]at hu;rw[Array.getElem?_setIfInBounds_ne (Ne.symm ht)];exact h.val t u hu
theorem Fr.put(a:Act)(dst:Option Nat)(v:Va):Fr dst.toList a (a.put dst v):=by
 intro t ht
 cases dst with
 |none=>rfl
 |some d=>
  have:d≠t:=λh=>ht (by simp[h]);simp[Act.put,Array.getElem?_setIfInBounds_ne this]
theorem jF{n:Nat}{ρ:Env}{a:Act}{dst:Option Nat}{v:Va}{k:Env->Prop}(h:iu n ρ dst v k)(ha:Ag n ρ a):∃ρ',k ρ'/\Ag n ρ' (a.put dst v):=by
 cases dst with
 |none=>exact⟨ρ,h,ha⟩
 |some d=>
  unfold iu at h
  cases hb:blt d n with
  |false=>simp[hb]at h
  |true=>
   simp only[hb,cond_true]at h;exact⟨_,h,ha.put (by simpa[Nat.blt_eq]using hb) v⟩
theorem fL(a:Act)(dst:Option Nat)(v:Va):(a.put dst v).defers=a.defers:=by cases dst<;>rfl
theorem jm{n:Nat}{ρ:Env}{a:Act}{o:Oper}(ha:Ag n ρ a)(hs:cT o.op=false)(hk:(yQ o.op).all ρ.jD=true):
  execOp a.eval o=(nD ρ.ev o).dB:=by
 have gD:∀cs b,o.op≠.select cs b:=λcs b h=>by rw[h]at hs;cases hs
 rw[←rS ρ.ev (λ_=>rfl) o];refine execOp_congr o gD λx hx=>ha.ev ?_;exact all_eq_true.1 hk x (pR gD hx)
variable {P:Program}{M:Dm}{n:Nat}
theorem Calls.ret{f:FuncId}{args:AV}{w:Wd}{k:VK}{e:EK}
  {R:ER}(h:Calls P f args w (aZ k e)) (h1:∀v w,k v w->R (.returned v) w) (h2:∀c w,e c w->R (.panicked c) w):Calls P f args w R:=
 h.mono λen w' hr=>by
  cases en with
  |returned v=>exact h1 v w' hr
  |panicked c=>exact h2 c w' hr
  |outgrown=>exact hr.elim
theorem mi{o:Oper}{ρ:Env}{d:M.D}{w:Wd}{a:Act}{k:Env->M.D->WP}{e:List PanicEntry->Env->M.D->WP}
  {next:Act->WP}{Q:Exit->Act->WP}(h:pS P M n o ρ d w k e) (ha:Ag n ρ a) (hd:a.defers=M.get d)
  (hk:∀ρ' d' w' a',Ag n ρ' a'->a'.defers=M.get d'->Fr o.dst.toList a a'->k ρ' d' w'->next a' w')
  (he:∀c w',e c ρ d w'->Q (.panic c) a w'):o.wp P a w next Q:=by
 unfold pS at h
 cases hc:(!cT o.op&&(yQ o.op).all ρ.jD)with
 |false=>simp[hc]at h
 |true=>
  simp only[hc,cond_true]at h;simp only[and_eq_true,not_eq_true']at hc;unfold Oper.wp;rw[jm ha hc.1 hc.2];have put:∀{v:Va}{w':Wd}{d':M.D},iu n ρ o.dst v (λρ=>k ρ d' w')->M.get d'=M.get d->next (a.put o.dst v) w':=by
   intro v w' d' hp oA;obtain⟨ρ',h1,h2⟩:=jF hp ha;exact hk ρ' d' w' _ h2 (by rw[fL,hd,oA]) (Fr.put a o.dst v) h1
  cases hs:nD ρ.ev o with
  |now v=>rw[hs]at h;exact put h rfl
  |val s=>
   rw[hs]at h;simp only[nE,V1]at h;simp only[nk.dB,Sem.run_bind]
   cases hr:s.run P w with
   |ok v w'=>rw[hr]at h;exact put h rfl
   |halt x w'=>
    rw[hr]at h
    cases x<;>first|exact h.elim|exact he _ _ h
  |unit s=>
   rw[hs]at h;simp only[nE,U1]at h;simp only[nk.dB,Sem.run_bind]
   cases hr:s.run P w with
   |ok v w'=>rw[hr]at h;exact put h rfl
   |halt x w'=>
    rw[hr]at h
    cases x<;>first|exact h.elim|exact he _ _ h
  |iG s=>
   rw[hs]at h;simp only[nE,Up]at h;simp only[nk.dB]
   cases hr:s.run P w with
   |ok x w'=>
    rw[hr]at h
    cases x<;>first|exact h.elim|exact put h rfl|exact Calls.ret h (λv w h=>put h rfl) (λc w h=>he c w h)
   |halt x w'=>
    rw[hr]at h
    cases x<;>first|exact h.elim|exact he _ _ h
  |call f args=>
   rw[hs]at h;simp only[nE,Cf,Up]at h;simp only[nk.dB]
   cases hr:(callFunc f args).run P w with
   |ok x w'=>
    rw[hr]at h
    cases x<;>first|exact h.elim|exact put h rfl|exact Calls.ret h (λv w h=>put h rfl) (λc w h=>he c w h)
   |halt x w'=>
    rw[hr]at h
    cases x<;>first|exact h.elim|exact he _ _ h
  |FD s=>
   rw[hs]at h;simp only[nE]at h
   cases hp:M.push with
   |none=>rw[hp]at h;exact h.elim
   |some f=>
    rw[hp]at h;simp only[D1]at h;simp only[nk.dB,Sem.run_bind]
    cases hr:s.run P w with
    |ok v w'=>
     rw[hr]at h;obtain⟨ρ',h1,h2⟩:=jF h ha;show next (({a with defers:=v::a.defers}:Act).put o.dst undef) w'
     have e1:(({a with defers:=v::a.defers}:Act).put o.dst undef).tmps=(a.put o.dst undef).tmps:=by cases o.dst<;>rfl
     refine hk ρ' (f v d) w' _ ⟨by rw[e1];exact h2.size,by rw[e1];exact h2.val⟩ ?_ ?_ h1
     .rw[fL,M.vK f hp,hd]
     .intro t ht;rw[e1];exact Fr.put a o.dst undef t ht
    |halt x w'=>
     rw[hr]at h
     cases x<;>first|exact h.elim|exact he _ _ h
theorem mj{ops:Array Oper}{rest:List Oper}{Q:Exit->Act->WP}{e:List PanicEntry->Env->M.D->WP}:
  ∀(l:List Oper) (ρ:Env) (d:M.D) (w:Wd) (a:Act) (k:Env->M.D->WP),
  th P M n l ρ d w k e->Ag n ρ a->a.defers=M.get d->
  (∀a',Fr (bQ l) a a'->∀o∈l,Region.wanted o (yielded ops a'.tmps)=true)->
  (∀ρ' d' w' a',Ag n ρ' a'->a'.defers=M.get d'->Fr (bQ l) a a'->k ρ' d' w'->wpList P ops Q rest a' w')->
  (∀c ρ' d' w' a',Ag n ρ' a'->a'.defers=M.get d'->Fr (bQ l) a a'->e c ρ' d' w'->Q (.panic c) a' w')->
  wpList P ops Q (l++rest) a w
 |[],ρ,d,w,a,k,h,ha,hd,_,hk,_=>hk ρ d w a ha hd (Fr.refl _ _) h
 |o::l,ρ,d,w,a,k,h,ha,hd,hw,hk,he=>by
  have fp:∀t,t∈o.dst.toList++bQ l->t∈bQ (o::l):=by
   intro t ht;rw[mem_append]at ht;unfold bQ at*
   cases fX:o.dst with
   |none=>rw[List.filterMap_cons_none fX];rcases ht with h'|h';(simp[fX]at h');exact h'
   |some x=>rw[List.filterMap_cons_some fX];rcases ht with h'|h';(simp[fX]at h';simp[h']);exact mem_cons_of_mem _ h'
  have nG:∀t,t∈o.dst.toList->t∈bQ (o::l):=λt ht=>fp t (mem_append_left _ ht);have hsub2:∀t,t∈bQ l->t∈bQ (o::l):=λt ht=>fp t (List.mem_append_right _ ht);show(if Region.wanted o (yielded ops a.tmps)then _ else _)
  rw[if_pos (hw a (Fr.refl _ _) o (mem_cons_self ..))];refine .inl (mi h ha hd (λρ' d' w' a' fk dQ hf jn=>?_) (λc w' h'=>he c ρ d w' a ha hd (Fr.refl _ _) h'));refine mj l ρ' d' w' a' k jn fk dQ (λdh cV o' eM=>hw dh ((hf.trans cV).mono fp) o' (mem_cons_of_mem _ eM)) ?_ ?_
  .intro ρ'' dx du dh bG bK cV jo;exact hk ρ'' dx du dh bG bK ((hf.trans cV).mono fp) jo
  .intro c ρ'' dx du dh bG bK cV h';exact he c ρ'' dx du dh bG bK ((hf.trans cV).mono fp) h'
def skip(l:List Oper)(a:Act):Act:=l.foldl (λa o=>a.put o.dst undef) a
theorem oB{ops:Array Oper}{rest:List Oper}{Q:Exit->Act->WP}{w:Wd}:∀(l:List Oper) (a:Act),
  (∀a',Fr (bQ l) a a'->∀o∈l,Region.wanted o (yielded ops a'.tmps)=false)->wpList P ops Q rest (skip l a) w->wpList P ops Q (l++rest) a w
 |[],a,_,h=>h
 |o::l,a,hw,h=>by
  have fp:∀t,t∈o.dst.toList++bQ l->t∈bQ (o::l):=by
   intro t ht;rw[mem_append]at ht;unfold bQ at*
   cases fX:o.dst with
   |none=>rw[List.filterMap_cons_none fX];rcases ht with h'|h';(simp[fX]at h');exact h'
   |some x=>rw[List.filterMap_cons_some fX];rcases ht with h'|h';(simp[fX]at h';simp[h']);exact mem_cons_of_mem _ h'
  show(if Region.wanted o (yielded ops a.tmps)then _ else _)
  rw[if_neg (by rw[hw a (Fr.refl _ _) o (mem_cons_self ..)];simp)];exact oB l (a.put o.dst undef) (λa' hf o' eM=>hw a' (((Fr.put a o.dst undef).trans hf).mono fp) o' (mem_cons_of_mem _ eM)) h
theorem gf:∀(l:List Oper) (a:Act),Fr (bQ l) a (skip l a)
 |[],a=>Fr.refl _ _
 |o::l,a=>by
  have h:=(Fr.put a o.dst undef).trans (gf l (a.put o.dst undef));refine Fr.mono h λt ht=>?_;rw[mem_append]at ht;unfold bQ at*
  cases fX:o.dst with
  |none=>rw[List.filterMap_cons_none fX];rcases ht with h'|h';(simp[fX]at h');exact h'
  |some x=>rw[List.filterMap_cons_some fX];rcases ht with h'|h';(simp[fX]at h';simp[h']);exact mem_cons_of_mem _ h'
theorem eU:∀(l:List Oper) (a:Act),(skip l a).tmps.size=a.tmps.size
 |[],a=>rfl
 |o::l,a=>by
  show(skip l (a.put o.dst undef)).tmps.size=_
  rw[eU l];cases o.dst<;>simp[Act.put]
theorem dW:∀(l:List Oper) (a:Act),(skip l a).defers=a.defers
 |[],a=>rfl
 |o::l,a=>by show(skip l (a.put o.dst undef)).defers=_;rw[dW l,fL]
theorem gU:∀(l:List Oper) (a:Act) (t:Nat),t∈bQ l->t<a.tmps.size->(skip l a).tmps[t]?=some undef
 |o::l,a,t,ht,bO=>by
  show(skip l (a.put o.dst undef)).tmps[t]?=_
  have hs:(a.put o.dst undef).tmps.size=a.tmps.size:=by cases o.dst<;>simp[Act.put]
  by_cases hm:t∈bQ l
  .exact gU l _ t hm (by rw[hs];exact bO)
  .rw[gf l _ t hm];unfold bQ at ht
   cases fX:o.dst with
   |none=>rw[List.filterMap_cons_none fX]at ht;exact absurd ht hm
   |some x=>
    rw[List.filterMap_cons_some fX]at ht;rcases mem_cons.1 ht with rfl|h'
    .simp[Act.put,bO]
    .exact absurd h' hm
theorem fh{ρ:Env}{outs:List Nat}{k:LV->Prop}(h:iH ρ outs k):(∀t∈outs,ρ.has t=true)/\k (outs.map ρ.at):=by
 unfold iH at h
 cases hc:outs.all ρ.has with
 |false=>simp[hc]at h
 |true=>simp only[hc,cond_true]at h;exact⟨all_eq_true.1 hc,h⟩
theorem lookup_append(l m:Env)(t:Nat):List.lookup t (l++m)=(List.lookup t l).orElse λ_=>List.lookup t m:=by
 induction l with
 |nil=>simp
 |cons p l ih=>
  obtain⟨d,v⟩:=p;rw[cons_append,lookup_cons,lookup_cons,ih];split<;>simp
theorem nr(ρ:Env)(W:List Nat)(t:Nat)(v:Va)(h:List.lookup t (ρ.filter λp=>!W.contains p.1)=some v):t∉W/\List.lookup t ρ=some v:=by
 induction ρ with
 |nil=>cases h
 |cons p ρ ih=>
  obtain⟨d,u⟩:=p;rw[lookup_cons];by_cases hW:W.contains d=true
  .rw[List.filter_cons_of_neg (by simp only[hW];simp)]at h;obtain⟨h1,h2⟩:=ih h;refine⟨h1,?_⟩;rw[if_neg (λe=>h1 (by rw[e];simpa using hW))];exact h2
  .rw[List.filter_cons_of_pos (by simp only[hW];rfl),lookup_cons]at h;by_cases ht:t=d
   .subst ht;refine⟨by simpa using hW,?_⟩;simpa using h
   .rw[if_neg ht]at h⊢;exact ih h
theorem kU(f:Nat->Va):∀(outs:List Nat) (t:Nat) (v:Va),List.lookup t (jE outs (outs.map f))=some v->t∈outs/\v=f t
 |[],t,v,h=>by cases h
 |s::ss,t,v,h=>by
  simp only[map_cons,jE,List.headD_cons,List.tail_cons]at h;rw[lookup_cons]at h;by_cases ht:t=s
  .subst ht;rw[if_pos rfl]at h;cases h;exact⟨mem_cons_self ..,rfl⟩
  .rw[if_neg ht]at h;obtain⟨h1,h2⟩:=kU f ss t v h;exact⟨mem_cons_of_mem _ h1,h2⟩
theorem Ag.new{n:Nat}{ρ:Env}{a a':Act}{W outs:List Nat}(f:Nat->Va)(ha:Ag n ρ a)(hs:a'.tmps.size=n)(hf:Fr W a a')
  (ho:∀t∈outs,a'.tmps[t]?=some (f t)):Ag n (gp ρ W outs (outs.map f)) a' where
 size:=hs
 val:=by
  intro t v h;unfold gp at h;rw[lookup_append]at h
  cases hb:List.lookup t (jE outs (outs.map f))with
  |some u=>
   rw[hb]at h;obtain⟨h1,h2⟩:=kU f outs t u hb;simp at h;subst h;subst h2
   exact ho t h1
  |none=>
   rw[hb]at h;obtain⟨h1,h2⟩:=nr ρ W t v (by simpa using h);rw[hf t h1];exact ha.val t v h2
theorem fC{t:Nat}:∀{l:List Nat},t∈kR l->t∈l
 |[],h=>h
 |a::l,h=>by
  unfold kR at h;split at h
  .exact mem_cons_of_mem _ (fC h)
  .rcases mem_cons.1 h with rfl|h'
   .exact mem_cons_self ..
   .exact mem_cons_of_mem _ (fC h')
theorem pW{g h:Option (Nat×Bool)}(e:nF g h=true):g=h:=by
 unfold nF at e;split at e
 .rfl
 .rename_i i a j b
  simp only[and_eq_true,beq_iff_eq]at e;rw[Nat.eq_of_beq_eq_true e.1,e.2]
 .cases e
theorem ki:∀(l:List Oper),(gS l).flatMap (·.2)=l/\∀g∈gS l,∀o∈g.2,o.guard=g.1
 |[]=>⟨rfl,λ_ h=>by cases h⟩
 |o::l=>by
  obtain⟨h1,h2⟩:=ki l;unfold gS
  cases hg:gS l with
  |nil=>
   rw[hg]at h1;simp only[List.flatMap_nil]at h1;subst h1;refine⟨rfl,λg hg o' eM=>?_⟩;simp at hg;subst hg;simp at eM;subst eM;rfl
  |cons p gs=>
   obtain⟨g,os⟩:=p;rw[hg]at h1 h2;simp only[]
   cases hs:nF o.guard g with
   |true=>
    refine⟨by simpa using h1,λq hq o' eM=>?_⟩;rcases mem_cons.1 hq with rfl|hq
    .rcases mem_cons.1 eM with rfl|eM
     .exact pW hs
     .exact h2 _ (mem_cons_self ..) o' eM
    .exact h2 q (mem_cons_of_mem _ hq) o' eM
   |false=>
    refine⟨by simpa using h1,λq hq o' eM=>?_⟩;rcases mem_cons.1 hq with rfl|hq
    .simp at eM;subst eM;rfl
    .exact h2 q hq o' eM
theorem fF{ops:Array Oper}{o:Oper}{j t:Nat}{b c:Bool}{tmps:AV}(hg:o.guard=some (j,b))(ht:(ops[j]?).bind (·.dst)=some t)
  (hv:tmps[t]?=some (.bool c)):Region.wanted o (yielded ops tmps)=(c==b):=by
 simp only[Region.wanted,hg,yielded,ht,Option.bind_some,hv]
 cases c<;>cases b<;>rfl
theorem kj{ops:Array Oper}{o:Oper}{j t:Nat}{b:Bool}{v:Va}{tmps:AV}(hg:o.guard=some (j,b))(ht:(ops[j]?).bind (·.dst)=some t)
  (hv:tmps[t]?=some v) (hn:∀c,v=.bool c->False):Region.wanted o (yielded ops tmps)=false:=by
 simp only[Region.wanted,hg,yielded,ht,Option.bind_some,hv]
 cases v<;>first|exact(hn _ rfl).elim|rfl
theorem lT(l:List Oper)(j:Nat):nq l j=((l.toArray)[j]?).bind (·.dst):=by simp[nq]
theorem oC{l:List Oper}{lv:List Nat}{Q:Exit->Act->WP}{e:List PanicEntry->Env->M.D->WP}:
  ∀(gs:List Bn) (ρ:Env) (d:M.D) (w:Wd) (a:Act) (k:Env->M.D->WP),
  vN P M n l lv gs ρ d w k e->Ag n ρ a->a.defers=M.get d->(∀g∈gs,∀o∈g.2,o.guard=g.1)->
  (∀ρ' d' w' a',Ag n ρ' a'->a'.defers=M.get d'->Fr (bQ (gs.flatMap (·.2))) a a'->k ρ' d' w'->Q .normal a' w')->
  (∀c ρ' d' w' a',Ag n ρ' a'->a'.defers=M.get d'->Fr (bQ (gs.flatMap (·.2))) a a'->e c ρ' d' w'->Q (.panic c) a' w')->
  wpList P l.toArray Q (gs.flatMap (·.2)) a w
 |[],ρ,d,w,a,k,h,ha,hd,_,hk,_=>hk ρ d w a ha hd (Fr.refl _ _) h
 |(g,os)::gs,ρ,d,w,a,k,h,ha,hd,hg,hk,he=>by
  have fp:∀t,t∈bQ os++bQ (gs.flatMap (·.2))->t∈bQ (((g,os)::gs).flatMap (·.2)):=by
   intro t ht;simpa[bQ]using ht
  have nG:∀t,t∈bQ os->t∈bQ (((g,os)::gs).flatMap (·.2)):=λt ht=>fp t (mem_append_left _ ht);rw[List.flatMap_cons]
  cases g with
  |none=>
   refine mj os ρ d w a _ h ha hd ?_ ?_ ?_
   .intro a' _ o ho;have:=hg _ (mem_cons_self ..) o ho;simp[Region.wanted,show o.guard=none from this]
   .intro ρ' d' w' a' fk dQ hf jn;refine oC gs ρ' d' w' a' k jn fk dQ (λg' pX=>hg g' (mem_cons_of_mem _ pX)) ?_ ?_
    .intro ρ'' dx du dh bG bK cV jo;exact hk ρ'' dx du dh bG bK ((hf.trans cV).mono fp) jo
    .intro c ρ'' dx du dh bG bK cV h';exact he c ρ'' dx du dh bG bK ((hf.trans cV).mono fp) h'
   .intro c ρ' d' w' a' fk dQ hf h';exact he c ρ' d' w' a' fk dQ (hf.mono nG) h'
  |some jb=>
   obtain⟨j,b⟩:=jb;unfold vN at h
   cases ht:nq l j with
   |none=>rw[ht]at h;exact h.elim
   |some t=>
    rw[ht]at h;simp only[]at h;have uj:((l.toArray)[j]?).bind (·.dst)=some t:=by rw[←lT];exact ht
    cases hc:(ρ.has t&&!(bQ os).contains t&&(bQ os).all (λs=>blt s n))with
    |false=>rw[hc]at h;exact h.elim
    |true=>
     rw[hc]at h;simp only[cond_true]at h;simp only[and_eq_true,not_eq_true',all_eq_true]at hc;obtain⟨⟨h1,h2⟩,h3⟩:=hc;have iX:t∉bQ os:=by simpa using h2
     have bO:∀s∈bQ os,s<n:=λs hs=>by have:=h3 s hs;simpa[Nat.blt_eq]using this
     obtain⟨K,Gi,pY⟩:=h;have fu:=(ha.at h1).2;have behind:∀(f:Nat->Va) (d':M.D) (w':Wd) (a':Act),a'.tmps.size=n->a'.defers=M.get d'->Fr (bQ os) a a'->
       (∀s∈kR ((bQ os).filter (rG gs++dt l gs++lv).contains),a'.tmps[s]?=some (f s))->
       K ((kR ((bQ os).filter (rG gs++dt l gs++lv).contains)).map f) d' w'->wpList P l.toArray Q (gs.flatMap (·.2)) a' w':=by
      intro f d' w' a' rU dQ hf ho jn;refine oC gs _ d' w' a' k (Eq.mp (ov _ _) (Gi _ _ _ jn)) (Ag.new f ha rU hf ho) dQ (λg' pX=>hg g' (mem_cons_of_mem _ pX)) ?_ ?_
      .intro ρ'' dx du dh bG bK cV jo;exact hk ρ'' dx du dh bG bK ((hf.trans cV).mono fp) jo
      .intro c ρ'' dx du dh bG bK cV h';exact he c ρ'' dx du dh bG bK ((hf.trans cV).mono fp) h'
     unfold Gd at pY;split at pY
     .rename_i c hv
      rw[hv]at fu;by_cases vT:c=b
      .refine mj os ρ d w a _ (pY.1 vT) ha hd ?_ ?_ ?_
       .intro a' hf o ho;rw[fF (hg _ (mem_cons_self ..) o ho) uj (by rw[hf t iX];exact fu),vT];simp
       .intro ρ' d' w' a' fk dQ hf jn;obtain⟨g1,g2⟩:=fh jn;exact behind ρ'.at d' w' a' fk.size dQ hf (λs hs=>(fk.at (g1 s hs)).2) g2
       .intro c ρ' d' w' a' fk dQ hf h';exact he c ρ' d' w' a' fk dQ (hf.mono nG) h'
      .have vU:c=!b:=by cases c<;>cases b<;>simp_all
       refine oB os a ?_ ?_
       .intro a' hf o ho;rw[fF (hg _ (mem_cons_self ..) o ho) uj (by rw[hf t iX];exact fu)];simpa using vT
       .refine behind (λ_=>undef) d w (skip os a) (by rw[eU];exact ha.size) (by rw[dW];exact hd) (gf os a) ?_ (pY.2 vU);intro s hs;have hm:=(mem_filter.1 (fC hs)).1;exact gU os a s hm (by rw[ha.size];exact bO s hm)
     .rename_i hv
      refine oB os a ?_ ?_
      .intro a' hf o ho;exact kj (hg _ (mem_cons_self ..) o ho) uj (by rw[hf t iX];exact fu) hv
      .refine behind (λ_=>undef) d w (skip os a) (by rw[eU];exact ha.size) (by rw[dW];exact hd) (gf os a) ?_ pY;intro s hs;have hm:=(mem_filter.1 (fC hs)).1;exact gU os a s hm (by rw[ha.size];exact bO s hm)
end Go.Sh


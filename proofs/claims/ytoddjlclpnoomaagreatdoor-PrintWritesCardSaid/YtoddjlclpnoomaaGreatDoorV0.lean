import Derived.Deep.Quiet
import Derived.OrdersHeld
import Derived.ScopeJumps
import Derived.WalkKit
import Derived.KernelRfl
set_option linter.unusedVariables false
set_option linter.unusedSimpArgs false
set_option maxRecDepth 100000
namespace Go
abbrev ER := Ending → World → Prop
abbrev VK := Value → World → Prop
abbrev EK := List PanicEntry → World → Prop
abbrev WP := World → Prop
abbrev LB := List (List UInt8)
abbrev By := List UInt8
abbrev LV := List Value
abbrev LD := List Deferred
abbrev AV := Array Value
abbrev Wd := World
abbrev Va := Value
theorem af {p:Prop}(h:p:=by simp<;>omega):p:=h
theorem ah {p:Prop}(h:p:=by simp[go_sem]<;>trivial):p:=h
theorem ai {p:Prop}(h:p:=by kernel_rfl):p:=h
theorem aj {p:Prop}(h:p:=by omega):p:=h
theorem ak {p:Prop}(h:p:=by simp):p:=h
theorem al {p:Prop}(h:p:=by simp;omega):p:=h
theorem au {p:Prop}(h:p:=by simp[go_sem]):p:=h
theorem aw {p:Prop}(h:p:=by assumption):p:=h
theorem ax {p:Prop}(h:p:=by simp[go_sem];first|done|rfl|exact⟨rfl,rfl⟩):p:=h
theorem ay {p:Prop}(h:p:=by simp[go_sem];omega):p:=h
theorem az {p:Prop}(h:p:=by decide):p:=h
theorem bg {p:Prop}(h:p:=by intro h;cases h):p:=h
end Go
open Go.Instr (alloc box loadAt storeAt sliceAt fieldAt field indexAt mapUpdate typeAssert extract)
open List (mem_append all_eq_true mem_cons_of_mem mem_append_left mem_cons_self mem_cons cons_append map_cons mem_filter)
open Nat (beq blt)
open Go.Builtin (append_ len_ min_)
open Bool (and_eq_true not_eq_true')
namespace Go.Sh
abbrev Env:=List (Nat×Va)
def Env.has(ρ:Env)(t:Nat):Bool:=(List.lookup t ρ).isSome
def Env.at(ρ:Env)(t:Nat):Va:=(List.lookup t ρ).getD undef
def Env.ev(ρ:Env):Operand->Va
 |.tmp t=>ρ.at t
 |.const v=>v
 |.global g=>.pointer (some ⟨g,0,none⟩)
 |.func f=>.func (.func f) #[] #[]
def Env.kz(ρ:Env):Operand->Bool
 |.tmp t=>ρ.has t
 |_=>true
structure Dm where
 D:Type
 get:D->LD
 back:LD->D
 push:Option (Deferred->D->D)
 ru:∀d,back (get d)=d
 xJ:∀f,push=some f->∀x d,get (f x d)=x::get d
def Dm.no:Dm:=⟨Unit,λ_=>[],λ_=>(),none,λ_=>rfl,λ_ h=>by cases h⟩
def Dm.yes:Dm:=⟨LD,id,id,some List.cons,λ_=>rfl,λf h x d=>by cases h;rfl⟩
inductive oB where
 |now (v:Va)
 |val (s:Sem Va)
 |unit (s:Sem Unit)
 |bV (s:Sem Next)
 |call (k:FuncId) (args:AV)
 |H7 (s:Sem Deferred)
def oB.dJ:oB->Sem Next
 |.now v=>pure (.value v)
 |.val s=>do pure (.value (←s))
 |.unit s=>do s;pure .skip
 |.bV s=>s
 |.call k args=>callFunc k args
 |.H7 s=>do pure (.defer (←s))
def Bo(op:BinOp)(t:TypeId)(cx cy:Bool)(a b:Va):Sem Va:=do
 eqGuard op t (if cx then .const undef else .tmp 0) (if cy then .const undef else .tmp 0) a b;binOp op t a b
def Nc(v:Va):Sem Next:=execOp (λ_=>v) {dst:=none,op:=.nilCheck (.tmp 0),type:=0,pos:= "",after:=#[],guard:=none}
def Pk(c a b:Va):Sem Va:=do pure (if←asBool c then a else b)
def Cv(f:Va)(args:AV):Sem Next:=do let d←Deferred.ofValue f args;invoke d.target d.args
def Q9:Operand->Bool|.const _=>true|_=>false
def tu(ev:Operand->Va)(l:Array Operand):AV:=(l.toList.map ev).toArray
def Rc(ev:Operand->Va)(l:Array (Nat×Operand)):Array (Nat×Va):=(l.toList.map λp=>(p.1,ev p.2)).toArray
def oT(ev:Operand->Va)(o:Oper):oB:=
 match o.op with
 |.move x|.assign x=>.now (ev x)
 |.pick c a b=>.val (Pk (ev c) (ev a) (ev b))
 |.alloc t=>.val (alloc t true (.tuple #[]))
 |.box t x=>.val (box t (ev x))
 |.build t ps=>.val (Instr.build t (Rc ev ps))
 |.buildSlice t n ps=>.val (Instr.buildSlice t n (Rc ev ps))
 |.load t a=>.val (loadAt t (ev a))
 |.store t a x=>.unit (storeAt t (ev a) (ev x))
 |.nilCheck x=>.bV (Nc (ev x))
 |.binOp op t x y _=>.val (Bo op t (Q9 x) (Q9 y) (ev x) (ev y))
 |.unOp op _ x=>.val (Op.unary op (ev x))
 |.convert s t x=>.val (Go.convert s t (ev x))
 |.makeInterface t x=>.val (Instr.makeInterface t (ev x))
 |.makeFunc f a c=>.val (Instr.makeFunc f (tu ev a) (tu ev c))
 |.makeMap t none=>.val (Instr.makeMap t none)
 |.makeSlice t l c=>.val (Instr.makeSlice t (ev l) (ev c))
 |.slice t x lo hi none=>.val (sliceAt t (ev x) (lo.map ev) (hi.map ev) none)
 |.fieldAddr s x f=>.val (fieldAt s (ev x) f)
 |.field t x f=>.val (field t (ev x) f)
 |.indexAddr t x i=>.val (indexAt t (ev x) (ev i))
 |.index t x i=>.val (Instr.index t (ev x) (ev i))
 |.lookup t x i ok=>.val (Instr.lookup t (ev x) (ev i) ok)
 |.mapUpdate t m k x|.insert t m k x=>.unit (mapUpdate t (ev m) (ev k) (ev x))
 |.range t x=>.val (Instr.range t (ev x))
 |.next it s=>.val (Instr.next (ev it) s o.type)
 |.entry it=>.val (Instr.entry (ev it))
 |.typeAssert x t u ok=>.val (typeAssert (ev x) t u ok)
 |.extract t i=>.val (extract (ev t) i)
 |.panic x=>.val (Instr.panic (ev x))
 |.call {callee:=.value (.func k),args,..}=>.call k (tu ev args)
 |.call {callee:=.value f,args,..}=>.bV (Cv (ev f) (tu ev args))
 |.call {callee:=.invoke r name,args,..}=>.bV (invoke (.fn (.method name) #[]) (#[ev r]++tu ev args))
 |.call {callee:=.builtin .append,args,argTypes}=>.val (append_ argTypes o.type (tu ev args))
 |.call {callee:=.builtin .len,args,argTypes}=>.val (len_ argTypes o.type (tu ev args))
 |.call {callee:=.builtin .cap,args,argTypes}=>.val (Builtin.cap_ argTypes o.type (tu ev args))
 |.call {callee:=.builtin .min,args,argTypes}=>.val (min_ argTypes o.type (tu ev args))
 |.call {callee:=.builtin .max,args,argTypes}=>.val (Builtin.max_ argTypes o.type (tu ev args))
 |.call {callee:=.builtin .copy,args,argTypes}=>.val (Builtin.copy_ argTypes o.type (tu ev args))
 |.call {callee:=.builtin .unsafeSliceData,args,argTypes}=>.val (Builtin.unsafeSliceData_ argTypes o.type (tu ev args))
 |.call {callee:=.builtin .unsafeString,args,argTypes}=>.val (Builtin.unsafeString_ argTypes o.type (tu ev args))
 |.defer {callee:=.value f,args,..}=>.H7 (Deferred.ofValue (ev f) (tu ev args))
 |_=>.bV (execOp ev o)
theorem lz(ev:Operand->Va)(l:Array Operand):tu ev l=l.map ev:=by
 simp[tu,←Array.toList_map]
theorem xK(ev:Operand->Va)(l:Array (Nat×Operand)):Rc ev l=l.map fun(i,x)=>(i,ev x):=by
 simp[Rc,←Array.toList_map]
theorem oC(op:BinOp)(t:TypeId)(x y:Operand)(a b:Va):
  eqGuard op t x y a b=eqGuard op t (if Q9 x then .const undef else .tmp 0) (if Q9 y then .const undef else .tmp 0) a b:=by
 unfold eqGuard
 cases x<;>cases y<;>rfl
theorem tP(ev:Operand->Va)(Rd:∀k,ev (.func k)=.func (.func k) #[] #[])(o:Oper):execOp ev o=(oT ev o).dJ:=by
 obtain⟨dst,op,type,pos,after,guard⟩:=o
 cases op with
 |move x=>rfl
 |assign x=>rfl
 |pick c a b=>simp only[execOp,oT,oB.dJ,Pk];unfold asBool;cases ev c<;>rfl
 |build t ps=>simp only[execOp,oT,oB.dJ,xK]
 |buildSlice t n ps=>simp only[execOp,oT,oB.dJ,xK]
 |binOp op t x y u=>simp only[execOp,oT,oB.dJ,Bo];rw[oC op t x y]
 |makeFunc f a c=>simp only[execOp,oT,oB.dJ,lz]
 |makeMap t r=>cases r<;>rfl
 |slice t x lo hi mx=>cases mx<;>rfl
 |call c=>
  obtain⟨callee,args,tys⟩:=c
  cases callee with
  |value f=>
   cases f with
   |func k=>
    simp only[execOp,oT,oB.dJ,resolve,Rd,lz];show callFunc k (#[]++args.map ev++#[])=_
    simp
   |_=>simp only[execOp,oT,oB.dJ,resolve,lz,Cv]
  |invoke r name=>simp only[execOp,oT,oB.dJ,resolve,lz];rfl
  |builtin b=>cases b<;>first|rfl|(simp only[execOp,oT,oB.dJ,resolve,lz];rfl)
 |defer c=>
  obtain⟨callee,args,tys⟩:=c
  cases callee with
  |value f=>simp only[execOp,oT,oB.dJ,resolve,lz]
  |_=>rfl
 |_=>rfl
section
variable (P:Program)
def V1(s:Sem Va)(w:Wd)(k:VK)(e:EK):Prop:=
 match s.run P w with
 |.ok v w'=>k v w'
 |.halt (.panic v) w'=>e [{v,recovered:=false}] w'
 |_=>False
def U1(s:Sem Unit)(w:Wd)(k:WP)(e:EK):Prop:=
 match s.run P w with
 |.ok _ w'=>k w'
 |.halt (.panic v) w'=>e [{v,recovered:=false}] w'
 |_=>False
def D1(s:Sem Deferred)(w:Wd)(k:Deferred->WP)(e:EK):Prop:=
 match s.run P w with
 |.ok v w'=>k v w'
 |.halt (.panic v) w'=>e [{v,recovered:=false}] w'
 |_=>False
def aZ(k:VK)(e:EK):ER
 |.returned v,w=>k v w
 |.panicked c,w=>e c w
 |.outgrown,_=>False
def Up(s:Sem Next)(w:Wd)(k:VK)(e:EK):Prop:=
 match s.run P w with
 |.ok (.value v) w'=>k v w'
 |.ok .skip w'=>k undef w'
 |.ok (.enter f args) w'=>Calls P f args w' (aZ k e)
 |.halt (.panic v) w'=>e [{v,recovered:=false}] w'
 |_=>False
def Cf(f:FuncId)(args:AV)(w:Wd)(k:VK)(e:EK):Prop:=
 Up P (callFunc f args) w k e
end
def If(v:Va)(x y:Prop):Prop:=match v with
 |.bool b=>(b=true->x)/\(b=false->y)
 |_=>False
def Gd(v:Va)(b:Bool)(x y:Prop):Prop:=match v with
 |.bool c=>(c=b->x)/\(c=!b->y)
 |_=>y
def Jn{D:Type}(f:(LV->D->WP)->Prop)(g:LV->D->WP):Prop:=
 ∃K:LV->D->WP,(∀l d w,K l d w->g l d w)/\f K
def Jp(f:(LV->Prop)->Prop)(g:LV->Prop):Prop:=∃K:LV->Prop,(∀l,K l->g l)/\f K
def Lp{D:Type}(l:LV)(d:D)(w:Wd)(f:(LV->D->WP)->LV->D->WP):Prop:=
 ∃(I:LV->D->WP) (μ:LV->D->Wd->Nat),I l d w/\
  ∀l d w,I l d w->f (λl' d' w'=>I l' d' w'/\μ l' d' w'<μ l d w) l d w
def Sp{D:Type}(f:(LV->D->WP)->Prop)(g:(LV->D->WP)->LV->D->WP):Prop:=
 ∃(J:LV->D->WP) (μ:LV->D->Wd->Nat),f J/\
  ∀l d w,J l d w->g (λl' d' w'=>J l' d' w'/\μ l' d' w'<μ l d w) l d w
def AM:Op->List Operand
 |.alloc _|.ready _|.waits _=>[]
 |.move x|.assign x|.box _ x|.load _ x|.nilCheck x|.unOp _ _ x|.convert _ _ x|.sliceToArrayPointer _ x|.makeInterface _ x
 |.makeChan _ x|.fieldAddr _ x _|.field _ x _|.range _ x|.next x _|.entry x|.typeAssert x _ _ _|.extract x _|.panic x|.recv _ x _=>[x]
 |.pick c a b=>[c,a,b]
 |.build _ ps|.buildSlice _ _ ps=>ps.toList.map (·.2)
 |.store _ a v|.binOp _ _ a v _|.makeSlice _ a v|.indexAddr _ a v|.index _ a v|.lookup _ a v _|.mapEntry _ a v|.send a v=>[a,v]
 |.makeFunc _ first captured=>first.toList++captured.toList
 |.makeMap _ r=>r.toList
 |.slice _ x l h m=>x::(l.toList++h.toList++m.toList)
 |.mapUpdate _ m k v|.entryStore _ m k v|.insert _ m k v=>[m,k,v]
 |.call c|.go c|.defer c=>(match c.callee with|.value f=>[f]|.invoke r _=>[r]|.builtin _=>[])++c.args.toList
 |.select ..=>[]
theorem rz{op:Op}(hs:∀cs b,op≠.select cs b){x:Operand}(h:x∈op.operands):x∈AM op:=by
 cases op<;>simp only[Op.operands,AM,Call.operands]at h⊢
 case select cs b=>exact absurd rfl (hs cs b)
 case call c=>cases hc:c.callee<;>simp[hc]at h⊢<;>exact h
 case go c=>cases hc:c.callee<;>simp[hc]at h⊢<;>exact h
 case defer c=>cases hc:c.callee<;>simp[hc]at h⊢<;>exact h
 case slice t x l hh m=>cases l<;>cases hh<;>cases m<;>simpa using h
 all_goals(first|exact h|(simp at h;done)|simpa using h)
def tm:Operand->List Nat|.tmp t=>[t]|_=>[]
def Bg(o:Oper):List Nat:=(AM o.op).flatMap tm
def bS(l:List Oper):List Nat:=l.filterMap (·.dst)
def IQ:List Oper->List Nat->List Nat
 |[],_=>[]
 |o::l,done=>(Bg o).filter (λt=>!done.contains t)++IQ l (o.dst.toList++done)
def leaves:Code->Bool
 |.exit _|.goto _|.ret=>true
 |.seq a b=>leaves a||leaves b
 |.cond _ a b=>leaves a||leaves b
 |.block _ a|.loop a|.scope a=>leaves a
 |_=>false
def wr:Code->List Nat
 |.region _ ops _=>bS ops.toList
 |.seq a b|.cond _ a b=>wr a++wr b
 |.block _ a|.loop a|.scope a=>wr a
 |_=>[]
def da:Code->List Nat
 |.region _ ops _=>bS ops.toList
 |.seq a b=>da a++da b
 |.cond _ a b=>match leaves a,leaves b with
  |true,true=>[]|true,false=>da b|false,true=>da a
  |false,false=>(da a).filter (da b).contains
 |_=>[]
def xL(rs:List Nat):Code->List Nat
 |.region _ ops _=>IQ ops.toList []
 |.seq a b=>xL rs a++(xL rs b).filter (λt=>!(da a).contains t)
 |.cond c a b=>tm c++xL rs a++xL rs b
 |.block _ a|.loop a|.scope a=>xL rs a
 |.ret=>rs
 |_=>[]
def live(rs:List Nat)(c:Code)(lv:List Nat):List Nat:=
 xL rs c++(match leaves c with|true=>lv|false=>lv.filter (λt=>!(da c).contains t))
def ends:Code->Nat
 |.skip|.region ..|.label _=>1
 |.seq a b=>match ends a with|0=>0|_=>ends b
 |.cond _ a b=>ends a+ends b
 |.block id a=>ends a+u0 id a
 |.scope a=>ends a
 |_=>0
where u0 (id:Nat):Code->Nat
 |.exit j=>match beq j id with|true=>1|false=>0
 |.seq a b|.cond _ a b=>u0 id a+u0 id b
 |.block _ a|.loop a|.scope a=>u0 id a
 |_=>0
def Ds(c:Code):Bool:=Nat.ble 2 (ends c)
def label?:Code->Option Nat
 |.label l=>some l
 |.seq a b=>(label? a).orElse λ_=>label? b
 |_=>none
def mc:List Nat->List Nat
 |[]=>[]
 |a::l=>match l.contains a with|true=>mc l|false=>a::mc l
def kA:List Nat->LV->Env
 |[],_=>[]
 |s::ss,l=>(s,l.headD undef)::kA ss l.tail
def gU(ρ:Env)(W outs:List Nat)(l:LV):Env:=kA outs l++ρ.filter (λp=>!W.contains p.1)
def IU:Env->(Env->Prop)->Prop
 |[],k=>k []
 |p::l,k=>IU l λl'=>k (p::l')
theorem pM:∀(l:Env) (k:Env->Prop),IU l k=k l
 |[],_=>rfl
 |p::l,k=>pM l λl'=>k (p::l')
structure Ks(M:Dm) where
 bV:Env->M.D->WP
 ext:Nat->Env->M.D->WP
 tA:Nat->Env->M.D->WP
 ret:Env->M.D->WP
 qX:List PanicEntry->Env->M.D->WP
def iV(n:Nat)(ρ:Env)(dst:Option Nat)(v:Va)(k:Env->Prop):Prop:=
 match dst with
 |some d=>cond (blt d n) (k ((d,v)::ρ)) False
 |none=>k ρ
def jl(ρ:Env)(outs:List Nat)(k:LV->Prop):Prop:=cond (outs.all ρ.has) (k (outs.map ρ.at)) False
section
variable (P:Program) (M:Dm) (n:Nat)
def oU(s:oB)(dst:Option Nat)(ρ:Env)(d:M.D)(w:Wd)(k:Env->M.D->WP)(e:List PanicEntry->Env->M.D->WP):Prop:=
 match s with
 |.now v=>iV n ρ dst v λρ=>k ρ d w
 |.val s=>V1 P s w (λv w=>iV n ρ dst v λρ=>k ρ d w) (λc w=>e c ρ d w)
 |.unit s=>U1 P s w (λw=>iV n ρ dst undef λρ=>k ρ d w) (λc w=>e c ρ d w)
 |.bV s=>Up P s w (λv w=>iV n ρ dst v λρ=>k ρ d w) (λc w=>e c ρ d w)
 |.call f args=>Cf P f args w (λv w=>iV n ρ dst v λρ=>k ρ d w) (λc w=>e c ρ d w)
 |.H7 s=>match M.push with
  |none=>False
  |some f=>D1 P s w (λx w=>iV n ρ dst undef λρ=>k ρ (f x d) w) (λc w=>e c ρ d w)
def cZ:Op->Bool|.select ..=>true|_=>false
def rA(o:Oper)(ρ:Env)(d:M.D)(w:Wd)(k:Env->M.D->WP)(e:List PanicEntry->Env->M.D->WP):Prop:=
 cond (!cZ o.op&&(AM o.op).all ρ.kz) (oU P M n (oT ρ.ev o) o.dst ρ d w k e) False
def u9:List Oper->Env->M.D->Wd->(Env->M.D->WP)->(List PanicEntry->Env->M.D->WP)->Prop
 |[],ρ,d,w,k,_=>k ρ d w
 |o::l,ρ,d,w,k,e=>rA P M n o ρ d w (λρ d w=>u9 l ρ d w k e) e
end
abbrev Dt:=Option (Nat×Bool)×List Oper
def oV(g h:Option (Nat×Bool)):Bool:=match g,h with
 |none,none=>true
 |some (i,a),some (j,b)=>beq i j&&(a==b)
 |_,_=>false
def iz:List Oper->List Dt
 |[]=>[]
 |o::l=>match iz l with
  |(g,os)::gs=>match oV o.guard g with|true=>(g,o::os)::gs|false=>(o.guard,[o])::(g,os)::gs
  |[]=>[(o.guard,[o])]
def tB:List Dt->List Nat
 |[]=>[]
 |(g,os)::gs=>os.flatMap Bg++tB gs
def oD(ops:List Oper)(j:Nat):Option Nat:=(ops[j]?).bind (·.dst)
def dD(ops:List Oper):List Dt->List Nat
 |[]=>[]
 |(g,_)::gs=>(match g with|some (j,_)=>(oD ops j).toList|none=>[])++dD ops gs
section
variable (P:Program) (M:Dm) (n:Nat)
def xM(ops:List Oper)(lv:List Nat):List Dt->Env->M.D->Wd->(Env->M.D->WP)->(List PanicEntry->Env->M.D->WP)->Prop
 |[],ρ,d,w,k,_=>k ρ d w
 |(none,os)::gs,ρ,d,w,k,e=>u9 P M n os ρ d w (λρ d w=>xM ops lv gs ρ d w k e) e
 |(some (j,b),os)::gs,ρ,d,w,k,e=>
  match oD ops j with
  |none=>False
  |some t=>
   cond (ρ.has t&&!(bS os).contains t&&(bS os).all (λs=>blt s n))
    (Jn (λK=>Gd (ρ.at t) b (u9 P M n os ρ d w (λρ' d' w'=>jl ρ' (mc ((bS os).filter (tB gs++dD ops gs++lv).contains)) λl=>K l d' w') e)
       (K ((mc ((bS os).filter (tB gs++dD ops gs++lv).contains)).map λ_=>undef) d w))
      (λl d' w'=>IU (gU ρ (bS os) (mc ((bS os).filter (tB gs++dD ops gs++lv).contains)) l) λρ=>xM ops lv gs ρ d' w' k e))
    False
end
def Xq(P:Program)(C:WP)(s:Sem Next)(k:Va->Prop):Prop:=
 ∃v,(∀w,C w->Oper.quietUpon P C w v (s.run P w))/\k v
section
variable (P:Program) (n:Nat) (C:WP)
def xN(o:Oper)(ρ:Env)(k:Env->Prop):Prop:=
  cond (!cZ o.op&&(AM o.op).all ρ.kz)
    (match oT ρ.ev o with
     |.now v=>iV n ρ o.dst v k
     |s=>Xq P C s.dJ λv=>iV n ρ o.dst v k) False
def pN:List Oper->Env->(Env->Prop)->Prop
 |[],ρ,k=>k ρ
 |o::l,ρ,k=>xN P n C o ρ λρ=>pN l ρ k
def xO(ops:List Oper)(lv:List Nat):List Dt->Env->(Env->Prop)->Prop
 |[],ρ,k=>k ρ
 |(none,os)::gs,ρ,k=>pN P n C os ρ λρ=>xO ops lv gs ρ k
 |(some (j,b),os)::gs,ρ,k=>
  match oD ops j with
  |none=>False
  |some t=>
   cond (ρ.has t&&!(bS os).contains t&&(bS os).all (λs=>blt s n))
    (Jp (λK=>Gd (ρ.at t) b (pN P n C os ρ λρ'=>jl ρ' (mc ((bS os).filter (tB gs++dD ops gs++lv).contains)) K)
       (K ((mc ((bS os).filter (tB gs++dD ops gs++lv).contains)).map λ_=>undef)))
      (λl=>IU (gU ρ (bS os) (mc ((bS os).filter (tB gs++dD ops gs++lv).contains)) l) λρ=>xO ops lv gs ρ k))
    False
end
def Bh:Op->Bool
 |.move _|.assign _|.pick ..|.build ..|.convert ..|.load ..|.nilCheck _|.binOp ..|.unOp ..|.makeInterface ..|.makeFunc ..|.slice ..|.fieldAddr ..
 |.field ..|.indexAddr ..|.index ..|.lookup ..|.typeAssert ..|.extract ..|.entry _=>true
 |.call {callee:=.builtin .len,..}|.call {callee:=.builtin .cap,..}|.call {callee:=.builtin .min,..}|.call {callee:=.builtin .max,..}=>true
 |_=>false
def dP:Op->Bool
 |.load ..|.lookup ..|.entry _|.makeInterface ..|.typeAssert ..=>true
 |.call {callee:=.builtin .len,..}=>true
 |_=>false
def eX(ps:List Nat)(o:Oper):Bool:=Bh o.op&&o.dst.toList.all λt=>!ps.contains t
def AN(e:Edge):Bool:=Region.binds .any e
def pO:List Oper->List (List Nat)->List (List Nat)
 |[],acc=>acc
 |o::l,acc=>pO l (acc++[mc ((o.after.toList.filter AN).flatMap λe=>e.on::acc.getD e.on [])])
def IV(ops:List Oper)(j i:Nat):Bool:=((pO ops []).getD j []).contains i
def cG(ops:List Oper)(j:Nat):Bool:=
 (List.range ops.length).any λi=>!Nat.beq i j&&(match ops[i]? with|some o=>dP o.op|none=>false)&&!IV ops j i
def xm(ops:List Oper)(done:List Nat):List Nat:=
 (List.range ops.length).filter λi=>!done.contains i&&(match ops[i]? with|some o=>o.after.toList.all λe=>!AN e||done.contains e.on|none=>false)
def order(ps:List Nat)(ops:List Oper):Nat->List Nat->List Nat
 |0,_=>[]
 |f+1,done=>
  let r:=xm ops done
  match r.find? (λi=>match ops[i]? with|some o=>eX ps o|none=>false)with
  |some i=>i::order ps ops f (i::done)
  |none=>match r with
   |[]=>[]
   |i::_=>i::order ps ops f (i::done)
def Xs(P:Program)(S:WP)(s:Sem Next)(k:Va->Prop):Prop:=∃v,(∀w,S w->s.run P w=.ok (.value v) w)/\k v
section
variable (P:Program) (M:Dm) (n:Nat) (S:WP)
def Du(ps:List Nat)(ops:List Oper)(i:Nat)(o:Oper)(ρ:Env)(d:M.D)(w:Wd)(k:Env->M.D->WP)(e:List PanicEntry->Env->M.D->WP):Prop:=
  match eX ps o with
  |true=>cond ((AM o.op).all ρ.kz) (match oT ρ.ev o with
     |.now v=>iV n ρ o.dst v λρ=>k ρ d w
     |s=>match dP o.op with
       |true=>Xs P S s.dJ λv=>iV n ρ o.dst v λρ=>k ρ d w
       |false=>Xs P (λ_=>True) s.dJ λv=>iV n ρ o.dst v λρ=>k ρ d w) False
  |false=>match cG ops i with
    |true=>rA P M n o ρ d w (λρ d w=>S w/\k ρ d w) e
    |false=>rA P M n o ρ d w k e
def jO(ps:List Nat)(ops:List Oper)(i:Nat)(o:Oper)(sk:Bool):Bool:=match eX ps o with|true=>sk|false=>cG ops i
def iA(ps:List Nat)(ops:List Oper):List Nat->Bool->Env->M.D->Wd->(Env->M.D->WP)->(List PanicEntry->Env->M.D->WP)->Prop
 |[],_,ρ,d,w,k,_=>k ρ d w
 |i::l,sk,ρ,d,w,k,e=>match ops[i]? with
  |none=>False
  |some o=>cond (sk||!dP o.op) (Du P M n S ps ops i o ρ d w (λρ d w=>iA ps ops l (jO ps ops i o sk) ρ d w k e) e) False
def H8(ps:List Nat)(ops:List Oper):List Nat->Bool->Bool
 |[],sk=>sk
 |i::l,sk=>match ops[i]? with
  |none=>false
  |some o=>H8 ps ops l (jO ps ops i o sk)
end
abbrev Bi:=Option (Nat×Bool)×List Nat
def gK(ops:List Oper):List Nat->List Bi
 |[]=>[]
 |i::l=>match ops[i]? with
  |none=>[]
  |some o=>match gK ops l with
   |(g,is)::gs=>match oV o.guard g with|true=>(g,i::is)::gs|false=>(o.guard,[i])::(g,is)::gs
   |[]=>[(o.guard,[i])]
def cP(ops:List Oper)(l:List Nat):List Oper:=l.filterMap λi=>ops[i]?
def AO(ops:List Oper)(gs:List Bi):List Dt:=gs.map λg=>(g.1,cP ops g.2)
section
variable (P:Program) (M:Dm) (n:Nat) (S:WP)
def xP(ps:List Nat)(ops:List Oper)(lv:List Nat):List Bi->Bool->Env->M.D->Wd->(Env->M.D->WP)->(List PanicEntry->Env->M.D->WP)->Prop
 |[],_,ρ,d,w,k,_=>k ρ d w
 |(none,is)::gs,sk,ρ,d,w,k,e=>iA P M n S ps ops is sk ρ d w (λρ d w=>xP ps ops lv gs (H8 ps ops is sk) ρ d w k e) e
 |(some (j,b),is)::gs,sk,ρ,d,w,k,e=>
  match oD ops j with
  |none=>False
  |some t=>
   cond (ρ.has t&&!(bS (cP ops is)).contains t&&(bS (cP ops is)).all (λs=>blt s n)&&(sk||is.all λi=>(match ops[i]? with|some o=>!dP o.op&&(eX ps o||!cG ops i)|none=>false)))
    (Jn (λK=>Gd (ρ.at t) b (iA P M n S ps ops is sk ρ d w (λρ' d' w'=>jl ρ' (mc ((bS (cP ops is)).filter (tB (AO ops gs)++dD ops (AO ops gs)++lv).contains)) λl=>K l d' w') e)
       (K ((mc ((bS (cP ops is)).filter (tB (AO ops gs)++dD ops (AO ops gs)++lv).contains)).map λ_=>undef) d w))
      (λl d' w'=>IU (gU ρ (bS (cP ops is)) (mc ((bS (cP ops is)).filter (tB (AO ops gs)++dD ops (AO ops gs)++lv).contains)) l) λρ=>xP ps ops lv gs (sk&&H8 ps ops is sk) ρ d' w' k e))
    False
end
def gV(ops:List Oper)(o:Oper):List Nat:=Bg o++(match o.guard with|some (g,_)=>(oD ops g).toList|none=>[])
def pP(ops:List Oper)(x y:Oper):Bool:=
 !cZ x.op&&!cZ y.op&&(match x.dst with|some d=>!(gV ops y).contains d&&!(y.dst.toList.contains d)|none=>true)&&(match y.dst with|some d=>!(gV ops x).contains d|none=>true)
def vd(rs:List Nat)(ops:List Oper)(done:List Nat)(i:Nat)(o:Oper):Bool:=
 (o.dst.toList.all λt=>!rs.contains t)&&(List.range ops.length).all λj=>beq j i||done.contains j||(match ops[j]? with
  |some oj=>(oj.after.toList.any λe=>AN e&&beq e.on i)||pP ops o oj
  |none=>true)
def eE(rs:List Nat)(ops:List Oper):List Nat->List Nat->Bool
  |[],done=>match xm ops done with|[]=>true|_=>false
  |i::l,done=>match ops[i]? with
    |none=>false
    |some o=>(xm ops done).contains i&&!cZ o.op&&
      (match eX rs o with
       |true=>vd rs ops done i o
       |false=>match xm ops done with|[_]=>true|_=>false)&&
      eE rs ops l (i::done)
abbrev Row:=List Nat×List Nat×List Nat
def rowOf(ops:List Oper)(o:Oper):Row:=(o.dst.toList,gV ops o,(o.after.toList.filter AN).map (·.on))
def xQ:List Nat->(List Nat->Bool)->Bool
 |[],k=>k []
 |p::l,k=>xQ l λl'=>k (p::l')
def Bj:List Row->(List Row->Bool)->Bool
 |[],k=>k []
 |r::l,k=>xQ r.1 λa=>xQ r.2.1 λb=>xQ r.2.2 λc=>Bj l λl'=>k ((a,b,c)::l')
def tQ(d:Nat):List Nat->Bool
 |[]=>false
 |a::l=>match beq d a with|true=>true|false=>tQ d l
def meet:List Nat->List Nat->Bool
 |[],_=>false
 |a::l,m=>match tQ a m with|true=>true|false=>meet l m
def Re(r s:Row):Bool:=match meet r.1 s.2.1 with|true=>false|false=>match meet r.1 s.1 with|true=>false|false=>!meet s.1 r.2.1
def rB(k:Nat)(r:Row):List Row->Bool
 |[]=>true
 |s::l=>match tQ k s.2.2 with|true=>rB k r l|false=>match Re r s with|true=>rB k r l|false=>false
def vf(k:Nat):List Nat->Bool
 |[]=>true
 |a::l=>match blt a k with|true=>vf k l|false=>false
def Bk:Nat->List Row->Bool
 |_,[]=>true
 |k,r::l=>match vf k r.2.2 with|false=>false|true=>match rB k r l with|false=>false|true=>Bk (k+1) l
def Fa(ops:List Oper):Bool:=match ops.all (λo=>!cZ o.op)with|false=>false|true=>Bj (ops.map (rowOf ops)) (Bk 0)
section
variable (P:Program) (M:Dm) (n:Nat) (hd:List Nat)
def Fb(rs:List Nat)(id:Nat)(ops:List Oper)(draw:Bool)(lv:List Nat)(ρ:Env)(d:M.D)(w:Wd)(k:Env->M.D->WP)(e:List PanicEntry->Env->M.D->WP):Prop:=
 match draw with
 |false=>xM P M n ops lv (iz ops) ρ d w k e
 |true=>match hd.contains id with
  |false=>cond (Fa ops) (∃C:WP,C w.drew/\xO P n C ops lv (iz ops) ρ λρ=>∀w,C w->k ρ d w) False
  |true=>cond (eE rs ops (order rs ops ops.length []) []&&ops.all λo=>!cZ o.op) (∃S:WP,S w.drew/\xP P M n S rs ops lv (gK ops (order rs ops ops.length [])) true ρ d w.drew k e) False
variable (ps rs:List Nat)
def Dv(a:Code)(lv':List Nat)(ρ:Env):List Nat:=mc ((wr a).filter λt=>lv'.contains t&&(ρ.has t||(da a).contains t))
def jP(c:Code)(lv:List Nat)(ρ:Env):List Nat:=mc ((wr c).filter λt=>ρ.has t&&(xL rs c++lv).contains t)
def nc(l:Nat):Code->Bool
 |.label k=>beq k l
 |.seq a b=>nc l a||nc l b
 |_=>false
def Bm:Code->Bool
 |.goto _=>true
 |.seq a b|.cond _ a b=>Bm a||Bm b
 |.block _ a|.loop a|.scope a=>Bm a
 |_=>false
def jumps(c:Code):Option Nat:=match Bm c with|true=>label? c|false=>none
def xR(rs:List Nat)(x:Nat):Code->List Nat
 |.seq a b=>match nc x a with|true=>xR rs x a++xL rs b|false=>xR rs x b
 |_=>[]
def Fe(x:Nat):Code->List Nat
 |.seq a b=>match nc x a with|true=>Fe x a|false=>da a++Fe x b
 |_=>[]
def me(c:Code)(x:Nat)(lv:List Nat)(ρ:Env):List Nat:=mc ((wr c).filter λt=>(xR rs x c++lv).contains t&&(ρ.has t||(Fe x c).contains t))
def den:Code->Option Nat->List Nat->Env->M.D->Wd->Ks M->Prop
 |.skip,none,_,ρ,d,w,K=>K.bV ρ d w
 |.label _,_,_,ρ,d,w,K=>K.bV ρ d w
 |.region id ops draw,none,lv,ρ,d,w,K=>Fb P M n hd ps id ops.toList draw lv ρ d w K.bV K.qX
 |.seq a b,none,lv,ρ,d,w,K=>
  match Ds a with
  |true=>Jn (λJ=>den a none (live rs b lv) ρ d w {K with bV:=λρ' d' w'=>jl ρ' (Dv a (live rs b lv) ρ) λl=>J l d' w'})
    (λl d' w'=>den b none lv (gU ρ (wr a) (Dv a (live rs b lv) ρ) l) d' w' K)
  |false=>den a none (live rs b lv) ρ d w {K with bV:=λρ' d' w'=>den b none lv ρ' d' w' K}
 |.seq a b,some x,lv,ρ,d,w,K=>
  match nc x a with
  |true=>den a (some x) (live rs b lv) ρ d w {K with bV:=λρ' d' w'=>den b none lv ρ' d' w' K}
  |false=>den b (some x) lv ρ d w K
 |.cond c x y,none,lv,ρ,d,w,K=>cond (ρ.kz c) (If (ρ.ev c) (den x none lv ρ d w K) (den y none lv ρ d w K)) False
 |.block id c,none,lv,ρ,d,w,K=>den c none lv ρ d w {K with ext:=λi ρ' d' w'=>match beq i id with|true=>K.bV ρ' d' w'|false=>K.ext i ρ' d' w'}
 |.loop c,none,lv,ρ,d,w,K=>
  jl ρ (jP rs c lv ρ) λl=>Lp l d w λag l d' w'=>den c none (xL rs c++lv) (gU ρ (wr c) (jP rs c lv ρ) l) d' w' {K with bV:=λρ' d' w'=>jl ρ' (jP rs c lv ρ) λl=>ag l d' w'}
 |.scope c,none,lv,ρ,d,w,K=>match jumps c with
  |none=>den c none lv ρ d w {K with tA:=λ_ _ _ _=>False}
  |some x=>Sp (λJ=>den c none (xR rs x c++xL rs c++lv) ρ d w {K with tA:=λy ρ' d' w'=>match beq y x with|true=>jl ρ' (me rs c x lv ρ) λl=>J l d' w'|false=>False})
    (λJ l d' w'=>den c (some x) (xR rs x c++xL rs c++lv) (gU ρ (wr c) (me rs c x lv ρ) l) d' w' {K with tA:=λy ρ' d' w'=>match beq y x with|true=>jl ρ' (me rs c x lv ρ) λl=>J l d' w'|false=>False})
 |.exit i,none,_,ρ,d,w,K=>K.ext i ρ d w
 |.goto l,none,_,ρ,d,w,K=>K.tA l ρ d w
 |.ret,none,_,ρ,d,w,K=>K.ret ρ d w
 |_,_,_,_,_,_,_=>False
end
def eS:Nat->LV->Env
 |_,[]=>[]
 |i,v::l=>(i,v)::eS (i+1) l
def rC(P:Program)(ρ:Env):List ResultVar->Wd->(LV->Prop)->Prop
 |[],_,k=>k []
 |.tmp t::rs,w,k=>cond (ρ.has t) (rC P ρ rs w λl=>k (ρ.at t::l)) False
 |.cell a t::rs,w,k=>cond (ρ.has a) (∃v,(loadAt t (ρ.at a)).run P w=.ok v w/\rC P ρ rs w λl=>k (v::l)) False
def Ff:LV->Va
 |[v]=>v
 |l=>.tuple l.toArray
def dv:List ResultVar->List Nat
 |[]=>[]
 |.tmp t::l=>t::dv l
 |.cell a _::l=>a::dv l
def fin(P:Program)(rs:List ResultVar)(R:ER)(ρ:Env)(w:Wd):Prop:=rC P ρ rs w λl=>R (.returned (Ff l)) w
def pn(R:ER)(c:List PanicEntry)(w:Wd):Prop:=R (.panicked c) w
def body(P:Program)(n:Nat)(hd:List Nat)(rs:List ResultVar)(c:Code)(args:LV)(R:ER)(w:Wd):Prop:=
 den P Dm.no n hd [] (dv rs) c none (dv rs) (eS 0 args) () w
  {bV:=λρ _ w=>fin P rs R ρ w,ext:=λ_ _ _ _=>False,tA:=λ_ _ _ _=>False,ret:=λρ _ w=>fin P rs R ρ w,qX:=λc _ _ w=>R (.panicked c) w}
def Lv(P:Program)(res:Wd->(Va->Prop)->Prop)(R:ER):LD->FrameMode->WP
 |[],.returning,w=>res w λv=>R (.returned v) w
 |[],.panicking chain,w=>R (.panicked chain) w
 |[],.run,_=>False
 |d::ds,u,w=>u≠.run/\∃fv cap f args,d.target=.fn fv cap/\(invoke d.target d.args).run P w=.ok (.enter f args) w/\
   CallsD P f args u w fun
    |.returned _,u',w'=>Lv P res R ds (settle u') w'
    |.panicked chain,u',w'=>Lv P res R ds (raised u' chain) w'
    |.outgrown,_,_=>False
def Dw(P:Program)(n:Nat)(hd:List Nat)(rs:List ResultVar)(c:Code)(args:LV)(R:ER)(w:Wd):Prop:=
 den P Dm.yes n hd (dv rs) (dv rs) c none (dv rs) (eS 0 args) ([]:LD) w
  {bV:=λρ d w=>Lv P (λw k=>rC P ρ rs w λl=>k (Ff l)) R d .returning w,ext:=λ_ _ _ _=>False,tA:=λ_ _ _ _=>False,
   ret:=λρ d w=>Lv P (λw k=>rC P ρ rs w λl=>k (Ff l)) R d .returning w,
   qX:=λc ρ d w=>Lv P (λw k=>rC P ρ rs w λl=>k (Ff l)) R d (.panicking c) w}
end Go.Sh

namespace Go.Sh
structure Ag(n:Nat)(ρ:Env)(a:Act):Prop where
 size:a.tmps.size=n
 val:∀t v,List.lookup t ρ=some v->a.tmps[t]?=some v
def Fr(W:List Nat)(a a':Act):Prop:=∀t,t∉W->a'.tmps[t]?=a.tmps[t]?
theorem Fr.refl(W:List Nat)(a:Act):Fr W a a:=λ_ _=>rfl
theorem Fr.trans{W V:List Nat}{a b c:Act}(h:Fr W a b)(h':Fr V b c):Fr (W++V) a c:=λt ht=>by
 rw[mem_append,not_or]at ht;rw[h' t ht.2,h t ht.1]
theorem Fr.mono{W V:List Nat}{a b:Act}(h:Fr W a b)(hs:∀t,t∈W->t∈V):Fr V a b:=λt ht=>h t λhw=>ht (hs t hw)
theorem Ag.at{n:Nat}{ρ:Env}{a:Act}(h:Ag n ρ a){t:Nat}(ht:ρ.has t=true):a.tmps.getD t undef=ρ.at t/\a.tmps[t]?=some (ρ.at t):=by
 unfold Env.has at ht;obtain⟨v,hv⟩:=Option.isSome_iff_exists.1 ht;have h1:=h.val t v hv;unfold Env.at
 rw[hv];exact⟨by simp[Array.getD_eq_getD_getElem?,h1],h1⟩
theorem Ag.ev{n:Nat}{ρ:Env}{a:Act}(h:Ag n ρ a){x:Operand}(hx:ρ.kz x=true):a.eval x=ρ.ev x:=by
 cases x with
 |tmp t=>exact(h.at hx).1
 |_=>rfl
theorem lookup_cons(ρ:Env)(d t:Nat)(v:Va):List.lookup t ((d,v)::ρ)=if t=d then some v else List.lookup t ρ:=by
 simp only[List.lookup];by_cases h:t=d
 .subst h;simp
 .have:(t==d)=false:=by simpa using h
  simp[this,h]
theorem Ag.put{n:Nat}{ρ:Env}{a:Act}(h:Ag n ρ a){d:Nat}(hd:d<n)(v:Va):Ag n ((d,v)::ρ) (a.put (some d) v) where
 size:=by simp[Act.put,h.size]
 val:=by
  intro t u hu;rw[lookup_cons]at hu;simp only[Act.put];by_cases ht:t=d
  .subst ht;simp at hu;subst hu;simp[h.size,hd]
  .rw[if_neg ht]at hu;rw[Array.getElem?_setIfInBounds_ne (Ne.symm ht)];exact h.val t u hu
theorem Fr.put(a:Act)(dst:Option Nat)(v:Va):Fr dst.toList a (a.put dst v):=by
 intro t ht
 cases dst with
 |none=>rfl
 |some d=>
  have:d≠t:=λh=>ht (by simp[h]);simp[Act.put,Array.getElem?_setIfInBounds_ne this]
theorem kB{n:Nat}{ρ:Env}{a:Act}{dst:Option Nat}{v:Va}{k:Env->Prop}(h:iV n ρ dst v k)(ha:Ag n ρ a):∃ρ',k ρ'/\Ag n ρ' (a.put dst v):=by
 cases dst with
 |none=>exact⟨ρ,h,ha⟩
 |some d=>
  unfold iV at h
  cases hb:blt d n with
  |false=>simp[hb]at h
  |true=>
   simp only[hb,cond_true]at h;exact⟨_,h,ha.put (by simpa[Nat.blt_eq]using hb) v⟩
theorem gA(a:Act)(dst:Option Nat)(v:Va):(a.put dst v).defers=a.defers:=by cases dst<;>rfl
theorem jV{n:Nat}{ρ:Env}{a:Act}{o:Oper}(ha:Ag n ρ a)(hs:cZ o.op=false)(hk:(AM o.op).all ρ.kz=true):
  execOp a.eval o=(oT ρ.ev o).dJ:=by
 have ib:∀cs b,o.op≠.select cs b:=λcs b h=>by rw[h]at hs;cases hs
 rw[←tP ρ.ev (λ_=>rfl) o];refine execOp_congr o ib λx hx=>ha.ev ?_;exact all_eq_true.1 hk x (rz ib hx)
variable {P:Program}{M:Dm}{n:Nat}
theorem Calls.ret{f:FuncId}{args:AV}{w:Wd}{k:VK}{e:EK}
  {R:ER}(h:Calls P f args w (aZ k e)) (h1:∀v w,k v w->R (.returned v) w) (h2:∀c w,e c w->R (.panicked c) w):Calls P f args w R:=
 h.mono λen w' hr=>by
  cases en with
  |returned v=>exact h1 v w' hr
  |panicked c=>exact h2 c w' hr
  |outgrown=>exact hr.elim
theorem nd{o:Oper}{ρ:Env}{d:M.D}{w:Wd}{a:Act}{k:Env->M.D->WP}{e:List PanicEntry->Env->M.D->WP}
  {next:Act->WP}{Q:Exit->Act->WP}(h:rA P M n o ρ d w k e) (ha:Ag n ρ a) (hd:a.defers=M.get d)
  (hk:∀ρ' d' w' a',Ag n ρ' a'->a'.defers=M.get d'->Fr o.dst.toList a a'->k ρ' d' w'->next a' w')
  (he:∀c w',e c ρ d w'->Q (.panic c) a w'):o.wp P a w next Q:=by
 unfold rA at h
 cases hc:(!cZ o.op&&(AM o.op).all ρ.kz)with
 |false=>simp[hc]at h
 |true=>
  simp only[hc,cond_true]at h;simp only[and_eq_true,not_eq_true']at hc;unfold Oper.wp;rw[jV ha hc.1 hc.2];have put:∀{v:Va}{w':Wd}{d':M.D},iV n ρ o.dst v (λρ=>k ρ d' w')->M.get d'=M.get d->next (a.put o.dst v) w':=by
   intro v w' d' hp oW;obtain⟨ρ',h1,h2⟩:=kB hp ha;exact hk ρ' d' w' _ h2 (by rw[gA,hd,oW]) (Fr.put a o.dst v) h1
  cases hs:oT ρ.ev o with
  |now v=>rw[hs]at h;exact put h rfl
  |val s=>
   rw[hs]at h;simp only[oU,V1]at h;simp only[oB.dJ,Sem.run_bind]
   cases hr:s.run P w with
   |ok v w'=>rw[hr]at h;exact put h rfl
   |halt x w'=>
    rw[hr]at h
    cases x<;>first|exact h.elim|exact he _ _ h
  |unit s=>
   rw[hs]at h;simp only[oU,U1]at h;simp only[oB.dJ,Sem.run_bind]
   cases hr:s.run P w with
   |ok v w'=>rw[hr]at h;exact put h rfl
   |halt x w'=>
    rw[hr]at h
    cases x<;>first|exact h.elim|exact he _ _ h
  |bV s=>
   rw[hs]at h;simp only[oU,Up]at h;simp only[oB.dJ]
   cases hr:s.run P w with
   |ok x w'=>
    rw[hr]at h
    cases x<;>first|exact h.elim|exact put h rfl|exact Calls.ret h (λv w h=>put h rfl) (λc w h=>he c w h)
   |halt x w'=>
    rw[hr]at h
    cases x<;>first|exact h.elim|exact he _ _ h
  |call f args=>
   rw[hs]at h;simp only[oU,Cf,Up]at h;simp only[oB.dJ]
   cases hr:(callFunc f args).run P w with
   |ok x w'=>
    rw[hr]at h
    cases x<;>first|exact h.elim|exact put h rfl|exact Calls.ret h (λv w h=>put h rfl) (λc w h=>he c w h)
   |halt x w'=>
    rw[hr]at h
    cases x<;>first|exact h.elim|exact he _ _ h
  |H7 s=>
   rw[hs]at h;simp only[oU]at h
   cases hp:M.push with
   |none=>rw[hp]at h;exact h.elim
   |some f=>
    rw[hp]at h;simp only[D1]at h;simp only[oB.dJ,Sem.run_bind]
    cases hr:s.run P w with
    |ok v w'=>
     rw[hr]at h;obtain⟨ρ',h1,h2⟩:=kB h ha;show next (({a with defers:=v::a.defers}:Act).put o.dst undef) w'
     have e1:(({a with defers:=v::a.defers}:Act).put o.dst undef).tmps=(a.put o.dst undef).tmps:=by cases o.dst<;>rfl
     refine hk ρ' (f v d) w' _ ⟨by rw[e1];exact h2.size,by rw[e1];exact h2.val⟩ ?_ ?_ h1
     .rw[gA,M.xJ f hp,hd]
     .intro t ht;rw[e1];exact Fr.put a o.dst undef t ht
    |halt x w'=>
     rw[hr]at h
     cases x<;>first|exact h.elim|exact he _ _ h
theorem nf{ops:Array Oper}{rest:List Oper}{Q:Exit->Act->WP}{e:List PanicEntry->Env->M.D->WP}:
  ∀(l:List Oper) (ρ:Env) (d:M.D) (w:Wd) (a:Act) (k:Env->M.D->WP),
  u9 P M n l ρ d w k e->Ag n ρ a->a.defers=M.get d->
  (∀a',Fr (bS l) a a'->∀o∈l,Region.wanted o (yielded ops a'.tmps)=true)->
  (∀ρ' d' w' a',Ag n ρ' a'->a'.defers=M.get d'->Fr (bS l) a a'->k ρ' d' w'->wpList P ops Q rest a' w')->
  (∀c ρ' d' w' a',Ag n ρ' a'->a'.defers=M.get d'->Fr (bS l) a a'->e c ρ' d' w'->Q (.panic c) a' w')->
  wpList P ops Q (l++rest) a w
 |[],ρ,d,w,a,k,h,ha,hd,_,hk,_=>hk ρ d w a ha hd (Fr.refl _ _) h
 |o::l,ρ,d,w,a,k,h,ha,hd,hw,hk,he=>by
  have fU:∀t,t∈o.dst.toList++bS l->t∈bS (o::l):=by
   intro t ht;rw[mem_append]at ht;unfold bS at*
   cases gJ:o.dst with
   |none=>rw[List.filterMap_cons_none gJ];rcases ht with h'|h';(simp[gJ]at h');exact h'
   |some x=>rw[List.filterMap_cons_some gJ];rcases ht with h'|h';(simp[gJ]at h';simp[h']);exact mem_cons_of_mem _ h'
  have oX:∀t,t∈o.dst.toList->t∈bS (o::l):=λt ht=>fU t (mem_append_left _ ht);have hsub2:∀t,t∈bS l->t∈bS (o::l):=λt ht=>fU t (List.mem_append_right _ ht);show(if Region.wanted o (yielded ops a.tmps)then _ else _)
  rw[if_pos (hw a (Fr.refl _ _) o (mem_cons_self ..))];refine .inl (nd h ha hd (λρ' d' w' a' fH eg hf jW=>?_) (λc w' h'=>he c ρ d w' a ha hd (Fr.refl _ _) h'));refine nf l ρ' d' w' a' k jW fH eg (λdt dk o' fj=>hw dt ((hf.trans dk).mono fU) o' (mem_cons_of_mem _ fj)) ?_ ?_
  .intro ρ'' dG dE dt bI bL dk jX;exact hk ρ'' dG dE dt bI bL ((hf.trans dk).mono fU) jX
  .intro c ρ'' dG dE dt bI bL dk h';exact he c ρ'' dG dE dt bI bL ((hf.trans dk).mono fU) h'
def skip(l:List Oper)(a:Act):Act:=l.foldl (λa o=>a.put o.dst undef) a
theorem pQ{ops:Array Oper}{rest:List Oper}{Q:Exit->Act->WP}{w:Wd}:∀(l:List Oper) (a:Act),
  (∀a',Fr (bS l) a a'->∀o∈l,Region.wanted o (yielded ops a'.tmps)=false)->wpList P ops Q rest (skip l a) w->wpList P ops Q (l++rest) a w
 |[],a,_,h=>h
 |o::l,a,hw,h=>by
  have fU:∀t,t∈o.dst.toList++bS l->t∈bS (o::l):=by
   intro t ht;rw[mem_append]at ht;unfold bS at*
   cases gJ:o.dst with
   |none=>rw[List.filterMap_cons_none gJ];rcases ht with h'|h';(simp[gJ]at h');exact h'
   |some x=>rw[List.filterMap_cons_some gJ];rcases ht with h'|h';(simp[gJ]at h';simp[h']);exact mem_cons_of_mem _ h'
  show(if Region.wanted o (yielded ops a.tmps)then _ else _)
  rw[if_neg (by rw[hw a (Fr.refl _ _) o (mem_cons_self ..)];simp)];exact pQ l (a.put o.dst undef) (λa' hf o' fj=>hw a' (((Fr.put a o.dst undef).trans hf).mono fU) o' (mem_cons_of_mem _ fj)) h
theorem gL:∀(l:List Oper) (a:Act),Fr (bS l) a (skip l a)
 |[],a=>Fr.refl _ _
 |o::l,a=>by
  have h:=(Fr.put a o.dst undef).trans (gL l (a.put o.dst undef));refine Fr.mono h λt ht=>?_;rw[mem_append]at ht;unfold bS at*
  cases gJ:o.dst with
  |none=>rw[List.filterMap_cons_none gJ];rcases ht with h'|h';(simp[gJ]at h');exact h'
  |some x=>rw[List.filterMap_cons_some gJ];rcases ht with h'|h';(simp[gJ]at h';simp[h']);exact mem_cons_of_mem _ h'
theorem fy:∀(l:List Oper) (a:Act),(skip l a).tmps.size=a.tmps.size
 |[],a=>rfl
 |o::l,a=>by
  show(skip l (a.put o.dst undef)).tmps.size=_
  rw[fy l];cases o.dst<;>simp[Act.put]
theorem ez:∀(l:List Oper) (a:Act),(skip l a).defers=a.defers
 |[],a=>rfl
 |o::l,a=>by show(skip l (a.put o.dst undef)).defers=_;rw[ez l,gA]
theorem iB:∀(l:List Oper) (a:Act) (t:Nat),t∈bS l->t<a.tmps.size->(skip l a).tmps[t]?=some undef
 |o::l,a,t,ht,bO=>by
  show(skip l (a.put o.dst undef)).tmps[t]?=_
  have hs:(a.put o.dst undef).tmps.size=a.tmps.size:=by cases o.dst<;>simp[Act.put]
  by_cases hm:t∈bS l
  .exact iB l _ t hm (by rw[hs];exact bO)
  .rw[gL l _ t hm];unfold bS at ht
   cases gJ:o.dst with
   |none=>rw[List.filterMap_cons_none gJ]at ht;exact absurd ht hm
   |some x=>
    rw[List.filterMap_cons_some gJ]at ht;rcases mem_cons.1 ht with rfl|h'
    .simp[Act.put,bO]
    .exact absurd h' hm
theorem fN{ρ:Env}{outs:List Nat}{k:LV->Prop}(h:jl ρ outs k):(∀t∈outs,ρ.has t=true)/\k (outs.map ρ.at):=by
 unfold jl at h
 cases hc:outs.all ρ.has with
 |false=>simp[hc]at h
 |true=>simp only[hc,cond_true]at h;exact⟨all_eq_true.1 hc,h⟩
theorem lookup_append(l m:Env)(t:Nat):List.lookup t (l++m)=(List.lookup t l).orElse λ_=>List.lookup t m:=by
 induction l with
 |nil=>simp
 |cons p l ih=>
  obtain⟨d,v⟩:=p;rw[cons_append,lookup_cons,lookup_cons,ih];split<;>simp
theorem oE(ρ:Env)(W:List Nat)(t:Nat)(v:Va)(h:List.lookup t (ρ.filter λp=>!W.contains p.1)=some v):t∉W/\List.lookup t ρ=some v:=by
 induction ρ with
 |nil=>cases h
 |cons p ρ ih=>
  obtain⟨d,u⟩:=p;rw[lookup_cons];by_cases hW:W.contains d=true
  .rw[List.filter_cons_of_neg (by simp only[hW];simp)]at h;obtain⟨h1,h2⟩:=ih h;refine⟨h1,?_⟩;rw[if_neg (λe=>h1 (by rw[e];simpa using hW))];exact h2
  .rw[List.filter_cons_of_pos (by simp only[hW];rfl),lookup_cons]at h;by_cases ht:t=d
   .subst ht;refine⟨by simpa using hW,?_⟩;simpa using h
   .rw[if_neg ht]at h⊢;exact ih h
theorem mf(f:Nat->Va):∀(outs:List Nat) (t:Nat) (v:Va),List.lookup t (kA outs (outs.map f))=some v->t∈outs/\v=f t
 |[],t,v,h=>by cases h
 |s::ss,t,v,h=>by
  simp only[map_cons,kA,List.headD_cons,List.tail_cons]at h;rw[lookup_cons]at h;by_cases ht:t=s
  .subst ht;rw[if_pos rfl]at h;cases h;exact⟨mem_cons_self ..,rfl⟩
  .rw[if_neg ht]at h;obtain⟨h1,h2⟩:=mf f ss t v h;exact⟨mem_cons_of_mem _ h1,h2⟩
theorem Ag.new{n:Nat}{ρ:Env}{a a':Act}{W outs:List Nat}(f:Nat->Va)(ha:Ag n ρ a)(hs:a'.tmps.size=n)(hf:Fr W a a')
  (ho:∀t∈outs,a'.tmps[t]?=some (f t)):Ag n (gU ρ W outs (outs.map f)) a' where
 size:=hs
 val:=by
  intro t v h;unfold gU at h;rw[lookup_append]at h
  cases hb:List.lookup t (kA outs (outs.map f))with
  |some u=>
   rw[hb]at h;obtain⟨h1,h2⟩:=mf f outs t u hb;simp at h;subst h;subst h2
   exact ho t h1
  |none=>
   rw[hb]at h;obtain⟨h1,h2⟩:=oE ρ W t v (by simpa using h);rw[hf t h1];exact ha.val t v h2
theorem gh{t:Nat}:∀{l:List Nat},t∈mc l->t∈l
 |[],h=>h
 |a::l,h=>by
  unfold mc at h;split at h
  .exact mem_cons_of_mem _ (gh h)
  .rcases mem_cons.1 h with rfl|h'
   .exact mem_cons_self ..
   .exact mem_cons_of_mem _ (gh h')
theorem rD{g h:Option (Nat×Bool)}(e:oV g h=true):g=h:=by
 unfold oV at e;split at e
 .rfl
 .rename_i i a j b
  simp only[and_eq_true,beq_iff_eq]at e;rw[Nat.eq_of_beq_eq_true e.1,e.2]
 .cases e
theorem lA:∀(l:List Oper),(iz l).flatMap (·.2)=l/\∀g∈iz l,∀o∈g.2,o.guard=g.1
 |[]=>⟨rfl,λ_ h=>by cases h⟩
 |o::l=>by
  obtain⟨h1,h2⟩:=lA l;unfold iz
  cases hg:iz l with
  |nil=>
   rw[hg]at h1;simp only[List.flatMap_nil]at h1;subst h1;refine⟨rfl,λg hg o' fj=>?_⟩;simp at hg;subst hg;simp at fj;subst fj;rfl
  |cons p gs=>
   obtain⟨g,os⟩:=p;rw[hg]at h1 h2;simp only[]
   cases hs:oV o.guard g with
   |true=>
    refine⟨by simpa using h1,λq hq o' fj=>?_⟩;rcases mem_cons.1 hq with rfl|hq
    .rcases mem_cons.1 fj with rfl|fj
     .exact rD hs
     .exact h2 _ (mem_cons_self ..) o' fj
    .exact h2 q (mem_cons_of_mem _ hq) o' fj
   |false=>
    refine⟨by simpa using h1,λq hq o' fj=>?_⟩;rcases mem_cons.1 hq with rfl|hq
    .simp at fj;subst fj;rfl
    .exact h2 q hq o' fj
theorem gp{ops:Array Oper}{o:Oper}{j t:Nat}{b c:Bool}{tmps:AV}(hg:o.guard=some (j,b))(ht:(ops[j]?).bind (·.dst)=some t)
  (hv:tmps[t]?=some (.bool c)):Region.wanted o (yielded ops tmps)=(c==b):=by
 simp only[Region.wanted,hg,yielded,ht,Option.bind_some,hv]
 cases c<;>cases b<;>rfl
theorem lB{ops:Array Oper}{o:Oper}{j t:Nat}{b:Bool}{v:Va}{tmps:AV}(hg:o.guard=some (j,b))(ht:(ops[j]?).bind (·.dst)=some t)
  (hv:tmps[t]?=some v) (hn:∀c,v=.bool c->False):Region.wanted o (yielded ops tmps)=false:=by
 simp only[Region.wanted,hg,yielded,ht,Option.bind_some,hv]
 cases v<;>first|exact(hn _ rfl).elim|rfl
theorem mP(l:List Oper)(j:Nat):oD l j=((l.toArray)[j]?).bind (·.dst):=by simp[oD]
theorem pR{l:List Oper}{lv:List Nat}{Q:Exit->Act->WP}{e:List PanicEntry->Env->M.D->WP}:
  ∀(gs:List Dt) (ρ:Env) (d:M.D) (w:Wd) (a:Act) (k:Env->M.D->WP),
  xM P M n l lv gs ρ d w k e->Ag n ρ a->a.defers=M.get d->(∀g∈gs,∀o∈g.2,o.guard=g.1)->
  (∀ρ' d' w' a',Ag n ρ' a'->a'.defers=M.get d'->Fr (bS (gs.flatMap (·.2))) a a'->k ρ' d' w'->Q .normal a' w')->
  (∀c ρ' d' w' a',Ag n ρ' a'->a'.defers=M.get d'->Fr (bS (gs.flatMap (·.2))) a a'->e c ρ' d' w'->Q (.panic c) a' w')->
  wpList P l.toArray Q (gs.flatMap (·.2)) a w
 |[],ρ,d,w,a,k,h,ha,hd,_,hk,_=>hk ρ d w a ha hd (Fr.refl _ _) h
 |(g,os)::gs,ρ,d,w,a,k,h,ha,hd,hg,hk,he=>by
  have fU:∀t,t∈bS os++bS (gs.flatMap (·.2))->t∈bS (((g,os)::gs).flatMap (·.2)):=by
   intro t ht;simpa[bS]using ht
  have oX:∀t,t∈bS os->t∈bS (((g,os)::gs).flatMap (·.2)):=λt ht=>fU t (mem_append_left _ ht);rw[List.flatMap_cons]
  cases g with
  |none=>
   refine nf os ρ d w a _ h ha hd ?_ ?_ ?_
   .intro a' _ o ho;have:=hg _ (mem_cons_self ..) o ho;simp[Region.wanted,show o.guard=none from this]
   .intro ρ' d' w' a' fH eg hf jW;refine pR gs ρ' d' w' a' k jW fH eg (λg' rE=>hg g' (mem_cons_of_mem _ rE)) ?_ ?_
    .intro ρ'' dG dE dt bI bL dk jX;exact hk ρ'' dG dE dt bI bL ((hf.trans dk).mono fU) jX
    .intro c ρ'' dG dE dt bI bL dk h';exact he c ρ'' dG dE dt bI bL ((hf.trans dk).mono fU) h'
   .intro c ρ' d' w' a' fH eg hf h';exact he c ρ' d' w' a' fH eg (hf.mono oX) h'
  |some jb=>
   obtain⟨j,b⟩:=jb;unfold xM at h
   cases ht:oD l j with
   |none=>rw[ht]at h;exact h.elim
   |some t=>
    rw[ht]at h;simp only[]at h;have vY:((l.toArray)[j]?).bind (·.dst)=some t:=by rw[←mP];exact ht
    cases hc:(ρ.has t&&!(bS os).contains t&&(bS os).all (λs=>blt s n))with
    |false=>rw[hc]at h;exact h.elim
    |true=>
     rw[hc]at h;simp only[cond_true]at h;simp only[and_eq_true,not_eq_true',all_eq_true]at hc;obtain⟨⟨h1,h2⟩,h3⟩:=hc;have jI:t∉bS os:=by simpa using h2
     have bO:∀s∈bS os,s<n:=λs hs=>by have:=h3 s hs;simpa[Nat.blt_eq]using this
     obtain⟨K,IW,rF⟩:=h;have fz:=(ha.at h1).2;have behind:∀(f:Nat->Va) (d':M.D) (w':Wd) (a':Act),a'.tmps.size=n->a'.defers=M.get d'->Fr (bS os) a a'->
       (∀s∈mc ((bS os).filter (tB gs++dD l gs++lv).contains),a'.tmps[s]?=some (f s))->
       K ((mc ((bS os).filter (tB gs++dD l gs++lv).contains)).map f) d' w'->wpList P l.toArray Q (gs.flatMap (·.2)) a' w':=by
      intro f d' w' a' tR eg hf ho jW;refine pR gs _ d' w' a' k (Eq.mp (pM _ _) (IW _ _ _ jW)) (Ag.new f ha tR hf ho) eg (λg' rE=>hg g' (mem_cons_of_mem _ rE)) ?_ ?_
      .intro ρ'' dG dE dt bI bL dk jX;exact hk ρ'' dG dE dt bI bL ((hf.trans dk).mono fU) jX
      .intro c ρ'' dG dE dt bI bL dk h';exact he c ρ'' dG dE dt bI bL ((hf.trans dk).mono fU) h'
     unfold Gd at rF;split at rF
     .rename_i c hv
      rw[hv]at fz;by_cases rG:c=b
      .refine nf os ρ d w a _ (rF.1 rG) ha hd ?_ ?_ ?_
       .intro a' hf o ho;rw[gp (hg _ (mem_cons_self ..) o ho) vY (by rw[hf t jI];exact fz),rG];simp
       .intro ρ' d' w' a' fH eg hf jW;obtain⟨g1,g2⟩:=fN jW;exact behind ρ'.at d' w' a' fH.size eg hf (λs hs=>(fH.at (g1 s hs)).2) g2
       .intro c ρ' d' w' a' fH eg hf h';exact he c ρ' d' w' a' fH eg (hf.mono oX) h'
      .have xS:c=!b:=by cases c<;>cases b<;>simp_all
       refine pQ os a ?_ ?_
       .intro a' hf o ho;rw[gp (hg _ (mem_cons_self ..) o ho) vY (by rw[hf t jI];exact fz)];simpa using rG
       .refine behind (λ_=>undef) d w (skip os a) (by rw[fy];exact ha.size) (by rw[ez];exact hd) (gL os a) ?_ (rF.2 xS);intro s hs;have hm:=(mem_filter.1 (gh hs)).1;exact iB os a s hm (by rw[ha.size];exact bO s hm)
     .rename_i hv
      refine pQ os a ?_ ?_
      .intro a' hf o ho;exact lB (hg _ (mem_cons_self ..) o ho) vY (by rw[hf t jI];exact fz) hv
      .refine behind (λ_=>undef) d w (skip os a) (by rw[fy];exact ha.size) (by rw[ez];exact hd) (gL os a) ?_ rF;intro s hs;have hm:=(mem_filter.1 (gh hs)).1;exact iB os a s hm (by rw[ha.size];exact bO s hm)
end Go.Sh


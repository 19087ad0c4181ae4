import Derived.LaidEql
import Derived.Stop.Asserts
import Derived.Test.YtoddjlclpnoomaaGreatDoorU4
import Derived.Test.YtoddjlclpnoomaaGreatDoorU9
set_option linter.unusedVariables false
set_option linter.unusedSimpArgs false
set_option maxRecDepth 100000
open Go.Proofs.Tryz
open Go.Instr (loadAt storeAt typeAssert)
open List (mem_cons drop_eq_getElem_cons getElem_mem not_mem_nil toList_toArray isPrefixOf take_succ_cons drop_eq_nil_of_le)
open Nat (lt_or_ge le_refl)
open Go.Builtin (append_)
open Go.Value (cells)
open Bool (and_eq_true false_eq_true)
open Option (map_eq_some_iff)
open Go.World (setCell)
namespace Go
section
variable {P:Program}(w:Wd)
theorem ix(d:Nat){ti tn:TypeId}{ms:Array (String×TypeId)}{i:TypeInfo}{k:IntKind}(a b:Int)
  (hi:P.underlying ti=some (.interface ms)) (hn:P.underlying tn=some (.int k)) (wA:P.info? tn=some i) (wB:i.comparable=true):
  (Op.equalIn (d+2) ti (.iface tn (.int k a)) (.iface tn (.int k b))).run P w=.ok (a==b) w:=by
 simp[Op.equalIn,run_underlying hi,run_underlying hn,typeInfo,wA,wB]
theorem run_eql_iface_int{ti tn:TypeId}{ms:Array (String×TypeId)}{i:TypeInfo}{k:IntKind}(a b:Int)
  (hi:P.underlying ti=some (.interface ms)) (hn:P.underlying tn=some (.int k)) (wA:P.info? tn=some i) (wB:i.comparable=true):
  (binOp .eql ti (.iface tn (.int k a)) (.iface tn (.int k b))).run P w=.ok (.bool (a==b)) w:=by
 simp only[binOp];simp[Op.equal,Op.maxDepth,ix w 9998 a b hi hn wA wB]
end
end Go
namespace Go.Proofs.YtoddjlclpnoomaaGreatDoor
open Go.Sh
set_option maxRecDepth 100000
def RT(t:TypeId):Va:=.iface 128 (.agg #[.pointer (some ⟨12,t,none⟩)])
theorem wC(t:TypeId)(v:Va)(w:Wd):(callFunc 37 #[.iface t v]).run prog w=.ok (.value (RT t)) w:=ai
theorem zY(w:Wd):(invoke (.fn (.method "Comparable") #[]) #[RT 272]).run prog w=.ok (.value (.bool true)) w:=ai
theorem wD(w:Wd):(invoke (.fn (.method "Comparable") #[]) #[RT 23]).run prog w=.ok (.value (.bool true)) w:=ai
theorem IV(w:Wd)(a:Addr):(callFunc 93 #[.iface 116 (.pointer (some a))]).run prog w=.ok (.value (.agg #[.pointer (some ⟨12,116,none⟩),.pointer (some ⟨w.heap.size,0,none⟩),.int .u64 150])) (w.alloc (.cells #[.pointer (some a)] 116)):=ai
theorem IW(w:Wd)(b:Nat):(callFunc 94 #[.agg #[.pointer (some ⟨12,116,none⟩),.pointer (some ⟨b,0,none⟩),.int .u64 150]]).run prog w=.ok (.value (RT 116)) w:=ai
theorem si(w:Wd):(invoke (.fn (.method "Kind") #[]) #[RT 116]).run prog w=.ok (.value (.int .u8 22)) w:=ai
theorem sj(w:Wd):(invoke (.fn (.method "Elem") #[]) #[RT 116]).run prog w=.ok (.value (RT 23)) w:=ai
theorem zZ(w:Wd):(invoke (.fn (.method "Implements") #[]) #[RT 23,RT 31]).run prog w=.ok (.value (.bool true)) w:=ai
theorem uC(w:Wd):(invoke (.fn (.method "AssignableTo") #[]) #[RT 23,RT 23]).run prog w=.ok (.value (.bool true)) w:=ai
open Go.Extern in
theorem BM(w:Wd)(b:Nat):(ReflectliteValue.parts (.agg #[.pointer (some ⟨12,116,none⟩),.pointer (some ⟨b,0,none⟩),.int .u64 150])).run prog w=.ok (some (116,⟨b,0,none⟩,150)) w:=ai
theorem lV(t:TypeId)(a:Addr)(v:Va)(w:Wd)(ht:(isAgg t).run prog w=.ok false w)(h:w.cell? a=some v):(loadVar t a).run prog w=.ok v w:=by
 simp[loadVar,ht,h,go_sem,Result.andThen]
theorem sV(t:TypeId)(a:Addr)(n:Int)(x:Va)(w:Wd)(hs:(sizeOf t).run prog w=.ok 1 w)(h:w.cell? a=some x)(hf:w.frozen? a=false):(storeVar t a (.int .i64 n)).run prog w=.ok () (w.setCell a (.int .i64 n)):=by
 simp[storeVar,hs,h,hf,go_sem,Result.andThen,storeCells]
open Go.Extern
theorem vm(z:Sem Va)(f:TypeId->Addr->Nat->Nat->Sem Va)(V:Va)(w:Wd)(t:TypeId)(a:Addr)(fl:Nat)(hp:(ReflectliteValue.parts V).run prog w=.ok (some (t,a,fl)) w):(ReflectliteValue.method z f #[V]).run prog w=(f t a fl (fl%32)).run prog w:=by
 have:(ReflectliteValue.method z f #[V]).run prog w=((ReflectliteValue.parts V).run prog w).andThen λr w=>(match r with|none=>z|some (t,a,fl)=>f t a fl (fl%32)).run prog w:=by
  rw[←Sem.run_bind];rfl
 rw[this,hp];rfl
theorem IX(w:Wd)(b:Nat)(a:Addr)(h:w.cell? ⟨b,0,none⟩=some (.pointer (some a))):(callFunc 95 #[.agg #[.pointer (some ⟨12,116,none⟩),.pointer (some ⟨b,0,none⟩),.int .u64 150]]).run prog w=.ok (.value (.bool false)) w:=by
 have hl:=lV 116 _ _ w ai h;rw[@run_callFunc_extern prog 95 _ (ReflectliteValue.method (ReflectliteValue.valueError "reflectlite.Value.IsNil" 0) ReflectliteValue.isNil) func95 ai ai ai ai,vm _ _ _ _ _ _ _ (BM w b)];simp[ReflectliteValue.isNil,hl,Sem.run_bind,Result.andThen]
theorem DR(w:Wd)(b:Nat)(a:Addr)(h:w.cell? ⟨b,0,none⟩=some (.pointer (some a))):(callFunc 153 #[.agg #[.pointer (some ⟨12,116,none⟩),.pointer (some ⟨b,0,none⟩),.int .u64 150]]).run prog w=.ok (.value (.agg #[.pointer (some ⟨12,23,none⟩),.pointer (some a),.int .u64 386])) w:=by
 have hl:=lV 116 _ _ w ai h;have he:(Rtype.elem? 116).run prog w=.ok (some 23) w:=ai
 have hm:(ReflectliteValue.mk 23 a ReflectliteValue.flagAddr).run prog w=.ok (.agg #[.pointer (some ⟨12,23,none⟩),.pointer (some a),.int .u64 386]) w:=ai
 rw[@run_callFunc_extern prog 153 _ (ReflectliteValue.method (ReflectliteValue.valueError "reflectlite.Value.Elem" 0) ReflectliteValue.elem) func153 ai ai ai ai,vm _ _ _ _ _ _ _ (BM w b)];simp[ReflectliteValue.elem,hl,he,hm,Sem.run_bind,Result.andThen]
theorem QT(w:Wd)(a:Addr):(ReflectliteValue.parts (.agg #[.pointer (some ⟨12,23,none⟩),.pointer (some a),.int .u64 386])).run prog w=.ok (some (23,a,386)) w:=ai
theorem IY(w:Wd)(a:Addr):(ReflectliteValue.parts (.agg #[.pointer (some ⟨12,23,none⟩),.pointer (some a),.int .u64 130])).run prog w=.ok (some (23,a,130)) w:=ai
theorem DS(w:Wd)(a b:Addr)(v:Int)(x:Va)(h:w.cell? b=some (.int .i64 v))(ha:w.cell? a=some x)(hf:w.frozen? a=false):
  (callFunc 154 #[.agg #[.pointer (some ⟨12,23,none⟩),.pointer (some a),.int .u64 386],.agg #[.pointer (some ⟨12,23,none⟩),.pointer (some b),.int .u64 130]]).run prog w=.ok (.value (.tuple #[])) (w.setCell a (.int .i64 v)):=by
 have hl:=lV 23 _ _ w ai h;have hs:=sV 23 a v x w ai ha hf;have hd:(Rtype.directlyAssignable 23 23).run prog w=.ok true w:=ai
 rw[@run_callFunc_extern prog 154 _ ReflectliteValue.set func154 ai ai ai ai];have:(ReflectliteValue.set #[.agg #[.pointer (some ⟨12,23,none⟩),.pointer (some a),.int .u64 386],.agg #[.pointer (some ⟨12,23,none⟩),.pointer (some b),.int .u64 130]]).run prog w=.ok (.tuple #[]) (w.setCell a (.int .i64 v)):=by
  refine(Sem.run_bind (P:=_) (x:=ReflectliteValue.parts (.agg #[.pointer (some ⟨12,23,none⟩),.pointer (some a),.int .u64 386])) (f:=_) (w:=_)).trans ?_;rw[QT,Result.andThen_ok];refine(Sem.run_bind (P:=_) (x:=ReflectliteValue.parts (.agg #[.pointer (some ⟨12,23,none⟩),.pointer (some b),.int .u64 130])) (f:=_) (w:=_)).trans ?_;rw[IY,Result.andThen_ok];simp[hl,hs,hd,Sem.run_bind,Result.andThen,ReflectliteValue.flagAddr]
 rw[this];rfl
theorem DT(w:Wd)(v:Int):(callFunc 93 #[.iface 23 (.int .i64 v)]).run prog w=.ok (.value (.agg #[.pointer (some ⟨12,23,none⟩),.pointer (some ⟨w.heap.size,0,none⟩),.int .u64 130])) (w.alloc (.cells #[.int .i64 v] 23)):=ai
theorem uD(w:Wd):(invoke (.fn (.method "Kind") #[]) #[RT 23]).run prog w=.ok (.value (.int .u8 2)) w:=ai
theorem wE:prog.underlying 31=some (.interface #[("Error",58)]):=ai
theorem Y6:prog.underlying 23=some (.int .i64):=ai
theorem Wy(w:Wd)(cx cy:Bool)(tx ty:TypeId)(vx vy:Va)(aI:tx≠ty):(Bo .eql 31 cx cy (.iface tx vx) (.iface ty vy)).run prog w=.ok (.bool false) w:=by
 have:=run_eql_iface_types (P:=prog) tx ty vx vy wE aI w
 cases cx<;>cases cy<;>simp[Bo,go_sem,this]
theorem nM(w:Wd)(cx:Bool)(t:TypeId)(v:Va):(Bo .eql 31 cx true (.iface t v) .nilIface).run prog w=.ok (.bool false) w:=by
 cases cx<;>simp[Bo,go_sem]
theorem wF(w:Wd)(cx:Bool)(t:TypeId)(v:Va):(Bo .neq 31 cx true (.iface t v) .nilIface).run prog w=.ok (.bool true) w:=by
 cases cx<;>simp[Bo,go_sem]
theorem IZ(w:Wd)(cx:Bool):(Bo .eql 31 cx true .nilIface .nilIface).run prog w=.ok (.bool true) w:=by
 cases cx<;>simp[Bo,go_sem]
theorem Aa(w:Wd)(cx:Bool):(Bo .neq 31 cx true .nilIface .nilIface).run prog w=.ok (.bool false) w:=by
 cases cx<;>simp[Bo,go_sem]
theorem Y7(w:Wd)(cx cy:Bool)(a:Addr):(Bo .eql 31 cx cy (.iface 272 (.pointer (some a))) (.iface 272 (.pointer (some a)))).run prog w=.ok (.bool true) w:=by
 obtain⟨i,hi,DU⟩:=map_eq_some_iff.1 (show(prog.info? 272).map (·.comparable)=some true by kernel_rfl);obtain⟨j,hj,Wz⟩:=map_eq_some_iff.1 (show(prog.info? 274).map (·.size)=some 1 by kernel_rfl);have:=run_eql_iface_ptr_same (P:=prog) w a wE (show prog.underlying 272=some (.pointer 274)by kernel_rfl) hi DU hj
 cases cx<;>cases cy<;>simp[Bo,go_sem,this]
theorem WA(w:Wd)(cx cy:Bool)(a b:Int):(Bo .eql 31 cx cy (.iface 23 (.int .i64 a)) (.iface 23 (.int .i64 b))).run prog w=.ok (.bool (a==b)) w:=by
 obtain⟨i,hi,DU⟩:=map_eq_some_iff.1 (show(prog.info? 23).map (·.comparable)=some true by kernel_rfl);have h2:=run_eql_iface_int (P:=prog) w a b wE Y6 hi DU
 cases cx<;>cases cy<;>simp[Bo,go_sem,h2]
theorem sn:prog.underlying 130=some (.interface #[("Is",132)]):=ai
theorem sq:prog.underlying 133=some (.interface #[("Unwrap",134)]):=ai
theorem DV:prog.underlying 135=some (.interface #[("Unwrap",137)]):=ai
theorem uE(v:Va)(x:TypeId)(w:Wd):(typeAssert (.iface 256 v) x 130 true).run prog w=.ok (.tuple #[.nilIface,.bool false]) w:=Go.run_typeAssert_lacksB sn ai ai v x w
theorem qw(v:Va)(x:TypeId)(w:Wd):(typeAssert (.iface 23 v) x 130 true).run prog w=.ok (.tuple #[.nilIface,.bool false]) w:=Go.run_typeAssert_lacksB sn ai ai v x w
theorem wG(v:Va)(x:TypeId)(w:Wd):(typeAssert (.iface 76 v) x 130 true).run prog w=.ok (.tuple #[.nilIface,.bool false]) w:=Go.run_typeAssert_lacksB sn ai ai v x w
theorem sr(v:Va)(x:TypeId)(w:Wd):(typeAssert (.iface 256 v) x 133 true).run prog w=.ok (.tuple #[.iface 256 v,.bool true]) w:=Go.run_typeAssert_hasB sq ai v x w
theorem uF(v:Va)(x:TypeId)(w:Wd):(typeAssert (.iface 76 v) x 133 true).run prog w=.ok (.tuple #[.iface 76 v,.bool true]) w:=Go.run_typeAssert_hasB sq ai v x w
theorem qx(v:Va)(x:TypeId)(w:Wd):(typeAssert (.iface 23 v) x 133 true).run prog w=.ok (.tuple #[.nilIface,.bool false]) w:=Go.run_typeAssert_lacksB sq ai ai v x w
theorem qy(v:Va)(x:TypeId)(w:Wd):(typeAssert (.iface 23 v) x 135 true).run prog w=.ok (.tuple #[.nilIface,.bool false]) w:=Go.run_typeAssert_lacksB DV ai ai v x w
theorem DW(v:Va)(w:Wd):(invoke (.fn (.method "Unwrap") #[]) #[.iface 256 v]).run prog w=.ok (.enter 292 #[v]) w:=ai
theorem DX(v:Va)(w:Wd):(invoke (.fn (.method "Unwrap") #[]) #[.iface 76 v]).run prog w=.ok (.enter 275 #[v]) w:=ai
end Go.Proofs.YtoddjlclpnoomaaGreatDoor

namespace Go.Proofs.YtoddjlclpnoomaaGreatDoor
open Go.Sh
theorem aZ.qz{K:FuncId}{a:AV}{w:Wd}{Q k:VK}{E e:EK}(h:Calls prog K a w (aZ Q E))(hk:∀v w',Q v w'->k v w')(he:∀c w',E c w'->e c w'):Calls prog K a w (aZ k e):=
 h.mono λen w' hr=>by
  cases en with
  |returned v=>exact hk v w' hr
  |panicked c=>exact he c w' hr
  |outgrown=>exact hr
theorem QU{w:Wd}{b:Nat}{c l:Int}(a:At w b [.int .i64 c,.int .i64 l]):Calls prog 275 #[ptr b] w (aZ (λv w'=>v=.iface 23 (.int .i64 c)/\w'=w) NP):=by
 refine PM ?_;unfold HE;unfold ptr;repeat(first|refine Up.i (Nc.p _ _) ?_|refine V1.load (aC rfl) au rfl ?_|refine V1.i ah ?_)
 refine If.f ?_;refine Up.i (Nc.p _ _) ?_;refine V1.i ah ?_;refine V1.load (aC rfl) (a) rfl ?_;refine V1.i ah ?_;exact⟨rfl,rfl⟩
theorem QV{w:Wd}{b:Nat}{x y e:Va}(a:At w b [x,y,e]):Calls prog 292 #[ptr b] w (aZ (λv w'=>v=e/\w'=w) NP):=by
 refine PN ?_;unfold HF;unfold ptr;refine Up.i (Nc.p _ _) ?_;refine V1.i ah ?_;refine V1.load (aC rfl) (a) rfl ?_;exact⟨rfl,rfl⟩
theorem QW(w:Wd)(a b:Int):Calls prog 38 #[.iface 23 (.int .i64 a),.iface 23 (.int .i64 b),.bool true] w (aZ (λv w'=>v=.bool (a==b)/\w'=w) NP):=by
 refine Pl ?_;unfold G8;refine L2.i (λu v w'=>w'=w/\u=.iface 23 (.int .i64 a)) (λu v w'=>0) ⟨rfl,rfl⟩ ?_;rintro u v w' ⟨rfl,rfl⟩;refine J1.go (Gd.tt ?_);refine V1.i (WA w' _ _ a b) ?_;refine V1.i ah ?_;refine If.b (λhb=>⟨by rw[hb],rfl⟩) (λhb=>?_);refine V1.i (qw _ _ _) ?_;repeat(first|refine J1.go ?_|refine J0.go ?_|refine Gd.tt ?_|refine Gd.ff ?_|refine Gd.tf ?_|refine Gd.ft ?_|refine Gd.u ?_|refine If.t ?_|refine If.f ?_|refine Up.i (Nc.p _ _) ?_|refine V1.load (aC rfl) au rfl ?_|refine V1.i (w':=w') aw ?_)
 refine V1.i (qx _ _ _) ?_;repeat(first|refine J1.go ?_|refine J0.go ?_|refine Gd.tt ?_|refine Gd.ff ?_|refine Gd.tf ?_|refine Gd.ft ?_|refine Gd.u ?_|refine If.t ?_|refine If.f ?_|refine Up.i (Nc.p _ _) ?_|refine V1.load (aC rfl) au rfl ?_|refine V1.i (w':=w') aw ?_)
 refine V1.i (qy _ _ _) ?_;repeat(first|refine J1.go ?_|refine J0.go ?_|refine Gd.tt ?_|refine Gd.ff ?_|refine Gd.tf ?_|refine Gd.ft ?_|refine Gd.u ?_|refine If.t ?_|refine If.f ?_|refine Up.i (Nc.p _ _) ?_|refine V1.load (aC rfl) au rfl ?_|refine V1.i (w':=w') aw ?_)
 exact⟨by rw[hb],rfl⟩
theorem QX{w:Wd}{b:Nat}{c l:Int}(oS:At w b [.int .i64 c,.int .i64 l])(d:Int):Calls prog 38 #[.iface 76 (ptr b),.iface 23 (.int .i64 d),.bool true] w (aZ (λv w'=>v=.bool (c==d)/\w'=w) NP):=by
 refine Pl ?_;unfold G8;refine L2.i (λu v w'=>w'=w/\(u=.iface 76 (ptr b)\/u=.iface 23 (.int .i64 c))) (λu v w'=>match u with|.iface 76 _=>1|_=>0) ⟨rfl,.inl rfl⟩ ?_;rintro u v w' ⟨rfl,rfl|rfl⟩
 .refine J1.go (Gd.tt ?_);refine V1.i (Wy w' _ _ _ _ _ _ ay) ?_;repeat(first|refine J1.go ?_|refine J0.go ?_|refine Gd.tt ?_|refine Gd.ff ?_|refine Gd.tf ?_|refine Gd.ft ?_|refine Gd.u ?_|refine If.t ?_|refine If.f ?_|refine Up.i (Nc.p _ _) ?_|refine V1.load (aC rfl) au rfl ?_|refine V1.i (w':=w') aw ?_)
  refine V1.i (wG _ _ _) ?_;repeat(first|refine J1.go ?_|refine J0.go ?_|refine Gd.tt ?_|refine Gd.ff ?_|refine Gd.tf ?_|refine Gd.ft ?_|refine Gd.u ?_|refine If.t ?_|refine If.f ?_|refine Up.i (Nc.p _ _) ?_|refine V1.load (aC rfl) au rfl ?_|refine V1.i (w':=w') aw ?_)
  refine V1.i (uF _ _ _) ?_;repeat(first|refine J1.go ?_|refine J0.go ?_|refine Gd.tt ?_|refine Gd.ff ?_|refine Gd.tf ?_|refine Gd.ft ?_|refine Gd.u ?_|refine If.t ?_|refine If.f ?_|refine Up.i (Nc.p _ _) ?_|refine V1.load (aC rfl) au rfl ?_|refine V1.i (w':=w') aw ?_)
  refine Up.c (DX _ _) (aZ.qz (QU oS) ?_ (NP.no (e:=_)));rintro _ w2 ⟨rfl,rfl⟩;refine V1.i (nM _ _ _ _) ?_;repeat(first|refine J1.go ?_|refine J0.go ?_|refine Gd.tt ?_|refine Gd.ff ?_|refine Gd.tf ?_|refine Gd.ft ?_|refine Gd.u ?_|refine If.t ?_|refine If.f ?_|refine Up.i (Nc.p _ _) ?_|refine V1.load (aC rfl) au rfl ?_|refine V1.i (w':=w2) aw ?_)
  exact⟨⟨rfl,.inr rfl⟩,Nat.one_pos⟩
 .refine J1.go (Gd.tt ?_);refine V1.i (WA w' _ _ c d) ?_;refine V1.i ah ?_;refine If.b (λhb=>⟨by rw[hb],rfl⟩) (λhb=>?_);refine V1.i (qw _ _ _) ?_;repeat(first|refine J1.go ?_|refine J0.go ?_|refine Gd.tt ?_|refine Gd.ff ?_|refine Gd.tf ?_|refine Gd.ft ?_|refine Gd.u ?_|refine If.t ?_|refine If.f ?_|refine Up.i (Nc.p _ _) ?_|refine V1.load (aC rfl) au rfl ?_|refine V1.i (w':=w') aw ?_)
  refine V1.i (qx _ _ _) ?_;repeat(first|refine J1.go ?_|refine J0.go ?_|refine Gd.tt ?_|refine Gd.ff ?_|refine Gd.tf ?_|refine Gd.ft ?_|refine Gd.u ?_|refine If.t ?_|refine If.f ?_|refine Up.i (Nc.p _ _) ?_|refine V1.load (aC rfl) au rfl ?_|refine V1.i (w':=w') aw ?_)
  refine V1.i (qy _ _ _) ?_;repeat(first|refine J1.go ?_|refine J0.go ?_|refine Gd.tt ?_|refine Gd.ff ?_|refine Gd.tf ?_|refine Gd.ft ?_|refine Gd.u ?_|refine If.t ?_|refine If.f ?_|refine Up.i (Nc.p _ _) ?_|refine V1.load (aC rfl) au rfl ?_|refine V1.i (w':=w') aw ?_)
  exact⟨by rw[hb],rfl⟩
theorem QY{w:Wd}{b:Nat}{x y:Va}{p:Addr}(oS:At w b [x,y,.iface 272 (.pointer (some p))]):Calls prog 38 #[.iface 256 (ptr b),.iface 272 (.pointer (some p)),.bool true] w (aZ (λv w'=>v=.bool true/\w'=w) NP):=by
 refine Pl ?_;unfold G8;refine L2.i (λu v w'=>w'=w/\(u=.iface 256 (ptr b)\/u=.iface 272 (.pointer (some p)))) (λu v w'=>match u with|.iface 256 _=>1|_=>0) ⟨rfl,.inl rfl⟩ ?_;rintro u v w' ⟨rfl,rfl|rfl⟩
 .refine J1.go (Gd.tt ?_);refine V1.i (Wy w' _ _ _ _ _ _ ay) ?_;repeat(first|refine J1.go ?_|refine J0.go ?_|refine Gd.tt ?_|refine Gd.ff ?_|refine Gd.tf ?_|refine Gd.ft ?_|refine Gd.u ?_|refine If.t ?_|refine If.f ?_|refine Up.i (Nc.p _ _) ?_|refine V1.load (aC rfl) au rfl ?_|refine V1.i (w':=w') aw ?_)
  refine V1.i (uE _ _ _) ?_;repeat(first|refine J1.go ?_|refine J0.go ?_|refine Gd.tt ?_|refine Gd.ff ?_|refine Gd.tf ?_|refine Gd.ft ?_|refine Gd.u ?_|refine If.t ?_|refine If.f ?_|refine Up.i (Nc.p _ _) ?_|refine V1.load (aC rfl) au rfl ?_|refine V1.i (w':=w') aw ?_)
  refine V1.i (sr _ _ _) ?_;repeat(first|refine J1.go ?_|refine J0.go ?_|refine Gd.tt ?_|refine Gd.ff ?_|refine Gd.tf ?_|refine Gd.ft ?_|refine Gd.u ?_|refine If.t ?_|refine If.f ?_|refine Up.i (Nc.p _ _) ?_|refine V1.load (aC rfl) au rfl ?_|refine V1.i (w':=w') aw ?_)
  refine Up.c (DW _ _) (aZ.qz (QV oS) ?_ (NP.no (e:=_)));rintro _ w2 ⟨rfl,rfl⟩;refine V1.i (nM _ _ _ _) ?_;repeat(first|refine J1.go ?_|refine J0.go ?_|refine Gd.tt ?_|refine Gd.ff ?_|refine Gd.tf ?_|refine Gd.ft ?_|refine Gd.u ?_|refine If.t ?_|refine If.f ?_|refine Up.i (Nc.p _ _) ?_|refine V1.load (aC rfl) au rfl ?_|refine V1.i (w':=w2) aw ?_)
  exact⟨⟨rfl,.inr rfl⟩,Nat.one_pos⟩
 .refine J1.go (Gd.tt ?_);refine V1.i (Y7 w' _ _ p) ?_;repeat(first|refine J1.go ?_|refine J0.go ?_|refine Gd.tt ?_|refine Gd.ff ?_|refine Gd.tf ?_|refine Gd.ft ?_|refine Gd.u ?_|refine If.t ?_|refine If.f ?_|refine Up.i (Nc.p _ _) ?_|refine V1.load (aC rfl) au rfl ?_|refine V1.i (w':=w') aw ?_)
  exact⟨rfl,rfl⟩
theorem Cf.ext{k:FuncId}{a:AV}{w w':Wd}{v:Va}{K:VK}{e:EK}(h:(callFunc k a).run prog w=.ok (.value v) w')(hK:K v w'):Cf prog k a w K e:=Up.i h hK
theorem tJ(w:Wd)(t:TypeId)(v:Va):Calls prog 21 #[.nilIface,.iface t v] w (aZ (λv w'=>v=.bool false/\w'=w) NP):=by
 refine VL ?_;unfold Pg;refine V1.i (IZ _ _) ?_;refine J1.go (Gd.tf ?_);repeat(first|refine J1.go ?_|refine J0.go ?_|refine Gd.tt ?_|refine Gd.ff ?_|refine Gd.tf ?_|refine Gd.ft ?_|refine Gd.u ?_|refine If.t ?_|refine If.f ?_|refine Up.i (Nc.p _ _) ?_|refine V1.load (aC rfl) au rfl ?_|refine V1.i (w':=w) aw ?_)
 exact⟨rfl,rfl⟩
theorem sw{w:Wd}{te tt:TypeId}{ve vt:Va}{r:Bool}(hc:(invoke (.fn (.method "Comparable") #[]) #[RT tt]).run prog w=.ok (.value (.bool true)) w)
  (h:Calls prog 38 #[.iface te ve,.iface tt vt,.bool true] w (aZ (λv w'=>v=.bool r/\w'=w) NP)):Calls prog 21 #[.iface te ve,.iface tt vt] w (aZ (λv w'=>v=.bool r/\w'=w) NP):=by
 refine VL ?_;unfold Pg;refine V1.i (nM _ _ _ _) ?_;refine J1.go (Gd.ff ?_);refine V1.i (nM _ _ _ _) ?_;refine V1.bf am ?_;refine If.f ?_;unfold cf up;refine Cf.ext (wC tt vt w) ?_;have yY:(invoke (.fn (.method "Comparable") #[]) (#[RT tt]++#[])).run prog w=.ok (.value (.bool true)) w:=by rw[Array.append_empty];exact hc
 show Up prog (invoke (.fn (.method "Comparable") #[]) (#[RT tt]++#[])) w _ _
 generalize hs:invoke (.fn (.method "Comparable") #[]) (#[RT tt]++#[])=s at yY⊢;refine Up.i yY ?_;refine Pm (h) ?_ (NP.no (e:=_));rintro _ w1 ⟨rfl,rfl⟩;exact⟨rfl,rfl⟩
theorem QZ(w:Wd)(a b:Int):Calls prog 21 #[.iface 23 (.int .i64 a),.iface 23 (.int .i64 b)] w (aZ (λv w'=>v=.bool (a==b)/\w'=w) NP):=sw (wD w) (QW w a b)
theorem Q0{w:Wd}{b:Nat}{c l:Int}(oS:At w b [.int .i64 c,.int .i64 l])(d:Int):Calls prog 21 #[.iface 76 (ptr b),.iface 23 (.int .i64 d)] w (aZ (λv w'=>v=.bool (c==d)/\w'=w) NP):=sw (wD w) (QX oS d)
theorem Q2{w:Wd}{b:Nat}{x y:Va}{p:Addr}(oS:At w b [x,y,.iface 272 (.pointer (some p))]):Calls prog 21 #[.iface 256 (ptr b),.iface 272 (.pointer (some p))] w (aZ (λv w'=>v=.bool true/\w'=w) NP):=sw (zY w) (QY oS)
theorem tK(w:Wd)(b:Nat)(x y z:Va)(a:At w b [x,y,z]):(loadAt 149 (.pointer (some ⟨b,0,none⟩))).run prog w=.ok (.agg #[x,y,z]) w:=by
 have h0:=a.cell 0;have h1:=a.cell 1;have h2:=a.cell 2;simp at h0 h1 h2
 simp[go_sem,h0,h1,h2]
theorem U1.rv{w:Wd}{b:Nat}{c:LV}{p q:Option Addr}{n:Int}{k:WP}{e:EK}(hA:At w b c)(hl:c.length=3)
  (hk:∀w',tB w b [.pointer p,.pointer q,.int .u64 n] w'->k w'):U1 prog (storeAt 149 (.pointer (some ⟨b,0,none⟩)) (.agg #[.pointer p,.pointer q,.int .u64 n])) w k e:=by
 match c,hl with
 |[c0,c1,c2],_=>
  have h0:=hA.set 0 (.pointer p);have h1:=h0.set 1 (.pointer q);have h2:=h1.set 2 (.int .u64 n);refine U1.i (w':=((w.setCell ⟨b,0,none⟩ (.pointer p)).setCell ⟨b,1,none⟩ (.pointer q)).setCell ⟨b,2,none⟩ (.int .u64 n)) (v:=()) ?_ (hk _ ⟨h2,by simp[setCell],?_,λq=>by simp only[fH]⟩)
  .simp[go_sem,hA.cell,hA.fr]
  .exact(((aD.refl _ _).set _ (.inl ak)).set _ (.inl ak)).set _ (.inl ak)
theorem Y8{w:Wd}{b b1:Nat}{c:Int}{x:Va}(oS:At w b [x])(at2:At w b1 [.pointer (some ⟨b,0,none⟩)])(a1:Va):
  Calls prog 96 #[.iface 23 (.int .i64 c),a1,.agg #[.pointer (some ⟨12,116,none⟩),ptr b1,.int .u64 150],RT 23] w (aZ (λv w'=>v=.bool true/\At w' b [.int .i64 c]/\aD [b] w w') NP):=by
 refine YM ?_;unfold Pq;unfold ptr;have l1:=oS.lt;have l2:=at2.lt;have kk:=aD.refl [b] w;have e1:=wC 23 (.int .i64 c);refine V1.new (G6 _ _) λb6 w1 N1=>?_;have oR:=N1.ge;have pJ:=N1.lt;have pK:=N1.aA.size;have a6:=N1.at_;try simp only[cells,toList_toArray]at a6
 refine L2.i (λu v w'=>w'=w1/\u=.iface 23 (.int .i64 c)) (λu v w'=>0) ⟨rfl,rfl⟩ ?_;rintro u v w' ⟨rfl,rfl⟩;refine Cf.ext (wC 23 (.int .i64 c) w') ?_;have e2:(invoke (.fn (.method "AssignableTo") #[]) (#[RT 23]++#[RT 23])).run prog w'=.ok (.value (.bool true)) w':=by rw[show(#[RT 23]++#[RT 23]:AV)=#[RT 23,RT 23]from rfl];exact uC w'
 show Up prog (invoke (.fn (.method "AssignableTo") #[]) (#[RT 23]++#[RT 23])) w' _ _
 generalize invoke (.fn (.method "AssignableTo") #[]) (#[RT 23]++#[RT 23])=s at e2⊢;refine Up.i e2 ?_;refine If.t ?_;refine V1.i (tK w' b6 _ _ _ a6) ?_;have Q3:w'.cell? ⟨b1,0,none⟩=some (.pointer (some ⟨b,0,none⟩)):=by rw[(N1.aA.at at2 ak).cell];rfl
 have e3:=DR w' b1 ⟨b,0,none⟩ Q3;show Up prog (callFunc 153 #[.agg #[.pointer (some ⟨12,116,none⟩),.pointer (some ⟨b1,0,none⟩),.int .u64 150]]) w' _ _
 generalize callFunc 153 #[.agg #[.pointer (some ⟨12,116,none⟩),.pointer (some ⟨b1,0,none⟩),.int .u64 150]]=s at e3⊢;refine Up.i e3 ?_;have e4:=DT w' c;show Up prog (callFunc 93 #[.iface 23 (.int .i64 c)]) w' _ _
 generalize callFunc 93 #[.iface 23 (.int .i64 c)]=s at e4⊢;refine Up.i e4 ?_;have a7:=At.new w' #[.int .i64 c] 23;have k7:=(aD.refl [] w').alloc (.cells #[.int .i64 c] 23);have n7:w'.heap.size<(w'.alloc (.cells #[.int .i64 c] 23)).heap.size:=by simp
 generalize hw:w'.alloc (.cells #[.int .i64 c] 23)=w8 at a7 k7 n7⊢;have ab:=(N1.aA.trans k7).at oS ak;have e5:=DS w8 ⟨b,0,none⟩ ⟨w'.heap.size,0,none⟩ c x (by rw[a7.cell];rfl) (by rw[ab.cell];rfl) (ab.fr 0);show Up prog (callFunc 154 #[.agg #[.pointer (some ⟨12,23,none⟩),.pointer (some ⟨b,0,none⟩),.int .u64 386],.agg #[.pointer (some ⟨12,23,none⟩),.pointer (some ⟨w'.heap.size,0,none⟩),.int .u64 130]]) w8 _ _
 generalize callFunc 154 #[.agg #[.pointer (some ⟨12,23,none⟩),.pointer (some ⟨b,0,none⟩),.int .u64 386],.agg #[.pointer (some ⟨12,23,none⟩),.pointer (some ⟨w'.heap.size,0,none⟩),.int .u64 130]]=s at e5⊢;refine Up.i e5 ?_;exact⟨rfl,ab.set 0 _,((N1.aA.trans k7).mono ak).set _ (.inl ak)⟩
theorem Y9{w:Wd}{b:Nat}{c:Int}{x:Va}(g:GL w)(oS:At w b [x]):
  Calls prog 55 #[.iface 23 (.int .i64 c),.iface 116 (ptr b)] w (aZ (λv w'=>v=.bool true/\At w' b [.int .i64 c]/\aD [b] w w') NP):=by
 refine Yy ?_;unfold VS;have l1:=oS.lt;refine V1.i (nM _ _ _ _) ?_;refine If.f ?_;refine J0.go ?_;refine V1.i ah ?_;refine If.f ?_;refine Cf.ext (IV w ⟨b,0,none⟩) ?_;have a7:=At.new w #[.pointer (some ⟨b,0,none⟩)] 116;have k7:=(aD.refl [] w).alloc (.cells #[.pointer (some ⟨b,0,none⟩)] 116);have n7:w.heap.size<(w.alloc (.cells #[.pointer (some ⟨b,0,none⟩)] 116)).heap.size:=by simp
 generalize hw:w.alloc (.cells #[.pointer (some ⟨b,0,none⟩)] 116)=w8 at a7 k7 n7⊢;have kk:=k7;replace oS:=k7.at oS ak;refine V1.new (GX _) λb5 w1 N1=>?_;have oR:=N1.ge;have pJ:=N1.lt;have pK:=N1.aA.size;have a5:=N1.at_;try simp only[cells,toList_toArray]at a5
 replace kk:=N1.kp kk;replace a7:=N1.a a7;replace oS:=N1.a oS;refine U1.rv a5 rfl λw2 U2=>?_;have z2:=U2.size;replace kk:=kk.trans' U2.aA af;replace a7:=U2.aA.at a7 af;replace oS:=U2.aA.at oS af;have a5:=U2.at_;refine V1.i (tK _ _ _ _ _ a5) ?_;have e:=IW w2 w.heap.size;show Up prog (callFunc 94 #[.agg #[.pointer (some ⟨12,116,none⟩),.pointer (some ⟨w.heap.size,0,none⟩),.int .u64 150]]) w2 _ _
 generalize callFunc 94 #[.agg #[.pointer (some ⟨12,116,none⟩),.pointer (some ⟨w.heap.size,0,none⟩),.int .u64 150]]=s at e⊢;refine Up.i e ?_;refine J0.go ?_;have e1:=si w2;show Up prog (invoke (.fn (.method "Kind") #[]) (#[RT 116])) w2 _ _
 generalize invoke (.fn (.method "Kind") #[]) (#[RT 116])=s at e1⊢;refine Up.i e1 ?_;refine V1.i ah ?_;refine J1.go (Gd.ff ?_);refine V1.i (tK _ _ _ _ _ a5) ?_;have Q3:w2.cell? ⟨w.heap.size,0,none⟩=some (.pointer (some ⟨b,0,none⟩)):=by rw[a7.cell];rfl
 have e2:=IX w2 w.heap.size ⟨b,0,none⟩ Q3;show Up prog (callFunc 95 #[.agg #[.pointer (some ⟨12,116,none⟩),.pointer (some ⟨w.heap.size,0,none⟩),.int .u64 150]]) w2 _ _
 generalize callFunc 95 #[.agg #[.pointer (some ⟨12,116,none⟩),.pointer (some ⟨w.heap.size,0,none⟩),.int .u64 150]]=s at e2⊢;refine Up.i e2 ?_;refine V1.i ah ?_;refine If.f ?_;have e3:=sj w2;show Up prog (invoke (.fn (.method "Elem") #[]) (#[RT 116])) w2 _ _
 generalize invoke (.fn (.method "Elem") #[]) (#[RT 116])=s at e3⊢;refine Up.i e3 ?_;refine J0.go ?_;have e4:=uD w2;show Up prog (invoke (.fn (.method "Kind") #[]) (#[RT 23])) w2 _ _
 generalize invoke (.fn (.method "Kind") #[]) (#[RT 23])=s at e4⊢;refine Up.i e4 ?_;refine V1.i ah ?_;refine J1.go (Gd.tt ?_);have lM:w2.cell? ⟨0,0,none⟩=some (RT 31):=(g.aA kk ak).BD;refine V1.i ((aC rfl) _ _ _ lM) ?_;have e5:=zZ w2;show Up prog (invoke (.fn (.method "Implements") #[]) (#[RT 23,RT 31])) w2 _ _
 generalize invoke (.fn (.method "Implements") #[]) (#[RT 23,RT 31])=s at e5⊢;refine Up.i e5 ?_;refine V1.i ah ?_;refine V1.i ah ?_;refine If.f ?_;refine V1.i (tK _ _ _ _ _ a5) ?_;refine Pr (Y8 oS a7 (.iface 116 (.pointer (some ⟨b,0,none⟩)))) ?_ (NP.no (e:=_));rintro _ w9 ⟨rfl,ab,k9⟩;exact⟨rfl,ab,(kk.mono ak).trans' k9 ak⟩
def ia(acc:Nat)(d:By):Nat:=d.foldl (λa c=>10*a+(c.toNat-48)) acc
theorem nN:∀(d:By) (acc:Nat),acc<=ia acc d
 |[],acc=>le_refl _
 |c::d,acc=>by have:=nN d (10*acc+(c.toNat-48));show acc<=ia (10*acc+(c.toNat-48)) d;omega
def yZ(c:UInt8):Prop:=48<=c.toNat/\c.toNat<=57
theorem wH:∀(d:By) (acc:Nat),(∀c∈d,yZ c)->acc<=18446744073709551615->
  Lib.parseUintM 18446744073709551615 acc d=if 18446744073709551615<ia acc d then .range else .ok (ia acc d)
 |[],acc,_,h=>by
  have e:ia acc []=acc:=rfl;rw[e,if_neg aj];rfl
 |c::d,acc,hd,h=>by
  have hc:48<=c.toNat/\c.toNat<=57:=hd c ak;have e:ia acc (c::d)=ia (10*acc+(c.toNat-48)) d:=rfl;have hle:=nN d (10*acc+(c.toNat-48));unfold Lib.parseUintM;rw[if_pos hc,e];by_cases h1:1844674407370955162<=acc
  .rw[if_pos h1,if_pos aj]
  .rw[if_neg h1];by_cases h2:18446744073709551615<acc*10+(c.toNat-48)
   .rw[if_pos h2,if_pos aj]
   .rw[if_neg h2,show acc*10+(c.toNat-48)=10*acc+(c.toNat-48)by omega];exact wH d _ (λx hx=>hd x (by simp[hx])) aj
theorem DY(d:By)(hd:∀c∈d,yZ c)(aI:d≠[]):Lib.parseIntB 64 d=if 9223372036854775808<=oN d then .range else .ok (oN d):=by
 cases d with
 |nil=>exact absurd rfl aI
 |cons c d=>
  have hc:48<=c.toNat/\c.toNat<=57:=hd c ak;have e:oN (c::d)=ia 0 (c::d):=rfl;unfold Lib.parseIntB Lib.parseUintB;simp only[];rw[if_neg (by omega:¬(c.toNat=43\/c.toNat=45)),if_neg ak,e];have:=wH (c::d) 0 hd aj;rw[show(2^64-1:Nat)=18446744073709551615 by decide,this];by_cases h1:18446744073709551615<ia 0 (c::d)
  .rw[if_pos h1,if_pos aj]
  .rw[if_neg h1];have Za:¬c.toNat=45:=by omega
   simp only[Za,not_false_eq_true,true_and,false_and,if_false]
theorem c148(w:Wd)(d:By)(g:GL w)(hd:∀c∈d,yZ c)(aI:d≠[])(hl:d.length<=65536):Calls prog 148 #[str d] w (aZ (λv w'=>v=.tuple #[.int .i64 (gY d).1,.int .i64 (gY d).2]/\aD [] w w') NP):=by
 refine PX ?_;unfold HK;obtain⟨c,d',rfl⟩:=List.exists_cons_of_ne_nil aI;have hc:48<=c.toNat/\c.toNat<=57:=hd c ak;have Zb:Lib.trimPrefix (c::d') [45]=c::d':=by
  have:¬c=45:=by rintro rfl;simp at hc
  have h2:((45:UInt8)==c)=false:=by simp;exact λe=>this e.symm
  simp[Lib.trimPrefix,Lib.hasPrefix,isPrefixOf,h2]
 refine Ia (Qd w (c::d') [45]) ?_ (NP.no (e:=_));rintro _ w1 ⟨rfl,rfl⟩;rw[Zb];refine V1.i ah ?_;refine J1.go (Gd.ff ?_);refine V1.i (dL _ (c::d') 0 ak) ?_;refine V1.i ah ?_;refine J1.gd (!((c::d')==[48])) (λh k hk=>?_) ?_
 .refine V1.i (H2 _ _ _ (c::d') [48]) ?_;exact hk
 refine J1.go (Gd.ff ?_);refine V1.i (fP _ _ _) ?_;refine V1.i ah ?_;have eb:((c.toNat:Int)==48)=decide (c=48):=by
  by_cases h:c=48
  .subst h;rfl
  .have:¬(c.toNat:Int)=48:=λe=>h (UInt8.toNat_inj.1 al);simp[h,this]
 refine If.b (λh=>?_) (λh=>?_)
 .have h2:(c::d').headD 0=48/\(c::d')≠[48]:=by
   rw[eb,and_eq_true]at h;exact⟨by simpa using h.1,λe=>by
    obtain⟨rfl,rfl⟩:c=48/\d'=[]:=by simpa using e
    simp at h⟩
  exact⟨by simp only[gY];rw[if_pos h2],aD.refl _ _⟩
 have h2:¬((c::d').headD 0=48/\(c::d')≠[48]):=by
  rintro⟨h3,h4⟩;simp only[List.headD_cons]at h3;rw[eb,h3]at h;simp at h
  rw[h3]at h4;exact h4 (by rw[h])
 clear h eb;generalize c::d'=d at*;refine V1.i ah ?_;refine L3.i (λu v x w'=>w'=w1/\∃k:Nat,k<=d.length/\x=.int .i64 k) (λu v x w'=>match x with|.int _ n=>(d.length-n.toNat)|_=>0) ⟨rfl,0,by omega,rfl⟩ ?_;rintro u v x w' ⟨rfl,k,hk,rfl⟩;by_cases bO:k<d.length
 .have hdk:48<=(d[k]).toNat/\(d[k]).toNat<=57:=hd _ (getElem_mem _);refine V1.i ah ?_;refine If.b (λ_=>?_) (λh=>by simp at h;omega);refine V1.i (dL _ d k bO) ?_;refine V1.bf ax ?_;refine J1.go (Gd.ff ?_);refine V1.i (dL _ d k bO) ?_;refine V1.bf ax ?_;refine V1.i ah ?_;refine If.f ?_;refine V1.i (cC _ _ _ _ _ _ aj aj) ?_;exact⟨⟨rfl,k+1,by omega,by simp⟩,by simp;omega⟩
 .have:k=d.length:=by omega
  subst this;refine V1.i ah ?_;refine If.b (λh=>by simp at h) (λ_=>?_);have hp:=DY d hd aI;by_cases vp:9223372036854775808<=oN d
  .rw[if_pos vp]at hp;refine BE (sg w' d g aj hp) ?_ (NP.no (e:=_));rintro _ w2 ⟨v,N,a,rfl,aN,gN,c4,K2⟩;refine V1.i ah ?_;refine V1.i ah ?_;refine V1.i ((aC rfl) _ _ _ (K2.cell c4 ak)) ?_;refine wc (Q2 aN) ?_ (NP.no (e:=_));rintro _ w3 ⟨rfl,rfl⟩;refine If.t ?_;exact⟨by simp only[gY];rw[if_neg h2,if_pos vp],K2⟩
  .rw[if_neg vp]at hp;refine BE (zT w' d aj _ hp) ?_ (NP.no (e:=_));rintro _ w2 ⟨rfl,K2⟩;refine V1.i ah ?_;refine V1.i ah ?_;obtain⟨a,-,c4⟩:=g.sf;refine V1.i ((aC rfl) _ _ _ (K2.cell c4 ak)) ?_;refine wc (tJ w2 _ _) ?_ (NP.no (e:=_));rintro _ w3 ⟨rfl,rfl⟩;refine If.f ?_;exact⟨by simp only[gY];rw[if_neg h2,if_neg vp],K2⟩
theorem mH(s:By):∀c∈s.take (gC s bW),yZ c:=by
 induction s with
 |nil=>simp
 |cons a s ih=>
  cases h:bW.contains a with
  |false=>rw[oQ h];simp
  |true=>
   rw[iS h];intro c hc;simp only[take_succ_cons,mem_cons]at hc;rcases hc with rfl|hc
   .have hm:c∈bW:=by simpa using h
    simp only[bW,mem_cons,not_mem_nil,or_false]at hm;rcases hm with rfl|rfl|rfl|rfl|rfl|rfl|rfl|rfl|rfl|rfl<;>(constructor<;>decide)
   .exact ih c hc
def WQ(r:WR)(v:Va):Prop:=match r with
 |.tok t n=>v=.tuple #[dm t,.int .i64 n,.nilIface]
 |.err c=>∃x n,v=.tuple #[dm x,n,.iface 23 (.int .i64 c)]
theorem Zc(w:Wd)(s:By)(g:GL w)(hl:s.length<=65536)(h0:bW.contains (s.headD 0)=true):
  Calls prog 90 #[str s] w (aZ (λv w'=>WQ (lJ s) v/\aD [] w w') NP):=by
 refine YT ?_;unfold WQ;unfold Wb;have hle:=kJ s bW;have hd:=mH s;have aI:s.take (gC s bW)≠[]:=by
  cases s with
  |nil=>simp[bW]at h0
  |cons a s=>rw[iS (by simpa using h0)];simp
 have bO:(s.take (gC s bW)).length<=65536:=by simp;omega
 refine V1.new (eW _) λb1 w1 N1=>?_;have oR:=N1.ge;have pJ:=N1.lt;have pK:=N1.aA.size;have a1:=N1.at_;try simp only[cells,toList_toArray]at a1
 refine HG (Ww w1 s bW aj) ?_ (NP.no (e:=_));rintro _ w2 ⟨rfl,rfl⟩;unfold lJ;generalize hn:gC s bW=n at*;refine V1.i (yW _ s n hle) ?_;have g2:=g.new N1.aA;refine HL (c148 w2 (s.take n) g2 hd aI bO) ?_ (NP.no (e:=_));rintro _ w3 ⟨rfl,K3⟩;have z3:=K3.size;replace a1:=K3.at a1 ak;have kk:=N1.aA.trans K3;generalize hp:gY (s.take n)=r at*;obtain⟨v,e⟩:=r;refine V1.i ah ?_;refine V1.i ah ?_;refine V1.i ah ?_;have Zd:=a1.lt
 cases he:(e==4)with
 |true=>
  have um:e=4:=by simpa using he
  refine J1.go (Gd.tf ?_);refine J1.go (Gd.u ?_);refine J1.go (Gd.tf ?_);refine V1.i ah ?_;refine If.t ?_;refine V1.i ah ?_;refine V1.i ah ?_;refine U1.tok (t:=⟨0,[],0,0⟩) a1 rfl λw4 U4=>?_;refine⟨_,cA U4.at_,?_,kk.then U4.aA ak al⟩;simp only[um,true_or,if_true];exact⟨⟨0,[],0,0⟩,_,rfl⟩
 |false=>
  have um:¬e=4:=by simpa using he
  refine J1.go (Gd.ff ?_);refine V1.i ah ?_;refine V1.i (v:=.bool (decide (n<s.length))) (w':=w3) am ?_;have Ze:di.contains ((s.drop n).headD 0)=(decide (n<s.length)&&di.contains ((s.drop n).headD 0)):=by
   by_cases h:n<s.length
   .simp[h]
   .rw[drop_eq_nil_of_le aj];simp[h,di]
  refine J1.gd (di.contains ((s.drop n).headD 0)) (λh k hk=>?_) ?_
  .have h':n<s.length:=by simpa using h
   refine V1.i (dL _ s n h') ?_;refine rZ (c51 w3 s[n] di) ?_ (NP.no (e:=_));rintro _ w4 ⟨rfl,rfl⟩;rw[drop_eq_getElem_cons h']at hk;exact hk
  refine J1.go (Gd.ff ?_);refine V1.i (fP _ _ _) ?_;rw[←Ze]
  cases hb:di.contains ((s.drop n).headD 0)with
  |true=>
   refine V1.i ah ?_;refine If.t ?_;refine V1.i ah ?_;refine V1.i ah ?_;refine U1.tok (t:=⟨0,[],0,0⟩) a1 rfl λw4 U4=>?_;refine⟨_,cA U4.at_,?_,kk.then U4.aA ak al⟩;simp only[um,or_true,if_true];exact⟨⟨0,[],0,0⟩,_,rfl⟩
  |false=>
   refine V1.i ah ?_;refine If.f ?_;refine V1.i (v:=.bool (!(e==0))) (w':=w3) (by simp[go_sem];rfl) ?_;simp only[um,false_or,false_eq_true,if_false]
   cases h0:(e==0)with
   |true=>
    have y5:e=0:=by simpa using h0
    refine If.f ?_;refine V1.i (yW _ s n hle) ?_;refine V1.i ah ?_;refine U1.tok (t:=⟨2,s.take n,v,0⟩) a1 rfl λw4 U4=>?_;refine⟨_,cA U4.at_,?_,kk.then U4.aA ak al⟩;rw[if_pos y5]
   |false=>
    have y5:¬e=0:=by simpa using h0
    refine If.t ?_;refine V1.i ah ?_;refine V1.i ah ?_;refine U1.tok (t:=⟨0,[],0,0⟩) a1 rfl λw4 U4=>?_;refine⟨_,cA U4.at_,?_,kk.then U4.aA ak al⟩;rw[if_neg y5];exact⟨⟨0,[],0,0⟩,_,rfl⟩
def Fr(lo:Nat)(X:List Nat)(q:Nat):Prop:=lo<=q/\q∉X
theorem aU.fr{lo:Nat}{X M:List Nat}{w w':Wd}{t:Tr}{m:Md}(h:aU (Fr lo X) w t m)(hk:aD M w w')(hM:∀i∈M,i<lo\/i∈X\/w.heap.size<=i):aU (Fr lo X) w' t m:=
 aU.aA hk (λb h1 h2=>⟨λhb=>by
  rcases hM b hb with h|h|h
  .have:=h1.1;omega
  .exact h1.2 h
  .omega,h1⟩) t m h
theorem aU.f0{lo:Nat}{X:List Nat}{w w':Wd}{t:Tr}{m:Md}(h:aU (Fr lo X) w t m)(hk:aD [] w w'):aU (Fr lo X) w' t m:=h.fr hk ak
theorem aU.fit{lo lo':Nat}{X Y:List Nat}{w:Wd}{t:Tr}{m:Md}(h:aU (Fr lo X) w t m)(hl:lo'<=lo)(hM:∀i∈Y,i<lo\/i∈X\/w.heap.size<=i):aU (Fr lo' Y) w t m:=
 aU.imp (λb h1 h2=>⟨by have:=h1.1;omega,λhb=>by
  rcases hM b hb with h|h|h
  .have:=h1.1;omega
  .exact h1.2 h
  .omega⟩) t m h
theorem Strs.fr{lo:Nat}{X M:List Nat}{w w':Wd}{v:Va}{ss:LB}(h:Strs (Fr lo X) w v ss)(hk:aD M w w')(hM:∀i∈M,i<lo\/i∈X\/w.heap.size<=i):Strs (Fr lo X) w' v ss:=
 Strs.aA hk (λb h1 h2=>⟨λhb=>by
  rcases hM b hb with h|h|h
  .have:=h1.1;omega
  .exact h1.2 h
  .omega,h1⟩) h
theorem Strs.fit{lo lo':Nat}{X Y:List Nat}{w:Wd}{v:Va}{ss:LB}(h:Strs (Fr lo X) w v ss)(hl:lo'<=lo)(hM:∀i∈Y,i<lo\/i∈X\/w.heap.size<=i):Strs (Fr lo' Y) w v ss:=
 Strs.aA (aD.refl [] w) (λb h1 h2=>⟨by simp,by have:=h1.1;omega,λhb=>by
  rcases hM b hb with h|h|h
  .have:=h1.1;omega
  .exact h1.2 h
  .omega⟩) h
theorem aU.nw{lo:Nat}{X:List Nat}{w w':Wd}{t:Tr}{m:Md}{b:Nat}{cs:LV}(h:aU (Fr lo X) w t m)(hN:nH w b cs w'):aU (Fr lo (b::X)) w' t m:=
 aU.fr (aU.fit h (le_refl _) (λi hi=>by
  rcases mem_cons.1 hi with rfl|h
  .exact .inr (.inr hN.ge)
  .exact .inr (.inl h))) hN.aA ak
theorem aU.y7{F:Nat->Prop}{w:Wd}{t:Tr}{v:Va}(h:aU F w t (.L v))(ht:dG t=true):Sc v=true:=by
 cases t with
 |nil=>rcases h with rfl|⟨b,c,rfl⟩<;>rfl
 |cons a t=>obtain⟨b,n,c,u,rfl,_⟩:=h;rfl
 |hole=>cases ht
 |ex=>cases ht
 |st=>cases ht
theorem gH{w w':Wd}{M:List Nat}{e:TypeId}{size:Nat}{v:Va}{n:Nat}{xs:LV}(h:w.ownsRow 0 e size v n xs)(hk:aD M w w')(hM:∀g,v.ownBlock=some g->g∉M):w'.ownsRow 0 e size v n xs:=by
 refine⟨h.1,?_⟩;rcases h.2 with h2|⟨g,cap,cur,rfl,hb,hg,h3⟩
 .exact .inl h2
 .refine .inr ⟨g,cap,cur,rfl,hb,?_,h3⟩;rw[hk.same g ?_ (hM g rfl),hg];rcases lt_or_ge g w.heap.size with h'|h'
  .exact h'
  .rw[Array.getElem?_eq_none h']at hg;cases hg
def Cells(F:Nat->Prop)(w:Wd):Tr->LV->Prop
 |.nil,[]=>True
 |.cons a t,u::us=>aU F w a (.P u)/\Cells F w t us
 |_,_=>False
theorem Cells.aA{F G:Nat->Prop}{w w':Wd}{M:List Nat}(hk:aD M w w')(hM:∀b,F b->b<w.heap.size->b∉M/\G b):∀(t:Tr) (us:LV),Cells F w t us->Cells G w' t us
 |.nil,[],_=>trivial
 |.cons a t,u::us,h=>⟨aU.aA hk hM a _ h.1,Cells.aA hk hM t us h.2⟩
theorem Cells.snoc{F:Nat->Prop}{w:Wd}{x:Tr}{u:Va}(hx:aU F w x (.P u)):∀(t:Tr) (us:LV),Cells F w t us->Cells F w (snoc t x) (us++[u])
 |.nil,[],_=>⟨hx,trivial⟩
 |.cons a t,v::us,h=>⟨h.1,Cells.snoc hx t us h.2⟩
theorem Cells.row{F:Nat->Prop}{w:Wd}{b:Nat}(hF:F b):∀(t:Tr) (us:LV) (o:Nat),Cells F w t us->(∀j u,us[j]?=some u->w.cell? ⟨b,o+j,none⟩=some u)->aU F w t (.E b o us.length)
 |.nil,[],_,_,_=>rfl
 |.cons a t,u::us,o,h,hc=>⟨us.length,u,rfl,by simpa using hc 0 u rfl,hF,h.1,Cells.row hF t us (o+1) h.2 λj v hj=>by
   have:=hc (j+1) v (by simpa using hj);rwa [show o+1+j=o+(j+1)by omega]⟩
theorem Cells.count{F:Nat->Prop}{w:Wd}:∀(t:Tr) (us:LV),Cells F w t us->us.length=len t/\dG t=true
 |.nil,[],_=>⟨rfl,rfl⟩
 |.cons a t,u::us,h=>by have:=Cells.count t us h.2;exact⟨by simp[len,this.1],this.2⟩
def Acc(e:TypeId)(lo:Nat)(X:List Nat)(w:Wd)(v:Va)(t:Tr):Prop:=
 ∃us,w.ownsRow 0 e 1 v us.length us/\Cells (Fr lo (v.ownBlock.toList++X)) w t us/\∀g,v.ownBlock=some g->lo<=g/\g∉X
theorem Acc.nil(e:TypeId)(lo:Nat)(X:List Nat)(w:Wd):Acc e lo X w (.slice none 0 0) .nil:=⟨[],World.ownsRow_nil w 0 e 1,trivial,λg h=>by cases h⟩
theorem Acc.fr{e:TypeId}{lo:Nat}{X M:List Nat}{w w':Wd}{v:Va}{t:Tr}(h:Acc e lo X w v t)(hk:aD M w w')(hM:∀i∈M,i<lo\/i∈X\/w.heap.size<=i):Acc e lo X w' v t:=by
 obtain⟨us,h1,h2,h3⟩:=h;refine⟨us,gH h1 hk λg hg DZ=>?_,Cells.aA hk (λb h1 h2=>⟨λhb=>?_,h1⟩) t us h2,h3⟩
 .have:=h3 g hg;have:=(h1.lt g hg).2;rcases hM g DZ with h|h|h
  .omega
  .exact absurd h (h3 g hg).2
  .omega
 .rcases hM b hb with h|h|h
  .have:=h1.1;omega
  .exact h1.2 (by simp[h])
  .omega
theorem Acc.f0{e:TypeId}{lo:Nat}{X:List Nat}{w w':Wd}{v:Va}{t:Tr}(h:Acc e lo X w v t)(hk:aD [] w w'):Acc e lo X w' v t:=h.fr hk ak
theorem Acc.fit{e:TypeId}{lo:Nat}{X Y:List Nat}{w:Wd}{v:Va}{t:Tr}(h:Acc e lo X w v t)(hM:∀i∈Y,i<lo\/i∈X\/w.heap.size<=i):Acc e lo Y w v t:=by
 obtain⟨us,h1,h2,h3⟩:=h;refine⟨us,h1,Cells.aA (aD.refl [] w) (λb hb bO=>⟨by simp,hb.1,λhm=>?_⟩) t us h2,λg hg=>⟨(h3 g hg).1,λhm=>?_⟩⟩
 .have:=(h1.lt g hg).2;rcases hM g hm with h|h|h
  .have:=(h3 g hg).1;omega
  .exact(h3 g hg).2 h
  .omega
 .simp at hm
  rcases hm with hm|hm
  .exact hb.2 (by simp[hm])
  .rcases hM b hm with h|h|h
   .have:=hb.1;omega
   .exact hb.2 (by simp[h])
   .omega
theorem Acc.nw{e:TypeId}{lo:Nat}{X:List Nat}{w w':Wd}{v:Va}{t:Tr}{b:Nat}{cs:LV}(h:Acc e lo X w v t)(hN:nH w b cs w'):Acc e lo (b::X) w' v t:=
 (h.fit (λi hi=>by
  rcases mem_cons.1 hi with rfl|h
  .exact .inr (.inr hN.ge)
  .exact .inr (.inl h))).fr hN.aA ak
theorem Acc.sc{e:TypeId}{lo:Nat}{X:List Nat}{w:Wd}{v:Va}{t:Tr}(h:Acc e lo X w v t):Sc v=true:=by
 obtain⟨us,h1,h2,h3⟩:=h;rcases h1.2 with⟨rfl,_⟩|⟨g,cap,cur,rfl,_⟩<;>rfl
theorem Acc.lt{e:TypeId}{lo:Nat}{X:List Nat}{w:Wd}{v:Va}{t:Tr}(h:Acc e lo X w v t){g:Nat}(hg:v.ownBlock=some g):lo<=g/\g<w.heap.size:=by
 obtain⟨us,h1,h2,h3⟩:=h;exact⟨(h3 g hg).1,(h1.lt g hg).2⟩
theorem Acc.uG{e:TypeId}{lo:Nat}{X:List Nat}{w:Wd}{v:Va}{t:Tr}(h:Acc e lo X w v t):dG t=true:=by
 obtain⟨us,h1,h2,h3⟩:=h;exact(h2.count).2
theorem Acc.rep{e:TypeId}{lo:Nat}{X:List Nat}{w:Wd}{v:Va}{t:Tr}(h:Acc e lo X w v t):aU (Fr lo X) w t (.L v):=by
 obtain⟨us,h1,h2,h3⟩:=h;have FM:Cells (Fr lo X) w t us:=Cells.aA (aD.refl [] w) (λb h1 h2=>⟨by simp,h1.1,λhb=>h1.2 (by simp[hb])⟩) t us h2
 cases t with
 |nil=>
  cases us with
  |nil=>
   rcases h1.2 with⟨h,_⟩|⟨g,cap,cur,h,_⟩
   .exact .inl h
   .exact .inr ⟨g,cap,h⟩
  |cons u us=>exact h2.elim
 |cons a t=>
  cases us with
  |nil=>exact h2.elim
  |cons u us=>
   rcases h1.2 with⟨h,hn⟩|⟨g,cap,cur,rfl,hb,hg,hn,_⟩
   .simp at hn
   .have hc:=h1.cells (g:=g) rfl;refine⟨g,us.length,cap,u,rfl,by simpa using hn,h3 g rfl,by simpa[Addr.add]using hc 0 u rfl,FM.1,Cells.row (F:=Fr lo X) (h3 g rfl) t us 1 FM.2 λj v hj=>?_⟩;have:=hc (j+1) v (by simpa using hj);simpa[Addr.add,Nat.add_comm]using this
 |hole=>cases us<;>exact h2.elim
 |ex=>cases us<;>exact h2.elim
 |st=>cases us<;>exact h2.elim
theorem Acc.app{t e:TypeId}{i:TypeInfo}{z:Va}(ht:prog.underlying t=some (.slice e))(hi:prog.info? e=some i)(hz:i.zero=some z)(qt:i.size=1)(H4:i.bytes=8)(Og:z.cells.size=1)
  {lo:Nat}{X:List Nat}{w:Wd}{v:Va}{acc x:Tr}{u:Va}{b n:Nat}(h:Acc e lo X w v acc) (hb:At w b [u]) (hu:u.oneCell'=true) (hx:aU (Fr lo (v.ownBlock.toList++X)) w x (.P u)) (hn:len acc<=n) (lO:n<=1099511627776)
  (hX:∀i∈X,i<w.heap.size) (eQ:lo<=w.heap.size):
  ∃v' w',(append_ #[t,t] t #[v,.slice (some ⟨b,0,none⟩) 1 1]).run prog w=.ok v' w'/\Acc e lo X w' v' (snoc acc x)/\aD v.ownBlock.toList w w'/\∀g,v'.ownBlock=some g->v.ownBlock=some g\/w.heap.size<=g:=by
 obtain⟨us,h1,h2,h3⟩:=h;have hl:=h2.count.1;obtain⟨v',w',hr,ho,hk,hv⟩:=fO (P:=prog) t t e i z 1 8 ht hi hz qt H4 Og aj v us.length us h1 ⟨b,0,none⟩ 1 1 [u] rfl (λj a hj=>by
  cases j with
  |zero=>simp at hj;subst hj;simpa[Addr.add]using hb.cell 0
  |succ j=>simp at hj) (by simpa using hu) (by simp only[maxLen];omega) aj
 have Q4:∀g,v'.ownBlock=some g->v.ownBlock=some g\/w.heap.size<=g:=by
  intro g hg;rcases hv with hv|⟨g',hv,zq⟩
  .exact .inl (by rw[←hv,hg])
  .rw[hv]at hg;cases hg;exact .inr zq
 refine⟨v',w',hr,⟨us++[u],by simpa using ho,?_,?_⟩,hk,Q4⟩
 .refine Cells.aA hk (λq hq bO=>⟨λhm=>hq.2 (by simp[hm]),hq.1,λhm=>?_⟩) _ _ (Cells.snoc hx _ _ h2);simp at hm
  rcases hm with hm|hm
  .rcases Q4 q hm with h|h
   .exact hq.2 (by simp[h])
   .omega
  .exact hq.2 (by simp[hm])
 .intro g hg;rcases Q4 g hg with h|h
  .exact h3 g h
  .exact⟨by omega,λhm=>by have:=hX g hm;omega⟩
theorem BN{lo:Nat}{X:List Nat}{w:Wd}{v:Va}{acc x:Tr}{u:Va}{b n:Nat}(h:Acc 40 lo X w v acc)(hb:At w b [u])(hu:u.oneCell'=true)(hx:aU (Fr lo (v.ownBlock.toList++X)) w x (.P u))(hn:len acc<=n)(lO:n<=1099511627776)
  (hX:∀i∈X,i<w.heap.size) (eQ:lo<=w.heap.size):
  ∃v' w',(append_ #[26,26] 26 #[v,.slice (some ⟨b,0,none⟩) 1 1]).run prog w=.ok v' w'/\Acc 40 lo X w' v' (snoc acc x)/\aD v.ownBlock.toList w w'/\∀g,v'.ownBlock=some g->v.ownBlock=some g\/w.heap.size<=g:=
 Acc.app ai (i:=(prog.info? 40).getD default) (z:=.pointer none) ai ai ai ai ai h hb hu hx hn lO hX eQ
theorem qA{lo:Nat}{X:List Nat}{w:Wd}{v:Va}{acc x:Tr}{u:Va}{b n:Nat}(h:Acc 41 lo X w v acc)(hb:At w b [u])(hu:u.oneCell'=true)(hx:aU (Fr lo (v.ownBlock.toList++X)) w x (.P u))(hn:len acc<=n)(lO:n<=1099511627776)
  (hX:∀i∈X,i<w.heap.size) (eQ:lo<=w.heap.size):
  ∃v' w',(append_ #[44,44] 44 #[v,.slice (some ⟨b,0,none⟩) 1 1]).run prog w=.ok v' w'/\Acc 41 lo X w' v' (snoc acc x)/\aD v.ownBlock.toList w w'/\∀g,v'.ownBlock=some g->v.ownBlock=some g\/w.heap.size<=g:=
 Acc.app ai (i:=(prog.info? 41).getD default) (z:=.pointer none) ai ai ai ai ai h hb hu hx hn lO hX eQ
theorem eJ(t x:Tr):dG t=true->len (snoc t x)=len t+1:=by
 induction t with
 |cons a t _ ih=>intro h;simp[snoc,len,ih h]
 |nil=>intro _;rfl
 |hole=>intro h;cases h
 |ex=>intro h;cases h
 |st=>intro h;cases h
def fi(lo:Nat)(w:Wd)(v:Va)(ss:LB):Prop:=w.ownsRow 0 9 1 v ss.length (ss.map str)/\∀g,v.ownBlock=some g->lo<=g
theorem fi.nil(lo:Nat)(w:Wd):fi lo w (.slice none 0 0) []:=⟨World.ownsRow_nil w 0 9 1,λg h=>by cases h⟩
theorem fi.lt{lo:Nat}{w:Wd}{v:Va}{ss:LB}(h:fi lo w v ss){g:Nat}(hg:v.ownBlock=some g):lo<=g/\g<w.heap.size:=⟨h.2 g hg,(h.1.lt g hg).2⟩
theorem fi.fr{lo:Nat}{M:List Nat}{w w':Wd}{v:Va}{ss:LB}(h:fi lo w v ss)(hk:aD M w w')(hM:∀i∈M,i<lo\/w.heap.size<=i):fi lo w' v ss:=
 ⟨gH h.1 hk λg hg DZ=>by
  have:=h.lt hg;have:=hM g DZ;omega,h.2⟩
theorem fi.f0{lo:Nat}{w w':Wd}{v:Va}{ss:LB}(h:fi lo w v ss)(hk:aD [] w w'):fi lo w' v ss:=h.fr hk ak
theorem fi.sc{lo:Nat}{w:Wd}{v:Va}{ss:LB}(h:fi lo w v ss):Sc v=true:=by
 rcases h.1.2 with⟨rfl,_⟩|⟨g,cap,cur,rfl,_⟩<;>rfl
theorem fi.strs{lo:Nat}{w:Wd}{v:Va}{ss:LB}(h:fi lo w v ss):Strs (Fr lo []) w v ss:=by
 rcases h.1.2 with⟨h1,h2⟩|⟨g,cap,cur,rfl,hb,hg,hn,hc,hs,ht⟩
 .exact .inl ⟨h1,List.eq_nil_of_length_eq_zero h2⟩
 .exact .inr ⟨g,cap,cur.toList,rfl,⟨h.2 g rfl,by simp⟩,⟨_,hg⟩,by simpa using ht,hn⟩
theorem BO{lo:Nat}{w:Wd}{v:Va}{ss:LB}{s:By}{b n:Nat}(h:fi lo w v ss)(hb:At w b [str s])(hn:ss.length<=n)(lO:n<=1099511627776)(eQ:lo<=w.heap.size):
  ∃v' w',(append_ #[45,45] 45 #[v,.slice (some ⟨b,0,none⟩) 1 1]).run prog w=.ok v' w'/\fi lo w' v' (ss++[s])/\aD v.ownBlock.toList w w':=by
 obtain⟨v',w',hr,ho,hk,hv⟩:=fO (P:=prog) 45 45 9 ((prog.info? 9).getD default) (.string ⟨#[]⟩) 1 16 ai ai ai ai ai ai aj v ss.length (ss.map str) h.1 ⟨b,0,none⟩ 1 1 [str s] rfl (λj a hj=>by
  cases j with
  |zero=>simp at hj;subst hj;simpa[Addr.add]using hb.cell 0
  |succ j=>simp at hj) (by simp;rfl) (by simp only[maxLen];omega) aj
 refine⟨v',w',hr,⟨by simpa using ho,?_⟩,hk⟩;intro g hg;rcases hv with hv|⟨g',hv,zq⟩
 .exact h.2 g (by rw[←hv,hg])
 .rw[hv]at hg;cases hg;omega
end Go.Proofs.YtoddjlclpnoomaaGreatDoor

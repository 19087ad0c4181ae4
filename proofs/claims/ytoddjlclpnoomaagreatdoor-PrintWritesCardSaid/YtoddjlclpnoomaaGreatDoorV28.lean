import Derived.Test.YtoddjlclpnoomaaGreatDoorCards
import Derived.Test.YtoddjlclpnoomaaGreatDoorV27
set_option linter.unusedVariables false
set_option linter.unusedSimpArgs false
set_option maxRecDepth 100000
open Go.Proofs.Tryz
open Go.Instr (loadAt storeAt sliceAt fieldAt indexAt)
open List (mem_map getElem_mem)
open Nat (le_of_ble_eq_true)
open Go.Builtin (append_ len_)
open Go.Value (cells)
open Bool (and_eq_true)
namespace Go.Proofs.YtoddjlclpnoomaaGreatDoor
open Go.Sh Go.RowKit Go.Lib Go.Shelf Go.ChangeShapes Go.WideShapes Go.ChangeAt
theorem qH{w w':Wd}(h:aD [] w w')(may:MemPlace->Prop):w.keptBut w' may:=by
 refine⟨h.io.1,h.io.2,λi hi=>?_⟩;rw[h.same i hi ak];split<;>simp_all
theorem sN{w w':Wd}(h:aD [] w w'){p:MemPlace}(hp:p.block<w.heap.size):w.sameAt w' p:=by
 cases p with
 |cell b o=>exact World.cell?_of_block (w:=w) (h.same b hp ak)
 |map b=>exact h.same b hp ak
theorem laidOut:laidOutB prog=true:=ai
theorem own:ownKnob prog.godebug=none:=ai
theorem xb{H:Type}{enc:TypeId×Va->H}{t:TypeId}(hr:prog.readableRec t=true)(G5:t<prog.types.size){W W':Wd}{v:Va}{d:DataW H}{ps:List MemPlace}
  (h:DataW.Trod enc prog W 0 (λ_=>true) true t v d ps) (hb:aD [] W W') (bO:∀x∈ps,x.block<W.heap.size):
  DataW.Trod enc prog W' 0 (λb=>decide (b<W.heap.size)) true t v d ps:=
 WideElems.Trod_stays laidOut hr G5 h (λx hx=>sN hb (bO x hx)) (λx hx=>by simpa using bO x hx)
noncomputable def zK(os:Os):Wd:=
 let w0:=World.holding prog os ⟨#[],#[],[]⟩
 {w0 with heap:=w0.heap.modify 0 fun
   |.cells _ t frozen=>.cells #[.iface 128 (.agg #[.pointer (some ⟨12,31,none⟩)])] t frozen
   |o=>o}
noncomputable def lZ(os:Os):Wd:=(zK os).layVars prog fh
theorem xc(os:Os):(lZ os).os=os:=(World.layVars_os _ _ _).trans rfl
theorem xd(os:Os)(args:AV):laidMetH prog kV ((lZ os).forCall (λ_ _=>0) ⟨#[],args,[]⟩).memory:=by
 have e1:(fh.filter λx=>(fh.map (·.1)).contains x.1)=fh:=List.filter_eq_self.2 λx hx=>List.contains_iff_mem.2 (mem_map.2 ⟨x,hx,rfl⟩);have e2:(fh.filter λx=>!(fh.map (·.1)).contains x.1)=[]:=List.filter_eq_nil_iff.2 λx hx=>by rw[List.contains_iff_mem.2 (mem_map.2 ⟨x,hx,rfl⟩)];simp
 have h:laidMet prog fh (lZ os):=laidMet_layVars (w0:=zK os) (fh.map (·.1)) [] (by rw[e1];rfl) (by rw[e1];kernel_rfl) (by rw[e1];kernel_rfl) (by rw[e2];exact LaidIn.none);have hm:=h.of_heap (w':=((lZ os).forCall (λ_ _=>0) ⟨#[],args,[]⟩).memory) (by simp[World.memory,World.forCall,Input.heap]);refine laidMetH_of_parts ?_ ?_
 .have e3:(kV.filter λx=>x.2.handleName?.isNone)=fh:=ai
  rw[e3];exact hm
 .kernel_rfl
theorem qI(os:Os)(args:AV):((lZ os).forCall (λ_ _=>0) ⟨#[],args,[]⟩).Shaped prog:=
 World.shaped_of_ZipB ai ai
theorem zL{H:Type}{enc:TypeId×Va->H}{a:Assume}{C:Checked}{os:Os}{f:FuncId}{fn:Func}{s:ChangeSpec}{conds:List PathCond}{apart fresh handsOn again:Bool}{X:Wd->AV->Prop}
  (hX:∀(w w':Wd) (args:AV),w.heap=w'.heap->X w args->X w' args)
  (own:ownKnob C.prog.godebug=none) (started:os.Started) (Hu:C.prog.inits.idxOf? f=none) (Eo:C.prog.funcs[f]?=some fn)
  (witness:∃(w:Wd) (tape:Tape) (i:Input),w.os=os/\(w.forCall tape i).Shaped C.prog/\i.vars=[]/\Input.okWide C.prog (w.forCall tape i) .any w.heap.size f i/\
   ((s.pre enc C.prog fn conds apart (w.forCall tape i).memory i.args/\X (w.forCall tape i).memory i.args)/\sizedMet enc C.prog fn (OpenSpec.ofChange s) apart (w.forCall tape i).memory i.args)/\a.holds C.prog (lone (Frame.enter C.prog f i.args .normal) [] (w.forCall tape i)))
  (zM:∀(W:Wd) (base:Nat) (args:AV) (ds gs:List (DataW H)) (before:List MemPlace),W.ShapedOpen C.prog->
   (∀(j:Nat) t v,fn.params[j]?=some t->args[j]?=some v->Value.okWide C.prog W .any base t v)->
   DataW.Whole enc C.prog fn.params.toList s.vars apart W args.toList ds gs before->
   X W args->
   Calls C.prog f args W λe W'=>∃v,e=.returned v/\s.post enc C.prog fn apart fresh handsOn again W args v W'):
  ReturnsInHanded a C os f .any (λw args=>(s.pre enc C.prog fn conds apart w args/\X w args)/\sizedMet enc C.prog fn (OpenSpec.ofChange s) apart w args) (s.post enc C.prog fn apart fresh handsOn again):=by
 refine returnsInHanded_of_calls own started Hu witness ?_;intro w tape i _ si _ iW oN hholds;obtain⟨_,_,_,fn',Xa,_,_,_,_,fz⟩:=iW;have e:fn'=fn:=Option.some.inj (Xa.symm.trans Eo);subst e;obtain⟨⟨⟨ds,gs,before,hw,hc⟩,hx⟩,hz⟩:=oN;have Bs:=DataW.Whole.of_heap (w':=w.forCall tape i) (by rfl) hw;refine(zM (w.forCall tape i) w.heap.size i.args ds gs before si fz Bs (hX _ _ _ (by rfl) hx)).mono λe W' ⟨v,he,hp⟩=>?_;subst he;exact ChangeSpec.post_blind hp
theorem xe(w w':Wd)(h:w.heap=w'.heap)(hl:laidMetH prog kV w):laidMetH prog kV w':=hl.of_heap h
theorem Hv:prog.cellsOf 5=1:=ai
theorem OY{zs:List Int}(h:∀n∈zs,(Lit.int .u8 n).wf=true){i:Nat}(hi:i<zs.length):((UInt8.ofNat (zs[i]).toNat).toNat:Int)=zs[i]:=by
 have:=h _ (getElem_mem hi);have h1:IntKind.u8.min=0:=rfl;have h2:IntKind.u8.max=255:=rfl;simp only[Lit.wf,and_eq_true,decide_eq_true_eq,h1,h2]at this;simp
 omega
theorem zO{H:Type}{enc:TypeId×Va->H}{W:Wd}{v:Va}{d:DataW H}{p:List MemPlace}{base:Nat}(fz:Value.okWide prog W .any base 22 v)(h:DataW.Trod enc prog W 0 (λ_=>true) true 22 v d p):∃l,mY W v l:=by
 obtain⟨a0,len,cap,rfl⟩:=okWide_slice underlying22 fz;obtain⟨fuel,hf⟩:=h;rcases open_ints underlying22 underlying5 Hv hf with⟨jn,hx⟩|⟨a,len',cap',zs,jn,_,hl,hm,hz,hx,nW,hwz⟩
 .simp[cells]at jn
  obtain⟨rfl,rfl,rfl⟩:=jn;exact⟨[],none,0,rfl,by simp,by simp,λi hi=>absurd hi ak⟩
 .simp[cells]at jn
  obtain⟨rfl,rfl,rfl⟩:=jn;simp only[if_true]at hz;unfold maxLen at hm;refine⟨(zs.take len).map λz=>UInt8.ofNat z.toNat,some a,cap,?_,?_,?_,λi hi=>⟨a,rfl,?_⟩⟩
  .simp;omega
  .simp;omega
  .simp;omega
  .simp only[List.length_map,List.length_take]at hi;rw[nW i aj];simp only[List.getElem_map,List.getElem_take];rw[OY hwz aj];simp[List.getD,show i<zs.length by omega]
end Go.Proofs.YtoddjlclpnoomaaGreatDoor
namespace Go.Proofs.YtoddjlclpnoomaaGreatDoor
open Go.Sh
set_option maxRecDepth 100000
def lF(R:ER)(s f t:Nat)(p:Va)(w:Wd)(k:VK):Prop:=
 up R (Nc p) w λa w=>v1 R (fieldAt s a f) w λb w=>v1 R (loadAt t b) w k
def sF(R:ER)(s f t:Nat)(p v:Va)(w:Wd)(k:WP):Prop:=
 up R (Nc p) w λa w=>v1 R (fieldAt s a f) w λb w=>u1 R (storeAt t b v) w k
def lD(R:ER)(s f t:Nat)(p:Va)(w:Wd)(k:VK):Prop:=
 v1 R (fieldAt s p f) w λb w=>v1 R (loadAt t b) w k
def qF(C:WP)(s f t:Nat)(p:Va)(k:Va->Prop):Prop:=
 xq C (Nc p) λa=>xv C (fieldAt s a f) λb=>xv C (loadAt t b) k
def xF(S:WP)(s f t:Nat)(p:Va)(k:Va->Prop):Prop:=
 xs t0 (Nc p) λa=>xw t0 (fieldAt s a f) λb=>xw S (loadAt t b) k
def xD(S:WP)(s f t:Nat)(p:Va)(k:Va->Prop):Prop:=
 xw t0 (fieldAt s p f) λb=>xw S (loadAt t b) k
def zP(s f:Nat):Bool:=if s=108 then f<=4 else if s=43 then f<=7 else if s=47 then f<=9 else if s=67 then f<=2 else if s=86 then f<=3 else s==69&&f==0
set_option maxHeartbeats 1000000 in
theorem zQ{s f b:Nat}{w:Wd}(h:zP s f=true):(fieldAt s (.pointer (some ⟨b,0,none⟩)) f).run prog w=.ok (.pointer (some ⟨b,f,none⟩)) w:=by
 unfold zP at h;split at h
 .subst s;have:f=0\/f=1\/f=2\/f=3\/f=4:=by simp at h;omega
  rcases this with rfl|rfl|rfl|rfl|rfl<;>simp[go_sem]
 split at h
 .subst s;have:f=0\/f=1\/f=2\/f=3\/f=4\/f=5\/f=6\/f=7:=by simp at h;omega
  rcases this with rfl|rfl|rfl|rfl|rfl|rfl|rfl|rfl<;>simp[go_sem]
 split at h
 .subst s;have:f=0\/f=1\/f=2\/f=3\/f=4\/f=5\/f=6\/f=7\/f=8\/f=9:=by simp at h;omega
  rcases this with rfl|rfl|rfl|rfl|rfl|rfl|rfl|rfl|rfl|rfl<;>simp[go_sem]
 split at h
 .subst s;have:f=0\/f=1\/f=2:=by simp at h;omega
  rcases this with rfl|rfl|rfl<;>simp[go_sem]
 split at h
 .subst s;have:f=0\/f=1\/f=2\/f=3:=by simp at h;omega
  rcases this with rfl|rfl|rfl|rfl<;>simp[go_sem]
 .simp at h
  obtain⟨rfl,rfl⟩:=h;simp[go_sem]
section
variable {R:ER}{s f t b:Nat}{w:Wd}{cs:LV}{v:Va}
theorem lD.i{k:VK}(hA:At w b cs)(hk:k v w)(hv:cs[f]?=some v:=by exact rfl)(h1:zP s f=true:=by exact rfl)(h2:eo t=true:=by exact rfl):lD R s f t (.pointer (some ⟨b,0,none⟩)) w k:=
 V1.i (zQ h1) (V1.load (aC h2) hA hv hk)
theorem lF.i{k:VK}(hA:At w b cs)(hk:k v w)(hv:cs[f]?=some v:=by exact rfl)(h1:zP s f=true:=by exact rfl)(h2:eo t=true:=by exact rfl):lF R s f t (.pointer (some ⟨b,0,none⟩)) w k:=
 by unfold lF up v1;exact Up.i (Nc.p _ _) (V1.i (zQ h1) (V1.load (aC h2) hA hv hk))
theorem sF.i{k:WP}(hA:At w b cs)(hk:∀w',tV w b (cs.set f v) w'->k w')(hs:Sc v=true:=by exact rfl)(ho:f<cs.length:=by simp)(h1:zP s f=true:=by exact rfl)(h2:eo t=true:=by exact rfl):sF R s f t (.pointer (some ⟨b,0,none⟩)) v w k:=
 by unfold sF up v1 u1;exact Up.i (Nc.p _ _) (V1.i (zQ h1) (U1.store (aH h2 hs) hA ho hk))
theorem qF.i{C:WP}{k:Va->Prop}(hA:∀w,C w->At w b cs)(hk:k v)(hv:cs[f]?=some v:=by exact rfl)(h1:zP s f=true:=by exact rfl)(h2:eo t=true:=by exact rfl):qF C s f t (.pointer (some ⟨b,0,none⟩)) k:=
 ⟨_,λw' _=>⟨rfl,rfl⟩,Xv.i _ (λw _=>zQ h1) (Xv.i v (λw hw=>(aC h2) _ _ _ (by rw[(hA w hw).cell,hv])) hk)⟩
theorem xD.i{S:WP}{k:Va->Prop}(hA:∀w,S w->At w b cs)(hk:k v)(hv:cs[f]?=some v:=by exact rfl)(h1:zP s f=true:=by exact rfl)(h2:eo t=true:=by exact rfl):xD S s f t (.pointer (some ⟨b,0,none⟩)) k:=
 Xw.i _ (λw _=>zQ h1) (Xw.i v (λw hw=>(aC h2) _ _ _ (by rw[(hA w hw).cell,hv])) hk)
theorem xF.i{S:WP}{k:Va->Prop}(hA:∀w,S w->At w b cs)(hk:k v)(hv:cs[f]?=some v:=by exact rfl)(h1:zP s f=true:=by exact rfl)(h2:eo t=true:=by exact rfl):xF S s f t (.pointer (some ⟨b,0,none⟩)) k:=
 ⟨_,λw' _=>Nc.p _ w',xD.i hA hk hv h1 h2⟩
end
end Go.Proofs.YtoddjlclpnoomaaGreatDoor

namespace Go.Proofs.YtoddjlclpnoomaaGreatDoor
open Go.Sh
def S46(R:ER)(a0:Va)(w:Wd):Prop:=
 cu R 69 true (.tuple #[]) w λb w=>cw R 9 a0 w λr w=>bq R .gtr 3 false true r (.int .i64 32768) w λs w=>If s (cg R 69 #[(0,(.int .i64 3))] w λt w=>bj R 69 b t w λw=>∃v0,(loadAt 69 b).run prog w=.ok v0 w/\cz R (.tuple #[(.slice none 0 0),v0]) w) (L4 (.int .i64 0) (.slice none 0 0) (.slice none 0 0) (.int .i64 0) w (λg1 f g d a w=>cw R 9 a0 w λu w=>bq R .lss 3 false false a u w λv w=>If v (J1 (λk1=>cb R 9 a0 a w λx w=>bq R .eql 5 false true x (.int .u8 10) w λy w=>If y (bq R .add 3 false true f (.int .i64 1) w λz w=>k1 z w) (k1 f w)) (λc w=>cb R 9 a0 a w λb2 w=>bq R .eql 5 false true b2 (.int .u8 32) w λj w=>J1 (λk2=>Gd j false (cb R 9 a0 a w λb3 w=>bq R .eql 5 false true b3 (.int .u8 9) w λb4 w=>k2 b4 w) (k2 undef w)) (λb5 w=>bu R j (.bool true) b5 w λl w=>J1 (λk3=>Gd l false (cb R 9 a0 a w λb6 w=>bq R .eql 5 false true b6 (.int .u8 13) w λb7 w=>k3 b7 w) (k3 undef w)) (λb8 w=>bu R l (.bool true) b8 w λm w=>J1 (λk4=>Gd m false (cb R 9 a0 a w λb9 w=>bq R .eql 5 false true b9 (.int .u8 10) w λc2 w=>k4 c2 w) (k4 undef w)) (λc3 w=>bu R m (.bool true) c3 w λc4 w=>If c4 (bq R .add 3 false true a (.int .i64 1) w λc5 w=>g1 c g d c5 w) (bq R .add 3 false true a (.int .i64 1) w λc6 w=>cw R 9 a0 w λc7 w=>bq R .lss 3 false false c6 c7 w λn w=>J1 (λk5=>Gd n true (cb R 9 a0 a w λc8 w=>bq R .eql 5 false true c8 (.int .u8 45) w λc9 w=>k5 c9 w) (k5 undef w)) (λd2 w=>bu R n d2 (.bool false) w λo w=>J1 (λk6=>Gd o true (bq R .add 3 false true a (.int .i64 1) w λd3 w=>cb R 9 a0 d3 w λd4 w=>bq R .eql 5 false true d4 (.int .u8 45) w λd5 w=>k6 d5 w) (k6 undef w)) (λd6 w=>bu R o d6 (.bool false) w λd7 w=>If d7 (L1 a w (λg2 e w=>cw R 9 a0 w λd8 w=>bq R .lss 3 false false e d8 w λp w=>J1 (λk7=>Gd p true (cb R 9 a0 e w λd9 w=>bq R .neq 5 false true d9 (.int .u8 10) w λe2 w=>k7 e2 w) (k7 undef w)) (λe3 w=>bu R p e3 (.bool false) w λe4 w=>If e4 (bq R .add 3 false true e (.int .i64 1) w λe5 w=>g2 e5 w) (g1 c g d e w)))) (cf R 82 #[a0,a] w λh w=>bz R h 0 w λe6 w=>bz R h 1 w λe7 w=>bz R h 2 w λq w=>cu R 86 true (.tuple #[]) w λi w=>bj R 86 i e6 w λw=>bq R .neq 23 false true q (.int .i64 0) w λe8 w=>If e8 (cg R 69 #[(0,q),(1,c)] w λe9 w=>bj R 69 b e9 w λw=>∃v0,(loadAt 69 b).run prog w=.ok v0 w/\cz R (.tuple #[(.slice none 0 0),v0]) w) (bk R 86 i 3 w λf2 w=>bj R 3 f2 c w λw=>bi R 86 i w λf3 w=>bw R 73 1 #[(0,f3)] w λf4 w=>v1 R (append_ #[73,73] 73 #[d,f4]) w λf5 w=>bq R .add 3 false false a e7 w λf6 w=>g1 c g f5 f6 w)))))))))) (cg R 86 #[(0,(.int .i64 5)),(3,f)] w λf7 w=>bw R 73 1 #[(0,f7)] w λf8 w=>v1 R (append_ #[73,73] 73 #[d,f8]) w λf9 w=>cg R 69 #[] w λg3 w=>bj R 69 b g3 w λw=>∃v0,(loadAt 69 b).run prog w=.ok v0 w/\cz R (.tuple #[f9,v0]) w)))
set_option maxHeartbeats 4000000 in
theorem s46:de 46 S46:=λh=>db [] func46 h
theorem Xb:bZ 46:=dd func46
def S82(R:ER)(a0 a1:Va)(w:Wd):Prop:=
 cu R 86 true (.tuple #[]) w λa w=>cb R 9 a0 a1 w λc w=>cf R 129 #[c] w λg w=>If g (cf R 130 #[a0,a1] w λb w=>bq R .gtr 3 false true b (.int .i64 24) w λh w=>If h (cg R 86 #[] w λi w=>bj R 86 a i w λw=>∃v0,(loadAt 86 a).run prog w=.ok v0 w/\cz R (.tuple #[v0,(.int .i64 0),(.int .i64 14)]) w) (J1 (λk1=>bq R .add 3 false false a1 b w λj w=>v1 R (sliceAt 9 a0 (some a1) (some j) none) w λl w=>cf R 131 #[l] w λm w=>If m (k1 (.int .i64 4) w) (k1 (.int .i64 1) w)) (λn w=>bq R .add 3 false false a1 b w λo w=>v1 R (sliceAt 9 a0 (some a1) (some o) none) w λp w=>cg R 86 #[(0,n),(1,p)] w λq w=>bj R 86 a q w λw=>∃v0,(loadAt 86 a).run prog w=.ok v0 w/\cz R (.tuple #[v0,b,(.int .i64 0)]) w))) (cf R 132 #[c] w λr w=>If r (cf R 133 #[a0,a1] w λd w=>bz R d 0 w λs w=>bz R d 1 w λt w=>bz R d 2 w λu w=>bj R 86 a s w λw=>∃v0,(loadAt 86 a).run prog w=.ok v0 w/\cz R (.tuple #[v0,t,u]) w) (bq R .eql 5 false true c (.int .u8 34) w λv w=>If v (cf R 134 #[a0,a1] w λe w=>bz R e 0 w λx w=>bz R e 1 w λy w=>bz R e 2 w λz w=>bj R 86 a x w λw=>∃v0,(loadAt 86 a).run prog w=.ok v0 w/\cz R (.tuple #[v0,y,z]) w) (cf R 135 #[a0,a1] w λf w=>bq R .eql 3 false true f (.int .i64 0) w λb2 w=>If b2 (cg R 86 #[] w λb3 w=>bj R 86 a b3 w λw=>∃v0,(loadAt 86 a).run prog w=.ok v0 w/\cz R (.tuple #[v0,(.int .i64 0),(.int .i64 14)]) w) (bq R .add 3 false false a1 f w λb4 w=>v1 R (sliceAt 9 a0 (some a1) (some b4) none) w λb5 w=>cg R 86 #[(0,(.int .i64 4)),(1,b5)] w λb6 w=>bj R 86 a b6 w λw=>∃v0,(loadAt 86 a).run prog w=.ok v0 w/\cz R (.tuple #[v0,f,(.int .i64 0)]) w))))
theorem s82:df 82 S82:=λh=>db [] func82 h
theorem Xc:bZ 82:=dd func82
def OZ(R:ER)(a0:Va)(w:Wd):Prop:=
 bq R .lss 2 false true a0 (.int .i64 0) w λa w=>If a (cf R 175 #[a0] w λb w=>cf R 174 #[b] w λc w=>bq R .add 9 true false (.string ⟨#[45]⟩) c w λd w=>cz R d w) (cf R 175 #[a0] w λe w=>cf R 174 #[e] w λf w=>cz R f w)
theorem Xd:de 121 OZ:=λh=>db [] func121 h
theorem O0:bZ 121:=dd func121
def O1(R:ER)(a0:Va)(w:Wd):Prop:=
 bq R .geq 5 false true a0 (.int .u8 97) w λb w=>J1 (λk1=>Gd b true (bq R .leq 5 false true a0 (.int .u8 122) w λe w=>k1 e w) (k1 undef w)) (λf w=>bu R b f (.bool false) w λa w=>J1 (λk2=>Gd a false (bq R .geq 5 false true a0 (.int .u8 65) w λg w=>k2 g w) (k2 undef w)) (λc w=>J1 (λk3=>Gd c true (bq R .leq 5 false true a0 (.int .u8 90) w λh w=>k3 h w) (k3 undef w)) (λi w=>J1 (λk4=>Gd a false (bu R c i (.bool false) w λj w=>k4 j w) (k4 undef w)) (λl w=>bu R a (.bool true) l w λd w=>J1 (λk5=>Gd d false (bq R .eql 5 false true a0 (.int .u8 95) w λm w=>k5 m w) (k5 undef w)) (λn w=>bu R d (.bool true) n w λo w=>cz R o w)))))
theorem Xe:de 129 O1:=λh=>db [] func129 h
theorem zR:bZ 129:=dd func129
def O2(R:ER)(a0 a1:Va)(w:Wd):Prop:=
 L1 (.int .i64 0) w (λg1 a w=>bq R .add 3 false false a1 a w λd w=>cw R 9 a0 w λe w=>bq R .lss 3 false false d e w λb w=>J1 (λk1=>Gd b true (bq R .add 3 false false a1 a w λf w=>cb R 9 a0 f w λg w=>cf R 129 #[g] w λh w=>k1 h w) (k1 undef w)) (λc w=>J1 (λk2=>Gd c false (bq R .add 3 false false a1 a w λi w=>cb R 9 a0 i w λj w=>cf R 132 #[j] w λl w=>k2 l w) (k2 undef w)) (λm w=>J1 (λk3=>Gd b true (bu R c (.bool true) m w λn w=>k3 n w) (k3 undef w)) (λo w=>bu R b o (.bool false) w λp w=>If p (bq R .add 3 false true a (.int .i64 1) w λq w=>g1 q w) (cz R a w)))))
theorem Xf:df 130 O2:=λh=>db [] func130 h
theorem O3:bZ 130:=dd func130
def Hw(R:ER)(a0:Va)(w:Wd):Prop:=
 cg R 208 #[(0,(.string ⟨#[97,110,100]⟩)),(1,(.string ⟨#[98,114,101,97,107]⟩)),(2,(.string ⟨#[99,97,116,99,104]⟩)),(3,(.string ⟨#[100,111]⟩)),(4,(.string ⟨#[101,108,115,101]⟩)),(5,(.string ⟨#[101,108,115,101,105,102]⟩)),(6,(.string ⟨#[101,110,100]⟩)),(7,(.string ⟨#[102,97,108,115,101]⟩)),(8,(.string ⟨#[102,111,114]⟩)),(9,(.string ⟨#[102,117,110,99,116,105,111,110]⟩)),(10,(.string ⟨#[105,102]⟩)),(11,(.string ⟨#[108,111,99,97,108]⟩)),(12,(.string ⟨#[110,105,108]⟩)),(13,(.string ⟨#[110,111,116]⟩)),(14,(.string ⟨#[111,114]⟩)),(15,(.string ⟨#[114,101,116,117,114,110]⟩)),(16,(.string ⟨#[116,104,101,110]⟩)),(17,(.string ⟨#[116,114,117,101]⟩)),(18,(.string ⟨#[116,114,121]⟩)),(19,(.string ⟨#[119,104,105,108,101]⟩))] w λc w=>cu R 208 true (.tuple #[]) w λb w=>bj R 208 b c w λw=>L2 (.bool false) (.int .i64 0) w (λg1 d a w=>bq R .lss 3 false true a (.int .i64 20) w λe w=>If e (ce R 208 b a w λf w=>bi R 9 f w λg w=>bq R .eql 9 false false g a0 w λh w=>If h (cz R (.bool true) w) (bq R .add 3 false true a (.int .i64 1) w λi w=>g1 d i w)) (cz R (.bool false) w))
theorem Xg(R:ER)(a0:Va)(w:Wd):body prog f131.ntmps [] f131.results.toList (bA f131) [a0] R w=Hw R a0 w:=ai
theorem Xh{R:ER}{a0:Va}{w:Wd}(h:Hw R a0 w):Calls prog 131 #[a0] w R:=
 fO [] mixed func131 (c:=bA f131) ai (le_of_ble_eq_true ai) (by rw[Xg];exact h)
theorem EN:bZ 131:=dd func131
def O4(R:ER)(a0:Va)(w:Wd):Prop:=
 bq R .geq 5 false true a0 (.int .u8 48) w λa w=>J1 (λk1=>Gd a true (bq R .leq 5 false true a0 (.int .u8 57) w λb w=>k1 b w) (k1 undef w)) (λc w=>bu R a c (.bool false) w λd w=>cz R d w)
theorem Xi:de 132 O4:=λh=>db [] func132 h
theorem zS:bZ 132:=dd func132
def O5(R:ER)(a0 a1:Va)(w:Wd):Prop:=
 cu R 86 true (.tuple #[]) w λb w=>L1 (.int .i64 0) w (λg1 a w=>bq R .add 3 false false a1 a w λh w=>cw R 9 a0 w λi w=>bq R .lss 3 false false h i w λd w=>J1 (λk1=>Gd d true (bq R .add 3 false false a1 a w λj w=>cb R 9 a0 j w λl w=>cf R 132 #[l] w λm w=>k1 m w) (k1 undef w)) (λn w=>bu R d n (.bool false) w λo w=>If o (bq R .add 3 false true a (.int .i64 1) w λp w=>g1 p w) (bq R .add 3 false false a1 a w λq w=>v1 R (sliceAt 9 a0 (some a1) (some q) none) w λr w=>cf R 181 #[r] w λe w=>bz R e 0 w λs w=>bz R e 1 w λf w=>bq R .eql 23 false true f (.int .i64 4) w λc w=>J1 (λk2=>Gd c false (bq R .add 3 false false a1 a w λt w=>cw R 9 a0 w λu w=>bq R .lss 3 false false t u w λv w=>k2 v w) (k2 undef w)) (λg w=>J1 (λk3=>Gd g true (bq R .add 3 false false a1 a w λx w=>cb R 9 a0 x w λy w=>cf R 129 #[y] w λz w=>k3 z w) (k3 undef w)) (λb2 w=>J1 (λk4=>Gd c false (bu R g b2 (.bool false) w λb3 w=>k4 b3 w) (k4 undef w)) (λb4 w=>bu R c (.bool true) b4 w λb5 w=>If b5 (cg R 86 #[] w λb6 w=>bj R 86 b b6 w λw=>∃v0,(loadAt 86 b).run prog w=.ok v0 w/\cz R (.tuple #[v0,(.int .i64 0),(.int .i64 14)]) w) (bq R .add 3 false false a1 a w λb7 w=>v1 R (sliceAt 9 a0 (some a1) (some b7) none) w λb8 w=>cg R 86 #[(0,(.int .i64 2)),(1,b8),(2,s)] w λb9 w=>bj R 86 b b9 w λw=>∃v0,(loadAt 86 b).run prog w=.ok v0 w/\cz R (.tuple #[v0,a,f]) w)))))))
theorem Xj:df 133 O5:=λh=>db [] func133 h
theorem O6:bZ 133:=dd func133
def O7(R:ER)(a0 a1:Va)(w:Wd):Prop:=
 cu R 86 true (.tuple #[]) w λa w=>cf R 182 #[a0,a1] w λb w=>bq R .eql 3 false true b (.int .i64 0) w λe w=>If e (cg R 86 #[] w λf w=>bj R 86 a f w λw=>∃v0,(loadAt 86 a).run prog w=.ok v0 w/\cz R (.tuple #[v0,(.int .i64 0),(.int .i64 14)]) w) (bq R .add 3 false false a1 b w λg w=>v1 R (sliceAt 9 a0 (some a1) (some g) none) w λh w=>cf R 183 #[h] w λc w=>bz R c 0 w λi w=>bz R c 1 w λd w=>bq R .eql 23 false true d (.int .i64 4) w λj w=>If j (cg R 86 #[] w λl w=>bj R 86 a l w λw=>∃v0,(loadAt 86 a).run prog w=.ok v0 w/\cz R (.tuple #[v0,(.int .i64 0),(.int .i64 14)]) w) (cg R 86 #[(0,(.int .i64 3)),(1,i)] w λm w=>bj R 86 a m w λw=>∃v0,(loadAt 86 a).run prog w=.ok v0 w/\cz R (.tuple #[v0,b,d]) w))
theorem Xk:df 134 O7:=λh=>db [] func134 h
theorem O8:bZ 134:=dd func134
def Hx(R:ER)(a0 a1:Va)(w:Wd):Prop:=
 cg R 209 #[(0,(.string ⟨#[47,47]⟩)),(1,(.string ⟨#[60,60]⟩)),(2,(.string ⟨#[62,62]⟩)),(3,(.string ⟨#[61,61]⟩)),(4,(.string ⟨#[126,61]⟩)),(5,(.string ⟨#[60,61]⟩)),(6,(.string ⟨#[62,61]⟩))] w λg w=>cu R 209 true (.tuple #[]) w λc w=>bj R 209 c g w λw=>L2 (.int .i64 0) (.int .i64 0) w (λg1 d a w=>bq R .lss 3 false true a (.int .i64 7) w λh w=>If h (∃C1:WP,C1 w.drew/\xv C1 (Bo .add 3 false true a1 (.int .i64 2)) λi=>xv C1 (len_ #[9] 3 #[a0]) λj=>xv C1 (Bo .leq 3 false false i j) λe=>Q1 (λk1=>Gd e true (xv C1 (Bo .add 3 false true a1 (.int .i64 2)) λl=>xv C1 (sliceAt 9 a0 (some a1) (some l) none) λm=>xv C1 (indexAt 209 c a) λn=>xv C1 (loadAt 9 n) λo=>xv C1 (Bo .eql 9 false false m o) λp=>k1 p) (k1 undef)) (λq=>xv C1 (Pk e q (.bool false)) λr=>∀w,C1 w->If r (cz R (.int .i64 2) w) (bq R .add 3 false true a (.int .i64 1) w λs w=>g1 d s w))) (bq R .add 3 false true a1 (.int .i64 2) w λt w=>cw R 9 a0 w λu w=>bq R .leq 3 false false t u w λf w=>J1 (λk2=>Gd f true (bq R .add 3 false true a1 (.int .i64 2) w λv w=>v1 R (sliceAt 9 a0 (some a1) (some v) none) w λx w=>bq R .eql 9 false true x (.string ⟨#[46,46]⟩) w λy w=>k2 y w) (k2 undef w)) (λz w=>bu R f z (.bool false) w λb2 w=>If b2 (cz R (.int .i64 2) w) (L2 d (.int .i64 0) w (λg2 b3 b w=>v1 R (len_ #[9] 3 #[(.string ⟨#[43,45,42,37,38,124,126,60,62,61,46,44,40,41,91,93,123,125,35]⟩)]) w λb4 w=>bq R .lss 3 false false b b4 w λb5 w=>If b5 (∃C2:WP,C2 w.drew/\xv C2 (Instr.index 9 a0 a1) λb6=>xv C2 (Instr.index 9 (.string ⟨#[43,45,42,37,38,124,126,60,62,61,46,44,40,41,91,93,123,125,35]⟩) b) λb7=>xv C2 (Bo .eql 5 false false b6 b7) λb8=>∀w,C2 w->If b8 (cz R (.int .i64 1) w) (bq R .add 3 false true b (.int .i64 1) w λb9 w=>g2 b3 b9 w)) (cz R (.int .i64 0) w))))))
theorem Xl(R:ER)(a0 a1:Va)(w:Wd):body prog f135.ntmps [] f135.results.toList (bA f135) [a0,a1] R w=Hx R a0 a1 w:=ai
theorem Xm{R:ER}{a0 a1:Va}{w:Wd}(h:Hx R a0 a1 w):Calls prog 135 #[a0,a1] w R:=
 fO [] mixed func135 (c:=bA f135) ai (le_of_ble_eq_true ai) (by rw[Xl];exact h)
theorem O9:bZ 135:=dd func135
def Pa(R:ER)(a0:Va)(w:Wd):Prop:=
 bq R .lss 205 false true a0 (.int .u64 10) w λa w=>If a (v1 R (Go.convert 205 5 a0) w λb w=>bq R .add 5 true false (.int .u8 48) b w λc w=>bw R 22 1 #[(0,c)] w λd w=>v1 R (Go.convert 22 9 d) w λe w=>cz R e w) (bq R .quo 205 false true a0 (.int .u64 10) w λf w=>cf R 174 #[f] w λg w=>bq R .rem 205 false true a0 (.int .u64 10) w λh w=>cf R 174 #[h] w λi w=>bq R .add 9 false false g i w λj w=>cz R j w)
theorem Xn:de 174 Pa:=λh=>db [] func174 h
theorem vN:bZ 174:=dd func174
def Pb(R:ER)(a0:Va)(w:Wd):Prop:=
 bq R .lss 2 false true a0 (.int .i64 0) w λa w=>If a (v1 R (Go.convert 2 205 a0) w λb w=>cf R 208 #[b] w λc w=>cz R c w) (v1 R (Go.convert 2 205 a0) w λd w=>cz R d w)
theorem Xo:de 175 Pb:=λh=>db [] func175 h
theorem EO:bZ 175:=dd func175
def Pc(R:ER)(a0:Va)(w:Wd):Prop:=
 bw R 22 1 #[(0,(.int .u8 34))] w λf w=>L2 f (.int .i64 0) w (λg1 b c w=>cw R 9 a0 w λg w=>bq R .lss 3 false false c g w λh w=>If h (J1 (λk1=>cb R 9 a0 c w λa w=>bq R .eql 5 false true a (.int .u8 10) w λi w=>If i (bw R 22 2 #[(0,(.int .u8 92)),(1,(.int .u8 110))] w λj w=>v1 R (append_ #[22,22] 22 #[b,j]) w λl w=>k1 l w) (bq R .eql 5 false true a (.int .u8 9) w λm w=>If m (bw R 22 2 #[(0,(.int .u8 92)),(1,(.int .u8 116))] w λn w=>v1 R (append_ #[22,22] 22 #[b,n]) w λo w=>k1 o w) (bq R .eql 5 false true a (.int .u8 92) w λd w=>J1 (λk2=>Gd d false (bq R .eql 5 false true a (.int .u8 34) w λp w=>k2 p w) (k2 undef w)) (λq w=>bu R d (.bool true) q w λr w=>If r (bw R 22 2 #[(0,(.int .u8 92)),(1,a)] w λs w=>v1 R (append_ #[22,22] 22 #[b,s]) w λt w=>k1 t w) (bq R .lss 5 false true a (.int .u8 32) w λe w=>J1 (λk3=>Gd e false (bq R .gtr 5 false true a (.int .u8 126) w λu w=>k3 u w) (k3 undef w)) (λv w=>bu R e (.bool true) v w λx w=>If x (bq R .quo 5 false true a (.int .u8 16) w λy w=>cf R 209 #[y] w λz w=>bq R .rem 5 false true a (.int .u8 16) w λb2 w=>cf R 209 #[b2] w λb3 w=>bw R 22 4 #[(0,(.int .u8 92)),(1,(.int .u8 120)),(2,z),(3,b3)] w λb4 w=>v1 R (append_ #[22,22] 22 #[b,b4]) w λb5 w=>k1 b5 w) (bw R 22 1 #[(0,a)] w λb6 w=>v1 R (append_ #[22,22] 22 #[b,b6]) w λb7 w=>k1 b7 w))))))) (λb8 w=>bq R .add 3 false true c (.int .i64 1) w λb9 w=>g1 b8 b9 w)) (bw R 22 1 #[(0,(.int .u8 34))] w λc2 w=>v1 R (append_ #[22,22] 22 #[b,c2]) w λc3 w=>v1 R (Go.convert 22 9 c3) w λc4 w=>cz R c4 w))
theorem Xp:de 176 Pc:=λh=>db [] func176 h
theorem Pd:bZ 176:=dd func176
def Pe(R:ER)(a0:Va)(w:Wd):Prop:=
 cw R 9 a0 w λn w=>bq R .gtr 3 false true n (.int .i64 0) w λi w=>J1 (λk1=>Gd i true (cb R 9 a0 (.int .i64 0) w λo w=>bq R .eql 5 false true o (.int .u8 45) w λp w=>k1 p w) (k1 undef w)) (λq w=>bu R i q (.bool false) w λb w=>J1 (λk2=>If b (v1 R (sliceAt 9 a0 (some (.int .i64 1)) none none) w λr w=>k2 r w) (k2 a0 w)) (λa w=>cw R 9 a w λs w=>bq R .eql 3 false true s (.int .i64 0) w λe w=>J1 (λk3=>Gd e false (cb R 9 a (.int .i64 0) w λt w=>bq R .eql 5 false true t (.int .u8 48) w λu w=>k3 u w) (k3 undef w)) (λf w=>J1 (λk4=>Gd f true (cw R 9 a w λv w=>bq R .gtr 3 false true v (.int .i64 1) w λx w=>k4 x w) (k4 undef w)) (λj w=>J1 (λk5=>Gd j false (k5 b w) (k5 undef w)) (λy w=>J1 (λk6=>Gd f true (bu R j (.bool true) y w λz w=>k6 z w) (k6 undef w)) (λb2 w=>J1 (λk7=>Gd e false (bu R f b2 (.bool false) w λb3 w=>k7 b3 w) (k7 undef w)) (λb4 w=>bu R e (.bool true) b4 w λb5 w=>If b5 (cz R (.tuple #[(.int .i64 0),(.int .i64 4)]) w) (L3 (.int .i64 0) (.int .i64 0) (.int .i64 0) w (λg1 b6 b7 d w=>cw R 9 a w λb8 w=>bq R .lss 3 false false d b8 w λb9 w=>If b9 (cb R 9 a d w λc2 w=>bq R .lss 5 false true c2 (.int .u8 48) w λl w=>J1 (λk8=>Gd l false (cb R 9 a d w λc3 w=>bq R .gtr 5 false true c3 (.int .u8 57) w λc4 w=>k8 c4 w) (k8 undef w)) (λc5 w=>bu R l (.bool true) c5 w λc6 w=>If c6 (cz R (.tuple #[(.int .i64 0),(.int .i64 4)]) w) (bq R .add 3 false true d (.int .i64 1) w λc7 w=>g1 b6 b7 c7 w))) (cw R 9 a w λc8 w=>bq R .gtr 3 false true c8 (.int .i64 19) w λc9 w=>If c9 (cz R (.tuple #[(.int .i64 0),(.int .i64 15)]) w) (L2 (.int .u64 0) (.int .i64 0) w (λg2 c g w=>cw R 9 a w λd2 w=>bq R .lss 3 false false g d2 w λd3 w=>If d3 (bq R .mul 205 true false (.int .u64 10) c w λd4 w=>cb R 9 a g w λd5 w=>bq R .sub 5 false true d5 (.int .u8 48) w λd6 w=>v1 R (Go.convert 5 205 d6) w λd7 w=>bq R .add 205 false false d4 d7 w λd8 w=>bq R .add 3 false true g (.int .i64 1) w λd9 w=>g2 d8 d9 w) (J1 (λk9=>Gd b true (bq R .gtr 205 false true c (.int .u64 9223372036854775808) w λe2 w=>k9 e2 w) (k9 undef w)) (λe3 w=>bu R b e3 (.bool false) w λh w=>J1 (λrK=>Gd h false (ci R .not b w λe4 w=>rK e4 w) (rK undef w)) (λm w=>J1 (λpX=>Gd m true (bq R .geq 205 false true c (.int .u64 9223372036854775808) w λe5 w=>pX e5 w) (pX undef w)) (λe6 w=>J1 (λrL=>Gd h false (bu R m e6 (.bool false) w λe7 w=>rL e7 w) (rL undef w)) (λe8 w=>bu R h (.bool true) e8 w λe9 w=>If e9 (cz R (.tuple #[(.int .i64 0),(.int .i64 15)]) w) (If b (cf R 208 #[c] w λf2 w=>v1 R (Go.convert 205 2 f2) w λf3 w=>cz R (.tuple #[f3,(.int .i64 0)]) w) (v1 R (Go.convert 205 2 c) w λf4 w=>cz R (.tuple #[f4,(.int .i64 0)]) w)))))))))))))))))))
theorem Xr:de 181 Pe:=λh=>db [] func181 h
theorem Pf:bZ 181:=dd func181
def Pg(R:ER)(a0 a1:Va)(w:Wd):Prop:=
 bq R .add 3 false true a1 (.int .i64 1) w λd w=>L2 (.int .i64 0) d w (λg1 b a w=>cw R 9 a0 w λe w=>bq R .lss 3 false false a e w λf w=>If f (J2 (λk1=>cb R 9 a0 a w λg w=>bq R .eql 5 false true g (.int .u8 10) w λh w=>If h (cz R (.int .i64 0) w) (cb R 9 a0 a w λi w=>bq R .eql 5 false true i (.int .u8 34) w λj w=>If j (bq R .add 3 false true a (.int .i64 1) w λl w=>bq R .sub 3 false false l a1 w λm w=>cz R m w) (cb R 9 a0 a w λn w=>bq R .eql 5 false true n (.int .u8 92) w λo w=>If o (bq R .add 3 false true a (.int .i64 1) w λp w=>cw R 9 a0 w λq w=>bq R .lss 3 false false p q w λc w=>J1 (λk2=>Gd c true (bq R .add 3 false true a (.int .i64 1) w λr w=>cb R 9 a0 r w λs w=>bq R .eql 5 false true s (.int .u8 10) w λt w=>k2 t w) (k2 undef w)) (λu w=>bu R c u (.bool false) w λv w=>If v (cz R (.int .i64 0) w) (bq R .add 3 false true a (.int .i64 1) w λx w=>k1 b x w))) (k1 b a w)))) (λy z w=>bq R .add 3 false true z (.int .i64 1) w λb2 w=>g1 y b2 w)) (cz R (.int .i64 0) w))
theorem Xt:df 182 Pg:=λh=>db [] func182 h
theorem Ph:bZ 182:=dd func182
def Pj(R:ER)(a0:Va)(w:Wd):Prop:=
 cw R 9 a0 w λh w=>bq R .lss 3 false true h (.int .i64 2) w λc w=>J1 (λk1=>Gd c false (cb R 9 a0 (.int .i64 0) w λi w=>bq R .neq 5 false true i (.int .u8 34) w λj w=>k1 j w) (k1 undef w)) (λl w=>bu R c (.bool true) l w λd w=>J1 (λk2=>Gd d false (cw R 9 a0 w λm w=>bq R .sub 3 false true m (.int .i64 1) w λn w=>cb R 9 a0 n w λo w=>bq R .neq 5 false true o (.int .u8 34) w λp w=>k2 p w) (k2 undef w)) (λq w=>bu R d (.bool true) q w λr w=>If r (cz R (.tuple #[(.string ⟨#[]⟩),(.int .i64 4)]) w) (cw R 9 a0 w λs w=>bq R .sub 3 false true s (.int .i64 1) w λt w=>v1 R (sliceAt 9 a0 (some (.int .i64 1)) (some t) none) w λe w=>L4 (.string ⟨#[]⟩) (.int .i64 0) (.slice none 0 0) (.int .i64 0) w (λg1 u v a b w=>cw R 9 e w λx w=>bq R .lss 3 false false b x w λy w=>If y (v1 R (sliceAt 9 e (some b) none none) w λz w=>cf R 210 #[z] w λf w=>bz R f 0 w λb2 w=>bz R f 1 w λg w=>bq R .eql 3 false true g (.int .i64 0) w λb3 w=>If b3 (cz R (.tuple #[(.string ⟨#[]⟩),(.int .i64 4)]) w) (bw R 22 1 #[(0,b2)] w λb4 w=>v1 R (append_ #[22,22] 22 #[a,b4]) w λb5 w=>bq R .add 3 false false b g w λb6 w=>g1 u v b5 b6 w)) (cw R 22 a w λb7 w=>bq R .gtr 3 false true b7 (.int .i64 4096) w λb8 w=>If b8 (cz R (.tuple #[(.string ⟨#[]⟩),(.int .i64 3)]) w) (v1 R (Go.convert 22 9 a) w λb9 w=>cz R (.tuple #[b9,(.int .i64 0)]) w))))))
theorem Xu:de 183 Pj:=λh=>db [] func183 h
theorem Pl:bZ 183:=dd func183
def Pm(R:ER)(a0:Va)(w:Wd):Prop:=
 ci R .xor a0 w λa w=>cf R 228 #[a,(.int .u64 1)] w λb w=>cz R b w
theorem Xx:de 208 Pm:=λh=>db [] func208 h
theorem Pn:bZ 208:=dd func208
def Po(R:ER)(a0:Va)(w:Wd):Prop:=
 bq R .lss 5 false true a0 (.int .u8 10) w λa w=>If a (bq R .add 5 true false (.int .u8 48) a0 w λb w=>cz R b w) (bq R .add 5 true false (.int .u8 97) a0 w λc w=>bq R .sub 5 false true c (.int .u8 10) w λd w=>cz R d w)
theorem Xy:de 209 Po:=λh=>db [] func209 h
theorem EP:bZ 209:=dd func209
def Pp(R:ER)(a0:Va)(w:Wd):Prop:=
 cw R 9 a0 w λh w=>bq R .eql 3 false true h (.int .i64 0) w λb w=>J1 (λk1=>Gd b false (cb R 9 a0 (.int .i64 0) w λi w=>bq R .lss 5 false true i (.int .u8 32) w λj w=>k1 j w) (k1 undef w)) (λl w=>bu R b (.bool true) l w λc w=>J1 (λk2=>Gd c false (cb R 9 a0 (.int .i64 0) w λm w=>bq R .gtr 5 false true m (.int .u8 126) w λn w=>k2 n w) (k2 undef w)) (λo w=>bu R c (.bool true) o w λd w=>J1 (λk3=>Gd d false (cb R 9 a0 (.int .i64 0) w λp w=>bq R .eql 5 false true p (.int .u8 34) w λq w=>k3 q w) (k3 undef w)) (λr w=>bu R d (.bool true) r w λs w=>If s (cz R (.tuple #[(.int .u8 0),(.int .i64 0)]) w) (cb R 9 a0 (.int .i64 0) w λt w=>bq R .neq 5 false true t (.int .u8 92) w λu w=>If u (cb R 9 a0 (.int .i64 0) w λv w=>cz R (.tuple #[v,(.int .i64 1)]) w) (cw R 9 a0 w λx w=>bq R .lss 3 false true x (.int .i64 2) w λy w=>If y (cz R (.tuple #[(.int .u8 0),(.int .i64 0)]) w) (J2 (λk4=>cb R 9 a0 (.int .i64 1) w λa w=>bq R .eql 5 false true a (.int .u8 110) w λz w=>If z (cz R (.tuple #[(.int .u8 10),(.int .i64 2)]) w) (bq R .eql 5 false true a (.int .u8 116) w λb2 w=>If b2 (cz R (.tuple #[(.int .u8 9),(.int .i64 2)]) w) (J1 (λk5=>bq R .eql 5 false true a (.int .u8 92) w λe w=>If e (k5 e w) (bq R .eql 5 false true a (.int .u8 34) w λb3 w=>k5 b3 w)) (λb4 w=>If b4 (cb R 9 a0 (.int .i64 1) w λb5 w=>cz R (.tuple #[b5,(.int .i64 2)]) w) (bq R .eql 5 false true a (.int .u8 120) w λb6 w=>If b6 (cw R 9 a0 w λb7 w=>bq R .geq 3 false true b7 (.int .i64 4) w λf w=>J1 (λk6=>Gd f true (cb R 9 a0 (.int .i64 2) w λb8 w=>cf R 229 #[b8] w λb9 w=>bq R .lss 5 false true b9 (.int .u8 16) w λc2 w=>k6 c2 w) (k6 undef w)) (λc3 w=>bu R f c3 (.bool false) w λg w=>J1 (λk7=>Gd g true (cb R 9 a0 (.int .i64 3) w λc4 w=>cf R 229 #[c4] w λc5 w=>bq R .lss 5 false true c5 (.int .u8 16) w λc6 w=>k7 c6 w) (k7 undef w)) (λc7 w=>bu R g c7 (.bool false) w λc8 w=>If c8 (∃C1:WP,C1 w.drew/\xv C1 (Instr.index 9 a0 (.int .i64 2)) λc9=>xq C1 (callFunc 229 #[c9]) λd2=>xv C1 (Bo .mul 5 true false (.int .u8 16) d2) λd3=>xv C1 (Instr.index 9 a0 (.int .i64 3)) λd4=>xq C1 (callFunc 229 #[d4]) λd5=>xv C1 (Bo .add 5 false false d3 d5) λd6=>∀w,C1 w->cz R (.tuple #[d6,(.int .i64 4)]) w) (k4 (.int .u8 0) (.int .i64 0) w)))) (k4 (.int .u8 0) (.int .i64 0) w)))))) (λd7 d8 w=>cz R (.tuple #[(.int .u8 0),(.int .i64 0)]) w)))))))
theorem Xz:de 210 Pp:=λh=>db [] func210 h
theorem Pq:bZ 210:=dd func210
def Pr(R:ER)(a0 a1:Va)(w:Wd):Prop:=
 L2 a0 a1 w (λg1 a b w=>bq R .neq 205 false true b (.int .u64 0) w λc w=>If c (bq R .and 205 false false a b w λd w=>bq R .xor 205 false false a b w λe w=>bq R .shl 205 false true d (.int .u64 1) w λf w=>g1 e f w) (cz R a w))
theorem XA:df 228 Pr:=λh=>db [] func228 h
theorem Ps:bZ 228:=dd func228
def Pt(R:ER)(a0:Va)(w:Wd):Prop:=
 bq R .geq 5 false true a0 (.int .u8 48) w λa w=>J1 (λk1=>Gd a true (bq R .leq 5 false true a0 (.int .u8 57) w λc w=>k1 c w) (k1 undef w)) (λd w=>bu R a d (.bool false) w λe w=>If e (bq R .sub 5 false true a0 (.int .u8 48) w λf w=>cz R f w) (bq R .geq 5 false true a0 (.int .u8 97) w λb w=>J1 (λk2=>Gd b true (bq R .leq 5 false true a0 (.int .u8 102) w λg w=>k2 g w) (k2 undef w)) (λh w=>bu R b h (.bool false) w λi w=>If i (bq R .sub 5 false true a0 (.int .u8 97) w λj w=>bq R .add 5 false true j (.int .u8 10) w λl w=>cz R l w) (cz R (.int .u8 16) w))))
theorem XB:de 229 Pt:=λh=>db [] func229 h
theorem ES:bZ 229:=dd func229
end Go.Proofs.YtoddjlclpnoomaaGreatDoor

import Derived.LaidMore
import Derived.Lay
import Derived.Lib.LaidU8T
import Derived.OpenShut
import Derived.PinnedBridge
import Derived.ProofKit
import Derived.SevenTiedAt
import Derived.Stop.Joined
import Derived.Stop.LaidErr
import Derived.Test.YtoddjlclpnoomaaGreatDoorCards
import Derived.Test.YtoddjlclpnoomaaGreatDoorTie
import Derived.Test.YtoddjlclpnoomaaGreatDoorU23
set_option linter.unusedVariables false
set_option linter.unusedSimpArgs false
set_option maxRecDepth 100000
open Go.Proofs.Tryz
open Go.Instr (loadAt storeAt sliceAt fieldAt indexAt)
open List (mem_filter mem_range mem_map mem_singleton)
open Nat (lt_or_ge le_of_ble_eq_true)
open Go.Builtin (append_ len_)
open Go.World (cell?)
namespace Go.Proofs.YtoddjlclpnoomaaGreatDoor
open Go.Sh Go.RowKit Go.Lib Go.Shelf
def jU:List (String×DataW Unit):=Rows.printTreesRow.laid
def eK:List (String×DataW Unit):=[("math/bits.deBruijn32tab",Rows.laid_math_bits_deBruijn32tab),("math/bits.deBruijn64tab",Rows.laid_math_bits_deBruijn64tab),("internal/strconv.uint64pow10",Rows.laid_internal_strconv_uint64pow10),("unicode/utf8.acceptRanges",Rows.laid_unicode_utf8_acceptRanges),("strconv.ErrRange",Rows.laid_strconv_ErrRange),("strconv.ErrSyntax",Rows.laid_strconv_ErrSyntax),("unicode.White_Space",Rows.laid_unicode_White_Space),("strings.asciiSpace",Rows.laid_strings_asciiSpace),("unicode/utf8.first",Rows.laid_unicode_utf8_first)]
def Ls:List (String×DataW Unit):=[("errors.errorType",Rows.laid_errors_errorType)]
theorem AK(W:Wd):laidMetH prog jU W=(laidMet prog eK W/\handlesMet prog Ls W):=ai
theorem AL:(Rows.laid_strings_asciiSpace:DataW Unit)=tabData .u8 Lib.asciiSpaceTab:=ai
theorem Lt:(Rows.laid_internal_strconv_uint64pow10:DataW Unit)=tabData .u64 Lib.pow10Tab:=ai
theorem AM:Rows.laid_unicode_utf8_first=firstData:=Pinned.utf8First_eq
theorem xU:(Rows.laid_unicode_utf8_acceptRanges:DataW Unit)=acceptData:=ai
theorem jV{W:Wd}{name:String}{k:IntKind}{zs:List Int}{g:Nat}{t e:TypeId}{n:Nat}(h:VarReads prog W name (tabData k zs))
  (hg:prog.globalNamed name=some g) (hty:(prog.globals[g]?).map (·.type)=some t) (ht:prog.underlying t=some (.array n e)) (he:prog.underlying e=some (.int k)) (hce:prog.cellsOf e=1) (KB:prog.cellsOf t=n):Lib.TabIs prog W name k zs:=by
 obtain⟨g',t',cs,fuel,p,pX,uj,DO,hd⟩:=h;obtain rfl:=Option.some.inj (hg.symm.trans pX);obtain rfl:=Option.some.inj (hty.symm.trans uj);unfold Lib.TabIs;rw[DO,←cells_of_tab ht he hce KB hd]
theorem rt:(prog.cutTypes.find? (·.1== "internal/reflectlite.rtype")).map (·.2)=some 128:=ai
theorem ET:∃n,prog.types.size=n/\((List.range n).filter λt=>prog.rowNamed t [101,114,114,111,114])=[31]:=⟨prog.types.size,rfl,ai⟩
theorem EU(u:TypeId)(h:prog.typeName? 3 u=some "*errors.errorString"):u=272:=
 have star: "*"++ "errors.errorString"= "*errors.errorString":=by decide
 typeName_ptr_named (nm:= "errors.errorString") (by rw[star];kernel_rfl) ai ay u (by rw[star];exact h)
theorem uY{v:Va}{W:Wd}(h:Row.ok prog W .any 0 3 #[v]):∃m,v=.int .i64 m:=by
 obtain⟨ts,h1,_,h3⟩:=h;have e:prog.cellTypes prog.depth 3=some [3]:=ai
 rw[e]at h1;obtain rfl:=Option.some.inj h1;obtain⟨u,hu,hc⟩:=h3 0 v rfl;obtain rfl:u=3:=by simpa using hu.symm
 unfold Cell.ok at hc;rw[underlying3]at hc
 cases v<;>first|exact hc.elim|skip
 rename_i k m
 obtain⟨e1,_⟩:=hc;rw[e1];exact⟨_,rfl⟩
theorem sR{W:Wd}(h:laidMetH prog jU W)(hs:W.ShapedOpen prog):GL W:=by
 rw[AK]at h;obtain⟨h,hh⟩:=h;obtain⟨s1,s2⟩:=hs;refine⟨?_,?_,?_,?_,?_,?_,?_⟩
 .have FH:prog.globals.size=12:=ai
  have h0:12<(begin prog (λ_ _=>0) default).world.heap.size:=le_of_ble_eq_true ai;obtain⟨o,o₀,ho,_⟩:=s2 12 aj h0;rcases lt_or_ge 12 W.heap.size with h|h
  .omega
  .rw[Array.getElem?_eq_none aj]at ho;cases ho
 .have hz:((begin prog (λ_ _=>0) default).world.heap[3]?).bind Obj.row?=some (#[.int .i64 0],3):=ai
  have FH:prog.globals.size=12:=ai
  obtain⟨cs,hc,hl,hr⟩:=s1 3 _ _ aj hz;have hb:prog.buildable 3=true:=ai
  have ho:=hr hb;match cs,hl with
  |⟨[v]⟩,_=>
   obtain⟨m,rfl⟩:=uY ho;exact⟨m,by unfold cell?;rw[hc];rfl⟩
 .have:=laidMet.reads h (n:= "strings.asciiSpace") (d:=Rows.laid_strings_asciiSpace) (by unfold eK;simp);rw[AL]at this;exact jV (g:=1) (t:=156) (e:=5) (n:=256) this ai ai ai ai ai ai
 .have:=laidMet.reads h (n:= "internal/strconv.uint64pow10") (d:=Rows.laid_internal_strconv_uint64pow10) (by unfold eK;simp);rw[Lt]at this;exact jV (g:=5) (t:=262) (e:=205) (n:=20) this ai ai ai ai ai ai
 .have h3:=laidMet.reads h (n:= "unicode/utf8.first") (d:=Rows.laid_unicode_utf8_first) (by unfold eK;simp);rw[AM]at h3;have h4:=laidMet.reads h (n:= "unicode/utf8.acceptRanges") (d:=Rows.laid_unicode_utf8_acceptRanges) (by unfold eK;simp);rw[xU]at h4;exact utf8Tabs_of_readsT (ρ:=kX) ⟨underlying5,underlying156,underlying270,underlying271⟩ ⟨by kernel_rfl,ai,ai,ai,ai,ai,ai⟩ h3 h4
 .obtain⟨a,s,hv,-,-,-⟩:=laid_sentinel (h.tail.tail.tail.tail) (g:=4) (ti:=31) (tp:=272) (te:=274) (ts:=9) ai ai underlying31 EU underlying272 underlying274 rfl rfl underlying9 ai ai;have h0:=World.var?_cell (show prog.globalNamed "strconv.ErrRange"=some 4 by kernel_rfl) hv 0;exact⟨a,hv,by simpa using h0⟩
 .obtain⟨name,u,ty,e1,e2,e3,e4,e5⟩:=hh _ (mem_singleton.2 rfl);have en:name=[101,114,114,111,114]:=(Option.some.inj e1).symm;subst en;obtain rfl:=Option.some.inj (rt.symm.trans e2);obtain⟨n,hn,hf⟩:=ET;have hm:ty∈(List.range n).filter λt=>prog.rowNamed t [101,114,114,111,114]:=mem_filter.2 ⟨mem_range.2 (by rw[←hn];exact e3),e4⟩;rw[hf]at hm;obtain rfl:=mem_singleton.1 hm;have hth:typeHandle prog 31=.pointer (some ⟨12,31,none⟩):=ai
  rw[hth]at e5;have h0:=World.var?_cell (show prog.globalNamed "errors.errorType"=some 0 by kernel_rfl) e5 0;simpa using h0
end Go.Proofs.YtoddjlclpnoomaaGreatDoor
namespace Go.Proofs.YtoddjlclpnoomaaGreatDoor
open Go.Sh Go.RowKit Go.Lib Go.Shelf Go.ChangeShapes Go.WideShapes Go.ChangeAt
theorem ph{w w':Wd}(h:aD [] w w')(may:MemPlace->Prop):w.keptBut w' may:=by
 refine⟨h.io.1,h.io.2,λi hi=>?_⟩;rw[h.same i hi ak];split<;>simp_all
theorem qQ{w w':Wd}(h:aD [] w w'){p:MemPlace}(hp:p.block<w.heap.size):w.sameAt w' p:=by
 cases p with
 |cell b o=>exact World.cell?_of_block (w:=w) (h.same b hp ak)
 |map b=>exact h.same b hp ak
theorem laidOut:laidOutB prog=true:=ai
theorem own:ownKnob prog.godebug=none:=ai
theorem uZ{H:Type}{enc:TypeId×Va->H}{t:TypeId}(hr:prog.readableRec t=true)(EM:t<prog.types.size){W W':Wd}{v:Va}{d:DataW H}{ps:List MemPlace}
  (h:DataW.Trod enc prog W 0 (λ_=>true) true t v d ps) (hb:aD [] W W') (bO:∀x∈ps,x.block<W.heap.size):
  DataW.Trod enc prog W' 0 (λb=>decide (b<W.heap.size)) true t v d ps:=
 WideElems.Trod_stays laidOut hr EM h (λx hx=>qQ hb (bO x hx)) (λx hx=>by simpa using bO x hx)
noncomputable def xV(os:Os):Wd:=
 let w0:=World.holding prog os ⟨#[],#[],[]⟩
 {w0 with heap:=w0.heap.modify 0 fun
   |.cells _ t frozen=>.cells #[.iface 128 (.agg #[.pointer (some ⟨12,31,none⟩)])] t frozen
   |o=>o}
noncomputable def kN(os:Os):Wd:=(xV os).layVars prog eK
theorem u0(os:Os):(kN os).os=os:=(World.layVars_os _ _ _).trans rfl
theorem u9(os:Os)(args:AV):laidMetH prog jU ((kN os).forCall (λ_ _=>0) ⟨#[],args,[]⟩).memory:=by
 have e1:(eK.filter λx=>(eK.map (·.1)).contains x.1)=eK:=List.filter_eq_self.2 λx hx=>List.contains_iff_mem.2 (mem_map.2 ⟨x,hx,rfl⟩);have e2:(eK.filter λx=>!(eK.map (·.1)).contains x.1)=[]:=List.filter_eq_nil_iff.2 λx hx=>by rw[List.contains_iff_mem.2 (mem_map.2 ⟨x,hx,rfl⟩)];simp
 have h:laidMet prog eK (kN os):=laidMet_layVars (w0:=xV os) (eK.map (·.1)) [] (by rw[e1];rfl) (by rw[e1];kernel_rfl) (by rw[e1];kernel_rfl) (by rw[e2];exact LaidIn.none);have hm:=h.of_heap (w':=((kN os).forCall (λ_ _=>0) ⟨#[],args,[]⟩).memory) (by simp[World.memory,World.forCall,Input.heap]);refine laidMetH_of_parts ?_ ?_
 .have e3:(jU.filter λx=>x.2.handleName?.isNone)=eK:=ai
  rw[e3];exact hm
 .kernel_rfl
theorem pj(os:Os)(args:AV):((kN os).forCall (λ_ _=>0) ⟨#[],args,[]⟩).Shaped prog:=
 World.shaped_of_ZipB ai ai
theorem xW{H:Type}{enc:TypeId×Va->H}{a:Assume}{C:Checked}{os:Os}{f:FuncId}{fn:Func}{s:ChangeSpec}{conds:List PathCond}{apart fresh handsOn again:Bool}{X:Wd->AV->Prop}
  (hX:∀(w w':Wd) (args:AV),w.heap=w'.heap->X w args->X w' args)
  (own:ownKnob C.prog.godebug=none) (started:os.Started) (EV:C.prog.inits.idxOf? f=none) (Tt:C.prog.funcs[f]?=some fn)
  (witness:∃(w:Wd) (tape:Tape) (i:Input),w.os=os/\(w.forCall tape i).Shaped C.prog/\i.vars=[]/\Input.okWide C.prog (w.forCall tape i) .any w.heap.size f i/\
   ((s.pre enc C.prog fn conds apart (w.forCall tape i).memory i.args/\X (w.forCall tape i).memory i.args)/\sizedMet enc C.prog fn (OpenSpec.ofChange s) apart (w.forCall tape i).memory i.args)/\a.holds C.prog (lone (Frame.enter C.prog f i.args .normal) [] (w.forCall tape i)))
  (xX:∀(W:Wd) (base:Nat) (args:AV) (ds gs:List (DataW H)) (before:List MemPlace),W.ShapedOpen C.prog->
   (∀(j:Nat) t v,fn.params[j]?=some t->args[j]?=some v->Value.okWide C.prog W .any base t v)->
   DataW.Whole enc C.prog fn.params.toList s.vars apart W args.toList ds gs before->
   X W args->
   Calls C.prog f args W λe W'=>∃v,e=.returned v/\s.post enc C.prog fn apart fresh handsOn again W args v W'):
  ReturnsInHanded a C os f .any (λw args=>(s.pre enc C.prog fn conds apart w args/\X w args)/\sizedMet enc C.prog fn (OpenSpec.ofChange s) apart w args) (s.post enc C.prog fn apart fresh handsOn again):=by
 refine returnsInHanded_of_calls own started EV witness ?_;intro w tape i _ qC _ iv sS hholds;obtain⟨_,_,_,fn',Tu,_,_,_,_,fu⟩:=iv;have e:fn'=fn:=Option.some.inj (Tu.symm.trans Tt);subst e;obtain⟨⟨⟨ds,gs,before,hw,hc⟩,hx⟩,hz⟩:=sS;have zv:=DataW.Whole.of_heap (w':=w.forCall tape i) (by rfl) hw;refine(xX (w.forCall tape i) w.heap.size i.args ds gs before qC fu zv (hX _ _ _ (by rfl) hx)).mono λe W' ⟨v,he,hp⟩=>?_;subst he;exact ChangeSpec.post_blind hp
theorem vd(w w':Wd)(h:w.heap=w'.heap)(hl:laidMetH prog jU w):laidMetH prog jU w':=hl.of_heap h
end Go.Proofs.YtoddjlclpnoomaaGreatDoor
namespace Go.Proofs.YtoddjlclpnoomaaGreatDoor
open Go.Sh
set_option maxRecDepth 100000
def lF(R:ER)(s f t:Nat)(p:Va)(w:Wd)(k:VK):Prop:=
 up R (Nc p) w λa w=>v1 R (fieldAt s a f) w λb w=>v1 R (loadAt t b) w k
def sF(R:ER)(s f t:Nat)(p v:Va)(w:Wd)(k:WP):Prop:=
 up R (Nc p) w λa w=>v1 R (fieldAt s a f) w λb w=>u1 R (storeAt t b v) w k
def lD(R:ER)(s f t:Nat)(p:Va)(w:Wd)(k:VK):Prop:=
 v1 R (fieldAt s p f) w λb w=>v1 R (loadAt t b) w k
def qF(C:WP)(s f t:Nat)(p:Va)(k:Va->Prop):Prop:=
 xq C (Nc p) λa=>xv C (fieldAt s a f) λb=>xv C (loadAt t b) k
def xF(S:WP)(s f t:Nat)(p:Va)(k:Va->Prop):Prop:=
 xs t0 (Nc p) λa=>xw t0 (fieldAt s a f) λb=>xw S (loadAt t b) k
def xD(S:WP)(s f t:Nat)(p:Va)(k:Va->Prop):Prop:=
 xw t0 (fieldAt s p f) λb=>xw S (loadAt t b) k
def xY(s f:Nat):Bool:=if s=108 then f<=4 else if s=43 then f<=7 else if s=47 then f<=9 else if s=67 then f<=2 else if s=86 then f<=3 else s==69&&f==0
set_option maxHeartbeats 1000000 in
theorem xZ{s f b:Nat}{w:Wd}(h:xY s f=true):(fieldAt s (.pointer (some ⟨b,0,none⟩)) f).run prog w=.ok (.pointer (some ⟨b,f,none⟩)) w:=by
 unfold xY at h;split at h
 .subst s;have:f=0\/f=1\/f=2\/f=3\/f=4:=by simp at h;omega
  rcases this with rfl|rfl|rfl|rfl|rfl<;>simp[go_sem]
 split at h
 .subst s;have:f=0\/f=1\/f=2\/f=3\/f=4\/f=5\/f=6\/f=7:=by simp at h;omega
  rcases this with rfl|rfl|rfl|rfl|rfl|rfl|rfl|rfl<;>simp[go_sem]
 split at h
 .subst s;have:f=0\/f=1\/f=2\/f=3\/f=4\/f=5\/f=6\/f=7\/f=8\/f=9:=by simp at h;omega
  rcases this with rfl|rfl|rfl|rfl|rfl|rfl|rfl|rfl|rfl|rfl<;>simp[go_sem]
 split at h
 .subst s;have:f=0\/f=1\/f=2:=by simp at h;omega
  rcases this with rfl|rfl|rfl<;>simp[go_sem]
 split at h
 .subst s;have:f=0\/f=1\/f=2\/f=3:=by simp at h;omega
  rcases this with rfl|rfl|rfl|rfl<;>simp[go_sem]
 .simp at h
  obtain⟨rfl,rfl⟩:=h;simp[go_sem]
section
variable {R:ER}{s f t b:Nat}{w:Wd}{cs:LV}{v:Va}
theorem lD.i{k:VK}(hA:At w b cs)(hk:k v w)(hv:cs[f]?=some v:=by exact rfl)(h1:xY s f=true:=by exact rfl)(h2:dT t=true:=by exact rfl):lD R s f t (.pointer (some ⟨b,0,none⟩)) w k:=
 V1.i (xZ h1) (V1.load (aC h2) hA hv hk)
theorem lF.i{k:VK}(hA:At w b cs)(hk:k v w)(hv:cs[f]?=some v:=by exact rfl)(h1:xY s f=true:=by exact rfl)(h2:dT t=true:=by exact rfl):lF R s f t (.pointer (some ⟨b,0,none⟩)) w k:=
 by unfold lF up v1;exact Up.i (Nc.p _ _) (V1.i (xZ h1) (V1.load (aC h2) hA hv hk))
theorem sF.i{k:WP}(hA:At w b cs)(hk:∀w',tB w b (cs.set f v) w'->k w')(hs:Sc v=true:=by exact rfl)(ho:f<cs.length:=by simp)(h1:xY s f=true:=by exact rfl)(h2:dT t=true:=by exact rfl):sF R s f t (.pointer (some ⟨b,0,none⟩)) v w k:=
 by unfold sF up v1 u1;exact Up.i (Nc.p _ _) (V1.i (xZ h1) (U1.store (aO h2 hs) hA ho hk))
theorem qF.i{C:WP}{k:Va->Prop}(hA:∀w,C w->At w b cs)(hk:k v)(hv:cs[f]?=some v:=by exact rfl)(h1:xY s f=true:=by exact rfl)(h2:dT t=true:=by exact rfl):qF C s f t (.pointer (some ⟨b,0,none⟩)) k:=
 ⟨_,λw' _=>⟨rfl,rfl⟩,Xv.i _ (λw _=>xZ h1) (Xv.i v (λw hw=>(aC h2) _ _ _ (by rw[(hA w hw).cell,hv])) hk)⟩
theorem xD.i{S:WP}{k:Va->Prop}(hA:∀w,S w->At w b cs)(hk:k v)(hv:cs[f]?=some v:=by exact rfl)(h1:xY s f=true:=by exact rfl)(h2:dT t=true:=by exact rfl):xD S s f t (.pointer (some ⟨b,0,none⟩)) k:=
 Xw.i _ (λw _=>xZ h1) (Xw.i v (λw hw=>(aC h2) _ _ _ (by rw[(hA w hw).cell,hv])) hk)
theorem xF.i{S:WP}{k:Va->Prop}(hA:∀w,S w->At w b cs)(hk:k v)(hv:cs[f]?=some v:=by exact rfl)(h1:xY s f=true:=by exact rfl)(h2:dT t=true:=by exact rfl):xF S s f t (.pointer (some ⟨b,0,none⟩)) k:=
 ⟨_,λw' _=>Nc.p _ w',xD.i hA hk hv h1 h2⟩
end
end Go.Proofs.YtoddjlclpnoomaaGreatDoor

namespace Go.Proofs.YtoddjlclpnoomaaGreatDoor
open Go.Sh
def Xh(R:ER)(a0:Va)(w:Wd):Prop:=
 cq R 69 true (.tuple #[]) w λb w=>cr R 9 a0 w λr w=>bk R .gtr 3 false true r (.int .i64 32768) w λs w=>If s (ce R 69 #[(0,(.int .i64 3))] w λt w=>bi R 69 b t w λw=>∃v0,(loadAt 69 b).run prog w=.ok v0 w/\cu R (.tuple #[(.slice none 0 0),v0]) w) (L4 (.int .i64 0) (.slice none 0 0) (.slice none 0 0) (.int .i64 0) w (λg1 f g d a w=>cr R 9 a0 w λu w=>bk R .lss 3 false false a u w λv w=>If v (J1 (λk1=>bz R 9 a0 a w λx w=>bk R .eql 5 false true x (.int .u8 10) w λy w=>If y (bk R .add 3 false true f (.int .i64 1) w λz w=>k1 z w) (k1 f w)) (λc w=>bz R 9 a0 a w λb2 w=>bk R .eql 5 false true b2 (.int .u8 32) w λj w=>J1 (λk2=>Gd j false (bz R 9 a0 a w λb3 w=>bk R .eql 5 false true b3 (.int .u8 9) w λb4 w=>k2 b4 w) (k2 undef w)) (λb5 w=>bq R j (.bool true) b5 w λl w=>J1 (λk3=>Gd l false (bz R 9 a0 a w λb6 w=>bk R .eql 5 false true b6 (.int .u8 13) w λb7 w=>k3 b7 w) (k3 undef w)) (λb8 w=>bq R l (.bool true) b8 w λm w=>J1 (λk4=>Gd m false (bz R 9 a0 a w λb9 w=>bk R .eql 5 false true b9 (.int .u8 10) w λc2 w=>k4 c2 w) (k4 undef w)) (λc3 w=>bq R m (.bool true) c3 w λc4 w=>If c4 (bk R .add 3 false true a (.int .i64 1) w λc5 w=>g1 c g d c5 w) (bk R .add 3 false true a (.int .i64 1) w λc6 w=>cr R 9 a0 w λc7 w=>bk R .lss 3 false false c6 c7 w λn w=>J1 (λk5=>Gd n true (bz R 9 a0 a w λc8 w=>bk R .eql 5 false true c8 (.int .u8 45) w λc9 w=>k5 c9 w) (k5 undef w)) (λd2 w=>bq R n d2 (.bool false) w λo w=>J1 (λk6=>Gd o true (bk R .add 3 false true a (.int .i64 1) w λd3 w=>bz R 9 a0 d3 w λd4 w=>bk R .eql 5 false true d4 (.int .u8 45) w λd5 w=>k6 d5 w) (k6 undef w)) (λd6 w=>bq R o d6 (.bool false) w λd7 w=>If d7 (L1 a w (λg2 e w=>cr R 9 a0 w λd8 w=>bk R .lss 3 false false e d8 w λp w=>J1 (λk7=>Gd p true (bz R 9 a0 e w λd9 w=>bk R .neq 5 false true d9 (.int .u8 10) w λe2 w=>k7 e2 w) (k7 undef w)) (λe3 w=>bq R p e3 (.bool false) w λe4 w=>If e4 (bk R .add 3 false true e (.int .i64 1) w λe5 w=>g2 e5 w) (g1 c g d e w)))) (cf R 82 #[a0,a] w λh w=>bw R h 0 w λe6 w=>bw R h 1 w λe7 w=>bw R h 2 w λq w=>cq R 86 true (.tuple #[]) w λi w=>bi R 86 i e6 w λw=>bk R .neq 23 false true q (.int .i64 0) w λe8 w=>If e8 (ce R 69 #[(0,q),(1,c)] w λe9 w=>bi R 69 b e9 w λw=>∃v0,(loadAt 69 b).run prog w=.ok v0 w/\cu R (.tuple #[(.slice none 0 0),v0]) w) (bj R 86 i 3 w λf2 w=>bi R 3 f2 c w λw=>bg R 86 i w λf3 w=>bu R 73 1 #[(0,f3)] w λf4 w=>v1 R (append_ #[73,73] 73 #[d,f4]) w λf5 w=>bk R .add 3 false false a e7 w λf6 w=>g1 c g f5 f6 w)))))))))) (ce R 86 #[(0,(.int .i64 5)),(3,f)] w λf7 w=>bu R 73 1 #[(0,f7)] w λf8 w=>v1 R (append_ #[73,73] 73 #[d,f8]) w λf9 w=>ce R 69 #[] w λg3 w=>bi R 69 b g3 w λw=>∃v0,(loadAt 69 b).run prog w=.ok v0 w/\cu R (.tuple #[f9,v0]) w)))
set_option maxHeartbeats 4000000 in
theorem s46:dc 46 Xh:=λh=>cw [] func46 h
theorem Tv:bZ 46:=db func46
def Xi(R:ER)(a0 a1:Va)(w:Wd):Prop:=
 cq R 86 true (.tuple #[]) w λa w=>bz R 9 a0 a1 w λc w=>cf R 129 #[c] w λg w=>If g (cf R 130 #[a0,a1] w λb w=>bk R .gtr 3 false true b (.int .i64 24) w λh w=>If h (ce R 86 #[] w λi w=>bi R 86 a i w λw=>∃v0,(loadAt 86 a).run prog w=.ok v0 w/\cu R (.tuple #[v0,(.int .i64 0),(.int .i64 14)]) w) (J1 (λk1=>bk R .add 3 false false a1 b w λj w=>v1 R (sliceAt 9 a0 (some a1) (some j) none) w λl w=>cf R 131 #[l] w λm w=>If m (k1 (.int .i64 4) w) (k1 (.int .i64 1) w)) (λn w=>bk R .add 3 false false a1 b w λo w=>v1 R (sliceAt 9 a0 (some a1) (some o) none) w λp w=>ce R 86 #[(0,n),(1,p)] w λq w=>bi R 86 a q w λw=>∃v0,(loadAt 86 a).run prog w=.ok v0 w/\cu R (.tuple #[v0,b,(.int .i64 0)]) w))) (cf R 132 #[c] w λr w=>If r (cf R 133 #[a0,a1] w λd w=>bw R d 0 w λs w=>bw R d 1 w λt w=>bw R d 2 w λu w=>bi R 86 a s w λw=>∃v0,(loadAt 86 a).run prog w=.ok v0 w/\cu R (.tuple #[v0,t,u]) w) (bk R .eql 5 false true c (.int .u8 34) w λv w=>If v (cf R 134 #[a0,a1] w λe w=>bw R e 0 w λx w=>bw R e 1 w λy w=>bw R e 2 w λz w=>bi R 86 a x w λw=>∃v0,(loadAt 86 a).run prog w=.ok v0 w/\cu R (.tuple #[v0,y,z]) w) (cf R 135 #[a0,a1] w λf w=>bk R .eql 3 false true f (.int .i64 0) w λb2 w=>If b2 (ce R 86 #[] w λb3 w=>bi R 86 a b3 w λw=>∃v0,(loadAt 86 a).run prog w=.ok v0 w/\cu R (.tuple #[v0,(.int .i64 0),(.int .i64 14)]) w) (bk R .add 3 false false a1 f w λb4 w=>v1 R (sliceAt 9 a0 (some a1) (some b4) none) w λb5 w=>ce R 86 #[(0,(.int .i64 4)),(1,b5)] w λb6 w=>bi R 86 a b6 w λw=>∃v0,(loadAt 86 a).run prog w=.ok v0 w/\cu R (.tuple #[v0,f,(.int .i64 0)]) w))))
theorem s82:dd 82 Xi:=λh=>cw [] func82 h
theorem Tw:bZ 82:=db func82
def Lu(R:ER)(a0:Va)(w:Wd):Prop:=
 bk R .lss 2 false true a0 (.int .i64 0) w λa w=>If a (cf R 175 #[a0] w λb w=>cf R 174 #[b] w λc w=>bk R .add 9 true false (.string ⟨#[45]⟩) c w λd w=>cu R d w) (cf R 175 #[a0] w λe w=>cf R 174 #[e] w λf w=>cu R f w)
theorem Tx:dc 121 Lu:=λh=>cw [] func121 h
theorem Lw:bZ 121:=db func121
def Lx(R:ER)(a0:Va)(w:Wd):Prop:=
 bk R .geq 5 false true a0 (.int .u8 97) w λb w=>J1 (λk1=>Gd b true (bk R .leq 5 false true a0 (.int .u8 122) w λe w=>k1 e w) (k1 undef w)) (λf w=>bq R b f (.bool false) w λa w=>J1 (λk2=>Gd a false (bk R .geq 5 false true a0 (.int .u8 65) w λg w=>k2 g w) (k2 undef w)) (λc w=>J1 (λk3=>Gd c true (bk R .leq 5 false true a0 (.int .u8 90) w λh w=>k3 h w) (k3 undef w)) (λi w=>J1 (λk4=>Gd a false (bq R c i (.bool false) w λj w=>k4 j w) (k4 undef w)) (λl w=>bq R a (.bool true) l w λd w=>J1 (λk5=>Gd d false (bk R .eql 5 false true a0 (.int .u8 95) w λm w=>k5 m w) (k5 undef w)) (λn w=>bq R d (.bool true) n w λo w=>cu R o w)))))
theorem Ty:dc 129 Lx:=λh=>cw [] func129 h
theorem x8:bZ 129:=db func129
def Ly(R:ER)(a0 a1:Va)(w:Wd):Prop:=
 L1 (.int .i64 0) w (λg1 a w=>bk R .add 3 false false a1 a w λd w=>cr R 9 a0 w λe w=>bk R .lss 3 false false d e w λb w=>J1 (λk1=>Gd b true (bk R .add 3 false false a1 a w λf w=>bz R 9 a0 f w λg w=>cf R 129 #[g] w λh w=>k1 h w) (k1 undef w)) (λc w=>J1 (λk2=>Gd c false (bk R .add 3 false false a1 a w λi w=>bz R 9 a0 i w λj w=>cf R 132 #[j] w λl w=>k2 l w) (k2 undef w)) (λm w=>J1 (λk3=>Gd b true (bq R c (.bool true) m w λn w=>k3 n w) (k3 undef w)) (λo w=>bq R b o (.bool false) w λp w=>If p (bk R .add 3 false true a (.int .i64 1) w λq w=>g1 q w) (cu R a w)))))
theorem Tz:dd 130 Ly:=λh=>cw [] func130 h
theorem Lz:bZ 130:=db func130
def EW(R:ER)(a0:Va)(w:Wd):Prop:=
 ce R 208 #[(0,(.string ⟨#[97,110,100]⟩)),(1,(.string ⟨#[98,114,101,97,107]⟩)),(2,(.string ⟨#[99,97,116,99,104]⟩)),(3,(.string ⟨#[100,111]⟩)),(4,(.string ⟨#[101,108,115,101]⟩)),(5,(.string ⟨#[101,108,115,101,105,102]⟩)),(6,(.string ⟨#[101,110,100]⟩)),(7,(.string ⟨#[102,97,108,115,101]⟩)),(8,(.string ⟨#[102,111,114]⟩)),(9,(.string ⟨#[102,117,110,99,116,105,111,110]⟩)),(10,(.string ⟨#[105,102]⟩)),(11,(.string ⟨#[108,111,99,97,108]⟩)),(12,(.string ⟨#[110,105,108]⟩)),(13,(.string ⟨#[110,111,116]⟩)),(14,(.string ⟨#[111,114]⟩)),(15,(.string ⟨#[114,101,116,117,114,110]⟩)),(16,(.string ⟨#[116,104,101,110]⟩)),(17,(.string ⟨#[116,114,117,101]⟩)),(18,(.string ⟨#[116,114,121]⟩)),(19,(.string ⟨#[119,104,105,108,101]⟩))] w λc w=>cq R 208 true (.tuple #[]) w λb w=>bi R 208 b c w λw=>L2 (.bool false) (.int .i64 0) w (λg1 d a w=>bk R .lss 3 false true a (.int .i64 20) w λe w=>If e (cb R 208 b a w λf w=>bg R 9 f w λg w=>bk R .eql 9 false false g a0 w λh w=>If h (cu R (.bool true) w) (bk R .add 3 false true a (.int .i64 1) w λi w=>g1 d i w)) (cu R (.bool false) w))
theorem TA(R:ER)(a0:Va)(w:Wd):body prog f131.ntmps [] f131.results.toList (bC f131) [a0] R w=EW R a0 w:=ai
theorem TB{R:ER}{a0:Va}{w:Wd}(h:EW R a0 w):Calls prog 131 #[a0] w R:=
 gF [] mixed func131 (c:=bC f131) ai (le_of_ble_eq_true ai) (by rw[TA];exact h)
theorem CC:bZ 131:=db func131
def LA(R:ER)(a0:Va)(w:Wd):Prop:=
 bk R .geq 5 false true a0 (.int .u8 48) w λa w=>J1 (λk1=>Gd a true (bk R .leq 5 false true a0 (.int .u8 57) w λb w=>k1 b w) (k1 undef w)) (λc w=>bq R a c (.bool false) w λd w=>cu R d w)
theorem TC:dc 132 LA:=λh=>cw [] func132 h
theorem x9:bZ 132:=db func132
def LC(R:ER)(a0 a1:Va)(w:Wd):Prop:=
 cq R 86 true (.tuple #[]) w λb w=>L1 (.int .i64 0) w (λg1 a w=>bk R .add 3 false false a1 a w λh w=>cr R 9 a0 w λi w=>bk R .lss 3 false false h i w λd w=>J1 (λk1=>Gd d true (bk R .add 3 false false a1 a w λj w=>bz R 9 a0 j w λl w=>cf R 132 #[l] w λm w=>k1 m w) (k1 undef w)) (λn w=>bq R d n (.bool false) w λo w=>If o (bk R .add 3 false true a (.int .i64 1) w λp w=>g1 p w) (bk R .add 3 false false a1 a w λq w=>v1 R (sliceAt 9 a0 (some a1) (some q) none) w λr w=>cf R 181 #[r] w λe w=>bw R e 0 w λs w=>bw R e 1 w λf w=>bk R .eql 23 false true f (.int .i64 4) w λc w=>J1 (λk2=>Gd c false (bk R .add 3 false false a1 a w λt w=>cr R 9 a0 w λu w=>bk R .lss 3 false false t u w λv w=>k2 v w) (k2 undef w)) (λg w=>J1 (λk3=>Gd g true (bk R .add 3 false false a1 a w λx w=>bz R 9 a0 x w λy w=>cf R 129 #[y] w λz w=>k3 z w) (k3 undef w)) (λb2 w=>J1 (λk4=>Gd c false (bq R g b2 (.bool false) w λb3 w=>k4 b3 w) (k4 undef w)) (λb4 w=>bq R c (.bool true) b4 w λb5 w=>If b5 (ce R 86 #[] w λb6 w=>bi R 86 b b6 w λw=>∃v0,(loadAt 86 b).run prog w=.ok v0 w/\cu R (.tuple #[v0,(.int .i64 0),(.int .i64 14)]) w) (bk R .add 3 false false a1 a w λb7 w=>v1 R (sliceAt 9 a0 (some a1) (some b7) none) w λb8 w=>ce R 86 #[(0,(.int .i64 2)),(1,b8),(2,s)] w λb9 w=>bi R 86 b b9 w λw=>∃v0,(loadAt 86 b).run prog w=.ok v0 w/\cu R (.tuple #[v0,a,f]) w)))))))
theorem TD:dd 133 LC:=λh=>cw [] func133 h
theorem LF:bZ 133:=db func133
def LG(R:ER)(a0 a1:Va)(w:Wd):Prop:=
 cq R 86 true (.tuple #[]) w λa w=>cf R 182 #[a0,a1] w λb w=>bk R .eql 3 false true b (.int .i64 0) w λe w=>If e (ce R 86 #[] w λf w=>bi R 86 a f w λw=>∃v0,(loadAt 86 a).run prog w=.ok v0 w/\cu R (.tuple #[v0,(.int .i64 0),(.int .i64 14)]) w) (bk R .add 3 false false a1 b w λg w=>v1 R (sliceAt 9 a0 (some a1) (some g) none) w λh w=>cf R 183 #[h] w λc w=>bw R c 0 w λi w=>bw R c 1 w λd w=>bk R .eql 23 false true d (.int .i64 4) w λj w=>If j (ce R 86 #[] w λl w=>bi R 86 a l w λw=>∃v0,(loadAt 86 a).run prog w=.ok v0 w/\cu R (.tuple #[v0,(.int .i64 0),(.int .i64 14)]) w) (ce R 86 #[(0,(.int .i64 3)),(1,i)] w λm w=>bi R 86 a m w λw=>∃v0,(loadAt 86 a).run prog w=.ok v0 w/\cu R (.tuple #[v0,b,d]) w))
theorem TE:dd 134 LG:=λh=>cw [] func134 h
theorem LH:bZ 134:=db func134
def EX(R:ER)(a0 a1:Va)(w:Wd):Prop:=
 ce R 209 #[(0,(.string ⟨#[47,47]⟩)),(1,(.string ⟨#[60,60]⟩)),(2,(.string ⟨#[62,62]⟩)),(3,(.string ⟨#[61,61]⟩)),(4,(.string ⟨#[126,61]⟩)),(5,(.string ⟨#[60,61]⟩)),(6,(.string ⟨#[62,61]⟩))] w λg w=>cq R 209 true (.tuple #[]) w λc w=>bi R 209 c g w λw=>L2 (.int .i64 0) (.int .i64 0) w (λg1 d a w=>bk R .lss 3 false true a (.int .i64 7) w λh w=>If h (∃C1:WP,C1 w.drew/\xv C1 (Bo .add 3 false true a1 (.int .i64 2)) λi=>xv C1 (len_ #[9] 3 #[a0]) λj=>xv C1 (Bo .leq 3 false false i j) λe=>Q1 (λk1=>Gd e true (xv C1 (Bo .add 3 false true a1 (.int .i64 2)) λl=>xv C1 (sliceAt 9 a0 (some a1) (some l) none) λm=>xv C1 (indexAt 209 c a) λn=>xv C1 (loadAt 9 n) λo=>xv C1 (Bo .eql 9 false false m o) λp=>k1 p) (k1 undef)) (λq=>xv C1 (Pk e q (.bool false)) λr=>∀w,C1 w->If r (cu R (.int .i64 2) w) (bk R .add 3 false true a (.int .i64 1) w λs w=>g1 d s w))) (bk R .add 3 false true a1 (.int .i64 2) w λt w=>cr R 9 a0 w λu w=>bk R .leq 3 false false t u w λf w=>J1 (λk2=>Gd f true (bk R .add 3 false true a1 (.int .i64 2) w λv w=>v1 R (sliceAt 9 a0 (some a1) (some v) none) w λx w=>bk R .eql 9 false true x (.string ⟨#[46,46]⟩) w λy w=>k2 y w) (k2 undef w)) (λz w=>bq R f z (.bool false) w λb2 w=>If b2 (cu R (.int .i64 2) w) (L2 d (.int .i64 0) w (λg2 b3 b w=>v1 R (len_ #[9] 3 #[(.string ⟨#[43,45,42,37,38,124,126,60,62,61,46,44,40,41,91,93,123,125,35]⟩)]) w λb4 w=>bk R .lss 3 false false b b4 w λb5 w=>If b5 (∃C2:WP,C2 w.drew/\xv C2 (Instr.index 9 a0 a1) λb6=>xv C2 (Instr.index 9 (.string ⟨#[43,45,42,37,38,124,126,60,62,61,46,44,40,41,91,93,123,125,35]⟩) b) λb7=>xv C2 (Bo .eql 5 false false b6 b7) λb8=>∀w,C2 w->If b8 (cu R (.int .i64 1) w) (bk R .add 3 false true b (.int .i64 1) w λb9 w=>g2 b3 b9 w)) (cu R (.int .i64 0) w))))))
theorem TH(R:ER)(a0 a1:Va)(w:Wd):body prog f135.ntmps [] f135.results.toList (bC f135) [a0,a1] R w=EX R a0 a1 w:=ai
theorem TI{R:ER}{a0 a1:Va}{w:Wd}(h:EX R a0 a1 w):Calls prog 135 #[a0,a1] w R:=
 gF [] mixed func135 (c:=bC f135) ai (le_of_ble_eq_true ai) (by rw[TH];exact h)
theorem LI:bZ 135:=db func135
def LJ(R:ER)(a0:Va)(w:Wd):Prop:=
 bk R .lss 205 false true a0 (.int .u64 10) w λa w=>If a (v1 R (Go.convert 205 5 a0) w λb w=>bk R .add 5 true false (.int .u8 48) b w λc w=>bu R 22 1 #[(0,c)] w λd w=>v1 R (Go.convert 22 9 d) w λe w=>cu R e w) (bk R .quo 205 false true a0 (.int .u64 10) w λf w=>cf R 174 #[f] w λg w=>bk R .rem 205 false true a0 (.int .u64 10) w λh w=>cf R 174 #[h] w λi w=>bk R .add 9 false false g i w λj w=>cu R j w)
theorem TJ:dc 174 LJ:=λh=>cw [] func174 h
theorem tY:bZ 174:=db func174
def LK(R:ER)(a0:Va)(w:Wd):Prop:=
 bk R .lss 2 false true a0 (.int .i64 0) w λa w=>If a (v1 R (Go.convert 2 205 a0) w λb w=>cf R 208 #[b] w λc w=>cu R c w) (v1 R (Go.convert 2 205 a0) w λd w=>cu R d w)
theorem TK:dc 175 LK:=λh=>cw [] func175 h
theorem CD:bZ 175:=db func175
def LL(R:ER)(a0:Va)(w:Wd):Prop:=
 bu R 22 1 #[(0,(.int .u8 34))] w λf w=>L2 f (.int .i64 0) w (λg1 b c w=>cr R 9 a0 w λg w=>bk R .lss 3 false false c g w λh w=>If h (J1 (λk1=>bz R 9 a0 c w λa w=>bk R .eql 5 false true a (.int .u8 10) w λi w=>If i (bu R 22 2 #[(0,(.int .u8 92)),(1,(.int .u8 110))] w λj w=>v1 R (append_ #[22,22] 22 #[b,j]) w λl w=>k1 l w) (bk R .eql 5 false true a (.int .u8 9) w λm w=>If m (bu R 22 2 #[(0,(.int .u8 92)),(1,(.int .u8 116))] w λn w=>v1 R (append_ #[22,22] 22 #[b,n]) w λo w=>k1 o w) (bk R .eql 5 false true a (.int .u8 92) w λd w=>J1 (λk2=>Gd d false (bk R .eql 5 false true a (.int .u8 34) w λp w=>k2 p w) (k2 undef w)) (λq w=>bq R d (.bool true) q w λr w=>If r (bu R 22 2 #[(0,(.int .u8 92)),(1,a)] w λs w=>v1 R (append_ #[22,22] 22 #[b,s]) w λt w=>k1 t w) (bk R .lss 5 false true a (.int .u8 32) w λe w=>J1 (λk3=>Gd e false (bk R .gtr 5 false true a (.int .u8 126) w λu w=>k3 u w) (k3 undef w)) (λv w=>bq R e (.bool true) v w λx w=>If x (bk R .quo 5 false true a (.int .u8 16) w λy w=>cf R 209 #[y] w λz w=>bk R .rem 5 false true a (.int .u8 16) w λb2 w=>cf R 209 #[b2] w λb3 w=>bu R 22 4 #[(0,(.int .u8 92)),(1,(.int .u8 120)),(2,z),(3,b3)] w λb4 w=>v1 R (append_ #[22,22] 22 #[b,b4]) w λb5 w=>k1 b5 w) (bu R 22 1 #[(0,a)] w λb6 w=>v1 R (append_ #[22,22] 22 #[b,b6]) w λb7 w=>k1 b7 w))))))) (λb8 w=>bk R .add 3 false true c (.int .i64 1) w λb9 w=>g1 b8 b9 w)) (bu R 22 1 #[(0,(.int .u8 34))] w λc2 w=>v1 R (append_ #[22,22] 22 #[b,c2]) w λc3 w=>v1 R (Go.convert 22 9 c3) w λc4 w=>cu R c4 w))
theorem TL:dc 176 LL:=λh=>cw [] func176 h
theorem LM:bZ 176:=db func176
def LN(R:ER)(a0:Va)(w:Wd):Prop:=
 cr R 9 a0 w λn w=>bk R .gtr 3 false true n (.int .i64 0) w λi w=>J1 (λk1=>Gd i true (bz R 9 a0 (.int .i64 0) w λo w=>bk R .eql 5 false true o (.int .u8 45) w λp w=>k1 p w) (k1 undef w)) (λq w=>bq R i q (.bool false) w λb w=>J1 (λk2=>If b (v1 R (sliceAt 9 a0 (some (.int .i64 1)) none none) w λr w=>k2 r w) (k2 a0 w)) (λa w=>cr R 9 a w λs w=>bk R .eql 3 false true s (.int .i64 0) w λe w=>J1 (λk3=>Gd e false (bz R 9 a (.int .i64 0) w λt w=>bk R .eql 5 false true t (.int .u8 48) w λu w=>k3 u w) (k3 undef w)) (λf w=>J1 (λk4=>Gd f true (cr R 9 a w λv w=>bk R .gtr 3 false true v (.int .i64 1) w λx w=>k4 x w) (k4 undef w)) (λj w=>J1 (λk5=>Gd j false (k5 b w) (k5 undef w)) (λy w=>J1 (λk6=>Gd f true (bq R j (.bool true) y w λz w=>k6 z w) (k6 undef w)) (λb2 w=>J1 (λk7=>Gd e false (bq R f b2 (.bool false) w λb3 w=>k7 b3 w) (k7 undef w)) (λb4 w=>bq R e (.bool true) b4 w λb5 w=>If b5 (cu R (.tuple #[(.int .i64 0),(.int .i64 4)]) w) (L3 (.int .i64 0) (.int .i64 0) (.int .i64 0) w (λg1 b6 b7 d w=>cr R 9 a w λb8 w=>bk R .lss 3 false false d b8 w λb9 w=>If b9 (bz R 9 a d w λc2 w=>bk R .lss 5 false true c2 (.int .u8 48) w λl w=>J1 (λk8=>Gd l false (bz R 9 a d w λc3 w=>bk R .gtr 5 false true c3 (.int .u8 57) w λc4 w=>k8 c4 w) (k8 undef w)) (λc5 w=>bq R l (.bool true) c5 w λc6 w=>If c6 (cu R (.tuple #[(.int .i64 0),(.int .i64 4)]) w) (bk R .add 3 false true d (.int .i64 1) w λc7 w=>g1 b6 b7 c7 w))) (cr R 9 a w λc8 w=>bk R .gtr 3 false true c8 (.int .i64 19) w λc9 w=>If c9 (cu R (.tuple #[(.int .i64 0),(.int .i64 15)]) w) (L2 (.int .u64 0) (.int .i64 0) w (λg2 c g w=>cr R 9 a w λd2 w=>bk R .lss 3 false false g d2 w λd3 w=>If d3 (bk R .mul 205 true false (.int .u64 10) c w λd4 w=>bz R 9 a g w λd5 w=>bk R .sub 5 false true d5 (.int .u8 48) w λd6 w=>v1 R (Go.convert 5 205 d6) w λd7 w=>bk R .add 205 false false d4 d7 w λd8 w=>bk R .add 3 false true g (.int .i64 1) w λd9 w=>g2 d8 d9 w) (J1 (λk9=>Gd b true (bk R .gtr 205 false true c (.int .u64 9223372036854775808) w λe2 w=>k9 e2 w) (k9 undef w)) (λe3 w=>bq R b e3 (.bool false) w λh w=>J1 (λqd=>Gd h false (cg R .not b w λe4 w=>qd e4 w) (qd undef w)) (λm w=>J1 (λoI=>Gd m true (bk R .geq 205 false true c (.int .u64 9223372036854775808) w λe5 w=>oI e5 w) (oI undef w)) (λe6 w=>J1 (λqf=>Gd h false (bq R m e6 (.bool false) w λe7 w=>qf e7 w) (qf undef w)) (λe8 w=>bq R h (.bool true) e8 w λe9 w=>If e9 (cu R (.tuple #[(.int .i64 0),(.int .i64 15)]) w) (If b (cf R 208 #[c] w λf2 w=>v1 R (Go.convert 205 2 f2) w λf3 w=>cu R (.tuple #[f3,(.int .i64 0)]) w) (v1 R (Go.convert 205 2 c) w λf4 w=>cu R (.tuple #[f4,(.int .i64 0)]) w)))))))))))))))))))
theorem TM:dc 181 LN:=λh=>cw [] func181 h
theorem LO:bZ 181:=db func181
def LP(R:ER)(a0 a1:Va)(w:Wd):Prop:=
 bk R .add 3 false true a1 (.int .i64 1) w λd w=>L2 (.int .i64 0) d w (λg1 b a w=>cr R 9 a0 w λe w=>bk R .lss 3 false false a e w λf w=>If f (J2 (λk1=>bz R 9 a0 a w λg w=>bk R .eql 5 false true g (.int .u8 10) w λh w=>If h (cu R (.int .i64 0) w) (bz R 9 a0 a w λi w=>bk R .eql 5 false true i (.int .u8 34) w λj w=>If j (bk R .add 3 false true a (.int .i64 1) w λl w=>bk R .sub 3 false false l a1 w λm w=>cu R m w) (bz R 9 a0 a w λn w=>bk R .eql 5 false true n (.int .u8 92) w λo w=>If o (bk R .add 3 false true a (.int .i64 1) w λp w=>cr R 9 a0 w λq w=>bk R .lss 3 false false p q w λc w=>J1 (λk2=>Gd c true (bk R .add 3 false true a (.int .i64 1) w λr w=>bz R 9 a0 r w λs w=>bk R .eql 5 false true s (.int .u8 10) w λt w=>k2 t w) (k2 undef w)) (λu w=>bq R c u (.bool false) w λv w=>If v (cu R (.int .i64 0) w) (bk R .add 3 false true a (.int .i64 1) w λx w=>k1 b x w))) (k1 b a w)))) (λy z w=>bk R .add 3 false true z (.int .i64 1) w λb2 w=>g1 y b2 w)) (cu R (.int .i64 0) w))
theorem TN:dd 182 LP:=λh=>cw [] func182 h
theorem LQ:bZ 182:=db func182
def LS(R:ER)(a0:Va)(w:Wd):Prop:=
 cr R 9 a0 w λh w=>bk R .lss 3 false true h (.int .i64 2) w λc w=>J1 (λk1=>Gd c false (bz R 9 a0 (.int .i64 0) w λi w=>bk R .neq 5 false true i (.int .u8 34) w λj w=>k1 j w) (k1 undef w)) (λl w=>bq R c (.bool true) l w λd w=>J1 (λk2=>Gd d false (cr R 9 a0 w λm w=>bk R .sub 3 false true m (.int .i64 1) w λn w=>bz R 9 a0 n w λo w=>bk R .neq 5 false true o (.int .u8 34) w λp w=>k2 p w) (k2 undef w)) (λq w=>bq R d (.bool true) q w λr w=>If r (cu R (.tuple #[(.string ⟨#[]⟩),(.int .i64 4)]) w) (cr R 9 a0 w λs w=>bk R .sub 3 false true s (.int .i64 1) w λt w=>v1 R (sliceAt 9 a0 (some (.int .i64 1)) (some t) none) w λe w=>L4 (.string ⟨#[]⟩) (.int .i64 0) (.slice none 0 0) (.int .i64 0) w (λg1 u v a b w=>cr R 9 e w λx w=>bk R .lss 3 false false b x w λy w=>If y (v1 R (sliceAt 9 e (some b) none none) w λz w=>cf R 210 #[z] w λf w=>bw R f 0 w λb2 w=>bw R f 1 w λg w=>bk R .eql 3 false true g (.int .i64 0) w λb3 w=>If b3 (cu R (.tuple #[(.string ⟨#[]⟩),(.int .i64 4)]) w) (bu R 22 1 #[(0,b2)] w λb4 w=>v1 R (append_ #[22,22] 22 #[a,b4]) w λb5 w=>bk R .add 3 false false b g w λb6 w=>g1 u v b5 b6 w)) (cr R 22 a w λb7 w=>bk R .gtr 3 false true b7 (.int .i64 4096) w λb8 w=>If b8 (cu R (.tuple #[(.string ⟨#[]⟩),(.int .i64 3)]) w) (v1 R (Go.convert 22 9 a) w λb9 w=>cu R (.tuple #[b9,(.int .i64 0)]) w))))))
theorem TO:dc 183 LS:=λh=>cw [] func183 h
theorem LU:bZ 183:=db func183
def LW(R:ER)(a0:Va)(w:Wd):Prop:=
 cg R .xor a0 w λa w=>cf R 228 #[a,(.int .u64 1)] w λb w=>cu R b w
theorem TP:dc 208 LW:=λh=>cw [] func208 h
theorem LX:bZ 208:=db func208
def LY(R:ER)(a0:Va)(w:Wd):Prop:=
 bk R .lss 5 false true a0 (.int .u8 10) w λa w=>If a (bk R .add 5 true false (.int .u8 48) a0 w λb w=>cu R b w) (bk R .add 5 true false (.int .u8 97) a0 w λc w=>bk R .sub 5 false true c (.int .u8 10) w λd w=>cu R d w)
theorem TR:dc 209 LY:=λh=>cw [] func209 h
theorem CE:bZ 209:=db func209
def LZ(R:ER)(a0:Va)(w:Wd):Prop:=
 cr R 9 a0 w λh w=>bk R .eql 3 false true h (.int .i64 0) w λb w=>J1 (λk1=>Gd b false (bz R 9 a0 (.int .i64 0) w λi w=>bk R .lss 5 false true i (.int .u8 32) w λj w=>k1 j w) (k1 undef w)) (λl w=>bq R b (.bool true) l w λc w=>J1 (λk2=>Gd c false (bz R 9 a0 (.int .i64 0) w λm w=>bk R .gtr 5 false true m (.int .u8 126) w λn w=>k2 n w) (k2 undef w)) (λo w=>bq R c (.bool true) o w λd w=>J1 (λk3=>Gd d false (bz R 9 a0 (.int .i64 0) w λp w=>bk R .eql 5 false true p (.int .u8 34) w λq w=>k3 q w) (k3 undef w)) (λr w=>bq R d (.bool true) r w λs w=>If s (cu R (.tuple #[(.int .u8 0),(.int .i64 0)]) w) (bz R 9 a0 (.int .i64 0) w λt w=>bk R .neq 5 false true t (.int .u8 92) w λu w=>If u (bz R 9 a0 (.int .i64 0) w λv w=>cu R (.tuple #[v,(.int .i64 1)]) w) (cr R 9 a0 w λx w=>bk R .lss 3 false true x (.int .i64 2) w λy w=>If y (cu R (.tuple #[(.int .u8 0),(.int .i64 0)]) w) (J2 (λk4=>bz R 9 a0 (.int .i64 1) w λa w=>bk R .eql 5 false true a (.int .u8 110) w λz w=>If z (cu R (.tuple #[(.int .u8 10),(.int .i64 2)]) w) (bk R .eql 5 false true a (.int .u8 116) w λb2 w=>If b2 (cu R (.tuple #[(.int .u8 9),(.int .i64 2)]) w) (J1 (λk5=>bk R .eql 5 false true a (.int .u8 92) w λe w=>If e (k5 e w) (bk R .eql 5 false true a (.int .u8 34) w λb3 w=>k5 b3 w)) (λb4 w=>If b4 (bz R 9 a0 (.int .i64 1) w λb5 w=>cu R (.tuple #[b5,(.int .i64 2)]) w) (bk R .eql 5 false true a (.int .u8 120) w λb6 w=>If b6 (cr R 9 a0 w λb7 w=>bk R .geq 3 false true b7 (.int .i64 4) w λf w=>J1 (λk6=>Gd f true (bz R 9 a0 (.int .i64 2) w λb8 w=>cf R 229 #[b8] w λb9 w=>bk R .lss 5 false true b9 (.int .u8 16) w λc2 w=>k6 c2 w) (k6 undef w)) (λc3 w=>bq R f c3 (.bool false) w λg w=>J1 (λk7=>Gd g true (bz R 9 a0 (.int .i64 3) w λc4 w=>cf R 229 #[c4] w λc5 w=>bk R .lss 5 false true c5 (.int .u8 16) w λc6 w=>k7 c6 w) (k7 undef w)) (λc7 w=>bq R g c7 (.bool false) w λc8 w=>If c8 (∃C1:WP,C1 w.drew/\xv C1 (Instr.index 9 a0 (.int .i64 2)) λc9=>xq C1 (callFunc 229 #[c9]) λd2=>xv C1 (Bo .mul 5 true false (.int .u8 16) d2) λd3=>xv C1 (Instr.index 9 a0 (.int .i64 3)) λd4=>xq C1 (callFunc 229 #[d4]) λd5=>xv C1 (Bo .add 5 false false d3 d5) λd6=>∀w,C1 w->cu R (.tuple #[d6,(.int .i64 4)]) w) (k4 (.int .u8 0) (.int .i64 0) w)))) (k4 (.int .u8 0) (.int .i64 0) w)))))) (λd7 d8 w=>cu R (.tuple #[(.int .u8 0),(.int .i64 0)]) w)))))))
theorem TS:dc 210 LZ:=λh=>cw [] func210 h
theorem Ma:bZ 210:=db func210
def Mb(R:ER)(a0 a1:Va)(w:Wd):Prop:=
 L2 a0 a1 w (λg1 a b w=>bk R .neq 205 false true b (.int .u64 0) w λc w=>If c (bk R .and 205 false false a b w λd w=>bk R .xor 205 false false a b w λe w=>bk R .shl 205 false true d (.int .u64 1) w λf w=>g1 e f w) (cu R a w))
theorem TT:dd 228 Mb:=λh=>cw [] func228 h
theorem Mc:bZ 228:=db func228
def Me(R:ER)(a0:Va)(w:Wd):Prop:=
 bk R .geq 5 false true a0 (.int .u8 48) w λa w=>J1 (λk1=>Gd a true (bk R .leq 5 false true a0 (.int .u8 57) w λc w=>k1 c w) (k1 undef w)) (λd w=>bq R a d (.bool false) w λe w=>If e (bk R .sub 5 false true a0 (.int .u8 48) w λf w=>cu R f w) (bk R .geq 5 false true a0 (.int .u8 97) w λb w=>J1 (λk2=>Gd b true (bk R .leq 5 false true a0 (.int .u8 102) w λg w=>k2 g w) (k2 undef w)) (λh w=>bq R b h (.bool false) w λi w=>If i (bk R .sub 5 false true a0 (.int .u8 97) w λj w=>bk R .add 5 false true j (.int .u8 10) w λl w=>cu R l w) (cu R (.int .u8 16) w))))
theorem TU:dc 229 Me:=λh=>cw [] func229 h
theorem CF:bZ 229:=db func229
end Go.Proofs.YtoddjlclpnoomaaGreatDoor

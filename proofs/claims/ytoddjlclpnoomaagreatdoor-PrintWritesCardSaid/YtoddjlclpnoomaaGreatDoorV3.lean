import Derived.KernelRfl
import Derived.Laws.EntriesVeiled
import Derived.Test.YtoddjlclpnoomaaGreatDoorProg
import Derived.WalkLawsBesides
import Derived.Test.YtoddjlclpnoomaaGreatDoorV2
set_option linter.unusedVariables false
set_option linter.unusedSimpArgs false
set_option maxRecDepth 100000
open Go.Proofs.Tryz
open Go.Instr (alloc box loadAt storeAt fieldAt field indexAt extract)
open List (mem_cons not_mem_nil)
open Nat (lt_or_ge le_of_ble_eq_true le_refl le_trans lt_of_lt_of_le)
open Go.Builtin (len_)
open Go.World (setCell cell?)
namespace Go.Sh
def At(w:Wd)(b:Nat)(cs:LV):Prop:=∃T,w.heap[b]?=some (.cells cs.toArray T (0,0))
structure aD(M:List Nat)(w w':Wd):Prop where
 size:w.heap.size<=w'.heap.size
 same:∀b,b<w.heap.size->b∉M->w'.heap[b]?=w.heap[b]?
 io:w'.os=w.os/\w'.output=w.output
theorem gu(w:Wd)(o:Obj)(i:Nat):(w.alloc o).heap[i]?=if i=w.heap.size then some o else w.heap[i]?:=by
 show(w.heap.push o)[i]?=_
 rw[Array.getElem?_push]
theorem aD.refl(M:List Nat)(w:Wd):aD M w w:=⟨le_refl _,λ_ _ _=>rfl,rfl,rfl⟩
theorem aD.trans{M:List Nat}{a b c:Wd}(h:aD M a b)(h':aD M b c):aD M a c:=
 ⟨le_trans h.size h'.size,λi hi hm=>by rw[h'.same i (lt_of_lt_of_le hi h.size) hm,h.same i hi hm],h'.io.1.trans h.io.1,h'.io.2.trans h.io.2⟩
theorem aD.mono{M N:List Nat}{a b:Wd}(h:aD M a b)(hs:∀i∈M,i<a.heap.size->i∈N):aD N a b:=
 ⟨h.size,λi hi hm=>h.same i hi λhM=>hm (hs i hM hi),h.io⟩
theorem aD.trans'{M N:List Nat}{a b c:Wd}(h:aD M a b)(h':aD N b c)(hs:∀i∈N,i<a.heap.size->i∈M):aD M a c:=
 ⟨le_trans h.size h'.size,λi hi hm=>by
  rw[h'.same i (lt_of_lt_of_le hi h.size) λhN=>hm (hs i hN hi),h.same i hi hm],h'.io.1.trans h.io.1,h'.io.2.trans h.io.2⟩
theorem aD.then{M N L:List Nat}{a b c:Wd}(h:aD M a b)(h':aD N b c)(h1:∀i∈M,i<a.heap.size->i∈L)(h2:∀i∈N,i<a.heap.size->i∈L):aD L a c:=
 (h.mono h1).trans' h' h2
theorem aD.alloc{M:List Nat}{a b:Wd}(h:aD M a b)(o:Obj):aD M a (b.alloc o):=
 h.trans ⟨by simp,λi hi _=>by rw[gu,if_neg (Nat.ne_of_lt hi)],rfl,rfl⟩
theorem aD.drew{M:List Nat}{a b:Wd}(h:aD M a b):aD M a b.drew:=h.trans ⟨le_refl _,λ_ _ _=>rfl,rfl,rfl⟩
theorem aD.set{M:List Nat}{a b:Wd}(h:aD M a b){c:Addr}(v:Va)(hc:c.block∈M\/a.heap.size<=c.block):aD M a (b.setCell c v):=
 h.trans' (N:=[c.block]) ⟨by simp[setCell],λi hi hm=>by
  have:c.block≠i:=λe=>hm (by simp[e]);simp[setCell,Array.getElem?_modify,this],rfl,rfl⟩ (λi hi bO=>by
  simp at hi;subst hi
  rcases hc with h1|h1
  .exact h1
  .omega)
theorem aD.at{M:List Nat}{w w':Wd}(h:aD M w w'){b:Nat}{cs:LV}(ha:At w b cs)(hb:b∉M):At w' b cs:=by
 obtain⟨T,hT⟩:=ha;refine⟨T,?_⟩;rw[h.same b ?_ hb,hT];rcases lt_or_ge b w.heap.size with h'|h'
 .exact h'
 .rw[Array.getElem?_eq_none h']at hT;cases hT
theorem aD.cell{M:List Nat}{w w':Wd}(h:aD M w w'){a:Addr}{v:Va}(hc:w.cell? a=some v)(hb:a.block∉M):w'.cell? a=some v:=by
 have bO:a.block<w.heap.size:=by
  unfold cell? at hc;rcases lt_or_ge a.block w.heap.size with h'|h'
  .exact h'
  .rw[Array.getElem?_eq_none h']at hc;cases hc
 unfold cell? at*;rw[h.same a.block bO hb];exact hc
theorem At.lt{w:Wd}{b:Nat}{cs:LV}(h:At w b cs):b<w.heap.size:=by
 obtain⟨T,hT⟩:=h;rcases lt_or_ge b w.heap.size with h'|h'
 .exact h'
 .rw[Array.getElem?_eq_none h']at hT;cases hT
theorem At.cell{w:Wd}{b:Nat}{cs:LV}(h:At w b cs)(o:Nat):w.cell? ⟨b,o,none⟩=cs[o]?:=by
 obtain⟨T,hT⟩:=h;simp[cell?,hT]
theorem At.fr{w:Wd}{b:Nat}{cs:LV}(h:At w b cs)(o:Nat):w.frozen? ⟨b,o,none⟩=false:=by
 obtain⟨T,hT⟩:=h;simp[World.frozen?,hT]
theorem At.new(w:Wd)(cs:AV)(T:TypeId):At (w.alloc (.cells cs T)) w.heap.size cs.toList:=⟨T,by rw[gu,if_pos rfl]⟩
theorem At.set{w:Wd}{b:Nat}{cs:LV}(h:At w b cs)(o:Nat)(v:Va):At (w.setCell ⟨b,o,none⟩ v) b (cs.set o v):=by
 obtain⟨T,hT⟩:=h;exact⟨T,by simp[setCell,Array.getElem?_modify,hT]⟩
def str(l:By):Va:=.string ⟨l.toArray⟩
structure mQ(w:Wd)(b:Nat)(cs:LV)(w':Wd):Prop where
 at_:At w' b cs
 ge:w.heap.size<=b
 lt:b<w'.heap.size
 aA:aD [] w w'
structure tV(w:Wd)(b:Nat)(cs:LV)(w':Wd):Prop where
 at_:At w' b cs
 size:w'.heap.size=w.heap.size
 aA:aD [b] w w'
 shp:∀q,w'.shape? q=w.shape? q
variable {P:Program}
theorem mQ.mk'(w:Wd)(cs:AV)(T:TypeId):mQ w w.heap.size cs.toList (w.alloc (.cells cs T)):=
 ⟨At.new w cs T,le_refl _,by simp,(aD.refl _ _).alloc _⟩
theorem gv(w:Wd)(a:Addr)(v:Va)(q:Nat):(w.setCell a v).shape? q=w.shape? q:=by
 unfold World.shape? setCell;simp only[Array.getElem?_modify];by_cases h:a.block=q
 .rw[if_pos h]
  cases w.heap[q]? with
  |none=>rfl
  |some o=>
   cases o<;>simp
   split<;>simp
 .rw[if_neg h]
theorem tV.mk'{w:Wd}{b:Nat}{cs:LV}(h:At w b cs)(o:Nat)(v:Va):tV w b (cs.set o v) (w.setCell ⟨b,o,none⟩ v):=
 ⟨h.set o v,by simp[setCell],(aD.refl _ _).set v (.inl ak),λq=>gv _ _ _ q⟩
section
variable {w:Wd}{k:VK}{ku:WP}{e:EK}
def Sc:Va->Bool
 |.int ..|.bool _|.string _|.pointer _|.slice ..|.map _|.iface ..|.nilIface|.func ..|.nilFunc=>true
 |_=>false
def One(P:Program)(t:TypeId):Prop:=∀a w v,w.cell? a=some v->(loadAt t (.pointer (some a))).run P w=.ok v w
def eZ(P:Program)(t:TypeId)(v:Va):Prop:=∀a w u,w.cell? a=some u->w.frozen? a=false->(storeAt t (.pointer (some a)) v).run P w=.ok () (w.setCell a v)
theorem V1.load{t:TypeId}{b o:Nat}{cs:LV}{v:Va}(h1:One P t)(hA:At w b cs)(hv:cs[o]?=some v)(hk:k v w):
 V1 P (loadAt t (.pointer (some ⟨b,o,none⟩))) w k e:=V1.i (h1 _ _ _ (by rw[hA.cell,hv])) hk
theorem U1.store{t:TypeId}{b o:Nat}{cs:LV}{v:Va}(h1:eZ P t v)(hA:At w b cs)(ho:o<cs.length)
  (hk:∀w',tV w b (cs.set o v) w'->ku w'):U1 P (storeAt t (.pointer (some ⟨b,o,none⟩)) v) w ku e:=
 U1.i (h1 _ _ cs[o] (by rw[hA.cell];simp[ho]) (hA.fr o)) (hk _ (tV.mk' hA o v))
theorem V1.new{s:Sem Va}{z:AV}{T:TypeId}(h:s.run P w=.ok (.pointer (some ⟨w.heap.size,0,none⟩)) (w.alloc (.cells z T)))
 (hk:∀b w',mQ w b z.toList w'->k (.pointer (some ⟨b,0,none⟩)) w'):V1 P s w k e:=V1.i h (hk _ _ (mQ.mk' w z T))
theorem V1.aG{s:Sem Va}{z:AV}{T:TypeId}{n c:Nat}(h:s.run P w=.ok (.slice (some ⟨w.heap.size,0,none⟩) n c) (w.alloc (.cells z T)))
 (hk:∀b w',mQ w b z.toList w'->k (.slice (some ⟨b,0,none⟩) n c) w'):V1 P s w k e:=V1.i h (hk _ _ (mQ.mk' w z T))
theorem mQ.a{w w':Wd}{b c:Nat}{cs ds:LV}(N:mQ w b cs w')(h:At w c ds):At w' c ds:=N.aA.at h ak
theorem mQ.kp{w w' v:Wd}{b:Nat}{cs:LV}{M:List Nat}(N:mQ w b cs w')(h:aD M v w):aD M v w':=h.trans' N.aA ak
end
end Go.Sh

namespace Go.Proofs.YtoddjlclpnoomaaGreatDoor
open Go.Sh
theorem mixed:prog.follows .mixedOrders=true:=ai
theorem Sz:One prog 1:=by intro a w v h;simp[go_sem,h]
theorem Ja(v:Va)(hv:Sc v=true):eZ prog 1 v:=by
 intro a w u h hf;cases v<;>first|(simp[go_sem,h,hf];done)|cases hv
theorem SA:One prog 2:=by intro a w v h;simp[go_sem,h]
theorem Jb(v:Va)(hv:Sc v=true):eZ prog 2 v:=by
 intro a w u h hf;cases v<;>first|(simp[go_sem,h,hf];done)|cases hv
theorem Fv:One prog 3:=by intro a w v h;simp[go_sem,h]
theorem Jc(v:Va)(hv:Sc v=true):eZ prog 3 v:=by
 intro a w u h hf;cases v<;>first|(simp[go_sem,h,hf];done)|cases hv
theorem SB:One prog 4:=by intro a w v h;simp[go_sem,h]
theorem Jd(v:Va)(hv:Sc v=true):eZ prog 4 v:=by
 intro a w u h hf;cases v<;>first|(simp[go_sem,h,hf];done)|cases hv
theorem SC:One prog 5:=by intro a w v h;simp[go_sem,h]
theorem Je(v:Va)(hv:Sc v=true):eZ prog 5 v:=by
 intro a w u h hf;cases v<;>first|(simp[go_sem,h,hf];done)|cases hv
theorem Jf:One prog 9:=by intro a w v h;simp[go_sem,h]
theorem Jg(v:Va)(hv:Sc v=true):eZ prog 9 v:=by
 intro a w u h hf;cases v<;>first|(simp[go_sem,h,hf];done)|cases hv
theorem Jh:One prog 22:=by intro a w v h;simp[go_sem,h]
theorem Fw(v:Va)(hv:Sc v=true):eZ prog 22 v:=by
 intro a w u h hf;cases v<;>first|(simp[go_sem,h,hf];done)|cases hv
theorem Ji:One prog 23:=by intro a w v h;simp[go_sem,h]
theorem Fx(v:Va)(hv:Sc v=true):eZ prog 23 v:=by
 intro a w u h hf;cases v<;>first|(simp[go_sem,h,hf];done)|cases hv
theorem Jj:One prog 26:=by intro a w v h;simp[go_sem,h]
theorem Fy(v:Va)(hv:Sc v=true):eZ prog 26 v:=by
 intro a w u h hf;cases v<;>first|(simp[go_sem,h,hf];done)|cases hv
theorem Jk:One prog 31:=by intro a w v h;simp[go_sem,h]
theorem Fz(v:Va)(hv:Sc v=true):eZ prog 31 v:=by
 intro a w u h hf;cases v<;>first|(simp[go_sem,h,hf];done)|cases hv
theorem Jl:One prog 40:=by intro a w v h;simp[go_sem,h]
theorem FA(v:Va)(hv:Sc v=true):eZ prog 40 v:=by
 intro a w u h hf;cases v<;>first|(simp[go_sem,h,hf];done)|cases hv
theorem Jm:One prog 41:=by intro a w v h;simp[go_sem,h]
theorem FB(v:Va)(hv:Sc v=true):eZ prog 41 v:=by
 intro a w u h hf;cases v<;>first|(simp[go_sem,h,hf];done)|cases hv
theorem Jo:One prog 44:=by intro a w v h;simp[go_sem,h]
theorem FC(v:Va)(hv:Sc v=true):eZ prog 44 v:=by
 intro a w u h hf;cases v<;>first|(simp[go_sem,h,hf];done)|cases hv
theorem Jq:One prog 45:=by intro a w v h;simp[go_sem,h]
theorem FD(v:Va)(hv:Sc v=true):eZ prog 45 v:=by
 intro a w u h hf;cases v<;>first|(simp[go_sem,h,hf];done)|cases hv
theorem Jr:One prog 51:=by intro a w v h;simp[go_sem,h]
theorem FE(v:Va)(hv:Sc v=true):eZ prog 51 v:=by
 intro a w u h hf;cases v<;>first|(simp[go_sem,h,hf];done)|cases hv
theorem Js:One prog 52:=by intro a w v h;simp[go_sem,h]
theorem FG(v:Va)(hv:Sc v=true):eZ prog 52 v:=by
 intro a w u h hf;cases v<;>first|(simp[go_sem,h,hf];done)|cases hv
theorem Jt:One prog 73:=by intro a w v h;simp[go_sem,h]
theorem FH(v:Va)(hv:Sc v=true):eZ prog 73 v:=by
 intro a w u h hf;cases v<;>first|(simp[go_sem,h,hf];done)|cases hv
theorem Ju:One prog 79:=by intro a w v h;simp[go_sem,h]
theorem FI(v:Va)(hv:Sc v=true):eZ prog 79 v:=by
 intro a w u h hf;cases v<;>first|(simp[go_sem,h,hf];done)|cases hv
theorem Jv:One prog 80:=by intro a w v h;simp[go_sem,h]
theorem FJ(v:Va)(hv:Sc v=true):eZ prog 80 v:=by
 intro a w u h hf;cases v<;>first|(simp[go_sem,h,hf];done)|cases hv
theorem Jw:One prog 95:=by intro a w v h;simp[go_sem,h]
theorem FK(v:Va)(hv:Sc v=true):eZ prog 95 v:=by
 intro a w u h hf;cases v<;>first|(simp[go_sem,h,hf];done)|cases hv
theorem FL:One prog 118:=by intro a w v h;simp[go_sem,h]
theorem Bu(v:Va)(hv:Sc v=true):eZ prog 118 v:=by
 intro a w u h hf;cases v<;>first|(simp[go_sem,h,hf];done)|cases hv
theorem FM:One prog 190:=by intro a w v h;simp[go_sem,h]
theorem Bv(v:Va)(hv:Sc v=true):eZ prog 190 v:=by
 intro a w u h hf;cases v<;>first|(simp[go_sem,h,hf];done)|cases hv
theorem FN:One prog 192:=by intro a w v h;simp[go_sem,h]
theorem Bw(v:Va)(hv:Sc v=true):eZ prog 192 v:=by
 intro a w u h hf;cases v<;>first|(simp[go_sem,h,hf];done)|cases hv
theorem FP:One prog 205:=by intro a w v h;simp[go_sem,h]
theorem Bx(v:Va)(hv:Sc v=true):eZ prog 205 v:=by
 intro a w u h hf;cases v<;>first|(simp[go_sem,h,hf];done)|cases hv
theorem FR:One prog 220:=by intro a w v h;simp[go_sem,h]
theorem Bz(v:Va)(hv:Sc v=true):eZ prog 220 v:=by
 intro a w u h hf;cases v<;>first|(simp[go_sem,h,hf];done)|cases hv
theorem FU:One prog 221:=by intro a w v h;simp[go_sem,h]
theorem BA(v:Va)(hv:Sc v=true):eZ prog 221 v:=by
 intro a w u h hf;cases v<;>first|(simp[go_sem,h,hf];done)|cases hv
theorem FV:One prog 224:=by intro a w v h;simp[go_sem,h]
theorem BB(v:Va)(hv:Sc v=true):eZ prog 224 v:=by
 intro a w u h hf;cases v<;>first|(simp[go_sem,h,hf];done)|cases hv
def eo(t:Nat):Bool:=[1,2,3,4,5,9,22,23,26,31,40,41,44,45,51,52,73,79,80,95,118,190,192,205,220,221,224].contains t
theorem aC{t:Nat}(h:eo t=true):One prog t:=by
 simp only[eo,List.contains_eq_mem,mem_cons,not_mem_nil,or_false,decide_eq_true_eq]at h;rcases h with rfl|rfl|rfl|rfl|rfl|rfl|rfl|rfl|rfl|rfl|rfl|rfl|rfl|rfl|rfl|rfl|rfl|rfl|rfl|rfl|rfl|rfl|rfl|rfl|rfl|rfl|rfl
 .exact Sz
 .exact SA
 .exact Fv
 .exact SB
 .exact SC
 .exact Jf
 .exact Jh
 .exact Ji
 .exact Jj
 .exact Jk
 .exact Jl
 .exact Jm
 .exact Jo
 .exact Jq
 .exact Jr
 .exact Js
 .exact Jt
 .exact Ju
 .exact Jv
 .exact Jw
 .exact FL
 .exact FM
 .exact FN
 .exact FP
 .exact FR
 .exact FU
 .exact FV
theorem aH{t:Nat}{v:Va}(h:eo t=true)(hv:Sc v=true):eZ prog t v:=by
 simp only[eo,List.contains_eq_mem,mem_cons,not_mem_nil,or_false,decide_eq_true_eq]at h;rcases h with rfl|rfl|rfl|rfl|rfl|rfl|rfl|rfl|rfl|rfl|rfl|rfl|rfl|rfl|rfl|rfl|rfl|rfl|rfl|rfl|rfl|rfl|rfl|rfl|rfl|rfl|rfl
 .exact Ja v hv
 .exact Jb v hv
 .exact Jc v hv
 .exact Jd v hv
 .exact Je v hv
 .exact Jg v hv
 .exact Fw v hv
 .exact Fx v hv
 .exact Fy v hv
 .exact Fz v hv
 .exact FA v hv
 .exact FB v hv
 .exact FC v hv
 .exact FD v hv
 .exact FE v hv
 .exact FG v hv
 .exact FH v hv
 .exact FI v hv
 .exact FJ v hv
 .exact FK v hv
 .exact Bu v hv
 .exact Bv v hv
 .exact Bw v hv
 .exact Bx v hv
 .exact Bz v hv
 .exact BA v hv
 .exact BB v hv
theorem Dz(w:Wd)(b o:Nat)(v0 v1:Va)(h0:w.cell? ⟨b,o,none⟩=some v0)(h1:w.cell? ⟨b,o+1,none⟩=some v1):(loadAt 69 (.pointer (some ⟨b,o,none⟩))).run prog w=.ok (.agg #[v0,v1]) w:=by simp[go_sem, *]
theorem vi(w:Wd)(b o:Nat)(v0 v1 v2 v3:Va)(h0:w.cell? ⟨b,o,none⟩=some v0)(h1:w.cell? ⟨b,o+1,none⟩=some v1)(h2:w.cell? ⟨b,o+2,none⟩=some v2)(h3:w.cell? ⟨b,o+3,none⟩=some v3):(loadAt 86 (.pointer (some ⟨b,o,none⟩))).run prog w=.ok (.agg #[v0,v1,v2,v3]) w:=by simp[go_sem, *]
theorem al1(w:Wd):(alloc 1 true (.tuple #[])).run prog w=.ok (.pointer (some ⟨w.heap.size,0,none⟩)) (w.alloc (.cells #[.nilFunc] 1)):=ai
theorem al9(w:Wd):(alloc 9 true (.tuple #[])).run prog w=.ok (.pointer (some ⟨w.heap.size,0,none⟩)) (w.alloc (.cells #[.string ⟨#[]⟩] 9)):=ai
theorem Jx(w:Wd):(alloc 23 true (.tuple #[])).run prog w=.ok (.pointer (some ⟨w.heap.size,0,none⟩)) (w.alloc (.cells #[.int .i64 0] 23)):=ai
theorem SD(w:Wd):(alloc 26 true (.tuple #[])).run prog w=.ok (.pointer (some ⟨w.heap.size,0,none⟩)) (w.alloc (.cells #[.slice none 0 0] 26)):=ai
theorem SE(w:Wd):(alloc 31 true (.tuple #[])).run prog w=.ok (.pointer (some ⟨w.heap.size,0,none⟩)) (w.alloc (.cells #[.nilIface] 31)):=ai
theorem FW(w:Wd):(alloc 41 true (.tuple #[])).run prog w=.ok (.pointer (some ⟨w.heap.size,0,none⟩)) (w.alloc (.cells #[.pointer none] 41)):=ai
theorem SF(w:Wd):(alloc 49 true (.tuple #[])).run prog w=.ok (.pointer (some ⟨w.heap.size,0,none⟩)) (w.alloc (.cells #[.int .i64 0] 49)):=ai
theorem SG(w:Wd):(alloc 54 true (.tuple #[])).run prog w=.ok (.pointer (some ⟨w.heap.size,0,none⟩)) (w.alloc (.cells #[.pointer none,.slice none 0 0] 54)):=ai
theorem wm(w:Wd):(alloc 69 true (.tuple #[])).run prog w=.ok (.pointer (some ⟨w.heap.size,0,none⟩)) (w.alloc (.cells #[.int .i64 0,.int .i64 0] 69)):=ai
theorem fB(w:Wd):(alloc 86 true (.tuple #[])).run prog w=.ok (.pointer (some ⟨w.heap.size,0,none⟩)) (w.alloc (.cells #[.int .i64 0,.string ⟨#[]⟩,.int .i64 0,.int .i64 0] 86)):=ai
theorem Jy(w:Wd):(alloc 149 true (.tuple #[])).run prog w=.ok (.pointer (some ⟨w.heap.size,0,none⟩)) (w.alloc (.cells #[.pointer none,.pointer none,.int .u64 0] 149)):=ai
theorem Jz(w:Wd):(alloc 168 true (.tuple #[])).run prog w=.ok (.pointer (some ⟨w.heap.size,0,none⟩)) (w.alloc (.cells #[.string ⟨#[]⟩,.string ⟨#[]⟩,.string ⟨#[]⟩,.string ⟨#[]⟩,.string ⟨#[]⟩,.string ⟨#[]⟩] 168)):=ai
theorem DA(w:Wd):(alloc 169 true (.tuple #[])).run prog w=.ok (.pointer (some ⟨w.heap.size,0,none⟩)) (w.alloc (.cells #[.string ⟨#[]⟩,.string ⟨#[]⟩,.string ⟨#[]⟩,.string ⟨#[]⟩,.string ⟨#[]⟩] 169)):=ai
theorem JB(w:Wd):(alloc 203 true (.tuple #[])).run prog w=.ok (.pointer (some ⟨w.heap.size,0,none⟩)) (w.alloc (.cells #[.string ⟨#[]⟩,.string ⟨#[]⟩,.string ⟨#[]⟩,.string ⟨#[]⟩,.string ⟨#[]⟩,.string ⟨#[]⟩,.string ⟨#[]⟩,.string ⟨#[]⟩,.string ⟨#[]⟩,.string ⟨#[]⟩,.string ⟨#[]⟩,.string ⟨#[]⟩,.string ⟨#[]⟩,.string ⟨#[]⟩,.string ⟨#[]⟩,.string ⟨#[]⟩,.string ⟨#[]⟩,.string ⟨#[]⟩] 203)):=ai
theorem JC(w:Wd):(alloc 208 true (.tuple #[])).run prog w=.ok (.pointer (some ⟨w.heap.size,0,none⟩)) (w.alloc (.cells #[.string ⟨#[]⟩,.string ⟨#[]⟩,.string ⟨#[]⟩,.string ⟨#[]⟩,.string ⟨#[]⟩,.string ⟨#[]⟩,.string ⟨#[]⟩,.string ⟨#[]⟩,.string ⟨#[]⟩,.string ⟨#[]⟩,.string ⟨#[]⟩,.string ⟨#[]⟩,.string ⟨#[]⟩,.string ⟨#[]⟩,.string ⟨#[]⟩,.string ⟨#[]⟩,.string ⟨#[]⟩,.string ⟨#[]⟩,.string ⟨#[]⟩,.string ⟨#[]⟩] 208)):=ai
theorem JD(w:Wd):(alloc 209 true (.tuple #[])).run prog w=.ok (.pointer (some ⟨w.heap.size,0,none⟩)) (w.alloc (.cells #[.string ⟨#[]⟩,.string ⟨#[]⟩,.string ⟨#[]⟩,.string ⟨#[]⟩,.string ⟨#[]⟩,.string ⟨#[]⟩,.string ⟨#[]⟩] 209)):=ai
theorem JE(w:Wd):(alloc 235 true (.tuple #[])).run prog w=.ok (.pointer (some ⟨w.heap.size,0,none⟩)) (w.alloc (.cells #[.string ⟨#[]⟩,.string ⟨#[]⟩,.string ⟨#[]⟩,.string ⟨#[]⟩,.string ⟨#[]⟩,.string ⟨#[]⟩,.string ⟨#[]⟩,.string ⟨#[]⟩,.string ⟨#[]⟩,.string ⟨#[]⟩] 235)):=ai
theorem bx9(w:Wd)(v:Va):(box 9 v).run prog w=.ok (.pointer (some ⟨w.heap.size,0,none⟩)) (w.alloc (.cells v.cells 9)):=by simp[go_sem]
theorem JF(w:Wd)(v:Va):(box 40 v).run prog w=.ok (.pointer (some ⟨w.heap.size,0,none⟩)) (w.alloc (.cells v.cells 40)):=by simp[go_sem]
theorem SH(w:Wd)(v:Va):(box 41 v).run prog w=.ok (.pointer (some ⟨w.heap.size,0,none⟩)) (w.alloc (.cells v.cells 41)):=by simp[go_sem]
theorem wo(w:Wd)(v:Va):(box 43 v).run prog w=.ok (.pointer (some ⟨w.heap.size,0,none⟩)) (w.alloc (.cells v.cells 43)):=by simp[go_sem]
theorem iE(w:Wd)(v:Va):(box 47 v).run prog w=.ok (.pointer (some ⟨w.heap.size,0,none⟩)) (w.alloc (.cells v.cells 47)):=by simp[go_sem]
theorem SI(w:Wd)(v:Va):(box 51 v).run prog w=.ok (.pointer (some ⟨w.heap.size,0,none⟩)) (w.alloc (.cells v.cells 51)):=by simp[go_sem]
theorem SJ(w:Wd)(v:Va):(box 56 v).run prog w=.ok (.pointer (some ⟨w.heap.size,0,none⟩)) (w.alloc (.cells v.cells 56)):=by simp[go_sem]
theorem SK(w:Wd)(v:Va):(box 63 v).run prog w=.ok (.pointer (some ⟨w.heap.size,0,none⟩)) (w.alloc (.cells v.cells 63)):=by simp[go_sem]
theorem SL(w:Wd)(v:Va):(box 67 v).run prog w=.ok (.pointer (some ⟨w.heap.size,0,none⟩)) (w.alloc (.cells v.cells 67)):=by simp[go_sem]
theorem FX(w:Wd)(v:Va):(box 69 v).run prog w=.ok (.pointer (some ⟨w.heap.size,0,none⟩)) (w.alloc (.cells v.cells 69)):=by simp[go_sem]
theorem wq(w:Wd)(v:Va):(box 79 v).run prog w=.ok (.pointer (some ⟨w.heap.size,0,none⟩)) (w.alloc (.cells v.cells 79)):=by simp[go_sem]
theorem SM(w:Wd)(v:Va):(box 83 v).run prog w=.ok (.pointer (some ⟨w.heap.size,0,none⟩)) (w.alloc (.cells v.cells 83)):=by simp[go_sem]
theorem JG(w:Wd)(v:Va):(box 108 v).run prog w=.ok (.pointer (some ⟨w.heap.size,0,none⟩)) (w.alloc (.cells v.cells 108)):=by simp[go_sem]
theorem JH(w:Wd)(v:Va):(box 149 v).run prog w=.ok (.pointer (some ⟨w.heap.size,0,none⟩)) (w.alloc (.cells v.cells 149)):=by simp[go_sem]
@[go_sem ↓] theorem fd78_0(w:Wd)(v0:Va):(field 78 (.agg #[v0]) 0).run prog w=.ok v0 w:=ai
@[go_sem ↓] theorem fd86_0(w:Wd)(v0 v1 v2 v3:Va):(field 86 (.agg #[v0,v1,v2,v3]) 0).run prog w=.ok v0 w:=ai
@[go_sem ↓] theorem fd86_1(w:Wd)(v0 v1 v2 v3:Va):(field 86 (.agg #[v0,v1,v2,v3]) 1).run prog w=.ok v1 w:=ai
@[go_sem ↓] theorem fd86_3(w:Wd)(v0 v1 v2 v3:Va):(field 86 (.agg #[v0,v1,v2,v3]) 3).run prog w=.ok v3 w:=ai
section
variable (R:ER)
abbrev v1(s:Sem Va)(w:Wd)(k:VK):Prop:=V1 prog s w k (pn R)
abbrev u1(s:Sem Unit)(w:Wd)(k:WP):Prop:=U1 prog s w k (pn R)
abbrev up(s:Sem Next)(w:Wd)(k:VK):Prop:=Up prog s w k (pn R)
abbrev cf(f:FuncId)(args:AV)(w:Wd)(k:VK):Prop:=Cf prog f args w k (pn R)
end
abbrev t0:WP:=λ_=>True
abbrev xw(S:WP)(s:Sem Va)(k:Va->Prop):Prop:=Xw prog S s k
abbrev xs(S:WP)(s:Sem Next)(k:Va->Prop):Prop:=Xs prog S s k
abbrev xv(C:WP)(s:Sem Va)(k:Va->Prop):Prop:=Xv prog C s k
abbrev xq(C:WP)(s:Sem Next)(k:Va->Prop):Prop:=Xq prog C s k
abbrev bZ(n:FuncId):Prop:=∀{args:AV}{w:Wd}{k Q:VK}{e E:EK},Calls prog n args w (aZ Q E)->(∀v w',Q v w'->k v w')->(∀c w',E c w'->e c w')->Cf prog n args w k e
set_option maxRecDepth 100000 in
theorem bZ.mk{n:FuncId}{fn:Func}{c:Code}(h1:prog.funcs[n]?=some fn)(h2:fn.body=some c)(h3:(fn.name== "runtime.NumGoroutine")=false):bZ n:=by
 intro args w k Q e E h hk he;exact Cf.go (aJ h1 h2 h3 args w) h hk he
abbrev bi(R:ER)(t:TypeId)(a:Va)(w:Wd)(k:VK):Prop:=v1 R (loadAt t a) w k
abbrev bj(R:ER)(t:TypeId)(a v:Va)(w:Wd)(k:WP):Prop:=u1 R (storeAt t a v) w k
abbrev bk(R:ER)(t:TypeId)(a:Va)(i:Nat)(w:Wd)(k:VK):Prop:=v1 R (fieldAt t a i) w k
abbrev bq(R:ER)(o:BinOp)(t:TypeId)(x y:Bool)(a b:Va)(w:Wd)(k:VK):Prop:=v1 R (Bo o t x y a b) w k
abbrev bu(R:ER)(a b c:Va)(w:Wd)(k:VK):Prop:=v1 R (Pk a b c) w k
abbrev bw(R:ER)(t:TypeId)(n:Nat)(l:Array (Nat×Va))(w:Wd)(k:VK):Prop:=v1 R (Instr.buildSlice t n l) w k
abbrev bz(R:ER)(a:Va)(n:Nat)(w:Wd)(k:VK):Prop:=v1 R (extract a n) w k
abbrev cb(R:ER)(t:TypeId)(a b:Va)(w:Wd)(k:VK):Prop:=v1 R (Instr.index t a b) w k
abbrev ce(R:ER)(t:TypeId)(a b:Va)(w:Wd)(k:VK):Prop:=v1 R (indexAt t a b) w k
abbrev cg(R:ER)(t:TypeId)(l:Array (Nat×Va))(w:Wd)(k:VK):Prop:=v1 R (Instr.build t l) w k
abbrev ci(R:ER)(o:UnOp)(a:Va)(w:Wd)(k:VK):Prop:=v1 R (Op.unary o a) w k
abbrev cj(R:ER)(t:TypeId)(a:Va)(w:Wd)(k:VK):Prop:=v1 R (box t a) w k
abbrev cm(R:ER)(a:Va)(w:Wd)(k:VK):Prop:=up R (Nc a) w k
abbrev co(R:ER)(t:TypeId)(a:Va)(i:Nat)(w:Wd)(k:VK):Prop:=v1 R (field t a i) w k
abbrev cr(R:ER)(t:TypeId)(a:Va)(w:Wd)(k:VK):Prop:=v1 R (Instr.makeInterface t a) w k
abbrev cu(R:ER)(t:TypeId)(b:Bool)(a:Va)(w:Wd)(k:VK):Prop:=v1 R (alloc t b a) w k
abbrev cw(R:ER)(t:TypeId)(a:Va)(w:Wd)(k:VK):Prop:=v1 R (len_ #[t] 3 #[a]) w k
abbrev cz(R:ER)(a:Va)(w:Wd):Prop:=R (.returned a) w
theorem db(hd:List Nat){n:FuncId}{fn:Func}(hf:prog.funcs[n]?=some fn){l:LV}{w:Wd}{R:ER}{S:Prop}(h:S)(hb:fn.body=some (bA fn):=by kernel_rfl)(hn:Nat.ble l.length fn.ntmps=true:=by kernel_rfl)(hS:S=body prog fn.ntmps hd fn.results.toList (bA fn) l R w:=by kernel_rfl):Calls prog n l.toArray w R:=fO hd mixed hf hb (le_of_ble_eq_true hn) (cast hS h)
theorem dc(hd:List Nat){n:FuncId}{fn:Func}(hf:prog.funcs[n]?=some fn){l:LV}{w:Wd}{R:ER}{S:Prop}(h:S)(hb:fn.body=some (bA fn):=by kernel_rfl)(hn:Nat.ble l.length fn.ntmps=true:=by kernel_rfl)(hS:S=Dw prog fn.ntmps hd fn.results.toList (bA fn) l R w:=by kernel_rfl):Calls prog n l.toArray w R:=wi hd mixed hf hb (le_of_ble_eq_true hn) (cast hS h)
theorem dd{n:FuncId}{fn:Func}(h1:prog.funcs[n]?=some fn)(h2:fn.body=some (bA fn):=by kernel_rfl)(h3:(fn.name== "runtime.NumGoroutine")=false:=by kernel_rfl):bZ n:=bZ.mk h1 h2 h3
abbrev de(n:FuncId)(S:(ER)->VK):Prop:=∀{R:ER}{a0:Va}{w:Wd},S R a0 w->Calls prog n #[a0] w R
abbrev df(n:FuncId)(S:(ER)->Va->VK):Prop:=∀{R:ER}{a0 a1:Va}{w:Wd},S R a0 a1 w->Calls prog n #[a0,a1] w R
abbrev dg(n:FuncId)(S:(ER)->Va->Va->VK):Prop:=∀{R:ER}{a0 a1 a2:Va}{w:Wd},S R a0 a1 a2 w->Calls prog n #[a0,a1,a2] w R
abbrev dh(n:FuncId)(S:(ER)->WP):Prop:=∀{R:ER}{w:Wd},S R w->Calls prog n #[] w R
abbrev di(n:FuncId)(S:(ER)->Va->Va->Va->VK):Prop:=∀{R:ER}{a0 a1 a2 a3:Va}{w:Wd},S R a0 a1 a2 a3 w->Calls prog n #[a0,a1,a2,a3] w R
end Go.Proofs.YtoddjlclpnoomaaGreatDoor


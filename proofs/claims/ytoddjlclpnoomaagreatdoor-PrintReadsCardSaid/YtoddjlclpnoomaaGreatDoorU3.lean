import Derived.KernelRfl
import Derived.Laws.EntriesVeiled
import Derived.Test.YtoddjlclpnoomaaGreatDoorProg
import Derived.WalkLawsBesides
import Derived.Test.YtoddjlclpnoomaaGreatDoorU2
set_option linter.unusedVariables false
set_option linter.unusedSimpArgs false
set_option maxRecDepth 100000
open Go.Proofs.Tryz
open Go.Instr (alloc box loadAt storeAt fieldAt field indexAt extract)
open List (mem_cons not_mem_nil)
open Nat (lt_or_ge le_of_ble_eq_true le_refl le_trans lt_of_lt_of_le)
open Go.Builtin (len_)
open Go.World (setCell cell?)
namespace Go.Sh
def At(w:Wd)(b:Nat)(cs:LV):Prop:=∃T,w.heap[b]?=some (.cells cs.toArray T (0,0))
structure aD(M:List Nat)(w w':Wd):Prop where
 size:w.heap.size<=w'.heap.size
 same:∀b,b<w.heap.size->b∉M->w'.heap[b]?=w.heap[b]?
 io:w'.os=w.os/\w'.output=w.output
theorem fG(w:Wd)(o:Obj)(i:Nat):(w.alloc o).heap[i]?=if i=w.heap.size then some o else w.heap[i]?:=by
 show(w.heap.push o)[i]?=_
 rw[Array.getElem?_push]
theorem aD.refl(M:List Nat)(w:Wd):aD M w w:=⟨le_refl _,λ_ _ _=>rfl,rfl,rfl⟩
theorem aD.trans{M:List Nat}{a b c:Wd}(h:aD M a b)(h':aD M b c):aD M a c:=
 ⟨le_trans h.size h'.size,λi hi hm=>by rw[h'.same i (lt_of_lt_of_le hi h.size) hm,h.same i hi hm],h'.io.1.trans h.io.1,h'.io.2.trans h.io.2⟩
theorem aD.mono{M N:List Nat}{a b:Wd}(h:aD M a b)(hs:∀i∈M,i<a.heap.size->i∈N):aD N a b:=
 ⟨h.size,λi hi hm=>h.same i hi λhM=>hm (hs i hM hi),h.io⟩
theorem aD.trans'{M N:List Nat}{a b c:Wd}(h:aD M a b)(h':aD N b c)(hs:∀i∈N,i<a.heap.size->i∈M):aD M a c:=
 ⟨le_trans h.size h'.size,λi hi hm=>by
  rw[h'.same i (lt_of_lt_of_le hi h.size) λhN=>hm (hs i hN hi),h.same i hi hm],h'.io.1.trans h.io.1,h'.io.2.trans h.io.2⟩
theorem aD.then{M N L:List Nat}{a b c:Wd}(h:aD M a b)(h':aD N b c)(h1:∀i∈M,i<a.heap.size->i∈L)(h2:∀i∈N,i<a.heap.size->i∈L):aD L a c:=
 (h.mono h1).trans' h' h2
theorem aD.alloc{M:List Nat}{a b:Wd}(h:aD M a b)(o:Obj):aD M a (b.alloc o):=
 h.trans ⟨by simp,λi hi _=>by rw[fG,if_neg (Nat.ne_of_lt hi)],rfl,rfl⟩
theorem aD.drew{M:List Nat}{a b:Wd}(h:aD M a b):aD M a b.drew:=h.trans ⟨le_refl _,λ_ _ _=>rfl,rfl,rfl⟩
theorem aD.set{M:List Nat}{a b:Wd}(h:aD M a b){c:Addr}(v:Va)(hc:c.block∈M\/a.heap.size<=c.block):aD M a (b.setCell c v):=
 h.trans' (N:=[c.block]) ⟨by simp[setCell],λi hi hm=>by
  have:c.block≠i:=λe=>hm (by simp[e]);simp[setCell,Array.getElem?_modify,this],rfl,rfl⟩ (λi hi bO=>by
  simp at hi;subst hi
  rcases hc with h1|h1
  .exact h1
  .omega)
theorem aD.at{M:List Nat}{w w':Wd}(h:aD M w w'){b:Nat}{cs:LV}(ha:At w b cs)(hb:b∉M):At w' b cs:=by
 obtain⟨T,hT⟩:=ha;refine⟨T,?_⟩;rw[h.same b ?_ hb,hT];rcases lt_or_ge b w.heap.size with h'|h'
 .exact h'
 .rw[Array.getElem?_eq_none h']at hT;cases hT
theorem aD.cell{M:List Nat}{w w':Wd}(h:aD M w w'){a:Addr}{v:Va}(hc:w.cell? a=some v)(hb:a.block∉M):w'.cell? a=some v:=by
 have bO:a.block<w.heap.size:=by
  unfold cell? at hc;rcases lt_or_ge a.block w.heap.size with h'|h'
  .exact h'
  .rw[Array.getElem?_eq_none h']at hc;cases hc
 unfold cell? at*;rw[h.same a.block bO hb];exact hc
theorem At.lt{w:Wd}{b:Nat}{cs:LV}(h:At w b cs):b<w.heap.size:=by
 obtain⟨T,hT⟩:=h;rcases lt_or_ge b w.heap.size with h'|h'
 .exact h'
 .rw[Array.getElem?_eq_none h']at hT;cases hT
theorem At.cell{w:Wd}{b:Nat}{cs:LV}(h:At w b cs)(o:Nat):w.cell? ⟨b,o,none⟩=cs[o]?:=by
 obtain⟨T,hT⟩:=h;simp[cell?,hT]
theorem At.fr{w:Wd}{b:Nat}{cs:LV}(h:At w b cs)(o:Nat):w.frozen? ⟨b,o,none⟩=false:=by
 obtain⟨T,hT⟩:=h;simp[World.frozen?,hT]
theorem At.new(w:Wd)(cs:AV)(T:TypeId):At (w.alloc (.cells cs T)) w.heap.size cs.toList:=⟨T,by rw[fG,if_pos rfl]⟩
theorem At.set{w:Wd}{b:Nat}{cs:LV}(h:At w b cs)(o:Nat)(v:Va):At (w.setCell ⟨b,o,none⟩ v) b (cs.set o v):=by
 obtain⟨T,hT⟩:=h;exact⟨T,by simp[setCell,Array.getElem?_modify,hT]⟩
def str(l:By):Va:=.string ⟨l.toArray⟩
structure nH(w:Wd)(b:Nat)(cs:LV)(w':Wd):Prop where
 at_:At w' b cs
 ge:w.heap.size<=b
 lt:b<w'.heap.size
 aA:aD [] w w'
structure tB(w:Wd)(b:Nat)(cs:LV)(w':Wd):Prop where
 at_:At w' b cs
 size:w'.heap.size=w.heap.size
 aA:aD [b] w w'
 Yk:∀q,w'.shape? q=w.shape? q
variable {P:Program}
theorem nH.mk'(w:Wd)(cs:AV)(T:TypeId):nH w w.heap.size cs.toList (w.alloc (.cells cs T)):=
 ⟨At.new w cs T,le_refl _,by simp,(aD.refl _ _).alloc _⟩
theorem fH(w:Wd)(a:Addr)(v:Va)(q:Nat):(w.setCell a v).shape? q=w.shape? q:=by
 unfold World.shape? setCell;simp only[Array.getElem?_modify];by_cases h:a.block=q
 .rw[if_pos h]
  cases w.heap[q]? with
  |none=>rfl
  |some o=>
   cases o<;>simp
   split<;>simp
 .rw[if_neg h]
theorem tB.mk'{w:Wd}{b:Nat}{cs:LV}(h:At w b cs)(o:Nat)(v:Va):tB w b (cs.set o v) (w.setCell ⟨b,o,none⟩ v):=
 ⟨h.set o v,by simp[setCell],(aD.refl _ _).set v (.inl ak),λq=>fH _ _ _ q⟩
section
variable {w:Wd}{k:VK}{ku:WP}{e:EK}
def Sc:Va->Bool
 |.int ..|.bool _|.string _|.pointer _|.slice ..|.map _|.iface ..|.nilIface|.func ..|.nilFunc=>true
 |_=>false
def One(P:Program)(t:TypeId):Prop:=∀a w v,w.cell? a=some v->(loadAt t (.pointer (some a))).run P w=.ok v w
def eF(P:Program)(t:TypeId)(v:Va):Prop:=∀a w u,w.cell? a=some u->w.frozen? a=false->(storeAt t (.pointer (some a)) v).run P w=.ok () (w.setCell a v)
theorem V1.load{t:TypeId}{b o:Nat}{cs:LV}{v:Va}(h1:One P t)(hA:At w b cs)(hv:cs[o]?=some v)(hk:k v w):
 V1 P (loadAt t (.pointer (some ⟨b,o,none⟩))) w k e:=V1.i (h1 _ _ _ (by rw[hA.cell,hv])) hk
theorem U1.store{t:TypeId}{b o:Nat}{cs:LV}{v:Va}(h1:eF P t v)(hA:At w b cs)(ho:o<cs.length)
  (hk:∀w',tB w b (cs.set o v) w'->ku w'):U1 P (storeAt t (.pointer (some ⟨b,o,none⟩)) v) w ku e:=
 U1.i (h1 _ _ cs[o] (by rw[hA.cell];simp[ho]) (hA.fr o)) (hk _ (tB.mk' hA o v))
theorem V1.new{s:Sem Va}{z:AV}{T:TypeId}(h:s.run P w=.ok (.pointer (some ⟨w.heap.size,0,none⟩)) (w.alloc (.cells z T)))
 (hk:∀b w',nH w b z.toList w'->k (.pointer (some ⟨b,0,none⟩)) w'):V1 P s w k e:=V1.i h (hk _ _ (nH.mk' w z T))
theorem V1.aG{s:Sem Va}{z:AV}{T:TypeId}{n c:Nat}(h:s.run P w=.ok (.slice (some ⟨w.heap.size,0,none⟩) n c) (w.alloc (.cells z T)))
 (hk:∀b w',nH w b z.toList w'->k (.slice (some ⟨b,0,none⟩) n c) w'):V1 P s w k e:=V1.i h (hk _ _ (nH.mk' w z T))
theorem nH.a{w w':Wd}{b c:Nat}{cs ds:LV}(N:nH w b cs w')(h:At w c ds):At w' c ds:=N.aA.at h ak
theorem nH.kp{w w' v:Wd}{b:Nat}{cs:LV}{M:List Nat}(N:nH w b cs w')(h:aD M v w):aD M v w':=h.trans' N.aA ak
end
end Go.Sh

namespace Go.Proofs.YtoddjlclpnoomaaGreatDoor
open Go.Sh
theorem mixed:prog.follows .mixedOrders=true:=ai
theorem O3:One prog 1:=by intro a w v h;simp[go_sem,h]
theorem Gx(v:Va)(hv:Sc v=true):eF prog 1 v:=by
 intro a w u h hf;cases v<;>first|(simp[go_sem,h,hf];done)|cases hv
theorem O4:One prog 2:=by intro a w v h;simp[go_sem,h]
theorem Gy(v:Va)(hv:Sc v=true):eF prog 2 v:=by
 intro a w u h hf;cases v<;>first|(simp[go_sem,h,hf];done)|cases hv
theorem Di:One prog 3:=by intro a w v h;simp[go_sem,h]
theorem Gz(v:Va)(hv:Sc v=true):eF prog 3 v:=by
 intro a w u h hf;cases v<;>first|(simp[go_sem,h,hf];done)|cases hv
theorem O5:One prog 4:=by intro a w v h;simp[go_sem,h]
theorem GA(v:Va)(hv:Sc v=true):eF prog 4 v:=by
 intro a w u h hf;cases v<;>first|(simp[go_sem,h,hf];done)|cases hv
theorem O6:One prog 5:=by intro a w v h;simp[go_sem,h]
theorem GB(v:Va)(hv:Sc v=true):eF prog 5 v:=by
 intro a w u h hf;cases v<;>first|(simp[go_sem,h,hf];done)|cases hv
theorem GC:One prog 9:=by intro a w v h;simp[go_sem,h]
theorem GD(v:Va)(hv:Sc v=true):eF prog 9 v:=by
 intro a w u h hf;cases v<;>first|(simp[go_sem,h,hf];done)|cases hv
theorem GF:One prog 22:=by intro a w v h;simp[go_sem,h]
theorem Dj(v:Va)(hv:Sc v=true):eF prog 22 v:=by
 intro a w u h hf;cases v<;>first|(simp[go_sem,h,hf];done)|cases hv
theorem GG:One prog 23:=by intro a w v h;simp[go_sem,h]
theorem Dk(v:Va)(hv:Sc v=true):eF prog 23 v:=by
 intro a w u h hf;cases v<;>first|(simp[go_sem,h,hf];done)|cases hv
theorem GH:One prog 26:=by intro a w v h;simp[go_sem,h]
theorem Dl(v:Va)(hv:Sc v=true):eF prog 26 v:=by
 intro a w u h hf;cases v<;>first|(simp[go_sem,h,hf];done)|cases hv
theorem GI:One prog 31:=by intro a w v h;simp[go_sem,h]
theorem Dp(v:Va)(hv:Sc v=true):eF prog 31 v:=by
 intro a w u h hf;cases v<;>first|(simp[go_sem,h,hf];done)|cases hv
theorem GJ:One prog 40:=by intro a w v h;simp[go_sem,h]
theorem Dq(v:Va)(hv:Sc v=true):eF prog 40 v:=by
 intro a w u h hf;cases v<;>first|(simp[go_sem,h,hf];done)|cases hv
theorem GK:One prog 41:=by intro a w v h;simp[go_sem,h]
theorem Dr(v:Va)(hv:Sc v=true):eF prog 41 v:=by
 intro a w u h hf;cases v<;>first|(simp[go_sem,h,hf];done)|cases hv
theorem GM:One prog 44:=by intro a w v h;simp[go_sem,h]
theorem Ds(v:Va)(hv:Sc v=true):eF prog 44 v:=by
 intro a w u h hf;cases v<;>first|(simp[go_sem,h,hf];done)|cases hv
theorem GN:One prog 45:=by intro a w v h;simp[go_sem,h]
theorem Dt(v:Va)(hv:Sc v=true):eF prog 45 v:=by
 intro a w u h hf;cases v<;>first|(simp[go_sem,h,hf];done)|cases hv
theorem GO:One prog 51:=by intro a w v h;simp[go_sem,h]
theorem Du(v:Va)(hv:Sc v=true):eF prog 51 v:=by
 intro a w u h hf;cases v<;>first|(simp[go_sem,h,hf];done)|cases hv
theorem GP:One prog 52:=by intro a w v h;simp[go_sem,h]
theorem Dv(v:Va)(hv:Sc v=true):eF prog 52 v:=by
 intro a w u h hf;cases v<;>first|(simp[go_sem,h,hf];done)|cases hv
theorem GQ:One prog 73:=by intro a w v h;simp[go_sem,h]
theorem Dw(v:Va)(hv:Sc v=true):eF prog 73 v:=by
 intro a w u h hf;cases v<;>first|(simp[go_sem,h,hf];done)|cases hv
theorem GR:One prog 79:=by intro a w v h;simp[go_sem,h]
theorem Dx(v:Va)(hv:Sc v=true):eF prog 79 v:=by
 intro a w u h hf;cases v<;>first|(simp[go_sem,h,hf];done)|cases hv
theorem GU:One prog 80:=by intro a w v h;simp[go_sem,h]
theorem Dy(v:Va)(hv:Sc v=true):eF prog 80 v:=by
 intro a w u h hf;cases v<;>first|(simp[go_sem,h,hf];done)|cases hv
theorem GV:One prog 95:=by intro a w v h;simp[go_sem,h]
theorem Dz(v:Va)(hv:Sc v=true):eF prog 95 v:=by
 intro a w u h hf;cases v<;>first|(simp[go_sem,h,hf];done)|cases hv
theorem DA:One prog 118:=by intro a w v h;simp[go_sem,h]
theorem zx(v:Va)(hv:Sc v=true):eF prog 118 v:=by
 intro a w u h hf;cases v<;>first|(simp[go_sem,h,hf];done)|cases hv
theorem DB:One prog 190:=by intro a w v h;simp[go_sem,h]
theorem zy(v:Va)(hv:Sc v=true):eF prog 190 v:=by
 intro a w u h hf;cases v<;>first|(simp[go_sem,h,hf];done)|cases hv
theorem DC:One prog 192:=by intro a w v h;simp[go_sem,h]
theorem zA(v:Va)(hv:Sc v=true):eF prog 192 v:=by
 intro a w u h hf;cases v<;>first|(simp[go_sem,h,hf];done)|cases hv
theorem DD:One prog 205:=by intro a w v h;simp[go_sem,h]
theorem zB(v:Va)(hv:Sc v=true):eF prog 205 v:=by
 intro a w u h hf;cases v<;>first|(simp[go_sem,h,hf];done)|cases hv
theorem DE:One prog 220:=by intro a w v h;simp[go_sem,h]
theorem zC(v:Va)(hv:Sc v=true):eF prog 220 v:=by
 intro a w u h hf;cases v<;>first|(simp[go_sem,h,hf];done)|cases hv
theorem DF:One prog 221:=by intro a w v h;simp[go_sem,h]
theorem zD(v:Va)(hv:Sc v=true):eF prog 221 v:=by
 intro a w u h hf;cases v<;>first|(simp[go_sem,h,hf];done)|cases hv
theorem DG:One prog 224:=by intro a w v h;simp[go_sem,h]
theorem zE(v:Va)(hv:Sc v=true):eF prog 224 v:=by
 intro a w u h hf;cases v<;>first|(simp[go_sem,h,hf];done)|cases hv
def dT(t:Nat):Bool:=[1,2,3,4,5,9,22,23,26,31,40,41,44,45,51,52,73,79,80,95,118,190,192,205,220,221,224].contains t
theorem aC{t:Nat}(h:dT t=true):One prog t:=by
 simp only[dT,List.contains_eq_mem,mem_cons,not_mem_nil,or_false,decide_eq_true_eq]at h;rcases h with rfl|rfl|rfl|rfl|rfl|rfl|rfl|rfl|rfl|rfl|rfl|rfl|rfl|rfl|rfl|rfl|rfl|rfl|rfl|rfl|rfl|rfl|rfl|rfl|rfl|rfl|rfl
 .exact O3
 .exact O4
 .exact Di
 .exact O5
 .exact O6
 .exact GC
 .exact GF
 .exact GG
 .exact GH
 .exact GI
 .exact GJ
 .exact GK
 .exact GM
 .exact GN
 .exact GO
 .exact GP
 .exact GQ
 .exact GR
 .exact GU
 .exact GV
 .exact DA
 .exact DB
 .exact DC
 .exact DD
 .exact DE
 .exact DF
 .exact DG
theorem aO{t:Nat}{v:Va}(h:dT t=true)(hv:Sc v=true):eF prog t v:=by
 simp only[dT,List.contains_eq_mem,mem_cons,not_mem_nil,or_false,decide_eq_true_eq]at h;rcases h with rfl|rfl|rfl|rfl|rfl|rfl|rfl|rfl|rfl|rfl|rfl|rfl|rfl|rfl|rfl|rfl|rfl|rfl|rfl|rfl|rfl|rfl|rfl|rfl|rfl|rfl|rfl
 .exact Gx v hv
 .exact Gy v hv
 .exact Gz v hv
 .exact GA v hv
 .exact GB v hv
 .exact GD v hv
 .exact Dj v hv
 .exact Dk v hv
 .exact Dl v hv
 .exact Dp v hv
 .exact Dq v hv
 .exact Dr v hv
 .exact Ds v hv
 .exact Dt v hv
 .exact Du v hv
 .exact Dv v hv
 .exact Dw v hv
 .exact Dx v hv
 .exact Dy v hv
 .exact Dz v hv
 .exact zx v hv
 .exact zy v hv
 .exact zA v hv
 .exact zB v hv
 .exact zC v hv
 .exact zD v hv
 .exact zE v hv
theorem Bu(w:Wd)(b o:Nat)(v0 v1:Va)(h0:w.cell? ⟨b,o,none⟩=some v0)(h1:w.cell? ⟨b,o+1,none⟩=some v1):(loadAt 69 (.pointer (some ⟨b,o,none⟩))).run prog w=.ok (.agg #[v0,v1]) w:=by simp[go_sem, *]
theorem tC(w:Wd)(b o:Nat)(v0 v1 v2 v3:Va)(h0:w.cell? ⟨b,o,none⟩=some v0)(h1:w.cell? ⟨b,o+1,none⟩=some v1)(h2:w.cell? ⟨b,o+2,none⟩=some v2)(h3:w.cell? ⟨b,o+3,none⟩=some v3):(loadAt 86 (.pointer (some ⟨b,o,none⟩))).run prog w=.ok (.agg #[v0,v1,v2,v3]) w:=by simp[go_sem, *]
theorem Yl(w:Wd):(alloc 1 true (.tuple #[])).run prog w=.ok (.pointer (some ⟨w.heap.size,0,none⟩)) (w.alloc (.cells #[.nilFunc] 1)):=ai
theorem Ym(w:Wd):(alloc 9 true (.tuple #[])).run prog w=.ok (.pointer (some ⟨w.heap.size,0,none⟩)) (w.alloc (.cells #[.string ⟨#[]⟩] 9)):=ai
theorem GW(w:Wd):(alloc 23 true (.tuple #[])).run prog w=.ok (.pointer (some ⟨w.heap.size,0,none⟩)) (w.alloc (.cells #[.int .i64 0] 23)):=ai
theorem O7(w:Wd):(alloc 26 true (.tuple #[])).run prog w=.ok (.pointer (some ⟨w.heap.size,0,none⟩)) (w.alloc (.cells #[.slice none 0 0] 26)):=ai
theorem O8(w:Wd):(alloc 31 true (.tuple #[])).run prog w=.ok (.pointer (some ⟨w.heap.size,0,none⟩)) (w.alloc (.cells #[.nilIface] 31)):=ai
theorem DH(w:Wd):(alloc 41 true (.tuple #[])).run prog w=.ok (.pointer (some ⟨w.heap.size,0,none⟩)) (w.alloc (.cells #[.pointer none] 41)):=ai
theorem O9(w:Wd):(alloc 49 true (.tuple #[])).run prog w=.ok (.pointer (some ⟨w.heap.size,0,none⟩)) (w.alloc (.cells #[.int .i64 0] 49)):=ai
theorem Pa(w:Wd):(alloc 54 true (.tuple #[])).run prog w=.ok (.pointer (some ⟨w.heap.size,0,none⟩)) (w.alloc (.cells #[.pointer none,.slice none 0 0] 54)):=ai
theorem ux(w:Wd):(alloc 69 true (.tuple #[])).run prog w=.ok (.pointer (some ⟨w.heap.size,0,none⟩)) (w.alloc (.cells #[.int .i64 0,.int .i64 0] 69)):=ai
theorem eW(w:Wd):(alloc 86 true (.tuple #[])).run prog w=.ok (.pointer (some ⟨w.heap.size,0,none⟩)) (w.alloc (.cells #[.int .i64 0,.string ⟨#[]⟩,.int .i64 0,.int .i64 0] 86)):=ai
theorem GX(w:Wd):(alloc 149 true (.tuple #[])).run prog w=.ok (.pointer (some ⟨w.heap.size,0,none⟩)) (w.alloc (.cells #[.pointer none,.pointer none,.int .u64 0] 149)):=ai
theorem GY(w:Wd):(alloc 208 true (.tuple #[])).run prog w=.ok (.pointer (some ⟨w.heap.size,0,none⟩)) (w.alloc (.cells #[.string ⟨#[]⟩,.string ⟨#[]⟩,.string ⟨#[]⟩,.string ⟨#[]⟩,.string ⟨#[]⟩,.string ⟨#[]⟩,.string ⟨#[]⟩,.string ⟨#[]⟩,.string ⟨#[]⟩,.string ⟨#[]⟩,.string ⟨#[]⟩,.string ⟨#[]⟩,.string ⟨#[]⟩,.string ⟨#[]⟩,.string ⟨#[]⟩,.string ⟨#[]⟩,.string ⟨#[]⟩,.string ⟨#[]⟩,.string ⟨#[]⟩,.string ⟨#[]⟩] 208)):=ai
theorem GZ(w:Wd):(alloc 209 true (.tuple #[])).run prog w=.ok (.pointer (some ⟨w.heap.size,0,none⟩)) (w.alloc (.cells #[.string ⟨#[]⟩,.string ⟨#[]⟩,.string ⟨#[]⟩,.string ⟨#[]⟩,.string ⟨#[]⟩,.string ⟨#[]⟩,.string ⟨#[]⟩] 209)):=ai
theorem G3(w:Wd):(alloc 235 true (.tuple #[])).run prog w=.ok (.pointer (some ⟨w.heap.size,0,none⟩)) (w.alloc (.cells #[.string ⟨#[]⟩,.string ⟨#[]⟩,.string ⟨#[]⟩,.string ⟨#[]⟩,.string ⟨#[]⟩,.string ⟨#[]⟩,.string ⟨#[]⟩,.string ⟨#[]⟩,.string ⟨#[]⟩,.string ⟨#[]⟩] 235)):=ai
theorem Yn(w:Wd)(v:Va):(box 9 v).run prog w=.ok (.pointer (some ⟨w.heap.size,0,none⟩)) (w.alloc (.cells v.cells 9)):=by simp[go_sem]
theorem G4(w:Wd)(v:Va):(box 40 v).run prog w=.ok (.pointer (some ⟨w.heap.size,0,none⟩)) (w.alloc (.cells v.cells 40)):=by simp[go_sem]
theorem Pb(w:Wd)(v:Va):(box 41 v).run prog w=.ok (.pointer (some ⟨w.heap.size,0,none⟩)) (w.alloc (.cells v.cells 41)):=by simp[go_sem]
theorem zF(w:Wd)(v:Va):(box 43 v).run prog w=.ok (.pointer (some ⟨w.heap.size,0,none⟩)) (w.alloc (.cells v.cells 43)):=by simp[go_sem]
theorem jJ(w:Wd)(v:Va):(box 47 v).run prog w=.ok (.pointer (some ⟨w.heap.size,0,none⟩)) (w.alloc (.cells v.cells 47)):=by simp[go_sem]
theorem Pc(w:Wd)(v:Va):(box 51 v).run prog w=.ok (.pointer (some ⟨w.heap.size,0,none⟩)) (w.alloc (.cells v.cells 51)):=by simp[go_sem]
theorem Pd(w:Wd)(v:Va):(box 56 v).run prog w=.ok (.pointer (some ⟨w.heap.size,0,none⟩)) (w.alloc (.cells v.cells 56)):=by simp[go_sem]
theorem Pe(w:Wd)(v:Va):(box 67 v).run prog w=.ok (.pointer (some ⟨w.heap.size,0,none⟩)) (w.alloc (.cells v.cells 67)):=by simp[go_sem]
theorem DI(w:Wd)(v:Va):(box 69 v).run prog w=.ok (.pointer (some ⟨w.heap.size,0,none⟩)) (w.alloc (.cells v.cells 69)):=by simp[go_sem]
theorem uy(w:Wd)(v:Va):(box 79 v).run prog w=.ok (.pointer (some ⟨w.heap.size,0,none⟩)) (w.alloc (.cells v.cells 79)):=by simp[go_sem]
theorem Pf(w:Wd)(v:Va):(box 83 v).run prog w=.ok (.pointer (some ⟨w.heap.size,0,none⟩)) (w.alloc (.cells v.cells 83)):=by simp[go_sem]
theorem G5(w:Wd)(v:Va):(box 108 v).run prog w=.ok (.pointer (some ⟨w.heap.size,0,none⟩)) (w.alloc (.cells v.cells 108)):=by simp[go_sem]
theorem G6(w:Wd)(v:Va):(box 149 v).run prog w=.ok (.pointer (some ⟨w.heap.size,0,none⟩)) (w.alloc (.cells v.cells 149)):=by simp[go_sem]
@[go_sem ↓] theorem fd78_0(w:Wd)(v0:Va):(field 78 (.agg #[v0]) 0).run prog w=.ok v0 w:=ai
@[go_sem ↓] theorem fd86_0(w:Wd)(v0 v1 v2 v3:Va):(field 86 (.agg #[v0,v1,v2,v3]) 0).run prog w=.ok v0 w:=ai
@[go_sem ↓] theorem fd86_1(w:Wd)(v0 v1 v2 v3:Va):(field 86 (.agg #[v0,v1,v2,v3]) 1).run prog w=.ok v1 w:=ai
@[go_sem ↓] theorem fd86_3(w:Wd)(v0 v1 v2 v3:Va):(field 86 (.agg #[v0,v1,v2,v3]) 3).run prog w=.ok v3 w:=ai
section
variable (R:ER)
abbrev v1(s:Sem Va)(w:Wd)(k:VK):Prop:=V1 prog s w k (pn R)
abbrev u1(s:Sem Unit)(w:Wd)(k:WP):Prop:=U1 prog s w k (pn R)
abbrev up(s:Sem Next)(w:Wd)(k:VK):Prop:=Up prog s w k (pn R)
abbrev cf(f:FuncId)(args:AV)(w:Wd)(k:VK):Prop:=Cf prog f args w k (pn R)
end
abbrev t0:WP:=λ_=>True
abbrev xw(S:WP)(s:Sem Va)(k:Va->Prop):Prop:=Xw prog S s k
abbrev xs(S:WP)(s:Sem Next)(k:Va->Prop):Prop:=Xs prog S s k
abbrev xv(C:WP)(s:Sem Va)(k:Va->Prop):Prop:=Xv prog C s k
abbrev xq(C:WP)(s:Sem Next)(k:Va->Prop):Prop:=Xq prog C s k
abbrev bZ(n:FuncId):Prop:=∀{args:AV}{w:Wd}{k Q:VK}{e E:EK},Calls prog n args w (aZ Q E)->(∀v w',Q v w'->k v w')->(∀c w',E c w'->e c w')->Cf prog n args w k e
set_option maxRecDepth 100000 in
theorem bZ.mk{n:FuncId}{fn:Func}{c:Code}(h1:prog.funcs[n]?=some fn)(h2:fn.body=some c)(h3:(fn.name== "runtime.NumGoroutine")=false):bZ n:=by
 intro args w k Q e E h hk he;exact Cf.go (aH h1 h2 h3 args w) h hk he
abbrev bg(R:ER)(t:TypeId)(a:Va)(w:Wd)(k:VK):Prop:=v1 R (loadAt t a) w k
abbrev bi(R:ER)(t:TypeId)(a v:Va)(w:Wd)(k:WP):Prop:=u1 R (storeAt t a v) w k
abbrev bj(R:ER)(t:TypeId)(a:Va)(i:Nat)(w:Wd)(k:VK):Prop:=v1 R (fieldAt t a i) w k
abbrev bk(R:ER)(o:BinOp)(t:TypeId)(x y:Bool)(a b:Va)(w:Wd)(k:VK):Prop:=v1 R (Bo o t x y a b) w k
abbrev bq(R:ER)(a b c:Va)(w:Wd)(k:VK):Prop:=v1 R (Pk a b c) w k
abbrev bu(R:ER)(t:TypeId)(n:Nat)(l:Array (Nat×Va))(w:Wd)(k:VK):Prop:=v1 R (Instr.buildSlice t n l) w k
abbrev bw(R:ER)(a:Va)(n:Nat)(w:Wd)(k:VK):Prop:=v1 R (extract a n) w k
abbrev bz(R:ER)(t:TypeId)(a b:Va)(w:Wd)(k:VK):Prop:=v1 R (Instr.index t a b) w k
abbrev cb(R:ER)(t:TypeId)(a b:Va)(w:Wd)(k:VK):Prop:=v1 R (indexAt t a b) w k
abbrev ce(R:ER)(t:TypeId)(l:Array (Nat×Va))(w:Wd)(k:VK):Prop:=v1 R (Instr.build t l) w k
abbrev cg(R:ER)(o:UnOp)(a:Va)(w:Wd)(k:VK):Prop:=v1 R (Op.unary o a) w k
abbrev ci(R:ER)(t:TypeId)(a:Va)(w:Wd)(k:VK):Prop:=v1 R (box t a) w k
abbrev cj(R:ER)(a:Va)(w:Wd)(k:VK):Prop:=up R (Nc a) w k
abbrev cm(R:ER)(t:TypeId)(a:Va)(i:Nat)(w:Wd)(k:VK):Prop:=v1 R (field t a i) w k
abbrev co(R:ER)(t:TypeId)(a:Va)(w:Wd)(k:VK):Prop:=v1 R (Instr.makeInterface t a) w k
abbrev cq(R:ER)(t:TypeId)(b:Bool)(a:Va)(w:Wd)(k:VK):Prop:=v1 R (alloc t b a) w k
abbrev cr(R:ER)(t:TypeId)(a:Va)(w:Wd)(k:VK):Prop:=v1 R (len_ #[t] 3 #[a]) w k
abbrev cu(R:ER)(a:Va)(w:Wd):Prop:=R (.returned a) w
theorem cw(hd:List Nat){n:FuncId}{fn:Func}(hf:prog.funcs[n]?=some fn){l:LV}{w:Wd}{R:ER}{S:Prop}(h:S)(hb:fn.body=some (bC fn):=by kernel_rfl)(hn:Nat.ble l.length fn.ntmps=true:=by kernel_rfl)(hS:S=body prog fn.ntmps hd fn.results.toList (bC fn) l R w:=by kernel_rfl):Calls prog n l.toArray w R:=gF hd mixed hf hb (le_of_ble_eq_true hn) (cast hS h)
theorem cz(hd:List Nat){n:FuncId}{fn:Func}(hf:prog.funcs[n]?=some fn){l:LV}{w:Wd}{R:ER}{S:Prop}(h:S)(hb:fn.body=some (bC fn):=by kernel_rfl)(hn:Nat.ble l.length fn.ntmps=true:=by kernel_rfl)(hS:S=Br prog fn.ntmps hd fn.results.toList (bC fn) l R w:=by kernel_rfl):Calls prog n l.toArray w R:=uw hd mixed hf hb (le_of_ble_eq_true hn) (cast hS h)
theorem db{n:FuncId}{fn:Func}(h1:prog.funcs[n]?=some fn)(h2:fn.body=some (bC fn):=by kernel_rfl)(h3:(fn.name== "runtime.NumGoroutine")=false:=by kernel_rfl):bZ n:=bZ.mk h1 h2 h3
abbrev dc(n:FuncId)(S:(ER)->VK):Prop:=∀{R:ER}{a0:Va}{w:Wd},S R a0 w->Calls prog n #[a0] w R
abbrev dd(n:FuncId)(S:(ER)->Va->VK):Prop:=∀{R:ER}{a0 a1:Va}{w:Wd},S R a0 a1 w->Calls prog n #[a0,a1] w R
abbrev de(n:FuncId)(S:(ER)->Va->Va->VK):Prop:=∀{R:ER}{a0 a1 a2:Va}{w:Wd},S R a0 a1 a2 w->Calls prog n #[a0,a1,a2] w R
abbrev df(n:FuncId)(S:(ER)->WP):Prop:=∀{R:ER}{w:Wd},S R w->Calls prog n #[] w R
abbrev dg(n:FuncId)(S:(ER)->Va->Va->Va->VK):Prop:=∀{R:ER}{a0 a1 a2 a3:Va}{w:Wd},S R a0 a1 a2 a3 w->Calls prog n #[a0,a1,a2,a3] w R
end Go.Proofs.YtoddjlclpnoomaaGreatDoor


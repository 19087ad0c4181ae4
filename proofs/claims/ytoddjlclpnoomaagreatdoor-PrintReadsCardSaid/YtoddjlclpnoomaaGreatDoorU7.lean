import Derived.Test.YtoddjlclpnoomaaGreatDoorU6
set_option linter.unusedVariables false
set_option linter.unusedSimpArgs false
set_option maxRecDepth 100000
open Go.Proofs.Tryz
open Nat (le_trans)
namespace Go.Proofs.YtoddjlclpnoomaaGreatDoor
open Go.Sh
set_option maxRecDepth 100000
structure GL(w:Wd):Prop where
 wo:12<=w.heap.size
 sd:∃m,w.cell? ⟨3,0,none⟩=some (.int .i64 m)
 BC:Lib.TabIs prog w "strings.asciiSpace" .u8 Lib.asciiSpaceTab
 pow:Lib.TabIs prog w "internal/strconv.uint64pow10" .u64 Lib.pow10Tab
 Oi:Lib.Utf8Tabs 7 8 w
 sf:∃a,w.var? prog "strconv.ErrRange"=some #[.iface 272 (.pointer (some a))]/\w.cell? ⟨4,0,none⟩=some (.iface 272 (.pointer (some a)))
 BD:w.cell? ⟨0,0,none⟩=some (.iface 128 (.agg #[.pointer (some ⟨12,31,none⟩)]))
theorem mB{M:List Nat}{w w':Wd}{name:String}{g:Nat}{v:Option (AV)}(h:w.var? prog name=v)(hg:prog.globalNamed name=some g)(hk:aD M w w')(bO:g<w.heap.size)(hM:g∉M):w'.var? prog name=v:=by
 unfold World.var? at*;rw[hg]at h⊢;simp only[Option.bind_some]at h⊢;rw[hk.same g bO hM];exact h
theorem GL.aA{M:List Nat}{w w':Wd}(h:GL w)(hk:aD M w w')(hM:∀i∈M,12<=i):GL w':=by
 have hb:=h.wo;have n:∀g,g<12->g∉M:=λg hg hm=>by have:=hM g hm;omega
 refine⟨le_trans hb hk.size,?_,?_,?_,?_,?_,hk.cell h.BD (n 0 aj)⟩
 .obtain⟨m,hm⟩:=h.sd;exact⟨m,hk.cell hm (n 3 aj)⟩
 .exact mB (g:=1) h.BC ai hk aj (n 1 aj)
 .exact mB (g:=5) h.pow ai hk aj (n 5 aj)
 .exact⟨λc hc=>hk.cell (h.Oi.1 c hc) (n 7 aj),λi hi=>⟨hk.cell (h.Oi.2 i hi).1 (n 8 aj),hk.cell (h.Oi.2 i hi).2 (n 8 aj)⟩⟩
 .obtain⟨a,h1,h2⟩:=h.sf;exact⟨a,mB (g:=4) h1 ai hk aj (n 4 aj),hk.cell h2 (n 4 aj)⟩
theorem GL.new{w w':Wd}(h:GL w)(hk:aD [] w w'):GL w':=h.aA hk ak
theorem J1.gd{b c:Bool}{X:(VK)->Prop}{g:VK}{w:Wd}(r:Bool)(hX:b=c->∀k:VK,k (.bool r) w->X k)(hg:g (if b=c then .bool r else undef) w):
  J1 (λk=>Gd (.bool b) c (X k) (k undef w)) g:=by
 refine J1.go (Gd.b (λh=>hX h g ?_) (λh=>?_))
 .rw[if_pos h]at hg;exact hg
 .rw[if_neg (by rw[h];cases c<;>simp)]at hg;exact hg
theorem fP(w:Wd)(b r:Bool):(Pk (.bool b) (if b=true then .bool r else undef) (.bool false)).run prog w=.ok (.bool (b&&r)) w:=by cases b<;>simp[go_sem]
theorem fm(w:Wd)(b r:Bool):(Pk (.bool b) (.bool true) (if b=false then .bool r else undef)).run prog w=.ok (.bool (b||r)) w:=by cases b<;>simp[go_sem]
theorem uA{K:FuncId}{a:AV}{w:Wd}{u:Va}(h:Calls prog K a w λe w'=>e=.returned u/\w'=w):Calls prog K a w (aZ (λv w'=>v=u/\w'=w) NP):=
 h.mono (by rintro e w' ⟨rfl,rfl⟩;exact⟨rfl,rfl⟩)
theorem Qc{args:AV}{w:Wd}{k Q:VK}{e E:EK}(h:Calls prog 52 args w (aZ Q E))(hk:∀v w',Q v w'->k v w')(he:∀c w',E c w'->e c w'):Cf prog 52 args w k e:=
 Cf.go (aH func52 (c:=bC f52) ai ai _ _) h hk he
theorem H6{args:AV}{w:Wd}{k Q:VK}{e E:EK}(h:Calls prog 53 args w (aZ Q E))(hk:∀v w',Q v w'->k v w')(he:∀c w',E c w'->e c w'):Cf prog 53 args w k e:=
 Cf.go (aH func53 (c:=bC f53) ai ai _ _) h hk he
theorem H7{args:AV}{w:Wd}{k Q:VK}{e E:EK}(h:Calls prog 56 args w (aZ Q E))(hk:∀v w',Q v w'->k v w')(he:∀c w',E c w'->e c w'):Cf prog 56 args w k e:=
 Cf.go (aH func56 (c:=bC f56) ai ai _ _) h hk he
theorem zS{args:AV}{w:Wd}{k Q:VK}{e E:EK}(h:Calls prog 92 args w (aZ Q E))(hk:∀v w',Q v w'->k v w')(he:∀c w',E c w'->e c w'):Cf prog 92 args w k e:=
 Cf.go (aH func92 (c:=bC f92) ai ai _ _) h hk he
theorem H8{args:AV}{w:Wd}{k Q:VK}{e E:EK}(h:Calls prog 149 args w (aZ Q E))(hk:∀v w',Q v w'->k v w')(he:∀c w',E c w'->e c w'):Cf prog 149 args w k e:=
 Cf.go (aH func149 (c:=bC f149) ai ai _ _) h hk he
theorem H9{args:AV}{w:Wd}{k Q:VK}{e E:EK}(h:Calls prog 164 args w (aZ Q E))(hk:∀v w',Q v w'->k v w')(he:∀c w',E c w'->e c w'):Cf prog 164 args w k e:=
 Cf.go (aH func164 (c:=bC f164) ai ai _ _) h hk he
theorem Ia{args:AV}{w:Wd}{k Q:VK}{e E:EK}(h:Calls prog 189 args w (aZ Q E))(hk:∀v w',Q v w'->k v w')(he:∀c w',E c w'->e c w'):Cf prog 189 args w k e:=
 Cf.go (aH func189 (c:=bC f189) ai ai _ _) h hk he
theorem BE{args:AV}{w:Wd}{k Q:VK}{e E:EK}(h:Calls prog 190 args w (aZ Q E))(hk:∀v w',Q v w'->k v w')(he:∀c w',E c w'->e c w'):Cf prog 190 args w k e:=
 Cf.go (aH func190 (c:=bC f190) ai ai _ _) h hk he
theorem Ib{args:AV}{w:Wd}{k Q:VK}{e E:EK}(h:Calls prog 192 args w (aZ Q E))(hk:∀v w',Q v w'->k v w')(he:∀c w',E c w'->e c w'):Cf prog 192 args w k e:=
 Cf.go (aH func192 (c:=bC f192) ai ai _ _) h hk he
theorem Ic{args:AV}{w:Wd}{k Q:VK}{e E:EK}(h:Calls prog 193 args w (aZ Q E))(hk:∀v w',Q v w'->k v w')(he:∀c w',E c w'->e c w'):Cf prog 193 args w k e:=
 Cf.go (aH func193 (c:=bC f193) ai ai _ _) h hk he
theorem Ie{args:AV}{w:Wd}{k Q:VK}{e E:EK}(h:Calls prog 206 args w (aZ Q E))(hk:∀v w',Q v w'->k v w')(he:∀c w',E c w'->e c w'):Cf prog 206 args w k e:=
 Cf.go (aH func206 (c:=bC Tryz.f206) ai ai _ _) h hk he
variable (w:Wd)
theorem c53(l:By)(c:UInt8):Calls prog 53 #[str l,.int .u8 c.toNat] w (aZ (λv w'=>v=.int .i64 (Lib.indexByte l c)/\w'=w) NP):=by
 have:=uA (strings_IndexByte ⟨l.toArray⟩ c.toNat w);simpa[str]using this
theorem YW(l p:By):Calls prog 52 #[str l,str p] w (aZ (λv w'=>v=.bool (Lib.hasPrefix l p)/\w'=w) NP):=by
 have:=uA (strings_HasPrefix ⟨l.toArray⟩ ⟨p.toArray⟩ w);simpa[str]using this
theorem Qd(l p:By):Calls prog 189 #[str l,str p] w (aZ (λv w'=>v=str (Lib.trimPrefix l p)/\w'=w) NP):=by
 have:=uA (strings_TrimPrefix ⟨l.toArray⟩ ⟨p.toArray⟩ w);simpa[str]using this
theorem Qe(l p:By):Calls prog 192 #[str l,str p] w (aZ (λv w'=>v=.tuple #[str (Lib.trimPrefix l p),.bool (Lib.hasPrefix l p)]/\w'=w) NP):=by
 have:=uA (strings_CutPrefix ⟨l.toArray⟩ ⟨p.toArray⟩ w);simpa[str]using this
theorem c193(l p:By)(hl:l.length<=9223372036854775807):Calls prog 193 #[str l,str p] w (aZ (λv w'=>v=.tuple #[str (Lib.trimSuffix l p),.bool (Lib.hasSuffix l p)]/\w'=w) NP):=by
 have:=uA (strings_CutSuffix ⟨l.toArray⟩ ⟨p.toArray⟩ w hl);simpa[str]using this
theorem Oj(l p:By)(g:GL w)(hl:l.length<4294967281):Calls prog 92 #[str l,str p] w (aZ (λv w'=>v=.bool (Lib.contains l p)/\w'=w) NP):=by
 obtain⟨m,hm⟩:=g.sd;have:=uA (strings_Contains ⟨l.toArray⟩ ⟨p.toArray⟩ m w hl hm);simpa[str]using this
theorem qu:∀(n:Nat) (w:Wd),(w.drewN (n+1)).os=w.os
 |0,w=>rfl
 |n+1,w=>qu n w.drew
theorem nK:∀(n:Nat) (w:Wd),(w.drewN (n+1)).output=w.output
 |0,w=>rfl
 |n+1,w=>nK n w.drew
theorem mC:∀(n:Nat) (w:Wd),aD [] w (w.drewN n)
 |0,w=>aD.refl _ _
 |n+1,w=>⟨by simp,λb _ _=>by simp,qu n w,nK n w⟩
theorem Qf(l p:By)(g:GL w)(hl:l.length<4294967281):Calls prog 149 #[str l,str p] w (aZ (λv w'=>v=.tuple #[str (Lib.cut l p).1,str (Lib.cut l p).2.1,.bool (Lib.cut l p).2.2]/\aD [] w w') NP):=by
 obtain⟨m,hm⟩:=g.sd;refine(strings_Cut ⟨l.toArray⟩ ⟨p.toArray⟩ m w hl hm).mono ?_;rintro e w' ⟨rfl,n,rfl⟩;exact⟨by simp[str],mC n w⟩
theorem mD{w w':Wd}(h:RowKit.Below w.heap.size w w'):aD [] w w':=⟨h.size,λb hb _=>h.block b hb,h.os,h.output⟩
theorem c164(n:Int)(g:GL w)(h0:-9223372036854775808<=n)(h1:n<=9223372036854775807):Calls prog 164 #[.int .i64 n,.int .i64 10] w (aZ (λv w'=>v=str (Lib.itoa n)/\aD [] w w') NP):=by
 refine(strconv_FormatInt_10 n h0 h1 w g.pow).mono ?_;rintro e w' ⟨rfl,k,os,rfl⟩;refine⟨rfl,?_⟩;exact(mC k w).trans ⟨by simp[«Sort».grow],λb hb _=>by rw[show(«Sort».grow (w.drewN k) os).heap=(w.drewN k).heap++os from rfl,Array.getElem?_append_left hb],rfl,rfl⟩
theorem c206(l:By)(g:GL w)(hl:l.length<=9223372036854775807):Calls prog 206 #[str l] w (aZ (λv w'=>v=.tuple #[.int .i32 (Lib.decodeLastL l).1,.int .i64 (Lib.decodeLastL l).2]/\aD [] w w') NP):=by
 refine(utf8_DecodeLastRuneInString ⟨l.toArray⟩ w hl g.Oi).mono ?_;rintro e w' ⟨rfl,h⟩;exact⟨rfl,mD h⟩
theorem Wh(l:By)(g:GL w)(hl:l.length<4294967281)(ha:∀b∈l,b.toNat<128):
  Calls prog 56 #[str l] w (aZ (λv w'=>∃b,v=.slice (some ⟨b,0,none⟩) (Lib.fields l).length (Lib.fields l).length/\nH w b ((Lib.fields l).map str) w') NP):=by
 refine(strings_Fields ⟨l.toArray⟩ w hl (λj b hb=>ha b (List.mem_of_getElem? hb)) g.BC).mono ?_;rintro e w' ⟨rfl,rfl⟩;exact⟨_,rfl,nH.mk' w ((Lib.fields l).map str).toArray 9⟩
theorem zT(s:By)(hl:s.length<=281474976710656)(v:Int)(h:Lib.parseIntB 64 s=.ok v):Calls prog 190 #[str s,.int .i64 10,.int .i64 64] w (aZ (λu w'=>u=.tuple #[.int .i64 v,.nilIface]/\aD [] w w') NP):=by
 refine(strconv_ParseInt_10_at64_ok ⟨s.toArray⟩ (by show s.length<=_;omega) v h w).mono ?_;rintro e w' ⟨rfl,rfl|⟨t,rfl⟩⟩
 .exact⟨rfl,aD.refl _ _⟩
 .refine⟨rfl,?_⟩;exact⟨by rw[Lib.bytesWorld_size];omega,λb hb _=>Lib.bytesWorld_at_old w _ _ b hb,rfl,rfl⟩
theorem sg(s:By)(g:GL w)(hl:s.length<=281474976710656)(h:Lib.parseIntB 64 s=.range):Calls prog 190 #[str s,.int .i64 10,.int .i64 64] w (aZ (λu w'=>∃v N a,u=.tuple #[.int .i64 v,.iface 256 (ptr N)]/\At w' N [str [80,97,114,115,101,73,110,116],str s,.iface 272 (.pointer (some a))]/\w.heap.size<=N/\w.cell? ⟨4,0,none⟩=some (.iface 272 (.pointer (some a)))/\aD [] w w') NP):=by
 obtain⟨a,h1,h2⟩:=g.sf;refine(strconv_ParseInt_10_at64_range_var ⟨s.toArray⟩ hl h 272 _ w h1).mono ?_;rintro e w' ⟨N,rfl,h3,h4,h5⟩;exact⟨_,N,a,rfl,⟨266,h4⟩,h3,h2,mD h5⟩
end Go.Proofs.YtoddjlclpnoomaaGreatDoor


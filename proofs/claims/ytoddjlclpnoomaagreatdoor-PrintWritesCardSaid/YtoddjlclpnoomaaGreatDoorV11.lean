import Derived.Lib.AppendStr
import Derived.Lib.BufferRead
import Derived.Lib.Builder
import Derived.Lib.SlBytesRow
import Derived.Lib.UnsafeStr
import Derived.Test.YtoddjlclpnoomaaGreatDoorV10
set_option linter.unusedVariables false
set_option linter.unusedSimpArgs false
set_option maxRecDepth 100000
open Go.Proofs.Tryz
open Go.Instr (sliceAt extract)
open List (mem_cons_of_mem mem_cons mem_filter mem_range getElem?_eq_getElem toList_toArray isPrefixOf length_append)
open Nat (lt_or_ge le_refl le_trans)
open Go.Builtin (append_ len_)
open Go.Value (cells int)
open Bool (or_eq_false_iff)
open Option (map_eq_some_iff mem_toList mem_def)
open Go.World (cell?)
namespace Go.Proofs.YtoddjlclpnoomaaGreatDoor
open Go.Sh
def dS(lo:Nat)(w:Wd)(v:Va)(ss:By):Prop:=
 w.ownsRow 0 5 1 v ss.length (ss.map λc=>.int .u8 c.toNat)/\∀g,v.ownBlock=some g->lo<=g
theorem dS.nil(lo:Nat)(w:Wd):dS lo w (.slice none 0 0) []:=⟨World.ownsRow_nil w 0 5 1,λg h=>by cases h⟩
theorem dS.lt{lo:Nat}{w:Wd}{v:Va}{ss:By}(h:dS lo w v ss){g:Nat}(hg:v.ownBlock=some g):lo<=g/\g<w.heap.size:=⟨h.2 g hg,(h.1.lt g hg).2⟩
theorem dS.fr{lo:Nat}{M:List Nat}{w w':Wd}{v:Va}{ss:By}(h:dS lo w v ss)(hk:aD M w w')(hM:∀i∈M,i<lo\/w.heap.size<=i):dS lo w' v ss:=
 ⟨ig h.1 hk λg hg Gf=>by
  have:=h.lt hg;have:=hM g Gf;omega,h.2⟩
theorem dS.f0{lo:Nat}{w w':Wd}{v:Va}{ss:By}(h:dS lo w v ss)(hk:aD [] w w'):dS lo w' v ss:=h.fr hk ak
theorem DS{lo:Nat}{w:Wd}{v:Va}{ss:By}{c:UInt8}{b n:Nat}(h:dS lo w v ss)(hb:At w b [.int .u8 c.toNat])(hn:ss.length<=n)(mI:n<=1099511627776)(eW:lo<=w.heap.size):
  ∃v' w',(append_ #[22,22] 22 #[v,.slice (some ⟨b,0,none⟩) 1 1]).run prog w=.ok v' w'/\dS lo w' v' (ss++[c])/\aD v.ownBlock.toList w w':=by
 obtain⟨v',w',hr,ho,hk,hv⟩:=gC (P:=prog) 22 22 5 ((prog.info? 5).getD default) (.int .u8 0) 1 1 ai ai ai ai ai ai aj v ss.length (ss.map λc=>.int .u8 c.toNat) h.1 ⟨b,0,none⟩ 1 1 [.int .u8 c.toNat] rfl (λj a hj=>by
  cases j with
  |zero=>simp at hj;subst hj;simpa[Addr.add]using hb.cell 0
  |succ j=>simp at hj) (by simp;rfl) (by simp only[maxLen];omega) aj
 refine⟨v',w',hr,⟨by simpa using ho,?_⟩,hk⟩;intro g hg;rcases hv with hv|⟨g',hv,Bn⟩
 .exact h.2 g (by rw[←hv,hg])
 .rw[hv]at hg;cases hg;omega
theorem dS.sl{lo:Nat}{w:Wd}{v:Va}{ss:By}(h:dS lo w v ss):∃a c,v=.slice a ss.length c:=by
 rcases h.1.2 with⟨h1,h2⟩|⟨g,cap,cur,rfl,_⟩
 .exact⟨none,0,by rw[h1,h2]⟩
 .exact⟨_,_,rfl⟩
theorem dS.str{lo:Nat}{w:Wd}{v:Va}{ss:By}(h:dS lo w v ss):(Go.convert 22 9 v).run prog w=.ok (Go.Sh.str ss) w:=by
 rcases h.1.2 with⟨h1,h2⟩|⟨g,cap,cur,rfl,hb,hg,hn,_⟩
 .have:ss=[]:=List.eq_nil_of_length_eq_zero h2;subst this;rw[h1];exact Lib.run_convert_nil_bytes w 22 9 5 0 ai ai ai
 .have hc:=h.1.cells (g:=g) rfl;exact Lib.run_convert_whole w 22 5 9 ai ai ai g 0 ⟨ss.toArray⟩ (λi hi=>by
   have IY:i<ss.length:=hi;have:=hc i (.int .u8 (ss[i].toNat:Int)) (by simp[IY]);simp only[Addr.add,Nat.zero_add]at this⊢;split at this
   .rename_i h
    obtain rfl:i=0:=by simpa using h
    exact this
   .exact this) cap
theorem gx(c:UInt8)(l:By):ny (c::l)=if c<32\/126<c\/c=34\/(c=92/\l=[])then none else(if c=92 then
      (if l.headD 0=120 then(if(c::l).length<4\/dj ((c::l).getD 2 0)<0\/dj ((c::l).getD 3 0)<0 then none else some (UInt8.ofNat ((dj ((c::l).getD 2 0)).toNat*16+(dj ((c::l).getD 3 0)).toNat),4))
       else match AU (l.headD 0)with|some v=>some (v,2)|none=>none)
    else some (c,1)):=rfl
theorem kK(c:UInt8):-1<=dj c/\dj c<=15:=by
 have:=c.toNat_lt;unfold dj;simp only[UInt8.le_iff_toNat_le,UInt8.reduceToNat];split
 .omega
 .split<;>omega
theorem orI(a b:Fin 16):bits .or .i64 ((a.val*16:Nat):Int) ((b.val:Nat):Int)=((a.val*16+b.val:Nat):Int):=by revert a b;decide
theorem UL(w:Wd)(x y:Int)(hx:0<=x/\x<=15)(hy:0<=y/\y<=15):(Bo .or 3 false false (.int .i64 (x*16)) (.int .i64 y)).run prog w=.ok (.int .i64 (x*16+y)) w:=by
 have:=orI ⟨x.toNat,by omega⟩ ⟨y.toNat,by omega⟩;have e1:((x.toNat*16:Nat):Int)=x*16:=by omega
 have e2:((y.toNat:Nat):Int)=y:=by omega
 have e3:((x.toNat*16+y.toNat:Nat):Int)=x*16+y:=by omega
 simp only[e1,e2,e3]at this;simp[go_sem,Bo,this]
theorem B2(w:Wd)(a b:Int)(ha:0<=a/\a<=15)(hb:0<=b/\b<=15):(Go.convert 3 5 (.int .i64 (a*16+b))).run prog w=.ok (.int .u8 ((UInt8.ofNat (a.toNat*16+b.toNat)).toNat:Int)) w:=by
 simp[go_sem]
 rw[IntWalk.u8_in _ aj];omega
def Gg(R:ER)(j1:Va->Va->Va->Va->VK)(a7 Gh Gi a8 a4:Va)(w:Wd):Prop:=
 V1 prog (Bo .eql 9 false true a4 (.string ⟨#[]⟩)) w (λys w=>
 If ys (
 V1 prog (len_ #[22] 3 #[a8]) w (λLY w=>
 V1 prog (Bo .gtr 3 false true LY (.int .i64 4096)) w (λLZ w=>
 If LZ (
 R (.returned (.tuple #[(.string ⟨#[]⟩),(.int .i64 3)])) w) (
 V1 prog (Go.convert 22 9 a8) w (λyt w=>
 R (.returned (.tuple #[yt,(.int .i64 0)])) w) (pn R))) (pn R)) (pn R)) (
 V1 prog (Instr.index 9 a4 (.int .i64 0)) w (λnG w=>
 J4 (λpX=>
 V1 prog (Bo .lss 5 false true nG (.int .u8 32)) w (λDT w=>
 J1 (λrL=>
 Gd DT false (V1 prog (Bo .gtr 5 false true nG (.int .u8 126)) w (λMa w=>
 rL Ma w) (pn R)) (rL undef w)) (λMb w=>
 V1 prog (Pk DT (.bool true) Mb) w (λDU w=>
 J1 (λDD=>
 Gd DU false (V1 prog (Bo .eql 5 false true nG (.int .u8 34)) w (λMc w=>
 DD Mc w) (pn R)) (DD undef w)) (λMe w=>
 V1 prog (Pk DU (.bool true) Me) w (λyu w=>
 J1 (λKx=>
 Gd yu false (V1 prog (Bo .eql 5 false true nG (.int .u8 92)) w (λMf w=>
 Kx Mf w) (pn R)) (Kx undef w)) (λDV w=>
 J1 (λKy=>
 Gd DV true (V1 prog (len_ #[9] 3 #[a4]) w (λMg w=>
 V1 prog (Bo .lss 3 false true Mg (.int .i64 2)) w (λMh w=>
 Ky Mh w) (pn R)) (pn R)) (Ky undef w)) (λMi w=>
 J1 (λKz=>
 Gd yu false (V1 prog (Pk DV Mi (.bool false)) w (λMj w=>
 Kz Mj w) (pn R)) (Kz undef w)) (λMk w=>
 V1 prog (Pk yu (.bool true) Mk) w (λMl w=>
 If Ml (
 R (.returned (.tuple #[(.string ⟨#[]⟩),(.int .i64 4)])) w) (
 V1 prog (Bo .eql 5 false true nG (.int .u8 92)) w (λDW w=>
 J1 (λKA=>
 Gd DW true (V1 prog (Instr.index 9 a4 (.int .i64 1)) w (λMm w=>
 V1 prog (Bo .eql 5 false true Mm (.int .u8 120)) w (λMn w=>
 KA Mn w) (pn R)) (pn R)) (KA undef w)) (λMo w=>
 V1 prog (Pk DW Mo (.bool false)) w (λMp w=>
 If Mp (
 V1 prog (len_ #[9] 3 #[a4]) w (λMq w=>
 V1 prog (Bo .lss 3 false true Mq (.int .i64 4)) w (λDX w=>
 J1 (λKB=>
 Gd DX false (V1 prog (Instr.index 9 a4 (.int .i64 2)) w (λMr w=>
 V1 prog (Go.convert 5 21 Mr) w (λMs w=>
 Cf prog 195 #[Ms] w (λMt w=>
 V1 prog (Bo .lss 3 false true Mt (.int .i64 0)) w (λMu w=>
 KB Mu w) (pn R)) (pn R)) (pn R)) (pn R)) (KB undef w)) (λMv w=>
 V1 prog (Pk DX (.bool true) Mv) w (λDY w=>
 J1 (λKC=>
 Gd DY false (V1 prog (Instr.index 9 a4 (.int .i64 3)) w (λMw w=>
 V1 prog (Go.convert 5 21 Mw) w (λMx w=>
 Cf prog 195 #[Mx] w (λMy w=>
 V1 prog (Bo .lss 3 false true My (.int .i64 0)) w (λMz w=>
 KC Mz w) (pn R)) (pn R)) (pn R)) (pn R)) (KC undef w)) (λMA w=>
 V1 prog (Pk DY (.bool true) MA) w (λMB w=>
 If MB (
 R (.returned (.tuple #[(.string ⟨#[]⟩),(.int .i64 4)])) w) (
 ∃C2:WP,C2 w.drew/\
 Xv prog C2 (Instr.index 9 a4 (.int .i64 2)) λMD=>Xv prog C2 (Go.convert 5 21 MD) λME=>Xq prog C2 (callFunc 195 #[ME]) λMF=>Xv prog C2 (Bo .shl 3 false true MF (.int .u64 4)) λMH=>Xv prog C2 (Instr.index 9 a4 (.int .i64 3)) λMI=>Xv prog C2 (Go.convert 5 21 MI) λMJ=>Xq prog C2 (callFunc 195 #[MJ]) λMK=>Xv prog C2 (Bo .or 3 false false MH MK) λML=>Xv prog C2 (Go.convert 3 5 ML) λMM=>∀w,C2 w->pX MM Gh Gi (.int .i64 4) w)) (pn R))) (pn R))) (pn R)) (pn R)) (
 V1 prog (Bo .eql 5 false true nG (.int .u8 92)) w (λMN w=>
 If MN (
 V1 prog (Instr.index 9 a4 (.int .i64 1)) w (λMO w=>
 V1 prog (Instr.lookup 215 a7 MO true) w (λyv w=>
 V1 prog (extract yv 0) w (λGj w=>
 V1 prog (extract yv 1) w (λGk w=>
 V1 prog (Op.unary .not Gk) w (λGl w=>
 If Gl (
 R (.returned (.tuple #[(.string ⟨#[]⟩),(.int .i64 4)])) w) (
 pX Gj Gh Gi (.int .i64 2) w)) (pn R)) (pn R)) (pn R)) (pn R)) (pn R)) (
 pX nG Gh Gi (.int .i64 1) w)) (pn R))) (pn R))) (pn R))) (pn R))))) (pn R))) (pn R))) (pn R)) (λUM UN UO MP w=>
 V1 prog (Instr.buildSlice 22 1 #[(0,UM)]) w (λGm w=>
 V1 prog (append_ #[22,22] 22 #[a8,Gm]) w (λGn w=>
 V1 prog (sliceAt 9 a4 (some MP) none none) w (λGp w=>
 j1 a7 UN UO Gn Gp w) (pn R)) (pn R)) (pn R))) (pn R))) (pn R)
theorem UP{R:ER}{j1:Va->Va->Va->Va->VK}{x y:Va}{bm lo:Nat}{v:Va}{s acc:By}{w w0:Wd}{n:Nat}
   (hm:gR w bm) (ha:dS lo w v acc) (eW:lo<=w.heap.size) (vw:bm<lo) (hl:acc.length+s.length<=65536) (hn:s.length<n) (k0:aD [] w0 w) (h0:w0.heap.size<=lo)
   (jL:∀w',aD [] w0 w'->R (.returned (.tuple #[str (match(eI n s).map (acc++·)with|none=>([],(4:Int))|some b=>if 4096<b.length then([],3)else(b,0)).1,.int .i64 (match(eI n s).map (acc++·)with|none=>(([]:By),(4:Int))|some b=>if 4096<b.length then([],3)else(b,0)).2])) w')
   (hj:∀(v':Va) (s' kL:By) (w':Wd) (m:Nat),gR w' bm->dS lo w' v' kL->lo<=w'.heap.size->kL.length+s'.length<=65536->s'.length<m->m<n->aD [] w0 w'->(eI m s').map (kL++·)=(eI n s).map (acc++·)->j1 (.map (some bm)) x y v' (str s') w'):
   Gg R j1 (.map (some bm)) x y v (str s) w:=by
 unfold Gg;obtain⟨n,rfl⟩:∃k,n=k+1:=⟨n-1,by omega⟩;rcases s with _|⟨c,l⟩
 . refine V1.i ah ?_;refine If.t ?_;obtain⟨a,cp,rfl⟩:=ha.sl;have e:(eI (n+1) []).map (acc++·)=some acc:=by simp[eI]
   rw[e]at jL;refine V1.i ah ?_;refine V1.i ah ?_;refine If.b (λh=>?_) (λh=>?_)
   . have h':4096<acc.length:=by simp at h;omega
     have:=jL w k0;simp only[if_pos h']at this;exact this
   . have h':¬4096<acc.length:=by simp at h;omega
     refine V1.i ha.str ?_;have:=jL w k0;simp only[if_neg h']at this;exact this
 refine V1.i ah ?_;refine If.f ?_;refine V1.i (dU _ (c::l) 0 ak) ?_;have nH:ny (c::l)=none->∀w',aD [] w0 w'->R (.returned (.tuple #[.string ⟨#[]⟩,.int .i64 4])) w':=by
   intro h w' k';have:=jL w' k';rw[show(eI (n+1) (c::l))=none by simp only[eI,h];simp]at this;exact this
 have Rw:=c.toNat_lt;simp only[List.getElem_cons_zero];have MQ:((c.toNat:Int)==92)=decide (c=92):=by
   by_cases h:c=92
   .subst h;rfl
   .have:¬(c.toNat:Int)=92:=λe=>h (UInt8.toNat_inj.1 al);simp[h,this]
 have UQ:(decide ((c.toNat:Int)<32)||decide (126<(c.toNat:Int))||((c.toNat:Int)==34))=decide (c<32\/126<c\/c=34):=by
   have MT:((c.toNat:Int)==34)=decide (c=34):=by
     by_cases h:c=34
     .subst h;rfl
     .have:¬(c.toNat:Int)=34:=λe=>h (UInt8.toNat_inj.1 al);simp[h,this]
   rw[MT];simp only[UInt8.lt_iff_toNat_lt,UInt8.reduceToNat,Bool.or_assoc];have a1:decide ((c.toNat:Int)<32)=decide (c.toNat<32):=by congr 1;apply propext;omega
   have a2:decide (126<(c.toNat:Int))=decide (126<c.toNat):=by congr 1;apply propext;omega
   rw[a1,a2,Bool.decide_or,Bool.decide_or]
 refine J4.cut (λv9 v2 v3 v10 w'=>∃c' k,ny (c::l)=some (c',k)/\v9=.int .u8 c'.toNat/\v10=.int .i64 k/\v2=x/\v3=y/\aD [] w w'/\k<=(c::l).length/\1<=k) ?_ ?_
 . refine V1.i (v:=.bool (decide ((c.toNat:Int)<32))) (w':=w) au ?_;refine J1.gd (decide (126<(c.toNat:Int))) (λh k hk=>?_) ?_
   .refine V1.i (v:=.bool (decide (126<(c.toNat:Int)))) (w':=w) au ?_;exact hk
   refine V1.i (fI _ _ _) ?_;refine J1.gd ((c.toNat:Int)==34) (λh k hk=>?_) ?_
   .refine V1.i (v:=.bool ((c.toNat:Int)==34)) (w':=w) au ?_;exact hk
   refine V1.i (fI _ _ _) ?_;rw[UQ];by_cases hq:c<32\/126<c\/c=34
   . have hu:ny (c::l)=none:=by
       rw[gx,if_pos (by rcases hq with h|h|h<;>simp[h])]
     simp only[hq,decide_true];refine J1.go (Gd.tf ?_);refine J1.go (Gd.u ?_);refine J1.go (Gd.tf ?_);refine V1.i ah ?_;refine If.t ?_;exact nH hu w k0
   simp only[hq,decide_false];refine J1.go (Gd.ff ?_);refine V1.i (v:=.bool (decide (c=92))) (w':=w) (by simp[go_sem,←MQ]) ?_;refine J1.gd (decide (l=[])) (λh k hk=>?_) ?_
   .refine V1.i ah ?_;refine V1.i (v:=.bool (decide (l=[]))) (w':=w) (by cases l<;>simp[go_sem];omega) ?_;exact hk
   refine J1.go (Gd.ff ?_);refine V1.i (gi _ _ _) ?_;refine V1.i ah ?_;rw[←Bool.decide_and];by_cases ji:c=92/\l=[]
   . have hu:ny (c::l)=none:=by
       rw[gx,if_pos (by simp[ji])]
     simp only[ji,and_self,decide_true];refine If.t ?_;exact nH hu w k0
   simp only[ji,decide_false];refine If.f ?_;have vz:ny (c::l)=(if c=92 then
     (if l.headD 0=120 then(if(c::l).length<4\/dj ((c::l).getD 2 0)<0\/dj ((c::l).getD 3 0)<0 then none else some (UInt8.ofNat ((dj ((c::l).getD 2 0)).toNat*16+(dj ((c::l).getD 3 0)).toNat),4))
      else match AU (l.headD 0)with|some v=>some (v,2)|none=>none)
   else some (c,1)):=by
     rw[gx,if_neg];rintro(h|h|h|h)
     .exact hq (.inl h)
     .exact hq (.inr (.inl h))
     .exact hq (.inr (.inr h))
     .exact ji h
   refine V1.i (v:=.bool (decide (c=92))) (w':=w) (by simp[go_sem,←MQ]) ?_;by_cases qp:c=92
   . subst qp;rcases l with _|⟨d,l⟩
     .exact absurd ⟨rfl,rfl⟩ ji
     rw[if_pos rfl]at vz;simp only[List.headD_cons]at vz;have oW:=d.toNat_lt;have Gq:((d.toNat:Int)==120)=decide (d=120):=by
       by_cases h:d=120
       .subst h;rfl
       .have:¬(d.toNat:Int)=120:=λe=>h (UInt8.toNat_inj.1 al);simp[h,this]
     simp only[decide_true];refine J1.go (Gd.tt ?_);refine V1.i (dU _ (92::d::l) 1 ak) ?_;simp only[List.getElem_cons_succ,List.getElem_cons_zero];refine V1.i (v:=.bool (decide (d=120))) (w':=w) (by simp[go_sem,←Gq]) ?_;refine V1.i ah ?_;by_cases Gr:d=120
     . subst Gr;simp only[if_true]at vz;simp only[decide_true];refine If.t ?_;generalize hs:(92::120::l:By)=s at*;refine V1.i ah ?_;refine V1.i (v:=.bool (decide (s.length<4))) (w':=w) (by simp[go_sem];congr 1;omega) ?_;have hx:=kK (s.getD 2 0);have hy:=kK (s.getD 3 0);refine J1.gd (decide (dj (s.getD 2 0)<0)) (λh k hk=>?_) ?_
       . have h4:¬s.length<4:=by simpa using h
         refine V1.i (dU _ s 2 aj) ?_;have e2:s[2]=s.getD 2 0:=by simp;rw[getElem?_eq_getElem aj];rfl
         rw[e2];refine V1.i (mT _ _ aj (by have:=(s.getD 2 0).toNat_lt;omega)) ?_;refine DF (BW w (s.getD 2 0)) ?_ (NP.no (e:=_));rintro _ w1 ⟨rfl,rfl⟩;refine V1.i ah ?_;exact hk
       refine V1.i (fI _ _ _) ?_;refine J1.gd (decide (dj (s.getD 3 0)<0)) (λh k hk=>?_) ?_
       . have h4:¬s.length<4:=by simp at h;omega
         refine V1.i (dU _ s 3 aj) ?_;have e2:s[3]=s.getD 3 0:=by simp;rw[getElem?_eq_getElem aj];rfl
         rw[e2];refine V1.i (mT _ _ aj (by have:=(s.getD 3 0).toNat_lt;omega)) ?_;refine DF (BW w (s.getD 3 0)) ?_ (NP.no (e:=_));rintro _ w1 ⟨rfl,rfl⟩;refine V1.i ah ?_;exact hk
       refine V1.i (fI _ _ _) ?_;by_cases hb:s.length<4\/dj (s.getD 2 0)<0\/dj (s.getD 3 0)<0
       . rw[if_pos hb]at vz;have:(decide (s.length<4)||decide (dj (s.getD 2 0)<0)||decide (dj (s.getD 3 0)<0))=true:=by simpa[or_assoc]using hb
         rw[this];exact If.t (nH vz w k0)
       . rw[if_neg hb]at vz;have:(decide (s.length<4)||decide (dj (s.getD 2 0)<0)||decide (dj (s.getD 3 0)<0))=false:=by simp only[or_eq_false_iff,decide_eq_false_iff_not];omega
         rw[this];refine If.f ?_;have h4:4<=s.length:=by omega
         have e2:s[2]=s.getD 2 0:=by simp;rw[getElem?_eq_getElem aj];rfl
         have e3:s[3]=s.getD 3 0:=by simp;rw[getElem?_eq_getElem aj];rfl
         have Z6:0<=dj (s.getD 2 0):=by omega
         have Z7:0<=dj (s.getD 3 0):=by omega
         refine⟨λw'=>w'=w.drew,rfl,?_⟩;refine Xv.i _ (λw' _=>dU w' s 2 aj) ?_;rw[e2];refine Xv.i _ (λw' _=>mT w' _ aj (by have:=(s.getD 2 0).toNat_lt;omega)) ?_;refine Xq.call (fn:=f195) (.int .i64 (dj (s.getD 2 0))) (aJ func195 (c:=bA f195) ai ai _) (λw' hw=>(BW w' _).mono ?_) ?_
         . rintro e dE h
           cases e with
           |returned v=>exact⟨by rw[h.1],by rw[h.2,hw]⟩
           |panicked c=>exact h.elim
           |outgrown=>exact h.elim
         refine Xv.i (.int .i64 (dj (s.getD 2 0)*16)) (λw' _=>by simp only[List.getD_eq_getElem?_getD]at*;simp[go_sem,Bo];rw[IntWalk.i64_in _ aj]) ?_;refine Xv.i _ (λw' _=>dU w' s 3 aj) ?_;rw[e3];refine Xv.i _ (λw' _=>mT w' _ aj (by have:=(s.getD 3 0).toNat_lt;omega)) ?_;refine Xq.call (fn:=f195) (.int .i64 (dj (s.getD 3 0))) (aJ func195 (c:=bA f195) ai ai _) (λw' hw=>(BW w' _).mono ?_) ?_
         . rintro e dE h
           cases e with
           |returned v=>exact⟨by rw[h.1],by rw[h.2,hw]⟩
           |panicked c=>exact h.elim
           |outgrown=>exact h.elim
         refine Xv.i _ (λw' _=>UL w' _ _ ⟨Z6,by omega⟩ ⟨Z7,by omega⟩) ?_;refine Xv.i _ (λw' _=>B2 w' _ _ ⟨Z6,by omega⟩ ⟨Z7,by omega⟩) ?_;rintro _ rfl;exact⟨_,4,vz,by first|rfl|trivial,by first|rfl|trivial,by first|rfl|trivial,by first|rfl|trivial,(aD.refl _ _).drew,h4,by omega⟩
     . simp only[Gr,decide_false];refine If.f ?_;simp only[Gr,if_false]at vz;refine V1.bt au ?_;refine If.t ?_;refine V1.i (dU _ (92::d::l) 1 ak) ?_;simp only[List.getElem_cons_succ,List.getElem_cons_zero];refine V1.i (hm.look d) ?_
       cases Ii:AU d with
       |none=>
         rw[Ii]at vz;refine V1.i ah ?_;refine V1.i ah ?_;refine V1.i ah ?_;refine If.t ?_;exact nH vz w k0
       |some v2=>
         rw[Ii]at vz;refine V1.i ah ?_;refine V1.i ah ?_;refine V1.i ah ?_;refine If.f ?_;exact⟨v2,2,vz,by first|rfl|trivial,by first|rfl|trivial,by first|rfl|trivial,by first|rfl|trivial,aD.refl _ _,by simp,by omega⟩
   .rw[if_neg qp]at vz;simp only[qp,decide_false];refine J1.go (Gd.ft ?_);refine V1.i ah ?_;refine If.f ?_;refine V1.i (v:=.bool (decide (c=92))) (w':=w) (by simp[go_sem,←MQ]) ?_;simp only[qp,decide_false];refine If.f ?_;exact⟨c,1,vz,by first|rfl|trivial,by first|rfl|trivial,by first|rfl|trivial,by first|rfl|trivial,aD.refl _ _,by simp,by omega⟩
 . rintro v9 v2 v3 v10 w' ⟨c',k,hu,rfl,rfl,rfl,rfl,k1,hk,ue⟩;have z1:=k1.size;refine V1.aG ah λb2 w2 N2=>?_;have DZ:=N2.ge;have D0:=N2.lt;have B3:=N2.aA.size;have a2:=N2.at_;try simp only[cells,toList_toArray]at a2
   have D2:=(ha.fr k1 ak).fr N2.aA ak;simp at hl
   obtain⟨v',w3,hr,UR,k3⟩:=DS (n:=65536) D2 a2 aj aj aj;refine V1.i hr ?_;have z3:=k3.size;have kw:aD v.ownBlock.toList w w3:=((k1.trans N2.aA).mono ak).trans k3;have fV:∀i∈v.ownBlock.toList,lo<=i:=λi hi=>by
     simp only[mem_toList,mem_def]at hi;exact(ha.lt hi).1
   have kw0:aD [] w0 w3:=k0.trans' kw (λi hi bO=>by have:=fV i hi;omega);refine V1.i (nr _ (c::l) k hk) ?_;refine hj v' _ _ w3 n (hm.aA kw (λhi=>by have:=fV _ hi;omega)) UR aj ?_ ?_ aj kw0 ?_
   .simp;omega
   .simp;simp at hn hk;omega
   .simp only[eI,hu];simp[Option.map_map,Function.comp_def]
theorem D3(m:By):Lib.trimPrefix (34::m) [34]=m/\Lib.hasPrefix (34::m) [34]=true:=by
 simp[Lib.trimPrefix,Lib.hasPrefix,isPrefixOf]
theorem yw(m:By):Lib.trimSuffix (m++[34]) [34]=m/\Lib.hasSuffix (m++[34]) [34]=true:=by
 simp[Lib.trimSuffix,Lib.hasSuffix,List.isSuffixOf,isPrefixOf]
theorem US(w:Wd)(m:By)(hl:m.length<=65000):Calls prog 150 #[str (34::(m++[34]))] w (aZ (λv w'=>v=.tuple #[str (iH m).1,.int .i64 (iH m).2]/\aD [] w w') NP):=by
 refine TA ?_;unfold Kw;have key:∀(lo bm:Nat) (v x y:Va) (s acc:By) (w1:Wd) (n:Nat) (j1:Va->Va->Va->Va->VK),gR w1 bm->dS lo w1 v acc->lo<=w1.heap.size->bm<lo->acc.length+s.length<=65536->s.length<n->aD [] w w1->w.heap.size<=lo->
   (eI n s).map (acc++·)=eI (m.length+1) m->
   (∀(v':Va) (s' kL:By) (w':Wd) (k:Nat),gR w' bm->dS lo w' v' kL->lo<=w'.heap.size->kL.length+s'.length<=65536->s'.length<k->k<n->aD [] w w'->(eI k s').map (kL++·)=(eI n s).map (acc++·)->j1 (.map (some bm)) x y v' (str s') w')->
   Gg (aZ (λv w'=>v=.tuple #[str (iH m).1,.int .i64 (iH m).2]/\aD [] w w') NP) j1 (.map (some bm)) x y v (str s) w1:=by
  intro lo bm v x y s acc w1 n j1 hm ha eW vw hl hn k0 h0 hT hj;refine UP hm ha eW vw hl hn k0 h0 ?_ hj;intro w' k';rw[hT];exact⟨rfl,k'⟩
 refine P5.g (λn a7 x y a8 a4 w'=>∃lo bm s acc,a7=.map (some bm)/\a4=str s/\gR w' bm/\dS lo w' a8 acc/\lo<=w'.heap.size/\bm<lo/\acc.length+s.length<=65536/\s.length<n/\aD [] w w'/\w.heap.size<=lo/\(eI n s).map (acc++·)=eI (m.length+1) m) ?_ ?_
 .intro K hK;refine KZ (TR w (34::(m++[34])) [34]) ?_ (NP.no (e:=_));rintro _ w1 ⟨rfl,rfl⟩;rw[(D3 _).1,(D3 _).2];refine V1.i ah ?_;refine V1.i ah ?_;refine La (c193 w1 (m++[34]) [34] al) ?_ (NP.no (e:=_));rintro _ w2 ⟨rfl,rfl⟩;rw[(yw _).1,(yw _).2];refine V1.i ah ?_;refine V1.i ah ?_;refine V1.i ah ?_;refine J1.go (Gd.ff ?_);refine V1.i ah ?_;refine V1.i ah ?_;refine If.f ?_;refine DE (c194 w2) ?_ (NP.no (e:=_));rintro _ w3 ⟨bm,rfl,nm,gb,lb,K3⟩
  refine key w3.heap.size bm (.slice none 0 0) (.string ⟨#[]⟩) (.int .i64 0) m [] w3 (m.length+1) K nm (dS.nil _ _) (le_refl _) lb al aj K3 K3.size ak ?_;intro v' s' kL w' k h1 h2 h3 h4 h5 h6 h7 h8;refine hK k _ _ _ _ _ _ ⟨w3.heap.size,bm,s',kL,rfl,rfl,h1,h2,h3,lb,h4,h5,h7,K3.size,?_⟩;rw[h8];simp
 .rintro n a7 x y a8 a4 w1 K ⟨lo,bm,s,acc,rfl,rfl,h1,h2,h3,h4,h5,h6,h7,h8,h9⟩ hK;refine key lo bm a8 x y s acc w1 n K h1 h2 h3 h4 h5 h6 h7 h8 h9 ?_;intro v' s' kL w' k g1 g2 g3 g4 g5 g6 g7 g8;exact hK k _ _ _ _ _ _ g6 ⟨lo,bm,s',kL,rfl,rfl,g1,g2,g3,h4,g4,g5,g7,h8,by rw[g8,h9]⟩
theorem UT(w:Wd)(e:Int):Calls prog 151 #[.int .i64 e] w (aZ (λv w'=>v=.iface 23 (.int .i64 (if e=4 then 14 else e))/\w'=w) NP):=by
 refine TB ?_;unfold KF;refine V1.i ah ?_;refine V1.i ah ?_;refine x8 (UG w e 4) ?_ (NP.no (e:=_));rintro _ w1 ⟨rfl,rfl⟩;refine If.b (λh=>?_) (λh=>?_)
 .refine V1.i ah ?_;exact⟨by rw[if_pos (by simpa using h)],rfl⟩
 .refine V1.i ah ?_;exact⟨by rw[if_neg (by simpa using h)],rfl⟩
structure KL(b lo:Nat)(w w':Wd):Prop where
 size:w.heap.size<=w'.heap.size
 same:∀q,q<lo->q≠b->w'.heap[q]?=w.heap[q]?
 io:w'.os=w.os/\w'.output=w.output
theorem KL.trans{b lo:Nat}{w1 w2 w3:Wd}(h:KL b lo w1 w2)(h':KL b lo w2 w3):KL b lo w1 w3:=⟨le_trans h.size h'.size,λq h1 h2=>by rw[h'.same q h1 h2,h.same q h1 h2],h'.io.1.trans h.io.1,h'.io.2.trans h.io.2⟩
theorem KL.of{b lo:Nat}{M:List Nat}{w w':Wd}(h:aD M w w')(hl:lo<=w.heap.size)(hM:∀i∈M,i=b\/lo<=i):KL b lo w w':=
 ⟨h.size,λq h1 h2=>h.same q aj (λhm=>by rcases hM q hm with h|h;exact h2 h;omega),h.io⟩
def ef(b lo:Nat)(w:Wd):List Nat:=b::(List.range w.heap.size).filter (λq=>decide (lo<=q))
theorem KL.aA{b lo:Nat}{w w':Wd}(h:KL b lo w w'):aD (ef b lo w) w w':=
 ⟨h.size,λq h1 h2=>by
  simp only[ef,mem_cons,mem_filter,mem_range,decide_eq_true_eq,not_or,not_and]at h2;exact h.same q (by have:=h2.2 h1;omega) h2.1,h.io⟩
theorem jq{b lo q:Nat}{w:Wd}(h1:q<lo)(h2:q≠b):q∉ef b lo w:=by
 simp only[ef,mem_cons,mem_filter,mem_range,decide_eq_true_eq,not_or,not_and];exact⟨h2,λ_=>by omega⟩
theorem nI{b lo q:Nat}{w:Wd}(h:q∈ef b lo w):q=b\/lo<=q:=by
 simp only[ef,mem_cons,mem_filter,mem_range,decide_eq_true_eq]at h;rcases h with h|h
 .exact .inl h
 .exact .inr h.2
theorem yx{w:Wd}{base:Nat}{e:TypeId}{size:Nat}{v:Va}{n:Nat}{xs:LV}(h:w.ownsRow 0 e size v n xs)(hb:∀g,v.ownBlock=some g->base<=g):w.ownsRow base e size v n xs:=by
 refine⟨h.1,?_⟩;rcases h.2 with h2|⟨g,cap,cur,rfl,_,h3⟩
 .exact .inl h2
 .exact .inr ⟨g,cap,cur,rfl,hb g rfl,h3⟩
theorem sg{w:Wd}{base:Nat}{e:TypeId}{size:Nat}{v:Va}{n:Nat}{xs:LV}(h:w.ownsRow base e size v n xs):w.ownsRow 0 e size v n xs/\∀g,v.ownBlock=some g->base<=g:=by
 refine⟨⟨h.1,?_⟩,?_⟩
 .rcases h.2 with h2|⟨g,cap,cur,rfl,_,h3⟩
  .exact .inl h2
  .exact .inr ⟨g,cap,cur,rfl,Nat.zero_le _,h3⟩
 .intro g hg;rcases h.2 with⟨rfl,_⟩|⟨g',cap,cur,rfl,h3,_⟩
  .cases hg
  .cases hg;exact h3
theorem yy{lo:Nat}{w:Wd}{v:Va}{ss:By}(h:dS lo w v ss)(hv:v=.slice none 0 0\/ss≠[])(s:By)(hn:ss.length+s.length<=1099511627776)(eW:lo<=w.heap.size):
  ∃v' w',(append_ #[22,9] 22 #[v,str s]).run prog w=.ok v' w'/\dS lo w' v' (ss++s)/\(v'=.slice none 0 0\/ss++s≠[])/\aD v.ownBlock.toList w w'/\(∀g,v'.ownBlock=some g->v.ownBlock=some g\/w.heap.size<=g):=by
 obtain⟨v',w',hr,ho,hg,UU⟩:=Lib.run_append_own_string (P:=prog) w lo 22 9 22 5 ((prog.info? 5).getD default) ai ai ai ai ai ai v ss.length (ss.map λc=>.int .u8 c.toNat) (yx h.1 h.2) ⟨s.toArray⟩ (by show ss.length+s.length<=_;simp only[maxLen];omega) (by show ss.length+s.length<=_;omega) eW;obtain⟨UW,KT⟩:=sg ho;have hold:∀g,v'.ownBlock=some g->v.ownBlock=some g\/w.heap.size<=g:=by
  rcases h.1.2 with⟨h1,h2⟩|⟨g,cap,cur,rfl,ZF,Rr,ZG,ZH,jn,oZ⟩
  .obtain⟨v2,w2,gO,fj,_,_⟩:=Lib.run_append_own_string (P:=prog) w w.heap.size 22 9 22 5 ((prog.info? 5).getD default) ai ai ai ai ai ai v ss.length (ss.map λc=>.int .u8 c.toNat) ⟨by simp,.inl ⟨h1,h2⟩⟩ ⟨s.toArray⟩ (by show ss.length+s.length<=_;simp only[maxLen];omega) (by show ss.length+s.length<=_;omega) (le_refl _);rw[hr]at gO;injection gO with e1 e2;subst e1;subst e2
   exact λg hg=>.inr ((sg fj).2 g hg)
  .by_cases vn:ss.length+s.length<=cap
   .have gO:=Lib.run_append_room_string (P:=prog) w 22 9 22 5 ((prog.info? 5).getD default) ai ai ai ai g ss.length cap cur Rr ⟨s.toArray⟩ (by exact vn) (by show ss.length+s.length<=cur.size;omega);rw[hr]at gO;injection gO with e1 e2;subst e1;exact λg' rE=>.inl rE
   .have holds:∀(j:Nat) (u:Va),(ss.map λc=>int .u8 c.toNat)[j]?=some u->w.cell? ((⟨g,0,none⟩:Addr).add j)=some u:=h.1.cells (g:=g) rfl;have gO:=Lib.run_append_grow_string (P:=prog) w 22 9 22 5 ((prog.info? 5).getD default) (.int .u8 0) ai ai ai ai ⟨g,0,none⟩ ss.length cap (ss.map λc=>.int .u8 c.toNat) (by rw[show((prog.info? 5).getD default).size=1 by kernel_rfl,List.length_map,Nat.mul_one]) holds ⟨s.toArray⟩ (by show cap<ss.length+s.length;omega) (by show((ss.length+s.length:Nat):Int)<=_;omega) (growslice_fits (by show cap<ss.length+s.length;omega) (by show(ss.length+s.length)*_<=_;rw[show((prog.info? 5).getD default).bytes=1 by kernel_rfl];omega));rw[hr]at gO;injection gO with e1 e2;subst e1
    exact λg' rE=>by cases rE;exact .inr (le_refl _)
 refine⟨v',w',hr,⟨?_,KT⟩,?_,aD.grown hg,hold⟩
 .have e:(ss++s).length=ss.length+(⟨s.toArray⟩:ByteArray).size:=by rw[length_append];rfl
  have e2:(ss++s).map (λc=>int .u8 c.toNat)=ss.map (λc=>int .u8 c.toNat)++Lib.strCells ⟨s.toArray⟩:=by simp[Lib.strCells]
  rw[e,e2];exact UW
 .by_cases aI:ss++s=[]
  .left
   obtain⟨h1,h2⟩:=List.append_eq_nil_iff.1 aI;subst h1;subst h2
   rcases hv with hv|hv
   .exact UU.2 ⟨hv,rfl⟩
   .exact absurd rfl hv
  .exact .inr aI
def BX(lo:Nat)(w:Wd)(b:Nat)(rest:LV)(buf:By):Prop:=
 ∃ad v,At w b (ad::v::rest)/\((ad=.pointer none/\∃e n,w.shape? b=some (e,n)/\((e=54/\n=2)\/(e=56/\n=3)))\/ad=ptr b)/\dS lo w v buf/\(v=.slice none 0 0\/buf≠[])/\b<lo/\lo<=w.heap.size
theorem Gs(w:Wd)(a:Addr):(callFunc 173 #[.pointer (some a)]).run prog w=.ok (.value (.pointer (some a))) w:=ai
theorem MU(w:Wd)(a:Addr):(Bo .neq 52 false false (.pointer (some a)) (.pointer (some a))).run prog w=.ok (.bool false) w:=by
 obtain⟨j,hj,-⟩:=map_eq_some_iff.1 (show(prog.info? 54).map (·.size)=some 2 by kernel_rfl);have:=Lib.run_neq_ptr_same (P:=prog) w a (show prog.underlying 52=some (.pointer 54)by kernel_rfl) hj;simp[Bo,go_sem,this]
def BX1(lo:Nat)(w:Wd)(b:Nat)(rest:LV)(buf:By):Prop:=
 ∃v,At w b (ptr b::v::rest)/\dS lo w v buf/\(v=.slice none 0 0\/buf≠[])/\b<lo/\lo<=w.heap.size
theorem D4{w:Wd}{b:Nat}{rest:LV}{ad v:Va}(ab:At w b (ad::v::rest))(uo:(ad=.pointer none/\∃e n,w.shape? b=some (e,n)/\((e=54/\n=2)\/(e=56/\n=3)))\/ad=ptr b):
  Calls prog 119 #[ptr b] w (aZ (λ_ w'=>At w' b (ptr b::v::rest)/\aD [b] w w') NP):=by
 refine Tq ?_;unfold Km;unfold ptr at*;refine Up.i (Nc.p _ _) ?_;refine V1.i ah ?_;refine V1.load (aC rfl) (ab) rfl ?_;rcases uo with⟨rfl,e,n,si,DP⟩|rfl
 .refine V1.i ah ?_;refine If.t ?_;have UX:0<n:=by rcases DP with⟨_,h⟩|⟨_,h⟩<;>omega
  obtain⟨j,hj,Z4⟩:=map_eq_some_iff.1 (show(prog.info? 54).map (·.size)=some 2 by kernel_rfl);have Z8:prog.underlying 52=some (.pointer 54):=ai
  have MV:prog.underlying 146=some .unsafePointer:=ai
  have MW:liesAt prog prog.depth e (n/prog.cellsOf e) 0 54 1=true:=by
   rcases DP with⟨rfl,rfl⟩|⟨rfl,rfl⟩
   .kernel_rfl
   .kernel_rfl
  refine V1.i (Lib.run_to_unsafe (P:=prog) w ⟨b,0,none⟩ Z8 MV hj (by rw[Z4];decide) si UX) ?_;refine Up.i (Gs w _) ?_;refine V1.i (Lib.run_from_unsafe (P:=prog) w ⟨b,0,none⟩ MV Z8 hj si MW) ?_;refine Up.i (Nc.p _ _) ?_;refine V1.i ah ?_;refine U1.store (aH rfl rfl) (ab) ak λw1 U1=>?_;exact⟨U1.at_,U1.aA⟩
 .refine V1.i ah ?_;refine If.f ?_;refine Up.i (Nc.p _ _) ?_;refine V1.i ah ?_;refine V1.load (aC rfl) (ab) rfl ?_;refine V1.i (MU w _) ?_;refine If.f ?_;exact⟨ab,aD.refl _ _⟩
theorem c119{lo:Nat}{w:Wd}{b:Nat}{rest:LV}{buf:By}(h:BX lo w b rest buf):
  Calls prog 119 #[ptr b] w (aZ (λ_ w'=>BX1 lo w' b rest buf/\KL b lo w w') NP):=by
 obtain⟨ad,v,ab,uo,hv,aI,hb,eW⟩:=h;refine aZ.sf (D4 ab uo) ?_ (NP.no (e:=_));rintro _ w' ⟨h1,hk⟩;have z:=hk.size;exact⟨⟨v,h1,hv.fr hk al,aI,hb,by omega⟩,KL.of hk eW ak⟩
def KO(b:Nat)(w w':Wd):Prop:=w.heap.size<=w'.heap.size/\∀ad v rest,At w b (ad::v::rest)->aD (b::v.ownBlock.toList) w w'/\∀tE v' gf,At w' b (tE::v'::gf)->∀g,v'.ownBlock=some g->v.ownBlock=some g\/w.heap.size<=g
theorem iK{w:Wd}{b:Nat}{c c':LV}(h:At w b c)(h':At w b c'):c=c':=by
 obtain⟨T,h⟩:=h;obtain⟨T',h'⟩:=h';rw[h]at h';injection h' with h';injection h' with h1;simpa using h1
theorem KO.of{b:Nat}{w w':Wd}{ad v:Va}{rest:LV}(ab:At w b (ad::v::rest))(hk:aD (b::v.ownBlock.toList) w w')
  (ho:∀tE v' gf,At w' b (tE::v'::gf)->∀g,v'.ownBlock=some g->v.ownBlock=some g\/w.heap.size<=g):KO b w w':=by
 refine⟨hk.size,λRx v2 vA h=>?_⟩;have:=iK ab h;injection this with h1 h2;injection h2 with h2 h3;subst h1;subst h2;subst h3
 exact⟨hk,ho⟩
theorem KO.trans{b:Nat}{w1 w2 w3:Wd}(h:KO b w1 w2)(h':KO b w2 w3)(h2:∃ad v rest,At w2 b (ad::v::rest)):KO b w1 w3:=by
 refine⟨le_trans h.1 h'.1,λad v rest wE=>?_⟩;obtain⟨k1,o1⟩:=h.2 ad v rest wE;obtain⟨Rx,v2,vA,yz⟩:=h2;obtain⟨k2,o2⟩:=h'.2 Rx v2 vA yz;have z:=h.1;refine⟨⟨le_trans h.1 h'.1,λq hq hm=>?_,k2.io.1.trans k1.io.1,k2.io.2.trans k1.io.2⟩,?_⟩
 .rw[k2.same q aj ?_,k1.same q hq hm];intro oH;simp only[mem_cons,mem_toList,mem_def]at oH hm;rcases oH with oH|oH
  .exact hm (.inl oH)
  .rcases o1 Rx v2 vA yz q oH with h|h
   .exact hm (.inr h)
   .omega
 .intro tE v' gf h3 g hg;rcases o2 tE v' gf h3 g hg with h|h
  .exact o1 Rx v2 vA yz g h
  .exact .inr aj
theorem KO.refl(b:Nat)(w:Wd):KO b w w:=by
 refine⟨le_refl _,λad v rest wE=>⟨aD.refl _ _,λtE v' gf h g hg=>.inl ?_⟩⟩;have:=iK wE h;injection this with h1 h2;injection h2 with h2 h3;rw[h2];exact hg
theorem KO.aA{b:Nat}{w w':Wd}(hk:aD [] w w'):KO b w w':=by
 refine⟨hk.size,λad v rest wE=>⟨hk.mono ak,λtE v' gf h g hg=>.inl ?_⟩⟩;have:=iK (hk.at wE ak) h;injection this with h1 h2;injection h2 with h2 h3;rw[h2];exact hg
def FO(b:Nat)(w:Wd)(q:Nat):Prop:=q≠b/\∀ad v rest,At w b (ad::v::rest)->v.ownBlock≠some q
theorem KO.same{b:Nat}{w w':Wd}(h:KO b w w')(wE:∃ad v rest,At w b (ad::v::rest)){M:List Nat}:∃M,aD M w w'/\∀q,FO b w q->q<w.heap.size->q∉M/\FO b w' q:=by
 obtain⟨ad,v,rest,wE⟩:=wE;obtain⟨k,o⟩:=h.2 ad v rest wE;refine⟨_,k,λq hq bO=>⟨?_,hq.1,?_⟩⟩
 .simp only[mem_cons,mem_toList,mem_def,not_or];exact⟨hq.1,hq.2 ad v rest wE⟩
 .intro tE v' gf h' e;rcases o tE v' gf h' q e with h|h
  .exact hq.2 ad v rest wE h
  .omega
theorem KO.kl{lo b:Nat}{w w':Wd}{rest:LV}{buf:By}(h:KO b w w')(hb:BX lo w b rest buf):KL b lo w w':=by
 obtain⟨ad,v,ab,uo,hv,aI,xo,eW⟩:=hb;refine KL.of (h.2 ad v rest ab).1 eW λi hi=>?_;simp only[mem_cons,mem_toList,mem_def]at hi;rcases hi with hi|hi
 .exact .inl hi
 .exact .inr (hv.lt hi).1
theorem c69{lo:Nat}{w:Wd}{b:Nat}{rest:LV}{buf:By}(h:BX lo w b rest buf):
  Calls prog 69 #[ptr b] w (aZ (λv w'=>v=.int .i64 buf.length/\w'=w) NP):=by
 refine s69 ?_;unfold Zs;obtain⟨ad,v,ab,uo,hv,aI,hb,eW⟩:=h;unfold ptr at*;refine Up.i (Nc.p _ _) ?_;refine V1.i ah ?_;refine V1.load (aC rfl) (ab) rfl ?_;obtain⟨a,c,rfl⟩:=hv.sl;refine V1.i ah ?_;exact⟨rfl,rfl⟩
theorem c70{lo:Nat}{w:Wd}{b:Nat}{rest:LV}{buf:By}(h:BX lo w b rest buf)(s:By)(hl:buf.length+s.length<=1099511627776):
  Calls prog 70 #[ptr b,str s] w (aZ (λ_ w'=>BX lo w' b rest (buf++s)/\KO b w w') NP):=by
 refine s70 ?_;unfold Zt;obtain⟨ad,v,MX,uo,hv,aI,hb,eW⟩:=h;refine DC (D4 MX uo) ?_ (NP.no (e:=_));rintro _ w1 ⟨ab,K1⟩;have z1:=K1.size;replace hv:=hv.fr K1 al;replace eW:lo<=w1.heap.size:=by omega
 unfold ptr at*;refine Up.i (Nc.p _ _) ?_;refine V1.i ah ?_;refine V1.load (aC rfl) (ab) rfl ?_;obtain⟨v',w2,hr,MY,B4,k2,hold⟩:=yy hv aI s hl eW;refine V1.i hr ?_;have z2:=k2.size;have fV:∀i∈v.ownBlock.toList,lo<=i/\i<w1.heap.size:=λi hi=>by
  simp only[mem_toList,mem_def]at hi;exact hv.lt hi
 have yz:=k2.at ab (λhi=>by have:=(fV _ hi).1;omega);refine Up.i (Nc.p _ _) ?_;refine V1.i ah ?_;have vB:Sc v'=true:=by
  obtain⟨a,c,rfl⟩:=MY.sl;rfl
 refine U1.store (aH rfl vB) yz ak λw3 U3=>?_;refine V1.i ah ?_;have hv3:=MY.fr U3.aA al;refine⟨⟨_,v',U3.at_,.inr rfl,hv3,B4,hb,by have:=U3.size;omega⟩,?_⟩;have hown0:∀i∈v.ownBlock.toList,i<w1.heap.size:=λi hi=>(fV i hi).2;refine KO.of MX (((K1.mono ak).trans' k2 (λi hi _=>mem_cons_of_mem _ hi)).trans' U3.aA ak) ?_;intro tE v'' gf h' g hg;have:=iK U3.at_ h';injection this with h1 h2;injection h2 with h2 h3;subst h2;rcases hold g hg with h|h
 .exact .inl h
 .exact .inr aj
theorem uq{lo:Nat}{w:Wd}{b:Nat}{rest:LV}{buf:By}(h:BX lo w b rest buf)(c:UInt8)(hl:buf.length<=1099511627000):
  Calls prog 204 #[ptr b,.int .u8 c.toNat] w (aZ (λ_ w'=>BX lo w' b rest (buf++[c])/\KL b lo w w') NP):=by
 refine Tm ?_;unfold Ke;refine DC (c119 h) ?_ (NP.no (e:=_));rintro _ w1 ⟨h1,K1⟩;obtain⟨v,ab,hv,aI,hb,eW⟩:=h1;unfold ptr at*;refine Up.i (Nc.p _ _) ?_;refine V1.i ah ?_;refine V1.load (aC rfl) (ab) rfl ?_;refine V1.aG ah λb2 w2 N2=>?_;have DZ:=N2.ge;have D0:=N2.lt;have B3:=N2.aA.size;have a2:=N2.at_;try simp only[cells,toList_toArray]at a2
 replace ab:=N2.a ab;obtain⟨v',w3,hr,MY,k2⟩:=DS (n:=1099511627000) (hv.fr N2.aA ak) a2 hl aj aj;refine V1.i hr ?_;have z2:=k2.size;have fV:∀i∈v.ownBlock.toList,lo<=i/\i<w1.heap.size:=λi hi=>by
  simp only[mem_toList,mem_def]at hi;exact hv.lt hi
 have yz:=k2.at ab (λhi=>by have:=(fV _ hi).1;omega);refine Up.i (Nc.p _ _) ?_;refine V1.i ah ?_;have vB:Sc v'=true:=by
  obtain⟨a,c,rfl⟩:=MY.sl;rfl
 refine U1.store (aH rfl vB) yz ak λw4 U3=>?_;exact⟨⟨_,v',U3.at_,.inr rfl,MY.fr U3.aA al,.inr ak,hb,by have:=U3.size;omega⟩,K1.trans ((KL.of N2.aA eW ak).trans ((KL.of k2 aj (λi hi=>.inr (fV i hi).1)).trans (KL.of U3.aA aj ak)))⟩
def BF(w:Wd)(b:Nat)(buf:By):Prop:=
 ∃ad v rest,At w b (ad::v::rest)/\((v=.slice none 0 0/\buf=[])\/∃g cap cur fr,v=.slice (some ⟨g,0,none⟩) buf.length cap/\g≠b/\buf≠[]/\w.heap[g]?=some (.cells cur 5 fr)/\buf.length<=cap/\cur.size=cap/\∀(j:Nat) (c:UInt8),buf[j]?=some c->cur[j]?=some (int .u8 c.toNat))
theorem BX.bf{lo:Nat}{w:Wd}{b:Nat}{rest:LV}{buf:By}(h:BX lo w b rest buf):BF w b buf:=by
 obtain⟨ad,v,ab,uo,hv,aI,hb,eW⟩:=h;refine⟨ad,v,rest,ab,?_⟩;rcases hv.1.2 with⟨h1,h2⟩|⟨g,cap,cur,rfl,h3,h4,h5,h6,h7,h8⟩
 .exact .inl ⟨h1,List.eq_nil_of_length_eq_zero h2⟩
 .have hg:=(hv.lt (g:=g) rfl).1;rcases aI with aI|aI
  .cases aI
  .refine .inr ⟨g,cap,cur,(0,0),rfl,by omega,aI,h4,h5,by omega,λj c hj=>?_⟩;have mn:j<buf.length:=by
    rcases lt_or_ge j buf.length with h|h
    .exact h
    .rw[List.getElem?_eq_none h]at hj;cases hj
   have:(cur.toList.take (buf.length*1))[j]?=some (.int .u8 c.toNat):=by rw[h8,List.getElem?_map,hj];rfl
   rw[List.getElem?_take_of_lt aj]at this;simpa using this
theorem UY{w:Wd}{b:Nat}{buf:By}(h:BF w b buf)(hl:buf.length<=1099511627776):
  Calls prog 19 #[ptr b] w (aZ (λv w'=>v=str buf/\BF w' b buf/\∃M,aD M w w'/\∀g∈M,∃ad rest n c,At w b (ad::.slice (some ⟨g,0,none⟩) n c::rest)) NP):=by
 refine s19 ?_;unfold Zb;obtain⟨ad,v,rest,ab,hv⟩:=h;unfold ptr at*;have MZ:At w.drew b (ad::v::rest):=ab;have kd:aD [] w w.drew:=(aD.refl _ _).drew;refine⟨λw'=>At w' b (ad::v::rest),MZ,?_⟩;refine⟨_,λw' _=>Nc.p _ w',?_⟩;refine Xw.i _ (λw' _=>by simp[go_sem]<;>trivial) ?_;refine Xw.i v (λw' hw=>(aC rfl) _ _ _ (by rw[hw.cell];rfl)) ?_;refine⟨_,λw' _=>Nc.p _ w',?_⟩;refine Xw.i _ (λw' _=>by simp[go_sem]<;>trivial) ?_;refine Xw.i v (λw' hw=>(aC rfl) _ _ _ (by rw[hw.cell];rfl)) ?_;rcases hv with⟨rfl,rfl⟩|⟨g,cap,cur,fr,rfl,Z9,aI,hg,hn,jn,hc⟩
 .refine Xw.i _ (λw' _=>by simp[go_sem]<;>trivial) ?_;refine V1.i (Lib.run_unsafeSliceData_nil (P:=prog) w.drew _ _ _ _) ?_;refine⟨MZ,?_⟩;refine V1.i (Lib.run_unsafeString_none (P:=prog) w.drew 93 3 9 _) ?_;exact⟨rfl,⟨ad,_,rest,MZ,.inl ⟨rfl,rfl⟩⟩,[],kd,by simp⟩
 .refine Xw.i _ (λw' _=>by simp[go_sem]<;>trivial) ?_;have UZ:cap≠0:=by
   intro h0;have:buf.length=0:=by omega
   exact aI (List.eq_nil_of_length_eq_zero this)
  refine V1.i (Lib.run_unsafeSliceData_row (P:=prog) w.drew _ _ _ _ _ UZ) ?_;refine⟨MZ,?_⟩;have M0:w.drew.heap[g]?=some (.cells cur 5 fr):=hg;have si:w.drew.shape? g=some (5,cur.size):=by unfold World.shape?;rw[M0]
  refine V1.i (Lib.run_unsafeString_row (P:=prog) w.drew 93 3 9 5 ai ai g cur.size si buf aI aj aj (λj x hj=>by
   have:=hc j x hj;simp only[Addr.add];split
   .rename_i h0
    obtain rfl:j=0:=by simpa using h0
    unfold cell?;rw[M0];simpa using this
   .unfold cell?;simp only[M0];simpa using this)) ?_
  have hk:aD [g] w.drew (w.drew.freeze ⟨g,0,none⟩ buf.length):=by
   unfold World.freeze;split
   .exact(aD.refl _ _)
   .refine⟨by simp,λq h1 h2=>?_,rfl,rfl⟩;have:g≠q:=λe=>h2 (by simp[e]);simp[Array.getElem?_modify,this]
  have yA:∃U0,(w.drew.freeze ⟨g,0,none⟩ buf.length).heap[g]?=some (.cells cur 5 U0):=by
   unfold World.freeze;split
   .exact⟨fr,M0⟩
   .obtain⟨lo,hi⟩:=fr;simp only[Array.getElem?_modify];rw[if_pos trivial];rw[M0];exact⟨_,rfl⟩
  obtain⟨U0,yA⟩:=yA;exact⟨rfl,⟨ad,_,rest,hk.at MZ (by simp;exact λe=>Z9 e.symm),.inr ⟨g,cap,cur,U0,rfl,Z9,aI,yA,hn,jn,hc⟩⟩,[g],kd.then hk ak ak,by simp;exact⟨ad,rest,_,_,ab⟩⟩
end Go.Proofs.YtoddjlclpnoomaaGreatDoor

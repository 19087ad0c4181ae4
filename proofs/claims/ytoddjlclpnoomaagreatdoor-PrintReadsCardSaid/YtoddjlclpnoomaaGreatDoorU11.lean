import Derived.Lib.AppendStr
import Derived.Lib.BufferRead
import Derived.Lib.Builder
import Derived.Lib.SlBytesRow
import Derived.Lib.UnsafeStr
import Derived.Test.YtoddjlclpnoomaaGreatDoorU10
set_option linter.unusedVariables false
set_option linter.unusedSimpArgs false
set_option maxRecDepth 100000
open Go.Proofs.Tryz
open Go.Instr (sliceAt extract)
open List (mem_cons_of_mem mem_cons mem_filter mem_range getElem?_eq_getElem toList_toArray isPrefixOf length_append)
open Nat (lt_or_ge le_refl le_trans)
open Go.Builtin (append_ len_)
open Go.Value (cells int)
open Bool (or_eq_false_iff)
open Option (map_eq_some_iff mem_toList mem_def)
open Go.World (cell?)
namespace Go.Proofs.YtoddjlclpnoomaaGreatDoor
open Go.Sh
def dK(lo:Nat)(w:Wd)(v:Va)(ss:By):Prop:=
 w.ownsRow 0 5 1 v ss.length (ss.map λc=>.int .u8 c.toNat)/\∀g,v.ownBlock=some g->lo<=g
theorem dK.nil(lo:Nat)(w:Wd):dK lo w (.slice none 0 0) []:=⟨World.ownsRow_nil w 0 5 1,λg h=>by cases h⟩
theorem dK.lt{lo:Nat}{w:Wd}{v:Va}{ss:By}(h:dK lo w v ss){g:Nat}(hg:v.ownBlock=some g):lo<=g/\g<w.heap.size:=⟨h.2 g hg,(h.1.lt g hg).2⟩
theorem dK.fr{lo:Nat}{M:List Nat}{w w':Wd}{v:Va}{ss:By}(h:dK lo w v ss)(hk:aD M w w')(hM:∀i∈M,i<lo\/w.heap.size<=i):dK lo w' v ss:=
 ⟨gH h.1 hk λg hg DZ=>by
  have:=h.lt hg;have:=hM g DZ;omega,h.2⟩
theorem dK.f0{lo:Nat}{w w':Wd}{v:Va}{ss:By}(h:dK lo w v ss)(hk:aD [] w w'):dK lo w' v ss:=h.fr hk ak
theorem BP{lo:Nat}{w:Wd}{v:Va}{ss:By}{c:UInt8}{b n:Nat}(h:dK lo w v ss)(hb:At w b [.int .u8 c.toNat])(hn:ss.length<=n)(lO:n<=1099511627776)(eQ:lo<=w.heap.size):
  ∃v' w',(append_ #[22,22] 22 #[v,.slice (some ⟨b,0,none⟩) 1 1]).run prog w=.ok v' w'/\dK lo w' v' (ss++[c])/\aD v.ownBlock.toList w w':=by
 obtain⟨v',w',hr,ho,hk,hv⟩:=fO (P:=prog) 22 22 5 ((prog.info? 5).getD default) (.int .u8 0) 1 1 ai ai ai ai ai ai aj v ss.length (ss.map λc=>.int .u8 c.toNat) h.1 ⟨b,0,none⟩ 1 1 [.int .u8 c.toNat] rfl (λj a hj=>by
  cases j with
  |zero=>simp at hj;subst hj;simpa[Addr.add]using hb.cell 0
  |succ j=>simp at hj) (by simp;rfl) (by simp only[maxLen];omega) aj
 refine⟨v',w',hr,⟨by simpa using ho,?_⟩,hk⟩;intro g hg;rcases hv with hv|⟨g',hv,zq⟩
 .exact h.2 g (by rw[←hv,hg])
 .rw[hv]at hg;cases hg;omega
theorem dK.sl{lo:Nat}{w:Wd}{v:Va}{ss:By}(h:dK lo w v ss):∃a c,v=.slice a ss.length c:=by
 rcases h.1.2 with⟨h1,h2⟩|⟨g,cap,cur,rfl,_⟩
 .exact⟨none,0,by rw[h1,h2]⟩
 .exact⟨_,_,rfl⟩
theorem dK.str{lo:Nat}{w:Wd}{v:Va}{ss:By}(h:dK lo w v ss):(Go.convert 22 9 v).run prog w=.ok (Go.Sh.str ss) w:=by
 rcases h.1.2 with⟨h1,h2⟩|⟨g,cap,cur,rfl,hb,hg,hn,_⟩
 .have:ss=[]:=List.eq_nil_of_length_eq_zero h2;subst this;rw[h1];exact Lib.run_convert_nil_bytes w 22 9 5 0 ai ai ai
 .have hc:=h.1.cells (g:=g) rfl;exact Lib.run_convert_whole w 22 5 9 ai ai ai g 0 ⟨ss.toArray⟩ (λi hi=>by
   have Gk:i<ss.length:=hi;have:=hc i (.int .u8 (ss[i].toNat:Int)) (by simp[Gk]);simp only[Addr.add,Nat.zero_add]at this⊢;split at this
   .rename_i h
    obtain rfl:i=0:=by simpa using h
    exact this
   .exact this) cap
theorem fJ(c:UInt8)(l:By):mA (c::l)=if c<32\/126<c\/c=34\/(c=92/\l=[])then none else(if c=92 then
      (if l.headD 0=120 then(if(c::l).length<4\/cU ((c::l).getD 2 0)<0\/cU ((c::l).getD 3 0)<0 then none else some (UInt8.ofNat ((cU ((c::l).getD 2 0)).toNat*16+(cU ((c::l).getD 3 0)).toNat),4))
       else match yX (l.headD 0)with|some v=>some (v,2)|none=>none)
    else some (c,1)):=rfl
theorem jO(c:UInt8):-1<=cU c/\cU c<=15:=by
 have:=c.toNat_lt;unfold cU;simp only[UInt8.le_iff_toNat_le,UInt8.reduceToNat];split
 .omega
 .split<;>omega
theorem Zf(a b:Fin 16):bits .or .i64 ((a.val*16:Nat):Int) ((b.val:Nat):Int)=((a.val*16+b.val:Nat):Int):=by revert a b;decide
theorem Q5(w:Wd)(x y:Int)(hx:0<=x/\x<=15)(hy:0<=y/\y<=15):(Bo .or 3 false false (.int .i64 (x*16)) (.int .i64 y)).run prog w=.ok (.int .i64 (x*16+y)) w:=by
 have:=Zf ⟨x.toNat,by omega⟩ ⟨y.toNat,by omega⟩;have e1:((x.toNat*16:Nat):Int)=x*16:=by omega
 have e2:((y.toNat:Nat):Int)=y:=by omega
 have e3:((x.toNat*16+y.toNat:Nat):Int)=x*16+y:=by omega
 simp only[e1,e2,e3]at this;simp[go_sem,Bo,this]
theorem Ab(w:Wd)(a b:Int)(ha:0<=a/\a<=15)(hb:0<=b/\b<=15):(Go.convert 3 5 (.int .i64 (a*16+b))).run prog w=.ok (.int .u8 ((UInt8.ofNat (a.toNat*16+b.toNat)).toNat:Int)) w:=by
 simp[go_sem]
 rw[IntWalk.u8_in _ aj];omega
def D0(R:ER)(j1:Va->Va->Va->Va->VK)(a7 D2 D3 a8 a4:Va)(w:Wd):Prop:=
 V1 prog (Bo .eql 9 false true a4 (.string ⟨#[]⟩)) w (λwI w=>
 If wI (
 V1 prog (len_ #[22] 3 #[a8]) w (λI0 w=>
 V1 prog (Bo .gtr 3 false true I0 (.int .i64 4096)) w (λI1 w=>
 If I1 (
 R (.returned (.tuple #[(.string ⟨#[]⟩),(.int .i64 3)])) w) (
 V1 prog (Go.convert 22 9 a8) w (λwJ w=>
 R (.returned (.tuple #[wJ,(.int .i64 0)])) w) (pn R))) (pn R)) (pn R)) (
 V1 prog (Instr.index 9 a4 (.int .i64 0)) w (λmI w=>
 J4 (λoI=>
 V1 prog (Bo .lss 5 false true mI (.int .u8 32)) w (λBQ w=>
 J1 (λqf=>
 Gd BQ false (V1 prog (Bo .gtr 5 false true mI (.int .u8 126)) w (λI2 w=>
 qf I2 w) (pn R)) (qf undef w)) (λI3 w=>
 V1 prog (Pk BQ (.bool true) I3) w (λBR w=>
 J1 (λBx=>
 Gd BR false (V1 prog (Bo .eql 5 false true mI (.int .u8 34)) w (λI4 w=>
 Bx I4 w) (pn R)) (Bx undef w)) (λI5 w=>
 V1 prog (Pk BR (.bool true) I5) w (λwK w=>
 J1 (λHN=>
 Gd wK false (V1 prog (Bo .eql 5 false true mI (.int .u8 92)) w (λI6 w=>
 HN I6 w) (pn R)) (HN undef w)) (λBT w=>
 J1 (λHO=>
 Gd BT true (V1 prog (len_ #[9] 3 #[a4]) w (λI7 w=>
 V1 prog (Bo .lss 3 false true I7 (.int .i64 2)) w (λI8 w=>
 HO I8 w) (pn R)) (pn R)) (HO undef w)) (λI9 w=>
 J1 (λHP=>
 Gd wK false (V1 prog (Pk BT I9 (.bool false)) w (λJa w=>
 HP Ja w) (pn R)) (HP undef w)) (λJb w=>
 V1 prog (Pk wK (.bool true) Jb) w (λJc w=>
 If Jc (
 R (.returned (.tuple #[(.string ⟨#[]⟩),(.int .i64 4)])) w) (
 V1 prog (Bo .eql 5 false true mI (.int .u8 92)) w (λBU w=>
 J1 (λHQ=>
 Gd BU true (V1 prog (Instr.index 9 a4 (.int .i64 1)) w (λJd w=>
 V1 prog (Bo .eql 5 false true Jd (.int .u8 120)) w (λJe w=>
 HQ Je w) (pn R)) (pn R)) (HQ undef w)) (λJf w=>
 V1 prog (Pk BU Jf (.bool false)) w (λJg w=>
 If Jg (
 V1 prog (len_ #[9] 3 #[a4]) w (λJh w=>
 V1 prog (Bo .lss 3 false true Jh (.int .i64 4)) w (λBV w=>
 J1 (λHR=>
 Gd BV false (V1 prog (Instr.index 9 a4 (.int .i64 2)) w (λJi w=>
 V1 prog (Go.convert 5 21 Ji) w (λJj w=>
 Cf prog 195 #[Jj] w (λJk w=>
 V1 prog (Bo .lss 3 false true Jk (.int .i64 0)) w (λJl w=>
 HR Jl w) (pn R)) (pn R)) (pn R)) (pn R)) (HR undef w)) (λJm w=>
 V1 prog (Pk BV (.bool true) Jm) w (λBW w=>
 J1 (λHS=>
 Gd BW false (V1 prog (Instr.index 9 a4 (.int .i64 3)) w (λJo w=>
 V1 prog (Go.convert 5 21 Jo) w (λJq w=>
 Cf prog 195 #[Jq] w (λJr w=>
 V1 prog (Bo .lss 3 false true Jr (.int .i64 0)) w (λJs w=>
 HS Js w) (pn R)) (pn R)) (pn R)) (pn R)) (HS undef w)) (λJt w=>
 V1 prog (Pk BW (.bool true) Jt) w (λJu w=>
 If Ju (
 R (.returned (.tuple #[(.string ⟨#[]⟩),(.int .i64 4)])) w) (
 ∃C2:WP,C2 w.drew/\
 Xv prog C2 (Instr.index 9 a4 (.int .i64 2)) λJv=>Xv prog C2 (Go.convert 5 21 Jv) λJw=>Xq prog C2 (callFunc 195 #[Jw]) λJx=>Xv prog C2 (Bo .shl 3 false true Jx (.int .u64 4)) λJy=>Xv prog C2 (Instr.index 9 a4 (.int .i64 3)) λJz=>Xv prog C2 (Go.convert 5 21 Jz) λJB=>Xq prog C2 (callFunc 195 #[JB]) λJC=>Xv prog C2 (Bo .or 3 false false Jy JC) λJD=>Xv prog C2 (Go.convert 3 5 JD) λJE=>∀w,C2 w->oI JE D2 D3 (.int .i64 4) w)) (pn R))) (pn R))) (pn R)) (pn R)) (
 V1 prog (Bo .eql 5 false true mI (.int .u8 92)) w (λJF w=>
 If JF (
 V1 prog (Instr.index 9 a4 (.int .i64 1)) w (λJG w=>
 V1 prog (Instr.lookup 215 a7 JG true) w (λwL w=>
 V1 prog (extract wL 0) w (λD4 w=>
 V1 prog (extract wL 1) w (λD5 w=>
 V1 prog (Op.unary .not D5) w (λD6 w=>
 If D6 (
 R (.returned (.tuple #[(.string ⟨#[]⟩),(.int .i64 4)])) w) (
 oI D4 D2 D3 (.int .i64 2) w)) (pn R)) (pn R)) (pn R)) (pn R)) (pn R)) (
 oI mI D2 D3 (.int .i64 1) w)) (pn R))) (pn R))) (pn R))) (pn R))))) (pn R))) (pn R))) (pn R)) (λQ6 Q7 Q8 JH w=>
 V1 prog (Instr.buildSlice 22 1 #[(0,Q6)]) w (λD7 w=>
 V1 prog (append_ #[22,22] 22 #[a8,D7]) w (λD8 w=>
 V1 prog (sliceAt 9 a4 (some JH) none none) w (λD9 w=>
 j1 a7 Q7 Q8 D8 D9 w) (pn R)) (pn R)) (pn R))) (pn R))) (pn R)
theorem Q9{R:ER}{j1:Va->Va->Va->Va->VK}{x y:Va}{bm lo:Nat}{v:Va}{s acc:By}{w w0:Wd}{n:Nat}
   (hm:gk w bm) (ha:dK lo w v acc) (eQ:lo<=w.heap.size) (Rc:bm<lo) (hl:acc.length+s.length<=65536) (hn:s.length<n) (k0:aD [] w0 w) (h0:w0.heap.size<=lo)
   (ja:∀w',aD [] w0 w'->R (.returned (.tuple #[str (match(ef n s).map (acc++·)with|none=>([],(4:Int))|some b=>if 4096<b.length then([],3)else(b,0)).1,.int .i64 (match(ef n s).map (acc++·)with|none=>(([]:By),(4:Int))|some b=>if 4096<b.length then([],3)else(b,0)).2])) w')
   (hj:∀(v':Va) (s' jP:By) (w':Wd) (m:Nat),gk w' bm->dK lo w' v' jP->lo<=w'.heap.size->jP.length+s'.length<=65536->s'.length<m->m<n->aD [] w0 w'->(ef m s').map (jP++·)=(ef n s).map (acc++·)->j1 (.map (some bm)) x y v' (str s') w'):
   D0 R j1 (.map (some bm)) x y v (str s) w:=by
 unfold D0;obtain⟨n,rfl⟩:∃k,n=k+1:=⟨n-1,by omega⟩;rcases s with _|⟨c,l⟩
 . refine V1.i ah ?_;refine If.t ?_;obtain⟨a,cp,rfl⟩:=ha.sl;have e:(ef (n+1) []).map (acc++·)=some acc:=by simp[ef]
   rw[e]at ja;refine V1.i ah ?_;refine V1.i ah ?_;refine If.b (λh=>?_) (λh=>?_)
   . have h':4096<acc.length:=by simp at h;omega
     have:=ja w k0;simp only[if_pos h']at this;exact this
   . have h':¬4096<acc.length:=by simp at h;omega
     refine V1.i ha.str ?_;have:=ja w k0;simp only[if_neg h']at this;exact this
 refine V1.i ah ?_;refine If.f ?_;refine V1.i (dL _ (c::l) 0 ak) ?_;have mJ:mA (c::l)=none->∀w',aD [] w0 w'->R (.returned (.tuple #[.string ⟨#[]⟩,.int .i64 4])) w':=by
   intro h w' k';have:=ja w' k';rw[show(ef (n+1) (c::l))=none by simp only[ef,h];simp]at this;exact this
 have Om:=c.toNat_lt;simp only[List.getElem_cons_zero];have JJ:((c.toNat:Int)==92)=decide (c=92):=by
   by_cases h:c=92
   .subst h;rfl
   .have:¬(c.toNat:Int)=92:=λe=>h (UInt8.toNat_inj.1 al);simp[h,this]
 have Rd:(decide ((c.toNat:Int)<32)||decide (126<(c.toNat:Int))||((c.toNat:Int)==34))=decide (c<32\/126<c\/c=34):=by
   have JK:((c.toNat:Int)==34)=decide (c=34):=by
     by_cases h:c=34
     .subst h;rfl
     .have:¬(c.toNat:Int)=34:=λe=>h (UInt8.toNat_inj.1 al);simp[h,this]
   rw[JK];simp only[UInt8.lt_iff_toNat_lt,UInt8.reduceToNat,Bool.or_assoc];have a1:decide ((c.toNat:Int)<32)=decide (c.toNat<32):=by congr 1;apply propext;omega
   have a2:decide (126<(c.toNat:Int))=decide (126<c.toNat):=by congr 1;apply propext;omega
   rw[a1,a2,Bool.decide_or,Bool.decide_or]
 refine J4.cut (λv9 v2 v3 v10 w'=>∃c' k,mA (c::l)=some (c',k)/\v9=.int .u8 c'.toNat/\v10=.int .i64 k/\v2=x/\v3=y/\aD [] w w'/\k<=(c::l).length/\1<=k) ?_ ?_
 . refine V1.i (v:=.bool (decide ((c.toNat:Int)<32))) (w':=w) am ?_;refine J1.gd (decide (126<(c.toNat:Int))) (λh k hk=>?_) ?_
   .refine V1.i (v:=.bool (decide (126<(c.toNat:Int)))) (w':=w) am ?_;exact hk
   refine V1.i (fm _ _ _) ?_;refine J1.gd ((c.toNat:Int)==34) (λh k hk=>?_) ?_
   .refine V1.i (v:=.bool ((c.toNat:Int)==34)) (w':=w) am ?_;exact hk
   refine V1.i (fm _ _ _) ?_;rw[Rd];by_cases hq:c<32\/126<c\/c=34
   . have hu:mA (c::l)=none:=by
       rw[fJ,if_pos (by rcases hq with h|h|h<;>simp[h])]
     simp only[hq,decide_true];refine J1.go (Gd.tf ?_);refine J1.go (Gd.u ?_);refine J1.go (Gd.tf ?_);refine V1.i ah ?_;refine If.t ?_;exact mJ hu w k0
   simp only[hq,decide_false];refine J1.go (Gd.ff ?_);refine V1.i (v:=.bool (decide (c=92))) (w':=w) (by simp[go_sem,←JJ]) ?_;refine J1.gd (decide (l=[])) (λh k hk=>?_) ?_
   .refine V1.i ah ?_;refine V1.i (v:=.bool (decide (l=[]))) (w':=w) (by cases l<;>simp[go_sem];omega) ?_;exact hk
   refine J1.go (Gd.ff ?_);refine V1.i (fP _ _ _) ?_;refine V1.i ah ?_;rw[←Bool.decide_and];by_cases jc:c=92/\l=[]
   . have hu:mA (c::l)=none:=by
       rw[fJ,if_pos (by simp[jc])]
     simp only[jc,and_self,decide_true];refine If.t ?_;exact mJ hu w k0
   simp only[jc,decide_false];refine If.f ?_;have tL:mA (c::l)=(if c=92 then
     (if l.headD 0=120 then(if(c::l).length<4\/cU ((c::l).getD 2 0)<0\/cU ((c::l).getD 3 0)<0 then none else some (UInt8.ofNat ((cU ((c::l).getD 2 0)).toNat*16+(cU ((c::l).getD 3 0)).toNat),4))
      else match yX (l.headD 0)with|some v=>some (v,2)|none=>none)
   else some (c,1)):=by
     rw[fJ,if_neg];rintro(h|h|h|h)
     .exact hq (.inl h)
     .exact hq (.inr (.inl h))
     .exact hq (.inr (.inr h))
     .exact jc h
   refine V1.i (v:=.bool (decide (c=92))) (w':=w) (by simp[go_sem,←JJ]) ?_;by_cases oT:c=92
   . subst oT;rcases l with _|⟨d,l⟩
     .exact absurd ⟨rfl,rfl⟩ jc
     rw[if_pos rfl]at tL;simp only[List.headD_cons]at tL;have oA:=d.toNat_lt;have Re:((d.toNat:Int)==120)=decide (d=120):=by
       by_cases h:d=120
       .subst h;rfl
       .have:¬(d.toNat:Int)=120:=λe=>h (UInt8.toNat_inj.1 al);simp[h,this]
     simp only[decide_true];refine J1.go (Gd.tt ?_);refine V1.i (dL _ (92::d::l) 1 ak) ?_;simp only[List.getElem_cons_succ,List.getElem_cons_zero];refine V1.i (v:=.bool (decide (d=120))) (w':=w) (by simp[go_sem,←Re]) ?_;refine V1.i ah ?_;by_cases Ea:d=120
     . subst Ea;simp only[if_true]at tL;simp only[decide_true];refine If.t ?_;generalize hs:(92::120::l:By)=s at*;refine V1.i ah ?_;refine V1.i (v:=.bool (decide (s.length<4))) (w':=w) (by simp[go_sem];congr 1;omega) ?_;have hx:=jO (s.getD 2 0);have hy:=jO (s.getD 3 0);refine J1.gd (decide (cU (s.getD 2 0)<0)) (λh k hk=>?_) ?_
       . have h4:¬s.length<4:=by simpa using h
         refine V1.i (dL _ s 2 aj) ?_;have e2:s[2]=s.getD 2 0:=by simp;rw[getElem?_eq_getElem aj];rfl
         rw[e2];refine V1.i (lY _ _ aj (by have:=(s.getD 2 0).toNat_lt;omega)) ?_;refine BA (zX w (s.getD 2 0)) ?_ (NP.no (e:=_));rintro _ w1 ⟨rfl,rfl⟩;refine V1.i ah ?_;exact hk
       refine V1.i (fm _ _ _) ?_;refine J1.gd (decide (cU (s.getD 3 0)<0)) (λh k hk=>?_) ?_
       . have h4:¬s.length<4:=by simp at h;omega
         refine V1.i (dL _ s 3 aj) ?_;have e2:s[3]=s.getD 3 0:=by simp;rw[getElem?_eq_getElem aj];rfl
         rw[e2];refine V1.i (lY _ _ aj (by have:=(s.getD 3 0).toNat_lt;omega)) ?_;refine BA (zX w (s.getD 3 0)) ?_ (NP.no (e:=_));rintro _ w1 ⟨rfl,rfl⟩;refine V1.i ah ?_;exact hk
       refine V1.i (fm _ _ _) ?_;by_cases hb:s.length<4\/cU (s.getD 2 0)<0\/cU (s.getD 3 0)<0
       . rw[if_pos hb]at tL;have:(decide (s.length<4)||decide (cU (s.getD 2 0)<0)||decide (cU (s.getD 3 0)<0))=true:=by simpa[or_assoc]using hb
         rw[this];exact If.t (mJ tL w k0)
       . rw[if_neg hb]at tL;have:(decide (s.length<4)||decide (cU (s.getD 2 0)<0)||decide (cU (s.getD 3 0)<0))=false:=by simp only[or_eq_false_iff,decide_eq_false_iff_not];omega
         rw[this];refine If.f ?_;have h4:4<=s.length:=by omega
         have e2:s[2]=s.getD 2 0:=by simp;rw[getElem?_eq_getElem aj];rfl
         have e3:s[3]=s.getD 3 0:=by simp;rw[getElem?_eq_getElem aj];rfl
         have WB:0<=cU (s.getD 2 0):=by omega
         have WD:0<=cU (s.getD 3 0):=by omega
         refine⟨λw'=>w'=w.drew,rfl,?_⟩;refine Xv.i _ (λw' _=>dL w' s 2 aj) ?_;rw[e2];refine Xv.i _ (λw' _=>lY w' _ aj (by have:=(s.getD 2 0).toNat_lt;omega)) ?_;refine Xq.call (fn:=f195) (.int .i64 (cU (s.getD 2 0))) (aH func195 (c:=bC f195) ai ai _) (λw' hw=>(zX w' _).mono ?_) ?_
         . rintro e du h
           cases e with
           |returned v=>exact⟨by rw[h.1],by rw[h.2,hw]⟩
           |panicked c=>exact h.elim
           |outgrown=>exact h.elim
         refine Xv.i (.int .i64 (cU (s.getD 2 0)*16)) (λw' _=>by simp only[List.getD_eq_getElem?_getD]at*;simp[go_sem,Bo];rw[IntWalk.i64_in _ aj]) ?_;refine Xv.i _ (λw' _=>dL w' s 3 aj) ?_;rw[e3];refine Xv.i _ (λw' _=>lY w' _ aj (by have:=(s.getD 3 0).toNat_lt;omega)) ?_;refine Xq.call (fn:=f195) (.int .i64 (cU (s.getD 3 0))) (aH func195 (c:=bC f195) ai ai _) (λw' hw=>(zX w' _).mono ?_) ?_
         . rintro e du h
           cases e with
           |returned v=>exact⟨by rw[h.1],by rw[h.2,hw]⟩
           |panicked c=>exact h.elim
           |outgrown=>exact h.elim
         refine Xv.i _ (λw' _=>Q5 w' _ _ ⟨WB,by omega⟩ ⟨WD,by omega⟩) ?_;refine Xv.i _ (λw' _=>Ab w' _ _ ⟨WB,by omega⟩ ⟨WD,by omega⟩) ?_;rintro _ rfl;exact⟨_,4,tL,by first|rfl|trivial,by first|rfl|trivial,by first|rfl|trivial,by first|rfl|trivial,(aD.refl _ _).drew,h4,by omega⟩
     . simp only[Ea,decide_false];refine If.f ?_;simp only[Ea,if_false]at tL;refine V1.bt am ?_;refine If.t ?_;refine V1.i (dL _ (92::d::l) 1 ak) ?_;simp only[List.getElem_cons_succ,List.getElem_cons_zero];refine V1.i (hm.look d) ?_
       cases FN:yX d with
       |none=>
         rw[FN]at tL;refine V1.i ah ?_;refine V1.i ah ?_;refine V1.i ah ?_;refine If.t ?_;exact mJ tL w k0
       |some v2=>
         rw[FN]at tL;refine V1.i ah ?_;refine V1.i ah ?_;refine V1.i ah ?_;refine If.f ?_;exact⟨v2,2,tL,by first|rfl|trivial,by first|rfl|trivial,by first|rfl|trivial,by first|rfl|trivial,aD.refl _ _,by simp,by omega⟩
   .rw[if_neg oT]at tL;simp only[oT,decide_false];refine J1.go (Gd.ft ?_);refine V1.i ah ?_;refine If.f ?_;refine V1.i (v:=.bool (decide (c=92))) (w':=w) (by simp[go_sem,←JJ]) ?_;simp only[oT,decide_false];refine If.f ?_;exact⟨c,1,tL,by first|rfl|trivial,by first|rfl|trivial,by first|rfl|trivial,by first|rfl|trivial,aD.refl _ _,by simp,by omega⟩
 . rintro v9 v2 v3 v10 w' ⟨c',k,hu,rfl,rfl,rfl,rfl,k1,hk,uB⟩;have z1:=k1.size;refine V1.aG ah λb2 w2 N2=>?_;have BZ:=N2.ge;have B1:=N2.lt;have Ac:=N2.aA.size;have a2:=N2.at_;try simp only[cells,toList_toArray]at a2
   have B2:=(ha.fr k1 ak).fr N2.aA ak;simp at hl
   obtain⟨v',w3,hr,Rh,k3⟩:=BP (n:=65536) B2 a2 aj aj aj;refine V1.i hr ?_;have z3:=k3.size;have kw:aD v.ownBlock.toList w w3:=((k1.trans N2.aA).mono ak).trans k3;have hH:∀i∈v.ownBlock.toList,lo<=i:=λi hi=>by
     simp only[mem_toList,mem_def]at hi;exact(ha.lt hi).1
   have Zg:aD [] w0 w3:=k0.trans' kw (λi hi bO=>by have:=hH i hi;omega);refine V1.i (mv _ (c::l) k hk) ?_;refine hj v' _ _ w3 n (hm.aA kw (λhi=>by have:=hH _ hi;omega)) Rh aj ?_ ?_ aj Zg ?_
   .simp;omega
   .simp;simp at hn hk;omega
   .simp only[ef,hu];simp[Option.map_map,Function.comp_def]
theorem B3(m:By):Lib.trimPrefix (34::m) [34]=m/\Lib.hasPrefix (34::m) [34]=true:=by
 simp[Lib.trimPrefix,Lib.hasPrefix,isPrefixOf]
theorem wM(m:By):Lib.trimSuffix (m++[34]) [34]=m/\Lib.hasSuffix (m++[34]) [34]=true:=by
 simp[Lib.trimSuffix,Lib.hasSuffix,List.isSuffixOf,isPrefixOf]
theorem Ri(w:Wd)(m:By)(hl:m.length<=65000):Calls prog 150 #[str (34::(m++[34]))] w (aZ (λv w'=>v=.tuple #[str (gZ m).1,.int .i64 (gZ m).2]/\aD [] w w') NP):=by
 refine PY ?_;unfold HM;have key:∀(lo bm:Nat) (v x y:Va) (s acc:By) (w1:Wd) (n:Nat) (j1:Va->Va->Va->Va->VK),gk w1 bm->dK lo w1 v acc->lo<=w1.heap.size->bm<lo->acc.length+s.length<=65536->s.length<n->aD [] w w1->w.heap.size<=lo->
   (ef n s).map (acc++·)=ef (m.length+1) m->
   (∀(v':Va) (s' jP:By) (w':Wd) (k:Nat),gk w' bm->dK lo w' v' jP->lo<=w'.heap.size->jP.length+s'.length<=65536->s'.length<k->k<n->aD [] w w'->(ef k s').map (jP++·)=(ef n s).map (acc++·)->j1 (.map (some bm)) x y v' (str s') w')->
   D0 (aZ (λv w'=>v=.tuple #[str (gZ m).1,.int .i64 (gZ m).2]/\aD [] w w') NP) j1 (.map (some bm)) x y v (str s) w1:=by
  intro lo bm v x y s acc w1 n j1 hm ha eQ Rc hl hn k0 h0 hT hj;refine Q9 hm ha eQ Rc hl hn k0 h0 ?_ hj;intro w' k';rw[hT];exact⟨rfl,k'⟩
 refine P5.g (λn a7 x y a8 a4 w'=>∃lo bm s acc,a7=.map (some bm)/\a4=str s/\gk w' bm/\dK lo w' a8 acc/\lo<=w'.heap.size/\bm<lo/\acc.length+s.length<=65536/\s.length<n/\aD [] w w'/\w.heap.size<=lo/\(ef n s).map (acc++·)=ef (m.length+1) m) ?_ ?_
 .intro K hK;refine Ib (Qe w (34::(m++[34])) [34]) ?_ (NP.no (e:=_));rintro _ w1 ⟨rfl,rfl⟩;rw[(B3 _).1,(B3 _).2];refine V1.i ah ?_;refine V1.i ah ?_;refine Ic (c193 w1 (m++[34]) [34] al) ?_ (NP.no (e:=_));rintro _ w2 ⟨rfl,rfl⟩;rw[(wM _).1,(wM _).2];refine V1.i ah ?_;refine V1.i ah ?_;refine V1.i ah ?_;refine J1.go (Gd.ff ?_);refine V1.i ah ?_;refine V1.i ah ?_;refine If.f ?_;refine Bz (c194 w2) ?_ (NP.no (e:=_));rintro _ w3 ⟨bm,rfl,nm,gb,lb,K3⟩
  refine key w3.heap.size bm (.slice none 0 0) (.string ⟨#[]⟩) (.int .i64 0) m [] w3 (m.length+1) K nm (dK.nil _ _) (le_refl _) lb al aj K3 K3.size ak ?_;intro v' s' jP w' k h1 h2 h3 h4 h5 h6 h7 h8;refine hK k _ _ _ _ _ _ ⟨w3.heap.size,bm,s',jP,rfl,rfl,h1,h2,h3,lb,h4,h5,h7,K3.size,?_⟩;rw[h8];simp
 .rintro n a7 x y a8 a4 w1 K ⟨lo,bm,s,acc,rfl,rfl,h1,h2,h3,h4,h5,h6,h7,h8,h9⟩ hK;refine key lo bm a8 x y s acc w1 n K h1 h2 h3 h4 h5 h6 h7 h8 h9 ?_;intro v' s' jP w' k g1 g2 g3 g4 g5 g6 g7 g8;exact hK k _ _ _ _ _ _ g6 ⟨lo,bm,s',jP,rfl,rfl,g1,g2,g3,h4,g4,g5,g7,h8,by rw[g8,h9]⟩
theorem Rj(w:Wd)(e:Int):Calls prog 151 #[.int .i64 e] w (aZ (λv w'=>v=.iface 23 (.int .i64 (if e=4 then 14 else e))/\w'=w) NP):=by
 refine PZ ?_;unfold HU;refine V1.i ah ?_;refine V1.i ah ?_;refine wc (QZ w e 4) ?_ (NP.no (e:=_));rintro _ w1 ⟨rfl,rfl⟩;refine If.b (λh=>?_) (λh=>?_)
 .refine V1.i ah ?_;exact⟨by rw[if_pos (by simpa using h)],rfl⟩
 .refine V1.i ah ?_;exact⟨by rw[if_neg (by simpa using h)],rfl⟩
structure KL(b lo:Nat)(w w':Wd):Prop where
 size:w.heap.size<=w'.heap.size
 same:∀q,q<lo->q≠b->w'.heap[q]?=w.heap[q]?
 io:w'.os=w.os/\w'.output=w.output
theorem KL.trans{b lo:Nat}{w1 w2 w3:Wd}(h:KL b lo w1 w2)(h':KL b lo w2 w3):KL b lo w1 w3:=⟨le_trans h.size h'.size,λq h1 h2=>by rw[h'.same q h1 h2,h.same q h1 h2],h'.io.1.trans h.io.1,h'.io.2.trans h.io.2⟩
theorem KL.of{b lo:Nat}{M:List Nat}{w w':Wd}(h:aD M w w')(hl:lo<=w.heap.size)(hM:∀i∈M,i=b\/lo<=i):KL b lo w w':=
 ⟨h.size,λq h1 h2=>h.same q aj (λhm=>by rcases hM q hm with h|h;exact h2 h;omega),h.io⟩
def dP(b lo:Nat)(w:Wd):List Nat:=b::(List.range w.heap.size).filter (λq=>decide (lo<=q))
theorem KL.aA{b lo:Nat}{w w':Wd}(h:KL b lo w w'):aD (dP b lo w) w w':=
 ⟨h.size,λq h1 h2=>by
  simp only[dP,mem_cons,mem_filter,mem_range,decide_eq_true_eq,not_or,not_and]at h2;exact h.same q (by have:=h2.2 h1;omega) h2.1,h.io⟩
theorem iK{b lo q:Nat}{w:Wd}(h1:q<lo)(h2:q≠b):q∉dP b lo w:=by
 simp only[dP,mem_cons,mem_filter,mem_range,decide_eq_true_eq,not_or,not_and];exact⟨h2,λ_=>by omega⟩
theorem mK{b lo q:Nat}{w:Wd}(h:q∈dP b lo w):q=b\/lo<=q:=by
 simp only[dP,mem_cons,mem_filter,mem_range,decide_eq_true_eq]at h;rcases h with h|h
 .exact .inl h
 .exact .inr h.2
theorem wN{w:Wd}{base:Nat}{e:TypeId}{size:Nat}{v:Va}{n:Nat}{xs:LV}(h:w.ownsRow 0 e size v n xs)(hb:∀g,v.ownBlock=some g->base<=g):w.ownsRow base e size v n xs:=by
 refine⟨h.1,?_⟩;rcases h.2 with h2|⟨g,cap,cur,rfl,_,h3⟩
 .exact .inl h2
 .exact .inr ⟨g,cap,cur,rfl,hb g rfl,h3⟩
theorem qB{w:Wd}{base:Nat}{e:TypeId}{size:Nat}{v:Va}{n:Nat}{xs:LV}(h:w.ownsRow base e size v n xs):w.ownsRow 0 e size v n xs/\∀g,v.ownBlock=some g->base<=g:=by
 refine⟨⟨h.1,?_⟩,?_⟩
 .rcases h.2 with h2|⟨g,cap,cur,rfl,_,h3⟩
  .exact .inl h2
  .exact .inr ⟨g,cap,cur,rfl,Nat.zero_le _,h3⟩
 .intro g hg;rcases h.2 with⟨rfl,_⟩|⟨g',cap,cur,rfl,h3,_⟩
  .cases hg
  .cases hg;exact h3
theorem wO{lo:Nat}{w:Wd}{v:Va}{ss:By}(h:dK lo w v ss)(hv:v=.slice none 0 0\/ss≠[])(s:By)(hn:ss.length+s.length<=1099511627776)(eQ:lo<=w.heap.size):
  ∃v' w',(append_ #[22,9] 22 #[v,str s]).run prog w=.ok v' w'/\dK lo w' v' (ss++s)/\(v'=.slice none 0 0\/ss++s≠[])/\aD v.ownBlock.toList w w'/\(∀g,v'.ownBlock=some g->v.ownBlock=some g\/w.heap.size<=g):=by
 obtain⟨v',w',hr,ho,hg,Rm⟩:=Lib.run_append_own_string (P:=prog) w lo 22 9 22 5 ((prog.info? 5).getD default) ai ai ai ai ai ai v ss.length (ss.map λc=>.int .u8 c.toNat) (wN h.1 h.2) ⟨s.toArray⟩ (by show ss.length+s.length<=_;simp only[maxLen];omega) (by show ss.length+s.length<=_;omega) eQ;obtain⟨Rn,H5⟩:=qB ho;have hold:∀g,v'.ownBlock=some g->v.ownBlock=some g\/w.heap.size<=g:=by
  rcases h.1.2 with⟨h1,h2⟩|⟨g,cap,cur,rfl,We,Oh,Wf,Wg,lK,nJ⟩
  .obtain⟨v2,w2,gh,eM,_,_⟩:=Lib.run_append_own_string (P:=prog) w w.heap.size 22 9 22 5 ((prog.info? 5).getD default) ai ai ai ai ai ai v ss.length (ss.map λc=>.int .u8 c.toNat) ⟨by simp,.inl ⟨h1,h2⟩⟩ ⟨s.toArray⟩ (by show ss.length+s.length<=_;simp only[maxLen];omega) (by show ss.length+s.length<=_;omega) (le_refl _);rw[hr]at gh;injection gh with e1 e2;subst e1;subst e2
   exact λg hg=>.inr ((qB eM).2 g hg)
  .by_cases tG:ss.length+s.length<=cap
   .have gh:=Lib.run_append_room_string (P:=prog) w 22 9 22 5 ((prog.info? 5).getD default) ai ai ai ai g ss.length cap cur Oh ⟨s.toArray⟩ (by exact tG) (by show ss.length+s.length<=cur.size;omega);rw[hr]at gh;injection gh with e1 e2;subst e1;exact λg' pX=>.inl pX
   .have holds:∀(j:Nat) (u:Va),(ss.map λc=>int .u8 c.toNat)[j]?=some u->w.cell? ((⟨g,0,none⟩:Addr).add j)=some u:=h.1.cells (g:=g) rfl;have gh:=Lib.run_append_grow_string (P:=prog) w 22 9 22 5 ((prog.info? 5).getD default) (.int .u8 0) ai ai ai ai ⟨g,0,none⟩ ss.length cap (ss.map λc=>.int .u8 c.toNat) (by rw[show((prog.info? 5).getD default).size=1 by kernel_rfl,List.length_map,Nat.mul_one]) holds ⟨s.toArray⟩ (by show cap<ss.length+s.length;omega) (by show((ss.length+s.length:Nat):Int)<=_;omega) (growslice_fits (by show cap<ss.length+s.length;omega) (by show(ss.length+s.length)*_<=_;rw[show((prog.info? 5).getD default).bytes=1 by kernel_rfl];omega));rw[hr]at gh;injection gh with e1 e2;subst e1
    exact λg' pX=>by cases pX;exact .inr (le_refl _)
 refine⟨v',w',hr,⟨?_,H5⟩,?_,aD.grown hg,hold⟩
 .have e:(ss++s).length=ss.length+(⟨s.toArray⟩:ByteArray).size:=by rw[length_append];rfl
  have e2:(ss++s).map (λc=>int .u8 c.toNat)=ss.map (λc=>int .u8 c.toNat)++Lib.strCells ⟨s.toArray⟩:=by simp[Lib.strCells]
  rw[e,e2];exact Rn
 .by_cases aI:ss++s=[]
  .left
   obtain⟨h1,h2⟩:=List.append_eq_nil_iff.1 aI;subst h1;subst h2
   rcases hv with hv|hv
   .exact Rm.2 ⟨hv,rfl⟩
   .exact absurd rfl hv
  .exact .inr aI
def BX(lo:Nat)(w:Wd)(b:Nat)(rest:LV)(buf:By):Prop:=
 ∃ad v,At w b (ad::v::rest)/\((ad=.pointer none/\∃e n,w.shape? b=some (e,n)/\((e=54/\n=2)\/(e=56/\n=3)))\/ad=ptr b)/\dK lo w v buf/\(v=.slice none 0 0\/buf≠[])/\b<lo/\lo<=w.heap.size
theorem Eb(w:Wd)(a:Addr):(callFunc 173 #[.pointer (some a)]).run prog w=.ok (.value (.pointer (some a))) w:=ai
theorem JL(w:Wd)(a:Addr):(Bo .neq 52 false false (.pointer (some a)) (.pointer (some a))).run prog w=.ok (.bool false) w:=by
 obtain⟨j,hj,-⟩:=map_eq_some_iff.1 (show(prog.info? 54).map (·.size)=some 2 by kernel_rfl);have:=Lib.run_neq_ptr_same (P:=prog) w a (show prog.underlying 52=some (.pointer 54)by kernel_rfl) hj;simp[Bo,go_sem,this]
def Zh(lo:Nat)(w:Wd)(b:Nat)(rest:LV)(buf:By):Prop:=
 ∃v,At w b (ptr b::v::rest)/\dK lo w v buf/\(v=.slice none 0 0\/buf≠[])/\b<lo/\lo<=w.heap.size
theorem B4{w:Wd}{b:Nat}{rest:LV}{ad v:Va}(ab:At w b (ad::v::rest))(sx:(ad=.pointer none/\∃e n,w.shape? b=some (e,n)/\((e=54/\n=2)\/(e=56/\n=3)))\/ad=ptr b):
  Calls prog 119 #[ptr b] w (aZ (λ_ w'=>At w' b (ptr b::v::rest)/\aD [b] w w') NP):=by
 refine PL ?_;unfold HD;unfold ptr at*;refine Up.i (Nc.p _ _) ?_;refine V1.i ah ?_;refine V1.load (aC rfl) (ab) rfl ?_;rcases sx with⟨rfl,e,n,qC,BL⟩|rfl
 .refine V1.i ah ?_;refine If.t ?_;have Ro:0<n:=by rcases BL with⟨_,h⟩|⟨_,h⟩<;>omega
  obtain⟨j,hj,Wz⟩:=map_eq_some_iff.1 (show(prog.info? 54).map (·.size)=some 2 by kernel_rfl);have WE:prog.underlying 52=some (.pointer 54):=ai
  have JM:prog.underlying 146=some .unsafePointer:=ai
  have JN:liesAt prog prog.depth e (n/prog.cellsOf e) 0 54 1=true:=by
   rcases BL with⟨rfl,rfl⟩|⟨rfl,rfl⟩
   .kernel_rfl
   .kernel_rfl
  refine V1.i (Lib.run_to_unsafe (P:=prog) w ⟨b,0,none⟩ WE JM hj (by rw[Wz];decide) qC Ro) ?_;refine Up.i (Eb w _) ?_;refine V1.i (Lib.run_from_unsafe (P:=prog) w ⟨b,0,none⟩ JM WE hj qC JN) ?_;refine Up.i (Nc.p _ _) ?_;refine V1.i ah ?_;refine U1.store (aO rfl rfl) (ab) ak λw1 U1=>?_;exact⟨U1.at_,U1.aA⟩
 .refine V1.i ah ?_;refine If.f ?_;refine Up.i (Nc.p _ _) ?_;refine V1.i ah ?_;refine V1.load (aC rfl) (ab) rfl ?_;refine V1.i (JL w _) ?_;refine If.f ?_;exact⟨ab,aD.refl _ _⟩
theorem c119{lo:Nat}{w:Wd}{b:Nat}{rest:LV}{buf:By}(h:BX lo w b rest buf):
  Calls prog 119 #[ptr b] w (aZ (λ_ w'=>Zh lo w' b rest buf/\KL b lo w w') NP):=by
 obtain⟨ad,v,ab,sx,hv,aI,hb,eQ⟩:=h;refine aZ.qz (B4 ab sx) ?_ (NP.no (e:=_));rintro _ w' ⟨h1,hk⟩;have z:=hk.size;exact⟨⟨v,h1,hv.fr hk al,aI,hb,by omega⟩,KL.of hk eQ ak⟩
def KO(b:Nat)(w w':Wd):Prop:=w.heap.size<=w'.heap.size/\∀ad v rest,At w b (ad::v::rest)->aD (b::v.ownBlock.toList) w w'/\∀rJ v' fz,At w' b (rJ::v'::fz)->∀g,v'.ownBlock=some g->v.ownBlock=some g\/w.heap.size<=g
theorem ib{w:Wd}{b:Nat}{c c':LV}(h:At w b c)(h':At w b c'):c=c':=by
 obtain⟨T,h⟩:=h;obtain⟨T',h'⟩:=h';rw[h]at h';injection h' with h';injection h' with h1;simpa using h1
theorem KO.of{b:Nat}{w w':Wd}{ad v:Va}{rest:LV}(ab:At w b (ad::v::rest))(hk:aD (b::v.ownBlock.toList) w w')
  (ho:∀rJ v' fz,At w' b (rJ::v'::fz)->∀g,v'.ownBlock=some g->v.ownBlock=some g\/w.heap.size<=g):KO b w w':=by
 refine⟨hk.size,λOn v2 tM h=>?_⟩;have:=ib ab h;injection this with h1 h2;injection h2 with h2 h3;subst h1;subst h2;subst h3
 exact⟨hk,ho⟩
theorem KO.trans{b:Nat}{w1 w2 w3:Wd}(h:KO b w1 w2)(h':KO b w2 w3)(h2:∃ad v rest,At w2 b (ad::v::rest)):KO b w1 w3:=by
 refine⟨le_trans h.1 h'.1,λad v rest uH=>?_⟩;obtain⟨k1,o1⟩:=h.2 ad v rest uH;obtain⟨On,v2,tM,Ec⟩:=h2;obtain⟨k2,o2⟩:=h'.2 On v2 tM Ec;have z:=h.1;refine⟨⟨le_trans h.1 h'.1,λq hq hm=>?_,k2.io.1.trans k1.io.1,k2.io.2.trans k1.io.2⟩,?_⟩
 .rw[k2.same q aj ?_,k1.same q hq hm];intro nu;simp only[mem_cons,mem_toList,mem_def]at nu hm;rcases nu with nu|nu
  .exact hm (.inl nu)
  .rcases o1 On v2 tM Ec q nu with h|h
   .exact hm (.inr h)
   .omega
 .intro rJ v' fz h3 g hg;rcases o2 rJ v' fz h3 g hg with h|h
  .exact o1 On v2 tM Ec g h
  .exact .inr aj
theorem KO.refl(b:Nat)(w:Wd):KO b w w:=by
 refine⟨le_refl _,λad v rest uH=>⟨aD.refl _ _,λrJ v' fz h g hg=>.inl ?_⟩⟩;have:=ib uH h;injection this with h1 h2;injection h2 with h2 h3;rw[h2];exact hg
theorem KO.aA{b:Nat}{w w':Wd}(hk:aD [] w w'):KO b w w':=by
 refine⟨hk.size,λad v rest uH=>⟨hk.mono ak,λrJ v' fz h g hg=>.inl ?_⟩⟩;have:=ib (hk.at uH ak) h;injection this with h1 h2;injection h2 with h2 h3;rw[h2];exact hg
def FO(b:Nat)(w:Wd)(q:Nat):Prop:=q≠b/\∀ad v rest,At w b (ad::v::rest)->v.ownBlock≠some q
theorem KO.same{b:Nat}{w w':Wd}(h:KO b w w')(uH:∃ad v rest,At w b (ad::v::rest)){M:List Nat}:∃M,aD M w w'/\∀q,FO b w q->q<w.heap.size->q∉M/\FO b w' q:=by
 obtain⟨ad,v,rest,uH⟩:=uH;obtain⟨k,o⟩:=h.2 ad v rest uH;refine⟨_,k,λq hq bO=>⟨?_,hq.1,?_⟩⟩
 .simp only[mem_cons,mem_toList,mem_def,not_or];exact⟨hq.1,hq.2 ad v rest uH⟩
 .intro rJ v' fz h' e;rcases o rJ v' fz h' q e with h|h
  .exact hq.2 ad v rest uH h
  .omega
theorem KO.kl{lo b:Nat}{w w':Wd}{rest:LV}{buf:By}(h:KO b w w')(hb:BX lo w b rest buf):KL b lo w w':=by
 obtain⟨ad,v,ab,sx,hv,aI,vq,eQ⟩:=hb;refine KL.of (h.2 ad v rest ab).1 eQ λi hi=>?_;simp only[mem_cons,mem_toList,mem_def]at hi;rcases hi with hi|hi
 .exact .inl hi
 .exact .inr (hv.lt hi).1
theorem Zi{lo:Nat}{w:Wd}{b:Nat}{rest:LV}{buf:By}(h:BX lo w b rest buf):
  Calls prog 69 #[ptr b] w (aZ (λv w'=>v=.int .i64 buf.length/\w'=w) NP):=by
 refine YH ?_;unfold V0;obtain⟨ad,v,ab,sx,hv,aI,hb,eQ⟩:=h;unfold ptr at*;refine Up.i (Nc.p _ _) ?_;refine V1.i ah ?_;refine V1.load (aC rfl) (ab) rfl ?_;obtain⟨a,c,rfl⟩:=hv.sl;refine V1.i ah ?_;exact⟨rfl,rfl⟩
theorem c70{lo:Nat}{w:Wd}{b:Nat}{rest:LV}{buf:By}(h:BX lo w b rest buf)(s:By)(hl:buf.length+s.length<=1099511627776):
  Calls prog 70 #[ptr b,str s] w (aZ (λ_ w'=>BX lo w' b rest (buf++s)/\KO b w w') NP):=by
 refine YI ?_;unfold V2;obtain⟨ad,v,JO,sx,hv,aI,hb,eQ⟩:=h;refine Bw (B4 JO sx) ?_ (NP.no (e:=_));rintro _ w1 ⟨ab,K1⟩;have z1:=K1.size;replace hv:=hv.fr K1 al;replace eQ:lo<=w1.heap.size:=by omega
 unfold ptr at*;refine Up.i (Nc.p _ _) ?_;refine V1.i ah ?_;refine V1.load (aC rfl) (ab) rfl ?_;obtain⟨v',w2,hr,JQ,Ad,k2,hold⟩:=wO hv aI s hl eQ;refine V1.i hr ?_;have z2:=k2.size;have hH:∀i∈v.ownBlock.toList,lo<=i/\i<w1.heap.size:=λi hi=>by
  simp only[mem_toList,mem_def]at hi;exact hv.lt hi
 have Ec:=k2.at ab (λhi=>by have:=(hH _ hi).1;omega);refine Up.i (Nc.p _ _) ?_;refine V1.i ah ?_;have tN:Sc v'=true:=by
  obtain⟨a,c,rfl⟩:=JQ.sl;rfl
 refine U1.store (aO rfl tN) Ec ak λw3 U3=>?_;refine V1.i ah ?_;have Zj:=JQ.fr U3.aA al;refine⟨⟨_,v',U3.at_,.inr rfl,Zj,Ad,hb,by have:=U3.size;omega⟩,?_⟩;have hown0:∀i∈v.ownBlock.toList,i<w1.heap.size:=λi hi=>(hH i hi).2;refine KO.of JO (((K1.mono ak).trans' k2 (λi hi _=>mem_cons_of_mem _ hi)).trans' U3.aA ak) ?_;intro rJ v'' fz h' g hg;have:=ib U3.at_ h';injection this with h1 h2;injection h2 with h2 h3;subst h2;rcases hold g hg with h|h
 .exact .inl h
 .exact .inr aj
theorem sy{lo:Nat}{w:Wd}{b:Nat}{rest:LV}{buf:By}(h:BX lo w b rest buf)(c:UInt8)(hl:buf.length<=1099511627000):
  Calls prog 204 #[ptr b,.int .u8 c.toNat] w (aZ (λ_ w'=>BX lo w' b rest (buf++[c])/\KL b lo w w') NP):=by
 refine PG ?_;unfold Hw;refine Bw (c119 h) ?_ (NP.no (e:=_));rintro _ w1 ⟨h1,K1⟩;obtain⟨v,ab,hv,aI,hb,eQ⟩:=h1;unfold ptr at*;refine Up.i (Nc.p _ _) ?_;refine V1.i ah ?_;refine V1.load (aC rfl) (ab) rfl ?_;refine V1.aG ah λb2 w2 N2=>?_;have BZ:=N2.ge;have B1:=N2.lt;have Ac:=N2.aA.size;have a2:=N2.at_;try simp only[cells,toList_toArray]at a2
 replace ab:=N2.a ab;obtain⟨v',w3,hr,JQ,k2⟩:=BP (n:=1099511627000) (hv.fr N2.aA ak) a2 hl aj aj;refine V1.i hr ?_;have z2:=k2.size;have hH:∀i∈v.ownBlock.toList,lo<=i/\i<w1.heap.size:=λi hi=>by
  simp only[mem_toList,mem_def]at hi;exact hv.lt hi
 have Ec:=k2.at ab (λhi=>by have:=(hH _ hi).1;omega);refine Up.i (Nc.p _ _) ?_;refine V1.i ah ?_;have tN:Sc v'=true:=by
  obtain⟨a,c,rfl⟩:=JQ.sl;rfl
 refine U1.store (aO rfl tN) Ec ak λw4 U3=>?_;exact⟨⟨_,v',U3.at_,.inr rfl,JQ.fr U3.aA al,.inr ak,hb,by have:=U3.size;omega⟩,K1.trans ((KL.of N2.aA eQ ak).trans ((KL.of k2 aj (λi hi=>.inr (hH i hi).1)).trans (KL.of U3.aA aj ak)))⟩
def BF(w:Wd)(b:Nat)(buf:By):Prop:=
 ∃ad v rest,At w b (ad::v::rest)/\((v=.slice none 0 0/\buf=[])\/∃g cap cur fr,v=.slice (some ⟨g,0,none⟩) buf.length cap/\g≠b/\buf≠[]/\w.heap[g]?=some (.cells cur 5 fr)/\buf.length<=cap/\cur.size=cap/\∀(j:Nat) (c:UInt8),buf[j]?=some c->cur[j]?=some (int .u8 c.toNat))
theorem BX.bf{lo:Nat}{w:Wd}{b:Nat}{rest:LV}{buf:By}(h:BX lo w b rest buf):BF w b buf:=by
 obtain⟨ad,v,ab,sx,hv,aI,hb,eQ⟩:=h;refine⟨ad,v,rest,ab,?_⟩;rcases hv.1.2 with⟨h1,h2⟩|⟨g,cap,cur,rfl,h3,h4,h5,h6,h7,h8⟩
 .exact .inl ⟨h1,List.eq_nil_of_length_eq_zero h2⟩
 .have hg:=(hv.lt (g:=g) rfl).1;rcases aI with aI|aI
  .cases aI
  .refine .inr ⟨g,cap,cur,(0,0),rfl,by omega,aI,h4,h5,by omega,λj c hj=>?_⟩;have lh:j<buf.length:=by
    rcases lt_or_ge j buf.length with h|h
    .exact h
    .rw[List.getElem?_eq_none h]at hj;cases hj
   have:(cur.toList.take (buf.length*1))[j]?=some (.int .u8 c.toNat):=by rw[h8,List.getElem?_map,hj];rfl
   rw[List.getElem?_take_of_lt aj]at this;simpa using this
theorem Rr{w:Wd}{b:Nat}{buf:By}(h:BF w b buf)(hl:buf.length<=1099511627776):
  Calls prog 19 #[ptr b] w (aZ (λv w'=>v=str buf/\BF w' b buf/\∃M,aD M w w'/\∀g∈M,∃ad rest n c,At w b (ad::.slice (some ⟨g,0,none⟩) n c::rest)) NP):=by
 refine Yp ?_;unfold VI;obtain⟨ad,v,rest,ab,hv⟩:=h;unfold ptr at*;have JR:At w.drew b (ad::v::rest):=ab;have kd:aD [] w w.drew:=(aD.refl _ _).drew;refine⟨λw'=>At w' b (ad::v::rest),JR,?_⟩;refine⟨_,λw' _=>Nc.p _ w',?_⟩;refine Xw.i _ (λw' _=>by simp[go_sem]<;>trivial) ?_;refine Xw.i v (λw' hw=>(aC rfl) _ _ _ (by rw[hw.cell];rfl)) ?_;refine⟨_,λw' _=>Nc.p _ w',?_⟩;refine Xw.i _ (λw' _=>by simp[go_sem]<;>trivial) ?_;refine Xw.i v (λw' hw=>(aC rfl) _ _ _ (by rw[hw.cell];rfl)) ?_;rcases hv with⟨rfl,rfl⟩|⟨g,cap,cur,fr,rfl,WI,aI,hg,hn,lK,hc⟩
 .refine Xw.i _ (λw' _=>by simp[go_sem]<;>trivial) ?_;refine V1.i (Lib.run_unsafeSliceData_nil (P:=prog) w.drew _ _ _ _) ?_;refine⟨JR,?_⟩;refine V1.i (Lib.run_unsafeString_none (P:=prog) w.drew 93 3 9 _) ?_;exact⟨rfl,⟨ad,_,rest,JR,.inl ⟨rfl,rfl⟩⟩,[],kd,by simp⟩
 .refine Xw.i _ (λw' _=>by simp[go_sem]<;>trivial) ?_;have Rs:cap≠0:=by
   intro h0;have:buf.length=0:=by omega
   exact aI (List.eq_nil_of_length_eq_zero this)
  refine V1.i (Lib.run_unsafeSliceData_row (P:=prog) w.drew _ _ _ _ _ Rs) ?_;refine⟨JR,?_⟩;have JS:w.drew.heap[g]?=some (.cells cur 5 fr):=hg;have qC:w.drew.shape? g=some (5,cur.size):=by unfold World.shape?;rw[JS]
  refine V1.i (Lib.run_unsafeString_row (P:=prog) w.drew 93 3 9 5 ai ai g cur.size qC buf aI aj aj (λj x hj=>by
   have:=hc j x hj;simp only[Addr.add];split
   .rename_i h0
    obtain rfl:j=0:=by simpa using h0
    unfold cell?;rw[JS];simpa using this
   .unfold cell?;simp only[JS];simpa using this)) ?_
  have hk:aD [g] w.drew (w.drew.freeze ⟨g,0,none⟩ buf.length):=by
   unfold World.freeze;split
   .exact(aD.refl _ _)
   .refine⟨by simp,λq h1 h2=>?_,rfl,rfl⟩;have:g≠q:=λe=>h2 (by simp[e]);simp[Array.getElem?_modify,this]
  have Ae:∃Ru,(w.drew.freeze ⟨g,0,none⟩ buf.length).heap[g]?=some (.cells cur 5 Ru):=by
   unfold World.freeze;split
   .exact⟨fr,JS⟩
   .obtain⟨lo,hi⟩:=fr;simp only[Array.getElem?_modify];rw[if_pos trivial];rw[JS];exact⟨_,rfl⟩
  obtain⟨Ru,Ae⟩:=Ae;exact⟨rfl,⟨ad,_,rest,hk.at JR (by simp;exact λe=>WI e.symm),.inr ⟨g,cap,cur,Ru,rfl,WI,aI,Ae,hn,lK,hc⟩⟩,[g],kd.then hk ak ak,by simp;exact⟨ad,rest,_,_,ab⟩⟩
end Go.Proofs.YtoddjlclpnoomaaGreatDoor

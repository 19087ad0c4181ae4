import Derived.Test.YtoddjlclpnoomaaGreatDoorU24
set_option linter.unusedVariables false
set_option linter.unusedSimpArgs false
set_option maxRecDepth 100000
open Go.Proofs.Tryz
open Go.Instr (sliceAt indexAt)
open List (cons_append contains_cons drop_eq_getElem_cons getElem?_eq_getElem mem_map getElem_mem length_cons takeWhile_cons toList_toArray drop_eq_nil_of_le length_append length_nil take_length length length_drop)
open Nat (lt_or_ge le_refl le_trans lt_of_lt_of_le)
open Go.Builtin (append_)
open Bool (and_eq_true not_eq_true' or_eq_true)
open Option (mem_toList)
namespace Go.Proofs.YtoddjlclpnoomaaGreatDoor
open Go.Sh
set_option maxRecDepth 100000
section
variable (w:Wd) (a b:Int)
theorem AN:(Bo .geq 5 false true (.int .u8 a) (.int .u8 b)).run prog w=.ok (.bool (decide (b<=a))) w:=by simp[go_sem]
theorem AO:(Bo .leq 5 false true (.int .u8 a) (.int .u8 b)).run prog w=.ok (.bool (decide (a<=b))) w:=by simp[go_sem]
theorem F7:(Bo .lss 5 false true (.int .u8 a) (.int .u8 b)).run prog w=.ok (.bool (decide (a<b))) w:=by simp[go_sem]
theorem TV:(Bo .gtr 5 false true (.int .u8 a) (.int .u8 b)).run prog w=.ok (.bool (decide (b<a))) w:=by simp[go_sem]
theorem lA:(Bo .eql 5 false true (.int .u8 a) (.int .u8 b)).run prog w=.ok (.bool (a==b)) w:=by simp[go_sem]
theorem OJ:(Bo .neq 5 false true (.int .u8 a) (.int .u8 b)).run prog w=.ok (.bool (!(a==b))) w:=by simp[go_sem];rfl
theorem iE(c:Bool):(Bo .lss 3 false c (.int .i64 a) (.int .i64 b)).run prog w=.ok (.bool (decide (a<b))) w:=by simp[go_sem]
theorem Mf(c:Bool):(Bo .leq 3 false c (.int .i64 a) (.int .i64 b)).run prog w=.ok (.bool (decide (a<=b))) w:=by simp[go_sem]
theorem sT(c:Bool):(Bo .gtr 3 false c (.int .i64 a) (.int .i64 b)).run prog w=.ok (.bool (decide (b<a))) w:=by simp[go_sem]
theorem ya(c:Bool):(Bo .eql 3 false c (.int .i64 a) (.int .i64 b)).run prog w=.ok (.bool (a==b)) w:=by simp[go_sem]
end
theorem CG{p:UInt8->Bool}(h:∀n:Nat,n<256->p (UInt8.ofNat n)=true)(c:UInt8):p c=true:=by
 have:=h c.toNat c.toNat_lt;rwa [UInt8.ofNat_toNat]at this
theorem qR(c:UInt8):(((decide ((97:Int)<=c.toNat)&&decide ((c.toNat:Int)<=122))||(decide ((65:Int)<=c.toNat)&&decide ((c.toNat:Int)<=90)))||((c.toNat:Int)==95))=di.contains c:=by
 have:=CG (p:=λc=>(((decide ((97:Int)<=c.toNat)&&decide ((c.toNat:Int)<=122))||(decide ((65:Int)<=c.toNat)&&decide ((c.toNat:Int)<=90)))||((c.toNat:Int)==95))==di.contains c) ay c;simpa using this
theorem mT(c:UInt8):(decide ((48:Int)<=c.toNat)&&decide ((c.toNat:Int)<=57))=bW.contains c:=by
 have:=CG (p:=λc=>(decide ((48:Int)<=c.toNat)&&decide ((c.toNat:Int)<=57))==bW.contains c) ay c;simpa using this
theorem qS{B b6 b7:Bool}{w:Wd}{R:ER}{X6:(VK)->Prop}{X7:Wd->(VK)->Prop}{g:VK}(h6:B=false->∀k:VK,k (.bool b6) w->X6 k)(h7:B=false->b6=true->∀k:VK,k (.bool b7) w->X7 w k)
  (hg:g (.bool (B||(b6&&b7))) w):J1 (λk2=>Gd (.bool B) false (X6 k2) (k2 undef w)) (λMg w=>J1 (λk3=>Gd Mg true (X7 w k3) (k3 undef w)) (λa37 w=>
   J1 (λk4=>Gd (.bool B) false (v1 R (Pk Mg a37 (.bool false)) w λze w=>k4 ze w) (k4 undef w)) (λze w=>v1 R (Pk (.bool B) (.bool true) ze) w g))):=by
 cases B with
 |true=>
  refine J1.go (Gd.tf ?_);refine J1.go (Gd.u ?_);refine J1.go (Gd.tf ?_);exact V1.bt am hg
 |false=>
  refine J1.go (Gd.ff (h6 rfl _ ?_));refine J1.gd (c:=true) b7 (λh k hk=>h7 rfl h k hk) ?_;refine J1.go (Gd.ff ?_);refine V1.i (fP _ _ _) ?_;exact V1.i (v:=.bool (b6&&b7)) (w':=w) am (by simpa using hg)
theorem EY(w:Wd)(c:UInt8):Calls prog 129 #[.int .u8 c.toNat] w (aZ (λv w'=>v=.bool (di.contains c)/\w'=w) NP):=by
 refine Ty ?_;unfold Lx;refine V1.i (AN _ _ _) ?_;refine J1.gd (c:=true) _ (λ_ k hk=>V1.i (AO _ _ _) hk) ?_;refine V1.i (fP _ _ _) ?_;refine qS (λ_ k hk=>V1.i (AN _ _ _) hk) (λ_ _ k hk=>V1.i (AO _ _ _) hk) ?_;refine J1.gd (c:=false) _ (λ_ k hk=>V1.i (lA _ _ _) hk) ?_;refine V1.i (fm _ _ _) ?_;rw[qR];exact⟨rfl,rfl⟩
theorem EZ(w:Wd)(c:UInt8):Calls prog 132 #[.int .u8 c.toNat] w (aZ (λv w'=>v=.bool (bW.contains c)/\w'=w) NP):=by
 refine TC ?_;unfold LA;refine V1.i (AN _ _ _) ?_;refine J1.gd (c:=true) _ (λ_ k hk=>V1.i (AO _ _ _) hk) ?_;refine V1.i (fP _ _ _) ?_;rw[mT];exact⟨rfl,rfl⟩
def rL:LB:=[[97,110,100],[98,114,101,97,107],[99,97,116,99,104],[100,111],[101,108,115,101],[101,108,115,101,105,102],[101,110,100],[102,97,108,115,101],[102,111,114],[102,117,110,99,116,105,111,110],[105,102],[108,111,99,97,108],[110,105,108],[110,111,116],[111,114],[114,101,116,117,114,110],[116,104,101,110],[116,114,117,101],[116,114,121],[119,104,105,108,101]]
theorem CH:∀(s r:By),32∉s->(s++[32]).isPrefixOf r=true->s=r.takeWhile (λc=>!(c==32))
 |[],[],_,h=>by simp at h
 |[],c::r,_,h=>by
  simp at h
  subst h;simp
 |a::s,[],_,h=>by simp at h
 |a::s,c::r,hs,h=>by
  simp only[cons_append,List.isPrefixOf_cons_cons,and_eq_true,beq_iff_eq]at h;obtain⟨rfl,h⟩:=h;have h1:a≠32:=λe=>hs (by simp[e]);have:=CH s r (λe=>hs (by simp[e])) h;rw[takeWhile_cons,if_pos (by simpa using h1),←this]
theorem yb(s:By):gx s=rL.contains s:=by
 have h1:∀w∈rL,gx w=true:=by decide
 have h2:∀k:Nat,k<122->((oM.drop (k+1)).takeWhile (λc=>!(c==32)))=[]\/oM[k]?≠some 32\/((oM.drop (k+1)).takeWhile (λc=>!(c==32)))∈rL:=by decide
 rw[Bool.eq_iff_iff];constructor
 .intro h;unfold gx at h;simp only[and_eq_true,not_eq_true']at h;obtain⟨⟨hn,E0⟩,hc⟩:=h;have hs:32∉s:=by
   intro hm;unfold Lib.contains at E0;rcases Lib.index_spec s [32]with⟨_,h⟩|⟨i,h,_⟩
   .obtain⟨i,hi,e⟩:=List.getElem_of_mem hm;have:=h i aj;unfold Lib.occAt at this;rw[drop_eq_getElem_cons hi,e]at this;simp at this
   .rw[h]at E0;simp at E0
  unfold Lib.contains at hc;rcases Lib.index_spec oM ([32]++s++[32])with⟨h,_⟩|⟨i,_,hi,ho,_⟩
  .rw[h]at hc;simp at hc
  .unfold Lib.occAt at ho;have hl:i<oM.length:=by
    rcases lt_or_ge i oM.length with h|h
    .exact h
    .rw[drop_eq_nil_of_le h]at ho;simp at ho
   rw[drop_eq_getElem_cons hl,List.append_assoc,List.singleton_append,List.isPrefixOf_cons_cons,and_eq_true]at ho;have e:=CH s _ hs ho.2;have hlen:oM.length<=122:=by decide
   rcases h2 i aj with h|h|h
   .rw[h]at e;subst e;simp at hn
   .exact absurd (by rw[getElem?_eq_getElem hl];have:=ho.1;simp at this;rw[←this]) h
   .rw[←e]at h;simpa using h
 .intro h;exact h1 s (by simpa using h)
theorem i208:(prog.info? 208).map (·.size)=some 20:=ai
theorem Mh{w:Wd}{b k:Nat}(h:k<20):(indexAt 208 (.pointer (some ⟨b,0,none⟩)) (.int .i64 k)).run prog w=.ok (.pointer (some ⟨b,k,none⟩)) w:=by
 have:(k:Int)<20:=by omega
 simp[go_sem,h,this,Addr.add]
 rintro rfl;rfl
theorem CI{w:Wd}{b:Nat}{ss:LB}(h:At w b (ss.map str)){k:Nat}(hk:k<ss.length):w.cell? ⟨b,k,none⟩=some (str ss[k]):=by
 rw[h.cell];simp[hk]
theorem c131(w:Wd)(s:By):Calls prog 131 #[str s] w (aZ (λv w'=>v=.bool (gx s)/\aD [] w w') NP):=by
 refine TB ?_;unfold EW;refine V1.i (v:=.agg (rL.map str).toArray) (w':=w) (by simp[go_sem];rfl) ?_;refine V1.i (GY w) ?_;refine U1.i (run_storeAt_new w 208 _ (rL.map str).toArray i208 rfl ai) ?_;have N:=nH.mk' w (rL.map str).toArray 208;simp only[toList_toArray]at N;generalize w.alloc (.cells (rL.map str).toArray 208)=w1 at N⊢;generalize hb:w.heap.size=b at N⊢;rw[yb];have K0:=N.aA;refine L2.i (λx y w'=>w'=w1/\∃i:Nat,y=.int .i64 i/\i<=20/\rL.contains s=(rL.drop i).contains s) (λx y _=>match y with|.int _ n=>20-n.toNat|_=>0) ⟨rfl,0,rfl,by omega,rfl⟩ ?_;rintro x y w' ⟨rfl,i,rfl,hi,he⟩;refine V1.i (iE _ _ _ _) ?_;by_cases bO:i<20
 .have hl:i<rL.length:=bO;rw[show decide ((i:Int)<20)=true by simp;omega];refine If.t ?_;refine V1.i (Mh bO) ?_;refine V1.i ((aC rfl) _ _ _ (CI N.at_ hl)) ?_;refine V1.i (zQ _ _ _ _ _) ?_;rw[he,drop_eq_getElem_cons hl,contains_cons]
  cases h:(rL[i]==s)with
  |true=>
   refine If.t ⟨?_,K0⟩;have:rL[i]=s:=by simpa using h
   simp[this]
  |false=>
   have:(s==rL[i])=false:=by
    have:rL[i]≠s:=by simpa using h
    simpa using λe=>this e.symm
   refine If.f ?_;refine V1.i (cC _ _ _ _ _ _ aj aj) ?_;exact⟨⟨rfl,i+1,by simp,by omega,by rw[this,Bool.false_or]⟩,by simp;omega⟩
 .obtain rfl:i=20:=by omega
  exact If.f ⟨by rw[he];rfl,K0⟩
end Go.Proofs.YtoddjlclpnoomaaGreatDoor

namespace Go.Proofs.YtoddjlclpnoomaaGreatDoor
open Go.Sh
theorem gM(w:Wd)(c d:Bool)(a b:Nat)(h:a+b<=9223372036854775807):(Bo .add 3 c d (.int .i64 (a:Nat)) (.int .i64 (b:Nat))).run prog w=.ok (.int .i64 ((a+b:Nat):Int)) w:=by
 rw[cC _ _ _ _ _ _ aj aj];simp
theorem jW(c:UInt8)(s t:By):(s++t).contains c=(s.contains c||t.contains c):=by
 rw[Bool.eq_iff_iff];simp
theorem c130(w:Wd)(s:By)(i:Nat)(hi:i<=s.length)(hl:s.length<=1099511627776):Calls prog 130 #[str s,.int .i64 i] w (aZ (λv w'=>v=.int .i64 (gC (s.drop i) (di++bW):Nat)/\w'=w) NP):=by
 refine Tz ?_;unfold Ly;refine L1.i (λx w'=>w'=w/\∃j:Nat,x=.int .i64 j/\i+j<=s.length/\gC (s.drop i) (di++bW)=j+gC (s.drop (i+j)) (di++bW)) (λx _=>match x with|.int _ n=>s.length-n.toNat|_=>0) ⟨rfl,0,rfl,by omega,by simp⟩ ?_;rintro x w' ⟨rfl,j,rfl,hj,he⟩;refine V1.i (gM _ _ _ _ _ aj) ?_;refine V1.i ah ?_;refine V1.i (iE _ _ _ _) ?_;by_cases bO:i+j<s.length
 rotate_left
 .rw[show decide (((i+j:Nat):Int)<(s.length:Int))=false by simp;omega];refine J1.go (Gd.ft (J1.go (Gd.u (J1.go (Gd.ft ?_)))));refine V1.bf am ?_;refine If.f ⟨?_,rfl⟩;rw[he,drop_eq_nil_of_le aj,tI];rfl
 rw[show decide (((i+j:Nat):Int)<(s.length:Int))=true by simp;omega];have Mi:∀{R:ER}{k:VK},k (.int .u8 (s[i+j]).toNat) w'->v1 R (Bo .add 3 false false (.int .i64 (i:Nat)) (.int .i64 (j:Nat))) w' λa16 w=>v1 R (Instr.index 9 (str s) a16) w k:=λhk=>
  V1.i (gM _ _ _ _ _ aj) (V1.i (dL _ s (i+j) bO) hk)
 refine J1.go (Gd.tt (Mi ?_));refine x8 (EY _ _) ?_ (NP.no (e:=_));rintro _ w' ⟨rfl,rfl⟩;refine J1.gd (c:=false) (bW.contains s[i+j]) (λ_ k hk=>Mi (x9 (EZ _ _) (by rintro _ _ ⟨rfl,rfl⟩;exact hk) (NP.no (e:=_)))) ?_;refine J1.go (Gd.tt ?_);refine V1.i (fm _ _ _) ?_;refine V1.i (v:=.bool ((di++bW).contains s[i+j])) (w':=w') (by rw[jW];simp[go_sem]) ?_;rw[drop_eq_getElem_cons bO]at he
 cases h:(di++bW).contains s[i+j]with
 |false=>
  refine If.f ⟨?_,rfl⟩;rw[he,oQ h];rfl
 |true=>
  rw[iS h]at he;refine If.t ?_;refine V1.i (cC _ _ _ _ _ _ aj aj) ?_;exact⟨⟨rfl,j+1,by simp,by omega,by rw[he,show i+(j+1)=i+j+1 by omega];omega⟩,by simp;omega⟩
end Go.Proofs.YtoddjlclpnoomaaGreatDoor
namespace Go.Proofs.YtoddjlclpnoomaaGreatDoor
open Go.Sh
set_option maxRecDepth 100000
def pO(c:UInt8):Va:=.int .u8 c.toNat
theorem V1.E1{s:Sem Va}{w:Wd}{k:VK}{e:EK}(bs:By)(h0:0<bs.length)(hm:bs.length<=16)(h:s.run prog w=.ok (.slice (some ⟨w.heap.size,0,none⟩) bs.length bs.length) (w.alloc (.cells (bs.map pO).toArray 5)))
  (hk:∀b w',dK w.heap.size w' (.slice (some ⟨b,0,none⟩) bs.length bs.length) bs->nH w b (bs.map pO) w'->k (.slice (some ⟨b,0,none⟩) bs.length bs.length) w'):V1 prog s w k e:=by
 refine V1.i h (hk _ _ ⟨⟨by simp,.inr ⟨w.heap.size,bs.length,(bs.map pO).toArray,rfl,by omega,?_,le_refl _,by simp only[maxLen];omega,by simp,?_⟩⟩,?_⟩ (nH.mk' w _ 5))
 .exact Array.getElem?_push_size
 .rw[toList_toArray,Nat.mul_one,List.take_of_length_le ak];rfl
 .intro g hg
  cases hg
  exact le_refl _
theorem TW{lo:Nat}{w:Wd}{v:Va}{ss bs:By}{b:Nat}(h:dK lo w v ss)(hb:At w b (bs.map pO))(h0:0<bs.length)(hn:ss.length+bs.length<=1099511627776)(eQ:lo<=w.heap.size):
  ∃v' w',(append_ #[22,22] 22 #[v,.slice (some ⟨b,0,none⟩) bs.length bs.length]).run prog w=.ok v' w'/\dK lo w' v' (ss++bs)/\aD v.ownBlock.toList w w':=by
 obtain⟨v',w',hr,ho,hk,hv⟩:=fO (P:=prog) 22 22 5 ((prog.info? 5).getD default) (.int .u8 0) 1 1 ai ai ai ai ai ai aj v ss.length (ss.map λc=>.int .u8 c.toNat) h.1 ⟨b,0,none⟩ bs.length bs.length (bs.map pO) ak (λj a hj=>by
  have:=hb.cell j;rw[hj]at this;by_cases h0:j=0
  .subst h0;simpa[Addr.add]using this
  .simpa[Addr.add,h0]using this) (by
  intro u hu;obtain⟨c,_,rfl⟩:=mem_map.1 hu;rfl) (by simp only[maxLen];omega) aj
 refine⟨v',w',hr,⟨?_,?_⟩,hk⟩
 .rw[length_append,List.map_append];exact ho
 intro g hg;rcases hv with hv|⟨g',hv,zq⟩
 .exact h.2 g (by rw[←hv,hg])
 .rw[hv]at hg;cases hg;omega
section
variable {lo:Nat}{w w0:Wd}{v:Va}{ss:By}{k:VK}{e:EK}
theorem mU(bs:By){s:Sem Va}(A:dK lo w v ss)(eQ:lo<=w.heap.size)(h0:0<bs.length)(hm:bs.length<=16)(hn:ss.length+bs.length<=1099511627776)(h:s.run prog w=.ok (.slice (some ⟨w.heap.size,0,none⟩) bs.length bs.length) (w.alloc (.cells (bs.map pO).toArray 5)))
  (hk:∀v' w',dK lo w' v' (ss++bs)->aD v.ownBlock.toList w w'->k v' w'):V1 prog s w (λa w=>V1 prog (append_ #[22,22] 22 #[v,a]) w k e) e:=by
 refine V1.E1 bs h0 hm h λb w1 A1 N=>?_;have A2:dK lo w1 v ss:=A.fr N.aA ak;obtain⟨v',w2,hr,A3,K3⟩:=TW A2 N.at_ h0 hn (by have:=N.aA.size;omega);refine V1.i hr (hk _ _ A3 ?_);exact⟨by have:=N.aA.size;have:=K3.size;omega,λq hq hqn=>(K3.same q (by have:=N.aA.size;omega) hqn).trans (N.aA.same q hq ak),K3.io.1.trans N.aA.io.1,K3.io.2.trans N.aA.io.2⟩
end
def uV(x:BitVec 64):Va:=.int .u64 x.toNat
theorem mV(x:BitVec 64):BitVec.ofInt 64 (x.toNat:Int)=x:=by simp
theorem yc(x:BitVec 64):IntKind.u64.wrap (x.toNat:Int)=x.toNat:=by
 rw[IntKind.wrap_u64];have:=x.isLt;omega
section
variable (w:Wd) (x y:BitVec 64)
theorem TY:(Bo .and 205 false false (uV x) (uV y)).run prog w=.ok (uV (x&&&y)) w:=by
 have:(Bo .and 205 false false (uV x) (uV y)).run prog w=.ok (.int .u64 (IntKind.u64.wrap ((BitVec.ofInt 64 (x.toNat:Int)&&&BitVec.ofInt 64 (y.toNat:Int):BitVec 64).toNat:Int))) w:=by rfl
 rw[this,mV,mV,yc];rfl
theorem TZ:(Bo .xor 205 false false (uV x) (uV y)).run prog w=.ok (uV (x^^^y)) w:=by
 have:(Bo .xor 205 false false (uV x) (uV y)).run prog w=.ok (.int .u64 (IntKind.u64.wrap ((BitVec.ofInt 64 (x.toNat:Int)^^^BitVec.ofInt 64 (y.toNat:Int):BitVec 64).toNat:Int))) w:=by rfl
 rw[this,mV,mV,yc];rfl
theorem T0:(Op.unary .xor (uV x)).run prog w=.ok (uV (~~~x)) w:=by
 have:(Op.unary .xor (uV x)).run prog w=.ok (.int .u64 (IntKind.u64.wrap ((BitVec.ofInt 64 18446744073709551615^^^BitVec.ofInt 64 (x.toNat:Int):BitVec 64).toNat:Int))) w:=by rfl
 rw[this,mV,yc,show(BitVec.ofInt 64 18446744073709551615:BitVec 64)=BitVec.allOnes 64 by decide,BitVec.allOnes_xor];rfl
theorem T1:(Bo .shl 205 false true (uV x) (.int .u64 1)).run prog w=.ok (uV (x+x)) w:=by
 have:(Bo .shl 205 false true (uV x) (.int .u64 1)).run prog w=.ok (.int .u64 (IntKind.u64.wrap ((x.toNat:Int)*2^1))) w:=by
  simp[go_sem,uV]
 rw[this,IntKind.wrap_u64];unfold uV;rw[BitVec.toNat_add];congr 2
 omega
theorem T2:(Bo .neq 205 false true (uV x) (.int .u64 0)).run prog w=.ok (.bool (!(x==0))) w:=by
 have:(Bo .neq 205 false true (uV x) (.int .u64 0)).run prog w=.ok (.bool (!((x.toNat:Int)==0))) w:=by simp[go_sem,uV];rfl
 rw[this];congr 3
 rw[Bool.eq_iff_iff];simp only[beq_iff_eq];constructor
 .intro h;exact BitVec.eq_of_toNat_eq al
 .rintro rfl;rfl
end
theorem yd(x t:BitVec 64)(k:Nat)(ht:t=BitVec.twoPow 64 k):(x&&&t=0/\x^^^t=x+t)\/(x&&&t=t/\(x^^^t)+(t+t)=x+t):=by
 have hand:x&&&t=if x.getLsbD k then t else 0:=by subst ht;exact BitVec.and_twoPow x k
 have hx:∀a:BitVec 64,a&&&t=0->a^^^t=a+t:=by
  intro a h;rw[BitVec.add_eq_or_of_and_eq_zero _ _ h];apply BitVec.eq_of_getLsbD_eq
  intro i hi;have:=congrArg (λz:BitVec 64=>z.getLsbD i) h;simp at this⊢
  cases h1:a.getLsbD i<;>cases h2:t.getLsbD i<;>simp_all
 cases h:x.getLsbD k with
 |false=>
  rw[h]at hand;exact .inl ⟨hand,hx x hand⟩
 |true=>
  rw[h]at hand;have hand:x&&&t=t:=hand;refine .inr ⟨hand,?_⟩;have h2:(x^^^t)&&&t=0:=by
   apply BitVec.eq_of_getLsbD_eq
   intro i hi;have:=congrArg (λz:BitVec 64=>z.getLsbD i) hand;simp at this⊢
   cases h1:x.getLsbD i<;>cases h2:t.getLsbD i<;>simp_all
  have h3:=hx (x^^^t) h2;rw[←BitVec.add_assoc,←h3,BitVec.xor_assoc,BitVec.xor_self,BitVec.xor_zero]
end Go.Proofs.YtoddjlclpnoomaaGreatDoor

namespace Go.Proofs.YtoddjlclpnoomaaGreatDoor
open Go.Sh
def nA(c:UInt8):Int:=if cU c<0 then 16 else cU c
theorem c229(w:Wd)(c:UInt8):Calls prog 229 #[.int .u8 c.toNat] w (aZ (λv w'=>v=.int .u8 (nA c)/\w'=w) NP):=by
 refine TU ?_;unfold Me;have hc:=c.toNat_lt;have e:nA c=if 48<=(c.toNat:Int)/\(c.toNat:Int)<=57 then(c.toNat:Int)-48 else if 97<=(c.toNat:Int)/\(c.toNat:Int)<=102 then(c.toNat:Int)-87 else 16:=by
  unfold nA cU;simp only[UInt8.le_iff_toNat_le,show(48:UInt8).toNat=48 from rfl,show(57:UInt8).toNat=57 from rfl,show(97:UInt8).toNat=97 from rfl,show(102:UInt8).toNat=102 from rfl];split<;>split<;>(repeat' split)<;>omega
 refine V1.i (AN _ _ _) ?_;refine J1.gd (c:=true) _ (λ_ k hk=>V1.i (AO _ _ _) hk) ?_;refine V1.i (fP _ _ _) ?_;refine If.b (λh=>?_) (λh=>?_)
 .rw[and_eq_true,decide_eq_true_eq,decide_eq_true_eq]at h;rw[e,if_pos h];refine V1.i (v:=.int .u8 ((c.toNat:Int)-48)) (w':=w) (by simp[go_sem];rw[IntKind.wrap_u8];omega) ?_;exact⟨rfl,rfl⟩
 .rw[Bool.and_eq_false_iff,decide_eq_false_iff_not,decide_eq_false_iff_not]at h;rw[e,if_neg aj];refine V1.i (AN _ _ _) ?_;refine J1.gd (c:=true) _ (λ_ k hk=>V1.i (AO _ _ _) hk) ?_;refine V1.i (fP _ _ _) ?_;refine If.b (λh=>?_) (λh=>?_)
  .rw[and_eq_true,decide_eq_true_eq,decide_eq_true_eq]at h;rw[if_pos h];refine V1.i (v:=.int .u8 ((c.toNat:Int)-97)) (w':=w) (by simp[go_sem];rw[IntKind.wrap_u8];omega) ?_;refine V1.i (v:=.int .u8 ((c.toNat:Int)-87)) (w':=w) (by simp[go_sem];rw[IntKind.wrap_u8];omega) ?_;exact⟨rfl,rfl⟩
  .rw[Bool.and_eq_false_iff,decide_eq_false_iff_not,decide_eq_false_iff_not]at h;rw[if_neg aj];exact⟨rfl,rfl⟩
def E2:Option (UInt8×Nat)->Va
 |none=>.tuple #[.int .u8 0,.int .i64 0]
 |some (c,k)=>.tuple #[.int .u8 c.toNat,.int .i64 k]
theorem nj(c d:UInt8):((c.toNat:Int)==(d.toNat:Int))=(c==d):=by
 rw[Bool.eq_iff_iff];simp only[beq_iff_eq];constructor
 .intro h;exact UInt8.toNat_inj.1 aj
 .rintro rfl;rfl
theorem tZ(c:UInt8):decide (nA c<16)=!decide (cU c<0):=by
 have:=jO c;unfold nA;rw[Bool.eq_iff_iff];simp
 split<;>omega
theorem AP(d:UInt8)(l:By):mA (92::d::l)=if d=120 then(if(92::d::l).length<4\/cU ((92::d::l).getD 2 0)<0\/cU ((92::d::l).getD 3 0)<0 then none else some (UInt8.ofNat ((cU ((92::d::l).getD 2 0)).toNat*16+(cU ((92::d::l).getD 3 0)).toNat),4))
 else(match yX d with|some v=>some (v,2)|none=>none):=rfl
set_option maxHeartbeats 1000000 in
theorem c210(w:Wd)(s:By):Calls prog 210 #[str s] w (aZ (λv w'=>v=E2 (mA s)/\aD [] w w') NP):=by
 refine TS ?_;unfold LZ;refine V1.i (eX _ _ _) ?_;refine V1.i (ya _ _ _ _) ?_;rcases s with _|⟨c,l⟩
 .refine J1.go (Gd.tf ?_);refine V1.bt am ?_;refine J1.go (Gd.tf ?_);refine V1.bt am ?_;refine J1.go (Gd.tf ?_);refine V1.bt am ?_;exact If.t ⟨rfl,aD.refl _ _⟩
 rw[show(((c::l).length:Int)==0)=false by rw[beq_eq_false_iff_ne];simp;omega];have h0:∀{R:ER}{w:Wd}{k:VK},k (.int .u8 c.toNat) w->v1 R (Instr.index 9 (str (c::l)) (.int .i64 0)) w k:=λhk=>V1.i (dL _ (c::l) 0 ak) hk;refine J1.gd (c:=false) _ (λ_ k hk=>h0 (V1.i (F7 _ _ _) hk)) ?_;refine V1.i (fm _ _ _) ?_;refine J1.gd (c:=false) _ (λ_ k hk=>h0 (V1.i (TV _ _ _) hk)) ?_;refine V1.i (fm _ _ _) ?_;refine J1.gd (c:=false) _ (λ_ k hk=>h0 (V1.i (lA _ _ _) hk)) ?_;refine V1.i (fm _ _ _) ?_;rw[show((false||decide ((c.toNat:Int)<32))||decide ((126:Int)<c.toNat)||((c.toNat:Int)==34))=decide (c<32\/126<c\/c=34)by
  rw[show((c.toNat:Int)==34)=(c==34)from nj c 34,Bool.eq_iff_iff];simp only[Bool.false_or,or_eq_true,decide_eq_true_eq,UInt8.lt_iff_toNat_lt,show(32:UInt8).toNat=32 from rfl,show(126:UInt8).toNat=126 from rfl,beq_iff_eq];constructor
  .rintro((h|h)|h)
   .exact .inl aj
   .exact .inr (.inl aj)
   .exact .inr (.inr h)
  .rintro(h|h|h)
   .exact .inl (.inl aj)
   .exact .inl (.inr aj)
   .exact .inr h]
 by_cases hb:c<32\/126<c\/c=34
 .refine If.b (λ_=>⟨?_,aD.refl _ _⟩) (λh=>absurd hb (by simpa using h));rw[fJ,if_pos (by rcases hb with h|h|h;exact .inl h;exact .inr (.inl h);exact .inr (.inr (.inl h)))];rfl
 refine If.b (λh=>absurd (by simpa using h) hb) (λ_=>?_);refine h0 (V1.i (OJ _ _ _) ?_);rw[show((c.toNat:Int)==92)=(c==92)from nj c 92];by_cases oT:c=92
 rotate_left
 .refine If.b (λ_=>h0 ⟨?_,aD.refl _ _⟩) (λh=>absurd (by simpa using h) oT);rw[fJ,if_neg (by simp only[not_or]at hb⊢;exact⟨hb.1,hb.2.1,hb.2.2,λh=>oT h.1⟩),if_neg oT];rfl
 subst oT;refine If.b (λh=>by simp at h) (λ_=>?_);refine V1.i (eX _ _ _) ?_;refine V1.i (iE _ _ _ _) ?_;rcases l with _|⟨d,l⟩
 .exact If.t ⟨rfl,aD.refl _ _⟩
 rw[AP];refine If.b (λh=>by simp at h;omega) (λ_=>?_);refine J2.go ?_;have h1:∀{R:ER}{w:Wd}{k:VK},k (.int .u8 d.toNat) w->v1 R (Instr.index 9 (str (92::d::l)) (.int .i64 1)) w k:=λhk=>V1.i (dL _ (92::d::l) 1 ak) hk;refine h1 (V1.i (lA _ _ _) ?_);rw[show((d.toNat:Int)==110)=(d==110)from nj d 110];by_cases d1:d=110
 .subst d1;exact If.t ⟨rfl,aD.refl _ _⟩
 refine If.b (λh=>absurd (by simpa using h) d1) (λ_=>?_);refine V1.i (lA _ _ _) ?_;rw[show((d.toNat:Int)==116)=(d==116)from nj d 116];by_cases d2:d=116
 .subst d2;exact If.t ⟨rfl,aD.refl _ _⟩
 refine If.b (λh=>absurd (by simpa using h) d2) (λ_=>?_);refine J1.cut (λv w'=>v=.bool (d==92||d==34)/\w'=w) ?_ ?_
 .refine V1.i (lA _ _ _) ?_;rw[show((d.toNat:Int)==92)=(d==92)from nj d 92];refine If.b (λh=>⟨by rw[h];rfl,rfl⟩) (λh=>?_);rw[h];refine V1.i (lA _ _ _) ?_;rw[show((d.toNat:Int)==34)=(d==34)from nj d 34];exact⟨rfl,rfl⟩
 rintro _ w ⟨rfl,rfl⟩;by_cases d3:d=92\/d=34
 .refine If.b (λ_=>h1 ?_) (λh=>by simp at h;rcases d3 with h1|h1<;>simp[h1]at h);rcases d3 with rfl|rfl<;>exact⟨rfl,aD.refl _ _⟩
 refine If.b (λh=>absurd (by simpa using h) d3) (λ_=>?_);refine V1.i (lA _ _ _) ?_;rw[show((d.toNat:Int)==120)=(d==120)from nj d 120];have hn:yX d=none:=by
  simp only[not_or]at d3;simp[yX,d1,d2,d3.1,d3.2]
 by_cases d4:d=120
 rotate_left
 .refine If.b (λh=>absurd (by simpa using h) d4) (λ_=>⟨?_,aD.refl _ _⟩);rw[if_neg d4,hn];rfl
 subst d4;rw[if_pos rfl];refine If.b (λ_=>?_) (λh=>by simp at h);refine V1.i (eX _ _ _) ?_;refine V1.i (v:=.bool (decide (4<=(92::120::l).length))) (w':=w) ax ?_;have hsm:¬4<=(92::120::l:By).length->∀X:Option (UInt8×Nat),(if(92::120::l:By).length<4\/cU ((92::120::l:By).getD 2 0)<0\/cU ((92::120::l:By).getD 3 0)<0 then none else X)=none:=λh X=>if_pos (.inl aj);by_cases h4:4<=(92::120::l:By).length
 rotate_left
 .rw[hsm h4,decide_eq_false h4];refine J1.go (Gd.ft ?_);refine V1.bf am ?_;refine J1.go (Gd.ft ?_);refine V1.bf am ?_;exact If.f ⟨rfl,aD.refl _ _⟩
 rw[decide_eq_true h4];rcases l with _|⟨x,_|⟨y,l⟩⟩
 .simp at h4
 .simp at h4
 have hx:∀{R:ER}{w:Wd}{k:VK},k (.int .u8 x.toNat) w->v1 R (Instr.index 9 (str (92::120::x::y::l)) (.int .i64 2)) w k:=λhk=>V1.i (dL _ (92::120::x::y::l) 2 ak) hk;have hy:∀{R:ER}{w:Wd}{k:VK},k (.int .u8 y.toNat) w->v1 R (Instr.index 9 (str (92::120::x::y::l)) (.int .i64 3)) w k:=λhk=>V1.i (dL _ (92::120::x::y::l) 3 ak) hk;have ex:(92::120::x::y::l:By).getD 2 0=x:=rfl;have ey:(92::120::x::y::l:By).getD 3 0=y:=rfl;rw[ex,ey];have lx:=jO x;have ly:=jO y;refine J1.gd (c:=true) (!decide (cU x<0)) (λ_ k hk=>hx (CF (c229 w x) (by
  rintro _ w' ⟨rfl,rfl⟩;refine V1.i (F7 _ _ _) ?_;rw[tZ];exact hk) (NP.no (e:=_)))) ?_
 refine V1.i (fP _ _ _) ?_;refine J1.gd (c:=true) (!decide (cU y<0)) (λ_ k hk=>hy (CF (c229 w y) (by
  rintro _ w' ⟨rfl,rfl⟩;refine V1.i (F7 _ _ _) ?_;rw[tZ];exact hk) (NP.no (e:=_)))) ?_
 refine V1.i (fP _ _ _) ?_;by_cases mJ:cU x<0\/cU y<0
 .rw[if_pos (.inr mJ)];refine If.b (λh=>by simp at h;omega) (λ_=>⟨rfl,aD.refl _ _⟩)
 rw[if_neg (by simp only[not_or]at mJ⊢;exact⟨by omega,mJ⟩)];simp only[not_or]at mJ;refine If.b (λ_=>?_) (λh=>by simp at h;omega);have KD:aD [] w w.drew:=(aD.refl _ _).drew;have hr:∀(c:UInt8) (w':Wd),w'=w.drew->Calls prog 229 #[.int .u8 c.toNat] w' λe du=>e=.returned (.int .u8 (nA c))/\du=w.drew:=λc w' hw=>(c229 w' c).mono (by
  rintro e du h
  cases e with
  |returned v=>exact⟨by rw[h.1],by rw[h.2,hw]⟩
  |panicked c=>exact h.elim
  |outgrown=>exact h.elim)
 have wx:nA x=cU x:=if_neg mJ.1;have wy:nA y=cU y:=if_neg mJ.2;refine⟨λw'=>w'=w.drew,rfl,?_⟩;refine Xv.i (.int .u8 x.toNat) (λw' hw=>dL _ (92::120::x::y::l) 2 ak) ?_;refine Xq.call (fn:=Tryz.f229) (.int .u8 (nA x)) (aH func229 (c:=bC Tryz.f229) ai ai _) (hr x) ?_;refine Xv.i (.int .u8 (16*cU x)) (λw' hw=>by rw[wx];simp[go_sem];rw[IntKind.wrap_u8];omega) ?_;refine Xv.i (.int .u8 y.toNat) (λw' hw=>dL _ (92::120::x::y::l) 3 ak) ?_;refine Xq.call (fn:=Tryz.f229) (.int .u8 (nA y)) (aH func229 (c:=bC Tryz.f229) ai ai _) (hr y) ?_;refine Xv.i (.int .u8 (16*cU x+cU y)) (λw' hw=>by rw[wy];simp[go_sem];rw[IntKind.wrap_u8];omega) ?_;rintro w' rfl;refine⟨?_,KD⟩
 show _=Value.tuple #[.int .u8 ((UInt8.ofNat ((cU x).toNat*16+(cU y).toNat)).toNat:Nat),.int .i64 ((4:Nat):Int)]
 rw[UInt8.toNat_ofNat',show(16*cU x+cU y)=(((cU x).toNat*16+(cU y).toNat)%2^8:Nat)by omega];rfl
theorem qT(w:Wd)(l:By)(i j:Nat)(h:i<=j)(h2:j<=l.length):(sliceAt 9 (str l) (some (.int .i64 i)) (some (.int .i64 j)) none).run prog w=.ok (str ((l.drop i).take (j-i))) w:=by
 have h3:(i:Int)<=j:=by omega
 have h4:(j:Int)<=l.length:=by omega
 simp[go_sem,str,h,h2,h3,h4]
 rw[show({data:=l.toArray}:ByteArray).extract i j={data:=((l.drop i).take (j-i)).toArray}from by
  simp[ByteArray.extract_mk]]
abbrev tw(s:By):By:=s.takeWhile (λc=>!(c==10))
def qL(o:Option Nat):Int:=match o with
 |none=>0
 |some k=>k+1
theorem c182(w:Wd)(s:By)(i:Nat)(hi:i<s.length)(hl:s.length<=1099511627776)(ji:s[i]=34):Calls prog 182 #[str s,.int .i64 i] w (aZ (λv w'=>v=.int .i64 (qL (eH ((tw (s.drop i)).drop 1) 1))/\w'=w) NP):=by
 refine TN ?_;unfold LP;have lU:(tw (s.drop i)).drop 1=tw (s.drop (i+1)):=by
  rw[drop_eq_getElem_cons hi];unfold tw;rw[takeWhile_cons,ji];rfl
 rw[lU];refine V1.i (cC _ _ _ _ _ _ aj aj) ?_;generalize hQ:eH (tw (s.drop (i+1))) 1=Q;refine L2.i (λx y w'=>w'=w/\∃j:Nat,y=.int .i64 j/\i<j/\((j<=s.length/\Q=eH (tw (s.drop j)) (j-i))\/(j=s.length+1/\Q=none))) (λx y _=>match y with|.int _ n=>s.length+1-n.toNat|_=>0) ⟨rfl,i+1,by simp,by omega,.inl ⟨by omega,by rw[←hQ];congr 1;omega⟩⟩ ?_;clear hQ lU;rintro x y w' ⟨rfl,j,rfl,rH,hj⟩;refine V1.i (eX _ _ _) ?_;refine V1.i (iE _ _ _ _) ?_;by_cases bO:j<s.length
 rotate_left
 .rw[show decide ((j:Int)<(s.length:Int))=false by simp;omega];refine If.f ⟨?_,rfl⟩;rcases hj with⟨h1,h2⟩|⟨_,h2⟩
  .rw[h2,drop_eq_nil_of_le aj];rfl
  .rw[h2];rfl
 rw[show decide ((j:Int)<(s.length:Int))=true by simp;omega];rcases hj with⟨_,hQ⟩|⟨h1,_⟩
 rotate_left
 .omega
 rw[drop_eq_getElem_cons bO]at hQ;have h0:∀{R:ER}{k:VK},k (.int .u8 (s[j]).toNat) w'->v1 R (Instr.index 9 (str s) (.int .i64 j)) w' k:=λhk=>V1.i (dL _ s j bO) hk;refine If.t (J2.go ?_);generalize s[j]=c at hQ h0;unfold tw at hQ;rw[takeWhile_cons]at hQ;refine h0 (V1.i (lA _ _ _) ?_);rw[show((c.toNat:Int)==10)=(c==10)from nj c 10];by_cases jj:c=10
 .subst jj;exact If.t ⟨by rw[hQ];rfl,rfl⟩
 rw[show(c==10)=false by simpa using jj];rw[if_pos (by simpa using jj)]at hQ;refine If.f (h0 (V1.i (lA _ _ _) ?_));rw[show((c.toNat:Int)==34)=(c==34)from nj c 34];unfold eH at hQ;by_cases h3:c=34
 .subst h3;refine If.t ?_;refine V1.i (cC _ _ _ _ _ _ aj aj) ?_;refine V1.i (jK _ _ _ _ _ _ aj aj) ?_;rw[if_pos rfl]at hQ;refine⟨?_,rfl⟩;rw[hQ];unfold qL;congr 1
  show(j:Int)+1-i=((j-i:Nat):Int)+1
  omega
 rw[show(c==34)=false by simpa using h3];rw[if_neg h3]at hQ;refine If.f (h0 (V1.i (lA _ _ _) ?_));rw[show((c.toNat:Int)==92)=(c==92)from nj c 92];by_cases h9:c=92
 rotate_left
 .rw[show(c==92)=false by simpa using h9];rw[if_neg h9]at hQ;refine If.f ?_;refine V1.i (cC _ _ _ _ _ _ aj aj) ?_;exact⟨⟨rfl,j+1,by simp,by omega,.inl ⟨by omega,by rw[hQ];congr 1;omega⟩⟩,by simp;omega⟩
 subst h9;refine If.t ?_;rw[if_pos rfl]at hQ;refine V1.i (cC _ _ _ _ _ _ aj aj) ?_;refine V1.i (eX _ _ _) ?_;refine V1.i (iE _ _ _ _) ?_;by_cases fY:j+1<s.length
 rotate_left
 .rw[show decide ((j:Int)+1<(s.length:Int))=false by simp;omega];refine J1.go (Gd.ft ?_);refine V1.bf am ?_;refine If.f ?_;refine V1.i (cC _ _ _ _ _ _ aj aj) ?_;refine V1.i (cC _ _ _ _ _ _ aj aj) ?_;refine⟨⟨rfl,j+2,by simp;omega,by omega,.inr ⟨by omega,?_⟩⟩,by simp;omega⟩;rw[hQ,drop_eq_nil_of_le aj];rfl
 rw[show decide ((j:Int)+1<(s.length:Int))=true by simp;omega];rw[drop_eq_getElem_cons fY]at hQ;have h1:∀{R:ER}{k:VK},k (.int .u8 (s[j+1]).toNat) w'->v1 R (Instr.index 9 (str s) (.int .i64 ((j:Int)+1))) w' k:=λhk=>V1.i (by have:=dL w' s (j+1) fY;simpa using this) hk;generalize s[j+1]=d at hQ h1;rw[takeWhile_cons]at hQ;refine J1.gd (c:=true) (d==10) (λ_ k hk=>?_) ?_
 .refine V1.i (cC _ _ _ _ _ _ aj aj) ?_;exact h1 (V1.i (lA _ _ _) (by rw[show((d.toNat:Int)==10)=(d==10)from nj d 10];exact hk))
 refine V1.i (fP _ _ _) ?_;by_cases hd:d=10
 .subst hd;exact If.t ⟨by rw[hQ];rfl,rfl⟩
 .rw[show(true&&(d==10))=false by simpa using hd];rw[if_pos (by simpa using hd)]at hQ;refine If.f ?_;refine V1.i (cC _ _ _ _ _ _ aj aj) ?_;refine V1.i (cC _ _ _ _ _ _ aj aj) ?_;exact⟨⟨rfl,j+2,by simp;omega,by omega,.inl ⟨by omega,by rw[hQ];show eH _ _=_;congr 1;omega⟩⟩,by simp;omega⟩
theorem ye{s:By}{c:UInt8}{k:Nat}(h:mA s=some (c,k)):1<=k/\k<=s.length:=by
 rcases s with _|⟨a,l⟩
 .cases h
 rw[fJ]at h;split at h
 .cases h
 rename_i h1
 split at h
 .rename_i oT
  rcases l with _|⟨d,l⟩
  .exact absurd (.inr (.inr (.inr ⟨oT,rfl⟩))) h1
  split at h
  .split at h
   .cases h
   .rename_i h2
    simp only[not_or]at h2;injection h with h;injection h with _ h;subst h;omega
  .split at h
   .injection h with h;injection h with _ h;subst h;simp
   .cases h
 .injection h with h;injection h with _ h;subst h;simp
theorem c183(w:Wd)(m:By)(hl:m.length<=65000):Calls prog 183 #[str (34::(m++[34]))] w (aZ (λv w'=>v=.tuple #[str (gZ m).1,.int .i64 (gZ m).2]/\aD [] w w') NP):=by
 refine TO ?_;unfold LS;have hlen:(34::(m++[34]):By).length=m.length+2:=by simp
 have ua:(34::(m++[34]):By)[m.length+1]'aj=34:=by simp
 refine V1.i (eX _ _ _) ?_;refine V1.bf (by rw[hlen];simp[go_sem];omega) ?_;refine J1.gd (c:=false) false (λ_ k hk=>V1.i (dL _ (34::(m++[34])) 0 ak) (V1.i (OJ _ _ _) hk)) ?_;refine V1.i (fm _ _ _) ?_;refine J1.gd (c:=false) false (λ_ k hk=>?_) ?_
 .refine V1.i (eX _ _ _) ?_;rw[hlen];refine V1.i (v:=.int .i64 ((m.length+1:Nat):Int)) (w':=w) (by rw[jK _ _ _ _ _ _ aj aj];simp;omega) ?_;refine V1.i (dL _ (34::(m++[34])) (m.length+1) aj) ?_;rw[ua];exact V1.i (OJ _ _ _) hk
 refine V1.i (fm _ _ _) ?_;refine If.f ?_;refine V1.i (eX _ _ _) ?_;rw[hlen];refine V1.i (v:=.int .i64 ((m.length+1:Nat):Int)) (w':=w) (by rw[jK _ _ _ _ _ _ aj aj];simp;omega) ?_;refine V1.i (v:=str m) (w':=w) (by
  have:=qT w (34::(m++[34])) 1 (m.length+1) aj aj;simpa using this) ?_
 generalize eQ:w.heap.size=lo;refine L4.i (λx0 x1 a y w'=>∃(j:Nat) (acc:By) (f:Nat),y=.int .i64 j/\j<=m.length/\acc.length<=j/\m.length-j<f/\dK lo w' a acc/\aD [] w w'/\ef (m.length+1) m=(ef f (m.drop j)).map (acc++·)) (λx0 x1 a y _=>match y with|.int _ n=>m.length-n.toNat|_=>0)
  ⟨0,[],m.length+1,rfl,by omega,by simp,by omega,dK.nil _ _,aD.refl _ _,by simp⟩ ?_
 rintro x0 x1 a y w1 ⟨j,acc,f,rfl,hj,Sx,hf,A,K,he⟩;have hz:=K.size;refine V1.i (eX _ _ _) ?_;refine V1.i (iE _ _ _ _) ?_
 cases f with
 |zero=>omega
 |succ f=>
 by_cases bO:j<m.length
 rotate_left
 .rw[show decide ((j:Int)<(m.length:Int))=false by simp;omega];have hU:gZ m=if 4096<acc.length then([],3)else(acc,0):=by
   unfold gZ;rw[he];unfold ef;rw[if_pos (drop_eq_nil_of_le aj)];simp only[Option.map_some,List.append_nil]
  rw[hU];obtain⟨aa,ac,rfl⟩:=A.sl;refine If.f ?_;refine V1.i (v:=.int .i64 (acc.length:Nat)) (w':=w1) am ?_;refine V1.i (sT _ _ _ _) ?_;by_cases mW:4096<acc.length
  .rw[show decide ((4096:Int)<(acc.length:Int))=true by simp;omega,if_pos mW];exact If.t ⟨rfl,K⟩
  .rw[show decide ((4096:Int)<(acc.length:Int))=false by simp;omega,if_neg mW];refine If.f (V1.i A.str ⟨rfl,K⟩)
 have aI:m.drop j≠[]:=by
  intro h;have:=congrArg length h;simp at this
  omega
 rw[show decide ((j:Int)<(m.length:Int))=true by simp;omega];refine If.t (V1.i (mv _ m j aj) ?_);refine Ma (c210 w1 (m.drop j)) ?_ (NP.no (e:=_));rintro _ w2 ⟨rfl,K2⟩
 cases hu:mA (m.drop j)with
 |none=>
  have hU:gZ m=([],4):=by
   unfold gZ;rw[he];unfold ef;rw[if_neg aI,hu];rfl
  rw[hU];unfold E2;refine V1.i ah ?_;refine V1.i ah ?_;refine V1.bt am ?_;exact If.t ⟨rfl,K.trans K2⟩
 |some r=>
  obtain⟨c,k⟩:=r;have hk:=ye hu;rw[length_drop]at hk;unfold E2;refine V1.i ah ?_;refine V1.i ah ?_;refine V1.i (ya _ _ _ _) ?_;rw[show((k:Int)==0)=false by rw[beq_eq_false_iff_ne];omega];refine If.f ?_;have A2:=A.fr K2 ak;have CJ:=K2.size;refine mU [c] A2 aj ak ak (by rw[length_cons,length_nil];omega) (by simp[go_sem,pO]) λv' w3 A3 K3=>?_;refine V1.i (cC _ _ _ _ _ _ aj aj) ?_;refine⟨⟨j+k,acc++[c],f,by simp,by omega,by rw[length_append];simp;omega,by omega,A3,?_,?_⟩,by simp;omega⟩
  .have dw:=K.trans K2;exact⟨by have:=K3.size;omega,λq hq _=>(K3.same q aj (λhm=>by
    have:a.ownBlock=some q:=by simpa[mem_toList]using hm
    have:=A2.2 q this;omega)).trans (dw.same q hq ak),K3.io.1.trans dw.io.1,K3.io.2.trans dw.io.2⟩
  .rw[he];conv=>lhs;unfold ef
   rw[if_neg aI,hu];simp only[List.drop_drop,Option.map_map];congr 1
   funext z
   simp
def f10(acc:Nat)(d:By):Nat:=d.foldl (λa c=>10*a+(c.toNat-48)) acc
theorem yf:∀(d:By) (acc:Nat),acc*10^d.length<=f10 acc d
 |[],acc=>by simp[f10]
 |c::d,acc=>by
  have:=yf d (10*acc+(c.toNat-48));have h2:acc*10^(c::d).length=(10*acc)*10^d.length:=by rw[length_cons,Nat.pow_succ];ac_rfl
  rw[h2];refine le_trans (Nat.mul_le_mul_right _ aj) this
theorem yg:∀(d:By) (acc:Nat),(∀c∈d,yZ c)->f10 acc d<(acc+1)*10^d.length
 |[],acc,_=>by simp[f10]
 |c::d,acc,h=>by
  have:=yg d (10*acc+(c.toNat-48)) (λc hc=>h c (by simp[hc]));have hc:=h c ak;unfold yZ at hc;have h2:(acc+1)*10^(c::d).length=(10*(acc+1))*10^d.length:=by rw[length_cons,Nat.pow_succ];ac_rfl
  rw[h2];exact lt_of_lt_of_le this (Nat.mul_le_mul_right _ aj)
set_option maxHeartbeats 1000000 in
theorem T3(w:Wd)(d:By)(hd:∀c∈d,yZ c)(aI:d≠[])(hl:d.length<=65536):Calls prog 181 #[str d] w (aZ (λv w'=>v=.tuple #[.int .i64 (gY d).1,.int .i64 (gY d).2]/\w'=w) NP):=by
 refine TM ?_;unfold LN;obtain⟨c,l,rfl⟩:∃c l,d=c::l:=by
  cases d with
  |nil=>exact absurd rfl aI
  |cons c l=>exact⟨c,l,rfl⟩
 have hc:=hd c ak;unfold yZ at hc;have h0:∀{R:ER}{w:Wd}{k:VK},k (.int .u8 c.toNat) w->v1 R (Instr.index 9 (str (c::l)) (.int .i64 0)) w k:=λhk=>V1.i (dL _ (c::l) 0 ak) hk;refine V1.i (eX _ _ _) ?_;refine V1.i (sT _ _ _ _) ?_;rw[show decide ((0:Int)<((c::l).length:Nat))=true by simp];refine J1.go (Gd.tt (h0 (V1.i (lA _ _ _) ?_)));rw[show((c.toNat:Int)==45)=false by rw[beq_eq_false_iff_ne];omega];refine V1.bf am ?_;refine J1.go (If.f ?_);refine V1.i (eX _ _ _) ?_;refine V1.i (ya _ _ _ _) ?_;rw[show((((c::l).length:Nat):Int)==0)=false by rw[beq_eq_false_iff_ne];simp;omega];refine J1.cut (λv w'=>v=.bool (c==48)/\w'=w) ?_ ?_
 .exact Gd.ff (h0 (V1.i (lA _ _ _) ⟨by rw[show((c.toNat:Int)==48)=(c==48)from nj c 48],rfl⟩))
 rintro _ w ⟨rfl,rfl⟩;have Xj:decide ((1:Int)<(((c::l).length:Nat):Int))=decide (1<(c::l).length):=by
  rw[Bool.eq_iff_iff,decide_eq_true_eq,decide_eq_true_eq];omega
 have hP:gY (c::l)=if((c==48)&&decide (1<(c::l).length))=true then((0:Int),(4:Int))else if 9223372036854775808<=oN (c::l)then(0,15)else((oN (c::l):Int),0):=by
  unfold gY;congr 1
  rw[and_eq_true,beq_iff_eq,decide_eq_true_eq,List.headD_cons];apply propext
  constructor
  .rintro⟨h1,h2⟩;refine⟨h1,?_⟩
   cases l with
   |nil=>exact absurd (by rw[h1]) h2
   |cons=>simp
  .rintro⟨h1,h2⟩;refine⟨h1,λh=>?_⟩;rw[h]at h2;simp at h2
 rw[hP];refine J1.cut (λv w'=>w'=w/\v=if(c==48)=true then .bool (decide (1<(c::l).length))else undef) ?_ ?_
 .cases Xk:(c==48)with
  |false=>exact Gd.ft ⟨rfl,rfl⟩
  |true=>exact Gd.tt (V1.i (eX _ _ _) (V1.i (sT _ _ _ _) ⟨rfl,by rw[Xj];rfl⟩))
 rintro _ w ⟨rfl,rfl⟩;refine J1.cut (λv w'=>w'=w/\v=if((c==48)&&!decide (1<(c::l).length))=true then .bool false else undef) ?_ ?_
 .cases Xk:(c==48)with
  |false=>exact Gd.u ⟨rfl,rfl⟩
  |true=>
   cases hg:decide (1<(c::l).length)with
   |false=>exact Gd.ff ⟨rfl,rfl⟩
   |true=>exact Gd.tf ⟨rfl,rfl⟩
 rintro _ w ⟨rfl,rfl⟩;refine J1.cut (λv w'=>w'=w/\v=if(c==48)=true then .bool (decide (1<(c::l).length))else undef) ?_ ?_
 .cases Xk:(c==48)with
  |false=>exact Gd.ft ⟨rfl,rfl⟩
  |true=>
   refine Gd.tt ?_
   cases hg:decide (1<(c::l).length)with
   |false=>exact V1.bf am ⟨rfl,rfl⟩
   |true=>exact V1.bt am ⟨rfl,rfl⟩
 rintro _ w ⟨rfl,rfl⟩;refine J1.go (Gd.ff (V1.i (fP _ _ _) ?_));refine V1.i (v:=.bool ((c==48)&&decide (1<(c::l).length))) (w':=w) am ?_;refine If.b (λh=>?_) (λh=>?_)
 .rw[if_pos h];exact⟨rfl,rfl⟩
 rw[if_neg (by rw[h];simp)];have hz:∀k,(c::l).length=k+2->1<=c.toNat-48:=by
  intro k hk;have:c≠48:=by
   rintro rfl;simp at h
   rw[h]at hk;simp at hk
  have:c.toNat≠48:=λe=>this (UInt8.toNat_inj.1 e);omega
 have fu:oN (c::l)=f10 0 (c::l):=rfl;have eQ:=yf l (c.toNat-48);have jq:f10 0 (c::l)=f10 (c.toNat-48) l:=by unfold f10;simp
 clear h0 h hP Xj;rw[fu];generalize hs:c::l=s at*;refine L3.i (λx0 x1 y w'=>w'=w/\∃i:Nat,y=.int .i64 i/\i<=s.length) (λx0 x1 y _=>match y with|.int _ n=>s.length-n.toNat|_=>0) ⟨rfl,0,rfl,by omega⟩ ?_;rintro x0 x1 y w' ⟨rfl,i,rfl,hi⟩;refine V1.i (eX _ _ _) ?_;refine V1.i (iE _ _ _ _) ?_;by_cases bO:i<s.length
 .rw[show decide ((i:Int)<(s.length:Int))=true by simp;omega];have T4:=hd s[i] (getElem_mem bO);unfold yZ at T4;refine If.t (V1.i (dL _ s i bO) (V1.i (F7 _ _ _) ?_));refine J1.gd (c:=false) (decide ((57:Int)<(s[i]).toNat)) (λ_ k hk=>V1.i (dL _ s i bO) (V1.i (TV _ _ _) hk)) ?_;refine V1.i (fm _ _ _) ?_;refine If.b (λh=>by rw[or_eq_true,decide_eq_true_eq,decide_eq_true_eq]at h;omega) (λ_=>?_);refine V1.i (cC _ _ _ _ _ _ aj aj) ?_;exact⟨⟨rfl,i+1,by simp,by omega⟩,by simp;omega⟩
 rw[show decide ((i:Int)<(s.length:Int))=false by simp;omega];refine If.f ?_;refine V1.i (eX _ _ _) ?_;refine V1.i (sT _ _ _ _) ?_;by_cases h19:19<s.length
 .rw[show decide ((19:Int)<(s.length:Int))=true by simp;omega];have Ky:s.length=l.length+1:=by rw[←hs];rfl
  have h1:=hz (s.length-2) aj;have h2:10^19<=10^l.length:=Nat.pow_le_pow_right aj aj;have h3:10^l.length<=(c.toNat-48)*10^l.length:=Nat.le_mul_of_pos_left _ aj;rw[if_pos (by rw[jq];omega)];exact If.t ⟨rfl,rfl⟩
 rw[show decide ((19:Int)<(s.length:Int))=false by simp;omega];refine If.f ?_;refine L2.i (λx y w2=>w2=w'/\∃i:Nat,y=.int .i64 i/\i<=s.length/\x=.int .u64 (f10 0 (s.take i):Nat)) (λx y _=>match y with|.int _ n=>s.length-n.toNat|_=>0) ⟨rfl,0,rfl,by omega,rfl⟩ ?_;rintro x y w2 ⟨rfl,i,rfl,hi,rfl⟩;have Ev:f10 0 (s.take i)<10^i:=by
  have:=yg (s.take i) 0 (λc hc=>hd c (List.mem_of_mem_take hc));rw[List.length_take,Nat.min_eq_left hi]at this;omega
 have hp19:10^i<=10^19:=Nat.pow_le_pow_right aj aj;refine V1.i (eX _ _ _) ?_;refine V1.i (iE _ _ _ _) ?_;by_cases bO:i<s.length
 .rw[show decide ((i:Int)<(s.length:Int))=true by simp;omega];have T4:=hd s[i] (getElem_mem bO);unfold yZ at T4;have hp18:10^i<=10^18:=Nat.pow_le_pow_right aj aj;have e:f10 0 (s.take (i+1))=10*f10 0 (s.take i)+(s[i].toNat-48):=by
   rw[List.take_add_one,getElem?_eq_getElem bO];unfold f10;rw[List.foldl_append];rfl
  refine If.t ?_;refine V1.i (v:=.int .u64 ((10*f10 0 (s.take i):Nat):Int)) (w':=w2) (by simp[go_sem];rw[IntKind.wrap_u64];omega) ?_;refine V1.i (dL _ s i bO) ?_;refine V1.i (v:=.int .u8 ((s[i].toNat-48:Nat):Int)) (w':=w2) (by simp[go_sem];rw[IntKind.wrap_u8];omega) ?_;refine V1.i (v:=.int .u64 ((s[i].toNat-48:Nat):Int)) (w':=w2) (by simp[go_sem];rw[IntKind.wrap_u64];omega) ?_;refine V1.i (v:=.int .u64 ((10*f10 0 (s.take i)+(s[i].toNat-48):Nat):Int)) (w':=w2) (by simp[go_sem];rw[IntKind.wrap_u64];omega) ?_;refine V1.i (cC _ _ _ _ _ _ aj aj) ?_;exact⟨⟨rfl,i+1,by simp,by omega,by rw[e]⟩,by simp;omega⟩
 obtain rfl:i=s.length:=by omega
 rw[show decide ((s.length:Int)<(s.length:Int))=false by simp];rw[take_length]at Ev⊢;refine If.f ?_;refine J1.go (Gd.ft ?_);refine V1.bf am ?_;refine J1.go (Gd.ff ?_);refine V1.bt am ?_;refine J1.go (Gd.tt ?_);refine V1.i (v:=.bool (decide (9223372036854775808<=f10 0 s))) (w':=w2) ax ?_;refine J1.go (Gd.ff ?_);refine V1.i (v:=.bool (decide (9223372036854775808<=f10 0 s))) (w':=w2) am ?_;refine V1.i (v:=.bool (decide (9223372036854775808<=f10 0 s))) (w':=w2) am ?_;refine If.b (λh=>?_) (λh=>?_)
 .rw[if_pos (by simpa using h)];exact⟨rfl,rfl⟩
 .have h:¬9223372036854775808<=f10 0 s:=by simpa using h
  rw[if_neg h];refine If.f ?_;refine V1.i (v:=.int .i64 (f10 0 s:Nat)) (w':=w2) (by simp[go_sem];rw[IntWalk.i64_in _ aj]) ?_;exact⟨rfl,rfl⟩
def p7:LB:=[[47,47],[60,60],[62,62],[61,61],[126,61],[60,61],[62,61]]
theorem AQ(a b:UInt8):(![a,b].contains 32&&Lib.contains gw [a,b])=(p7.contains [a,b]||([a,b]==[46,46])):=by
 have h1:∀t∈p7++[[46,46]],(!t.contains 32&&Lib.contains gw t)=true:=by decide
 have h2:∀k:Nat,k<23->((gw.drop k).take 2).contains 32=true\/(gw.drop k).take 2∈p7++[[46,46]]\/((gw.drop k).take 2).length≠2:=by decide
 rw[Bool.eq_iff_iff];constructor
 .intro h;rw[and_eq_true,not_eq_true']at h;obtain⟨E0,hc⟩:=h;unfold Lib.contains at hc;rcases Lib.index_spec gw [a,b]with⟨h,_⟩|⟨i,_,hi,ho,_⟩
  .rw[h]at hc;simp at hc
  .unfold Lib.occAt at ho;have ht:(gw.drop i).take 2=[a,b]:=by
    rw[List.isPrefixOf_iff_prefix]at ho;have:=List.prefix_iff_eq_take.1 ho;exact this.symm
   have hl:i<23:=by
    rcases lt_or_ge i 23 with h|h
    .exact h
    .rw[drop_eq_nil_of_le (by exact h)]at ht;simp at ht
   rcases h2 i hl with h|h|h
   .rw[ht,E0]at h
    cases h
   .rw[ht]at h;simpa using h
   .rw[ht]at h;exact absurd rfl h
 .intro h;exact h1 [a,b] (by simpa using h)
def ir(s:By):Nat:=if 1<s.length/\(p7.contains (s.take 2)||(s.take 2==[46,46]))=true then 2 else if iw.contains (s.headD 0)=true then 1 else 0
theorem T5:(prog.info? 209).map (·.size)=some 7:=ai
theorem Mj{w:Wd}{b k:Nat}(h:k<7):(indexAt 209 (.pointer (some ⟨b,0,none⟩)) (.int .i64 k)).run prog w=.ok (.pointer (some ⟨b,k,none⟩)) w:=by
 have:(k:Int)<7:=by omega
 simp[go_sem,h,this,Addr.add]
 rintro rfl;rfl
set_option maxHeartbeats 1000000 in
theorem T6(w:Wd)(s:By)(i:Nat)(hi:i<s.length)(hl:s.length<=1099511627776):Calls prog 135 #[str s,.int .i64 i] w (aZ (λv w'=>v=.int .i64 (ir (s.drop i):Nat)/\aD [] w w') NP):=by
 refine TI ?_;unfold EX;refine V1.i (v:=.agg (p7.map str).toArray) (w':=w) (by simp[go_sem];rfl) ?_;refine V1.i (GZ w) ?_;refine U1.i (run_storeAt_new w 209 _ (p7.map str).toArray T5 rfl ai) ?_;have N:=nH.mk' w (p7.map str).toArray 209;simp only[toList_toArray]at N;generalize w.alloc (.cells (p7.map str).toArray 209)=w1 at N⊢;have vq:=N.ge;generalize w.heap.size=b at N vq⊢;have K0:=N.aA;have hT:∀{w':Wd},i+2<=s.length->(sliceAt 9 (str s) (some (.int .i64 i)) (some (.int .i64 ((i:Int)+2))) none).run prog w'=.ok (str ((s.drop i).take 2)) w':=λh=>by
  have:=qT ‹Wd› s i (i+2) aj h;rw[show i+2-i=2 by omega]at this;simpa using this
 have hlen:(s.drop i).length=s.length-i:=length_drop;refine L2.i (λx y w'=>∃k:Nat,y=.int .i64 k/\k<=7/\At w' b (p7.map str)/\aD [] w w'/\(i+2<=s.length->p7.contains ((s.drop i).take 2)=(p7.drop k).contains ((s.drop i).take 2))) (λx y _=>match y with|.int _ n=>7-n.toNat|_=>0) ⟨0,rfl,by omega,N.at_,K0,λ_=>rfl⟩ ?_;rintro x y w2 ⟨k,rfl,hk,a,K,he⟩;refine V1.i (iE _ _ _ _) ?_;by_cases bO:k<7
 .rw[show decide ((k:Int)<7)=true by simp;omega];have F2:k<p7.length:=bO;refine If.t ?_;have KD:aD [] w2 w2.drew:=(aD.refl _ _).drew;refine⟨λw'=>w'=w2.drew,rfl,?_⟩;refine Xv.i (.int .i64 ((i:Int)+2)) (λw' _=>cC w' _ _ _ _ _ aj aj) ?_;refine Xv.i _ (λw' _=>eX w' _ _) ?_;refine Xv.i _ (λw' _=>Mf w' _ _ _) ?_;rw[show decide ((i:Int)+2<=(s.length:Int))=decide (i+2<=s.length)by
   rw[Bool.eq_iff_iff,decide_eq_true_eq,decide_eq_true_eq];omega]
  refine Q1.gd (c:=true) ((s.drop i).take 2==p7[k]) (λh kx dO=>?_) ?_
  .have h:=of_decide_eq_true h;refine Xv.i (.int .i64 ((i:Int)+2)) (λw' _=>cC w' _ _ _ _ _ aj aj) ?_;refine Xv.i _ (λw' _=>hT h) ?_;refine Xv.i _ (λw' _=>Mj bO) ?_;refine Xv.i (str p7[k]) (λw' hw=>(aC rfl) _ _ _ (by subst hw;exact CI (KD.at a ak) F2)) ?_;exact Xv.i _ (λw' _=>zQ w' _ _ _ _) dO
  refine Xv.i _ (λw' _=>fP w' _ _) ?_;rintro w' rfl;refine If.b (λh=>?_) (λh=>?_)
  .rw[and_eq_true,decide_eq_true_eq]at h;refine⟨?_,K.trans KD⟩;have h2:(s.drop i).take 2=p7[k]:=by simpa using h.2
   have:p7.contains ((s.drop i).take 2)=true:=by
    rw[h2];simp
   unfold ir;rw[if_pos ⟨by omega,by rw[this];rfl⟩];rfl
  .refine V1.i (cC _ _ _ _ _ _ aj aj) ?_;refine⟨⟨k+1,by simp,by omega,KD.at a ak,K.trans KD,λh2=>?_⟩,by simp;omega⟩;rw[decide_eq_true h2,Bool.true_and]at h;rw[he h2,drop_eq_getElem_cons F2,contains_cons,h,Bool.false_or]
 obtain rfl:k=7:=by omega
 rw[show decide (((7:Nat):Int)<7)=false by rfl];refine If.f ?_;have gP:i+2<=s.length->p7.contains ((s.drop i).take 2)=false:=λh=>by rw[he h];rfl
 refine V1.i (v:=.int .i64 ((i:Int)+2)) (w':=w2) (cC w2 _ _ _ _ _ aj aj) ?_;refine V1.i (eX _ _ _) ?_;refine V1.i (Mf _ _ _ _) ?_;rw[show decide ((i:Int)+2<=(s.length:Int))=decide (i+2<=s.length)by
  rw[Bool.eq_iff_iff,decide_eq_true_eq,decide_eq_true_eq];omega]
 refine J1.gd (c:=true) ((s.drop i).take 2==[46,46]) (λh kx dO=>?_) ?_
 .have h:=of_decide_eq_true h;refine V1.i (v:=.int .i64 ((i:Int)+2)) (w':=w2) (cC w2 _ _ _ _ _ aj aj) ?_;refine V1.i (hT h) ?_;exact V1.i (mu _ _ _ _ _) dO
 refine V1.i (fP _ _ _) ?_;refine If.b (λh=>?_) (λh=>?_)
 .rw[and_eq_true,decide_eq_true_eq]at h;refine⟨?_,K⟩;unfold ir;rw[if_pos ⟨by omega,by rw[h.2,Bool.or_true]⟩];rfl
 have Ed:ir (s.drop i)=if iw.contains s[i]=true then 1 else 0:=by
  unfold ir;rw[if_neg (by
   rintro⟨h1,h2⟩;rw[gP aj,Bool.false_or]at h2;rw[decide_eq_true aj,h2]at h
   cases h),drop_eq_getElem_cons hi]
  rfl
 rw[Ed];refine L2.i (λx y w'=>∃k:Nat,y=.int .i64 k/\k<=iw.length/\aD [] w w'/\iw.contains s[i]=(iw.drop k).contains s[i]) (λx y _=>match y with|.int _ n=>19-n.toNat|_=>0) ⟨0,rfl,by omega,K,rfl⟩ ?_;clear K a he x;rintro x y w3 ⟨k,rfl,hk,K,he⟩;have Xl:iw.length=19:=rfl;refine V1.i (v:=.int .i64 19) (w':=w3) (eX w3 3 iw) ?_;refine V1.i (iE _ _ _ _) ?_;by_cases bO:k<19
 .rw[show decide ((k:Int)<19)=true by simp;omega];have F2:k<iw.length:=bO;refine If.t ?_;have KD:aD [] w3 w3.drew:=(aD.refl _ _).drew;refine⟨λw'=>w'=w3.drew,rfl,?_⟩;refine Xv.i _ (λw' _=>dL w' s i hi) ?_;refine Xv.i _ (λw' _=>dL w' iw k F2) ?_;refine Xv.i (.bool (s[i]==iw[k])) (λw' _=>by rw[←nj];simp[go_sem]) ?_;rintro w' rfl;rw[he,drop_eq_getElem_cons F2,contains_cons];refine If.b (λh=>?_) (λh=>?_)
  .refine⟨?_,K.trans KD⟩;rw[h];rfl
  .refine V1.i (cC _ _ _ _ _ _ aj aj) ?_;refine⟨⟨k+1,by simp,by omega,K.trans KD,by rw[h,Bool.false_or]⟩,by simp;omega⟩
 .obtain rfl:k=19:=by omega
  refine If.f ⟨?_,K⟩;rw[he];rfl
end Go.Proofs.YtoddjlclpnoomaaGreatDoor

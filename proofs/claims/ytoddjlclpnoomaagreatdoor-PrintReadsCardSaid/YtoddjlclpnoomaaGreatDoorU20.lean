import Derived.Deep.WholeRow
import Derived.Laws.RangeAny
import Derived.Lib.OthersKept
import Derived.Lib.TrimAscii
import Derived.Lib.TrimUEq
import Derived.Test.YtoddjlclpnoomaaGreatDoorU19
set_option linter.unusedVariables false
set_option linter.unusedSimpArgs false
set_option maxRecDepth 100000
open Go.Proofs.Tryz
open Go.Instr (indexAt)
open List (cons_append map_cons contains_cons drop_eq_getElem_cons getElem_mem length_cons take_succ_eq_append_getElem toList_toArray take_succ_cons length_nil take_length set_cons_zero set_cons_succ take_zero dropWhile_cons length_drop map_nil sum_cons sum_nil)
open Nat (le_refl le_trans)
open Go.Value (cells)
open Bool (false_eq_true or_eq_false_iff)
namespace Go.Proofs.YtoddjlclpnoomaaGreatDoor
open Go.Sh
def sI(w:Wd)(r:Nat)(s:By)(pos:Nat):Prop:=w.heap[r]?=some (.stringIter ⟨s.toArray⟩ pos)
theorem sI.lt{w:Wd}{r:Nat}{s:By}{pos:Nat}(h:sI w r s pos):r<w.heap.size:=(Array.getElem?_eq_some_iff.1 h).1
theorem sI.aA{M:List Nat}{w w':Wd}{r:Nat}{s:By}{pos:Nat}(h:sI w r s pos)(hk:aD M w w')(hr:r∉M):sI w' r s pos:=by
 unfold sI at*;rw[hk.same r (sI.lt h) hr,h]
theorem V1.sJ{w:Wd}{s:By}{k:VK}{e:EK}(hk:∀r w',sI w' r s 0->w.heap.size<=r->aD [] w w'->k (ptr r) w'):V1 prog (Instr.range 9 (str s)) w k e:=
 V1.i (run_range_string (P:=prog) w 9 ⟨s.toArray⟩ ai) (hk _ _ (by unfold sI World.iter;rw[fG,if_pos rfl]) (le_refl _) ((aD.refl _ _).alloc _))
def RC(b:UInt8)(c n:Nat):Prop:=(b.toNat<128/\c=b.toNat/\n=1)\/(128<=b.toNat/\128<=c/\1<=n)
theorem Cr(s:By)(pos:Nat)(h:pos<s.length):RC s[pos] (Utf8.decode ⟨s.toArray⟩ pos).1 (Utf8.decode ⟨s.toArray⟩ pos).2:=by
 by_cases hb:s[pos].toNat<128
 .left
  rw[decode_ascii ⟨s.toArray⟩ pos h hb];exact⟨hb,rfl,rfl⟩
 .right
  exact⟨by omega,decode_high ⟨s.toArray⟩ pos h (by show 128<=s[pos].toNat;omega)⟩
theorem V1.xA{w:Wd}{r pos:Nat}{s:By}{k:VK}{e:EK}(h:sI w r s pos)
  (hk:∀(hp:pos<s.length) c n w',RC s[pos] c n->sI w' r s (pos+n)->aD [r] w w'->k (.tuple #[.bool true,.int .i64 pos,.int .i32 c]) w')
  (he:s.length<=pos->k (.tuple #[.bool false]) w):V1 prog (Instr.next (ptr r) true 0) w k e:=by
 by_cases hp:pos<s.length
 .refine V1.i (Lib.run_next_any_at (P:=prog) w r ⟨s.toArray⟩ pos 0 h hp) (hk hp _ _ _ (Cr s pos hp) (Lib.iterAt_heap _ _ _ _ _ h) ⟨by rw[Lib.iterAt_size];exact le_refl _,λi hi hm=>Lib.iterAt_other _ _ _ _ _ (by simpa using hm),rfl,rfl⟩)
 .exact V1.i (Lib.run_next_end_at (P:=prog) w r ⟨s.toArray⟩ pos 0 h hp) (he aj)
def vE(c:Nat)(set:By):Bool:=set.any λd=>d.toNat==c
theorem uT(b:UInt8)(set:By):vE b.toNat set=set.contains b:=by
 unfold vE;induction set with
 |nil=>rfl
 |cons d l ih=>
  simp only[List.any_cons,contains_cons,ih];congr 1
  by_cases h:b=d
  .subst h;simp
  .have h1:(b==d)=false:=by simpa using h
   have h2:(d.toNat==b.toNat)=false:=by simpa using λe=>h (UInt8.toNat_inj.1 e).symm
   rw[h1,h2]
theorem xB{c:Nat}{set:By}(ha:∀b∈set,b.toNat<128)(hc:128<=c):vE c set=false:=by
 unfold vE;rw[List.any_eq_false];intro d hd;have:=ha d hd;simp;omega
theorem xC{b:UInt8}{c n:Nat}{set:By}(ha:∀b∈set,b.toNat<128)(h:RC b c n):vE c set=set.contains b:=by
 rcases h with⟨h1,rfl,_⟩|⟨h1,h2,_⟩
 .exact uT b set
 .rw[xB ha h2];symm
  rw[Bool.eq_false_iff];intro hc;have:=ha b (List.contains_iff_mem.1 hc);omega
theorem qP(c:Nat)(set:By)(j:Nat)(h:j<set.length):(vE c (set.take j)||(c==set[j].toNat))=vE c (set.take (j+1)):=by
 unfold vE;rw[take_succ_eq_append_getElem h,List.any_append];simp only[List.any_cons,List.any_nil,Bool.or_false];congr 1
 exact Bool.beq_comm
theorem KI(w:Wd)(cx cy:Bool)(a b:Nat):(Bo .eql 21 cx cy (.int .i32 a) (.int .i32 b)).run prog w=.ok (.bool (a==b)) w:=by
 have:((a:Int)==(b:Int))=(a==b):=by
  by_cases h:a=b
  .subst h;simp
  .have h2:(a==b)=false:=by simpa using h
   rw[h2];simp;omega
 simp[go_sem,Bo,this]
theorem c168(w:Wd)(s set:By)(hs:s.length<=1099511627776)(ha:∀b∈set,b.toNat<128):
  Calls prog 168 #[str s,str set] w (aZ (λv w'=>v=str (s.dropWhile (λb=>set.contains b))/\aD [] w w') NP):=by
 refine PA ?_;unfold Hq;refine V1.sJ λr w1 hr gr K1=>?_;refine L1.i (λv w'=>∃pos,pos<=s.length/\sI w' r s pos/\aD [] w w'/\s.dropWhile (λb=>set.contains b)=(s.drop pos).dropWhile (λb=>set.contains b)) (λv w'=>s.length-(match w'.heap[r]? with|some (.stringIter _ p)=>p|_=>0)) ⟨0,by omega,hr,K1,rfl⟩ ?_;clear hr K1;rintro v w1 ⟨pos,hp,hr,K1,hd⟩;have hlr:=hr.lt;refine V1.xA hr (λbO c n w2 EF gh K2=>?_) (λzq=>?_)
 .have dw:aD [] w w2:=K1.trans' K2 al;rw[drop_eq_getElem_cons bO]at hd;refine V1.i ah ?_;refine If.t ?_;refine V1.i ah ?_;refine V1.i ah ?_;refine V1.sJ λq w3 hq gq K3=>?_;have z2:=dw.size;have z21:=K2.size;have iA:aD [] w w3:=dw.trans' K3 ak;have Ao:=gh.aA K3 ak;have xE:q≠r:=by omega
  refine L1.i (λv w'=>∃j,j<=set.length/\v=.bool (vE c (set.take j))/\sI w' q set j/\sI w' r s (pos+n)/\aD [] w w') (λv w'=>set.length-(match w'.heap[q]? with|some (.stringIter _ p)=>p|_=>0)) ⟨0,by omega,by simp[vE],hq,Ao,iA⟩ ?_;rintro v w4 ⟨j,hj,rfl,KJ,SL,K4⟩;refine V1.xA KJ (λlh d m w5 uo KM K5=>?_) (λzq=>?_)
  .have hda:=ha set[j] (getElem_mem _);rcases uo with⟨_,rfl,rfl⟩|⟨h1,_⟩
   .refine V1.i ah ?_;refine If.t ?_;refine V1.i ah ?_;refine J1.gd (c==set[j].toNat) (λh k hk=>?_) ?_
    .exact V1.i (KI _ _ _ c set[j].toNat) hk
    refine V1.i (fm _ _ _) ?_;rw[qP c set j lh];have e4:w4.heap[q]?=_:=KJ;have e5:w5.heap[q]?=_:=KM;exact⟨⟨j+1,by omega,rfl,KM,SL.aA K5 (by simpa using λe=>xE e.symm),K4.trans' K5 al⟩,by rw[e4,e5];simp;omega⟩
   .omega
  .refine V1.i ah ?_;refine If.f ?_;refine V1.i ah ?_;have:j=set.length:=by omega
   subst this;rw[take_length,xC ha EF]
   cases lK:set.contains s[pos]with
   |false=>
    refine If.t ?_;refine V1.i (mv _ s pos aj) ?_;refine⟨?_,K4⟩;rw[hd,dropWhile_cons,lK,←drop_eq_getElem_cons bO];rfl
   |true=>
    refine If.f ?_;have e1:w1.heap[r]?=_:=hr;have e4:w4.heap[r]?=_:=SL;rcases EF with⟨_,rfl,rfl⟩|⟨h1,_⟩
    .exact⟨⟨pos+1,by omega,SL,K4,by rw[hd,dropWhile_cons,lK];rfl⟩,by rw[e1,e4];simp;omega⟩
    .have:=ha _ (List.contains_iff_mem.1 lK);omega
 .refine V1.i ah ?_;refine If.f ?_;have:pos=s.length:=by omega
  subst this;rw[List.drop_length]at hd;exact⟨by rw[hd];rfl,K1⟩
def mQ(s set:By):By:=(s.reverse.dropWhile (λb=>set.contains b)).reverse
theorem xG{s set:By}{b:UInt8}(h:set.contains b=true):mQ (s++[b]) set=mQ s set:=by
 simp only[mQ,List.reverse_append,List.reverse_cons,List.reverse_nil,List.nil_append,cons_append,dropWhile_cons,h,if_true]
theorem Az{s set:By}{b:UInt8}(h:set.contains b=false):mQ (s++[b]) set=s++[b]:=by
 simp only[mQ,List.reverse_append,List.reverse_cons,List.reverse_nil,List.nil_append,cons_append,dropWhile_cons,h,false_eq_true,if_false,List.reverse_reverse]
theorem AA(t:By)(b:UInt8):RC b (Lib.decodeLastL (t++[b])).1 (Lib.decodeLastL (t++[b])).2:=by
 by_cases hb:b.toNat<128
 .left
  rw[Lib.decodeLastL_ascii t b hb];exact⟨hb,rfl,rfl⟩
 .right
  have hw:=(Lib.decodeLastL_width (t++[b]) ak).1;refine⟨by omega,?_,hw⟩;have hg:(t++[b]).getD ((t++[b]).length-1) 0=b:=by simp[List.getD]
  unfold Lib.decodeLastL;rw[if_neg ak,hg,if_neg hb];simp only
  split
  .rename_i hl
   have hls:Lib.lastStart (t++[b])+2<=(t++[b]).length\/Lib.lastStart (t++[b])=0:=by
    unfold Lib.lastStart;simp only
    repeat' split
    all_goals omega
   have aI:Lib.lastStart (t++[b])<(t++[b]).length:=by
    rcases hls with h|h
    .omega
    .rw[h];simp
   have EF:=Cr ((t++[b]).drop (Lib.lastStart (t++[b]))) 0 (by rw[length_drop];omega);rcases EF with⟨h1,h2,h3⟩|⟨h1,h2,h3⟩
   .exfalso
    unfold Lib.decodeL at hl;rw[h3]at hl;have e:Lib.lastStart (t++[b])=t.length:=by simp at hl;omega
    have e2:((t++[b]).drop (Lib.lastStart (t++[b])))[0]'(by rw[length_drop];omega)=b:=by simp[e]
    rw[e2]at h1;omega
   .exact h2
  .simp[Utf8.runeError]
theorem c167(w:Wd)(s set:By)(g:GL w)(hs:s.length<=1099511627776)(ha:∀b∈set,b.toNat<128):
  Calls prog 167 #[str s,str set] w (aZ (λv w'=>v=str (mQ s set)/\aD [] w w') NP):=by
 refine Pz ?_;unfold Ho;refine L2.i (λu v w'=>∃t,t.length<=s.length/\v=str t/\aD [] w w'/\mQ s set=mQ t set) (λu v w'=>match v with|.string b=>b.size|_=>0) ⟨s,by omega,rfl,aD.refl _ _,rfl⟩ ?_;rintro u v w1 ⟨t,ht,rfl,K1,hd⟩;have g1:=g.new K1;rcases List.eq_nil_or_concat t with rfl|⟨l,b,KN⟩
 .refine V1.i ah ?_;refine If.b (λh=>by simp at h) (λ_=>?_);exact⟨by rw[hd];rfl,K1⟩
 rw[List.concat_eq_append]at KN;subst KN
 .refine V1.i ah ?_;refine If.b (λh=>?_) (λh=>absurd h ak);have KP:(l++[b]).length<=9223372036854775807:=le_trans (le_trans ht hs) ay;have SM:=c206 w1 (l++[b]) g1 KP;refine Ie (SM) ?_ (NP.no (e:=_));rintro _ w2 ⟨rfl,K2⟩;have EF:=AA l b;generalize(Lib.decodeLastL (l++[b])).1=c at*;generalize(Lib.decodeLastL (l++[b])).2=n at*;refine V1.i ah ?_;refine V1.i ah ?_;refine V1.sJ λq w3 hq gq K3=>?_;have iA:aD [] w w3:=(K1.trans' K2 ak).trans' K3 ak;have z2:=(K1.trans' K2 ak).size
  refine L1.i (λv w'=>∃j,j<=set.length/\v=.bool (vE c (set.take j))/\sI w' q set j/\aD [] w w') (λv w'=>set.length-(match w'.heap[q]? with|some (.stringIter _ p)=>p|_=>0)) ⟨0,by omega,by simp[vE],hq,iA⟩ ?_;rintro v w4 ⟨j,hj,rfl,KJ,K4⟩;refine V1.xA KJ (λlh d m w5 uo KM K5=>?_) (λzq=>?_)
  .have hda:=ha set[j] (getElem_mem _);rcases uo with⟨_,rfl,rfl⟩|⟨h1,_⟩
   .refine V1.i ah ?_;refine If.t ?_;refine V1.i ah ?_;refine J1.gd (c==set[j].toNat) (λh k hk=>?_) ?_
    .exact V1.i (KI _ _ _ c set[j].toNat) hk
    refine V1.i (fm _ _ _) ?_;rw[qP c set j lh];have e4:w4.heap[q]?=_:=KJ;have e5:w5.heap[q]?=_:=KM;exact⟨⟨j+1,by omega,rfl,KM,K4.trans' K5 al⟩,by rw[e4,e5];simp;omega⟩
   .omega
  .refine V1.i ah ?_;refine If.f ?_;refine V1.i ah ?_;have:j=set.length:=by omega
   subst this;rw[take_length,xC ha EF]
   cases lK:set.contains b with
   |false=>
    refine If.t ?_;exact⟨by rw[hd,Az lK],K4⟩
   |true=>
    refine If.f ?_;rcases EF with⟨_,rfl,rfl⟩|⟨h1,_⟩
    .refine V1.i ah ?_;refine V1.i (v:=.int .i64 l.length) (w':=w4) (by rw[jK];simp;all_goals(simp at ht⊢<;>omega)) ?_;refine V1.i (yW _ (l++[b]) l.length ak) ?_;rw[List.take_left];exact⟨⟨l,by simp at ht;omega,rfl,K4,by rw[hd,xG lK]⟩,by simp[str,ByteArray.size]⟩
    .have:=ha _ (List.contains_iff_mem.1 lK);omega
theorem o0{p:UInt8->Bool}:∀{l:By},l.dropWhile p=[]↔l.all p=true
 |[]=>by simp
 |b::l=>by
  rw[dropWhile_cons,List.all_cons]
  cases h:p b with
  |true=>simpa using o0
  |false=>simp
theorem AB(s set:By):(mQ (s.dropWhile (λb=>set.contains b)) set==[])=s.all (λb=>set.contains b):=by
 have h1:(mQ (s.dropWhile (λb=>set.contains b)) set=[])↔s.all (λb=>set.contains b)=true:=by
  constructor
  .intro h;have h2:(s.dropWhile (λb=>set.contains b)).all (λb=>set.contains b)=true:=by
    rw[mQ,List.reverse_eq_nil_iff,o0,List.all_reverse]at h;exact h
   cases hs:s.dropWhile (λb=>set.contains b)with
   |nil=>exact o0.1 hs
   |cons b l=>
    rw[hs,List.all_cons]at h2;have h3:=List.head?_dropWhile_not (λb=>set.contains b) s;rw[hs]at h3;simp only[List.head?_cons]at h3;rw[h3]at h2;simp at h2
  .intro h;rw[o0.2 h];rfl
 cases hb:s.all (λb=>set.contains b)with
 |true=>rw[h1.2 hb];rfl
 |false=>
  rw[Bool.eq_false_iff];intro h;have:=h1.1 (by simpa using h);rw[hb]at this
  cases this
theorem TX.fo{w:Wd}{b q:Nat}{buf:By}{parts:Nat}(h:TX w b buf parts)(hq:w.heap.size<=q):FO b w q:=by
 obtain⟨lo,⟨ad,v,ab,sx,hv,aI,vq,eQ⟩,g,F3,_⟩:=h;refine⟨by omega,λrJ v' fz h' e=>?_⟩;have:=ib ab h';injection this with h1 h2;injection h2 with h2 h3;subst h2;have:=(hv.lt e).2;omega
theorem TX.eR{w w':Wd}{b q:Nat}{buf:By}{parts:Nat}(h:TX w b buf parts)(hk:aD [] w w')(hq:w.heap.size<=q):FO b w' q:=by
 have h1:=h.fo hq;refine⟨h1.1,λad v rest h' e=>?_⟩;obtain⟨ad0,v0,rest0,JO⟩:=h.ab;have:=ib (hk.at JO ak) h';injection this with e1 e2;injection e2 with e2 e3;subst e2;exact h1.2 _ _ _ JO e
theorem KO.rep{b:Nat}{w w':Wd}{t:Tr}{m:Md}{buf:By}{parts:Nat}(h:KO b w w')(ht:TX w b buf parts)(hr:aU (FO b w) w t m):aU (FO b w') w' t m:=by
 obtain⟨M,hk,hM⟩:=h.same ht.ab (M:=[]);exact aU.aA hk hM t m hr
theorem KO.strs{b:Nat}{w w':Wd}{v:Va}{ss:LB}{buf:By}{parts:Nat}(h:KO b w w')(ht:TX w b buf parts)(hr:Strs (FO b w) w v ss):Strs (FO b w') w' v ss:=by
 obtain⟨M,hk,hM⟩:=h.same ht.ab (M:=[]);exact Strs.aA hk hM hr
theorem KO.at{b q:Nat}{w w':Wd}{cs:LV}{buf:By}{parts:Nat}(h:KO b w w')(ht:TX w b buf parts)(ha:At w q cs)(hq:FO b w q):At w' q cs/\FO b w' q:=by
 obtain⟨M,hk,hM⟩:=h.same ht.ab (M:=[]);exact⟨hk.at ha (hM q hq ha.lt).1,(hM q hq ha.lt).2⟩
theorem F4{w:Wd}{b:Nat}{buf:By}{parts:Nat}{r:PR}(h:TX w b buf parts)(hr:eT buf parts=r):
  Calls prog 61 #[ptr b] w (aZ (λ_=>cK w b r) (cJ w b r)):=by
 refine Yz ?_;unfold VT ptr;have h':=h;obtain⟨lo,⟨ad,v,ab,sx,hv,aI,vq,eQ⟩,g,F3,hlen,kL⟩:=h';refine Up.i (Nc.p _ _) ?_;refine V1.i ah ?_;refine V1.load (aC rfl) (ab) rfl ?_;refine V1.i (cC _ _ _ _ _ _ aj aj) ?_;refine Up.i (Nc.p _ _) ?_;refine V1.i ah ?_;refine U1.store (aO rfl rfl) (ab) ak λw1 U1=>?_;have KQ:=U1.at_;simp only[set_cons_zero,set_cons_succ]at KQ;refine Up.i (Nc.p _ _) ?_;refine V1.i ah ?_;refine V1.load (aC rfl) (KQ) rfl ?_;have F1:BX lo w1 b [.int .i64 (parts+1:Nat)] buf:=by
  refine⟨ad,v,by simpa using KQ,?_,hv.fr U1.aA al,aI,vq,by have:=U1.size;omega⟩;rcases sx with⟨rfl,e,n,qC,BL⟩|rfl
  .exact .inl ⟨rfl,e,n,by rw[U1.Yk];exact qC,BL⟩
  .exact .inr rfl
 have g1:GL w1:=g.aA U1.aA al;have K1:KO b w w1:=by
  refine KO.of ab (U1.aA.mono ak) λrJ v' fz h' g hg=>?_;have:=ib KQ h';injection this with h1 h2;injection h2 with h2 h3;subst h2;exact .inl hg
 refine V1.i (v:=.bool (decide (parts+1<=65536))) (w':=w1) ax ?_;unfold eT at hr;refine gX (c20 w1 _ 3) ?_ ?_;rotate_left
 .rintro c w3 ⟨jS,rfl,rfl⟩;have:¬parts+1<=65536:=by simpa using jS
  rw[if_neg this]at hr;subst hr;exact⟨rfl,K1,⟨_,_,_,KQ⟩,g1⟩
 rintro _ w3 ⟨jS,rfl⟩;have hle:parts+1<=65536:=by simpa using jS
 rw[if_pos hle]at hr;subst hr;exact⟨⟨lo,F1,g1,F3,hlen,by omega⟩,K1⟩
theorem KS{w:Wd}{b:Nat}{buf:By}{parts:Nat}{e:Tr}{v:Va}(h:TX w b buf parts)(hr:aU (FO b w) w e (.P v))(hk:kn e=true):
  Calls prog 64 #[v] w (aZ (λv' w'=>aU (FO b w') w' (eg e) (.P v')/\aD [] w w') NP):=by
 refine YC ?_;unfold S64
 cases e with
 |nil=>
  obtain rfl:v=.pointer none:=hr;refine V1.i ah ?_;refine If.t ?_;refine V1.i ah ?_;refine V1.new (jJ _ _) λb1 w1 N1=>?_;have oR:=N1.ge;have pJ:=N1.lt;have pK:=N1.aA.size;have a1:=N1.at_;try simp only[cells,toList_toArray]at a1
  refine⟨⟨b1,0,.pointer none,.pointer none,.slice none 0 0,.slice none 0 0,.slice none 0 0,.slice none 0 0,rfl,?_,?_,rfl,rfl,.inl rfl,.inl rfl,.inl ⟨rfl,rfl⟩,.inl rfl⟩,N1.aA⟩
  .exact h.eR N1.aA N1.ge
  .have:=N1.at_;simpa[cells,str]using this
 |ex k n text l r keys args params body=>
  obtain⟨c,line,lv,rv,kv,av,pv,bv,rfl,h1,h2,h3⟩:=hr;unfold ptr;refine V1.i ah ?_;refine If.f ?_;exact⟨⟨c,line,lv,rv,kv,av,pv,bv,rfl,h1,h2,h3⟩,aD.refl _ _⟩
 |hole=>cases hk
 |cons=>cases hk
 |st=>cases hk
theorem c227{w:Wd}{b:Nat}{ss:LB}(hb:At w b (ss.map str))(hn:ss.length<=100)(s:By):
  Calls prog 227 #[strs b ss.length,str s] w (aZ (λv w'=>(∃i:Int,v=.int .i64 i/\decide (0<=i)=ss.contains s)/\w'=w) NP):=by
 refine PK ?_;unfold HB strs;refine V1.i ah ?_;refine L2.i (λu v w'=>w'=w/\∃j:Nat,j<=ss.length/\v=.int .i64 j/\ss.contains s=(ss.drop j).contains s) (λu v w'=>match v with|.int _ n=>(ss.length-n.toNat)|_=>0) ⟨rfl,0,by omega,rfl,by simp⟩ ?_;rintro u v w1 ⟨rfl,j,hj,rfl,hm⟩;by_cases bO:j<ss.length
 .rw[drop_eq_getElem_cons bO,contains_cons]at hm;refine V1.bt ax ?_;refine If.t ?_;refine V1.i (lG _ bO) ?_;refine V1.load (aC rfl) hb (v:=str ss[j]) (by simp[bO]) ?_;refine V1.i (zQ _ _ _ s ss[j]) ?_
  cases he:(s==ss[j])with
  |true=>
   refine If.t ?_;exact⟨⟨j,rfl,by rw[hm,he];simp⟩,rfl⟩
  |false=>
   refine If.f ?_;refine V1.i (cC _ _ _ _ _ _ aj aj) ?_;exact⟨⟨rfl,j+1,by omega,by simp,by rw[hm,he];simp⟩,by simp;omega⟩
 .have:j=ss.length:=by omega
  subst this;refine V1.bf am ?_;refine If.f ?_;exact⟨⟨-1,rfl,by rw[hm];simp⟩,rfl⟩
theorem SN{w:Wd}{b:Nat}{ss:LB}(hb:At w b (ss.map str))(hn:ss.length<=100)(s:By):
  Calls prog 207 #[strs b ss.length,str s] w (aZ (λv w'=>v=.bool (ss.contains s)/\w'=w) NP):=by
 refine PJ ?_;unfold Hz;refine HC (c227 hb hn s) ?_ (NP.no (e:=_));rintro _ w1 ⟨⟨i,rfl,hi⟩,rfl⟩;refine V1.i (v:=.bool (decide (0<=i))) (w':=w1) am ?_;exact⟨by rw[hi],rfl⟩
def xH:AV:=(iB.map str).toArray
theorem KT:(prog.info? 235).map (·.size)=some 10:=ai
theorem SO:prog.underlying 235=some (.array 10 9):=ai
theorem KU(w:Wd)(k:Nat)(h:k<10):(Instr.index 235 (.agg xH) (.int .i64 k)).run prog w=.ok (str (iB.getD k [])) w:=by
 have:k=0\/k=1\/k=2\/k=3\/k=4\/k=5\/k=6\/k=7\/k=8\/k=9:=by omega
 rcases this with rfl|rfl|rfl|rfl|rfl|rfl|rfl|rfl|rfl|rfl<;>(show _=_;kernel_rfl)
theorem xI(s:By):∀k:Nat,k<=10->(∀j,j<k->(ma j).contains s=false)->(k<10->(ma k).contains s=true->bD s=k+1)/\(k=10->bD s=0):=by
 intro k hk gP;constructor
 .intro bO hc;have nt:(s,(k:Int)+1)∈opsL:=by
   have h1:∀k,k<10->∀x∈ma k,(x,(k:Int)+1)∈opsL:=by decide
   exact h1 k bO s (List.contains_iff_mem.1 hc)
  exact nV _ nt
 .rintro rfl;refine nW s λp hp e=>?_;subst e;have h1:∀p∈opsL,∃j,j<10/\(ma j).contains p.1=true:=by decide
  obtain⟨j,hj,hc⟩:=h1 p hp;rw[gP j hj]at hc
  cases hc
theorem c171(w:Wd)(s:By)(g:GL w):Calls prog 171 #[str s] w (aZ (λv w'=>v=.int .i64 (bD s)/\aD [] w w') NP):=by
 refine PE ?_;unfold DK;refine V1.i (v:=.agg xH) (w':=w) (by simp[go_sem];rfl) ?_;refine V1.i (G3 w) ?_;have K0:aD [] w (w.alloc (.cells xH 235)):=(aD.refl _ _).alloc _;refine U1.i (run_storeAt_new w 235 _ xH KT rfl ai) ?_;refine V1.i (run_loadAt_new w 235 xH 10 9 SO KT) ?_;refine L2.i (λu v w'=>∃k:Nat,k<=10/\v=.int .i64 k/\aD [] w w'/\∀j,j<k->(ma j).contains s=false) (λu v w'=>match v with|.int _ n=>(10-n.toNat)|_=>0) ⟨0,by omega,rfl,K0,λj hj=>by omega⟩ ?_;rintro u v w1 ⟨k,hk,rfl,K1,gP⟩;have KN:=xI s k hk gP;by_cases bO:k<10
 .refine V1.bt ax ?_;refine If.t ?_;refine V1.i (v:=str (iB.getD k [])) (w':=w1) (KU w1 k bO) ?_;obtain⟨Ky,wW⟩:=xn k bO;refine H7 (Wh w1 (iB.getD k []) (g.new K1) aj wW) ?_ (NP.no (e:=_));rintro _ w4 ⟨b4,rfl,N4⟩;have Z8:=xo k bO;have e1:Lib.fields (iB.getD k [])=ma k:=rfl;rw[e1]at N4⊢;have K4:=K1.trans' N4.aA ak;refine HA (SN (N4.at_) aj s) ?_ (NP.no (e:=_));rintro _ w5 ⟨rfl,rfl⟩
  cases hc:(ma k).contains s with
  |true=>
   refine If.t ?_;refine V1.i (cC _ _ _ _ _ _ aj aj) ?_;exact⟨by rw[KN.1 bO hc],K4⟩
  |false=>
   refine If.f ?_;refine V1.i (cC _ _ _ _ _ _ aj aj) ?_;exact⟨⟨k+1,by omega,by simp,K4,λj hj=>by
    rcases Nat.lt_or_eq_of_le (Nat.lt_succ_iff.1 hj)with h|rfl
    .exact gP j h
    .exact hc⟩,by simp;omega⟩
 .have:k=10:=by omega
  subst this;refine V1.bf am ?_;refine If.f ?_;exact⟨by rw[KN.2 rfl],K1⟩
theorem SP{w:Wd}{b:Nat}(hb:At w b [.int .i64 10,.int .i64 11,.int .i64 9])(k:Int):
  Calls prog 205 #[.slice (some ⟨b,0,none⟩) 3 3,.int .i64 k] w (aZ (λv w'=>(∃i:Int,v=.int .i64 i/\decide (0<=i)=(k==10||k==11||k==9))/\w'=w) NP):=by
 refine PH ?_;unfold Hx;refine V1.i ah ?_;refine L2.i (λu v w'=>w'=w/\∃j:Nat,j<=3/\v=.int .i64 j/\((k==10||k==11||k==9)=((([10,11,9]:List Int).drop j).any λx=>k==x))) (λu v w'=>match v with|.int _ n=>(3-n.toNat)|_=>0) ⟨rfl,0,by omega,rfl,by simp[Bool.or_assoc]⟩ ?_;rintro u v w1 ⟨rfl,j,hj,rfl,hm⟩;have SQ:∀j:Nat,j<3->(indexAt 199 (.slice (some ⟨b,0,none⟩) 3 3) (.int .i64 j)).run prog w1=.ok (.pointer (some ⟨b,j,none⟩)) w1:=by
  intro j hj;have h1:(j:Int)<3:=by omega
  simp[go_sem,hj,h1,Addr.add]
  try(rintro rfl;rfl)
 have hj4:j=0\/j=1\/j=2\/j=3:=by omega
 rcases hj4 with rfl|rfl|rfl|rfl
 .refine V1.i ah ?_;refine If.t ?_;refine V1.i (SQ 0 aj) ?_;refine V1.load (aC rfl) (hb) rfl ?_;refine V1.i (v:=.bool (k==10)) (w':=w1) am ?_
  cases he:(k==10)with
  |true=>exact If.t ⟨⟨0,rfl,by rfl⟩,rfl⟩
  |false=>
   refine If.f ?_;refine V1.i (cC _ _ _ _ _ _ aj aj) ?_;exact⟨⟨rfl,1,by omega,rfl,by rw[he]at hm;simp[Bool.or_assoc]⟩,by simp⟩
 .refine V1.i ah ?_;refine If.t ?_;refine V1.i (SQ 1 aj) ?_;refine V1.load (aC rfl) (hb) rfl ?_;refine V1.i (v:=.bool (k==11)) (w':=w1) am ?_
  cases he:(k==11)with
  |true=>exact If.t ⟨⟨1,rfl,by simp⟩,rfl⟩
  |false=>
   refine If.f ?_;refine V1.i (cC _ _ _ _ _ _ aj aj) ?_;exact⟨⟨rfl,2,by omega,rfl,by rw[he]at hm;simpa[he]using hm⟩,by simp⟩
 .refine V1.i ah ?_;refine If.t ?_;refine V1.i (SQ 2 aj) ?_;refine V1.load (aC rfl) (hb) rfl ?_;refine V1.i (v:=.bool (k==9)) (w':=w1) am ?_
  cases he:(k==9)with
  |true=>exact If.t ⟨⟨2,rfl,by simp⟩,rfl⟩
  |false=>
   refine If.f ?_;refine V1.i (cC _ _ _ _ _ _ aj aj) ?_;exact⟨⟨rfl,3,by omega,rfl,by rw[he]at hm;simpa[he]using hm⟩,by simp⟩
 .refine V1.i ah ?_;refine If.f ?_;exact⟨⟨-1,rfl,by rw[hm];simp⟩,rfl⟩
theorem SR{w:Wd}{b:Nat}(hb:At w b [.int .i64 10,.int .i64 11,.int .i64 9])(k:Int):
  Calls prog 166 #[.slice (some ⟨b,0,none⟩) 3 3,.int .i64 k] w (aZ (λv w'=>v=.bool (k==10||k==11||k==9)/\w'=w) NP):=by
 refine Py ?_;unfold Hl;refine Hy (SP hb k) ?_ (NP.no (e:=_));rintro _ w1 ⟨⟨i,rfl,hi⟩,rfl⟩;refine V1.i (v:=.bool (decide (0<=i))) (w':=w1) am ?_;exact⟨by rw[hi],rfl⟩
theorem SU(w:Wd)(s:By):Calls prog 113 #[str s] w (aZ (λv w'=>v=str (iT s)/\aD [] w w') NP):=by
 refine Ps ?_;unfold Hc;unfold iT;by_cases h:32768<s.length
 .refine V1.i (v:=.int .i64 s.length) (w':=w) am ?_;refine V1.bt ax ?_;rw[if_pos h];exact If.t ⟨rfl,aD.refl _ _⟩
 .refine V1.i (v:=.int .i64 s.length) (w':=w) am ?_;refine V1.bf ax ?_;rw[if_neg h];refine If.f ?_;refine HX (Ry w s aj) ?_ (NP.no (e:=_));rintro _ w1 ⟨rfl,K1⟩;exact⟨rfl,K1⟩
theorem KV{F:Nat->Prop}{w:Wd}{e:Tr}{v:Va}(hr:aU F w e (.P v))(hk:kn e=true)(g:GL w):
  Calls prog 172 #[v] w (aZ (λu w'=>u=.int .i64 (aW e)/\aD [] w w') NP):=by
 refine PF ?_;unfold Hv
 cases e with
 |nil=>
  obtain rfl:v=.pointer none:=hr;refine V1.i ah ?_;refine J1.go (Gd.ft ?_);refine V1.i ah ?_;refine If.f ?_;refine V1.i ah ?_;refine J1.go (Gd.ft ?_);refine V1.i ah ?_;refine If.f ?_;exact⟨rfl,aD.refl _ _⟩
 |ex k n text l r keys args params body=>
  obtain⟨c,line,lv,rv,kv,av,pv,bv,rfl,h1,h2,h3⟩:=hr;unfold ptr;refine V1.i ah ?_;refine J1.go (Gd.tt ?_);refine Up.i (Nc.p _ _) ?_;refine V1.i ah ?_;refine V1.load (aC rfl) (h2) rfl ?_;refine V1.i (v:=.bool (k==11)) (w':=w) am ?_;refine V1.i (v:=.bool (k==11)) (w':=w) am ?_;by_cases SV:k=11
  .subst SV;refine If.t ?_;refine Up.i (Nc.p _ _) ?_;refine V1.i ah ?_;refine V1.load (aC rfl) (h2) rfl ?_;refine Hu (c171 w text g) ?_ (NP.no (e:=_));rintro _ w1 ⟨rfl,K1⟩;exact⟨by simp[aW],K1⟩
  .rw[show(k==11)=false by simpa using SV];refine If.f ?_;refine V1.i ah ?_;refine J1.go (Gd.tt ?_);refine Up.i (Nc.p _ _) ?_;refine V1.i ah ?_;refine V1.load (aC rfl) (h2) rfl ?_;refine V1.i (v:=.bool (k==10)) (w':=w) am ?_;refine V1.i (v:=.bool (k==10)) (w':=w) am ?_;by_cases jj:k=10
   .subst jj;exact If.t ⟨by simp[aW],aD.refl _ _⟩
   .rw[show(k==10)=false by simpa using jj];exact If.f ⟨by simp[aW,jj,SV],aD.refl _ _⟩
 |hole=>cases hk
 |cons=>cases hk
 |st=>cases hk
theorem xJ(c:UInt8):Lib.contains bW [c]=bW.contains c:=by
 have:∀n:Nat,n<256->Lib.contains bW [UInt8.ofNat n]=bW.contains (UInt8.ofNat n):=by decide
 have h:=this c.toNat c.toNat_lt;rwa [UInt8.ofNat_toNat]at h
theorem nY:∀b∈di++bW,b.toNat<128:=by decide
theorem EG{F:Nat->Prop}{w:Wd}{e:Tr}{v:Va}(hr:aU F w e (.P v))(hk:kn e=true)(g:GL w):
  Calls prog 115 #[v] w (aZ (λu w'=>u=.bool (gI e)/\aD [] w w') NP):=by
 refine Pu ?_;unfold Hf
 cases e with
 |nil=>
  obtain rfl:v=.pointer none:=hr;refine V1.i ah ?_;refine J1.go (Gd.tf ?_);refine V1.i ah ?_;refine J1.go (Gd.tf ?_);refine V1.i ah ?_;refine J1.go (Gd.tf ?_);refine V1.i ah ?_;refine J1.go (Gd.tf ?_);refine V1.i ah ?_;refine If.t ?_;exact⟨rfl,aD.refl _ _⟩
 |ex k n text l r keys args params body=>
  obtain⟨c,line,lv,rv,kv,av,pv,bv,rfl,h1,h2,h3⟩:=hr;clear h3;have e1:str []=Value.string ⟨#[]⟩:=rfl;unfold ptr;refine V1.i ah ?_;refine J1.gd (!(k==5)) (λh kk EH=>?_) ?_
  .refine Up.i (Nc.p _ _) ?_;refine V1.i ah ?_;refine V1.load (aC rfl) (h2) rfl ?_;refine V1.i (v:=.bool (!(k==5))) (w':=w) (by simp[go_sem];rfl) ?_;exact EH
  refine V1.i (fm _ _ _) ?_;refine J1.gd (text==[]) (λh kk EH=>?_) ?_
  .refine Up.i (Nc.p _ _) ?_;refine V1.i ah ?_;refine V1.load (aC rfl) (h2) rfl ?_;refine V1.i (mu _ _ _ text []) ?_;exact EH
  refine V1.i (fm _ _ _) ?_;refine J1.gd (decide (24<text.length)) (λh kk EH=>?_) ?_
  .refine Up.i (Nc.p _ _) ?_;refine V1.i ah ?_;refine V1.load (aC rfl) (h2) rfl ?_;refine V1.i (v:=.int .i64 text.length) (w':=w) am ?_;refine V1.i (v:=.bool (decide (24<text.length))) (w':=w) ax ?_;exact EH
  refine V1.i (fm _ _ _) ?_;refine J1.gd (gx text) (λh kk EH=>?_) ?_
  .refine Up.i (Nc.p _ _) ?_;refine V1.i ah ?_;refine V1.load (aC rfl) (h2) rfl ?_;have hl:text.length<=24:=by
    simp only[or_eq_false_iff,decide_eq_false_iff_not]at h;omega
   refine HH (Wx w text g aj) ?_ (NP.no (e:=_));rintro _ w1 ⟨rfl,rfl⟩;exact EH
  refine V1.i (fm _ _ _) ?_;have eN:gI (.ex k n text l r keys args params body)=(!(false||!(k==5)||(text==[])||decide (24<text.length)||gx text)&&(text.all (λc=>(di++bW).contains c)&&!(bW.contains (text.headD 0)))):=by
   simp only[gI,nO];rw[show decide (text.length<=24)=!decide (24<text.length)by rw[←decide_not];congr 1;apply propext;omega];simp only[Bool.false_or,Bool.not_or,Bool.not_not,Bool.and_assoc]
  cases hb:(false||!(k==5)||(text==[])||decide (24<text.length)||gx text)with
  |true=>
   refine If.t ?_;exact⟨by rw[eN,hb];rfl,aD.refl _ _⟩
  |false=>
   rw[hb]at eN;refine If.f ?_;simp only[or_eq_false_iff,decide_eq_false_iff_not]at hb;have aI:text≠[]:=by simpa using hb.1.1.2
   have hl:text.length<=24:=by omega
   refine Up.i (Nc.p _ _) ?_;refine V1.i ah ?_;refine V1.load (aC rfl) (h2) rfl ?_;refine Hr (c168 w text (di++bW) aj nY) ?_ (NP.no (e:=_));rintro _ w1 ⟨rfl,K1⟩;have uQ:(text.dropWhile (λb=>(di++bW).contains b)).length<=1099511627776:=le_trans (List.dropWhile_sublist _).length_le aj;refine Hp (c167 w1 _ (di++bW) (g.new K1) uQ nY) ?_ (NP.no (e:=_));rintro _ w2 ⟨rfl,K2⟩;refine V1.i (mu _ _ _ _ []) ?_;rw[AB];have dw:=K1.trans' K2 ak;have FM:=dw.at h2 ak;rw[eN];obtain⟨c0,l0,rfl⟩:=List.exists_cons_of_ne_nil aI
   cases fM:(c0::l0).all (λb=>(di++bW).contains b)with
   |false=>
    refine J1.go (Gd.ft ?_);refine V1.i ah ?_;exact⟨by simp[fM],dw⟩
   |true=>
    refine J1.go (Gd.tt ?_);refine Up.i (Nc.p _ _) ?_;refine V1.i ah ?_;refine V1.load (aC rfl) (FM) rfl ?_;refine V1.i (yW _ (c0::l0) 1 ak) ?_;refine zS (Oj w2 bW ((c0::l0).take 1) (g.new dw) ay) ?_ (NP.no (e:=_));rintro _ w3 ⟨rfl,rfl⟩;refine V1.i ah ?_;refine V1.i ah ?_;have hd:Lib.contains bW ((c0::l0).take 1)=bW.contains c0:=by
     simp only[take_succ_cons,take_zero];exact xJ c0
    simp only[take_succ_cons,take_zero]at hd;exact⟨by rw[hd];simp,dw⟩
 |hole=>cases hk
 |cons=>cases hk
 |st=>cases hk
structure jd(n:Nat):Prop where
 expr:∀{w:Wd}{b:Nat}{buf:By}{parts:Nat}{e:Tr}{v:Va}{r:PR},TX w b buf parts->aU (FO b w) w e (.P v)->bJ n (.expr e) buf parts=r->r≠.bH->Calls prog 63 #[ptr b,v] w (aZ (λ_=>cK w b r) (cJ w b r))
 stmt:∀{w:Wd}{b:Nat}{buf:By}{parts:Nat}{e:Tr}{v:Va}{r:PR},TX w b buf parts->aU (FO b w) w e (.P v)->bJ n (.stmt e) buf parts=r->r≠.bH->Calls prog 35 #[ptr b,v] w (aZ (λ_=>cK w b r) (cJ w b r))
 stmts:∀{w:Wd}{b:Nat}{buf:By}{parts:Nat}{e:Tr}{v:Va}{r:PR},TX w b buf parts->aU (FO b w) w e (.L v)->bJ n (.stmts e) buf parts=r->r≠.bH->Calls prog 18 #[ptr b,v] w (aZ (λ_=>cK w b r) (cJ w b r))
 block:∀{w:Wd}{b:Nat}{buf:By}{parts:Nat}{e:Tr}{v:Va}{r:PR},TX w b buf parts->aU (FO b w) w e (.L v)->bJ n (.block e) buf parts=r->r≠.bH->Calls prog 67 #[ptr b,v] w (aZ (λ_=>cK w b r) (cJ w b r))
 more:∀{w:Wd}{b:Nat}{buf:By}{parts:Nat}{e:Tr}{v:Va}{r:PR}{word:By},TX w b buf parts->aU (FO b w) w e (.P v)->bJ n (.more word e) buf parts=r->r≠.bH->Calls prog 62 #[ptr b,str word,v] w (aZ (λ_=>cK w b r) (cJ w b r))
 within:∀{w:Wd}{b:Nat}{buf:By}{parts:Nat}{e:Tr}{v:Va}{r:PR}{word:By},TX w b buf parts->aU (FO b w) w e (.L v)->bJ n (.within word e) buf parts=r->r≠.bH->Calls prog 65 #[ptr b,str word,v] w (aZ (λ_=>cK w b r) (cJ w b r))
 branch:∀{w:Wd}{b:Nat}{buf:By}{parts:Nat}{k:Int}{nm:By}{l rr t a bb:Tr}{v:Va}{r:PR},TX w b buf parts->aU (FO b w) w (.st k nm l rr t a bb) (.P v)->bJ n (.branch rr a bb) buf parts=r->r≠.bH->Calls prog 66 #[ptr b,v] w (aZ (λ_=>cK w b r) (cJ w b r))
 func:∀{w:Wd}{b:Nat}{buf:By}{parts:Nat}{k nn:Int}{text:By}{l rr ks gs:Tr}{ps:LB}{body:Tr}{v:Va}{r:PR},TX w b buf parts->aU (FO b w) w (.ex k nn text l rr ks gs ps body) (.P v)->bJ n (.func ps body) buf parts=r->r≠.bH->Calls prog 68 #[ptr b,v] w (aZ (λ_=>cK w b r) (cJ w b r))
 inner:∀{w:Wd}{b:Nat}{buf:By}{parts:Nat}{e:Tr}{v:Va}{r:PR}{around:Bool},kn e=true->TX w b buf parts->aU (FO b w) w e (.P v)->bJ n (.inner e around) buf parts=r->r≠.bH->Calls prog 116 #[ptr b,v,.bool around] w (aZ (λ_=>cK w b r) (cJ w b r))
theorem p67{n:Nat}(H:jd n){w:Wd}{b:Nat}{buf:By}{parts:Nat}{e:Tr}{v:Va}{r:PR}(ht:TX w b buf parts)(rl:aU (FO b w) w e (.L v))(hr:bJ (n+1) (.block e) buf parts=r)(aI:r≠.bH):
  Calls prog 67 #[ptr b,v] w (aZ (λ_=>cK w b r) (cJ w b r)):=by
 refine YF ?_;unfold VY;have kk:=KO.refl b w;simp only[bJ]at hr;refine V1.aG ah λbs ws NS=>?_;have fS:=ht.eR NS.aA NS.ge;have aS:At ws bs (List.map str [[10]]):=NS.at_;have kS:=KO.aA (b:=b) NS.aA;replace rl:=kS.rep ht rl;replace kk:=kk.trans kS ht.ab;replace ht:=ht.aA NS.aA;have cH:=fj ht aS fS ak rfl (PR.aL hr aI);refine dk cH ?_ (λc w' h=>cJ.up h hr kk ht);clear cH;rintro _ wP hP;obtain⟨cQ,bA,eP,bS,kP⟩:=cK.out hP;have je:=(bT.aM _ _ _ _ _ eP).2;have hA:=bI eP;simp only[map_cons,map_nil,sum_cons,sum_nil,length_cons,length_nil]at hA;rw[eP,PR.aJ]at hr;replace rl:=kP.rep ht rl;replace kk:=kk.trans kP ht.ab;replace ht:=bS;clear hP eP bS kP;clear aS fS NS kS
 have hK:=H.stmts ht rl hr aI;refine G7 hK (λv w' h=>cK.pre h kk ht) (λc w' h=>cJ.pre h kk ht)
theorem p65{n:Nat}(H:jd n){w:Wd}{b:Nat}{buf:By}{parts:Nat}{e:Tr}{v:Va}{r:PR}{word:By}(ht:TX w b buf parts)(rl:aU (FO b w) w e (.L v))(hr:bJ (n+1) (.within word e) buf parts=r)(aI:r≠.bH):
  Calls prog 65 #[ptr b,str word,v] w (aZ (λ_=>cK w b r) (cJ w b r)):=by
 refine YD ?_;unfold VW;have kk:=KO.refl b w;simp only[bJ]at hr;refine V1.aG ah λbs ws NS=>?_;have fS:=ht.eR NS.aA NS.ge;have aS:At ws bs (List.map str [word]):=NS.at_;have kS:=KO.aA (b:=b) NS.aA;replace rl:=kS.rep ht rl;replace kk:=kk.trans kS ht.ab;replace ht:=ht.aA NS.aA;have cH:=fj ht aS fS ak rfl (PR.aL hr aI);refine dk cH ?_ (λc w' h=>cJ.up h hr kk ht);clear cH;rintro _ wP hP;obtain⟨cQ,bA,eP,bS,kP⟩:=cK.out hP;have je:=(bT.aM _ _ _ _ _ eP).2;have hA:=bI eP;simp only[map_cons,map_nil,sum_cons,sum_nil,length_cons,length_nil]at hA;rw[eP,PR.aJ]at hr;replace rl:=kP.rep ht rl;replace kk:=kk.trans kP ht.ab;replace ht:=bS;clear hP eP bS kP;clear aS fS NS kS
 have hK:=H.block ht rl rfl (PR.aL hr aI);refine rY hK ?_ (λc w' h=>cJ.up h hr kk ht);clear hK;rintro _ wP hP;obtain⟨cQ,bA,eP,bS,kP⟩:=cK.out hP;have hA:=cM _ _ _ _ _ _ eP;rw[eP,PR.aJ]at hr;replace rl:=kP.rep ht rl;replace kk:=kk.trans kP ht.ab;replace ht:=bS;clear hP eP bS kP;refine V1.aG ah λbs ws NS=>?_;have fS:=ht.eR NS.aA NS.ge;have aS:At ws bs (List.map str [cO]):=NS.at_;have kS:=KO.aA (b:=b) NS.aA;replace rl:=kS.rep ht rl;replace kk:=kk.trans kS ht.ab;replace ht:=ht.aA NS.aA;have cH:=fj ht aS fS ak hr aI;refine dk cH (λv w' h=>cK.pre h kk ht) (λc w' h=>cJ.pre h kk ht)
theorem p62{n:Nat}(H:jd n){w:Wd}{b:Nat}{buf:By}{parts:Nat}{e:Tr}{v:Va}{r:PR}{word:By}(ht:TX w b buf parts)(re:aU (FO b w) w e (.P v))(hr:bJ (n+1) (.more word e) buf parts=r)(aI:r≠.bH):
  Calls prog 62 #[ptr b,str word,v] w (aZ (λ_=>cK w b r) (cJ w b r)):=by
 refine YA ?_;unfold VU;have kk:=KO.refl b w
 cases e with
 |nil=>
  obtain rfl:v=.pointer none:=re;simp only[bJ]at hr;subst hr;refine V1.i ah ?_;exact If.f ⟨ht,kk⟩
 |ex k nn text l rr keys args params body=>
  simp only[bJ]at hr;have hv:∃c,v=ptr c:=by
   obtain⟨c,line,lv,rv,kv,av,pv,bv,rfl,_⟩:=re;exact⟨c,rfl⟩
  obtain⟨c,rfl⟩:=hv;refine V1.bt (by simp[go_sem,ptr];first|done|rfl|exact⟨rfl,rfl⟩) ?_;refine If.t ?_;refine V1.aG ah λbs ws NS=>?_;have fS:=ht.eR NS.aA NS.ge;have aS:At ws bs (List.map str [word]):=NS.at_;have kS:=KO.aA (b:=b) NS.aA;replace re:=kS.rep ht re;replace kk:=kk.trans kS ht.ab;replace ht:=ht.aA NS.aA;have cH:=fj ht aS fS ak rfl (PR.aL hr aI);refine dk cH ?_ (λc w' h=>cJ.up h hr kk ht);clear cH;rintro _ wP hP;obtain⟨cQ,bA,eP,bS,kP⟩:=cK.out hP;have je:=(bT.aM _ _ _ _ _ eP).2;have hA:=bI eP;simp only[map_cons,map_nil,sum_cons,sum_nil,length_cons,length_nil]at hA;rw[eP,PR.aJ]at hr;replace re:=kP.rep ht re;replace kk:=kk.trans kP ht.ab
  replace ht:=bS;clear hP eP bS kP;clear aS fS NS kS;have hK:=H.expr ht re hr aI;refine oH hK (λv w' h=>cK.pre h kk ht) (λc w' h=>cJ.pre h kk ht)
 |hole=>simp only[bJ]at hr;exact absurd hr.symm aI
 |cons=>simp only[bJ]at hr;exact absurd hr.symm aI
 |st=>simp only[bJ]at hr;exact absurd hr.symm aI
theorem aU.row{F:Nat->Prop}{w:Wd}{l:Tr}{v:Va}(h:aU F w l (.L v))(hh:l≠.hole):
  (∃a c,v=.slice a 0 c/\l=.nil)\/∃b n c,v=.slice (some ⟨b,0,none⟩) n c/\aU F w l (.E b 0 n)/\l≠.nil:=by
 cases l with
 |nil=>rcases h with rfl|⟨b,c,rfl⟩<;>exact .inl ⟨_,_,rfl,rfl⟩
 |cons x t=>
  obtain⟨b,n,c,u,rfl,h1,h2,h3,h4,h5⟩:=h;exact .inr ⟨b,n+1,c,rfl,⟨n,u,rfl,h3,h2,h4,h5⟩,by simp⟩
 |hole=>exact absurd rfl hh
 |ex=>exact h.elim
 |st=>exact h.elim
theorem sK{w:Wd}{b n c k:Nat}(h:k<n):(indexAt 26 (.slice (some ⟨b,0,none⟩) n c) (.int .i64 k)).run prog w=.ok (.pointer (some ⟨b,k,none⟩)) w:=by
 have:(k:Int)<n:=by omega
 simp[go_sem,h,Addr.add]
 rintro rfl;rfl
theorem lR{w:Wd}{b n c k:Nat}(h:k<n):(indexAt 44 (.slice (some ⟨b,0,none⟩) n c) (.int .i64 k)).run prog w=.ok (.pointer (some ⟨b,k,none⟩)) w:=by
 have:(k:Int)<n:=by omega
 simp[go_sem,h,Addr.add]
 rintro rfl;rfl
theorem p18{n:Nat}(H:∀m,m<=n->jd m){w:Wd}{b:Nat}{buf:By}{parts:Nat}{e:Tr}{v:Va}{r:PR}(ht:TX w b buf parts)(rl:aU (FO b w) w e (.L v))(hr:bJ (n+1) (.stmts e) buf parts=r)(aI:r≠.bH):
  Calls prog 18 #[ptr b,v] w (aZ (λ_=>cK w b r) (cJ w b r)):=by
 refine Yo ?_;unfold VH;have kk:=KO.refl b w;have hh:e≠.hole:=by
  rintro rfl;simp only[bJ]at hr;exact absurd hr.symm aI
 rcases rl.row hh with⟨a,c,rfl,rfl⟩|⟨q,vD,c,rfl,re,_⟩
 .refine V1.i ah ?_;refine L1.i (λv w'=>v=.int .i64 0/\w'=w) (λv w'=>0) ⟨rfl,rfl⟩ ?_;rintro v w1 ⟨rfl,rfl⟩;refine V1.i ah ?_;refine If.f ?_;simp only[bJ]at hr;subst hr;exact⟨ht,kk⟩
 .refine V1.i ah ?_;refine L1.i (λv w'=>∃i k m rest buf parts,v=.int .i64 (i:Nat)/\i+k=vD/\i<=buf.length/\m<=n+1/\TX w' b buf parts/\aU (FO b w') w' rest (.E q i k)/\KO b w w'/\bJ m (.stmts rest) buf parts=r) (λv w'=>match v with|.int _ n=>(vD-n.toNat)|_=>0) ⟨0,vD,n+1,e,buf,parts,rfl,by omega,by omega,le_refl _,ht,re,kk,hr⟩ ?_;clear ht rl hr kk re;rintro v w1 ⟨i,k,m,rest,buf,parts,rfl,hik,hib,hm,ht,rl,kk,hr⟩
  cases m with
  |zero=>simp only[bJ]at hr;exact absurd hr.symm aI
  |succ m=>
   cases rest with
   |nil=>
    obtain rfl:k=0:=rl;refine V1.bf ax ?_;refine If.f ?_;simp only[bJ]at hr;subst hr;exact⟨ht,kk⟩
   |cons s l=>
    obtain⟨k',u,rfl,hc,hf,rs,rl⟩:=rl;simp only[bJ]at hr;refine V1.bt ax ?_;refine If.t ?_;refine V1.i (sK aj) ?_;refine V1.i ((aC rfl) _ _ _ hc) ?_;have hK:=(H m aj).stmt ht rs rfl (PR.aL hr aI);refine Pj hK ?_ (λc w' h=>cJ.up h hr kk ht);clear hK;rintro _ wP hP;obtain⟨cQ,bA,eP,bS,kP⟩:=cK.out hP;have hA:=cM _ _ _ _ _ _ eP;rw[eP,PR.aJ]at hr;replace rs:=kP.rep ht rs;replace rl:=kP.rep ht rl;replace kk:=kk.trans kP ht.ab;replace ht:=bS;clear hP eP bS kP;refine V1.aG ah λbs ws NS=>?_;have fS:=ht.eR NS.aA NS.ge;have aS:At ws bs (List.map str [[10]]):=NS.at_;have kS:=KO.aA (b:=b) NS.aA;replace rs:=kS.rep ht rs;replace rl:=kS.rep ht rl;replace kk:=kk.trans kS ht.ab
    replace ht:=ht.aA NS.aA;have cH:=fj ht aS fS ak rfl (PR.aL hr aI);refine dk cH ?_ (λc w' h=>cJ.up h hr kk ht);clear cH;rintro _ wP hP;obtain⟨cQ,bA,eP,bS,kP⟩:=cK.out hP;have je:=(bT.aM _ _ _ _ _ eP).2;have hA:=bI eP;simp only[map_cons,map_nil,sum_cons,sum_nil,length_cons,length_nil]at hA;rw[eP,PR.aJ]at hr;replace rs:=kP.rep ht rs;replace rl:=kP.rep ht rl;replace kk:=kk.trans kP ht.ab;replace ht:=bS;clear hP eP bS kP;clear aS fS NS kS;have KC:_<=32768:=ht.len;refine V1.i (cC _ _ _ _ _ _ aj aj) ?_;exact⟨⟨i+1,k',m,l,_,_,by simp,by omega,by omega,by omega,ht,rl,kk,hr⟩,by simp;omega⟩
   |hole=>simp only[bJ]at hr;exact absurd hr.symm aI
   |ex=>exact rl.elim
   |st=>exact rl.elim
theorem PR.bind_assoc(r:PR)(f g:By->Nat->PR):(r.bind f).bind g=r.bind λb p=>(f b p).bind g:=by cases r<;>rfl
theorem uU(s:By)(l:LB)(b:By)(p:Nat):aM (s::l) b p=(aM [s] b p).bind λb p=>aM l b p:=by
 simp only[aM,PR.bind_assoc];rfl
theorem Strs.sl{F:Nat->Prop}{w:Wd}{v:Va}{ss:LB}(h:Strs F w v ss):∃a c,v=.slice a ss.length c:=by
 rcases h with⟨rfl,rfl⟩|⟨b,c,cs,rfl,_⟩
 .exact⟨_,_,rfl⟩
 .exact⟨_,_,rfl⟩
theorem Strs.get{F:Nat->Prop}{w:Wd}{a:Option Addr}{n c:Nat}{ss:LB}(h:Strs F w (.slice a n c) ss){i:Nat}(hi:i<ss.length):∃q,a=some ⟨q,0,none⟩/\w.cell? ⟨q,i,none⟩=some (str ss[i]):=by
 rcases h with⟨_,rfl⟩|⟨b,c,cs,h1,h2,h3,h4,h5⟩
 .simp at hi
 .injection h1 with h1 h6 h7;refine⟨b,h1,?_⟩;rw[h3.cell];have:(cs.take ss.length)[i]?=some (str ss[i]):=by rw[h4];simp[hi]
  rwa [List.getElem?_take_of_lt hi]at this
theorem p68{n:Nat}(H:jd n){w:Wd}{b:Nat}{buf:By}{parts:Nat}{k nn:Int}{text:By}{l rr ks gs:Tr}{ps:LB}{body:Tr}{v:Va}{r:PR}(ht:TX w b buf parts)(re:aU (FO b w) w (.ex k nn text l rr ks gs ps body) (.P v))(hr:bJ (n+1) (.func ps body) buf parts=r)(aI:r≠.bH):
  Calls prog 68 #[ptr b,v] w (aZ (λ_=>cK w b r) (cJ w b r)):=by
 refine YG ?_;unfold VZ;have kk:=KO.refl b w;simp only[bJ]at hr;obtain⟨c,line,lv,rv,kv,av,pv,bv,rfl,qe,ae,_,_,_,_,sp,rb⟩:=re;refine V1.aG ah λbs ws NS=>?_;have fS:=ht.eR NS.aA NS.ge;have aS:At ws bs (List.map str [[40]]):=NS.at_;have kS:=KO.aA (b:=b) NS.aA;obtain⟨ae,qe⟩:=kS.at ht ae qe;replace sp:=kS.strs ht sp;replace rb:=kS.rep ht rb;replace kk:=kk.trans kS ht.ab;replace ht:=ht.aA NS.aA;have cH:=fj ht aS fS ak rfl (PR.aL hr aI);refine dk cH ?_ (λc w' h=>cJ.up h hr kk ht);clear cH;rintro _ wP hP;obtain⟨cQ,bA,eP,bS,kP⟩:=cK.out hP;have je:=(bT.aM _ _ _ _ _ eP).2;have hA:=bI eP;simp only[map_cons,map_nil,sum_cons,sum_nil,length_cons,length_nil]at hA
 rw[eP,PR.aJ]at hr;obtain⟨ae,qe⟩:=kP.at ht ae qe;replace sp:=kP.strs ht sp;replace rb:=kP.rep ht rb;replace kk:=kk.trans kP ht.ab;replace ht:=bS;clear hP eP bS kP;clear aS fS NS kS;refine Up.i (Nc.p _ _) ?_;refine V1.i ah ?_;refine V1.load (aC rfl) (ae) rfl ?_;obtain⟨base,cp,rfl⟩:=sp.sl;refine V1.i ah ?_
 refine L1.i (λv w'=>∃i buf parts,v=.int .i64 (i:Nat)/\i<=ps.length/\i<=buf.length+1/\TX w' b buf parts/\At w' c [.int .i64 k,.int .i64 line,.int .i64 nn,str text,lv,rv,kv,av,.slice base ps.length cp,bv]/\FO b w' c/\Strs (FO b w') w' (.slice base ps.length cp) ps/\aU (FO b w') w' body (.L bv)/\KO b w w'/\(gm (ps.drop i) (decide (i=0)) buf parts).bind (λb p=>(aM [[41]] b p).bind λb p=>(bJ n (.block body) b p).bind λb p=>aM [cO] b p)=r) (λv w'=>match v with|.int _ n=>(ps.length-n.toNat)|_=>0) ⟨0,_,_,rfl,by omega,by omega,ht,ae,qe,sp,rb,kk,hr⟩ ?_;clear ht ae qe sp rb kk hr;rintro v w1 ⟨i,buf,parts,rfl,hi,hib,ht,ae,qe,sp,rb,kk,hr⟩;by_cases bO:i<ps.length
 .rw[drop_eq_getElem_cons bO]at hr;obtain⟨q,rfl,hc⟩:=sp.get bO;have KC:=ht.len;refine V1.bt ax ?_;refine If.t ?_;refine V1.i (lG _ bO) ?_;refine V1.i ((aC rfl) _ _ _ hc) ?_;generalize ps[i]=s at*;refine J0.go ?_;rcases Nat.eq_zero_or_pos i with rfl|h0
  .refine V1.i ah ?_;refine If.f ?_;simp only[gm,decide_true,if_true,PR.bind_assoc]at hr;refine V1.aG ah λbs ws NS=>?_;have fS:=ht.eR NS.aA NS.ge;have aS:At ws bs (List.map str [s]):=NS.at_;have kS:=KO.aA (b:=b) NS.aA;obtain⟨ae,qe⟩:=kS.at ht ae qe;replace sp:=kS.strs ht sp;replace rb:=kS.rep ht rb;replace kk:=kk.trans kS ht.ab;replace ht:=ht.aA NS.aA;have cH:=fj ht aS fS ak rfl (PR.aL hr aI);refine dk cH ?_ (λc w' h=>cJ.up h hr kk ht);clear cH;rintro _ wP hP;obtain⟨cQ,bA,eP,bS,kP⟩:=cK.out hP;have je:=(bT.aM _ _ _ _ _ eP).2;have hA:=bI eP;simp only[map_cons,map_nil,sum_cons,sum_nil,length_cons,length_nil]at hA;rw[eP,PR.aJ]at hr
   obtain⟨ae,qe⟩:=kP.at ht ae qe;replace sp:=kP.strs ht sp;replace rb:=kP.rep ht rb;replace kk:=kk.trans kP ht.ab;replace ht:=bS;clear hP eP bS kP;clear aS fS NS kS;refine V1.i (cC _ _ _ _ _ _ aj aj) ?_;exact⟨⟨1,_,_,by simp,by omega,by omega,ht,ae,qe,sp,rb,kk,by simpa using hr⟩,by simp;omega⟩
  .have SC:decide (i=0)=false:=by simp;omega
   refine V1.bt ax ?_;refine If.t ?_;rw[SC]at hr;simp only[gm,false_eq_true,if_false]at hr;rw[uU]at hr;simp only[PR.bind_assoc]at hr;refine V1.aG ah λbs ws NS=>?_;have fS:=ht.eR NS.aA NS.ge;have aS:At ws bs (List.map str [[44,32]]):=NS.at_;have kS:=KO.aA (b:=b) NS.aA;obtain⟨ae,qe⟩:=kS.at ht ae qe;replace sp:=kS.strs ht sp;replace rb:=kS.rep ht rb;replace kk:=kk.trans kS ht.ab;replace ht:=ht.aA NS.aA;have cH:=fj ht aS fS ak rfl (PR.aL hr aI);refine dk cH ?_ (λc w' h=>cJ.up h hr kk ht);clear cH;rintro _ wP hP;obtain⟨cQ,bA,eP,bS,kP⟩:=cK.out hP;have je:=(bT.aM _ _ _ _ _ eP).2;have hA:=bI eP
   simp only[map_cons,map_nil,sum_cons,sum_nil,length_cons,length_nil]at hA;rw[eP,PR.aJ]at hr;obtain⟨ae,qe⟩:=kP.at ht ae qe;replace sp:=kP.strs ht sp;replace rb:=kP.rep ht rb;replace kk:=kk.trans kP ht.ab;replace ht:=bS;clear hP eP bS kP;clear aS fS NS kS;refine V1.aG ah λbs ws NS=>?_;have fS:=ht.eR NS.aA NS.ge;have aS:At ws bs (List.map str [s]):=NS.at_;have kS:=KO.aA (b:=b) NS.aA;obtain⟨ae,qe⟩:=kS.at ht ae qe;replace sp:=kS.strs ht sp;replace rb:=kS.rep ht rb;replace kk:=kk.trans kS ht.ab;replace ht:=ht.aA NS.aA;have cH:=fj ht aS fS ak rfl (PR.aL hr aI);refine dk cH ?_ (λc w' h=>cJ.up h hr kk ht);clear cH;rintro _ wP hP
   obtain⟨cQ,bA,eP,bS,kP⟩:=cK.out hP;have je:=(bT.aM _ _ _ _ _ eP).2;have hA:=bI eP;simp only[map_cons,map_nil,sum_cons,sum_nil,length_cons,length_nil]at hA;rw[eP,PR.aJ]at hr;obtain⟨ae,qe⟩:=kP.at ht ae qe;replace sp:=kP.strs ht sp;replace rb:=kP.rep ht rb;replace kk:=kk.trans kP ht.ab;replace ht:=bS;clear hP eP bS kP;clear aS fS NS kS;have hd1:decide (i+1=0)=false:=by simp
   refine V1.i (cC _ _ _ _ _ _ aj aj) ?_;exact⟨⟨i+1,_,_,by simp,by omega,by omega,ht,ae,qe,sp,rb,kk,by rw[hd1];exact hr⟩,by simp;omega⟩
 .have:i=ps.length:=by omega
  subst this;rw[List.drop_length]at hr;simp only[gm,PR.aJ]at hr;refine V1.bf am ?_;refine If.f ?_;refine V1.aG ah λbs ws NS=>?_;have fS:=ht.eR NS.aA NS.ge;have aS:At ws bs (List.map str [[41]]):=NS.at_;have kS:=KO.aA (b:=b) NS.aA;obtain⟨ae,qe⟩:=kS.at ht ae qe;replace sp:=kS.strs ht sp;replace rb:=kS.rep ht rb;replace kk:=kk.trans kS ht.ab;replace ht:=ht.aA NS.aA;have cH:=fj ht aS fS ak rfl (PR.aL hr aI);refine dk cH ?_ (λc w' h=>cJ.up h hr kk ht);clear cH;rintro _ wP hP;obtain⟨cQ,bA,eP,bS,kP⟩:=cK.out hP;have je:=(bT.aM _ _ _ _ _ eP).2;have hA:=bI eP
  simp only[map_cons,map_nil,sum_cons,sum_nil,length_cons,length_nil]at hA;rw[eP,PR.aJ]at hr;obtain⟨ae,qe⟩:=kP.at ht ae qe;replace sp:=kP.strs ht sp;replace rb:=kP.rep ht rb;replace kk:=kk.trans kP ht.ab;replace ht:=bS;clear hP eP bS kP;clear aS fS NS kS;refine Up.i (Nc.p _ _) ?_;refine V1.i ah ?_;refine V1.load (aC rfl) (ae) rfl ?_;have hK:=H.block ht rb rfl (PR.aL hr aI);refine rY hK ?_ (λc w' h=>cJ.up h hr kk ht);clear hK;rintro _ wP hP;obtain⟨cQ,bA,eP,bS,kP⟩:=cK.out hP;have hA:=cM _ _ _ _ _ _ eP;rw[eP,PR.aJ]at hr;obtain⟨ae,qe⟩:=kP.at ht ae qe;replace sp:=kP.strs ht sp;replace rb:=kP.rep ht rb;replace kk:=kk.trans kP ht.ab;replace ht:=bS
  clear hP eP bS kP;refine V1.aG ah λbs ws NS=>?_;have fS:=ht.eR NS.aA NS.ge;have aS:At ws bs (List.map str [cO]):=NS.at_;have kS:=KO.aA (b:=b) NS.aA;obtain⟨ae,qe⟩:=kS.at ht ae qe;replace sp:=kS.strs ht sp;replace rb:=kS.rep ht rb;replace kk:=kk.trans kS ht.ab;replace ht:=ht.aA NS.aA;have cH:=fj ht aS fS ak hr aI;refine dk cH (λv w' h=>cK.pre h kk ht) (λc w' h=>cJ.pre h kk ht)
end Go.Proofs.YtoddjlclpnoomaaGreatDoor

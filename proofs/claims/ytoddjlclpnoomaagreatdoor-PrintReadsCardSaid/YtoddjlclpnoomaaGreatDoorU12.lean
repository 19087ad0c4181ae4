import Derived.Test.YtoddjlclpnoomaaGreatDoorU11
set_option linter.unusedVariables false
set_option linter.unusedSimpArgs false
set_option maxRecDepth 100000
open Go.Proofs.Tryz
open List (mem_append mem_cons getElem?_eq_getElem length_cons not_mem_nil take_succ_eq_append_getElem mem_singleton toList_toArray length_append length_nil take_length length)
open Nat (le_of_ble_eq_true le_refl)
open Go.Value (cells int)
namespace Go.Proofs.YtoddjlclpnoomaaGreatDoor
open Go.Sh
theorem Rv(w:Wd)(n:Int)(g:GL w)(h0:-9223372036854775808<=n)(h1:n<=9223372036854775807):Calls prog 112 #[.int .i64 n] w (aZ (λv w'=>v=str (Lib.itoa n)/\aD [] w w') NP):=by
 refine PW ?_;unfold HI;refine H9 (c164 w n g h0 h1) ?_ (NP.no (e:=_));rintro _ w1 ⟨rfl,K1⟩;exact⟨rfl,K1⟩
def iy:By:=[48,49,50,51,52,53,54,55,56,57,97,98,99,100,101,102]
def ju(c:UInt8):By:=
 if c=10 then[92,110]else if c=9 then[92,116]else if c=92 then[92,92]else if c=34 then[92,34]
 else if c<32\/126<c then[92,120,iy.getD (c.toNat/16) 0,iy.getD (c.toNat%16) 0]else[c]
def oU(s:By):By:=[34]++s.flatMap ju++[34]
def dM:List (Va×Va):=[(.int .u8 110,.int .u8 10),(.int .u8 116,.int .u8 9),(.int .u8 92,.int .u8 92),(.int .u8 34,.int .u8 34)]
def oV(l:List (Va×Va)):Prop:=(∀p∈l,∃q∈dM,p=(q.2,q.1))/\∀q∈dM,(q.2,q.1)∈l
def short(c:UInt8):Option UInt8:=if c=10 then some 110 else if c=9 then some 116 else if c=92 then some 92 else if c=34 then some 34 else none
theorem oV.look{w:Wd}{b:Nat}{l:List (Va×Va)}(h:dJ w b l)(hs:oV l)(c:UInt8):(Instr.lookup 215 (.map (some b)) (.int .u8 c.toNat) true).run prog w=
  .ok (match short c with|some v=>.tuple #[.int .u8 v.toNat,.bool true]|none=>.tuple #[.int .u8 0,.bool false]) w:=by
 have hm:prog.underlying 215=some (.map 5 5):=ai
 have hd:prog.underlying 5=some (.int .u8):=ai
 have lX:∀p∈l,MapKept.IsKey (.int .u8) p.1:=by
  intro p hp;obtain⟨q,hq,rfl⟩:=hs.1 p hp;simp only[dM,mem_cons,not_mem_nil,or_false]at hq;rcases hq with rfl|rfl|rfl|rfl<;>rfl
 have hv:∀(k v:Int),(int .u8 k,int .u8 v)∈l->∀p∈l,p.1=.int .u8 k->p.2=.int .u8 v:=by
  intro k v Zk p hp e;obtain⟨q,hq,rfl⟩:=hs.1 p hp;obtain⟨q',qD,e'⟩:=hs.1 _ Zk;simp only[dM,mem_cons,not_mem_nil,or_false]at hq qD;rcases hq with rfl|rfl|rfl|rfl<;>rcases qD with rfl|rfl|rfl|rfl<;>simp_all
 have hit:∀(k v:Int),(int .u8 k,int .u8 v)∈l->(Instr.lookup 215 (.map (some b)) (.int .u8 k) true).run prog w=.ok (.tuple #[.int .u8 v,.bool true]) w:=
  λk v h1=>mF hm hd h (show MapKept.IsKey (.int .u8) (.int .u8 k)from rfl) lX (hv k v h1) ⟨_,h1,rfl⟩ true
 by_cases h1:c=10
 .subst h1;exact hit 10 110 (hs.2 (.int .u8 110,.int .u8 10) (by simp[dM]))
 by_cases h2:c=9
 .subst h2;exact hit 9 116 (hs.2 (.int .u8 116,.int .u8 9) (by simp[dM]))
 by_cases h3:c=92
 .subst h3;exact hit 92 92 (hs.2 (.int .u8 92,.int .u8 92) (by simp[dM]))
 by_cases h4:c=34
 .subst h4;exact hit 34 34 (hs.2 (.int .u8 34,.int .u8 34) (by simp[dM]))
 have e:short c=none:=by simp[short,h1,h2,h3,h4]
 rw[e];have ne:∀d:UInt8,¬c=d->¬(d.toNat:Int)=(c.toNat:Int):=λd h e=>h (UInt8.toNat_inj.1 aj);have n1:=ne 10 h1;have n2:=ne 9 h2;have n3:=ne 92 h3;have n4:=ne 34 h4;simp only[UInt8.reduceToNat]at n1 n2 n3 n4;refine kI hm hd h (show MapKept.IsKey (.int .u8) (.int .u8 c.toNat)from rfl) lX ?_ (z:=.int .u8 0) am true;intro p hp e2;obtain⟨q,hq,rfl⟩:=hs.1 p hp;simp only[dM,mem_cons,not_mem_nil,or_false]at hq;rcases hq with rfl|rfl|rfl|rfl<;>(simp only[int.injEq,true_and]at e2;omega)
theorem Rw(a:Fin 256):bits .and .u8 (a.val:Int) 15=((a.val%16:Nat):Int):=by revert a;decide
theorem JT(w:Wd)(c:UInt8):(Bo .and 5 false true (.int .u8 c.toNat) (.int .u8 15)).run prog w=.ok (.int .u8 ((c.toNat%16:Nat):Int)) w:=by
 have:=Rw ⟨c.toNat,c.toNat_lt⟩;simp only at this;simp[go_sem,Bo,this]
theorem B5(w:Wd)(l:By)(i:Nat)(h:i<l.length):(Instr.index 9 (str l) (.int .u8 i)).run prog w=.ok (.int .u8 (l[i]).toNat) w:=by
 simp[go_sem,str,h];rfl
theorem V1.JU{w:Wd}{k:VK}{e:EK}{s:Sem Va}{z:AV}{T:TypeId}(h:s.run prog w=.ok (.pointer (some ⟨w.heap.size,0,none⟩)) (w.alloc (.cells z T)))
  (hk:∀b w',nH w b z.toList w'->w'.shape? b=some (T,z.size)->k (.pointer (some ⟨b,0,none⟩)) w'):V1 prog s w k e:=
 V1.i h (hk _ _ (nH.mk' w z T) (by unfold World.shape?;rw[fG,if_pos rfl]))
theorem Rx{lo:Nat}{w:Wd}{b:Nat}{rest:LV}{buf:By}(h:BX lo w b rest buf)(hl:buf.length<=1099511627776):
  Calls prog 19 #[ptr b] w (aZ (λv w'=>v=str buf/\BF w' b buf/\KL b lo w w') NP):=by
 refine aZ.qz (Rr h.bf hl) ?_ (NP.no (e:=_));rintro v w' ⟨rfl,h2,M,hk,hM⟩;refine⟨rfl,h2,?_⟩;obtain⟨ad,v,ab,sx,hv,aI,hb,eQ⟩:=h;refine KL.of hk eQ λg hg=>.inr ?_;obtain⟨rJ,fz,n,c,Zl⟩:=hM g hg;have h1:=ab.cell 1;have h2:=Zl.cell 1;rw[h1]at h2;simp only[List.getElem?_cons_succ,List.getElem?_cons_zero,Option.some.injEq]at h2;exact(hv.lt (g:=g) (by rw[h2];rfl)).1
theorem oW(s:By):(s.flatMap ju).length<=4*s.length:=by
 induction s with
 |nil=>simp
 |cons c s ih=>
  simp only[List.flatMap_cons,length_append,length_cons];have:(ju c).length<=4:=by
   unfold ju;by_cases h1:c=10
   .rw[if_pos h1];simp
   rw[if_neg h1];by_cases h2:c=9
   .rw[if_pos h2];simp
   rw[if_neg h2];by_cases h3:c=92
   .rw[if_pos h3];simp
   rw[if_neg h3];by_cases h4:c=34
   .rw[if_pos h4];simp
   rw[if_neg h4];by_cases h5:c<32\/126<c
   .rw[if_pos h5];simp
   .rw[if_neg h5];simp
  omega
theorem BX.len{lo:Nat}{w:Wd}{b:Nat}{rest:LV}{buf JV:By}(h:BX lo w b rest buf)(e:buf=JV):BX lo w b rest JV:=e▸h
set_option maxHeartbeats 1000000 in
theorem Ry(w:Wd)(s:By)(hs:s.length<=65536):Calls prog 165 #[str s] w (aZ (λv w'=>v=str (oU s)/\aD [] w w') NP):=by
 refine P0 ?_;unfold HW;refine V1.map λbs w1 m1 gb k1=>?_;have lb:=m1.lt;refine Bz (c194 w1) ?_ (NP.no (e:=_));rintro _ w2 ⟨bm,rfl,nm,WJ,WK,K2⟩;have z2:=K2.size;replace m1:=m1.aA K2 ak;have kk:=k1.trans K2;refine V1.rangeMap (kt:=5) (et:=5) ai nm λr w3 i3 gr K3=>?_;have z3:=K3.size;have lr:=i3.lt;replace m1:=m1.aA K3 ak;replace nm:=nm.aA K3 ak;replace kk:=kk.trans K3;have yU:dM.Nodup:=by unfold dM;simp
 refine L0.g (λn w'=>∃left l,mG w' r bm dM left/\dJ w' bm dM/\dJ w' bs l/\(∀p∈l,∃q∈dM,q∉left/\p=(q.2,q.1))/\(∀q∈dM,q∈left\/(q.2,q.1)∈l)/\(∀q∈left,q∈dM)/\left.length=n/\aD [] w w'/\w3.heap.size<=w'.heap.size) 4 ⟨dM,[],i3,nm,m1,by simp,λq hq=>.inl hq,λq hq=>hq,rfl,kk,le_refl _⟩ ?_;clear m1 nm i3 kk K2 K3;rintro n w4 K ⟨left,l,i4,nm,m4,h1,h2,h3,hn,kk,z4⟩ hK;refine V1.tH i4 nm aj ?_ ?_
 .rintro rfl;have iv:oV l:=⟨λp hp=>by obtain⟨q,hq,_,e⟩:=h1 p hp;exact⟨q,hq,e⟩,λq hq=>by rcases h2 q hq with h|h;cases h;exact h⟩;refine V1.i ah ?_;refine If.f ?_;refine V1.JU (Pa _) λbb w5 N5 Rz=>?_;have z5:=N5.aA.size;have B6:=N5.ge;have Af:=N5.lt;have WL:=kk.size;replace m4:=m4.aA N5.aA ak;have Oo:=kk.trans N5.aA;have bx:BX w5.heap.size w5 bb [] []:=⟨_,_,N5.at_,.inl ⟨rfl,54,2,Rz,.inl ⟨rfl,rfl⟩⟩,dK.nil _ _,.inl rfl,Af,le_refl _⟩;refine mr (sy bx 34 ak) ?_ (NP.no (e:=_));rintro _ w6 ⟨bx,L6⟩;refine V1.i ah ?_
  refine L1.i (λv w'=>∃i:Nat,i<=s.length/\v=.int .i64 i/\BX w5.heap.size w' bb [] ([34]++(s.take i).flatMap ju)/\KL bb w5.heap.size w5 w') (λv w'=>match v with|.int _ n=>(s.length-n.toNat)|_=>0) ⟨0,by omega,rfl,bx,L6⟩ ?_;rintro v w7 ⟨i,hi,rfl,bx,L7⟩;have FP:=oW (s.take i);have htl:(s.take i).length<=i:=List.length_take_le _ _;have m7:=m4.aA L7.aA (iK aj aj);by_cases bO:i<s.length
  .refine V1.bt ax ?_;refine If.t ?_;have JW:∀w',BX w5.heap.size w' bb [] ([34]++(s.take (i+1)).flatMap ju)->KL bb w5.heap.size w5 w'->∃j:Nat,j<=s.length/\(.int .i64 ((i:Int)+1):Va)=.int .i64 j/\BX w5.heap.size w' bb [] ([34]++(s.take j).flatMap ju)/\KL bb w5.heap.size w5 w':=
    λw' h1 h2=>⟨i+1,by omega,by simp,h1,h2⟩
   have nJ:([34]:By)++(s.take (i+1)).flatMap ju=[34]++(s.take i).flatMap ju++ju s[i]:=by
    rw[take_succ_eq_append_getElem bO,List.flatMap_append,List.flatMap_singleton,List.append_assoc]
   refine J0.cut (λw'=>BX w5.heap.size w' bb [] ([34]++(s.take (i+1)).flatMap ju)/\KL bb w5.heap.size w5 w') ?_ ?_;rotate_left
   .rintro w' ⟨h1,h2⟩;refine V1.i (cC _ _ _ _ _ _ aj aj) ?_;exact⟨JW w' h1 h2,by simp;omega⟩
   rw[nJ];refine V1.i (dL _ s i bO) ?_;generalize s[i]=c;refine V1.i (iv.look m7 c) ?_;have hlen:([34]++(s.take i).flatMap ju).length<=1099511000000:=by simp only[length_append,length_cons,length_nil]at*;omega
   have Om:=c.toNat_lt
   cases qC:short c with
   |some v=>
    have he:ju c=[92,v]:=by
     unfold short at qC;unfold ju;repeat' split at qC
     all_goals first|(cases qC;done)|(injection qC with qC;subst qC;simp_all)
    rw[he];refine V1.i ah ?_;refine V1.i ah ?_;refine If.t ?_;refine mr (sy bx 92 (by simp only[length_append,length_cons,length_nil]at*;omega)) ?_ (NP.no (e:=_));rintro _ w8 ⟨bx,L8⟩;refine mr (sy bx v (by simp only[length_append,length_cons,length_nil]at*;omega)) ?_ (NP.no (e:=_));rintro _ w9 ⟨bx,L9⟩;exact⟨bx.len ak,L7.trans (L8.trans L9)⟩
   |none=>
    have aI:¬c=10/\¬c=9/\¬c=92/\¬c=34:=by
     unfold short at qC;refine⟨?_,?_,?_,?_⟩<;>(rintro rfl;simp at qC)
    refine V1.i ah ?_;refine V1.i ah ?_;refine If.f ?_;refine V1.i (v:=.bool (decide ((c.toNat:Int)<32))) (w':=w7) am ?_;refine J1.gd (decide (126<(c.toNat:Int))) (λh k hk=>?_) ?_
    .refine V1.i (v:=.bool (decide (126<(c.toNat:Int)))) (w':=w7) am ?_;exact hk
    refine V1.i (fm _ _ _) ?_;have hb:(decide ((c.toNat:Int)<32)||decide (126<(c.toNat:Int)))=decide (c<32\/126<c):=by
     simp only[UInt8.lt_iff_toNat_lt,UInt8.reduceToNat];have a1:decide ((c.toNat:Int)<32)=decide (c.toNat<32):=by congr 1;apply propext;omega
     have a2:decide (126<(c.toNat:Int))=decide (126<c.toNat):=by congr 1;apply propext;omega
     rw[a1,a2,Bool.decide_or]
    rw[hb];by_cases hx:c<32\/126<c
    .have he:ju c=[92,120,iy.getD (c.toNat/16) 0,iy.getD (c.toNat%16) 0]:=by
      unfold ju;rw[if_neg aI.1,if_neg aI.2.1,if_neg aI.2.2.1,if_neg aI.2.2.2,if_pos hx]
     rw[he];simp only[hx,decide_true];refine If.t ?_;refine Hb (c70 bx [92,120] (by simp only[length_append,length_cons,length_nil]at*;omega)) ?_ (NP.no (e:=_));rintro _ w8 ⟨Zm,L8⟩;replace L8:=L8.kl bx;replace bx:=Zm;refine V1.i (v:=.int .u8 ((c.toNat/16:Nat):Int)) (w':=w8) am ?_;have h1:c.toNat/16<iy.length:=by show _<16;omega
     have h2:c.toNat%16<iy.length:=by show _<16;omega
     refine V1.i (B5 w8 iy _ h1) ?_;rw[show iy[c.toNat/16]=iy.getD (c.toNat/16) 0 by rw[List.getD_eq_getElem?_getD,getElem?_eq_getElem h1];rfl];refine mr (sy bx (iy.getD (c.toNat/16) 0) (by simp only[length_append,length_cons,length_nil]at*;omega)) ?_ (NP.no (e:=_));rintro _ w9 ⟨bx,L9⟩;refine V1.i (JT w9 c) ?_;refine V1.i (B5 w9 iy _ h2) ?_;rw[show iy[c.toNat%16]=iy.getD (c.toNat%16) 0 by rw[List.getD_eq_getElem?_getD,getElem?_eq_getElem h2];rfl];refine mr (sy bx (iy.getD (c.toNat%16) 0) (by simp only[length_append,length_cons,length_nil]at*;omega)) ?_ (NP.no (e:=_));rintro _ eo ⟨bx,Zn⟩;exact⟨bx.len ak,L7.trans (L8.trans (L9.trans Zn))⟩
    .have he:ju c=[c]:=by
      unfold ju;rw[if_neg aI.1,if_neg aI.2.1,if_neg aI.2.2.1,if_neg aI.2.2.2,if_neg hx]
     rw[he];simp only[hx,decide_false];refine If.f ?_;refine mr (sy bx c (by simp only[length_append,length_cons,length_nil]at*;omega)) ?_ (NP.no (e:=_));rintro _ w8 ⟨bx,L8⟩;exact⟨bx.len ak,L7.trans L8⟩
  .have:i=s.length:=by omega
   subst this;refine V1.bf am ?_;refine If.f ?_;rw[take_length]at bx;have FP:=oW s;refine mr (sy bx 34 (by simp only[length_append,length_cons,length_nil]at*;omega)) ?_ (NP.no (e:=_));rintro _ w8 ⟨bx,L8⟩;refine DJ (Rx bx (by simp only[length_append,length_cons,length_nil]at*;omega)) ?_ (NP.no (e:=_));rintro _ w9 ⟨rfl,bf,L9⟩;refine⟨rfl,Oo.trans' (KL.aA (L7.trans (L8.trans L9))) (λi hi bO=>?_)⟩;rcases mK hi with h|h<;>omega
 .intro key val iJ w5 nu hlen Ed tO i5 m5 K5 z5 Ee Zo;have h4:=h3 _ nu;have hbr:bs≠r:=by omega
  refine V1.i ah ?_;refine If.t ?_;refine V1.i (Ee w5 (aD.refl _ _)) ?_;refine V1.i ah ?_;refine V1.i ah ?_;have Zp:=m4.aA K5 al;have RB:MapKept.IsKey (.int .u8) val:=by
   simp only[dM,mem_cons,not_mem_nil,or_false]at h4;rcases h4 with h|h|h|h<;>(injection h with _ h;subst h;rfl)
  have fu:∀q∈dM,q.2=val->q=(key,val):=by
   intro q hq e;simp only[dM,mem_cons,not_mem_nil,or_false]at h4 hq;rcases h4 with h|h|h|h<;>(injection h with ha hb;subst ha;subst hb)<;>rcases hq with rfl|rfl|rfl|rfl<;>simp_all
  refine U1.hO (kt:=5) (et:=5) (d:=.int .u8) ai ai Zp RB ?_ ?_ λw6 m6 z6 k6=>?_
  .intro p hp;obtain⟨q,hq,_,rfl⟩:=h1 p hp;simp only[dM,mem_cons,not_mem_nil,or_false]at hq;rcases hq with rfl|rfl|rfl|rfl<;>rfl
  .intro p hp e;obtain⟨q,hq,Oq,rfl⟩:=h1 p hp;have:=fu q hq e;rw[this]at Oq;exact Oq nu
  .refine hK iJ.length _ aj ⟨iJ,_,i5.aA k6 al,m5.aA k6 al,m6,?_,?_,λq hq=>h3 q (tO q hq),rfl,(kk.trans' K5 al).trans' k6 al,by omega⟩
   .intro p hp;rcases mem_append.1 hp with h|h
    .obtain⟨q,hq,Oq,e⟩:=h1 p h;exact⟨q,hq,λh=>Oq (tO q h),e⟩
    .simp only[mem_singleton]at h;exact⟨(key,val),h4,Zo yU,h⟩
   .intro q hq;rcases h2 q hq with h|h
    .rcases Ed q h with h|h
     .right;rw[h];simp
     .exact .inl h
    .right;simp[h]
end Go.Proofs.YtoddjlclpnoomaaGreatDoor
namespace Go.Proofs.YtoddjlclpnoomaaGreatDoor
inductive PR where
 |ok (buf:By) (parts:Nat)
 |fail (code:Int)
 |bH
def PR.bind(r:PR)(f:By->Nat->PR):PR:=match r with
 |.ok b p=>f b p
 |.fail c=>.fail c
 |.bH=>.bH
def nv(s:By)(b:By)(p:Nat):PR:=if s.length+b.length<=32768 then .ok (b++s) p else .fail 3
def aM:LB->By->Nat->PR
 |[],b,p=>.ok b p
 |s::l,b,p=>(nv s b p).bind λb p=>aM l b p
def eT(b:By)(p:Nat):PR:=if p+1<=65536 then .ok b (p+1)else .fail 3
def i64(n:Int):Bool:=decide (-9223372036854775808<=n/\n<=9223372036854775807)
def iT(s:By):By:=if 32768<s.length then s else oU s
def nO(s:By):Bool:=!(s==[])&&decide (s.length<=24)&&!(gx s)&&s.all (λc=>(di++bW).contains c)&&!(bW.contains (s.headD 0))
def gI:Tr->Bool
 |.ex k _ text _ _ _ _ _ _=>k==5&&nO text
 |_=>false
def kn:Tr->Bool
 |.ex ..=>true
 |.nil=>true
 |_=>false
def tP:Tr->Bool
 |.ex k ..=>k==10||k==11||k==9
 |_=>false
def tQ:Tr->Bool
 |.ex k ..=>k==11
 |_=>false
def aW:Tr->Int
 |.ex k _ text _ _ _ _ _ _=>if k=11 then bD text else if k=10 then 50 else 100
 |_=>100
def mL:Tr->Bool
 |.nil=>true
 |_=>false
def wQ:Tr:=.ex 0 0 [] .nil .nil .nil .nil [] .nil
def eg(e:Tr):Tr:=match e with
 |.nil=>wQ
 |e=>e
def gm:LB->Bool->By->Nat->PR
 |[],_,b,p=>.ok b p
 |s::l,first,b,p=>(aM (if first then[s]else[[44,32],s]) b p).bind λb p=>gm l false b p
inductive Ef where
 |expr (e:Tr)|inner (e:Tr) (around:Bool)|func (ps:LB) (body:Tr)|args (l:Tr) (first:Bool)|items (ks l:Tr) (first:Bool)
 |block (l:Tr)|stmts (l:Tr)|stmt (s:Tr)|branch (r a b:Tr)|more (word:By) (e:Tr)|within (word:By) (l:Tr)
def bJ:Nat->Ef->By->Nat->PR
  |0,_,_,_=>.bH
  |n+1,c,b,p=>match c with
    |.inner e around=>match around with
      |false=>bJ n (.expr e) b p
      |true=>(aM [[40]] b p).bind λb p=>(bJ n (.expr e) b p).bind λb p=>aM [[41]] b p
    |.func ps body=>(aM [[40]] b p).bind λb p=>(gm ps true b p).bind λb p=>(aM [[41]] b p).bind λb p=>(bJ n (.block body) b p).bind λb p=>aM [cO] b p
    |.args l first=>match l with
      |.nil=>.ok b p
      |.cons x l=>(aM (if first then[]else[[44,32]]) b p).bind λb p=>(bJ n (.expr x) b p).bind λb p=>bJ n (.args l false) b p
      |_=>.bH
    |.items ks l first=>match l with
      |.nil=>.ok b p
      |.cons x l=>match ks with
        |.cons k ks=>(aM (if first then[]else[[44,32]]) b p).bind λb p=>(match k with
            |.nil=>.ok b p
            |.ex kk kn text kl kr RD RF RH kb=>if gI k then(eT b p).bind λb p=>aM [text,[32,61,32]] b p
                else(aM [[91]] b p).bind λb p=>(bJ n (.expr (.ex kk kn text kl kr RD RF RH kb)) b p).bind λb p=>aM [[93,32,61,32]] b p
            |_=>.bH:PR).bind λb p=>(bJ n (.expr x) b p).bind λb p=>bJ n (.items ks l false) b p
        |_=>.bH
      |_=>.bH
    |.block l=>(aM [[10]] b p).bind λb p=>bJ n (.stmts l) b p
    |.stmts l=>match l with
      |.nil=>.ok b p
      |.cons s l=>(bJ n (.stmt s) b p).bind λb p=>(aM [[10]] b p).bind λb p=>bJ n (.stmts l) b p
      |_=>.bH
    |.more word e=>match e with
      |.nil=>.ok b p
      |.ex ..=>(aM [word] b p).bind λb p=>bJ n (.expr e) b p
      |_=>.bH
    |.within word l=>(aM [word] b p).bind λb p=>(bJ n (.block l) b p).bind λb p=>aM [cO] b p
    |.branch r a bb=>(bJ n (.more [32] (eg r)) b p).bind λb p=>(aM [[32,116,104,101,110]] b p).bind λb p=>(bJ n (.block a) b p).bind λb p=>
      match bb with
      |.nil=>aM [cO] b p
      |.cons (.st k nm l r2 t2 a2 b2) .nil=>if k=6 then(eT b p).bind λb p=>(aM [ew] b p).bind λb p=>bJ n (.branch r2 a2 b2) b p
          else(aM [dU] b p).bind λb p=>(bJ n (.block (.cons (.st k nm l r2 t2 a2 b2) .nil)) b p).bind λb p=>aM [cO] b p
      |.cons .nil .nil=>(aM [dU] b p).bind λb p=>(bJ n (.block (.cons .nil .nil)) b p).bind λb p=>aM [cO] b p
      |.cons x (.cons y z)=>(aM [dU] b p).bind λb p=>(bJ n (.block (.cons x (.cons y z))) b p).bind λb p=>aM [cO] b p
      |_=>.bH
    |.expr e=>match e with
      |.nil=>.fail 2
      |.ex k num text l r keys args params body=>if k<1\/12<k then .fail 2 else(eT b p).bind λb p=>
        if k=1 then aM [kF] b p
        else if k=2 then aM [gG] b p
        else if k=3 then aM [eZ] b p
        else if k=4 then(if i64 num then aM [(Lib.itoa num)] b p else .bH)
        else if k=5 then aM [(iT text)] b p
        else if k=6 then aM [text] b p
        else if k=7 then(if kn l&&kn r then(bJ n (.inner l (tP l)) b p).bind λb p=>
            (match r with
             |.ex _ _ rt _ _ _ _ _ _=>if gI r then(eT b p).bind λb p=>aM [[46],rt] b p else(aM [[91]] b p).bind λb p=>(bJ n (.expr r) b p).bind λb p=>aM [[93]] b p
             |_=>(aM [[91]] b p).bind λb p=>(bJ n (.expr r) b p).bind λb p=>aM [[93]] b p)else .bH)
        else if k=8 then(if kn l then(bJ n (.inner l (tP l)) b p).bind λb p=>(aM [[40]] b p).bind λb p=>(bJ n (.args args true) b p).bind λb p=>aM [[41]] b p else .bH)
        else if k=9 then(aM [bP] b p).bind λb p=>bJ n (.func params body) b p
        else if k=10 then(if kn r then(aM [text,[32]] b p).bind λb p=>bJ n (.inner r (tQ r)) b p else .bH)
        else if k=11 then(if kn l&&kn r then
            (bJ n (.inner l (decide (aW l<bD text)||(text==[46,46]&&aW l==bD text))) b p).bind λb p=>(aM [[32],text,[32]] b p).bind λb p=>
            bJ n (.inner r (decide (aW r<bD text)||(!(text==[46,46])&&aW r==bD text))) b p else .bH)
        else if(dG keys&&dG args)=false then .bH else if len keys=len args then(aM [[123]] b p).bind λb p=>(bJ n (.items keys args true) b p).bind λb p=>aM [[125]] b p else .fail 2
      |_=>.bH
    |.stmt s=>match s with
      |.nil=>.fail 2
      |.st k nm l r t2 a bb=>if k<1\/11<k then .fail 2 else(eT b p).bind λb p=>
        if k=1 then(aM [[108,111,99,97,108,32],nm] b p).bind λb p=>bJ n (.more [32,61,32] r) b p
        else if k=2 then(bJ n (.expr l) b p).bind λb p=>bJ n (.more [32,61,32] (eg r)) b p
        else if k=3 then bJ n (.expr r) b p
        else if k=4 then bJ n (.within oL a) b p
        else if k=5 then(bJ n (.more [119,104,105,108,101,32] (eg r)) b p).bind λb p=>bJ n (.within [32,100,111] a) b p
        else if k=6 then(aM [BB] b p).bind λb p=>bJ n (.branch r a bb) b p
        else if k=7 then(aM [[102,111,114,32],nm] b p).bind λb p=>(bJ n (.more [32,61,32] (eg r)) b p).bind λb p=>(bJ n (.more [44,32] (eg t2)) b p).bind λb p=>bJ n (.within [32,100,111] a) b p
        else if k=8 then(aM [gg] b p).bind λb p=>bJ n (.more [32] r) b p
        else if k=9 then aM [jt] b p
        else if k=10 then(aM [mz] b p).bind λb p=>(bJ n (.block a) b p).bind λb p=>(aM [[99,97,116,99,104,32],nm] b p).bind λb p=>bJ n (.within [] bb) b p
        else(aM [[108,111,99,97,108,32,102,117,110,99,116,105,111,110,32],nm] b p).bind λb p=>(match r with
          |.ex k2 _ _ _ _ _ _ params body=>if k2=9 then(eT b p).bind λb p=>bJ n (.func params body) b p else .fail 2
          |.nil=>.fail 2
          |_=>.bH)
      |_=>.bH
end Go.Proofs.YtoddjlclpnoomaaGreatDoor
namespace Go.Proofs.YtoddjlclpnoomaaGreatDoor
def bT(b:By)(p:Nat)(r:PR):Prop:=∀b' p',r=.ok b' p'->b.length<=b'.length/\p<=p'
variable {b:By}{p:Nat}
theorem bT.ok:bT b p (.ok b p):=by
 intro b' p' h
 cases h
 exact⟨le_refl _,le_refl _⟩
theorem bT.fail(c:Int):bT b p (.fail c):=by
 intro b' p' h
 cases h
theorem bT.bH:bT b p .bH:=by
 intro b' p' h
 cases h
theorem bT.bind{r:PR}{g:By->Nat->PR}(hf:bT b p r)(hg:∀b1 p1,bT b1 p1 (g b1 p1)):bT b p (r.bind g):=by
 intro b' p' h
 cases r with
 |ok b1 p1=>
  have h1:=hf b1 p1 rfl;have h2:=hg b1 p1 b' p' h;omega
 |fail c=>cases h
 |bH=>cases h
theorem bT.put(s:By):bT b p (nv s b p):=by
 intro b' p' h;unfold nv at h;split at h
 .cases h
  simp
 .cases h
theorem bT.aM:∀(l:LB) (b:By) (p:Nat),bT b p (aM l b p)
 |[],b,p=>bT.ok
 |s::l,b,p=>(bT.put s).bind (bT.aM l)
theorem bT.part:bT b p (eT b p):=by
 intro b' p' h;unfold eT at h;split at h
 .cases h
  simp
 .cases h
theorem bT.uI:∀(l:LB) (first:Bool) (b:By) (p:Nat),bT b p (gm l first b p)
 |[],_,b,p=>bT.ok
 |s::l,first,b,p=>(bT.aM _ b p).bind (bT.uI l false)
theorem bT.ite{c:Prop}{hd:Decidable c}{x y:PR}(hx:bT b p x)(hy:bT b p y):bT b p (@ite PR c hd x y):=by
 split
 .exact hx
 .exact hy
theorem cM:∀(n:Nat) (c:Ef) (b:By) (p:Nat),bT b p (bJ n c b p)
 |0,c,b,p=>by unfold bJ;exact bT.bH
 |n+1,c,b,p=>by
  have ih:=cM n;unfold bJ;repeat' (first
   |exact ih _ _ _|exact bT.ok|exact bT.fail _|exact bT.bH|exact bT.put _|exact bT.aM _ _ _|exact bT.part|exact bT.uI _ _ _ _
   |refine bT.bind ?_ (λb1 p1=>?_)|refine bT.ite ?_ ?_
   |split)
theorem lj{r:PR}{f:By->Nat->PR}{b:By}{p:Nat}(h:r.bind f=.ok b p):∃b1 p1,r=.ok b1 p1/\f b1 p1=.ok b p:=by
 cases r with
 |ok b1 p1=>exact⟨b1,p1,rfl,h⟩
 |fail c=>cases h
 |bH=>cases h
theorem bI:∀{l:LB}{b b':By}{p p':Nat},aM l b p=.ok b' p'->b'.length=b.length+(l.map length).sum
 |[],b,b',p,p',h=>by cases h;simp
 |s::l,b,b',p,p',h=>by
  obtain⟨b1,p1,h1,h2⟩:=lj h;have:=bI h2;unfold nv at h1;split at h1
  .cases h1
   simp at this⊢
   omega
  .cases h1
theorem nP{n:Nat}{e:Tr}{b b':By}{p p':Nat}(h:bJ n (.expr e) b p=.ok b' p'):p+1<=p':=by
 cases n with
 |zero=>unfold bJ at h;cases h
 |succ n=>
  have key:∀(g:By->Nat->PR),(∀b1 p1,bT b1 p1 (g b1 p1))->(eT b p).bind g=.ok b' p'->p+1<=p':=by
   intro g hg h;obtain⟨b1,p1,h1,h2⟩:=lj h;have:=(hg b1 p1 b' p' h2).2;unfold eT at h1;split at h1
   .cases h1;omega
   .cases h1
  unfold bJ at h
  cases e with
  |ex k num text l r keys args params body=>
   dsimp only at h;by_cases hk:k<1\/12<k
   .rw[if_pos hk]at h;cases h
   .rw[if_neg hk]at h;refine key _ (λb1 p1=>?_) h;have ih:=cM n;repeat' (first
     |exact ih _ _ _|exact bT.ok|exact bT.fail _|exact bT.bH|exact bT.put _|exact bT.aM _ _ _|exact bT.part|exact bT.uI _ _ _ _
     |refine bT.bind ?_ (λb1 p1=>?_)|refine bT.ite ?_ ?_
     |split)
  |nil=>cases h
  |hole=>cases h
  |cons=>cases h
  |st=>cases h
end Go.Proofs.YtoddjlclpnoomaaGreatDoor

namespace Go.Proofs.YtoddjlclpnoomaaGreatDoor
open Go.Sh
set_option maxRecDepth 100000
theorem PS.cons{w:Wd}{x:eO}{ts:LT}{deep:Int}{own:Bool}(h:PS w x ts deep own):∃t us,ts=t::us:=by
 cases ts with
 |nil=>exact absurd rfl h.ne
 |cons t us=>exact⟨t,us,rfl⟩
section
variable {w:Wd}{x:eO}{ts:LT}{deep:Int}{own:Bool}
theorem d31(h:PS w x ts deep own):Calls prog 31 #[ptr x.p] w (aZ (λv w'=>v=dm (hd ts)/\aD [] w w') NP):=by
 obtain⟨t,us,rfl⟩:=h.cons;exact c31 h
theorem d107(h:PS w x ts deep own):Calls prog 107 #[ptr x.p] w (aZ (λv w'=>v=dm (hd ts)/\PS w' x (bF ts) deep own/\aD [x.p] w w') NP):=by
 obtain⟨t,us,rfl⟩:=h.cons;exact c107 h
theorem d99{b:Nat}{ss:LB}(h:PS w x ts deep own)(hb:At w b (ss.map str))(hn:ss.length<=100):
  Calls prog 99 #[ptr x.p,strs b ss.length] w (aZ (λv w'=>v=.bool (fI (hd ts) ss)/\aD [] w w') NP):=by
 obtain⟨t,us,rfl⟩:=h.cons;exact Ol h hb hn
theorem gy{b:Nat}{s:By}(h:PS w x ts deep own)(hb:At w b [str s]):
 Calls prog 99 #[ptr x.p,.slice (some ⟨b,0,none⟩) 1 1] w (aZ (λv w'=>v=.bool (bB s ts)/\aD [] w w') NP):=d99 (ss:=[s]) h hb ak
theorem d158(s:By)(h:PS w x ts deep own):
  Calls prog 158 #[ptr x.p,str s] w (aZ (λv w'=>v=.bool (bB s ts)/\PS w' x (if bB s ts then bF ts else ts) deep own/\aD [x.p] w w') NP):=by
 obtain⟨t,us,rfl⟩:=h.cons;exact QM s h
theorem d57(h:PS w x ts deep own):Calls prog 57 #[ptr x.p] w (aZ (λv w'=>v=.bool (dI (hd ts))/\aD [] w w') NP):=by
 obtain⟨t,us,rfl⟩:=h.cons;exact Y4 h
def Er(M:List Nat)(x:eO)(w:Wd)(r:bL)(c:List PanicEntry)(w':Wd):Prop:=match r with
 |.fail code=>jN M w x code c w'
 |_=>False
theorem Er.up{M N:List Nat}{w0 w w':Wd}{r1 r:bL}{f:Tr->LT->Bool->bL}{c:List PanicEntry}(h:Er M x w r1 c w')(hr:r1.bind f=r)(hk:aD N w0 w)
  (hM:∀i∈M,i<w0.heap.size->i∈N):Er N x w0 r c w':=by
 cases r1 with
 |fail code=>subst hr;exact jN.pre h hk hM
 |ok _ _ _=>exact h.elim
 |bH=>exact h.elim
theorem Er.pre{M N:List Nat}{w0 w w':Wd}{r:bL}{c:List PanicEntry}(h:Er M x w r c w')(hk:aD N w0 w)
  (hM:∀i∈M,i<w0.heap.size->i∈N):Er N x w0 r c w':=by
 cases r with
 |fail code=>exact jN.pre h hk hM
 |ok _ _ _=>exact h.elim
 |bH=>exact h.elim
theorem Er.next{M:List Nat}{w w':Wd}{r1 r:bL}{f:Tr->LT->Bool->bL}{c:List PanicEntry}(h:Er M x w r1 c w')(hr:r1.bind f=r):Er M x w r c w':=by
 cases r1 with
 |fail code=>subst hr;exact h
 |ok _ _ _=>exact h.elim
 |bH=>exact h.elim
theorem Er.all{α:Type}{F:α->bL}{M:List Nat}{w w':Wd}{r:bL}{c:List PanicEntry}(h:∀f,Er M x w (F f) c w'){f:α}(hr:F f=r):Er M x w r c w':=by
 rw[←hr];exact h f
theorem cR{s:By}{ts:LT}{f:LT->bL}(h:bB s ts=true):aP s ts f=f (bF ts):=by unfold aP;rw[h]
theorem fc{ts:LT}{f:By->LT->bL}(h:((hd ts).kind==1)=true):cP ts f=f (hd ts).text (bF ts):=by unfold cP;rw[h]
theorem fe{d:Int}{f:Int->bL}(h:decide (64<d+1)=false):bY d f=f (d+1):=by unfold bY;rw[h]
theorem aJ{t:Tr}{ts:LT}{o:Bool}{f:Tr->LT->Bool->bL}:(bL.ok t ts o).bind f=f t ts o:=rfl
theorem aL{r1 r:bL}{f:Tr->LT->Bool->bL}(hr:r1.bind f=r)(aI:r≠.bH):r1≠.bH:=by
 rintro rfl;exact aI hr.symm
theorem d32(code:Int)(h:PS w x ts deep own):Calls prog 32 #[ptr x.p,.int .i64 code] w (aZ (λ_ _=>False) (Er [x.p] x w (.fail code))):=by
 obtain⟨t,us,rfl⟩:=h.cons;exact QL code h
theorem d106(s:By)(h:PS w x ts deep own):
  Calls prog 106 #[ptr x.p,str s] w (aZ (λv w'=>bB s ts=true/\v=.int .i64 (hd ts).line/\PS w' x (bF ts) deep own/\aD [x.p] w w') (λc w'=>∀f,Er [x.p] x w (aP s ts f) c w')):=by
 obtain⟨t,us,rfl⟩:=h.cons;refine(QN s h).mono ?_;rintro e w' h
 cases e with
 |returned v=>exact h
 |panicked c=>intro f;simp only[aP,bB,hd,h.1];exact h.2
 |outgrown=>exact h
theorem d104(h:PS w x ts deep own):
  Calls prog 104 #[ptr x.p] w (aZ (λv w'=>((hd ts).kind==1)=true/\v=dm (hd ts)/\PS w' x (bF ts) deep own/\aD [x.p] w w') (λc w'=>∀f,Er [x.p] x w (cP ts f) c w')):=by
 obtain⟨t,us,rfl⟩:=h.cons;refine(QO h).mono ?_;rintro e w' h
 cases e with
 |returned v=>exact⟨by simpa[hd]using h.1,h.2⟩
 |panicked c=>
  intro f;have:(t.kind==1)=false:=by simpa using h.1
  simp only[cP,hd,this];exact h.2
 |outgrown=>exact h
def eh:Tr->Bool
 |.ex ..=>true
 |.st ..=>true
 |_=>false
def Ok(M:List Nat)(lo:Nat)(x:eO)(w:Wd)(deep:Int)(mk:Va->Md)(sh:Tr->Bool)(ow:Bool)(r:bL)(v:Va)(w':Wd):Prop:=match r with
 |.ok t ts o=>aU (Fr lo []) w' t (mk v)/\sh t=true/\(∃o',(ow=true->o'=o)/\PS w' x ts deep o')/\aD M w w'
 |_=>False
theorem Ok.out{M:List Nat}{lo:Nat}{x:eO}{w:Wd}{deep:Int}{mk:Va->Md}{sh:Tr->Bool}{ow:Bool}{r:bL}{v:Va}{w':Wd}(h:Ok M lo x w deep mk sh ow r v w'):
  ∃t ts o,r=.ok t ts o/\aU (Fr lo []) w' t (mk v)/\sh t=true/\(∃o',(ow=true->o'=o)/\PS w' x ts deep o')/\aD M w w':=by
 cases r with
 |ok t ts o=>exact⟨t,ts,o,rfl,h⟩
 |fail c=>exact h.elim
 |bH=>exact h.elim
theorem Ok.RI{M:List Nat}{lo:Nat}{x:eO}{w:Wd}{deep:Int}{mk:Va->Md}{sh:Tr->Bool}{ow:Bool}{r:bL}{v:Va}{w':Wd}(h:Ok M lo x w deep mk sh ow r v w'):Ok M lo x w deep mk sh false r v w':=by
 cases r with
 |ok t ts o=>exact⟨h.1,h.2.1,⟨h.2.2.1.choose,az,h.2.2.1.choose_spec.2⟩,h.2.2.2⟩
 |fail c=>exact h.elim
 |bH=>exact h.elim
theorem Ok.pre{M N:List Nat}{lo lo':Nat}{x:eO}{w w0:Wd}{deep:Int}{mk:Va->Md}{sh:Tr->Bool}{ow:Bool}{r:bL}{v:Va}{w':Wd}(h:Ok M lo x w deep mk sh ow r v w')(hk:aD N w0 w)
  (hM:∀i∈M,i<w0.heap.size->i∈N) (hl:lo'<=lo):Ok N lo' x w0 deep mk sh ow r v w':=by
 cases r with
 |ok t ts o=>exact⟨h.1.fit hl ak,h.2.1,h.2.2.1,hk.trans' h.2.2.2 hM⟩
 |fail c=>exact h.elim
 |bH=>exact h.elim
def B7(bs:Nat)(x:eO)(w:Wd)(deep:Int)(r:bL)(w':Wd):Prop:=match r with
 |.ok t ts o=>aU (λq=>q=bs\/w.heap.size<=q) w' t (.P (ptr bs))/\eh t=true/\(∃o',PS w' x ts deep o')/\aD [x.p,bs] w w'
 |_=>False
theorem B7.out{bs:Nat}{x:eO}{w:Wd}{deep:Int}{r:bL}{w':Wd}(h:B7 bs x w deep r w'):
  ∃t ts o,r=.ok t ts o/\aU (λq=>q=bs\/w.heap.size<=q) w' t (.P (ptr bs))/\eh t=true/\(∃o',PS w' x ts deep o')/\aD [x.p,bs] w w':=by
 cases r with
 |ok t ts o=>exact⟨t,ts,o,rfl,h⟩
 |fail c=>exact h.elim
 |bH=>exact h.elim
theorem aU.kind{F:Nat->Prop}{w:Wd}{t:Tr}{v:Va}(h:aU F w t (.P v))(hs:eh t=true):∃b,v=ptr b/\F b/\w.cell? ⟨b,0,none⟩=some (.int .i64 (kindOf t)):=by
 cases t with
 |ex=>
  obtain⟨b,line,lv,rv,kv,av,pv,bv,h1,h2,h3,_⟩:=h;exact⟨b,h1,h2,by rw[h3.cell];rfl⟩
 |st=>
  obtain⟨b,line,lv,rv,kv,av,pv,h1,h2,h3,_⟩:=h;exact⟨b,h1,h2,by rw[h3.cell];rfl⟩
 |nil=>cases hs
 |hole=>cases hs
 |cons=>cases hs
end
def Ah(b:Nat):Va:=.func (.func 202) #[] #[ptr b]
theorem PS.deep{w w':Wd}{x:eO}{ts:LT}{d:Int}{own:Bool}(h:PS w x ts d own){d':Int}{eD:Bool}(hu:∀o c,At w x.p [.slice (some ⟨x.bt,o,none⟩) ts.length c,.map (some x.bm),.int .i64 d,.bool own]->
  tB w x.p [.slice (some ⟨x.bt,o,none⟩) ts.length c,.map (some x.bm),.int .i64 d',.bool eD] w'):PS w' x ts d' eD:=by
 obtain⟨o,c,h1,h2,h3⟩:=h.ex;have U:=hu o c h1;have ht:=h.tp;have hm:=h.mp;exact⟨⟨o,c,U.at_,h2,cW.aA U.aA (by simpa using ht) _ _ h3⟩,h.sat.aA U.aA (by simpa using hm),h.tp,h.mp,by have:=U.size;have:=h.kf;omega,h.ne⟩
theorem wu.go{R:ER}{w:Wd}{x:eO}{ts:LT}{d:Int}{own:Bool}{b:Nat}(h:PS w x ts d own)(hb:At w b [ptr x.p])
  (hk:∀d' w',(-9223372036854775808<=d-1->d-1<=9223372036854775807->d'=d-1)->PS w' x ts d' own->aD [x.p] w w'->R (.returned (.tuple #[])) w'):wu R (ptr b) w:=by
 unfold wu;obtain⟨o,c,h1,h2,h3⟩:=h.ex;unfold ptr at*;repeat(first|refine Up.i (Nc.p _ _) ?_|refine V1.load (aC rfl) au rfl ?_|refine V1.i ah ?_)
 refine U1.store (aO rfl rfl) (h1) ak λw1 U=>?_;exact hk _ w1 (λh1 h2=>IntWalk.i64_in _ aj) (h.deep λo' c' Eg=>by
  obtain⟨T,hT⟩:=h1;obtain⟨T',B8⟩:=Eg;rw[hT]at B8;injection B8 with e1;simp at e1
  obtain⟨h1,h2⟩:o=o'/\c=c':=by grind
  subst h1 h2;exact U) U.aA
theorem qE{res:Wd->(Va->Prop)->Prop}{R:ER}{ds:LD}{u:FrameMode}{w:Wd}{x:eO}{ts:LT}{d:Int}{own:Bool}{b:Nat}(hu:kZ u)(h:PS w x ts d own)(hb:At w b [ptr x.p])
  (hk:∀d' w',(-9223372036854775808<=d-1->d-1<=9223372036854775807->d'=d-1)->PS w' x ts d' own->aD [x.p] w w'->Lv prog res R ds u w'):
  Lv prog res R (⟨.fn (.func 202) #[ptr b],#[]⟩::ds) u w:=by
 refine Lv.go hu (a:=[ptr b]) (C:=λe w'=>e=.returned (.tuple #[])/\Lv prog res R ds u w') (aH func202 (c:=bC f202) ai ai _ _)
  (uv [] mixed func202 (c:=bC f202) ai (le_of_ble_eq_true ai) (by rw[QF];exact wu.go h hb λd' w' h1 h2 h3=>⟨rfl,hk d' w' h1 h2 h3⟩)) ?_
 rintro e w' ⟨rfl,h⟩;exact⟨_,rfl,h⟩
theorem dD{r0:Wd->(Va->Prop)->Prop}{Q:VK}{M N:List Nat}{w0 w w':Wd}{x:eO}{r:bL}{c:List PanicEntry}{b:Nat}(h:Er M x w r c w')(hp:x.p<w0.heap.size)(hN:x.p∈N)
  (hb:At w b [ptr x.p]) (Zq:b∉M) (hk:aD N w0 w) (hM:∀i∈M,i<w0.heap.size->i∈N):
  Lv prog r0 (aZ Q (Er N x w0 r)) [⟨.fn (.func 202) #[ptr b],#[]⟩] (.panicking c) w':=by
 cases r with
 |ok _ _ _=>exact h.elim
 |bH=>exact h.elim
 |fail code=>
  obtain⟨⟨b1,l,rfl,h2,h3⟩,⟨ts,d,own,h4⟩,h5⟩:=h;refine qE (kZ.pH _) h4 (h5.at hb Zq) λd' w2 _ h6 h7=>?_;have:=hk.size;exact⟨⟨b1,l,rfl,h7.at h2 al,by omega⟩,⟨_,_,_,h6⟩,(hk.trans' h5 hM).trans' h7 (by simpa using λ_=>hN)⟩
theorem ll{Q:VK}{E:EK}{v:Va}{w:Wd}{x:eO}{ts:LT}{d:Int}{own:Bool}{b:Nat}(h:PS w x ts (d+1) own)(hd:0<=d/\d<=64)(hb:At w b [ptr x.p])
  (hk:∀w',PS w' x ts d own->aD [x.p] w w'->Q v w'):Lv prog (r1 v) (aZ Q E) [⟨.fn (.func 202) #[ptr b],#[]⟩] .returning w:=by
 refine qE kZ.ret h hb λd' w' h1 h2 h3=>?_;have:d'=d:=by have:=h1 aj aj;omega
 subst this;exact hk w' h2 h3
theorem d159{w:Wd}{x:eO}{ts:LT}{d:Int}{own:Bool}(p:PS w x ts d own)(hd:0<=d/\d<=64):
  Calls prog 159 #[ptr x.p] w (aZ (λv w'=>decide (64<d+1)=false/\∃b,v=Ah b/\w.heap.size<=b/\At w' b [ptr x.p]/\PS w' x ts (d+1) own/\aD [x.p] w w') (λc w'=>∀f,Er [x.p] x w (bY d f) c w')):=by
 refine Qx ?_;unfold Iz;have lp:=p.lW;refine V1.new (uy _ _) λb w1 N=>?_;have gN:=N.ge;have lN:=N.lt;have zN:=N.aA.size;have a1:=N.at_;try simp only[cells,toList_toArray]at a1
 replace p:=p.new N.aA;obtain⟨o,c,h1,h2,h3⟩:=p.ex;unfold ptr at*;repeat(first|refine Up.i (Nc.p _ _) ?_|refine V1.load (aC rfl) au rfl ?_|refine V1.i ah ?_)
 rw[IntWalk.i64_in _ aj];refine U1.store (aO rfl rfl) (h1) ak λw2 U=>?_;have a2:=U.at_;have p2:PS w2 x ts (d+1) own:=p.deep λo' c' Eg=>by
  obtain⟨T,hT⟩:=h1;obtain⟨T',B8⟩:=Eg;rw[hT]at B8;injection B8 with e1;simp at e1
  obtain⟨h1,h2⟩:o=o'/\c=c':=by grind
  subst h1 h2;exact U
 replace a1:=U.aA.at a1 al;have kk:aD [x.p] w w2:=N.aA.then U.aA ak ak
 refine J0.go ?_;repeat(first|refine Up.i (Nc.p _ _) ?_|refine V1.load (aC rfl) au rfl ?_|refine V1.i ah ?_)
 refine If.b (λhb=>?_) (λhb=>?_)
 .repeat(first|refine Up.i (Nc.p _ _) ?_|refine V1.load (aC rfl) au rfl ?_|refine V1.i ah ?_)
  refine kH (d32 3 p2) ?_ ?_
  .rintro _ _ h;exact h.elim
  .intro c w3 hF f;have:decide (64<d+1)=true:=by simpa using hb
   simp only[bY,this];exact hF.pre kk ak
 .repeat(first|refine Up.i (Nc.p _ _) ?_|refine V1.load (aC rfl) au rfl ?_|refine V1.i ah ?_)
  exact⟨by simpa using hb,b,rfl,gN,a1,p2,kk⟩
def aX:Nat:=1099511627776
def G0(n:Nat)(c:Cl)(K:FuncId)(a:LV)(mk:Va->Md)(sh:Tr->Bool)(ow:Bool):Prop:=
 ∀(w:Wd) (x:eO) (ts:LT) (deep:Int) (own:Bool) (r:bL),PS w x ts deep own->0<=deep/\deep<=64->n<=aX->run n c deep ts=r->r≠.bH->
  Calls prog K (ptr x.p::a).toArray w (aZ (Ok [x.p] w.heap.size x w deep mk sh ow r) (Er [x.p] x w r))
def G1(n:Nat)(c:Tr->Cl)(K:FuncId)(a:LV)(sh:Tr->Bool):Prop:=
 ∀(w:Wd) (x:eO) (ts:LT) (deep:Int) (own:Bool) (r:bL) (l:Tr) (la:Option Addr) (lo:Nat),PS w x ts deep own->0<=deep/\deep<=64->n<=aX->run n (c l) deep ts=r->r≠.bH->
  aU (Fr lo []) w l (.P (.pointer la))->lo<=w.heap.size->x.p<lo->Calls prog K (ptr x.p::.pointer la::a).toArray w (aZ (Ok [x.p] lo x w deep .P sh false r) (Er [x.p] x w r))
def idx:Tr->Bool
 |.ex _ _ _ _ r _ _ _ _=>eh r
 |_=>false
theorem uJ{t:Tr}(h:idx t=true):eh t=true:=by cases t<;>first|rfl|cases h
def qG(line:Int):LV:=[.int .i64 0,.int .i64 line,str [],.pointer none,.pointer none,.pointer none,.slice none 0 0,.slice none 0 0]
def GS(n:Nat)(c:Cl)(K:FuncId):Prop:=
 ∀(w:Wd) (x:eO) (ts:LT) (deep:Int) (own:Bool) (r:bL) (bs:Nat) (line:Int),PS w x ts deep own->0<=deep/\deep<=64->n<=aX->run n c deep ts=r->r≠.bH->
  At w bs (qG line)->bs≠x.p->bs≠x.bt->bs≠x.bm->Calls prog K #[ptr x.p,ptr bs] w (aZ (λ_=>B7 bs x w deep r) (Er [x.p,bs] x w r))
structure mM(n:Nat):Prop where
 block:G0 n .block 30 [] .L dG false
 inner:∀s,G0 n (.inner s) 105 [str s] .L dG false
 expr:∀a,G0 n (.expr a) 108 [.int .i64 a] .P eh false
 operand:G0 n .operand 162 [] .P eh false
 post:G0 n .post 156 [] .P eh true
 dq:G0 n .dq 199 [] .P eh false
 signed:G0 n .signed 220 [] .P eh false
 bin:∀k,0<=k/\k<=100->G1 n (λl=>.bin l k) 163 [.int .i64 k] eh
 bracket:G1 n .bracket 200 [] idx
 stmt:GS n .stmt 58
 simple:GS n .simple 100
 kE:GS n .kE 101
 branch:GS n .branch 109
end Go.Proofs.YtoddjlclpnoomaaGreatDoor

namespace Go.Proofs.YtoddjlclpnoomaaGreatDoor
open Go.Sh
theorem g105{n:Nat}(ih:mM n)(s:By):G0 (n+1) (.inner s) 105 [str s] .L dG false:=by
 intro w x ts deep own r p dN hn hr aI;refine Qo ?_;unfold Io;simp only[run]at hr;have lp:=p.lW;have lt:=p.kf;have lm:=p.pI;have kk:=aD.refl [x.p] w;refine yV.go ?_;refine V1.aG ah λb w1 N=>?_;have gN:=N.ge;have lN:=N.lt;have zN:=N.aA.size;have a1:=N.at_;try simp only[cells,toList_toArray]at a1
 replace p:=p.new N.aA;replace kk:=N.kp kk;refine fw (gy p a1) ?_ (NP.no (e:=_));rintro _ w2 ⟨rfl,K2⟩;have vr:=K2.size;replace p:=p.aA K2 af af af;replace kk:=kk.trans' K2 af;replace a1:=K2.at a1 af;repeat(first|refine Up.i (Nc.p _ _) ?_|refine V1.load (aC rfl) au rfl ?_|refine V1.i ah ?_)
 refine If.b (λhb=>?_) (λhb=>?_)
 .have dZ:bB s ts=false:=by simpa using hb
  simp only[dZ]at hr;subst hr;refine kH (d32 4 p) ?_ ?_
  .rintro _ _ h;exact h.elim
  .intro c w3 hF;exact hF.pre kk ak
 .have dZ:bB s ts=true:=by simpa using hb
  simp only[dZ]at hr;refine kY (d159 p dN) ?_ ?_;rotate_left
  .intro c w3 hF;rw[←hr];exact(hF _).pre kk ak
  .rintro _ w3 ⟨fA,b3,rfl,Eh,a3,p,K3⟩;have sA:deep+1<=64:=by simpa using fA
   have sB:=K3.size;replace kk:=kk.trans' K3 af;replace a1:=K3.at a1 af;rw[fe fA]at hr;refine D1.i (by simp[go_sem,Ah,Deferred.ofValue];exact⟨rfl,rfl⟩) ?_;refine dR (d107 p) ?_ (NP.no (e:=_));rintro _ w4 ⟨rfl,p,K4⟩;have B9:=K4.size;replace a3:=K4.at a3 af;replace kk:=kk.trans' K4 af;refine zU (ih.block _ _ _ _ _ _ p aj aj rfl (by rw[hr];exact aI)) ?_ ?_
   .intro v w5 h;obtain⟨t,bX,o,eI,R1,S1,⟨o',-,p⟩,K5⟩:=h.out;have vu:=K5.size;replace a3:=K5.at a3 af;replace kk:=kk.trans' K5 af;refine ll p dN a3 λw6 p6 K6=>?_;rw[←hr,eI];exact⟨(R1.fr K6 al).fit aj ak,S1,⟨_,by simp,p6⟩,kk.trans' K6 ak⟩
   .intro c w5 h;rw[hr]at h;exact dD h lp ak a3 al kk ak
theorem g30{n:Nat}(ih:∀m,m<=n->mM m):G0 (n+1) .block 30 [] .L dG false:=by
 intro w x ts deep own r p dN hn hr aI;refine YY ?_;unfold Wk;simp only[run]at hr;have lp:=p.lW;have lt:=p.kf;have lm:=p.pI;refine J1.go ?_;refine L1.g (λm v w'=>∃acc bU eD,PS w' x bU deep eD/\Acc 40 w.heap.size [] w' v acc/\aD [x.p] w w'/\run m (.eY acc) deep bU=r/\len acc+m<=n) n
  ⟨.nil,ts,own,p,Acc.nil _ _ _ _,aD.refl _ _,hr,by simp[len]⟩ ?_
 rintro m v w' K ⟨acc,bU,eD,p,ca,kk,hr,hm⟩ hK
 cases m with
 |zero=>exact absurd hr.symm aI
 |succ m=>
 simp only[run]at hr;have z0:=kk.size;refine DQ (d57 p) ?_ (NP.no (e:=_));rintro _ w2 ⟨rfl,K2⟩;have vr:=K2.size;replace p:=p.aA K2 af af af;replace ca:=ca.fr K2 af;replace kk:=kk.trans' K2 af;repeat(first|refine Up.i (Nc.p _ _) ?_|refine V1.load (aC rfl) au rfl ?_|refine V1.i ah ?_)
 refine If.b (λhb=>?_) (λhb=>?_)
 .have dZ:dI (hd bU)=false:=by simpa using hb
  simp only[dZ]at hr;refine lL (d31 p) ?_ (NP.no (e:=_));rintro _ w3 ⟨rfl,K3⟩;have sB:=K3.size;replace p:=p.aA K3 af af af;replace ca:=ca.fr K3 af;replace kk:=kk.trans' K3 af;rw[dm];refine V1.i ah ?_;refine V1.i ah ?_;have bO:∀g,v.ownBlock=some g->w.heap.size<=g/\g<w3.heap.size:=λg hg=>ca.lt hg;refine V1.new (zF _ _) λbs w4 N=>?_;have gN:=N.ge;have lN:=N.lt;have zN:=N.aA.size;have a4:=N.at_;try simp only[cells,toList_toArray]at a4
  replace p:=p.new N.aA;replace ca:=ca.nw N;replace kk:=N.kp kk;have q1:=p.kf;refine Qi ((ih m aj).stmt _ _ _ _ _ _ bs _ p dN aj rfl (aL hr aI) a4 aj aj aj) ?_ ?_
  .rintro _ w5 h;obtain⟨t,bX,o,eI,R1,S1,⟨o',p⟩,K5⟩:=h.out;simp only[eI,bL.bind]at hr;have vu:=K5.size;replace ca:=ca.fr K5 af;replace kk:=kk.trans' K5 af;have r1:aU (Fr w.heap.size (v.ownBlock.toList++[])) w5 t (.P (ptr bs)):=aU.imp (λq hq _=>⟨by omega,by
    simp
    intro hm;have:=bO q hm;omega⟩) _ _ R1
   replace ca:=ca.fit (Y:=[]) ak;refine V1.aG ah λb6 w6 N6=>?_;have Ca:=N6.ge;have Cb:=N6.lt;have Cc:=N6.aA.size;have a6:=N6.at_;try simp only[cells,toList_toArray]at a6
   replace p:=p.new N6.aA;replace kk:=N6.kp kk;replace ca:=ca.f0 N6.aA;replace r1:=r1.f0 N6.aA;obtain⟨v',w7,fR,fW,K7,hg⟩:=BN (n:=n) ca a6 rfl r1 aj (by simp only[aX]at hn;omega) ak aj;refine V1.i fR ?_;have hM:∀i∈v.ownBlock.toList,w.heap.size<=i/\i<w3.heap.size:=by
    intro i hi;simp at hi;exact bO i hi
   replace p:=p.aA K7 (λh=>by have:=hM _ h;omega) (λh=>by have:=hM _ h;omega) (λh=>by have:=hM _ h;omega);replace kk:=kk.trans' K7 (λi hi h=>by have:=hM i hi;omega);obtain⟨b8,sC,_,hc⟩:=r1.kind S1;injection sC with sC;injection sC with sC;injection sC with sC
   subst sC;replace hc:=K7.cell hc (λh=>by have:=hM bs h;omega);refine Up.i (Nc.p _ _) ?_;refine V1.i ah ?_;refine V1.i (Di _ _ _ hc) ?_;repeat(first|refine Up.i (Nc.p _ _) ?_|refine V1.load (aC rfl) au rfl ?_|refine V1.i ah ?_)
   refine If.b (λhb=>?_) (λhb=>?_)
   .simp only[show(kindOf t==8)=true by simpa using hb]at hr;subst hr;exact⟨fW.rep,fW.uG,⟨_,by simp,p⟩,kk⟩
   .simp only[show(kindOf t==8)=false by simpa using hb]at hr;exact hK m _ _ aj ⟨_,_,_,p,fW,kk,hr,by rw[eJ _ _ ca.uG];omega⟩
  .intro c w5 h;exact h.up hr kk al
 .have dZ:dI (hd bU)=true:=by simpa using hb
  simp only[dZ]at hr;subst hr;exact⟨ca.rep,ca.uG,⟨_,by simp,p⟩,kk⟩
end Go.Proofs.YtoddjlclpnoomaaGreatDoor

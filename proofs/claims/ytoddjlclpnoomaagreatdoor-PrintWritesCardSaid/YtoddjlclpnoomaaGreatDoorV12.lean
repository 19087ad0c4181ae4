import Derived.Test.YtoddjlclpnoomaaGreatDoorV11
set_option linter.unusedVariables false
set_option linter.unusedSimpArgs false
set_option maxRecDepth 100000
open Go.Proofs.Tryz
open List (mem_append mem_cons getElem?_eq_getElem length_cons not_mem_nil take_succ_eq_append_getElem mem_singleton toList_toArray length_append length_nil take_length length)
open Nat (le_of_ble_eq_true le_refl)
open Go.Value (cells int)
namespace Go.Proofs.YtoddjlclpnoomaaGreatDoor
open Go.Sh
theorem Vb(w:Wd)(n:Int)(g:GL w)(h0:-9223372036854775808<=n)(h1:n<=9223372036854775807):Calls prog 112 #[.int .i64 n] w (aZ (λv w'=>v=str (Lib.itoa n)/\aD [] w w') NP):=by
 refine Ty ?_;unfold Kr;refine KX (c164 w n g h0 h1) ?_ (NP.no (e:=_));rintro _ w1 ⟨rfl,K1⟩;exact⟨rfl,K1⟩
def iZ:By:=[48,49,50,51,52,53,54,55,56,57,97,98,99,100,101,102]
def kg(c:UInt8):By:=
 if c=10 then[92,110]else if c=9 then[92,116]else if c=92 then[92,92]else if c=34 then[92,34]
 else if c<32\/126<c then[92,120,iZ.getD (c.toNat/16) 0,iZ.getD (c.toNat%16) 0]else[c]
def qs(s:By):By:=[34]++s.flatMap kg++[34]
def dV:List (Va×Va):=[(.int .u8 110,.int .u8 10),(.int .u8 116,.int .u8 9),(.int .u8 92,.int .u8 92),(.int .u8 34,.int .u8 34)]
def qt(l:List (Va×Va)):Prop:=(∀p∈l,∃q∈dV,p=(q.2,q.1))/\∀q∈dV,(q.2,q.1)∈l
def short(c:UInt8):Option UInt8:=if c=10 then some 110 else if c=9 then some 116 else if c=92 then some 92 else if c=34 then some 34 else none
theorem qt.look{w:Wd}{b:Nat}{l:List (Va×Va)}(h:dR w b l)(hs:qt l)(c:UInt8):(Instr.lookup 215 (.map (some b)) (.int .u8 c.toNat) true).run prog w=
  .ok (match short c with|some v=>.tuple #[.int .u8 v.toNat,.bool true]|none=>.tuple #[.int .u8 0,.bool false]) w:=by
 have hm:prog.underlying 215=some (.map 5 5):=ai
 have hd:prog.underlying 5=some (.int .u8):=ai
 have mS:∀p∈l,MapKept.IsKey (.int .u8) p.1:=by
  intro p hp;obtain⟨q,hq,rfl⟩:=hs.1 p hp;simp only[dV,mem_cons,not_mem_nil,or_false]at hq;rcases hq with rfl|rfl|rfl|rfl<;>rfl
 have hv:∀(k v:Int),(int .u8 k,int .u8 v)∈l->∀p∈l,p.1=.int .u8 k->p.2=.int .u8 v:=by
  intro k v hkv p hp e;obtain⟨q,hq,rfl⟩:=hs.1 p hp;obtain⟨q',sj,e'⟩:=hs.1 _ hkv;simp only[dV,mem_cons,not_mem_nil,or_false]at hq sj;rcases hq with rfl|rfl|rfl|rfl<;>rcases sj with rfl|rfl|rfl|rfl<;>simp_all
 have hit:∀(k v:Int),(int .u8 k,int .u8 v)∈l->(Instr.lookup 215 (.map (some b)) (.int .u8 k) true).run prog w=.ok (.tuple #[.int .u8 v,.bool true]) w:=
  λk v h1=>nD hm hd h (show MapKept.IsKey (.int .u8) (.int .u8 k)from rfl) mS (hv k v h1) ⟨_,h1,rfl⟩ true
 by_cases h1:c=10
 .subst h1;exact hit 10 110 (hs.2 (.int .u8 110,.int .u8 10) (by simp[dV]))
 by_cases h2:c=9
 .subst h2;exact hit 9 116 (hs.2 (.int .u8 116,.int .u8 9) (by simp[dV]))
 by_cases h3:c=92
 .subst h3;exact hit 92 92 (hs.2 (.int .u8 92,.int .u8 92) (by simp[dV]))
 by_cases h4:c=34
 .subst h4;exact hit 34 34 (hs.2 (.int .u8 34,.int .u8 34) (by simp[dV]))
 have e:short c=none:=by simp[short,h1,h2,h3,h4]
 rw[e];have ne:∀d:UInt8,¬c=d->¬(d.toNat:Int)=(c.toNat:Int):=λd h e=>h (UInt8.toNat_inj.1 aj);have n1:=ne 10 h1;have n2:=ne 9 h2;have n3:=ne 92 h3;have n4:=ne 34 h4;simp only[UInt8.reduceToNat]at n1 n2 n3 n4;refine lR hm hd h (show MapKept.IsKey (.int .u8) (.int .u8 c.toNat)from rfl) mS ?_ (z:=.int .u8 0) au true;intro p hp e2;obtain⟨q,hq,rfl⟩:=hs.1 p hp;simp only[dV,mem_cons,not_mem_nil,or_false]at hq;rcases hq with rfl|rfl|rfl|rfl<;>(simp only[int.injEq,true_and]at e2;omega)
theorem Vc(a:Fin 256):bits .and .u8 (a.val:Int) 15=((a.val%16:Nat):Int):=by revert a;decide
theorem M1(w:Wd)(c:UInt8):(Bo .and 5 false true (.int .u8 c.toNat) (.int .u8 15)).run prog w=.ok (.int .u8 ((c.toNat%16:Nat):Int)) w:=by
 have:=Vc ⟨c.toNat,c.toNat_lt⟩;simp only at this;simp[go_sem,Bo,this]
theorem D5(w:Wd)(l:By)(i:Nat)(h:i<l.length):(Instr.index 9 (str l) (.int .u8 i)).run prog w=.ok (.int .u8 (l[i]).toNat) w:=by
 simp[go_sem,str,h];rfl
theorem V1.M3{w:Wd}{k:VK}{e:EK}{s:Sem Va}{z:AV}{T:TypeId}(h:s.run prog w=.ok (.pointer (some ⟨w.heap.size,0,none⟩)) (w.alloc (.cells z T)))
  (hk:∀b w',mQ w b z.toList w'->w'.shape? b=some (T,z.size)->k (.pointer (some ⟨b,0,none⟩)) w'):V1 prog s w k e:=
 V1.i h (hk _ _ (mQ.mk' w z T) (by unfold World.shape?;rw[gu,if_pos rfl]))
theorem Vd{lo:Nat}{w:Wd}{b:Nat}{rest:LV}{buf:By}(h:BX lo w b rest buf)(hl:buf.length<=1099511627776):
  Calls prog 19 #[ptr b] w (aZ (λv w'=>v=str buf/\BF w' b buf/\KL b lo w w') NP):=by
 refine aZ.sf (UY h.bf hl) ?_ (NP.no (e:=_));rintro v w' ⟨rfl,h2,M,hk,hM⟩;refine⟨rfl,h2,?_⟩;obtain⟨ad,v,ab,uo,hv,aI,hb,eW⟩:=h;refine KL.of hk eW λg hg=>.inr ?_;obtain⟨tE,gf,n,c,ab'⟩:=hM g hg;have h1:=ab.cell 1;have h2:=ab'.cell 1;rw[h1]at h2;simp only[List.getElem?_cons_succ,List.getElem?_cons_zero,Option.some.injEq]at h2;exact(hv.lt (g:=g) (by rw[h2];rfl)).1
theorem qu(s:By):(s.flatMap kg).length<=4*s.length:=by
 induction s with
 |nil=>simp
 |cons c s ih=>
  simp only[List.flatMap_cons,length_append,length_cons];have:(kg c).length<=4:=by
   unfold kg;by_cases h1:c=10
   .rw[if_pos h1];simp
   rw[if_neg h1];by_cases h2:c=9
   .rw[if_pos h2];simp
   rw[if_neg h2];by_cases h3:c=92
   .rw[if_pos h3];simp
   rw[if_neg h3];by_cases h4:c=34
   .rw[if_pos h4];simp
   rw[if_neg h4];by_cases h5:c<32\/126<c
   .rw[if_pos h5];simp
   .rw[if_neg h5];simp
  omega
theorem BX.len{lo:Nat}{w:Wd}{b:Nat}{rest:LV}{buf M4:By}(h:BX lo w b rest buf)(e:buf=M4):BX lo w b rest M4:=e▸h
set_option maxHeartbeats 1000000 in
theorem Ve(w:Wd)(s:By)(hs:s.length<=65536):Calls prog 165 #[str s] w (aZ (λv w'=>v=str (qs s)/\aD [] w w') NP):=by
 refine TC ?_;unfold KH;refine V1.map λbs w1 m1 gb k1=>?_;have lb:=m1.lt;refine DE (c194 w1) ?_ (NP.no (e:=_));rintro _ w2 ⟨bm,rfl,nm,gbm,lbm,K2⟩;have z2:=K2.size;replace m1:=m1.aA K2 ak;have kk:=k1.trans K2;refine V1.rangeMap (kt:=5) (et:=5) ai nm λr w3 i3 gr K3=>?_;have z3:=K3.size;have lr:=i3.lt;replace m1:=m1.aA K3 ak;replace nm:=nm.aA K3 ak;replace kk:=kk.trans K3;have AQ:dV.Nodup:=by unfold dV;simp
 refine L0.g (λn w'=>∃left l,nE w' r bm dV left/\dR w' bm dV/\dR w' bs l/\(∀p∈l,∃q∈dV,q∉left/\p=(q.2,q.1))/\(∀q∈dV,q∈left\/(q.2,q.1)∈l)/\(∀q∈left,q∈dV)/\left.length=n/\aD [] w w'/\w3.heap.size<=w'.heap.size) 4 ⟨dV,[],i3,nm,m1,by simp,λq hq=>.inl hq,λq hq=>hq,rfl,kk,le_refl _⟩ ?_;clear m1 nm i3 kk K2 K3;rintro n w4 K ⟨left,l,i4,nm,m4,h1,h2,h3,hn,kk,z4⟩ hK;refine V1.vo i4 nm aj ?_ ?_
 .rintro rfl;have iW:qt l:=⟨λp hp=>by obtain⟨q,hq,_,e⟩:=h1 p hp;exact⟨q,hq,e⟩,λq hq=>by rcases h2 q hq with h|h;cases h;exact h⟩;refine V1.i ah ?_;refine If.f ?_;refine V1.M3 (SG _) λbb w5 N5 Vf=>?_;have z5:=N5.aA.size;have B5:=N5.ge;have AZ:=N5.lt;have hz0:=kk.size;replace m4:=m4.aA N5.aA ak;have Ry:=kk.trans N5.aA;have bx:BX w5.heap.size w5 bb [] []:=⟨_,_,N5.at_,.inl ⟨rfl,54,2,Vf,.inl ⟨rfl,rfl⟩⟩,dS.nil _ _,.inl rfl,AZ,le_refl _⟩;refine np (uq bx 34 ak) ?_ (NP.no (e:=_));rintro _ w6 ⟨bx,L6⟩;refine V1.i ah ?_
  refine L1.i (λv w'=>∃i:Nat,i<=s.length/\v=.int .i64 i/\BX w5.heap.size w' bb [] ([34]++(s.take i).flatMap kg)/\KL bb w5.heap.size w5 w') (λv w'=>match v with|.int _ n=>(s.length-n.toNat)|_=>0) ⟨0,by omega,rfl,bx,L6⟩ ?_;rintro v w7 ⟨i,hi,rfl,bx,L7⟩;have Ij:=qu (s.take i);have htl:(s.take i).length<=i:=List.length_take_le _ _;have m7:=m4.aA L7.aA (jq aj aj);by_cases bO:i<s.length
  .refine V1.bt ay ?_;refine If.t ?_;have M5:∀w',BX w5.heap.size w' bb [] ([34]++(s.take (i+1)).flatMap kg)->KL bb w5.heap.size w5 w'->∃j:Nat,j<=s.length/\(.int .i64 ((i:Int)+1):Va)=.int .i64 j/\BX w5.heap.size w' bb [] ([34]++(s.take j).flatMap kg)/\KL bb w5.heap.size w5 w':=
    λw' h1 h2=>⟨i+1,by omega,by simp,h1,h2⟩
   have oZ:([34]:By)++(s.take (i+1)).flatMap kg=[34]++(s.take i).flatMap kg++kg s[i]:=by
    rw[take_succ_eq_append_getElem bO,List.flatMap_append,List.flatMap_singleton,List.append_assoc]
   refine J0.cut (λw'=>BX w5.heap.size w' bb [] ([34]++(s.take (i+1)).flatMap kg)/\KL bb w5.heap.size w5 w') ?_ ?_;rotate_left
   .rintro w' ⟨h1,h2⟩;refine V1.i (cC _ _ _ _ _ _ aj aj) ?_;exact⟨M5 w' h1 h2,by simp;omega⟩
   rw[oZ];refine V1.i (dU _ s i bO) ?_;generalize s[i]=c;refine V1.i (iW.look m7 c) ?_;have hlen:([34]++(s.take i).flatMap kg).length<=1099511000000:=by simp only[length_append,length_cons,length_nil]at*;omega
   have Rw:=c.toNat_lt
   cases si:short c with
   |some v=>
    have he:kg c=[92,v]:=by
     unfold short at si;unfold kg;repeat' split at si
     all_goals first|(cases si;done)|(injection si with si;subst si;simp_all)
    rw[he];refine V1.i ah ?_;refine V1.i ah ?_;refine If.t ?_;refine np (uq bx 92 (by simp only[length_append,length_cons,length_nil]at*;omega)) ?_ (NP.no (e:=_));rintro _ w8 ⟨bx,L8⟩;refine np (uq bx v (by simp only[length_append,length_cons,length_nil]at*;omega)) ?_ (NP.no (e:=_));rintro _ w9 ⟨bx,L9⟩;exact⟨bx.len ak,L7.trans (L8.trans L9)⟩
   |none=>
    have aI:¬c=10/\¬c=9/\¬c=92/\¬c=34:=by
     unfold short at si;refine⟨?_,?_,?_,?_⟩<;>(rintro rfl;simp at si)
    refine V1.i ah ?_;refine V1.i ah ?_;refine If.f ?_;refine V1.i (v:=.bool (decide ((c.toNat:Int)<32))) (w':=w7) au ?_;refine J1.gd (decide (126<(c.toNat:Int))) (λh k hk=>?_) ?_
    .refine V1.i (v:=.bool (decide (126<(c.toNat:Int)))) (w':=w7) au ?_;exact hk
    refine V1.i (fI _ _ _) ?_;have hb:(decide ((c.toNat:Int)<32)||decide (126<(c.toNat:Int)))=decide (c<32\/126<c):=by
     simp only[UInt8.lt_iff_toNat_lt,UInt8.reduceToNat];have a1:decide ((c.toNat:Int)<32)=decide (c.toNat<32):=by congr 1;apply propext;omega
     have a2:decide (126<(c.toNat:Int))=decide (126<c.toNat):=by congr 1;apply propext;omega
     rw[a1,a2,Bool.decide_or]
    rw[hb];by_cases hx:c<32\/126<c
    .have he:kg c=[92,120,iZ.getD (c.toNat/16) 0,iZ.getD (c.toNat%16) 0]:=by
      unfold kg;rw[if_neg aI.1,if_neg aI.2.1,if_neg aI.2.2.1,if_neg aI.2.2.2,if_pos hx]
     rw[he];simp only[hx,decide_true];refine If.t ?_;refine JN (c70 bx [92,120] (by simp only[length_append,length_cons,length_nil]at*;omega)) ?_ (NP.no (e:=_));rintro _ w8 ⟨bx8,L8⟩;replace L8:=L8.kl bx;replace bx:=bx8;refine V1.i (v:=.int .u8 ((c.toNat/16:Nat):Int)) (w':=w8) au ?_;have h1:c.toNat/16<iZ.length:=by show _<16;omega
     have h2:c.toNat%16<iZ.length:=by show _<16;omega
     refine V1.i (D5 w8 iZ _ h1) ?_;rw[show iZ[c.toNat/16]=iZ.getD (c.toNat/16) 0 by rw[List.getD_eq_getElem?_getD,getElem?_eq_getElem h1];rfl];refine np (uq bx (iZ.getD (c.toNat/16) 0) (by simp only[length_append,length_cons,length_nil]at*;omega)) ?_ (NP.no (e:=_));rintro _ w9 ⟨bx,L9⟩;refine V1.i (M1 w9 c) ?_;refine V1.i (D5 w9 iZ _ h2) ?_;rw[show iZ[c.toNat%16]=iZ.getD (c.toNat%16) 0 by rw[List.getD_eq_getElem?_getD,getElem?_eq_getElem h2];rfl];refine np (uq bx (iZ.getD (c.toNat%16) 0) (by simp only[length_append,length_cons,length_nil]at*;omega)) ?_ (NP.no (e:=_));rintro _ ei ⟨bx,L10⟩;exact⟨bx.len ak,L7.trans (L8.trans (L9.trans L10))⟩
    .have he:kg c=[c]:=by
      unfold kg;rw[if_neg aI.1,if_neg aI.2.1,if_neg aI.2.2.1,if_neg aI.2.2.2,if_neg hx]
     rw[he];simp only[hx,decide_false];refine If.f ?_;refine np (uq bx c (by simp only[length_append,length_cons,length_nil]at*;omega)) ?_ (NP.no (e:=_));rintro _ w8 ⟨bx,L8⟩;exact⟨bx.len ak,L7.trans L8⟩
  .have:i=s.length:=by omega
   subst this;refine V1.bf au ?_;refine If.f ?_;rw[take_length]at bx;have Ij:=qu s;refine np (uq bx 34 (by simp only[length_append,length_cons,length_nil]at*;omega)) ?_ (NP.no (e:=_));rintro _ w8 ⟨bx,L8⟩;refine FY (Vd bx (by simp only[length_append,length_cons,length_nil]at*;omega)) ?_ (NP.no (e:=_));rintro _ w9 ⟨rfl,bf,L9⟩;refine⟨rfl,Ry.trans' (KL.aA (L7.trans (L8.trans L9))) (λi hi bO=>?_)⟩;rcases nI hi with h|h<;>omega
 .intro key val jo w5 oH hlen B6 tF i5 m5 K5 z5 Gt hnl;have h4:=h3 _ oH;have hbr:bs≠r:=by omega
  refine V1.i ah ?_;refine If.t ?_;refine V1.i (Gt w5 (aD.refl _ _)) ?_;refine V1.i ah ?_;refine V1.i ah ?_;have m4':=m4.aA K5 al;have Gu:MapKept.IsKey (.int .u8) val:=by
   simp only[dV,mem_cons,not_mem_nil,or_false]at h4;rcases h4 with h|h|h|h<;>(injection h with _ h;subst h;rfl)
  have fz:∀q∈dV,q.2=val->q=(key,val):=by
   intro q hq e;simp only[dV,mem_cons,not_mem_nil,or_false]at h4 hq;rcases h4 with h|h|h|h<;>(injection h with ha hb;subst ha;subst hb)<;>rcases hq with rfl|rfl|rfl|rfl<;>simp_all
  refine U1.iI (kt:=5) (et:=5) (d:=.int .u8) ai ai m4' Gu ?_ ?_ λw6 m6 z6 k6=>?_
  .intro p hp;obtain⟨q,hq,_,rfl⟩:=h1 p hp;simp only[dV,mem_cons,not_mem_nil,or_false]at hq;rcases hq with rfl|rfl|rfl|rfl<;>rfl
  .intro p hp e;obtain⟨q,hq,Rz,rfl⟩:=h1 p hp;have:=fz q hq e;rw[this]at Rz;exact Rz oH
  .refine hK jo.length _ aj ⟨jo,_,i5.aA k6 al,m5.aA k6 al,m6,?_,?_,λq hq=>h3 q (tF q hq),rfl,(kk.trans' K5 al).trans' k6 al,by omega⟩
   .intro p hp;rcases mem_append.1 hp with h|h
    .obtain⟨q,hq,Rz,e⟩:=h1 p h;exact⟨q,hq,λh=>Rz (tF q h),e⟩
    .simp only[mem_singleton]at h;exact⟨(key,val),h4,hnl AQ,h⟩
   .intro q hq;rcases h2 q hq with h|h
    .rcases B6 q h with h|h
     .right;rw[h];simp
     .exact .inl h
    .right;simp[h]
end Go.Proofs.YtoddjlclpnoomaaGreatDoor
namespace Go.Proofs.YtoddjlclpnoomaaGreatDoor
inductive PR where
 |ok (buf:By) (parts:Nat)
 |fail (code:Int)
 |bH
def PR.bind(r:PR)(f:By->Nat->PR):PR:=match r with
 |.ok b p=>f b p
 |.fail c=>.fail c
 |.bH=>.bH
def oI(s:By)(b:By)(p:Nat):PR:=if s.length+b.length<=32768 then .ok (b++s) p else .fail 3
def aO:LB->By->Nat->PR
 |[],b,p=>.ok b p
 |s::l,b,p=>(oI s b p).bind λb p=>aO l b p
def fx(b:By)(p:Nat):PR:=if p+1<=65536 then .ok b (p+1)else .fail 3
def i64(n:Int):Bool:=decide (-9223372036854775808<=n/\n<=9223372036854775807)
def jC(s:By):By:=if 32768<s.length then s else qs s
def ph(s:By):Bool:=!(s==[])&&decide (s.length<=24)&&!(gY s)&&s.all (λc=>(du++cA).contains c)&&!(cA.contains (s.headD 0))
def ij:Tr->Bool
 |.ex k _ text _ _ _ _ _ _=>k==5&&ph text
 |_=>false
def kn:Tr->Bool
 |.ex ..=>true
 |.nil=>true
 |_=>false
def vC:Tr->Bool
 |.ex k ..=>k==10||k==11||k==9
 |_=>false
def vD:Tr->Bool
 |.ex k ..=>k==11
 |_=>false
def aW:Tr->Int
 |.ex k _ text _ _ _ _ _ _=>if k=11 then bD text else if k=10 then 50 else 100
 |_=>100
def nJ:Tr->Bool
 |.nil=>true
 |_=>false
def yB:Tr:=.ex 0 0 [] .nil .nil .nil .nil [] .nil
def eJ(e:Tr):Tr:=match e with
 |.nil=>yB
 |e=>e
def gS:LB->Bool->By->Nat->PR
 |[],_,b,p=>.ok b p
 |s::l,first,b,p=>(aO (if first then[s]else[[44,32],s]) b p).bind λb p=>gS l false b p
inductive Gv where
 |expr (e:Tr)|inner (e:Tr) (around:Bool)|func (ps:LB) (body:Tr)|args (l:Tr) (first:Bool)|items (ks l:Tr) (first:Bool)
 |block (l:Tr)|stmts (l:Tr)|stmt (s:Tr)|branch (r a b:Tr)|more (word:By) (e:Tr)|within (word:By) (l:Tr)
def bK:Nat->Gv->By->Nat->PR
  |0,_,_,_=>.bH
  |n+1,c,b,p=>match c with
    |.inner e around=>match around with
      |false=>bK n (.expr e) b p
      |true=>(aO [[40]] b p).bind λb p=>(bK n (.expr e) b p).bind λb p=>aO [[41]] b p
    |.func ps body=>(aO [[40]] b p).bind λb p=>(gS ps true b p).bind λb p=>(aO [[41]] b p).bind λb p=>(bK n (.block body) b p).bind λb p=>aO [cT] b p
    |.args l first=>match l with
      |.nil=>.ok b p
      |.cons x l=>(aO (if first then[]else[[44,32]]) b p).bind λb p=>(bK n (.expr x) b p).bind λb p=>bK n (.args l false) b p
      |_=>.bH
    |.items ks l first=>match l with
      |.nil=>.ok b p
      |.cons x l=>match ks with
        |.cons k ks=>(aO (if first then[]else[[44,32]]) b p).bind λb p=>(match k with
            |.nil=>.ok b p
            |.ex kk kn text kl kr Vg Vh Vi kb=>if ij k then(fx b p).bind λb p=>aO [text,[32,61,32]] b p
                else(aO [[91]] b p).bind λb p=>(bK n (.expr (.ex kk kn text kl kr Vg Vh Vi kb)) b p).bind λb p=>aO [[93,32,61,32]] b p
            |_=>.bH:PR).bind λb p=>(bK n (.expr x) b p).bind λb p=>bK n (.items ks l false) b p
        |_=>.bH
      |_=>.bH
    |.block l=>(aO [[10]] b p).bind λb p=>bK n (.stmts l) b p
    |.stmts l=>match l with
      |.nil=>.ok b p
      |.cons s l=>(bK n (.stmt s) b p).bind λb p=>(aO [[10]] b p).bind λb p=>bK n (.stmts l) b p
      |_=>.bH
    |.more word e=>match e with
      |.nil=>.ok b p
      |.ex ..=>(aO [word] b p).bind λb p=>bK n (.expr e) b p
      |_=>.bH
    |.within word l=>(aO [word] b p).bind λb p=>(bK n (.block l) b p).bind λb p=>aO [cT] b p
    |.branch r a bb=>(bK n (.more [32] (eJ r)) b p).bind λb p=>(aO [[32,116,104,101,110]] b p).bind λb p=>(bK n (.block a) b p).bind λb p=>
      match bb with
      |.nil=>aO [cT] b p
      |.cons (.st k nm l r2 t2 a2 b2) .nil=>if k=6 then(fx b p).bind λb p=>(aO [eR] b p).bind λb p=>bK n (.branch r2 a2 b2) b p
          else(aO [eu] b p).bind λb p=>(bK n (.block (.cons (.st k nm l r2 t2 a2 b2) .nil)) b p).bind λb p=>aO [cT] b p
      |.cons .nil .nil=>(aO [eu] b p).bind λb p=>(bK n (.block (.cons .nil .nil)) b p).bind λb p=>aO [cT] b p
      |.cons x (.cons y z)=>(aO [eu] b p).bind λb p=>(bK n (.block (.cons x (.cons y z))) b p).bind λb p=>aO [cT] b p
      |_=>.bH
    |.expr e=>match e with
      |.nil=>.fail 2
      |.ex k num text l r keys args params body=>if k<1\/12<k then .fail 2 else(fx b p).bind λb p=>
        if k=1 then aO [lO] b p
        else if k=2 then aO [ie] b p
        else if k=3 then aO [fE] b p
        else if k=4 then(if i64 num then aO [(Lib.itoa num)] b p else .bH)
        else if k=5 then aO [(jC text)] b p
        else if k=6 then aO [text] b p
        else if k=7 then(if kn l&&kn r then(bK n (.inner l (vC l)) b p).bind λb p=>
            (match r with
             |.ex _ _ rt _ _ _ _ _ _=>if ij r then(fx b p).bind λb p=>aO [[46],rt] b p else(aO [[91]] b p).bind λb p=>(bK n (.expr r) b p).bind λb p=>aO [[93]] b p
             |_=>(aO [[91]] b p).bind λb p=>(bK n (.expr r) b p).bind λb p=>aO [[93]] b p)else .bH)
        else if k=8 then(if kn l then(bK n (.inner l (vC l)) b p).bind λb p=>(aO [[40]] b p).bind λb p=>(bK n (.args args true) b p).bind λb p=>aO [[41]] b p else .bH)
        else if k=9 then(aO [bR] b p).bind λb p=>bK n (.func params body) b p
        else if k=10 then(if kn r then(aO [text,[32]] b p).bind λb p=>bK n (.inner r (vD r)) b p else .bH)
        else if k=11 then(if kn l&&kn r then
            (bK n (.inner l (decide (aW l<bD text)||(text==[46,46]&&aW l==bD text))) b p).bind λb p=>(aO [[32],text,[32]] b p).bind λb p=>
            bK n (.inner r (decide (aW r<bD text)||(!(text==[46,46])&&aW r==bD text))) b p else .bH)
        else if(dM keys&&dM args)=false then .bH else if len keys=len args then(aO [[123]] b p).bind λb p=>(bK n (.items keys args true) b p).bind λb p=>aO [[125]] b p else .fail 2
      |_=>.bH
    |.stmt s=>match s with
      |.nil=>.fail 2
      |.st k nm l r t2 a bb=>if k<1\/11<k then .fail 2 else(fx b p).bind λb p=>
        if k=1 then(aO [[108,111,99,97,108,32],nm] b p).bind λb p=>bK n (.more [32,61,32] r) b p
        else if k=2 then(bK n (.expr l) b p).bind λb p=>bK n (.more [32,61,32] (eJ r)) b p
        else if k=3 then bK n (.expr r) b p
        else if k=4 then bK n (.within qd a) b p
        else if k=5 then(bK n (.more [119,104,105,108,101,32] (eJ r)) b p).bind λb p=>bK n (.within [32,100,111] a) b p
        else if k=6 then(aO [DG] b p).bind λb p=>bK n (.branch r a bb) b p
        else if k=7 then(aO [[102,111,114,32],nm] b p).bind λb p=>(bK n (.more [32,61,32] (eJ r)) b p).bind λb p=>(bK n (.more [44,32] (eJ t2)) b p).bind λb p=>bK n (.within [32,100,111] a) b p
        else if k=8 then(aO [gM] b p).bind λb p=>bK n (.more [32] r) b p
        else if k=9 then aO [ke] b p
        else if k=10 then(aO [nv] b p).bind λb p=>(bK n (.block a) b p).bind λb p=>(aO [[99,97,116,99,104,32],nm] b p).bind λb p=>bK n (.within [] bb) b p
        else(aO [[108,111,99,97,108,32,102,117,110,99,116,105,111,110,32],nm] b p).bind λb p=>(match r with
          |.ex k2 _ _ _ _ _ _ params body=>if k2=9 then(fx b p).bind λb p=>bK n (.func params body) b p else .fail 2
          |.nil=>.fail 2
          |_=>.bH)
      |_=>.bH
end Go.Proofs.YtoddjlclpnoomaaGreatDoor
namespace Go.Proofs.YtoddjlclpnoomaaGreatDoor
def bW(b:By)(p:Nat)(r:PR):Prop:=∀b' p',r=.ok b' p'->b.length<=b'.length/\p<=p'
variable {b:By}{p:Nat}
theorem bW.ok:bW b p (.ok b p):=by
 intro b' p' h
 cases h
 exact⟨le_refl _,le_refl _⟩
theorem bW.fail(c:Int):bW b p (.fail c):=by
 intro b' p' h
 cases h
theorem bW.bH:bW b p .bH:=by
 intro b' p' h
 cases h
theorem bW.bind{r:PR}{g:By->Nat->PR}(hf:bW b p r)(hg:∀b1 p1,bW b1 p1 (g b1 p1)):bW b p (r.bind g):=by
 intro b' p' h
 cases r with
 |ok b1 p1=>
  have h1:=hf b1 p1 rfl;have h2:=hg b1 p1 b' p' h;omega
 |fail c=>cases h
 |bH=>cases h
theorem bW.put(s:By):bW b p (oI s b p):=by
 intro b' p' h;unfold oI at h;split at h
 .cases h
  simp
 .cases h
theorem bW.aO:∀(l:LB) (b:By) (p:Nat),bW b p (aO l b p)
 |[],b,p=>bW.ok
 |s::l,b,p=>(bW.put s).bind (bW.aO l)
theorem bW.part:bW b p (fx b p):=by
 intro b' p' h;unfold fx at h;split at h
 .cases h
  simp
 .cases h
theorem bW.wF:∀(l:LB) (first:Bool) (b:By) (p:Nat),bW b p (gS l first b p)
 |[],_,b,p=>bW.ok
 |s::l,first,b,p=>(bW.aO _ b p).bind (bW.wF l false)
theorem bW.ite{c:Prop}{hd:Decidable c}{x y:PR}(hx:bW b p x)(hy:bW b p y):bW b p (@ite PR c hd x y):=by
 split
 .exact hx
 .exact hy
theorem cQ:∀(n:Nat) (c:Gv) (b:By) (p:Nat),bW b p (bK n c b p)
 |0,c,b,p=>by unfold bK;exact bW.bH
 |n+1,c,b,p=>by
  have ih:=cQ n;unfold bK;repeat' (first
   |exact ih _ _ _|exact bW.ok|exact bW.fail _|exact bW.bH|exact bW.put _|exact bW.aO _ _ _|exact bW.part|exact bW.wF _ _ _ _
   |refine bW.bind ?_ (λb1 p1=>?_)|refine bW.ite ?_ ?_
   |split)
theorem mo{r:PR}{f:By->Nat->PR}{b:By}{p:Nat}(h:r.bind f=.ok b p):∃b1 p1,r=.ok b1 p1/\f b1 p1=.ok b p:=by
 cases r with
 |ok b1 p1=>exact⟨b1,p1,rfl,h⟩
 |fail c=>cases h
 |bH=>cases h
theorem bJ:∀{l:LB}{b b':By}{p p':Nat},aO l b p=.ok b' p'->b'.length=b.length+(l.map length).sum
 |[],b,b',p,p',h=>by cases h;simp
 |s::l,b,b',p,p',h=>by
  obtain⟨b1,p1,h1,h2⟩:=mo h;have:=bJ h2;unfold oI at h1;split at h1
  .cases h1
   simp at this⊢
   omega
  .cases h1
theorem pj{n:Nat}{e:Tr}{b b':By}{p p':Nat}(h:bK n (.expr e) b p=.ok b' p'):p+1<=p':=by
 cases n with
 |zero=>unfold bK at h;cases h
 |succ n=>
  have key:∀(g:By->Nat->PR),(∀b1 p1,bW b1 p1 (g b1 p1))->(fx b p).bind g=.ok b' p'->p+1<=p':=by
   intro g hg h;obtain⟨b1,p1,h1,h2⟩:=mo h;have:=(hg b1 p1 b' p' h2).2;unfold fx at h1;split at h1
   .cases h1;omega
   .cases h1
  unfold bK at h
  cases e with
  |ex k num text l r keys args params body=>
   dsimp only at h;by_cases hk:k<1\/12<k
   .rw[if_pos hk]at h;cases h
   .rw[if_neg hk]at h;refine key _ (λb1 p1=>?_) h;have ih:=cQ n;repeat' (first
     |exact ih _ _ _|exact bW.ok|exact bW.fail _|exact bW.bH|exact bW.put _|exact bW.aO _ _ _|exact bW.part|exact bW.wF _ _ _ _
     |refine bW.bind ?_ (λb1 p1=>?_)|refine bW.ite ?_ ?_
     |split)
  |nil=>cases h
  |hole=>cases h
  |cons=>cases h
  |st=>cases h
end Go.Proofs.YtoddjlclpnoomaaGreatDoor

namespace Go.Proofs.YtoddjlclpnoomaaGreatDoor
open Go.Sh
set_option maxRecDepth 100000
theorem PS.cons{w:Wd}{x:fk}{ts:LT}{deep:Int}{own:Bool}(h:PS w x ts deep own):∃t us,ts=t::us:=by
 cases ts with
 |nil=>exact absurd rfl h.ne
 |cons t us=>exact⟨t,us,rfl⟩
section
variable {w:Wd}{x:fk}{ts:LT}{deep:Int}{own:Bool}
theorem d31(h:PS w x ts deep own):Calls prog 31 #[ptr x.p] w (aZ (λv w'=>v=dx (hd ts)/\aD [] w w') NP):=by
 obtain⟨t,us,rfl⟩:=h.cons;exact c31 h
theorem d107(h:PS w x ts deep own):Calls prog 107 #[ptr x.p] w (aZ (λv w'=>v=dx (hd ts)/\PS w' x (bG ts) deep own/\aD [x.p] w w') NP):=by
 obtain⟨t,us,rfl⟩:=h.cons;exact c107 h
theorem d99{b:Nat}{ss:LB}(h:PS w x ts deep own)(hb:At w b (ss.map str))(hn:ss.length<=100):
  Calls prog 99 #[ptr x.p,strs b ss.length] w (aZ (λv w'=>v=.bool (gw (hd ts) ss)/\aD [] w w') NP):=by
 obtain⟨t,us,rfl⟩:=h.cons;exact Rv h hb hn
theorem gZ{b:Nat}{s:By}(h:PS w x ts deep own)(hb:At w b [str s]):
 Calls prog 99 #[ptr x.p,.slice (some ⟨b,0,none⟩) 1 1] w (aZ (λv w'=>v=.bool (bC s ts)/\aD [] w w') NP):=d99 (ss:=[s]) h hb ak
theorem d158(s:By)(h:PS w x ts deep own):
  Calls prog 158 #[ptr x.p,str s] w (aZ (λv w'=>v=.bool (bC s ts)/\PS w' x (if bC s ts then bG ts else ts) deep own/\aD [x.p] w w') NP):=by
 obtain⟨t,us,rfl⟩:=h.cons;exact Ut s h
theorem d57(h:PS w x ts deep own):Calls prog 57 #[ptr x.p] w (aZ (λv w'=>v=.bool (dQ (hd ts))/\aD [] w w') NP):=by
 obtain⟨t,us,rfl⟩:=h.cons;exact c57 h
def Er(M:List Nat)(x:fk)(w:Wd)(r:bN)(c:List PanicEntry)(w':Wd):Prop:=match r with
 |.fail code=>kH M w x code c w'
 |_=>False
theorem Er.up{M N:List Nat}{w0 w w':Wd}{r1 r:bN}{f:Tr->LT->Bool->bN}{c:List PanicEntry}(h:Er M x w r1 c w')(hr:r1.bind f=r)(hk:aD N w0 w)
  (hM:∀i∈M,i<w0.heap.size->i∈N):Er N x w0 r c w':=by
 cases r1 with
 |fail code=>subst hr;exact kH.pre h hk hM
 |ok _ _ _=>exact h.elim
 |bH=>exact h.elim
theorem Er.pre{M N:List Nat}{w0 w w':Wd}{r:bN}{c:List PanicEntry}(h:Er M x w r c w')(hk:aD N w0 w)
  (hM:∀i∈M,i<w0.heap.size->i∈N):Er N x w0 r c w':=by
 cases r with
 |fail code=>exact kH.pre h hk hM
 |ok _ _ _=>exact h.elim
 |bH=>exact h.elim
theorem Er.next{M:List Nat}{w w':Wd}{r1 r:bN}{f:Tr->LT->Bool->bN}{c:List PanicEntry}(h:Er M x w r1 c w')(hr:r1.bind f=r):Er M x w r c w':=by
 cases r1 with
 |fail code=>subst hr;exact h
 |ok _ _ _=>exact h.elim
 |bH=>exact h.elim
theorem Er.all{α:Type}{F:α->bN}{M:List Nat}{w w':Wd}{r:bN}{c:List PanicEntry}(h:∀f,Er M x w (F f) c w'){f:α}(hr:F f=r):Er M x w r c w':=by
 rw[←hr];exact h f
theorem cW{s:By}{ts:LT}{f:LT->bN}(h:bC s ts=true):aR s ts f=f (bG ts):=by unfold aR;rw[h]
theorem fK{ts:LT}{f:By->LT->bN}(h:((hd ts).kind==1)=true):cU ts f=f (hd ts).text (bG ts):=by unfold cU;rw[h]
theorem fL{d:Int}{f:Int->bN}(h:decide (64<d+1)=false):cD d f=f (d+1):=by unfold cD;rw[h]
theorem aL{t:Tr}{ts:LT}{o:Bool}{f:Tr->LT->Bool->bN}:(bN.ok t ts o).bind f=f t ts o:=rfl
theorem aM{r1 r:bN}{f:Tr->LT->Bool->bN}(hr:r1.bind f=r)(aI:r≠.bH):r1≠.bH:=by
 rintro rfl;exact aI hr.symm
theorem d32(code:Int)(h:PS w x ts deep own):Calls prog 32 #[ptr x.p,.int .i64 code] w (aZ (λ_ _=>False) (Er [x.p] x w (.fail code))):=by
 obtain⟨t,us,rfl⟩:=h.cons;exact Us code h
theorem d106(s:By)(h:PS w x ts deep own):
  Calls prog 106 #[ptr x.p,str s] w (aZ (λv w'=>bC s ts=true/\v=.int .i64 (hd ts).line/\PS w' x (bG ts) deep own/\aD [x.p] w w') (λc w'=>∀f,Er [x.p] x w (aR s ts f) c w')):=by
 obtain⟨t,us,rfl⟩:=h.cons;refine(Uu s h).mono ?_;rintro e w' h
 cases e with
 |returned v=>exact h
 |panicked c=>intro f;simp only[aR,bC,hd,h.1];exact h.2
 |outgrown=>exact h
theorem d104(h:PS w x ts deep own):
  Calls prog 104 #[ptr x.p] w (aZ (λv w'=>((hd ts).kind==1)=true/\v=dx (hd ts)/\PS w' x (bG ts) deep own/\aD [x.p] w w') (λc w'=>∀f,Er [x.p] x w (cU ts f) c w')):=by
 obtain⟨t,us,rfl⟩:=h.cons;refine(Uv h).mono ?_;rintro e w' h
 cases e with
 |returned v=>exact⟨by simpa[hd]using h.1,h.2⟩
 |panicked c=>
  intro f;have:(t.kind==1)=false:=by simpa using h.1
  simp only[cU,hd,this];exact h.2
 |outgrown=>exact h
def eK:Tr->Bool
 |.ex ..=>true
 |.st ..=>true
 |_=>false
def Ok(M:List Nat)(lo:Nat)(x:fk)(w:Wd)(deep:Int)(mk:Va->Md)(sh:Tr->Bool)(ow:Bool)(r:bN)(v:Va)(w':Wd):Prop:=match r with
 |.ok t ts o=>aP (Fr lo []) w' t (mk v)/\sh t=true/\(∃o',(ow=true->o'=o)/\PS w' x ts deep o')/\aD M w w'
 |_=>False
theorem Ok.out{M:List Nat}{lo:Nat}{x:fk}{w:Wd}{deep:Int}{mk:Va->Md}{sh:Tr->Bool}{ow:Bool}{r:bN}{v:Va}{w':Wd}(h:Ok M lo x w deep mk sh ow r v w'):
  ∃t ts o,r=.ok t ts o/\aP (Fr lo []) w' t (mk v)/\sh t=true/\(∃o',(ow=true->o'=o)/\PS w' x ts deep o')/\aD M w w':=by
 cases r with
 |ok t ts o=>exact⟨t,ts,o,rfl,h⟩
 |fail c=>exact h.elim
 |bH=>exact h.elim
theorem Ok.Vj{M:List Nat}{lo:Nat}{x:fk}{w:Wd}{deep:Int}{mk:Va->Md}{sh:Tr->Bool}{ow:Bool}{r:bN}{v:Va}{w':Wd}(h:Ok M lo x w deep mk sh ow r v w'):Ok M lo x w deep mk sh false r v w':=by
 cases r with
 |ok t ts o=>exact⟨h.1,h.2.1,⟨h.2.2.1.choose,bg,h.2.2.1.choose_spec.2⟩,h.2.2.2⟩
 |fail c=>exact h.elim
 |bH=>exact h.elim
theorem Ok.pre{M N:List Nat}{lo lo':Nat}{x:fk}{w w0:Wd}{deep:Int}{mk:Va->Md}{sh:Tr->Bool}{ow:Bool}{r:bN}{v:Va}{w':Wd}(h:Ok M lo x w deep mk sh ow r v w')(hk:aD N w0 w)
  (hM:∀i∈M,i<w0.heap.size->i∈N) (hl:lo'<=lo):Ok N lo' x w0 deep mk sh ow r v w':=by
 cases r with
 |ok t ts o=>exact⟨h.1.fit hl ak,h.2.1,h.2.2.1,hk.trans' h.2.2.2 hM⟩
 |fail c=>exact h.elim
 |bH=>exact h.elim
def D6(bs:Nat)(x:fk)(w:Wd)(deep:Int)(r:bN)(w':Wd):Prop:=match r with
 |.ok t ts o=>aP (λq=>q=bs\/w.heap.size<=q) w' t (.P (ptr bs))/\eK t=true/\(∃o',PS w' x ts deep o')/\aD [x.p,bs] w w'
 |_=>False
theorem D6.out{bs:Nat}{x:fk}{w:Wd}{deep:Int}{r:bN}{w':Wd}(h:D6 bs x w deep r w'):
  ∃t ts o,r=.ok t ts o/\aP (λq=>q=bs\/w.heap.size<=q) w' t (.P (ptr bs))/\eK t=true/\(∃o',PS w' x ts deep o')/\aD [x.p,bs] w w':=by
 cases r with
 |ok t ts o=>exact⟨t,ts,o,rfl,h⟩
 |fail c=>exact h.elim
 |bH=>exact h.elim
theorem aP.kind{F:Nat->Prop}{w:Wd}{t:Tr}{v:Va}(h:aP F w t (.P v))(hs:eK t=true):∃b,v=ptr b/\F b/\w.cell? ⟨b,0,none⟩=some (.int .i64 (kindOf t)):=by
 cases t with
 |ex=>
  obtain⟨b,line,lv,rv,kv,av,pv,bv,h1,h2,h3,_⟩:=h;exact⟨b,h1,h2,by rw[h3.cell];rfl⟩
 |st=>
  obtain⟨b,line,lv,rv,kv,av,pv,h1,h2,h3,_⟩:=h;exact⟨b,h1,h2,by rw[h3.cell];rfl⟩
 |nil=>cases hs
 |hole=>cases hs
 |cons=>cases hs
end
def B7(b:Nat):Va:=.func (.func 202) #[] #[ptr b]
theorem PS.deep{w w':Wd}{x:fk}{ts:LT}{d:Int}{own:Bool}(h:PS w x ts d own){d':Int}{own':Bool}(hu:∀o c,At w x.p [.slice (some ⟨x.bt,o,none⟩) ts.length c,.map (some x.bm),.int .i64 d,.bool own]->
  tV w x.p [.slice (some ⟨x.bt,o,none⟩) ts.length c,.map (some x.bm),.int .i64 d',.bool own'] w'):PS w' x ts d' own':=by
 obtain⟨o,c,h1,h2,h3⟩:=h.ex;have U:=hu o c h1;have ht:=h.tp;have hm:=h.mp;exact⟨⟨o,c,U.at_,h2,dm.aA U.aA (by simpa using ht) _ _ h3⟩,h.sat.aA U.aA (by simpa using hm),h.tp,h.mp,by have:=U.size;have:=h.ll;omega,h.ne⟩
theorem yi.go{R:ER}{w:Wd}{x:fk}{ts:LT}{d:Int}{own:Bool}{b:Nat}(h:PS w x ts d own)(hb:At w b [ptr x.p])
  (hk:∀d' w',(-9223372036854775808<=d-1->d-1<=9223372036854775807->d'=d-1)->PS w' x ts d' own->aD [x.p] w w'->R (.returned (.tuple #[])) w'):yi R (ptr b) w:=by
 unfold yi;obtain⟨o,c,h1,h2,h3⟩:=h.ex;unfold ptr at*;repeat(first|refine Up.i (Nc.p _ _) ?_|refine V1.load (aC rfl) aw rfl ?_|refine V1.i ah ?_)
 refine U1.store (aH rfl rfl) (h1) ak λw1 U=>?_;exact hk _ w1 (λh1 h2=>IntWalk.i64_in _ aj) (h.deep λo' c' Gw=>by
  obtain⟨T,hT⟩:=h1;obtain⟨T',D7⟩:=Gw;rw[hT]at D7;injection D7 with e1;simp at e1
  obtain⟨h1,h2⟩:o=o'/\c=c':=by grind
  subst h1 h2;exact U) U.aA
theorem sn{res:Wd->(Va->Prop)->Prop}{R:ER}{ds:LD}{u:FrameMode}{w:Wd}{x:fk}{ts:LT}{d:Int}{own:Bool}{b:Nat}(hu:ml u)(h:PS w x ts d own)(hb:At w b [ptr x.p])
  (hk:∀d' w',(-9223372036854775808<=d-1->d-1<=9223372036854775807->d'=d-1)->PS w' x ts d' own->aD [x.p] w w'->Lv prog res R ds u w'):
  Lv prog res R (⟨.fn (.func 202) #[ptr b],#[]⟩::ds) u w:=by
 refine Lv.go hu (a:=[ptr b]) (C:=λe w'=>e=.returned (.tuple #[])/\Lv prog res R ds u w') (aJ func202 (c:=bA f202) ai ai _ _)
  (wg [] mixed func202 (c:=bA f202) ai (le_of_ble_eq_true ai) (by rw[Ul];exact yi.go h hb λd' w' h1 h2 h3=>⟨rfl,hk d' w' h1 h2 h3⟩)) ?_
 rintro e w' ⟨rfl,h⟩;exact⟨_,rfl,h⟩
theorem dK{r0:Wd->(Va->Prop)->Prop}{Q:VK}{M N:List Nat}{w0 w w':Wd}{x:fk}{r:bN}{c:List PanicEntry}{b:Nat}(h:Er M x w r c w')(hp:x.p<w0.heap.size)(hN:x.p∈N)
  (hb:At w b [ptr x.p]) (hbM:b∉M) (hk:aD N w0 w) (hM:∀i∈M,i<w0.heap.size->i∈N):
  Lv prog r0 (aZ Q (Er N x w0 r)) [⟨.fn (.func 202) #[ptr b],#[]⟩] (.panicking c) w':=by
 cases r with
 |ok _ _ _=>exact h.elim
 |bH=>exact h.elim
 |fail code=>
  obtain⟨⟨b1,l,rfl,h2,h3⟩,⟨ts,d,own,h4⟩,h5⟩:=h;refine sn (ml.qX _) h4 (h5.at hb hbM) λd' w2 _ h6 h7=>?_;have:=hk.size;exact⟨⟨b1,l,rfl,h7.at h2 al,by omega⟩,⟨_,_,_,h6⟩,(hk.trans' h5 hM).trans' h7 (by simpa using λ_=>hN)⟩
theorem mq{Q:VK}{E:EK}{v:Va}{w:Wd}{x:fk}{ts:LT}{d:Int}{own:Bool}{b:Nat}(h:PS w x ts (d+1) own)(hd:0<=d/\d<=64)(hb:At w b [ptr x.p])
  (hk:∀w',PS w' x ts d own->aD [x.p] w w'->Q v w'):Lv prog (r1 v) (aZ Q E) [⟨.fn (.func 202) #[ptr b],#[]⟩] .returning w:=by
 refine sn ml.ret h hb λd' w' h1 h2 h3=>?_;have:d'=d:=by have:=h1 aj aj;omega
 subst this;exact hk w' h2 h3
theorem d159{w:Wd}{x:fk}{ts:LT}{d:Int}{own:Bool}(p:PS w x ts d own)(hd:0<=d/\d<=64):
  Calls prog 159 #[ptr x.p] w (aZ (λv w'=>decide (64<d+1)=false/\∃b,v=B7 b/\w.heap.size<=b/\At w' b [ptr x.p]/\PS w' x ts (d+1) own/\aD [x.p] w w') (λc w'=>∀f,Er [x.p] x w (cD d f) c w')):=by
 refine Ud ?_;unfold Lx;have lp:=p.mR;refine V1.new (wq _ _) λb w1 N=>?_;have gN:=N.ge;have lN:=N.lt;have zN:=N.aA.size;have a1:=N.at_;try simp only[cells,toList_toArray]at a1
 replace p:=p.new N.aA;obtain⟨o,c,h1,h2,h3⟩:=p.ex;unfold ptr at*;repeat(first|refine Up.i (Nc.p _ _) ?_|refine V1.load (aC rfl) aw rfl ?_|refine V1.i ah ?_)
 rw[IntWalk.i64_in _ aj];refine U1.store (aH rfl rfl) (h1) ak λw2 U=>?_;have a2:=U.at_;have p2:PS w2 x ts (d+1) own:=p.deep λo' c' Gw=>by
  obtain⟨T,hT⟩:=h1;obtain⟨T',D7⟩:=Gw;rw[hT]at D7;injection D7 with e1;simp at e1
  obtain⟨h1,h2⟩:o=o'/\c=c':=by grind
  subst h1 h2;exact U
 replace a1:=U.aA.at a1 al;have kk:aD [x.p] w w2:=N.aA.then U.aA ak ak
 refine J0.go ?_;repeat(first|refine Up.i (Nc.p _ _) ?_|refine V1.load (aC rfl) aw rfl ?_|refine V1.i ah ?_)
 refine If.b (λhb=>?_) (λhb=>?_)
 .repeat(first|refine Up.i (Nc.p _ _) ?_|refine V1.load (aC rfl) aw rfl ?_|refine V1.i ah ?_)
  refine lQ (d32 3 p2) ?_ ?_
  .rintro _ _ h;exact h.elim
  .intro c w3 hF f;have:decide (64<d+1)=true:=by simpa using hb
   simp only[cD,this];exact hF.pre kk ak
 .repeat(first|refine Up.i (Nc.p _ _) ?_|refine V1.load (aC rfl) aw rfl ?_|refine V1.i ah ?_)
  exact⟨by simpa using hb,b,rfl,gN,a1,p2,kk⟩
def aX:Nat:=1099511627776
def G0(n:Nat)(c:Cl)(K:FuncId)(a:LV)(mk:Va->Md)(sh:Tr->Bool)(ow:Bool):Prop:=
 ∀(w:Wd) (x:fk) (ts:LT) (deep:Int) (own:Bool) (r:bN),PS w x ts deep own->0<=deep/\deep<=64->n<=aX->run n c deep ts=r->r≠.bH->
  Calls prog K (ptr x.p::a).toArray w (aZ (Ok [x.p] w.heap.size x w deep mk sh ow r) (Er [x.p] x w r))
def G1(n:Nat)(c:Tr->Cl)(K:FuncId)(a:LV)(sh:Tr->Bool):Prop:=
 ∀(w:Wd) (x:fk) (ts:LT) (deep:Int) (own:Bool) (r:bN) (l:Tr) (la:Option Addr) (lo:Nat),PS w x ts deep own->0<=deep/\deep<=64->n<=aX->run n (c l) deep ts=r->r≠.bH->
  aP (Fr lo []) w l (.P (.pointer la))->lo<=w.heap.size->x.p<lo->Calls prog K (ptr x.p::.pointer la::a).toArray w (aZ (Ok [x.p] lo x w deep .P sh false r) (Er [x.p] x w r))
def idx:Tr->Bool
 |.ex _ _ _ _ r _ _ _ _=>eK r
 |_=>false
theorem wG{t:Tr}(h:idx t=true):eK t=true:=by cases t<;>first|rfl|cases h
def sq(line:Int):LV:=[.int .i64 0,.int .i64 line,str [],.pointer none,.pointer none,.pointer none,.slice none 0 0,.slice none 0 0]
def GS(n:Nat)(c:Cl)(K:FuncId):Prop:=
 ∀(w:Wd) (x:fk) (ts:LT) (deep:Int) (own:Bool) (r:bN) (bs:Nat) (line:Int),PS w x ts deep own->0<=deep/\deep<=64->n<=aX->run n c deep ts=r->r≠.bH->
  At w bs (sq line)->bs≠x.p->bs≠x.bt->bs≠x.bm->Calls prog K #[ptr x.p,ptr bs] w (aZ (λ_=>D6 bs x w deep r) (Er [x.p,bs] x w r))
structure nK(n:Nat):Prop where
 block:G0 n .block 30 [] .L dM false
 inner:∀s,G0 n (.inner s) 105 [str s] .L dM false
 expr:∀a,G0 n (.expr a) 108 [.int .i64 a] .P eK false
 operand:G0 n .operand 162 [] .P eK false
 post:G0 n .post 156 [] .P eK true
 dz:G0 n .dz 199 [] .P eK false
 signed:G0 n .signed 220 [] .P eK false
 bin:∀k,0<=k/\k<=100->G1 n (λl=>.bin l k) 163 [.int .i64 k] eK
 bracket:G1 n .bracket 200 [] idx
 stmt:GS n .stmt 58
 simple:GS n .simple 100
 lM:GS n .lM 101
 branch:GS n .branch 109
end Go.Proofs.YtoddjlclpnoomaaGreatDoor

namespace Go.Proofs.YtoddjlclpnoomaaGreatDoor
open Go.Sh
theorem g105{n:Nat}(ih:nK n)(s:By):G0 (n+1) (.inner s) 105 [str s] .L dM false:=by
 intro w x ts deep own r p dW hn hr aI;refine T2 ?_;unfold Lk;simp only[run]at hr;have lp:=p.mR;have lt:=p.ll;have lm:=p.qY;have kk:=aD.refl [x.p] w;refine AR.go ?_;refine V1.aG ah λb w1 N=>?_;have gN:=N.ge;have lN:=N.lt;have zN:=N.aA.size;have a1:=N.at_;try simp only[cells,toList_toArray]at a1
 replace p:=p.new N.aA;replace kk:=N.kp kk;refine fW (gZ p a1) ?_ (NP.no (e:=_));rintro _ w2 ⟨rfl,K2⟩;have wH:=K2.size;replace p:=p.aA K2 af af af;replace kk:=kk.trans' K2 af;replace a1:=K2.at a1 af;repeat(first|refine Up.i (Nc.p _ _) ?_|refine V1.load (aC rfl) aw rfl ?_|refine V1.i ah ?_)
 refine If.b (λhb=>?_) (λhb=>?_)
 .have eF:bC s ts=false:=by simpa using hb
  simp only[eF]at hr;subst hr;refine lQ (d32 4 p) ?_ ?_
  .rintro _ _ h;exact h.elim
  .intro c w3 hF;exact hF.pre kk ak
 .have eF:bC s ts=true:=by simpa using hb
  simp only[eF]at hr;refine mj (d159 p dW) ?_ ?_;rotate_left
  .intro c w3 hF;rw[←hr];exact(hF _).pre kk ak
  .rintro _ w3 ⟨gg,b3,rfl,Gx,a3,p,K3⟩;have ur:deep+1<=64:=by simpa using gg
   have tG:=K3.size;replace kk:=kk.trans' K3 af;replace a1:=K3.at a1 af;rw[fL gg]at hr;refine D1.i (by simp[go_sem,B7,Deferred.ofValue];exact⟨rfl,rfl⟩) ?_;refine eh (d107 p) ?_ (NP.no (e:=_));rintro _ w4 ⟨rfl,p,K4⟩;have A0:=K4.size;replace a3:=K4.at a3 af;replace kk:=kk.trans' K4 af;refine BR (ih.block _ _ _ _ _ _ p aj aj rfl (by rw[hr];exact aI)) ?_ ?_
   .intro v w5 h;obtain⟨t,cB,o,fc,R1,S1,⟨o',-,p⟩,K5⟩:=h.out;have wI:=K5.size;replace a3:=K5.at a3 af;replace kk:=kk.trans' K5 af;refine mq p dW a3 λw6 p6 K6=>?_;rw[←hr,fc];exact⟨(R1.fr K6 al).fit aj ak,S1,⟨_,by simp,p6⟩,kk.trans' K6 ak⟩
   .intro c w5 h;rw[hr]at h;exact dK h lp ak a3 al kk ak
theorem g30{n:Nat}(ih:∀m,m<=n->nK m):G0 (n+1) .block 30 [] .L dM false:=by
 intro w x ts deep own r p dW hn hr aI;refine s30 ?_;unfold ZM;simp only[run]at hr;have lp:=p.mR;have lt:=p.ll;have lm:=p.qY;refine J1.go ?_;refine L1.g (λm v w'=>∃acc bX own',PS w' x bX deep own'/\Acc 40 w.heap.size [] w' v acc/\aD [x.p] w w'/\run m (.fD acc) deep bX=r/\len acc+m<=n) n
  ⟨.nil,ts,own,p,Acc.nil _ _ _ _,aD.refl _ _,hr,by simp[len]⟩ ?_
 rintro m v w' K ⟨acc,bX,own',p,ca,kk,hr,hm⟩ hK
 cases m with
 |zero=>exact absurd hr.symm aI
 |succ m=>
 simp only[run]at hr;have z0:=kk.size;refine F4 (d57 p) ?_ (NP.no (e:=_));rintro _ w2 ⟨rfl,K2⟩;have wH:=K2.size;replace p:=p.aA K2 af af af;replace ca:=ca.fr K2 af;replace kk:=kk.trans' K2 af;repeat(first|refine Up.i (Nc.p _ _) ?_|refine V1.load (aC rfl) aw rfl ?_|refine V1.i ah ?_)
 refine If.b (λhb=>?_) (λhb=>?_)
 .have eF:dQ (hd bX)=false:=by simpa using hb
  simp only[eF]at hr;refine mH (d31 p) ?_ (NP.no (e:=_));rintro _ w3 ⟨rfl,K3⟩;have tG:=K3.size;replace p:=p.aA K3 af af af;replace ca:=ca.fr K3 af;replace kk:=kk.trans' K3 af;rw[dx];refine V1.i ah ?_;refine V1.i ah ?_;have bO:∀g,v.ownBlock=some g->w.heap.size<=g/\g<w3.heap.size:=λg hg=>ca.lt hg;refine V1.new (wo _ _) λbs w4 N=>?_;have gN:=N.ge;have lN:=N.lt;have zN:=N.aA.size;have a4:=N.at_;try simp only[cells,toList_toArray]at a4
  replace p:=p.new N.aA;replace ca:=ca.nw N;replace kk:=N.kp kk;have q1:=p.ll;refine TV ((ih m aj).stmt _ _ _ _ _ _ bs _ p dW aj rfl (aM hr aI) a4 aj aj aj) ?_ ?_
  .rintro _ w5 h;obtain⟨t,cB,o,fc,R1,S1,⟨o',p⟩,K5⟩:=h.out;simp only[fc,bN.bind]at hr;have wI:=K5.size;replace ca:=ca.fr K5 af;replace kk:=kk.trans' K5 af;have r1:aP (Fr w.heap.size (v.ownBlock.toList++[])) w5 t (.P (ptr bs)):=aP.imp (λq hq _=>⟨by omega,by
    simp
    intro hm;have:=bO q hm;omega⟩) _ _ R1
   replace ca:=ca.fit (Y:=[]) ak;refine V1.aG ah λb6 w6 N6=>?_;have D8:=N6.ge;have D9:=N6.lt;have Ea:=N6.aA.size;have a6:=N6.at_;try simp only[cells,toList_toArray]at a6
   replace p:=p.new N6.aA;replace kk:=N6.kp kk;replace ca:=ca.f0 N6.aA;replace r1:=r1.f0 N6.aA;obtain⟨v',w7,eB,eO,K7,hg⟩:=vu (n:=n) ca a6 rfl r1 aj (by simp only[aX]at hn;omega) ak aj;refine V1.i eB ?_;have hM:∀i∈v.ownBlock.toList,w.heap.size<=i/\i<w3.heap.size:=by
    intro i hi;simp at hi;exact bO i hi
   replace p:=p.aA K7 (λh=>by have:=hM _ h;omega) (λh=>by have:=hM _ h;omega) (λh=>by have:=hM _ h;omega);replace kk:=kk.trans' K7 (λi hi h=>by have:=hM i hi;omega);obtain⟨b8,uu,_,hc⟩:=r1.kind S1;injection uu with uu;injection uu with uu;injection uu with uu
   subst uu;replace hc:=K7.cell hc (λh=>by have:=hM bs h;omega);refine Up.i (Nc.p _ _) ?_;refine V1.i ah ?_;refine V1.i (Fv _ _ _ hc) ?_;repeat(first|refine Up.i (Nc.p _ _) ?_|refine V1.load (aC rfl) aw rfl ?_|refine V1.i ah ?_)
   refine If.b (λhb=>?_) (λhb=>?_)
   .simp only[show(kindOf t==8)=true by simpa using hb]at hr;subst hr;exact⟨eO.rep,eO.wD,⟨_,by simp,p⟩,kk⟩
   .simp only[show(kindOf t==8)=false by simpa using hb]at hr;exact hK m _ _ aj ⟨_,_,_,p,eO,kk,hr,by rw[dY _ _ ca.wD];omega⟩
  .intro c w5 h;exact h.up hr kk al
 .have eF:dQ (hd bX)=true:=by simpa using hb
  simp only[eF]at hr;subst hr;exact⟨ca.rep,ca.wD,⟨_,by simp,p⟩,kk⟩
end Go.Proofs.YtoddjlclpnoomaaGreatDoor

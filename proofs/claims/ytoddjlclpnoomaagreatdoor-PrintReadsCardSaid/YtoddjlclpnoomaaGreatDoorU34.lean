import Derived.Test.YtoddjlclpnoomaaGreatDoorU33
set_option linter.unusedVariables false
set_option linter.unusedSimpArgs false
set_option maxRecDepth 100000
open Go.Proofs.Tryz
open List (drop_eq_getElem_cons getElem?_eq_getElem length_cons length_append length_nil take_length)
open Int (reduceEq)
open Bool (and_eq_true or_eq_true false_eq_true or_eq_false_iff)
open Option (mem_toList)
namespace Go.Proofs.YtoddjlclpnoomaaGreatDoor
open Go.Sh
theorem NJ(w:Wd)(n:Nat)(h:n<16):Calls prog 209 #[.int .u8 (n:Nat)] w (aZ (λv w'=>v=pO (iy.getD n 0)/\w'=w) NP):=by
 refine TR ?_;unfold LY;refine V1.i (F7 _ _ _) ?_;have e:∀n:Nat,n<16->((iy.getD n 0).toNat:Int)=if n<10 then 48+(n:Int)else 87+n:=by decide
 have e:=e n h;refine If.b (λhn=>?_) (λhn=>?_)
 .have hn:n<10:=by simp at hn;omega
  rw[if_pos hn]at e;refine V1.i (v:=.int .u8 (48+(n:Int))) (w':=w) (by simp[go_sem];rw[IntKind.wrap_u8];omega) ?_;exact⟨by unfold pO;rw[e],rfl⟩
 .have hn:¬n<10:=by simp at hn;omega
  rw[if_neg hn]at e;refine V1.i (v:=.int .u8 (97+(n:Int))) (w':=w) (by simp[go_sem];rw[IntKind.wrap_u8];omega) ?_;refine V1.i (v:=.int .u8 (87+(n:Int))) (w':=w) (by simp[go_sem];rw[IntKind.wrap_u8];omega) ?_;exact⟨by unfold pO;rw[e],rfl⟩
theorem Vl(w:Wd)(s:By)(hs:s.length<=32768):Calls prog 176 #[str s] w (aZ (λv w'=>v=str (oU s)/\aD [] w w') NP):=by
 refine TL ?_;unfold LL;refine V1.E1 [34] ak ak (by simp[go_sem,pO]) λb w1 A N=>?_;generalize(Value.slice (some ⟨b,0,none⟩) [(34:UInt8)].length [(34:UInt8)].length)=v1 at A⊢;have K1:=N.aA;have hz:=K1.size;generalize eQ:w.heap.size=lo at A;clear N;refine L2.i (λx y w'=>∃i:Nat,y=.int .i64 i/\i<=s.length/\dK lo w' x ([34]++(s.take i).flatMap ju)/\aD [] w w') (λx y _=>match y with|.int _ n=>s.length-n.toNat|_=>0) ⟨0,rfl,by omega,by simpa using A,K1⟩ ?_;clear A K1 hz;rintro x y w' ⟨i,rfl,hi,A,K⟩;have hz:=K.size;have hlen:=oW (s.take i);have hlen2:(s.take i).length<=s.length:=by simp;omega
 have K':∀{w2:Wd},aD x.ownBlock.toList w' w2->aD [] w w2:=λh2=>⟨by have:=h2.size;omega,λq hq _=>(h2.same q aj (λhm=>by
  have:x.ownBlock=some q:=by simpa[mem_toList]using hm
  have:=A.2 q this;omega)).trans (K.same q hq ak),h2.io.1.trans K.io.1,h2.io.2.trans K.io.2⟩
 refine V1.i (eX _ _ _) ?_;refine V1.i (iE _ _ _ _) ?_;by_cases bO:i<s.length
 rotate_left
 .obtain rfl:i=s.length:=by omega
  rw[show decide ((s.length:Int)<(s.length:Int))=false by simp];refine If.f ?_;refine mU [34] A aj ak ak (by rw[length_append];simp only[length_cons,length_nil];omega) (by simp[go_sem,pO]) λv' w2 A2 K2=>?_;refine V1.i A2.str ?_;refine⟨?_,K' K2⟩;rw[take_length];rfl
 rw[show decide ((i:Int)<(s.length:Int))=true by simp;omega];refine If.t ?_;have nJ:(s.take (i+1)).flatMap ju=(s.take i).flatMap ju++ju s[i]:=by
  rw[List.take_add_one,List.flatMap_append,getElem?_eq_getElem bO];simp
 refine J1.cut (λv2 w2=>dK lo w2 v2 ([34]++(s.take (i+1)).flatMap ju)/\aD [] w w2) ?_ ?_;rotate_left
 .rintro v2 w2 ⟨A2,K2⟩;refine V1.i (cC _ _ _ _ _ _ aj aj) ?_;exact⟨⟨i+1,by simp,by omega,A2,K2⟩,by simp;omega⟩
 rw[nJ];refine V1.i (dL _ s i bO) ?_;generalize s[i]=c;have fin:∀{bs:By}{v':Va}{w2:Wd},bs=ju c->dK lo w2 v' ([34]++(s.take i).flatMap ju++bs)->aD x.ownBlock.toList w' w2->dK lo w2 v' ([34]++((s.take i).flatMap ju++ju c))/\aD [] w w2:=by
  rintro bs v' w2 rfl A2 K2;rw[List.append_assoc]at A2;exact⟨A2,K' K2⟩
 have tn:∀d:UInt8,((c.toNat:Int)==(d.toNat:Int))=(c==d):=λd=>by
  rw[Bool.eq_iff_iff];simp only[beq_iff_eq];constructor
  .intro h;exact UInt8.toNat_inj.1 aj
  .rintro rfl;rfl
 refine V1.i (lA _ _ _) ?_;rw[show((c.toNat:Int)==10)=(c==10)from tn 10];by_cases jj:c=10
 .refine If.b (λ_=>?_) (λh=>by simp[jj]at h);refine mU [92,110] A aj ak ak (by rw[length_append];simp only[length_cons,length_nil];omega) (by simp[go_sem,pO]) λv' w2 A2 K2=>fin (by simp[ju,jj]) A2 K2
 refine If.b (λh=>absurd (by simpa using h) jj) (λ_=>?_);refine V1.i (lA _ _ _) ?_;rw[show((c.toNat:Int)==9)=(c==9)from tn 9];by_cases h9:c=9
 .refine If.b (λ_=>?_) (λh=>by simp[h9]at h);refine mU [92,116] A aj ak ak (by rw[length_append];simp only[length_cons,length_nil];omega) (by simp[go_sem,pO]) λv' w2 A2 K2=>fin (by simp[ju,h9]) A2 K2
 refine If.b (λh=>absurd (by simpa using h) h9) (λ_=>?_);refine V1.i (lA _ _ _) ?_;rw[show((c.toNat:Int)==92)=(c==92)from tn 92];refine J1.gd (c:=false) (c==34) (λ_ k hk=>V1.i (lA _ _ _) (by rw[show((c.toNat:Int)==34)=(c==34)from tn 34];exact hk)) ?_;refine V1.i (fm _ _ _) ?_;by_cases hq:c=92\/c=34
 .refine If.b (λ_=>?_) (λh=>by simp at h;rcases hq with h1|h1<;>simp[h1]at h);refine mU [92,c] A aj ak ak (by rw[length_append];simp only[length_cons,length_nil];omega) (by simp[go_sem,pO]) λv' w2 A2 K2=>fin (by rcases hq with rfl|rfl<;>rfl) A2 K2
 refine If.b (λh=>absurd (by simpa using h) hq) (λ_=>?_);refine V1.i (F7 _ _ _) ?_;refine J1.gd (c:=false) (decide ((126:Int)<c.toNat)) (λ_ k hk=>V1.i (TV _ _ _) hk) ?_;refine V1.i (fm _ _ _) ?_;have E0:(decide ((c.toNat:Int)<32)||decide ((126:Int)<c.toNat))=decide (c<32\/126<c):=by
  rw[Bool.eq_iff_iff];simp only[or_eq_true,decide_eq_true_eq,UInt8.lt_iff_toNat_lt,show(32:UInt8).toNat=32 from rfl,show(126:UInt8).toNat=126 from rfl];omega
 rw[E0];have MZ:c≠92:=λh=>hq (.inl h);have jc:c≠34:=λh=>hq (.inr h);by_cases hx:c<32\/126<c
 .refine If.b (λ_=>?_) (λh=>absurd hx (by simpa using h));have hc:=c.toNat_lt;refine V1.i (v:=.int .u8 ((c.toNat/16:Nat):Int)) (w':=w') (by simp[go_sem];rw[IntKind.wrap_u8];omega) ?_;refine CE (NJ w' (c.toNat/16) aj) ?_ (NP.no (e:=_));rintro _ w' ⟨rfl,rfl⟩;refine V1.i (v:=.int .u8 ((c.toNat%16:Nat):Int)) (w':=w') (by simp[go_sem];rw[Int.tmod_eq_emod_of_nonneg aj]) ?_;refine CE (NJ w' (c.toNat%16) aj) ?_ (NP.no (e:=_));rintro _ w' ⟨rfl,rfl⟩;refine mU [92,120,iy.getD (c.toNat/16) 0,iy.getD (c.toNat%16) 0] A aj ak ak (by rw[length_append];simp only[length_cons,length_nil];omega) (by simp[go_sem,pO]) λv' w2 A2 K2=>fin (by simp only[ju,if_neg jj,if_neg h9,if_neg MZ,if_neg jc,if_pos hx]) A2 K2
 .refine If.b (λh=>absurd (by simpa using h) hx) (λ_=>?_);refine mU [c] A aj ak ak (by rw[length_append];simp only[length_cons,length_nil];omega) (by simp[go_sem,pO]) λv' w2 A2 K2=>fin (by simp only[ju,if_neg jj,if_neg h9,if_neg MZ,if_neg jc,if_neg hx]) A2 K2
theorem wh:WH:=⟨UU,Vl,Vk⟩
end Go.Proofs.YtoddjlclpnoomaaGreatDoor
namespace Go.Proofs.YtoddjlclpnoomaaGreatDoor
open Go.Sh
set_option maxRecDepth 100000
section
variable {z n lo:Nat}{w0:Wd}
theorem Vm(H:ke z){l:Tr}{u:Va}(hz:tz l<=z+1)(hw:wf l 1=true)(hR:aU (Fo lo) w0 l (.L u))(hlen:len l<=1099511627776):WG 125 [u] lo w0 (tz l) (bJ n (.args l true)):=by
 intro w b σ B r c hB hr aI;refine Vd ?_;unfold Ns;have il:=cG 1 ak hw;obtain⟨a,cp,rfl⟩:=hR.oc il;have os:=hR.rowAt il;refine L1.i (λx w'=>∃i j l' m σ' B',x=.int .i64 (i:Nat)/\i+j=len l/\WC w0 w' lo b σ' B'/\B'+tz l'<=B+tz l/\wf l' 1=true/\tz l'<=z+1/\cE (Fo lo) w0 l' a i j/\σ'.bind (bJ m (.args l' (i==0)))=r) (λv _=>match v with|.int _ n=>(len l-n.toNat)|_=>0)
  ⟨0,len l,l,n,σ,B,rfl,by omega,c,by omega,hw,hz,os,hr⟩ ?_
 clear os hr c hw hz hR;rintro x w1 ⟨i,j,l',m,σ',B',rfl,rH,c,NK,hw,hz,os,hr⟩;obtain⟨m,hr⟩:=fg hr aI;refine V1.i ah ?_;rcases cX hw with rfl|⟨x,l2,rfl,hx,fY⟩
 .have hj:j=0:=by
   rcases os with⟨_,h⟩|⟨q,_,h⟩
   .exact h
   .exact h
  refine V1.bf ax ?_;refine c.guard (If.f ?_);have hr:σ'.bind (λb p=>.ok b p)=r:=hr;have:r=σ':=by rw[←hr];cases σ'<;>rfl
  subst this;exact c.more aj
 rcases os with⟨h,_⟩|⟨q,rfl,k',u,rfl,hc,hf,rx,rl⟩
 .cases h
 have ol:cE (Fo lo) w0 l2 (some ⟨q,0,none⟩) (i+1) k':=.inr ⟨q,rfl,rl⟩;clear rl;simp only[tz]at hz NK;have vz:=bE x;have uM:=bE l2;unfold W0 at hB;refine V1.bt ax ?_;refine c.guard ?_;have gP:=c.wx.no
 cases σ' with
 |bH=>exact absurd rfl gP
 |fail cd=>
  have hr:PR.fail cd=r:=hr;subst hr;exact If.f (c.more aj)
 |ok bf p=>
 refine If.t ?_;refine J0.cut (λw'=>∃σ2,WC w0 w' lo b σ2 B'/\σ2.bind (λb p=>(bJ m (.expr x) b p).bind λb p=>bJ m (.args l2 false) b p)=r) ?_ ?_
 .cases hi:(i==0)with
  |true=>
   obtain rfl:i=0:=by simpa using hi
   rw[hi]at hr;refine V1.bf am ?_;exact If.f ⟨_,c,hr⟩
  |false=>
   rw[hi]at hr;have h0:i≠0:=by simpa using hi
   refine V1.bt ax ?_;refine If.t (c.put [44,32] (σ:=.ok bf p) hr λ_ w2 σ2 c hr=>⟨σ2,c,hr⟩)
 rintro w2 ⟨σ2,c,hr⟩;refine V1.i (lR aj) ?_;refine V1.i ((aC rfl) _ _ _ (c.kl.cell hc hf)) ?_;refine(H.expr (n:=m) aj hx rx).go j0 c (by unfold W0;omega) hr aI λ_ w3 σ3 c hr=>?_;refine V1.i (cC _ _ _ _ _ _ aj aj) ?_;exact⟨⟨i+1,k',l2,m,σ3,_,by simp,by omega,c,by omega,fY,by omega,ol,by rw[show(i+1==0)=false by simp];exact hr⟩,by simp;omega⟩
theorem Bi{w:Wd}{t:Tr}{u:Va}(hw:wf t 0=true)(hR:aU (Fo lo) w t (.P u)):Calls prog 179 #[u] w (aZ (λv w'=>v=.int .i64 (aW t)/\aD [] w w') NP):=by
 refine Vi ?_;unfold NB;rcases bM hw with rfl|⟨k,nn,x,l,rr,ks,gs,ps,bd,rfl⟩
 .obtain rfl:u=.pointer none:=hR;refine V1.bt am ?_;exact If.t ⟨rfl,aD.refl _ _⟩
 .obtain⟨q2,line,lv,rv,kv,av,pv,bv,rfl,_,a,_⟩:=hR;refine V1.bf (by simp[go_sem,ptr]) ?_;refine If.f (lF.i a (V1.i (fa _ _ _) ?_))
  cases hk:(k==11)with
  |true=>
   obtain rfl:k=11:=by simpa using hk
   refine If.t (lF.i a ?_);refine yl (Fk _ _) ?_ (NP.no (e:=_));rintro _ w1 ⟨rfl,K1⟩;exact⟨rfl,K1⟩
  |false=>
   have hk:k≠11:=by simpa using hk
   refine If.f (lF.i a (V1.i (fa _ _ _) ?_))
   cases jy:(k==10)with
   |true=>
    obtain rfl:k=10:=by simpa using jy
    exact If.t ⟨rfl,aD.refl _ _⟩
   |false=>
    have jy:k≠10:=by simpa using jy
    exact If.f ⟨by simp only[aW,if_neg hk,if_neg jy],aD.refl _ _⟩
theorem c124(hW:WH){w:Wd}{t:Tr}{u:Va}(hw:wf t 0=true)(hR:aU (Fo lo) w t (.P u)):Calls prog 124 #[u] w (aZ (λv w'=>v=.bool (gI t)/\aD [] w w') NP):=by
 refine Vc ?_;unfold Nr;rcases bM hw with rfl|⟨k,nn,x,l,rr,ks,gs,ps,bd,rfl⟩
 .obtain rfl:u=.pointer none:=hR;repeat(first|refine J1.go ?_|refine J0.go ?_|refine Gd.tt ?_|refine Gd.ff ?_|refine Gd.tf ?_|refine Gd.ft ?_|refine Gd.u ?_|refine If.t ?_|refine If.f ?_|refine Up.i (Nc.p _ _) ?_|refine V1.load (aC rfl) au rfl ?_|refine V1.i (w':=w) aw ?_)
  exact⟨rfl,aD.refl _ _⟩
 .obtain⟨q2,line,lv,rv,kv,av,pv,bv,rfl,_,a,_⟩:=hR;refine V1.bt (by simp[go_sem,ptr]) ?_;refine J1.gd (c:=true) (k==5) (λ_ k hk=>lF.i a (V1.i (fa _ _ _) hk)) ?_;refine V1.i (fP _ _ _) ?_;rw[Bool.true_and];refine J1.go ?_
  cases hk:(k==5)with
  |false=>
   refine Gd.ft ?_;refine V1.i ah ?_;exact⟨by simp[gI,hk],aD.refl _ _⟩
  |true=>
   refine Gd.tt (lF.i a ?_);refine NA (hW.name w x) ?_ (NP.no (e:=_));rintro _ w1 ⟨rfl,K1⟩;refine V1.i ah ?_;exact⟨by simp[gI,hk],K1⟩
theorem NL(H:ke z){t:Tr}{u:Va}(hz:tz t<=z)(hw:wf t 0=true)(hR:aU (Fo lo) w0 t (.P u)):WG 123 [u] lo w0 (tz t) (bJ n (.inner t (tP t))):=by
 intro w b σ B r c hB hr aI;refine Vb ?_;unfold Nq;rcases bM hw with rfl|⟨k,nn,x,l,rr,ks,gs,ps,bd,rfl⟩
 .have hu:u=.pointer none:=hR;subst hu;refine V1.bf am ?_;refine J1.go (Gd.ft (J1.go (Gd.u (J1.go (Gd.ft (J1.go (Gd.u (J1.go (Gd.ft ?_)))))))));refine V1.bf am ?_;exact(yL H hz hw hR false).pE rz c hB hr aI λ_ w1 c=>c
 .obtain⟨q2,line,lv,rv,kv,av,pv,bv,rfl,hq,a,_⟩:=id hR;have a1:=c.kl.at a hq;refine V1.bt (by simp[go_sem,ptr]) ?_;refine J1.go (Gd.tt (lF.i a1 (V1.i (fa _ _ _) ?_)));refine J1.gd (c:=false) (k==11) (λ_ k hk=>lF.i a1 (V1.i (fa _ _ _) hk)) ?_;refine J1.go (Gd.tt (V1.i (fm _ _ _) ?_));refine J1.gd (c:=false) (k==9) (λ_ k hk=>lF.i a1 (V1.i (fa _ _ _) hk)) ?_;refine J1.go (Gd.tt (V1.i (fm _ _ _) ?_));refine V1.i (v:=.bool (((k==10)||(k==11))||(k==9))) (w':=w) am ?_;exact(yL H hz hw hR _).pE rz c hB hr aI λ_ w1 c=>c
theorem X1(H:ke z){k nn line:Int}{x:By}{lv rv kv av pv bv:Va}{q:Nat}{ps:LB}{bd:Tr}(hz:tz bd<=z)(hw:wf bd 3=true)(KG:ps.length<=1099511627776)
  (a:At w0 q [.int .i64 k,.int .i64 line,.int .i64 nn,str x,lv,rv,kv,av,pv,bv]) (hq:q<lo) (hS:Strs (Fo lo) w0 pv ps) (hR:aU (Fo lo) w0 bd (.L bv)):WG 81 [ptr q] lo w0 (tz bd) (bJ n (.func ps bd)):=by
 intro w b σ B r c hB hr aI;refine s81 ?_;unfold XZ;obtain⟨m,hr⟩:=fg hr aI;have hr:σ.bind (λb p=>(aM [[40]] b p).bind λb p=>(gm ps true b p).bind λb p=>(aM [[41]] b p).bind λb p=>(bJ m (.block bd) b p).bind λb p=>aM [cO] b p)=r:=hr;refine c.put [40] hr λ_ w1 σ1 c hr=>?_;obtain⟨pa,pc,rfl⟩:=hS.sl;refine L1.i (λx w'=>∃(i:Nat) (σ':PR),x=.int .i64 (i:Nat)/\i<=ps.length/\WC w0 w' lo b σ' B/\σ'.bind (λb p=>(gm (ps.drop i) (i==0) b p).bind λb p=>(aM [[41]] b p).bind λb p=>(bJ m (.block bd) b p).bind λb p=>aM [cO] b p)=r) (λv _=>match v with|.int _ n=>(ps.length-n.toNat)|_=>0)
  ⟨0,σ1,rfl,by omega,c,hr⟩ ?_
 clear hr c;rintro x2 w2 ⟨i,σ',rfl,hi,c,hr⟩;have a1:=c.kl.at a hq;refine lF.i a1 ?_;refine V1.i ah ?_;have lS:∀{w':Wd}{σ':PR},WC w0 w' lo b σ' B->σ'.bind (λb p=>(aM [[41]] b p).bind λb p=>(bJ m (.block bd) b p).bind λb p=>aM [cO] b p)=r->
   cf (aZ (λ_ w'=>WC w0 w' lo b r (B+tz bd)) NP) 45 #[ptr b,.string ⟨#[41]⟩] w' λa37 w=>lF (aZ (λ_ w'=>WC w0 w' lo b r (B+tz bd)) NP) 47 9 26 (ptr q) w λEJ w=>cf (aZ (λ_ w'=>WC w0 w' lo b r (B+tz bd)) NP) 79 #[ptr b,EJ] w λGa w=>
    cf (aZ (λ_ w'=>WC w0 w' lo b r (B+tz bd)) NP) 45 #[ptr b,.string ⟨#[101,110,100]⟩] w λa45 w=>aZ (λ_ w'=>WC w0 w' lo b r (B+tz bd)) NP (.returned (.tuple #[])) w:=by
  intro w' σ' c hr;refine c.put [41] hr λ_ w3 σ3 c hr=>?_;refine c.lf a hq ?_;refine(CW (n:=m) H hz hw hR).go ru c hB hr aI λ_ w4 σ4 c hr=>?_;exact c.iq cO hr λ_ w5 c=>c
 by_cases bO:i<ps.length
 rotate_left
 .obtain rfl:i=ps.length:=by omega
  refine V1.bf am ?_;refine c.guard (If.f (lS c ?_));rw[List.drop_length]at hr;exact hr
 refine V1.bt ax ?_;refine c.guard ?_;have gP:=c.wx.no
 cases σ' with
 |bH=>exact absurd rfl gP
 |fail cd=>exact If.f (lS c hr)
 |ok bf p=>
 refine If.t ?_;rw[drop_eq_getElem_cons bO]at hr;refine J0.cut (λw'=>∃σ2,WC w0 w' lo b σ2 B/\σ2.bind (λb p=>(aM [ps[i]] b p).bind λb p=>(gm (ps.drop (i+1)) false b p).bind λb p=>(aM [[41]] b p).bind λb p=>(bJ m (.block bd) b p).bind λb p=>aM [cO] b p)=r) ?_ ?_
 .cases zj:(i==0)with
  |true=>
   obtain rfl:i=0:=by simpa using zj
   refine V1.bf am ?_;refine If.f ⟨_,c,?_⟩;rw[zj]at hr;rw[←hr];simp only[PR.aJ,gm,if_true,pbind]
  |false=>
   have h0:i≠0:=by simpa using zj
   refine V1.bt ax ?_;have hr:(PR.ok bf p).bind (λb p=>(aM [[44,32],ps[i]] b p).bind λb p=>(gm (ps.drop (i+1)) false b p).bind λb p=>(aM [[41]] b p).bind λb p=>(bJ m (.block bd) b p).bind λb p=>aM [cO] b p)=r:=by
    rw[zj]at hr;rw[←hr];simp only[PR.aJ,gm,false_eq_true,if_false,pbind]
   refine If.t (c.pD [44,32] hr λ_ w3 σ2 c hr=>⟨σ2,c,hr⟩)
 rintro w3 ⟨σ2,c,hr⟩;refine c.lf a hq ?_;obtain⟨qa,rfl,_⟩:=hS.get bO;refine V1.i (lG _ bO) ?_;have NM:=Strs.cell (Strs.aA c.kl.aA (λq hq bO=>⟨λhm=>by
   obtain⟨i,hi,e⟩:=List.mem_range'.1 hm;unfold Fo at hq;omega,hq⟩) hS) bO
 refine V1.i ((aC rfl) _ _ _ NM) ?_;refine c.put ps[i] hr λ_ w4 σ4 c hr=>?_;refine V1.i (cC _ _ _ _ _ _ aj aj) ?_;exact⟨⟨i+1,σ4,by simp,by omega,c,by rw[show(i+1==0)=false by simp];exact hr⟩,by simp;omega⟩
theorem c127(H:ke z){nn line:Int}{x:By}{lv rv kv av pv bv:Va}{q:Nat}{l rr:Tr}(Fz:tz l<=z)(CJ:tz rr<=z)(rI:wf l 0=true)(yM:wf rr 0=true)
  (a:At w0 q [.int .i64 11,.int .i64 line,.int .i64 nn,str x,lv,rv,kv,av,pv,bv]) (hq:q<lo) (vJ:aU (Fo lo) w0 l (.P lv)) (Bj:aU (Fo lo) w0 rr (.P rv)):
  WG 127 [ptr q] lo w0 (tz l+tz rr) (λb p=>(bJ n (.inner l (decide (aW l<bD x)||(x==[46,46]&&aW l==bD x))) b p).bind λb p=>(aM [[32],x,[32]] b p).bind λb p=>
   bJ n (.inner rr (decide (aW rr<bD x)||(!(x==[46,46])&&aW rr==bD x))) b p):=by
 intro w b σ B r c hB hr aI;refine Vf ?_;unfold Nv;have hbx:=qW x;refine c.lf a hq ?_;refine yl (Fk _ _) ?_ (NP.no (e:=_));rintro _ w1 ⟨rfl,K1⟩;replace c:=c.c0 K1;refine c.lf a hq ?_;refine V1.i (mu _ _ _ _ _) ?_;have KD:aD [] w1 w1.drew:=(aD.refl _ _).drew;have a1:=c.kl.at a hq;refine⟨λw'=>At w' q _,KD.at a1 ak,xF.i (λ_ h=>h) (xF.i (λ_ h=>h) ?_)⟩;replace c:=c.c0 KD;replace a1:=KD.at a1 ak;generalize w1.drew=w2 at*;refine ug (Bi rI (c.kl.rep vJ)) ?_ (NP.no (e:=_));rintro _ w3 ⟨rfl,K3⟩;replace c:=c.c0 K3;replace a1:=K3.at a1 ak;refine⟨a1,?_⟩;refine Xw.i (.bool (decide (aW l<bD x))) (λw' _=>by simp[go_sem]) ?_;refine J1.cut (λv w'=>v=(if decide (aW l<bD x)=false then .bool (x==[46,46])else undef)/\w'=w3) ?_ ?_
 .exact Gd.b (λh=>⟨by rw[if_pos h],rfl⟩) (λh=>⟨by rw[if_neg (by rw[h];simp)],rfl⟩)
 rintro _ w4 ⟨rfl,rfl⟩;refine J1.cut (λv w'=>v=(if(!(decide (aW l<bD x))&&(x==[46,46]))=true then .bool (aW l==bD x)else undef)/\WC w0 w' lo b σ B/\At w' q [.int .i64 11,.int .i64 line,.int .i64 nn,str x,lv,rv,kv,av,pv,bv]) ?_ ?_
 .cases hd:decide (aW l<bD x)with
  |true=>exact Gd.u ⟨rfl,c,a1⟩
  |false=>
   rw[if_pos rfl]
   cases hx:(x==[46,46])with
   |false=>exact Gd.ft ⟨rfl,c,a1⟩
   |true=>
    refine Gd.tt (xF.i (λ_ h=>h) ?_);refine ug (Bi rI (c.kl.rep vJ)) ?_ (NP.no (e:=_));rintro _ w5 ⟨rfl,K5⟩;refine⟨K5.at a1 ak,?_⟩;refine Xw.i (.bool (aW l==bD x)) (λw' _=>by simp[go_sem,Bo]) ?_;exact⟨rfl,c.c0 K5,K5.at a1 ak⟩
 clear c a1;rintro _ w5 ⟨rfl,c,a1⟩;refine J1.cut (λv w'=>w'=w5/\v=(if decide (aW l<bD x)=false then .bool ((x==[46,46])&&(aW l==bD x))else undef)) ?_ ?_
 .cases hd:decide (aW l<bD x)with
  |true=>exact Gd.tf ⟨rfl,rfl⟩
  |false=>
   refine Gd.ff ?_;rw[if_pos rfl];simp only[Bool.not_false,Bool.true_and];exact Xw.i _ (λw' _=>fP w' _ _) ak
 rintro _ w6 ⟨rfl,rfl⟩;refine Xw.i (.bool (decide (aW l<bD x)||((x==[46,46])&&(aW l==bD x)))) (λw' _=>fm w' _ _) ?_;refine(yL (n:=n) H Fz rI vJ _).go rz c aj hr aI λ_ w7 σ7 c hr=>?_;refine c.pD [32] hr λ_ w8 σ8 c hr=>?_;refine c.lf a hq ?_;refine c.pD x hr λ_ w9 σ9 c hr=>?_;refine c.put [32] hr λ_ eo σ10 c hr=>?_;have KD:aD [] eo eo.drew:=(aD.refl _ _).drew;have a1:=c.kl.at a hq;refine⟨λw'=>At w' q _,KD.at a1 ak,xF.i (λ_ h=>h) (xF.i (λ_ h=>h) ?_)⟩;replace c:=c.c0 KD;replace a1:=KD.at a1 ak;generalize eo.drew=fB at*;refine ug (Bi yM (c.kl.rep Bj)) ?_ (NP.no (e:=_));rintro _ gz ⟨rfl,dw⟩;replace c:=c.c0 dw;replace a1:=dw.at a1 ak;refine⟨a1,?_⟩
 refine Xw.i (.bool (decide (aW rr<bD x))) (λw' _=>by simp[go_sem]) ?_;refine J1.cut (λv w'=>v=(if decide (aW rr<bD x)=false then .bool (!(x==[46,46]))else undef)/\w'=gz) ?_ ?_
 .exact Gd.b (λh=>Xw.i _ (λw' _=>by simp[go_sem];rfl) ⟨by rw[if_pos h],rfl⟩) (λh=>⟨by rw[if_neg (by rw[h];simp)],rfl⟩)
 rintro _ lZ ⟨rfl,rfl⟩;refine J1.cut (λv w'=>v=(if(!(decide (aW rr<bD x))&&(!(x==[46,46])))=true then .bool (aW rr==bD x)else undef)/\WC w0 w' lo b σ10 (B+tz l)/\At w' q [.int .i64 11,.int .i64 line,.int .i64 nn,str x,lv,rv,kv,av,pv,bv]) ?_ ?_
 .cases hd:decide (aW rr<bD x)with
  |true=>exact Gd.u ⟨rfl,c,a1⟩
  |false=>
   rw[if_pos rfl]
   cases hx:(!(x==[46,46]))with
   |false=>exact Gd.ft ⟨rfl,c,a1⟩
   |true=>
    refine Gd.tt (xF.i (λ_ h=>h) ?_);refine ug (Bi yM (c.kl.rep Bj)) ?_ (NP.no (e:=_));rintro _ lu ⟨rfl,mO⟩;refine⟨mO.at a1 ak,?_⟩;refine Xw.i (.bool (aW rr==bD x)) (λw' _=>by simp[go_sem,Bo]) ?_;exact⟨rfl,c.c0 mO,mO.at a1 ak⟩
 clear c a1;rintro _ lu ⟨rfl,c,a1⟩;refine J1.cut (λv w'=>w'=lu/\v=(if decide (aW rr<bD x)=false then .bool ((!(x==[46,46]))&&(aW rr==bD x))else undef)) ?_ ?_
 .cases hd:decide (aW rr<bD x)with
  |true=>exact Gd.tf ⟨rfl,rfl⟩
  |false=>
   refine Gd.ff ?_;rw[if_pos rfl];simp only[Bool.not_false,Bool.true_and];exact Xw.i _ (λw' _=>fP w' _ _) ak
 rintro _ sE ⟨rfl,rfl⟩;refine Xw.i (.bool (decide (aW rr<bD x)||((!(x==[46,46]))&&(aW rr==bD x)))) (λw' _=>fm w' _ _) ?_;exact(yL (n:=n) H CJ yM Bj _).pE rz c aj hr aI λ_ En c=>c.more aj
end
end Go.Proofs.YtoddjlclpnoomaaGreatDoor

namespace Go.Proofs.YtoddjlclpnoomaaGreatDoor
open Go.Sh
set_option maxRecDepth 100000
section
variable {z n lo:Nat}{w0:Wd}
theorem yN{σ r:PR}{cl:Ef}{f:By->Nat->PR}(hr:σ.bind (λb p=>(bJ n cl b p).bind f)=r)(aI:r≠.bH):∃m,σ.bind (λb p=>(bJ (m+1) cl b p).bind f)=r:=by
 cases n with
 |succ m=>exact⟨m,hr⟩
 |zero=>
  refine⟨0,?_⟩
  cases σ with
  |ok b p=>exact absurd hr.symm aI
  |fail c=>exact hr
  |bH=>exact hr
theorem pF:∀t:Tr,len t<=tz t
 |.nil=>by simp[len]
 |.hole=>by simp[len]
 |.cons _ t=>by simp only[len,tz];have:=pF t;omega
 |.ex ..|.st ..=>by simp[len]
def yO(m:Nat)(k:Tr)(b:By)(p:Nat):PR:=match k with
 |.nil=>.ok b p
 |.ex kk kn text kl kr RD RF RH kb=>if gI k then(eT b p).bind λb p=>aM [text,[32,61,32]] b p
   else(aM [[91]] b p).bind λb p=>(bJ m (.expr (.ex kk kn text kl kr RD RF RH kb)) b p).bind λb p=>aM [[93,32,61,32]] b p
 |_=>.bH
theorem Vn(hW:WH)(H:ke z){k x:Tr}{u v:Va}(Fz:tz k<=z)(CJ:tz x<=z)(rI:wf k 0=true)(yM:wf x 0=true)
  (vJ:aU (Fo lo) w0 k (.P u)) (Bj:aU (Fo lo) w0 x (.P v)):WG 180 [u,v] lo w0 (tz k+tz x) (λb p=>(yO n k b p).bind λb p=>bJ n (.expr x) b p):=by
 intro w b σ B r c hB hr aI;refine Vj ?_;unfold NC;unfold W0 at hB;refine J0.cut (λw'=>∃σ2,WC w0 w' lo b σ2 (B+tz k)/\σ2.bind (λb p=>bJ n (.expr x) b p)=r) ?_ ?_;rotate_left
 .rintro w2 ⟨σ2,c,hr⟩;exact(H.expr (n:=n) CJ yM Bj).pE j0 c (by unfold W0;omega) hr aI λ_ w3 c=>c.more aj
 have hp:=bE k;refine CU (c124 hW rI (c.kl.rep vJ)) ?_ (NP.no (e:=_));rintro _ w1 ⟨rfl,K1⟩;replace c:=c.c0 K1;rcases bM rI with rfl|⟨kk,nn,tx,l,rr,ks,gs,ps,bd,rfl⟩
 .have hu:u=.pointer none:=vJ;subst hu;refine If.f ?_;refine V1.bf am ?_;exact If.f ⟨σ,c.more aj,hr⟩
 .obtain⟨q2,line,lv,rv,kv,av,pv,bv,rfl,hq,a,_⟩:=id vJ;simp only[yO]at hr
  cases hn:gI (.ex kk nn tx l rr ks gs ps bd)with
  |true=>
   rw[hn]at hr;simp only[if_true,pbind]at hr;refine If.t (c.part aj hr λ_ w2 σ2 c hr=>?_);refine c.lf a hq ?_;refine c.pD tx hr λ_ w3 σ3 c hr=>?_;refine c.put [32,61,32] hr λ_ w4 σ4 c hr=>?_;exact⟨σ4,c.more (by simp only[tz];omega),hr⟩
  |false=>
   rw[hn]at hr;simp only[false_eq_true,if_false,pbind]at hr;refine If.f ?_;refine V1.bt (by simp[go_sem,ptr]) ?_;refine If.t (c.put [91] hr λ_ w2 σ2 c hr=>?_);refine(H.expr (n:=n) Fz rI vJ).go j0 c (by unfold W0;omega) hr aI λ_ w3 σ3 c hr=>?_;refine c.put [93,32,61,32] hr λ_ w4 σ4 c hr=>?_;exact⟨σ4,c,hr⟩
theorem Vo(hW:WH)(H:ke z){nn line:Int}{x:By}{lv rv kv av pv bv:Va}{q:Nat}{ks gs:Tr}(Fz:tz ks<=z)(CJ:tz gs<=z)(rI:wf ks 1=true)(yM:wf gs 1=true)
  (a:At w0 q [.int .i64 12,.int .i64 line,.int .i64 nn,str x,lv,rv,kv,av,pv,bv]) (hq:q<lo) (vJ:aU (Fo lo) w0 ks (.L kv)) (Bj:aU (Fo lo) w0 gs (.L av)):
  WG 128 [ptr q] lo w0 (tz ks+tz gs) (λb p=>if len ks=len gs then(aM [[123]] b p).bind λb p=>(bJ n (.items ks gs true) b p).bind λb p=>aM [[125]] b p else .fail 2):=by
 intro w b σ B r c hB hr aI;refine Vg ?_;unfold Nx;unfold W0 at hB;have Fs:=cG 1 ak rI;have Ft:=cG 1 ak yM;obtain⟨ka,kc,rfl⟩:=vJ.oc Fs;obtain⟨ga,gc,rfl⟩:=Bj.oc Ft;have NN:=vJ.rowAt Fs;have NQ:=Bj.rowAt Ft;have a1:=c.kl.at a hq;have KD:aD [] w w.drew:=(aD.refl _ _).drew;refine⟨λw'=>At w' q _,KD.at a1 ak,xF.i (λ_ h=>h) ?_⟩;refine Xw.i (.int .i64 ((len ks):Nat)) (λw' _=>by simp[go_sem]) ?_;refine xF.i (λ_ h=>h) ?_;refine Xw.i (.int .i64 ((len gs):Nat)) (λw' _=>by simp[go_sem]) ?_;refine Xw.i _ (λw' _=>Cw w' _ _ _ _) ?_;replace c:=c.c0 KD;by_cases hl:len ks=len gs
 rotate_left
 .refine If.t' (by simp[hl]) ?_;simp only[if_neg hl]at hr;exact c.fail 2 aj hr λ_ w2 c=>c.more aj
 simp only[if_pos hl]at hr;refine If.f' (by simp[hl]) (c.put [123] hr λ_ w2 σ2 c hr=>?_);have hlen:len gs<=1000000000000:=by
  have:=pF gs;omega
 refine L1.i (λx w'=>∃(i j:Nat) (xL rM:Tr) (m:Nat) (σ':PR) (B':Nat),x=.int .i64 (i:Nat)/\i+j=len gs/\WC w0 w' lo b σ' B'/\B'+tz xL+tz rM<=B+tz ks+tz gs/\wf xL 1=true/\wf rM 1=true/\tz xL<=z/\tz rM<=z/\
   cE (Fo lo) w0 xL ka i j/\cE (Fo lo) w0 rM ga i j/\σ'.bind (λb p=>(bJ m (.items xL rM (i==0)) b p).bind λb p=>aM [[125]] b p)=r) (λv _=>match v with|.int _ n=>(len gs-n.toNat)|_=>0)
  ⟨0,len gs,ks,gs,n,σ2,B,rfl,by omega,c,by omega,rI,yM,Fz,CJ,by rw[←hl];exact NN,NQ,hr⟩ ?_
 clear NN NQ hr c rI yM vJ Bj Fs Ft;rintro y w3 ⟨i,j,xL,rM,m,σ',B',rfl,rH,c,NK,rI,yM,Fz,CJ,NN,NQ,hr⟩;obtain⟨m,hr⟩:=yN hr aI;refine c.lf a hq ?_;refine V1.i ah ?_;have lS:∀{w':Wd}{σ':PR},WC w0 w' lo b σ' B'->σ'.bind (aM [[125]])=r->cf (aZ (λ_ w'=>WC w0 w' lo b r (B+(tz ks+tz gs))) NP) 45 #[ptr b,.string ⟨#[125]⟩] w' λa57 w=>aZ (λ_ w'=>WC w0 w' lo b r (B+(tz ks+tz gs))) NP (.returned (.tuple #[])) w:=by
  intro w' σ' c hr;exact c.iq [125] hr λ_ w4 c=>c.more aj
 rcases cX yM with rfl|⟨x1,l2,rfl,hx,fY⟩
 .have hj:j=0:=by
   rcases NQ with⟨_,h⟩|⟨q,_,h⟩
   .exact h
   .exact h
  refine V1.bf ax ?_;exact c.guard (If.f (lS c hr))
 rcases NQ with⟨h,_⟩|⟨qg,rfl,k',u,rfl,hc,hf,rx,rl⟩
 .cases h
 have og2:cE (Fo lo) w0 l2 (some ⟨qg,0,none⟩) (i+1) k':=.inr ⟨qg,rfl,rl⟩;rcases cX rI with rfl|⟨k1,lk,rfl,hk,tR⟩
 .rcases NN with⟨_,h⟩|⟨q0,_,h⟩
  .omega
  .exact absurd (show k'+1=0 from h) aj
 rcases NN with⟨h,_⟩|⟨qk,rfl,k2,uk,e2,hck,Oe,rxk,X2⟩
 .cases h
 obtain rfl:k'=k2:=by omega
 have ok2:cE (Fo lo) w0 lk (some ⟨qk,0,none⟩) (i+1) k':=.inr ⟨qk,rfl,X2⟩;clear rl X2;simp only[tz]at Fz CJ NK;have vz:=bE x1;have uM:=bE l2;have Si:=bE k1;have hp4:=bE lk;refine V1.bt ax ?_;refine c.guard ?_;have gP:=c.wx.no
 cases σ' with
 |bH=>exact absurd rfl gP
 |fail cd=>exact If.f (lS c hr)
 |ok bf p=>
 refine If.t ?_;have hr:(PR.ok bf p).bind (λb p=>(aM (if(i==0)=true then[]else[[44,32]]) b p).bind λb p=>((yO m k1 b p).bind λb p=>bJ m (.expr x1) b p).bind λb p=>(bJ m (.items lk l2 false) b p).bind λb p=>aM [[125]] b p)=r:=by
  rw[←hr];simp only[PR.aJ,pbind];have e:bJ (m+1) (.items (.cons k1 lk) (.cons x1 l2) (i==0)) bf p=(aM (if(i==0)=true then[]else[[44,32]]) bf p).bind λb p=>(yO m k1 b p).bind λb p=>(bJ m (.expr x1) b p).bind λb p=>bJ m (.items lk l2 false) b p:=by
   cases k1<;>rfl
  rw[e];simp only[pbind]
 refine J0.cut (λw'=>∃σ2,WC w0 w' lo b σ2 B'/\σ2.bind (λb p=>((yO m k1 b p).bind λb p=>bJ m (.expr x1) b p).bind λb p=>(bJ m (.items lk l2 false) b p).bind λb p=>aM [[125]] b p)=r) ?_ ?_
 .cases hi:(i==0)with
  |true=>
   obtain rfl:i=0:=by simpa using hi
   rw[hi]at hr;refine V1.bf am ?_;exact If.f ⟨_,c,hr⟩
  |false=>
   rw[hi]at hr;have h0:i≠0:=by simpa using hi
   refine V1.bt ax ?_;refine If.t (c.put [44,32] (σ:=.ok bf p) hr λ_ w2 σ2 c hr=>⟨σ2,c,hr⟩)
 clear hr c;rintro w4 ⟨σ4,c,hr⟩;have KD:aD [] w4 w4.drew:=(aD.refl _ _).drew;replace c:=c.c0 KD;refine⟨λw'=>iW lo w0 w',c.kl,xF.i (λ_ hw=>hw.at a hq) ?_⟩;refine Xw.i _ (λw' _=>lR aj) ?_;refine Xw.i uk (λw' hw=>(aC rfl) _ _ _ (hw.cell hck Oe)) ?_;refine xF.i (λ_ hw=>hw.at a hq) ?_;refine Xw.i _ (λw' _=>lR aj) ?_;refine Xw.i u (λw' hw=>(aC rfl) _ _ _ (hw.cell hc hf)) ?_;refine(Vn (n:=m) hW H aj aj hk hx rxk rx).go ND c (by unfold W0;omega) hr aI λ_ w5 σ5 c hr=>?_;refine V1.i (cC _ _ _ _ _ _ aj aj) ?_;exact⟨⟨i+1,k',lk,l2,m,σ5,_,by simp,by omega,c,by omega,tR,fY,by omega,by omega,ok2,og2,by rw[show(i+1==0)=false by simp];exact hr⟩,by simp;omega⟩
end
end Go.Proofs.YtoddjlclpnoomaaGreatDoor

namespace Go.Proofs.YtoddjlclpnoomaaGreatDoor
open Go.Sh
set_option maxRecDepth 100000
theorem Vp(hW:WH)(w:Wd)(s:By):Calls prog 122 #[str s] w (aZ (λv w'=>v=str (iT s)/\aD [] w w') NP):=by
 refine U0 ?_;unfold Nn;unfold iT;by_cases h:32768<s.length
 .rw[if_pos h];refine V1.i ah ?_;refine V1.bt ax ?_;exact If.t ⟨rfl,aD.refl _ _⟩
 .rw[if_neg h];refine V1.i ah ?_;refine V1.bf ax ?_;refine If.f (LM (hW.quote w s aj) ?_ (NP.no (e:=_)));rintro _ w1 ⟨rfl,K1⟩;exact⟨rfl,K1⟩
theorem NR(w:Wd)(a b:Int):(Bo .lss 3 false true (.int .i64 a) (.int .i64 b)).run prog w=.ok (.bool (decide (a<b))) w:=by simp[go_sem]
theorem FA(w:Wd)(a b:Int):(Bo .gtr 3 false true (.int .i64 a) (.int .i64 b)).run prog w=.ok (.bool (decide (b<a))) w:=by simp[go_sem]
theorem WC.NT{lo b B:Nat}{w w0:Wd}{r σ:PR}{KK:VK}{e:EK}(s:By){l:LB}(c:WC w0 w lo b σ B)(hr:σ.bind (λb p=>aM (s::l) b p)=r)
  (hk:∀v w' σ',WC w0 w' lo b σ' B->σ'.bind (aM l)=r->KK v w'):Cf prog 45 #[ptr b,str s] w KK e:=by
 refine Bf (OV s c.wx) ?_ (NP.no (e:=_));rintro v w' ⟨h,K⟩;refine hk v w' _ ⟨h,c.kl.trans K⟩ ?_;rw[←hr]
 cases σ with
 |ok b p=>
  simp only[PR.bind,aM]
  cases h:nv s b p<;>rfl
 |fail c=>rfl
 |bH=>rfl
section
variable {z lo:Nat}{w0:Wd}
theorem g78(hW:WH)(H:ke z){n:Nat}{t:Tr}{u:Va}(hz:tz t<=z+1)(hw:wf t 0=true)(hR:aU (Fo lo) w0 t (.P u)):WG 78 [u] lo w0 (tz t) (bJ n (.expr t)):=by
 intro w b σ B r c hB hr aI;refine s78 ?_;unfold XW;obtain⟨n,hr⟩:=fg hr aI;have gP:=c.wx.no;unfold W0 at hB
 cases σ with
 |bH=>exact absurd rfl gP
 |fail cd=>
  have hr:PR.fail cd=r:=hr;subst hr;refine c.uh λFx=>?_;refine V1.bt (by simp[go_sem,Bo,Fx]) ?_;exact If.t (c.more aj)
 |ok bf p=>
 refine c.CV ?_;refine V1.bf (by simp[go_sem,Bo]) ?_;refine If.f ?_;have hp:=bE t;rcases bM hw with rfl|⟨k,nn,tx,l,rr,ks,gs,ps,bd,rfl⟩
 .have hu:u=.pointer none:=hR;subst hu;refine V1.bt am ?_;refine J1.go (Gd.tf ?_);refine V1.bt am ?_;refine J1.go (Gd.tf ?_);refine V1.bt am ?_;exact If.t (c.fail 2 aj hr λ_ w2 c=>c.more aj)
 obtain⟨q,line,lv,rv,kv,av,pv,bv,rfl,hq,a,hl,rA,lX,Lc,KG,hbd⟩:=hR;simp only[wf,and_eq_true]at hw;obtain⟨⟨⟨⟨⟨hn,f1⟩,f2⟩,f3⟩,f4⟩,f5⟩:=hw;have a1:=c.kl.at a hq;simp only[tz]at hz hB⊢;have p1:=bE l;have p2:=bE rr;have p3:=bE ks;have p4:=bE gs;have p5:=bE bd;refine V1.bf (by simp[go_sem,ptr]) ?_;refine J1.gd (c:=false) (decide (k<1)) (λ_ kx dO=>lF.i a1 (V1.i (NR _ _ _) dO)) ?_;refine V1.i (fm _ _ _) ?_;rw[Bool.false_or];refine J1.gd (c:=false) (decide (12<k)) (λ_ kx dO=>lF.i a1 (V1.i (FA _ _ _) dO)) ?_;refine V1.i (fm _ _ _) ?_;by_cases hk:k<1\/12<k
 .rw[show(decide (k<1)||decide (12<k))=true by simpa using hk];have hr:(PR.ok bf p).bind (λ_ _=>.fail 2)=r:=by
   rw[←hr];simp only[PR.aJ,bJ,if_pos hk]
  exact If.t (c.fail 2 aj hr λ_ w2 c=>c.more aj)
 rw[show(decide (k<1)||decide (12<k))=false by
  rw[or_eq_false_iff];simp;omega]
 refine If.f ?_;simp only[PR.aJ,bJ,if_neg hk]at hr;refine c.part aj (σ:=.ok bf p) hr λ_ w2 σ2 c gh=>?_;clear hr a1;have hr:=gh;clear gh;refine c.lf a hq ?_;have lK:k=1\/k=2\/k=3\/k=4\/k=5\/k=6\/k=7\/k=8\/k=9\/k=10\/k=11\/k=12:=by omega
 clear hk;have CA:=tW f1;have Vq:=tW f2;rcases lK with rfl|rfl|rfl|rfl|rfl|rfl|rfl|rfl|rfl|rfl|rfl|rfl<;>simp only[reduceIte,reduceEq]at hr<;>(repeat(first|refine V1.i (fa _ _ _) (If.t ?_)|refine V1.i (fa _ _ _) (If.f ?_)))
 .exact c.iq kF hr λ_ _ c=>c.more aj
 .exact c.iq gG hr λ_ _ c=>c.more aj
 .exact c.iq eZ hr λ_ _ c=>c.more aj
 .simp only[hn,if_true]at hr;refine c.lf a hq ?_;refine Lw (hW.text _ _ hn) ?_ (NP.no (e:=_));rintro _ w3 ⟨rfl,K3⟩;replace c:=c.c0 K3;exact c.iq _ hr λ_ _ c=>c.more aj
 .refine c.lf a hq ?_;refine Np (Vp hW _ _) ?_ (NP.no (e:=_));rintro _ w3 ⟨rfl,K3⟩;replace c:=c.c0 K3;exact c.iq _ hr λ_ _ c=>c.more aj
 .refine c.lf a hq ?_;exact c.iq _ hr λ_ _ c=>c.more aj
 . 
  simp only[CA,Vq,Bool.and_self,if_true]at hr;refine c.lf a hq ?_;refine(NL (n:=n) H aj f1 hl).go CT c (by unfold W0;omega) hr aI λ_ w3 σ3 c hr=>?_;refine c.lf a hq ?_;refine CU (c124 hW f2 (c.kl.rep rA)) ?_ (NP.no (e:=_));rintro _ w4 ⟨rfl,K4⟩;replace c:=c.c0 K4
  cases Vr:gI rr with
  |true=>
   rcases bM f2 with rfl|⟨k2,n2,Ge,l2,r2,nh,ni,gQ,NU,rfl⟩
   .cases Vr
   simp only[Vr,if_true]at hr;obtain⟨q2,gK,sL,sM,AD,sN,zd,sO,rfl,jc,a2,_⟩:=rA;refine If.t (c.part aj hr λ_ w5 σ5 c hr=>?_);refine c.NT [46] hr λ_ w6 σ6 c hr=>?_;refine c.lf a hq ?_;refine c.lf a2 jc ?_;exact c.iq Ge hr λ_ _ c=>c.more aj
  |false=>
   have hr:σ3.bind (λb p=>(aM [[91]] b p).bind λb p=>(bJ n (.expr rr) b p).bind λb p=>aM [[93]] b p)=r:=by
    rw[←hr];rcases bM f2 with rfl|⟨k2,n2,Ge,l2,r2,nh,ni,gQ,NU,rfl⟩
    .rfl
    .simp only[Vr,false_eq_true,if_false]
   refine If.f (c.put [91] hr λ_ w5 σ5 c hr=>?_);refine c.lf a hq ?_;refine(H.expr (n:=n) aj f2 rA).go j0 c (by unfold W0;omega) hr aI λ_ w6 σ6 c hr=>?_;exact c.iq [93] hr λ_ _ c=>c.more aj
 .simp only[CA,if_true]at hr;refine c.lf a hq ?_;refine(NL (n:=n) H aj f1 hl).go CT c (by unfold W0;omega) hr aI λ_ w3 σ3 c hr=>?_;refine c.put [40] hr λ_ w4 σ4 c hr=>?_;refine c.lf a hq ?_;refine(Vm (n:=n) H aj f4 Lc (by have:=pF gs;omega)).go Nt c (by unfold W0;omega) hr aI λ_ w5 σ5 c hr=>?_;exact c.iq [41] hr λ_ _ c=>c.more aj
 .refine c.put bP hr λ_ w3 σ3 c hr=>?_;exact(X1 (n:=n) H aj f5 aj a hq KG hbd).pE Nl c (by unfold W0;omega) hr aI λ_ _ c=>c.more aj
 .simp only[Vq,if_true]at hr;refine c.lf a hq ?_;refine c.pD tx hr λ_ w3 σ3 c hr=>?_;refine c.put [32] hr λ_ w4 σ4 c hr=>?_;have KD:aD [] w4 w4.drew:=(aD.refl _ _).drew;refine⟨λw'=>iW lo w0 w',(c.c0 KD).kl,xF.i (λ_ hw=>hw.at a hq) (xF.i (λ_ hw=>hw.at a hq) ?_)⟩;replace c:=c.c0 KD;refine Xw.i (.bool (!(mL rr))) (λw' _=>?_) ?_
  .rcases bM f2 with rfl|⟨k2,n2,Ge,l2,r2,nh,ni,gQ,NU,rfl⟩
   .obtain rfl:rv=.pointer none:=rA;simp[go_sem,mL]
   .obtain⟨q2,gK,sL,sM,AD,sN,zd,sO,rfl,_⟩:=rA;simp[go_sem,mL,ptr]
  refine J1.gd (c:=true) (tQ rr) (λhc kx dO=>?_) ?_
  .rcases bM f2 with rfl|⟨k2,n2,Ge,l2,r2,nh,ni,gQ,NU,rfl⟩
   .cases hc
   .obtain⟨q2,gK,sL,sM,AD,sN,zd,sO,rfl,jc,a2,_⟩:=id rA;exact xF.i (λ_ hw=>hw.at a hq) (xF.i (λ_ hw=>hw.at a2 jc) (Xw.i _ (λw' _=>fa w' _ _) dO))
  refine Xw.i _ (λw' _=>fP w' _ _) ?_;rw[show(!mL rr&&tQ rr)=tQ rr by
   rcases bM f2 with rfl|⟨k2,n2,Ge,l2,r2,nh,ni,gQ,NU,rfl⟩
   .rfl
   .simp[mL]]
  exact(yL (n:=n) H aj f2 rA _).pE rz c (by unfold W0;omega) hr aI λ_ _ c=>c.more aj
 .simp only[CA,Vq,Bool.and_self,if_true]at hr;exact(c127 (n:=n) H aj aj f1 f2 a hq hl rA).pE Nw c (by unfold W0;omega) hr aI λ_ _ c=>c.more aj
 .simp only[cG 1 ak f3,cG 1 ak f4,Bool.and_self,Bool.true_eq_false,if_false]at hr;exact(Vo (n:=n) hW H aj aj f3 f4 a hq lX Lc).pE Ny c (by unfold W0;omega) hr aI λ_ _ c=>c.more aj
end
end Go.Proofs.YtoddjlclpnoomaaGreatDoor

namespace Go.Proofs.YtoddjlclpnoomaaGreatDoor
open Go.Sh
set_option maxRecDepth 100000
section
variable {z lo:Nat}{w0:Wd}
theorem rB{r:PR}{f:By->Nat->PR}:r.bind (λb p=>(f b p).bind λb p=>.ok b p)=r.bind f:=by
 cases r with
 |ok b p=>
  simp only[PR.aJ]
  cases f b p<;>rfl
 |fail c=>rfl
 |bH=>rfl
theorem yP{r:Tr}(hw:wf r 0=true)(n:Nat)(b:By)(p:Nat):bJ n (.expr (eg r)) b p=bJ n (.expr r) b p:=by
 rcases bM hw with rfl|⟨k,nn,tx,l,rr,ks,gs,ps,bd,rfl⟩
 .cases n<;>rfl
 .rfl
theorem rC{σ rr:PR}{n:Nat}{q:By}{r:Tr}{f:By->Nat->PR}(hw:wf r 0=true)(hr:σ.bind (λb p=>(bJ n (.more q (eg r)) b p).bind f)=rr)(aI:rr≠.bH):
  ∃m,σ.bind (λb p=>(aM [q] b p).bind λb p=>(bJ m (.expr r) b p).bind f)=rr:=by
 cases σ with
 |fail c=>exact⟨0,hr⟩
 |bH=>exact⟨0,hr⟩
 |ok b p=>
  cases n with
  |zero=>exact absurd hr.symm aI
  |succ m=>
   refine⟨m,?_⟩;rw[←hr];simp only[PR.aJ];have e:bJ (m+1) (.more q (eg r)) b p=(aM [q] b p).bind λb p=>bJ m (.expr (eg r)) b p:=by
    rcases bM hw with rfl|⟨k,nn,tx,l,rr,ks,gs,ps,bd,rfl⟩<;>rfl
   rw[e,pbind];simp only[yP hw]
theorem mg{σ rr:PR}{n:Nat}{q:By}{l:Tr}(hr:σ.bind (λb p=>bJ n (.within q l) b p)=rr)(aI:rr≠.bH):
 ∃m,σ.bind (λb p=>(aM [q] b p).bind λb p=>(bJ m (.block l) b p).bind λb p=>aM [cO] b p)=rr:=fg hr aI
theorem Vs{w:Wd}{b B:Nat}{σ r:PR}{f:By->Nat->PR}(c:WC w0 w lo b σ B)(hr:σ.bind (λb p=>(aM [[]] b p).bind f)=r):σ.bind f=r:=by
 cases σ with
 |fail c=>exact hr
 |bH=>exact hr
 |ok b p=>
  obtain⟨h,_⟩:=c.wx.len _ _ rfl;rw[←hr];simp[PR.bind,aM,nv,h]
theorem g24(H:ke z){n:Nat}{l:Tr}{u:Va}(hz:tz l<=z+1)(hw:wf l 3=true)(hR:aU (Fo lo) w0 l (.L u)):WG 24 [u] lo w0 (tz l) (bJ n (.stmts l)):=by
 intro w b σ B r c hB hr aI;refine s24 ?_;unfold XQ;unfold W0 at hB;have hlen:=pF l;have il:=cG 3 ak hw;obtain⟨a,cp,rfl⟩:=hR.oc il;have os:=hR.rowAt il;refine L1.i (λx w'=>∃i j l' m σ' B',x=.int .i64 (i:Nat)/\i+j=len l/\WC w0 w' lo b σ' B'/\B'+tz l'<=B+tz l/\wf l' 3=true/\tz l'<=z+1/\cE (Fo lo) w0 l' a i j/\σ'.bind (bJ m (.stmts l'))=r) (λv _=>match v with|.int _ n=>(len l-n.toNat)|_=>0)
  ⟨0,len l,l,n,σ,B,rfl,by omega,c,by omega,hw,hz,os,hr⟩ ?_
 clear os hr c hw hz hR;rintro x w1 ⟨i,j,l',m,σ',B',rfl,rH,c,NK,hw,hz,os,hr⟩;obtain⟨m,hr⟩:=fg hr aI;refine V1.i ah ?_;rcases cY hw with rfl|⟨x,l2,rfl,hx,fY⟩
 .have hj:j=0:=by
   rcases os with⟨_,h⟩|⟨q,_,h⟩
   .exact h
   .exact h
  refine V1.bf ax ?_;refine c.guard (If.f ?_);have hr:σ'.bind (λb p=>.ok b p)=r:=hr;have:r=σ':=by rw[←hr];cases σ'<;>rfl
  subst this;exact c.more aj
 rcases os with⟨h,_⟩|⟨q,rfl,k',u,rfl,hc,hf,rx,rl⟩
 .cases h
 have ol:cE (Fo lo) w0 l2 (some ⟨q,0,none⟩) (i+1) k':=.inr ⟨q,rfl,rl⟩;clear rl;simp only[tz]at hz NK;have vz:=bE x;have uM:=bE l2;refine V1.bt ax ?_;refine c.guard ?_;have gP:=c.wx.no
 cases σ' with
 |bH=>exact absurd rfl gP
 |fail cd=>
  have hr:PR.fail cd=r:=hr;subst hr;exact If.f (c.more aj)
 |ok bf p=>
 refine If.t ?_;have hr:(PR.ok bf p).bind (λb p=>(bJ m (.stmt x) b p).bind λb p=>(aM [[10]] b p).bind λb p=>bJ m (.stmts l2) b p)=r:=hr;refine V1.i (sK aj) ?_;refine V1.i ((aC rfl) _ _ _ (c.kl.cell hc hf)) ?_;refine(H.stmt (n:=m) aj hx rx).go UX c (by unfold W0;omega) hr aI λ_ w3 σ3 c hr=>?_;refine c.put [10] hr λ_ w4 σ4 c hr=>?_;refine V1.i (cC _ _ _ _ _ _ aj aj) ?_;exact⟨⟨i+1,k',l2,m,σ4,_,by simp,by omega,c,by omega,fY,by omega,ol,hr⟩,by simp;omega⟩
def FB:Tr->Bool
 |.cons (.st ..) _=>true
 |_=>false
def Bk:Tr->Bool
 |.cons (.st k ..) _=>k==6
 |_=>false
theorem g80(H:ke z){n:Nat}{k:Int}{nm:By}{l r t a b:Tr}{u:Va}(hz:tz (.st k nm l r t a b)<=z+1)(hw:wf (.st k nm l r t a b) 2=true)(hR:aU (Fo lo) w0 (.st k nm l r t a b) (.P u)):WG 80 [u] lo w0 (tz r+tz a+tz b+1) (bJ n (.branch r a b)):=by
 intro w bl σ B rr c hB hr aI;refine s80 ?_;unfold XY;unfold W0 at hB;obtain⟨n,hr⟩:=fg hr aI;obtain⟨q,line,lv,rv,tv,av,bv,rfl,hq,a0,_,hRr,_,hRa,Vt⟩:=hR;simp only[wf,and_eq_true]at hw;obtain⟨⟨⟨⟨_,f2⟩,_⟩,f4⟩,f5⟩:=hw;simp only[tz]at hz;simp only[bJ]at hr;obtain⟨n1,hr⟩:=rC f2 hr aI;refine c.put [32] hr λ_ w1 σ1 c hr=>?_;refine c.lf a0 hq ?_;refine(H.expr (n:=n1) aj f2 hRr).go j0 c (by unfold W0;omega) hr aI λ_ w2 σ2 c hr=>?_;refine c.put [32,116,104,101,110] hr λ_ w3 σ3 c hr=>?_;refine c.lf a0 hq ?_;refine(CW (n:=n) H aj f4 hRa).go ru c (by unfold W0;omega) hr aI λ_ w4 σ4 c hr=>?_;refine c.lf a0 hq ?_;have il:=cG 3 ak f5;obtain⟨ba,bc,rfl⟩:=Vt.oc il;have og:=Vt.rowAt il
 refine V1.i (v:=.int .i64 ((len b:Nat))) (w':=w4) am ?_;refine V1.i (fa _ _ _) ?_;have FC:(((len b:Nat):Int)==1)=true->∃x q u,b=.cons x .nil/\ba=some ⟨q,0,none⟩/\w0.cell? ⟨q,0,none⟩=some u/\Fo lo q/\aU (Fo lo) w0 x (.P u)/\wf x 2=true/\len b=1:=by
  intro h;rcases cY f5 with rfl|⟨x,l2,rfl,hx,fY⟩
  .simp[len]at h
  rcases cY fY with rfl|⟨x2,l3,rfl,QS,ED⟩
  .rcases og with⟨h,_⟩|⟨q,rfl,k',u,_,hc,hf,rx,rl⟩
   .cases h
   exact⟨x,q,u,rfl,rfl,hc,hf,rx,hx,rfl⟩
  .simp[len]at h
   omega
 refine J1.gd (c:=true) (FB b) (λh kx dO=>?_) ?_
 .obtain⟨x,q2,u,rfl,rfl,hc,hf,rx,hx,e1⟩:=FC h;refine c.lf a0 hq ?_;refine V1.i (nZ _ aj) ?_;refine V1.i ((aC rfl) _ _ _ (c.kl.cell hc hf)) ?_;rcases dr hx with rfl|⟨k,nm,l,r,t,a,b,rfl⟩
  .obtain rfl:u=.pointer none:=rx;exact V1.bf am dO
  .obtain⟨q2,line,lv,rv,tv,av,bv,rfl,_⟩:=rx;exact V1.bt (by simp[go_sem,ptr]) dO
 refine V1.i (fP _ _ _) ?_;refine J1.gd (c:=true) (Bk b) (λh kx dO=>?_) ?_
 .rw[and_eq_true]at h;obtain⟨x,q2,u,rfl,rfl,hc,hf,rx,hx,e1⟩:=FC h.1;refine c.lf a0 hq ?_;refine V1.i (nZ _ aj) ?_;refine V1.i ((aC rfl) _ _ _ (c.kl.cell hc hf)) ?_;rcases dr hx with rfl|⟨k,nm,l,r,t,a,b,rfl⟩
  .cases h.2
  .obtain⟨q2,line,lv,rv,tv,av,bv,rfl,jc,a2,_⟩:=rx;exact c.lf a2 jc (V1.i (fa _ _ _) dO)
 refine V1.i (fP _ _ _) ?_
 cases h6:(((len b:Nat):Int)==1&&FB b)&&Bk b with
 |true=>
  rw[and_eq_true,and_eq_true]at h6;obtain⟨x,q2,u,rfl,rfl,hc,hf,rx,hx,e1⟩:=FC h6.1.1;rcases dr hx with rfl|⟨k,nm,l,r2,t2,a2,b2,rfl⟩
  .cases h6.2
  have hk:k=6:=by simpa[Bk]using h6.2
  subst hk;simp only[if_true]at hr;simp only[tz]at hz hB;have p1:=bE l;have p2:=bE t2;refine If.t (c.part aj hr λ_ w5 σ5 c hr=>?_);refine c.put ew hr λ_ w6 σ6 c hr=>?_;refine c.lf a0 hq ?_;refine V1.i (nZ _ aj) ?_;refine V1.i ((aC rfl) _ _ _ (c.kl.cell hc hf)) ?_;exact(H.branch (n:=n) (by simp only[tz];omega) hx rx).pE Nk c (by unfold W0;omega) hr aI λ_ _ c=>c.more (by simp only[tz];omega)
 |false=>
  refine If.f (J0.go ?_);refine c.lf a0 hq ?_;refine V1.i (v:=.int .i64 ((len b:Nat))) (w':=w4) am ?_;refine V1.i (FA _ _ _) ?_;rcases cY f5 with rfl|⟨x,l2,rfl,hx,fY⟩
  .exact If.f (c.iq cO hr λ_ _ c=>c.more aj)
  refine If.t' (by simp[len]) ?_;have hr:σ4.bind (λb p=>(aM [dU] b p).bind λb p=>(bJ n (.block (.cons x l2)) b p).bind λb p=>aM [cO] b p)=rr:=by
   rw[←hr];rcases cY fY with rfl|⟨x2,l3,rfl,QS,ED⟩
   .rcases dr hx with rfl|⟨k,nm,l,r2,t2,a2,b2,rfl⟩
    .rfl
    .have hk:k≠6:=by simpa[len,FB,Bk]using h6
     simp only[if_neg hk]
   .rcases dr hx with rfl|⟨k,nm,l,r2,t2,a2,b2,rfl⟩<;>rfl
  refine c.put dU hr λ_ w5 σ5 c hr=>?_;refine c.lf a0 hq ?_;refine(CW (n:=n) H aj f5 Vt).go ru c (by unfold W0;omega) hr aI λ_ w6 σ6 c hr=>?_;exact c.iq cO hr λ_ _ c=>c.more aj
end
end Go.Proofs.YtoddjlclpnoomaaGreatDoor


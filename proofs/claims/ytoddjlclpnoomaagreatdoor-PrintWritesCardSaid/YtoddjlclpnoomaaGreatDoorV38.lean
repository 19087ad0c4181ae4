import Derived.Test.YtoddjlclpnoomaaGreatDoorV37
set_option linter.unusedVariables false
set_option linter.unusedSimpArgs false
set_option maxRecDepth 100000
open Go.Proofs.Tryz
open List (drop_eq_getElem_cons getElem?_eq_getElem length_cons length_append length_nil take_length)
open Int (reduceEq)
open Bool (and_eq_true or_eq_true false_eq_true or_eq_false_iff)
open Option (mem_toList)
namespace Go.Proofs.YtoddjlclpnoomaaGreatDoor
open Go.Sh
theorem QY(w:Wd)(n:Nat)(h:n<16):Calls prog 209 #[.int .u8 (n:Nat)] w (aZ (λv w'=>v=rj (iZ.getD n 0)/\w'=w) NP):=by
 refine Xy ?_;unfold Po;refine V1.i (IG _ _ _) ?_;have e:∀n:Nat,n<16->((iZ.getD n 0).toNat:Int)=if n<10 then 48+(n:Int)else 87+n:=by decide
 have e:=e n h;refine If.b (λhn=>?_) (λhn=>?_)
 .have hn:n<10:=by simp at hn;omega
  rw[if_pos hn]at e;refine V1.i (v:=.int .u8 (48+(n:Int))) (w':=w) (by simp[go_sem];rw[IntKind.wrap_u8];omega) ?_;exact⟨by unfold rj;rw[e],rfl⟩
 .have hn:¬n<10:=by simp at hn;omega
  rw[if_neg hn]at e;refine V1.i (v:=.int .u8 (97+(n:Int))) (w':=w) (by simp[go_sem];rw[IntKind.wrap_u8];omega) ?_;refine V1.i (v:=.int .u8 (87+(n:Int))) (w':=w) (by simp[go_sem];rw[IntKind.wrap_u8];omega) ?_;exact⟨by unfold rj;rw[e],rfl⟩
theorem YP(w:Wd)(s:By)(hs:s.length<=32768):Calls prog 176 #[str s] w (aZ (λv w'=>v=str (qs s)/\aD [] w w') NP):=by
 refine Xp ?_;unfold Pc;refine V1.HB [34] ak ak (by simp[go_sem,rj]) λb w1 A N=>?_;generalize(Value.slice (some ⟨b,0,none⟩) [(34:UInt8)].length [(34:UInt8)].length)=v1 at A⊢;have K1:=N.aA;have hz:=K1.size;generalize eW:w.heap.size=lo at A;clear N;refine L2.i (λx y w'=>∃i:Nat,y=.int .i64 i/\i<=s.length/\dS lo w' x ([34]++(s.take i).flatMap kg)/\aD [] w w') (λx y _=>match y with|.int _ n=>s.length-n.toNat|_=>0) ⟨0,rfl,by omega,by simpa using A,K1⟩ ?_;clear A K1 hz;rintro x y w' ⟨i,rfl,hi,A,K⟩;have hz:=K.size;have hlen:=qu (s.take i);have hlen2:(s.take i).length<=s.length:=by simp;omega
 have K':∀{w2:Wd},aD x.ownBlock.toList w' w2->aD [] w w2:=λh2=>⟨by have:=h2.size;omega,λq hq _=>(h2.same q aj (λhm=>by
  have:x.ownBlock=some q:=by simpa[mem_toList]using hm
  have:=A.2 q this;omega)).trans (K.same q hq ak),h2.io.1.trans K.io.1,h2.io.2.trans K.io.2⟩
 refine V1.i (fC _ _ _) ?_;refine V1.i (jg _ _ _ _) ?_;by_cases bO:i<s.length
 rotate_left
 .obtain rfl:i=s.length:=by omega
  rw[show decide ((s.length:Int)<(s.length:Int))=false by simp];refine If.f ?_;refine nY [34] A aj ak ak (by rw[length_append];simp only[length_cons,length_nil];omega) (by simp[go_sem,rj]) λv' w2 A2 K2=>?_;refine V1.i A2.str ?_;refine⟨?_,K' K2⟩;rw[take_length];rfl
 rw[show decide ((i:Int)<(s.length:Int))=true by simp;omega];refine If.t ?_;have oZ:(s.take (i+1)).flatMap kg=(s.take i).flatMap kg++kg s[i]:=by
  rw[List.take_add_one,List.flatMap_append,getElem?_eq_getElem bO];simp
 refine J1.cut (λv2 w2=>dS lo w2 v2 ([34]++(s.take (i+1)).flatMap kg)/\aD [] w w2) ?_ ?_;rotate_left
 .rintro v2 w2 ⟨A2,K2⟩;refine V1.i (cC _ _ _ _ _ _ aj aj) ?_;exact⟨⟨i+1,by simp,by omega,A2,K2⟩,by simp;omega⟩
 rw[oZ];refine V1.i (dU _ s i bO) ?_;generalize s[i]=c;have fin:∀{bs:By}{v':Va}{w2:Wd},bs=kg c->dS lo w2 v' ([34]++(s.take i).flatMap kg++bs)->aD x.ownBlock.toList w' w2->dS lo w2 v' ([34]++((s.take i).flatMap kg++kg c))/\aD [] w w2:=by
  rintro bs v' w2 rfl A2 K2;rw[List.append_assoc]at A2;exact⟨A2,K' K2⟩
 have tn:∀d:UInt8,((c.toNat:Int)==(d.toNat:Int))=(c==d):=λd=>by
  rw[Bool.eq_iff_iff];simp only[beq_iff_eq];constructor
  .intro h;exact UInt8.toNat_inj.1 aj
  .rintro rfl;rfl
 refine V1.i (my _ _ _) ?_;rw[show((c.toNat:Int)==10)=(c==10)from tn 10];by_cases jS:c=10
 .refine If.b (λ_=>?_) (λh=>by simp[jS]at h);refine nY [92,110] A aj ak ak (by rw[length_append];simp only[length_cons,length_nil];omega) (by simp[go_sem,rj]) λv' w2 A2 K2=>fin (by simp[kg,jS]) A2 K2
 refine If.b (λh=>absurd (by simpa using h) jS) (λ_=>?_);refine V1.i (my _ _ _) ?_;rw[show((c.toNat:Int)==9)=(c==9)from tn 9];by_cases h9:c=9
 .refine If.b (λ_=>?_) (λh=>by simp[h9]at h);refine nY [92,116] A aj ak ak (by rw[length_append];simp only[length_cons,length_nil];omega) (by simp[go_sem,rj]) λv' w2 A2 K2=>fin (by simp[kg,h9]) A2 K2
 refine If.b (λh=>absurd (by simpa using h) h9) (λ_=>?_);refine V1.i (my _ _ _) ?_;rw[show((c.toNat:Int)==92)=(c==92)from tn 92];refine J1.gd (c:=false) (c==34) (λ_ k hk=>V1.i (my _ _ _) (by rw[show((c.toNat:Int)==34)=(c==34)from tn 34];exact hk)) ?_;refine V1.i (fI _ _ _) ?_;by_cases hq:c=92\/c=34
 .refine If.b (λ_=>?_) (λh=>by simp at h;rcases hq with h1|h1<;>simp[h1]at h);refine nY [92,c] A aj ak ak (by rw[length_append];simp only[length_cons,length_nil];omega) (by simp[go_sem,rj]) λv' w2 A2 K2=>fin (by rcases hq with rfl|rfl<;>rfl) A2 K2
 refine If.b (λh=>absurd (by simpa using h) hq) (λ_=>?_);refine V1.i (IG _ _ _) ?_;refine J1.gd (c:=false) (decide ((126:Int)<c.toNat)) (λ_ k hk=>V1.i (XC _ _ _) hk) ?_;refine V1.i (fI _ _ _) ?_;have HA:(decide ((c.toNat:Int)<32)||decide ((126:Int)<c.toNat))=decide (c<32\/126<c):=by
  rw[Bool.eq_iff_iff];simp only[or_eq_true,decide_eq_true_eq,UInt8.lt_iff_toNat_lt,show(32:UInt8).toNat=32 from rfl,show(126:UInt8).toNat=126 from rfl];omega
 rw[HA];have Ql:c≠92:=λh=>hq (.inl h);have ji:c≠34:=λh=>hq (.inr h);by_cases hx:c<32\/126<c
 .refine If.b (λ_=>?_) (λh=>absurd hx (by simpa using h));have hc:=c.toNat_lt;refine V1.i (v:=.int .u8 ((c.toNat/16:Nat):Int)) (w':=w') (by simp[go_sem];rw[IntKind.wrap_u8];omega) ?_;refine EP (QY w' (c.toNat/16) aj) ?_ (NP.no (e:=_));rintro _ w' ⟨rfl,rfl⟩;refine V1.i (v:=.int .u8 ((c.toNat%16:Nat):Int)) (w':=w') (by simp[go_sem];rw[Int.tmod_eq_emod_of_nonneg aj]) ?_;refine EP (QY w' (c.toNat%16) aj) ?_ (NP.no (e:=_));rintro _ w' ⟨rfl,rfl⟩;refine nY [92,120,iZ.getD (c.toNat/16) 0,iZ.getD (c.toNat%16) 0] A aj ak ak (by rw[length_append];simp only[length_cons,length_nil];omega) (by simp[go_sem,rj]) λv' w2 A2 K2=>fin (by simp only[kg,if_neg jS,if_neg h9,if_neg Ql,if_neg ji,if_pos hx]) A2 K2
 .refine If.b (λh=>absurd (by simpa using h) hx) (λ_=>?_);refine nY [c] A aj ak ak (by rw[length_append];simp only[length_cons,length_nil];omega) (by simp[go_sem,rj]) λv' w2 A2 K2=>fin (by simp only[kg,if_neg jS,if_neg h9,if_neg Ql,if_neg ji,if_neg hx]) A2 K2
theorem wh:WH:=⟨Yz,YP,YO⟩
end Go.Proofs.YtoddjlclpnoomaaGreatDoor
namespace Go.Proofs.YtoddjlclpnoomaaGreatDoor
open Go.Sh
set_option maxRecDepth 100000
section
variable {z n lo:Nat}{w0:Wd}
theorem YQ(H:lj z){l:Tr}{u:Va}(hz:tz l<=z+1)(hw:wf l 1=true)(hR:aP (Fo lo) w0 l (.L u))(hlen:len l<=1099511627776):WG 125 [u] lo w0 (tz l) (bK n (.args l true)):=by
 intro w b σ B r c hB hr aI;refine YH ?_;unfold QI;have il:=bF 1 ak hw;obtain⟨a,cp,rfl⟩:=hR.oK il;have os:=hR.rowAt il;refine L1.i (λx w'=>∃i j l' m σ' B',x=.int .i64 (i:Nat)/\i+j=len l/\WC w0 w' lo b σ' B'/\B'+tz l'<=B+tz l/\wf l' 1=true/\tz l'<=z+1/\cI (Fo lo) w0 l' a i j/\σ'.bind (bK m (.args l' (i==0)))=r) (λv _=>match v with|.int _ n=>(len l-n.toNat)|_=>0)
  ⟨0,len l,l,n,σ,B,rfl,by omega,c,by omega,hw,hz,os,hr⟩ ?_
 clear os hr c hw hz hR;rintro x w1 ⟨i,j,l',m,σ',B',rfl,tC,c,QZ,hw,hz,os,hr⟩;obtain⟨m,hr⟩:=fM hr aI;refine V1.i ah ?_;rcases dn hw with rfl|⟨x,l2,rfl,hx,gI⟩
 .have hj:j=0:=by
   rcases os with⟨_,h⟩|⟨q,_,h⟩
   .exact h
   .exact h
  refine V1.bf ay ?_;refine c.guard (If.f ?_);have hr:σ'.bind (λb p=>.ok b p)=r:=hr;have:r=σ':=by rw[←hr];cases σ'<;>rfl
  subst this;exact c.more aj
 rcases os with⟨h,_⟩|⟨q,rfl,k',u,rfl,hc,hf,rx,rl⟩
 .cases h
 have ol:cI (Fo lo) w0 l2 (some ⟨q,0,none⟩) (i+1) k':=.inr ⟨q,rfl,rl⟩;clear rl;simp only[tz]at hz QZ;have xt:=bE x;have wL:=bE l2;unfold W0 at hB;refine V1.bt ay ?_;refine c.guard ?_;have iw:=c.wx.no
 cases σ' with
 |bH=>exact absurd rfl iw
 |fail cd=>
  have hr:PR.fail cd=r:=hr;subst hr;exact If.f (c.more aj)
 |ok bf p=>
 refine If.t ?_;refine J0.cut (λw'=>∃σ2,WC w0 w' lo b σ2 B'/\σ2.bind (λb p=>(bK m (.expr x) b p).bind λb p=>bK m (.args l2 false) b p)=r) ?_ ?_
 .cases hi:(i==0)with
  |true=>
   obtain rfl:i=0:=by simpa using hi
   rw[hi]at hr;refine V1.bf au ?_;exact If.f ⟨_,c,hr⟩
  |false=>
   rw[hi]at hr;have h0:i≠0:=by simpa using hi
   refine V1.bt ay ?_;refine If.t (c.put [44,32] (σ:=.ok bf p) hr λ_ w2 σ2 c hr=>⟨σ2,c,hr⟩)
 rintro w2 ⟨σ2,c,hr⟩;refine V1.i (mL aj) ?_;refine V1.i ((aC rfl) _ _ _ (c.kl.cell hc hf)) ?_;refine(H.expr (n:=m) aj hx rx).go lh c (by unfold W0;omega) hr aI λ_ w3 σ3 c hr=>?_;refine V1.i (cC _ _ _ _ _ _ aj aj) ?_;exact⟨⟨i+1,k',l2,m,σ3,_,by simp,by omega,c,by omega,gI,by omega,ol,by rw[show(i+1==0)=false by simp];exact hr⟩,by simp;omega⟩
theorem Dp{w:Wd}{t:Tr}{u:Va}(hw:wf t 0=true)(hR:aP (Fo lo) w t (.P u)):Calls prog 179 #[u] w (aZ (λv w'=>v=.int .i64 (aW t)/\aD [] w w') NP):=by
 refine YM ?_;unfold QR;rcases bM hw with rfl|⟨k,nn,x,l,rr,ks,gs,ps,bd,rfl⟩
 .obtain rfl:u=.pointer none:=hR;refine V1.bt au ?_;exact If.t ⟨rfl,aD.refl _ _⟩
 .obtain⟨q2,line,lv,rv,kv,av,pv,bv,rfl,_,a,_⟩:=hR;refine V1.bf (by simp[go_sem,ptr]) ?_;refine If.f (lF.i a (V1.i (fG _ _ _) ?_))
  cases hk:(k==11)with
  |true=>
   obtain rfl:k=11:=by simpa using hk
   refine If.t (lF.i a ?_);refine Ad (HR _ _) ?_ (NP.no (e:=_));rintro _ w1 ⟨rfl,K1⟩;exact⟨rfl,K1⟩
  |false=>
   have hk:k≠11:=by simpa using hk
   refine If.f (lF.i a (V1.i (fG _ _ _) ?_))
   cases km:(k==10)with
   |true=>
    obtain rfl:k=10:=by simpa using km
    exact If.t ⟨rfl,aD.refl _ _⟩
   |false=>
    have km:k≠10:=by simpa using km
    exact If.f ⟨by simp only[aW,if_neg hk,if_neg km],aD.refl _ _⟩
theorem c124(hW:WH){w:Wd}{t:Tr}{u:Va}(hw:wf t 0=true)(hR:aP (Fo lo) w t (.P u)):Calls prog 124 #[u] w (aZ (λv w'=>v=.bool (ij t)/\aD [] w w') NP):=by
 refine YG ?_;unfold QH;rcases bM hw with rfl|⟨k,nn,x,l,rr,ks,gs,ps,bd,rfl⟩
 .obtain rfl:u=.pointer none:=hR;repeat(first|refine J1.go ?_|refine J0.go ?_|refine Gd.tt ?_|refine Gd.ff ?_|refine Gd.tf ?_|refine Gd.ft ?_|refine Gd.u ?_|refine If.t ?_|refine If.f ?_|refine Up.i (Nc.p _ _) ?_|refine V1.load (aC rfl) aw rfl ?_|refine V1.i (w':=w) ax ?_)
  exact⟨rfl,aD.refl _ _⟩
 .obtain⟨q2,line,lv,rv,kv,av,pv,bv,rfl,_,a,_⟩:=hR;refine V1.bt (by simp[go_sem,ptr]) ?_;refine J1.gd (c:=true) (k==5) (λ_ k hk=>lF.i a (V1.i (fG _ _ _) hk)) ?_;refine V1.i (gi _ _ _) ?_;rw[Bool.true_and];refine J1.go ?_
  cases hk:(k==5)with
  |false=>
   refine Gd.ft ?_;refine V1.i ah ?_;exact⟨by simp[ij,hk],aD.refl _ _⟩
  |true=>
   refine Gd.tt (lF.i a ?_);refine QQ (hW.name w x) ?_ (NP.no (e:=_));rintro _ w1 ⟨rfl,K1⟩;refine V1.i ah ?_;exact⟨by simp[ij,hk],K1⟩
theorem Q0(H:lj z){t:Tr}{u:Va}(hz:tz t<=z)(hw:wf t 0=true)(hR:aP (Fo lo) w0 t (.P u)):WG 123 [u] lo w0 (tz t) (bK n (.inner t (vC t))):=by
 intro w b σ B r c hB hr aI;refine YF ?_;unfold QG;rcases bM hw with rfl|⟨k,nn,x,l,rr,ks,gs,ps,bd,rfl⟩
 .have hu:u=.pointer none:=hR;subst hu;refine V1.bf au ?_;refine J1.go (Gd.ft (J1.go (Gd.u (J1.go (Gd.ft (J1.go (Gd.u (J1.go (Gd.ft ?_)))))))));refine V1.bf au ?_;exact(AH H hz hw hR false).qU tg c hB hr aI λ_ w1 c=>c
 .obtain⟨q2,line,lv,rv,kv,av,pv,bv,rfl,hq,a,_⟩:=id hR;have a1:=c.kl.at a hq;refine V1.bt (by simp[go_sem,ptr]) ?_;refine J1.go (Gd.tt (lF.i a1 (V1.i (fG _ _ _) ?_)));refine J1.gd (c:=false) (k==11) (λ_ k hk=>lF.i a1 (V1.i (fG _ _ _) hk)) ?_;refine J1.go (Gd.tt (V1.i (fI _ _ _) ?_));refine J1.gd (c:=false) (k==9) (λ_ k hk=>lF.i a1 (V1.i (fG _ _ _) hk)) ?_;refine J1.go (Gd.tt (V1.i (fI _ _ _) ?_));refine V1.i (v:=.bool (((k==10)||(k==11))||(k==9))) (w':=w) au ?_;exact(AH H hz hw hR _).qU tg c hB hr aI λ_ w1 c=>c
theorem c81(H:lj z){k nn line:Int}{x:By}{lv rv kv av pv bv:Va}{q:Nat}{ps:LB}{bd:Tr}(hz:tz bd<=z)(hw:wf bd 3=true)(Cn:ps.length<=1099511627776)
  (a:At w0 q [.int .i64 k,.int .i64 line,.int .i64 nn,str x,lv,rv,kv,av,pv,bv]) (hq:q<lo) (hS:Strs (Fo lo) w0 pv ps) (hR:aP (Fo lo) w0 bd (.L bv)):WG 81 [ptr q] lo w0 (tz bd) (bK n (.func ps bd)):=by
 intro w b σ B r c hB hr aI;refine s81 ?_;unfold S81;obtain⟨m,hr⟩:=fM hr aI;have hr:σ.bind (λb p=>(aO [[40]] b p).bind λb p=>(gS ps true b p).bind λb p=>(aO [[41]] b p).bind λb p=>(bK m (.block bd) b p).bind λb p=>aO [cT] b p)=r:=hr;refine c.put [40] hr λ_ w1 σ1 c hr=>?_;obtain⟨pa,pc,rfl⟩:=hS.sl;refine L1.i (λx w'=>∃(i:Nat) (σ':PR),x=.int .i64 (i:Nat)/\i<=ps.length/\WC w0 w' lo b σ' B/\σ'.bind (λb p=>(gS (ps.drop i) (i==0) b p).bind λb p=>(aO [[41]] b p).bind λb p=>(bK m (.block bd) b p).bind λb p=>aO [cT] b p)=r) (λv _=>match v with|.int _ n=>(ps.length-n.toNat)|_=>0)
  ⟨0,σ1,rfl,by omega,c,hr⟩ ?_
 clear hr c;rintro x2 w2 ⟨i,σ',rfl,hi,c,hr⟩;have a1:=c.kl.at a hq;refine lF.i a1 ?_;refine V1.i ah ?_;have mO:∀{w':Wd}{σ':PR},WC w0 w' lo b σ' B->σ'.bind (λb p=>(aO [[41]] b p).bind λb p=>(bK m (.block bd) b p).bind λb p=>aO [cT] b p)=r->
   cf (aZ (λ_ w'=>WC w0 w' lo b r (B+tz bd)) NP) 45 #[ptr b,.string ⟨#[41]⟩] w' λa37 w=>lF (aZ (λ_ w'=>WC w0 w' lo b r (B+tz bd)) NP) 47 9 26 (ptr q) w λG3 w=>cf (aZ (λ_ w'=>WC w0 w' lo b r (B+tz bd)) NP) 79 #[ptr b,G3] w λIK w=>
    cf (aZ (λ_ w'=>WC w0 w' lo b r (B+tz bd)) NP) 45 #[ptr b,.string ⟨#[101,110,100]⟩] w λa45 w=>aZ (λ_ w'=>WC w0 w' lo b r (B+tz bd)) NP (.returned (.tuple #[])) w:=by
  intro w' σ' c hr;refine c.put [41] hr λ_ w3 σ3 c hr=>?_;refine c.lf a hq ?_;refine(E9 (n:=m) H hz hw hR).go td c hB hr aI λ_ w4 σ4 c hr=>?_;exact c.iR cT hr λ_ w5 c=>c
 by_cases bO:i<ps.length
 rotate_left
 .obtain rfl:i=ps.length:=by omega
  refine V1.bf au ?_;refine c.guard (If.f (mO c ?_));rw[List.drop_length]at hr;exact hr
 refine V1.bt ay ?_;refine c.guard ?_;have iw:=c.wx.no
 cases σ' with
 |bH=>exact absurd rfl iw
 |fail cd=>exact If.f (mO c hr)
 |ok bf p=>
 refine If.t ?_;rw[drop_eq_getElem_cons bO]at hr;refine J0.cut (λw'=>∃σ2,WC w0 w' lo b σ2 B/\σ2.bind (λb p=>(aO [ps[i]] b p).bind λb p=>(gS (ps.drop (i+1)) false b p).bind λb p=>(aO [[41]] b p).bind λb p=>(bK m (.block bd) b p).bind λb p=>aO [cT] b p)=r) ?_ ?_
 .cases Bf:(i==0)with
  |true=>
   obtain rfl:i=0:=by simpa using Bf
   refine V1.bf au ?_;refine If.f ⟨_,c,?_⟩;rw[Bf]at hr;rw[←hr];simp only[PR.aL,gS,if_true,pbind]
  |false=>
   have h0:i≠0:=by simpa using Bf
   refine V1.bt ay ?_;have hr:(PR.ok bf p).bind (λb p=>(aO [[44,32],ps[i]] b p).bind λb p=>(gS (ps.drop (i+1)) false b p).bind λb p=>(aO [[41]] b p).bind λb p=>(bK m (.block bd) b p).bind λb p=>aO [cT] b p)=r:=by
    rw[Bf]at hr;rw[←hr];simp only[PR.aL,gS,false_eq_true,if_false,pbind]
   refine If.t (c.qT [44,32] hr λ_ w3 σ2 c hr=>⟨σ2,c,hr⟩)
 rintro w3 ⟨σ2,c,hr⟩;refine c.lf a hq ?_;obtain⟨qa,rfl,_⟩:=hS.get bO;refine V1.i (mD _ bO) ?_;have nW:=Strs.cell (Strs.aA c.kl.aA (λq hq bO=>⟨λhm=>by
   obtain⟨i,hi,e⟩:=List.mem_range'.1 hm;unfold Fo at hq;omega,hq⟩) hS) bO
 refine V1.i ((aC rfl) _ _ _ nW) ?_;refine c.put ps[i] hr λ_ w4 σ4 c hr=>?_;refine V1.i (cC _ _ _ _ _ _ aj aj) ?_;exact⟨⟨i+1,σ4,by simp,by omega,c,by rw[show(i+1==0)=false by simp];exact hr⟩,by simp;omega⟩
theorem c127(H:lj z){nn line:Int}{x:By}{lv rv kv av pv bv:Va}{q:Nat}{l rr:Tr}(H3:tz l<=z)(A8:tz rr<=z)(tD:wf l 0=true)(wR:wf rr 0=true)
  (a:At w0 q [.int .i64 11,.int .i64 line,.int .i64 nn,str x,lv,rv,kv,av,pv,bv]) (hq:q<lo) (xI:aP (Fo lo) w0 l (.P lv)) (Dq:aP (Fo lo) w0 rr (.P rv)):
  WG 127 [ptr q] lo w0 (tz l+tz rr) (λb p=>(bK n (.inner l (decide (aW l<bD x)||(x==[46,46]&&aW l==bD x))) b p).bind λb p=>(aO [[32],x,[32]] b p).bind λb p=>
   bK n (.inner rr (decide (aW rr<bD x)||(!(x==[46,46])&&aW rr==bD x))) b p):=by
 intro w b σ B r c hB hr aI;refine YJ ?_;unfold QL;have hbx:=sT x;refine c.lf a hq ?_;refine Ad (HR _ _) ?_ (NP.no (e:=_));rintro _ w1 ⟨rfl,K1⟩;replace c:=c.c0 K1;refine c.lf a hq ?_;refine V1.i (nq _ _ _ _ _) ?_;have KD:aD [] w1 w1.drew:=(aD.refl _ _).drew;have a1:=c.kl.at a hq;refine⟨λw'=>At w' q _,KD.at a1 ak,xF.i (λ_ h=>h) (xF.i (λ_ h=>h) ?_)⟩;replace c:=c.c0 KD;replace a1:=KD.at a1 ak;generalize w1.drew=w2 at*;refine vV (Dp tD (c.kl.rep xI)) ?_ (NP.no (e:=_));rintro _ w3 ⟨rfl,K3⟩;replace c:=c.c0 K3;replace a1:=K3.at a1 ak;refine⟨a1,?_⟩;refine Xw.i (.bool (decide (aW l<bD x))) (λw' _=>by simp[go_sem]) ?_;refine J1.cut (λv w'=>v=(if decide (aW l<bD x)=false then .bool (x==[46,46])else undef)/\w'=w3) ?_ ?_
 .exact Gd.b (λh=>⟨by rw[if_pos h],rfl⟩) (λh=>⟨by rw[if_neg (by rw[h];simp)],rfl⟩)
 rintro _ w4 ⟨rfl,rfl⟩;refine J1.cut (λv w'=>v=(if(!(decide (aW l<bD x))&&(x==[46,46]))=true then .bool (aW l==bD x)else undef)/\WC w0 w' lo b σ B/\At w' q [.int .i64 11,.int .i64 line,.int .i64 nn,str x,lv,rv,kv,av,pv,bv]) ?_ ?_
 .cases hd:decide (aW l<bD x)with
  |true=>exact Gd.u ⟨rfl,c,a1⟩
  |false=>
   rw[if_pos rfl]
   cases hx:(x==[46,46])with
   |false=>exact Gd.ft ⟨rfl,c,a1⟩
   |true=>
    refine Gd.tt (xF.i (λ_ h=>h) ?_);refine vV (Dp tD (c.kl.rep xI)) ?_ (NP.no (e:=_));rintro _ w5 ⟨rfl,K5⟩;refine⟨K5.at a1 ak,?_⟩;refine Xw.i (.bool (aW l==bD x)) (λw' _=>by simp[go_sem,Bo]) ?_;exact⟨rfl,c.c0 K5,K5.at a1 ak⟩
 clear c a1;rintro _ w5 ⟨rfl,c,a1⟩;refine J1.cut (λv w'=>w'=w5/\v=(if decide (aW l<bD x)=false then .bool ((x==[46,46])&&(aW l==bD x))else undef)) ?_ ?_
 .cases hd:decide (aW l<bD x)with
  |true=>exact Gd.tf ⟨rfl,rfl⟩
  |false=>
   refine Gd.ff ?_;rw[if_pos rfl];simp only[Bool.not_false,Bool.true_and];exact Xw.i _ (λw' _=>gi w' _ _) ak
 rintro _ w6 ⟨rfl,rfl⟩;refine Xw.i (.bool (decide (aW l<bD x)||((x==[46,46])&&(aW l==bD x)))) (λw' _=>fI w' _ _) ?_;refine(AH (n:=n) H H3 tD xI _).go tg c aj hr aI λ_ w7 σ7 c hr=>?_;refine c.qT [32] hr λ_ w8 σ8 c hr=>?_;refine c.lf a hq ?_;refine c.qT x hr λ_ w9 σ9 c hr=>?_;refine c.put [32] hr λ_ ei σ10 c hr=>?_;have KD:aD [] ei ei.drew:=(aD.refl _ _).drew;have a1:=c.kl.at a hq;refine⟨λw'=>At w' q _,KD.at a1 ak,xF.i (λ_ h=>h) (xF.i (λ_ h=>h) ?_)⟩;replace c:=c.c0 KD;replace a1:=KD.at a1 ak;generalize ei.drew=fp at*;refine vV (Dp wR (c.kl.rep Dq)) ?_ (NP.no (e:=_));rintro _ fT ⟨rfl,dB⟩;replace c:=c.c0 dB;replace a1:=dB.at a1 ak;refine⟨a1,?_⟩
 refine Xw.i (.bool (decide (aW rr<bD x))) (λw' _=>by simp[go_sem]) ?_;refine J1.cut (λv w'=>v=(if decide (aW rr<bD x)=false then .bool (!(x==[46,46]))else undef)/\w'=fT) ?_ ?_
 .exact Gd.b (λh=>Xw.i _ (λw' _=>by simp[go_sem];rfl) ⟨by rw[if_pos h],rfl⟩) (λh=>⟨by rw[if_neg (by rw[h];simp)],rfl⟩)
 rintro _ mK ⟨rfl,rfl⟩;refine J1.cut (λv w'=>v=(if(!(decide (aW rr<bD x))&&(!(x==[46,46])))=true then .bool (aW rr==bD x)else undef)/\WC w0 w' lo b σ10 (B+tz l)/\At w' q [.int .i64 11,.int .i64 line,.int .i64 nn,str x,lv,rv,kv,av,pv,bv]) ?_ ?_
 .cases hd:decide (aW rr<bD x)with
  |true=>exact Gd.u ⟨rfl,c,a1⟩
  |false=>
   rw[if_pos rfl]
   cases hx:(!(x==[46,46]))with
   |false=>exact Gd.ft ⟨rfl,c,a1⟩
   |true=>
    refine Gd.tt (xF.i (λ_ h=>h) ?_);refine vV (Dp wR (c.kl.rep Dq)) ?_ (NP.no (e:=_));rintro _ lu ⟨rfl,kN⟩;refine⟨kN.at a1 ak,?_⟩;refine Xw.i (.bool (aW rr==bD x)) (λw' _=>by simp[go_sem,Bo]) ?_;exact⟨rfl,c.c0 kN,kN.at a1 ak⟩
 clear c a1;rintro _ lu ⟨rfl,c,a1⟩;refine J1.cut (λv w'=>w'=lu/\v=(if decide (aW rr<bD x)=false then .bool ((!(x==[46,46]))&&(aW rr==bD x))else undef)) ?_ ?_
 .cases hd:decide (aW rr<bD x)with
  |true=>exact Gd.tf ⟨rfl,rfl⟩
  |false=>
   refine Gd.ff ?_;rw[if_pos rfl];simp only[Bool.not_false,Bool.true_and];exact Xw.i _ (λw' _=>gi w' _ _) ak
 rintro _ sx ⟨rfl,rfl⟩;refine Xw.i (.bool (decide (aW rr<bD x)||((!(x==[46,46]))&&(aW rr==bD x)))) (λw' _=>fI w' _ _) ?_;exact(AH (n:=n) H A8 wR Dq _).qU tg c aj hr aI λ_ Ef c=>c.more aj
end
end Go.Proofs.YtoddjlclpnoomaaGreatDoor

namespace Go.Proofs.YtoddjlclpnoomaaGreatDoor
open Go.Sh
set_option maxRecDepth 100000
section
variable {z n lo:Nat}{w0:Wd}
theorem AJ{σ r:PR}{cl:Gv}{f:By->Nat->PR}(hr:σ.bind (λb p=>(bK n cl b p).bind f)=r)(aI:r≠.bH):∃m,σ.bind (λb p=>(bK (m+1) cl b p).bind f)=r:=by
 cases n with
 |succ m=>exact⟨m,hr⟩
 |zero=>
  refine⟨0,?_⟩
  cases σ with
  |ok b p=>exact absurd hr.symm aI
  |fail c=>exact hr
  |bH=>exact hr
theorem qV:∀t:Tr,len t<=tz t
 |.nil=>by simp[len]
 |.hole=>by simp[len]
 |.cons _ t=>by simp only[len,tz];have:=qV t;omega
 |.ex ..|.st ..=>by simp[len]
def AK(m:Nat)(k:Tr)(b:By)(p:Nat):PR:=match k with
 |.nil=>.ok b p
 |.ex kk kn text kl kr Vg Vh Vi kb=>if ij k then(fx b p).bind λb p=>aO [text,[32,61,32]] b p
   else(aO [[91]] b p).bind λb p=>(bK m (.expr (.ex kk kn text kl kr Vg Vh Vi kb)) b p).bind λb p=>aO [[93,32,61,32]] b p
 |_=>.bH
theorem YR(hW:WH)(H:lj z){k x:Tr}{u v:Va}(H3:tz k<=z)(A8:tz x<=z)(tD:wf k 0=true)(wR:wf x 0=true)
  (xI:aP (Fo lo) w0 k (.P u)) (Dq:aP (Fo lo) w0 x (.P v)):WG 180 [u,v] lo w0 (tz k+tz x) (λb p=>(AK n k b p).bind λb p=>bK n (.expr x) b p):=by
 intro w b σ B r c hB hr aI;refine YN ?_;unfold QS;unfold W0 at hB;refine J0.cut (λw'=>∃σ2,WC w0 w' lo b σ2 (B+tz k)/\σ2.bind (λb p=>bK n (.expr x) b p)=r) ?_ ?_;rotate_left
 .rintro w2 ⟨σ2,c,hr⟩;exact(H.expr (n:=n) A8 wR Dq).qU lh c (by unfold W0;omega) hr aI λ_ w3 c=>c.more aj
 have hp:=bE k;refine E7 (c124 hW tD (c.kl.rep xI)) ?_ (NP.no (e:=_));rintro _ w1 ⟨rfl,K1⟩;replace c:=c.c0 K1;rcases bM tD with rfl|⟨kk,nn,tx,l,rr,ks,gs,ps,bd,rfl⟩
 .have hu:u=.pointer none:=xI;subst hu;refine If.f ?_;refine V1.bf au ?_;exact If.f ⟨σ,c.more aj,hr⟩
 .obtain⟨q2,line,lv,rv,kv,av,pv,bv,rfl,hq,a,_⟩:=id xI;simp only[AK]at hr
  cases hn:ij (.ex kk nn tx l rr ks gs ps bd)with
  |true=>
   rw[hn]at hr;simp only[if_true,pbind]at hr;refine If.t (c.part aj hr λ_ w2 σ2 c hr=>?_);refine c.lf a hq ?_;refine c.qT tx hr λ_ w3 σ3 c hr=>?_;refine c.put [32,61,32] hr λ_ w4 σ4 c hr=>?_;exact⟨σ4,c.more (by simp only[tz];omega),hr⟩
  |false=>
   rw[hn]at hr;simp only[false_eq_true,if_false,pbind]at hr;refine If.f ?_;refine V1.bt (by simp[go_sem,ptr]) ?_;refine If.t (c.put [91] hr λ_ w2 σ2 c hr=>?_);refine(H.expr (n:=n) H3 tD xI).go lh c (by unfold W0;omega) hr aI λ_ w3 σ3 c hr=>?_;refine c.put [93,32,61,32] hr λ_ w4 σ4 c hr=>?_;exact⟨σ4,c,hr⟩
theorem YS(hW:WH)(H:lj z){nn line:Int}{x:By}{lv rv kv av pv bv:Va}{q:Nat}{ks gs:Tr}(H3:tz ks<=z)(A8:tz gs<=z)(tD:wf ks 1=true)(wR:wf gs 1=true)
  (a:At w0 q [.int .i64 12,.int .i64 line,.int .i64 nn,str x,lv,rv,kv,av,pv,bv]) (hq:q<lo) (xI:aP (Fo lo) w0 ks (.L kv)) (Dq:aP (Fo lo) w0 gs (.L av)):
  WG 128 [ptr q] lo w0 (tz ks+tz gs) (λb p=>if len ks=len gs then(aO [[123]] b p).bind λb p=>(bK n (.items ks gs true) b p).bind λb p=>aO [[125]] b p else .fail 2):=by
 intro w b σ B r c hB hr aI;refine YK ?_;unfold QN;unfold W0 at hB;have HW:=bF 1 ak tD;have HX:=bF 1 ak wR;obtain⟨ka,kc,rfl⟩:=xI.oK HW;obtain⟨ga,gc,rfl⟩:=Dq.oK HX;have Q2:=xI.rowAt HW;have Q3:=Dq.rowAt HX;have a1:=c.kl.at a hq;have KD:aD [] w w.drew:=(aD.refl _ _).drew;refine⟨λw'=>At w' q _,KD.at a1 ak,xF.i (λ_ h=>h) ?_⟩;refine Xw.i (.int .i64 ((len ks):Nat)) (λw' _=>by simp[go_sem]) ?_;refine xF.i (λ_ h=>h) ?_;refine Xw.i (.int .i64 ((len gs):Nat)) (λw' _=>by simp[go_sem]) ?_;refine Xw.i _ (λw' _=>Ew w' _ _ _ _) ?_;replace c:=c.c0 KD;by_cases hl:len ks=len gs
 rotate_left
 .refine If.t' (by simp[hl]) ?_;simp only[if_neg hl]at hr;exact c.fail 2 aj hr λ_ w2 c=>c.more aj
 simp only[if_pos hl]at hr;refine If.f' (by simp[hl]) (c.put [123] hr λ_ w2 σ2 c hr=>?_);have hlen:len gs<=1000000000000:=by
  have:=qV gs;omega
 refine L1.i (λx w'=>∃(i j:Nat) (zt tJ:Tr) (m:Nat) (σ':PR) (B':Nat),x=.int .i64 (i:Nat)/\i+j=len gs/\WC w0 w' lo b σ' B'/\B'+tz zt+tz tJ<=B+tz ks+tz gs/\wf zt 1=true/\wf tJ 1=true/\tz zt<=z/\tz tJ<=z/\
   cI (Fo lo) w0 zt ka i j/\cI (Fo lo) w0 tJ ga i j/\σ'.bind (λb p=>(bK m (.items zt tJ (i==0)) b p).bind λb p=>aO [[125]] b p)=r) (λv _=>match v with|.int _ n=>(len gs-n.toNat)|_=>0)
  ⟨0,len gs,ks,gs,n,σ2,B,rfl,by omega,c,by omega,tD,wR,H3,A8,by rw[←hl];exact Q2,Q3,hr⟩ ?_
 clear Q2 Q3 hr c tD wR xI Dq HW HX;rintro y w3 ⟨i,j,zt,tJ,m,σ',B',rfl,tC,c,QZ,tD,wR,H3,A8,Q2,Q3,hr⟩;obtain⟨m,hr⟩:=AJ hr aI;refine c.lf a hq ?_;refine V1.i ah ?_;have mO:∀{w':Wd}{σ':PR},WC w0 w' lo b σ' B'->σ'.bind (aO [[125]])=r->cf (aZ (λ_ w'=>WC w0 w' lo b r (B+(tz ks+tz gs))) NP) 45 #[ptr b,.string ⟨#[125]⟩] w' λa57 w=>aZ (λ_ w'=>WC w0 w' lo b r (B+(tz ks+tz gs))) NP (.returned (.tuple #[])) w:=by
  intro w' σ' c hr;exact c.iR [125] hr λ_ w4 c=>c.more aj
 rcases dn wR with rfl|⟨x1,l2,rfl,hx,gI⟩
 .have hj:j=0:=by
   rcases Q3 with⟨_,h⟩|⟨q,_,h⟩
   .exact h
   .exact h
  refine V1.bf ay ?_;exact c.guard (If.f (mO c hr))
 rcases Q3 with⟨h,_⟩|⟨qg,rfl,k',u,rfl,hc,hf,rx,rl⟩
 .cases h
 have og2:cI (Fo lo) w0 l2 (some ⟨qg,0,none⟩) (i+1) k':=.inr ⟨qg,rfl,rl⟩;rcases dn tD with rfl|⟨k1,lk,rfl,hk,ux⟩
 .rcases Q2 with⟨_,h⟩|⟨q0,_,h⟩
  .omega
  .exact absurd (show k'+1=0 from h) aj
 rcases Q2 with⟨h,_⟩|⟨qk,rfl,k2,uk,e2,hck,Rm,rxk,rlk⟩
 .cases h
 obtain rfl:k'=k2:=by omega
 have ok2:cI (Fo lo) w0 lk (some ⟨qk,0,none⟩) (i+1) k':=.inr ⟨qk,rfl,rlk⟩;clear rl rlk;simp only[tz]at H3 A8 QZ;have xt:=bE x1;have wL:=bE l2;have VH:=bE k1;have hp4:=bE lk;refine V1.bt ay ?_;refine c.guard ?_;have iw:=c.wx.no
 cases σ' with
 |bH=>exact absurd rfl iw
 |fail cd=>exact If.f (mO c hr)
 |ok bf p=>
 refine If.t ?_;have hr:(PR.ok bf p).bind (λb p=>(aO (if(i==0)=true then[]else[[44,32]]) b p).bind λb p=>((AK m k1 b p).bind λb p=>bK m (.expr x1) b p).bind λb p=>(bK m (.items lk l2 false) b p).bind λb p=>aO [[125]] b p)=r:=by
  rw[←hr];simp only[PR.aL,pbind];have e:bK (m+1) (.items (.cons k1 lk) (.cons x1 l2) (i==0)) bf p=(aO (if(i==0)=true then[]else[[44,32]]) bf p).bind λb p=>(AK m k1 b p).bind λb p=>(bK m (.expr x1) b p).bind λb p=>bK m (.items lk l2 false) b p:=by
   cases k1<;>rfl
  rw[e];simp only[pbind]
 refine J0.cut (λw'=>∃σ2,WC w0 w' lo b σ2 B'/\σ2.bind (λb p=>((AK m k1 b p).bind λb p=>bK m (.expr x1) b p).bind λb p=>(bK m (.items lk l2 false) b p).bind λb p=>aO [[125]] b p)=r) ?_ ?_
 .cases hi:(i==0)with
  |true=>
   obtain rfl:i=0:=by simpa using hi
   rw[hi]at hr;refine V1.bf au ?_;exact If.f ⟨_,c,hr⟩
  |false=>
   rw[hi]at hr;have h0:i≠0:=by simpa using hi
   refine V1.bt ay ?_;refine If.t (c.put [44,32] (σ:=.ok bf p) hr λ_ w2 σ2 c hr=>⟨σ2,c,hr⟩)
 clear hr c;rintro w4 ⟨σ4,c,hr⟩;have KD:aD [] w4 w4.drew:=(aD.refl _ _).drew;replace c:=c.c0 KD;refine⟨λw'=>jH lo w0 w',c.kl,xF.i (λ_ hw=>hw.at a hq) ?_⟩;refine Xw.i _ (λw' _=>mL aj) ?_;refine Xw.i uk (λw' hw=>(aC rfl) _ _ _ (hw.cell hck Rm)) ?_;refine xF.i (λ_ hw=>hw.at a hq) ?_;refine Xw.i _ (λw' _=>mL aj) ?_;refine Xw.i u (λw' hw=>(aC rfl) _ _ _ (hw.cell hc hf)) ?_;refine(YR (n:=m) hW H aj aj hk hx rxk rx).go QT c (by unfold W0;omega) hr aI λ_ w5 σ5 c hr=>?_;refine V1.i (cC _ _ _ _ _ _ aj aj) ?_;exact⟨⟨i+1,k',lk,l2,m,σ5,_,by simp,by omega,c,by omega,ux,gI,by omega,by omega,ok2,og2,by rw[show(i+1==0)=false by simp];exact hr⟩,by simp;omega⟩
end
end Go.Proofs.YtoddjlclpnoomaaGreatDoor

namespace Go.Proofs.YtoddjlclpnoomaaGreatDoor
open Go.Sh
set_option maxRecDepth 100000
theorem YT(hW:WH)(w:Wd)(s:By):Calls prog 122 #[str s] w (aZ (λv w'=>v=str (jC s)/\aD [] w w') NP):=by
 refine YE ?_;unfold QE;unfold jC;by_cases h:32768<s.length
 .rw[if_pos h];refine V1.i ah ?_;refine V1.bt ay ?_;exact If.t ⟨rfl,aD.refl _ _⟩
 .rw[if_neg h];refine V1.i ah ?_;refine V1.bf ay ?_;refine If.f (Pd (hW.quote w s aj) ?_ (NP.no (e:=_)));rintro _ w1 ⟨rfl,K1⟩;exact⟨rfl,K1⟩
theorem Q4(w:Wd)(a b:Int):(Bo .lss 3 false true (.int .i64 a) (.int .i64 b)).run prog w=.ok (.bool (decide (a<b))) w:=by simp[go_sem]
theorem H4(w:Wd)(a b:Int):(Bo .gtr 3 false true (.int .i64 a) (.int .i64 b)).run prog w=.ok (.bool (decide (b<a))) w:=by simp[go_sem]
theorem WC.Q5{lo b B:Nat}{w w0:Wd}{r σ:PR}{KK:VK}{e:EK}(s:By){l:LB}(c:WC w0 w lo b σ B)(hr:σ.bind (λb p=>aO (s::l) b p)=r)
  (hk:∀v w' σ',WC w0 w' lo b σ' B->σ'.bind (aO l)=r->KK v w'):Cf prog 45 #[ptr b,str s] w KK e:=by
 refine Dj (Sq s c.wx) ?_ (NP.no (e:=_));rintro v w' ⟨h,K⟩;refine hk v w' _ ⟨h,c.kl.trans K⟩ ?_;rw[←hr]
 cases σ with
 |ok b p=>
  simp only[PR.bind,aO]
  cases h:oI s b p<;>rfl
 |fail c=>rfl
 |bH=>rfl
section
variable {z lo:Nat}{w0:Wd}
theorem g78(hW:WH)(H:lj z){n:Nat}{t:Tr}{u:Va}(hz:tz t<=z+1)(hw:wf t 0=true)(hR:aP (Fo lo) w0 t (.P u)):WG 78 [u] lo w0 (tz t) (bK n (.expr t)):=by
 intro w b σ B r c hB hr aI;refine s78 ?_;unfold S78;obtain⟨n,hr⟩:=fM hr aI;have iw:=c.wx.no;unfold W0 at hB
 cases σ with
 |bH=>exact absurd rfl iw
 |fail cd=>
  have hr:PR.fail cd=r:=hr;subst hr;refine c.vW λH0=>?_;refine V1.bt (by simp[go_sem,Bo,H0]) ?_;exact If.t (c.more aj)
 |ok bf p=>
 refine c.E8 ?_;refine V1.bf (by simp[go_sem,Bo]) ?_;refine If.f ?_;have hp:=bE t;rcases bM hw with rfl|⟨k,nn,tx,l,rr,ks,gs,ps,bd,rfl⟩
 .have hu:u=.pointer none:=hR;subst hu;refine V1.bt au ?_;refine J1.go (Gd.tf ?_);refine V1.bt au ?_;refine J1.go (Gd.tf ?_);refine V1.bt au ?_;exact If.t (c.fail 2 aj hr λ_ w2 c=>c.more aj)
 obtain⟨q,line,lv,rv,kv,av,pv,bv,rfl,hq,a,hl,th,mS,Oe,Cn,hbd⟩:=hR;simp only[wf,and_eq_true]at hw;obtain⟨⟨⟨⟨⟨hn,f1⟩,f2⟩,f3⟩,f4⟩,f5⟩:=hw;have a1:=c.kl.at a hq;simp only[tz]at hz hB⊢;have p1:=bE l;have p2:=bE rr;have p3:=bE ks;have p4:=bE gs;have p5:=bE bd;refine V1.bf (by simp[go_sem,ptr]) ?_;refine J1.gd (c:=false) (decide (k<1)) (λ_ kx ed=>lF.i a1 (V1.i (Q4 _ _ _) ed)) ?_;refine V1.i (fI _ _ _) ?_;rw[Bool.false_or];refine J1.gd (c:=false) (decide (12<k)) (λ_ kx ed=>lF.i a1 (V1.i (H4 _ _ _) ed)) ?_;refine V1.i (fI _ _ _) ?_;by_cases hk:k<1\/12<k
 .rw[show(decide (k<1)||decide (12<k))=true by simpa using hk];have hr:(PR.ok bf p).bind (λ_ _=>.fail 2)=r:=by
   rw[←hr];simp only[PR.aL,bK,if_pos hk]
  exact If.t (c.fail 2 aj hr λ_ w2 c=>c.more aj)
 rw[show(decide (k<1)||decide (12<k))=false by
  rw[or_eq_false_iff];simp;omega]
 refine If.f ?_;simp only[PR.aL,bK,if_neg hk]at hr;refine c.part aj (σ:=.ok bf p) hr λ_ w2 σ2 c gO=>?_;clear hr a1;have hr:=gO;clear gO;refine c.lf a hq ?_;have jn:k=1\/k=2\/k=3\/k=4\/k=5\/k=6\/k=7\/k=8\/k=9\/k=10\/k=11\/k=12:=by omega
 clear hk;have EA:=vJ f1;have IC:=vJ f2;rcases jn with rfl|rfl|rfl|rfl|rfl|rfl|rfl|rfl|rfl|rfl|rfl|rfl<;>simp only[reduceIte,reduceEq]at hr<;>(repeat(first|refine V1.i (fG _ _ _) (If.t ?_)|refine V1.i (fG _ _ _) (If.f ?_)))
 .exact c.iR lO hr λ_ _ c=>c.more aj
 .exact c.iR ie hr λ_ _ c=>c.more aj
 .exact c.iR fE hr λ_ _ c=>c.more aj
 .simp only[hn,if_true]at hr;refine c.lf a hq ?_;refine O0 (hW.text _ _ hn) ?_ (NP.no (e:=_));rintro _ w3 ⟨rfl,K3⟩;replace c:=c.c0 K3;exact c.iR _ hr λ_ _ c=>c.more aj
 .refine c.lf a hq ?_;refine QF (YT hW _ _) ?_ (NP.no (e:=_));rintro _ w3 ⟨rfl,K3⟩;replace c:=c.c0 K3;exact c.iR _ hr λ_ _ c=>c.more aj
 .refine c.lf a hq ?_;exact c.iR _ hr λ_ _ c=>c.more aj
 . 
  simp only[EA,IC,Bool.and_self,if_true]at hr;refine c.lf a hq ?_;refine(Q0 (n:=n) H aj f1 hl).go E6 c (by unfold W0;omega) hr aI λ_ w3 σ3 c hr=>?_;refine c.lf a hq ?_;refine E7 (c124 hW f2 (c.kl.rep th)) ?_ (NP.no (e:=_));rintro _ w4 ⟨rfl,K4⟩;replace c:=c.c0 K4
  cases YU:ij rr with
  |true=>
   rcases bM f2 with rfl|⟨k2,n2,IP,l2,r2,oy,oz,ix,Q6,rfl⟩
   .cases YU
   simp only[YU,if_true]at hr;obtain⟨q2,iq,uE,uF,Cx,uG,A9,uH,rfl,ji,a2,_⟩:=th;refine If.t (c.part aj hr λ_ w5 σ5 c hr=>?_);refine c.Q5 [46] hr λ_ w6 σ6 c hr=>?_;refine c.lf a hq ?_;refine c.lf a2 ji ?_;exact c.iR IP hr λ_ _ c=>c.more aj
  |false=>
   have hr:σ3.bind (λb p=>(aO [[91]] b p).bind λb p=>(bK n (.expr rr) b p).bind λb p=>aO [[93]] b p)=r:=by
    rw[←hr];rcases bM f2 with rfl|⟨k2,n2,IP,l2,r2,oy,oz,ix,Q6,rfl⟩
    .rfl
    .simp only[YU,false_eq_true,if_false]
   refine If.f (c.put [91] hr λ_ w5 σ5 c hr=>?_);refine c.lf a hq ?_;refine(H.expr (n:=n) aj f2 th).go lh c (by unfold W0;omega) hr aI λ_ w6 σ6 c hr=>?_;exact c.iR [93] hr λ_ _ c=>c.more aj
 .simp only[EA,if_true]at hr;refine c.lf a hq ?_;refine(Q0 (n:=n) H aj f1 hl).go E6 c (by unfold W0;omega) hr aI λ_ w3 σ3 c hr=>?_;refine c.put [40] hr λ_ w4 σ4 c hr=>?_;refine c.lf a hq ?_;refine(YQ (n:=n) H aj f4 Oe (by have:=qV gs;omega)).go QJ c (by unfold W0;omega) hr aI λ_ w5 σ5 c hr=>?_;exact c.iR [41] hr λ_ _ c=>c.more aj
 .refine c.put bR hr λ_ w3 σ3 c hr=>?_;exact(c81 (n:=n) H aj f5 aj a hq Cn hbd).qU QD c (by unfold W0;omega) hr aI λ_ _ c=>c.more aj
 .simp only[IC,if_true]at hr;refine c.lf a hq ?_;refine c.qT tx hr λ_ w3 σ3 c hr=>?_;refine c.put [32] hr λ_ w4 σ4 c hr=>?_;have KD:aD [] w4 w4.drew:=(aD.refl _ _).drew;refine⟨λw'=>jH lo w0 w',(c.c0 KD).kl,xF.i (λ_ hw=>hw.at a hq) (xF.i (λ_ hw=>hw.at a hq) ?_)⟩;replace c:=c.c0 KD;refine Xw.i (.bool (!(nJ rr))) (λw' _=>?_) ?_
  .rcases bM f2 with rfl|⟨k2,n2,IP,l2,r2,oy,oz,ix,Q6,rfl⟩
   .obtain rfl:rv=.pointer none:=th;simp[go_sem,nJ]
   .obtain⟨q2,iq,uE,uF,Cx,uG,A9,uH,rfl,_⟩:=th;simp[go_sem,nJ,ptr]
  refine J1.gd (c:=true) (vD rr) (λhc kx ed=>?_) ?_
  .rcases bM f2 with rfl|⟨k2,n2,IP,l2,r2,oy,oz,ix,Q6,rfl⟩
   .cases hc
   .obtain⟨q2,iq,uE,uF,Cx,uG,A9,uH,rfl,ji,a2,_⟩:=id th;exact xF.i (λ_ hw=>hw.at a hq) (xF.i (λ_ hw=>hw.at a2 ji) (Xw.i _ (λw' _=>fG w' _ _) ed))
  refine Xw.i _ (λw' _=>gi w' _ _) ?_;rw[show(!nJ rr&&vD rr)=vD rr by
   rcases bM f2 with rfl|⟨k2,n2,IP,l2,r2,oy,oz,ix,Q6,rfl⟩
   .rfl
   .simp[nJ]]
  exact(AH (n:=n) H aj f2 th _).qU tg c (by unfold W0;omega) hr aI λ_ _ c=>c.more aj
 .simp only[EA,IC,Bool.and_self,if_true]at hr;exact(c127 (n:=n) H aj aj f1 f2 a hq hl th).qU QM c (by unfold W0;omega) hr aI λ_ _ c=>c.more aj
 .simp only[bF 1 ak f3,bF 1 ak f4,Bool.and_self,Bool.true_eq_false,if_false]at hr;exact(YS (n:=n) hW H aj aj f3 f4 a hq mS Oe).qU QO c (by unfold W0;omega) hr aI λ_ _ c=>c.more aj
end
end Go.Proofs.YtoddjlclpnoomaaGreatDoor

namespace Go.Proofs.YtoddjlclpnoomaaGreatDoor
open Go.Sh
set_option maxRecDepth 100000
section
variable {z lo:Nat}{w0:Wd}
theorem tj{r:PR}{f:By->Nat->PR}:r.bind (λb p=>(f b p).bind λb p=>.ok b p)=r.bind f:=by
 cases r with
 |ok b p=>
  simp only[PR.aL]
  cases f b p<;>rfl
 |fail c=>rfl
 |bH=>rfl
theorem AL{r:Tr}(hw:wf r 0=true)(n:Nat)(b:By)(p:Nat):bK n (.expr (eJ r)) b p=bK n (.expr r) b p:=by
 rcases bM hw with rfl|⟨k,nn,tx,l,rr,ks,gs,ps,bd,rfl⟩
 .cases n<;>rfl
 .rfl
theorem tq{σ rr:PR}{n:Nat}{q:By}{r:Tr}{f:By->Nat->PR}(hw:wf r 0=true)(hr:σ.bind (λb p=>(bK n (.more q (eJ r)) b p).bind f)=rr)(aI:rr≠.bH):
  ∃m,σ.bind (λb p=>(aO [q] b p).bind λb p=>(bK m (.expr r) b p).bind f)=rr:=by
 cases σ with
 |fail c=>exact⟨0,hr⟩
 |bH=>exact⟨0,hr⟩
 |ok b p=>
  cases n with
  |zero=>exact absurd hr.symm aI
  |succ m=>
   refine⟨m,?_⟩;rw[←hr];simp only[PR.aL];have e:bK (m+1) (.more q (eJ r)) b p=(aO [q] b p).bind λb p=>bK m (.expr (eJ r)) b p:=by
    rcases bM hw with rfl|⟨k,nn,tx,l,rr,ks,gs,ps,bd,rfl⟩<;>rfl
   rw[e,pbind];simp only[AL hw]
theorem nb{σ rr:PR}{n:Nat}{q:By}{l:Tr}(hr:σ.bind (λb p=>bK n (.within q l) b p)=rr)(aI:rr≠.bH):
 ∃m,σ.bind (λb p=>(aO [q] b p).bind λb p=>(bK m (.block l) b p).bind λb p=>aO [cT] b p)=rr:=fM hr aI
theorem YV{w:Wd}{b B:Nat}{σ r:PR}{f:By->Nat->PR}(c:WC w0 w lo b σ B)(hr:σ.bind (λb p=>(aO [[]] b p).bind f)=r):σ.bind f=r:=by
 cases σ with
 |fail c=>exact hr
 |bH=>exact hr
 |ok b p=>
  obtain⟨h,_⟩:=c.wx.len _ _ rfl;rw[←hr];simp[PR.bind,aO,oI,h]
theorem g24(H:lj z){n:Nat}{l:Tr}{u:Va}(hz:tz l<=z+1)(hw:wf l 3=true)(hR:aP (Fo lo) w0 l (.L u)):WG 24 [u] lo w0 (tz l) (bK n (.stmts l)):=by
 intro w b σ B r c hB hr aI;refine s24 ?_;unfold S24;unfold W0 at hB;have hlen:=qV l;have il:=bF 3 ak hw;obtain⟨a,cp,rfl⟩:=hR.oK il;have os:=hR.rowAt il;refine L1.i (λx w'=>∃i j l' m σ' B',x=.int .i64 (i:Nat)/\i+j=len l/\WC w0 w' lo b σ' B'/\B'+tz l'<=B+tz l/\wf l' 3=true/\tz l'<=z+1/\cI (Fo lo) w0 l' a i j/\σ'.bind (bK m (.stmts l'))=r) (λv _=>match v with|.int _ n=>(len l-n.toNat)|_=>0)
  ⟨0,len l,l,n,σ,B,rfl,by omega,c,by omega,hw,hz,os,hr⟩ ?_
 clear os hr c hw hz hR;rintro x w1 ⟨i,j,l',m,σ',B',rfl,tC,c,QZ,hw,hz,os,hr⟩;obtain⟨m,hr⟩:=fM hr aI;refine V1.i ah ?_;rcases dq hw with rfl|⟨x,l2,rfl,hx,gI⟩
 .have hj:j=0:=by
   rcases os with⟨_,h⟩|⟨q,_,h⟩
   .exact h
   .exact h
  refine V1.bf ay ?_;refine c.guard (If.f ?_);have hr:σ'.bind (λb p=>.ok b p)=r:=hr;have:r=σ':=by rw[←hr];cases σ'<;>rfl
  subst this;exact c.more aj
 rcases os with⟨h,_⟩|⟨q,rfl,k',u,rfl,hc,hf,rx,rl⟩
 .cases h
 have ol:cI (Fo lo) w0 l2 (some ⟨q,0,none⟩) (i+1) k':=.inr ⟨q,rfl,rl⟩;clear rl;simp only[tz]at hz QZ;have xt:=bE x;have wL:=bE l2;refine V1.bt ay ?_;refine c.guard ?_;have iw:=c.wx.no
 cases σ' with
 |bH=>exact absurd rfl iw
 |fail cd=>
  have hr:PR.fail cd=r:=hr;subst hr;exact If.f (c.more aj)
 |ok bf p=>
 refine If.t ?_;have hr:(PR.ok bf p).bind (λb p=>(bK m (.stmt x) b p).bind λb p=>(aO [[10]] b p).bind λb p=>bK m (.stmts l2) b p)=r:=hr;refine V1.i (uD aj) ?_;refine V1.i ((aC rfl) _ _ _ (c.kl.cell hc hf)) ?_;refine(H.stmt (n:=m) aj hx rx).go YB c (by unfold W0;omega) hr aI λ_ w3 σ3 c hr=>?_;refine c.put [10] hr λ_ w4 σ4 c hr=>?_;refine V1.i (cC _ _ _ _ _ _ aj aj) ?_;exact⟨⟨i+1,k',l2,m,σ4,_,by simp,by omega,c,by omega,gI,by omega,ol,hr⟩,by simp;omega⟩
def H5:Tr->Bool
 |.cons (.st ..) _=>true
 |_=>false
def Dr:Tr->Bool
 |.cons (.st k ..) _=>k==6
 |_=>false
theorem g80(H:lj z){n:Nat}{k:Int}{nm:By}{l r t a b:Tr}{u:Va}(hz:tz (.st k nm l r t a b)<=z+1)(hw:wf (.st k nm l r t a b) 2=true)(hR:aP (Fo lo) w0 (.st k nm l r t a b) (.P u)):WG 80 [u] lo w0 (tz r+tz a+tz b+1) (bK n (.branch r a b)):=by
 intro w bl σ B rr c hB hr aI;refine s80 ?_;unfold S80;unfold W0 at hB;obtain⟨n,hr⟩:=fM hr aI;obtain⟨q,line,lv,rv,tv,av,bv,rfl,hq,a0,_,hRr,_,hRa,YW⟩:=hR;simp only[wf,and_eq_true]at hw;obtain⟨⟨⟨⟨_,f2⟩,_⟩,f4⟩,f5⟩:=hw;simp only[tz]at hz;simp only[bK]at hr;obtain⟨n1,hr⟩:=tq f2 hr aI;refine c.put [32] hr λ_ w1 σ1 c hr=>?_;refine c.lf a0 hq ?_;refine(H.expr (n:=n1) aj f2 hRr).go lh c (by unfold W0;omega) hr aI λ_ w2 σ2 c hr=>?_;refine c.put [32,116,104,101,110] hr λ_ w3 σ3 c hr=>?_;refine c.lf a0 hq ?_;refine(E9 (n:=n) H aj f4 hRa).go td c (by unfold W0;omega) hr aI λ_ w4 σ4 c hr=>?_;refine c.lf a0 hq ?_;have il:=bF 3 ak f5;obtain⟨ba,bc,rfl⟩:=YW.oK il;have og:=YW.rowAt il
 refine V1.i (v:=.int .i64 ((len b:Nat))) (w':=w4) au ?_;refine V1.i (fG _ _ _) ?_;have H6:(((len b:Nat):Int)==1)=true->∃x q u,b=.cons x .nil/\ba=some ⟨q,0,none⟩/\w0.cell? ⟨q,0,none⟩=some u/\Fo lo q/\aP (Fo lo) w0 x (.P u)/\wf x 2=true/\len b=1:=by
  intro h;rcases dq f5 with rfl|⟨x,l2,rfl,hx,gI⟩
  .simp[len]at h
  rcases dq gI with rfl|⟨x2,l3,rfl,Uz,GQ⟩
  .rcases og with⟨h,_⟩|⟨q,rfl,k',u,_,hc,hf,rx,rl⟩
   .cases h
   exact⟨x,q,u,rfl,rfl,hc,hf,rx,hx,rfl⟩
  .simp[len]at h
   omega
 refine J1.gd (c:=true) (H5 b) (λh kx ed=>?_) ?_
 .obtain⟨x,q2,u,rfl,rfl,hc,hf,rx,hx,e1⟩:=H6 h;refine c.lf a0 hq ?_;refine V1.i (pG _ aj) ?_;refine V1.i ((aC rfl) _ _ _ (c.kl.cell hc hf)) ?_;rcases dC hx with rfl|⟨k,nm,l,r,t,a,b,rfl⟩
  .obtain rfl:u=.pointer none:=rx;exact V1.bf au ed
  .obtain⟨q2,line,lv,rv,tv,av,bv,rfl,_⟩:=rx;exact V1.bt (by simp[go_sem,ptr]) ed
 refine V1.i (gi _ _ _) ?_;refine J1.gd (c:=true) (Dr b) (λh kx ed=>?_) ?_
 .rw[and_eq_true]at h;obtain⟨x,q2,u,rfl,rfl,hc,hf,rx,hx,e1⟩:=H6 h.1;refine c.lf a0 hq ?_;refine V1.i (pG _ aj) ?_;refine V1.i ((aC rfl) _ _ _ (c.kl.cell hc hf)) ?_;rcases dC hx with rfl|⟨k,nm,l,r,t,a,b,rfl⟩
  .cases h.2
  .obtain⟨q2,line,lv,rv,tv,av,bv,rfl,ji,a2,_⟩:=rx;exact c.lf a2 ji (V1.i (fG _ _ _) ed)
 refine V1.i (gi _ _ _) ?_
 cases h6:(((len b:Nat):Int)==1&&H5 b)&&Dr b with
 |true=>
  rw[and_eq_true,and_eq_true]at h6;obtain⟨x,q2,u,rfl,rfl,hc,hf,rx,hx,e1⟩:=H6 h6.1.1;rcases dC hx with rfl|⟨k,nm,l,r2,t2,a2,b2,rfl⟩
  .cases h6.2
  have hk:k=6:=by simpa[Dr]using h6.2
  subst hk;simp only[if_true]at hr;simp only[tz]at hz hB;have p1:=bE l;have p2:=bE t2;refine If.t (c.part aj hr λ_ w5 σ5 c hr=>?_);refine c.put eR hr λ_ w6 σ6 c hr=>?_;refine c.lf a0 hq ?_;refine V1.i (pG _ aj) ?_;refine V1.i ((aC rfl) _ _ _ (c.kl.cell hc hf)) ?_;exact(H.branch (n:=n) (by simp only[tz];omega) hx rx).qU QC c (by unfold W0;omega) hr aI λ_ _ c=>c.more (by simp only[tz];omega)
 |false=>
  refine If.f (J0.go ?_);refine c.lf a0 hq ?_;refine V1.i (v:=.int .i64 ((len b:Nat))) (w':=w4) au ?_;refine V1.i (H4 _ _ _) ?_;rcases dq f5 with rfl|⟨x,l2,rfl,hx,gI⟩
  .exact If.f (c.iR cT hr λ_ _ c=>c.more aj)
  refine If.t' (by simp[len]) ?_;have hr:σ4.bind (λb p=>(aO [eu] b p).bind λb p=>(bK n (.block (.cons x l2)) b p).bind λb p=>aO [cT] b p)=rr:=by
   rw[←hr];rcases dq gI with rfl|⟨x2,l3,rfl,Uz,GQ⟩
   .rcases dC hx with rfl|⟨k,nm,l,r2,t2,a2,b2,rfl⟩
    .rfl
    .have hk:k≠6:=by simpa[len,H5,Dr]using h6
     simp only[if_neg hk]
   .rcases dC hx with rfl|⟨k,nm,l,r2,t2,a2,b2,rfl⟩<;>rfl
  refine c.put eu hr λ_ w5 σ5 c hr=>?_;refine c.lf a0 hq ?_;refine(E9 (n:=n) H aj f5 YW).go td c (by unfold W0;omega) hr aI λ_ w6 σ6 c hr=>?_;exact c.iR cT hr λ_ _ c=>c.more aj
end
end Go.Proofs.YtoddjlclpnoomaaGreatDoor


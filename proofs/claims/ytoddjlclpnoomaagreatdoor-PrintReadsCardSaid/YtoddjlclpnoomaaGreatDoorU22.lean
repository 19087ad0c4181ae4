import Derived.Test.YtoddjlclpnoomaaGreatDoorU21
set_option linter.unusedVariables false
set_option linter.unusedSimpArgs false
set_option maxRecDepth 100000
open Go.Proofs.Tryz
open List (map_cons length_cons length_nil map_nil sum_cons sum_nil)
open Nat (le_refl)
open Int (reduceEq)
open Bool (and_eq_true false_eq_true)
namespace Go.Proofs.YtoddjlclpnoomaaGreatDoor
open Go.Sh
theorem aU.oc{F:Nat->Prop}{w:Wd}{l:Tr}{v:Va}(h:aU F w l (.L v))(hl:dG l=true):∃a c,v=.slice a (len l) c:=by
 cases l with
 |nil=>rcases h with rfl|⟨b,c,rfl⟩<;>exact⟨_,_,rfl⟩
 |cons x t=>
  obtain⟨b,n,c,u,rfl,h1,h2,h3,h4,h5⟩:=h;rw[tE t b 1 n hl h5];exact⟨_,_,rfl⟩
 |hole=>cases hl
 |ex=>cases hl
 |st=>cases hl
theorem Lb(a b:Nat):((a:Int)==(b:Int))=decide (a=b):=by
 by_cases h:a=b
 .subst h;simp
 .simp[h];omega
def cE(F:Nat->Prop)(w:Wd)(t:Tr)(a:Option Addr)(i k:Nat):Prop:=(t=.nil/\k=0)\/∃q,a=some ⟨q,0,none⟩/\aU F w t (.E q i k)
theorem cE.tl{F:Nat->Prop}{w:Wd}{x t:Tr}{a:Option Addr}{i k:Nat}(h:cE F w (.cons x t) a i (k+1)):cE F w t a (i+1) k:=by
 rcases h with⟨h,_⟩|⟨q,e,m,u,e2,_,_,_,h⟩
 .cases h
 .obtain rfl:k=m:=by omega
  exact .inr ⟨q,e,h⟩
theorem aU.rowAt{F:Nat->Prop}{w:Wd}{l:Tr}{a:Option Addr}{n c:Nat}(h:aU F w l (.L (.slice a n c)))(hl:dG l=true):cE F w l a 0 n:=by
 rcases h.row (by rintro rfl;cases hl)with⟨a',c',e,rfl⟩|⟨q,n',c',e,h1,_⟩
 .injection e with e1 e2 e3;exact .inl ⟨rfl,e2⟩
 .injection e with e1 e2 e3;subst e1;subst e2
  exact .inr ⟨q,rfl,h1⟩
theorem KO.row{b:Nat}{w w':Wd}{t:Tr}{a:Option Addr}{i k:Nat}{buf:By}{parts:Nat}(h:KO b w w')(ht:TX w b buf parts)(hr:cE (FO b w) w t a i k):cE (FO b w') w' t a i k:=by
 rcases hr with hr|⟨q,e,hr⟩
 .exact .inl hr
 .exact .inr ⟨q,e,h.rep ht hr⟩
theorem pd{r1:PR}{f:By->Nat->PR}{r:PR}(h:r1.bind f=r):∃G,G=f/\r1.bind G=r:=⟨f,rfl,h⟩
theorem Ta{n:Nat}(H:∀m,m<=n->jd m){w:Wd}{b:Nat}{buf:By}{parts:Nat}{k nn:Int}{text:By}{l rr ks gs:Tr}{ps:LB}{body:Tr}{v:Va}{r:PR}(ht:TX w b buf parts)(re:aU (FO b w) w (.ex k nn text l rr ks gs ps body) (.P v))(lX:dG ks=true)(Lc:dG gs=true)
  (hr:(if len ks=len gs then(aM [[123]] buf parts).bind λb p=>(bJ n (.items ks gs true) b p).bind λb p=>aM [[125]] b p else .fail 2)=r) (aI:r≠.bH):
  Calls prog 118 #[ptr b,v] w (aZ (λ_=>cK w b r) (cJ w b r)):=by
 refine Px ?_;unfold Hj;have kk:=KO.refl b w;obtain⟨c,line,lv,rv,kv,av,pv,bv,rfl,qe,ae,_,_,rk,ra,_⟩:=re;obtain⟨ka,kc,rfl⟩:=rk.oc lX;obtain⟨aa,ac,rfl⟩:=ra.oc Lc;have K1:aD [] w w.drew:=(aD.refl _ _).drew;have kS:=KO.aA (b:=b) K1;obtain⟨ae,qe⟩:=kS.at ht ae qe;replace rk:=kS.rep ht rk;replace ra:=kS.rep ht ra;replace kk:=kk.trans kS ht.ab;replace ht:=ht.aA K1;clear kS;refine⟨λw'=>At w' c [.int .i64 k,.int .i64 line,.int .i64 nn,str text,lv,rv,.slice ka (len ks) kc,.slice aa (len gs) ac,pv,bv],ae,?_⟩;refine⟨_,λw' _=>Nc.p _ w',?_⟩;refine Xw.i _ (λw' _=>by simp[go_sem]<;>trivial) ?_;refine Xw.i _ (λw' hw=>(aC rfl) _ _ _ (by rw[hw.cell];rfl)) ?_;refine Xw.i _ (λw' _=>by simp[go_sem]<;>trivial) ?_
 refine⟨_,λw' _=>Nc.p _ w',?_⟩;refine Xw.i _ (λw' _=>by simp[go_sem]<;>trivial) ?_;refine Xw.i _ (λw' hw=>(aC rfl) _ _ _ (by rw[hw.cell];rfl)) ?_;refine Xw.i _ (λw' _=>by simp[go_sem]<;>trivial) ?_;refine Xw.i (.bool (decide (len ks=len gs))) (λw' _=>by rw[mR];congr 2;exact Lb _ _) ?_;by_cases hlen:len ks=len gs
 rotate_left
 .rw[if_neg hlen]at hr;rw[show decide (len ks=len gs)=false by simpa using hlen];refine gX (c20 _ false 2) ?_ ?_
  .rintro _ w3 ⟨jS,_⟩
   cases jS
  .rintro c w3 ⟨_,rfl,rfl⟩;subst hr;exact⟨rfl,kk,ht.ab,ht.gl⟩
 rw[if_pos hlen]at hr;rw[show decide (len ks=len gs)=true by simpa using hlen];refine gX (c20 _ true 2) ?_ ?_;rotate_left
 .rintro c w3 ⟨jS,_⟩
  cases jS
 rintro _ w3 ⟨_,rfl⟩;have ok:=rk.rowAt lX;have og:=ra.rowAt Lc;rw[hlen]at ok;refine V1.aG ah λbs ws NS=>?_;have fS:=ht.eR NS.aA NS.ge;have aS:At ws bs (List.map str [[123]]):=NS.at_;have kS:=KO.aA (b:=b) NS.aA;obtain⟨ae,qe⟩:=kS.at ht ae qe;replace ok:=kS.row ht ok;replace og:=kS.row ht og;replace kk:=kk.trans kS ht.ab;replace ht:=ht.aA NS.aA;have cH:=fj ht aS fS ak rfl (PR.aL hr aI);refine dk cH ?_ (λc w' h=>cJ.up h hr kk ht);clear cH;rintro _ wP hP;obtain⟨cQ,bA,eP,bS,kP⟩:=cK.out hP;have je:=(bT.aM _ _ _ _ _ eP).2;have hA:=bI eP;simp only[map_cons,map_nil,sum_cons,sum_nil,length_cons,length_nil]at hA;rw[eP,PR.aJ]at hr;have La:=kP.at ht ae qe;clear ae qe
 obtain⟨ae,qe⟩:=La;replace ok:=kP.row ht ok;replace og:=kP.row ht og;replace kk:=kk.trans kP ht.ab;replace ht:=bS;clear hP eP bS kP;clear aS fS NS kS;refine Up.i (Nc.p _ _) ?_;refine V1.i ah ?_;refine V1.load (aC rfl) (ae) rfl ?_;refine V1.i ah ?_
 refine L1.i (λv w'=>∃i j m xL rM buf parts,v=.int .i64 (i:Nat)/\i+j=len gs/\i<=parts/\m<=n/\TX w' b buf parts/\At w' c [.int .i64 k,.int .i64 line,.int .i64 nn,str text,lv,rv,.slice ka (len ks) kc,.slice aa (len gs) ac,pv,bv]/\FO b w' c/\cE (FO b w') w' xL ka i j/\cE (FO b w') w' rM aa i j/\KO b w w'/\(bJ m (.items xL rM (decide (i=0))) buf parts).bind (λb p=>aM [[125]] b p)=r) (λv w'=>match v with|.int _ n=>(len gs-n.toNat)|_=>0) ⟨0,len gs,n,ks,gs,_,_,rfl,by omega,by omega,le_refl _,ht,ae,qe,ok,og,kk,hr⟩ ?_;clear ht ae qe ok og kk hr rk ra;rintro v w1 ⟨i,j,m,xL,rM,buf,parts,rfl,rH,Cu,hm,ht,ae,qe,ok,og,kk,hr⟩
 cases m with
 |zero=>simp only[bJ,PR.bind]at hr;exact absurd hr.symm aI
 |succ m=>
  cases rM with
  |nil=>
   have hj:j=0:=by
    rcases og with⟨_,h⟩|⟨q,_,h⟩
    .exact h
    .exact h
   subst hj;simp only[bJ,PR.aJ]at hr;refine V1.bf ax ?_;refine If.f ?_;refine V1.aG ah λbs ws NS=>?_;have fS:=ht.eR NS.aA NS.ge;have aS:At ws bs (List.map str [[125]]):=NS.at_;have kS:=KO.aA (b:=b) NS.aA;obtain⟨ae,qe⟩:=kS.at ht ae qe;replace ok:=kS.row ht ok;replace og:=kS.row ht og;replace kk:=kk.trans kS ht.ab;replace ht:=ht.aA NS.aA;have cH:=fj ht aS fS ak hr aI;refine dk cH (λv w' h=>cK.pre h kk ht) (λc w' h=>cJ.pre h kk ht)
  |cons x l=>
   rcases og with⟨h,_⟩|⟨q,rfl,j',u,rfl,hc,hf,rx,rl⟩
   .cases h
   cases xL with
   |cons kx kl=>
    have iC:=ok;rcases ok with⟨h,_⟩|⟨q2,rfl,j2,u2,e2,lM,F6,rk,rkl⟩
    .cases h
    obtain rfl:j'=j2:=by omega
    clear lM F6 rk rkl;have fK:cE (FO b w1) w1 l (some ⟨q,0,none⟩) (i+1) j':=.inr ⟨q,rfl,rl⟩;have fA:=ht.vD;simp only[bJ,PR.bind_assoc]at hr;obtain⟨G,hG,hr⟩:=pd hr;refine V1.bt ax ?_;refine If.t ?_;refine V1.i (lR aj) ?_;refine V1.i ((aC rfl) _ _ _ hc) ?_;clear rl hc hf;refine J0.cut (λw'=>∃sP ig,i<=ig/\TX w' b sP ig/\At w' c [.int .i64 k,.int .i64 line,.int .i64 nn,str text,lv,rv,.slice (some ⟨q2,0,none⟩) (len ks) kc,.slice (some ⟨q,0,none⟩) (len gs) ac,pv,bv]/\FO b w' c/\cE (FO b w') w' (.cons kx kl) (some ⟨q2,0,none⟩) i (j'+1)/\cE (FO b w') w' l (some ⟨q,0,none⟩) (i+1) j'/\aU (FO b w') w' x (.P u)/\KO b w w'/\G sP ig=r) ?_ ?_
    .rcases Nat.eq_zero_or_pos i with rfl|h0
     .refine V1.i ah ?_;refine If.f ?_;simp only[decide_true,if_true,aM,PR.aJ]at hr;exact⟨_,_,by omega,ht,ae,qe,iC,fK,rx,kk,hr⟩
     .rw[show decide (i=0)=false by simp;omega]at hr;simp only[false_eq_true,if_false]at hr;refine V1.bt ax ?_;refine If.t ?_;refine V1.aG ah λbs ws NS=>?_;have fS:=ht.eR NS.aA NS.ge;have aS:At ws bs (List.map str [[44,32]]):=NS.at_;have kS:=KO.aA (b:=b) NS.aA;obtain⟨ae,qe⟩:=kS.at ht ae qe;replace iC:=kS.row ht iC;replace fK:=kS.row ht fK;replace rx:=kS.rep ht rx;replace kk:=kk.trans kS ht.ab;replace ht:=ht.aA NS.aA;have cH:=fj ht aS fS ak rfl (PR.aL hr aI);refine dk cH ?_ (λc w' h=>cJ.up h hr kk ht);clear cH;rintro _ wP hP;obtain⟨cQ,bA,eP,bS,kP⟩:=cK.out hP;have je:=(bT.aM _ _ _ _ _ eP).2;have hA:=bI eP
      simp only[map_cons,map_nil,sum_cons,sum_nil,length_cons,length_nil]at hA;rw[eP,PR.aJ]at hr;obtain⟨ae,qe⟩:=kP.at ht ae qe;replace iC:=kP.row ht iC;replace fK:=kP.row ht fK;replace rx:=kP.rep ht rx;replace kk:=kk.trans kP ht.ab;replace ht:=bS;clear hP eP bS kP;clear aS fS NS kS;exact⟨_,_,by omega,ht,ae,qe,iC,fK,rx,kk,hr⟩
    clear hr ht ae qe iC fK rx kk Cu fA;rintro w2 ⟨sP,ig,Cu,ht,ae,qe,iC,fK,rx,kk,hr⟩;subst hG;dsimp only at hr;obtain⟨G2,Xa,hr⟩:=pd hr;refine J0.cut (λw'=>∃EL pf,i<=pf/\TX w' b EL pf/\At w' c [.int .i64 k,.int .i64 line,.int .i64 nn,str text,lv,rv,.slice (some ⟨q2,0,none⟩) (len ks) kc,.slice (some ⟨q,0,none⟩) (len gs) ac,pv,bv]/\FO b w' c/\cE (FO b w') w' (.cons kx kl) (some ⟨q2,0,none⟩) i (j'+1)/\cE (FO b w') w' l (some ⟨q,0,none⟩) (i+1) j'/\aU (FO b w') w' x (.P u)/\KO b w w'/\G2 EL pf=r) ?_ ?_
    .clear Xa;refine Up.i (Nc.p _ _) ?_;refine V1.i ah ?_;refine V1.load (aC rfl) (ae) rfl ?_;have EM:∃u2,w2.cell? ⟨q2,i,none⟩=some u2/\aU (FO b w2) w2 kx (.P u2):=by
      rcases iC with⟨h,_⟩|⟨q3,e3,m3,u3,_,h1,_,h2,_⟩
      .cases h
      .injection e3 with e3;injection e3 with e3;subst e3;exact⟨u3,h1,h2⟩
     obtain⟨u2,lM,rk⟩:=EM;refine V1.i (lR aj) ?_;refine V1.i ((aC rfl) _ _ _ lM) ?_;clear lM
     cases kx with
     |nil=>
      obtain rfl:u2=.pointer none:=rk;refine wg (EG (F:=FO b w2) (e:=.nil) rfl rfl ht.gl) ?_ (NP.no (e:=_));rintro _ w3 ⟨rfl,K3⟩;have kS:=KO.aA (b:=b) K3;obtain⟨ae,qe⟩:=kS.at ht ae qe;replace iC:=kS.row ht iC;replace fK:=kS.row ht fK;replace rx:=kS.rep ht rx;replace kk:=kk.trans kS ht.ab;replace ht:=ht.aA K3;clear kS;refine If.f ?_;refine V1.i ah ?_;refine If.f ?_;exact⟨_,_,Cu,ht,ae,qe,iC,fK,rx,kk,hr⟩
     |ex k1 n1 t1 l1 r1 OB Gw OC b1=>
      refine wg (EG rk rfl ht.gl) ?_ (NP.no (e:=_));rintro _ w3 ⟨rfl,K3⟩;have kS:=KO.aA (b:=b) K3;obtain⟨ae,qe⟩:=kS.at ht ae qe;replace iC:=kS.row ht iC;replace fK:=kS.row ht fK;replace rx:=kS.rep ht rx;replace rk:=kS.rep ht rk;replace kk:=kk.trans kS ht.ab;replace ht:=ht.aA K3;clear kS;dsimp only at hr
      cases hq:gI (.ex k1 n1 t1 l1 r1 OB Gw OC b1)with
      |true=>
       rw[hq,if_pos rfl]at hr;simp only[PR.bind_assoc]at hr;refine If.t ?_;refine uz (F4 ht rfl) ?_ (λc w' h=>cJ.up h hr kk ht);rintro _ wP hP;obtain⟨cQ,bA,eP,bS,kP⟩:=cK.out hP;have hA:=bT.part _ _ eP;rw[eP,PR.aJ]at hr;obtain⟨ae,qe⟩:=kP.at ht ae qe;replace iC:=kP.row ht iC;replace fK:=kP.row ht fK;replace rx:=kP.rep ht rx;replace rk:=kP.rep ht rk;replace kk:=kk.trans kP ht.ab;replace ht:=bS;clear hP eP bS kP;have hu:∃c2 x1 x2 x3 x4 x5 x6 x7,u2=ptr c2/\At wP c2 [.int .i64 k1,.int .i64 x1,.int .i64 n1,str t1,x2,x3,x4,x5,x6,x7]:=by
        obtain⟨c2,x1,x2,x3,x4,x5,x6,x7,pN,q2,oa,_⟩:=rk;exact⟨c2,x1,x2,x3,x4,x5,x6,x7,pN,oa⟩
       obtain⟨c2,x1,x2,x3,x4,x5,x6,x7,pN,oa⟩:=hu;rw[pN];refine Up.i (Nc.p _ _) ?_;refine V1.i ah ?_;refine V1.load (aC rfl) (oa) rfl ?_;refine V1.aG ah λbs ws NS=>?_;have fS:=ht.eR NS.aA NS.ge;have aS:At ws bs (List.map str [t1,[32,61,32]]):=NS.at_;have kS:=KO.aA (b:=b) NS.aA;obtain⟨ae,qe⟩:=kS.at ht ae qe;replace iC:=kS.row ht iC;replace fK:=kS.row ht fK;replace rx:=kS.rep ht rx;replace kk:=kk.trans kS ht.ab;replace ht:=ht.aA NS.aA;have cH:=fj ht aS fS ak rfl (PR.aL hr aI);refine dk cH ?_ (λc w' h=>cJ.up h hr kk ht);clear cH;rintro _ wP hP;obtain⟨cQ,bA,eP,bS,kP⟩:=cK.out hP;have je:=(bT.aM _ _ _ _ _ eP).2;have hA:=bI eP
       simp only[map_cons,map_nil,sum_cons,sum_nil,length_cons,length_nil]at hA;rw[eP,PR.aJ]at hr;obtain⟨ae,qe⟩:=kP.at ht ae qe;replace iC:=kP.row ht iC;replace fK:=kP.row ht fK;replace rx:=kP.rep ht rx;replace kk:=kk.trans kP ht.ab;replace ht:=bS;clear hP eP bS kP;clear aS fS NS kS;exact⟨_,_,by omega,ht,ae,qe,iC,fK,rx,kk,hr⟩
      |false=>
       rw[hq,if_neg Bool.false_ne_true]at hr;simp only[PR.bind_assoc]at hr;refine If.f ?_;have hu:∃c2,u2=ptr c2:=by
        obtain⟨c2,x1,x2,x3,x4,x5,x6,x7,pN,q2,oa,_⟩:=rk;exact⟨c2,pN⟩
       obtain⟨c2,pN⟩:=hu;refine V1.bt (by rw[pN];simp[go_sem,ptr];first|done|rfl|exact⟨rfl,rfl⟩) ?_;refine If.t ?_;refine V1.aG ah λbs ws NS=>?_;have fS:=ht.eR NS.aA NS.ge;have aS:At ws bs (List.map str [[91]]):=NS.at_;have kS:=KO.aA (b:=b) NS.aA;obtain⟨ae,qe⟩:=kS.at ht ae qe;replace iC:=kS.row ht iC;replace fK:=kS.row ht fK;replace rx:=kS.rep ht rx;replace rk:=kS.rep ht rk;replace kk:=kk.trans kS ht.ab;replace ht:=ht.aA NS.aA;have cH:=fj ht aS fS ak rfl (PR.aL hr aI);refine dk cH ?_ (λc w' h=>cJ.up h hr kk ht);clear cH;rintro _ wP hP;obtain⟨cQ,bA,eP,bS,kP⟩:=cK.out hP;have je:=(bT.aM _ _ _ _ _ eP).2;have hA:=bI eP
       simp only[map_cons,map_nil,sum_cons,sum_nil,length_cons,length_nil]at hA;rw[eP,PR.aJ]at hr;obtain⟨ae,qe⟩:=kP.at ht ae qe;replace iC:=kP.row ht iC;replace fK:=kP.row ht fK;replace rx:=kP.rep ht rx;replace rk:=kP.rep ht rk;replace kk:=kk.trans kP ht.ab;replace ht:=bS;clear hP eP bS kP;clear aS fS NS kS;have hK:=(H m aj).expr ht rk rfl (PR.aL hr aI);refine oH hK ?_ (λc w' h=>cJ.up h hr kk ht);clear hK;rintro _ wP hP;obtain⟨cQ,bA,eP,bS,kP⟩:=cK.out hP;have hA:=cM _ _ _ _ _ _ eP;rw[eP,PR.aJ]at hr;obtain⟨ae,qe⟩:=kP.at ht ae qe;replace iC:=kP.row ht iC;replace fK:=kP.row ht fK;replace rx:=kP.rep ht rx;replace rk:=kP.rep ht rk;replace kk:=kk.trans kP ht.ab
       replace ht:=bS;clear hP eP bS kP;refine V1.aG ah λbs ws NS=>?_;have fS:=ht.eR NS.aA NS.ge;have aS:At ws bs (List.map str [[93,32,61,32]]):=NS.at_;have kS:=KO.aA (b:=b) NS.aA;obtain⟨ae,qe⟩:=kS.at ht ae qe;replace iC:=kS.row ht iC;replace fK:=kS.row ht fK;replace rx:=kS.rep ht rx;replace rk:=kS.rep ht rk;replace kk:=kk.trans kS ht.ab;replace ht:=ht.aA NS.aA;have cH:=fj ht aS fS ak rfl (PR.aL hr aI);refine dk cH ?_ (λc w' h=>cJ.up h hr kk ht);clear cH;rintro _ wP hP;obtain⟨cQ,bA,eP,bS,kP⟩:=cK.out hP;have je:=(bT.aM _ _ _ _ _ eP).2;have hA:=bI eP;simp only[map_cons,map_nil,sum_cons,sum_nil,length_cons,length_nil]at hA;rw[eP,PR.aJ]at hr
       obtain⟨ae,qe⟩:=kP.at ht ae qe;replace iC:=kP.row ht iC;replace fK:=kP.row ht fK;replace rx:=kP.rep ht rx;replace rk:=kP.rep ht rk;replace kk:=kk.trans kP ht.ab;replace ht:=bS;clear hP eP bS kP;clear aS fS NS kS;exact⟨_,_,by omega,ht,ae,qe,iC,fK,rx,kk,hr⟩
     |hole=>simp only[PR.bind]at hr;exact absurd hr.symm aI
     |cons=>simp only[PR.bind]at hr;exact absurd hr.symm aI
     |st=>simp only[PR.bind]at hr;exact absurd hr.symm aI
    clear hr ht ae qe iC fK rx kk Cu;rintro w3 ⟨EL,pf,Cu,ht,ae,qe,iC,fK,rx,kk,hr⟩;subst Xa;dsimp only at hr;have hK:=(H m aj).expr ht rx rfl (PR.aL hr aI);refine oH hK ?_ (λc w' h=>cJ.up h hr kk ht);clear hK;rintro _ wP hP;obtain⟨cQ,bA,eP,bS,kP⟩:=cK.out hP;have hA:=nP eP;rw[eP,PR.aJ]at hr;obtain⟨ae,qe⟩:=kP.at ht ae qe;replace iC:=kP.row ht iC;replace fK:=kP.row ht fK;replace rx:=kP.rep ht rx;replace kk:=kk.trans kP ht.ab;replace ht:=bS;clear hP eP bS kP;have fA:=ht.vD;refine V1.i (cC _ _ _ _ _ _ aj aj) ?_;have hd:decide (i+1=0)=false:=by simp
    exact⟨⟨i+1,j',m,kl,l,_,_,by simp,by omega,by omega,by omega,ht,ae,qe,iC.tl,fK,kk,by rw[hd];exact hr⟩,by simp;omega⟩
   |nil=>simp only[bJ,PR.bind]at hr;exact absurd hr.symm aI
   |hole=>simp only[bJ,PR.bind]at hr;exact absurd hr.symm aI
   |ex=>simp only[bJ,PR.bind]at hr;exact absurd hr.symm aI
   |st=>simp only[bJ,PR.bind]at hr;exact absurd hr.symm aI
  |hole=>simp only[bJ,PR.bind]at hr;exact absurd hr.symm aI
  |ex=>rcases og with⟨h,_⟩|⟨q,_,h⟩;cases h;exact h.elim
  |st=>rcases og with⟨h,_⟩|⟨q,_,h⟩;cases h;exact h.elim
theorem aU.EN{F:Nat->Prop}{w:Wd}{l:Tr}{v:Va}(h:aU F w l (.L v))(hh:l≠.hole):∃a n c,v=.slice a n c/\cE F w l a 0 n:=by
 rcases h.row hh with⟨a',c',rfl,rfl⟩|⟨q,n',c',rfl,h1,_⟩
 .exact⟨_,_,_,rfl,.inl ⟨rfl,rfl⟩⟩
 .exact⟨_,_,_,rfl,.inr ⟨q,rfl,h1⟩⟩
theorem uW{n:Nat}{f:Bool}{b:By}{p:Nat}:bJ n (.args .hole f) b p=.bH:=by
 cases n<;>rfl
theorem p63{n:Nat}(H:∀m,m<=n->jd m){w:Wd}{b:Nat}{buf:By}{parts:Nat}{e:Tr}{v:Va}{r:PR}(ht:TX w b buf parts)(re:aU (FO b w) w e (.P v))(hr:bJ (n+1) (.expr e) buf parts=r)(aI:r≠.bH):
  Calls prog 63 #[ptr b,v] w (aZ (λ_=>cK w b r) (cJ w b r)):=by
 refine YB ?_;unfold VV;have kk:=KO.refl b w;have Hn:=H n (le_refl _);simp only[bJ]at hr
 cases e with
 |nil=>
  dsimp only at hr;obtain rfl:v=.pointer none:=re;refine V1.i ah ?_;refine J1.go (Gd.ft ?_);refine V1.i ah ?_;refine J1.go (Gd.ft ?_);refine V1.i ah ?_;refine gX (c20 w false 2) ?_ ?_
  .rintro _ w3 ⟨jS,_⟩
   cases jS
  .rintro c w3 ⟨_,rfl,rfl⟩;subst hr;exact⟨rfl,kk,ht.ab,ht.gl⟩
 |ex k nn text l rr ks gs ps body=>
  dsimp only at hr;obtain⟨c,line,lv,rv,kv,av,pv,bv,rfl,qe,ae,rl,rq,rk,ra,sp,rb⟩:=re;refine V1.bt (by simp[go_sem,ptr];first|done|rfl|exact⟨rfl,rfl⟩) ?_;refine J1.go (Gd.tt ?_);refine Up.i (Nc.p _ _) ?_;refine V1.i ah ?_;refine V1.load (aC rfl) (ae) rfl ?_;refine V1.i (v:=.bool (decide (1<=k))) (w':=w) am ?_;refine V1.i (v:=.bool (decide (1<=k))) (w':=w) am ?_;refine J1.gd (decide (k<=12)) (λh kx dO=>?_) ?_
  .refine Up.i (Nc.p _ _) ?_;refine V1.i ah ?_;refine V1.load (aC rfl) (ae) rfl ?_;refine V1.i (v:=.bool (decide (k<=12))) (w':=w) am ?_;exact dO
  refine V1.i (fP _ _ _) ?_;by_cases hk:k<1\/12<k
  .rw[if_pos hk]at hr;have hb:(decide (1<=k)&&decide (k<=12))=false:=by
    rw[Bool.and_eq_false_iff];simp;omega
   rw[hb];refine gX (c20 w false 2) ?_ ?_
   .rintro _ w3 ⟨jS,_⟩
    cases jS
   .rintro c w3 ⟨_,rfl,rfl⟩;subst hr;exact⟨rfl,kk,ht.ab,ht.gl⟩
  rw[if_neg hk]at hr;have hb:(decide (1<=k)&&decide (k<=12))=true:=by
   rw[and_eq_true];simp;omega
  rw[hb];refine gX (c20 w true 2) ?_ ?_;rotate_left
  .rintro c w3 ⟨jS,_⟩
   cases jS
  rintro _ w3 ⟨_,rfl⟩;refine uz (F4 ht rfl) ?_ (λc w' h=>cJ.up h hr kk ht);rintro _ wP hP;obtain⟨cQ,bA,eP,bS,kP⟩:=cK.out hP;have hA:=bT.part _ _ eP;rw[eP,PR.aJ]at hr;obtain⟨ae,qe⟩:=kP.at ht ae qe;replace rl:=kP.rep ht rl;replace rq:=kP.rep ht rq;replace rk:=kP.rep ht rk;replace ra:=kP.rep ht ra;replace sp:=kP.strs ht sp;replace rb:=kP.rep ht rb;replace kk:=kk.trans kP ht.ab;replace ht:=bS;clear hP eP bS kP;refine Up.i (Nc.p _ _) ?_;refine V1.i ah ?_;refine V1.load (aC rfl) (ae) rfl ?_;have lK:k=1\/k=2\/k=3\/k=4\/k=5\/k=6\/k=7\/k=8\/k=9\/k=10\/k=11\/k=12:=by omega
  clear hb hk;rcases lK with rfl|rfl|rfl|rfl|rfl|rfl|rfl|rfl|rfl|rfl|rfl|rfl
  .refine V1.i (cF _ _ _) ?_;refine If.t ?_;simp only[reduceIte,reduceEq]at hr;refine V1.aG ah λbs ws NS=>?_;have fS:=ht.eR NS.aA NS.ge;have aS:At ws bs (List.map str [kF]):=NS.at_;have kS:=KO.aA (b:=b) NS.aA;obtain⟨ae,qe⟩:=kS.at ht ae qe;replace rl:=kS.rep ht rl;replace rq:=kS.rep ht rq;replace rk:=kS.rep ht rk;replace ra:=kS.rep ht ra;replace sp:=kS.strs ht sp;replace rb:=kS.rep ht rb;replace kk:=kk.trans kS ht.ab;replace ht:=ht.aA NS.aA;have cH:=fj ht aS fS ak hr aI;refine dk cH (λv w' h=>cK.pre h kk ht) (λc w' h=>cJ.pre h kk ht)
  .iterate 1 (refine V1.i (cF _ _ _) ?_;refine If.f ?_)
   refine V1.i (cF _ _ _) ?_;refine If.t ?_;simp only[reduceIte,reduceEq]at hr;refine V1.aG ah λbs ws NS=>?_;have fS:=ht.eR NS.aA NS.ge;have aS:At ws bs (List.map str [gG]):=NS.at_;have kS:=KO.aA (b:=b) NS.aA;obtain⟨ae,qe⟩:=kS.at ht ae qe;replace rl:=kS.rep ht rl;replace rq:=kS.rep ht rq;replace rk:=kS.rep ht rk;replace ra:=kS.rep ht ra;replace sp:=kS.strs ht sp;replace rb:=kS.rep ht rb;replace kk:=kk.trans kS ht.ab;replace ht:=ht.aA NS.aA;have cH:=fj ht aS fS ak hr aI;refine dk cH (λv w' h=>cK.pre h kk ht) (λc w' h=>cJ.pre h kk ht)
  .iterate 2 (refine V1.i (cF _ _ _) ?_;refine If.f ?_)
   refine V1.i (cF _ _ _) ?_;refine If.t ?_;simp only[reduceIte,reduceEq]at hr;refine V1.aG ah λbs ws NS=>?_;have fS:=ht.eR NS.aA NS.ge;have aS:At ws bs (List.map str [eZ]):=NS.at_;have kS:=KO.aA (b:=b) NS.aA;obtain⟨ae,qe⟩:=kS.at ht ae qe;replace rl:=kS.rep ht rl;replace rq:=kS.rep ht rq;replace rk:=kS.rep ht rk;replace ra:=kS.rep ht ra;replace sp:=kS.strs ht sp;replace rb:=kS.rep ht rb;replace kk:=kk.trans kS ht.ab;replace ht:=ht.aA NS.aA;have cH:=fj ht aS fS ak hr aI;refine dk cH (λv w' h=>cK.pre h kk ht) (λc w' h=>cJ.pre h kk ht)
  .iterate 3 (refine V1.i (cF _ _ _) ?_;refine If.f ?_)
   refine V1.i (cF _ _ _) ?_;refine If.t ?_;simp only[reduceIte,reduceEq]at hr;by_cases h6:i64 nn=true
   rotate_left
   .rw[if_neg h6]at hr;exact absurd hr.symm aI
   rw[if_pos h6]at hr;have h7:-9223372036854775808<=nn/\nn<=9223372036854775807:=by simpa[i64]using h6
   refine Up.i (Nc.p _ _) ?_;refine V1.i ah ?_;refine V1.load (aC rfl) (ae) rfl ?_;refine HJ (Rv _ _ ht.gl h7.1 h7.2) ?_ (NP.no (e:=_));rintro _ w2 ⟨rfl,K2⟩;have kS:=KO.aA (b:=b) K2;obtain⟨ae,qe⟩:=kS.at ht ae qe;replace rl:=kS.rep ht rl;replace rq:=kS.rep ht rq;replace rk:=kS.rep ht rk;replace ra:=kS.rep ht ra;replace sp:=kS.strs ht sp;replace rb:=kS.rep ht rb;replace kk:=kk.trans kS ht.ab;replace ht:=ht.aA K2;clear kS;refine V1.aG ah λbs ws NS=>?_;have fS:=ht.eR NS.aA NS.ge;have aS:At ws bs (List.map str [Lib.itoa nn]):=NS.at_;have kS:=KO.aA (b:=b) NS.aA;obtain⟨ae,qe⟩:=kS.at ht ae qe;replace rl:=kS.rep ht rl;replace rq:=kS.rep ht rq;replace rk:=kS.rep ht rk
   replace ra:=kS.rep ht ra;replace sp:=kS.strs ht sp;replace rb:=kS.rep ht rb;replace kk:=kk.trans kS ht.ab;replace ht:=ht.aA NS.aA;have cH:=fj ht aS fS ak hr aI;refine dk cH (λv w' h=>cK.pre h kk ht) (λc w' h=>cJ.pre h kk ht)
  .iterate 4 (refine V1.i (cF _ _ _) ?_;refine If.f ?_)
   refine V1.i (cF _ _ _) ?_;refine If.t ?_;simp only[reduceIte,reduceEq]at hr;refine Up.i (Nc.p _ _) ?_;refine V1.i ah ?_;refine V1.load (aC rfl) (ae) rfl ?_;refine Hd (SU _ _) ?_ (NP.no (e:=_));rintro _ w2 ⟨rfl,K2⟩;have kS:=KO.aA (b:=b) K2;obtain⟨ae,qe⟩:=kS.at ht ae qe;replace rl:=kS.rep ht rl;replace rq:=kS.rep ht rq;replace rk:=kS.rep ht rk;replace ra:=kS.rep ht ra;replace sp:=kS.strs ht sp;replace rb:=kS.rep ht rb;replace kk:=kk.trans kS ht.ab;replace ht:=ht.aA K2;clear kS;refine V1.aG ah λbs ws NS=>?_;have fS:=ht.eR NS.aA NS.ge;have aS:At ws bs (List.map str [iT text]):=NS.at_;have kS:=KO.aA (b:=b) NS.aA;obtain⟨ae,qe⟩:=kS.at ht ae qe
   replace rl:=kS.rep ht rl;replace rq:=kS.rep ht rq;replace rk:=kS.rep ht rk;replace ra:=kS.rep ht ra;replace sp:=kS.strs ht sp;replace rb:=kS.rep ht rb;replace kk:=kk.trans kS ht.ab;replace ht:=ht.aA NS.aA;have cH:=fj ht aS fS ak hr aI;refine dk cH (λv w' h=>cK.pre h kk ht) (λc w' h=>cJ.pre h kk ht)
  .iterate 5 (refine V1.i (cF _ _ _) ?_;refine If.f ?_)
   refine V1.i (cF _ _ _) ?_;refine If.t ?_;simp only[reduceIte,reduceEq]at hr;refine Up.i (Nc.p _ _) ?_;refine V1.i ah ?_;refine V1.load (aC rfl) (ae) rfl ?_;refine V1.aG ah λbs ws NS=>?_;have fS:=ht.eR NS.aA NS.ge;have aS:At ws bs (List.map str [text]):=NS.at_;have kS:=KO.aA (b:=b) NS.aA;obtain⟨ae,qe⟩:=kS.at ht ae qe;replace rl:=kS.rep ht rl;replace rq:=kS.rep ht rq;replace rk:=kS.rep ht rk;replace ra:=kS.rep ht ra;replace sp:=kS.strs ht sp;replace rb:=kS.rep ht rb;replace kk:=kk.trans kS ht.ab;replace ht:=ht.aA NS.aA;have cH:=fj ht aS fS ak hr aI;refine dk cH (λv w' h=>cK.pre h kk ht) (λc w' h=>cJ.pre h kk ht)
  .iterate 6 (refine V1.i (cF _ _ _) ?_;refine If.f ?_)
   refine V1.i (cF _ _ _) ?_;refine If.t ?_;simp only[reduceIte,reduceEq]at hr;by_cases h6:(kn l&&kn rr)=true
   rotate_left
   .rw[if_neg h6]at hr;exact absurd hr.symm aI
   rw[if_pos h6]at hr;rw[and_eq_true]at h6;refine Up.i (Nc.p _ _) ?_;refine V1.i ah ?_;refine V1.load (aC rfl) (ae) rfl ?_;have hK:=KY Hn h6.1 ht rl rfl (PR.aL hr aI);refine Bv hK ?_ (λc w' h=>cJ.up h hr kk ht);clear hK;rintro _ wP hP;obtain⟨cQ,bA,eP,bS,kP⟩:=cK.out hP;have hA:=cM _ _ _ _ _ _ eP;rw[eP,PR.aJ]at hr;obtain⟨ae,qe⟩:=kP.at ht ae qe;replace rl:=kP.rep ht rl;replace rq:=kP.rep ht rq;replace rk:=kP.rep ht rk;replace ra:=kP.rep ht ra;replace sp:=kP.strs ht sp;replace rb:=kP.rep ht rb;replace kk:=kk.trans kP ht.ab;replace ht:=bS;clear hP eP bS kP;refine Up.i (Nc.p _ _) ?_;refine V1.i ah ?_;refine V1.load (aC rfl) (ae) rfl ?_;refine wg (EG rq h6.2 ht.gl) ?_ (NP.no (e:=_))
   rintro _ w2 ⟨rfl,K2⟩;have kS:=KO.aA (b:=b) K2;obtain⟨ae,qe⟩:=kS.at ht ae qe;replace rl:=kS.rep ht rl;replace rq:=kS.rep ht rq;replace rk:=kS.rep ht rk;replace ra:=kS.rep ht ra;replace sp:=kS.strs ht sp;replace rb:=kS.rep ht rb;replace kk:=kk.trans kS ht.ab;replace ht:=ht.aA K2;clear kS
   cases rr with
   |nil=>
    refine If.f ?_;refine V1.aG ah λbs ws NS=>?_;have fS:=ht.eR NS.aA NS.ge;have aS:At ws bs (List.map str [[91]]):=NS.at_;have kS:=KO.aA (b:=b) NS.aA;obtain⟨ae,qe⟩:=kS.at ht ae qe;replace rl:=kS.rep ht rl;replace rq:=kS.rep ht rq;replace rk:=kS.rep ht rk;replace ra:=kS.rep ht ra;replace sp:=kS.strs ht sp;replace rb:=kS.rep ht rb;replace kk:=kk.trans kS ht.ab;replace ht:=ht.aA NS.aA;have cH:=fj ht aS fS ak rfl (PR.aL hr aI);refine dk cH ?_ (λc w' h=>cJ.up h hr kk ht);clear cH;rintro _ wP hP;obtain⟨cQ,bA,eP,bS,kP⟩:=cK.out hP;have je:=(bT.aM _ _ _ _ _ eP).2;have hA:=bI eP;simp only[map_cons,map_nil,sum_cons,sum_nil,length_cons,length_nil]at hA
    rw[eP,PR.aJ]at hr;obtain⟨ae,qe⟩:=kP.at ht ae qe;replace rl:=kP.rep ht rl;replace rq:=kP.rep ht rq;replace rk:=kP.rep ht rk;replace ra:=kP.rep ht ra;replace sp:=kP.strs ht sp;replace rb:=kP.rep ht rb;replace kk:=kk.trans kP ht.ab;replace ht:=bS;clear hP eP bS kP;clear aS fS NS kS;refine Up.i (Nc.p _ _) ?_;refine V1.i ah ?_;refine V1.load (aC rfl) (ae) rfl ?_;have hK:=Hn.expr ht rq rfl (PR.aL hr aI);refine oH hK ?_ (λc w' h=>cJ.up h hr kk ht);clear hK;rintro _ wP hP;obtain⟨cQ,bA,eP,bS,kP⟩:=cK.out hP;have hA:=cM _ _ _ _ _ _ eP;rw[eP,PR.aJ]at hr;obtain⟨ae,qe⟩:=kP.at ht ae qe;replace rl:=kP.rep ht rl;replace rq:=kP.rep ht rq;replace rk:=kP.rep ht rk;replace ra:=kP.rep ht ra
    replace sp:=kP.strs ht sp;replace rb:=kP.rep ht rb;replace kk:=kk.trans kP ht.ab;replace ht:=bS;clear hP eP bS kP;refine V1.aG ah λbs ws NS=>?_;have fS:=ht.eR NS.aA NS.ge;have aS:At ws bs (List.map str [[93]]):=NS.at_;have kS:=KO.aA (b:=b) NS.aA;obtain⟨ae,qe⟩:=kS.at ht ae qe;replace rl:=kS.rep ht rl;replace rq:=kS.rep ht rq;replace rk:=kS.rep ht rk;replace ra:=kS.rep ht ra;replace sp:=kS.strs ht sp;replace rb:=kS.rep ht rb;replace kk:=kk.trans kS ht.ab;replace ht:=ht.aA NS.aA;have cH:=fj ht aS fS ak hr aI;refine dk cH (λv w' h=>cK.pre h kk ht) (λc w' h=>cJ.pre h kk ht)
   |ex k1 n1 t1 l1 r1 OB Gw OC b1=>
    dsimp only at hr
    cases hq:gI (.ex k1 n1 t1 l1 r1 OB Gw OC b1)with
    |true=>
     rw[hq,if_pos rfl]at hr;refine If.t ?_;refine uz (F4 ht rfl) ?_ (λc w' h=>cJ.up h hr kk ht);rintro _ wP hP;obtain⟨cQ,bA,eP,bS,kP⟩:=cK.out hP;have hA:=bT.part _ _ eP;rw[eP,PR.aJ]at hr;obtain⟨ae,qe⟩:=kP.at ht ae qe;replace rl:=kP.rep ht rl;replace rq:=kP.rep ht rq;replace rk:=kP.rep ht rk;replace ra:=kP.rep ht ra;replace sp:=kP.strs ht sp;replace rb:=kP.rep ht rb;replace kk:=kk.trans kP ht.ab;replace ht:=bS;clear hP eP bS kP;refine Up.i (Nc.p _ _) ?_;refine V1.i ah ?_;refine V1.load (aC rfl) (ae) rfl ?_;have hu:∃c2 x1 x2 x3 x4 x5 x6 x7,rv=ptr c2/\At wP c2 [.int .i64 k1,.int .i64 x1,.int .i64 n1,str t1,x2,x3,x4,x5,x6,x7]:=by
      obtain⟨c2,x1,x2,x3,x4,x5,x6,x7,pN,q2,oa,_⟩:=rq;exact⟨c2,x1,x2,x3,x4,x5,x6,x7,pN,oa⟩
     obtain⟨c2,x1,x2,x3,x4,x5,x6,x7,pN,oa⟩:=hu;rw[pN];refine Up.i (Nc.p _ _) ?_;refine V1.i ah ?_;refine V1.load (aC rfl) (oa) rfl ?_;refine V1.aG ah λbs ws NS=>?_;have fS:=ht.eR NS.aA NS.ge;have aS:At ws bs (List.map str [[46],t1]):=NS.at_;have kS:=KO.aA (b:=b) NS.aA;obtain⟨ae,qe⟩:=kS.at ht ae qe;replace rl:=kS.rep ht rl;replace rq:=kS.rep ht rq;replace rk:=kS.rep ht rk;replace ra:=kS.rep ht ra;replace sp:=kS.strs ht sp;replace rb:=kS.rep ht rb;replace kk:=kk.trans kS ht.ab;replace ht:=ht.aA NS.aA;have cH:=fj ht aS fS ak hr aI;refine dk cH (λv w' h=>cK.pre h kk ht) (λc w' h=>cJ.pre h kk ht)
    |false=>
     rw[hq,if_neg Bool.false_ne_true]at hr;refine If.f ?_;refine V1.aG ah λbs ws NS=>?_;have fS:=ht.eR NS.aA NS.ge;have aS:At ws bs (List.map str [[91]]):=NS.at_;have kS:=KO.aA (b:=b) NS.aA;obtain⟨ae,qe⟩:=kS.at ht ae qe;replace rl:=kS.rep ht rl;replace rq:=kS.rep ht rq;replace rk:=kS.rep ht rk;replace ra:=kS.rep ht ra;replace sp:=kS.strs ht sp;replace rb:=kS.rep ht rb;replace kk:=kk.trans kS ht.ab;replace ht:=ht.aA NS.aA;have cH:=fj ht aS fS ak rfl (PR.aL hr aI);refine dk cH ?_ (λc w' h=>cJ.up h hr kk ht);clear cH;rintro _ wP hP;obtain⟨cQ,bA,eP,bS,kP⟩:=cK.out hP;have je:=(bT.aM _ _ _ _ _ eP).2;have hA:=bI eP
     simp only[map_cons,map_nil,sum_cons,sum_nil,length_cons,length_nil]at hA;rw[eP,PR.aJ]at hr;obtain⟨ae,qe⟩:=kP.at ht ae qe;replace rl:=kP.rep ht rl;replace rq:=kP.rep ht rq;replace rk:=kP.rep ht rk;replace ra:=kP.rep ht ra;replace sp:=kP.strs ht sp;replace rb:=kP.rep ht rb;replace kk:=kk.trans kP ht.ab;replace ht:=bS;clear hP eP bS kP;clear aS fS NS kS;refine Up.i (Nc.p _ _) ?_;refine V1.i ah ?_;refine V1.load (aC rfl) (ae) rfl ?_;have hK:=Hn.expr ht rq rfl (PR.aL hr aI);refine oH hK ?_ (λc w' h=>cJ.up h hr kk ht);clear hK;rintro _ wP hP;obtain⟨cQ,bA,eP,bS,kP⟩:=cK.out hP;have hA:=cM _ _ _ _ _ _ eP;rw[eP,PR.aJ]at hr;obtain⟨ae,qe⟩:=kP.at ht ae qe
     replace rl:=kP.rep ht rl;replace rq:=kP.rep ht rq;replace rk:=kP.rep ht rk;replace ra:=kP.rep ht ra;replace sp:=kP.strs ht sp;replace rb:=kP.rep ht rb;replace kk:=kk.trans kP ht.ab;replace ht:=bS;clear hP eP bS kP;refine V1.aG ah λbs ws NS=>?_;have fS:=ht.eR NS.aA NS.ge;have aS:At ws bs (List.map str [[93]]):=NS.at_;have kS:=KO.aA (b:=b) NS.aA;obtain⟨ae,qe⟩:=kS.at ht ae qe;replace rl:=kS.rep ht rl;replace rq:=kS.rep ht rq;replace rk:=kS.rep ht rk;replace ra:=kS.rep ht ra;replace sp:=kS.strs ht sp;replace rb:=kS.rep ht rb;replace kk:=kk.trans kS ht.ab;replace ht:=ht.aA NS.aA;have cH:=fj ht aS fS ak hr aI;refine dk cH (λv w' h=>cK.pre h kk ht) (λc w' h=>cJ.pre h kk ht)
   |hole=>cases h6.2
   |cons=>cases h6.2
   |st=>cases h6.2
  .iterate 7 (refine V1.i (cF _ _ _) ?_;refine If.f ?_)
   refine V1.i (cF _ _ _) ?_;refine If.t ?_;simp only[reduceIte,reduceEq]at hr;by_cases h6:kn l=true
   rotate_left
   .rw[if_neg h6]at hr;exact absurd hr.symm aI
   rw[if_pos h6]at hr;refine Up.i (Nc.p _ _) ?_;refine V1.i ah ?_;refine V1.load (aC rfl) (ae) rfl ?_;have hK:=KY Hn h6 ht rl rfl (PR.aL hr aI);refine Bv hK ?_ (λc w' h=>cJ.up h hr kk ht);clear hK;rintro _ wP hP;obtain⟨cQ,bA,eP,bS,kP⟩:=cK.out hP;have hA:=cM _ _ _ _ _ _ eP;rw[eP,PR.aJ]at hr;obtain⟨ae,qe⟩:=kP.at ht ae qe;replace rl:=kP.rep ht rl;replace rq:=kP.rep ht rq;replace rk:=kP.rep ht rk;replace ra:=kP.rep ht ra;replace sp:=kP.strs ht sp;replace rb:=kP.rep ht rb;replace kk:=kk.trans kP ht.ab;replace ht:=bS;clear hP eP bS kP;refine V1.aG ah λbs ws NS=>?_;have fS:=ht.eR NS.aA NS.ge;have aS:At ws bs (List.map str [[40]]):=NS.at_;have kS:=KO.aA (b:=b) NS.aA
   obtain⟨ae,qe⟩:=kS.at ht ae qe;replace rl:=kS.rep ht rl;replace rq:=kS.rep ht rq;replace rk:=kS.rep ht rk;replace ra:=kS.rep ht ra;replace sp:=kS.strs ht sp;replace rb:=kS.rep ht rb;replace kk:=kk.trans kS ht.ab;replace ht:=ht.aA NS.aA;have cH:=fj ht aS fS ak rfl (PR.aL hr aI);refine dk cH ?_ (λc w' h=>cJ.up h hr kk ht);clear cH;rintro _ wP hP;obtain⟨cQ,bA,eP,bS,kP⟩:=cK.out hP;have je:=(bT.aM _ _ _ _ _ eP).2;have hA:=bI eP;simp only[map_cons,map_nil,sum_cons,sum_nil,length_cons,length_nil]at hA;rw[eP,PR.aJ]at hr;obtain⟨ae,qe⟩:=kP.at ht ae qe;replace rl:=kP.rep ht rl;replace rq:=kP.rep ht rq;replace rk:=kP.rep ht rk;replace ra:=kP.rep ht ra;replace sp:=kP.strs ht sp
   replace rb:=kP.rep ht rb;replace kk:=kk.trans kP ht.ab;replace ht:=bS;clear hP eP bS kP;clear aS fS NS kS;have hh:gs≠.hole:=by
    rintro rfl;rw[uW]at hr;exact aI hr.symm
   obtain⟨aa,vD,ac,rfl,og⟩:=ra.EN hh;refine Up.i (Nc.p _ _) ?_;refine V1.i ah ?_;refine V1.load (aC rfl) (ae) rfl ?_;refine V1.i ah ?_;refine L1.i (λv w'=>∃i j m rM buf parts,v=.int .i64 (i:Nat)/\i+j=vD/\i<=parts/\m<=n/\TX w' b buf parts/\cE (FO b w') w' rM aa i j/\KO b w3 w'/\(bJ m (.args rM (decide (i=0))) buf parts).bind (λb p=>aM [[41]] b p)=r) (λv w'=>match v with|.int _ n=>(vD-n.toNat)|_=>0) ⟨0,vD,n,gs,_,_,rfl,by omega,by omega,le_refl _,ht,og,kk,hr⟩ ?_;clear ht ae qe og kk hr rk ra rl rq sp rb;rintro v w1 ⟨i,j,m,rM,buf,parts,rfl,rH,Cu,hm,ht,og,kk,hr⟩
   cases m with
   |zero=>simp only[bJ,PR.bind]at hr;exact absurd hr.symm aI
   |succ m=>
    cases rM with
    |nil=>
     have hj:j=0:=by
      rcases og with⟨_,h⟩|⟨q,_,h⟩
      .exact h
      .exact h
     subst hj;simp only[bJ,PR.aJ]at hr;refine V1.bf ax ?_;refine If.f ?_;refine V1.aG ah λbs ws NS=>?_;have fS:=ht.eR NS.aA NS.ge;have aS:At ws bs (List.map str [[41]]):=NS.at_;have kS:=KO.aA (b:=b) NS.aA;replace kk:=kk.trans kS ht.ab;replace ht:=ht.aA NS.aA;have cH:=fj ht aS fS ak hr aI;refine dk cH (λv w' h=>cK.pre h kk ht) (λc w' h=>cJ.pre h kk ht)
    |cons x l=>
     rcases og with⟨h,_⟩|⟨q,rfl,j',u,rfl,hc,hf,rx,rl⟩
     .cases h
     have fK:cE (FO b w1) w1 l (some ⟨q,0,none⟩) (i+1) j':=.inr ⟨q,rfl,rl⟩;have fA:=ht.vD;simp only[bJ,PR.bind_assoc]at hr;obtain⟨G,hG,hr⟩:=pd hr;refine V1.bt ax ?_;refine If.t ?_;refine V1.i (lR aj) ?_;refine V1.i ((aC rfl) _ _ _ hc) ?_;clear rl hc hf;refine J0.cut (λw'=>∃sP ig,i<=ig/\TX w' b sP ig/\cE (FO b w') w' l (some ⟨q,0,none⟩) (i+1) j'/\aU (FO b w') w' x (.P u)/\KO b w3 w'/\G sP ig=r) ?_ ?_
     .rcases Nat.eq_zero_or_pos i with rfl|h0
      .refine V1.i ah ?_;refine If.f ?_;simp only[decide_true,if_true,aM,PR.aJ]at hr;exact⟨_,_,by omega,ht,fK,rx,kk,hr⟩
      .rw[show decide (i=0)=false by simp;omega]at hr;simp only[false_eq_true,if_false]at hr;refine V1.bt ax ?_;refine If.t ?_;refine V1.aG ah λbs ws NS=>?_;have fS:=ht.eR NS.aA NS.ge;have aS:At ws bs (List.map str [[44,32]]):=NS.at_;have kS:=KO.aA (b:=b) NS.aA;replace fK:=kS.row ht fK;replace rx:=kS.rep ht rx;replace kk:=kk.trans kS ht.ab;replace ht:=ht.aA NS.aA;have cH:=fj ht aS fS ak rfl (PR.aL hr aI);refine dk cH ?_ (λc w' h=>cJ.up h hr kk ht);clear cH;rintro _ wP hP;obtain⟨cQ,bA,eP,bS,kP⟩:=cK.out hP;have je:=(bT.aM _ _ _ _ _ eP).2;have hA:=bI eP;simp only[map_cons,map_nil,sum_cons,sum_nil,length_cons,length_nil]at hA
       rw[eP,PR.aJ]at hr;replace fK:=kP.row ht fK;replace rx:=kP.rep ht rx;replace kk:=kk.trans kP ht.ab;replace ht:=bS;clear hP eP bS kP;clear aS fS NS kS;exact⟨_,_,by omega,ht,fK,rx,kk,hr⟩
     clear hr ht fK rx kk Cu fA;rintro w2 ⟨sP,ig,Cu,ht,fK,rx,kk,hr⟩;subst hG;dsimp only at hr;have hK:=(H m aj).expr ht rx rfl (PR.aL hr aI);refine oH hK ?_ (λc w' h=>cJ.up h hr kk ht);clear hK;rintro _ wP hP;obtain⟨cQ,bA,eP,bS,kP⟩:=cK.out hP;have hA:=nP eP;rw[eP,PR.aJ]at hr;replace fK:=kP.row ht fK;replace rx:=kP.rep ht rx;replace kk:=kk.trans kP ht.ab;replace ht:=bS;clear hP eP bS kP;have fA:=ht.vD;refine V1.i (cC _ _ _ _ _ _ aj aj) ?_;have hd:decide (i+1=0)=false:=by simp
     exact⟨⟨i+1,j',m,l,_,_,by simp,by omega,by omega,by omega,ht,fK,kk,by rw[hd];exact hr⟩,by simp;omega⟩
    |hole=>simp only[bJ,PR.bind]at hr;exact absurd hr.symm aI
    |ex=>rcases og with⟨h,_⟩|⟨q,_,h⟩;cases h;exact h.elim
    |st=>rcases og with⟨h,_⟩|⟨q,_,h⟩;cases h;exact h.elim
  .iterate 8 (refine V1.i (cF _ _ _) ?_;refine If.f ?_)
   refine V1.i (cF _ _ _) ?_;refine If.t ?_;simp only[reduceIte,reduceEq]at hr;refine V1.aG ah λbs ws NS=>?_;have fS:=ht.eR NS.aA NS.ge;have aS:At ws bs (List.map str [bP]):=NS.at_;have kS:=KO.aA (b:=b) NS.aA;obtain⟨ae,qe⟩:=kS.at ht ae qe;replace rl:=kS.rep ht rl;replace rq:=kS.rep ht rq;replace rk:=kS.rep ht rk;replace ra:=kS.rep ht ra;replace sp:=kS.strs ht sp;replace rb:=kS.rep ht rb;replace kk:=kk.trans kS ht.ab;replace ht:=ht.aA NS.aA;have cH:=fj ht aS fS ak rfl (PR.aL hr aI);refine dk cH ?_ (λc w' h=>cJ.up h hr kk ht);clear cH;rintro _ wP hP;obtain⟨cQ,bA,eP,bS,kP⟩:=cK.out hP;have je:=(bT.aM _ _ _ _ _ eP).2;have hA:=bI eP
   simp only[map_cons,map_nil,sum_cons,sum_nil,length_cons,length_nil]at hA;rw[eP,PR.aJ]at hr;obtain⟨ae,qe⟩:=kP.at ht ae qe;replace rl:=kP.rep ht rl;replace rq:=kP.rep ht rq;replace rk:=kP.rep ht rk;replace ra:=kP.rep ht ra;replace sp:=kP.strs ht sp;replace rb:=kP.rep ht rb;replace kk:=kk.trans kP ht.ab;replace ht:=bS;clear hP eP bS kP;clear aS fS NS kS;have hK:=Hn.func ht ⟨c,line,lv,rv,kv,av,pv,bv,rfl,qe,ae,rl,rq,rk,ra,sp,rb⟩ hr aI;refine Ha hK (λv w' h=>cK.pre h kk ht) (λc w' h=>cJ.pre h kk ht)
  .iterate 9 (refine V1.i (cF _ _ _) ?_;refine If.f ?_)
   refine V1.i (cF _ _ _) ?_;refine If.t ?_;simp only[reduceIte,reduceEq]at hr;by_cases h6:kn rr=true
   rotate_left
   .rw[if_neg h6]at hr;exact absurd hr.symm aI
   rw[if_pos h6]at hr;refine Up.i (Nc.p _ _) ?_;refine V1.i ah ?_;refine V1.load (aC rfl) (ae) rfl ?_;refine V1.aG ah λbs ws NS=>?_;have fS:=ht.eR NS.aA NS.ge;have aS:At ws bs (List.map str [text,[32]]):=NS.at_;have kS:=KO.aA (b:=b) NS.aA;obtain⟨ae,qe⟩:=kS.at ht ae qe;replace rl:=kS.rep ht rl;replace rq:=kS.rep ht rq;replace rk:=kS.rep ht rk;replace ra:=kS.rep ht ra;replace sp:=kS.strs ht sp;replace rb:=kS.rep ht rb;replace kk:=kk.trans kS ht.ab;replace ht:=ht.aA NS.aA;have cH:=fj ht aS fS ak rfl (PR.aL hr aI);refine dk cH ?_ (λc w' h=>cJ.up h hr kk ht);clear cH;rintro _ wP hP;obtain⟨cQ,bA,eP,bS,kP⟩:=cK.out hP;have je:=(bT.aM _ _ _ _ _ eP).2;have hA:=bI eP
   simp only[map_cons,map_nil,sum_cons,sum_nil,length_cons,length_nil]at hA;rw[eP,PR.aJ]at hr;obtain⟨ae,qe⟩:=kP.at ht ae qe;replace rl:=kP.rep ht rl;replace rq:=kP.rep ht rq;replace rk:=kP.rep ht rk;replace ra:=kP.rep ht ra;replace sp:=kP.strs ht sp;replace rb:=kP.rep ht rb;replace kk:=kk.trans kP ht.ab;replace ht:=bS;clear hP eP bS kP;clear aS fS NS kS;have K1:aD [] wP wP.drew:=(aD.refl _ _).drew;have kS:=KO.aA (b:=b) K1;obtain⟨ae,qe⟩:=kS.at ht ae qe;replace rl:=kS.rep ht rl;replace rq:=kS.rep ht rq;replace rk:=kS.rep ht rk;replace ra:=kS.rep ht ra;replace sp:=kS.strs ht sp;replace rb:=kS.rep ht rb;replace kk:=kk.trans kS ht.ab;replace ht:=ht.aA K1;clear kS
   cases rr with
   |nil=>
    obtain rfl:rv=.pointer none:=rq;refine⟨λw'=>At w' c [.int .i64 10,.int .i64 line,.int .i64 nn,str text,lv,.pointer none,kv,av,pv,bv],ae,?_⟩;refine⟨_,λw' _=>Nc.p _ w',?_⟩;refine Xw.i _ (λw' _=>by simp[go_sem]<;>trivial) ?_;refine Xw.i _ (λw' hw=>(aC rfl) _ _ _ (by rw[hw.cell];rfl)) ?_;refine⟨_,λw' _=>Nc.p _ w',?_⟩;refine Xw.i _ (λw' _=>by simp[go_sem]<;>trivial) ?_;refine Xw.i _ (λw' hw=>(aC rfl) _ _ _ (by rw[hw.cell];rfl)) ?_;refine Xw.i _ (λw' _=>by simp[go_sem]<;>trivial) ?_;refine J1.go (Gd.ft ?_);refine Xw.i _ (λw' _=>by simp[go_sem]<;>trivial) ?_;have hK:=Hn.inner (around:=false) (e:=.nil) rfl ht (show aU _ _ .nil (.P (.pointer none))from rfl) hr aI;refine nI hK (λv w' h=>cK.pre h kk ht) (λc w' h=>cJ.pre h kk ht)
   |ex k1 n1 t1 l1 r1 OB Gw OC b1=>
    have hu:∃c2 x1 x2 x3 x4 x5 x6 x7,rv=ptr c2/\At wP.drew c2 [.int .i64 k1,.int .i64 x1,.int .i64 n1,str t1,x2,x3,x4,x5,x6,x7]:=by
     obtain⟨c2,x1,x2,x3,x4,x5,x6,x7,pN,q2,oa,_⟩:=rq;exact⟨c2,x1,x2,x3,x4,x5,x6,x7,pN,oa⟩
    obtain⟨c2,x1,x2,x3,x4,x5,x6,x7,rfl,oa⟩:=hu;refine⟨λw'=>At w' c [.int .i64 10,.int .i64 line,.int .i64 nn,str text,lv,ptr c2,kv,av,pv,bv]/\At w' c2 [.int .i64 k1,.int .i64 x1,.int .i64 n1,str t1,x2,x3,x4,x5,x6,x7],⟨ae,oa⟩,?_⟩;refine⟨_,λw' _=>Nc.p _ w',?_⟩;refine Xw.i _ (λw' _=>by simp[go_sem]<;>trivial) ?_;refine Xw.i _ (λw' hw=>(aC rfl) _ _ _ (by rw[hw.1.cell];rfl)) ?_;refine⟨_,λw' _=>Nc.p _ w',?_⟩;refine Xw.i _ (λw' _=>by simp[go_sem]<;>trivial) ?_;refine Xw.i _ (λw' hw=>(aC rfl) _ _ _ (by rw[hw.1.cell];rfl)) ?_;refine Xw.i (.bool true) (λw' _=>by simp[go_sem,ptr];first|done|rfl|exact⟨rfl,rfl⟩) ?_;refine J1.go (Gd.tt ?_);refine⟨_,λw' _=>Nc.p _ w',?_⟩;refine Xw.i _ (λw' _=>by simp[go_sem]<;>trivial) ?_
    refine Xw.i _ (λw' hw=>(aC rfl) _ _ _ (by rw[hw.1.cell];rfl)) ?_;refine⟨_,λw' _=>Nc.p _ w',?_⟩;refine Xw.i _ (λw' _=>by simp[go_sem]<;>trivial) ?_;refine Xw.i _ (λw' hw=>(aC rfl) _ _ _ (by rw[hw.2.cell];rfl)) ?_;refine Xw.i (.bool (k1==11)) (λw' _=>cF _ _ _) ?_;refine Xw.i (.bool (k1==11)) (λw' _=>by simp[go_sem]) ?_;have hK:=Hn.inner (around:=k1==11) h6 ht rq hr aI;refine nI hK (λv w' h=>cK.pre h kk ht) (λc w' h=>cJ.pre h kk ht)
   |hole=>cases h6
   |cons=>cases h6
   |st=>cases h6
  .iterate 10 (refine V1.i (cF _ _ _) ?_;refine If.f ?_)
   refine V1.i (cF _ _ _) ?_;refine If.t ?_;simp only[reduceIte,reduceEq]at hr;by_cases h6:(kn l&&kn rr)=true
   rotate_left
   .rw[if_neg h6]at hr;exact absurd hr.symm aI
   rw[if_pos h6]at hr;rw[and_eq_true]at h6;have hK:=S0 Hn ht ⟨c,line,lv,rv,kv,av,pv,bv,rfl,qe,ae,rl,rq,rk,ra,sp,rb⟩ h6.1 h6.2 hr aI;refine Hi hK (λv w' h=>cK.pre h kk ht) (λc w' h=>cJ.pre h kk ht)
  .iterate 11 (refine V1.i (cF _ _ _) ?_;refine If.f ?_)
   refine V1.i (cF _ _ _) ?_;refine If.t ?_;simp only[reduceIte,reduceEq]at hr;by_cases h6:(dG ks&&dG gs)=false
   .rw[if_pos h6]at hr;exact absurd hr.symm aI
   rw[if_neg h6]at hr;rw[Bool.not_eq_false,and_eq_true]at h6;have hK:=Ta H ht ⟨c,line,lv,rv,kv,av,pv,bv,rfl,qe,ae,rl,rq,rk,ra,sp,rb⟩ h6.1 h6.2 hr aI;refine Hk hK (λv w' h=>cK.pre h kk ht) (λc w' h=>cJ.pre h kk ht)
 |hole=>exact absurd hr.symm aI
 |cons=>exact absurd hr.symm aI
 |st=>exact absurd hr.symm aI
theorem AE:∀n,jd n:=by
 intro n;induction n using Nat.strongRecOn with
 |ind n ih=>
  cases n with
  |zero=>
   constructor<;>intros<;>exact absurd (by assumption:bJ 0 _ _ _=_).symm au
  |succ n=>
   have H:∀m,m<=n->jd m:=λm hm=>ih m aj;have Hn:=H n (le_refl _);exact{expr:=p63 H,stmt:=p35 Hn,stmts:=p18 H,block:=p67 Hn,more:=p62 Hn,within:=p65 Hn,branch:=p66 Hn,func:=p68 Hn,inner:=λhk ht re=>SX Hn (re.scP (by rintro rfl;cases hk)) ht re}
end Go.Proofs.YtoddjlclpnoomaaGreatDoor

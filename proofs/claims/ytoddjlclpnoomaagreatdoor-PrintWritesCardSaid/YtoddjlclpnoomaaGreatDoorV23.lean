import Derived.Test.YtoddjlclpnoomaaGreatDoorV22
set_option linter.unusedVariables false
set_option linter.unusedSimpArgs false
set_option maxRecDepth 100000
open Go.Proofs.Tryz
open List (map_cons length_cons length_nil map_nil sum_cons sum_nil)
open Nat (le_refl)
open Int (reduceEq)
open Bool (and_eq_true false_eq_true)
namespace Go.Proofs.YtoddjlclpnoomaaGreatDoor
open Go.Sh
theorem aP.oK{F:Nat->Prop}{w:Wd}{l:Tr}{v:Va}(h:aP F w l (.L v))(hl:dM l=true):∃a c,v=.slice a (len l) c:=by
 cases l with
 |nil=>rcases h with rfl|⟨b,c,rfl⟩<;>exact⟨_,_,rfl⟩
 |cons x t=>
  obtain⟨b,n,c,u,rfl,h1,h2,h3,h4,h5⟩:=h;rw[vk t b 1 n hl h5];exact⟨_,_,rfl⟩
 |hole=>cases hl
 |ex=>cases hl
 |st=>cases hl
theorem zr(a b:Nat):((a:Int)==(b:Int))=decide (a=b):=by
 by_cases h:a=b
 .subst h;simp
 .simp[h];omega
def cI(F:Nat->Prop)(w:Wd)(t:Tr)(a:Option Addr)(i k:Nat):Prop:=(t=.nil/\k=0)\/∃q,a=some ⟨q,0,none⟩/\aP F w t (.E q i k)
theorem cI.tl{F:Nat->Prop}{w:Wd}{x t:Tr}{a:Option Addr}{i k:Nat}(h:cI F w (.cons x t) a i (k+1)):cI F w t a (i+1) k:=by
 rcases h with⟨h,_⟩|⟨q,e,m,u,e2,_,_,_,h⟩
 .cases h
 .obtain rfl:k=m:=by omega
  exact .inr ⟨q,e,h⟩
theorem aP.rowAt{F:Nat->Prop}{w:Wd}{l:Tr}{a:Option Addr}{n c:Nat}(h:aP F w l (.L (.slice a n c)))(hl:dM l=true):cI F w l a 0 n:=by
 rcases h.row (by rintro rfl;cases hl)with⟨a',c',e,rfl⟩|⟨q,n',c',e,h1,_⟩
 .injection e with e1 e2 e3;exact .inl ⟨rfl,e2⟩
 .injection e with e1 e2 e3;subst e1;subst e2
  exact .inr ⟨q,rfl,h1⟩
theorem KO.row{b:Nat}{w w':Wd}{t:Tr}{a:Option Addr}{i k:Nat}{buf:By}{parts:Nat}(h:KO b w w')(ht:TX w b buf parts)(hr:cI (FO b w) w t a i k):cI (FO b w') w' t a i k:=by
 rcases hr with hr|⟨q,e,hr⟩
 .exact .inl hr
 .exact .inr ⟨q,e,h.rep ht hr⟩
theorem qA{r1:PR}{f:By->Nat->PR}{r:PR}(h:r1.bind f=r):∃G,G=f/\r1.bind G=r:=⟨f,rfl,h⟩
theorem Wo{n:Nat}(H:∀m,m<=n->jM m){w:Wd}{b:Nat}{buf:By}{parts:Nat}{k nn:Int}{text:By}{l rr ks gs:Tr}{ps:LB}{body:Tr}{v:Va}{r:PR}(ht:TX w b buf parts)(re:aP (FO b w) w (.ex k nn text l rr ks gs ps body) (.P v))(mS:dM ks=true)(Oe:dM gs=true)
  (hr:(if len ks=len gs then(aO [[123]] buf parts).bind λb p=>(bK n (.items ks gs true) b p).bind λb p=>aO [[125]] b p else .fail 2)=r) (aI:r≠.bH):
  Calls prog 118 #[ptr b,v] w (aZ (λ_=>cO w b r) (cN w b r)):=by
 refine Td ?_;unfold JW;have kk:=KO.refl b w;obtain⟨c,line,lv,rv,kv,av,pv,bv,rfl,qe,ae,_,_,rk,ra,_⟩:=re;obtain⟨ka,kc,rfl⟩:=rk.oK mS;obtain⟨aa,ac,rfl⟩:=ra.oK Oe;have K1:aD [] w w.drew:=(aD.refl _ _).drew;have kS:=KO.aA (b:=b) K1;obtain⟨ae,qe⟩:=kS.at ht ae qe;replace rk:=kS.rep ht rk;replace ra:=kS.rep ht ra;replace kk:=kk.trans kS ht.ab;replace ht:=ht.aA K1;clear kS;refine⟨λw'=>At w' c [.int .i64 k,.int .i64 line,.int .i64 nn,str text,lv,rv,.slice ka (len ks) kc,.slice aa (len gs) ac,pv,bv],ae,?_⟩;refine⟨_,λw' _=>Nc.p _ w',?_⟩;refine Xw.i _ (λw' _=>by simp[go_sem]<;>trivial) ?_;refine Xw.i _ (λw' hw=>(aC rfl) _ _ _ (by rw[hw.cell];rfl)) ?_;refine Xw.i _ (λw' _=>by simp[go_sem]<;>trivial) ?_
 refine⟨_,λw' _=>Nc.p _ w',?_⟩;refine Xw.i _ (λw' _=>by simp[go_sem]<;>trivial) ?_;refine Xw.i _ (λw' hw=>(aC rfl) _ _ _ (by rw[hw.cell];rfl)) ?_;refine Xw.i _ (λw' _=>by simp[go_sem]<;>trivial) ?_;refine Xw.i (.bool (decide (len ks=len gs))) (λw' _=>by rw[lX];congr 2;exact zr _ _) ?_;by_cases hlen:len ks=len gs
 rotate_left
 .rw[if_neg hlen]at hr;rw[show decide (len ks=len gs)=false by simpa using hlen];refine iF (c20 _ false 2) ?_ ?_
  .rintro _ w3 ⟨kQ,_⟩
   cases kQ
  .rintro c w3 ⟨_,rfl,rfl⟩;subst hr;exact⟨rfl,kk,ht.ab,ht.gl⟩
 rw[if_pos hlen]at hr;rw[show decide (len ks=len gs)=true by simpa using hlen];refine iF (c20 _ true 2) ?_ ?_;rotate_left
 .rintro c w3 ⟨kQ,_⟩
  cases kQ
 rintro _ w3 ⟨_,rfl⟩;have ok:=rk.rowAt mS;have og:=ra.rowAt Oe;rw[hlen]at ok;refine V1.aG ah λbs ws NS=>?_;have fS:=ht.fu NS.aA NS.ge;have aS:At ws bs (List.map str [[123]]):=NS.at_;have kS:=KO.aA (b:=b) NS.aA;obtain⟨ae,qe⟩:=kS.at ht ae qe;replace ok:=kS.row ht ok;replace og:=kS.row ht og;replace kk:=kk.trans kS ht.ab;replace ht:=ht.aA NS.aA;have cK:=fQ ht aS fS ak rfl (PR.aM hr aI);refine dw cK ?_ (λc w' h=>cN.up h hr kk ht);clear cK;rintro _ wP hP;obtain⟨cV,bB,eP,bU,kP⟩:=cO.out hP;have jN:=(bW.aO _ _ _ _ _ eP).2;have hA:=bJ eP;simp only[map_cons,map_nil,sum_cons,sum_nil,length_cons,length_nil]at hA;rw[eP,PR.aL]at hr;have Od:=kP.at ht ae qe;clear ae qe
 obtain⟨ae,qe⟩:=Od;replace ok:=kP.row ht ok;replace og:=kP.row ht og;replace kk:=kk.trans kP ht.ab;replace ht:=bU;clear hP eP bU kP;clear aS fS NS kS;refine Up.i (Nc.p _ _) ?_;refine V1.i ah ?_;refine V1.load (aC rfl) (ae) rfl ?_;refine V1.i ah ?_
 refine L1.i (λv w'=>∃i j m zt tJ buf parts,v=.int .i64 (i:Nat)/\i+j=len gs/\i<=parts/\m<=n/\TX w' b buf parts/\At w' c [.int .i64 k,.int .i64 line,.int .i64 nn,str text,lv,rv,.slice ka (len ks) kc,.slice aa (len gs) ac,pv,bv]/\FO b w' c/\cI (FO b w') w' zt ka i j/\cI (FO b w') w' tJ aa i j/\KO b w w'/\(bK m (.items zt tJ (decide (i=0))) buf parts).bind (λb p=>aO [[125]] b p)=r) (λv w'=>match v with|.int _ n=>(len gs-n.toNat)|_=>0) ⟨0,len gs,n,ks,gs,_,_,rfl,by omega,by omega,le_refl _,ht,ae,qe,ok,og,kk,hr⟩ ?_;clear ht ae qe ok og kk hr rk ra;rintro v w1 ⟨i,j,m,zt,tJ,buf,parts,rfl,tC,Ev,hm,ht,ae,qe,ok,og,kk,hr⟩
 cases m with
 |zero=>simp only[bK,PR.bind]at hr;exact absurd hr.symm aI
 |succ m=>
  cases tJ with
  |nil=>
   have hj:j=0:=by
    rcases og with⟨_,h⟩|⟨q,_,h⟩
    .exact h
    .exact h
   subst hj;simp only[bK,PR.aL]at hr;refine V1.bf ay ?_;refine If.f ?_;refine V1.aG ah λbs ws NS=>?_;have fS:=ht.fu NS.aA NS.ge;have aS:At ws bs (List.map str [[125]]):=NS.at_;have kS:=KO.aA (b:=b) NS.aA;obtain⟨ae,qe⟩:=kS.at ht ae qe;replace ok:=kS.row ht ok;replace og:=kS.row ht og;replace kk:=kk.trans kS ht.ab;replace ht:=ht.aA NS.aA;have cK:=fQ ht aS fS ak hr aI;refine dw cK (λv w' h=>cO.pre h kk ht) (λc w' h=>cN.pre h kk ht)
  |cons x l=>
   rcases og with⟨h,_⟩|⟨q,rfl,j',u,rfl,hc,hf,rx,rl⟩
   .cases h
   cases zt with
   |cons kx kl=>
    have jd:=ok;rcases ok with⟨h,_⟩|⟨q2,rfl,j2,u2,e2,kI,IA,rk,rkl⟩
    .cases h
    obtain rfl:j'=j2:=by omega
    clear kI IA rk rkl;have gy:cI (FO b w1) w1 l (some ⟨q,0,none⟩) (i+1) j':=.inr ⟨q,rfl,rl⟩;have gg:=ht.xz;simp only[bK,PR.bind_assoc]at hr;obtain⟨G,hG,hr⟩:=qA hr;refine V1.bt ay ?_;refine If.t ?_;refine V1.i (mL aj) ?_;refine V1.i ((aC rfl) _ _ _ hc) ?_;clear rl hc hf;refine J0.cut (λw'=>∃uI iM,i<=iM/\TX w' b uI iM/\At w' c [.int .i64 k,.int .i64 line,.int .i64 nn,str text,lv,rv,.slice (some ⟨q2,0,none⟩) (len ks) kc,.slice (some ⟨q,0,none⟩) (len gs) ac,pv,bv]/\FO b w' c/\cI (FO b w') w' (.cons kx kl) (some ⟨q2,0,none⟩) i (j'+1)/\cI (FO b w') w' l (some ⟨q,0,none⟩) (i+1) j'/\aP (FO b w') w' x (.P u)/\KO b w w'/\G uI iM=r) ?_ ?_
    .rcases Nat.eq_zero_or_pos i with rfl|h0
     .refine V1.i ah ?_;refine If.f ?_;simp only[decide_true,if_true,aO,PR.aL]at hr;exact⟨_,_,by omega,ht,ae,qe,jd,gy,rx,kk,hr⟩
     .rw[show decide (i=0)=false by simp;omega]at hr;simp only[false_eq_true,if_false]at hr;refine V1.bt ay ?_;refine If.t ?_;refine V1.aG ah λbs ws NS=>?_;have fS:=ht.fu NS.aA NS.ge;have aS:At ws bs (List.map str [[44,32]]):=NS.at_;have kS:=KO.aA (b:=b) NS.aA;obtain⟨ae,qe⟩:=kS.at ht ae qe;replace jd:=kS.row ht jd;replace gy:=kS.row ht gy;replace rx:=kS.rep ht rx;replace kk:=kk.trans kS ht.ab;replace ht:=ht.aA NS.aA;have cK:=fQ ht aS fS ak rfl (PR.aM hr aI);refine dw cK ?_ (λc w' h=>cN.up h hr kk ht);clear cK;rintro _ wP hP;obtain⟨cV,bB,eP,bU,kP⟩:=cO.out hP;have jN:=(bW.aO _ _ _ _ _ eP).2;have hA:=bJ eP
      simp only[map_cons,map_nil,sum_cons,sum_nil,length_cons,length_nil]at hA;rw[eP,PR.aL]at hr;obtain⟨ae,qe⟩:=kP.at ht ae qe;replace jd:=kP.row ht jd;replace gy:=kP.row ht gy;replace rx:=kP.rep ht rx;replace kk:=kk.trans kP ht.ab;replace ht:=bU;clear hP eP bU kP;clear aS fS NS kS;exact⟨_,_,by omega,ht,ae,qe,jd,gy,rx,kk,hr⟩
    clear hr ht ae qe jd gy rx kk Ev gg;rintro w2 ⟨uI,iM,Ev,ht,ae,qe,jd,gy,rx,kk,hr⟩;subst hG;dsimp only at hr;obtain⟨G2,hG2,hr⟩:=qA hr;refine J0.cut (λw'=>∃G4 qB,i<=qB/\TX w' b G4 qB/\At w' c [.int .i64 k,.int .i64 line,.int .i64 nn,str text,lv,rv,.slice (some ⟨q2,0,none⟩) (len ks) kc,.slice (some ⟨q,0,none⟩) (len gs) ac,pv,bv]/\FO b w' c/\cI (FO b w') w' (.cons kx kl) (some ⟨q2,0,none⟩) i (j'+1)/\cI (FO b w') w' l (some ⟨q,0,none⟩) (i+1) j'/\aP (FO b w') w' x (.P u)/\KO b w w'/\G2 G4 qB=r) ?_ ?_
    .clear hG2;refine Up.i (Nc.p _ _) ?_;refine V1.i ah ?_;refine V1.load (aC rfl) (ae) rfl ?_;have G5:∃u2,w2.cell? ⟨q2,i,none⟩=some u2/\aP (FO b w2) w2 kx (.P u2):=by
      rcases jd with⟨h,_⟩|⟨q3,e3,m3,u3,_,h1,_,h2,_⟩
      .cases h
      .injection e3 with e3;injection e3 with e3;subst e3;exact⟨u3,h1,h2⟩
     obtain⟨u2,kI,rk⟩:=G5;refine V1.i (mL aj) ?_;refine V1.i ((aC rfl) _ _ _ kI) ?_;clear kI
     cases kx with
     |nil=>
      obtain rfl:u2=.pointer none:=rk;refine yc (GX (F:=FO b w2) (e:=.nil) rfl rfl ht.gl) ?_ (NP.no (e:=_));rintro _ w3 ⟨rfl,K3⟩;have kS:=KO.aA (b:=b) K3;obtain⟨ae,qe⟩:=kS.at ht ae qe;replace jd:=kS.row ht jd;replace gy:=kS.row ht gy;replace rx:=kS.rep ht rx;replace kk:=kk.trans kS ht.ab;replace ht:=ht.aA K3;clear kS;refine If.f ?_;refine V1.i ah ?_;refine If.f ?_;exact⟨_,_,Ev,ht,ae,qe,jd,gy,rx,kk,hr⟩
     |ex k1 n1 t1 l1 r1 RX I9 RY b1=>
      refine yc (GX rk rfl ht.gl) ?_ (NP.no (e:=_));rintro _ w3 ⟨rfl,K3⟩;have kS:=KO.aA (b:=b) K3;obtain⟨ae,qe⟩:=kS.at ht ae qe;replace jd:=kS.row ht jd;replace gy:=kS.row ht gy;replace rx:=kS.rep ht rx;replace rk:=kS.rep ht rk;replace kk:=kk.trans kS ht.ab;replace ht:=ht.aA K3;clear kS;dsimp only at hr
      cases hq:ij (.ex k1 n1 t1 l1 r1 RX I9 RY b1)with
      |true=>
       rw[hq,if_pos rfl]at hr;simp only[PR.bind_assoc]at hr;refine If.t ?_;refine wt (Iy ht rfl) ?_ (λc w' h=>cN.up h hr kk ht);rintro _ wP hP;obtain⟨cV,bB,eP,bU,kP⟩:=cO.out hP;have hA:=bW.part _ _ eP;rw[eP,PR.aL]at hr;obtain⟨ae,qe⟩:=kP.at ht ae qe;replace jd:=kP.row ht jd;replace gy:=kP.row ht gy;replace rx:=kP.rep ht rx;replace rk:=kP.rep ht rk;replace kk:=kk.trans kP ht.ab;replace ht:=bU;clear hP eP bU kP;have hu:∃c2 x1 x2 x3 x4 x5 x6 x7,u2=ptr c2/\At wP c2 [.int .i64 k1,.int .i64 x1,.int .i64 n1,str t1,x2,x3,x4,x5,x6,x7]:=by
        obtain⟨c2,x1,x2,x3,x4,x5,x6,x7,ri,q2,mv,_⟩:=rk;exact⟨c2,x1,x2,x3,x4,x5,x6,x7,ri,mv⟩
       obtain⟨c2,x1,x2,x3,x4,x5,x6,x7,ri,mv⟩:=hu;rw[ri];refine Up.i (Nc.p _ _) ?_;refine V1.i ah ?_;refine V1.load (aC rfl) (mv) rfl ?_;refine V1.aG ah λbs ws NS=>?_;have fS:=ht.fu NS.aA NS.ge;have aS:At ws bs (List.map str [t1,[32,61,32]]):=NS.at_;have kS:=KO.aA (b:=b) NS.aA;obtain⟨ae,qe⟩:=kS.at ht ae qe;replace jd:=kS.row ht jd;replace gy:=kS.row ht gy;replace rx:=kS.rep ht rx;replace kk:=kk.trans kS ht.ab;replace ht:=ht.aA NS.aA;have cK:=fQ ht aS fS ak rfl (PR.aM hr aI);refine dw cK ?_ (λc w' h=>cN.up h hr kk ht);clear cK;rintro _ wP hP;obtain⟨cV,bB,eP,bU,kP⟩:=cO.out hP;have jN:=(bW.aO _ _ _ _ _ eP).2;have hA:=bJ eP
       simp only[map_cons,map_nil,sum_cons,sum_nil,length_cons,length_nil]at hA;rw[eP,PR.aL]at hr;obtain⟨ae,qe⟩:=kP.at ht ae qe;replace jd:=kP.row ht jd;replace gy:=kP.row ht gy;replace rx:=kP.rep ht rx;replace kk:=kk.trans kP ht.ab;replace ht:=bU;clear hP eP bU kP;clear aS fS NS kS;exact⟨_,_,by omega,ht,ae,qe,jd,gy,rx,kk,hr⟩
      |false=>
       rw[hq,if_neg Bool.false_ne_true]at hr;simp only[PR.bind_assoc]at hr;refine If.f ?_;have hu:∃c2,u2=ptr c2:=by
        obtain⟨c2,x1,x2,x3,x4,x5,x6,x7,ri,q2,mv,_⟩:=rk;exact⟨c2,ri⟩
       obtain⟨c2,ri⟩:=hu;refine V1.bt (by rw[ri];simp[go_sem,ptr];first|done|rfl|exact⟨rfl,rfl⟩) ?_;refine If.t ?_;refine V1.aG ah λbs ws NS=>?_;have fS:=ht.fu NS.aA NS.ge;have aS:At ws bs (List.map str [[91]]):=NS.at_;have kS:=KO.aA (b:=b) NS.aA;obtain⟨ae,qe⟩:=kS.at ht ae qe;replace jd:=kS.row ht jd;replace gy:=kS.row ht gy;replace rx:=kS.rep ht rx;replace rk:=kS.rep ht rk;replace kk:=kk.trans kS ht.ab;replace ht:=ht.aA NS.aA;have cK:=fQ ht aS fS ak rfl (PR.aM hr aI);refine dw cK ?_ (λc w' h=>cN.up h hr kk ht);clear cK;rintro _ wP hP;obtain⟨cV,bB,eP,bU,kP⟩:=cO.out hP;have jN:=(bW.aO _ _ _ _ _ eP).2;have hA:=bJ eP
       simp only[map_cons,map_nil,sum_cons,sum_nil,length_cons,length_nil]at hA;rw[eP,PR.aL]at hr;obtain⟨ae,qe⟩:=kP.at ht ae qe;replace jd:=kP.row ht jd;replace gy:=kP.row ht gy;replace rx:=kP.rep ht rx;replace rk:=kP.rep ht rk;replace kk:=kk.trans kP ht.ab;replace ht:=bU;clear hP eP bU kP;clear aS fS NS kS;have hK:=(H m aj).expr ht rk rfl (PR.aM hr aI);refine pW hK ?_ (λc w' h=>cN.up h hr kk ht);clear hK;rintro _ wP hP;obtain⟨cV,bB,eP,bU,kP⟩:=cO.out hP;have hA:=cQ _ _ _ _ _ _ eP;rw[eP,PR.aL]at hr;obtain⟨ae,qe⟩:=kP.at ht ae qe;replace jd:=kP.row ht jd;replace gy:=kP.row ht gy;replace rx:=kP.rep ht rx;replace rk:=kP.rep ht rk;replace kk:=kk.trans kP ht.ab
       replace ht:=bU;clear hP eP bU kP;refine V1.aG ah λbs ws NS=>?_;have fS:=ht.fu NS.aA NS.ge;have aS:At ws bs (List.map str [[93,32,61,32]]):=NS.at_;have kS:=KO.aA (b:=b) NS.aA;obtain⟨ae,qe⟩:=kS.at ht ae qe;replace jd:=kS.row ht jd;replace gy:=kS.row ht gy;replace rx:=kS.rep ht rx;replace rk:=kS.rep ht rk;replace kk:=kk.trans kS ht.ab;replace ht:=ht.aA NS.aA;have cK:=fQ ht aS fS ak rfl (PR.aM hr aI);refine dw cK ?_ (λc w' h=>cN.up h hr kk ht);clear cK;rintro _ wP hP;obtain⟨cV,bB,eP,bU,kP⟩:=cO.out hP;have jN:=(bW.aO _ _ _ _ _ eP).2;have hA:=bJ eP;simp only[map_cons,map_nil,sum_cons,sum_nil,length_cons,length_nil]at hA;rw[eP,PR.aL]at hr
       obtain⟨ae,qe⟩:=kP.at ht ae qe;replace jd:=kP.row ht jd;replace gy:=kP.row ht gy;replace rx:=kP.rep ht rx;replace rk:=kP.rep ht rk;replace kk:=kk.trans kP ht.ab;replace ht:=bU;clear hP eP bU kP;clear aS fS NS kS;exact⟨_,_,by omega,ht,ae,qe,jd,gy,rx,kk,hr⟩
     |hole=>simp only[PR.bind]at hr;exact absurd hr.symm aI
     |cons=>simp only[PR.bind]at hr;exact absurd hr.symm aI
     |st=>simp only[PR.bind]at hr;exact absurd hr.symm aI
    clear hr ht ae qe jd gy rx kk Ev;rintro w3 ⟨G4,qB,Ev,ht,ae,qe,jd,gy,rx,kk,hr⟩;subst hG2;dsimp only at hr;have hK:=(H m aj).expr ht rx rfl (PR.aM hr aI);refine pW hK ?_ (λc w' h=>cN.up h hr kk ht);clear hK;rintro _ wP hP;obtain⟨cV,bB,eP,bU,kP⟩:=cO.out hP;have hA:=pj eP;rw[eP,PR.aL]at hr;obtain⟨ae,qe⟩:=kP.at ht ae qe;replace jd:=kP.row ht jd;replace gy:=kP.row ht gy;replace rx:=kP.rep ht rx;replace kk:=kk.trans kP ht.ab;replace ht:=bU;clear hP eP bU kP;have gg:=ht.xz;refine V1.i (cC _ _ _ _ _ _ aj aj) ?_;have hd:decide (i+1=0)=false:=by simp
    exact⟨⟨i+1,j',m,kl,l,_,_,by simp,by omega,by omega,by omega,ht,ae,qe,jd.tl,gy,kk,by rw[hd];exact hr⟩,by simp;omega⟩
   |nil=>simp only[bK,PR.bind]at hr;exact absurd hr.symm aI
   |hole=>simp only[bK,PR.bind]at hr;exact absurd hr.symm aI
   |ex=>simp only[bK,PR.bind]at hr;exact absurd hr.symm aI
   |st=>simp only[bK,PR.bind]at hr;exact absurd hr.symm aI
  |hole=>simp only[bK,PR.bind]at hr;exact absurd hr.symm aI
  |ex=>rcases og with⟨h,_⟩|⟨q,_,h⟩;cases h;exact h.elim
  |st=>rcases og with⟨h,_⟩|⟨q,_,h⟩;cases h;exact h.elim
theorem aP.G6{F:Nat->Prop}{w:Wd}{l:Tr}{v:Va}(h:aP F w l (.L v))(hh:l≠.hole):∃a n c,v=.slice a n c/\cI F w l a 0 n:=by
 rcases h.row hh with⟨a',c',rfl,rfl⟩|⟨q,n',c',rfl,h1,_⟩
 .exact⟨_,_,_,rfl,.inl ⟨rfl,rfl⟩⟩
 .exact⟨_,_,_,rfl,.inr ⟨q,rfl,h1⟩⟩
theorem wU{n:Nat}{f:Bool}{b:By}{p:Nat}:bK n (.args .hole f) b p=.bH:=by
 cases n<;>rfl
theorem p63{n:Nat}(H:∀m,m<=n->jM m){w:Wd}{b:Nat}{buf:By}{parts:Nat}{e:Tr}{v:Va}{r:PR}(ht:TX w b buf parts)(re:aP (FO b w) w e (.P v))(hr:bK (n+1) (.expr e) buf parts=r)(aI:r≠.bH):
  Calls prog 63 #[ptr b,v] w (aZ (λ_=>cO w b r) (cN w b r)):=by
 refine s63 ?_;unfold Zn;have kk:=KO.refl b w;have Hn:=H n (le_refl _);simp only[bK]at hr
 cases e with
 |nil=>
  dsimp only at hr;obtain rfl:v=.pointer none:=re;refine V1.i ah ?_;refine J1.go (Gd.ft ?_);refine V1.i ah ?_;refine J1.go (Gd.ft ?_);refine V1.i ah ?_;refine iF (c20 w false 2) ?_ ?_
  .rintro _ w3 ⟨kQ,_⟩
   cases kQ
  .rintro c w3 ⟨_,rfl,rfl⟩;subst hr;exact⟨rfl,kk,ht.ab,ht.gl⟩
 |ex k nn text l rr ks gs ps body=>
  dsimp only at hr;obtain⟨c,line,lv,rv,kv,av,pv,bv,rfl,qe,ae,rl,rq,rk,ra,sp,rb⟩:=re;refine V1.bt (by simp[go_sem,ptr];first|done|rfl|exact⟨rfl,rfl⟩) ?_;refine J1.go (Gd.tt ?_);refine Up.i (Nc.p _ _) ?_;refine V1.i ah ?_;refine V1.load (aC rfl) (ae) rfl ?_;refine V1.i (v:=.bool (decide (1<=k))) (w':=w) au ?_;refine V1.i (v:=.bool (decide (1<=k))) (w':=w) au ?_;refine J1.gd (decide (k<=12)) (λh kx ed=>?_) ?_
  .refine Up.i (Nc.p _ _) ?_;refine V1.i ah ?_;refine V1.load (aC rfl) (ae) rfl ?_;refine V1.i (v:=.bool (decide (k<=12))) (w':=w) au ?_;exact ed
  refine V1.i (gi _ _ _) ?_;by_cases hk:k<1\/12<k
  .rw[if_pos hk]at hr;have hb:(decide (1<=k)&&decide (k<=12))=false:=by
    rw[Bool.and_eq_false_iff];simp;omega
   rw[hb];refine iF (c20 w false 2) ?_ ?_
   .rintro _ w3 ⟨kQ,_⟩
    cases kQ
   .rintro c w3 ⟨_,rfl,rfl⟩;subst hr;exact⟨rfl,kk,ht.ab,ht.gl⟩
  rw[if_neg hk]at hr;have hb:(decide (1<=k)&&decide (k<=12))=true:=by
   rw[and_eq_true];simp;omega
  rw[hb];refine iF (c20 w true 2) ?_ ?_;rotate_left
  .rintro c w3 ⟨kQ,_⟩
   cases kQ
  rintro _ w3 ⟨_,rfl⟩;refine wt (Iy ht rfl) ?_ (λc w' h=>cN.up h hr kk ht);rintro _ wP hP;obtain⟨cV,bB,eP,bU,kP⟩:=cO.out hP;have hA:=bW.part _ _ eP;rw[eP,PR.aL]at hr;obtain⟨ae,qe⟩:=kP.at ht ae qe;replace rl:=kP.rep ht rl;replace rq:=kP.rep ht rq;replace rk:=kP.rep ht rk;replace ra:=kP.rep ht ra;replace sp:=kP.strs ht sp;replace rb:=kP.rep ht rb;replace kk:=kk.trans kP ht.ab;replace ht:=bU;clear hP eP bU kP;refine Up.i (Nc.p _ _) ?_;refine V1.i ah ?_;refine V1.load (aC rfl) (ae) rfl ?_;have jn:k=1\/k=2\/k=3\/k=4\/k=5\/k=6\/k=7\/k=8\/k=9\/k=10\/k=11\/k=12:=by omega
  clear hb hk;rcases jn with rfl|rfl|rfl|rfl|rfl|rfl|rfl|rfl|rfl|rfl|rfl|rfl
  .refine V1.i (cJ _ _ _) ?_;refine If.t ?_;simp only[reduceIte,reduceEq]at hr;refine V1.aG ah λbs ws NS=>?_;have fS:=ht.fu NS.aA NS.ge;have aS:At ws bs (List.map str [lO]):=NS.at_;have kS:=KO.aA (b:=b) NS.aA;obtain⟨ae,qe⟩:=kS.at ht ae qe;replace rl:=kS.rep ht rl;replace rq:=kS.rep ht rq;replace rk:=kS.rep ht rk;replace ra:=kS.rep ht ra;replace sp:=kS.strs ht sp;replace rb:=kS.rep ht rb;replace kk:=kk.trans kS ht.ab;replace ht:=ht.aA NS.aA;have cK:=fQ ht aS fS ak hr aI;refine dw cK (λv w' h=>cO.pre h kk ht) (λc w' h=>cN.pre h kk ht)
  .iterate 1 (refine V1.i (cJ _ _ _) ?_;refine If.f ?_)
   refine V1.i (cJ _ _ _) ?_;refine If.t ?_;simp only[reduceIte,reduceEq]at hr;refine V1.aG ah λbs ws NS=>?_;have fS:=ht.fu NS.aA NS.ge;have aS:At ws bs (List.map str [ie]):=NS.at_;have kS:=KO.aA (b:=b) NS.aA;obtain⟨ae,qe⟩:=kS.at ht ae qe;replace rl:=kS.rep ht rl;replace rq:=kS.rep ht rq;replace rk:=kS.rep ht rk;replace ra:=kS.rep ht ra;replace sp:=kS.strs ht sp;replace rb:=kS.rep ht rb;replace kk:=kk.trans kS ht.ab;replace ht:=ht.aA NS.aA;have cK:=fQ ht aS fS ak hr aI;refine dw cK (λv w' h=>cO.pre h kk ht) (λc w' h=>cN.pre h kk ht)
  .iterate 2 (refine V1.i (cJ _ _ _) ?_;refine If.f ?_)
   refine V1.i (cJ _ _ _) ?_;refine If.t ?_;simp only[reduceIte,reduceEq]at hr;refine V1.aG ah λbs ws NS=>?_;have fS:=ht.fu NS.aA NS.ge;have aS:At ws bs (List.map str [fE]):=NS.at_;have kS:=KO.aA (b:=b) NS.aA;obtain⟨ae,qe⟩:=kS.at ht ae qe;replace rl:=kS.rep ht rl;replace rq:=kS.rep ht rq;replace rk:=kS.rep ht rk;replace ra:=kS.rep ht ra;replace sp:=kS.strs ht sp;replace rb:=kS.rep ht rb;replace kk:=kk.trans kS ht.ab;replace ht:=ht.aA NS.aA;have cK:=fQ ht aS fS ak hr aI;refine dw cK (λv w' h=>cO.pre h kk ht) (λc w' h=>cN.pre h kk ht)
  .iterate 3 (refine V1.i (cJ _ _ _) ?_;refine If.f ?_)
   refine V1.i (cJ _ _ _) ?_;refine If.t ?_;simp only[reduceIte,reduceEq]at hr;by_cases h6:i64 nn=true
   rotate_left
   .rw[if_neg h6]at hr;exact absurd hr.symm aI
   rw[if_pos h6]at hr;have h7:-9223372036854775808<=nn/\nn<=9223372036854775807:=by simpa[i64]using h6
   refine Up.i (Nc.p _ _) ?_;refine V1.i ah ?_;refine V1.load (aC rfl) (ae) rfl ?_;refine Kt (Vb _ _ ht.gl h7.1 h7.2) ?_ (NP.no (e:=_));rintro _ w2 ⟨rfl,K2⟩;have kS:=KO.aA (b:=b) K2;obtain⟨ae,qe⟩:=kS.at ht ae qe;replace rl:=kS.rep ht rl;replace rq:=kS.rep ht rq;replace rk:=kS.rep ht rk;replace ra:=kS.rep ht ra;replace sp:=kS.strs ht sp;replace rb:=kS.rep ht rb;replace kk:=kk.trans kS ht.ab;replace ht:=ht.aA K2;clear kS;refine V1.aG ah λbs ws NS=>?_;have fS:=ht.fu NS.aA NS.ge;have aS:At ws bs (List.map str [Lib.itoa nn]):=NS.at_;have kS:=KO.aA (b:=b) NS.aA;obtain⟨ae,qe⟩:=kS.at ht ae qe;replace rl:=kS.rep ht rl;replace rq:=kS.rep ht rq;replace rk:=kS.rep ht rk
   replace ra:=kS.rep ht ra;replace sp:=kS.strs ht sp;replace rb:=kS.rep ht rb;replace kk:=kk.trans kS ht.ab;replace ht:=ht.aA NS.aA;have cK:=fQ ht aS fS ak hr aI;refine dw cK (λv w' h=>cO.pre h kk ht) (λc w' h=>cN.pre h kk ht)
  .iterate 4 (refine V1.i (cJ _ _ _) ?_;refine If.f ?_)
   refine V1.i (cJ _ _ _) ?_;refine If.t ?_;simp only[reduceIte,reduceEq]at hr;refine Up.i (Nc.p _ _) ?_;refine V1.i ah ?_;refine V1.load (aC rfl) (ae) rfl ?_;refine JQ (Wi _ _) ?_ (NP.no (e:=_));rintro _ w2 ⟨rfl,K2⟩;have kS:=KO.aA (b:=b) K2;obtain⟨ae,qe⟩:=kS.at ht ae qe;replace rl:=kS.rep ht rl;replace rq:=kS.rep ht rq;replace rk:=kS.rep ht rk;replace ra:=kS.rep ht ra;replace sp:=kS.strs ht sp;replace rb:=kS.rep ht rb;replace kk:=kk.trans kS ht.ab;replace ht:=ht.aA K2;clear kS;refine V1.aG ah λbs ws NS=>?_;have fS:=ht.fu NS.aA NS.ge;have aS:At ws bs (List.map str [jC text]):=NS.at_;have kS:=KO.aA (b:=b) NS.aA;obtain⟨ae,qe⟩:=kS.at ht ae qe
   replace rl:=kS.rep ht rl;replace rq:=kS.rep ht rq;replace rk:=kS.rep ht rk;replace ra:=kS.rep ht ra;replace sp:=kS.strs ht sp;replace rb:=kS.rep ht rb;replace kk:=kk.trans kS ht.ab;replace ht:=ht.aA NS.aA;have cK:=fQ ht aS fS ak hr aI;refine dw cK (λv w' h=>cO.pre h kk ht) (λc w' h=>cN.pre h kk ht)
  .iterate 5 (refine V1.i (cJ _ _ _) ?_;refine If.f ?_)
   refine V1.i (cJ _ _ _) ?_;refine If.t ?_;simp only[reduceIte,reduceEq]at hr;refine Up.i (Nc.p _ _) ?_;refine V1.i ah ?_;refine V1.load (aC rfl) (ae) rfl ?_;refine V1.aG ah λbs ws NS=>?_;have fS:=ht.fu NS.aA NS.ge;have aS:At ws bs (List.map str [text]):=NS.at_;have kS:=KO.aA (b:=b) NS.aA;obtain⟨ae,qe⟩:=kS.at ht ae qe;replace rl:=kS.rep ht rl;replace rq:=kS.rep ht rq;replace rk:=kS.rep ht rk;replace ra:=kS.rep ht ra;replace sp:=kS.strs ht sp;replace rb:=kS.rep ht rb;replace kk:=kk.trans kS ht.ab;replace ht:=ht.aA NS.aA;have cK:=fQ ht aS fS ak hr aI;refine dw cK (λv w' h=>cO.pre h kk ht) (λc w' h=>cN.pre h kk ht)
  .iterate 6 (refine V1.i (cJ _ _ _) ?_;refine If.f ?_)
   refine V1.i (cJ _ _ _) ?_;refine If.t ?_;simp only[reduceIte,reduceEq]at hr;by_cases h6:(kn l&&kn rr)=true
   rotate_left
   .rw[if_neg h6]at hr;exact absurd hr.symm aI
   rw[if_pos h6]at hr;rw[and_eq_true]at h6;refine Up.i (Nc.p _ _) ?_;refine V1.i ah ?_;refine V1.load (aC rfl) (ae) rfl ?_;have hK:=Ob Hn h6.1 ht rl rfl (PR.aM hr aI);refine DB hK ?_ (λc w' h=>cN.up h hr kk ht);clear hK;rintro _ wP hP;obtain⟨cV,bB,eP,bU,kP⟩:=cO.out hP;have hA:=cQ _ _ _ _ _ _ eP;rw[eP,PR.aL]at hr;obtain⟨ae,qe⟩:=kP.at ht ae qe;replace rl:=kP.rep ht rl;replace rq:=kP.rep ht rq;replace rk:=kP.rep ht rk;replace ra:=kP.rep ht ra;replace sp:=kP.strs ht sp;replace rb:=kP.rep ht rb;replace kk:=kk.trans kP ht.ab;replace ht:=bU;clear hP eP bU kP;refine Up.i (Nc.p _ _) ?_;refine V1.i ah ?_;refine V1.load (aC rfl) (ae) rfl ?_;refine yc (GX rq h6.2 ht.gl) ?_ (NP.no (e:=_))
   rintro _ w2 ⟨rfl,K2⟩;have kS:=KO.aA (b:=b) K2;obtain⟨ae,qe⟩:=kS.at ht ae qe;replace rl:=kS.rep ht rl;replace rq:=kS.rep ht rq;replace rk:=kS.rep ht rk;replace ra:=kS.rep ht ra;replace sp:=kS.strs ht sp;replace rb:=kS.rep ht rb;replace kk:=kk.trans kS ht.ab;replace ht:=ht.aA K2;clear kS
   cases rr with
   |nil=>
    refine If.f ?_;refine V1.aG ah λbs ws NS=>?_;have fS:=ht.fu NS.aA NS.ge;have aS:At ws bs (List.map str [[91]]):=NS.at_;have kS:=KO.aA (b:=b) NS.aA;obtain⟨ae,qe⟩:=kS.at ht ae qe;replace rl:=kS.rep ht rl;replace rq:=kS.rep ht rq;replace rk:=kS.rep ht rk;replace ra:=kS.rep ht ra;replace sp:=kS.strs ht sp;replace rb:=kS.rep ht rb;replace kk:=kk.trans kS ht.ab;replace ht:=ht.aA NS.aA;have cK:=fQ ht aS fS ak rfl (PR.aM hr aI);refine dw cK ?_ (λc w' h=>cN.up h hr kk ht);clear cK;rintro _ wP hP;obtain⟨cV,bB,eP,bU,kP⟩:=cO.out hP;have jN:=(bW.aO _ _ _ _ _ eP).2;have hA:=bJ eP;simp only[map_cons,map_nil,sum_cons,sum_nil,length_cons,length_nil]at hA
    rw[eP,PR.aL]at hr;obtain⟨ae,qe⟩:=kP.at ht ae qe;replace rl:=kP.rep ht rl;replace rq:=kP.rep ht rq;replace rk:=kP.rep ht rk;replace ra:=kP.rep ht ra;replace sp:=kP.strs ht sp;replace rb:=kP.rep ht rb;replace kk:=kk.trans kP ht.ab;replace ht:=bU;clear hP eP bU kP;clear aS fS NS kS;refine Up.i (Nc.p _ _) ?_;refine V1.i ah ?_;refine V1.load (aC rfl) (ae) rfl ?_;have hK:=Hn.expr ht rq rfl (PR.aM hr aI);refine pW hK ?_ (λc w' h=>cN.up h hr kk ht);clear hK;rintro _ wP hP;obtain⟨cV,bB,eP,bU,kP⟩:=cO.out hP;have hA:=cQ _ _ _ _ _ _ eP;rw[eP,PR.aL]at hr;obtain⟨ae,qe⟩:=kP.at ht ae qe;replace rl:=kP.rep ht rl;replace rq:=kP.rep ht rq;replace rk:=kP.rep ht rk;replace ra:=kP.rep ht ra
    replace sp:=kP.strs ht sp;replace rb:=kP.rep ht rb;replace kk:=kk.trans kP ht.ab;replace ht:=bU;clear hP eP bU kP;refine V1.aG ah λbs ws NS=>?_;have fS:=ht.fu NS.aA NS.ge;have aS:At ws bs (List.map str [[93]]):=NS.at_;have kS:=KO.aA (b:=b) NS.aA;obtain⟨ae,qe⟩:=kS.at ht ae qe;replace rl:=kS.rep ht rl;replace rq:=kS.rep ht rq;replace rk:=kS.rep ht rk;replace ra:=kS.rep ht ra;replace sp:=kS.strs ht sp;replace rb:=kS.rep ht rb;replace kk:=kk.trans kS ht.ab;replace ht:=ht.aA NS.aA;have cK:=fQ ht aS fS ak hr aI;refine dw cK (λv w' h=>cO.pre h kk ht) (λc w' h=>cN.pre h kk ht)
   |ex k1 n1 t1 l1 r1 RX I9 RY b1=>
    dsimp only at hr
    cases hq:ij (.ex k1 n1 t1 l1 r1 RX I9 RY b1)with
    |true=>
     rw[hq,if_pos rfl]at hr;refine If.t ?_;refine wt (Iy ht rfl) ?_ (λc w' h=>cN.up h hr kk ht);rintro _ wP hP;obtain⟨cV,bB,eP,bU,kP⟩:=cO.out hP;have hA:=bW.part _ _ eP;rw[eP,PR.aL]at hr;obtain⟨ae,qe⟩:=kP.at ht ae qe;replace rl:=kP.rep ht rl;replace rq:=kP.rep ht rq;replace rk:=kP.rep ht rk;replace ra:=kP.rep ht ra;replace sp:=kP.strs ht sp;replace rb:=kP.rep ht rb;replace kk:=kk.trans kP ht.ab;replace ht:=bU;clear hP eP bU kP;refine Up.i (Nc.p _ _) ?_;refine V1.i ah ?_;refine V1.load (aC rfl) (ae) rfl ?_;have hu:∃c2 x1 x2 x3 x4 x5 x6 x7,rv=ptr c2/\At wP c2 [.int .i64 k1,.int .i64 x1,.int .i64 n1,str t1,x2,x3,x4,x5,x6,x7]:=by
      obtain⟨c2,x1,x2,x3,x4,x5,x6,x7,ri,q2,mv,_⟩:=rq;exact⟨c2,x1,x2,x3,x4,x5,x6,x7,ri,mv⟩
     obtain⟨c2,x1,x2,x3,x4,x5,x6,x7,ri,mv⟩:=hu;rw[ri];refine Up.i (Nc.p _ _) ?_;refine V1.i ah ?_;refine V1.load (aC rfl) (mv) rfl ?_;refine V1.aG ah λbs ws NS=>?_;have fS:=ht.fu NS.aA NS.ge;have aS:At ws bs (List.map str [[46],t1]):=NS.at_;have kS:=KO.aA (b:=b) NS.aA;obtain⟨ae,qe⟩:=kS.at ht ae qe;replace rl:=kS.rep ht rl;replace rq:=kS.rep ht rq;replace rk:=kS.rep ht rk;replace ra:=kS.rep ht ra;replace sp:=kS.strs ht sp;replace rb:=kS.rep ht rb;replace kk:=kk.trans kS ht.ab;replace ht:=ht.aA NS.aA;have cK:=fQ ht aS fS ak hr aI;refine dw cK (λv w' h=>cO.pre h kk ht) (λc w' h=>cN.pre h kk ht)
    |false=>
     rw[hq,if_neg Bool.false_ne_true]at hr;refine If.f ?_;refine V1.aG ah λbs ws NS=>?_;have fS:=ht.fu NS.aA NS.ge;have aS:At ws bs (List.map str [[91]]):=NS.at_;have kS:=KO.aA (b:=b) NS.aA;obtain⟨ae,qe⟩:=kS.at ht ae qe;replace rl:=kS.rep ht rl;replace rq:=kS.rep ht rq;replace rk:=kS.rep ht rk;replace ra:=kS.rep ht ra;replace sp:=kS.strs ht sp;replace rb:=kS.rep ht rb;replace kk:=kk.trans kS ht.ab;replace ht:=ht.aA NS.aA;have cK:=fQ ht aS fS ak rfl (PR.aM hr aI);refine dw cK ?_ (λc w' h=>cN.up h hr kk ht);clear cK;rintro _ wP hP;obtain⟨cV,bB,eP,bU,kP⟩:=cO.out hP;have jN:=(bW.aO _ _ _ _ _ eP).2;have hA:=bJ eP
     simp only[map_cons,map_nil,sum_cons,sum_nil,length_cons,length_nil]at hA;rw[eP,PR.aL]at hr;obtain⟨ae,qe⟩:=kP.at ht ae qe;replace rl:=kP.rep ht rl;replace rq:=kP.rep ht rq;replace rk:=kP.rep ht rk;replace ra:=kP.rep ht ra;replace sp:=kP.strs ht sp;replace rb:=kP.rep ht rb;replace kk:=kk.trans kP ht.ab;replace ht:=bU;clear hP eP bU kP;clear aS fS NS kS;refine Up.i (Nc.p _ _) ?_;refine V1.i ah ?_;refine V1.load (aC rfl) (ae) rfl ?_;have hK:=Hn.expr ht rq rfl (PR.aM hr aI);refine pW hK ?_ (λc w' h=>cN.up h hr kk ht);clear hK;rintro _ wP hP;obtain⟨cV,bB,eP,bU,kP⟩:=cO.out hP;have hA:=cQ _ _ _ _ _ _ eP;rw[eP,PR.aL]at hr;obtain⟨ae,qe⟩:=kP.at ht ae qe
     replace rl:=kP.rep ht rl;replace rq:=kP.rep ht rq;replace rk:=kP.rep ht rk;replace ra:=kP.rep ht ra;replace sp:=kP.strs ht sp;replace rb:=kP.rep ht rb;replace kk:=kk.trans kP ht.ab;replace ht:=bU;clear hP eP bU kP;refine V1.aG ah λbs ws NS=>?_;have fS:=ht.fu NS.aA NS.ge;have aS:At ws bs (List.map str [[93]]):=NS.at_;have kS:=KO.aA (b:=b) NS.aA;obtain⟨ae,qe⟩:=kS.at ht ae qe;replace rl:=kS.rep ht rl;replace rq:=kS.rep ht rq;replace rk:=kS.rep ht rk;replace ra:=kS.rep ht ra;replace sp:=kS.strs ht sp;replace rb:=kS.rep ht rb;replace kk:=kk.trans kS ht.ab;replace ht:=ht.aA NS.aA;have cK:=fQ ht aS fS ak hr aI;refine dw cK (λv w' h=>cO.pre h kk ht) (λc w' h=>cN.pre h kk ht)
   |hole=>cases h6.2
   |cons=>cases h6.2
   |st=>cases h6.2
  .iterate 7 (refine V1.i (cJ _ _ _) ?_;refine If.f ?_)
   refine V1.i (cJ _ _ _) ?_;refine If.t ?_;simp only[reduceIte,reduceEq]at hr;by_cases h6:kn l=true
   rotate_left
   .rw[if_neg h6]at hr;exact absurd hr.symm aI
   rw[if_pos h6]at hr;refine Up.i (Nc.p _ _) ?_;refine V1.i ah ?_;refine V1.load (aC rfl) (ae) rfl ?_;have hK:=Ob Hn h6 ht rl rfl (PR.aM hr aI);refine DB hK ?_ (λc w' h=>cN.up h hr kk ht);clear hK;rintro _ wP hP;obtain⟨cV,bB,eP,bU,kP⟩:=cO.out hP;have hA:=cQ _ _ _ _ _ _ eP;rw[eP,PR.aL]at hr;obtain⟨ae,qe⟩:=kP.at ht ae qe;replace rl:=kP.rep ht rl;replace rq:=kP.rep ht rq;replace rk:=kP.rep ht rk;replace ra:=kP.rep ht ra;replace sp:=kP.strs ht sp;replace rb:=kP.rep ht rb;replace kk:=kk.trans kP ht.ab;replace ht:=bU;clear hP eP bU kP;refine V1.aG ah λbs ws NS=>?_;have fS:=ht.fu NS.aA NS.ge;have aS:At ws bs (List.map str [[40]]):=NS.at_;have kS:=KO.aA (b:=b) NS.aA
   obtain⟨ae,qe⟩:=kS.at ht ae qe;replace rl:=kS.rep ht rl;replace rq:=kS.rep ht rq;replace rk:=kS.rep ht rk;replace ra:=kS.rep ht ra;replace sp:=kS.strs ht sp;replace rb:=kS.rep ht rb;replace kk:=kk.trans kS ht.ab;replace ht:=ht.aA NS.aA;have cK:=fQ ht aS fS ak rfl (PR.aM hr aI);refine dw cK ?_ (λc w' h=>cN.up h hr kk ht);clear cK;rintro _ wP hP;obtain⟨cV,bB,eP,bU,kP⟩:=cO.out hP;have jN:=(bW.aO _ _ _ _ _ eP).2;have hA:=bJ eP;simp only[map_cons,map_nil,sum_cons,sum_nil,length_cons,length_nil]at hA;rw[eP,PR.aL]at hr;obtain⟨ae,qe⟩:=kP.at ht ae qe;replace rl:=kP.rep ht rl;replace rq:=kP.rep ht rq;replace rk:=kP.rep ht rk;replace ra:=kP.rep ht ra;replace sp:=kP.strs ht sp
   replace rb:=kP.rep ht rb;replace kk:=kk.trans kP ht.ab;replace ht:=bU;clear hP eP bU kP;clear aS fS NS kS;have hh:gs≠.hole:=by
    rintro rfl;rw[wU]at hr;exact aI hr.symm
   obtain⟨aa,xz,ac,rfl,og⟩:=ra.G6 hh;refine Up.i (Nc.p _ _) ?_;refine V1.i ah ?_;refine V1.load (aC rfl) (ae) rfl ?_;refine V1.i ah ?_;refine L1.i (λv w'=>∃i j m tJ buf parts,v=.int .i64 (i:Nat)/\i+j=xz/\i<=parts/\m<=n/\TX w' b buf parts/\cI (FO b w') w' tJ aa i j/\KO b w3 w'/\(bK m (.args tJ (decide (i=0))) buf parts).bind (λb p=>aO [[41]] b p)=r) (λv w'=>match v with|.int _ n=>(xz-n.toNat)|_=>0) ⟨0,xz,n,gs,_,_,rfl,by omega,by omega,le_refl _,ht,og,kk,hr⟩ ?_;clear ht ae qe og kk hr rk ra rl rq sp rb;rintro v w1 ⟨i,j,m,tJ,buf,parts,rfl,tC,Ev,hm,ht,og,kk,hr⟩
   cases m with
   |zero=>simp only[bK,PR.bind]at hr;exact absurd hr.symm aI
   |succ m=>
    cases tJ with
    |nil=>
     have hj:j=0:=by
      rcases og with⟨_,h⟩|⟨q,_,h⟩
      .exact h
      .exact h
     subst hj;simp only[bK,PR.aL]at hr;refine V1.bf ay ?_;refine If.f ?_;refine V1.aG ah λbs ws NS=>?_;have fS:=ht.fu NS.aA NS.ge;have aS:At ws bs (List.map str [[41]]):=NS.at_;have kS:=KO.aA (b:=b) NS.aA;replace kk:=kk.trans kS ht.ab;replace ht:=ht.aA NS.aA;have cK:=fQ ht aS fS ak hr aI;refine dw cK (λv w' h=>cO.pre h kk ht) (λc w' h=>cN.pre h kk ht)
    |cons x l=>
     rcases og with⟨h,_⟩|⟨q,rfl,j',u,rfl,hc,hf,rx,rl⟩
     .cases h
     have gy:cI (FO b w1) w1 l (some ⟨q,0,none⟩) (i+1) j':=.inr ⟨q,rfl,rl⟩;have gg:=ht.xz;simp only[bK,PR.bind_assoc]at hr;obtain⟨G,hG,hr⟩:=qA hr;refine V1.bt ay ?_;refine If.t ?_;refine V1.i (mL aj) ?_;refine V1.i ((aC rfl) _ _ _ hc) ?_;clear rl hc hf;refine J0.cut (λw'=>∃uI iM,i<=iM/\TX w' b uI iM/\cI (FO b w') w' l (some ⟨q,0,none⟩) (i+1) j'/\aP (FO b w') w' x (.P u)/\KO b w3 w'/\G uI iM=r) ?_ ?_
     .rcases Nat.eq_zero_or_pos i with rfl|h0
      .refine V1.i ah ?_;refine If.f ?_;simp only[decide_true,if_true,aO,PR.aL]at hr;exact⟨_,_,by omega,ht,gy,rx,kk,hr⟩
      .rw[show decide (i=0)=false by simp;omega]at hr;simp only[false_eq_true,if_false]at hr;refine V1.bt ay ?_;refine If.t ?_;refine V1.aG ah λbs ws NS=>?_;have fS:=ht.fu NS.aA NS.ge;have aS:At ws bs (List.map str [[44,32]]):=NS.at_;have kS:=KO.aA (b:=b) NS.aA;replace gy:=kS.row ht gy;replace rx:=kS.rep ht rx;replace kk:=kk.trans kS ht.ab;replace ht:=ht.aA NS.aA;have cK:=fQ ht aS fS ak rfl (PR.aM hr aI);refine dw cK ?_ (λc w' h=>cN.up h hr kk ht);clear cK;rintro _ wP hP;obtain⟨cV,bB,eP,bU,kP⟩:=cO.out hP;have jN:=(bW.aO _ _ _ _ _ eP).2;have hA:=bJ eP;simp only[map_cons,map_nil,sum_cons,sum_nil,length_cons,length_nil]at hA
       rw[eP,PR.aL]at hr;replace gy:=kP.row ht gy;replace rx:=kP.rep ht rx;replace kk:=kk.trans kP ht.ab;replace ht:=bU;clear hP eP bU kP;clear aS fS NS kS;exact⟨_,_,by omega,ht,gy,rx,kk,hr⟩
     clear hr ht gy rx kk Ev gg;rintro w2 ⟨uI,iM,Ev,ht,gy,rx,kk,hr⟩;subst hG;dsimp only at hr;have hK:=(H m aj).expr ht rx rfl (PR.aM hr aI);refine pW hK ?_ (λc w' h=>cN.up h hr kk ht);clear hK;rintro _ wP hP;obtain⟨cV,bB,eP,bU,kP⟩:=cO.out hP;have hA:=pj eP;rw[eP,PR.aL]at hr;replace gy:=kP.row ht gy;replace rx:=kP.rep ht rx;replace kk:=kk.trans kP ht.ab;replace ht:=bU;clear hP eP bU kP;have gg:=ht.xz;refine V1.i (cC _ _ _ _ _ _ aj aj) ?_;have hd:decide (i+1=0)=false:=by simp
     exact⟨⟨i+1,j',m,l,_,_,by simp,by omega,by omega,by omega,ht,gy,kk,by rw[hd];exact hr⟩,by simp;omega⟩
    |hole=>simp only[bK,PR.bind]at hr;exact absurd hr.symm aI
    |ex=>rcases og with⟨h,_⟩|⟨q,_,h⟩;cases h;exact h.elim
    |st=>rcases og with⟨h,_⟩|⟨q,_,h⟩;cases h;exact h.elim
  .iterate 8 (refine V1.i (cJ _ _ _) ?_;refine If.f ?_)
   refine V1.i (cJ _ _ _) ?_;refine If.t ?_;simp only[reduceIte,reduceEq]at hr;refine V1.aG ah λbs ws NS=>?_;have fS:=ht.fu NS.aA NS.ge;have aS:At ws bs (List.map str [bR]):=NS.at_;have kS:=KO.aA (b:=b) NS.aA;obtain⟨ae,qe⟩:=kS.at ht ae qe;replace rl:=kS.rep ht rl;replace rq:=kS.rep ht rq;replace rk:=kS.rep ht rk;replace ra:=kS.rep ht ra;replace sp:=kS.strs ht sp;replace rb:=kS.rep ht rb;replace kk:=kk.trans kS ht.ab;replace ht:=ht.aA NS.aA;have cK:=fQ ht aS fS ak rfl (PR.aM hr aI);refine dw cK ?_ (λc w' h=>cN.up h hr kk ht);clear cK;rintro _ wP hP;obtain⟨cV,bB,eP,bU,kP⟩:=cO.out hP;have jN:=(bW.aO _ _ _ _ _ eP).2;have hA:=bJ eP
   simp only[map_cons,map_nil,sum_cons,sum_nil,length_cons,length_nil]at hA;rw[eP,PR.aL]at hr;obtain⟨ae,qe⟩:=kP.at ht ae qe;replace rl:=kP.rep ht rl;replace rq:=kP.rep ht rq;replace rk:=kP.rep ht rk;replace ra:=kP.rep ht ra;replace sp:=kP.strs ht sp;replace rb:=kP.rep ht rb;replace kk:=kk.trans kP ht.ab;replace ht:=bU;clear hP eP bU kP;clear aS fS NS kS;have hK:=Hn.func ht ⟨c,line,lv,rv,kv,av,pv,bv,rfl,qe,ae,rl,rq,rk,ra,sp,rb⟩ hr aI;refine JM hK (λv w' h=>cO.pre h kk ht) (λc w' h=>cN.pre h kk ht)
  .iterate 9 (refine V1.i (cJ _ _ _) ?_;refine If.f ?_)
   refine V1.i (cJ _ _ _) ?_;refine If.t ?_;simp only[reduceIte,reduceEq]at hr;by_cases h6:kn rr=true
   rotate_left
   .rw[if_neg h6]at hr;exact absurd hr.symm aI
   rw[if_pos h6]at hr;refine Up.i (Nc.p _ _) ?_;refine V1.i ah ?_;refine V1.load (aC rfl) (ae) rfl ?_;refine V1.aG ah λbs ws NS=>?_;have fS:=ht.fu NS.aA NS.ge;have aS:At ws bs (List.map str [text,[32]]):=NS.at_;have kS:=KO.aA (b:=b) NS.aA;obtain⟨ae,qe⟩:=kS.at ht ae qe;replace rl:=kS.rep ht rl;replace rq:=kS.rep ht rq;replace rk:=kS.rep ht rk;replace ra:=kS.rep ht ra;replace sp:=kS.strs ht sp;replace rb:=kS.rep ht rb;replace kk:=kk.trans kS ht.ab;replace ht:=ht.aA NS.aA;have cK:=fQ ht aS fS ak rfl (PR.aM hr aI);refine dw cK ?_ (λc w' h=>cN.up h hr kk ht);clear cK;rintro _ wP hP;obtain⟨cV,bB,eP,bU,kP⟩:=cO.out hP;have jN:=(bW.aO _ _ _ _ _ eP).2;have hA:=bJ eP
   simp only[map_cons,map_nil,sum_cons,sum_nil,length_cons,length_nil]at hA;rw[eP,PR.aL]at hr;obtain⟨ae,qe⟩:=kP.at ht ae qe;replace rl:=kP.rep ht rl;replace rq:=kP.rep ht rq;replace rk:=kP.rep ht rk;replace ra:=kP.rep ht ra;replace sp:=kP.strs ht sp;replace rb:=kP.rep ht rb;replace kk:=kk.trans kP ht.ab;replace ht:=bU;clear hP eP bU kP;clear aS fS NS kS;have K1:aD [] wP wP.drew:=(aD.refl _ _).drew;have kS:=KO.aA (b:=b) K1;obtain⟨ae,qe⟩:=kS.at ht ae qe;replace rl:=kS.rep ht rl;replace rq:=kS.rep ht rq;replace rk:=kS.rep ht rk;replace ra:=kS.rep ht ra;replace sp:=kS.strs ht sp;replace rb:=kS.rep ht rb;replace kk:=kk.trans kS ht.ab;replace ht:=ht.aA K1;clear kS
   cases rr with
   |nil=>
    obtain rfl:rv=.pointer none:=rq;refine⟨λw'=>At w' c [.int .i64 10,.int .i64 line,.int .i64 nn,str text,lv,.pointer none,kv,av,pv,bv],ae,?_⟩;refine⟨_,λw' _=>Nc.p _ w',?_⟩;refine Xw.i _ (λw' _=>by simp[go_sem]<;>trivial) ?_;refine Xw.i _ (λw' hw=>(aC rfl) _ _ _ (by rw[hw.cell];rfl)) ?_;refine⟨_,λw' _=>Nc.p _ w',?_⟩;refine Xw.i _ (λw' _=>by simp[go_sem]<;>trivial) ?_;refine Xw.i _ (λw' hw=>(aC rfl) _ _ _ (by rw[hw.cell];rfl)) ?_;refine Xw.i _ (λw' _=>by simp[go_sem]<;>trivial) ?_;refine J1.go (Gd.ft ?_);refine Xw.i _ (λw' _=>by simp[go_sem]<;>trivial) ?_;have hK:=Hn.inner (around:=false) (e:=.nil) rfl ht (show aP _ _ .nil (.P (.pointer none))from rfl) hr aI;refine oY hK (λv w' h=>cO.pre h kk ht) (λc w' h=>cN.pre h kk ht)
   |ex k1 n1 t1 l1 r1 RX I9 RY b1=>
    have hu:∃c2 x1 x2 x3 x4 x5 x6 x7,rv=ptr c2/\At wP.drew c2 [.int .i64 k1,.int .i64 x1,.int .i64 n1,str t1,x2,x3,x4,x5,x6,x7]:=by
     obtain⟨c2,x1,x2,x3,x4,x5,x6,x7,ri,q2,mv,_⟩:=rq;exact⟨c2,x1,x2,x3,x4,x5,x6,x7,ri,mv⟩
    obtain⟨c2,x1,x2,x3,x4,x5,x6,x7,rfl,mv⟩:=hu;refine⟨λw'=>At w' c [.int .i64 10,.int .i64 line,.int .i64 nn,str text,lv,ptr c2,kv,av,pv,bv]/\At w' c2 [.int .i64 k1,.int .i64 x1,.int .i64 n1,str t1,x2,x3,x4,x5,x6,x7],⟨ae,mv⟩,?_⟩;refine⟨_,λw' _=>Nc.p _ w',?_⟩;refine Xw.i _ (λw' _=>by simp[go_sem]<;>trivial) ?_;refine Xw.i _ (λw' hw=>(aC rfl) _ _ _ (by rw[hw.1.cell];rfl)) ?_;refine⟨_,λw' _=>Nc.p _ w',?_⟩;refine Xw.i _ (λw' _=>by simp[go_sem]<;>trivial) ?_;refine Xw.i _ (λw' hw=>(aC rfl) _ _ _ (by rw[hw.1.cell];rfl)) ?_;refine Xw.i (.bool true) (λw' _=>by simp[go_sem,ptr];first|done|rfl|exact⟨rfl,rfl⟩) ?_;refine J1.go (Gd.tt ?_);refine⟨_,λw' _=>Nc.p _ w',?_⟩;refine Xw.i _ (λw' _=>by simp[go_sem]<;>trivial) ?_
    refine Xw.i _ (λw' hw=>(aC rfl) _ _ _ (by rw[hw.1.cell];rfl)) ?_;refine⟨_,λw' _=>Nc.p _ w',?_⟩;refine Xw.i _ (λw' _=>by simp[go_sem]<;>trivial) ?_;refine Xw.i _ (λw' hw=>(aC rfl) _ _ _ (by rw[hw.2.cell];rfl)) ?_;refine Xw.i (.bool (k1==11)) (λw' _=>cJ _ _ _) ?_;refine Xw.i (.bool (k1==11)) (λw' _=>by simp[go_sem]) ?_;have hK:=Hn.inner (around:=k1==11) h6 ht rq hr aI;refine oY hK (λv w' h=>cO.pre h kk ht) (λc w' h=>cN.pre h kk ht)
   |hole=>cases h6
   |cons=>cases h6
   |st=>cases h6
  .iterate 10 (refine V1.i (cJ _ _ _) ?_;refine If.f ?_)
   refine V1.i (cJ _ _ _) ?_;refine If.t ?_;simp only[reduceIte,reduceEq]at hr;by_cases h6:(kn l&&kn rr)=true
   rotate_left
   .rw[if_neg h6]at hr;exact absurd hr.symm aI
   rw[if_pos h6]at hr;rw[and_eq_true]at h6;have hK:=Wn Hn ht ⟨c,line,lv,rv,kv,av,pv,bv,rfl,qe,ae,rl,rq,rk,ra,sp,rb⟩ h6.1 h6.2 hr aI;refine JV hK (λv w' h=>cO.pre h kk ht) (λc w' h=>cN.pre h kk ht)
  .iterate 11 (refine V1.i (cJ _ _ _) ?_;refine If.f ?_)
   refine V1.i (cJ _ _ _) ?_;refine If.t ?_;simp only[reduceIte,reduceEq]at hr;by_cases h6:(dM ks&&dM gs)=false
   .rw[if_pos h6]at hr;exact absurd hr.symm aI
   rw[if_neg h6]at hr;rw[Bool.not_eq_false,and_eq_true]at h6;have hK:=Wo H ht ⟨c,line,lv,rv,kv,av,pv,bv,rfl,qe,ae,rl,rq,rk,ra,sp,rb⟩ h6.1 h6.2 hr aI;refine JX hK (λv w' h=>cO.pre h kk ht) (λc w' h=>cN.pre h kk ht)
 |hole=>exact absurd hr.symm aI
 |cons=>exact absurd hr.symm aI
 |st=>exact absurd hr.symm aI
theorem Cy:∀n,jM n:=by
 intro n;induction n using Nat.strongRecOn with
 |ind n ih=>
  cases n with
  |zero=>
   constructor<;>intros<;>exact absurd (by assumption:bK 0 _ _ _=_).symm aw
  |succ n=>
   have H:∀m,m<=n->jM m:=λm hm=>ih m aj;have Hn:=H n (le_refl _);exact{expr:=p63 H,stmt:=p35 Hn,stmts:=p18 H,block:=p67 Hn,more:=p62 Hn,within:=p65 Hn,branch:=p66 Hn,func:=p68 Hn,inner:=λhk ht re=>Wk Hn (re.sI (by rintro rfl;cases hk)) ht re}
end Go.Proofs.YtoddjlclpnoomaaGreatDoor

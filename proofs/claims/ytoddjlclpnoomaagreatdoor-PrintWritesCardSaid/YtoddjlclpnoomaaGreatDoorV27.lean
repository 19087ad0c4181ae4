import Derived.LaidMore
import Derived.Lay
import Derived.Lib.LaidU8T
import Derived.OpenShut
import Derived.PinnedBridge
import Derived.ProofKit
import Derived.SevenTiedAt
import Derived.Stop.Joined
import Derived.Stop.LaidErr
import Derived.Test.YtoddjlclpnoomaaGreatDoorTie
import Derived.Test.YtoddjlclpnoomaaGreatDoorV26
set_option linter.unusedVariables false
set_option linter.unusedSimpArgs false
set_option maxRecDepth 100000
open Go.Proofs.Tryz
open List (mem_filter mem_range mem_singleton toList_toArray set_cons_zero set_cons_succ)
open Nat (lt_or_ge le_of_ble_eq_true le_refl)
open Go.Value (cells)
open Bool (and_eq_true)
open Go.World (cell?)
namespace Go.Proofs.YtoddjlclpnoomaaGreatDoor
open Go.Sh
set_option maxHeartbeats 4000000 in
theorem c43{n:Nat}(Hn:zE n){lo:Nat}{w:Wd}{bm bs k:Nat}{line:Int}{l:By}{p:Nat}{d:Int}(hn:cG (.fill k d)<=n+1)(hk:k<12)(oN:sG (.fill k d))(zh:d<=100)(hd2:-200<=d)(hb:p+40*l.length+10*(n+1)<=1000000)(ms:MS lo w bm l p)(Cu:lo<=bs)
  (ae:At w bs [.int .i64 (k:Nat),.int .i64 line,str [],.pointer none,.pointer none,.pointer none,.slice none 0 0,.slice none 0 0]):
  Calls prog 43 #[ptr bm,ptr bs,.int .i64 d] w (aZ (λ_ w'=>∃nm x r tt a b l' p',mk (n+1) (.fill k d) l p=.ok (.st k nm x r tt a b) l' p'/\MS lo w' bm l' p'/\
   (∃lv rv tv av bv,At w' bs [.int .i64 (k:Nat),.int .i64 line,str nm,lv,rv,tv,av,bv]/\aP (Fr w.heap.size []) w' x (.P lv)/\aP (Fr w.heap.size []) w' r (.P rv)/\aP (Fr w.heap.size []) w' tt (.P tv)/\aP (Fr w.heap.size []) w' a (.L av)/\aP (Fr w.heap.size []) w' b (.L bv))/\aD [bm,bs] w w') NP):=by
 refine s43 ?_;unfold S43;have kk:=aD.refl [bm,bs] w;have vw:bm<lo:=ms.1;have eW:lo<=w.heap.size:=ms.2.1;have IB:bs<w.heap.size:=ae.lt;have t1:=bP l;have t2:=bP l.tail;have t3:=bP l.tail.tail;unfold ptr;refine Up.i (Nc.p _ _) ?_;refine V1.i ah ?_;refine V1.load (aC rfl) (ae) rfl ?_;by_cases OK:k=0\/k=9
 .have oM:mk (n+1) (.fill k d) l p=.ok (.st k [] .nil .nil .nil .nil .nil) l p:=by
   rcases OK with rfl|rfl<;>simp only[mk]
  rcases OK with rfl|rfl<;>
  .iterate 10 (refine V1.bf au ?_;refine If.f ?_)
   exact⟨_,_,_,_,_,_,_,_,oM,ms,⟨_,_,_,_,_,ae,cY,cY,cY,cL,cL⟩,kk⟩
 have RM:0<=d:=by
  rcases oN with h|h
  .exact absurd (.inr h) OK
  .exact h
 rw[cG,if_neg (λh=>OK (.inr h))]at hn;have ne:cG (.expr d)<=n:=by simp only[cG];omega
 have ns:cG (.stmts d)<=n:=by simp only[cG];omega
 have jn:k=1\/k=2\/k=3\/k=7\/k=4\/k=5\/k=6\/k=8\/k=10\/k=11:=by omega
 clear OK hk oN;rcases jn with rfl|rfl|rfl|rfl|rfl|rfl|rfl|rfl|rfl|rfl
 .refine V1.bt au ?_;refine If.t ?_;refine sJ (EF ms) ?_ (NP.no (e:=_));rintro _ R8 ⟨rfl,ms,qG⟩;have CI:=qG.size;replace kk:=kk.trans' qG af;replace ae:=qG.at ae af;refine Up.i (Nc.p _ _) ?_;refine V1.i ah ?_;refine U1.store (aH rfl rfl) ae ak λEI iT=>?_;have wW:=iT.size;replace kk:=kk.trans' iT.aA af;replace ms:=ms.aA iT.aA af;replace ae:=iT.at_;simp only[set_cons_zero,set_cons_succ]at ae;refine fY (mM ms (n:=2) az) ?_ (NP.no (e:=_));rintro _ wn3 ⟨rfl,ms,EJ⟩;have WY:=EJ.size;replace kk:=kk.trans' EJ af;replace ae:=EJ.at ae af;refine V1.i (kT _ _ _ (bV 2 l.tail.tail) 1) ?_
  by_cases h2:bV 2 l.tail.tail=1
  .rw[show decide (bV 2 l.tail.tail=1)=true by simpa using h2];refine If.t ?_;refine iN (Hn.expr ne aj aj aj ms) ?_ (NP.no (e:=_));rintro _ WZ ⟨t21,l21,p21,OL,ms,wX,uM⟩;have OM:=uM.size;replace kk:=kk.trans' uM af;replace ae:=uM.at ae af;have g21:=dT OL ne trivial;obtain⟨W1,y21,q21⟩:=g21;replace wX:=wX.fit (lo':=w.heap.size) (Y:=[]) aj ak;have Hi:=wX.sI (eL W1);refine Up.i (Nc.p _ _) ?_;refine V1.i ah ?_;refine U1.store (aH rfl Hi) ae ak λW2 nU=>?_;have ON:=nU.size;replace kk:=kk.trans' nU.aA af;replace ms:=ms.aA nU.aA af;replace wX:=wX.fr nU.aA af;replace ae:=nU.at_
   simp only[set_cons_zero,set_cons_succ]at ae;exact⟨_,_,_,_,_,_,_,_,by simp only[mk];rw[if_pos h2];simp only[OL,MR.bind];rfl,ms,⟨_,_,_,_,_,ae,cY,wX,cY,cL,cL⟩,kk⟩
  .rw[show decide (bV 2 l.tail.tail=1)=false by simpa using h2];refine If.f ?_;exact⟨_,_,_,_,_,_,_,_,by simp only[mk];rw[if_neg h2];rfl,ms,⟨_,_,_,_,_,ae,cY,cY,cY,cL,cL⟩,kk⟩
 .iterate 1 (refine V1.bf au ?_;refine If.f ?_)
  refine V1.bt au ?_;refine If.t ?_;refine sJ (EF ms) ?_ (NP.no (e:=_));rintro _ R8 ⟨rfl,ms,qG⟩;have CI:=qG.size;replace kk:=kk.trans' qG af;replace ae:=qG.at ae af;refine V1.i ah ?_;refine V1.new (iE _ _) λbx2 wx2 vM=>?_;have zx2:=vM.aA.size;have gx2:=vM.ge;replace ms:=ms.aA vM.aA ak;replace ae:=vM.a ae;replace kk:=vM.kp kk;have mv:=vM.at_;try simp only[cells,toList_toArray]at mv
  have rN:=fg (l:=.nil) (r:=.nil) (ks:=.nil) (gs:=.nil) (b:=.nil) (ps:=[]) (lo:=w.heap.size) mv aj cY cY cL cL jf cL;refine Up.i (Nc.p _ _) ?_;refine V1.i ah ?_;refine U1.store (aH rfl rfl) ae ak λwb3 zG=>?_;have W3:=zG.size;replace kk:=kk.trans' zG.aA af;replace ms:=ms.aA zG.aA af;replace rN:=rN.fr zG.aA af;replace ae:=zG.at_;simp only[set_cons_zero,set_cons_succ]at ae;refine J0.cut (λw'=>∃tx l1 p1,(if bV 2 l.tail.tail=1 then(mk n (.expr d) l.tail.tail.tail p).bind λa l p=>(mk n (.expr d) l p).bind λb l p=>.ok (.ex 7 0 [] a b .nil .nil [] .nil) l p else .ok (lf 6 0 (dZ l)) l.tail.tail.tail p:MR)=.ok tx l1 p1/\p1+40*l1.length<=p+40*l.length+2/\MS lo w' bm l1 p1/\
    (∃lv,At w' bs [.int .i64 (2:Nat),.int .i64 line,str [],lv,.pointer none,.pointer none,.slice none 0 0,.slice none 0 0]/\aP (Fr w.heap.size []) w' tx (.P lv))/\aD [bm,bs] w w'/\w.heap.size<=w'.heap.size) ?_ ?_
  .skip
   refine fY (mM ms (n:=2) az) ?_ (NP.no (e:=_));rintro _ wn31 ⟨rfl,ms,CJ⟩;have zKn31:=CJ.size;replace kk:=kk.trans' CJ af;replace ae:=CJ.at ae af;replace rN:=rN.fr CJ af;refine V1.i (kT _ _ _ (bV 2 l.tail.tail) 1) ?_;by_cases h2:bV 2 l.tail.tail=1
   .rw[show decide (bV 2 l.tail.tail=1)=true by simpa using h2];refine If.t ?_;refine iN (Hn.expr ne aj aj aj ms) ?_ (NP.no (e:=_));rintro _ wa41 ⟨t41,l41,p41,e41,ms,CK,Hj⟩;have zKa41:=Hj.size;replace kk:=kk.trans' Hj af;replace ae:=Hj.at ae af;have g41:=dT e41 ne trivial;obtain⟨x41,y41,q41⟩:=g41;replace CK:=CK.fit (lo':=w.heap.size) (Y:=[]) aj ak;have sc41:=CK.sI (eL x41);refine iN (Hn.expr ne aj aj aj ms) ?_ (NP.no (e:=_));rintro _ wa42 ⟨t42,l42,p42,e42,ms,Hk,CL⟩;have zKa42:=CL.size;replace kk:=kk.trans' CL af;replace ae:=CL.at ae af;replace CK:=CK.fr CL af;have g42:=dT e42 ne trivial;obtain⟨x42,y42,q42⟩:=g42
    replace Hk:=Hk.fit (lo':=w.heap.size) (Y:=[]) aj ak;have sc42:=Hk.sI (eL x42);obtain⟨pa,rfl⟩:=CK.ptr x41;obtain⟨pb,rfl⟩:=Hk.ptr x42;refine V1.i ah ?_;refine V1.new (iE _ _) λwo wx43 sL=>?_;have zx43:=sL.aA.size;have gx43:=sL.ge;replace ms:=ms.aA sL.aA ak;replace ae:=sL.a ae;replace kk:=sL.kp kk;replace CK:=CK.f0 sL.aA;replace Hk:=Hk.f0 sL.aA;have OO:=sL.at_;try simp only[cells,toList_toArray]at OO
    have rM:=fg (ks:=.nil) (gs:=.nil) (b:=.nil) (ps:=[]) (lo:=w.heap.size) OO aj CK Hk cL cL jf cL;refine Up.i (Nc.p _ _) ?_;refine V1.i ah ?_;refine U1.store (aH rfl rfl) ae ak λwb44 zH=>?_;have zUb44:=zH.size;replace kk:=kk.trans' zH.aA af;replace ms:=ms.aA zH.aA af;replace rM:=rM.fr zH.aA af;replace ae:=zH.at_;simp only[set_cons_zero,set_cons_succ]at ae;exact⟨_,_,_,by rw[if_pos h2];simp only[e41,e42,MR.bind],by omega,ms,⟨_,ae,rM⟩,kk,by omega⟩
   .rw[show decide (bV 2 l.tail.tail=1)=false by simpa using h2];refine If.f ?_;exact⟨_,_,_,by rw[if_neg h2];rfl,by omega,ms,⟨_,ae,rN⟩,kk,by omega⟩
  clear ms ae kk rN;rintro w2 ⟨tx,l1,p1,ek,sC,ms,⟨lv,ae,rx⟩,kk,zz⟩;refine iN (Hn.expr ne aj aj aj ms) ?_ (NP.no (e:=_));rintro _ wa61 ⟨t61,l61,p61,e61,ms,ID,CM⟩;have zKa61:=CM.size;replace kk:=kk.trans' CM af;replace ae:=CM.at ae af;replace rx:=rx.fr CM af;have g61:=dT e61 ne trivial;obtain⟨x61,y61,q61⟩:=g61;replace ID:=ID.fit (lo':=w.heap.size) (Y:=[]) aj ak;have W4:=ID.sI (eL x61);refine Up.i (Nc.p _ _) ?_;refine V1.i ah ?_;refine U1.store (aH rfl W4) ae ak λwb62 wY=>?_;have zUb62:=wY.size;replace kk:=kk.trans' wY.aA af;replace ms:=ms.aA wY.aA af;replace rx:=rx.fr wY.aA af
  replace ID:=ID.fr wY.aA af;replace ae:=wY.at_;simp only[set_cons_zero,set_cons_succ]at ae;exact⟨_,_,_,_,_,_,_,_,by simp only[mk];rw[ek];simp only[MR.bind,e61];rfl,ms,⟨_,_,_,_,_,ae,rx,ID,cY,cL,cL⟩,kk⟩
 .iterate 2 (refine V1.bf au ?_;refine If.f ?_)
  refine V1.bt au ?_;refine If.t ?_;refine iN (Hn.expr ne aj aj aj ms) ?_ (NP.no (e:=_));rintro _ EG ⟨t1,l1,p1,e1,ms,r1,jt⟩;have sK:=jt.size;replace kk:=kk.trans' jt af;replace ae:=jt.at ae af;have g1:=dT e1 ne trivial;obtain⟨x1,y1,q1⟩:=g1;replace r1:=r1.fit (lo':=w.heap.size) (Y:=[]) aj ak;have EL:=r1.sI (eL x1);obtain⟨pa,rfl⟩:=r1.ptr x1;refine V1.i ah ?_;refine V1.new (iE _ _) λbx2 wx2 vM=>?_;have zx2:=vM.aA.size;have gx2:=vM.ge;replace ms:=ms.aA vM.aA ak;replace ae:=vM.a ae;replace kk:=vM.kp kk;replace r1:=r1.f0 vM.aA;have mv:=vM.at_
  try simp only[cells,toList_toArray]at mv
  have rM:=fg (r:=.nil) (ks:=.nil) (gs:=.nil) (b:=.nil) (ps:=[]) (lo:=w.heap.size) mv aj r1 cY cL cL jf cL;refine Up.i (Nc.p _ _) ?_;refine V1.i ah ?_;refine U1.store (aH rfl rfl) ae ak λwb3 zG=>?_;have W3:=zG.size;replace kk:=kk.trans' zG.aA af;replace ms:=ms.aA zG.aA af;replace rM:=rM.fr zG.aA af;replace ae:=zG.at_;simp only[set_cons_zero,set_cons_succ]at ae;exact⟨_,_,_,_,_,_,_,_,by simp only[mk,e1,MR.bind];rfl,ms,⟨_,_,_,_,_,ae,cY,rM,cY,cL,cL⟩,kk⟩
 .iterate 3 (refine V1.bf au ?_;refine If.f ?_)
  refine V1.bt au ?_;refine If.t ?_;refine sJ (EF ms) ?_ (NP.no (e:=_));rintro _ R8 ⟨rfl,ms,qG⟩;have CI:=qG.size;replace kk:=kk.trans' qG af;replace ae:=qG.at ae af;refine Up.i (Nc.p _ _) ?_;refine V1.i ah ?_;refine U1.store (aH rfl rfl) ae ak λEI iT=>?_;have wW:=iT.size;replace kk:=kk.trans' iT.aA af;replace ms:=ms.aA iT.aA af;replace ae:=iT.at_;simp only[set_cons_zero,set_cons_succ]at ae;refine iN (Hn.expr ne aj aj aj ms) ?_ (NP.no (e:=_));rintro _ W5 ⟨t3,l3,p3,e3,ms,r3,sM⟩;have Hl:=sM.size;replace kk:=kk.trans' sM af;replace ae:=sM.at ae af;have g3:=dT e3 ne trivial
  obtain⟨x3,y3,q3⟩:=g3;replace r3:=r3.fit (lo':=w.heap.size) (Y:=[]) aj ak;have IE:=r3.sI (eL x3);refine Up.i (Nc.p _ _) ?_;refine V1.i ah ?_;refine U1.store (aH rfl IE) ae ak λW6 mN=>?_;have Hm:=mN.size;replace kk:=kk.trans' mN.aA af;replace ms:=ms.aA mN.aA af;replace r3:=r3.fr mN.aA af;replace ae:=mN.at_;simp only[set_cons_zero,set_cons_succ]at ae;refine iN (Hn.expr ne aj aj aj ms) ?_ (NP.no (e:=_));rintro _ wa5 ⟨t5,l5,p5,e5,ms,r5,uN⟩;have OP:=uN.size;replace kk:=kk.trans' uN af;replace ae:=uN.at ae af;replace r3:=r3.fr uN af;have g5:=dT e5 ne trivial;obtain⟨x5,y5,q5⟩:=g5
  replace r5:=r5.fit (lo':=w.heap.size) (Y:=[]) aj ak;have OQ:=r5.sI (eL x5);refine Up.i (Nc.p _ _) ?_;refine V1.i ah ?_;refine U1.store (aH rfl OQ) ae ak λwb6 oO=>?_;have OR:=oO.size;replace kk:=kk.trans' oO.aA af;replace ms:=ms.aA oO.aA af;replace r3:=r3.fr oO.aA af;replace r5:=r5.fr oO.aA af;replace ae:=oO.at_;simp only[set_cons_zero,set_cons_succ]at ae;refine oL (Hn.stmts ns aj aj aj ms) ?_ (NP.no (e:=_));rintro _ wa7 ⟨t7,l7,p7,e7,ms,r7,OS⟩;have zKa7:=OS.size;replace kk:=kk.trans' OS af;replace ae:=OS.at ae af;replace r3:=r3.fr OS af;replace r5:=r5.fr OS af
  have g7:=dT e7 ns trivial;obtain⟨x7,y7,q7⟩:=g7;replace r7:=r7.fit (lo':=w.heap.size) (Y:=[]) aj ak;have sc7:=r7.qo (bF 3 ak x7);refine Up.i (Nc.p _ _) ?_;refine V1.i ah ?_;refine U1.store (aH rfl sc7) ae ak λwb8 Ho=>?_;have zUb8:=Ho.size;replace kk:=kk.trans' Ho.aA af;replace ms:=ms.aA Ho.aA af;replace r3:=r3.fr Ho.aA af;replace r5:=r5.fr Ho.aA af;replace r7:=r7.fr Ho.aA af;replace ae:=Ho.at_;simp only[set_cons_zero,set_cons_succ]at ae;exact⟨_,_,_,_,_,_,_,_,by simp only[mk,e3,e5,e7,MR.bind];rfl,ms,⟨_,_,_,_,_,ae,cY,r3,r5,r7,cL⟩,kk⟩
 .iterate 4 (refine V1.bf au ?_;refine If.f ?_)
  refine V1.bt au ?_;refine If.t ?_;refine oL (Hn.stmts ns aj aj aj ms) ?_ (NP.no (e:=_));rintro _ EG ⟨t1,l1,p1,e1,ms,r1,jt⟩;have sK:=jt.size;replace kk:=kk.trans' jt af;replace ae:=jt.at ae af;have g1:=dT e1 ns trivial;obtain⟨x1,y1,q1⟩:=g1;replace r1:=r1.fit (lo':=w.heap.size) (Y:=[]) aj ak;have EL:=r1.qo (bF 3 ak x1);refine Up.i (Nc.p _ _) ?_;refine V1.i ah ?_;refine U1.store (aH rfl EL) ae ak λEI iT=>?_;have wW:=iT.size;replace kk:=kk.trans' iT.aA af;replace ms:=ms.aA iT.aA af;replace r1:=r1.fr iT.aA af;replace ae:=iT.at_
  simp only[set_cons_zero,set_cons_succ]at ae;exact⟨_,_,_,_,_,_,_,_,by simp only[mk,e1,MR.bind];rfl,ms,⟨_,_,_,_,_,ae,cY,cY,cY,r1,cL⟩,kk⟩
 .iterate 5 (refine V1.bf au ?_;refine If.f ?_)
  refine V1.bt au ?_;refine If.t ?_;refine iN (Hn.expr ne aj aj aj ms) ?_ (NP.no (e:=_));rintro _ EG ⟨t1,l1,p1,e1,ms,r1,jt⟩;have sK:=jt.size;replace kk:=kk.trans' jt af;replace ae:=jt.at ae af;have g1:=dT e1 ne trivial;obtain⟨x1,y1,q1⟩:=g1;replace r1:=r1.fit (lo':=w.heap.size) (Y:=[]) aj ak;have EL:=r1.sI (eL x1);refine Up.i (Nc.p _ _) ?_;refine V1.i ah ?_;refine U1.store (aH rfl EL) ae ak λEI iT=>?_;have wW:=iT.size;replace kk:=kk.trans' iT.aA af;replace ms:=ms.aA iT.aA af;replace r1:=r1.fr iT.aA af;replace ae:=iT.at_;simp only[set_cons_zero,set_cons_succ]at ae
  refine oL (Hn.stmts ns aj aj aj ms) ?_ (NP.no (e:=_));rintro _ W5 ⟨t3,l3,p3,e3,ms,r3,sM⟩;have Hl:=sM.size;replace kk:=kk.trans' sM af;replace ae:=sM.at ae af;replace r1:=r1.fr sM af;have g3:=dT e3 ns trivial;obtain⟨x3,y3,q3⟩:=g3;replace r3:=r3.fit (lo':=w.heap.size) (Y:=[]) aj ak;have IE:=r3.qo (bF 3 ak x3);refine Up.i (Nc.p _ _) ?_;refine V1.i ah ?_;refine U1.store (aH rfl IE) ae ak λW6 mN=>?_;have Hm:=mN.size;replace kk:=kk.trans' mN.aA af;replace ms:=ms.aA mN.aA af;replace r1:=r1.fr mN.aA af;replace r3:=r3.fr mN.aA af;replace ae:=mN.at_
  simp only[set_cons_zero,set_cons_succ]at ae;exact⟨_,_,_,_,_,_,_,_,by simp only[mk,e1,e3,MR.bind];rfl,ms,⟨_,_,_,_,_,ae,cY,r1,cY,r3,cL⟩,kk⟩
 .iterate 6 (refine V1.bf au ?_;refine If.f ?_)
  refine V1.bt au ?_;refine If.t ?_;refine iN (Hn.expr ne aj aj aj ms) ?_ (NP.no (e:=_));rintro _ EG ⟨t1,l1,p1,e1,ms,r1,jt⟩;have sK:=jt.size;replace kk:=kk.trans' jt af;replace ae:=jt.at ae af;have g1:=dT e1 ne trivial;obtain⟨x1,y1,q1⟩:=g1;replace r1:=r1.fit (lo':=w.heap.size) (Y:=[]) aj ak;have EL:=r1.sI (eL x1);refine Up.i (Nc.p _ _) ?_;refine V1.i ah ?_;refine U1.store (aH rfl EL) ae ak λEI iT=>?_;have wW:=iT.size;replace kk:=kk.trans' iT.aA af;replace ms:=ms.aA iT.aA af;replace r1:=r1.fr iT.aA af;replace ae:=iT.at_;simp only[set_cons_zero,set_cons_succ]at ae
  refine oL (Hn.stmts ns aj aj aj ms) ?_ (NP.no (e:=_));rintro _ W5 ⟨t3,l3,p3,e3,ms,r3,sM⟩;have Hl:=sM.size;replace kk:=kk.trans' sM af;replace ae:=sM.at ae af;replace r1:=r1.fr sM af;have g3:=dT e3 ns trivial;obtain⟨x3,y3,q3⟩:=g3;replace r3:=r3.fit (lo':=w.heap.size) (Y:=[]) aj ak;have IE:=r3.qo (bF 3 ak x3);refine Up.i (Nc.p _ _) ?_;refine V1.i ah ?_;refine U1.store (aH rfl IE) ae ak λW6 mN=>?_;have Hm:=mN.size;replace kk:=kk.trans' mN.aA af;replace ms:=ms.aA mN.aA af;replace r1:=r1.fr mN.aA af;replace r3:=r3.fr mN.aA af;replace ae:=mN.at_
  simp only[set_cons_zero,set_cons_succ]at ae;refine oL (Hn.stmts ns aj aj aj ms) ?_ (NP.no (e:=_));rintro _ wa5 ⟨t5,l5,p5,e5,ms,r5,uN⟩;have OP:=uN.size;replace kk:=kk.trans' uN af;replace ae:=uN.at ae af;replace r1:=r1.fr uN af;replace r3:=r3.fr uN af;have g5:=dT e5 ns trivial;obtain⟨x5,y5,q5⟩:=g5;replace r5:=r5.fit (lo':=w.heap.size) (Y:=[]) aj ak;have OQ:=r5.qo (bF 3 ak x5);refine Up.i (Nc.p _ _) ?_;refine V1.i ah ?_;refine U1.store (aH rfl OQ) ae ak λwb6 oO=>?_;have OR:=oO.size;replace kk:=kk.trans' oO.aA af;replace ms:=ms.aA oO.aA af;replace r1:=r1.fr oO.aA af
  replace r3:=r3.fr oO.aA af;replace r5:=r5.fr oO.aA af;replace ae:=oO.at_;simp only[set_cons_zero,set_cons_succ]at ae;exact⟨_,_,_,_,_,_,_,_,by simp only[mk,e1,e3,e5,MR.bind];rfl,ms,⟨_,_,_,_,_,ae,cY,r1,cY,r3,r5⟩,kk⟩
 .iterate 7 (refine V1.bf au ?_;refine If.f ?_)
  refine V1.bt au ?_;refine If.t ?_;refine fY (mM ms (n:=2) az) ?_ (NP.no (e:=_));rintro _ R8 ⟨rfl,ms,qG⟩;have CI:=qG.size;replace kk:=kk.trans' qG af;replace ae:=qG.at ae af;refine V1.i (kT _ _ _ (bV 2 l) 1) ?_;by_cases h2:bV 2 l=1
  .rw[show decide (bV 2 l=1)=true by simpa using h2];refine If.t ?_;refine iN (Hn.expr ne aj aj aj ms) ?_ (NP.no (e:=_));rintro _ WZ ⟨t21,l21,p21,OL,ms,wX,uM⟩;have OM:=uM.size;replace kk:=kk.trans' uM af;replace ae:=uM.at ae af;have g21:=dT OL ne trivial;obtain⟨W1,y21,q21⟩:=g21;replace wX:=wX.fit (lo':=w.heap.size) (Y:=[]) aj ak;have Hi:=wX.sI (eL W1);refine Up.i (Nc.p _ _) ?_;refine V1.i ah ?_;refine U1.store (aH rfl Hi) ae ak λW2 nU=>?_;have ON:=nU.size;replace kk:=kk.trans' nU.aA af;replace ms:=ms.aA nU.aA af;replace wX:=wX.fr nU.aA af;replace ae:=nU.at_
   simp only[set_cons_zero,set_cons_succ]at ae;exact⟨_,_,_,_,_,_,_,_,by simp only[mk];rw[if_pos h2];simp only[OL,MR.bind];rfl,ms,⟨_,_,_,_,_,ae,cY,wX,cY,cL,cL⟩,kk⟩
  .rw[show decide (bV 2 l=1)=false by simpa using h2];refine If.f ?_;exact⟨_,_,_,_,_,_,_,_,by simp only[mk];rw[if_neg h2];rfl,ms,⟨_,_,_,_,_,ae,cY,cY,cY,cL,cL⟩,kk⟩
 .iterate 8 (refine V1.bf au ?_;refine If.f ?_)
  refine V1.bt au ?_;refine If.t ?_;refine oL (Hn.stmts ns aj aj aj ms) ?_ (NP.no (e:=_));rintro _ EG ⟨t1,l1,p1,e1,ms,r1,jt⟩;have sK:=jt.size;replace kk:=kk.trans' jt af;replace ae:=jt.at ae af;have g1:=dT e1 ns trivial;obtain⟨x1,y1,q1⟩:=g1;replace r1:=r1.fit (lo':=w.heap.size) (Y:=[]) aj ak;have EL:=r1.qo (bF 3 ak x1);refine Up.i (Nc.p _ _) ?_;refine V1.i ah ?_;refine U1.store (aH rfl EL) ae ak λEI iT=>?_;have wW:=iT.size;replace kk:=kk.trans' iT.aA af;replace ms:=ms.aA iT.aA af;replace r1:=r1.fr iT.aA af;replace ae:=iT.at_
  simp only[set_cons_zero,set_cons_succ]at ae;have t6:=bP l1;have t7:=bP l1.tail;refine sJ (EF ms) ?_ (NP.no (e:=_));rintro _ wn3 ⟨rfl,ms,EJ⟩;have WY:=EJ.size;replace kk:=kk.trans' EJ af;replace ae:=EJ.at ae af;replace r1:=r1.fr EJ af;refine Up.i (Nc.p _ _) ?_;refine V1.i ah ?_;refine U1.store (aH rfl rfl) ae ak λW6 mN=>?_;have Hm:=mN.size;replace kk:=kk.trans' mN.aA af;replace ms:=ms.aA mN.aA af;replace r1:=r1.fr mN.aA af;replace ae:=mN.at_;simp only[set_cons_zero,set_cons_succ]at ae;refine oL (Hn.stmts ns aj aj aj ms) ?_ (NP.no (e:=_));rintro _ wa5 ⟨t5,l5,p5,e5,ms,r5,uN⟩;have OP:=uN.size
  replace kk:=kk.trans' uN af;replace ae:=uN.at ae af;replace r1:=r1.fr uN af;have g5:=dT e5 ns trivial;obtain⟨x5,y5,q5⟩:=g5;replace r5:=r5.fit (lo':=w.heap.size) (Y:=[]) aj ak;have OQ:=r5.qo (bF 3 ak x5);refine Up.i (Nc.p _ _) ?_;refine V1.i ah ?_;refine U1.store (aH rfl OQ) ae ak λwb6 oO=>?_;have OR:=oO.size;replace kk:=kk.trans' oO.aA af;replace ms:=ms.aA oO.aA af;replace r1:=r1.fr oO.aA af;replace r5:=r5.fr oO.aA af;replace ae:=oO.at_;simp only[set_cons_zero,set_cons_succ]at ae;exact⟨_,_,_,_,_,_,_,_,by simp only[mk,e1,e5,MR.bind];rfl,ms,⟨_,_,_,_,_,ae,cY,cY,cY,r1,r5⟩,kk⟩
 .iterate 9 (refine V1.bf au ?_;refine If.f ?_)
  refine V1.bt au ?_;refine If.t ?_;refine sJ (EF ms) ?_ (NP.no (e:=_));rintro _ R8 ⟨rfl,ms,qG⟩;have CI:=qG.size;replace kk:=kk.trans' qG af;replace ae:=qG.at ae af;refine Up.i (Nc.p _ _) ?_;refine V1.i ah ?_;refine U1.store (aH rfl rfl) ae ak λEI iT=>?_;have wW:=iT.size;replace kk:=kk.trans' iT.aA af;replace ms:=ms.aA iT.aA af;replace ae:=iT.at_;simp only[set_cons_zero,set_cons_succ]at ae;refine oL (Hn.stmts ns aj aj aj ms) ?_ (NP.no (e:=_));rintro _ W5 ⟨t3,l3,p3,e3,ms,r3,sM⟩;have Hl:=sM.size;replace kk:=kk.trans' sM af;replace ae:=sM.at ae af;have g3:=dT e3 ns trivial
  obtain⟨x3,y3,q3⟩:=g3;replace r3:=r3.fit (lo':=w.heap.size) (Y:=[]) aj ak;have IE:=r3.qo (bF 3 ak x3);obtain⟨aq,cq,rfl⟩:=r3.oK (bF 3 ak x3);refine V1.i ah ?_;refine V1.new (iE _ _) λbx4 wx4 Hp=>?_;have zx4:=Hp.aA.size;have gx4:=Hp.ge;replace ms:=ms.aA Hp.aA ak;replace ae:=Hp.a ae;replace kk:=Hp.kp kk;replace r3:=r3.f0 Hp.aA;have ax4:=Hp.at_;try simp only[cells,toList_toArray]at ax4
  have rM:=fg (l:=.nil) (r:=.nil) (ks:=.nil) (gs:=.nil) (ps:=[]) (lo:=w.heap.size) ax4 aj cY cY cL cL jf r3;refine Up.i (Nc.p _ _) ?_;refine V1.i ah ?_;refine U1.store (aH rfl rfl) ae ak λwb5 OT=>?_;have zUb5:=OT.size;replace kk:=kk.trans' OT.aA af;replace ms:=ms.aA OT.aA af;replace rM:=rM.fr OT.aA af;replace ae:=OT.at_;simp only[set_cons_zero,set_cons_succ]at ae;exact⟨_,_,_,_,_,_,_,_,by simp only[mk,e3,MR.bind];rfl,ms,⟨_,_,_,_,_,ae,cY,rM,cY,cL,cL⟩,kk⟩
theorem OU(w:Wd)(p:Option Addr):(Instr.buildSlice 26 1 #[(0,.pointer p)]).run prog w=.ok (.slice (some ⟨w.heap.size,0,none⟩) 1 1) (w.alloc (.cells #[.pointer p] 40)):=by
 simp[go_sem];first|done|rfl|exact⟨rfl,rfl⟩|(repeat' (first|rfl|apply And.intro))
set_option maxHeartbeats 4000000 in
theorem c23{n:Nat}(H:∀m,m<=n->zE m){lo:Nat}{w:Wd}{bm:Nat}{l:By}{p:Nat}{d:Int}(hn:cG (.stmts d)<=n+1)(zh:d<=100)(hd2:-100<=d)(hb:p+40*l.length+10*(n+1)<=1000000)(ms:MS lo w bm l p):
  Calls prog 23 #[ptr bm,.int .i64 d] w (aZ (λv w'=>∃t l' p',mk (n+1) (.stmts d) l p=.ok t l' p'/\MS lo w' bm l' p'/\aP (Fr w.heap.size []) w' t (.L v)/\aD [bm] w w') NP):=by
 refine s23 ?_;unfold S23;have kk:=aD.refl [bm] w;have vw:bm<lo:=ms.1;have eW:lo<=w.heap.size:=ms.2.1;have t1:=bP l;simp only[cG]at hn;refine fY (mM ms (n:=4) az) ?_ (NP.no (e:=_));rintro _ w1 ⟨rfl,ms,K1⟩;have Vq:=K1.size;replace kk:=kk.trans' K1 af;have h4:=fe 4 l az;have OG:cG (.dO (bV 4 l) .nil d)<=n:=by simp only[cG];split<;>omega
 refine L2.i (λy x w'=>∃(j:Nat) (acc:Tr) (l8:By) (p8 m:Nat),x=.int .i64 (j:Nat)/\m<=n/\cG (.dO j acc d)<=m/\mk m (.dO j acc d) l8 p8=mk n (.dO (bV 4 l) .nil d) l.tail p/\p8+40*l8.length+10*m<=1000000/\wf acc 3=true/\len acc+j<=4/\
   MS lo w' bm l8 p8/\Acc 40 w.heap.size [] w' y acc/\aD [bm] w w'/\w.heap.size<=w'.heap.size)
  (λ_ x _=>match x with|.int _ n=>n.toNat|_=>0) ⟨bV 4 l,.nil,l.tail,p,n,rfl,le_refl _,OG,rfl,by omega,rfl,by simp only[len];omega,ms,Acc.nil _ _ _ _,kk,by omega⟩ ?_
 clear ms kk K1;rintro v x w2 ⟨j,acc,l8,p8,m,rfl,hm,aI,xC,Fg,OH,wK,ms,ca,kk,zz⟩
 cases m with
 |zero=>simp only[cG]at aI;split at aI<;>omega
 |succ m=>
  cases j with
  |zero=>
   refine V1.i (R6 _ _ _) ?_;refine If.f ?_;simp only[mk]at xC;refine J1.cut (λx w'=>∃t,t=(if bV 120 l8=119 then snoc acc .nil else acc)/\MS lo w' bm l8.tail p8/\aP (Fr w.heap.size []) w' t (.L x)/\aD [bm] w w') ?_ ?_
   .refine fY (mM ms (n:=120) az) ?_ (NP.no (e:=_));rintro _ w3 ⟨rfl,ms,K3⟩;have rI:=ca.qD;have z3:=K3.size;replace ca:=ca.fr K3 al;replace kk:=kk.trans K3;refine V1.i (kT _ _ _ (bV 120 l8) 119) ?_;by_cases h9:bV 120 l8=119
    .rw[show decide (bV 120 l8=119)=true by simpa using h9];refine If.t ?_;refine V1.aG (OU _ _) λab w4 N4=>?_;have a4:At w4 ab [.pointer none]:=N4.at_;have z4:=N4.aA.size;replace ms:=ms.aA N4.aA ak;replace ca:=ca.f0 N4.aA;replace kk:=N4.kp kk;obtain⟨v',w5,eB,eO,K5,hg⟩:=vu (n:=4) (x:=.nil) ca a4 rfl rfl aj aj ak aj;refine V1.i eB ?_;replace ms:=ms.aA K5 (λi hi=>by have:=rI i hi;omega);replace kk:=kk.trans' K5 (λi hi h=>by have:=rI i hi;omega);exact⟨_,by rw[if_pos h9],ms,eO.rep,kk⟩
    .rw[show decide (bV 120 l8=119)=false by simpa using h9];refine If.f ?_;exact⟨_,by rw[if_neg h9],ms,ca.rep,kk⟩
   .rintro x w3 ⟨t,ht,ms,rt,kk⟩;subst ht;exact⟨_,_,_,by simp only[mk];rw[←xC];rfl,ms,rt,kk⟩
  |succ j=>
   refine V1.i (R5 _ _ _ _) ?_;refine If.t ?_;have tl1:=bP l8;have tl2:=bP l8.tail;have mC:=pE (1+bV 11 l8) (j+1) l8.tail.tail;obtain⟨vm,am,uK⟩:=ms.parts;unfold ptr;refine Up.i (Nc.p _ _) ?_;refine V1.i ah ?_;refine V1.load (aC rfl) (am) rfl ?_;refine V1.i (cC _ _ _ _ _ _ aj aj) ?_;refine Up.i (Nc.p _ _) ?_;refine V1.i ah ?_;refine U1.store (aH rfl rfl) am ak λw3 Ua=>?_;have zUa:=Ua.size;replace kk:=kk.trans' Ua.aA af;replace ca:=ca.fr Ua.aA af;replace am:=Ua.at_;simp only[set_cons_zero,set_cons_succ]at am;replace ms:=uK w3 (by simpa using Ua);clear am uK;refine fY (mM ms (n:=11) az) ?_ (NP.no (e:=_));rintro _ w4 ⟨rfl,ms,K4⟩;have A0:=K4.size
   replace kk:=kk.trans' K4 af;replace ca:=ca.fr K4 af;have RU:=fe 11 l8 az;refine V1.i (cC _ _ _ _ _ _ aj aj) ?_;rw[show(1:Int)+(bV 11 l8:Nat)=((1+bV 11 l8:Nat):Int)by omega];refine fY (mM ms (n:=9) az) ?_ (NP.no (e:=_));rintro _ w5 ⟨rfl,ms,K5⟩;have wI:=K5.size;replace kk:=kk.trans' K5 af;replace ca:=ca.fr K5 af;generalize Ig:bV 9 l8.tail=line at*;generalize ue:1+bV 11 l8=k1 at*;refine V1.i ah ?_;refine V1.new (wo _ _) λbs w6 N6=>?_;have g6:=N6.ge;have z6:=N6.aA.size;replace ms:=ms.aA N6.aA ak;replace ca:=ca.nw N6;replace kk:=N6.kp kk;have IB:bm<bs:=by omega
   have Cu:lo<=bs:=by omega
   have ae:At w6 bs [.int .i64 (k1:Nat),.int .i64 (line:Nat),str [],.pointer none,.pointer none,.pointer none,.slice none 0 0,.slice none 0 0]:=N6.at_;have zI:bs<w6.heap.size:=N6.lt;refine J0.cut (λw'=>MS lo w' bm (js k1 (j+1) l8.tail.tail) (p8+1)/\(∃kf:Nat,kf=fF k1 (j+1) l8.tail.tail/\At w' bs [.int .i64 (kf:Nat),.int .i64 (line:Nat),str [],.pointer none,.pointer none,.pointer none,.slice none 0 0,.slice none 0 0])/\Acc 40 w.heap.size [bs] w' v acc/\aD [bm] w w'/\bs<w'.heap.size) ?_ ?_
   .refine Up.i (Nc.p _ _) ?_;refine V1.i ah ?_;refine V1.load (aC rfl) (ae) rfl ?_;refine V1.i (kT _ _ _ k1 8) ?_;refine J1.gd (decide (1<j+1)) (λh k hk=>?_) ?_
    .refine V1.i (v:=.bool (decide (1<j+1))) (w':=w6) ay ?_;exact hk
    refine V1.i (gi _ _ _) ?_;refine J1.cut (λx w'=>x=(if(decide (k1=8)&&decide (1<j+1))=true then .bool (decide (bV 9 l8.tail.tail<8))else undef)/\MS lo w' bm (js k1 (j+1) l8.tail.tail) (p8+1)/\At w' bs [.int .i64 (k1:Nat),.int .i64 (line:Nat),str [],.pointer none,.pointer none,.pointer none,.slice none 0 0,.slice none 0 0]/\Acc 40 w.heap.size [bs] w' v acc/\aD [bm] w w'/\bs<w'.heap.size) ?_ ?_
    .refine Gd.b (λh=>?_) (λh=>?_)
     .refine fY (mM ms (n:=9) az) ?_ (NP.no (e:=_));rintro _ w7 ⟨rfl,ms,K7⟩;have z7:=K7.size;replace ae:=K7.at ae al;replace ca:=ca.fr K7 al;replace kk:=kk.trans K7;refine V1.i (v:=.bool (decide (bV 9 l8.tail.tail<8))) (w':=w7) ay ?_;refine⟨by rw[if_pos h],?_,ae,ca,kk,by omega⟩;have hh:k1=8/\1<j+1:=by simpa using h
      unfold js;rw[if_pos hh];exact ms
     .refine⟨by rw[if_neg (by rw[h];simp)],?_,ae,ca,kk,zI⟩;have hh:¬(k1=8/\1<j+1):=by
       have h':(decide (k1=8)&&decide (1<j+1))=false:=h;intro hh;simp[hh.1,hh.2]at h'
      unfold js;rw[if_neg hh];exact ms
    clear ms ae ca kk zI;rintro _ w7 ⟨rfl,ms,ae,ca,kk,zI⟩;refine V1.i (gi _ _ _) ?_;by_cases eY:k1=8/\1<j+1/\bV 9 l8.tail.tail<8
    .rw[show((decide (k1=8)&&decide (1<j+1))&&decide (bV 9 l8.tail.tail<8))=true by simp only[and_eq_true,decide_eq_true_eq];exact⟨⟨eY.1,eY.2.1⟩,eY.2.2⟩];refine If.t ?_;refine Up.i (Nc.p _ _) ?_;refine V1.i ah ?_;refine U1.store (aH rfl rfl) ae ak λw8 Ub=>?_;have zUb:=Ub.size;replace kk:=kk.trans' Ub.aA af;replace ms:=ms.aA Ub.aA af;replace ca:=ca.fr Ub.aA af;replace ae:=Ub.at_;simp only[set_cons_zero,set_cons_succ]at ae;exact⟨ms,⟨9,by unfold fF;rw[if_pos eY],ae⟩,ca,kk,by omega⟩
    .rw[show((decide (k1=8)&&decide (1<j+1))&&decide (bV 9 l8.tail.tail<8))=false by
      rw[Bool.and_eq_false_iff,Bool.and_eq_false_iff];simp only[decide_eq_false_iff_not];omega]
     refine If.f ?_;exact⟨ms,⟨k1,by unfold fF;rw[if_neg eY],ae⟩,ca,kk,zI⟩
   clear ms ae ca kk zI;rintro w7 ⟨ms,⟨kf,Hq,ae⟩,ca,kk,zI⟩;refine J0.cut (λw'=>MS lo w' bm (js k1 (j+1) l8.tail.tail) (p8+1)/\(∃kf:Nat,kf=(if d<1\/300<p8+1 then 9 else fF k1 (j+1) l8.tail.tail)/\At w' bs [.int .i64 (kf:Nat),.int .i64 (line:Nat),str [],.pointer none,.pointer none,.pointer none,.slice none 0 0,.slice none 0 0])/\Acc 40 w.heap.size [bs] w' v acc/\aD [bm] w w'/\bs<w'.heap.size) ?_ ?_
   .refine V1.i (v:=.bool (decide (d<1))) (w':=w7) au ?_;obtain⟨vm,am,_⟩:=ms.parts;refine J1.gd (decide (300<p8+1)) (λh k hk=>?_) ?_
    .refine Up.i (Nc.p _ _) ?_;refine V1.i ah ?_;refine V1.load (aC rfl) (am) rfl ?_;refine V1.i (v:=.bool (decide (300<p8+1))) (w':=w7) ay ?_;exact hk
    refine V1.i (fI _ _ _) ?_;clear am;by_cases hd:d<1\/300<p8+1
    .rw[show(decide (d<1)||decide (300<p8+1))=true by simpa using hd];refine If.t ?_;refine Up.i (Nc.p _ _) ?_;refine V1.i ah ?_;refine U1.store (aH rfl rfl) ae ak λw8 Ub=>?_;have zUb:=Ub.size;replace kk:=kk.trans' Ub.aA af;replace ms:=ms.aA Ub.aA af;replace ca:=ca.fr Ub.aA af;replace ae:=Ub.at_;simp only[set_cons_zero,set_cons_succ]at ae;exact⟨ms,⟨9,by rw[if_pos hd],ae⟩,ca,kk,by omega⟩
    .rw[show(decide (d<1)||decide (300<p8+1))=false by simpa using hd];refine If.f ?_;exact⟨ms,⟨kf,by rw[if_neg hd];exact Hq,ae⟩,ca,kk,zI⟩
   clear ms ae ca kk zI Hq;rintro w8 ⟨ms,⟨kf,Hq,ae⟩,ca,kk,zI⟩;refine V1.i (fP _ _ _ _ _ _ aj aj) ?_;have rI:=ca.qD;have Eo:cG (.fill kf (d-1))<=m:=by
    simp only[cG]at aI⊢;by_cases h:d<1
    .have hK:kf=9:=by rw[Hq,if_pos (Or.inl h)]
     rw[if_pos hK];rw[if_pos h]at aI;omega
    .rw[if_neg h]at aI;split
     .omega
     .have:d-1+1=d:=by omega
      rw[this];omega
   have RQ:sG (.fill kf (d-1)):=by
    simp only[sG];by_cases h:d<1
    .exact .inl (by rw[Hq,if_pos (Or.inl h)])
    .exact .inr aj
   have W7:kf<12:=by
    rw[Hq];split
    .omega
    .unfold fF;split<;>omega
   refine WE ((H m aj).fill Eo W7 RQ aj aj aj ms Cu ae) ?_ (NP.no (e:=_));rintro _ w9 ⟨nm,x,r,tt,a,b,l9,p9,e9,ms,⟨lv,rv,tv,av,bv,ae9,rx,rr,rt,ra,rb⟩,K9⟩;have g9:=dT e9 Eo RQ;obtain⟨⟨_,_,_,_,_,_,W8,hw9⟩,_,q9⟩:=g9;clear W8;have z9:=K9.size;clear ae;have ae:=ae9;clear ae9;have tl3:=bP l9;have tl4:=bP l9.tail;replace ca:=ca.fr K9 al;replace kk:=kk.trans' K9 al;have W9:∀acc,cG (.dO j acc d)<=m:=λacc=>by
    simp only[cG]at aI⊢;split at aI
    .rw[if_pos aw];omega
    .rw[if_neg aw];omega
   refine J0.cut (λw'=>∃(s:Tr) (l10:By),wf s 2=true/\l10.length<=l9.length/\(if bV 60 l9=59 then mk m (.dO j (snoc acc (setKind (.st kf nm x r tt a b) (bV 14 l9.tail))) d) l9.tail.tail p9 else mk m (.dO j (snoc acc (.st kf nm x r tt a b)) d) l9.tail p9)=mk m (.dO j (snoc acc s) d) l10 p9/\
     MS lo w' bm l10 p9/\aP (Fr w.heap.size v.ownBlock.toList) w' s (.P (ptr bs))/\Acc 40 w.heap.size [bs] w' v acc/\aD [bm] w w'/\bs<w'.heap.size) ?_ ?_
   .refine fY (mM ms (n:=60) az) ?_ (NP.no (e:=_));rintro _ ei ⟨rfl,ms,dA⟩;have El:=dA.size;replace ae:=dA.at ae al;replace ca:=ca.fr dA al;replace kk:=kk.trans dA;replace rx:=rx.fr dA al;replace rr:=rr.fr dA al;replace rt:=rt.fr dA al;replace ra:=ra.fr dA al;replace rb:=rb.fr dA al;refine V1.i (kT _ _ _ (bV 60 l9) 59) ?_;have fV:∀{t:Tr}{m:Md}{w':Wd},aP (Fr w8.heap.size []) w' t m->aP (Fr w.heap.size v.ownBlock.toList) w' t m:=λh=>h.fit aj (λi hi=>.inl (rI i hi).2.2)
    have EM:∀{k:Int}{w':Wd},At w' bs [.int .i64 k,.int .i64 (line:Nat),str nm,lv,rv,tv,av,bv]->aP (Fr w8.heap.size []) w' x (.P lv)->aP (Fr w8.heap.size []) w' r (.P rv)->aP (Fr w8.heap.size []) w' tt (.P tv)->aP (Fr w8.heap.size []) w' a (.L av)->aP (Fr w8.heap.size []) w' b (.L bv)->aP (Fr w.heap.size v.ownBlock.toList) w' (.st k nm x r tt a b) (.P (ptr bs)):=
     λh h1 h2 h3 h4 h5=>⟨bs,_,lv,rv,tv,av,bv,rfl,⟨by omega,λhm=>(rI _ hm).2.1 ak⟩,h,fV h1,fV h2,fV h3,fV h4,fV h5⟩
    have OV:∀k:Nat,wf (.st (k:Nat) nm x r tt a b) 2=true:=λk=>by
     simp only[wf]at hw9⊢;simp_all
    by_cases Sa:bV 60 l9=59
    .rw[show decide (bV 60 l9=59)=true by simpa using Sa];refine If.t ?_;refine fY (mM ms (n:=14) az) ?_ (NP.no (e:=_));rintro _ fp ⟨rfl,ms,cR⟩;have Hf:=cR.size;replace ae:=cR.at ae al;replace ca:=ca.fr cR al;replace kk:=kk.trans cR;replace rx:=rx.fr cR al;replace rr:=rr.fr cR al;replace rt:=rt.fr cR al;replace ra:=ra.fr cR al;replace rb:=rb.fr cR al;refine Up.i (Nc.p _ _) ?_;refine V1.i ah ?_;refine U1.store (aH rfl rfl) ae ak λfT Ub=>?_;have zUb:=Ub.size;replace kk:=kk.trans' Ub.aA af;replace ms:=ms.aA Ub.aA af;replace ca:=ca.fr Ub.aA af;replace rx:=rx.fr Ub.aA af
     replace rr:=rr.fr Ub.aA af;replace rt:=rt.fr Ub.aA af;replace ra:=ra.fr Ub.aA af;replace rb:=rb.fr Ub.aA af;replace ae:=Ub.at_;simp only[set_cons_zero,set_cons_succ]at ae;exact⟨_,_,OV (bV 14 l9.tail),by omega,by rw[if_pos Sa];rfl,ms,EM ae rx rr rt ra rb,ca,kk,by omega⟩
    .rw[show decide (bV 60 l9=59)=false by simpa using Sa];refine If.f ?_;exact⟨_,_,OV kf,by omega,by rw[if_neg Sa],ms,EM ae rx rr rt ra rb,ca,kk,by omega⟩
   clear ms ae ca kk rx rr rt ra rb zI;rintro ei ⟨s,l10,CN,hl10,hms,ms,rs,ca,kk,zI⟩;have rI:=ca.qD;refine V1.aG (OU _ _) λab fp IF=>?_;have a11:At fp ab [ptr bs]:=IF.at_;have Hf:=IF.aA.size;replace ms:=ms.aA IF.aA ak;replace ca:=ca.f0 IF.aA;replace rs:=rs.f0 IF.aA;replace kk:=IF.kp kk;replace ca:=ca.fit (Y:=[]) ak;obtain⟨v',fT,eB,eO,dB,hg⟩:=vu (n:=4) ca a11 rfl (rs.fit (le_refl _) (λi hi=>.inr (.inl (by simpa using hi)))) aj aj ak aj;refine V1.i eB ?_;have z12:=dB.size;replace ms:=ms.aA dB (λi hi=>by have:=rI i hi;omega);replace kk:=kk.trans' dB (λi hi h=>by have:=rI i hi;omega);refine V1.i (CE _ _ _ _ aj) ?_;have vL:=im acc s OH CN
   have Wa:=dY acc s (bF 3 ak OH);have zF:mk m (.dO j (snoc acc s) d) l10 p9=mk n (.dO (bV 4 l) .nil d) l.tail p:=by
    rw[←xC,←hms];simp only[mk];rw[ue,←Hq,e9];rfl
   exact⟨⟨j,snoc acc s,l10,p9,m,rfl,by omega,W9 _,zF,by omega,vL.1,by omega,ms,eO,kk,by omega⟩,by simp⟩
theorem Hr:∀n,zE n:=by
 intro n;induction n using Nat.strongRecOn with
 |ind n ih=>
  cases n with
  |zero=>
   constructor
   .intro _ _ _ _ _ d h;simp only[cG]at h;omega
   .intro _ _ _ _ _ d h;simp only[cG]at h;omega
   .intro _ _ _ _ _ _ _ _ _ h;simp only[cG]at h;split at h<;>omega
  |succ n=>
   have H:∀m,m<=n->zE m:=λm hm=>ih m aj;exact{expr:=c74 H,stmts:=c23 H,fill:=c43 (H n (le_refl _))}
def mY(w:Wd)(v:Va)(l:By):Prop:=∃a c,v=.slice a l.length c/\l.length<=c/\l.length<=9223372036854775807/\∀i (h:i<l.length),∃b,a=some b/\w.cell? (b.add i)=some (.int .u8 l[i].toNat)
def eG(l:By):Tr:=match mk 200 (.stmts 6) (l.take 400) 0 with
 |.ok t _ _=>t
 |.bH=>.nil
theorem kU(l:By):∃l' p',mk 200 (.stmts 6) (l.take 400) 0=.ok (eG l) l' p'/\wf (eG l) 3=true/\cn (eG l)<=16001:=by
 have h:=dX 200 (.stmts 6) (l.take 400) 0 az trivial;have hl:(l.take 400).length<=400:=List.length_take_le _ _;unfold eG
 cases he:mk 200 (.stmts 6) (l.take 400) 0 with
 |bH=>rw[he]at h;exact h.elim
 |ok t l' p'=>
  rw[he]at h;obtain⟨h1,h2,h3⟩:=h;exact⟨l',p',rfl,h1,by dsimp only;omega⟩
theorem nV{w:Wd}{v:Va}{l:By}(h:mY w v l):Calls prog 10 #[v] w (aZ (λx w'=>aP (Fr w.heap.size []) w' (eG l) (.L x)/\aD [] w w') NP):=by
 refine Oo ?_;unfold BT;obtain⟨a,c,rfl,hc,hlen,nW⟩:=h;refine V1.i ah ?_;have htl:(l.take 400).length=min l.length 400:=by simp[Nat.min_comm]
 refine V1.i (v:=.int .i64 ((min l.length 400:Nat):Int)) (w':=w) ay ?_;refine V1.i (v:=.slice a (min l.length 400) c) (w':=w) (by
  have h1:min l.length 400<=c:=by omega
  simp[go_sem]
  intro h2;omega) ?_
 refine V1.i ah ?_;refine V1.new (SK _ _) λbm w1 N1=>?_;have gm:=N1.ge;have lm:=N1.lt;have z1:=N1.aA.size;have am:At w1 bm [.slice a (min l.length 400) c,.int .i64 (0:Nat)]:=N1.at_;have ms:MS (bm+1) w1 bm (l.take 400) 0:=by
  refine⟨by omega,by omega,_,am,a,c,by rw[htl],by omega,λi hi=>?_⟩;obtain⟨b,e,hb⟩:=nW i aj;have bO:=qc hb;rw[gz]at bO;refine⟨b,e,by omega,by omega,N1.aA.cell ?_ ak⟩;rw[hb];simp
 obtain⟨l',p',e,_,_⟩:=kU l;refine oL ((Hr 200).stmts (d:=6) az aj aj aj ms) ?_ (NP.no (e:=_));rintro u w2 ⟨t,l2,p2,e2,_,rt,K2⟩;rw[e]at e2;injection e2 with e2 _ _;rw[e2];exact⟨rt.fit aj ak,N1.aA.trans' K2 al⟩
end Go.Proofs.YtoddjlclpnoomaaGreatDoor
namespace Go.Proofs.YtoddjlclpnoomaaGreatDoor
open Go.Sh Go.RowKit Go.Lib Go.Shelf
def kV:List (String×DataW Unit):=Rows.printTreesRow.laid
def fh:List (String×DataW Unit):=[("math/bits.deBruijn32tab",Rows.laid_math_bits_deBruijn32tab),("math/bits.deBruijn64tab",Rows.laid_math_bits_deBruijn64tab),("internal/strconv.uint64pow10",Rows.laid_internal_strconv_uint64pow10),("unicode/utf8.acceptRanges",Rows.laid_unicode_utf8_acceptRanges),("strconv.ErrRange",Rows.laid_strconv_ErrRange),("strconv.ErrSyntax",Rows.laid_strconv_ErrSyntax),("unicode.White_Space",Rows.laid_unicode_White_Space),("strings.asciiSpace",Rows.laid_strings_asciiSpace),("unicode/utf8.first",Rows.laid_unicode_utf8_first)]
def OW:List (String×DataW Unit):=[("errors.errorType",Rows.laid_errors_errorType)]
theorem CO(W:Wd):laidMetH prog kV W=(laidMet prog fh W/\handlesMet prog OW W):=ai
theorem CP:(Rows.laid_strings_asciiSpace:DataW Unit)=tabData .u8 Lib.asciiSpaceTab:=ai
theorem OX:(Rows.laid_internal_strconv_uint64pow10:DataW Unit)=tabData .u64 Lib.pow10Tab:=ai
theorem CQ:Rows.laid_unicode_utf8_first=firstData:=Pinned.utf8First_eq
theorem zJ:(Rows.laid_unicode_utf8_acceptRanges:DataW Unit)=acceptData:=ai
theorem kW{W:Wd}{name:String}{k:IntKind}{zs:List Int}{g:Nat}{t e:TypeId}{n:Nat}(h:VarReads prog W name (tabData k zs))
  (hg:prog.globalNamed name=some g) (hty:(prog.globals[g]?).map (·.type)=some t) (ht:prog.underlying t=some (.array n e)) (he:prog.underlying e=some (.int k)) (hce:prog.cellsOf e=1) (NG:prog.cellsOf t=n):Lib.TabIs prog W name k zs:=by
 obtain⟨g',t',cs,fuel,p,rE,vY,F3,hd⟩:=h;obtain rfl:=Option.some.inj (hg.symm.trans rE);obtain rfl:=Option.some.inj (hty.symm.trans vY);unfold Lib.TabIs;rw[F3,←cells_of_tab ht he hce NG hd]
theorem rt:(prog.cutTypes.find? (·.1== "internal/reflectlite.rtype")).map (·.2)=some 128:=ai
theorem Hs:∃n,prog.types.size=n/\((List.range n).filter λt=>prog.rowNamed t [101,114,114,111,114])=[31]:=⟨prog.types.size,rfl,ai⟩
theorem Ht(u:TypeId)(h:prog.typeName? 3 u=some "*errors.errorString"):u=272:=
 have star: "*"++ "errors.errorString"= "*errors.errorString":=by decide
 typeName_ptr_named (nm:= "errors.errorString") (by rw[star];kernel_rfl) ai az u (by rw[star];exact h)
theorem wZ{v:Va}{W:Wd}(h:Row.ok prog W .any 0 3 #[v]):∃m,v=.int .i64 m:=by
 obtain⟨ts,h1,_,h3⟩:=h;have e:prog.cellTypes prog.depth 3=some [3]:=ai
 rw[e]at h1;obtain rfl:=Option.some.inj h1;obtain⟨u,hu,hc⟩:=h3 0 v rfl;obtain rfl:u=3:=by simpa using hu.symm
 unfold Cell.ok at hc;rw[underlying3]at hc
 cases v<;>first|exact hc.elim|skip
 rename_i k m
 obtain⟨e1,_⟩:=hc;rw[e1];exact⟨_,rfl⟩
theorem uO{W:Wd}(h:laidMetH prog kV W)(hs:W.ShapedOpen prog):GL W:=by
 rw[CO]at h;obtain⟨h,hh⟩:=h;obtain⟨s1,s2⟩:=hs;refine⟨?_,?_,?_,?_,?_,?_,?_⟩
 .have Ia:prog.globals.size=12:=ai
  have h0:12<(begin prog (λ_ _=>0) default).world.heap.size:=le_of_ble_eq_true ai;obtain⟨o,o₀,ho,_⟩:=s2 12 aj h0;rcases lt_or_ge 12 W.heap.size with h|h
  .omega
  .rw[Array.getElem?_eq_none aj]at ho;cases ho
 .have hz:((begin prog (λ_ _=>0) default).world.heap[3]?).bind Obj.row?=some (#[.int .i64 0],3):=ai
  have Ia:prog.globals.size=12:=ai
  obtain⟨cs,hc,hl,hr⟩:=s1 3 _ _ aj hz;have hb:prog.buildable 3=true:=ai
  have ho:=hr hb;match cs,hl with
  |⟨[v]⟩,_=>
   obtain⟨m,rfl⟩:=wZ ho;exact⟨m,by unfold cell?;rw[hc];rfl⟩
 .have:=laidMet.reads h (n:= "strings.asciiSpace") (d:=Rows.laid_strings_asciiSpace) (by unfold fh;simp);rw[CP]at this;exact kW (g:=1) (t:=156) (e:=5) (n:=256) this ai ai ai ai ai ai
 .have:=laidMet.reads h (n:= "internal/strconv.uint64pow10") (d:=Rows.laid_internal_strconv_uint64pow10) (by unfold fh;simp);rw[OX]at this;exact kW (g:=5) (t:=262) (e:=205) (n:=20) this ai ai ai ai ai ai
 .have h3:=laidMet.reads h (n:= "unicode/utf8.first") (d:=Rows.laid_unicode_utf8_first) (by unfold fh;simp);rw[CQ]at h3;have h4:=laidMet.reads h (n:= "unicode/utf8.acceptRanges") (d:=Rows.laid_unicode_utf8_acceptRanges) (by unfold fh;simp);rw[zJ]at h4;exact utf8Tabs_of_readsT (ρ:=mi) ⟨underlying5,underlying156,underlying270,underlying271⟩ ⟨by kernel_rfl,ai,ai,ai,ai,ai,ai⟩ h3 h4
 .obtain⟨a,s,hv,-,-,-⟩:=laid_sentinel (h.tail.tail.tail.tail) (g:=4) (ti:=31) (tp:=272) (te:=274) (ts:=9) ai ai underlying31 Ht underlying272 underlying274 rfl rfl underlying9 ai ai;have h0:=World.var?_cell (show prog.globalNamed "strconv.ErrRange"=some 4 by kernel_rfl) hv 0;exact⟨a,hv,by simpa using h0⟩
 .obtain⟨name,u,ty,e1,e2,e3,e4,e5⟩:=hh _ (mem_singleton.2 rfl);have en:name=[101,114,114,111,114]:=(Option.some.inj e1).symm;subst en;obtain rfl:=Option.some.inj (rt.symm.trans e2);obtain⟨n,hn,hf⟩:=Hs;have hm:ty∈(List.range n).filter λt=>prog.rowNamed t [101,114,114,111,114]:=mem_filter.2 ⟨mem_range.2 (by rw[←hn];exact e3),e4⟩;rw[hf]at hm;obtain rfl:=mem_singleton.1 hm;have hth:typeHandle prog 31=.pointer (some ⟨12,31,none⟩):=ai
  rw[hth]at e5;have h0:=World.var?_cell (show prog.globalNamed "errors.errorType"=some 0 by kernel_rfl) e5 0;simpa using h0
end Go.Proofs.YtoddjlclpnoomaaGreatDoor

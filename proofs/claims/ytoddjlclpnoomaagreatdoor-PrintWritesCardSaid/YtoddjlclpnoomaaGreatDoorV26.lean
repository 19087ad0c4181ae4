import Derived.Test.YtoddjlclpnoomaaGreatDoorV25
set_option linter.unusedVariables false
set_option linter.unusedSimpArgs false
set_option maxRecDepth 100000
open Go.Proofs.Tryz
open List (mem_append toList_toArray set_cons_zero set_cons_succ)
open Nat (le_refl)
open Go.Value (cells)
open Option (mem_toList mem_def)
namespace Go.Proofs.YtoddjlclpnoomaaGreatDoor
open Go.Sh
theorem kT(w:Wd)(cx cy:Bool)(a b:Nat):(Bo .eql 3 cx cy (.int .i64 (a:Nat)) (.int .i64 (b:Nat))).run prog w=.ok (.bool (decide (a=b))) w:=by rw[lX,zr]
theorem Hc(w:Wd)(cx cy:Bool)(a b:Nat):(Bo .eql 2 cx cy (.int .i64 (a:Nat)) (.int .i64 (b:Nat))).run prog w=.ok (.bool (decide (a=b))) w:=by rw[Of,zr]
theorem dT{n:Nat}{c:MC}{l:By}{p:Nat}{t:Tr}{l':By}{p':Nat}(h:mk n c l p=.ok t l' p')(hn:cG c<=n)(hp:sG c):nQ c l p t l' p':=by
 have:=dX n c l p hn hp;rw[h]at this;exact this
theorem CE(w:Wd)(cx cy:Bool)(j:Nat)(h:j<100000):(Bo .sub 3 cx cy (.int .i64 ((j+1:Nat):Int)) (.int .i64 1)).run prog w=.ok (.int .i64 (j:Nat)) w:=by
 rw[fP _ _ _ _ _ _ aj aj];rw[show((j+1:Nat):Int)-1=(j:Int)by omega]
theorem R5(w:Wd)(cx cy:Bool)(j:Nat):(Bo .gtr 3 cx cy (.int .i64 ((j+1:Nat):Int)) (.int .i64 0)).run prog w=.ok (.bool true) w:=by
 have:(0:Int)<(j:Int)+1:=by omega
 simp[go_sem,Bo,this]
theorem R6(w:Wd)(cx cy:Bool):(Bo .gtr 3 cx cy (.int .i64 ((0:Nat):Int)) (.int .i64 0)).run prog w=.ok (.bool false) w:=by
 simp[go_sem,Bo]
theorem CF(w:Wd)(p:Option Addr):(Instr.buildSlice 44 1 #[(0,.pointer p)]).run prog w=.ok (.slice (some ⟨w.heap.size,0,none⟩) 1 1) (w.alloc (.cells #[.pointer p] 41)):=by
 simp[go_sem];first|done|rfl|exact⟨rfl,rfl⟩|(repeat' (first|rfl|apply And.intro))
theorem WO(w:Wd)(s:By):(Instr.buildSlice 45 1 #[(0,str s)]).run prog w=.ok (.slice (some ⟨w.heap.size,0,none⟩) 1 1) (w.alloc (.cells #[str s] 9)):=by
 simp[go_sem];first|done|rfl|exact⟨rfl,rfl⟩|(repeat' (first|rfl|apply And.intro))
theorem Acc.WS{e:TypeId}{lo:Nat}{X own own':List Nat}{w w':Wd}{v:Va}{t:Tr}(h:Acc e lo (own++X) w v t)(hk:aD own w w')(hg:∀g∈own',g∈own\/w.heap.size<=g):Acc e lo (own'++X) w' v t:=by
 have h1:Acc e lo (own'++(own++X)) w v t:=h.fit (λi hi=>by
  rcases mem_append.1 hi with hi|hi
  .rcases hg i hi with h|h
   .exact .inr (.inl (mem_append.2 (.inl h)))
   .exact .inr (.inr h)
  .exact .inr (.inl hi))
 have h2:=h1.fr hk (λi hi=>.inr (.inl (mem_append.2 (.inr (mem_append.2 (.inl hi))))));exact h2.fit (λi hi=>.inr (.inl (by
  rcases mem_append.1 hi with hi|hi
  .exact mem_append.2 (.inl hi)
  .exact mem_append.2 (.inr (mem_append.2 (.inr hi))))))
theorem MS.parts{lo:Nat}{w:Wd}{bm:Nat}{l:By}{p:Nat}(h:MS lo w bm l p):∃v,At w bm [v,.int .i64 (p:Nat)]/\∀w',tV w bm [v,.int .i64 ((p+1:Nat):Int)] w'->MS lo w' bm l (p+1):=by
 obtain⟨h1,h2,v,h3,a,c,h4,h5,h6⟩:=h;refine⟨v,h3,λw' U=>⟨h1,by rw[U.size];exact h2,v,U.at_,a,c,h4,h5,λi hi=>?_⟩⟩;obtain⟨b,e,hb,vw,hc⟩:=h6 i hi;exact⟨b,e,hb,vw,U.aA.cell hc (by rw[gz];simpa using vw)⟩
theorem aP.app{lo:Nat}{X own own':List Nat}{w w':Wd}{t:Tr}{m:Md}(h:aP (Fr lo (own++X)) w t m)(hk:aD own w w')(hg:∀g∈own',g∈own\/w.heap.size<=g):aP (Fr lo (own'++X)) w' t m:=
 aP.aA hk (λb h1 h2=>⟨λhb=>h1.2 (mem_append.2 (.inl hb)),h1.1,λhb=>by
  rcases mem_append.1 hb with hb|hb
  .rcases hg b hb with h|h
   .exact h1.2 (mem_append.2 (.inl h))
   .omega
  .exact h1.2 (mem_append.2 (.inr hb))⟩) _ _ h
theorem Acc.qD{e:TypeId}{lo:Nat}{X:List Nat}{w:Wd}{v:Va}{t:Tr}(h:Acc e lo X w v t):∀g∈v.ownBlock.toList,lo<=g/\g∉X/\g<w.heap.size:=by
 intro g hg;simp only[mem_toList,mem_def]at hg;have:=h.lt hg;obtain⟨us,h1,h2,h3⟩:=h;exact⟨this.1,(h3 g hg).2,this.2⟩
theorem fg{lo be:Nat}{w:Wd}{k line nn:Int}{x:By}{lv rv kv av pv bv:Va}{l r ks gs b:Tr}{ps:LB}(h:At w be [.int .i64 k,.int .i64 line,.int .i64 nn,str x,lv,rv,kv,av,pv,bv])(hb:lo<=be)
  (rl:aP (Fr lo []) w l (.P lv)) (rr:aP (Fr lo []) w r (.P rv)) (rk:aP (Fr lo []) w ks (.L kv)) (rg:aP (Fr lo []) w gs (.L av)) (rp:Strs (Fr lo []) w pv ps) (rb:aP (Fr lo []) w b (.L bv)):
  aP (Fr lo []) w (.ex k nn x l r ks gs ps b) (.P (ptr be)):=
 ⟨be,line,lv,rv,kv,av,pv,bv,rfl,⟨hb,by simp⟩,h,rl,rr,rk,rg,rp,rb⟩
theorem cY{F:Nat->Prop}{w:Wd}:aP F w .nil (.P (.pointer none)):=rfl
theorem cL{F:Nat->Prop}{w:Wd}:aP F w .nil (.L (.slice none 0 0)):=.inl rfl
theorem jf{F:Nat->Prop}{w:Wd}:Strs F w (.slice none 0 0) []:=.inl ⟨rfl,rfl⟩
theorem eL{t:Tr}{m:Nat}(h:wf t m=true):t≠.hole:=by rintro rfl;cases m with|zero=>cases h|succ m=>cases m with|zero=>cases h|succ m=>cases m with|zero=>cases h|succ m=>cases m with|zero=>cases h|succ m=>cases h
structure zE(n:Nat):Prop where
 expr:∀{lo:Nat}{w:Wd}{bm:Nat}{l:By}{p:Nat}{d:Int},cG (.expr d)<=n->d<=100->-100<=d->p+40*l.length+10*n<=1000000->MS lo w bm l p->
  Calls prog 74 #[ptr bm,.int .i64 d] w (aZ (λv w'=>∃t l' p',mk n (.expr d) l p=.ok t l' p'/\MS lo w' bm l' p'/\aP (Fr w.heap.size []) w' t (.P v)/\aD [bm] w w') NP)
 stmts:∀{lo:Nat}{w:Wd}{bm:Nat}{l:By}{p:Nat}{d:Int},cG (.stmts d)<=n->d<=100->-100<=d->p+40*l.length+10*n<=1000000->MS lo w bm l p->
  Calls prog 23 #[ptr bm,.int .i64 d] w (aZ (λv w'=>∃t l' p',mk n (.stmts d) l p=.ok t l' p'/\MS lo w' bm l' p'/\aP (Fr w.heap.size []) w' t (.L v)/\aD [bm] w w') NP)
 fill:∀{lo:Nat}{w:Wd}{bm bs k:Nat}{line:Int}{l:By}{p:Nat}{d:Int},cG (.fill k d)<=n->k<12->sG (.fill k d)->d<=100->-200<=d->p+40*l.length+10*n<=1000000->MS lo w bm l p->lo<=bs->
  At w bs [.int .i64 (k:Nat),.int .i64 line,str [],.pointer none,.pointer none,.pointer none,.slice none 0 0,.slice none 0 0]->
  Calls prog 43 #[ptr bm,ptr bs,.int .i64 d] w (aZ (λ_ w'=>∃nm x r tt a b l' p',mk n (.fill k d) l p=.ok (.st k nm x r tt a b) l' p'/\MS lo w' bm l' p'/\
   (∃lv rv tv av bv,At w' bs [.int .i64 (k:Nat),.int .i64 line,str nm,lv,rv,tv,av,bv]/\aP (Fr w.heap.size []) w' x (.P lv)/\aP (Fr w.heap.size []) w' r (.P rv)/\aP (Fr w.heap.size []) w' tt (.P tv)/\aP (Fr w.heap.size []) w' a (.L av)/\aP (Fr w.heap.size []) w' b (.L bv))/\aD [bm,bs] w w') NP)
set_option maxHeartbeats 4000000 in
theorem c74{n:Nat}(H:∀m,m<=n->zE m){lo:Nat}{w:Wd}{bm:Nat}{l:By}{p:Nat}{d:Int}(hn:cG (.expr d)<=n+1)(zh:d<=100)(hd2:-100<=d)(hb:p+40*l.length+10*(n+1)<=1000000)(ms:MS lo w bm l p):
  Calls prog 74 #[ptr bm,.int .i64 d] w (aZ (λv w'=>∃t l' p',mk (n+1) (.expr d) l p=.ok t l' p'/\MS lo w' bm l' p'/\aP (Fr w.heap.size []) w' t (.P v)/\aD [bm] w w') NP):=by
 refine s74 ?_;unfold S74;have Hn:=H n (le_refl _);have kk:=aD.refl [bm] w;have vw:bm<lo:=ms.1;have eW:lo<=w.heap.size:=ms.2.1;have t1:=bP l;have t2:=bP l.tail;have t3:=bP l.tail.tail;have t4:=bP l.tail.tail.tail;have t5:=bP l.tail.tail.tail.tail;have u:=qy 12 l;simp only[cG]at hn;obtain⟨vm,am,uK⟩:=ms.parts;unfold ptr;refine Up.i (Nc.p _ _) ?_;refine V1.i ah ?_;refine V1.load (aC rfl) (am) rfl ?_;refine V1.i (cC _ _ _ _ _ _ aj aj) ?_;refine Up.i (Nc.p _ _) ?_;refine V1.i ah ?_;refine U1.store (aH rfl rfl) am ak λw1 Ua=>?_;have zUa:=Ua.size;replace kk:=kk.trans' Ua.aA af;replace am:=Ua.at_;simp only[set_cons_zero,set_cons_succ]at am
 replace ms:=uK w1 (by simpa using Ua);clear am uK;refine fY (mM ms (n:=12) az) ?_ (NP.no (e:=_));rintro _ w2 ⟨rfl,ms,K2⟩;have wH:=K2.size;replace kk:=kk.trans' K2 af;have Ep:=fe 12 l az;refine V1.i (cC _ _ _ _ _ _ aj aj) ?_;refine fY (mM ms (n:=90) az) ?_ (NP.no (e:=_));rintro _ w3 ⟨rfl,ms,K3⟩;have tG:=K3.size;replace kk:=kk.trans' K3 af;refine V1.i (kT w3 _ _ (bV 90 l.tail) 89) ?_;by_cases OC:bV 90 l.tail=89
 .rw[show decide (bV 90 l.tail=89)=true by simpa using OC];refine If.t ⟨.nil,_,_,by simp only[mk];rw[if_pos OC],ms,rfl,kk⟩
 rw[show decide (bV 90 l.tail=89)=false by simpa using OC];refine If.f ?_;refine fY (mM ms (n:=9) az) ?_ (NP.no (e:=_));rintro _ w4 ⟨rfl,ms,K4⟩;have A0:=K4.size;replace kk:=kk.trans' K4 af;refine V1.i ah ?_;refine V1.new (iE _ _) λbe w5 N5=>?_;have B5:=N5.ge;have AZ:=N5.lt;have Eb:=N5.aA.size;have ae:=N5.at_;try simp only[cells,toList_toArray]at ae
 replace kk:=N5.kp kk;replace ms:=ms.aA N5.aA af;have RH:bm<be:=by omega
 have Cu:lo<=be:=by omega
 refine V1.i (v:=.bool (decide (d<1))) (w':=w5) au ?_;obtain⟨vm,am,uK⟩:=ms.parts;refine J1.gd (decide (300<p+1)) (λh k hk=>?_) ?_
 .refine Up.i (Nc.p _ _) ?_;refine V1.i ah ?_;refine V1.load (aC rfl) (am) rfl ?_;refine V1.i (v:=.bool (decide (300<p+1))) (w':=w5) ay ?_;exact hk
 refine V1.i (fI _ _ _) ?_;clear am uK;generalize Ig:bV 9 l.tail.tail=line at*;by_cases hd:d<1\/300<p+1
 .rw[show(decide (d<1)||decide (300<p+1))=true by simpa using hd];refine If.t ?_;refine sJ (EF ms) ?_ (NP.no (e:=_));rintro _ w6 ⟨rfl,ms,K6⟩;have mr:=K6.size;replace kk:=kk.trans' K6 af;replace ae:=K6.at ae af;refine Up.i (Nc.p _ _) ?_;refine V1.i ah ?_;refine U1.store (aH rfl rfl) ae ak λw7 U7=>?_;have Io:=U7.size;replace kk:=kk.trans' U7.aA af;replace ms:=ms.aA U7.aA af;replace ae:=U7.at_;simp only[set_cons_zero,set_cons_succ]at ae;exact⟨_,_,_,by simp only[mk];rw[if_neg OC,if_pos hd];rfl,ms,fg ae aj cY cY cL cL jf cL,kk⟩
 rw[show(decide (d<1)||decide (300<p+1))=false by simpa using hd];refine If.f ?_;refine Up.i (Nc.p _ _) ?_;refine V1.i ah ?_;refine U1.store (aH rfl rfl) ae ak λw6 U6=>?_;have B8:=U6.size;replace kk:=kk.trans' U6.aA af;replace ms:=ms.aA U6.aA af;replace ae:=U6.at_;simp only[set_cons_zero,set_cons_succ]at ae;have oW:1<=d:=by omega
 have hz:(d-1+1).toNat+1=(d+1).toNat:=by omega
 have A8:d.toNat+1=(d+1).toNat:=by omega
 have ne:cG (.expr (d-1))<=n:=by simp only[cG];omega
 refine J0.cut (λw'=>∃t l' p',mk (n+1) (.expr d) l p=.ok t l' p'/\MS lo w' bm l' p'/\aP (Fr w.heap.size []) w' t (.P (.pointer (some ⟨be,0,none⟩)))/\aD [bm] w w') ?_ (λw' h=>h);have jn:bV 12 l=0\/bV 12 l=1\/bV 12 l=2\/bV 12 l=3\/bV 12 l=4\/bV 12 l=5\/bV 12 l=6\/bV 12 l=7\/bV 12 l=8\/bV 12 l=9\/bV 12 l=10\/bV 12 l=11:=by omega
 have oM:∀r,(match bV 12 l with
    |3=>.ok (lf 4 (if bV 8 l.tail.tail.tail=7 then-5 else bV 8 l.tail.tail.tail) []) l.tail.tail.tail.tail (p+1)
    |4=>.ok (lf 5 0 (GU.getD (bV 5 l.tail.tail.tail) [])) l.tail.tail.tail.tail (p+1)
    |5=>.ok (lf 6 0 (dZ l.tail.tail.tail)) l.tail.tail.tail.tail.tail (p+1)
    |6=>(mk n (.expr (d-1)) l.tail.tail.tail (p+1)).bind λa l p=>(mk n (.expr (d-1)) l p).bind λb l p=>.ok (.ex 7 0 [] a b .nil .nil [] .nil) l p
    |7=>(mk n (.expr (d-1)) l.tail.tail.tail (p+1)).bind λa l p=>(mk n (.args (bV 3 l) .nil d) l.tail p).bind λgs l p=>.ok (.ex 8 0 [] a .nil .nil gs [] .nil) l p
    |8=>(mk n (.stmts (d-1)) (nO (bV 3 l.tail.tail.tail) l.tail.tail.tail.tail) (p+1)).bind λb l' p=>.ok (.ex 9 0 [] .nil .nil .nil .nil (gj (bV 3 l.tail.tail.tail) l.tail.tail.tail.tail) b) l' p
    |9=>(mk n (.expr (d-1)) l.tail.tail.tail.tail (p+1)).bind λb l' p=>.ok (.ex 10 0 (nN true l.tail.tail.tail) .nil b .nil .nil [] .nil) l' p
    |10=>(mk n (.expr (d-1)) l.tail.tail.tail.tail (p+1)).bind λa l' p=>(mk n (.expr (d-1)) l' p).bind λb l' p=>.ok (.ex 11 0 (nN false l.tail.tail.tail) a b .nil .nil [] .nil) l' p
    |11=>(mk n (.items (bV 4 l.tail.tail.tail) .nil .nil d) l.tail.tail.tail.tail (p+1)).bind λr l p=>match r with
     |.cons ks (.cons gs .nil)=>.ok (.ex 12 0 [] .nil .nil (if bV 90 l=89 then snoc ks .nil else ks) gs [] .nil) l.tail p
     |_=>.bH
    |k=>.ok (lf (1+k) 0 []) l.tail.tail.tail (p+1):MR)=r->mk (n+1) (.expr d) l p=r:=by
  intro r h;simp only[mk];rw[if_neg OC,if_neg hd];exact h
 clear Ep hz K2 K3 K4;rcases jn with hk|hk|hk|hk|hk|hk|hk|hk|hk|hk|hk|hk<;>rw[hk]at oM ae u⊢<;>try dsimp only at oM
 .refine V1.bf au ?_;refine If.f ?_;refine V1.bf au ?_;refine If.f ?_;refine V1.bf au ?_;refine If.f ?_;refine V1.bf au ?_;refine If.f ?_;refine V1.bf au ?_;refine If.f ?_;refine V1.bf au ?_;refine If.f ?_;refine V1.bf au ?_;refine If.f ?_;refine V1.bf au ?_;refine If.f ?_;refine V1.bf au ?_;refine If.f ?_;exact⟨_,_,_,oM _ rfl,ms,fg ae aj cY cY cL cL jf cL,kk⟩
 .refine V1.bf au ?_;refine If.f ?_;refine V1.bf au ?_;refine If.f ?_;refine V1.bf au ?_;refine If.f ?_;refine V1.bf au ?_;refine If.f ?_;refine V1.bf au ?_;refine If.f ?_;refine V1.bf au ?_;refine If.f ?_;refine V1.bf au ?_;refine If.f ?_;refine V1.bf au ?_;refine If.f ?_;refine V1.bf au ?_;refine If.f ?_;exact⟨_,_,_,oM _ rfl,ms,fg ae aj cY cY cL cL jf cL,kk⟩
 .refine V1.bf au ?_;refine If.f ?_;refine V1.bf au ?_;refine If.f ?_;refine V1.bf au ?_;refine If.f ?_;refine V1.bf au ?_;refine If.f ?_;refine V1.bf au ?_;refine If.f ?_;refine V1.bf au ?_;refine If.f ?_;refine V1.bf au ?_;refine If.f ?_;refine V1.bf au ?_;refine If.f ?_;refine V1.bf au ?_;refine If.f ?_;exact⟨_,_,_,oM _ rfl,ms,fg ae aj cY cY cL cL jf cL,kk⟩
 .refine V1.bt au ?_;refine If.t ?_;refine fY (mM ms (n:=8) az) ?_ (NP.no (e:=_));rintro _ w7 ⟨rfl,ms,K7⟩;have jj:=K7.size;replace kk:=kk.trans' K7 af;replace ae:=K7.at ae af;refine Up.i (Nc.p _ _) ?_;refine V1.i ah ?_;refine U1.store (aH rfl rfl) ae ak λw8 mX=>?_;have CG:=mX.size;replace kk:=kk.trans' mX.aA af;replace ms:=ms.aA mX.aA af;replace ae:=mX.at_;simp only[set_cons_zero,set_cons_succ]at ae;refine Up.i (Nc.p _ _) ?_;refine V1.i ah ?_;refine V1.load (aC rfl) (ae) rfl ?_;refine V1.i (Hc w8 _ _ (bV 8 l.tail.tail.tail) 7) ?_;by_cases h7:bV 8 l.tail.tail.tail=7
  .rw[show decide (bV 8 l.tail.tail.tail=7)=true by simpa using h7];refine If.t ?_;refine Up.i (Nc.p _ _) ?_;refine V1.i ah ?_;refine U1.store (aH rfl rfl) ae ak λw9 U9=>?_;have A5:=U9.size;replace kk:=kk.trans' U9.aA af;replace ms:=ms.aA U9.aA af;replace ae:=U9.at_;simp only[set_cons_zero,set_cons_succ]at ae;exact⟨_,_,_,oM _ (by rw[if_pos h7];rfl),ms,fg ae aj cY cY cL cL jf cL,kk⟩
  .rw[show decide (bV 8 l.tail.tail.tail=7)=false by simpa using h7];refine If.f ?_;exact⟨_,_,_,oM _ (by rw[if_neg h7];rfl),ms,fg ae aj cY cY cL cL jf cL,kk⟩
 .refine V1.bf au ?_;refine If.f ?_;refine V1.bt au ?_;refine If.t ?_;refine V1.i (v:=.agg (GU.map str).toArray) (w':=w6) (by simp[go_sem];rfl) ?_;refine V1.i (DA w6) ?_;refine U1.i (run_storeAt_new w6 169 _ (GU.map str).toArray Ox rfl ai) ?_;have N:=mQ.mk' w6 (GU.map str).toArray 169;simp only[toList_toArray]at N;generalize w6.alloc (.cells (GU.map str).toArray 169)=wb at N⊢;generalize sC:w6.heap.size=bb at N⊢;have Fg:bm<bb:=by omega
  have ab:=N.at_;have zN:=N.aA.size;replace kk:=N.kp kk;replace ms:=ms.aA N.aA af;replace ae:=N.a ae;refine fY (mM ms (n:=5) az) ?_ (NP.no (e:=_));rintro _ w7 ⟨rfl,ms,K7⟩;have jj:=K7.size;replace kk:=kk.trans' K7 af;replace ae:=K7.at ae af;replace ab:=K7.at ab af;have h5:=fe 5 l.tail.tail.tail az;refine V1.i (EE h5) ?_;refine V1.i ((aC rfl) _ _ _ (nT ab (by show _<5;omega))) ?_;refine Up.i (Nc.p _ _) ?_;refine V1.i ah ?_;refine U1.store (aH rfl rfl) ae ak λw8 mX=>?_;have CG:=mX.size;replace kk:=kk.trans' mX.aA af;replace ms:=ms.aA mX.aA af;replace ae:=mX.at_
  simp only[set_cons_zero,set_cons_succ]at ae;exact⟨_,_,_,oM _ rfl,ms,fg ae aj cY cY cL cL jf cL,kk⟩
 .refine V1.bf au ?_;refine If.f ?_;refine V1.bf au ?_;refine If.f ?_;refine V1.bt au ?_;refine If.t ?_;refine sJ (EF ms) ?_ (NP.no (e:=_));rintro _ w7 ⟨rfl,ms,K7⟩;have jj:=K7.size;replace kk:=kk.trans' K7 af;replace ae:=K7.at ae af;refine Up.i (Nc.p _ _) ?_;refine V1.i ah ?_;refine U1.store (aH rfl rfl) ae ak λw8 mX=>?_;have CG:=mX.size;replace kk:=kk.trans' mX.aA af;replace ms:=ms.aA mX.aA af;replace ae:=mX.at_;simp only[set_cons_zero,set_cons_succ]at ae;exact⟨_,_,_,oM _ rfl,ms,fg ae aj cY cY cL cL jf cL,kk⟩
 .refine V1.bf au ?_;refine If.f ?_;refine V1.bf au ?_;refine If.f ?_;refine V1.bf au ?_;refine If.f ?_;refine V1.bt au ?_;refine If.t ?_;refine V1.i (fP _ _ _ _ _ _ aj aj) ?_;refine iN (Hn.expr ne aj aj aj ms) ?_ (NP.no (e:=_));rintro _ EG ⟨t1,l1,p1,e1,ms,r1,jt⟩;have sK:=jt.size;replace kk:=kk.trans' jt af;replace ae:=jt.at ae af;have g1:=dT e1 ne trivial;obtain⟨x1,y1,q1⟩:=g1;replace r1:=r1.fit (lo':=w.heap.size) (Y:=[be]) aj af;have uL:=r1.sI (eL x1);refine Up.i (Nc.p _ _) ?_;refine V1.i ah ?_
  refine U1.store (aH rfl uL) ae ak λWT ju=>?_;have EH:=ju.size;replace kk:=kk.trans' ju.aA af;replace ms:=ms.aA ju.aA af;replace r1:=r1.fr ju.aA af;replace ae:=ju.at_;simp only[set_cons_zero,set_cons_succ]at ae;refine V1.i (fP _ _ _ _ _ _ aj aj) ?_;refine iN (Hn.expr ne aj aj aj ms) ?_ (NP.no (e:=_));rintro _ wa2 ⟨t2,l2,p2,e2,ms,r2,CH⟩;have WU:=CH.size;replace kk:=kk.trans' CH af;replace ae:=CH.at ae af;replace r1:=r1.fr CH af;have g2:=dT e2 ne trivial;obtain⟨x2,y2,q2⟩:=g2;replace r2:=r2.fit (lo':=w.heap.size) (Y:=[be]) aj af;have Hd:=r2.sI (eL x2);refine Up.i (Nc.p _ _) ?_
  refine V1.i ah ?_;refine U1.store (aH rfl Hd) ae ak λEI lY=>?_;have OD:=lY.size;replace kk:=kk.trans' lY.aA af;replace ms:=ms.aA lY.aA af;replace r1:=r1.fr lY.aA af;replace r2:=r2.fr lY.aA af;replace ae:=lY.at_;simp only[set_cons_zero,set_cons_succ]at ae;exact⟨_,_,_,oM _ (by simp only[e1,e2,MR.bind];rfl),ms,fg ae aj (r1.fit (le_refl _) ak) (r2.fit (le_refl _) ak) cL cL jf cL,kk⟩
 .refine V1.bf au ?_;refine If.f ?_;refine V1.bf au ?_;refine If.f ?_;refine V1.bf au ?_;refine If.f ?_;refine V1.bf au ?_;refine If.f ?_;refine V1.bt au ?_;refine If.t ?_;refine V1.i (fP _ _ _ _ _ _ aj aj) ?_;refine iN (Hn.expr ne aj aj aj ms) ?_ (NP.no (e:=_));rintro _ EG ⟨t1,l1,p1,e1,ms,r1,jt⟩;have sK:=jt.size;replace kk:=kk.trans' jt af;replace ae:=jt.at ae af;have g1:=dT e1 ne trivial;obtain⟨x1,y1,q1⟩:=g1;replace r1:=r1.fit (lo':=w.heap.size) (Y:=[be]) aj af;have uL:=r1.sI (eL x1)
  refine Up.i (Nc.p _ _) ?_;refine V1.i ah ?_;refine U1.store (aH rfl uL) ae ak λWT OE=>?_;have zUb1:=OE.size;replace kk:=kk.trans' OE.aA af;replace ms:=ms.aA OE.aA af;replace r1:=r1.fr OE.aA af;replace ae:=OE.at_;simp only[set_cons_zero,set_cons_succ]at ae;have t6:=bP l1;refine fY (mM ms (n:=3) az) ?_ (NP.no (e:=_));rintro _ w7 ⟨rfl,ms,K7⟩;have jj:=K7.size;replace kk:=kk.trans' K7 af;replace ae:=K7.at ae af;replace r1:=r1.fr K7 af;have h3:=fe 3 l1 az;rename_i va _
  have OG:cG (.args (bV 3 l1) .nil d)<=n:=by simp only[cG];omega
  refine L1.i (λx w'=>∃(j:Nat) (acc:Tr) (l8:By) (p8 m:Nat) (v:Va),x=.int .i64 (j:Nat)/\m<=n/\cG (.args j acc d)<=m/\mk m (.args j acc d) l8 p8=mk n (.args (bV 3 l1) .nil d) l1.tail p1/\p8+40*l8.length+10*m<=1000000/\wf acc 1=true/\len acc+j<=3/\
    MS lo w' bm l8 p8/\At w' be [.int .i64 8,.int .i64 line,.int .i64 0,str [],va,.pointer none,.slice none 0 0,v,.slice none 0 0,.slice none 0 0]/\Acc 41 w.heap.size [be] w' v acc/\aP (Fr w.heap.size (v.ownBlock.toList++[be])) w' t1 (.P va)/\aD [bm] w w'/\be<w'.heap.size)
   (λx _=>match x with|.int _ n=>n.toNat|_=>0) ⟨bV 3 l1,.nil,l1.tail,p1,n,.slice none 0 0,rfl,le_refl _,OG,rfl,by omega,rfl,by simp only[len];omega,ms,ae,Acc.nil _ _ _ _,r1,kk,ae.lt⟩ ?_
  clear ms ae r1 kk K7;rintro x w7 ⟨j,acc,l8,p8,m,v,rfl,hm,aI,xC,Fg,OH,wK,ms,ae,ca,rt,kk,IB⟩
  cases m with
  |zero=>simp only[cG]at aI;omega
  |succ m=>
   cases j with
   |zero=>
    refine V1.i (R6 _ _ _) ?_;refine If.f ?_;simp only[mk]at xC;exact⟨_,_,_,oM _ (by simp only[e1,MR.bind,←xC]),ms,fg ae aj (rt.fit (le_refl _) ak) cY cL (ca.rep.fit (le_refl _) ak) jf cL,kk⟩
   |succ j=>
    refine V1.i (R5 _ _ _ _) ?_;refine If.t ?_;have KD:aD [] w7 w7.drew:=(aD.refl _ _).drew;replace ms:=ms.aA KD ak;replace ae:=KD.at ae ak;replace ca:=ca.fr KD ak;replace rt:=rt.fr KD ak;replace kk:=kk.trans' KD ak;have zD:=KD.size;refine⟨λw'=>At w' be [.int .i64 8,.int .i64 line,.int .i64 0,str [],va,.pointer none,.slice none 0 0,v,.slice none 0 0,.slice none 0 0],ae,?_⟩;generalize w7.drew=w8 at*;refine⟨_,λw' _=>Nc.p _ w',?_⟩;refine Xw.i _ (λw' _=>by simp[go_sem]<;>trivial) ?_;refine Xw.i _ (λw' hw=>(aC rfl) _ _ _ (by rw[hw.cell];rfl)) ?_;refine Xw.i (.int .i64 (d-1)) (λw' _=>fP _ _ _ _ _ _ aj aj) ?_;have He:cG (.expr (d-1))<=m:=by simp only[cG]at*;omega
    have qE:=ca.qD;refine iN ((H m aj).expr He aj aj aj ms) ?_ (NP.no (e:=_));rintro u w9 ⟨tx,l9,p9,e9,ms,rx,K9⟩;have g9:=dT e9 He trivial;obtain⟨x9,y9,q9⟩:=g9;have z9:=K9.size;replace ae:=K9.at ae al;replace ca:=ca.fr K9 al;replace rt:=rt.fr K9 al;replace kk:=kk.trans K9;replace rx:aP (Fr w.heap.size (v.ownBlock.toList++[be])) w9 tx (.P u):=rx.fit aj (λi hi=>.inl (by
     rcases mem_append.1 hi with hi|hi
     .exact(qE i hi).2.2
     .simp at hi;omega))
    refine⟨ae,?_⟩;obtain⟨pa,rfl⟩:=rx.ptr x9;refine V1.aG (CF _ _) λab ei eD=>?_;have iS:At ei ab [.pointer pa]:=eD.at_;have El:=eD.aA.size;replace ms:=ms.aA eD.aA ak;replace ae:=eD.a ae;replace ca:=ca.f0 eD.aA;replace rt:=rt.f0 eD.aA;replace rx:=rx.f0 eD.aA;replace kk:=eD.kp kk;refine⟨ae,?_⟩;obtain⟨v',fp,eB,eO,cR,hg⟩:=kJ (n:=3) ca iS rfl rx aj aj al aj;refine V1.i eB ?_;have qE:=ca.qD;have Hf:=cR.size;replace ms:=ms.aA cR (λi hi=>by have:=qE i hi;omega);replace kk:=kk.trans' cR (λi hi h=>by have:=qE i hi;omega);replace ae:=cR.at ae (λh=>(qE _ h).2.1 ak)
    replace rt:=rt.app (own':=v'.ownBlock.toList) cR (λg h=>by simp only[mem_toList,mem_def]at h⊢;exact hg g h);refine⟨_,λw' _=>Nc.p _ w',?_⟩;refine Xw.i _ (λw' _=>by simp[go_sem]<;>trivial) ?_;have Hg:=eO.sc;refine U1.store (aH rfl Hg) ae ak λfT jF=>?_;have Ci:=jF.size;replace kk:=kk.trans' jF.aA af;replace ms:=ms.aA jF.aA af;replace ae:=jF.at_;simp only[set_cons_zero,set_cons_succ]at ae;replace eO:=eO.fr jF.aA ak;replace rt:=rt.fr jF.aA ak;refine V1.i (CE _ _ _ _ aj) ?_;have vL:=eC acc tx OH x9;have Wa:=dY acc tx (bF 1 ak OH);have zF:mk m (.args j (snoc acc tx) d) l9 p9=mk n (.args (bV 3 l1) .nil d) l1.tail p1:=by
     rw[←xC];simp only[mk,e9,MR.bind]
    exact⟨⟨j,snoc acc tx,l9,p9,m,v',rfl,by omega,by simp only[cG]at*;omega,zF,by omega,vL.1,by omega,ms,ae,eO,rt,kk,by omega⟩,by simp⟩
 .refine V1.bf au ?_;refine If.f ?_;refine V1.bf au ?_;refine If.f ?_;refine V1.bf au ?_;refine If.f ?_;refine V1.bf au ?_;refine If.f ?_;refine V1.bf au ?_;refine If.f ?_;refine V1.bt au ?_;refine If.t ?_;refine fY (mM ms (n:=3) az) ?_ (NP.no (e:=_));rintro _ w7 ⟨rfl,ms,K7⟩;have jj:=K7.size;replace kk:=kk.trans' K7 af;replace ae:=K7.at ae af;have h3:=fe 3 l.tail.tail.tail az
  refine L1.i (λx w'=>∃(j:Nat) (ps:LB) (l8:By) (v:Va),x=.int .i64 (j:Nat)/\ps++gj j l8=gj (bV 3 l.tail.tail.tail) l.tail.tail.tail.tail/\nO j l8=nO (bV 3 l.tail.tail.tail) l.tail.tail.tail.tail/\ps.length+j<=3/\
    MS lo w' bm l8 (p+1)/\At w' be [.int .i64 9,.int .i64 line,.int .i64 0,str [],.pointer none,.pointer none,.slice none 0 0,.slice none 0 0,v,.slice none 0 0]/\fm (be+1) w' v ps/\aD [bm] w w'/\be<w'.heap.size)
   (λx _=>match x with|.int _ n=>n.toNat|_=>0) ⟨bV 3 l.tail.tail.tail,[],l.tail.tail.tail.tail,.slice none 0 0,rfl,rfl,rfl,by simp;omega,ms,ae,fm.nil _ _,kk,ae.lt⟩ ?_
  clear ms ae kk K7;rintro x w7 ⟨j,ps,l8,v,rfl,Cn,tN,hlj,ms,ae,ca,kk,IB⟩;have qE:∀g∈v.ownBlock.toList,be+1<=g/\g<w7.heap.size:=λg hg=>ca.lt (by simpa using hg)
  cases j with
  |zero=>
   refine V1.i (R6 _ _ _) ?_;refine If.f ?_;simp only[gj,nO,List.append_nil]at Cn tN;refine V1.i (fP _ _ _ _ _ _ aj aj) ?_;have WV:=nP (bV 3 l.tail.tail.tail) l.tail.tail.tail.tail;have ne3:cG (.stmts (d-1))<=n:=by simp only[cG];omega
   refine oL (Hn.stmts ne3 aj aj (by rw[tN];omega) ms) ?_ (NP.no (e:=_));rintro u w9 ⟨tb,l9,p9,e9,ms,rb,K9⟩;have g9:=dT e9 ne3 trivial;have z9:=K9.size;replace ae:=K9.at ae al;replace ca:=ca.fr K9 al;replace kk:=kk.trans K9;replace rb:=rb.fit (lo':=w.heap.size) (Y:=[be]) aj al;have scb:Sc u=true:=rb.qo (bF 3 ak g9.1);refine Up.i (Nc.p _ _) ?_;refine V1.i ah ?_;refine U1.store (aH rfl scb) ae ak λei gH=>?_;have yN:=gH.size;replace kk:=kk.trans' gH.aA af;replace ms:=ms.aA gH.aA af;replace rb:=rb.fr gH.aA af;replace ae:=gH.at_;simp only[set_cons_zero,set_cons_succ]at ae;replace ca:=ca.fr gH.aA af
   rw[tN]at e9;exact⟨_,_,_,oM _ (by rw[e9];simp only[MR.bind,←Cn]),ms,fg ae aj cY cY cL cL (ca.strs.fit aj ak) (rb.fit (le_refl _) ak),kk⟩
  |succ j=>
   refine V1.i (R5 _ _ _ _) ?_;refine If.t ?_;have KD:aD [] w7 w7.drew:=(aD.refl _ _).drew;replace ms:=ms.aA KD ak;replace ae:=KD.at ae ak;replace ca:=ca.fr KD ak;replace kk:=kk.trans' KD ak;have zD:=KD.size;refine⟨λw'=>At w' be [.int .i64 9,.int .i64 line,.int .i64 0,str [],.pointer none,.pointer none,.slice none 0 0,.slice none 0 0,v,.slice none 0 0],ae,?_⟩;generalize w7.drew=w8 at*;refine⟨_,λw' _=>Nc.p _ w',?_⟩;refine Xw.i _ (λw' _=>by simp[go_sem]<;>trivial) ?_;refine Xw.i _ (λw' hw=>(aC rfl) _ _ _ (by rw[hw.cell];rfl)) ?_;refine sJ (EF ms) ?_ (NP.no (e:=_));rintro _ w9 ⟨rfl,ms,K9⟩;have z9:=K9.size;replace ae:=K9.at ae al;replace ca:=ca.fr K9 al;replace kk:=kk.trans K9;refine⟨ae,?_⟩
   refine V1.aG (WO _ _) λab ei eD=>?_;have iS:At ei ab [str (dZ l8)]:=eD.at_;have El:=eD.aA.size;replace ms:=ms.aA eD.aA ak;replace ae:=eD.a ae;replace ca:=ca.f0 eD.aA;replace kk:=eD.kp kk;refine⟨ae,?_⟩;obtain⟨v',fp,eB,eO,cR⟩:=yr (n:=3) ca iS aj aj aj;refine V1.i eB ?_;have Hf:=cR.size;replace ms:=ms.aA cR (λi hi=>by have:=qE i hi;omega);replace kk:=kk.trans' cR (λi hi h=>by have:=qE i hi;omega);replace ae:=cR.at ae (λh=>by have:=qE _ h;omega);refine⟨_,λw' _=>Nc.p _ w',?_⟩;refine Xw.i _ (λw' _=>by simp[go_sem]<;>trivial) ?_;have Hg:=eO.sc;refine U1.store (aH rfl Hg) ae ak λfT jF=>?_;have Ci:=jF.size
   replace kk:=kk.trans' jF.aA af;replace ms:=ms.aA jF.aA af;replace ae:=jF.at_;simp only[set_cons_zero,set_cons_succ]at ae;replace eO:=eO.fr jF.aA af;refine V1.i (CE _ _ _ _ aj) ?_;exact⟨⟨j,ps++[dZ l8],l8.tail.tail,v',rfl,by rw[←Cn];simp[gj],by rw[←tN];rfl,by simp<;>omega,ms,ae,eO,kk,by omega⟩,by simp<;>omega⟩
 .refine V1.bf au ?_;refine If.f ?_;refine V1.bf au ?_;refine If.f ?_;refine V1.bf au ?_;refine If.f ?_;refine V1.bf au ?_;refine If.f ?_;refine V1.bf au ?_;refine If.f ?_;refine V1.bf au ?_;refine If.f ?_;refine V1.bt au ?_;refine If.t ?_;refine EC (OB (u:=true) ms) ?_ (NP.no (e:=_));rintro _ w7 ⟨rfl,ms,K7⟩;have jj:=K7.size;replace kk:=kk.trans' K7 af;replace ae:=K7.at ae af;refine Up.i (Nc.p _ _) ?_;refine V1.i ah ?_
  refine U1.store (aH rfl rfl) ae ak λw8 mX=>?_;have CG:=mX.size;replace kk:=kk.trans' mX.aA af;replace ms:=ms.aA mX.aA af;replace ae:=mX.at_;simp only[set_cons_zero,set_cons_succ]at ae;refine V1.i (fP _ _ _ _ _ _ aj aj) ?_;refine iN (Hn.expr ne aj aj aj ms) ?_ (NP.no (e:=_));rintro _ EG ⟨t1,l1,p1,e1,ms,r1,jt⟩;have sK:=jt.size;replace kk:=kk.trans' jt af;replace ae:=jt.at ae af;have g1:=dT e1 ne trivial;obtain⟨x1,y1,q1⟩:=g1;replace r1:=r1.fit (lo':=w.heap.size) (Y:=[be]) aj af;have uL:=r1.sI (eL x1);refine Up.i (Nc.p _ _) ?_;refine V1.i ah ?_;refine U1.store (aH rfl uL) ae ak λWT ju=>?_
  have EH:=ju.size;replace kk:=kk.trans' ju.aA af;replace ms:=ms.aA ju.aA af;replace r1:=r1.fr ju.aA af;replace ae:=ju.at_;simp only[set_cons_zero,set_cons_succ]at ae;exact⟨_,_,_,oM _ (by simp only[e1,MR.bind];rfl),ms,fg ae aj cY (r1.fit (le_refl _) ak) cL cL jf cL,kk⟩
 .refine V1.bf au ?_;refine If.f ?_;refine V1.bf au ?_;refine If.f ?_;refine V1.bf au ?_;refine If.f ?_;refine V1.bf au ?_;refine If.f ?_;refine V1.bf au ?_;refine If.f ?_;refine V1.bf au ?_;refine If.f ?_;refine V1.bf au ?_;refine If.f ?_;refine V1.bt au ?_;refine If.t ?_;refine EC (OB (u:=false) ms) ?_ (NP.no (e:=_));rintro _ w7 ⟨rfl,ms,K7⟩;have jj:=K7.size;replace kk:=kk.trans' K7 af;replace ae:=K7.at ae af;refine Up.i (Nc.p _ _) ?_
  refine V1.i ah ?_;refine U1.store (aH rfl rfl) ae ak λw8 mX=>?_;have CG:=mX.size;replace kk:=kk.trans' mX.aA af;replace ms:=ms.aA mX.aA af;replace ae:=mX.at_;simp only[set_cons_zero,set_cons_succ]at ae;refine V1.i (fP _ _ _ _ _ _ aj aj) ?_;refine iN (Hn.expr ne aj aj aj ms) ?_ (NP.no (e:=_));rintro _ EG ⟨t1,l1,p1,e1,ms,r1,jt⟩;have sK:=jt.size;replace kk:=kk.trans' jt af;replace ae:=jt.at ae af;have g1:=dT e1 ne trivial;obtain⟨x1,y1,q1⟩:=g1;replace r1:=r1.fit (lo':=w.heap.size) (Y:=[be]) aj af;have uL:=r1.sI (eL x1);refine Up.i (Nc.p _ _) ?_;refine V1.i ah ?_
  refine U1.store (aH rfl uL) ae ak λWT ju=>?_;have EH:=ju.size;replace kk:=kk.trans' ju.aA af;replace ms:=ms.aA ju.aA af;replace r1:=r1.fr ju.aA af;replace ae:=ju.at_;simp only[set_cons_zero,set_cons_succ]at ae;refine V1.i (fP _ _ _ _ _ _ aj aj) ?_;refine iN (Hn.expr ne aj aj aj ms) ?_ (NP.no (e:=_));rintro _ wa2 ⟨t2,l2,p2,e2,ms,r2,CH⟩;have WU:=CH.size;replace kk:=kk.trans' CH af;replace ae:=CH.at ae af;replace r1:=r1.fr CH af;have g2:=dT e2 ne trivial;obtain⟨x2,y2,q2⟩:=g2;replace r2:=r2.fit (lo':=w.heap.size) (Y:=[be]) aj af;have Hd:=r2.sI (eL x2);refine Up.i (Nc.p _ _) ?_
  refine V1.i ah ?_;refine U1.store (aH rfl Hd) ae ak λEI lY=>?_;have OD:=lY.size;replace kk:=kk.trans' lY.aA af;replace ms:=ms.aA lY.aA af;replace r1:=r1.fr lY.aA af;replace r2:=r2.fr lY.aA af;replace ae:=lY.at_;simp only[set_cons_zero,set_cons_succ]at ae;exact⟨_,_,_,oM _ (by simp only[e1,e2,MR.bind];rfl),ms,fg ae aj (r1.fit (le_refl _) ak) (r2.fit (le_refl _) ak) cL cL jf cL,kk⟩
 .refine V1.bf au ?_;refine If.f ?_;refine V1.bf au ?_;refine If.f ?_;refine V1.bf au ?_;refine If.f ?_;refine V1.bf au ?_;refine If.f ?_;refine V1.bf au ?_;refine If.f ?_;refine V1.bf au ?_;refine If.f ?_;refine V1.bf au ?_;refine If.f ?_;refine V1.bf au ?_;refine If.f ?_;refine V1.bt au ?_;refine If.t ?_;refine fY (mM ms (n:=4) az) ?_ (NP.no (e:=_));rintro _ w7 ⟨rfl,ms,K7⟩;have jj:=K7.size;replace kk:=kk.trans' K7 af
  replace ae:=K7.at ae af;have h4:=fe 4 l.tail.tail.tail az;have OG:cG (.items (bV 4 l.tail.tail.tail) .nil .nil d)<=n:=by simp only[cG];omega
  refine L1.i (λx w'=>∃(j:Nat) (ks gs:Tr) (l8:By) (p8 m:Nat) (kv av:Va),x=.int .i64 (j:Nat)/\m<=n/\cG (.items j ks gs d)<=m/\mk m (.items j ks gs d) l8 p8=mk n (.items (bV 4 l.tail.tail.tail) .nil .nil d) l.tail.tail.tail.tail (p+1)/\p8+40*l8.length+10*m<=1000000/\wf ks 1=true/\wf gs 1=true/\len ks+j<=4/\len gs+j<=4/\
    MS lo w' bm l8 p8/\At w' be [.int .i64 12,.int .i64 line,.int .i64 0,str [],.pointer none,.pointer none,kv,av,.slice none 0 0,.slice none 0 0]/\Acc 41 w.heap.size (av.ownBlock.toList++[be]) w' kv ks/\Acc 41 w.heap.size (kv.ownBlock.toList++[be]) w' av gs/\aD [bm] w w'/\be<w'.heap.size)
   (λx _=>match x with|.int _ n=>n.toNat|_=>0) ⟨bV 4 l.tail.tail.tail,.nil,.nil,l.tail.tail.tail.tail,p+1,n,.slice none 0 0,.slice none 0 0,rfl,le_refl _,OG,rfl,by omega,rfl,rfl,by simp only[len];omega,by simp only[len];omega,ms,ae,Acc.nil _ _ _ _,Acc.nil _ _ _ _,kk,ae.lt⟩ ?_
  clear ms ae kk K7;rintro x w7 ⟨j,ks,gs,l8,p8,m,kv,av,rfl,hm,aI,xC,Fg,hwk,IC,ux,OI,ms,ae,ck,ca,kk,IB⟩
  cases m with
  |zero=>simp only[cG]at aI;omega
  |succ m=>
   cases j with
   |zero=>
    refine V1.i (R6 _ _ _) ?_;refine If.f ?_;simp only[mk]at xC;refine fY (mM ms (n:=90) az) ?_ (NP.no (e:=_));rintro _ w8 ⟨rfl,ms,K8⟩;have z8:=K8.size;have tU:=ck.qD;have rI:=ca.qD;replace ae:=K8.at ae al;replace ck:=ck.fr K8 al;replace ca:=ca.fr K8 al;replace kk:=kk.trans K8;refine V1.i (kT w8 _ _ (bV 90 l8) 89) ?_;by_cases R7:bV 90 l8=89
    .rw[show decide (bV 90 l8=89)=true by simpa using R7];refine If.t ?_;refine Up.i (Nc.p _ _) ?_;refine V1.i ah ?_;refine V1.load (aC rfl) (ae) rfl ?_;refine V1.aG (CF _ _) λab ei eD=>?_;have iS:At ei ab [.pointer none]:=eD.at_;have El:=eD.aA.size;replace ms:=ms.aA eD.aA ak;replace ae:=eD.a ae;replace ck:=ck.f0 eD.aA;replace ca:=ca.f0 eD.aA;replace kk:=eD.kp kk;obtain⟨sy,fp,eB,jE,cR,hg⟩:=kJ (n:=4) (x:=.nil) ck iS rfl rfl aj aj (λi hi=>by
      rcases mem_append.1 hi with hi|hi
      .have:=rI i hi;omega
      .simp at hi;omega) aj
     refine V1.i eB ?_;have Hf:=cR.size;replace ms:=ms.aA cR (λi hi=>by have:=tU i hi;omega);replace kk:=kk.trans' cR (λi hi h=>by have:=tU i hi;omega);replace ae:=cR.at ae (λh=>(tU _ h).2.1 ak);replace ca:=ca.WS (own':=sy.ownBlock.toList) cR (λg h=>by simp only[mem_toList,mem_def]at h⊢;exact hg g h);refine Up.i (Nc.p _ _) ?_;refine V1.i ah ?_;have Hg:=jE.sc;refine U1.store (aH rfl Hg) ae ak λfT jF=>?_;have Ci:=jF.size;replace kk:=kk.trans' jF.aA af;replace ms:=ms.aA jF.aA af;replace ae:=jF.at_;simp only[set_cons_zero,set_cons_succ]at ae;replace jE:=jE.fr jF.aA ak;replace ca:=ca.fr jF.aA ak
     exact⟨_,_,_,oM _ (by simp only[←xC,MR.bind,if_pos R7]),ms,fg ae aj cY cY (jE.rep.fit (le_refl _) ak) (ca.rep.fit (le_refl _) ak) jf cL,kk⟩
    .rw[show decide (bV 90 l8=89)=false by simpa using R7];refine If.f ?_;exact⟨_,_,_,oM _ (by simp only[←xC,MR.bind,if_neg R7]),ms,fg ae aj cY cY (ck.rep.fit (le_refl _) ak) (ca.rep.fit (le_refl _) ak) jf cL,kk⟩
   |succ j=>
    refine V1.i (R5 _ _ _ _) ?_;refine If.t ?_;have He:cG (.expr (d-1))<=m:=by simp only[cG]at*;omega
    have tl8:=bP l8;refine J1.cut (λx w'=>∃tx l9 p9,(if bV 2 l8=1 then mk m (.expr (d-1)) l8.tail p8 else .ok .nil l8.tail p8)=.ok tx l9 p9/\wf tx 0=true/\p9+40*l9.length+10*m+5<=1000000/\MS lo w' bm l9 p9/\aP (Fr w.heap.size (kv.ownBlock.toList++(av.ownBlock.toList++[be]))) w' tx (.P x)/\At w' be [.int .i64 12,.int .i64 line,.int .i64 0,str [],.pointer none,.pointer none,kv,av,.slice none 0 0,.slice none 0 0]/\Acc 41 w.heap.size (av.ownBlock.toList++[be]) w' kv ks/\Acc 41 w.heap.size (kv.ownBlock.toList++[be]) w' av gs/\aD [bm] w w'/\be<w'.heap.size) ?_ ?_
    .refine fY (mM ms (n:=2) az) ?_ (NP.no (e:=_));rintro _ w8 ⟨rfl,ms,K8⟩;have z8:=K8.size;have tU:=ck.qD;have rI:=ca.qD;replace ae:=K8.at ae al;replace ck:=ck.fr K8 al;replace ca:=ca.fr K8 al;replace kk:=kk.trans K8;refine V1.i (kT w8 _ _ (bV 2 l8) 1) ?_;by_cases h2:bV 2 l8=1
     .rw[show decide (bV 2 l8=1)=true by simpa using h2];refine If.t ?_;refine V1.i (fP _ _ _ _ _ _ aj aj) ?_;refine iN ((H m aj).expr He aj aj aj ms) ?_ (NP.no (e:=_));rintro u w9 ⟨tx,l9,p9,e9,ms,rx,K9⟩;have g9:=dT e9 He trivial;obtain⟨x9,y9,q9⟩:=g9;have z9:=K9.size;replace ae:=K9.at ae al;replace ck:=ck.fr K9 al;replace ca:=ca.fr K9 al;replace kk:=kk.trans K9;refine⟨tx,l9,p9,by rw[if_pos h2];exact e9,x9,by omega,ms,rx.fit aj (λi hi=>.inl ?_),ae,ck,ca,kk,by omega⟩;rcases mem_append.1 hi with hi|hi
      .have:=tU i hi;omega
      .rcases mem_append.1 hi with hi|hi
       .have:=rI i hi;omega
       .simp at hi;omega
     .rw[show decide (bV 2 l8=1)=false by simpa using h2];refine If.f ?_;exact⟨.nil,l8.tail,p8,by rw[if_neg h2],rfl,by omega,ms,rfl,ae,ck,ca,kk,by omega⟩
    clear ms ae ck ca kk IB;rintro x w8 ⟨tk,l9,p9,ek,wk,hb9,ms,rk,ae,ck,ca,kk,IB⟩;have tU:=ck.qD;have rI:=ca.qD;refine Up.i (Nc.p _ _) ?_;refine V1.i ah ?_;refine V1.load (aC rfl) (ae) rfl ?_;obtain⟨pk,rfl⟩:=rk.ptr wk;refine V1.aG (CF _ _) λab ei eD=>?_;have iS:At ei ab [.pointer pk]:=eD.at_;have El:=eD.aA.size;replace ms:=ms.aA eD.aA ak;replace ae:=eD.a ae;replace ck:=ck.f0 eD.aA;replace ca:=ca.f0 eD.aA;replace rk:=rk.f0 eD.aA;replace kk:=eD.kp kk;obtain⟨sy,fp,eB,jE,cR,hg⟩:=kJ (n:=4) ck iS rfl rk aj aj (λi hi=>by
     rcases mem_append.1 hi with hi|hi
     .have:=rI i hi;omega
     .simp at hi;omega) aj
    refine V1.i eB ?_;have Hf:=cR.size;replace ms:=ms.aA cR (λi hi=>by have:=tU i hi;omega);replace kk:=kk.trans' cR (λi hi h=>by have:=tU i hi;omega);replace ae:=cR.at ae (λh=>(tU _ h).2.1 ak);replace ca:=ca.WS (own':=sy.ownBlock.toList) cR (λg h=>by simp only[mem_toList,mem_def]at h⊢;exact hg g h);refine Up.i (Nc.p _ _) ?_;refine V1.i ah ?_;have Hg:=jE.sc;refine U1.store (aH rfl Hg) ae ak λfT jF=>?_;have Ci:=jF.size;replace kk:=kk.trans' jF.aA af;replace ms:=ms.aA jF.aA af;replace ae:=jF.at_;simp only[set_cons_zero,set_cons_succ]at ae;replace jE:=jE.fr jF.aA ak;replace ca:=ca.fr jF.aA ak;clear tU;have tU:=jE.qD
    have KD:aD [] fT fT.drew:=(aD.refl _ _).drew;replace ms:=ms.aA KD ak;replace ae:=KD.at ae ak;replace jE:=jE.fr KD ak;replace ca:=ca.fr KD ak;replace kk:=kk.trans' KD ak;have zD:=KD.size;refine⟨λw'=>At w' be [.int .i64 12,.int .i64 line,.int .i64 0,str [],.pointer none,.pointer none,sy,av,.slice none 0 0,.slice none 0 0],ae,?_⟩;generalize fT.drew=mK at*;refine⟨_,λw' _=>Nc.p _ w',?_⟩;refine Xw.i _ (λw' _=>by simp[go_sem]<;>trivial) ?_;refine Xw.i _ (λw' hw=>(aC rfl) _ _ _ (by rw[hw.cell];rfl)) ?_;refine Xw.i (.int .i64 (d-1)) (λw' _=>fP _ _ _ _ _ _ aj aj) ?_;refine iN ((H m aj).expr He aj aj aj ms) ?_ (NP.no (e:=_));rintro u lu ⟨tx,la,pa,ea,ms,rx,kN⟩;have ga:=dT ea He trivial
    obtain⟨xa,ya,qa⟩:=ga;have z14:=kN.size;replace ae:=kN.at ae al;replace jE:=jE.fr kN al;replace ca:=ca.fr kN al;replace kk:=kk.trans kN;replace rx:aP (Fr w.heap.size (av.ownBlock.toList++(sy.ownBlock.toList++[be]))) lu tx (.P u):=rx.fit aj (λi hi=>.inl (by
     rcases mem_append.1 hi with hi|hi
     .have:=rI i hi;omega
     .rcases mem_append.1 hi with hi|hi
      .have:=tU i hi;omega
      .simp at hi;omega))
    refine⟨ae,?_⟩;obtain⟨px,rfl⟩:=rx.ptr xa;refine V1.aG (CF _ _) λyz sx lU=>?_;have nL:At sx yz [.pointer px]:=lU.at_;have z15:=lU.aA.size;replace ms:=ms.aA lU.aA ak;replace ae:=lU.a ae;replace jE:=jE.fr lU.aA ak;replace ca:=ca.f0 lU.aA;replace rx:=rx.f0 lU.aA;replace kk:=lU.kp kk;refine⟨ae,?_⟩;obtain⟨Ce,xp,OJ,eO,jk,yA⟩:=kJ (n:=4) ca nL rfl rx aj aj (λi hi=>by
     rcases mem_append.1 hi with hi|hi
     .have:=tU i hi;omega
     .simp at hi;omega) aj
    refine V1.i OJ ?_;have z16:=jk.size;have Hh:=ca.qD;replace ms:=ms.aA jk (λi hi=>by have:=Hh i hi;omega);replace kk:=kk.trans' jk (λi hi h=>by have:=Hh i hi;omega);replace ae:=jk.at ae (λh=>(Hh _ h).2.1 ak);replace jE:=jE.WS (own':=Ce.ownBlock.toList) jk (λg h=>by simp only[mem_toList,mem_def]at h⊢;exact yA g h);refine⟨_,λw' _=>Nc.p _ w',?_⟩;refine Xw.i _ (λw' _=>by simp[go_sem]<;>trivial) ?_;have WW:=eO.sc;refine U1.store (aH rfl WW) ae ak λEf uw=>?_;have Vx:=uw.size;replace kk:=kk.trans' uw.aA af;replace ms:=ms.aA uw.aA af;replace ae:=uw.at_;simp only[set_cons_zero,set_cons_succ]at ae;replace eO:=eO.fr uw.aA ak;replace jE:=jE.fr uw.aA ak
    refine V1.i (CE _ _ _ _ aj) ?_;have B6:=eC ks tk hwk wk;have tF:=eC gs tx IC xa;have vI:=dY ks tk (bF 1 ak hwk);have gI:=dY gs tx (bF 1 ak IC);have zF:mk m (.items j (snoc ks tk) (snoc gs tx) d) la pa=mk n (.items (bV 4 l.tail.tail.tail) .nil .nil d) l.tail.tail.tail.tail (p+1):=by
     rw[←xC];simp only[mk,ek,ea,MR.bind]
    exact⟨⟨j,snoc ks tk,snoc gs tx,la,pa,m,sy,Ce,rfl,by omega,by simp only[cG]at*;omega,zF,by omega,B6.1,tF.1,by omega,by omega,ms,ae,jE,eO,kk,by omega⟩,by simp⟩
end Go.Proofs.YtoddjlclpnoomaaGreatDoor

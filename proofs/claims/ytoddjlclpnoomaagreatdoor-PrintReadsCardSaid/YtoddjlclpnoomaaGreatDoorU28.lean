import Derived.Test.YtoddjlclpnoomaaGreatDoorU27
set_option linter.unusedVariables false
set_option linter.unusedSimpArgs false
set_option maxRecDepth 100000
open Go.Proofs.Tryz
open Go.Instr (box loadAt indexAt)
open List (mem_append contains_cons drop_eq_getElem_cons getElem_mem contains_nil take_succ_eq_append_getElem mem_singleton)
open Nat (lt_or_ge lt_of_lt_of_le)
open Go.Value (cells)
open Go.World (setCell)
namespace Go.Proofs.YtoddjlclpnoomaaGreatDoor
open Go.Sh
set_option maxRecDepth 100000
structure Rp where
 p:Nat
 bt:Nat
 cap:Nat
 all:LT
 ne:bt≠p
 len:all.length<=cap
 wo:1<=all.length/\all.length<=40000
 e5:(hd (all.drop (all.length-1))).kind=5
inductive Sg where
 |go (ts:LT)
 |bad (c:Int)
def Sg.dS:Sg->Bool
 |.go _=>false
 |.bad _=>true
def Sg.code:Sg->Int
 |.go _=>0
 |.bad c=>c
def Sg.hd(x:Rp):Sg->Tok
 |.go ts=>Go.Proofs.YtoddjlclpnoomaaGreatDoor.hd ts
 |.bad _=>Go.Proofs.YtoddjlclpnoomaaGreatDoor.hd (x.all.drop (x.all.length-1))
def Sg.pos(x:Rp)(i:Nat):Sg->Prop
 |.go ts=>ts=x.all.drop i/\i<x.all.length
 |.bad _=>i=x.all.length-1
structure RS(w:Wd)(x:Rp)(s:Sg)(d:Int):Prop where
 ex:∃(i:Nat) (line:Int),At w x.p [.slice (some ⟨x.bt,0,none⟩) x.all.length x.cap,.int .i64 i,.int .i64 d,.bool s.dS,.int .i64 s.code,.int .i64 line]/\s.pos x i
 tk:cW w x.bt 0 x.all
 lt:x.bt<w.heap.size
 dp:d<=65/\-1<=d/\(s.dS=false->d<=64)
section
variable {w w':Wd}{x:Rp}{s:Sg}{d:Int}
theorem RS.lW(h:RS w x s d):x.p<w.heap.size:=by
 obtain⟨i,l,h,_⟩:=h.ex;exact h.lt
theorem RS.aA{M:List Nat}(h:RS w x s d)(hk:aD M w w')(hp:x.p∉M)(ht:x.bt∉M):RS w' x s d:=by
 obtain⟨i,l,h1,h2⟩:=h.ex;exact⟨⟨i,l,hk.at h1 hp,h2⟩,cW.aA hk ht _ _ h.tk,lt_of_lt_of_le h.lt hk.size,h.dp⟩
theorem RS.new(h:RS w x s d)(hk:aD [] w w'):RS w' x s d:=h.aA hk ak ak
theorem RS.XD{b:Nat}(h:RS w x s d)(hk:aD [b] w w')(hp:x.p≠b)(ht:x.bt≠b):RS w' x s d:=h.aA hk (by simpa using hp) (by simpa using ht)
theorem me{l:LT}{i:Nat}(h:i<l.length):hd (l.drop i)=l[i]:=by
 rw[drop_eq_getElem_cons h];rfl
theorem pq{i:Nat}(h:s.pos x i):∃hi:i<x.all.length,s.hd x=x.all[i]:=by
 have:=x.wo
 cases s with
 |go ts=>obtain⟨rfl,h2⟩:=h;exact⟨h2,me h2⟩
 |bad c=>obtain rfl:i=x.all.length-1:=h;exact⟨by omega,me aj⟩
theorem jX{b:Nat}:∀(l:LT) (o i:Nat) (h:i<l.length),cW w b o l->w.cell? ⟨b,o+4*i,none⟩=some (.int .i64 l[i].kind)/\w.cell? ⟨b,o+4*i+1,none⟩=some (str l[i].text)/\w.cell? ⟨b,o+4*i+2,none⟩=some (.int .i64 l[i].n)/\
   w.cell? ⟨b,o+4*i+3,none⟩=some (.int .i64 l[i].line)
 |[],o,i,h,_=>absurd h ak
 |t::l,o,0,h,⟨a,b⟩=>a
 |t::l,o,i+1,h,⟨a,b⟩=>by
  have:=jX l (o+4) i (by simpa using h) b;rw[show o+4*(i+1)=o+4+4*i by omega];exact this
theorem mY{w:Wd}{b n c k:Nat}(h:k<n):(indexAt 73 (.slice (some ⟨b,0,none⟩) n c) (.int .i64 k)).run prog w=.ok (.pointer (some ⟨b,4*k,none⟩)) w:=by
 have:(k:Int)<n:=by omega
 simp[go_sem,h,Addr.add]
 by_cases h0:k=0
 .subst h0;simp
 .rw[if_neg aj,Nat.mul_comm]
structure RW(w:Wd)(x:Rp)(i:Nat)(d:Int)(b:Bool)(c l:Int):Prop where
 at_:At w x.p [.slice (some ⟨x.bt,0,none⟩) x.all.length x.cap,.int .i64 i,.int .i64 d,.bool b,.int .i64 c,.int .i64 l]
 tk:cW w x.bt 0 x.all
 lt:x.bt<w.heap.size
theorem RW.new{i:Nat}{b:Bool}{c l:Int}(h:RW w x i d b c l)(hk:aD [] w w'):RW w' x i d b c l:=⟨hk.at h.at_ ak,cW.aA hk ak _ _ h.tk,lt_of_lt_of_le h.lt hk.size⟩
theorem RW.F8{i i':Nat}{b b':Bool}{c l c' l' d':Int}(h:RW w x i d b c l)(U:tB w x.p [.slice (some ⟨x.bt,0,none⟩) x.all.length x.cap,.int .i64 (i':Nat),.int .i64 d',.bool b',.int .i64 c',.int .i64 l'] w'):RW w' x i' d' b' c' l':=
 ⟨U.at_,cW.aA U.aA (by simpa using x.ne) _ _ h.tk,lt_of_lt_of_le h.lt U.aA.size⟩
theorem RS.raw(h:RS w x s d):∃(i:Nat) (line:Int),RW w x i d s.dS s.code line/\s.pos x i:=by
 obtain⟨i,l,h1,h2⟩:=h.ex;exact⟨i,l,⟨h1,h.tk,h.lt⟩,h2⟩
theorem RW.rs{i:Nat}{l:Int}(h:RW w x i d s.dS s.code l)(hp:s.pos x i)(hd:d<=65/\-1<=d/\(s.dS=false->d<=64)):RS w x s d:=⟨⟨i,l,h.at_,hp⟩,h.tk,h.lt,hd⟩
theorem RW.tok{i k:Nat}{b:Bool}{c l:Int}(h:RW w x k d b c l)(hi:i<x.all.length):(loadAt 86 (.pointer (some ⟨x.bt,4*i,none⟩))).run prog w=.ok (dm x.all[i]) w:=by
 obtain⟨h0,h1,h2,h3⟩:=jX _ _ _ hi h.tk;simp only[Nat.zero_add]at h0 h1 h2 h3;exact tC _ _ _ _ _ _ _ h0 h1 h2 h3
theorem MP{i:Nat}{b:Bool}{c l:Int}(h:RW w x i d b c l)(hi:i<x.all.length):Calls prog 48 #[ptr x.p] w (aZ (λv w'=>v=dm x.all[i]/\aD [] w w') NP):=by
 refine s48 ?_;unfold Xy;refine V1.new (eW _) λb2 w1 N=>?_;have hb:=x.wo;replace h:=h.new N.aA;have hA:∀w',aD [] w1 w'->At w' x.p _:=λw' hw=>hw.at h.at_ ak;refine⟨λw'=>aD [] w1 w',(aD.refl _ _).drew,?_⟩;refine xF.i hA (xF.i hA (xF.i hA ?_));refine Xw.i _ (λw' _=>by simp[go_sem]<;>trivial) ?_;refine Xw.i (.int .i64 ((x.all.length-1:Nat):Int)) (λw' _=>by rw[jK _ _ _ _ _ _ aj aj];congr 2;omega) ?_;refine Xw.i (.int .i64 (i:Nat)) (λw' _=>by simp[go_sem];omega) ?_;refine Xw.i _ (λw' _=>mY hi) ?_;refine Xw.i _ (λw' hw=>(h.new hw).tok hi) ?_;have KD:aD [] w1 w1.drew:=(aD.refl _ _).drew;have aN:=KD.at N.at_ ak;have g:=N.ge;have l:=N.lt;have z:=KD.size;refine U1.tok (t:=x.all[i]) aN rfl λw2 U=>?_
 exact⟨_,cA U.at_,rfl,(N.aA.trans KD).trans' U.aA al⟩
theorem F9(h:RS w x s d):Calls prog 48 #[ptr x.p] w (aZ (λv w'=>v=dm (s.hd x)/\aD [] w w') NP):=by
 obtain⟨i,line,h1,h2⟩:=h.raw;obtain⟨hi,he⟩:=pq h2;rw[he];exact MP h1 hi
theorem Ut{R:ER}{b:Nat}{v0 v1 v2 v3 v4 v5:Va}{c l:Int}{k:WP}(hA:At w b [v0,v1,v2,v3,v4,v5])(hk:∀w',tB w b [v0,v1,v2,v3,.int .i64 c,.int .i64 l] w'->k w'):
  sF R 108 4 69 (.pointer (some ⟨b,0,none⟩)) (.agg #[.int .i64 c,.int .i64 l]) w k:=by
 unfold sF;refine Up.i (Nc.p _ _) ?_;refine V1.i (xZ rfl) ?_;have h0:=hA.set 4 (.int .i64 c);have h1:=h0.set 5 (.int .i64 l);refine U1.i (w':=(w.setCell ⟨b,4,none⟩ (.int .i64 c)).setCell ⟨b,5,none⟩ (.int .i64 l)) (v:=()) ?_ (hk _ ⟨h1,by simp[setCell],?_,λq=>by simp only[fH]⟩)
 .simp[go_sem,hA.cell,hA.fr]
 .exact((aD.refl _ _).set _ (.inl ak)).set _ (.inl ak)
def Sg.fail(c:Int):Sg->Sg
 |.go _=>.bad c
 |s=>s
theorem MQ(c:Int){i:Nat}{line:Int}(h1:RW w x i d s.dS s.code line)(h2:s.pos x i)(dN:d<=65/\-1<=d:=by omega):Calls prog 49 #[ptr x.p,.int .i64 c] w (aZ (λv w'=>RS w' x (s.fail c) d/\aD [x.p] w w') NP):=by
 refine s49 ?_;unfold Xz;have hb:=x.wo;obtain⟨hi,he⟩:=pq h2;refine J0.cut (λw'=>∃i line,RW w' x i d true (s.fail c).code line/\aD [x.p] w w') ?_ ?_
 .refine lF.i h1.at_ ?_
  cases s with
  |bad c0=>
   refine V1.bf (by simp[go_sem,Sg.dS]) ?_;exact If.f ⟨i,line,h1,aD.refl _ _⟩
  |go ts=>
   refine V1.bt (by simp[go_sem,Sg.dS]) ?_;refine If.t ?_;refine sF.i h1.at_ λw1 U1=>?_;replace h1:=h1.F8 (i':=i) U1;refine sU (MP h1 hi) ?_ (NP.no (e:=_));rintro _ w2 ⟨rfl,K2⟩;replace h1:=h1.new K2;unfold dm;refine V1.i ah ?_;refine V1.i ah ?_;refine Ut h1.at_ λw3 U3=>?_;exact⟨_,_,h1.F8 (i':=i) U3,(U1.aA.trans' K2 ak).trans U3.aA⟩
 rintro w1 ⟨i,line,h1,K1⟩;refine lF.i h1.at_ ?_;refine V1.i ah ?_;refine V1.i (v:=.int .i64 ((x.all.length-1:Nat):Int)) (w':=w1) (by rw[jK _ _ _ _ _ _ aj aj];congr 2;omega) ?_;refine sF.i h1.at_ λw2 U2=>?_;have h3:=h1.F8 (i':=x.all.length-1) U2;refine⟨?_,K1.trans U2.aA⟩
 cases s with
 |go ts=>exact RW.rs (s:=.bad c) h3 rfl ⟨dN.1,dN.2,λh=>by cases h⟩
 |bad c0=>exact RW.rs (s:=.bad c0) h3 rfl ⟨dN.1,dN.2,λh=>by cases h⟩
theorem c49(c:Int)(h:RS w x s d):Calls prog 49 #[ptr x.p,.int .i64 c] w (aZ (λv w'=>RS w' x (s.fail c) d/\aD [x.p] w w') NP):=by
 obtain⟨i,line,h1,h2⟩:=h.raw;exact MQ c h1 h2 ⟨h.dp.1,h.dp.2.1⟩
theorem Uu{ts:LT}{i:Nat}{l c:Int}(h1:RW w x i (64+1) false 0 l)(h2:(Sg.go ts).pos x i):Calls prog 49 #[ptr x.p,.int .i64 c] w (aZ (λv w'=>RS w' x (.bad c) (64+1)/\aD [x.p] w w') NP):=by
 have:=MQ c (s:=.go ts) h1 h2;exact this
def Sg.is(q:By):Sg->Bool
 |.go ts=>bB q ts
 |.bad _=>false
def Sg.take(q:By):Sg->Sg
 |.go ts=>if bB q ts=true then .go (bF ts)else .go ts
 |s=>s
def Sg.cI(q:By):Sg->Sg
 |.go ts=>if bB q ts=true then .go (bF ts)else .bad 4
 |s=>s
def Sg.ends:Sg->Bool
 |.go ts=>dI (Go.Proofs.YtoddjlclpnoomaaGreatDoor.hd ts)
 |.bad _=>true
theorem jw{c:Int}:((Sg.bad c).hd x).kind=5:=x.e5
theorem Fe(q:By)(h:RS w x s d):Calls prog 136 #[ptr x.p,str q] w (aZ (λv w'=>v=.bool (s.is q)/\aD [] w w') NP):=by
 refine Ug ?_;unfold Mn;obtain⟨i,line,h1,h2⟩:=h.raw;refine lF.i h1.at_ ?_
 cases s with
 |bad c=>
  repeat(first|refine J1.go ?_|refine J0.go ?_|refine Gd.tt ?_|refine Gd.ff ?_|refine Gd.tf ?_|refine Gd.ft ?_|refine Gd.u ?_|refine If.t ?_|refine If.f ?_|refine Up.i (Nc.p _ _) ?_|refine V1.load (aC rfl) au rfl ?_|refine V1.i (w':=w) (by simp[go_sem,Sg.dS];first|done|rfl|exact⟨rfl,rfl⟩) ?_)
  exact⟨rfl,aD.refl _ _⟩
 |go ts=>
  refine V1.bt (by simp[go_sem,Sg.dS]) ?_;refine J1.go (Gd.tt ?_);refine sU (F9 h) ?_ (NP.no (e:=_));rintro _ w1 ⟨rfl,K1⟩;unfold dm;refine V1.i ah ?_;refine V1.i (v:=.bool ((hd ts).kind==4)) (w':=w1) (by simp[go_sem,Bo,Sg.hd]) ?_;refine V1.i ah ?_;have e:(Sg.go ts).is q=((hd ts).kind==4&&(hd ts).text==q):=by simp only[Sg.is,bB,fI,contains_cons,contains_nil,Bool.or_false]
  rw[e]
  cases hk:((hd ts).kind==4)with
  |false=>
   refine J1.go (Gd.ft ?_);refine V1.i ah ?_;exact⟨rfl,K1⟩
  |true=>
   refine J1.go (Gd.tt ?_);refine sU (F9 (h.new K1)) ?_ (NP.no (e:=_));rintro _ w2 ⟨rfl,K2⟩;unfold dm;refine V1.i ah ?_;refine V1.i (zQ _ _ _ _ _) ?_;refine V1.i ah ?_;exact⟨rfl,K1.trans K2⟩
theorem RW.bF{ts:LT}{i:Nat}{l:Int}(h:RW w x i d false 0 l)(hp:(Sg.go ts).pos x i)(hk:(hd ts).kind≠5)(MR:d<=64/\-1<=d)
  (U:tB w x.p [.slice (some ⟨x.bt,0,none⟩) x.all.length x.cap,.int .i64 (i+1:Nat),.int .i64 d,.bool false,.int .i64 0,.int .i64 l] w'):RS w' x (.go (bF ts)) d:=by
 obtain⟨rfl,hi⟩:=hp;have hb:=x.wo;have bO:i+1<x.all.length:=by
  rcases lt_or_ge (i+1) x.all.length with h|h
  .exact h
  .obtain rfl:i=x.all.length-1:=by omega
   exact absurd x.e5 hk
 refine RW.rs (s:=.go (Go.Proofs.YtoddjlclpnoomaaGreatDoor.bF (x.all.drop i))) (h.F8 (i':=i+1) U) ⟨?_,bO⟩ ⟨by omega,MR.2,λ_=>MR.1⟩;rw[drop_eq_getElem_cons hi,drop_eq_getElem_cons bO];rfl
theorem MS{q:By}{ts:LT}(h:bB q ts=true):(hd ts).kind≠5:=by
 simp[bB,fI]at h
 omega
theorem step1{R:ER}{ts:LT}{k:WP}(h:RS w x (.go ts) d)(hk:(hd ts).kind≠5)(hK:∀w',RS w' x (.go (bF ts)) d->aD [x.p] w w'->k w'):
  lF R 108 1 3 (ptr x.p) w λa w=>v1 R (Bo .add 3 false true a (.int .i64 1)) w λb w=>sF R 108 1 3 (ptr x.p) b w k:=by
 have dN:=h.dp;obtain⟨i,line,h1,h2⟩:=h.raw;have hb:=x.wo;obtain⟨hi,he⟩:=pq h2;refine lF.i h1.at_ ?_;refine V1.i (v:=.int .i64 ((i+1:Nat):Int)) (w':=w) (by rw[cC _ _ _ _ _ _ aj aj];simp) ?_;refine sF.i h1.at_ λw1 U=>?_;exact hK w1 (RW.bF (i:=i) h1 h2 hk ⟨dN.2.2 rfl,dN.2.1⟩ U) U.aA
theorem MT(q:By)(h:RS w x s d):Calls prog 137 #[ptr x.p,str q] w (aZ (λv w'=>v=.bool (s.is q)/\RS w' x (s.take q) d/\aD [x.p] w w') NP):=by
 refine Uh ?_;unfold Mo;refine yj (Fe q h) ?_ (NP.no (e:=_));rintro _ w1 ⟨rfl,K1⟩;replace h:=h.new K1;refine J0.go ?_
 cases s with
 |bad c=>exact If.f ⟨rfl,h,K1.mono ak⟩
 |go ts=>
  show If (.bool (bB q ts)) _ _
  cases hq:bB q ts with
  |false=>
   refine If.f ⟨by simp[Sg.is,hq],?_,K1.mono ak⟩;simp only[Sg.take,hq];exact h
  |true=>
   refine If.t (step1 h (MS hq) λw2 h2 K2=>?_);refine⟨by simp[Sg.is,hq],?_,K1.then K2 ak ak⟩;simp only[Sg.take,hq,if_true];exact h2
theorem c141(q:By)(h:RS w x s d):Calls prog 141 #[ptr x.p,str q] w (aZ (λv w'=>RS w' x (s.cI q) d/\aD [x.p] w w') NP):=by
 refine Uk ?_;unfold Mt;refine CK (MT q h) ?_ (NP.no (e:=_));rintro _ w1 ⟨rfl,h1,K1⟩;refine V1.i ah ?_
 cases s with
 |bad c=>
  refine If.t ?_;refine sW (c49 4 h1) ?_ (NP.no (e:=_));rintro _ w2 ⟨h2,K2⟩;exact⟨h2,K1.trans K2⟩
 |go ts=>
  show If (.bool (!(bB q ts))) _ _
  cases hq:bB q ts with
  |false=>
   refine If.t ?_;refine sW (c49 4 h1) ?_ (NP.no (e:=_));rintro _ w2 ⟨h2,K2⟩;refine⟨?_,K1.trans K2⟩;simp only[Sg.take,hq,Sg.cI,Sg.fail]at h2⊢;exact h2
  |true=>
   refine If.f ⟨?_,K1⟩;simp only[Sg.take,hq,Sg.cI,if_true]at h1⊢;exact h1
def Sg.Ff:Sg->Sg
 |.go ts=>if((Go.Proofs.YtoddjlclpnoomaaGreatDoor.hd ts).kind==1)=true then .go (bF ts)else .bad 4
 |s=>s
def Sg.nm:Sg->By
 |.go ts=>if((Go.Proofs.YtoddjlclpnoomaaGreatDoor.hd ts).kind==1)=true then(Go.Proofs.YtoddjlclpnoomaaGreatDoor.hd ts).text else[]
 |.bad _=>[]
theorem c143(h:RS w x s d):Calls prog 143 #[ptr x.p] w (aZ (λv w'=>v=str s.nm/\RS w' x s.Ff d/\aD [x.p] w w') NP):=by
 refine Ul ?_;unfold Mw;have lp:=h.lW;have lt:=h.lt;refine sU (F9 h) ?_ (NP.no (e:=_));rintro _ w1 ⟨rfl,K1⟩;replace h:=h.new K1;have z1:=K1.size;refine V1.new (eW _) λb w2 N=>?_;replace h:=h.new N.aA;have g:=N.ge;refine U1.tok (t:=s.hd x) N.at_ rfl λw3 U=>?_;replace h:=h.XD U.aA aj aj;have a3:=U.at_;have K3:aD [] w w3:=(K1.trans N.aA).trans' U.aA al;obtain⟨i,line,h1,h2⟩:=h.raw;refine lF.i h1.at_ ?_;clear h1 h2
 cases s with
 |bad c=>
  refine J1.go (Gd.tf ?_);refine V1.i ah ?_;refine If.t ?_;refine sW (c49 4 h) ?_ (NP.no (e:=_));rintro _ w4 ⟨h4,K4⟩;exact⟨rfl,h4,K3.then K4 ak ak⟩
 |go ts=>
  refine J1.go (Gd.ff ?_);refine lD.i a3 ?_;refine V1.i (v:=.bool (!((hd ts).kind==1))) (w':=w3) (by simp[go_sem,Bo,Sg.hd];rfl) ?_;refine V1.i ah ?_
  cases hq:((hd ts).kind==1)with
  |false=>
   refine If.t ?_;refine sW (c49 4 h) ?_ (NP.no (e:=_));rintro _ w4 ⟨h4,K4⟩;refine⟨by simp only[Sg.nm,hq];rfl,?_,K3.then K4 ak ak⟩;simp only[Sg.Ff,hq,Sg.fail]at h4⊢;exact h4
  |true=>
   refine If.f (step1 h (by simp at hq;omega) λw4 h4 K4=>?_);replace a3:=K4.at a3 al;refine lD.i a3 ?_;refine⟨by simp only[Sg.nm,hq,Sg.hd,if_true],?_,K3.then K4 ak ak⟩;simp only[Sg.Ff,hq,if_true];exact h4
def iN(ts:LT)(d:Int):Sg:=if 64<d+1 then .bad 3 else .go ts
theorem Uv{ts:LT}(h:RS w x (.go ts) d):Calls prog 184 #[ptr x.p] w (aZ (λv w'=>RS w' x (iN ts d) (d+1)/\aD [x.p] w w') NP):=by
 refine Uo ?_;unfold ME;have dN:=h.dp;obtain⟨i,line,h1,h2⟩:=h.raw;have fA:=dN.2.2 rfl;refine lF.i h1.at_ ?_;refine V1.i (cC _ _ _ _ _ _ aj aj) ?_;refine sF.i h1.at_ λw1 U=>?_;replace h1:=h1.F8 (i':=i) U;refine lF.i h1.at_ ?_;refine V1.i (v:=.bool (decide (64<d+1))) (w':=w1) am ?_;by_cases hb:64<d+1
 .rw[show decide (64<d+1)=true by simpa using hb];refine If.t ?_;have oA:d=64:=by omega
  subst oA;have h3:Calls prog 49 #[ptr x.p,.int .i64 3] w1 (aZ (λv w'=>RS w' x (.bad 3) (64+1)/\aD [x.p] w1 w') NP):=Uu h1 h2;refine sW h3 ?_ (NP.no (e:=_));rintro _ w2 ⟨h4,K4⟩;rw[show iN ts 64=.bad 3 by unfold iN;rw[if_pos aj]];exact⟨h4,U.aA.trans K4⟩
 .rw[show decide (64<d+1)=false by simpa using hb];refine If.f ?_;rw[show iN ts d=.go ts by unfold iN;rw[if_neg hb]];exact⟨RW.rs (s:=.go ts) h1 h2 ⟨by omega,by omega,λ_=>by omega⟩,U.aA⟩
theorem Fg{R:ER}{k:WP}(h:RS w x s (d+1))(h0:-1<=d)(hK:∀w',RS w' x s d->aD [x.p] w w'->k w'):
  lF R 108 2 3 (ptr x.p) w λa w=>v1 R (Bo .sub 3 false true a (.int .i64 1)) w λb w=>sF R 108 2 3 (ptr x.p) b w k:=by
 have dN:=h.dp;obtain⟨i,line,h1,h2⟩:=h.raw;refine lF.i h1.at_ ?_;refine V1.i (v:=.int .i64 d) (w':=w) (by rw[jK _ _ _ _ _ _ aj aj];congr 2;omega) ?_;refine sF.i h1.at_ λw1 U=>?_;exact hK w1 (RW.rs (h1.F8 (i':=i) U) h2 ⟨by omega,h0,λhb=>by have:=dN.2.2 hb;omega⟩) U.aA
theorem c83(h:RS w x s d):Calls prog 83 #[ptr x.p] w (aZ (λv w'=>v=.bool s.ends/\aD [] w w') NP):=by
 refine s83 ?_;unfold XB;obtain⟨i,line,h1,h2⟩:=h.raw
 cases s with
 |bad c=>
  replace h1:RW w x i d true c line:=h1;refine lF.i h1.at_ ?_;repeat(first|refine J1.go ?_|refine J0.go ?_|refine Gd.tt ?_|refine Gd.ff ?_|refine Gd.tf ?_|refine Gd.ft ?_|refine Gd.u ?_|refine If.t ?_|refine If.f ?_|refine Up.i (Nc.p _ _) ?_|refine V1.load (aC rfl) au rfl ?_|refine V1.i (w':=w) aw ?_)
  exact⟨rfl,aD.refl _ _⟩
 |go ts=>
  replace h1:RW w x i d false 0 line:=h1;refine lF.i h1.at_ ?_;refine J1.go (Gd.ff ?_);refine sU (F9 h) ?_ (NP.no (e:=_));rintro _ w1 ⟨rfl,K1⟩;unfold dm;refine V1.i ah ?_;refine V1.i (v:=.bool ((hd ts).kind==5)) (w':=w1) (by simp[go_sem,Bo,Sg.hd]) ?_;refine V1.i ah ?_;have OL:∀(a:Bool) (q:By) (k0:VK) (w1:Wd),aD [] w w1->(∀w2,aD [] w w2->k0 (.bool (a||bB q ts)) w2)->
    J1 (λk1=>Gd (.bool a) false (cf (aZ (λv w'=>v=.bool (Sg.go ts).ends/\aD [] w w') NP) 136 #[ptr x.p,str q] w1 λny w=>k1 ny w) (k1 undef w1)) (λny w=>v1 (aZ (λv w'=>v=.bool (Sg.go ts).ends/\aD [] w w') NP) (Pk (.bool a) (.bool true) ny) w k0):=by
   intro a q k0 w1 K1 hk;refine J1.go ?_
   cases a with
   |true=>
    refine Gd.tf ?_;refine V1.i ah ?_;exact hk w1 K1
   |false=>
    refine Gd.ff ?_;refine yj (Fe q (h.new K1)) ?_ (NP.no (e:=_));rintro _ w2 ⟨rfl,K2⟩;refine V1.i ah ?_;exact hk w2 (K1.trans K2)
  refine OL _ cO _ _ K1 λw2 K2=>?_;refine OL _ dU _ _ K2 λw3 K3=>?_;refine OL _ ew _ _ K3 λw4 K4=>?_;refine OL _ eG _ _ K4 λw5 K5=>?_;refine⟨?_,K5⟩;simp only[Sg.ends,dI,bB,fI,cO,dU,ew,eG,contains_cons,contains_nil,Bool.or_false]
  cases((hd ts).kind==4)<;>simp[Bool.or_assoc]
end
end Go.Proofs.YtoddjlclpnoomaaGreatDoor

namespace Go.Proofs.YtoddjlclpnoomaaGreatDoor
open Go.Sh
set_option maxRecDepth 100000
def Sg.run(f:LT->bL):Sg->bL
 |.go ts=>f ts
 |.bad c=>.fail c
def Sg.res(t:Tr)(o:Bool):Sg->bL
 |.go ts=>.ok t ts o
 |.bad c=>.fail c
theorem mZ{s:Sg}{q:By}{f:LT->bL}:s.run (λts=>aP q ts f)=(s.cI q).run f:=by
 cases s with
 |bad c=>rfl
 |go ts=>
  show aP q ts f=(if bB q ts=true then Sg.go (bF ts)else .bad 4).run f
  unfold aP
  cases h:bB q ts<;>rfl
theorem yn{s:Sg}{f:By->LT->bL}:s.run (λts=>cP ts f)=s.Ff.run (f s.nm):=by
 cases s with
 |bad c=>rfl
 |go ts=>
  show cP ts f=(if((hd ts).kind==1)=true then Sg.go (bF ts)else .bad 4).run (f (if((hd ts).kind==1)=true then(hd ts).text else[]))
  unfold cP
  cases h:((hd ts).kind==1)<;>rfl
theorem yo{s:Sg}{g:LT->bL}{k:Tr->LT->Bool->bL}{r:bL}(hr:s.run (λts=>(g ts).bind k)=r)(aI:r≠.bH):s.run g≠.bH:=by
 intro h
 cases s with
 |bad c=>cases h
 |go ts=>
  have h:g ts=.bH:=h;have hr:(g ts).bind k=r:=hr;rw[h]at hr;exact aI hr.symm
theorem run_bind{s s':Sg}{g:LT->bL}{k:Tr->LT->Bool->bL}{t:Tr}{o:Bool}{r:bL}(hr:s.run (λts=>(g ts).bind k)=r)(h:s.run g=s'.res t o):s'.run (λts=>k t ts o)=r:=by
 subst hr
 cases s with
 |bad c=>
  cases s' with
  |bad c'=>
   have h:bL.fail c=bL.fail c':=h;injection h with h;subst h;rfl
  |go bU=>cases h
 |go ts=>
  have h:g ts=s'.res t o:=h;show _=(g ts).bind k
  rw[h]
  cases s'<;>rfl
def Fin(w:Wd)(x:Rp)(d:Int)(mk:Va->Md)(sh:Va->Prop)(r:bL)(v:Va)(w':Wd):Prop:=
 ∃t s o,RS w' x s d/\r=s.res t o/\aU (Fr w.heap.size []) w' t (mk v)/\sh v/\aD [x.p] w w'
def fV(v:Va):Prop:=∃a,v=.pointer a
def nB(v:Va):Prop:=∃a n c,v=.slice a n c
def sX(n:Nat)(c:Cl)(K:FuncId)(args:LV)(mk:Va->Md)(sh:Va->Prop):Prop:=
 ∀(w:Wd) (x:Rp) (s:Sg) (d:Int) (r:bL),RS w x s d->n<=aX->s.run (λts=>run n c d ts)=r->r≠.bH->Calls prog K (ptr x.p::args).toArray w (aZ (Fin w x d mk sh r) NP)
theorem aU.cx{lo p:Nat}{w w':Wd}{t:Tr}{m:Md}(h:aU (Fr lo []) w t m)(K:aD [p] w w')(hp:p<lo):aU (Fr lo []) w' t m:=h.fr K al
theorem aU.c0{lo:Nat}{w w':Wd}{t:Tr}{m:Md}(h:aU (Fr lo []) w t m)(K:aD [] w w'):aU (Fr lo []) w' t m:=h.fr K ak
structure CX(w0 w:Wd)(x:Rp)(M:List Nat)(s:Sg)(d:Int):Prop where
 rs:RS w x s d
 kk:aD (x.p::M) w0 w
 lp:x.p<w0.heap.size
 lt:x.bt<w0.heap.size
section
variable {w0 w:Wd}{x:Rp}{M:List Nat}{s:Sg}{d:Int}{KK:VK}{e:EK}{r:bL}
theorem CX.mk'(h:RS w x s d):CX w w x M s d:=⟨h,aD.refl _ _,h.lW,h.lt⟩
theorem CX.c0{w':Wd}(c:CX w0 w x M s d)(K:aD [] w w'):CX w0 w' x M s d:=⟨c.rs.new K,c.kk.trans' K ak,c.lp,c.lt⟩
theorem CX.cx{w':Wd}{s':Sg}{d':Int}(c:CX w0 w x M s d)(h:RS w' x s' d')(K:aD [x.p] w w'):CX w0 w' x M s' d':=⟨h,c.kk.trans' K ak,c.lp,c.lt⟩
theorem CX.own{w':Wd}{b:Nat}(c:CX w0 w x M s d)(K:aD [b] w w')(hb:w0.heap.size<=b\/b∈M)(hp:x.p≠b)(ht:x.bt≠b):CX w0 w' x M s d:=
 ⟨c.rs.XD K hp ht,c.kk.trans' K (λi hi bO=>by simp at hi;subst hi;exact hb.elim (λh=>absurd h aj) (λh=>by simp[h])),c.lp,c.lt⟩
theorem CX.mono(c:CX w0 w x [] s d):CX w0 w x M s d:=⟨c.rs,c.kk.mono (by simp+contextual),c.lp,c.lt⟩
theorem CX.back{w1:Wd}{q:Nat}{s1:Sg}{d1:Int}(c:CX w0 w1 x M s1 d1)(c1:CX w1 w x [q] s d)(hq:w0.heap.size<=q):CX w0 w x M s d:=
 ⟨c1.rs,c.kk.trans' c1.kk (λi hi bO=>by
  simp at hi
  rcases hi with rfl|rfl
  .simp
  .omega),c.lp,c.lt⟩
theorem CX.tr{w1:Wd}{s1:Sg}{d1:Int}(c:CX w0 w1 x M s1 d1)(c1:CX w1 w x [] s d):CX w0 w x M s d:=⟨c1.rs,c.kk.trans' c1.kk ak,c.lp,c.lt⟩
theorem CX.XE{w':Wd}{s':Sg}{d':Int}{e:Nat}(c:CX w0 w x M s d)(h:RS w' x s' d')(K:aD [x.p,e] w w')(he:e∈M):CX w0 w' x M s' d':=⟨h,c.kk.trans' K (by simp;intro _;exact .inr he),c.lp,c.lt⟩
theorem CX.call2{n:Nat}{cl:Cl}{K:FuncId}{args:LV}{mk:Va->Md}{sh:Va->Prop}(H:sX n cl K args mk sh)(AW:bZ K)(c:CX w0 w x M s d)(hn:n<=aX){k:Tr->LT->Bool->bL}
  (hr:s.run (λts=>(run n cl d ts).bind k)=r) (aI:r≠.bH)
  (hk:∀v w' t s' o,CX w0 w' x M s' d->s'.run (λts=>k t ts o)=r->aU (Fr w0.heap.size []) w' t (mk v)->sh v->aD [x.p] w w'->(∀ts,s'=.go ts->∃OM,s=.go OM)->KK v w'):Cf prog K (ptr x.p::args).toArray w KK e:=by
 refine AW (H _ _ _ _ _ c.rs hn rfl (yo hr aI)) ?_ (NP.no (e:=_));rintro v w' ⟨t,s',o,h,he,R,hv,K1⟩;exact hk v w' t s' o (c.cx h K1) (run_bind hr he) (R.fit c.kk.size ak) hv K1 (λts hs=>by
  subst hs
  cases s with
  |go OM=>exact⟨_,rfl⟩
  |bad cd=>cases he)
theorem CX.call{n:Nat}{cl:Cl}{K:FuncId}{args:LV}{mk:Va->Md}{sh:Va->Prop}(H:sX n cl K args mk sh)(AW:bZ K)(c:CX w0 w x M s d)(hn:n<=aX){k:Tr->LT->Bool->bL}
  (hr:s.run (λts=>(run n cl d ts).bind k)=r) (aI:r≠.bH)
  (hk:∀v w' t s' o,CX w0 w' x M s' d->s'.run (λts=>k t ts o)=r->aU (Fr w0.heap.size []) w' t (mk v)->sh v->aD [x.p] w w'->KK v w'):Cf prog K (ptr x.p::args).toArray w KK e:=
 c.call2 H AW hn hr aI λv w' t s' o c hr R hv K _=>hk v w' t s' o c hr R hv K
theorem CX.cI(q:By)(c:CX w0 w x M s d){f:LT->bL}(hr:s.run (λts=>aP q ts f)=r)
  (hk:∀v w',CX w0 w' x M (s.cI q) d->(s.cI q).run f=r->aD [x.p] w w'->KK v w'):Cf prog 141 #[ptr x.p,str q] w KK e:=by
 refine Mu (c141 q c.rs) ?_ (NP.no (e:=_));rintro v w' ⟨h,K1⟩;exact hk v w' (c.cx h K1) (mZ▸hr) K1
theorem CX.name(c:CX w0 w x M s d){f:By->LT->bL}(hr:s.run (λts=>cP ts f)=r)
  (hk:∀nm w',CX w0 w' x M s.Ff d->s.Ff.run (f nm)=r->aD [x.p] w w'->KK (str nm) w'):Cf prog 143 #[ptr x.p] w KK e:=by
 refine Mx (c143 c.rs) ?_ (NP.no (e:=_));rintro v w' ⟨rfl,h,K1⟩;exact hk s.nm w' (c.cx h K1) (yn▸hr) K1
theorem CX.next(c:CX w0 w x M s d)(hk:∀w',CX w0 w' x M s d->aD [] w w'->KK (dm (s.hd x)) w'):Cf prog 48 #[ptr x.p] w KK e:=by
 refine sU (F9 c.rs) ?_ (NP.no (e:=_));rintro v w' ⟨rfl,K1⟩;exact hk w' (c.c0 K1) K1
theorem CX.sign(q:By)(c:CX w0 w x M s d)(hk:∀w',CX w0 w' x M s d->aD [] w w'->KK (.bool (s.is q)) w'):Cf prog 136 #[ptr x.p,str q] w KK e:=by
 refine yj (Fe q c.rs) ?_ (NP.no (e:=_));rintro v w' ⟨rfl,K1⟩;exact hk w' (c.c0 K1) K1
theorem CX.take(q:By)(c:CX w0 w x M s d)(hk:∀w',CX w0 w' x M (s.take q) d->aD [x.p] w w'->KK (.bool (s.is q)) w'):Cf prog 137 #[ptr x.p,str q] w KK e:=by
 refine CK (MT q c.rs) ?_ (NP.no (e:=_));rintro v w' ⟨rfl,h,K1⟩;exact hk w' (c.cx h K1) K1
theorem CX.fail(cd:Int)(c:CX w0 w x M s d)(hk:∀v w',CX w0 w' x M (s.fail cd) d->aD [x.p] w w'->KK v w'):Cf prog 49 #[ptr x.p,.int .i64 cd] w KK e:=by
 refine sW (c49 cd c.rs) ?_ (NP.no (e:=_));rintro v w' ⟨h,K1⟩;exact hk v w' (c.cx h K1) K1
theorem CX.ends(c:CX w0 w x M s d)(hk:∀w',CX w0 w' x M s d->aD [] w w'->KK (.bool s.ends) w'):Cf prog 83 #[ptr x.p] w KK e:=by
 refine Ue (c83 c.rs) ?_ (NP.no (e:=_));rintro v w' ⟨rfl,K1⟩;exact hk w' (c.c0 K1) K1
theorem CX.open{ts:LT}(c:CX w0 w x M (.go ts) d)(hk:∀v w',CX w0 w' x M (iN ts d) (d+1)->aD [x.p] w w'->KK v w'):Cf prog 184 #[ptr x.p] w KK e:=by
 refine MF (Uv c.rs) ?_ (NP.no (e:=_));rintro v w' ⟨h,K1⟩;exact hk v w' (c.cx h K1) K1
theorem CX.close{R:ER}{k:WP}(c:CX w0 w x M s (d+1))(h0:-1<=d)(hk:∀w',CX w0 w' x M s d->aD [x.p] w w'->k w'):
  lF R 108 2 3 (ptr x.p) w λa w=>v1 R (Bo .sub 3 false true a (.int .i64 1)) w λb w=>sF R 108 2 3 (ptr x.p) b w k:=
 Fg c.rs h0 λw' h K=>hk w' (c.cx h K) K
theorem eC{ts:LT}{q:By}{f:Int->LT->bL}(h:bB q ts=true)(hr:(bY d λd=>f d (bF ts))=r):(iN ts d).run (λts=>aP q ts (f (d+1)))=r:=by
 subst hr;rw[mZ];unfold bY iN;by_cases hd:64<d+1
 .rw[if_pos hd,show decide (64<d+1)=true by simpa using hd];rfl
 .rw[if_neg hd,show decide (64<d+1)=false by simpa using hd];simp only[Sg.cI,h,if_true];rfl
theorem na{ts:LT}{f:Int->LT->bL}(hr:(bY d λd=>f d ts)=r):(iN ts d).run (f (d+1))=r:=by
 subst hr;unfold bY iN;by_cases hd:64<d+1
 .rw[if_pos hd,show decide (64<d+1)=true by simpa using hd];rfl
 .rw[if_neg hd,show decide (64<d+1)=false by simpa using hd];rfl
theorem qU{g:LT->bL}(hr:s.run g=r):s.run (λts=>(g ts).bind λt ts o=>.ok t ts o)=r:=by
 subst hr
 cases s with
 |bad c=>rfl
 |go ts=>show(g ts).bind _=g ts;cases g ts<;>rfl
theorem fD{t:Tr}{o:Bool}(hr:s.run (λts=>.ok t ts o)=r):r=s.res t o:=by
 subst hr;cases s<;>rfl
theorem CX.fin{t:Tr}{o:Bool}{mk:Va->Md}{sh:Va->Prop}{v:Va}(c:CX w0 w x [] s d)(hr:s.run (λts=>.ok t ts o)=r)(R:aU (Fr w0.heap.size []) w t (mk v))(hv:sh v):Fin w0 x d mk sh r v w:=
 ⟨t,s,o,c.rs,fD hr,R,hv,c.kk⟩
theorem CX.sY{cd:Int}{f:LT->bL}{mk:Va->Md}{sh:Va->Prop}{v:Va}(c:CX w0 w x [] (.bad cd) d)(hr:(Sg.bad cd).run f=r)(hv:sh v)(hm:aU (Fr w0.heap.size []) w .hole (mk v)):Fin w0 x d mk sh r v w:=
 ⟨.hole,.bad cd,false,c.rs,hr.symm,hm,hv,c.kk⟩
end
theorem Acc.sl{e:TypeId}{lo:Nat}{X:List Nat}{w:Wd}{v:Va}{t:Tr}(h:Acc e lo X w v t):nB v:=by
 obtain⟨us,h1,h2,h3⟩:=h;rcases h1.2 with⟨rfl,_⟩|⟨g,cap,cur,rfl,_⟩<;>exact⟨_,_,_,rfl⟩
theorem lF.j{R:ER}{s f t b:Nat}{w:Wd}{v:Va}{k:VK}(hc:w.cell? ⟨b,f,none⟩=some v)(hk:k v w)(h1:xY s f=true:=by exact rfl)(h2:dT t=true:=by exact rfl):lF R s f t (ptr b) w k:=by
 unfold lF;refine Up.i (Nc.p _ _) ?_;refine V1.i (xZ h1) ?_;exact V1.i ((aC h2) _ _ _ hc) hk
theorem yp{lo:Nat}{w:Wd}{k n line:Int}{x:By}{lv rv kv av pv bv:Va}{l r ks gs bd:Tr}{ps:LB}{kk:VK}{e:EK}
  (eQ:lo<=w.heap.size) (hl:aU (Fr lo []) w l (.P lv)) (hr:aU (Fr lo []) w r (.P rv)) (hk:aU (Fr lo []) w ks (.L kv)) (hg:aU (Fr lo []) w gs (.L av)) (hp:Strs (Fr lo []) w pv ps) (hb:aU (Fr lo []) w bd (.L bv))
  (h:∀b w',aD [] w w'->w.heap.size<=b->At w' b [.int .i64 k,.int .i64 line,.int .i64 n,str x,lv,rv,kv,av,pv,bv]->aU (Fr lo []) w' (.ex k n x l r ks gs ps bd) (.P (ptr b))->kk (ptr b) w'):
  V1 prog (box 47 (.agg #[.int .i64 k,.int .i64 line,.int .i64 n,str x,lv,rv,kv,av,pv,bv])) w kk e:=by
 refine V1.new (jJ _ _) λb w' N=>?_;have ab:At w' b [.int .i64 k,.int .i64 line,.int .i64 n,str x,lv,rv,kv,av,pv,bv]:=by
  have:=N.at_;simpa[cells]using this
 exact h b w' N.aA N.ge ab ⟨b,line,_,_,_,_,_,_,rfl,⟨by have:=N.ge;omega,by simp⟩,ab,hl.c0 N.aA,hr.c0 N.aA,hk.c0 N.aA,hg.c0 N.aA,hp.fr N.aA ak,hb.c0 N.aA⟩
theorem jl{F:Nat->Prop}{w:Wd}:aU F w .nil (.P (.pointer none)):=rfl
theorem fy{F:Nat->Prop}{w:Wd}:aU F w .nil (.L (.slice none 0 0)):=.inl rfl
theorem rR{F:Nat->Prop}{w:Wd}:Strs F w (.slice none 0 0) []:=.inl ⟨rfl,rfl⟩
theorem nb{F:Nat->Prop}{w:Wd}{v:Va}:aU F w .hole (.P v):=trivial
theorem pr{F:Nat->Prop}{w:Wd}{v:Va}:aU F w .hole (.L v):=trivial
def ST(w:Wd)(lo bs:Nat)(k:Int)(nm:By)(l r t a b:Tr):Prop:=∃line lv rv tv av bv,At w bs [.int .i64 k,.int .i64 line,str nm,lv,rv,tv,av,bv]/\
 aU (Fr lo []) w l (.P lv)/\aU (Fr lo []) w r (.P rv)/\aU (Fr lo []) w t (.P tv)/\aU (Fr lo []) w a (.L av)/\aU (Fr lo []) w b (.L bv)
section
variable {w w':Wd}{lo bs p:Nat}{k:Int}{nm:By}{l r t a b:Tr}
theorem ST.aA{M:List Nat}(h:ST w lo bs k nm l r t a b)(K:aD M w w')(hb:bs∉M)(hM:∀i∈M,i<lo\/w.heap.size<=i):ST w' lo bs k nm l r t a b:=by
 obtain⟨line,lv,rv,tv,av,bv,h1,h2,h3,h4,h5,h6⟩:=h;have MU:∀i∈M,i<lo\/i∈([]:List Nat)\/w.heap.size<=i:=λi hi=>(hM i hi).imp id .inr;exact⟨line,lv,rv,tv,av,bv,K.at h1 hb,h2.fr K MU,h3.fr K MU,h4.fr K MU,h5.fr K MU,h6.fr K MU⟩
theorem ST.c0(h:ST w lo bs k nm l r t a b)(K:aD [] w w'):ST w' lo bs k nm l r t a b:=h.aA K ak ak
theorem ST.cx(h:ST w lo bs k nm l r t a b)(K:aD [p] w w')(hb:bs≠p)(hp:p<lo):ST w' lo bs k nm l r t a b:=h.aA K (by simpa using hb) al
theorem ST.rep{lo':Nat}(h:ST w lo bs k nm l r t a b)(h1:lo'<=lo)(h2:lo'<=bs):aU (Fr lo' []) w (.st k nm l r t a b) (.P (ptr bs)):=by
 obtain⟨line,lv,rv,tv,av,bv,h0,h4,h5,h6,h7,h8⟩:=h;have fit:∀{t:Tr}{m:Md},aU (Fr lo []) w t m->aU (Fr lo' []) w t m:=λh=>h.fit h1 ak;exact⟨bs,line,lv,rv,tv,av,bv,rfl,⟨h2,by simp⟩,h0,fit h4,fit h5,fit h6,fit h7,fit h8⟩
theorem ST.lower{lo':Nat}(h:ST w lo bs k nm l r t a b)(h1:lo'<=lo):ST w lo' bs k nm l r t a b:=by
 obtain⟨line,lv,rv,tv,av,bv,h0,h4,h5,h6,h7,h8⟩:=h;have fit:∀{t:Tr}{m:Md},aU (Fr lo []) w t m->aU (Fr lo' []) w t m:=λh=>h.fit h1 ak;exact⟨line,lv,rv,tv,av,bv,h0,fit h4,fit h5,fit h6,fit h7,fit h8⟩
theorem ST.MV{R:ER}{u:Tr}{v:Va}{K:WP}(h:ST w lo bs k nm l r t a b)(hl:bs<lo)(hu:aU (Fr lo []) w u (.P v))(hv:fV v)(hk:∀w',ST w' lo bs k nm u r t a b->aD [bs] w w'->K w'):
  sF R 43 3 41 (ptr bs) v w K:=by
 obtain⟨line,lv,rv,tv,av,bv,h1,h2,h3,h4,h5,h6⟩:=h;obtain⟨q,rfl⟩:=hv;refine sF.i h1 λw1 U=>?_;have hM:∀i∈[bs],i<lo\/i∈([]:List Nat)\/w.heap.size<=i:=by simp;omega
 exact hk w1 ⟨line,_,_,_,_,_,U.at_,hu.fr U.aA hM,h3.fr U.aA hM,h4.fr U.aA hM,h5.fr U.aA hM,h6.fr U.aA hM⟩ U.aA
theorem ST.nC{R:ER}{u:Tr}{v:Va}{K:WP}(h:ST w lo bs k nm l r t a b)(hl:bs<lo)(hu:aU (Fr lo []) w u (.P v))(hv:fV v)(hk:∀w',ST w' lo bs k nm l u t a b->aD [bs] w w'->K w'):
  sF R 43 4 41 (ptr bs) v w K:=by
 obtain⟨line,lv,rv,tv,av,bv,h1,h2,h3,h4,h5,h6⟩:=h;obtain⟨q,rfl⟩:=hv;refine sF.i h1 λw1 U=>?_;have hM:∀i∈[bs],i<lo\/i∈([]:List Nat)\/w.heap.size<=i:=by simp;omega
 exact hk w1 ⟨line,_,_,_,_,_,U.at_,h2.fr U.aA hM,hu.fr U.aA hM,h4.fr U.aA hM,h5.fr U.aA hM,h6.fr U.aA hM⟩ U.aA
theorem ST.Uw{R:ER}{u:Tr}{v:Va}{K:WP}(h:ST w lo bs k nm l r t a b)(hl:bs<lo)(hu:aU (Fr lo []) w u (.P v))(hv:fV v)(hk:∀w',ST w' lo bs k nm l r u a b->aD [bs] w w'->K w'):
  sF R 43 5 41 (ptr bs) v w K:=by
 obtain⟨line,lv,rv,tv,av,bv,h1,h2,h3,h4,h5,h6⟩:=h;obtain⟨q,rfl⟩:=hv;refine sF.i h1 λw1 U=>?_;have hM:∀i∈[bs],i<lo\/i∈([]:List Nat)\/w.heap.size<=i:=by simp;omega
 exact hk w1 ⟨line,_,_,_,_,_,U.at_,h2.fr U.aA hM,h3.fr U.aA hM,hu.fr U.aA hM,h5.fr U.aA hM,h6.fr U.aA hM⟩ U.aA
theorem ST.vh{R:ER}{u:Tr}{v:Va}{K:WP}(h:ST w lo bs k nm l r t a b)(hl:bs<lo)(hu:aU (Fr lo []) w u (.L v))(hv:nB v)(hk:∀w',ST w' lo bs k nm l r t u b->aD [bs] w w'->K w'):
  sF R 43 6 26 (ptr bs) v w K:=by
 obtain⟨line,lv,rv,tv,av,bv,h1,h2,h3,h4,h5,h6⟩:=h;obtain⟨q,n,c,rfl⟩:=hv;refine sF.i h1 λw1 U=>?_;have hM:∀i∈[bs],i<lo\/i∈([]:List Nat)\/w.heap.size<=i:=by simp;omega
 exact hk w1 ⟨line,_,_,_,_,_,U.at_,h2.fr U.aA hM,h3.fr U.aA hM,h4.fr U.aA hM,hu.fr U.aA hM,h6.fr U.aA hM⟩ U.aA
theorem ST.Fh{R:ER}{u:Tr}{v:Va}{K:WP}(h:ST w lo bs k nm l r t a b)(hl:bs<lo)(hu:aU (Fr lo []) w u (.L v))(hv:nB v)(hk:∀w',ST w' lo bs k nm l r t a u->aD [bs] w w'->K w'):
  sF R 43 7 26 (ptr bs) v w K:=by
 obtain⟨line,lv,rv,tv,av,bv,h1,h2,h3,h4,h5,h6⟩:=h;obtain⟨q,n,c,rfl⟩:=hv;refine sF.i h1 λw1 U=>?_;have hM:∀i∈[bs],i<lo\/i∈([]:List Nat)\/w.heap.size<=i:=by simp;omega
 exact hk w1 ⟨line,_,_,_,_,_,U.at_,h2.fr U.aA hM,h3.fr U.aA hM,h4.fr U.aA hM,h5.fr U.aA hM,hu.fr U.aA hM⟩ U.aA
theorem ST.kO{R:ER}{k':Int}{K:WP}(h:ST w lo bs k nm l r t a b)(hl:bs<lo)(hk:∀w',ST w' lo bs k' nm l r t a b->aD [bs] w w'->K w'):
  sF R 43 0 3 (ptr bs) (.int .i64 k') w K:=by
 obtain⟨line,lv,rv,tv,av,bv,h1,h2,h3,h4,h5,h6⟩:=h;refine sF.i h1 λw1 U=>?_;have hM:∀i∈[bs],i<lo\/i∈([]:List Nat)\/w.heap.size<=i:=by simp;omega
 exact hk w1 ⟨line,_,_,_,_,_,U.at_,h2.fr U.aA hM,h3.fr U.aA hM,h4.fr U.aA hM,h5.fr U.aA hM,h6.fr U.aA hM⟩ U.aA
theorem ST.AX{R:ER}{Fi:By}{K:WP}(h:ST w lo bs k nm l r t a b)(hl:bs<lo)(hk:∀w',ST w' lo bs k Fi l r t a b->aD [bs] w w'->K w'):
  sF R 43 2 9 (ptr bs) (str Fi) w K:=by
 obtain⟨line,lv,rv,tv,av,bv,h1,h2,h3,h4,h5,h6⟩:=h;refine sF.i h1 λw1 U=>?_;have hM:∀i∈[bs],i<lo\/i∈([]:List Nat)\/w.heap.size<=i:=by simp;omega
 exact hk w1 ⟨line,_,_,_,_,_,U.at_,h2.fr U.aA hM,h3.fr U.aA hM,h4.fr U.aA hM,h5.fr U.aA hM,h6.fr U.aA hM⟩ U.aA
end
def Ux(w:Wd)(x:Rp)(d:Int)(bs:Nat)(r:bL)(w':Wd):Prop:=
 ∃k nm l r1 t a b s o,RS w' x s d/\r=s.res (.st k nm l r1 t a b) o/\ST w' w.heap.size bs k nm l r1 t a b/\aD [x.p,bs] w w'
def AY(n:Nat)(f:LT->Int->bL)(K:FuncId):Prop:=
 ∀(w:Wd) (x:Rp) (s:Sg) (d:Int) (r:bL) (bs:Nat) (k:Int),RS w x s d->n<=aX->s.run (λts=>f ts d)=r->r≠.bH->ST w w.heap.size bs k [] .nil .nil .nil .nil .nil->bs≠x.p->bs≠x.bt->bs<w.heap.size->
  Calls prog K #[ptr x.p,ptr bs] w (aZ (λ_ w'=>Ux w x d bs r w') NP)
def AZ(w:Wd)(x:Rp)(d:Int)(r:bL)(v:Va)(w':Wd):Prop:=
 ∃k nm l r1 t a b s o bs,v=ptr bs/\RS w' x s d/\r=s.res (.st k nm l r1 t a b) o/\aU (Fr w.heap.size []) w' (.st k nm l r1 t a b) (.P (ptr bs))/\aD [x.p] w w'
def qV(n:Nat)(d:Int)(K:LB->LT->bL)(ts:LT):bL:=match bB [40] ts with
 |false=>.fail 4
 |true=>bY d λd2=>match bB [41] (bF ts)with
  |true=>K [] (bF (bF ts))
  |false=>(run n (.params []) d2 (bF ts)).bind λps ts _=>match ps with
   |.ex _ _ _ _ _ _ _ pl _=>aP [41] ts (K pl)
   |_=>.bH
def Fj(n:Nat)(d:Int)(ts:LT):bL:=bY d λd=>match bB [125] (bF ts)with
 |true=>.ok (.ex 12 0 [] .nil .nil .nil .nil [] .nil) (bF (bF ts)) false
 |false=>(run n (.items .nil .nil) d (bF ts)).bind λr ts _=>match r with
  |.cons ks (.cons dV .nil)=>aP [125] ts λts=>.ok (.ex 12 0 [] .nil .nil ks dV [] .nil) ts false
  |_=>.bH
def Uy(named:Bool)(f:Tr)(nm:By):Tr:=match named with
 |true=>.cons f (.cons (lf 6 0 nm) .nil)
 |false=>f
structure pP(n:Nat):Prop where
 block:sX n .block 47 [] .L nB
 inner:∀q,sX n (.inner q) 140 [str q] .L nB
 expr:∀a:Int,0<=a/\a<=100->sX n (.expr a) 142 [.int .i64 a] .P fV
 operand:sX n .operand 186 [] .P fV
 post:sX n .post 187 [] .P fV
 dq:sX n .dq 211 [] .P fV
 func:∀(named:Bool) (w:Wd) (x:Rp) (ts:LT) (d:Int) (r:bL),RS w x (.go ts) d->n<=aX->run n (.func named) d ts=r->r≠.bH->Calls prog 139 #[ptr x.p,.bool named] w (aZ (λv w'=>
  ∃f nm s o q e,v=.tuple #[ptr e,ptr q]/\RS w' x s d/\r=s.res (Uy named f nm) o/\aU (Fr w.heap.size []) w' f (.P (ptr e))/\aU (Fr w.heap.size []) w' (lf 6 0 nm) (.P (ptr q))/\aD [x.p] w w') NP)
 stmt:∀(w:Wd) (x:Rp) (ts:LT) (d:Int) (r:bL),RS w x (.go ts) d->n<=aX->run n .stmt d ts=r->r≠.bH->Calls prog 84 #[ptr x.p] w (aZ (λv w'=>AZ w x d r v w') NP)
 branch:AY n (λts d=>run n .branch d ts) 144
 simple:AY n (λts d=>run n .simple d ts) 146
end Go.Proofs.YtoddjlclpnoomaaGreatDoor

namespace Go.Proofs.YtoddjlclpnoomaaGreatDoor
open Go.Sh
theorem g47{n:Nat}(ih:∀m,m<=n->pP m):sX (n+1) .block 47 [] .L nB:=by
 intro w x s d r h hn hr aI;refine Xx ?_;unfold Ud;simp only[run]at hr;refine J1.go ?_;refine L1.g (λm v w'=>∃acc s',CX w w' x [] s' d/\Acc 40 w.heap.size [] w' v acc/\s'.run (λts=>run m (.eY acc) d ts)=r/\len acc+m<=n) n
  ⟨.nil,s,CX.mk' h,Acc.nil _ _ _ _,hr,by simp[len]⟩ ?_
 rintro m v w' K ⟨acc,s',c,ca,hr,hm⟩ hK;have sv:=ca.sl;refine c.ends λw1 c K1=>?_;replace ca:=ca.fr K1 ak
 cases s' with
 |bad cd=>
  refine V1.bf (by simp[go_sem,Sg.ends]) ?_;exact If.f (c.sY hr sv pr)
 |go ts=>
 cases m with
 |zero=>exact absurd hr.symm aI
 |succ m=>
 replace hr:run (m+1) (.eY acc) d ts=r:=hr;simp only[run]at hr;refine V1.i (v:=.bool (!(dI (hd ts)))) (w':=w1) (by simp[go_sem,Sg.ends]) ?_
 cases he:dI (hd ts)with
 |true=>
  simp only[he]at hr;exact If.f (c.fin (t:=acc) (o:=false) hr ca.rep sv)
 |false=>
 simp only[he]at hr;refine If.t ?_;have lp:=c.lp;have lt:=c.lt;have z1:=c.kk.size;refine Uf ((ih m aj).stmt _ _ _ _ _ c.rs aj rfl (aL hr aI)) ?_ (NP.no (e:=_));rintro _ w2 ⟨k,nm,l,r1,t,a,b,s2,o,bs,rfl,h2,FG,R2,K2⟩;replace c:=c.cx h2 K2;have bO:∀g,v.ownBlock=some g->w.heap.size<=g/\g<w1.heap.size:=λg hg=>ca.lt hg;replace ca:=ca.fr K2 al;replace hr:=run_bind (s:=.go ts) hr FG;have r2:aU (Fr w.heap.size (v.ownBlock.toList++[])) w2 _ (.P (ptr bs)):=aU.imp (λq hq _=>⟨by have:=hq.1;omega,by
  simp
  intro hm;have:=bO q hm;have:=hq.1;omega⟩) _ _ R2
 obtain⟨b8,sC,f8,hc⟩:=R2.kind rfl;injection sC with sC;injection sC with sC;injection sC with sC
 subst sC;refine V1.aG ah λb6 w3 N6=>?_;replace c:=c.c0 N6.aA;replace ca:=ca.f0 N6.aA;replace r2:=aU.fr r2 N6.aA ak;replace hc:=N6.aA.cell hc ak;have z3:=c.kk.size;obtain⟨v',w4,fR,fW,K7,hg⟩:=BN (n:=n) ca N6.at_ rfl r2 aj (by simp only[aX]at hn;omega) ak aj;refine V1.i fR ?_;have hM:∀i∈v.ownBlock.toList,w.heap.size<=i/\i<w1.heap.size:=by
  intro i hi;simp at hi;exact bO i hi
 have f8':=f8.1;replace c:CX w w4 x [] s2 d:=⟨c.rs.aA K7 (λh=>by have:=hM _ h;omega) (λh=>by have:=hM _ h;omega),c.kk.trans' K7 (λi hi h=>by have:=hM i hi;omega),c.lp,c.lt⟩;replace hc:=K7.cell hc (λh=>by have:=hM bs h;omega);refine lF.j hc ?_;refine V1.i (v:=.bool (k==8)) (w':=w4) (by simp[go_sem,Bo,kindOf]) ?_
 cases hk:(k==8)with
 |true=>
  simp only[kindOf,hk]at hr;exact If.t (c.fin hr fW.rep fW.sl)
 |false=>
  simp only[kindOf,hk]at hr;exact If.f (hK m _ _ aj ⟨_,_,c,fW,hr,by rw[eJ _ _ ca.uG];omega⟩)
theorem g140{n:Nat}(ih:∀m,m<=n->pP m)(q:By):sX (n+1) (.inner q) 140 [str q] .L nB:=by
 intro w x s d r h hn hr aI;refine Ms ?_;unfold E4;have c:CX w w x [] s d:=CX.mk' h;refine c.sign q λw1 c K1=>?_
 cases s with
 |bad cd=>
  refine V1.bt (by simp[go_sem,Sg.is]) ?_;refine If.t (c.fail 4 λ_ w2 c K2=>?_);exact c.sY hr ⟨_,_,_,rfl⟩ pr
 |go ts=>
 replace hr:run (n+1) (.inner q) d ts=r:=hr;simp only[run]at hr;refine V1.i (v:=.bool (!(bB q ts))) (w':=w1) (by simp[go_sem,Sg.is]) ?_
 cases hq:bB q ts with
 |false=>
  simp only[hq]at hr;refine If.t (c.fail 4 λ_ w2 c K2=>?_);exact CX.sY (cd:=4) (f:=λ_=>.bH) c hr ⟨_,_,_,rfl⟩ pr
 |true=>
  simp only[hq]at hr;refine If.f ?_;replace hr:=eC (f:=λd ts=>run n .block d ts) hq hr;refine c.open λ_ w2 c K2=>?_;refine c.cI q hr λ_ w3 c hr K3=>?_;refine c.call (ih n aj).block AU aj (qU hr) aI λv w4 t s4 o c hr R hv K4=>?_;refine c.close h.dp.2.1 λw5 c K5=>?_;exact c.fin hr (R.cx K5 c.lp) hv
def nc:List (LB):=[[[111,114]],[[97,110,100]],[[60],[60,61],[62],[62,61],[61,61],[126,61]],[[124]],[[126]],[[38]],[[60,60],[62,62]],[[46,46]],[[43],[45]],[[42],[47,47],[37]]]
theorem yq(q:By):∀i,i<10->q∈nc.getD i []->bD q=((i+1:Nat):Int):=by
 intro i h hq;have:i=0\/i=1\/i=2\/i=3\/i=4\/i=5\/i=6\/i=7\/i=8\/i=9:=by omega
 rcases this with rfl|rfl|rfl|rfl|rfl|rfl|rfl|rfl|rfl|rfl<;>simp[nc]at hq
 all_goals first
  |(subst hq;rfl)
  |(rcases hq with rfl|rfl<;>rfl)
  |(rcases hq with rfl|rfl|rfl<;>rfl)
  |(rcases hq with rfl|rfl|rfl|rfl|rfl|rfl<;>rfl)
theorem yr(q:By)(h:∀i,i<10->q∉nc.getD i []):bD q=0:=by
 have h0:=h 0 aj;have h1:=h 1 aj;have h2:=h 2 aj;have h3:=h 3 aj;have h4:=h 4 aj;have h5:=h 5 aj;have h6:=h 6 aj;have h7:=h 7 aj;have h8:=h 8 aj;have h9:=h 9 aj;clear h;simp[nc]at h0 h1 h2 h3 h4 h5 h6 h7 h8 h9
 unfold bD;simp_all
def SS(w:Wd)(bt:Nat)(l:List (LB)):Prop:=∃vs,At w bt vs/\∀i (h:i<l.length),∃b,vs[i]?=some (.slice (some ⟨b,0,none⟩) (l.getD i []).length (l.getD i []).length)/\At w b ((l.getD i []).map str)
theorem CN{w:Wd}{b n c k:Nat}(h:k<n):(indexAt 239 (.slice (some ⟨b,0,none⟩) n c) (.int .i64 k)).run prog w=.ok (.pointer (some ⟨b,k,none⟩)) w:=by
 have:(k:Int)<n:=by omega
 simp[go_sem,h,Addr.add]
 rintro rfl;rfl
theorem MW(w:Wd)(a0 a1 a2 a3 a4 a5 a6 a7 a8 a9:Option Addr)(n0 n1 n2 n3 n4 n5 n6 n7 n8 n9 c0 c1 c2 c3 c4 c5 c6 c7 c8 c9:Nat):(Instr.buildSlice 239 10 #[(0,.slice a0 n0 c0),(1,.slice a1 n1 c1),(2,.slice a2 n2 c2),(3,.slice a3 n3 c3),(4,.slice a4 n4 c4),(5,.slice a5 n5 c5),(6,.slice a6 n6 c6),(7,.slice a7 n7 c7),(8,.slice a8 n8 c8),(9,.slice a9 n9 c9)]).run prog w=
 .ok (.slice (some ⟨w.heap.size,0,none⟩) 10 10) (w.alloc (.cells #[.slice a0 n0 c0,.slice a1 n1 c1,.slice a2 n2 c2,.slice a3 n3 c3,.slice a4 n4 c4,.slice a5 n5 c5,.slice a6 n6 c6,.slice a7 n7 c7,.slice a8 n8 c8,.slice a9 n9 c9] 45)):=by simp[go_sem]
theorem nd(w:Wd)(q:By):(Instr.buildSlice 45 1 #[(0,str q)]).run prog w=.ok (.slice (some ⟨w.heap.size,0,none⟩) 1 1) (w.alloc (.cells #[str q] 9)):=by simp[go_sem]
theorem ub(w:Wd)(q0 q1:By):(Instr.buildSlice 45 2 #[(0,str q0),(1,str q1)]).run prog w=.ok (.slice (some ⟨w.heap.size,0,none⟩) 2 2) (w.alloc (.cells #[str q0,str q1] 9)):=by simp[go_sem]
theorem A0(w:Wd)(q0 q1 q2:By):(Instr.buildSlice 45 3 #[(0,str q0),(1,str q1),(2,str q2)]).run prog w=.ok (.slice (some ⟨w.heap.size,0,none⟩) 3 3) (w.alloc (.cells #[str q0,str q1,str q2] 9)):=by simp[go_sem]
theorem A4(w:Wd)(q0 q1 q2 q3 q4 q5:By):(Instr.buildSlice 45 6 #[(0,str q0),(1,str q1),(2,str q2),(3,str q3),(4,str q4),(5,str q5)]).run prog w=.ok (.slice (some ⟨w.heap.size,0,none⟩) 6 6) (w.alloc (.cells #[str q0,str q1,str q2,str q3,str q4,str q5] 9)):=by simp[go_sem]
theorem Fk(w:Wd)(q:By):Calls prog 178 #[str q] w (aZ (λv w'=>v=.int .i64 (bD q)/\aD [] w w') NP):=by
 refine Un ?_;unfold MD;refine V1.aG (nd _ _) λb0 w0 N0=>?_;refine V1.aG (nd _ _) λb1 w1 N1=>?_;refine V1.aG (A4 _ _ _ _ _ _ _) λb2 w2 N2=>?_;refine V1.aG (nd _ _) λb3 w3 N3=>?_;refine V1.aG (nd _ _) λb4 w4 N4=>?_;refine V1.aG (nd _ _) λb5 w5 N5=>?_;refine V1.aG (ub _ _ _) λb6 w6 N6=>?_;refine V1.aG (nd _ _) λb7 w7 N7=>?_;refine V1.aG (ub _ _ _) λb8 w8 N8=>?_;refine V1.aG (A0 _ _ _ _) λb9 w9 N9=>?_;refine V1.aG (MW ..) λbt eo iz=>?_;have k9:=iz.aA;have k8:=N9.aA.trans k9;have k7:=N8.aA.trans k8;have k6:=N7.aA.trans k7;have k5:=N6.aA.trans k6;have k4:=N5.aA.trans k5;have k3:=N4.aA.trans k4;have k2:=N3.aA.trans k3;have k1:=N2.aA.trans k2;have k0:=N1.aA.trans k1
 have kk:=N0.aA.trans k0;have hS:SS eo bt nc:=by
  refine⟨_,iz.at_,λi hi=>?_⟩;have:i=0\/i=1\/i=2\/i=3\/i=4\/i=5\/i=6\/i=7\/i=8\/i=9:=by simp[nc]at hi;omega
  rcases this with rfl|rfl|rfl|rfl|rfl|rfl|rfl|rfl|rfl|rfl
  .exact⟨b0,rfl,k0.at N0.at_ ak⟩
  .exact⟨b1,rfl,k1.at N1.at_ ak⟩
  .exact⟨b2,rfl,k2.at N2.at_ ak⟩
  .exact⟨b3,rfl,k3.at N3.at_ ak⟩
  .exact⟨b4,rfl,k4.at N4.at_ ak⟩
  .exact⟨b5,rfl,k5.at N5.at_ ak⟩
  .exact⟨b6,rfl,k6.at N6.at_ ak⟩
  .exact⟨b7,rfl,k7.at N7.at_ ak⟩
  .exact⟨b8,rfl,k8.at N8.at_ ak⟩
  .exact⟨b9,rfl,k9.at N9.at_ ak⟩
 clear N0 N1 N2 N3 N4 N5 N6 N7 N8 N9 iz k0 k1 k2 k3 k4 k5 k6 k7 k8 k9;have jj:nc.length=10:=rfl;refine L2.i (λx0 x1 w'=>w'=eo/\∃i:Nat,x1=.int .i64 (i:Nat)/\i<=10/\∀j,j<10->j<i->q∉nc.getD j []) (λ_ v _=>match v with|.int _ n=>(10-n.toNat)|_=>0) ⟨rfl,0,rfl,by omega,λj _ h=>absurd h aj⟩ ?_;rintro x0 x1 w' ⟨rfl,i,rfl,hi,iX⟩;refine V1.i ah ?_;by_cases bO:i<10
 rotate_left
 .obtain rfl:i=10:=by omega
  refine V1.bf am ?_;refine If.f ⟨?_,kk⟩;rw[yr q λj h=>iX j h h]
 refine V1.bt ax ?_;refine If.t ?_;obtain⟨vs,aT,hv⟩:=hS;obtain⟨b,hb,aB⟩:=hv i (by rw[jj];exact bO);have h6:(nc.getD i []).length<=6:=by
  have:i=0\/i=1\/i=2\/i=3\/i=4\/i=5\/i=6\/i=7\/i=8\/i=9:=by omega
  rcases this with rfl|rfl|rfl|rfl|rfl|rfl|rfl|rfl|rfl|rfl<;>simp[nc]
 generalize hL:nc.getD i []=L at*;refine L2.i (λx0 x1 w2=>w2=w'/\∃j:Nat,x1=.int .i64 (j:Nat)/\j<=L.length/\q∉L.take j) (λ_ v _=>match v with|.int _ n=>(L.length-n.toNat)|_=>0) ⟨rfl,0,rfl,by omega,by simp⟩ ?_;rintro y0 y1 w2 ⟨rfl,j,rfl,hj,OK⟩;refine V1.i (CN bO) ?_;refine V1.load (aC rfl) aT hb ?_;refine V1.i ah ?_;by_cases lh:j<L.length
 rotate_left
 .obtain rfl:j=L.length:=by omega
  refine V1.bf am ?_;refine If.f ?_;refine V1.i (cC _ _ _ _ _ _ aj aj) ?_;refine⟨⟨rfl,i+1,by simp,by omega,λj h rV=>?_⟩,by simp;omega⟩;by_cases Uz:j<i
  .exact iX j h Uz
  .obtain rfl:j=i:=by omega
   rw[hL];simpa using OK
 refine V1.bt ax ?_;refine If.t ?_;refine V1.i (CN bO) ?_;refine V1.load (aC rfl) aT hb ?_;refine V1.i (lG _ lh) ?_;refine V1.load (v:=str L[j]) (aC rfl) aB (by simp[lh]) ?_;refine V1.i (zQ _ _ _ _ _) ?_;by_cases he:L[j]=q
 .rw[show(L[j]==q)=true by simpa using he];refine If.t ?_;refine V1.i (cC _ _ _ _ _ _ aj aj) ?_;refine⟨?_,kk⟩;rw[yq q i bO (by rw[hL,←he];exact getElem_mem _)];simp
 .rw[show(L[j]==q)=false by simpa using he];refine If.f ?_;refine V1.i (cC _ _ _ _ _ _ aj aj) ?_;refine⟨⟨rfl,j+1,by simp,by omega,?_⟩,by simp;omega⟩;rw[take_succ_eq_append_getElem lh];simp only[mem_append,mem_singleton,not_or];exact⟨OK,λh=>he h.symm⟩
end Go.Proofs.YtoddjlclpnoomaaGreatDoor

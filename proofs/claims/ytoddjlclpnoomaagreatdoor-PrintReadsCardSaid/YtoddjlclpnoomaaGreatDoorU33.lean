import Derived.Test.YtoddjlclpnoomaaGreatDoorU32
set_option linter.unusedVariables false
set_option linter.unusedSimpArgs false
set_option maxRecDepth 100000
open Go.Proofs.Tryz
open Go.Instr (loadAt indexAt)
open List (drop_eq_getElem_cons)
open Nat (lt_or_ge le_refl le_trans)
open Go.Builtin (append_ len_)
open Bool (and_eq_true not_eq_true' or_eq_false_iff)
namespace Go.Proofs.YtoddjlclpnoomaaGreatDoor
open Go.Sh
def XP(R:ER)(a0:Va)(w:Wd):Prop:=
 ce R 67 #[] w λe w=>ci R 67 e w λa w=>cf R 24 #[a,a0] w λy w=>lF R 67 2 23 a w λf w=>bk R .neq 23 false true f (.int .i64 0) w λg w=>If g (∃C1:WP,C1 w.drew/\qF C1 67 2 23 a λh=>∀w,C1 w->cu R (.tuple #[(.string ⟨#[]⟩),h]) w) (lF R 67 0 22 a w λi w=>v1 R (Go.convert 22 9 i) w λj w=>cf R 25 #[j] w λc w=>bw R c 0 w λl w=>bw R c 1 w λm w=>bw R c 2 w λb w=>cq R 69 true (.tuple #[]) w λd w=>bi R 69 d m w λw=>J1 (λk1=>Gd b true (lD R 69 0 23 d w λn w=>bk R .eql 23 false true n (.int .i64 3) w λo w=>k1 o w) (k1 undef w)) (λp w=>bq R b p (.bool false) w λq w=>If q (cu R (.tuple #[(.string ⟨#[]⟩),(.int .i64 3)]) w) (J1 (λk2=>Gd b false (cf R 26 #[l,a0,(.bool false)] w λr w=>cg R .not r w λs w=>k2 s w) (k2 undef w)) (λt w=>bq R b (.bool true) t w λu w=>If u (cu R (.tuple #[(.string ⟨#[]⟩),(.int .i64 2)]) w) (lF R 67 0 22 a w λv w=>v1 R (Go.convert 22 9 v) w λx w=>cu R (.tuple #[x,(.int .i64 0)]) w)))))
theorem s11:dc 11 XP:=λh=>cw [] func11 h
theorem UW:bZ 11:=db func11
def XQ(R:ER)(a0 a1:Va)(w:Wd):Prop:=
 L1 (.int .i64 0) w (λg1 a w=>cr R 26 a1 w λc w=>bk R .lss 3 false false a c w λb w=>J1 (λk1=>Gd b true (lF R 67 2 23 a0 w λd w=>bk R .eql 23 false true d (.int .i64 0) w λe w=>k1 e w) (k1 undef w)) (λf w=>bq R b f (.bool false) w λg w=>If g (cb R 26 a1 a w λh w=>bg R 40 h w λi w=>cf R 44 #[a0,i] w λl w=>cf R 45 #[a0,(.string ⟨#[10]⟩)] w λm w=>bk R .add 3 false true a (.int .i64 1) w λj w=>g1 j w) (cu R (.tuple #[]) w)))
theorem s24:dd 24 XQ:=λh=>cw [] func24 h
theorem Ni:bZ 24:=db func24
def XR(R:ER)(a0 a1:Va)(w:Wd):Prop:=
 bk R .eql 40 false true a1 (.pointer none) w λb w=>J1 (λk1=>Gd b false (lF R 43 0 3 a1 w λe w=>bk R .lss 3 false true e (.int .i64 1) w λf w=>k1 f w) (k1 undef w)) (λg w=>bq R b (.bool true) g w λc w=>J1 (λk2=>Gd c false (lF R 43 0 3 a1 w λh w=>bk R .gtr 3 false true h (.int .i64 11) w λi w=>k2 i w) (k2 undef w)) (λj w=>bq R c (.bool true) j w λl w=>If l (cf R 75 #[a0,(.int .i64 2)] w λd8 w=>cu R (.tuple #[]) w) (cf R 76 #[a0] w λd9 w=>lF R 43 0 3 a1 w λa w=>bk R .eql 3 false true a (.int .i64 1) w λm w=>If m (cf R 45 #[a0,(.string ⟨#[108,111,99,97,108,32]⟩)] w λe2 w=>lF R 43 2 9 a1 w λn w=>cf R 45 #[a0,n] w λe3 w=>lF R 43 4 41 a1 w λo w=>cf R 77 #[a0,(.string ⟨#[32,61,32]⟩),o] w λe4 w=>cu R (.tuple #[]) w) (bk R .eql 3 false true a (.int .i64 2) w λp w=>If p (lF R 43 3 41 a1 w λq w=>cf R 78 #[a0,q] w λe5 w=>cf R 45 #[a0,(.string ⟨#[32,61,32]⟩)] w λe6 w=>lF R 43 4 41 a1 w λr w=>cf R 78 #[a0,r] w λe7 w=>cu R (.tuple #[]) w) (bk R .eql 3 false true a (.int .i64 3) w λs w=>If s (lF R 43 4 41 a1 w λt w=>cf R 78 #[a0,t] w λe8 w=>cu R (.tuple #[]) w) (bk R .eql 3 false true a (.int .i64 4) w λu w=>If u (cf R 45 #[a0,(.string ⟨#[100,111]⟩)] w λe9 w=>lF R 43 6 26 a1 w λv w=>cf R 79 #[a0,v] w λf2 w=>cf R 45 #[a0,(.string ⟨#[101,110,100]⟩)] w λf3 w=>cu R (.tuple #[]) w) (bk R .eql 3 false true a (.int .i64 5) w λx w=>If x (cf R 45 #[a0,(.string ⟨#[119,104,105,108,101,32]⟩)] w λf4 w=>lF R 43 4 41 a1 w λy w=>cf R 78 #[a0,y] w λf5 w=>cf R 45 #[a0,(.string ⟨#[32,100,111]⟩)] w λf6 w=>lF R 43 6 26 a1 w λz w=>cf R 79 #[a0,z] w λf7 w=>cf R 45 #[a0,(.string ⟨#[101,110,100]⟩)] w λf8 w=>cu R (.tuple #[]) w) (bk R .eql 3 false true a (.int .i64 6) w λb2 w=>If b2 (cf R 45 #[a0,(.string ⟨#[105,102]⟩)] w λf9 w=>cf R 80 #[a0,a1] w λg2 w=>cu R (.tuple #[]) w) (bk R .eql 3 false true a (.int .i64 7) w λb3 w=>If b3 (cf R 45 #[a0,(.string ⟨#[102,111,114,32]⟩)] w λg3 w=>lF R 43 2 9 a1 w λb4 w=>cf R 45 #[a0,b4] w λg4 w=>cf R 45 #[a0,(.string ⟨#[32,61,32]⟩)] w λg5 w=>lF R 43 4 41 a1 w λb5 w=>cf R 78 #[a0,b5] w λg6 w=>cf R 45 #[a0,(.string ⟨#[44,32]⟩)] w λg7 w=>lF R 43 5 41 a1 w λb6 w=>cf R 78 #[a0,b6] w λg8 w=>cf R 45 #[a0,(.string ⟨#[32,100,111]⟩)] w λg9 w=>lF R 43 6 26 a1 w λb7 w=>cf R 79 #[a0,b7] w λh2 w=>cf R 45 #[a0,(.string ⟨#[101,110,100]⟩)] w λh3 w=>cu R (.tuple #[]) w) (bk R .eql 3 false true a (.int .i64 8) w λb8 w=>If b8 (cf R 45 #[a0,(.string ⟨#[114,101,116,117,114,110]⟩)] w λh4 w=>lF R 43 4 41 a1 w λb9 w=>cf R 77 #[a0,(.string ⟨#[32]⟩),b9] w λh5 w=>cu R (.tuple #[]) w) (bk R .eql 3 false true a (.int .i64 9) w λc2 w=>If c2 (cf R 45 #[a0,(.string ⟨#[98,114,101,97,107]⟩)] w λh6 w=>cu R (.tuple #[]) w) (bk R .eql 3 false true a (.int .i64 10) w λc3 w=>If c3 (cf R 45 #[a0,(.string ⟨#[116,114,121]⟩)] w λh7 w=>lF R 43 6 26 a1 w λc4 w=>cf R 79 #[a0,c4] w λh8 w=>cf R 45 #[a0,(.string ⟨#[99,97,116,99,104,32]⟩)] w λh9 w=>lF R 43 2 9 a1 w λc5 w=>cf R 45 #[a0,c5] w λi2 w=>lF R 43 7 26 a1 w λc6 w=>cf R 79 #[a0,c6] w λi3 w=>cf R 45 #[a0,(.string ⟨#[101,110,100]⟩)] w λi4 w=>cu R (.tuple #[]) w) (bk R .eql 3 false true a (.int .i64 11) w λc7 w=>If c7 (cf R 45 #[a0,(.string ⟨#[108,111,99,97,108,32,102,117,110,99,116,105,111,110,32]⟩)] w λi5 w=>lF R 43 2 9 a1 w λc8 w=>cf R 45 #[a0,c8] w λi6 w=>lF R 43 4 41 a1 w λc9 w=>bk R .eql 41 false true c9 (.pointer none) w λd w=>J1 (λk3=>Gd d false (lF R 43 4 41 a1 w λd2 w=>lF R 47 0 3 d2 w λd3 w=>bk R .neq 3 false true d3 (.int .i64 9) w λd4 w=>k3 d4 w) (k3 undef w)) (λd5 w=>bq R d (.bool true) d5 w λd6 w=>If d6 (cf R 75 #[a0,(.int .i64 2)] w λi7 w=>cu R (.tuple #[]) w) (cf R 76 #[a0] w λi8 w=>lF R 43 4 41 a1 w λd7 w=>cf R 81 #[a0,d7] w λi9 w=>cu R (.tuple #[]) w))) (cu R (.tuple #[]) w))))))))))))))
set_option maxHeartbeats 4000000 in
theorem s44:dd 44 XR:=λh=>cw [] func44 h
theorem UX:bZ 44:=db func44
def XS(R:ER)(a0 a1:Va)(w:Wd):Prop:=
 lF R 67 2 23 a0 w λa w=>bk R .neq 23 false true a (.int .i64 0) w λb w=>If b (cu R (.tuple #[]) w) (cr R 9 a1 w λc w=>lF R 67 0 22 a0 w λd w=>cr R 22 d w λe w=>bk R .sub 3 true false (.int .i64 32768) e w λf w=>bk R .gtr 3 false false c f w λg w=>If g (cf R 75 #[a0,(.int .i64 3)] w λj w=>cu R (.tuple #[]) w) (lF R 67 0 22 a0 w λh w=>v1 R (append_ #[22,9] 22 #[h,a1]) w λi w=>sF R 67 0 22 a0 i w λw=>cu R (.tuple #[]) w))
theorem s45:dd 45 XS:=λh=>cw [] func45 h
theorem Bf:bZ 45:=db func45
def UY(R:ER)(a0 a1:Va)(w:Wd):Prop:=
 lF R 67 2 23 a0 w λa w=>bk R .eql 23 false true a (.int .i64 0) w λb w=>If b (sF R 67 2 23 a0 a1 w λw=>cu R (.tuple #[]) w) (cu R (.tuple #[]) w)
theorem XT:dd 75 UY:=λh=>cw [] func75 h
theorem Bg:bZ 75:=db func75
def XU(R:ER)(a0:Va)(w:Wd):Prop:=
 lF R 67 1 3 a0 w λa w=>bk R .add 3 false true a (.int .i64 1) w λb w=>sF R 67 1 3 a0 b w λw=>lF R 67 1 3 a0 w λc w=>bk R .gtr 3 false true c (.int .i64 65536) w λd w=>If d (cf R 75 #[a0,(.int .i64 3)] w λe w=>cu R (.tuple #[]) w) (cu R (.tuple #[]) w)
theorem s76:dc 76 XU:=λh=>cw [] func76 h
theorem UZ:bZ 76:=db func76
def XV(R:ER)(a0 a1 a2:Va)(w:Wd):Prop:=
 bk R .neq 41 false true a2 (.pointer none) w λa w=>If a (cf R 45 #[a0,a1] w λb w=>cf R 78 #[a0,a2] w λc w=>cu R (.tuple #[]) w) (cu R (.tuple #[]) w)
theorem s77:de 77 XV:=λh=>cw [] func77 h
theorem Nj:bZ 77:=db func77
def XW(R:ER)(a0 a1:Va)(w:Wd):Prop:=
 lF R 67 2 23 a0 w λe w=>bk R .neq 23 false true e (.int .i64 0) w λf w=>If f (cu R (.tuple #[]) w) (bk R .eql 41 false true a1 (.pointer none) w λb w=>J1 (λk1=>Gd b false (lF R 47 0 3 a1 w λg w=>bk R .lss 3 false true g (.int .i64 1) w λh w=>k1 h w) (k1 undef w)) (λi w=>bq R b (.bool true) i w λc w=>J1 (λk2=>Gd c false (lF R 47 0 3 a1 w λj w=>bk R .gtr 3 false true j (.int .i64 12) w λl w=>k2 l w) (k2 undef w)) (λm w=>bq R c (.bool true) m w λn w=>If n (cf R 75 #[a0,(.int .i64 2)] w λd8 w=>cu R (.tuple #[]) w) (cf R 76 #[a0] w λd9 w=>lF R 47 0 3 a1 w λa w=>bk R .eql 3 false true a (.int .i64 1) w λo w=>If o (cf R 45 #[a0,(.string ⟨#[110,105,108]⟩)] w λe2 w=>cu R (.tuple #[]) w) (bk R .eql 3 false true a (.int .i64 2) w λp w=>If p (cf R 45 #[a0,(.string ⟨#[116,114,117,101]⟩)] w λe3 w=>cu R (.tuple #[]) w) (bk R .eql 3 false true a (.int .i64 3) w λq w=>If q (cf R 45 #[a0,(.string ⟨#[102,97,108,115,101]⟩)] w λe4 w=>cu R (.tuple #[]) w) (bk R .eql 3 false true a (.int .i64 4) w λr w=>If r (lF R 47 2 2 a1 w λs w=>cf R 121 #[s] w λt w=>cf R 45 #[a0,t] w λe5 w=>cu R (.tuple #[]) w) (bk R .eql 3 false true a (.int .i64 5) w λu w=>If u (lF R 47 3 9 a1 w λv w=>cf R 122 #[v] w λx w=>cf R 45 #[a0,x] w λe6 w=>cu R (.tuple #[]) w) (bk R .eql 3 false true a (.int .i64 6) w λy w=>If y (lF R 47 3 9 a1 w λz w=>cf R 45 #[a0,z] w λe7 w=>cu R (.tuple #[]) w) (bk R .eql 3 false true a (.int .i64 7) w λb2 w=>If b2 (lF R 47 4 41 a1 w λb3 w=>cf R 123 #[a0,b3] w λe8 w=>lF R 47 5 41 a1 w λb4 w=>cf R 124 #[b4] w λb5 w=>If b5 (cf R 76 #[a0] w λe9 w=>cf R 45 #[a0,(.string ⟨#[46]⟩)] w λf2 w=>lF R 47 5 41 a1 w λb6 w=>lF R 47 3 9 b6 w λb7 w=>cf R 45 #[a0,b7] w λf3 w=>cu R (.tuple #[]) w) (cf R 45 #[a0,(.string ⟨#[91]⟩)] w λf4 w=>lF R 47 5 41 a1 w λb8 w=>cf R 78 #[a0,b8] w λf5 w=>cf R 45 #[a0,(.string ⟨#[93]⟩)] w λf6 w=>cu R (.tuple #[]) w)) (bk R .eql 3 false true a (.int .i64 8) w λb9 w=>If b9 (lF R 47 4 41 a1 w λc2 w=>cf R 123 #[a0,c2] w λf7 w=>cf R 45 #[a0,(.string ⟨#[40]⟩)] w λf8 w=>lF R 47 7 44 a1 w λc3 w=>cf R 125 #[a0,c3] w λf9 w=>cf R 45 #[a0,(.string ⟨#[41]⟩)] w λg2 w=>cu R (.tuple #[]) w) (bk R .eql 3 false true a (.int .i64 9) w λc4 w=>If c4 (cf R 45 #[a0,(.string ⟨#[102,117,110,99,116,105,111,110]⟩)] w λg3 w=>cf R 81 #[a0,a1] w λg4 w=>cu R (.tuple #[]) w) (bk R .eql 3 false true a (.int .i64 10) w λc5 w=>If c5 (lF R 47 3 9 a1 w λc6 w=>cf R 45 #[a0,c6] w λg5 w=>cf R 45 #[a0,(.string ⟨#[32]⟩)] w λg6 w=>∃S1:WP,S1 w.drew/\xF S1 47 5 41 a1 λc7=>xF S1 47 5 41 a1 λc8=>xw t0 (Bo .neq 41 false true c8 (.pointer none)) λd=>J1 (λk3=>Gd d true (xF S1 47 5 41 a1 λc9=>xF S1 47 0 3 c9 λd2=>xw t0 (Bo .eql 3 false true d2 (.int .i64 11)) λd3=>k3 d3 w.drew) (k3 undef w.drew)) (λd4 w=>xw t0 (Pk d d4 (.bool false)) λd5=>cf R 126 #[a0,c7,d5] w λg7 w=>cu R (.tuple #[]) w)) (bk R .eql 3 false true a (.int .i64 11) w λd6 w=>If d6 (cf R 127 #[a0,a1] w λg8 w=>cu R (.tuple #[]) w) (bk R .eql 3 false true a (.int .i64 12) w λd7 w=>If d7 (cf R 128 #[a0,a1] w λg9 w=>cu R (.tuple #[]) w) (cu R (.tuple #[]) w))))))))))))))))
set_option maxHeartbeats 4000000 in
theorem s78:dd 78 XW:=λh=>cw [37] func78 h
theorem j0:bZ 78:=db func78
def XX(R:ER)(a0 a1:Va)(w:Wd):Prop:=
 cf R 45 #[a0,(.string ⟨#[10]⟩)] w λa w=>cf R 24 #[a0,a1] w λb w=>cu R (.tuple #[]) w
theorem s79:dd 79 XX:=λh=>cw [] func79 h
theorem ru:bZ 79:=db func79
def XY(R:ER)(a0 a1:Va)(w:Wd):Prop:=
 cf R 45 #[a0,(.string ⟨#[32]⟩)] w λb3 w=>lF R 43 4 41 a1 w λc w=>cf R 78 #[a0,c] w λb4 w=>cf R 45 #[a0,(.string ⟨#[32,116,104,101,110]⟩)] w λb5 w=>lF R 43 6 26 a1 w λd w=>cf R 79 #[a0,d] w λb6 w=>lF R 43 7 26 a1 w λe w=>cr R 26 e w λf w=>bk R .eql 3 false true f (.int .i64 1) w λa w=>J1 (λk1=>Gd a true (lF R 43 7 26 a1 w λg w=>cb R 26 g (.int .i64 0) w λh w=>bg R 40 h w λi w=>bk R .neq 40 false true i (.pointer none) w λj w=>k1 j w) (k1 undef w)) (λl w=>bq R a l (.bool false) w λb w=>J1 (λk2=>Gd b true (lF R 43 7 26 a1 w λm w=>cb R 26 m (.int .i64 0) w λn w=>bg R 40 n w λo w=>lF R 43 0 3 o w λp w=>bk R .eql 3 false true p (.int .i64 6) w λq w=>k2 q w) (k2 undef w)) (λr w=>bq R b r (.bool false) w λs w=>If s (cf R 76 #[a0] w λb7 w=>cf R 45 #[a0,(.string ⟨#[101,108,115,101,105,102]⟩)] w λb8 w=>lF R 43 7 26 a1 w λt w=>cb R 26 t (.int .i64 0) w λu w=>bg R 40 u w λv w=>cf R 80 #[a0,v] w λb9 w=>cu R (.tuple #[]) w) (J0 (λk3=>lF R 43 7 26 a1 w λx w=>cr R 26 x w λy w=>bk R .gtr 3 false true y (.int .i64 0) w λz w=>If z (cf R 45 #[a0,(.string ⟨#[101,108,115,101]⟩)] w λc2 w=>lF R 43 7 26 a1 w λb2 w=>cf R 79 #[a0,b2] w λc3 w=>k3 w) (k3 w)) (λw=>cf R 45 #[a0,(.string ⟨#[101,110,100]⟩)] w λc4 w=>cu R (.tuple #[]) w))))
theorem s80:dd 80 XY:=λh=>cw [] func80 h
theorem Nk:bZ 80:=db func80
def XZ(R:ER)(a0 a1:Va)(w:Wd):Prop:=
 cf R 45 #[a0,(.string ⟨#[40]⟩)] w λp w=>L1 (.int .i64 0) w (λg1 a w=>lF R 47 8 45 a1 w λc w=>cr R 45 c w λd w=>bk R .lss 3 false false a d w λb w=>J1 (λk1=>Gd b true (lF R 67 2 23 a0 w λe w=>bk R .eql 23 false true e (.int .i64 0) w λf w=>k1 f w) (k1 undef w)) (λg w=>bq R b g (.bool false) w λh w=>If h (J0 (λk2=>bk R .gtr 3 false true a (.int .i64 0) w λi w=>If i (cf R 45 #[a0,(.string ⟨#[44,32]⟩)] w λq w=>k2 w) (k2 w)) (λw=>lF R 47 8 45 a1 w λj w=>cb R 45 j a w λl w=>bg R 9 l w λm w=>cf R 45 #[a0,m] w λr w=>bk R .add 3 false true a (.int .i64 1) w λn w=>g1 n w)) (cf R 45 #[a0,(.string ⟨#[41]⟩)] w λs w=>lF R 47 9 26 a1 w λo w=>cf R 79 #[a0,o] w λt w=>cf R 45 #[a0,(.string ⟨#[101,110,100]⟩)] w λu w=>cu R (.tuple #[]) w)))
theorem s81:dd 81 XZ:=λh=>cw [] func81 h
theorem Nl:bZ 81:=db func81
def Nn(R:ER)(a0:Va)(w:Wd):Prop:=
 cr R 9 a0 w λa w=>bk R .gtr 3 false true a (.int .i64 32768) w λb w=>If b (cu R a0 w) (cf R 176 #[a0] w λc w=>cu R c w)
theorem U0:dc 122 Nn:=λh=>cw [] func122 h
theorem Np:bZ 122:=db func122
def Nq(R:ER)(a0 a1:Va)(w:Wd):Prop:=
 bk R .neq 41 false true a1 (.pointer none) w λa w=>J1 (λk1=>Gd a true (lF R 47 0 3 a1 w λd w=>bk R .eql 3 false true d (.int .i64 10) w λe w=>k1 e w) (k1 undef w)) (λb w=>J1 (λk2=>Gd b false (lF R 47 0 3 a1 w λf w=>bk R .eql 3 false true f (.int .i64 11) w λg w=>k2 g w) (k2 undef w)) (λh w=>J1 (λk3=>Gd a true (bq R b (.bool true) h w λi w=>k3 i w) (k3 undef w)) (λc w=>J1 (λk4=>Gd c false (lF R 47 0 3 a1 w λj w=>bk R .eql 3 false true j (.int .i64 9) w λl w=>k4 l w) (k4 undef w)) (λm w=>J1 (λk5=>Gd a true (bq R c (.bool true) m w λn w=>k5 n w) (k5 undef w)) (λo w=>bq R a o (.bool false) w λp w=>cf R 126 #[a0,a1,p] w λq w=>cu R (.tuple #[]) w)))))
theorem Vb:dd 123 Nq:=λh=>cw [] func123 h
theorem CT:bZ 123:=db func123
def Nr(R:ER)(a0:Va)(w:Wd):Prop:=
 bk R .neq 41 false true a0 (.pointer none) w λa w=>J1 (λk1=>Gd a true (lF R 47 0 3 a0 w λc w=>bk R .eql 3 false true c (.int .i64 5) w λd w=>k1 d w) (k1 undef w)) (λe w=>bq R a e (.bool false) w λb w=>J1 (λk2=>Gd b true (lF R 47 3 9 a0 w λf w=>cf R 177 #[f] w λg w=>k2 g w) (k2 undef w)) (λh w=>bq R b h (.bool false) w λi w=>cu R i w))
theorem Vc:dc 124 Nr:=λh=>cw [] func124 h
theorem CU:bZ 124:=db func124
def Ns(R:ER)(a0 a1:Va)(w:Wd):Prop:=
 L1 (.int .i64 0) w (λg1 a w=>cr R 44 a1 w λc w=>bk R .lss 3 false false a c w λb w=>J1 (λk1=>Gd b true (lF R 67 2 23 a0 w λd w=>bk R .eql 23 false true d (.int .i64 0) w λe w=>k1 e w) (k1 undef w)) (λf w=>bq R b f (.bool false) w λg w=>If g (J0 (λk2=>bk R .gtr 3 false true a (.int .i64 0) w λh w=>If h (cf R 45 #[a0,(.string ⟨#[44,32]⟩)] w λm w=>k2 w) (k2 w)) (λw=>cb R 44 a1 a w λi w=>bg R 41 i w λj w=>cf R 78 #[a0,j] w λn w=>bk R .add 3 false true a (.int .i64 1) w λl w=>g1 l w)) (cu R (.tuple #[]) w)))
theorem Vd:dd 125 Ns:=λh=>cw [] func125 h
theorem Nt:bZ 125:=db func125
def Nu(R:ER)(a0 a1 a2:Va)(w:Wd):Prop:=
 J0 (λk1=>If a2 (cf R 45 #[a0,(.string ⟨#[40]⟩)] w λa w=>k1 w) (k1 w)) (λw=>cf R 78 #[a0,a1] w λb w=>If a2 (cf R 45 #[a0,(.string ⟨#[41]⟩)] w λc w=>cu R (.tuple #[]) w) (cu R (.tuple #[]) w))
theorem Ve:de 126 Nu:=λh=>cw [] func126 h
theorem rz:bZ 126:=db func126
def Nv(R:ER)(a0 a1:Va)(w:Wd):Prop:=
 lF R 47 3 9 a1 w λg w=>cf R 178 #[g] w λa w=>lF R 47 3 9 a1 w λh w=>bk R .eql 9 false true h (.string ⟨#[46,46]⟩) w λd w=>∃S1:WP,S1 w.drew/\xF S1 47 4 41 a1 λi=>xF S1 47 4 41 a1 λj=>cf R 179 #[j] w.drew λl w=>S1 w/\xw t0 (Bo .lss 3 false false l a) λb=>J1 (λk1=>Gd b false (k1 d w) (k1 undef w)) (λe w=>J1 (λk2=>Gd e true (xF S1 47 4 41 a1 λm=>cf R 179 #[m] w λn w=>S1 w/\xw t0 (Bo .eql 3 false false n a) λo=>k2 o w) (k2 undef w)) (λp w=>J1 (λk3=>Gd b false (xw t0 (Pk e p (.bool false)) λq=>k3 q w) (k3 undef w)) (λr w=>xw t0 (Pk b (.bool true) r) λs=>cf R 126 #[a0,i,s] w λb8 w=>cf R 45 #[a0,(.string ⟨#[32]⟩)] w λb9 w=>lF R 47 3 9 a1 w λt w=>cf R 45 #[a0,t] w λc2 w=>cf R 45 #[a0,(.string ⟨#[32]⟩)] w λc3 w=>∃S2:WP,S2 w.drew/\xF S2 47 5 41 a1 λu=>xF S2 47 5 41 a1 λv=>cf R 179 #[v] w.drew λx w=>S2 w/\xw t0 (Bo .lss 3 false false x a) λc=>J1 (λk4=>Gd c false (xw t0 (Op.unary .not d) λy=>k4 y w) (k4 undef w)) (λf w=>J1 (λk5=>Gd f true (xF S2 47 5 41 a1 λz=>cf R 179 #[z] w λb2 w=>S2 w/\xw t0 (Bo .eql 3 false false b2 a) λb3=>k5 b3 w) (k5 undef w)) (λb4 w=>J1 (λk6=>Gd c false (xw t0 (Pk f b4 (.bool false)) λb5=>k6 b5 w) (k6 undef w)) (λb6 w=>xw t0 (Pk c (.bool true) b6) λb7=>cf R 126 #[a0,u,b7] w λc4 w=>cu R (.tuple #[]) w))))))
theorem Vf:dd 127 Nv:=λh=>cw [2,6] func127 h
theorem Nw:bZ 127:=db func127
def Nx(R:ER)(a0 a1:Va)(w:Wd):Prop:=
 ∃S1:WP,S1 w.drew/\xF S1 47 6 44 a1 λc=>xw S1 (len_ #[44] 3 #[c]) λd=>xF S1 47 7 44 a1 λe=>xw S1 (len_ #[44] 3 #[e]) λf=>xw t0 (Bo .neq 3 false false d f) λg=>If g (cf R 75 #[a0,(.int .i64 2)] w.drew λx w=>cu R (.tuple #[]) w) (cf R 45 #[a0,(.string ⟨#[123]⟩)] w.drew λy w=>L1 (.int .i64 0) w (λg1 a w=>lF R 47 7 44 a1 w λh w=>cr R 44 h w λi w=>bk R .lss 3 false false a i w λb w=>J1 (λk1=>Gd b true (lF R 67 2 23 a0 w λj w=>bk R .eql 23 false true j (.int .i64 0) w λl w=>k1 l w) (k1 undef w)) (λm w=>bq R b m (.bool false) w λn w=>If n (J0 (λk2=>bk R .gtr 3 false true a (.int .i64 0) w λo w=>If o (cf R 45 #[a0,(.string ⟨#[44,32]⟩)] w λz w=>k2 w) (k2 w)) (λw=>∃S2:WP,S2 w.drew/\xF S2 47 6 44 a1 λp=>xw t0 (indexAt 44 p a) λq=>xw S2 (loadAt 41 q) λr=>xF S2 47 7 44 a1 λs=>xw t0 (indexAt 44 s a) λt=>xw S2 (loadAt 41 t) λu=>cf R 180 #[a0,r,u] w.drew λb2 w=>bk R .add 3 false true a (.int .i64 1) w λv w=>g1 v w)) (cf R 45 #[a0,(.string ⟨#[125]⟩)] w λb3 w=>cu R (.tuple #[]) w))))
theorem Vg:dd 128 Nx:=λh=>cw [0,8] func128 h
theorem Ny:bZ 128:=db func128
def Nz(R:ER)(a0:Va)(w:Wd):Prop:=
 cr R 9 a0 w λn w=>bk R .lss 3 false true n (.int .i64 1) w λf w=>J1 (λk1=>Gd f false (cr R 9 a0 w λo w=>bk R .gtr 3 false true o (.int .i64 24) w λp w=>k1 p w) (k1 undef w)) (λq w=>bq R f (.bool true) q w λb w=>J1 (λk2=>Gd b false (bz R 9 a0 (.int .i64 0) w λr w=>bk R .geq 5 false true r (.int .u8 48) w λs w=>k2 s w) (k2 undef w)) (λg w=>J1 (λk3=>Gd g true (bz R 9 a0 (.int .i64 0) w λt w=>bk R .leq 5 false true t (.int .u8 57) w λu w=>k3 u w) (k3 undef w)) (λv w=>J1 (λk4=>Gd b false (bq R g v (.bool false) w λx w=>k4 x w) (k4 undef w)) (λy w=>bq R b (.bool true) y w λh w=>J1 (λk5=>Gd h false (cf R 131 #[a0] w λz w=>k5 z w) (k5 undef w)) (λb2 w=>bq R h (.bool true) b2 w λb3 w=>If b3 (cu R (.bool false) w) (L2 (.bool false) (.int .i64 0) w (λg1 b4 c w=>cr R 9 a0 w λb5 w=>bk R .lss 3 false false c b5 w λb6 w=>If b6 (bz R 9 a0 c w λa w=>bk R .geq 5 false true a (.int .u8 97) w λi w=>J1 (λk6=>Gd i true (bk R .leq 5 false true a (.int .u8 122) w λb7 w=>k6 b7 w) (k6 undef w)) (λb8 w=>bq R i b8 (.bool false) w λd w=>J1 (λk7=>Gd d false (bk R .geq 5 false true a (.int .u8 65) w λb9 w=>k7 b9 w) (k7 undef w)) (λj w=>J1 (λk8=>Gd j true (bk R .leq 5 false true a (.int .u8 90) w λc2 w=>k8 c2 w) (k8 undef w)) (λc3 w=>J1 (λk9=>Gd d false (bq R j c3 (.bool false) w λc4 w=>k9 c4 w) (k9 undef w)) (λc5 w=>bq R d (.bool true) c5 w λl w=>J1 (λqd=>Gd l false (bk R .eql 5 false true a (.int .u8 95) w λc6 w=>qd c6 w) (qd undef w)) (λc7 w=>bq R l (.bool true) c7 w λe w=>J1 (λoI=>Gd e false (bk R .geq 5 false true a (.int .u8 48) w λc8 w=>oI c8 w) (oI undef w)) (λm w=>J1 (λqf=>Gd m true (bk R .leq 5 false true a (.int .u8 57) w λc9 w=>qf c9 w) (qf undef w)) (λd2 w=>J1 (λBx=>Gd e false (bq R m d2 (.bool false) w λd3 w=>Bx d3 w) (Bx undef w)) (λd4 w=>bq R e (.bool true) d4 w λd5 w=>cg R .not d5 w λd6 w=>If d6 (cu R (.bool false) w) (bk R .add 3 false true c (.int .i64 1) w λd7 w=>g1 b4 d7 w)))))))))) (cu R (.bool true) w))))))))
theorem Vh:dc 177 Nz:=λh=>cw [] func177 h
theorem NA:bZ 177:=db func177
def NB(R:ER)(a0:Va)(w:Wd):Prop:=
 bk R .eql 41 false true a0 (.pointer none) w λa w=>If a (cu R (.int .i64 100) w) (lF R 47 0 3 a0 w λb w=>bk R .eql 3 false true b (.int .i64 11) w λc w=>If c (lF R 47 3 9 a0 w λd w=>cf R 178 #[d] w λe w=>cu R e w) (lF R 47 0 3 a0 w λf w=>bk R .eql 3 false true f (.int .i64 10) w λg w=>If g (cu R (.int .i64 50) w) (cu R (.int .i64 100) w)))
theorem Vi:dc 179 NB:=λh=>cw [] func179 h
theorem ug:bZ 179:=db func179
def NC(R:ER)(a0 a1 a2:Va)(w:Wd):Prop:=
 J0 (λk1=>cf R 124 #[a1] w λa w=>If a (cf R 76 #[a0] w λd w=>lF R 47 3 9 a1 w λb w=>cf R 45 #[a0,b] w λe w=>cf R 45 #[a0,(.string ⟨#[32,61,32]⟩)] w λf w=>k1 w) (bk R .neq 41 false true a1 (.pointer none) w λc w=>If c (cf R 45 #[a0,(.string ⟨#[91]⟩)] w λg w=>cf R 78 #[a0,a1] w λh w=>cf R 45 #[a0,(.string ⟨#[93,32,61,32]⟩)] w λi w=>k1 w) (k1 w))) (λw=>cf R 78 #[a0,a2] w λj w=>cu R (.tuple #[]) w)
theorem Vj:de 180 NC:=λh=>cw [] func180 h
theorem ND:bZ 180:=db func180
theorem Vk(w:Wd)(s:By):Calls prog 177 #[str s] w (aZ (λv w'=>v=.bool (nO s)/\aD [] w w') NP):=by
 refine Vh ?_;unfold Nz;refine V1.i ah ?_;refine V1.i (iE _ _ _ _) ?_;refine J1.gd (c:=false) (decide ((24:Int)<(s.length:Int))) (λ_ k hk=>V1.i (eX _ _ _) (V1.i (sT _ _ _ _) hk)) ?_;refine V1.i (fm _ _ _) ?_;rcases s with _|⟨c,l⟩
 .refine J1.go (Gd.tf (J1.go (Gd.u (J1.go (Gd.tf ?_)))));refine V1.bt am ?_;refine J1.go (Gd.tf ?_);refine V1.bt am ?_;exact If.t ⟨rfl,aD.refl _ _⟩
 rw[show(decide ((((c::l).length:Nat):Int)<1)||decide ((24:Int)<(((c::l).length:Nat):Int)))=decide (24<(c::l).length)by
  rw[Bool.eq_iff_iff];simp;omega]
 have h0:∀{R:ER}{w:Wd}{k:VK},k (.int .u8 c.toNat) w->v1 R (Instr.index 9 (str (c::l)) (.int .i64 0)) w k:=λhk=>V1.i (dL _ (c::l) 0 ak) hk;refine qS (λ_ k hk=>h0 (V1.i (AN _ _ _) hk)) (λ_ _ k hk=>h0 (V1.i (AO _ _ _) hk)) ?_;rw[mT];refine J1.cut (λv w'=>v=(if(decide (24<(c::l).length)||bW.contains c)=false then .bool (gx (c::l))else undef)/\aD [] w w') ?_ ?_
 .refine Gd.b (λh=>?_) (λh=>?_)
  .refine CC (c131 w (c::l)) ?_ (NP.no (e:=_));rintro _ w1 ⟨rfl,K1⟩;exact⟨by rw[if_pos h],K1⟩
  .exact⟨by rw[if_neg (by rw[h];simp)],aD.refl _ _⟩
 rintro _ w1 ⟨rfl,K1⟩;refine V1.i (fm _ _ _) ?_;have hn:nO (c::l)=(!(decide (24<(c::l).length)||bW.contains c||gx (c::l))&&(c::l).all (λc=>(di++bW).contains c)):=by
  unfold nO;rw[Bool.eq_iff_iff];simp only[List.headD_cons,and_eq_true,not_eq_true',or_eq_false_iff,decide_eq_true_eq,decide_eq_false_iff_not];constructor
  .rintro⟨⟨⟨⟨h1,h2⟩,h3⟩,h4⟩,h5⟩;exact⟨⟨⟨by omega,h5⟩,h3⟩,h4⟩
  .rintro⟨⟨⟨h1,h2⟩,h3⟩,h4⟩;exact⟨⟨⟨⟨by rfl,by omega⟩,h3⟩,h4⟩,h2⟩
 rw[hn]
 cases hb:(decide (24<(c::l).length)||bW.contains c||gx (c::l))with
 |true=>exact If.t ⟨rfl,K1⟩
 |false=>
  refine If.f ?_;simp only[Bool.not_false,Bool.true_and];have hlen:(c::l).length<=24:=by
   simp only[or_eq_false_iff,decide_eq_false_iff_not]at hb;omega
  clear hb hn h0;generalize c::l=s at hlen⊢;refine L2.i (λx y w'=>w'=w1/\∃i:Nat,y=.int .i64 i/\i<=s.length/\s.all (λc=>(di++bW).contains c)=(s.drop i).all (λc=>(di++bW).contains c)) (λx y _=>match y with|.int _ n=>s.length-n.toNat|_=>0) ⟨rfl,0,rfl,by omega,rfl⟩ ?_;rintro x y w' ⟨rfl,i,rfl,hi,he⟩;refine V1.i (eX _ _ _) ?_;refine V1.i (iE _ _ _ _) ?_;by_cases bO:i<s.length
  rotate_left
  .obtain rfl:i=s.length:=by omega
   rw[show decide ((s.length:Int)<(s.length:Int))=false by simp];exact If.f ⟨by rw[he,List.drop_length];rfl,K1⟩
  rw[show decide ((i:Int)<(s.length:Int))=true by simp;omega];rw[drop_eq_getElem_cons bO,List.all_cons]at he;refine If.t (V1.i (dL _ s i bO) ?_);generalize s[i]=c at he⊢;refine V1.i (AN _ _ _) ?_;refine J1.gd (c:=true) _ (λ_ k hk=>V1.i (AO _ _ _) hk) ?_;refine V1.i (fP _ _ _) ?_;refine qS (λ_ k hk=>V1.i (AN _ _ _) hk) (λ_ _ k hk=>V1.i (AO _ _ _) hk) ?_;refine J1.gd (c:=false) _ (λ_ k hk=>V1.i (lA _ _ _) hk) ?_;refine V1.i (fm _ _ _) ?_;rw[qR];refine qS (λ_ k hk=>V1.i (AN _ _ _) hk) (λ_ _ k hk=>V1.i (AO _ _ _) hk) ?_;rw[mT,←jW]
  cases hc:(di++bW).contains c with
  |false=>
   rw[hc]at he;refine V1.bt am ?_;exact If.t ⟨by rw[he];rfl,K1⟩
  |true=>
   rw[hc]at he;refine V1.bf am ?_;refine If.f ?_;refine V1.i (cC _ _ _ _ _ _ aj aj) ?_;exact⟨⟨rfl,i+1,by simp,by omega,by rw[he,Bool.true_and]⟩,by simp;omega⟩
end Go.Proofs.YtoddjlclpnoomaaGreatDoor
namespace Go.Proofs.YtoddjlclpnoomaaGreatDoor
open Go.Sh
set_option maxRecDepth 100000
structure WX(lo:Nat)(w:Wd)(b:Nat)(r:PR)(B:Nat):Prop where
 ex:∃(v:Va) (q:Nat) (e:Int) (buf:By),At w b [v,.int .i64 q,.int .i64 e]/\dK lo w v buf/\(v=.slice none 0 0\/buf≠[])/\(∀g,v.ownBlock=some g->g≠b)/\q<=B/\(∀bf p,r=.ok bf p->e=0/\buf=bf/\q=p)/\(∀c,r=.fail c->e=c/\c≠0)
 no:r≠.bH
 hb:lo<=b
 eQ:lo<=w.heap.size
 len:∀bf p,r=.ok bf p->bf.length<=32768/\p<=65536
structure iW(lo:Nat)(w w':Wd):Prop where
 size:w.heap.size<=w'.heap.size
 same:∀i,i<lo->w'.heap[i]?=w.heap[i]?
 io:w'.os=w.os/\w'.output=w.output
def Fo(lo q:Nat):Prop:=q<lo
section
variable {lo b B:Nat}{w w' w0:Wd}{r:PR}
theorem iW.refl:iW lo w w:=⟨le_refl _,λ_ _=>rfl,rfl,rfl⟩
theorem iW.trans{w2:Wd}(h:iW lo w w')(h2:iW lo w' w2):iW lo w w2:=⟨le_trans h.size h2.size,λi hi=>(h2.same i hi).trans (h.same i hi),h2.io.1.trans h.io.1,h2.io.2.trans h.io.2⟩
theorem iW.of{M:List Nat}(h:aD M w w')(eQ:lo<=w.heap.size)(hM:∀i∈M,lo<=i):iW lo w w':=⟨h.size,λi hi=>h.same i aj (λhm=>by have:=hM i hm;omega),h.io⟩
theorem iW.aA(h:iW lo w w'):aD (List.range' lo w.heap.size) w w':=⟨h.size,λi hi hm=>h.same i (by
 rcases lt_or_ge i lo with h|h
 .exact h
 .exact absurd (List.mem_range'.2 ⟨i-lo,by omega,by omega⟩) hm),h.io⟩
theorem iW.rep{t:Tr}{m:Md}(h:iW lo w w')(hr:aU (Fo lo) w t m):aU (Fo lo) w' t m:=
 aU.aA h.aA (λq hq bO=>⟨λhm=>by
  obtain⟨i,hi,e⟩:=List.mem_range'.1 hm;unfold Fo at hq;omega,hq⟩) _ _ hr
theorem iW.at{q:Nat}{cs:LV}(h:iW lo w w')(ha:At w q cs)(hq:q<lo):At w' q cs:=h.aA.at ha (λhm=>by
 obtain⟨i,hi,e⟩:=List.mem_range'.1 hm;omega)
theorem iW.cell{a:Addr}{v:Va}(h:iW lo w w')(ha:w.cell? a=some v)(hq:a.block<lo):w'.cell? a=some v:=h.aA.cell ha (λhm=>by
 obtain⟨i,hi,e⟩:=List.mem_range'.1 hm;omega)
structure WC(w0 w:Wd)(lo b:Nat)(r:PR)(B:Nat):Prop where
 wx:WX lo w b r B
 kl:iW lo w0 w
theorem WC.mk'(h:WX lo w b r B):WC w w lo b r B:=⟨h,iW.refl⟩
theorem WX.new(h:WX lo w b r B)(K:aD [] w w'):WX lo w' b r B:=by
 obtain⟨⟨v,q,e,buf,h1,h2,h3⟩,h4,h5,h6,h7⟩:=h;exact⟨⟨v,q,e,buf,K.at h1 ak,h2.fr K ak,h3⟩,h4,h5,by have:=K.size;omega,h7⟩
theorem WC.c0(c:WC w0 w lo b r B)(K:aD [] w w'):WC w0 w' lo b r B:=⟨c.wx.new K,c.kl.trans (iW.of K c.wx.eQ ak)⟩
theorem WC.lf{R:ER}{s f t q:Nat}{cs:LV}{v:Va}{k:VK}(c:WC w0 w lo b r B)(aT:At w0 q cs)(hq:q<lo)(hk:k v w)(hv:cs[f]?=some v:=by exact rfl)(h1:xY s f=true:=by exact rfl)(h2:dT t=true:=by exact rfl):lF R s f t (.pointer (some ⟨q,0,none⟩)) w k:=
 lF.i (c.kl.at aT hq) hk hv h1 h2
theorem mf{v:Va}{buf:By}{cs:LV}(acc:dK lo w v buf)(U:tB w b cs w')(aI:∀g,v.ownBlock=some g->g≠b):dK lo w' v buf:=⟨gH acc.1 U.aA λg hg hm=>aI g hg (by simpa using hm),acc.2⟩
def PR.NF(c:Int):PR->PR
 |.ok _ _=>.fail c
 |r=>r
theorem c75(cd:Int)(Fx:cd≠0)(h:WX lo w b r B):Calls prog 75 #[ptr b,.int .i64 cd] w (aZ (λ_ w'=>WX lo w' b (r.NF cd) B/\iW lo w w') NP):=by
 refine XT ?_;unfold UY;obtain⟨⟨v,q,e,buf,a,acc,hv,aI,hq,ho,hf⟩,gP,hb,eQ,hlen⟩:=h;refine lF.i a ?_;refine V1.i (v:=.bool (e==0)) (w':=w) (by simp[go_sem,Bo]) ?_
 cases r with
 |bH=>exact absurd rfl gP
 |ok bf p=>
  obtain⟨rfl,rfl,rfl⟩:=ho _ _ rfl;refine If.t (sF.i a λw1 U=>?_);refine⟨⟨⟨v,q,cd,buf,U.at_,mf acc U aI,hv,aI,hq,λ_ _ h=>(by cases h),λc h=>?_⟩,PR.noConfusion,hb,?_,λ_ _ h=>by cases h⟩,iW.of U.aA eQ (by simpa using hb)⟩
  .injection h with h;exact⟨h,h▸Fx⟩
  .have:=U.size;omega
 |fail c=>
  obtain⟨rfl,hc⟩:=hf _ rfl;rw[show(e==0)=false by simpa using hc];exact If.f ⟨⟨⟨v,q,e,buf,a,acc,hv,aI,hq,ho,hf⟩,gP,hb,eQ,hlen⟩,iW.refl⟩
theorem OV(s:By)(h:WX lo w b r B):Calls prog 45 #[ptr b,str s] w (aZ (λ_ w'=>WX lo w' b (r.bind (aM [s])) B/\iW lo w w') NP):=by
 refine s45 ?_;unfold XS;have hx:=h;obtain⟨⟨v,q,e,buf,a,acc,hv,aI,hq,ho,hf⟩,gP,hb,eQ,hlen⟩:=h;refine lF.i a ?_;refine V1.i (v:=.bool (!(e==0))) (w':=w) (by simp[go_sem,Bo];rfl) ?_
 cases r with
 |bH=>exact absurd rfl gP
 |fail c=>
  obtain⟨rfl,hc⟩:=hf _ rfl;rw[show(e==0)=false by simpa using hc];exact If.t ⟨hx,iW.refl⟩
 |ok bf p=>
 obtain⟨rfl,rfl,rfl⟩:=ho _ _ rfl;obtain⟨hl,hp⟩:=hlen _ _ rfl;refine If.f ?_;refine V1.i ah ?_;refine lF.i a ?_;obtain⟨va,vc,hvs⟩:=acc.sl;refine V1.i (v:=.int .i64 (buf.length:Nat)) (w':=w) (by rw[hvs];simp[go_sem]) ?_;refine V1.i (v:=.int .i64 (32768-(buf.length:Nat):Int)) (w':=w) (by rw[jK _ _ _ _ _ _ aj aj]) ?_;refine V1.i (v:=.bool (decide (32768-(buf.length:Int)<s.length))) (w':=w) am ?_;have NG:(PR.ok buf q).bind (aM [s])=if s.length+buf.length<=32768 then .ok (buf++s) q else .fail 3:=by
  by_cases h:s.length+buf.length<=32768<;>simp[PR.bind,aM,nv,h]
 by_cases mW:s.length+buf.length<=32768
 .rw[show decide (32768-(buf.length:Int)<s.length)=false by simp;omega];refine If.f (lF.i a ?_);obtain⟨v',w1,fR,jP,Rm,K1,hg⟩:=wO acc hv s aj eQ;refine V1.i fR ?_;have a1:=K1.at a (λhm=>by simp at hm;exact aI b hm rfl);refine sF.i a1 (λw2 U=>?_) (by rcases jP.1.2 with⟨rfl,_⟩|⟨g,cap,cur,rfl,_⟩<;>rfl);have lb:=a.lt;have NH:∀g,v'.ownBlock=some g->g≠b:=λg hgo=>by
   rcases hg g hgo with h|h
   .exact aI g h
   .omega
  have KK1:=iW.of K1 eQ (λi hi=>by simp at hi;exact acc.2 i hi);have z1:=K1.size;have KK2:iW lo w1 w2:=iW.of U.aA aj (by simpa using hb);rw[NG,if_pos mW];refine⟨⟨⟨v',q,0,buf++s,U.at_,mf jP U NH,Rm,NH,hq,λbf p h=>?_,λc h=>by cases h⟩,PR.noConfusion,hb,by have:=U.size;omega,λbf p h=>?_⟩,KK1.trans KK2⟩
  .cases h;exact⟨rfl,rfl,rfl⟩
  .cases h;exact⟨by simp;omega,hp⟩
 .rw[show decide (32768-(buf.length:Int)<s.length)=true by simp;omega];refine If.t (Bg (c75 3 aj hx) ?_ (NP.no (e:=_)));rintro _ w1 ⟨h1,K1⟩;rw[NG,if_neg mW];exact⟨h1,K1⟩
theorem c76(hB:B<=1000000000000000)(h:WX lo w b r B):Calls prog 76 #[ptr b] w (aZ (λ_ w'=>WX lo w' b (r.bind eT) (B+1)/\iW lo w w') NP):=by
 refine s76 ?_;unfold XU;obtain⟨⟨v,q,e,buf,a,acc,hv,aI,hq,ho,hf⟩,gP,hb,eQ,hlen⟩:=h;refine lF.i a ?_;refine V1.i (cC _ _ _ _ _ _ aj aj) ?_;refine sF.i a λw1 U=>?_;have a1:At w1 b [v,.int .i64 ((q+1:Nat)),.int .i64 e]:=by
  have:=U.at_;simpa using this
 have K1:iW lo w w1:=iW.of U.aA eQ (by simpa using hb);have Fy:=mf acc U aI;have py:lo<=w1.heap.size:=by have:=U.size;omega
 refine lF.i a1 ?_;refine V1.i (v:=.bool (decide (65536<q+1))) (w':=w1) ax ?_
 cases r with
 |bH=>exact absurd rfl gP
 |fail c=>
  obtain⟨rfl,hc⟩:=hf _ rfl;have hx:WX lo w1 b (.fail e) (B+1):=⟨⟨v,q+1,e,buf,a1,Fy,hv,aI,by omega,λ_ _ h=>(by cases h),λc h=>by injection h with h;exact⟨h,h▸hc⟩⟩,PR.noConfusion,hb,py,λ_ _ h=>by cases h⟩;refine If.b (λ_=>?_) (λ_=>⟨hx,K1⟩);refine Bg (c75 3 aj hx) ?_ (NP.no (e:=_));rintro _ w2 ⟨h2,K2⟩;exact⟨h2,K1.trans K2⟩
 |ok bf p=>
  obtain⟨rfl,rfl,rfl⟩:=ho _ _ rfl;obtain⟨hl,hp⟩:=hlen _ _ rfl;have NI:(PR.ok buf q).bind eT=if q+1<=65536 then .ok buf (q+1)else .fail 3:=rfl
  rw[NI];by_cases mW:q+1<=65536
  .rw[show decide (65536<q+1)=false by simp;omega,if_pos mW];refine If.f ⟨⟨⟨v,q+1,0,buf,a1,Fy,hv,aI,by omega,λbf p h=>?_,λc h=>by cases h⟩,PR.noConfusion,hb,py,λbf p h=>?_⟩,K1⟩
   .cases h;exact⟨rfl,rfl,rfl⟩
   .cases h;exact⟨hl,mW⟩
  .rw[show decide (65536<q+1)=true by simp;omega,if_neg mW];refine If.t ?_;have h3:Calls prog 75 #[ptr b,.int .i64 3] w1 (aZ (λ_ w'=>WX lo w' b (.fail 3) (B+1)/\iW lo w1 w') NP):=by
    refine XT ?_;unfold UY;refine lF.i a1 ?_;refine V1.bt (by simp[go_sem,Bo]) ?_;refine If.t (sF.i a1 λw2 U2=>?_);refine⟨⟨⟨v,q+1,3,buf,U2.at_,mf Fy U2 aI,hv,aI,by omega,λ_ _ h=>(by cases h),λc h=>?_⟩,PR.noConfusion,hb,?_,λ_ _ h=>by cases h⟩,iW.of U2.aA py (by simpa using hb)⟩
    .injection h with h;exact⟨h,by omega⟩
    .have:=U2.size;omega
   refine Bg h3 ?_ (NP.no (e:=_));rintro _ w2 ⟨h2,K2⟩;exact⟨h2,K1.trans K2⟩
end
theorem pbind{r:PR}{f g:By->Nat->PR}:(r.bind f).bind g=r.bind λb p=>(f b p).bind g:=by cases r<;>rfl
theorem Bh{r:PR}{s:By}{l:LB}{f:By->Nat->PR}:r.bind (λb p=>(aM (s::l) b p).bind f)=(r.bind (aM [s])).bind λb p=>(aM l b p).bind f:=by
 cases r with
 |ok b p=>
  simp only[PR.bind,aM]
  cases h:nv s b p<;>rfl
 |fail c=>rfl
 |bH=>rfl
section
variable {lo b B:Nat}{w w0:Wd}{r σ:PR}{KK:VK}{e:EK}
theorem WC.put(s:By)(c:WC w0 w lo b σ B){f:By->Nat->PR}(hr:σ.bind (λb p=>(aM [s] b p).bind f)=r)
  (hk:∀v w' σ',WC w0 w' lo b σ' B->σ'.bind f=r->KK v w'):Cf prog 45 #[ptr b,str s] w KK e:=by
 refine Bf (OV s c.wx) ?_ (NP.no (e:=_));rintro v w' ⟨h,K⟩;exact hk v w' _ ⟨h,c.kl.trans K⟩ (by rw[pbind];exact hr)
theorem WC.iq(s:By)(c:WC w0 w lo b σ B)(hr:σ.bind (aM [s])=r)(hk:∀v w',WC w0 w' lo b r B->KK v w'):Cf prog 45 #[ptr b,str s] w KK e:=by
 refine Bf (OV s c.wx) ?_ (NP.no (e:=_));rintro v w' ⟨h,K⟩;exact hk v w' ⟨hr▸h,c.kl.trans K⟩
theorem WC.pD(s:By){l:LB}(c:WC w0 w lo b σ B){f:By->Nat->PR}(hr:σ.bind (λb p=>(aM (s::l) b p).bind f)=r)
  (hk:∀v w' σ',WC w0 w' lo b σ' B->σ'.bind (λb p=>(aM l b p).bind f)=r->KK v w'):Cf prog 45 #[ptr b,str s] w KK e:=by
 refine Bf (OV s c.wx) ?_ (NP.no (e:=_));rintro v w' ⟨h,K⟩;exact hk v w' _ ⟨h,c.kl.trans K⟩ (by rw[←Bh];exact hr)
theorem WC.part(hB:B<=1000000000000000)(c:WC w0 w lo b σ B){f:By->Nat->PR}(hr:σ.bind (λb p=>(eT b p).bind f)=r)
  (hk:∀v w' σ',WC w0 w' lo b σ' (B+1)->σ'.bind f=r->KK v w'):Cf prog 76 #[ptr b] w KK e:=by
 refine UZ (c76 hB c.wx) ?_ (NP.no (e:=_));rintro v w' ⟨h,K⟩;exact hk v w' _ ⟨h,c.kl.trans K⟩ (by rw[pbind];exact hr)
theorem WC.fail(cd:Int)(Fx:cd≠0)(c:WC w0 w lo b σ B)(hr:σ.bind (λ_ _=>.fail cd)=r)(hk:∀v w',WC w0 w' lo b r B->KK v w'):Cf prog 75 #[ptr b,.int .i64 cd] w KK e:=by
 refine Bg (c75 cd Fx c.wx) ?_ (NP.no (e:=_));rintro v w' ⟨h,K⟩;refine hk v w' ⟨?_,c.kl.trans K⟩;have gP:=c.wx.no
 cases σ with
 |ok bf p=>exact hr▸h
 |fail c=>exact hr▸h
 |bH=>exact absurd rfl gP
theorem WC.more{B':Nat}(c:WC w0 w lo b σ B)(h:B<=B'):WC w0 w lo b σ B':=by
 obtain⟨⟨⟨v,q,e,buf,a,acc,hv,aI,hq,ho⟩,h2,h3,h4,h5⟩,kl⟩:=c;exact⟨⟨⟨v,q,e,buf,a,acc,hv,aI,by omega,ho⟩,h2,h3,h4,h5⟩,kl⟩
end
end Go.Proofs.YtoddjlclpnoomaaGreatDoor

namespace Go.Proofs.YtoddjlclpnoomaaGreatDoor
open Go.Sh
set_option maxRecDepth 100000
def W0:Nat:=1000000000000
def WG(K:FuncId)(args:LV)(lo:Nat)(w0:Wd)(sz:Nat)(g:By->Nat->PR):Prop:=
 ∀(w:Wd) (b:Nat) (σ:PR) (B:Nat) (r:PR),WC w0 w lo b σ B->B+sz<=W0->σ.bind g=r->r≠.bH->Calls prog K (ptr b::args).toArray w (aZ (λ_ w'=>WC w0 w' lo b r (B+sz)) NP)
section
variable {lo b B:Nat}{w w0:Wd}{r σ:PR}{KK:VK}{e:EK}
theorem pne{g:By->Nat->PR}{f:By->Nat->PR}(hr:σ.bind (λb p=>(g b p).bind f)=r)(aI:r≠.bH):σ.bind g≠.bH:=by
 intro h;rw[←pbind,h]at hr;exact aI hr.symm
theorem WG.go{K:FuncId}{args:LV}{sz:Nat}{g f:By->Nat->PR}(H:WG K args lo w0 sz g)(AW:bZ K)(c:WC w0 w lo b σ B)(hB:B+sz<=W0)(hr:σ.bind (λb p=>(g b p).bind f)=r)(aI:r≠.bH)
  (hk:∀v w' σ',WC w0 w' lo b σ' (B+sz)->σ'.bind f=r->KK v w'):Cf prog K (ptr b::args).toArray w KK e:=by
 refine AW (H _ _ _ _ _ c hB rfl (pne hr aI)) ?_ (NP.no (e:=_));intro v w' h;exact hk v w' _ h (by rw[pbind];exact hr)
theorem WG.pE{K:FuncId}{args:LV}{sz:Nat}{g:By->Nat->PR}(H:WG K args lo w0 sz g)(AW:bZ K)(c:WC w0 w lo b σ B)(hB:B+sz<=W0)(hr:σ.bind g=r)(aI:r≠.bH)
  (hk:∀v w',WC w0 w' lo b r (B+sz)->KK v w'):Cf prog K (ptr b::args).toArray w KK e:=
 AW (H _ _ _ _ _ c hB hr aI) (λv w' h=>hk v w' h) (NP.no (e:=_))
theorem WC.CV{R:ER}{bf:By}{p:Nat}{k:VK}(c:WC w0 w lo b (.ok bf p) B)(hk:k (.int .i64 0) w):lF R 67 2 23 (ptr b) w k:=by
 obtain⟨v,q,e,buf,a,acc,hv,aI,hq,ho,hf⟩:=c.wx.ex;obtain⟨rfl,_⟩:=ho _ _ rfl;exact lF.i a hk
theorem WC.uh{R:ER}{cd:Int}{k:VK}(c:WC w0 w lo b (.fail cd) B)(hk:cd≠0->k (.int .i64 cd) w):lF R 67 2 23 (ptr b) w k:=by
 obtain⟨v,q,e,buf,a,acc,hv,aI,hq,ho,hf⟩:=c.wx.ex;obtain⟨rfl,hc⟩:=hf _ rfl;exact lF.i a (hk hc)
theorem WC.guard{R:ER}{m:Bool}{g:VK}(c:WC w0 w lo b σ B)(hg:g (.bool (m&&(match σ with|.ok _ _=>true|_=>false))) w):
  J1 (λk1=>Gd (.bool m) true (lF R 67 2 23 (ptr b) w λnz w=>v1 R (Bo .eql 23 false true nz (.int .i64 0)) w λnQ w=>k1 nQ w) (k1 undef w)) (λnQ w=>v1 R (Pk (.bool m) nQ (.bool false)) w g):=by
 refine J1.go ?_
 cases m with
 |false=>
  refine Gd.ft ?_;exact V1.bf am hg
 |true=>
  refine Gd.tt ?_;have gP:=c.wx.no
  cases σ with
  |bH=>exact absurd rfl gP
  |ok bf p=>
   refine c.CV ?_;refine V1.bt (by simp[go_sem,Bo]) ?_;exact V1.bt am hg
  |fail cd=>
   refine c.uh λFx=>?_;refine V1.bf (by simp[go_sem,Bo,Fx]) ?_;exact V1.bf am hg
theorem fg{n:Nat}{cl:Ef}(hr:σ.bind (bJ n cl)=r)(aI:r≠.bH):∃m,σ.bind (bJ (m+1) cl)=r:=by
 cases n with
 |succ m=>exact⟨m,hr⟩
 |zero=>
  refine⟨0,?_⟩
  cases σ with
  |ok b p=>exact absurd hr.symm aI
  |fail c=>exact hr
  |bH=>exact hr
end
structure WH:Prop where
 text:∀(w:Wd) (n:Int),i64 n=true->Calls prog 121 #[.int .i64 n] w (aZ (λv w'=>v=str (Lib.itoa n)/\aD [] w w') NP)
 quote:∀(w:Wd) (s:By),s.length<=32768->Calls prog 176 #[str s] w (aZ (λv w'=>v=str (oU s)/\aD [] w w') NP)
 name:∀(w:Wd) (s:By),Calls prog 177 #[str s] w (aZ (λv w'=>v=.bool (nO s)/\aD [] w w') NP)
structure ke(z:Nat):Prop where
 expr:∀{n lo:Nat}{w0:Wd}{t:Tr}{u:Va},tz t<=z->wf t 0=true->aU (Fo lo) w0 t (.P u)->WG 78 [u] lo w0 (tz t) (bJ n (.expr t))
 stmt:∀{n lo:Nat}{w0:Wd}{t:Tr}{u:Va},tz t<=z->wf t 2=true->aU (Fo lo) w0 t (.P u)->WG 44 [u] lo w0 (tz t) (bJ n (.stmt t))
 stmts:∀{n lo:Nat}{w0:Wd}{t:Tr}{u:Va},tz t<=z->wf t 3=true->aU (Fo lo) w0 t (.L u)->WG 24 [u] lo w0 (tz t) (bJ n (.stmts t))
 branch:∀{n lo:Nat}{w0:Wd}{k:Int}{nm:By}{l r t a b:Tr}{u:Va},tz (.st k nm l r t a b)<=z->wf (.st k nm l r t a b) 2=true->aU (Fo lo) w0 (.st k nm l r t a b) (.P u)->WG 80 [u] lo w0 (tz r+tz a+tz b+1) (bJ n (.branch r a b))
section
variable {z n lo:Nat}{w0:Wd}
theorem yL(H:ke z){t:Tr}{u:Va}(hz:tz t<=z)(hw:wf t 0=true)(hR:aU (Fo lo) w0 t (.P u))(ar:Bool):WG 126 [u,.bool ar] lo w0 (tz t) (bJ n (.inner t ar)):=by
 intro w b σ B r c hB hr aI;refine Ve ?_;unfold Nu;obtain⟨m,hr⟩:=fg hr aI;refine J0.go ?_
 cases ar with
 |false=>
  refine If.f ?_;exact(H.expr (n:=m) hz hw hR).pE j0 c hB hr aI λ_ w1 c=>If.f c
 |true=>
  have hr:σ.bind (λb p=>(aM [[40]] b p).bind λb p=>(bJ m (.expr t) b p).bind λb p=>aM [[41]] b p)=r:=hr;refine If.t (c.put [40] hr λ_ w1 σ1 c hr=>?_);refine(H.expr (n:=m) hz hw hR).go j0 c hB hr aI λ_ w2 σ2 c hr=>?_;exact If.t (c.iq [41] hr λ_ w3 c=>c)
theorem X0(H:ke z){t:Tr}{u:Va}(q:By)(hz:tz t<=z)(hw:wf t 0=true)(hR:aU (Fo lo) w0 t (.P u)):WG 77 [str q,u] lo w0 (tz t) (bJ n (.more q t)):=by
 intro w b σ B r c hB hr aI;refine s77 ?_;unfold XV;obtain⟨m,hr⟩:=fg hr aI;rcases bM hw with rfl|⟨k,nn,x,l,rr,ks,gs,ps,bd,rfl⟩
 .obtain rfl:u=.pointer none:=hR;refine V1.bf am ?_;have hr:σ.bind (λb p=>.ok b p)=r:=hr;have:r=σ:=by rw[←hr];cases σ<;>rfl
  subst this;exact If.f (c.more aj)
 .obtain⟨q2,line,lv,rv,kv,av,pv,bv,rfl,_⟩:=id hR;refine V1.bt (by simp[go_sem,ptr]) ?_;have hr:σ.bind (λb p=>(aM [q] b p).bind λb p=>bJ m (.expr (.ex k nn x l rr ks gs ps bd)) b p)=r:=hr;refine If.t (c.put q hr λ_ w1 σ1 c hr=>?_);exact(H.expr (n:=m) hz hw hR).pE j0 c hB hr aI λ_ w1 c=>c
theorem CW(H:ke z){t:Tr}{u:Va}(hz:tz t<=z)(hw:wf t 3=true)(hR:aU (Fo lo) w0 t (.L u)):WG 79 [u] lo w0 (tz t) (bJ n (.block t)):=by
 intro w b σ B r c hB hr aI;refine s79 ?_;unfold XX;obtain⟨m,hr⟩:=fg hr aI;have hr:σ.bind (λb p=>(aM [[10]] b p).bind λb p=>bJ m (.stmts t) b p)=r:=hr;refine c.put [10] hr λ_ w1 σ1 c hr=>?_;exact(H.stmts (n:=m) hz hw hR).pE Ni c hB hr aI λ_ w1 c=>c
end
end Go.Proofs.YtoddjlclpnoomaaGreatDoor


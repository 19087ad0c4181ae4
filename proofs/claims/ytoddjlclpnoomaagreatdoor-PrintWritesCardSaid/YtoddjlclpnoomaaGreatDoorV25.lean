import Derived.Test.YtoddjlclpnoomaaGreatDoorV24
set_option linter.unusedVariables false
set_option linter.unusedSimpArgs false
set_option maxRecDepth 100000
open Go.Proofs.Tryz
open Go.Instr (loadAt sliceAt fieldAt indexAt)
open List (length_cons toList_toArray)
open Nat (le_of_ble_eq_true le_trans)
open Go.Builtin (append_ min_)
open Bool (and_eq_true)
namespace Go.Proofs.YtoddjlclpnoomaaGreatDoor
open Go.Sh
def S3(R:ER)(a0:Va)(w:Wd):Prop:=
 cf R 10 #[a0] w λe w=>cf R 9 #[e] w λa w=>bz R a 0 w λf w=>bz R a 1 w λg w=>cf R 10 #[a0] w λh w=>cf R 11 #[h] w λb w=>bz R b 0 w λi w=>bz R b 1 w λj w=>bq R .eql 9 false false f i w λc w=>J1 (λk1=>Gd c true (bq R .eql 23 false false g j w λl w=>k1 l w) (k1 undef w)) (λm w=>bu R c m (.bool false) w λd w=>J1 (λk2=>Gd d true (cf R 12 #[] w λn w=>k2 n w) (k2 undef w)) (λo w=>bu R d o (.bool false) w λp w=>cz R p w))
theorem s3:de 3 S3:=λh=>db [] func3 h
def BT(R:ER)(a0:Va)(w:Wd):Prop:=
 cw R 22 a0 w λa w=>v1 R (min_ #[3,3] 3 #[a,(.int .i64 400)]) w λb w=>v1 R (sliceAt 22 a0 none (some b) none) w λc w=>cg R 63 #[(0,c)] w λd w=>cj R 63 d w λe w=>cf R 23 #[e,(.int .i64 6)] w λf w=>cz R f w
theorem Oo:de 10 BT:=λh=>db [] func10 h
theorem Oq:bZ 10:=dd func10
def S12(R:ER)(w:Wd):Prop:=
 cf R 16 #[(.string ⟨#[97,61,49,43,50,42,51,32,98,32,61,32,40,49,43,50,41,42,51]⟩)] w λb w=>bq R .eql 9 false true b (.string ⟨#[97,32,61,32,49,32,43,32,50,32,42,32,51,10,98,32,61,32,40,49,32,43,32,50,41,32,42,32,51,10]⟩) w λa w=>J1 (λk1=>Gd a true (cf R 16 #[(.string ⟨#[116,91,34,120,34,93,61,45,40,45,49,41,32,116,91,34,101,110,100,34,93,61,110,111,116,32,40,97,61,61,98,41]⟩)] w λc w=>bq R .eql 9 false true c (.string ⟨#[116,46,120,32,61,32,45,32,45,32,49,10,116,91,34,101,110,100,34,93,32,61,32,110,111,116,32,40,97,32,61,61,32,98,41,10]⟩) w λd w=>k1 d w) (k1 undef w)) (λe w=>bu R a e (.bool false) w λf w=>cz R f w)
theorem Ot:dh 12 S12:=λh=>db [] func12 h
theorem WD:bZ 12:=dd func12
def S16(R:ER)(a0:Va)(w:Wd):Prop:=
 cf R 13 #[a0] w λa w=>bz R a 0 w λc w=>bz R a 1 w λd w=>bq R .neq 31 false true d .nilIface w λe w=>If e (cz R (.string ⟨#[]⟩) w) (cf R 9 #[c] w λb w=>bz R b 0 w λf w=>bz R b 1 w λg w=>cz R f w)
theorem s16:de 16 S16:=λh=>db [] func16 h
theorem Ou:bZ 16:=dd func16
def S23(R:ER)(a0 a1:Va)(w:Wd):Prop:=
 cf R 42 #[a0,(.int .i64 4)] w λg w=>L2 (.slice none 0 0) g w (λg1 b c w=>bq R .gtr 3 false true c (.int .i64 0) w λh w=>If h (cm R a0 w λi w=>bk R 63 i 1 w λj w=>bi R 3 j w λl w=>bq R .add 3 false true l (.int .i64 1) w λm w=>cm R a0 w λn w=>bk R 63 n 1 w λo w=>bj R 3 o m w λw=>cf R 42 #[a0,(.int .i64 11)] w λp w=>bq R .add 3 true false (.int .i64 1) p w λq w=>cf R 42 #[a0,(.int .i64 9)] w λr w=>cg R 43 #[(0,q),(1,r)] w λs w=>cj R 43 s w λa w=>J0 (λk1=>cm R a w λt w=>bk R 43 t 0 w λu w=>bi R 3 u w λv w=>bq R .eql 3 false true v (.int .i64 8) w λd w=>J1 (λk2=>Gd d true (bq R .gtr 3 false true c (.int .i64 1) w λx w=>k2 x w) (k2 undef w)) (λy w=>bu R d y (.bool false) w λe w=>J1 (λk3=>Gd e true (cf R 42 #[a0,(.int .i64 9)] w λz w=>bq R .lss 3 false true z (.int .i64 8) w λb2 w=>k3 b2 w) (k3 undef w)) (λb3 w=>bu R e b3 (.bool false) w λb4 w=>If b4 (cm R a w λb5 w=>bk R 43 b5 0 w λb6 w=>bj R 3 b6 (.int .i64 9) w λw=>k1 w) (k1 w)))) (λw=>J0 (λk4=>bq R .lss 3 false true a1 (.int .i64 1) w λf w=>J1 (λk5=>Gd f false (cm R a0 w λb7 w=>bk R 63 b7 1 w λb8 w=>bi R 3 b8 w λb9 w=>bq R .gtr 3 false true b9 (.int .i64 300) w λc2 w=>k5 c2 w) (k5 undef w)) (λc3 w=>bu R f (.bool true) c3 w λc4 w=>If c4 (cm R a w λc5 w=>bk R 43 c5 0 w λc6 w=>bj R 3 c6 (.int .i64 9) w λw=>k4 w) (k4 w))) (λw=>bq R .sub 3 false true a1 (.int .i64 1) w λc7 w=>cf R 43 #[a0,a,c7] w λe5 w=>J0 (λk6=>cf R 42 #[a0,(.int .i64 60)] w λc8 w=>bq R .eql 3 false true c8 (.int .i64 59) w λc9 w=>If c9 (cf R 42 #[a0,(.int .i64 14)] w λd2 w=>cm R a w λd3 w=>bk R 43 d3 0 w λd4 w=>bj R 3 d4 d2 w λw=>k6 w) (k6 w)) (λw=>bw R 26 1 #[(0,a)] w λd5 w=>v1 R (append_ #[26,26] 26 #[b,d5]) w λd6 w=>bq R .sub 3 false true c (.int .i64 1) w λd7 w=>g1 d6 d7 w)))) (J1 (λk7=>cf R 42 #[a0,(.int .i64 120)] w λd8 w=>bq R .eql 3 false true d8 (.int .i64 119) w λd9 w=>If d9 (bw R 26 1 #[(0,(.pointer none))] w λe2 w=>v1 R (append_ #[26,26] 26 #[b,e2]) w λe3 w=>k7 e3 w) (k7 b w)) (λe4 w=>cz R e4 w)))
theorem s23:df 23 S23:=λh=>db [] func23 h
theorem oL:bZ 23:=dd func23
def S42(R:ER)(a0 a1:Va)(w:Wd):Prop:=
 cm R a0 w λa w=>bk R 63 a 0 w λb w=>bi R 22 b w λc w=>cw R 22 c w λd w=>bq R .eql 3 false true d (.int .i64 0) w λe w=>If e (cz R (.int .i64 0) w) (cm R a0 w λf w=>bk R 63 f 0 w λg w=>bi R 22 g w λh w=>ce R 22 h (.int .i64 0) w λi w=>bi R 5 i w λj w=>v1 R (Go.convert 5 3 j) w λl w=>bq R .rem 3 false false l a1 w λm w=>cm R a0 w λn w=>bk R 63 n 0 w λo w=>bi R 22 o w λp w=>v1 R (sliceAt 22 p (some (.int .i64 1)) none none) w λq w=>cm R a0 w λr w=>bk R 63 r 0 w λs w=>bj R 22 s q w λw=>cz R m w)
theorem s42:df 42 S42:=λh=>db [] func42 h
theorem fY:bZ 42:=dd func42
def S43(R:ER)(a0 a1 a2:Va)(w:Wd):Prop:=
 cm R a1 w λb w=>bk R 43 b 0 w λc w=>bi R 3 c w λa w=>bq R .eql 3 false true a (.int .i64 1) w λd w=>If d (cf R 73 #[a0] w λe w=>cm R a1 w λf w=>bk R 43 f 2 w λg w=>bj R 9 g e w λw=>cf R 42 #[a0,(.int .i64 2)] w λh w=>bq R .eql 3 false true h (.int .i64 1) w λi w=>If i (cf R 74 #[a0,a2] w λj w=>cm R a1 w λl w=>bk R 43 l 4 w λm w=>bj R 41 m j w λw=>cz R (.tuple #[]) w) (cz R (.tuple #[]) w)) (bq R .eql 3 false true a (.int .i64 2) w λn w=>If n (cf R 73 #[a0] w λo w=>cg R 47 #[(0,(.int .i64 6)),(3,o)] w λp w=>cj R 47 p w λq w=>cm R a1 w λr w=>bk R 43 r 3 w λs w=>bj R 41 s q w λw=>J0 (λk1=>cf R 42 #[a0,(.int .i64 2)] w λt w=>bq R .eql 3 false true t (.int .i64 1) w λu w=>If u (cf R 74 #[a0,a2] w λv w=>cf R 74 #[a0,a2] w λx w=>cg R 47 #[(0,(.int .i64 7)),(4,v),(5,x)] w λy w=>cj R 47 y w λz w=>cm R a1 w λb2 w=>bk R 43 b2 3 w λb3 w=>bj R 41 b3 z w λw=>k1 w) (k1 w)) (λw=>cf R 74 #[a0,a2] w λb4 w=>cm R a1 w λb5 w=>bk R 43 b5 4 w λb6 w=>bj R 41 b6 b4 w λw=>cz R (.tuple #[]) w)) (bq R .eql 3 false true a (.int .i64 3) w λb7 w=>If b7 (cf R 74 #[a0,a2] w λb8 w=>cg R 47 #[(0,(.int .i64 8)),(4,b8)] w λb9 w=>cj R 47 b9 w λc2 w=>cm R a1 w λc3 w=>bk R 43 c3 4 w λc4 w=>bj R 41 c4 c2 w λw=>cz R (.tuple #[]) w) (bq R .eql 3 false true a (.int .i64 7) w λc5 w=>If c5 (cf R 73 #[a0] w λc6 w=>cm R a1 w λc7 w=>bk R 43 c7 2 w λc8 w=>bj R 9 c8 c6 w λw=>cf R 74 #[a0,a2] w λc9 w=>cm R a1 w λd2 w=>bk R 43 d2 4 w λd3 w=>bj R 41 d3 c9 w λw=>cf R 74 #[a0,a2] w λd4 w=>cm R a1 w λd5 w=>bk R 43 d5 5 w λd6 w=>bj R 41 d6 d4 w λw=>cf R 23 #[a0,a2] w λd7 w=>cm R a1 w λd8 w=>bk R 43 d8 6 w λd9 w=>bj R 26 d9 d7 w λw=>cz R (.tuple #[]) w) (bq R .eql 3 false true a (.int .i64 4) w λe2 w=>If e2 (cf R 23 #[a0,a2] w λe3 w=>cm R a1 w λe4 w=>bk R 43 e4 6 w λe5 w=>bj R 26 e5 e3 w λw=>cz R (.tuple #[]) w) (bq R .eql 3 false true a (.int .i64 5) w λe6 w=>If e6 (cf R 74 #[a0,a2] w λe7 w=>cm R a1 w λe8 w=>bk R 43 e8 4 w λe9 w=>bj R 41 e9 e7 w λw=>cf R 23 #[a0,a2] w λf2 w=>cm R a1 w λf3 w=>bk R 43 f3 6 w λf4 w=>bj R 26 f4 f2 w λw=>cz R (.tuple #[]) w) (bq R .eql 3 false true a (.int .i64 6) w λf5 w=>If f5 (cf R 74 #[a0,a2] w λf6 w=>cm R a1 w λf7 w=>bk R 43 f7 4 w λf8 w=>bj R 41 f8 f6 w λw=>cf R 23 #[a0,a2] w λf9 w=>cm R a1 w λg2 w=>bk R 43 g2 6 w λg3 w=>bj R 26 g3 f9 w λw=>cf R 23 #[a0,a2] w λg4 w=>cm R a1 w λg5 w=>bk R 43 g5 7 w λg6 w=>bj R 26 g6 g4 w λw=>cz R (.tuple #[]) w) (bq R .eql 3 false true a (.int .i64 8) w λg7 w=>If g7 (cf R 42 #[a0,(.int .i64 2)] w λg8 w=>bq R .eql 3 false true g8 (.int .i64 1) w λg9 w=>If g9 (cf R 74 #[a0,a2] w λh2 w=>cm R a1 w λh3 w=>bk R 43 h3 4 w λh4 w=>bj R 41 h4 h2 w λw=>cz R (.tuple #[]) w) (cz R (.tuple #[]) w)) (bq R .eql 3 false true a (.int .i64 10) w λh5 w=>If h5 (cf R 23 #[a0,a2] w λh6 w=>cm R a1 w λh7 w=>bk R 43 h7 6 w λh8 w=>bj R 26 h8 h6 w λw=>cf R 73 #[a0] w λh9 w=>cm R a1 w λi2 w=>bk R 43 i2 2 w λi3 w=>bj R 9 i3 h9 w λw=>cf R 23 #[a0,a2] w λi4 w=>cm R a1 w λi5 w=>bk R 43 i5 7 w λi6 w=>bj R 26 i6 i4 w λw=>cz R (.tuple #[]) w) (bq R .eql 3 false true a (.int .i64 11) w λi7 w=>If i7 (cf R 73 #[a0] w λi8 w=>cm R a1 w λi9 w=>bk R 43 i9 2 w λj2 w=>bj R 9 j2 i8 w λw=>cf R 23 #[a0,a2] w λj3 w=>cg R 47 #[(0,(.int .i64 9)),(9,j3)] w λj4 w=>cj R 47 j4 w λj5 w=>cm R a1 w λj6 w=>bk R 43 j6 4 w λj7 w=>bj R 41 j7 j5 w λw=>cz R (.tuple #[]) w) (cz R (.tuple #[]) w))))))))))
set_option maxHeartbeats 4000000 in
theorem s43:dg 43 S43:=λh=>db [] func43 h
theorem WE:bZ 43:=dd func43
def WI(R:ER)(a0:Va)(w:Wd):Prop:=
 cg R 168 #[(0,(.string ⟨#[97]⟩)),(1,(.string ⟨#[98]⟩)),(2,(.string ⟨#[99]⟩)),(3,(.string ⟨#[97]⟩)),(4,(.string ⟨#[101,110,100]⟩)),(5,(.string ⟨#[49,120]⟩))] w λb w=>cu R 168 true (.tuple #[]) w λa w=>bj R 168 a b w λw=>cf R 42 #[a0,(.int .i64 9)] w λc w=>bq R .lss 3 false true c (.int .i64 8) w λd w=>If d (cf R 42 #[a0,(.int .i64 4)] w λe w=>ce R 168 a e w λf w=>bi R 9 f w λg w=>cz R g w) (cf R 42 #[a0,(.int .i64 6)] w λh w=>ce R 168 a h w λi w=>bi R 9 i w λj w=>cz R j w)
theorem e73(R:ER)(a0:Va)(w:Wd):body prog f73.ntmps [] f73.results.toList (bA f73) [a0] R w=WI R a0 w:=ai
theorem s73{R:ER}{a0:Va}{w:Wd}(h:WI R a0 w):Calls prog 73 #[a0] w R:=
 fO [] mixed func73 (c:=bA f73) ai (le_of_ble_eq_true ai) (by rw[e73];exact h)
theorem sJ:bZ 73:=dd func73
def S74(R:ER)(a0 a1:Va)(w:Wd):Prop:=
 cm R a0 w λh w=>bk R 63 h 1 w λi w=>bi R 3 i w λj w=>bq R .add 3 false true j (.int .i64 1) w λl w=>cm R a0 w λm w=>bk R 63 m 1 w λn w=>bj R 3 n l w λw=>cf R 42 #[a0,(.int .i64 12)] w λo w=>bq R .add 3 true false (.int .i64 1) o w λb w=>cf R 42 #[a0,(.int .i64 90)] w λp w=>bq R .eql 3 false true p (.int .i64 89) w λq w=>If q (cz R (.pointer none) w) (cf R 42 #[a0,(.int .i64 9)] w λr w=>cg R 47 #[(0,(.int .i64 6)),(1,r)] w λs w=>cj R 47 s w λa w=>bq R .lss 3 false true a1 (.int .i64 1) w λc w=>J1 (λk1=>Gd c false (cm R a0 w λt w=>bk R 63 t 1 w λu w=>bi R 3 u w λv w=>bq R .gtr 3 false true v (.int .i64 300) w λx w=>k1 x w) (k1 undef w)) (λy w=>bu R c (.bool true) y w λz w=>If z (cf R 73 #[a0] w λb2 w=>cm R a w λb3 w=>bk R 47 b3 3 w λb4 w=>bj R 9 b4 b2 w λw=>cz R a w) (cm R a w λb5 w=>bk R 47 b5 0 w λb6 w=>bj R 3 b6 b w λw=>J0 (λk2=>bq R .eql 3 false true b (.int .i64 4) w λb7 w=>If b7 (cf R 42 #[a0,(.int .i64 8)] w λb8 w=>cm R a w λb9 w=>bk R 47 b9 2 w λc2 w=>bj R 2 c2 b8 w λw=>cm R a w λc3 w=>bk R 47 c3 2 w λc4 w=>bi R 2 c4 w λc5 w=>bq R .eql 2 false true c5 (.int .i64 7) w λc6 w=>If c6 (cm R a w λc7 w=>bk R 47 c7 2 w λc8 w=>bj R 2 c8 (.int .i64 (-5)) w λw=>k2 w) (k2 w)) (bq R .eql 3 false true b (.int .i64 5) w λc9 w=>If c9 (cg R 169 #[(0,(.string ⟨#[97]⟩)),(1,(.string ⟨#[101,110,100]⟩)),(2,(.string ⟨#[49,120]⟩)),(3,(.string ⟨#[]⟩)),(4,(.string ⟨#[34,10,255]⟩))] w λd2 w=>cu R 169 true (.tuple #[]) w λd w=>bj R 169 d d2 w λw=>cf R 42 #[a0,(.int .i64 5)] w λd3 w=>ce R 169 d d3 w λd4 w=>bi R 9 d4 w λd5 w=>cm R a w λd6 w=>bk R 47 d6 3 w λd7 w=>bj R 9 d7 d5 w λw=>k2 w) (bq R .eql 3 false true b (.int .i64 6) w λd8 w=>If d8 (cf R 73 #[a0] w λd9 w=>cm R a w λe2 w=>bk R 47 e2 3 w λe3 w=>bj R 9 e3 d9 w λw=>k2 w) (bq R .eql 3 false true b (.int .i64 7) w λe4 w=>If e4 (bq R .sub 3 false true a1 (.int .i64 1) w λe5 w=>cf R 74 #[a0,e5] w λe6 w=>cm R a w λe7 w=>bk R 47 e7 4 w λe8 w=>bj R 41 e8 e6 w λw=>bq R .sub 3 false true a1 (.int .i64 1) w λe9 w=>cf R 74 #[a0,e9] w λf2 w=>cm R a w λf3 w=>bk R 47 f3 5 w λf4 w=>bj R 41 f4 f2 w λw=>k2 w) (bq R .eql 3 false true b (.int .i64 8) w λf5 w=>If f5 (bq R .sub 3 false true a1 (.int .i64 1) w λf6 w=>cf R 74 #[a0,f6] w λf7 w=>cm R a w λf8 w=>bk R 47 f8 4 w λf9 w=>bj R 41 f9 f7 w λw=>cf R 42 #[a0,(.int .i64 3)] w λg4 w=>L1 g4 w (λg1 e w=>bq R .gtr 3 false true e (.int .i64 0) w λg5 w=>If g5 (∃S1:WP,S1 w.drew/\xs t0 (Nc a) λg6=>xw t0 (fieldAt 47 g6 7) λg7=>xw S1 (loadAt 44 g7) λg8=>xw t0 (Bo .sub 3 false true a1 (.int .i64 1)) λg9=>cf R 74 #[a0,g9] w.drew λh2 w=>S1 w/\bw R 44 1 #[(0,h2)] w λh3 w=>S1 w/\v1 R (append_ #[44,44] 44 #[g8,h3]) w λh4 w=>xs t0 (Nc a) λh5=>xw t0 (fieldAt 47 h5 7) λh6=>bj R 44 h6 h4 w λw=>bq R .sub 3 false true e (.int .i64 1) w λh7 w=>g1 h7 w) (k2 w))) (bq R .eql 3 false true b (.int .i64 9) w λh8 w=>If h8 (cf R 42 #[a0,(.int .i64 3)] w λh9 w=>L1 h9 w (λg2 f w=>bq R .gtr 3 false true f (.int .i64 0) w λi2 w=>If i2 (∃S2:WP,S2 w.drew/\xs t0 (Nc a) λi3=>xw t0 (fieldAt 47 i3 8) λi4=>xw S2 (loadAt 45 i4) λi5=>cf R 73 #[a0] w.drew λi6 w=>S2 w/\bw R 45 1 #[(0,i6)] w λi7 w=>S2 w/\v1 R (append_ #[45,45] 45 #[i5,i7]) w λi8 w=>xs t0 (Nc a) λi9=>xw t0 (fieldAt 47 i9 8) λj2=>bj R 45 j2 i8 w λw=>bq R .sub 3 false true f (.int .i64 1) w λj3 w=>g2 j3 w) (bq R .sub 3 false true a1 (.int .i64 1) w λj4 w=>cf R 23 #[a0,j4] w λj5 w=>cm R a w λj6 w=>bk R 47 j6 9 w λj7 w=>bj R 26 j7 j5 w λw=>k2 w))) (bq R .eql 3 false true b (.int .i64 10) w λj8 w=>If j8 (cf R 120 #[a0,(.bool true)] w λj9 w=>cm R a w λl2 w=>bk R 47 l2 3 w λl3 w=>bj R 9 l3 j9 w λw=>bq R .sub 3 false true a1 (.int .i64 1) w λl4 w=>cf R 74 #[a0,l4] w λl5 w=>cm R a w λl6 w=>bk R 47 l6 5 w λl7 w=>bj R 41 l7 l5 w λw=>k2 w) (bq R .eql 3 false true b (.int .i64 11) w λl8 w=>If l8 (cf R 120 #[a0,(.bool false)] w λl9 w=>cm R a w λm2 w=>bk R 47 m2 3 w λm3 w=>bj R 9 m3 l9 w λw=>bq R .sub 3 false true a1 (.int .i64 1) w λm4 w=>cf R 74 #[a0,m4] w λm5 w=>cm R a w λm6 w=>bk R 47 m6 4 w λm7 w=>bj R 41 m7 m5 w λw=>bq R .sub 3 false true a1 (.int .i64 1) w λm8 w=>cf R 74 #[a0,m8] w λm9 w=>cm R a w λn2 w=>bk R 47 n2 5 w λn3 w=>bj R 41 n3 m9 w λw=>k2 w) (bq R .eql 3 false true b (.int .i64 12) w λn4 w=>If n4 (cf R 42 #[a0,(.int .i64 4)] w λn5 w=>L1 n5 w (λg3 g w=>bq R .gtr 3 false true g (.int .i64 0) w λn6 w=>If n6 (J1 (λk3=>cf R 42 #[a0,(.int .i64 2)] w λn7 w=>bq R .eql 3 false true n7 (.int .i64 1) w λn8 w=>If n8 (bq R .sub 3 false true a1 (.int .i64 1) w λn9 w=>cf R 74 #[a0,n9] w λo2 w=>k3 o2 w) (k3 (.pointer none) w)) (λo3 w=>cm R a w λo4 w=>bk R 47 o4 6 w λo5 w=>bi R 44 o5 w λo6 w=>bw R 44 1 #[(0,o3)] w λo7 w=>v1 R (append_ #[44,44] 44 #[o6,o7]) w λo8 w=>cm R a w λo9 w=>bk R 47 o9 6 w λp2 w=>bj R 44 p2 o8 w λw=>∃S3:WP,S3 w.drew/\xs t0 (Nc a) λp3=>xw t0 (fieldAt 47 p3 7) λp4=>xw S3 (loadAt 44 p4) λp5=>xw t0 (Bo .sub 3 false true a1 (.int .i64 1)) λp6=>cf R 74 #[a0,p6] w.drew λp7 w=>S3 w/\bw R 44 1 #[(0,p7)] w λp8 w=>S3 w/\v1 R (append_ #[44,44] 44 #[p5,p8]) w λp9 w=>xs t0 (Nc a) λq2=>xw t0 (fieldAt 47 q2 7) λq3=>bj R 44 q3 p9 w λw=>bq R .sub 3 false true g (.int .i64 1) w λq4 w=>g3 q4 w)) (cf R 42 #[a0,(.int .i64 90)] w λq5 w=>bq R .eql 3 false true q5 (.int .i64 89) w λq6 w=>If q6 (cm R a w λq7 w=>bk R 47 q7 6 w λq8 w=>bi R 44 q8 w λq9 w=>bw R 44 1 #[(0,(.pointer none))] w λr2 w=>v1 R (append_ #[44,44] 44 #[q9,r2]) w λr3 w=>cm R a w λr4 w=>bk R 47 r4 6 w λr5 w=>bj R 44 r5 r3 w λw=>k2 w) (k2 w)))) (k2 w)))))))))) (λw=>cz R a w))))
set_option maxHeartbeats 4000000 in
theorem s74:df 74 S74:=λh=>db [28,33,50] func74 h
theorem iN:bZ 74:=dd func74
def G8(R:ER)(a0 a1:Va)(w:Wd):Prop:=
 cg R 169 #[(0,(.string ⟨#[45]⟩)),(1,(.string ⟨#[110,111,116]⟩)),(2,(.string ⟨#[35]⟩)),(3,(.string ⟨#[126]⟩)),(4,(.string ⟨#[43]⟩))] w λc w=>cu R 169 true (.tuple #[]) w λa w=>bj R 169 a c w λw=>cg R 203 #[(0,(.string ⟨#[111,114]⟩)),(1,(.string ⟨#[97,110,100]⟩)),(2,(.string ⟨#[60]⟩)),(3,(.string ⟨#[61,61]⟩)),(4,(.string ⟨#[126,61]⟩)),(5,(.string ⟨#[124]⟩)),(6,(.string ⟨#[126]⟩)),(7,(.string ⟨#[38]⟩)),(8,(.string ⟨#[60,60]⟩)),(9,(.string ⟨#[46,46]⟩)),(10,(.string ⟨#[46,46]⟩)),(11,(.string ⟨#[43]⟩)),(12,(.string ⟨#[45]⟩)),(13,(.string ⟨#[42]⟩)),(14,(.string ⟨#[47,47]⟩)),(15,(.string ⟨#[37]⟩)),(16,(.string ⟨#[46,46]⟩)),(17,(.string ⟨#[47]⟩))] w λd w=>cu R 203 true (.tuple #[]) w λb w=>bj R 203 b d w λw=>If a1 (cf R 42 #[a0,(.int .i64 40)] w λe w=>bq R .rem 3 false true e (.int .i64 9) w λf w=>bq R .rem 3 false true f (.int .i64 5) w λg w=>ce R 169 a g w λh w=>bi R 9 h w λi w=>cz R i w) (cf R 42 #[a0,(.int .i64 100)] w λj w=>bq R .rem 3 false true j (.int .i64 35) w λl w=>bq R .rem 3 false true l (.int .i64 18) w λm w=>ce R 203 b m w λn w=>bi R 9 n w λo w=>cz R o w)
theorem Gq(R:ER)(a0 a1:Va)(w:Wd):body prog Tryz.f120.ntmps [] Tryz.f120.results.toList (bA Tryz.f120) [a0,a1] R w=G8 R a0 a1 w:=ai
theorem WJ{R:ER}{a0 a1:Va}{w:Wd}(h:G8 R a0 a1 w):Calls prog 120 #[a0,a1] w R:=
 fO [] mixed func120 (c:=bA Tryz.f120) ai (le_of_ble_eq_true ai) (by rw[Gq];exact h)
theorem EC:bZ 120:=dd func120
theorem WK{w:Wd}(g:GL w){s:By}{m n:Nat}{t:Tr}{ts:LT}{o:Bool}(hm:m<=aX)(hp:dN m s=.ok t ts o)(hw:wf t 3=true)(aI:bK n (.stmts t) [] 0≠.bH):
  Calls prog 16 #[str s] w (aZ (λv w'=>v=str (je n t).1/\aD [] w w') NP):=by
 refine s16 ?_;unfold S16;refine Lc (RO w s g m hm _ rfl (by rw[hp];exact bN.noConfusion)) ?_ (NP.no (e:=_));rintro _ w1 ⟨hq,K1⟩;rw[hp]at hq;obtain⟨lv,rfl,rt,il⟩:=hq;refine V1.i ah ?_;refine V1.i ah ?_;refine V1.i (F8 _ _) ?_;refine If.f ?_;refine Y9 (c9 (g.new K1) n rt aI (λ_ _ _=>hw)) ?_ (NP.no (e:=_));rintro _ w2 ⟨rfl,K2⟩;refine V1.i ah ?_;refine V1.i ah ?_;exact⟨rfl,K1.trans K2⟩
def iO(s:By):Tr:=match dN 2000 s with
 |.ok t _ _=>t
 |_=>.nil
def again(s o:By):Bool:=(match dN 2000 s with|.ok _ _ _=>true|_=>false)&&(match bK 2000 (.stmts (iO s)) [] 0 with|.ok b _=>b==o|_=>false)&&
 (match dN fR o with|.ok _ _ _=>true|_=>false)
theorem pI{s o:By}(h:again s o=true)(hw:wf (iO s) 3=true)(he:(match dN fR o with|.ok t _ _=>t|_=>.hole)=iO s){w:Wd}(g:GL w):
  Calls prog 16 #[str s] w (aZ (λv w'=>v=str o/\aD [] w w') NP):=by
 unfold again at h;rw[and_eq_true,and_eq_true]at h;obtain⟨⟨h1,h2⟩,h3⟩:=h
 cases hp:dN 2000 s with
 |fail c=>rw[hp]at h1;cases h1
 |bH=>rw[hp]at h1;cases h1
 |ok t ts own=>
  have ht:iO s=t:=by unfold iO;rw[hp]
  rw[ht]at h2 hw he
  cases hr:bK 2000 (.stmts t) [] 0 with
  |fail c=>rw[hr]at h2;cases h2
  |bH=>rw[hr]at h2;cases h2
  |ok b p=>
   rw[hr]at h2;obtain rfl:=eq_of_beq h2
   cases hq:dN fR b with
   |fail c=>rw[hq]at h3;cases h3
   |bH=>rw[hq]at h3;cases h3
   |ok t2 dI o2=>
    rw[hq]at he;dsimp only at he;have ho:(je 2000 t).1=b:=by
     unfold je;rw[hr];dsimp only;rw[hq];dsimp only;rw[he,eQ,if_pos rfl]
    have:=WK g (m:=2000) (n:=2000) (by unfold aX;omega) hp hw (by rw[hr];exact PR.noConfusion);rwa [ho]at this
def WL:By:=[97,61,49,43,50,42,51,32,98,32,61,32,40,49,43,50,41,42,51]
def R3:By:=[97,32,61,32,49,32,43,32,50,32,42,32,51,10,98,32,61,32,40,49,32,43,32,50,41,32,42,32,51,10]
def WM:By:=[116,91,34,120,34,93,61,45,40,45,49,41,32,116,91,34,101,110,100,34,93,61,110,111,116,32,40,97,61,61,98,41]
def R4:By:=[116,46,120,32,61,32,45,32,45,32,49,10,116,91,34,101,110,100,34,93,32,61,32,110,111,116,32,40,97,32,61,61,32,98,41,10]
theorem G9:again WL R3=true:=ai
theorem Ha:again WM R4=true:=ai
theorem wf1:wf (iO WL) 3=true:=ai
theorem wf2:wf (iO WM) 3=true:=ai
theorem Ov:(match dN fR R3 with|.ok t _ _=>t|_=>.hole)=iO WL:=ai
theorem Ow:(match dN fR R4 with|.ok t _ _=>t|_=>.hole)=iO WM:=ai
theorem c12{w:Wd}(g:GL w):Calls prog 12 #[] w (aZ (λv w'=>v=.bool true/\aD [] w w') NP):=by
 refine Ot ?_;unfold S12;refine Ou (pI G9 wf1 Ov g) ?_ (NP.no (e:=_));rintro _ w1 ⟨rfl,K1⟩;refine V1.bt (nq w1 _ _ R3 R3) ?_;refine J1.go (Gd.tt ?_);refine Ou (pI Ha wf2 Ow (g.new K1)) ?_ (NP.no (e:=_));rintro _ w2 ⟨rfl,K2⟩;refine V1.bt (nq w2 _ _ R4 R4) ?_;refine V1.i ah ?_;exact⟨rfl,K1.trans K2⟩
def MS(lo:Nat)(w:Wd)(bm:Nat)(l:By)(p:Nat):Prop:=
 bm<lo/\lo<=w.heap.size/\∃v,At w bm [v,.int .i64 p]/\∃a c,v=.slice a l.length c/\l.length<=c/\∀i (h:i<l.length),∃b,a=some b/\b.block<lo/\b.block≠bm/\w.cell? (b.add i)=some (.int .u8 l[i].toNat)
theorem gz(b:Addr)(i:Nat):(b.add i).block=b.block:=by unfold Addr.add;split<;>rfl
theorem add_add(b:Addr)(i:Nat):(b.add 1).add i=b.add (i+1):=by
 unfold Addr.add;by_cases h:i=0
 .subst h;rfl
 .simp[h];omega
theorem MS.aA{lo:Nat}{w w':Wd}{bm:Nat}{l:By}{p:Nat}{M:List Nat}(h:MS lo w bm l p)(hk:aD M w w')(hM:∀i∈M,lo<=i):MS lo w' bm l p:=by
 obtain⟨h1,h2,v,h3,a,c,h4,h5,h6⟩:=h;refine⟨h1,le_trans h2 hk.size,v,hk.at h3 (λhm=>by have:=hM _ hm;omega),a,c,h4,h5,λi hi=>?_⟩;obtain⟨b,e,hb,vw,hc⟩:=h6 i hi;exact⟨b,e,hb,vw,hk.cell hc (λhm=>by have:=hM _ hm;rw[gz]at this;omega)⟩
theorem WN(w:Wd)(b:Addr)(n c:Nat)(h:n<c):∃a,(sliceAt 22 (.slice (some b) (n+1) c) (some (.int .i64 1)) none none).run prog w=.ok (.slice a n (c-1)) w/\(0<n->a=some (b.add 1)):=by
 refine⟨if c=1 then some b else some (b.add 1),?_,λh0=>by rw[if_neg aj]⟩;have:(1:Int)<=n+1:=by omega
 simp[go_sem,this]
 done
theorem mM{lo:Nat}{w:Wd}{bm n:Nat}{l:By}{p:Nat}(h:MS lo w bm l p)(hn:0<n):
  Calls prog 42 #[ptr bm,.int .i64 n] w (aZ (λv w'=>v=.int .i64 (bV n l:Nat)/\MS lo w' bm l.tail p/\aD [bm] w w') NP):=by
 refine s42 ?_;unfold S42;have h0:=h;obtain⟨h1,h2,v,am,a,c,rfl,h5,h6⟩:=h;unfold ptr;refine Up.i (Nc.p _ _) ?_;refine V1.i ah ?_;refine V1.load (aC rfl) (am) rfl ?_;refine V1.i ah ?_
 cases l with
 |nil=>
  refine V1.bt au ?_;exact If.t ⟨rfl,h0,aD.refl _ _⟩
 |cons x l=>
  have hx:=h6 0 ak;obtain⟨b,rfl,hb,vw,hc⟩:=hx;simp only[List.getElem_cons_zero,Addr.add,if_pos rfl]at hc;refine V1.bf ay ?_;refine If.f ?_;refine Up.i (Nc.p _ _) ?_;refine V1.i ah ?_;refine V1.load (aC rfl) (am) rfl ?_;refine V1.i (v:=.pointer (some b)) (w':=w) au ?_;refine V1.i ((aC rfl) _ _ _ hc) ?_;have bO:=x.toNat_lt;refine V1.i (v:=.int .i64 (x.toNat:Int)) (w':=w) (by simp[go_sem];exact IntWalk.i64_in _ aj) ?_;refine V1.i (v:=.int .i64 ((x.toNat%n:Nat):Int)) (w':=w) (by simp[go_sem,Bo];rw[if_neg aj];simp[Int.tmod_eq_emod_of_nonneg]) ?_;refine Up.i (Nc.p _ _) ?_;refine V1.i ah ?_;refine V1.load (aC rfl) (am) rfl ?_;simp only[length_cons]at h5⊢
  obtain⟨a',hs,fH⟩:=WN w b l.length c aj;refine V1.i hs ?_;refine Up.i (Nc.p _ _) ?_;refine V1.i ah ?_;refine U1.store (aH rfl rfl) am ak λw2 U2=>?_;refine⟨rfl,⟨h1,by rw[U2.size];exact h2,_,U2.at_,a',c-1,rfl,by simp;omega,λi hi=>?_⟩,U2.aA⟩;simp only[List.tail_cons]at hi;have hq:=h6 (i+1) al;obtain⟨b2,e2,sC,hbm2,kI⟩:=hq;injection e2 with e2;subst e2;refine⟨b.add 1,fH aj,by rw[gz];exact hb,by rw[gz];exact vw,?_⟩;rw[add_add];refine U2.aA.cell ?_ (by rw[gz];simpa using vw);simpa using kI
theorem nT{w:Wd}{b:Nat}{ss:LB}(h:At w b (ss.map str)){k:Nat}(hk:k<ss.length):w.cell? ⟨b,k,none⟩=some (str (ss.getD k [])):=by
 rw[h.cell];simp[hk,List.getD_eq_getElem?_getD]
theorem i168:(prog.info? 168).map (·.size)=some 6:=ai
theorem Ox:(prog.info? 169).map (·.size)=some 5:=ai
theorem i203:(prog.info? 203).map (·.size)=some 18:=ai
theorem ED{w:Wd}{b k:Nat}(h:k<6):(indexAt 168 (.pointer (some ⟨b,0,none⟩)) (.int .i64 k)).run prog w=.ok (.pointer (some ⟨b,k,none⟩)) w:=by
 have:(k:Int)<6:=by omega
 simp[go_sem,h,this,Addr.add]
 rintro rfl;rfl
theorem EE{w:Wd}{b k:Nat}(h:k<5):(indexAt 169 (.pointer (some ⟨b,0,none⟩)) (.int .i64 k)).run prog w=.ok (.pointer (some ⟨b,k,none⟩)) w:=by
 have:(k:Int)<5:=by omega
 simp[go_sem,h,this,Addr.add]
 rintro rfl;rfl
theorem Oy{w:Wd}{b k:Nat}(h:k<18):(indexAt 203 (.pointer (some ⟨b,0,none⟩)) (.int .i64 k)).run prog w=.ok (.pointer (some ⟨b,k,none⟩)) w:=by
 have:(k:Int)<18:=by omega
 simp[go_sem,h,this,Addr.add]
 rintro rfl;rfl
theorem CD{w:Wd}{cx cy:Bool}(a b:Nat)(hb:0<b):(Bo .rem 3 cx cy (.int .i64 (a:Nat)) (.int .i64 (b:Nat))).run prog w=.ok (.int .i64 ((a%b:Nat):Int)) w:=by
 simp[go_sem,Bo]
 rw[if_neg aj];simp[Int.tmod_eq_emod_of_nonneg]
theorem EF{lo:Nat}{w:Wd}{bm:Nat}{l:By}{p:Nat}(ms:MS lo w bm l p):
  Calls prog 73 #[ptr bm] w (aZ (λv w'=>v=str (dZ l)/\MS lo w' bm l.tail.tail p/\aD [bm] w w') NP):=by
 refine s73 ?_;unfold WI;refine V1.i (v:=.agg (Iw.map str).toArray) (w':=w) (by simp[go_sem];rfl) ?_;refine V1.i (Jz w) ?_;refine U1.i (run_storeAt_new w 168 _ (Iw.map str).toArray i168 rfl ai) ?_;have N:=mQ.mk' w (Iw.map str).toArray 168;simp only[toList_toArray]at N;generalize w.alloc (.cells (Iw.map str).toArray 168)=w1 at N⊢;generalize hb:w.heap.size=b at N⊢;have Oz:=ms.aA N.aA ak;have Fg:bm<b:=by
  have h1:=ms.1;have h2:=ms.2.1;omega
 refine fY (mM Oz (n:=9) az) ?_ (NP.no (e:=_));rintro _ w2 ⟨rfl,OA,K2⟩;have ab:=K2.at N.at_ al;refine V1.i (v:=.bool (decide (bV 9 l<8))) (w':=w2) ay ?_;by_cases h8:bV 9 l<8
 .rw[show decide (bV 9 l<8)=true by simpa using h8];refine If.t ?_;refine fY (mM OA (n:=4) az) ?_ (NP.no (e:=_));rintro _ w3 ⟨rfl,Hb,K3⟩;have bO:=fe 4 l.tail az;refine V1.i (ED aj) ?_;refine V1.i ((aC rfl) _ _ _ (nT (K3.at ab al) (by show _<6;omega))) ?_;refine⟨by unfold dZ;rw[if_pos h8],Hb,?_⟩;exact((N.aA.mono ak).trans K2).trans K3
 .rw[show decide (bV 9 l<8)=false by simpa using h8];refine If.f ?_;refine fY (mM OA (n:=6) az) ?_ (NP.no (e:=_));rintro _ w3 ⟨rfl,Hb,K3⟩;have bO:=fe 6 l.tail az;refine V1.i (ED aj) ?_;refine V1.i ((aC rfl) _ _ _ (nT (K3.at ab al) (by show _<6;omega))) ?_;refine⟨by unfold dZ;rw[if_neg h8],Hb,?_⟩;exact((N.aA.mono ak).trans K2).trans K3
theorem OB{lo:Nat}{w:Wd}{bm:Nat}{l:By}{p:Nat}{u:Bool}(ms:MS lo w bm l p):
  Calls prog 120 #[ptr bm,.bool u] w (aZ (λv w'=>v=str (nN u l)/\MS lo w' bm l.tail p/\aD [bm] w w') NP):=by
 refine WJ ?_;unfold G8;refine V1.i (v:=.agg (NL.map str).toArray) (w':=w) (by simp[go_sem];rfl) ?_;refine V1.i (DA w) ?_;refine U1.i (run_storeAt_new w 169 _ (NL.map str).toArray Ox rfl ai) ?_;have N:=mQ.mk' w (NL.map str).toArray 169;simp only[toList_toArray]at N;generalize w.alloc (.cells (NL.map str).toArray 169)=w1 at N⊢;generalize hb:w.heap.size=b at N⊢;have Oz:=ms.aA N.aA ak;have Fg:bm<b:=by
  have h1:=ms.1;have h2:=ms.2.1;omega
 refine V1.i (v:=.agg (zg.map str).toArray) (w':=w1) (by simp[go_sem];rfl) ?_;refine V1.i (JB w1) ?_;refine U1.i (run_storeAt_new w1 203 _ (zg.map str).toArray i203 rfl ai) ?_;have N2:=mQ.mk' w1 (zg.map str).toArray 203;simp only[toList_toArray]at N2;generalize w1.alloc (.cells (zg.map str).toArray 203)=w2 at N2⊢;generalize sC:w1.heap.size=b2 at N2⊢;have OA:=Oz.aA N2.aA ak;have hbb2:bm<b2:=by
  have h1:=Oz.1;have h2:=Oz.2.1;omega
 have ab:=N2.aA.at N.at_ ak;have yz:=N2.at_;have kk:aD [bm] w w2:=(N.aA.mono ak).trans (N2.aA.mono ak)
 cases u with
 |true=>
  refine If.t ?_;refine fY (mM OA (n:=40) az) ?_ (NP.no (e:=_));rintro _ w3 ⟨rfl,Hb,K3⟩;refine V1.i (CD _ 9 az) ?_;refine V1.i (CD _ 5 az) ?_;have bO:bV 40 l%9%5<5:=Nat.mod_lt _ az;refine V1.i (EE bO) ?_;refine V1.i ((aC rfl) _ _ _ (nT (K3.at ab al) (by show _<5;omega))) ?_;exact⟨rfl,Hb,kk.trans K3⟩
 |false=>
  refine If.f ?_;refine fY (mM OA (n:=100) az) ?_ (NP.no (e:=_));rintro _ w3 ⟨rfl,Hb,K3⟩;refine V1.i (CD _ 35 az) ?_;refine V1.i (CD _ 18 az) ?_;have bO:bV 100 l%35%18<18:=Nat.mod_lt _ az;refine V1.i (Oy bO) ?_;refine V1.i ((aC rfl) _ _ _ (nT (K3.at yz al) (by show _<18;omega))) ?_;exact⟨rfl,Hb,kk.trans K3⟩
end Go.Proofs.YtoddjlclpnoomaaGreatDoor

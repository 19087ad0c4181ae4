import Derived.Lib.IndexMore
import Derived.OwnWalk
import Derived.Test.YtoddjlclpnoomaaGreatDoorV2
import Derived.Test.YtoddjlclpnoomaaGreatDoorV5
set_option linter.unusedVariables false
set_option linter.unusedSimpArgs false
set_option maxRecDepth 100000
namespace Go.Proofs.YtoddjlclpnoomaaGreatDoor
structure Tok where
  kind : Int
  text : List UInt8
  n : Int
  line : Int
def adv : List Tok → List Tok
  | _ :: u :: ts => u :: ts
  | l => l
def isB (t : Tok) (ss : List (List UInt8)) : Bool := t.kind == 4 && ss.contains t.text
def endsB (t : Tok) : Bool := t.kind == 5 || isB t [[101, 110, 100], [101, 108, 115, 101], [101, 108, 115, 101, 105, 102], [99, 97, 116, 99, 104]]
def bindN (s : List UInt8) : Int :=
  if s = [111, 114] then 1 else if s = [97, 110, 100] then 2 else if s = [60] ∨ s = [60, 61] ∨ s = [62] ∨ s = [62, 61] ∨ s = [61, 61] ∨ s = [126, 61] then 3
  else if s = [124] then 4 else if s = [126] then 5 else if s = [38] then 6 else if s = [60, 60] ∨ s = [62, 62] then 7 else if s = [46, 46] then 8
  else if s = [43] ∨ s = [45] then 9 else if s = [42] ∨ s = [47, 47] ∨ s = [37] then 10 else 0
def hd : List Tok → Tok
  | t :: _ => t
  | [] => ⟨5, [], 0, 0⟩
inductive Res where
  | ok (t : Tr) (ts : List Tok) (own : Bool)
  | fail (code : Int)
  | oof
def Res.bind (r : Res) (f : Tr → List Tok → Bool → Res) : Res := match r with
  | .ok t ts own => f t ts own
  | .fail c => .fail c
  | .oof => .oof
def is1 (s : List UInt8) (ts : List Tok) : Bool := isB (hd ts) [s]
def mustT (s : List UInt8) (ts : List Tok) (f : List Tok → Res) : Res := match is1 s ts with
  | true => f (adv ts)
  | false => .fail 4
def nameT (ts : List Tok) (f : List UInt8 → List Tok → Res) : Res := match (hd ts).kind == 1 with
  | true => f (hd ts).text (adv ts)
  | false => .fail 4
def openT (deep : Int) (f : Int → Res) : Res := match decide (64 < deep + 1) with
  | true => .fail 3
  | false => f (deep + 1)
def lf (kind n : Int) (text : List UInt8) : Tr := .ex kind n text .nil .nil .nil .nil [] .nil
def kindOf : Tr → Int
  | .ex k .. => k
  | .st k .. => k
  | _ => 0
inductive Cl where
  | block | blockL (acc : Tr)
  | inner (s : List UInt8)
  | stmt | simple | locl | branch
  | func (named : Bool)
  | params (acc : List (List UInt8))
  | expr (above : Int) | exprL (left : Tr) (above : Int) | bin (left : Tr) (n : Int)
  | operand | post | postL (e : Tr) (own : Bool) | primary | signed
  | bracket (l : Tr)
  | args (acc : Tr) | items (keys acc : Tr) | item
def sLocal : List UInt8 := [108, 111, 99, 97, 108]
def sFunction : List UInt8 := [102, 117, 110, 99, 116, 105, 111, 110]
def sDo : List UInt8 := [100, 111]
def sWhile : List UInt8 := [119, 104, 105, 108, 101]
def sFor : List UInt8 := [102, 111, 114]
def sIf : List UInt8 := [105, 102]
def sReturn : List UInt8 := [114, 101, 116, 117, 114, 110]
def sBreak : List UInt8 := [98, 114, 101, 97, 107]
def sTry : List UInt8 := [116, 114, 121]
def sEnd : List UInt8 := [101, 110, 100]
def sThen : List UInt8 := [116, 104, 101, 110]
def sElse : List UInt8 := [101, 108, 115, 101]
def sElseif : List UInt8 := [101, 108, 115, 101, 105, 102]
def sCatch : List UInt8 := [99, 97, 116, 99, 104]
def sNil : List UInt8 := [110, 105, 108]
def sTrue : List UInt8 := [116, 114, 117, 101]
def sFalse : List UInt8 := [102, 97, 108, 115, 101]
def sNot : List UInt8 := [110, 111, 116]
def run : Nat → Cl → Int → List Tok → Res
  | 0, _, _, _ => .oof
  | n + 1, c, deep, ts => match c with
    | .block => run n (.blockL .nil) deep ts
    | .blockL acc => match endsB (hd ts) with
      | true => .ok acc ts false
      | false => (run n .stmt deep ts).bind fun s ts _ => match kindOf s == 8 with
        | true => .ok (snoc acc s) ts false
        | false => run n (.blockL (snoc acc s)) deep ts
    | .inner s => match is1 s ts with
      | false => .fail 4
      | true => openT deep fun d => run n .block d (adv ts)
    | .stmt => match (hd ts).kind == 4 with
      | false => run n .simple deep ts
      | true =>
        if (hd ts).text = sLocal then run n .locl deep ts
        else if (hd ts).text = sFunction then (run n (.func true) deep ts).bind fun r ts _ => match r with
          | .cons f (.cons nm .nil) => .ok (.st 2 [] nm f .nil .nil .nil) ts false
          | _ => .oof
        else if (hd ts).text = sDo then (run n (.inner sDo) deep ts).bind fun a ts _ => mustT sEnd ts fun ts => .ok (.st 4 [] .nil .nil .nil a .nil) ts false
        else if (hd ts).text = sWhile then (run n (.expr 0) deep (adv ts)).bind fun r ts _ => (run n (.inner sDo) deep ts).bind fun a ts _ => mustT sEnd ts fun ts => .ok (.st 5 [] .nil r .nil a .nil) ts false
        else if (hd ts).text = sFor then nameT (adv ts) fun nm ts => mustT [61] ts fun ts => (run n (.expr 0) deep ts).bind fun r ts _ => mustT [44] ts fun ts =>
          (run n (.expr 0) deep ts).bind fun tt1 ts _ => (run n (.inner sDo) deep ts).bind fun a ts _ => mustT sEnd ts fun ts => .ok (.st 7 nm .nil r tt1 a .nil) ts false
        else if (hd ts).text = sIf then (run n .branch deep (adv ts)).bind fun s ts _ => mustT sEnd ts fun ts => .ok s ts false
        else if (hd ts).text = sReturn then match endsB (hd (adv ts)) with
          | true => .ok (.st 8 [] .nil .nil .nil .nil .nil) (adv ts) false
          | false => (run n (.expr 0) deep (adv ts)).bind fun r ts _ => match endsB (hd ts) with
            | true => .ok (.st 8 [] .nil r .nil .nil .nil) ts false
            | false => .fail 4
        else if (hd ts).text = sBreak then .ok (.st 9 [] .nil .nil .nil .nil .nil) (adv ts) false
        else if (hd ts).text = sTry then (run n (.inner sTry) deep ts).bind fun a ts _ => match is1 sCatch ts with
          | false => .fail 4
          | true => openT deep fun d => nameT (adv ts) fun nm ts => (run n .block d ts).bind fun b ts _ => mustT sEnd ts fun ts => .ok (.st 10 nm .nil .nil .nil a b) ts false
        else run n .simple deep ts
    | .simple => (run n .post deep ts).bind fun e ts own =>
      match is1 [61] ts && !own && (kindOf e == 6 || kindOf e == 7) with
      | true => (run n (.expr 0) deep (adv ts)).bind fun r ts _ => .ok (.st 2 [] e r .nil .nil .nil) ts false
      | false => match !is1 [61] ts && !own && kindOf e == 8 with
        | true => .ok (.st 3 [] .nil e .nil .nil .nil) ts false
        | false => .fail 4
    | .locl => match is1 sFunction (adv ts) with
      | true => (run n (.func true) deep (adv ts)).bind fun r ts _ => match r with
          | .cons f (.cons (.ex _ _ nm _ _ _ _ _ _) .nil) => .ok (.st 11 nm .nil f .nil .nil .nil) ts false
          | _ => .oof
      | false => nameT (adv ts) fun nm ts => match is1 [61] ts with
        | true => (run n (.expr 0) deep (adv ts)).bind fun r ts _ => .ok (.st 1 nm .nil r .nil .nil .nil) ts false
        | false => .ok (.st 1 nm .nil .nil .nil .nil .nil) ts false
    | .branch => (run n (.expr 0) deep ts).bind fun r ts _ => (run n (.inner sThen) deep ts).bind fun a ts _ => match is1 sElseif ts with
      | true => (run n .branch deep (adv ts)).bind fun s ts _ => .ok (.st 6 [] .nil r .nil a (.cons s .nil)) ts false
      | false => match is1 sElse ts with
        | true => (run n (.inner sElse) deep ts).bind fun b ts _ => .ok (.st 6 [] .nil r .nil a b) ts false
        | false => .ok (.st 6 [] .nil r .nil a .nil) ts false
    | .func named => openT deep fun d => mustT sFunction ts fun ts => match named with
      | true => nameT ts fun nm ts => match is1 [40] ts with
        | false => .fail 4
        | true => openT d fun d2 => match is1 [41] (adv ts) with
          | true => (run n .block d (adv (adv ts))).bind fun b ts _ => mustT sEnd ts fun ts => .ok (.cons (.ex 9 0 [] .nil .nil .nil .nil [] b) (.cons (lf 6 0 nm) .nil)) ts false
          | false => (run n (.params []) d2 (adv ts)).bind fun ps ts _ => match ps with
            | .ex _ _ _ _ _ _ _ pl _ => mustT [41] ts fun ts => (run n .block d ts).bind fun b ts _ => mustT sEnd ts fun ts => .ok (.cons (.ex 9 0 [] .nil .nil .nil .nil pl b) (.cons (lf 6 0 nm) .nil)) ts false
            | _ => .oof
      | false => match is1 [40] ts with
        | false => .fail 4
        | true => openT d fun d2 => match is1 [41] (adv ts) with
          | true => (run n .block d (adv (adv ts))).bind fun b ts _ => mustT sEnd ts fun ts => .ok (.ex 9 0 [] .nil .nil .nil .nil [] b) ts false
          | false => (run n (.params []) d2 (adv ts)).bind fun ps ts _ => match ps with
            | .ex _ _ _ _ _ _ _ pl _ => mustT [41] ts fun ts => (run n .block d ts).bind fun b ts _ => mustT sEnd ts fun ts => .ok (.ex 9 0 [] .nil .nil .nil .nil pl b) ts false
            | _ => .oof
    | .params acc => nameT ts fun nm ts => match is1 [44] ts with
      | true => run n (.params (acc ++ [nm])) deep (adv ts)
      | false => .ok (.ex 0 0 [] .nil .nil .nil .nil (acc ++ [nm]) .nil) ts false
    | .expr above => (run n .operand deep ts).bind fun l ts _ => run n (.exprL l above) deep ts
    | .exprL l above => match !((hd ts).kind == 4) || decide (bindN (hd ts).text ≤ above) with
      | true => .ok l ts false
      | false => (run n (.bin l (bindN (hd ts).text)) deep ts).bind fun e ts _ => run n (.exprL e above) deep ts
    | .bin l k => match (hd ts).text == [46, 46] with
      | true => openT deep fun d => (run n (.expr (k - 1)) d (adv ts)).bind fun r ts' _ => .ok (.ex 11 0 (hd ts).text l r .nil .nil [] .nil) ts' false
      | false => (run n (.expr k) deep (adv ts)).bind fun r ts' _ => .ok (.ex 11 0 (hd ts).text l r .nil .nil [] .nil) ts' false
    | .operand => match isB (hd ts) [sNot, [45], [35], [126]] with
      | false => run n .post deep ts
      | true => openT deep fun d => (run n .operand d (adv ts)).bind fun r ts' _ => .ok (.ex 10 0 (hd ts).text .nil r .nil .nil [] .nil) ts' false
    | .post => (run n .primary deep ts).bind fun e ts' _ => run n (.postL e (is1 [40] ts)) deep ts'
    | .postL e own => match is1 [91] ts with
      | true => (run n (.bracket e) deep ts).bind fun e ts _ => run n (.postL e false) deep ts
      | false => match is1 [46] ts with
        | true => nameT (adv ts) fun nm ts => run n (.postL (.ex 7 0 [] e (lf 5 0 nm) .nil .nil [] .nil) false) deep ts
        | false => match is1 [40] ts with
          | true => openT deep fun d => match is1 [41] (adv ts) with
            | true => run n (.postL (.ex 8 0 [] e .nil .nil .nil [] .nil) false) deep (adv (adv ts))
            | false => (run n (.args .nil) d (adv ts)).bind fun ags ts _ => mustT [41] ts fun ts => run n (.postL (.ex 8 0 [] e .nil .nil ags [] .nil) false) deep ts
          | false => .ok e ts own
    | .primary => if (hd ts).kind = 1 then .ok (lf 6 0 (hd ts).text) (adv ts) false
      else if (hd ts).kind = 2 then .ok (lf 4 (hd ts).n []) (adv ts) false
      else if (hd ts).kind = 3 then .ok (lf 5 0 (hd ts).text) (adv ts) false
      else run n .signed deep ts
    | .signed => if is1 sNil ts then .ok (lf 1 0 []) (adv ts) false else if is1 sTrue ts then .ok (lf 2 0 []) (adv ts) false else if is1 sFalse ts then .ok (lf 3 0 []) (adv ts) false
      else if is1 [40] ts then openT deep fun d => (run n (.expr 0) d (adv ts)).bind fun e ts _ => mustT [41] ts fun ts => .ok e ts false
      else if is1 sFunction ts then run n (.func false) deep ts
      else if is1 [123] ts then openT deep fun d => match is1 [125] (adv ts) with
        | true => .ok (.ex 12 0 [] .nil .nil .nil .nil [] .nil) (adv (adv ts)) false
        | false => (run n (.items .nil .nil) d (adv ts)).bind fun r ts _ => match r with
          | .cons ks (.cons ags .nil) => mustT [125] ts fun ts => .ok (.ex 12 0 [] .nil .nil ks ags [] .nil) ts false
          | _ => .oof
      else .fail 4
    | .bracket l => openT deep fun d => mustT [91] ts fun ts => (run n (.expr 0) d ts).bind fun r ts _ => mustT [93] ts fun ts => .ok (.ex 7 0 [] l r .nil .nil [] .nil) ts false
    | .args acc => (run n (.expr 0) deep ts).bind fun a ts _ => match is1 [44] ts with
      | true => run n (.args (snoc acc a)) deep (adv ts)
      | false => .ok (snoc acc a) ts false
    | .items ks ags => (run n .item deep ts).bind fun r ts _ => match r with
      | .cons k (.cons a .nil) => (match is1 [44] ts with
        | true => run n (.items (snoc ks k) (snoc ags a)) deep (adv ts)
        | false => .ok (.cons (snoc ks k) (.cons (snoc ags a) .nil)) ts false)
      | _ => .oof
    | .item =>
      if (hd ts).kind = 1 ∧ 1 < ts.length ∧ is1 [61] (adv ts) = true then (run n (.expr 0) deep (adv (adv ts))).bind fun a ts' _ => .ok (.cons (lf 5 0 (hd ts).text) (.cons a .nil)) ts' false
      else if is1 [91] ts then (run n (.bracket .nil) deep ts).bind fun k ts _ => match k with
        | .ex _ _ _ _ r _ _ _ _ => mustT [61] ts fun ts => (run n (.expr 0) deep ts).bind fun a ts _ => .ok (.cons r (.cons a .nil)) ts false
        | _ => .oof
      else (run n (.expr 0) deep ts).bind fun a ts _ => .ok (.cons .nil (.cons a .nil)) ts false
def parseT (n : Nat) (ts : List Tok) : Res := (run n .block 0 ts).bind fun b ts _ => match (hd ts).kind == 5 with
  | true => .ok b ts false
  | false => .fail 4
def letB : List UInt8 := [97, 98, 99, 100, 101, 102, 103, 104, 105, 106, 107, 108, 109, 110, 111, 112, 113, 114, 115, 116, 117, 118, 119, 120, 121, 122, 65, 66, 67, 68, 69, 70, 71, 72, 73, 74, 75, 76, 77, 78, 79, 80, 81, 82, 83, 84, 85, 86, 87, 88, 89, 90, 95]
def digB : List UInt8 := [48, 49, 50, 51, 52, 53, 54, 55, 56, 57]
def sglB : List UInt8 := [43, 45, 42, 37, 38, 124, 126, 60, 62, 61, 46, 44, 40, 41, 91, 93, 123, 125, 35]
def prsB : List UInt8 := [47, 47, 32, 60, 60, 32, 62, 62, 32, 61, 61, 32, 126, 61, 32, 60, 61, 32, 62, 61, 32, 46, 46]
def wrdB : List UInt8 := [32, 97, 110, 100, 32, 98, 114, 101, 97, 107, 32, 99, 97, 116, 99, 104, 32, 100, 111, 32, 101, 108, 115, 101, 32, 101, 108, 115, 101, 105, 102, 32, 101, 110, 100, 32, 102, 97, 108, 115, 101, 32, 102, 111, 114, 32, 102, 117, 110, 99, 116, 105, 111, 110, 32, 105, 102, 32, 108, 111, 99, 97, 108, 32, 110, 105, 108, 32, 110, 111, 116, 32, 111, 114, 32, 114, 101, 116, 117, 114, 110, 32, 116, 104, 101, 110, 32, 116, 114, 117, 101, 32, 116, 114, 121, 32, 119, 104, 105, 108, 101, 32]
def lng (s set : List UInt8) : Nat := (s.takeWhile (fun c => set.contains c)).length
def resB (s : List UInt8) : Bool := !(s == []) && !(Lib.contains s [32]) && Lib.contains wrdB ([32] ++ s ++ [32])
def valN (d : List UInt8) : Nat := d.foldl (fun a c => 10 * a + (c.toNat - 48)) 0
def numP (d : List UInt8) : Int × Int :=
  if d.headD 0 = 48 ∧ d ≠ [48] then (0, 4) else if 9223372036854775808 ≤ valN d then (0, 15) else (valN d, 0)
def hexV (c : UInt8) : Int := if 48 ≤ c ∧ c ≤ 57 then (c.toNat : Int) - 48 else if 97 ≤ c ∧ c ≤ 102 then (c.toNat : Int) - 97 + 10 else -1
def nmd (c : UInt8) : Option UInt8 := if c = 110 then some 10 else if c = 116 then some 9 else if c = 92 then some 92 else if c = 34 then some 34 else none
def unq1 (s : List UInt8) : Option (UInt8 × Nat) := match s with
  | [] => none
  | c :: l => if c < 32 ∨ 126 < c ∨ c = 34 ∨ (c = 92 ∧ l = []) then none
    else if c = 92 then
      (if l.headD 0 = 120 then (if s.length < 4 ∨ hexV (s.getD 2 0) < 0 ∨ hexV (s.getD 3 0) < 0 then none else some (UInt8.ofNat ((hexV (s.getD 2 0)).toNat * 16 + (hexV (s.getD 3 0)).toNat), 4))
       else match nmd (l.headD 0) with | some v => some (v, 2) | none => none)
    else some (c, 1)
def unqGo : Nat → List UInt8 → Option (List UInt8)
  | 0, _ => none
  | n + 1, s => if s = [] then some [] else match unq1 s with
    | none => none
    | some (c, k) => (unqGo n (s.drop k)).map (c :: ·)
def unqT (m : List UInt8) : List UInt8 × Int := match unqGo (m.length + 1) m with
  | none => ([], 4)
  | some b => if 4096 < b.length then ([], 3) else (b, 0)
inductive WR where
  | tok (t : Tok) (n : Nat)
  | err (c : Int)
def qEnd : List UInt8 → Nat → Option Nat
  | [], _ => none
  | c :: l, k => if c = 34 then some k else if c = 92 then (match l with | [] => none | _ :: l' => qEnd l' (k + 2)) else qEnd l (k + 1)
def strT (s : List UInt8) : WR := match qEnd ((s.takeWhile (fun c => !(c == 10))).drop 1) 1 with
  | none => .err 14
  | some k => match unqT ((s.take k).drop 1) with
    | (t, e) => if e = 0 then .tok ⟨3, t, 0, 0⟩ (k + 1) else if e = 4 then .err 14 else .err e
def numT (s : List UInt8) : WR := match numP (s.take (lng s digB)) with
  | (v, e) => if e = 4 ∨ letB.contains ((s.drop (lng s digB)).headD 0) = true then .err 14 else if e = 0 then .tok ⟨2, s.take (lng s digB), v, 0⟩ (lng s digB) else .err e
def wordT (s : List UInt8) : WR :=
  if letB.contains (s.headD 0) = true then
    (if 24 < lng s (letB ++ digB) then .err 14 else .tok ⟨if resB (s.take (lng s (letB ++ digB))) = true then 4 else 1, s.take (lng s (letB ++ digB)), 0, 0⟩ (lng s (letB ++ digB)))
  else if digB.contains (s.headD 0) = true then numT s
  else if s.headD 0 = 34 then strT s
  else if 1 < s.length ∧ (s.take 2).contains 32 = false ∧ Lib.contains prsB (s.take 2) = true then .tok ⟨4, s.take 2, 0, 0⟩ 2
  else if sglB.contains (s.headD 0) = true then .tok ⟨4, s.take 1, 0, 0⟩ 1
  else .err 14
inductive LR where
  | ok (ts : List Tok)
  | fail (c : Int)
def LR.cons (t : Tok) : LR → LR
  | .ok ts => .ok (t :: ts)
  | .fail c => .fail c
def endT (line : Int) : Tok := ⟨5, [], 0, line⟩
def Tok.at (t : Tok) (line : Int) : Tok := { t with line := line }
def lexGo : Nat → List UInt8 → Int → LR
  | 0, _, line => .ok [endT line]
  | n + 1, s, line => if s = [] then .ok [endT line]
    else if s.headD 0 = 10 then lexGo n (s.drop 1) (line + 1)
    else if [32, 9, 13].contains (s.headD 0) = true then lexGo n (s.drop 1) line
    else if s.take 2 = [45, 45] then (if s.contains 10 = true then lexGo n (s.dropWhile (fun c => !(c == 10))) line else .ok [endT line])
    else match wordT s with
      | .err c => .fail c
      | .tok t k => (lexGo n (s.drop k) line).cons (t.at line)
def lexT (s : List UInt8) : LR := if 32768 < s.length then .fail 3 else lexGo (s.length + 1) s 0
end Go.Proofs.YtoddjlclpnoomaaGreatDoor
namespace Go.Sh
variable {P : Program} {w : World}
theorem Keep.grown {w w' : World} {row : Option Nat} (h : w.grownBy w' row) : Keep row.toList w w' :=
  ⟨h.size, fun b hb hn => h.block b hb fun e => hn (by rw [← e]; simp), h.os, h.output⟩
theorem append_own (t ty e : TypeId) (i : TypeInfo) (z : Value) (size bytes : Nat) (ht : P.underlying t = some (.slice e)) (hi : P.info? e = some i) (hz : i.zero = some z)
   (hsize : i.size = size) (hby : i.bytes = bytes) (hzs : z.cells.size = size) (hsz : 0 < size)
   (v : Value) (n : Nat) (xs : List Value) (hown : w.ownsRow 0 e size v n xs)
   (a : Addr) (m c : Nat) (news : List Value) (hl : news.length = m * size) (hnews : ∀ j u, news[j]? = some u → w.cell? (a.add j) = some u) (h1 : ∀ u ∈ news, u.oneCell' = true)
   (h63 : n + m ≤ maxLen) (hbytes : (n + m) * bytes ≤ 140737488355328) :
   ∃ v' w', (Builtin.append_ #[t, t] ty #[v, .slice (some a) m c]).run P w = .ok v' w' ∧ w'.ownsRow 0 e size v' (n + m) (xs ++ news) ∧ Keep v.ownBlock.toList w w' ∧
     (v'.ownBlock = v.ownBlock ∨ ∃ g, v'.ownBlock = some g ∧ w.heap.size ≤ g) := by
 obtain ⟨v', w', hr, ho, hg, hn⟩ := run_append_own (P := P) w 0 t ty e i z size bytes ht hi hz hsize hby hzs hsz v n xs hown a m c news hl hnews h1 h63 hbytes (Nat.zero_le _); refine ⟨v', w', hr, ho, Keep.grown hg, ?_⟩; rcases hown.2 with ⟨rfl, rfl⟩ | ⟨g, cap, cur, rfl, hbg, hgg, hnc, hcm, hcs, htake⟩
 · obtain ⟨v2, w2, hr2, ho2, _, _⟩ := run_append_own (P := P) w w.heap.size t ty e i z size bytes ht hi hz hsize hby hzs hsz (.slice none 0 0) 0 xs ⟨hown.1, .inl ⟨rfl, rfl⟩⟩ a m c news hl hnews h1 h63 hbytes (Nat.le_refl _); rw [hr] at hr2
   cases hr2
   rcases ho2.2 with ⟨rfl, _⟩ | ⟨g, cap, cur, rfl, hb, _⟩
   · exact .inl rfl
   · exact .inr ⟨g, rfl, hb⟩
 · subst hsize; by_cases hroom : n + m ≤ cap
   · have hfit : n * i.size + news.length ≤ cur.size := by rw [hl, hcs, ← Nat.add_mul]; exact Nat.mul_le_mul_right _ hroom
     have hr2 := run_append_room (P := P) w t ty e i ht hi g n cap cur hgg a m c news hl hnews h1 hroom hfit; rw [hr] at hr2
     cases hr2
     exact .inl rfl
   · have hsmall : n + m ≤ 9223372036854775807 := by simp only [maxLen] at h63; omega
     subst hby; have holds : ∀ j u, xs[j]? = some u → w.cell? ((⟨g, 0, none⟩ : Addr).add j) = some u := World.ownsRow.cells (base := 0) ⟨hown.1, .inr ⟨g, cap, cur, rfl, hbg, hgg, hnc, hcm, hcs, htake⟩⟩ (g := g) rfl; have hr2 := run_append_grow (P := P) w t ty e i z ht hi hz ⟨g, 0, none⟩ n cap xs hown.1 holds a m c news hl hnews (by omega) (by omega) (growslice_fits (by omega) hbytes); rw [hr] at hr2
     cases hr2
     exact .inr ⟨_, rfl, Nat.le_refl _⟩
end Go.Sh

namespace Go.Proofs.YtoddjlclpnoomaaGreatDoor
open Go.Sh
set_option maxRecDepth 100000
structure GL (w : World) : Prop where
  big : 12 ≤ w.heap.size
  maxlen : ∃ m, w.cell? ⟨3, 0, none⟩ = some (.int .i64 m)
  ascii : Lib.TabIs Tryz.prog w "strings.asciiSpace" .u8 Lib.asciiSpaceTab
  pow : Lib.TabIs Tryz.prog w "internal/strconv.uint64pow10" .u64 Lib.pow10Tab
  utf : Lib.Utf8Tabs 7 8 w
  erange : ∃ a, w.var? Tryz.prog "strconv.ErrRange" = some #[.iface 272 (.pointer (some a))] ∧ w.cell? ⟨4, 0, none⟩ = some (.iface 272 (.pointer (some a)))
  etype : w.cell? ⟨0, 0, none⟩ = some (.iface 128 (.agg #[.pointer (some ⟨12, 31, none⟩)]))
theorem var_keep {M : List Nat} {w w' : World} {name : String} {g : Nat} {v : Option (Array Value)} (h : w.var? Tryz.prog name = v) (hg : Tryz.prog.globalNamed name = some g) (hk : Keep M w w') (hlt : g < w.heap.size) (hM : g ∉ M) : w'.var? Tryz.prog name = v := by
 unfold World.var? at *; rw [hg] at h ⊢; simp only [Option.bind_some] at h ⊢; rw [hk.same g hlt hM]; exact h
theorem GL.keep {M : List Nat} {w w' : World} (h : GL w) (hk : Keep M w w') (hM : ∀ i ∈ M, 12 ≤ i) : GL w' := by
 have hb := h.big; have n : ∀ g, g < 12 → g ∉ M := fun g hg hm => by have := hM g hm; omega
 refine ⟨Nat.le_trans hb hk.size, ?_, ?_, ?_, ?_, ?_, hk.cell h.etype (n 0 (by omega))⟩
 · obtain ⟨m, hm⟩ := h.maxlen; exact ⟨m, hk.cell hm (n 3 (by omega))⟩
 · exact var_keep (g := 1) h.ascii (by kernel_rfl) hk (by omega) (n 1 (by omega))
 · exact var_keep (g := 5) h.pow (by kernel_rfl) hk (by omega) (n 5 (by omega))
 · exact ⟨fun c hc => hk.cell (h.utf.1 c hc) (n 7 (by omega)), fun i hi => ⟨hk.cell (h.utf.2 i hi).1 (n 8 (by omega)), hk.cell (h.utf.2 i hi).2 (n 8 (by omega))⟩⟩
 · obtain ⟨a, h1, h2⟩ := h.erange; exact ⟨a, var_keep (g := 4) h1 (by kernel_rfl) hk (by omega) (n 4 (by omega)), hk.cell h2 (n 4 (by omega))⟩
theorem GL.new {w w' : World} (h : GL w) (hk : Keep [] w w') : GL w' := h.keep hk (by simp)
theorem J1.gd {b c : Bool} {X : (Value → World → Prop) → Prop} {g : Value → World → Prop} {w : World} (r : Bool) (hX : b = c → ∀ k : Value → World → Prop, k (.bool r) w → X k) (hg : g (if b = c then .bool r else undef) w) :
   J1 (fun k => Gd (.bool b) c (X k) (k undef w)) g := by
 refine J1.go (Gd.b (fun h => hX h g ?_) (fun h => ?_))
 · rw [if_pos h] at hg; exact hg
 · rw [if_neg (by rw [h]; cases c <;> simp)] at hg; exact hg
theorem pkA (w : World) (b r : Bool) : (Pk (.bool b) (if b = true then .bool r else undef) (.bool false)).run Tryz.prog w = .ok (.bool (b && r)) w := by cases b <;> simp [go_sem]
theorem pkO (w : World) (b r : Bool) : (Pk (.bool b) (.bool true) (if b = false then .bool r else undef)).run Tryz.prog w = .ok (.bool (b || r)) w := by cases b <;> simp [go_sem]
theorem ret0 {K : FuncId} {a : Array Value} {w : World} {u : Value} (h : Calls Tryz.prog K a w fun e w' => e = .returned u ∧ w' = w) : Calls Tryz.prog K a w (Ret (fun v w' => v = u ∧ w' = w) NP) :=
  h.mono (by rintro e w' ⟨rfl, rfl⟩; exact ⟨rfl, rfl⟩)
theorem cf52 {args : Array Value} {w : World} {k Q : Value → World → Prop} {e E : List PanicEntry → World → Prop} (h : Calls Tryz.prog 52 args w (Ret Q E)) (hk : ∀ v w', Q v w' → k v w') (he : ∀ c w', E c w' → e c w') : Cf Tryz.prog 52 args w k e :=
  Cf.go (callFunc_run Tryz.func52 (c := codeB Tryz.f52) (by kernel_rfl) (by kernel_rfl) _ _) h hk he
theorem cf53 {args : Array Value} {w : World} {k Q : Value → World → Prop} {e E : List PanicEntry → World → Prop} (h : Calls Tryz.prog 53 args w (Ret Q E)) (hk : ∀ v w', Q v w' → k v w') (he : ∀ c w', E c w' → e c w') : Cf Tryz.prog 53 args w k e :=
  Cf.go (callFunc_run Tryz.func53 (c := codeB Tryz.f53) (by kernel_rfl) (by kernel_rfl) _ _) h hk he
theorem cf56 {args : Array Value} {w : World} {k Q : Value → World → Prop} {e E : List PanicEntry → World → Prop} (h : Calls Tryz.prog 56 args w (Ret Q E)) (hk : ∀ v w', Q v w' → k v w') (he : ∀ c w', E c w' → e c w') : Cf Tryz.prog 56 args w k e :=
  Cf.go (callFunc_run Tryz.func56 (c := codeB Tryz.f56) (by kernel_rfl) (by kernel_rfl) _ _) h hk he
theorem cf92 {args : Array Value} {w : World} {k Q : Value → World → Prop} {e E : List PanicEntry → World → Prop} (h : Calls Tryz.prog 92 args w (Ret Q E)) (hk : ∀ v w', Q v w' → k v w') (he : ∀ c w', E c w' → e c w') : Cf Tryz.prog 92 args w k e :=
  Cf.go (callFunc_run Tryz.func92 (c := codeB Tryz.f92) (by kernel_rfl) (by kernel_rfl) _ _) h hk he
theorem cf149 {args : Array Value} {w : World} {k Q : Value → World → Prop} {e E : List PanicEntry → World → Prop} (h : Calls Tryz.prog 149 args w (Ret Q E)) (hk : ∀ v w', Q v w' → k v w') (he : ∀ c w', E c w' → e c w') : Cf Tryz.prog 149 args w k e :=
  Cf.go (callFunc_run Tryz.func149 (c := codeB Tryz.f149) (by kernel_rfl) (by kernel_rfl) _ _) h hk he
theorem cf164 {args : Array Value} {w : World} {k Q : Value → World → Prop} {e E : List PanicEntry → World → Prop} (h : Calls Tryz.prog 164 args w (Ret Q E)) (hk : ∀ v w', Q v w' → k v w') (he : ∀ c w', E c w' → e c w') : Cf Tryz.prog 164 args w k e :=
  Cf.go (callFunc_run Tryz.func164 (c := codeB Tryz.f164) (by kernel_rfl) (by kernel_rfl) _ _) h hk he
theorem cf189 {args : Array Value} {w : World} {k Q : Value → World → Prop} {e E : List PanicEntry → World → Prop} (h : Calls Tryz.prog 189 args w (Ret Q E)) (hk : ∀ v w', Q v w' → k v w') (he : ∀ c w', E c w' → e c w') : Cf Tryz.prog 189 args w k e :=
  Cf.go (callFunc_run Tryz.func189 (c := codeB Tryz.f189) (by kernel_rfl) (by kernel_rfl) _ _) h hk he
theorem cf190 {args : Array Value} {w : World} {k Q : Value → World → Prop} {e E : List PanicEntry → World → Prop} (h : Calls Tryz.prog 190 args w (Ret Q E)) (hk : ∀ v w', Q v w' → k v w') (he : ∀ c w', E c w' → e c w') : Cf Tryz.prog 190 args w k e :=
  Cf.go (callFunc_run Tryz.func190 (c := codeB Tryz.f190) (by kernel_rfl) (by kernel_rfl) _ _) h hk he
theorem cf192 {args : Array Value} {w : World} {k Q : Value → World → Prop} {e E : List PanicEntry → World → Prop} (h : Calls Tryz.prog 192 args w (Ret Q E)) (hk : ∀ v w', Q v w' → k v w') (he : ∀ c w', E c w' → e c w') : Cf Tryz.prog 192 args w k e :=
  Cf.go (callFunc_run Tryz.func192 (c := codeB Tryz.f192) (by kernel_rfl) (by kernel_rfl) _ _) h hk he
theorem cf193 {args : Array Value} {w : World} {k Q : Value → World → Prop} {e E : List PanicEntry → World → Prop} (h : Calls Tryz.prog 193 args w (Ret Q E)) (hk : ∀ v w', Q v w' → k v w') (he : ∀ c w', E c w' → e c w') : Cf Tryz.prog 193 args w k e :=
  Cf.go (callFunc_run Tryz.func193 (c := codeB Tryz.f193) (by kernel_rfl) (by kernel_rfl) _ _) h hk he
theorem cf206 {args : Array Value} {w : World} {k Q : Value → World → Prop} {e E : List PanicEntry → World → Prop} (h : Calls Tryz.prog 206 args w (Ret Q E)) (hk : ∀ v w', Q v w' → k v w') (he : ∀ c w', E c w' → e c w') : Cf Tryz.prog 206 args w k e :=
  Cf.go (callFunc_run Tryz.func206 (c := codeB Tryz.f206) (by kernel_rfl) (by kernel_rfl) _ _) h hk he
variable (w : World)
theorem c53 (l : List UInt8) (c : UInt8) : Calls Tryz.prog 53 #[str l, .int .u8 c.toNat] w (Ret (fun v w' => v = .int .i64 (Lib.indexByte l c) ∧ w' = w) NP) := by
 have := ret0 (Tryz.strings_IndexByte ⟨l.toArray⟩ c.toNat w); simpa [str] using this
theorem c52 (l p : List UInt8) : Calls Tryz.prog 52 #[str l, str p] w (Ret (fun v w' => v = .bool (Lib.hasPrefix l p) ∧ w' = w) NP) := by
 have := ret0 (Tryz.strings_HasPrefix ⟨l.toArray⟩ ⟨p.toArray⟩ w); simpa [str] using this
theorem c189 (l p : List UInt8) : Calls Tryz.prog 189 #[str l, str p] w (Ret (fun v w' => v = str (Lib.trimPrefix l p) ∧ w' = w) NP) := by
 have := ret0 (Tryz.strings_TrimPrefix ⟨l.toArray⟩ ⟨p.toArray⟩ w); simpa [str] using this
theorem c192 (l p : List UInt8) : Calls Tryz.prog 192 #[str l, str p] w (Ret (fun v w' => v = .tuple #[str (Lib.trimPrefix l p), .bool (Lib.hasPrefix l p)] ∧ w' = w) NP) := by
 have := ret0 (Tryz.strings_CutPrefix ⟨l.toArray⟩ ⟨p.toArray⟩ w); simpa [str] using this
theorem c193 (l p : List UInt8) (hl : l.length ≤ 9223372036854775807) : Calls Tryz.prog 193 #[str l, str p] w (Ret (fun v w' => v = .tuple #[str (Lib.trimSuffix l p), .bool (Lib.hasSuffix l p)] ∧ w' = w) NP) := by
 have := ret0 (Tryz.strings_CutSuffix ⟨l.toArray⟩ ⟨p.toArray⟩ w hl); simpa [str] using this
theorem c92 (l p : List UInt8) (g : GL w) (hl : l.length < 4294967281) : Calls Tryz.prog 92 #[str l, str p] w (Ret (fun v w' => v = .bool (Lib.contains l p) ∧ w' = w) NP) := by
 obtain ⟨m, hm⟩ := g.maxlen; have := ret0 (Tryz.strings_Contains ⟨l.toArray⟩ ⟨p.toArray⟩ m w hl hm); simpa [str] using this
theorem drewN_os : ∀ (n : Nat) (w : World), (w.drewN (n + 1)).os = w.os
  | 0, w => rfl
  | n + 1, w => drewN_os n w.drew
theorem drewN_out : ∀ (n : Nat) (w : World), (w.drewN (n + 1)).output = w.output
  | 0, w => rfl
  | n + 1, w => drewN_out n w.drew
theorem drewN_keep : ∀ (n : Nat) (w : World), Keep [] w (w.drewN n)
  | 0, w => Keep.refl _ _
  | n + 1, w => ⟨by simp, fun b _ _ => by simp, drewN_os n w, drewN_out n w⟩
theorem c149 (l p : List UInt8) (g : GL w) (hl : l.length < 4294967281) : Calls Tryz.prog 149 #[str l, str p] w (Ret (fun v w' => v = .tuple #[str (Lib.cut l p).1, str (Lib.cut l p).2.1, .bool (Lib.cut l p).2.2] ∧ Keep [] w w') NP) := by
 obtain ⟨m, hm⟩ := g.maxlen; refine (Tryz.strings_Cut ⟨l.toArray⟩ ⟨p.toArray⟩ m w hl hm).mono ?_; rintro e w' ⟨rfl, n, rfl⟩; exact ⟨by simp [str], drewN_keep n w⟩
theorem below_keep {w w' : World} (h : RowKit.Below w.heap.size w w') : Keep [] w w' := ⟨h.size, fun b hb _ => h.block b hb, h.os, h.output⟩
theorem c164 (n : Int) (g : GL w) (h0 : -9223372036854775808 ≤ n) (h1 : n ≤ 9223372036854775807) : Calls Tryz.prog 164 #[.int .i64 n, .int .i64 10] w (Ret (fun v w' => v = str (Lib.itoa n) ∧ Keep [] w w') NP) := by
 refine (Tryz.strconv_FormatInt_10 n h0 h1 w g.pow).mono ?_; rintro e w' ⟨rfl, k, os, rfl⟩; refine ⟨rfl, ?_⟩; exact (drewN_keep k w).trans ⟨by simp [«Sort».grow], fun b hb _ => by rw [show («Sort».grow (w.drewN k) os).heap = (w.drewN k).heap ++ os from rfl, Array.getElem?_append_left hb], rfl, rfl⟩
theorem c206 (l : List UInt8) (g : GL w) (hl : l.length ≤ 9223372036854775807) : Calls Tryz.prog 206 #[str l] w (Ret (fun v w' => v = .tuple #[.int .i32 (Lib.decodeLastL l).1, .int .i64 (Lib.decodeLastL l).2] ∧ Keep [] w w') NP) := by
 refine (Tryz.utf8_DecodeLastRuneInString ⟨l.toArray⟩ w hl g.utf).mono ?_; rintro e w' ⟨rfl, h⟩; exact ⟨rfl, below_keep h⟩
theorem c56 (l : List UInt8) (g : GL w) (hl : l.length < 4294967281) (ha : ∀ b ∈ l, b.toNat < 128) :
   Calls Tryz.prog 56 #[str l] w (Ret (fun v w' => ∃ b, v = .slice (some ⟨b, 0, none⟩) (Lib.fields l).length (Lib.fields l).length ∧ New w b ((Lib.fields l).map str) w') NP) := by
 refine (Tryz.strings_Fields ⟨l.toArray⟩ w hl (fun j b hb => ha b (List.mem_of_getElem? hb)) g.ascii).mono ?_; rintro e w' ⟨rfl, rfl⟩; exact ⟨_, rfl, New.mk' w ((Lib.fields l).map str).toArray 9⟩
theorem c190_ok (s : List UInt8) (hl : s.length ≤ 281474976710656) (v : Int) (h : Lib.parseIntB 64 s = .ok v) : Calls Tryz.prog 190 #[str s, .int .i64 10, .int .i64 64] w (Ret (fun u w' => u = .tuple #[.int .i64 v, .nilIface] ∧ Keep [] w w') NP) := by
 refine (Tryz.strconv_ParseInt_10_at64_ok ⟨s.toArray⟩ (by show s.length ≤ _; omega) v h w).mono ?_; rintro e w' ⟨rfl, rfl | ⟨t, rfl⟩⟩
 · exact ⟨rfl, Keep.refl _ _⟩
 · refine ⟨rfl, ?_⟩; exact ⟨by rw [Lib.bytesWorld_size]; omega, fun b hb _ => Lib.bytesWorld_at_old w _ _ b hb, rfl, rfl⟩
theorem c190_range (s : List UInt8) (g : GL w) (hl : s.length ≤ 281474976710656) (h : Lib.parseIntB 64 s = .range) : Calls Tryz.prog 190 #[str s, .int .i64 10, .int .i64 64] w (Ret (fun u w' => ∃ v N a, u = .tuple #[.int .i64 v, .iface 256 (ptr N)] ∧ At w' N [str [80, 97, 114, 115, 101, 73, 110, 116], str s, .iface 272 (.pointer (some a))] ∧ w.heap.size ≤ N ∧ w.cell? ⟨4, 0, none⟩ = some (.iface 272 (.pointer (some a))) ∧ Keep [] w w') NP) := by
 obtain ⟨a, h1, h2⟩ := g.erange; refine (Tryz.strconv_ParseInt_10_at64_range_var ⟨s.toArray⟩ hl h 272 _ w h1).mono ?_; rintro e w' ⟨N, rfl, h3, h4, h5⟩; exact ⟨_, N, a, rfl, ⟨266, h4⟩, h3, h2, below_keep h5⟩
end Go.Proofs.YtoddjlclpnoomaaGreatDoor


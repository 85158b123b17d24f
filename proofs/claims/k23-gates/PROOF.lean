import PyProof.Rows.All
import Wide.All
import OpenK.AllK
import Wide.FinOn
import HandS.ForExc
import HandS.Comp
import HandS.Dict
import HandS.Iter
import HandS.Text
import HandS.Walk
import HandS.TupAny
import HandS.TupLe
import HandS.SortInts
import HandS.IsInst
import HandS.Deep
import HandS.Style
import HandS.Wide
import HandS.WideBits
import HandS.Flow
import HandS.Zip
import HandS.Rev
import HandS.RaiseMore
import HandS.More
import HandS.Small
import HandS.WordsDict
import HandS.SetFor
import HandS.TupSets
import KE.GoesMore
import PySem.Challenge.RW_unhurried_k23_gates
set_option Elab.async false
set_option linter.all false
set_option maxRecDepth 100000
set_option maxHeartbeats 4000000
namespace L2.Eng
open PySem
/-! ## values -/
inductive D where
  | non
  | bl (b : Bool)
  | int (i : Int)
  | str (x : Str)
  | tup (xs : List D)
  | lst (xs : List D)
  | scr (xs : List D)
  | dct (xs : List D)
  | ty (n : String)
/-- a whole number from 0 on -/
def natD (k : Nat) : D := .int (k : Nat)
/-- a written text -/
def strD (s : String) : D := .str (Str.ofString s)
/-- == of plain data, as Python has it -/
def D.toP : D → PyData
  | .non => .none
  | .bl b => .bool b
  | .int i => .int i
  | .str x => .str x
  | .tup xs => .tuple (toPs xs)
  | .lst xs => .list (toPs xs)
  | .scr xs => .list (toPs xs)
  | .dct _ => .dict []
  | .ty _ => .dict []
where
  toPs : List D → List PyData
  | [] => []
  | x :: xs => x.toP :: toPs xs
mutual
def D.eq : D → D → Bool
  | .non, y => match y with | .non => true | _ => false
  | .bl a, y => match y with | .bl b => a == b | .int j => (if a then 1 else 0) == j | _ => false
  | .int i, y => match y with | .int j => i == j | .bl b => i == (if b then 1 else 0) | _ => false
  | .str a, y => match y with | .str b => a == b | _ => false
  | .tup xs, y => match y with | .tup ys => D.eqs xs ys | _ => false
  | .lst xs, y => match y with | .lst ys => D.eqs xs ys | _ => false
  | .scr _, _ => false
  | .dct _, _ => false
  | .ty _, _ => false
def D.eqs : List D → List D → Bool
  | [], ys => match ys with | [] => true | _ :: _ => false
  | x :: xs, ys => match ys with | [] => false | y :: ys => D.eq x y && D.eqs xs ys
end
/-- plain data (no dict, no type), not too deep, its texts well made -/
def D.ok : D → Nat → Bool
  | .non, _ => true
  | .bl _, _ => true
  | .int _, _ => true
  | .str x, _ => PyData.strOk x
  | .tup xs, n => match n with | 0 => false | n + 1 => oks xs n
  | .lst xs, n => match n with | 0 => false | n + 1 => oks xs n
  | .scr _, _ => false
  | .dct _, _ => false
  | .ty _, _ => false
where
  oks : List D → Nat → Bool
  | [], _ => true
  | x :: xs, n => x.ok n && oks xs n
def D.flat : D → Bool
  | .non => true
  | .bl _ => true
  | .int _ => true
  | .str _ => true
  | .ty _ => true
  | _ => false
/-! ## bindings, environments, answers -/
/-- what a name holds: a value that stands still; an own list (or dict) that nobody else holds; the same, lent by the caller -/
inductive B where
  | sh (d : D)
  | ow (d : D)
  | io (d : D)
abbrev Env := List (Option B)
def B.dat : B → D
  | .sh d => d
  | .ow d => d
  | .io d => d
inductive Ans (α : Type) where
  | stuck
  | val (a : α) (e : Env)
  | exc (x : D) (e : Env)
def Ans.bind {α β : Type} (x : Ans α) (f : α → Env → Ans β) : Ans β :=
  match x with
  | .stuck => .stuck
  | .val a e => f a e
  | .exc x e => .exc x e
def opt {α : Type} (o : Option α) (e : Env) : Ans α :=
  match o with
  | none => .stuck
  | some a => .val a e
/-- an operand: a name, looked up when the operation comes, or a value -/
inductive Op where
  | sl (i : Nat)
  | v (d : D)
def getB : Env → Nat → Option B
  | [], _ => none
  | b :: _, 0 => b
  | _ :: r, i + 1 => getB r i
def setB : Env → Nat → Option B → Env
  | [], _, _ => []
  | _ :: r, 0, x => x :: r
  | b :: r, i + 1, x => b :: setB r i x
/-- the operand's value, looked at -/
def pk (e : Env) : Op → Option D
  | .v d => some d
  | .sl i => match getB e i with
    | some b => some b.dat
    | none => none
/-- the operand's value, kept by somebody: an own thing stands still from then on -/
def tk (e : Env) : Op → Option (D × Env)
  | .v d => some (d, e)
  | .sl i => match getB e i with
    | some (.sh d) => some (d, e)
    | some (.ow d) => some (d, setB e i (some (.sh d)))
    | _ => none
def pks (e : Env) : List Op → Option (List D)
  | [] => some []
  | o :: r => match pk e o with
    | none => none
    | some d => match pks e r with
      | none => none
      | some ds => some (d :: ds)
def tks : List Op → Env → Option (List D × Env)
  | [], e => some ([], e)
  | o :: r, e => match tk e o with
    | none => none
    | some (d, e1) => match tks r e1 with
      | none => none
      | some (ds, e2) => some (d :: ds, e2)
/-! ## operations on values -/
def maxLen : Nat := 16777216
def truth : D → Option Bool
  | .non => some false
  | .bl b => some b
  | .int i => some (i != 0)
  | .str x => if x.length ≤ maxLen then some ((x.length : Int) != 0) else none
  | .tup xs => some (!xs.isEmpty)
  | .lst xs => some (!xs.isEmpty)
  | _ => none
def binD : Operator → D → D → Option (Bool × D)
  | .Add, .int i, .int j => some (false, .int (i + j))
  | .Add, .str a, .str b => if a.length + b.length ≤ maxLen then some (false, .str (a ++ b)) else none
  | .Add, .lst a, .lst b => if a.length + b.length ≤ maxLen then some (true, .lst (a ++ b)) else none
  | .Add, .tup a, .tup b => if a.length + b.length ≤ maxLen then some (false, .tup (a ++ b)) else none
  | .Sub, .int i, .int j => some (false, .int (i - j))
  | .Mult, .int i, .int j => if (-(2 ^ 64) < i ∧ i < 2 ^ 64) ∨ (-(2 ^ 64) < j ∧ j < 2 ^ 64) then some (false, .int (i * j)) else none
  | .Mult, .lst a, .int j => if -(2 ^ 63) ≤ j ∧ j < 2 ^ 63 ∧ a.length * j.toNat ≤ maxLen then some (true, .lst (List.replicate j.toNat a).flatten) else none
  | .Mod, .int i, .int j => if 0 < j then some (false, .int (i % j)) else none
  | .FloorDiv, .int i, .int j => if 0 < j ∧ j < 1073741824 then some (false, .int (i / j)) else none
  | .Pow, .int i, .int j => if 0 ≤ j ∧ j ≤ 1000000 ∧ i.natAbs < 2 ^ 64 then some (false, .int (i ^ j.toNat)) else none
  | .LShift, .int i, .int j => if 0 ≤ j ∧ j ≤ 1000000 ∧ i.natAbs < 2 ^ 64 then some (false, .int (i * 2 ^ j.toNat)) else none
  | .RShift, .int i, .int j => if 0 ≤ j then some (false, .int (i / 2 ^ j.toNat)) else none
  | .BitAnd, .int i, .int j => some (false, .int (Builtin.bitAnd i j))
  | .BitOr, .int i, .int j => some (false, .int (Builtin.bitOr i j))
  | .BitXor, .int i, .int j => some (false, .int (Builtin.bitXor i j))
  | _, _, _ => none
/-- a op= b: numbers and texts -/
def augD : Operator → D → D → Option D
  | .Add, .int i, .int j => some (.int (i + j))
  | .Add, .str a, .str b => if a.length + b.length ≤ maxLen then some (.str (a ++ b)) else none
  | .Sub, .int i, .int j => some (.int (i - j))
  | .Mult, .int i, .int j => if (-(2 ^ 64) < i ∧ i < 2 ^ 64) ∨ (-(2 ^ 64) < j ∧ j < 2 ^ 64) then some (.int (i * j)) else none
  | .Mod, .int i, .int j => if 0 < j then some (.int (i % j)) else none
  | .FloorDiv, .int i, .int j => if 0 < j ∧ j < 1073741824 then some (.int (i / j)) else none
  | .LShift, .int i, .int j => if 0 ≤ j ∧ j ≤ 1000000 ∧ i.natAbs < 2 ^ 64 then some (.int (i * 2 ^ j.toNat)) else none
  | .RShift, .int i, .int j => if 0 ≤ j then some (.int (i / 2 ^ j.toNat)) else none
  | .BitAnd, .int i, .int j => some (.int (Builtin.bitAnd i j))
  | .BitOr, .int i, .int j => some (.int (Builtin.bitOr i j))
  | .BitXor, .int i, .int j => some (.int (Builtin.bitXor i j))
  | _, _, _ => none
def unD : UnaryOp → D → Option D
  | .USub, .int i => some (.int (-i))
  | .Invert, .int i => some (.int (Builtin.bitNot i))
  | _, _ => none
/-- how deep a value may be that is compared -/
def deepest : Nat := 60
mutual
def D.lt : D → D → Option Bool
  | .int i, y => match y with | .int j => some (decide (i < j)) | _ => none
  | .str a, y => match y with | .str b => some (decide (a.cps.toList < b.cps.toList)) | _ => none
  | .tup xs, y => match y with | .tup ys => D.lts xs ys | _ => none
  | _, _ => none
def D.lts : List D → List D → Option Bool
  | [], ys => match ys with | [] => some false | _ :: _ => some true
  | x :: xs, ys => match ys with | [] => some false | y :: ys => if D.eq x y then D.lts xs ys else D.lt x y
end
def inD (x : D) (xs : List D) : Bool := xs.any fun y => D.eq y x
def isNone : D → Bool
  | .non => true
  | _ => false
/-- a dict is no tuple -/
def eqDT : D → D → Option Bool
  | .dct _, .tup _ => some false
  | .tup [a, .dct _], .tup [b, .tup _] => if a.ok deepest && b.ok deepest then some false else none
  | _, _ => none
def cmpD : CmpOp → D → D → Option Bool
  | .Eq, a, b => if a.ok deepest && b.ok deepest then some (D.eq a b) else eqDT a b
  | .NotEq, a, b => if a.ok deepest && b.ok deepest then some (!D.eq a b) else none
  | .Lt, .int i, .int j => some (decide (i < j))
  | .LtE, .int i, .int j => some (decide (i ≤ j))
  | .Gt, .int i, .int j => some (decide (j < i))
  | .GtE, .int i, .int j => some (decide (j ≤ i))
  | .Lt, .str i, .str j => some (decide (i.cps.toList < j.cps.toList))
  | .LtE, .str i, .str j => some (!decide (j.cps.toList < i.cps.toList))
  | .Is, a, .non => some (isNone a)
  | .IsNot, a, .non => some (!isNone a)
  | .Is, .bl a, .bl b => some (decide (a = b))
  | .IsNot, .bl a, .bl b => some (!decide (a = b))
  | .In, a, .lst xs => if a.ok deepest && D.ok.oks xs deepest then some (inD a xs) else none
  | .In, a, .tup xs => if a.ok deepest && D.ok.oks xs deepest then some (inD a xs) else none
  | .NotIn, a, .tup xs => if a.ok deepest && D.ok.oks xs deepest then some (!inD a xs) else none
  | .NotIn, a, .lst xs => if a.ok deepest && D.ok.oks xs deepest then some (!inD a xs) else none
  | _, _, _ => none
/-- what may be a key of a dict -/
def isKey : D → Bool
  | .int _ => true
  | .str _ => true
  | _ => false
def keyEq : D → D → Bool
  | .int i, .int j => i == j
  | .str x, .str y => decide (x = y)
  | _, _ => false
/-- a dict is the list of its pairs, as it came to be -/
def dGet : List D → D → Option D
  | [], _ => none
  | p :: r, k => match p with
    | .tup [q, v] => if keyEq q k then some v else dGet r k
    | _ => none
def dRepl (k v : D) : D → D
  | .tup [q, w] => if keyEq q k then .tup [q, v] else .tup [q, w]
  | x => x
def dPut (ds : List D) (k v : D) : List D := match dGet ds k with
  | some _ => ds.map (dRepl k v)
  | none => ds ++ [.tup [k, v]]
def dKeys : List D → Option (List D)
  | [] => some []
  | p :: r => match p with
    | .tup [q, _] => match dKeys r with
      | some ks => some (q :: ks)
      | none => none
    | _ => none
def insI (i : Int) : List Int → List Int
  | [] => [i]
  | j :: r => if i ≤ j then i :: j :: r else j :: insI i r
def sortI : List Int → List Int
  | [] => []
  | i :: r => insI i (sortI r)
def atN (n : Nat) (i : Int) : Option Nat := if 0 ≤ i then (if i < n then some i.toNat else none) else if -(n : Int) ≤ i then some (i + n).toNat else none
def ixD : D → D → Option D
  | .lst xs, .int i => (atN xs.length i).bind fun k => xs[k]?
  | .tup xs, .int i => (atN xs.length i).bind fun k => xs[k]?
  | .str z, .int i => if z.length ≤ maxLen then ((atN z.cps.toList.length i).bind fun k => z.cps.toList[k]?).map fun c => .str ⟨#[c]⟩ else none
  | .dct xs, k => if isKey k then dGet xs k else none
  | _, _ => none
def ixL : D → D → Option D
  | .lst xs, .int i => (atN xs.length i).bind fun k => xs[k]?
  | _, _ => none
/-- the end of a slice: none, or a whole number -/
def endD : Option D → Option (Option Int)
  | none => some none
  | some (.int i) => some (some i)
  | _ => none
def cutD (xs : List D) (lo hi : Option Int) : List D := (xs.drop (HT.sIx xs.length 0 lo)).take (HT.sIx xs.length xs.length hi - HT.sIx xs.length 0 lo)
def slD : D → Option Int → Option Int → Option (Bool × D)
  | .lst xs, lo, hi => some (true, .lst (cutD xs lo hi))
  | .tup xs, lo, hi => some (false, .tup (cutD xs lo hi))
  | .str z, lo, hi => if z.length ≤ maxLen then some (false, .str (L2.cutS z lo hi)) else none
  | _, _, _ => none
/-- built-in functions -/
inductive Prim where
  | len | list | tuple | sum | all | any | int | abs
  | isi | sorted | str
def intsOf : List D → Option (List Int)
  | [] => some []
  | .int i :: r => match intsOf r with
    | some is => some (i :: is)
    | none => none
  | _ => none
def blsOf : List D → Option (List Bool)
  | [] => some []
  | .bl i :: r => match blsOf r with
    | some is => some (i :: is)
    | none => none
  | _ => none
/-- the built-in class of a value -/
def tyOf : D → Option String
  | .non => some "NoneType"
  | .bl _ => some "bool"
  | .int _ => some "int"
  | .str _ => some "str"
  | .tup _ => some "tuple"
  | .lst _ => some "list"
  | .scr _ => none
  | .dct _ => some "dict"
  | .ty _ => none
def isiD (n : String) (t : String) : Option Bool :=
  if ["int", "bool", "str", "tuple", "list"].contains n && ["NoneType", "bool", "int", "str", "tuple", "list", "dict"].contains t then some (n == t || (n == "int" && t == "bool")) else none
def primD : Prim → List D → Option (Bool × D)
  | .len, [.lst xs] => some (false, .int xs.length)
  | .len, [.scr xs] => some (false, .int xs.length)
  | .len, [.tup xs] => some (false, .int xs.length)
  | .len, [.str x] => if x.length ≤ maxLen then some (false, .int x.length) else none
  | .list, [.lst xs] => some (true, .lst xs)
  | .list, [.scr xs] => some (true, .lst xs)
  | .list, [.tup xs] => some (true, .lst xs)
  | .tuple, [.lst xs] => some (false, .tup xs)
  | .tuple, [.tup xs] => some (false, .tup xs)
  | .sum, [.lst xs] => match intsOf xs with
    | some is => some (false, .int is.sum)
    | none => none
  | .all, [.lst xs] => match blsOf xs with
    | some is => some (false, .bl (is.all id))
    | none => none
  | .any, [.lst xs] => match blsOf xs with
    | some is => some (false, .bl (is.any id))
    | none => none
  | .int, [.int i] => some (false, .int i)
  | .int, [.bl b] => some (false, .int (if b then 1 else 0))
  | .abs, [.int i] => some (false, .int (if i < 0 then -i else i))
  | .len, [.dct xs] => some (false, .int xs.length)
  | .sorted, [.lst xs] => match intsOf xs with
    | some is => some (true, .lst ((sortI is).map .int))
    | none => none
  | .sorted, [.dct xs] => match dKeys xs with
    | some ks => match intsOf ks with
      | some is => if is.length ≤ 1000000 then some (true, .lst ((sortI is).map .int)) else none
      | none => none
    | none => none
  | .str, [.int i] => if i.natAbs < 2 ^ 64 then some (false, .str (Str.ofString (toString i))) else none
  | .isi, [d, .ty n] => match tyOf d with
    | some t => match isiD n t with
      | some b => some (false, .bl b)
      | none => none
    | none => none
  | _, _ => none
/-- the whole numbers of a list or a tuple -/
def numsD : D → Option (List Int)
  | .lst xs => intsOf xs
  | .tup xs => intsOf xs
  | _ => none
/-- each once -/
def nubI : List Int → List Int
  | [] => []
  | i :: r => if i ∈ r then nubI r else i :: nubI r
/-! ## the code -/
inductive Tg where
  | nm (i : Nat)
  | tp (is : List Nat)
mutual
inductive Ex where
  | var (i : Nat)
  | cst (d : D)
  | tup (es : Exs)
  | lst (es : Exs)
  | bin (o : Operator) (a b : Ex)
  | un (o : UnaryOp) (a : Ex)
  | nt (a : Ex)
  | cmp (o : CmpOp) (a b : Ex)
  | cmp2 (o o' : CmpOp) (a b c : Ex)
  | and (a b : Ex)
  | or (a b : Ex)
  | ife (c : Tt) (a b : Ex)
  | ix (a i : Ex)
  | sl (a : Ex) (lo hi : Exo)
  | rev (a : Ex)
  | call (f : Nat) (es : Exs)
  | prim (p : Prim) (es : Exs)
  | comp (el : Ex) (t : Tg) (it : It) (c : Tt) (own : List Nat)
  | pop (i : Nat)
  | dnew
  | get (i : Nat) (k d : Ex)
  | sset (a : Ex)
  | lset (a : Ex)
inductive Exs where
  | nil
  | cons (e : Ex) (es : Exs)
inductive Exo where
  | no
  | yes (e : Ex)
inductive It where
  | seq (e : Ex)
  | rng (a : Ex)
  | rng2 (a b : Ex)
  | enum (e : Ex)
/-- a test -/
inductive Tt where
  | tru
  | and (a b : Tt)
  | or (a b : Tt)
  | nt (a : Tt)
  | e (a : Ex)
end
mutual
inductive Sm where
  | asg (t : Tg) (e : Ex)
  | setx (i : Nat) (k e : Ex)
  | aug (i : Nat) (o : Operator) (e : Ex)
  | augx (i : Nat) (o : Operator) (k e : Ex)
  | par (is : List Nat) (es : Exs)
  | app (i : Nat) (e : Ex)
  | ext (i : Nat) (e : Ex)
  | ex (e : Ex)
  | ret (e : Ex)
  | ret0
  | ite (c : Tt) (a b : Sms)
  | wh (c : Tt) (b : Sms)
  | for (t : Tg) (it : It) (b : Sms)
  | brk
  | cnt
  | pass
  | never
inductive Sms where
  | nil
  | cons (s : Sm) (r : Sms)
end
inductive Fl where
  | nx
  | bk
  | ct
  | rt (f : Bool) (d : D)
/-- a call's answer: fresh?, the value, the parameters as they are left -/
inductive CA where
  | stuck
  | ret (f : Bool) (d : D) (outs : List B)
structure Fn where
  np : Nat
  ns : Nat
  io : List Bool
  body : Sms
/-! ## calls -/
def callArgs (e : Env) : List Bool → List Op → Option (List B)
  | [], [] => some []
  | b :: io, o :: ops =>
    match callArgs e io ops with
    | none => none
    | some bs =>
      if b then
        match o with
        | .sl i => match getB e i with
          | some (.ow d) => some (.io d :: bs)
          | some (.io d) => some (.io d :: bs)
          | _ => none
        | .v _ => none
      else match pk e o with
        | some d => some (.sh d :: bs)
        | none => none
  | _, _ => none
/-- the lent things as they come back -/
def backIn (e : Env) : List Bool → List Op → List B → Option Env
  | [], [], [] => some e
  | b :: io, o :: ops, x :: outs =>
    match backIn e io ops outs with
    | none => none
    | some e1 =>
      if b then
        match o, x with
        | .sl i, .io d => match getB e1 i with
          | some (.ow _) => some (setB e1 i (some (.ow d)))
          | some (.io _) => some (setB e1 i (some (.io d)))
          | _ => none
        | _, _ => none
      else some e1
  | _, _, _ => none
/-- what is kept stands still -/
def frzIn : List Bool → List Op → Env → Option Env
  | [], [], e => some e
  | b :: io, o :: ops, e =>
    if b then frzIn io ops e
    else match tk e o with
      | some (_, e1) => frzIn io ops e1
      | none => none
  | _, _, _ => none
def slotsOf (w : Bool) : List Bool → List Op → List Nat
  | b :: io, .sl i :: ops => if b == w then i :: slotsOf w io ops else slotsOf w io ops
  | _ :: io, .v _ :: ops => slotsOf w io ops
  | _, _ => []
def okSlots (io : List Bool) (ops : List Op) : Bool :=
  decide (slotsOf true io ops).Nodup && (slotsOf true io ops).all fun i => !(slotsOf false io ops).contains i
def doCall (T : List Fn) (P : Nat → List B → CA) (f : Nat) (ops : List Op) (e : Env) : Ans (Bool × D) :=
  match T[f]? with
  | none => .stuck
  | some fn =>
    if fn.io.all (!·) then
      match callArgs e fn.io ops with
      | none => .stuck
      | some bs => match P f bs with
        | .stuck => .stuck
        | .ret fr d _ =>
          if d.flat then .val (false, d) e
          else match frzIn fn.io ops e with
            | none => .stuck
            | some e1 => .val (fr, d) e1
    else if okSlots fn.io ops then
      match frzIn fn.io ops e with
      | none => .stuck
      | some e1 => match callArgs e1 fn.io ops with
        | none => .stuck
        | some bs => match P f bs with
          | .stuck => .stuck
          | .ret fr d outs => match backIn e1 fn.io ops outs with
            | none => .stuck
            | some e2 => .val (fr, d) e2
    else .stuck
/-! ## loops -/
def asgN : List Nat → List D → Env → Option Env
  | [], [], e => some e
  | i :: is, d :: ds, e => asgN is ds (setB e i (some (.sh d)))
  | _, _, _ => none
def asgT (t : Tg) (f : Bool) (d : D) (e : Env) : Option Env :=
  match t with
  | .nm i => some (setB e i (some (if f then .ow d else .sh d)))
  | .tp is => match d with
    | .tup ds => asgN is ds e
    | _ => none
def wipeB : List Nat → Env → Env
  | [], e => e
  | i :: is, e => setB (wipeB is e) i none
/-- the comprehension's own names as they stood ahead of it -/
def backB (e0 : Env) : List Nat → Env → Env
  | [], e => e
  | i :: is, e => setB (backB e0 is e) i (getB e0 i)
def stillB (e : Env) : List Nat → Bool
  | [] => true
  | i :: is => (match getB e i with | none => true | some (.sh _) => true | _ => false) && stillB e is
def putO : Option D → List D → List D
  | none, r => r
  | some y, r => y :: r
def compN (f : D → Env → Ans (Option D)) : List D → Env → Ans (List D)
  | [], e => .val [] e
  | d :: ds, e => (f d e).bind fun r e1 => (compN f ds e1).bind fun rest e2 => .val (putO r rest) e2
def forN (f : D → Env → Ans Fl) : List D → Env → Ans Fl
  | [], e => .val .nx e
  | d :: ds, e => (f d e).bind fun fl e1 => match fl with
    | .nx => forN f ds e1
    | .ct => forN f ds e1
    | .bk => .val .nx e1
    | .rt fr r => .val (.rt fr r) e1
def whN (c : Env → Ans Bool) (f : Env → Ans Fl) : Nat → Env → Ans Fl
  | 0, _ => .stuck
  | m + 1, e => (c e).bind fun b e1 => if b then (f e1).bind fun fl e2 => match fl with
      | .nx => whN c f m e2
      | .ct => whN c f m e2
      | .bk => .val .nx e2
      | .rt fr r => .val (.rt fr r) e2
    else .val .nx e1
def itemsD : D → Option (List D)
  | .lst xs => some xs
  | .tup xs => some xs
  | .scr xs => some xs
  | .str z => some (z.cps.toList.map fun c => .str ⟨#[c]⟩)
  | _ => none
def seqD : D → Option (List D)
  | .lst xs => some xs
  | .tup xs => some xs
  | .scr xs => some xs
  | _ => none
def rangeD (lo : Int) (n : Nat) : List D := (List.range n).map fun i => .int (lo + (i : Nat))
def enumD : Nat → List D → List D
  | _, [] => []
  | k, d :: ds => .tup [.int (k : Nat), d] :: enumD (k + 1) ds
/-- fresh or not, it is kept: fine as a value that stands still -/
def fitL (n : Nat) : Bool := decide (n ≤ maxLen)
/-- an operand: a name is not looked up yet -/
def opd (x : Ex) (r : Env → Ans (Bool × D)) (e : Env) : Ans Op :=
  match x with
  | .var i => match getB e i with
    | some _ => .val (.sl i) e
    | none => .stuck
  | _ => (r e).bind fun r e1 => .val (.v r.2) e1
section
variable (T : List Fn) (P : Nat → List B → CA)
mutual
def ev : Ex → Env → Ans (Bool × D)
  | .var i, e => match tk e (.sl i) with
    | some (d, e1) => .val (false, d) e1
    | none => .stuck
  | .cst d, e => .val (false, d) e
  | .tup es, e => (evs es e).bind fun ops e1 => match tks ops e1 with
    | some (ds, e2) => if fitL ds.length then .val (false, .tup ds) e2 else .stuck
    | none => .stuck
  | .lst es, e => (evs es e).bind fun ops e1 => match tks ops e1 with
    | some (ds, e2) => if fitL ds.length then .val (true, .lst ds) e2 else .stuck
    | none => .stuck
  | .bin o a b, e => (opd a (ev a) e).bind fun x e1 => (opd b (ev b) e1).bind fun y e2 => match pk e2 x, pk e2 y with
    | some dx, some dy => opt (binD o dx dy) e2
    | _, _ => .stuck
  | .un o a, e => (opd a (ev a) e).bind fun x e1 => match pk e1 x with
    | some dx => (opt (unD o dx) e1).bind fun d e2 => .val (false, d) e2
    | none => .stuck
  | .nt a, e => (opd a (ev a) e).bind fun x e1 => match pk e1 x with
    | some dx => (opt (truth dx) e1).bind fun b e2 => .val (false, .bl (!b)) e2
    | none => .stuck
  | .cmp o a b, e => (opd a (ev a) e).bind fun x e1 => (opd b (ev b) e1).bind fun y e2 => match pk e2 x, pk e2 y with
    | some dx, some dy => (opt (cmpD o dx dy) e2).bind fun c e3 => .val (false, .bl c) e3
    | _, _ => .stuck
  | .cmp2 o o' a b c, e => (opd a (ev a) e).bind fun x e1 => (opd b (ev b) e1).bind fun y e2 => match pk e2 x, pk e2 y with
    | some dx, some dy => (opt (cmpD o dx dy) e2).bind fun k e3 => if k then
        (opd c (ev c) e3).bind fun z e4 => match pk e4 y, pk e4 z with
        | some dy, some dz => (opt (cmpD o' dy dz) e4).bind fun c e5 => .val (false, .bl c) e5
        | _, _ => .stuck
      else .val (false, .bl false) e3
    | _, _ => .stuck
  | .and a b, e => (ev a e).bind fun r e1 => match r.2 with
    | .bl k => if k then ev b e1 else .val (false, .bl false) e1
    | _ => .stuck
  | .or a b, e => (ev a e).bind fun r e1 => match r.2 with
    | .bl k => if k then .val (false, .bl true) e1 else ev b e1
    | _ => .stuck
  | .ife c a b, e => (evt c e).bind fun k e1 => if k then ev a e1 else ev b e1
  | .ix a i, e => (opd a (ev a) e).bind fun x e1 => (opd i (ev i) e1).bind fun y e2 => match pk e2 x, pk e2 y with
    | some dx, some dy => (opt (ixD dx dy) e2).bind fun d e3 => .val (false, d) e3
    | _, _ => .stuck
  | .sl a lo hi, e => (opd a (ev a) e).bind fun x e1 => (evx lo e1).bind fun l e2 => (evx hi e2).bind fun h e3 => match pk e3 x, endD l, endD h with
    | some dx, some lo, some hi => opt (slD dx lo hi) e3
    | _, _, _ => .stuck
  | .rev a, e => (opd a (ev a) e).bind fun x e1 => match pk e1 x with
    | some (.lst xs) => .val (true, .lst xs.reverse) e1
    | _ => .stuck
  | .call f es, e => (evs es e).bind fun ops e1 => doCall T P f ops e1
  | .prim p es, e => (evs es e).bind fun ops e1 => match pks e1 ops with
    | some ds => opt (primD p ds) e1
    | none => .stuck
  | .comp el t it c own, e => (evi it e).bind fun items e1 =>
      if stillB e1 own then
        (compN (fun d e2 => match asgT t false d (wipeB own e2) with
          | none => .stuck
          | some e3 => (evt c e3).bind fun k e4 => if k then (ev el e4).bind fun r e5 => .val (some r.2) (backB e2 own e5) else .val none (backB e2 own e4)) items e1).bind fun ds e2 =>
        if fitL ds.length then .val (true, .lst ds) e2 else .stuck
      else .stuck
  | .pop i, e => match getB e i with
    | some (.ow (.lst xs)) => match xs.getLast? with
      | some d => .val (false, d) (setB e i (some (.ow (.lst xs.dropLast))))
      | none => .stuck
    | some (.io (.lst xs)) => match xs.getLast? with
      | some d => .val (false, d) (setB e i (some (.io (.lst xs.dropLast))))
      | none => .stuck
    | _ => .stuck
  | .dnew, e => .val (true, .dct []) e
  | .get i k d, e => match pk e (.sl i) with
    | some (.dct _) => (opd k (ev k) e).bind fun y e1 => (ev d e1).bind fun r e2 => match pk e2 (.sl i), pk e2 y with
      | some (.dct xs), some dk => if isKey dk then .val (false, (dGet xs dk).getD r.2) e2 else .stuck
      | _, _ => .stuck
    | _ => .stuck
  | .sset a, e => (ev a e).bind fun r e1 => match numsD r.2 with
    | some is => if is.length < 4000 then .val (true, .lst ((sortI (nubI is)).map .int)) e1 else .stuck
    | none => .stuck
  | .lset a, e => (ev a e).bind fun r e1 => match numsD r.2 with
    | some is => if is.length < 4000 then .val (false, .int (nubI is).length) e1 else .stuck
    | none => .stuck
termination_by structural x => x
def evs : Exs → Env → Ans (List Op)
  | .nil, e => .val [] e
  | .cons a r, e => (opd a (ev a) e).bind fun o e1 => (evs r e1).bind fun os e2 => .val (o :: os) e2
termination_by structural x => x
def evx : Exo → Env → Ans (Option D)
  | .no, e => .val none e
  | .yes a, e => (ev a e).bind fun r e1 => .val (some r.2) e1
termination_by structural x => x
def evt : Tt → Env → Ans Bool
  | .tru, e => .val true e
  | .and a b, e => (evt a e).bind fun k e1 => if k then evt b e1 else .val false e1
  | .or a b, e => (evt a e).bind fun k e1 => if k then .val true e1 else evt b e1
  | .nt a, e => (evt a e).bind fun k e1 => .val (!k) e1
  | .e x, e => (opd x (ev x) e).bind fun o e1 => match pk e1 o with
    | some d => opt (truth d) e1
    | none => .stuck
termination_by structural x => x
def evi : It → Env → Ans (List D)
  | .seq a, e => (ev a e).bind fun r e1 => opt (itemsD r.2) e1
  | .rng a, e => (ev a e).bind fun r e1 => match r.2 with
    | .int n => if -(2 ^ 62) ≤ n ∧ n < 2 ^ 62 then .val (rangeD 0 n.toNat) e1 else .stuck
    | _ => .stuck
  | .rng2 a b, e => (ev a e).bind fun r e1 => (ev b e1).bind fun s e2 => match r.2, s.2 with
    | .int i, .int j => if -(2 ^ 62) ≤ i ∧ i < 2 ^ 62 ∧ -(2 ^ 62) ≤ j ∧ j < 2 ^ 62 then .val (rangeD i (j - i).toNat) e2 else .stuck
    | _, _ => .stuck
  | .enum a, e => (ev a e).bind fun r e1 => (opt (seqD r.2) e1).bind fun ds e2 => .val (enumD 0 ds) e2
termination_by structural x => x
end
variable (m : Nat)
/-- the list at the place k, changed -/
def putAt (b : D) (k v : D) : Option D :=
  match b, k with
  | .lst xs, .int j => match atN xs.length j with
    | some q => some (.lst (xs.set q v))
    | none => none
  | .dct xs, k => if isKey k then (if xs.length < maxLen then some (.dct (dPut xs k v)) else none) else none
  | _, _ => none
def onOwn (e : Env) (i : Nat) (f : D → Option D) : Option Env :=
  match getB e i with
  | some (.ow d) => match f d with
    | some d' => some (setB e i (some (.ow d')))
    | none => none
  | some (.io d) => match f d with
    | some d' => some (setB e i (some (.io d')))
    | none => none
  | _ => none
def addD (v : D) : D → Option D
  | .lst xs => if xs.length < maxLen then some (.lst (xs ++ [v])) else none
  | _ => none
def extD (v : D) : D → Option D
  | .lst xs => match v with
    | .lst ys => if xs.length + ys.length ≤ maxLen then some (.lst (xs ++ ys)) else none
    | _ => none
  | _ => none
mutual
def es1 : Sm → Env → Ans Fl
  | .asg t x, e => (ev T P x e).bind fun r e1 => match asgT t r.1 r.2 e1 with
    | some e2 => .val .nx e2
    | none => .stuck
  | .setx i k x, e => (ev T P x e).bind fun r e1 => match pk e1 (.sl i) with
    | some _ => (opd k (ev T P k) e1).bind fun o e2 => match pk e2 o with
      | some dk => match onOwn e2 i fun b => putAt b dk r.2 with
        | some e3 => .val .nx e3
        | none => .stuck
      | none => .stuck
    | none => .stuck
  | .aug i o x, e => match pk e (.sl i) with
    | some a => (opd x (ev T P x) e).bind fun y e1 => match pk e1 y with
      | some b => match augD o a b with
        | some r => .val .nx (setB e1 i (some (.sh r)))
        | none => .stuck
      | none => .stuck
    | none => .stuck
  | .augx i o k x, e => match pk e (.sl i) with
    | some _ => (opd k (ev T P k) e).bind fun ko e1 => match pk e1 (.sl i), pk e1 ko with
      | some b, some dk => match ixL b dk with
        | some old => (opd x (ev T P x) e1).bind fun y e2 => match pk e2 y with
          | some dy => match augD o old dy with
            | some r => match onOwn e2 i fun b => putAt b dk r with
              | some e3 => .val .nx e3
              | none => .stuck
            | none => .stuck
          | none => .stuck
        | none => .stuck
      | _, _ => .stuck
    | none => .stuck
  | .par is xs, e => (evs T P xs e).bind fun ops e1 => match tks ops e1 with
    | some (ds, e2) => match asgN is ds e2 with
      | some e3 => .val .nx e3
      | none => .stuck
    | none => .stuck
  | .app i x, e => match pk e (.sl i) with
    | some (.lst _) => (ev T P x e).bind fun r e1 => match onOwn e1 i (addD r.2) with
      | some e2 => .val .nx e2
      | none => .stuck
    | _ => .stuck
  | .ext i x, e => match pk e (.sl i) with
    | some (.lst _) => (opd x (ev T P x) e).bind fun o e1 => match pk e1 o with
      | some d => match onOwn e1 i (extD d) with
        | some e2 => .val .nx e2
        | none => .stuck
      | none => .stuck
    | _ => .stuck
  | .ex x, e => (ev T P x e).bind fun _ e1 => .val .nx e1
  | .ret x, e => match x with
    | .var i => match getB e i with
      | some (.ow d) => .val (.rt true d) (setB e i none)
      | some (.sh d) => .val (.rt false d) e
      | _ => .stuck
    | _ => (ev T P x e).bind fun r e1 => .val (.rt r.1 r.2) e1
  | .ret0, e => .val (.rt false .non) e
  | .ite c a b, e => (evt T P c e).bind fun k e1 => if k then es a e1 else es b e1
  | .wh c b, e => whN (evt T P c) (es b) m e
  | .for t it b, e => (evi T P it e).bind fun items e1 =>
      forN (fun d e2 => match asgT t false d e2 with
        | some e3 => es b e3
        | none => .stuck) items e1
  | .brk, e => .val .bk e
  | .cnt, e => .val .ct e
  | .pass, e => .val .nx e
  | .never, _ => .stuck
termination_by structural x => x
def es : Sms → Env → Ans Fl
  | .nil, e => .val .nx e
  | .cons s r, e => (es1 s e).bind fun f e1 => match f with
    | .nx => es r e1
    | .bk => .val .bk e1
    | .ct => .val .ct e1
    | .rt g d => .val (.rt g d) e1
termination_by structural x => x
end
end
/-- the parameters as they are left: the lent ones must still be lent -/
def outsOf : List B → Env → Option (List B)
  | [], _ => some []
  | _ :: _, [] => none
  | b :: bs, x :: e => match outsOf bs e with
    | none => none
    | some r => match b with
      | .sh d => some (.sh d :: r)
      | .ow _ => none
      | .io _ => match x with
        | some (.io d) => some (.io d :: r)
        | _ => none
/-- a call of the f-th def, n calls deep at most, m turns of a while at most -/
def callF (T : List Fn) (m : Nat) : Nat → Nat → List B → CA
  | 0, _, _ => .stuck
  | n + 1, f, bs => match T[f]? with
    | none => .stuck
    | some fn => if bs.length = fn.np then
        match es T (callF T m n) m fn.body (bs.map some ++ List.replicate (fn.ns - fn.np) none) with
        | .val (.rt fr d) e => match outsOf bs e with
          | some outs => .ret fr d outs
          | none => .stuck
        | .val .nx e => match outsOf bs e with
          | some outs => .ret false .non outs
          | none => .stuck
        | _ => .stuck
      else .stuck
end L2.Eng
namespace L2.Eng
open PySem PySem.Spec PyProof.Rows
theorem fit_le {n : Nat} (h : n ≤ maxLen) : n ≤ sizeLine := by
  rw [sizeLine_eq]; exact h
def keyV : Key → D
  | .inl i => .int i
  | .inr x => .str x
/-! ## how values stand in the heap -/
mutual
inductive Rep (K : PySem.W.Frag) (M : Hp) : V → D → Prop
  | non : Rep K M .non .non
  | bl (b : Bool) : Rep K M (.bl b) (.bl b)
  | int (i : Int) : Rep K M (.int i) (.int i)
  | str (x : Str) : Rep K M (.str x) (.str x)
  | ty (n : String) : Rep K M (.ty n) (.ty n)
  | tup {a : Addr} {vs : List V} {ds : List D} : M a = some (.tup vs) → Reps K M vs ds → Rep K M (.ref a) (.tup ds)
  | lst {a : Addr} {vs : List V} {ds : List D} : M a = some (.lst vs) → Reps K M vs ds → Rep K M (.ref a) (.lst ds)
  | scr {a : Addr} {vs : List V} {ds : List D} : SqL K M a vs → Reps K M vs ds → Rep K M (.ref a) (.scr ds)
  | dct {a : Addr} {kvs : List (Key × V)} {ds : List D} : M a = some (.dK kvs) → RepKs K M kvs ds → Rep K M (.ref a) (.dct ds)
inductive Reps (K : PySem.W.Frag) (M : Hp) : List V → List D → Prop
  | nil : Reps K M [] []
  | cons {v : V} {vs : List V} {d : D} {ds : List D} : Rep K M v d → Reps K M vs ds → Reps K M (v :: vs) (d :: ds)
inductive RepKs (K : PySem.W.Frag) (M : Hp) : List (Key × V) → List D → Prop
  | nil : RepKs K M [] []
  | cons {k : Key} {v : V} {kvs : List (Key × V)} {d : D} {ds : List D} : Rep K M v d → RepKs K M kvs ds → RepKs K M ((k, v) :: kvs) (.tup [keyV k, d] :: ds)
end
section
variable {K : PySem.W.Frag} {M M' H H' : Hp}
mutual
theorem Rep.mono (h : Same M M') : ∀ {d : D} {v : V}, Rep K M v d → Rep K M' v d
  | .non, _, r => by cases r; exact .non
  | .bl _, _, r => by cases r; exact .bl _
  | .int _, _, r => by cases r; exact .int _
  | .str _, _, r => by cases r; exact .str _
  | .ty _, _, r => by cases r; exact .ty _
  | .tup ds, _, r => by cases r with | tup e q => exact .tup (h _ _ e) (Reps.mono h q)
  | .lst ds, _, r => by cases r with | lst e q => exact .lst (h _ _ e) (Reps.mono h q)
  | .scr ds, _, r => by cases r with | scr e q => exact .scr (h.seq e) (Reps.mono h q)
  | .dct ds, _, r => by cases r with | dct e q => exact .dct (h _ _ e) (RepKs.mono h q)
theorem Reps.mono (h : Same M M') : ∀ {ds : List D} {vs : List V}, Reps K M vs ds → Reps K M' vs ds
  | [], _, r => by cases r; exact .nil
  | d :: ds, _, r => by cases r with | cons a b => exact .cons (Rep.mono h a) (Reps.mono h b)
theorem RepKs.mono (h : Same M M') : ∀ {ds : List D} {vs : List (Key × V)}, RepKs K M vs ds → RepKs K M' vs ds
  | [], _, r => by cases r; exact .nil
  | .tup [k, d] :: ds, _, r => by cases r with | cons a b => exact .cons (Rep.mono h a) (RepKs.mono h b)
  | .tup [] :: ds, _, r => by cases r
  | .tup [_] :: ds, _, r => by cases r
  | .tup (_ :: _ :: _ :: _) :: ds, _, r => by cases r
  | .non :: ds, _, r => by cases r
  | .bl _ :: ds, _, r => by cases r
  | .int _ :: ds, _, r => by cases r
  | .str _ :: ds, _, r => by cases r
  | .lst _ :: ds, _, r => by cases r
  | .scr _ :: ds, _, r => by cases r
  | .dct _ :: ds, _, r => by cases r
  | .ty _ :: ds, _, r => by cases r
end
theorem keyV_is (k : Key) : isKey (keyV k) = true := by cases k <;> rfl
theorem keyV_eq (a b : Key) : keyEq (keyV a) (keyV b) = decide (a = b) := by
  cases a <;> cases b <;> simp [keyV, keyEq, BEq.beq]
theorem RepKs.length : ∀ {kvs : List (Key × V)} {ds : List D}, RepKs K M kvs ds → kvs.length = ds.length
  | [], _, r => by cases r; rfl
  | _ :: _, _, r => by cases r with | cons a b => simp [RepKs.length b]
theorem RepKs.get (k : Key) : ∀ {kvs : List (Key × V)} {ds : List D}, RepKs K M kvs ds → match dGet ds (keyV k) with
    | none => valV kvs k = none
    | some d => ∃ v, valV kvs k = some v ∧ Rep K M v d
  | [], _, r => by cases r; rfl
  | _ :: _, _, r => by
    cases r with
    | @cons j v kvs d ds a b =>
      simp only [dGet, keyV_eq]
      by_cases e : j = k
      · rw [decide_eq_true e]; exact ⟨v, valV_pos e, a⟩
      · rw [decide_eq_false e, valV_neg e]; exact RepKs.get k b
theorem RepKs.snoc {k : Key} {v : V} {d : D} (q : Rep K M v d) : ∀ {kvs : List (Key × V)} {ds : List D}, RepKs K M kvs ds → RepKs K M (kvs ++ [(k, v)]) (ds ++ [.tup [keyV k, d]])
  | [], _, r => by cases r; exact .cons q .nil
  | _ :: _, _, r => by cases r with | cons a b => exact .cons a (RepKs.snoc q b)
theorem RepKs.repl {k : Key} {v : V} {d : D} (q : Rep K M v d) : ∀ {kvs : List (Key × V)} {ds : List D}, RepKs K M kvs ds → RepKs K M (kvs.map fun kv => if kv.1 = k then (kv.1, v) else kv) (ds.map (dRepl (keyV k) d))
  | [], _, r => by cases r; exact .nil
  | _ :: _, _, r => by
    cases r with
    | @cons j w kvs dj ds a b =>
      simp only [List.map_cons, dRepl, keyV_eq]
      by_cases e : j = k
      · rw [decide_eq_true e, if_pos e, if_pos rfl]; exact .cons q (RepKs.repl q b)
      · rw [decide_eq_false e, if_neg e, if_neg (by simp)]; exact .cons a (RepKs.repl q b)
theorem RepKs.put {k : Key} {v : V} {d : D} (q : Rep K M v d) {kvs : List (Key × V)} {ds : List D} (r : RepKs K M kvs ds) : RepKs K M (putK kvs k v) (dPut ds (keyV k) d) := by
  have g := r.get k
  unfold putK dPut
  rw [valV_any]
  split at g
  · rename_i h
    rw [h, g]; simp only [Option.isSome_none, Bool.false_eq_true, if_false]
    exact r.snoc q
  · rename_i h
    obtain ⟨w, g, _⟩ := g
    rw [h, g]; simp only [Option.isSome_some, if_true]
    exact r.repl q
theorem RepKs.keys : ∀ {kvs : List (Key × V)} {ds ks : List D}, RepKs K M kvs ds → dKeys ds = some ks → ks = kvs.map fun p => keyV p.1
  | [], _, _, r, h => by cases r; simp [dKeys] at h; simp [h]
  | _ :: _, _, _, r, h => by
    cases r with
    | cons a b =>
      simp only [dKeys] at h
      split at h
      · rename_i ks hk
        cases h
        rw [RepKs.keys b hk]; rfl
      · cases h
theorem keysI : ∀ {kvs : List (Key × V)} {is : List Int}, intsOf (kvs.map fun p => keyV p.1) = some is → kvs.map (·.1) = is.map Sum.inl
  | [], _, h => by simp [intsOf] at h; subst h; rfl
  | (.inl i, v) :: r, is, h => by
    simp only [List.map_cons, keyV, intsOf] at h
    split at h
    · rename_i js hj
      cases h
      rw [List.map_cons, List.map_cons, keysI hj]
    · cases h
  | (.inr i, v) :: r, is, h => by simp [keyV, intsOf] at h
theorem Reps.length : ∀ {ds : List D} {vs : List V}, Reps K M vs ds → vs.length = ds.length
  | [], _, r => by cases r; rfl
  | d :: ds, _, r => by cases r with | cons a b => simp [Reps.length b]
theorem Reps.get : ∀ {ds : List D} {vs : List V} {i : Nat} {d : D}, Reps K M vs ds → ds[i]? = some d → ∃ v, vs[i]? = some v ∧ Rep K M v d
  | [], _, _, _, r, h => by simp at h
  | d :: ds, _, 0, _, r, h => by cases r with | cons a b => simp at h; subst h; exact ⟨_, rfl, a⟩
  | d :: ds, _, i + 1, _, r, h => by
    cases r with
    | cons a b => obtain ⟨v, e, q⟩ := Reps.get (i := i) b (by simpa using h); exact ⟨v, by simpa using e, q⟩
theorem Reps.getV : ∀ {ds : List D} {vs : List V} {i : Nat} {v : V}, Reps K M vs ds → vs[i]? = some v → ∃ d, ds[i]? = some d ∧ Rep K M v d
  | [], _, _, _, r, h => by cases r; simp at h
  | d :: ds, _, 0, _, r, h => by cases r with | cons a b => simp at h; subst h; exact ⟨_, rfl, a⟩
  | d :: ds, _, i + 1, _, r, h => by
    cases r with
    | cons a b => obtain ⟨v, e, q⟩ := Reps.getV (i := i) b (by simpa using h); exact ⟨v, by simpa using e, q⟩
theorem Reps.append : ∀ {ds es : List D} {vs us : List V}, Reps K M vs ds → Reps K M us es → Reps K M (vs ++ us) (ds ++ es)
  | [], _, _, _, r, q => by cases r; exact q
  | d :: ds, _, _, _, r, q => by cases r with | cons a b => exact .cons a (Reps.append b q)
theorem Reps.drop : ∀ {ds : List D} {vs : List V} (n : Nat), Reps K M vs ds → Reps K M (vs.drop n) (ds.drop n)
  | _, _, 0, r => r
  | [], _, n + 1, r => by cases r; exact .nil
  | d :: ds, _, n + 1, r => by cases r with | cons a b => exact Reps.drop n b
theorem Reps.take : ∀ {ds : List D} {vs : List V} (n : Nat), Reps K M vs ds → Reps K M (vs.take n) (ds.take n)
  | _, _, 0, r => by simpa using Reps.nil
  | [], _, n + 1, r => by cases r; exact .nil
  | d :: ds, _, n + 1, r => by cases r with | cons a b => exact .cons a (Reps.take n b)
theorem Reps.set : ∀ {ds : List D} {vs : List V} (n : Nat) {v : V} {d : D}, Reps K M vs ds → Rep K M v d → Reps K M (vs.set n v) (ds.set n d)
  | [], _, _, _, _, r, q => by cases r; exact .nil
  | d :: ds, _, 0, _, _, r, q => by cases r with | cons a b => exact .cons q b
  | d :: ds, _, n + 1, _, _, r, q => by cases r with | cons a b => exact .cons a (Reps.set n b q)
theorem Reps.reverse : ∀ {ds : List D} {vs : List V}, Reps K M vs ds → Reps K M vs.reverse ds.reverse
  | [], _, r => by cases r; exact .nil
  | d :: ds, _, r => by
    cases r with
    | cons a b => rw [List.reverse_cons, List.reverse_cons]; exact (Reps.reverse b).append (.cons a .nil)
theorem Reps.flatRep {ds : List D} {vs : List V} (r : Reps K M vs ds) : ∀ n : Nat, Reps K M (List.replicate n vs).flatten (List.replicate n ds).flatten
  | 0 => .nil
  | n + 1 => by rw [List.replicate_succ, List.replicate_succ, List.flatten_cons, List.flatten_cons]; exact r.append (Reps.flatRep r n)
theorem Rep.flat {d : D} {v : V} (r : Rep K M v d) (h : d.flat = true) (M' : Hp) : Rep K M' v d := by
  cases r with
  | non => exact .non
  | bl => exact .bl _
  | int => exact .int _
  | str => exact .str _
  | ty => exact .ty _
  | tup => simp [D.flat] at h
  | lst => simp [D.flat] at h
  | scr => simp [D.flat] at h
  | dct => simp [D.flat] at h
theorem Reps.ints : ∀ {ds : List D} {vs : List V} {is : List Int}, Reps K M vs ds → intsOf ds = some is → vs = is.map V.int
  | [], _, _, r, h => by cases r; simp [intsOf] at h; subst h; rfl
  | d :: ds, _, _, r, h => by
    cases r with
    | cons a b =>
      cases d <;> simp only [intsOf] at h <;> try (exact absurd h (by simp))
      split at h
      · rename_i q
        cases h
        cases a
        rw [List.map_cons, Reps.ints b q]
      · cases h
theorem Reps.bls : ∀ {ds : List D} {vs : List V} {is : List Bool}, Reps K M vs ds → blsOf ds = some is → vs = is.map V.bl
  | [], _, _, r, h => by cases r; simp [blsOf] at h; subst h; rfl
  | d :: ds, _, _, r, h => by
    cases r with
    | cons a b =>
      cases d <;> simp only [blsOf] at h <;> try (exact absurd h (by simp))
      split at h
      · rename_i q
        cases h
        cases a
        rw [List.map_cons, Reps.bls b q]
      · cases h
end
/-- an own thing at a: nobody else holds it -/
inductive Own (K : PySem.W.Frag) (M H : Hp) (a : Addr) : D → Prop
  | lst {vs : List V} {ds : List D} : M a = none → H a = some (.lst vs) → Reps K M vs ds → Own K M H a (.lst ds)
  | dct {kvs : List (Key × V)} {ds : List D} : M a = none → H a = some (.dK kvs) → RepKs K M kvs ds → Own K M H a (.dct ds)
theorem Own.no {K : PySem.W.Frag} {M H : Hp} {a : Addr} {d : D} (o : Own K M H a d) : M a = none := by cases o <;> assumption
theorem Own.some {K : PySem.W.Frag} {M H : Hp} {a : Addr} {d : D} (o : Own K M H a d) : ∃ u, H a = some u := by cases o <;> exact ⟨_, by assumption⟩
theorem Own.mono {K : PySem.W.Frag} {M H M' H' : Hp} {a : Addr} {d : D} (o : Own K M H a d) (hm : Same M M') (hn : M' a = none) (ha : H' a = H a) : Own K M' H' a d := by
  cases o with
  | lst _ e r => exact .lst hn (ha.trans e) (r.mono hm)
  | dct _ e r => exact .dct hn (ha.trans e) (r.mono hm)
/-- what may be looked at: it stands still, or it is an own thing -/
def Top (K : PySem.W.Frag) (M H : Hp) (v : V) (d : D) : Prop := Rep K M v d ∨ ∃ a, v = .ref a ∧ Own K M H a d
section
variable {K : PySem.W.Frag} {M M' H H' : Hp}
theorem Top.lst {v : V} {ds : List D} (t : Top K M H v (.lst ds)) (s : Same M H) : ∃ a vs, v = .ref a ∧ H a = some (.lst vs) ∧ Reps K M vs ds := by
  rcases t with r | ⟨a, rfl, o⟩
  · cases r with | lst e q => exact ⟨_, _, rfl, s _ _ e, q⟩
  · cases o with | lst _ e q => exact ⟨_, _, rfl, e, q⟩
theorem Top.tup {v : V} {ds : List D} (t : Top K M H v (.tup ds)) (s : Same M H) : ∃ a vs, v = .ref a ∧ M a = some (.tup vs) ∧ H a = some (.tup vs) ∧ Reps K M vs ds := by
  rcases t with r | ⟨a, rfl, o⟩
  · cases r with | tup e q => exact ⟨_, _, rfl, e, s _ _ e, q⟩
  · cases o
theorem Top.int {v : V} {i : Int} (t : Top K M H v (.int i)) : v = .int i := by
  rcases t with r | ⟨a, rfl, o⟩
  · cases r; rfl
  · cases o
theorem Top.str {v : V} {i : Str} (t : Top K M H v (.str i)) : v = .str i := by
  rcases t with r | ⟨a, rfl, o⟩
  · cases r; rfl
  · cases o
theorem Top.bl {v : V} {i : Bool} (t : Top K M H v (.bl i)) : v = .bl i := by
  rcases t with r | ⟨a, rfl, o⟩
  · cases r; rfl
  · cases o
theorem Top.non {v : V} (t : Top K M H v .non) : v = .non := by
  rcases t with r | ⟨a, rfl, o⟩
  · cases r; rfl
  · cases o
theorem Top.rep {v : V} {d : D} (t : Top K M H v d) (s : Same M H) : Rep K H v d := by
  rcases t with r | ⟨a, rfl, o⟩
  · exact r.mono s
  · cases o with
    | lst _ e q => exact .lst e (q.mono s)
    | dct _ e q => exact .dct e (q.mono s)
theorem Top.dct {v : V} {ds : List D} (t : Top K M H v (.dct ds)) (s : Same M H) : ∃ a kvs, v = .ref a ∧ H a = some (.dK kvs) ∧ RepKs K M kvs ds := by
  rcases t with r | ⟨a, rfl, o⟩
  · cases r with | dct e q => exact ⟨_, _, rfl, s _ _ e, q⟩
  · cases o with | dct _ e q => exact ⟨_, _, rfl, e, q⟩
end
/-! ## names and what they hold -/
def Bnd (K : PySem.W.Frag) (M H : Hp) (v : V) : B → Prop
  | .sh d => Rep K M v d
  | .ow d => ∃ a, v = .ref a ∧ Own K M H a d
  | .io d => ∃ a, v = .ref a ∧ Own K M H a d
def B.own : B → Bool
  | .sh _ => false
  | _ => true
/-- a is the own thing of the i-th name -/
def OwnAt (e : Env) (σ : St) (i : Nat) (a : Addr) : Prop := ∃ b, getB e i = some b ∧ b.own = true ∧ σ[i]? = some (some (.ref a))
def Owns (e : Env) (σ : St) (a : Addr) : Prop := ∃ i, OwnAt e σ i a
structure Vd (K : PySem.W.Frag) (M : Hp) (e : Env) (σ : St) (H : Hp) : Prop where
  same : Same M H
  len : e.length = σ.length
  slot : ∀ i b, getB e i = some b → ∃ v, σ[i]? = some (some v) ∧ Bnd K M H v b
  inj : ∀ i j a, OwnAt e σ i a → OwnAt e σ j a → i = j
/-- from one state to a later one: what nobody of us owns stays as it was -/
structure Stp (e : Env) (σ : St) (M H : Hp) (e' : Env) (σ' : St) (M' H' : Hp) : Prop where
  same : Same M M'
  keep : ∀ b o, H b = some o → ¬ Owns e σ b → H' b = some o
  new : ∀ b o, M' b = some o → M b = none → H b = none ∨ Owns e σ b
  own : ∀ b, Owns e' σ' b → Owns e σ b ∨ H b = none
  there : ∀ b o, H b = some o → ∃ o', H' b = some o'
  io : ∀ i d, getB e' i = some (.io d) → (∃ d0, getB e i = some (.io d0)) ∧ σ'[i]? = σ[i]?
section
variable {K : PySem.W.Frag} {e e1 e2 : Env} {σ σ1 σ2 : St} {M M1 M2 H H1 H2 : Hp}
theorem Stp.refl : Stp e σ M H e σ M H := ⟨fun _ _ h => h, fun _ _ h _ => h, fun _ _ h n => (by rw [h] at n; cases n), fun _ h => .inl h, fun _ o h => ⟨o, h⟩, fun _ d h => ⟨⟨d, h⟩, rfl⟩⟩
theorem Stp.trans (a : Stp e σ M H e1 σ1 M1 H1) (b : Stp e1 σ1 M1 H1 e2 σ2 M2 H2) : Stp e σ M H e2 σ2 M2 H2 where
  same := a.same.trans b.same
  keep := fun c o h n => b.keep c o (a.keep c o h n) fun w => (a.own c w).elim n fun z => by rw [h] at z; cases z
  new := fun c o h n => by
    cases q : M1 c with
    | some u => exact a.new c u q n
    | none =>
      rcases b.new c o h q with z | z
      · left
        cases r : H c with
        | none => rfl
        | some u => obtain ⟨o', z'⟩ := a.there c u r; rw [z] at z'; cases z'
      · exact (a.own c z).symm
  own := fun c h => by
    rcases b.own c h with z | z
    · exact a.own c z
    · right
      cases r : H c with
      | none => rfl
      | some u => obtain ⟨o', z'⟩ := a.there c u r; rw [z] at z'; cases z'
  there := fun c o h => by
    obtain ⟨o', h'⟩ := a.there c o h
    exact b.there c o' h'
  io := fun i d h => by
    obtain ⟨⟨d1, h1⟩, q1⟩ := b.io i d h
    obtain ⟨h0, q0⟩ := a.io i d1 h1
    exact ⟨h0, q1.trans q0⟩
end
/-! ### places of an environment -/
theorem getB_setB_same : ∀ {e : Env} {i : Nat} {b : Option B}, i < e.length → getB (setB e i b) i = b
  | [], _, _, h => by simp at h
  | x :: r, 0, b, _ => by simp [setB, getB]
  | x :: r, i + 1, b, h => by simp only [setB, getB]; exact getB_setB_same (by simpa using h)
theorem getB_setB_ne : ∀ {e : Env} {i j : Nat} {b : Option B}, j ≠ i → getB (setB e i b) j = getB e j
  | [], _, _, _, _ => rfl
  | x :: r, 0, 0, b, h => absurd rfl h
  | x :: r, 0, j + 1, b, h => by simp [setB, getB]
  | x :: r, i + 1, 0, b, h => by simp [setB, getB]
  | x :: r, i + 1, j + 1, b, h => by simp only [setB, getB]; exact getB_setB_ne (by omega)
theorem setB_length : ∀ {e : Env} {i : Nat} {b : Option B}, (setB e i b).length = e.length
  | [], _, _ => rfl
  | x :: r, 0, b => by simp [setB]
  | x :: r, i + 1, b => by simp [setB, setB_length]
theorem getB_lt : ∀ {e : Env} {i : Nat} {b : B}, getB e i = some b → i < e.length
  | [], _, _, h => by simp [getB] at h
  | x :: r, 0, b, h => by simp
  | x :: r, i + 1, b, h => by simp only [getB] at h; have := getB_lt h; simp; omega
theorem getB_none_of_le : ∀ {e : Env} {i : Nat}, e.length ≤ i → getB e i = none
  | [], _, _ => rfl
  | x :: r, 0, h => by simp at h
  | x :: r, i + 1, h => by simp only [getB]; exact getB_none_of_le (by simpa using h)
section
variable {K : PySem.W.Frag} {e e1 : Env} {σ : St} {M M1 H H1 : Hp}
theorem Vd.owned (D0 : Vd K M e σ H) {i : Nat} {a : Addr} (h : OwnAt e σ i a) : ∃ b, getB e i = some b ∧ b.own = true ∧ Own K M H a b.dat := by
  obtain ⟨b, h1, h2, h3⟩ := h
  obtain ⟨v, h4, h5⟩ := D0.slot i b h1
  rw [h3] at h4
  cases h4
  refine ⟨b, h1, h2, ?_⟩
  cases b with
  | sh d => cases h2
  | ow d => obtain ⟨a', ea, o⟩ := h5; cases ea; exact o
  | io d => obtain ⟨a', ea, o⟩ := h5; cases ea; exact o
theorem Vd.owns (D0 : Vd K M e σ H) {a : Addr} (h : Owns e σ a) : M a = none ∧ ∃ o, H a = some o := by
  obtain ⟨i, h⟩ := h
  obtain ⟨b, _, _, o⟩ := D0.owned h
  exact ⟨o.no, o.some⟩
theorem Bnd.mono {v : V} {b : B} (h : Bnd K M H v b) (hs : Same M M1) (hn : ∀ a, v = .ref a → b.own = true → M1 a = none ∧ H1 a = H a) : Bnd K M1 H1 v b := by
  cases b with
  | sh d => exact Rep.mono hs h
  | ow d => obtain ⟨a, rfl, o⟩ := h; exact ⟨a, rfl, o.mono hs (hn a rfl rfl).1 (hn a rfl rfl).2⟩
  | io d => obtain ⟨a, rfl, o⟩ := h; exact ⟨a, rfl, o.mono hs (hn a rfl rfl).1 (hn a rfl rfl).2⟩
/-- nothing of ours has changed: a new object, standing still or not -/
theorem Vd.grow (D0 : Vd K M e σ H) (hs : Same M M1) (hs1 : Same M1 H1) (hk : ∀ b o, H b = some o → H1 b = some o) (hn : ∀ b o, M1 b = some o → M b = none → H b = none) : Vd K M1 e σ H1 := by
  refine ⟨hs1, D0.len, fun i b hb => ?_, D0.inj⟩
  obtain ⟨v, h1, h2⟩ := D0.slot i b hb
  refine ⟨v, h1, h2.mono hs fun a ea ow => ?_⟩
  subst ea
  obtain ⟨z, o, ho⟩ := D0.owns ⟨i, b, hb, ow, h1⟩
  refine ⟨?_, (hk a o ho).trans ho.symm⟩
  cases q : M1 a with
  | none => rfl
  | some u =>
    have := hn a u q z
    rw [ho] at this
    cases this
theorem Stp.grow (hs : Same M M1) (hk : ∀ b o, H b = some o → H1 b = some o) (hn : ∀ b o, M1 b = some o → M b = none → H b = none) : Stp e σ M H e σ M1 H1 :=
  ⟨hs, fun b o h _ => hk b o h, fun b o h n => .inl (hn b o h n), fun _ h => .inl h, fun b o h => ⟨o, hk b o h⟩, fun _ d h => ⟨⟨d, h⟩, rfl⟩⟩
theorem upd_keeps {H : Hp} {p : Addr} {o : HO} (h : H p = none) : ∀ b u, H b = some u → upd H p o b = some u := fun b u q => by
  rw [upd_ne (ne_of_none q h)]; exact q
/-- an own thing of the i-th name stands still from now on -/
theorem Vd.freeze (D0 : Vd K M e σ H) {i : Nat} {d : D} (h : getB e i = some (.ow d)) : ∃ M1, Vd K M1 (setB e i (some (.sh d))) σ H ∧ Stp e σ M H (setB e i (some (.sh d))) σ M1 H ∧ ∃ v, σ[i]? = some (some v) ∧ Rep K M1 v d := by
  obtain ⟨v, h1, a, rfl, o⟩ := D0.slot i _ h
  obtain ⟨u, hu⟩ := o.some
  have hlt := getB_lt h
  have hne : ∀ j b, getB (setB e i (some (.sh d))) j = some b → b.own = true → j ≠ i := fun j b hb ow z => by
    subst z
    rw [getB_setB_same hlt] at hb
    cases hb
    cases ow
  have back : ∀ j c, OwnAt (setB e i (some (.sh d))) σ j c → OwnAt e σ j c ∧ j ≠ i := fun j c ⟨b, q1, q2, q3⟩ => by
    have := hne j b q1 q2
    rw [getB_setB_ne this] at q1
    exact ⟨⟨b, q1, q2, q3⟩, this⟩
  have sm : Same M (upd M a u) := fun b w q => by rw [upd_ne (fun z => by rw [z, o.no] at q; cases q)]; exact q
  have rp : Rep K (upd M a u) (.ref a) d := by
    cases o with
    | lst n e r =>
      rw [hu] at e
      cases e
      exact .lst upd_same (r.mono sm)
    | dct n e r =>
      rw [hu] at e
      cases e
      exact .dct upd_same (r.mono sm)
  refine ⟨upd M a u, ⟨fun b w q => ?_, by rw [setB_length]; exact D0.len, fun j b hb => ?_, fun j k c hj hk => ?_⟩, ⟨sm, fun b w q _ => q, fun b w q n => ?_, fun b ⟨j, hj⟩ => .inl ⟨j, (back j b hj).1⟩, fun b w q => ⟨w, q⟩, fun j dd hj => ?_⟩, ⟨_, h1, rp⟩⟩
  · by_cases hb : b = a
    · subst hb; rw [upd_same] at q; cases q; exact hu
    · rw [upd_ne hb] at q; exact D0.same _ _ q
  · by_cases hj : j = i
    · subst hj
      rw [getB_setB_same hlt] at hb
      cases hb
      exact ⟨_, h1, rp⟩
    · rw [getB_setB_ne hj] at hb
      obtain ⟨w, q1, q2⟩ := D0.slot j b hb
      refine ⟨w, q1, q2.mono sm fun c ec ow => ⟨?_, rfl⟩⟩
      subst ec
      have hca : c ≠ a := fun z => by
        subst z
        exact hj (D0.inj j i c ⟨b, hb, ow, q1⟩ ⟨_, h, rfl, h1⟩)
      rw [upd_ne hca]
      exact (D0.owns ⟨j, b, hb, ow, q1⟩).1
  · exact D0.inj j k c (back j c hj).1 (back k c hk).1
  · by_cases hb : b = a
    · subst hb; exact .inr ⟨i, _, h, rfl, h1⟩
    · rw [upd_ne hb, n] at q; cases q
  · have := hne j _ hj rfl
    rw [getB_setB_ne this] at hj
    exact ⟨⟨_, hj⟩, rfl⟩
/-! ### operands -/
def OpdR (K : PySem.W.Frag) (M : Hp) (σ : St) (v : V) : Op → Prop
  | .sl i => σ[i]? = some (some v)
  | .v d => Rep K M v d
theorem OpdR.mono {v : V} {o : Op} (h : OpdR K M σ v o) (hs : Same M M1) : OpdR K M1 σ v o := by
  cases o with
  | sl i => exact h
  | v d => exact Rep.mono hs h
theorem Vd.peek (D0 : Vd K M e σ H) {o : Op} {v : V} {d : D} (r : OpdR K M σ v o) (h : pk e o = some d) : Top K M H v d := by
  cases o with
  | v d' => simp [pk] at h; subst h; exact .inl r
  | sl i =>
    simp only [pk] at h
    split at h
    · rename_i b hb
      cases h
      obtain ⟨w, h1, h2⟩ := D0.slot i b hb
      have : w = v := by
        have z : σ[i]? = some (some v) := r
        rw [h1] at z; injection z with z; injection z
      subst this
      cases b with
      | sh d => exact .inl h2
      | ow d => exact .inr h2
      | io d => exact .inr h2
    · cases h
theorem Vd.take (D0 : Vd K M e σ H) {o : Op} {v : V} {d : D} (r : OpdR K M σ v o) (h : tk e o = some (d, e1)) : ∃ M1, Vd K M1 e1 σ H ∧ Stp e σ M H e1 σ M1 H ∧ Rep K M1 v d := by
  cases o with
  | v d' => simp [tk] at h; obtain ⟨rfl, rfl⟩ := h; exact ⟨M, D0, Stp.refl, r⟩
  | sl i =>
    simp only [tk] at h
    split at h
    · rename_i d' hb
      cases h
      obtain ⟨w, h1, h2⟩ := D0.slot i _ hb
      have : w = v := by
        have z : σ[i]? = some (some v) := r
        rw [h1] at z; injection z with z; injection z
      subst this
      exact ⟨M, D0, Stp.refl, h2⟩
    · rename_i d' hb
      cases h
      obtain ⟨M1, V1, S1, w, h1, h2⟩ := D0.freeze hb
      have : w = v := by
        have z : σ[i]? = some (some v) := r
        rw [h1] at z; injection z with z; injection z
      subst this
      exact ⟨M1, V1, S1, h2⟩
    · cases h
inductive OpdRs (K : PySem.W.Frag) (M : Hp) (σ : St) : List V → List Op → Prop
  | nil : OpdRs K M σ [] []
  | cons {v : V} {vs : List V} {o : Op} {os : List Op} : OpdR K M σ v o → OpdRs K M σ vs os → OpdRs K M σ (v :: vs) (o :: os)
theorem OpdRs.mono {vs : List V} {os : List Op} (h : OpdRs K M σ vs os) (hs : Same M M1) : OpdRs K M1 σ vs os := by
  induction h with
  | nil => exact .nil
  | cons a _ ih => exact .cons (a.mono hs) ih
theorem Vd.takes {os : List Op} : ∀ {vs : List V} {ds : List D} {e : Env} {M : Hp}, Vd K M e σ H → OpdRs K M σ vs os → tks os e = some (ds, e1) → ∃ M1, Vd K M1 e1 σ H ∧ Stp e σ M H e1 σ M1 H ∧ Reps K M1 vs ds := by
  induction os with
  | nil => intro vs ds e M D0 r h; cases r; simp [tks] at h; obtain ⟨rfl, rfl⟩ := h; exact ⟨M, D0, Stp.refl, .nil⟩
  | cons o os ih =>
    intro vs ds e M D0 r h
    cases r with
    | cons a b =>
      simp only [tks] at h
      split at h
      · cases h
      · rename_i d e2 hd
        split at h
        · cases h
        · rename_i ds' e3 hds
          cases h
          obtain ⟨M2, V2, S2, r2⟩ := D0.take a hd
          obtain ⟨M3, V3, S3, r3⟩ := ih V2 (b.mono S2.same) hds
          exact ⟨M3, V3, S2.trans S3, .cons (r2.mono S3.same) r3⟩
inductive Tops (K : PySem.W.Frag) (M H : Hp) : List V → List D → Prop
  | nil : Tops K M H [] []
  | cons {v : V} {vs : List V} {d : D} {ds : List D} : Top K M H v d → Tops K M H vs ds → Tops K M H (v :: vs) (d :: ds)
theorem Vd.peeks (D0 : Vd K M e σ H) {os : List Op} : ∀ {vs : List V} {ds : List D}, OpdRs K M σ vs os → pks e os = some ds → Tops K M H vs ds := by
  induction os with
  | nil => intro vs ds r h; cases r; simp [pks] at h; subst h; exact .nil
  | cons o os ih =>
    intro vs ds r h
    cases r with
    | cons a b =>
      simp only [pks] at h
      split at h
      · cases h
      · rename_i d hd
        split at h
        · cases h
        · rename_i ds' hds
          cases h
          exact .cons (D0.peek a hd) (ih b hds)
end
/-! ### what an expression gives -/
/-- fresh: a new own thing that no name holds yet; else it stands still -/
def Res (K : PySem.W.Frag) (e' : Env) (σ : St) (H M' H' : Hp) (v : V) (r : Bool × D) : Prop :=
  if r.1 = true then ∃ a, v = .ref a ∧ H a = none ∧ ¬ Owns e' σ a ∧ Own K M' H' a r.2 else Rep K M' v r.2
section
variable {K : PySem.W.Frag} {e e1 e2 : Env} {σ : St} {M M1 M2 H H1 H2 : Hp}
/-- a fresh thing stands still from now on -/
theorem Vd.settle (D0 : Vd K M e σ H1) {v : V} {r : Bool × D} (h : Res K e σ H M H1 v r) : ∃ M1, Vd K M1 e σ H1 ∧ (∀ {e0 : Env} {M0 : Hp}, Stp e0 σ M0 H e σ M H1 → Stp e0 σ M0 H e σ M1 H1) ∧ Rep K M1 v r.2 := by
  obtain ⟨f, d⟩ := r
  cases f with
  | false => exact ⟨M, D0, fun s => s, h⟩
  | true =>
    obtain ⟨a, rfl, ha, no, o⟩ : ∃ a, v = .ref a ∧ H a = none ∧ ¬ Owns e σ a ∧ Own K M H1 a d := h
    obtain ⟨u, hu⟩ := o.some
    have sm : Same M (upd M a u) := fun b w q => by rw [upd_ne (fun z => by rw [z, o.no] at q; cases q)]; exact q
    have rp : Rep K (upd M a u) (.ref a) d := by
      cases o with
      | lst n e r =>
        rw [hu] at e
        cases e
        exact .lst upd_same (r.mono sm)
      | dct n e r =>
        rw [hu] at e
        cases e
        exact .dct upd_same (r.mono sm)
    refine ⟨upd M a u, ⟨fun b w q => ?_, D0.len, fun j b hb => ?_, D0.inj⟩, fun {e0 M0} s => ⟨s.same.trans sm, s.keep, fun b w q n => ?_, s.own, s.there, s.io⟩, rp⟩
    · by_cases hb : b = a
      · subst hb; rw [upd_same] at q; cases q; exact hu
      · rw [upd_ne hb] at q; exact D0.same _ _ q
    · obtain ⟨w, q1, q2⟩ := D0.slot j b hb
      refine ⟨w, q1, q2.mono sm fun c ec ow => ⟨?_, rfl⟩⟩
      subst ec
      rw [upd_ne (fun z => no (by rw [← z]; exact ⟨j, b, hb, ow, q1⟩))]
      exact (D0.owns ⟨j, b, hb, ow, q1⟩).1
    · by_cases hb : b = a
      · subst hb; exact .inl ha
      · rw [upd_ne hb] at q; exact s.new b w q n
end
/-- what an operation on values may do: it makes at most new objects -/
structure Pur (M H M' H' : Hp) : Prop where
  same : Same M M'
  keep : ∀ b o, H b = some o → H' b = some o
  new : ∀ b o, M' b = some o → M b = none → H b = none
  sub : Same M' H'
def ResO (K : PySem.W.Frag) (H M' H' : Hp) (v : V) (r : Bool × D) : Prop :=
  if r.1 = true then ∃ a, v = .ref a ∧ H a = none ∧ Own K M' H' a r.2 else Rep K M' v r.2
section
variable {K : PySem.W.Frag} {e e1 e2 : Env} {σ : St} {M M1 M2 H H1 H2 : Hp}
theorem Pur.refl (h : Same M H) : Pur M H M H := ⟨fun _ _ q => q, fun _ _ q => q, fun _ _ q n => (by rw [q] at n; cases n), h⟩
theorem Pur.vd (p : Pur M H M1 H1) (D0 : Vd K M e σ H) : Vd K M1 e σ H1 := D0.grow p.same p.sub p.keep p.new
theorem Pur.stp (p : Pur M H M1 H1) : Stp e σ M H e σ M1 H1 := Stp.grow p.same p.keep p.new
theorem ResO.res {v : V} {r : Bool × D} (D0 : Vd K M e σ H) (h : ResO K H M1 H1 v r) : Res K e σ H M1 H1 v r := by
  unfold ResO at h
  unfold Res
  split at h
  · rename_i q
    rw [if_pos q]
    obtain ⟨a, rfl, ha, o⟩ := h
    exact ⟨a, rfl, ha, fun w => (by obtain ⟨_, u, hu⟩ := D0.owns w; rw [ha] at hu; cases hu), o⟩
  · rename_i q
    rw [if_neg q]
    exact h
/-- an earlier start -/
theorem Res.back {v : V} {r : Bool × D} {e0 : Env} {M0 H0 : Hp} (h : Res K e σ H M1 H1 v r) (s : Stp e0 σ M0 H0 e2 σ M H) : Res K e σ H0 M1 H1 v r := by
  unfold Res at h ⊢
  split at h
  · rename_i q
    rw [if_pos q]
    obtain ⟨a, rfl, ha, no, o⟩ := h
    refine ⟨a, rfl, ?_, no, o⟩
    cases z : H0 a with
    | none => rfl
    | some u => obtain ⟨o', h'⟩ := s.there a u z; rw [ha] at h'; cases h'
  · rename_i q
    rw [if_neg q]
    exact h
/-- a new object that stands still -/
theorem Pur.lay (h : Same M H) {p : Addr} {o : HO} (n : H p = none) : Pur M H (upd M p o) (upd H p o) := by
  have nm : M p = none := by
    cases q : M p with
    | none => rfl
    | some u => rw [h _ _ q] at n; cases n
  refine ⟨fun b u q => ?_, upd_keeps n, fun b u q z => ?_, fun b u q => ?_⟩
  · rw [upd_ne (ne_of_none q nm)]; exact q
  · by_cases hb : b = p
    · subst hb; exact n
    · rw [upd_ne hb, z] at q; cases q
  · by_cases hb : b = p
    · subst hb; rw [upd_same] at q ⊢; exact q
    · rw [upd_ne hb] at q ⊢; exact h _ _ q
/-- a new own object -/
theorem Pur.own (h : Same M H) {p : Addr} {o : HO} (n : H p = none) : Pur M H M (upd H p o) :=
  ⟨fun _ _ q => q, upd_keeps n, fun b u q z => (by rw [z] at q; cases q), fun b u q => (by rw [upd_ne (fun z => by rw [z] at q; rw [h _ _ q] at n; cases n)]; exact h _ _ q)⟩
theorem own_no (h : Same M H) {p : Addr} (n : H p = none) : M p = none := by
  cases q : M p with
  | none => rfl
  | some u => rw [h _ _ q] at n; cases n
theorem ResO.newL (h : Same M H) {p : Addr} {vs : List V} {ds : List D} (n : H p = none) (r : Reps K M vs ds) : ResO K H M (upd H p (.lst vs)) (.ref p) (true, .lst ds) := by
  unfold ResO
  rw [if_pos rfl]
  exact ⟨p, rfl, n, .lst (own_no h n) upd_same r⟩
theorem ResO.newT (h : Same M H) {p : Addr} {vs : List V} {ds : List D} (n : H p = none) (r : Reps K M vs ds) : ResO K H (upd M p (.tup vs)) (upd H p (.tup vs)) (.ref p) (false, .tup ds) := by
  unfold ResO
  rw [if_neg (by simp)]
  exact .tup upd_same (r.mono (Pur.lay h n).same)
theorem ResO.of {v : V} {d : D} (r : Rep K M1 v d) : ResO K H M1 H1 v (false, d) := by
  unfold ResO; rw [if_neg (by simp)]; exact r
end
/-! ### answers -/
def Ans.wp {α : Type} (a : Ans α) (Q : α → Env → Prop) : Prop := ∃ x e, a = .val x e ∧ Q x e
theorem Ans.wp_bind {α β : Type} {a : Ans α} {f : α → Env → Ans β} {Q : β → Env → Prop} (h : (a.bind f).wp Q) : a.wp fun x e => (f x e).wp Q := by
  obtain ⟨y, e, h1, h2⟩ := h
  cases a with
  | stuck => cases h1
  | val x e1 => exact ⟨x, e1, rfl, y, e, h1, h2⟩
  | exc _ _ => cases h1
theorem opt_wp {α : Type} {o : Option α} {e : Env} {Q : α → Env → Prop} (h : (opt o e).wp Q) : ∃ a, o = some a ∧ Q a e := by
  obtain ⟨y, e1, h1, h2⟩ := h
  cases o with
  | none => cases h1
  | some z => cases h1; exact ⟨_, rfl, h2⟩
theorem val_wp {α : Type} {a : α} {e : Env} {Q : α → Env → Prop} (h : (Ans.val a e).wp Q) : Q a e := by
  obtain ⟨y, e1, h1, h2⟩ := h
  cases h1
  exact h2
theorem stuck_wp {α : Type} {Q : α → Env → Prop} (h : (Ans.stuck : Ans α).wp Q) : False := by
  obtain ⟨y, e1, h1, h2⟩ := h
  cases h1
end L2.Eng
namespace L2.Eng
open PySem PySem.Spec PyProof.Rows
/-! ## equality of data -/
mutual
theorem eq_toP : ∀ (a b : D) (n m : Nat), a.ok n = true → b.ok m = true → PyData.eqv a.toP b.toP = D.eq a b
  | .non, b, n, m, h1, h2 => by cases b <;> simp_all [D.toP, PyData.eqv, D.eq, D.ok]
  | .bl x, b, n, m, h1, h2 => by cases b <;> simp_all [D.toP, PyData.eqv, D.eq, D.ok]
  | .int x, b, n, m, h1, h2 => by cases b <;> simp_all [D.toP, PyData.eqv, D.eq, D.ok]
  | .str x, b, n, m, h1, h2 => by cases b <;> simp_all [D.toP, PyData.eqv, D.eq, D.ok]
  | .tup xs, b, n, m, h1, h2 => by
    cases b with
    | tup ys =>
      cases n with
      | zero => simp [D.ok] at h1
      | succ n =>
        cases m with
        | zero => simp [D.ok] at h2
        | succ m => simp only [D.toP, PyData.eqv, D.eq]; exact eqs_toP xs ys n m (by simpa [D.ok] using h1) (by simpa [D.ok] using h2)
    | _ => simp_all [D.toP, PyData.eqv, D.eq, D.ok]
  | .lst xs, b, n, m, h1, h2 => by
    cases b with
    | lst ys =>
      cases n with
      | zero => simp [D.ok] at h1
      | succ n =>
        cases m with
        | zero => simp [D.ok] at h2
        | succ m => simp only [D.toP, PyData.eqv, D.eq]; exact eqs_toP xs ys n m (by simpa [D.ok] using h1) (by simpa [D.ok] using h2)
    | _ => simp_all [D.toP, PyData.eqv, D.eq, D.ok]
  | .scr xs, _, _, _, h1, _ => by simp [D.ok] at h1
  | .dct xs, _, _, _, h1, _ => by simp [D.ok] at h1
  | .ty xs, _, _, _, h1, _ => by simp [D.ok] at h1
theorem eqs_toP : ∀ (a b : List D) (n m : Nat), D.ok.oks a n = true → D.ok.oks b m = true → PyData.eqvAll (D.toP.toPs a) (D.toP.toPs b) = D.eqs a b
  | [], [], _, _, _, _ => by simp [D.toP.toPs, PyData.eqvAll, D.eqs]
  | [], y :: ys, _, _, _, _ => by simp [D.toP.toPs, PyData.eqvAll, D.eqs]
  | x :: xs, [], _, _, _, _ => by simp [D.toP.toPs, PyData.eqvAll, D.eqs]
  | x :: xs, y :: ys, n, m, h1, h2 => by
    simp only [D.ok.oks, Bool.and_eq_true] at h1 h2
    simp only [D.toP.toPs, PyData.eqvAll, D.eqs, eq_toP x y n m h1.1 h2.1, eqs_toP xs ys n m h1.2 h2.2]
end
mutual
theorem ok_lay : ∀ (a : D) (n : Nat), a.ok n = true → a.toP.canLay0 = true ∧ a.toP.depth ≤ n
  | .non, n, _ => by simp [D.toP, PyData.canLay0, PyData.depth]
  | .bl x, n, _ => by simp [D.toP, PyData.canLay0, PyData.depth]
  | .int x, n, _ => by simp [D.toP, PyData.canLay0, PyData.depth]
  | .str x, n, h => by simp [D.toP, PyData.canLay0, PyData.depth]; simpa [D.ok] using h
  | .tup xs, 0, h => by simp [D.ok] at h
  | .tup xs, n + 1, h => by
    obtain ⟨h1, h2⟩ := oks_lay xs n (by simpa [D.ok] using h)
    simp only [D.toP, PyData.canLay0, PyData.depth]
    exact ⟨h1, by omega⟩
  | .lst xs, 0, h => by simp [D.ok] at h
  | .lst xs, n + 1, h => by
    obtain ⟨h1, h2⟩ := oks_lay xs n (by simpa [D.ok] using h)
    simp only [D.toP, PyData.canLay0, PyData.depth]
    exact ⟨h1, by omega⟩
  | .scr xs, _, h1 => by simp [D.ok] at h1
  | .dct xs, _, h1 => by simp [D.ok] at h1
  | .ty xs, _, h1 => by simp [D.ok] at h1
theorem oks_lay : ∀ (a : List D) (n : Nat), D.ok.oks a n = true → PyData.canLayAll0 (D.toP.toPs a) = true ∧ PyData.depthAll (D.toP.toPs a) ≤ n
  | [], _, _ => by simp [D.toP.toPs, PyData.canLayAll0, PyData.depthAll]
  | x :: xs, n, h => by
    simp only [D.ok.oks, Bool.and_eq_true] at h
    obtain ⟨a1, a2⟩ := ok_lay x n h.1
    obtain ⟨b1, b2⟩ := oks_lay xs n h.2
    simp only [D.toP.toPs, PyData.canLayAll0, PyData.depthAll, a1, b1, Bool.and_self, true_and]
    omega
end
theorem ok_shaped {a : D} (h : a.ok deepest = true) : SeqAt.shaped a.toP = true := by
  obtain ⟨h1, h2⟩ := ok_lay a _ h
  unfold SeqAt.shaped
  rw [h1, Bool.true_and, decide_eq_true_eq]
  exact Nat.le_trans h2 (by decide)
theorem oks_shaped {a : List D} (h : D.ok.oks a deepest = true) : SeqAt.shaped (.list (D.toP.toPs a)) = true := by
  obtain ⟨h1, h2⟩ := oks_lay a _ h
  unfold SeqAt.shaped
  have e : (PyData.list (D.toP.toPs a)).depth = PyData.depthAll (D.toP.toPs a) + 1 := by simp only [PyData.depth]
  rw [e, show (PyData.list (D.toP.toPs a)).canLay0 = true from by simp only [PyData.canLay0]; exact h1, Bool.true_and, decide_eq_true_eq]
  have : deepest = 60 := rfl
  omega
section
variable {K : PySem.W.Frag} {H : Hp}
mutual
theorem Rep.dp : ∀ {d : D} {v : V} {n : Nat}, Rep K H v d → d.ok n = true → Dp K H v d.toP
  | .non, _, _, r, _ => by cases r; exact .non
  | .bl _, _, _, r, _ => by cases r; exact .bl _
  | .int _, _, _, r, _ => by cases r; exact .int _
  | .str _, _, _, r, _ => by cases r; exact .str _
  | .ty _, _, _, r, h => by simp [D.ok] at h
  | .tup ds, _, 0, r, h => by simp [D.ok] at h
  | .tup ds, _, n + 1, r, h => by cases r with | tup e q => exact .tup (SqT.of e) (Reps.dp (n := n) q (by simpa [D.ok] using h))
  | .lst ds, _, 0, r, h => by simp [D.ok] at h
  | .lst ds, _, n + 1, r, h => by cases r with | lst e q => exact .lst (SqL.of e) (Reps.dp (n := n) q (by simpa [D.ok] using h))
  | .scr ds, _, _, r, h => by simp [D.ok] at h
  | .dct _, _, _, r, h => by simp [D.ok] at h
theorem Reps.dp : ∀ {ds : List D} {vs : List V} {n : Nat}, Reps K H vs ds → D.ok.oks ds n = true → DpAll K H vs (D.toP.toPs ds)
  | [], _, _, r, _ => by cases r; exact .nil
  | d :: ds, _, n, r, h => by
    simp only [D.ok.oks, Bool.and_eq_true] at h
    cases r with | cons a b => exact .cons (Rep.dp a h.1) (Reps.dp b h.2)
end
end
theorem any_toP (x : D) (n : Nat) (h : x.ok n = true) : ∀ (xs : List D) (m : Nat), D.ok.oks xs m = true → ((D.toP.toPs xs).any fun z => PyData.eqv z x.toP) = inD x xs
  | [], _, _ => rfl
  | y :: ys, m, h2 => by
    simp only [D.ok.oks, Bool.and_eq_true] at h2
    simp only [D.toP.toPs, List.any_cons, inD, eq_toP y x m n h2.1 h]
    have := any_toP x n h ys m h2.2
    unfold inD at this
    rw [this]
/-! ## operations by values -/
def rP1 (K : PySem.W.Frag) (f : D → Option (Bool × D)) : V → Hp → VK → Prop := fun x H Q => ∃ M dx r, Same M H ∧ Top K M H x dx ∧ f dx = some r ∧ ∀ v M' H', Pur M H M' H' → ResO K H M' H' v r → Q v H'
def rP2 (K : PySem.W.Frag) (f : D → D → Option (Bool × D)) : R2 := fun x y H Q => ∃ M dx dy r, Same M H ∧ Top K M H x dx ∧ Top K M H y dy ∧ f dx dy = some r ∧ ∀ v M' H', Pur M H M' H' → ResO K H M' H' v r → Q v H'
def rC2 (K : PySem.W.Frag) (f : D → D → Option Bool) : R2 := fun x y H Q => ∃ M dx dy c, Same M H ∧ Top K M H x dx ∧ Top K M H y dy ∧ f dx dy = some c ∧ Q (.bl c) H
section
variable {X : Cx}
theorem opr_bin (o : Operator) : OpR X (binaryOp o) (rP2 X.K (binD o)) := by
  intro pins s σ H x y v u Q I rx ry h
  obtain ⟨M, dx, dy, r, sm, tx, ty, hf, q⟩ := h
  unfold binD at hf
  split at hf
  · cases hf; exact op_add pins s σ H x y v u Q I rx ry ⟨_, _, tx.int, ty.int, q _ _ _ (Pur.refl sm) (.of (.int _))⟩
  · split at hf
    · rename_i hl
      cases hf; exact op_add_str pins s σ H x y v u Q I rx ry ⟨_, _, tx.str, ty.str, fit_le hl, q _ _ _ (Pur.refl sm) (.of (.str _))⟩
    · cases hf
  · split at hf
    · rename_i hl
      cases hf
      obtain ⟨a, vs, rfl, ha, ra⟩ := tx.lst sm
      obtain ⟨b, us, rfl, hb, rb⟩ := ty.lst sm
      exact op_cat pins s σ H _ _ v u Q I rx ry ⟨_, _, _, _, rfl, rfl, ha, hb, by rw [ra.length, rb.length]; exact fit_le hl, fun p hp => q _ _ _ (Pur.own sm hp) (.newL sm hp (ra.append rb))⟩
    · cases hf
  · split at hf
    · rename_i hl
      cases hf
      obtain ⟨a, vs, rfl, ma, ha, ra⟩ := tx.tup sm
      obtain ⟨b, us, rfl, mb, hb, rb⟩ := ty.tup sm
      refine op_catA pins s σ H _ _ v u Q I rx ry ⟨_, _, _, _, rfl, rfl, SqT.of ha, SqT.of hb, by rw [ra.length, rb.length]; exact fit_le hl, fun e => ?_, fun e1 e2 => ?_, fun e1 e2 p hp => ?_⟩
      · subst e
        refine q _ _ _ (Pur.refl sm) (.of (.tup mb ?_))
        have e0 := ra.length
        have : _ = [] := List.length_eq_zero_iff.mp e0.symm
        subst this
        exact rb
      · subst e2
        refine q _ _ _ (Pur.refl sm) (.of (.tup ma ?_))
        have e0 := rb.length
        have : _ = [] := List.length_eq_zero_iff.mp e0.symm
        subst this
        rw [List.append_nil]
        exact ra
      · exact q _ _ _ (Pur.lay sm hp) (.newT sm hp (ra.append rb))
    · cases hf
  · cases hf; exact op_sub pins s σ H x y v u Q I rx ry ⟨_, _, tx.int, ty.int, q _ _ _ (Pur.refl sm) (.of (.int _))⟩
  · split at hf
    · rename_i hc
      cases hf; exact op_mul pins s σ H x y v u Q I rx ry ⟨_, _, tx.int, ty.int, hc, q _ _ _ (Pur.refl sm) (.of (.int _))⟩
    · cases hf
  · split at hf
    · rename_i hc
      cases hf
      obtain ⟨a, vs, rfl, ha, ra⟩ := tx.lst sm
      exact op_rep pins s σ H _ y v u Q I rx ry ⟨_, _, _, rfl, ty.int, ha, hc.1, hc.2.1, by rw [ra.length]; exact fit_le hc.2.2, fun p hp => q _ _ _ (Pur.own sm hp) (.newL sm hp (ra.flatRep _))⟩
    · cases hf
  · split at hf
    · rename_i hc
      cases hf; exact op_mod pins s σ H x y v u Q I rx ry ⟨_, _, tx.int, ty.int, hc, q _ _ _ (Pur.refl sm) (.of (.int _))⟩
    · cases hf
  · split at hf
    · rename_i hc
      cases hf; exact op_fdiv pins s σ H x y v u Q I rx ry ⟨_, _, tx.int, ty.int, hc, q _ _ _ (Pur.refl sm) (.of (.int _))⟩
    · cases hf
  · split at hf
    · rename_i hc
      cases hf; exact op_pow pins s σ H x y v u Q I rx ry ⟨_, _, tx.int, ty.int, hc, q _ _ _ (Pur.refl sm) (.of (.int _))⟩
    · cases hf
  · split at hf
    · rename_i hc
      cases hf; exact op_shl pins s σ H x y v u Q I rx ry ⟨_, _, tx.int, ty.int, hc, q _ _ _ (Pur.refl sm) (.of (.int _))⟩
    · cases hf
  · split at hf
    · rename_i hc
      cases hf; exact op_shr pins s σ H x y v u Q I rx ry ⟨_, _, tx.int, ty.int, hc, q _ _ _ (Pur.refl sm) (.of (.int _))⟩
    · cases hf
  · cases hf; exact op_and pins s σ H x y v u Q I rx ry ⟨_, _, tx.int, ty.int, q _ _ _ (Pur.refl sm) (.of (.int _))⟩
  · cases hf; exact op_or pins s σ H x y v u Q I rx ry ⟨_, _, tx.int, ty.int, q _ _ _ (Pur.refl sm) (.of (.int _))⟩
  · cases hf; exact op_xor pins s σ H x y v u Q I rx ry ⟨_, _, tx.int, ty.int, q _ _ _ (Pur.refl sm) (.of (.int _))⟩
  · cases hf
theorem unr_un (o : UnaryOp) : UnR X (unaryOp o) (rP1 X.K fun d => (unD o d).map fun z => (false, z)) := by
  intro pins s σ H x v Q I rx h
  obtain ⟨M, dx, r, sm, tx, hf, q⟩ := h
  cases hu : unD o dx with
  | none => simp only [hu, Option.map_none] at hf; cases hf
  | some z =>
    simp only [hu, Option.map_some] at hf
    cases hf
    unfold unD at hu
    split at hu
    · cases hu; exact un_neg pins s σ H x v Q I rx ⟨_, tx.int, q _ _ _ (Pur.refl sm) (.of (.int _))⟩
    · cases hu; exact un_inv pins s σ H x v Q I rx ⟨_, tx.int, q _ _ _ (Pur.refl sm) (.of (.int _))⟩
    · cases hu
theorem tru_of {K : PySem.W.Frag} {M H : Hp} {x : V} {d : D} {b : Bool} (sm : Same M H) (t : Top K M H x d) (h : truth d = some b) : TruV K x H b := by
  unfold truth at h
  split at h
  · cases h; rw [t.non]; rfl
  · cases h; rw [t.bl]; rfl
  · cases h; rw [t.int]; rfl
  · split at h
    · rename_i hl
      cases h; rw [t.str]; exact ⟨fit_le hl, rfl⟩
    · cases h
  · cases h
    obtain ⟨a, vs, rfl, _, ha, ra⟩ := t.tup sm
    refine .inr (.inl ⟨_, SqT.of ha, ?_⟩)
    cases ra <;> rfl
  · cases h
    obtain ⟨a, vs, rfl, ha, ra⟩ := t.lst sm
    refine .inl ⟨_, SqL.of ha, ?_⟩
    cases ra <;> rfl
  · cases h
theorem isNone_top {K : PySem.W.Frag} {M H : Hp} {x : V} {d : D} (t : Top K M H x d) : decide (x = .non) = isNone d := by
  rcases t with r | ⟨a, rfl, o⟩
  · cases r <;> simp [isNone]
  · cases o <;> simp [isNone]
/-- x in a tuple of data -/
theorem op_inT (neg : Bool) (hu : X.A.units + 65 < cLine) : OpR X (compareOp (if neg then .NotIn else .In)) (fun x y H Q => ∃ (a : Addr) (xs : List V) (d : PyData) (ds : List PyData), y = .ref a ∧ SqT X.K H a xs ∧ Dp X.K H x d ∧ DpAll X.K H xs ds ∧ SeqAt.shaped d = true ∧ SeqAt.shaped (.list ds) = true ∧
    Q (.bl (if neg then !ds.any (fun z => PyData.eqv z d) else ds.any fun z => PyData.eqv z d)) H) := by
  intro pins s σ H x y v u Q I rx ry h
  obtain ⟨a, xs, d, ds, rfl, hs, hd, he, sd, se, q⟩ := h
  cases ry
  obtain ⟨bs, r1⟩ := Dp.reads I d x v hd rx
  obtain ⟨its, rv, pl, hz⟩ := I.tuple hs
  obtain ⟨as, r2⟩ := Dp.readsAll I ds xs its he rv
  have hxs : PyData.canLayAll0 ds = true := SeqAt.canLay_of_shaped se
  have hm : its.map (SeqAt.readOf s.heap) = ds := SeqAt.readsAll_map ds its as hxs r2
  have hany : its.toArray.any (fun u => PyData.eqv (SeqAt.readOf s.heap u) d) = ds.any fun z => PyData.eqv z d := by
    rw [← hm, List.any_map]; simp; rfl
  have at_ := SeqAt.items_eqAt (A := X.A) (vs := its.toArray) (show ReadsAll s.heap its.toArray.toList ds as from r2) r1 hxs (SeqAt.canLay_of_shaped sd) (room_in_shaped sd hu)
  cases neg with
  | false => exact SeqAt.in_tupleAt (fun u => PyData.eqv (SeqAt.readOf s.heap u) d) pl at_ ⟨.bl _, H, I, rfl, by rw [hany]; exact q⟩
  | true => exact SeqAt.notIn_tupleAt (fun u => PyData.eqv (SeqAt.readOf s.heap u) d) pl at_ ⟨.bl _, H, I, rfl, by rw [hany]; exact q⟩
section
open PySem.AutoSeq1 PySem.MeetsSeq
variable {A : Around} {s : Shared}
theorem tuple_eq_declines_dict (l b : Addr) (items : Array Value) (n : Nat) (dd dd2 : Option Addr) (dt : Data) (sl sl2 : Array (Option Value)) :
    Meets (Builtin.«tuple.__eq__» ⟨[.ref l, .ref b], []⟩) (fun _ R s => s.heap.get? l = some { cls := .type "tuple", dict := dd, data := .seq items n, slots := sl } ∧ s.heap.get? b = some { cls := .type "dict", dict := dd2, data := dt, slots := sl2 } ∧ R (.ok (.ret .notImplemented)) s) :=
  .of_wp fun prog w A R s h => by obtain ⟨hp, g, d, tk, os⟩ := s; obtain ⟨hl, hb, h⟩ := h; have f1 := PySem.F.sub_dict_tuple; wp_walk using wpAny_loadPart' hl, wpAny_loadPart' hb; exact ⟨_, rfl, h⟩
theorem RcAt_dict_tuple {l b : Addr} {items : Array Value} (hl : s.TypeIs (.ref l) "dict") (hb : s.heap.IsTuple b items) (hu : A.units < cLine) : SeqAt.RcAt A s (.ref l) (.ref b) false := fun prog w E Q h => by
  have hl0 := hl
  obtain ⟨o, ho, hc⟩ := id hl
  obtain ⟨cls, dd, data, sl⟩ := o
  obtain ⟨⟨cls2, dd2, data2, sl2⟩, ho2, hc2, n2, hd2⟩ := id hb
  simp only at hc hc2 hd2
  subst hc hc2 hd2
  have hne : l ≠ b := fun e => by
    subst e
    rw [ho] at ho2
    exact absurd (congrArg Obj.cls (Option.some.inj ho2)) (by simp)
  have tb : s.TypeIs (.ref b) "tuple" := ⟨_, ho2, rfl⟩
  exact (SeqAt.rc_eq_decline_or (k := false) hl0 tb (by decide) PySem.F.sub_tuple_dict PySem.F.slot_dict_eq PySem.F.slot_tuple_eq_refl
    (fun _ hq => by
      refine wpAny_call_entry PySem.F.slot_dict_eq hl0 PySem.F.entry_dict_eq ?_ (PySem.F.args_dict_eq_2 _ _)
      show wpAny _ _ (Builtin.Dict.dictSlotArgs "__eq__" ⟨[.ref l, .ref b], []⟩ >>= _) _ _ s
      refine wpAny_bind ?_
      unfold Builtin.Dict.dictSlotArgs
      refine wpAny_bind (wpAny_notOrdered_dict hl0 ?_)
      show wpAny _ _ (pure (Value.ref l, Value.ref b)) _ _ s
      refine wpAny_pure ?_
      refine wpAny_bind (wpAny_isInstance (T := "tuple") tb PySem.F.sub_tuple_dict ?_)
      simp only [Bool.not_false, if_true]
      exact wpAny_bind (wpAny_rule (wpAny_pure ⟨_, rfl, hq⟩)))
    (fun _ hq => call_meets PySem.F.slot_tuple_eq_refl tb PySem.F.entry_tuple_eq (PySem.F.args_tuple_eq_2 _ _) (tuple_eq_declines_dict b l items n2 dd2 dd data sl2 sl) ⟨ho2, ho, hq⟩)
    (fun _ hq => wpAny_isSame_ref_other hne ho ho2 (by simp) hq) (.inr hu) h)
theorem op_eqDT {X : Cx} (hu : X.A.units + 64 < cLine) : OpR X (compareOp .Eq) (fun x y H Q => ∃ (a b : Addr) (kvs : List (Key × V)) (xs : List V), x = .ref a ∧ y = .ref b ∧ H a = some (.dK kvs) ∧ SqT X.K H b xs ∧ Q (.bl false) H) := by
  intro pins s σ H x y v u Q I rx ry h
  obtain ⟨a, b, kvs, xs, rfl, rfl, ha, hb, q⟩ := h
  cases rx
  cases ry
  obtain ⟨_, _, vs, _, dd⟩ := dk_of I.hok ha
  obtain ⟨its, _, pl, _⟩ := I.tuple hb
  exact RcAt_dict_tuple dd.typeIs pl (by omega) _ _ _ _ ⟨.bl _, H, I, rfl, q⟩
end
theorem op_eqDT2 {X : Cx} (hu : X.A.units + 66 < cLine) : OpR X (compareOp .Eq) (fun x y H Q => ∃ (p q da tb : Addr) (va vb : V) (kvs : List (Key × V)) (xs : List V) (d e : PyData), x = .ref p ∧ y = .ref q ∧ SqT X.K H p [va, .ref da] ∧ SqT X.K H q [vb, .ref tb] ∧ Dp X.K H va d ∧ Dp X.K H vb e ∧ SeqAt.shaped d = true ∧ SeqAt.shaped e = true ∧ H da = some (.dK kvs) ∧ SqT X.K H tb xs ∧ Q (.bl false) H) := by
  intro pins s σ H x y v u Q I rx ry h
  obtain ⟨p, q, da, tb, va, vb, kvs, xs, d, e, rfl, rfl, hp, hq, hd, he, sd, se, ha, hb, qq⟩ := h
  cases rx
  cases ry
  obtain ⟨_, _, vs, _, dd⟩ := dk_of I.hok ha
  obtain ⟨its, _, pl, _⟩ := I.tuple hb
  obtain ⟨i1, v1, p1, _⟩ := I.tuple hp
  obtain ⟨i2, v2, p2, _⟩ := I.tuple hq
  rcases v1 with _ | ⟨ra, v1⟩
  rcases v1 with _ | ⟨ra2, v1⟩
  cases v1
  cases ra2
  rcases v2 with _ | ⟨rb, v2⟩
  rcases v2 with _ | ⟨rb2, v2⟩
  cases v2
  cases rb2
  obtain ⟨as, r1⟩ := Dp.reads I d _ _ hd ra
  obtain ⟨bs, r2⟩ := Dp.reads I e _ _ he rb
  have hne : da ≠ tb := fun z => by
    subst z
    obtain ⟨o, ho, hc⟩ := dd.typeIs
    obtain ⟨o2, ho2, hc2, _⟩ := pl
    rw [ho] at ho2
    rw [Option.some.inj ho2] at hc
    exact absurd (hc.symm.trans hc2) (by simp)
  have hi : X.A.in1.units = X.A.units + 1 := rfl
  refine SeqAt.eq_tupleAt (e := fun j => if j = 0 then PyData.eqv d e else false) p1 p2 (by omega) (fun j h1 h2 => ?_) ⟨.bl _, H, I, rfl, ?_⟩
  · match j, h1, h2 with
    | 0, _, _ => exact SeqAt.eqAt_reads d e _ s _ _ as bs r1 r2 (SeqAt.canLay_of_shaped sd) (SeqAt.canLay_of_shaped se) (SeqAt.room_of_shaped sd (by omega))
    | 1, _, _ => exact SeqAt.EqAt.of_refs hne (RcAt_dict_tuple dd.typeIs pl (by omega))
    | j + 2, h1, _ => exact absurd (show j + 2 < 2 from h1) (by omega)
  · simpa [List.range_succ] using qq
theorem opr_cmp (o : CmpOp) {k : Nat} (hr : Room k X.A) : OpR X (compareOp o) (rC2 X.K (cmpD o)) := by
  intro pins s σ H x y v u Q I rx ry h
  obtain ⟨M, dx, dy, c, sm, tx, ty, hf, q⟩ := h
  unfold cmpD at hf
  split at hf
  · split at hf
    · rename_i a b hk
      rw [Bool.and_eq_true] at hk
      cases hf
      refine op_eqD hr.units pins s σ H x y v u Q I rx ry ⟨_, _, (tx.rep sm).dp hk.1, (ty.rep sm).dp hk.2, ok_shaped hk.1, ok_shaped hk.2, ?_⟩
      rw [eq_toP _ _ _ _ hk.1 hk.2]
      exact q
    · rename_i a b _
      unfold eqDT at hf
      split at hf
      · cases hf
        obtain ⟨a, kvs, rfl, ha, _⟩ := tx.dct sm
        obtain ⟨b, xs, rfl, _, hb, _⟩ := ty.tup sm
        exact op_eqDT hr.units pins s σ H _ _ v u Q I rx ry ⟨_, _, _, _, rfl, rfl, ha, SqT.of hb, q⟩
      · split at hf
        · rename_i hk
          rw [Bool.and_eq_true] at hk
          cases hf
          obtain ⟨p, us, rfl, _, hp, rp⟩ := tx.tup sm
          obtain ⟨p2, us2, rfl, _, hp2, rp2⟩ := ty.tup sm
          rcases rp with _ | ⟨ra, rp⟩
          rcases rp with _ | ⟨ra2, rp⟩
          cases rp
          cases ra2 with
          | dct ea _ =>
            rcases rp2 with _ | ⟨rb, rp2⟩
            rcases rp2 with _ | ⟨rb2, rp2⟩
            cases rp2
            cases rb2 with
            | tup eb _ =>
              exact op_eqDT2 (by have := hr.un; omega) pins s σ H _ _ v u Q I rx ry ⟨_, _, _, _, _, _, _, _, _, _, rfl, rfl, SqT.of hp, SqT.of hp2, (ra.mono sm).dp hk.1, (rb.mono sm).dp hk.2, ok_shaped hk.1, ok_shaped hk.2, sm _ _ ea, SqT.of (sm _ _ eb), q⟩
        · cases hf
      · cases hf
  · split at hf
    · rename_i a b hk
      rw [Bool.and_eq_true] at hk
      cases hf
      refine op_neD hr.units pins s σ H x y v u Q I rx ry ⟨_, _, (tx.rep sm).dp hk.1, (ty.rep sm).dp hk.2, ok_shaped hk.1, ok_shaped hk.2, ?_⟩
      rw [eq_toP _ _ _ _ hk.1 hk.2]
      exact q
    · cases hf
  · cases hf; exact op_lt pins s σ H x y v u Q I rx ry ⟨_, _, tx.int, ty.int, q⟩
  · cases hf; exact op_le pins s σ H x y v u Q I rx ry ⟨_, _, tx.int, ty.int, q⟩
  · cases hf; exact op_gt pins s σ H x y v u Q I rx ry ⟨_, _, tx.int, ty.int, q⟩
  · cases hf; exact op_ge pins s σ H x y v u Q I rx ry ⟨_, _, tx.int, ty.int, q⟩
  · cases hf; exact op_lt_str pins s σ H x y v u Q I rx ry ⟨_, _, tx.str, ty.str, q⟩
  · cases hf; exact op_le_str pins s σ H x y v u Q I rx ry ⟨_, _, tx.str, ty.str, q⟩
  · cases hf
    refine op_isN pins s σ H x y v u Q I rx ry ⟨ty.non, ?_⟩
    rw [isNone_top tx]; exact q
  · cases hf
    refine op_notN pins s σ H x y v u Q I rx ry ⟨ty.non, ?_⟩
    rw [isNone_top tx]; exact q
  · cases hf; exact op_isBl pins s σ H x y v u Q I rx ry ⟨_, _, tx.bl, ty.bl, q⟩
  · cases hf
    refine op_notBl pins s σ H x y v u Q I rx ry ⟨_, _, tx.bl, ty.bl, ?_⟩
    exact q
  · split at hf
    · rename_i a xs hk
      rw [Bool.and_eq_true] at hk
      cases hf
      obtain ⟨b, vs, rfl, hb, rb⟩ := ty.lst sm
      refine op_inD (by have := hr.un; omega) pins s σ H x _ v u Q I rx ry ⟨_, _, (tx.rep sm).dp hk.1, .lst (SqL.of hb) ((rb.mono sm).dp hk.2), ok_shaped hk.1, oks_shaped hk.2, ?_⟩
      rw [any_toP _ _ hk.1 _ _ hk.2]
      exact q
    · cases hf
  · split at hf
    · rename_i a xs hk
      rw [Bool.and_eq_true] at hk
      cases hf
      obtain ⟨b, vs, rfl, _, hb, rb⟩ := ty.tup sm
      refine op_inT false (by have := hr.un; omega) pins s σ H x _ v u Q I rx ry ⟨b, vs, _, _, rfl, SqT.of hb, (tx.rep sm).dp hk.1, (rb.mono sm).dp hk.2, ok_shaped hk.1, oks_shaped hk.2, ?_⟩
      rw [any_toP _ _ hk.1 _ _ hk.2]
      exact q
    · cases hf
  · split at hf
    · rename_i a xs hk
      rw [Bool.and_eq_true] at hk
      cases hf
      obtain ⟨b, vs, rfl, _, hb, rb⟩ := ty.tup sm
      refine op_inT true (by have := hr.un; omega) pins s σ H x _ v u Q I rx ry ⟨b, vs, _, _, rfl, SqT.of hb, (tx.rep sm).dp hk.1, (rb.mono sm).dp hk.2, ok_shaped hk.1, oks_shaped hk.2, ?_⟩
      rw [any_toP _ _ hk.1 _ _ hk.2]
      exact q
    · cases hf
  · split at hf
    · rename_i a xs hk
      rw [Bool.and_eq_true] at hk
      cases hf
      obtain ⟨b, vs, rfl, hb, rb⟩ := ty.lst sm
      refine op_notInD (by have := hr.un; omega) pins s σ H x _ v u Q I rx ry ⟨_, _, (tx.rep sm).dp hk.1, .lst (SqL.of hb) ((rb.mono sm).dp hk.2), ok_shaped hk.1, oks_shaped hk.2, ?_⟩
      rw [any_toP _ _ hk.1 _ _ hk.2]
      exact q
    · cases hf
  · cases hf
theorem atN_ix {n : Nat} {i : Int} {k : Nat} (h : atN n i = some k) : ixN n i = some k := h
theorem isKey_key {d : D} (h : isKey d = true) : ∃ k, d = keyV k := by
  cases d <;> first | exact ⟨.inl _, rfl⟩ | exact ⟨.inr _, rfl⟩ | cases h
theorem Top.key {K : PySem.W.Frag} {M H : Hp} {x : V} {k : Key} (t : Top K M H x (keyV k)) : x = kV k := by
  cases k with
  | inl i => exact Top.int t
  | inr i => exact Top.str t
/-- d[y] of a dict, by values -/
theorem ix_dct (hu : X.A.units + 1 < cLine) : IxR X (fun x y H Q => ∃ a v, x = .ref a ∧ DGet H a y (some v) ∧ Q v H) := by
  intro value slice pins s σ H x y v u Q I rx ry h hs
  obtain ⟨a, z, rfl, g, q⟩ := h
  cases rx
  exact tail_any (dict_typeIs I g) PySem.F.slot_dict_getitem.lookup (d_getItem hu I g ry fun w' s' I' rw' => ⟨z, H, I', rw', q⟩) hs
theorem ixr_ix {k : Nat} (hr : Room k X.A) : IxR X (rP2 X.K fun a b => (ixD a b).map fun z => (false, z)) := by
  intro value slice pins s σ H x y v u Q I rx ry h hs
  obtain ⟨M, dx, dy, r, sm, tx, ty, hf, q⟩ := h
  cases hu : ixD dx dy with
  | none => simp only [hu, Option.map_none] at hf; cases hf
  | some z =>
    simp only [hu, Option.map_some] at hf
    cases hf
    unfold ixD at hu
    split at hu
    · rename_i xs i
      obtain ⟨a, vs, rfl, ha, ra⟩ := tx.lst sm
      cases hk : atN xs.length i with
      | none => rw [hk] at hu; cases hu
      | some k =>
        rw [hk] at hu
        have hu : xs[k]? = some z := hu
        obtain ⟨w, hw, rw_⟩ := ra.get hu
        refine ix_list value slice pins s σ H _ y v u Q I rx ry ⟨_, _, _, w, rfl, ty.int, SqL.of ha, ?_, q _ _ _ (Pur.refl sm) (.of rw_)⟩ hs
        unfold atI
        rw [ra.length, atN_ix hk]
        exact hw
    · rename_i xs i
      obtain ⟨a, vs, rfl, ma, ha, ra⟩ := tx.tup sm
      cases hk : atN xs.length i with
      | none => rw [hk] at hu; cases hu
      | some k =>
        rw [hk] at hu
        have hu : xs[k]? = some z := hu
        obtain ⟨w, hw, rw_⟩ := ra.get hu
        refine ix_tup value slice pins s σ H _ y v u Q I rx ry ⟨_, _, _, w, rfl, ty.int, SqT.of ha, ?_, q _ _ _ (Pur.refl sm) (.of rw_)⟩ hs
        unfold atI
        rw [ra.length, atN_ix hk]
        exact hw
    · rename_i zs i
      split at hu
      · rename_i hl
        cases hk : ((atN zs.cps.toList.length i).bind fun k => zs.cps.toList[k]?) with
        | none => rw [hk] at hu; cases hu
        | some c =>
          rw [hk] at hu
          cases hu
          refine ix_str value slice pins s σ H x y v u Q I rx ry ⟨_, _, c, tx.str, ty.int, fit_le hl, ?_, q _ _ _ (Pur.refl sm) (.of (.str _))⟩ hs
          exact hk
      · cases hu
    · rename_i xs
      split at hu
      · rename_i hk
        obtain ⟨a, kvs, rfl, ha, ra⟩ := tx.dct sm
        obtain ⟨k, rfl⟩ := isKey_key hk
        have g := ra.get k
        rw [hu] at g
        obtain ⟨w, g, rw_⟩ := g
        refine ix_dct (by have := hr.un; omega) value slice pins s σ H _ y v u Q I rx ry ⟨_, w, rfl, ?_, q _ _ _ (Pur.refl sm) (.of rw_)⟩ hs
        rw [← g, ty.key]
        exact DGet.k ha
      · cases hu
    · cases hu
def rPS (K : PySem.W.Frag) (f : D → Option Int → Option Int → Option (Bool × D)) : V → Option Int → Option Int → Hp → VK → Prop := fun x lo hi H Q =>
  ∃ M dx r, Same M H ∧ Top K M H x dx ∧ f dx lo hi = some r ∧ ∀ v M' H', Pur M H M' H' → ResO K H M' H' v r → Q v H'
theorem Reps.cut {K : PySem.W.Frag} {M : Hp} {vs : List V} {ds : List D} (r : Reps K M vs ds) (lo hi : Option Int) : Reps K M (cutV vs lo hi) (cutD ds lo hi) := by
  unfold cutV cutD
  rw [r.length]
  exact (r.drop _).take _
theorem slr_sl : SlR X (rPS X.K slD) := by
  intro pins s σ H x v vl vu lo hi sl Q I rx hs pl pu h
  obtain ⟨M, dx, r, sm, tx, hf, q⟩ := h
  unfold slD at hf
  split at hf
  · cases hf
    obtain ⟨a, vs, rfl, ha, ra⟩ := tx.lst sm
    exact sl_list pins s σ H _ v vl vu lo hi sl Q I rx hs pl pu ⟨_, _, rfl, SqL.of ha, fun p hp => q _ _ _ (Pur.own sm hp) (.newL sm hp (ra.cut _ _))⟩
  · cases hf
    obtain ⟨a, vs, rfl, ma, ha, ra⟩ := tx.tup sm
    refine sl_tupA pins s σ H _ v vl vu lo hi sl Q I rx hs pl pu ⟨_, _, rfl, SqT.of ha, fun e => ?_, fun _ p hp => q _ _ _ (Pur.lay sm hp) (.newT sm hp (ra.cut _ _))⟩
    refine q _ _ _ (Pur.refl sm) (.of (.tup ma ?_))
    unfold cutD
    rw [← ra.length, e.1, e.2, List.drop_zero, Nat.sub_zero, ra.length, List.take_length]
    exact ra
  · split at hf
    · rename_i hl
      cases hf
      exact sl_str pins s σ H x v vl vu lo hi sl Q I rx hs pl pu ⟨_, tx.str, fit_le hl, q _ _ _ (Pur.refl sm) (.of (.str _))⟩
    · cases hf
  · cases hf
end
end L2.Eng
namespace L2.Eng
open PySem PySem.Spec PyProof.Rows
/-! ## sets of whole numbers: made of a list, told in order -/
section
variable {P : Program} {w : World} {A : Around} {E : Value → Shared → Prop} {s : Shared}
/-- the empty set as it is laid -/
def freshSet (w : World) : Obj := { cls := .type "set", dict := none, data := .set #[] 0 (.fresh 0 0 (!w.params.followText "set-order")) }
/-- what set(l) leaves -/
def SetMade (w : World) (s : Shared) (ns : List Int) (h' : Heap) (c : Nat) : Prop :=
  SetR w h' s.heap.objs.size (fun j => decide (j ∈ ns)) c ∧ c ≤ ns.length ∧ ∀ b o, s.heap.get? b = some o → h'.get? b = some o
theorem freshSet_at (h : Heap) (w : World) : (h.push (freshSet w)).get? h.objs.size = some (freshSet w) := Heap.get?_push_size _ rfl
set_option maxHeartbeats 8000000 in
/-- set(l) of a list of whole numbers -/
theorem call_set_lst {l : Addr} {us : Array Value} (ns : List Int) {Q : Value → Shared → Prop} (calm : A.handled = none) (isl : s.heap.IsList l us) (nums : IntsAre us.toList ns) (few : ns.length + 1 < scanBound)
    (next : ∀ (h' : Heap) (tk c : Nat), SetMade w s ns h' c → Q (.ref s.heap.objs.size) { s with heap := h', toks := tk }) : wpAny (model P w) A (call (.type "set") [.ref l]) Q E s := by
  have many : us.size = ns.length := by have q := IntsAre.length nums; rwa [Array.length_toList] at q
  obtain ⟨cc, rest, mro⟩ := F.called_set.mro
  have made := F.called_set.made
  have subm := F.called_set.sub
  refine wpAny_call (codeAny_of_tree ?_)
  show wpAny _ _ (callAny (.type "set") _) _ _ _
  refine wpAny_pure ⟨Code.quiet_builtin _ (by decide +kernel), codeAny_builtin F.entry_type_call ?_⟩
  rw [Around.under_plain (weight_type_call_type "set" [.ref l] []) rfl]
  have t1 := F.called_set.notType
  have t2 := F.called_set.canCreate
  have t3 := F.typeCall_set_1 (.ref l)
  repeat (any_goals (first | assumption | wp_step))
  refine codeAny_mono (code_set_led1 (.ref l) (E := E) (Q₁ := fun o s1 => o = .ref s.heap.objs.size ∧ s1 = { s with heap := s.heap.push (freshSet w) }) ⟨rfl, rfl⟩) fun r s1 hr => ?_
  cases r with
  | error e => exact hr
  | ok fl =>
    cases fl with
    | ret obj =>
      obtain ⟨rfl, rfl⟩ := hr
      have at0 := freshSet_at s.heap w
      have ty0 : Shared.TypeIs { s with heap := s.heap.push (freshSet w) } (.ref s.heap.objs.size) "set" := ⟨_, at0, rfl⟩
      have look := F.called_set.init.lookup
      have bound := F.called_set.init.bind (.ref s.heap.objs.size)
      repeat (any_goals (first | assumption | wp_step))
      refine codeAny_mono (codeAny_call_builtin (R := wants (fun r s2 => r = .none ∧ ∃ h' tk c, s2 = { s with heap := h', toks := tk } ∧ SetMade w s ns h' c) E) F.called_set.init.plain F.entry_set_init (check_set_init_1 ty0 ?_)) fun r2 s2 hr2 => ?_
      · obtain ⟨lo, lget, lcls, nl, ldat⟩ := isl
        obtain ⟨c0, d0, dat0, sl0⟩ := lo
        simp only at lcls ldat
        subst lcls; subst ldat
        have lget' : (s.heap.push (freshSet w)).get? l = some { cls := .type "list", dict := d0, data := .seq us nl, slots := sl0 } := Heap.get?_push_of_some _ lget
        have q1 := F.sub_list_set
        have q2 := F.sub_list_frozenset
        have q3 : (Value.type "list" == Value.type "dict") = false := by decide
        have isl' : (s.heap.push (freshSet w)).IsList l us := ⟨_, lget', rfl, nl, rfl⟩
        unfold Builtin.«set.__init__» noKeywords Builtin.Frozenset.updateFrom
        generalize walkIt : pyIter = PI
        wp_walk
        subst walkIt
        refine wpAny_pyIter_list isl' (wpAny_bind (wpAny_runValue ?_))
        have llt : l < s.heap.objs.size := Heap.lt_size lget
        have calm3 : A.in1.in1.in1.handled = none := by simp [calm]
        have lne : l ≠ (s.heap.push (freshSet w)).objs.size := by rw [Heap.size_push]; exact Nat.ne_of_lt (Nat.lt_succ_of_lt llt)
        have out0 : s.heap.objs.size ∉ [(s.heap.push (freshSet w)).objs.size, l] := by
          rw [Heap.size_push]
          intro z
          rcases List.mem_cons.mp z with z | z
          · exact absurd z (Nat.ne_of_lt (Nat.lt_succ_self _))
          · rw [List.mem_singleton] at z; exact absurd z (Nat.ne_of_gt llt)
        have vals : ∀ (i : Nat) (v : Value), us[i]? = some v → ∃ k t, ns[i]? = some k ∧ v = .int k t := fun i v hv => by
          have hi : i < ns.length := by rw [← many]; exact (Array.getElem?_eq_some_iff.mp hv).1
          obtain ⟨t, e⟩ := PyProof.Rows.IntsAre.int_at nums i v (by rw [Array.getElem?_toList]; exact hv)
          refine ⟨ns[i], t, List.getElem?_eq_getElem hi, ?_⟩
          rw [e, List.getD_eq_getElem?_getD, List.getElem?_eq_getElem hi] <;> rfl
        refine set_update_ints ((Walks.list calm3 _ l lne us).toS) s.heap.objs.size out0 ns many few vals (us.size - 0) 0 _ (by omega) (Nat.zero_le _) ⟨⟨_, Heap.get?_push_size _ rfl, rfl, rfl⟩, (isl'.push _)⟩ ?start ?fin
        case start => exact ⟨0, Nat.le_refl 0, setR_new_at (Heap.get?_push_of_some _ at0)⟩
        case fin =>
          intro s3 c3 mv c3n S3
          obtain ⟨h3, g3, d3, tk3, os3⟩ := s3
          have eg : g3 = s.gens := mv.gens
          have ed : d3 = s.drawn := mv.drawn
          have eo : os3 = s.os := mv.os
          subst eg; subst ed; subst eo
          show wpAny _ _ _ _ _ _
          refine wpAny_pure ?_
          show wpAny _ _ (ret Value.none) _ _ _
          rw [many] at c3n
          refine wpAny_pure ⟨rfl, h3, tk3, c3, rfl, S3, c3n, fun b o e => ?_⟩
          have blt : b < s.heap.objs.size := Heap.lt_size e
          refine mv.heap b o (fun z => ?_) (Heap.get?_push_of_some _ (Heap.get?_push_of_some _ e))
          rcases List.mem_cons.mp z with z | z
          · exact absurd z (Nat.ne_of_lt blt)
          · rw [List.mem_singleton, Heap.size_push] at z; exact absurd z (Nat.ne_of_lt (Nat.lt_succ_of_lt blt))
      · cases r2 with
        | error e => exact hr2
        | ok fl2 =>
          cases fl2 with
          | ret r =>
            obtain ⟨rfl, h', tk, c', rfl, mk⟩ := hr2
            repeat (any_goals (first | assumption | wp_step))
            exact next _ _ _ mk
          | _ => exact hr2.elim
    | _ => exact hr.elim
/-- sorted(set): its members, each once, in order -/
theorem sorted_setA {a : Addr} {S : Int → Bool} {n : Nat} {Q : Value → Shared → Prop} (R : SetR w s.heap a S n) (calm : A.handled = none)
    (next : ∀ s' p (out : Array Value) (c : Nat) (ns : List Int), (∀ b o, s.heap.get? b = some o → s'.heap.get? b = some o) → s'.gens = s.gens → s'.os = s.os → s.heap.objs.size ≤ p → s'.heap.get? p = some (seqObj "list" out c) → IntsAre out.toList ns →
      ns.Pairwise (· < ·) → (∀ k, k ∈ ns ↔ S k = true) → ns.length = n → Q (.ref p) s') : wpAny (model P w) A (call (.builtin "sorted") [.ref a]) Q E s := by
  obtain ⟨o, es, ep, t, got, ex, dat, good, nd, mem, few, fits, num, ris, led⟩ := R
  refine Calls.call_function_entry kind_sorted plain_sorted entry_sorted (args_sorted1 _) ?_
  unfold Builtin.«sorted»
  refine wpAny_bind (m := checkCount "sorted" 1 1 _) (wpAny_pure ?_)
  refine wpAny_bind (collect_set (A := A.in1) calm ⟨o, got, ex.1, dat⟩ fits few ris led fun s1 vs kept grown g1 o1 perm => ?_)
  have len : vs.length = n := by rw [perm.length_eq, List.length_map, Array.length_toList]; exact num
  have room : vs.length ≤ sizeLine := by
    rw [len, ← num]
    exact fits_of_scanBound few
  have whole : IntsAre vs (vs.map SrtO.iv) := SrtO.ints_iv fun v hv => by
    obtain ⟨e, he, q⟩ := List.mem_map.mp (perm.mem_iff.mp hv)
    obtain ⟨k, tk, h1, _⟩ := good e he
    exact ⟨k, tk, by rw [← q]; exact h1⟩
  have keys : (vs.map SrtO.iv).Perm (es.toList.map keyOf) := by
    have q := perm.map SrtO.iv
    rw [List.map_map] at q
    exact q
  refine wpAny_bind (wpAny_newList ?_ room)
  have at1 : (s1.heap.push (seqObj "list" vs.toArray 0)).get? s1.heap.objs.size = some (seqObj "list" vs.toArray 0) := Heap.get?_push_size _ rfl
  refine wpAny_bind (wpAny_holding (wpAny_call_entry slot_list_sort ⟨_, at1, rfl⟩ entry_list_sort
    (SrtO.list_sort_ord SrtO.swo_int at1 room (fun h2 => SrtO.ints_sortable whole h2) fun out h1 h2 => ⟨.none, rfl, ?_⟩) (args_list_sort _)))
  obtain ⟨k1, k2, k3⟩ := SrtO.ints_out whole h1 h2
  obtain ⟨c, hc⟩ := sortedHeap_at (vs := vs) (out := out.toArray) at1
  have pn : (out.map SrtO.iv).Perm (es.toList.map keyOf) := k2.trans keys
  refine wpAny_pure ⟨_, rfl, next _ s1.heap.objs.size out.toArray c _ (fun b u e => ?_) g1 o1 grown hc (by simpa using k1) (lt_of_le_nodup _ k3 (pn.nodup_iff.mpr nd)) (fun k => by rw [pn.mem_iff, ← mem k]) ?_⟩
  · have q := kept b u e
    have hlt := Heap.lt_size q
    show (sortedHeap (s1.heap.push (seqObj "list" vs.toArray 0)) s1.heap.objs.size vs out.toArray).get? b = some u
    rw [sortedHeap_old (Nat.ne_of_lt hlt) (by rw [size_push']; exact Nat.lt_succ_of_lt hlt)]
    exact Heap.get?_push_of_some _ q
  · rw [pn.length_eq, List.length_map, Array.length_toList]; exact num
end
section
variable {X : Cx}
/-- a list or a tuple of whole numbers -/
def Nums (K : PySem.W.Frag) (H : Hp) (x : V) (ns : List Int) : Prop := ∃ l, x = V.ref l ∧ (SqL K H l (ns.map V.int) ∨ SqT K H l (ns.map V.int))
/-- set(xs), made -/
theorem set_of_nums {pins : List (Addr × Obj)} {σ : St} {H : Hp} {s : Shared} {A : Around} {E : Value → Shared → Prop} {x : V} {v : Value} {ns : List Int} {Q : Value → Shared → Prop} (I : Inv X pins σ H s) (calm : A.handled = none) (hx : Nums X.K H x ns) (rx : RelV x v) (few : ns.length + 1 < scanBound)
    (next : ∀ (s2 : Shared) (a : Addr) (c : Nat), Inv X pins σ H s2 → SetR X.w s2.heap a (fun j => decide (j ∈ ns)) c → Q (.ref a) s2) : wpAny (model X.prog X.w) A (call (.type "set") [v]) Q E s := by
  obtain ⟨l, rfl, hx⟩ := hx
  cases rx
  have kept : ∀ (h' : Heap) (tk : Nat), (∀ b o, s.heap.get? b = some o → h'.get? b = some o) → Inv X pins σ H { s with heap := h', toks := tk } := fun h' tk k => I.kept fun b o e => k b o e
  rcases hx with hx | hx
  · obtain ⟨its, r, pl, hz⟩ := I.list hx
    exact call_set_lst ns calm pl.isList (by simpa using r.ints) few fun h' tk c ⟨S, _, k⟩ => next _ _ c (kept h' tk k) S
  · obtain ⟨its, r, pl, hz⟩ := I.tuple hx
    exact call_set_tupI ns calm pl (by simpa using r.ints) few fun h' tk c S _ k => next _ _ c (kept h' tk k) S
def tSset (K : PySem.W.Frag) (ta : TE) : TE := fun σ H Q => ta σ H fun x H1 => ∃ ns : List Int, Nums K H1 x ns ∧ ns.length + 1 < scanBound ∧
  ∀ (ns' : List Int) (p : Addr), ns'.Pairwise (· < ·) → (∀ k, k ∈ ns' ↔ k ∈ ns) → H1 p = none → Q (.ref p) (upd H1 p (.lst (ns'.map V.int)))
theorem pe_sset {a : Expr} {ta : TE} {p p2 q pos : Pos} (hc : X.calm = true) (hg : Gl X "sorted") (hm : X.mg "sorted" = none) (hg2 : Gl X "set") (hm2 : X.mg "set" = none) (ha : PE X a ta)
    (na : starEach [a] X.env = (false, eval a X.env) :: starEach [] X.env) : PE X (.Call (.Name "sorted" p) [.Call (.Name "set" p2) [a] [] q] [] pos) (tSset X.K ta) := by
  refine ⟨fun pins s σ H Q I h => Call_ (ld_blt I hg hm PyProof.Rows.boot_sorted ?_)⟩
  refine PyProof.Rows.callWith_builtin1 (PyProof.Rows.args_cons ?_ rfl) rfl rfl
  refine Call_ (ld_blt I hg2 hm2 PyProof.Rows.boot_set ?_)
  refine PyProof.Rows.callWith_type1 (PyProof.Rows.args_cons (thn (ha.run pins s σ H _ I h) fun v s1 ⟨x, H1, I1, r1, q1⟩ => PyProof.Rows.args_nil ?_) na) na rfl
  obtain ⟨ns, hx, few, q1⟩ := q1
  refine set_of_nums I1 (I1.ok.hd hc) hx r1 few fun s2 a2 c2 I2 S2 => PyProof.Rows.args_nil ?_
  refine sorted_setA S2 (I2.ok.hd hc) fun s' p out c ns' kept g o grown at_ nums sorted mem num => ?_
  have fit : (ns'.map V.int).length ≤ sizeLine := by
    rw [List.length_map, num]
    obtain ⟨_, es, _, _, _, _, _, _, _, _, small, _, eqn, _⟩ := S2
    rw [← eqn]
    exact fits_of_scanBound small
  have free : H1 p = none := I2.hok.fresh grown
  have J : Inv X pins σ (upd H1 p (.lst (ns'.map V.int))) { s2 with heap := s'.heap, gens := s'.gens, drawn := s'.drawn, toks := s'.toks } :=
    I2.call (ch := []) (Un.laid kept grown free) (I2.hok.laid kept grown ⟨fit, out.toList, c, vals_of_ints nums, at_⟩) (by rw [g]; exact I2.bare) (fun _ z => nomatch z)
  have e : s' = { s2 with heap := s'.heap, gens := s'.gens, drawn := s'.drawn, toks := s'.toks } := by
    cases s'; cases s2; cases o; rfl
  rw [e]
  exact ⟨.ref p, _, J, rfl, q1 ns' p sorted (fun k => by rw [mem k, decide_eq_true_eq]) free⟩
def tLset (K : PySem.W.Frag) (ta : TE) : TE := fun σ H Q => ta σ H fun x H1 => ∃ ns : List Int, Nums K H1 x ns ∧ ns.length + 1 < scanBound ∧
  ∀ L : List Int, L.Nodup → (∀ k, k ∈ L ↔ k ∈ ns) → Q (.int L.length) H1
theorem pe_lset {a : Expr} {ta : TE} {p p2 q pos : Pos} (hc : X.calm = true) (hg : Gl X "len") (hm : X.mg "len" = none) (hg2 : Gl X "set") (hm2 : X.mg "set" = none) (ha : PE X a ta)
    (na : starEach [a] X.env = (false, eval a X.env) :: starEach [] X.env) : PE X (.Call (.Name "len" p) [.Call (.Name "set" p2) [a] [] q] [] pos) (tLset X.K ta) := by
  refine ⟨fun pins s σ H Q I h => Call_ (ld_blt I hg hm PySem.boot_len ?_)⟩
  refine PyProof.Rows.callWith_builtin1 (PyProof.Rows.args_cons ?_ rfl) rfl rfl
  refine Call_ (ld_blt I hg2 hm2 PyProof.Rows.boot_set ?_)
  refine PyProof.Rows.callWith_type1 (PyProof.Rows.args_cons (thn (ha.run pins s σ H _ I h) fun v s1 ⟨x, H1, I1, r1, q1⟩ => PyProof.Rows.args_nil ?_) na) na rfl
  obtain ⟨ns, hx, few, q1⟩ := q1
  refine set_of_nums I1 (I1.ok.hd hc) hx r1 few fun s2 a2 c2 I2 S2 => PyProof.Rows.args_nil ?_
  obtain ⟨o, es, ep, t, got, ex, dat, good, nd, mem, small, fits, num, ris, led⟩ := S2
  have small' : es.size < 4096 := small
  refine call_len_set got ex dat fits (by omega) ⟨.int es.size, H1, I2.tok _, ⟨_, rfl⟩, ?_⟩
  have z := q1 (es.toList.map keyOf) nd fun k => by rw [← mem k, decide_eq_true_eq]
  rw [List.length_map, Array.length_toList] at z
  exact z
/-- sorted(d) of a dict whose keys are whole numbers, any number of them -/
theorem call_sortedDA (calm : X.calm = true) : CallR X (.builtin "sorted") (fun xs H Q => ∃ (a : Addr) (kvs : List (Key × V)) (ks : List Int), xs = [.ref a] ∧ Rd H a (.dK kvs) ∧ kvs.map (·.1) = ks.map Sum.inl ∧ ks.length ≤ 1000000 ∧
    ∀ (ys : List Int) (p : Addr), ys.Perm ks → ys.Pairwise (· ≤ ·) → H p = none → Q (.ref p) (upd H p (.lst (ys.map V.int)))) := by
  intro pins s σ H xs us Q I r ⟨a, kvs, ks, ex, rd, keys, few, next⟩
  subst ex
  obtain ⟨u, eu, ru⟩ := vals1 r
  subst eu
  cases ru
  obtain ⟨fit, lo, vs, rel, held⟩ := dk_rd I.hok rd
  obtain ⟨ep, at0⟩ := held.dictAt
  have keys' : vs.map (·.1) = ks.map Sum.inl := rel.keys.symm.trans keys
  have num : vs.length = ks.length := by
    have e := congrArg List.length keys'
    rwa [List.length_map, List.length_map] at e
  have line : ∀ n, n ≤ 1000000 → n ≤ sizeLine := fun n hn => by rw [sizeLine_eq]; omega
  have room : vs.length ≤ sizeLine := line _ (num ▸ few)
  refine Calls.call_function_entry PyProof.Rows.kind_sorted PyProof.Rows.plain_sorted PyProof.Rows.entry_sorted (PyProof.Rows.args_sorted1 _) ?_
  unfold Builtin.«sorted»
  refine wpAny_bind (m := checkCount "sorted" 1 1 _) (wpAny_pure ?_)
  refine wpAny_bind (PySem.W.kdu_collect (A := X.A.in1) (PySem.W.kdl_dict (knd := mixKind X.prog X.w) (kvs := vs) (ep := ep) lo) (I.ok.hd calm) at0 room fun h' tk acc kept got => ?_)
  have many : acc.toList.length = ks.length := by rw [Array.length_toList, got.1, num]
  have nums : IntsAre acc.toList ks := ints_each many fun j v e => by
    obtain ⟨k, x, e1, e2⟩ := got.2 j v (by rw [← Array.getElem?_toList]; exact e)
    have e3 : (vs.map (·.1))[j]? = some k := by rw [List.getElem?_map, e1]; rfl
    rw [keys', List.getElem?_map] at e3
    cases e4 : ks[j]? with
    | none => rw [e4] at e3; cases e3
    | some y =>
      rw [e4] at e3
      have e5 : Sum.inl y = k := Option.some.inj e3
      subst e5
      rcases keyIs_shape (show keyIs (Sum.inl y) v = true from e2) with ⟨i, t, ek, ev⟩ | ⟨z, t, ek, ev⟩
      · cases ek
        exact ⟨y, t, rfl, ev⟩
      · cases ek
  have J : Inv X pins σ H { s with heap := h', toks := tk } := I.kept kept
  have room2 : acc.toList.length ≤ sizeLine := line _ (many ▸ few)
  refine wpAny_bind (wpAny_newList ?_ room2)
  have at1 : (h'.push (seqObj "list" acc.toList.toArray 0)).get? h'.objs.size = some (seqObj "list" acc.toList.toArray 0) := Heap.get?_push_size _ rfl
  show wpAny _ _ _ _ _ { s with heap := h'.push (seqObj "list" acc.toList.toArray 0), toks := tk }
  refine wpAny_bind (wpAny_holding (wpAny_call_entry PyProof.Rows.slot_list_sort ⟨_, at1, rfl⟩ PyProof.Rows.entry_list_sort
    (SrtO.list_sort_ord (s := { s with heap := h'.push (seqObj "list" acc.toList.toArray 0), toks := tk }) SrtO.swo_int at1 room2 (fun h2 => SrtO.ints_sortable nums h2) fun out h1 h2 => ⟨.none, rfl, ?_⟩) (PyProof.Rows.args_list_sort _)))
  obtain ⟨k1, k2, k3⟩ := SrtO.ints_out nums h1 h2
  obtain ⟨e', at2⟩ := PyProof.Rows.sortedHeap_at (vs := acc.toList) (out := out.toArray) at1
  have fit2 : ((out.map SrtO.iv).map V.int).length ≤ sizeLine := by
    rw [List.length_map, k2.length_eq]
    exact line _ few
  refine wpAny_pure ⟨_, rfl, .ref h'.objs.size, upd H h'.objs.size (.lst ((out.map SrtO.iv).map V.int)), J.laid (t' := tk) (fun b u e => ?_) (Nat.le_refl _)
    (show ObjOk X.prog X.w _ _ _ (.lst ((out.map SrtO.iv).map V.int)) from ⟨fit2, out, e', vals_of_ints k1, at2⟩), rfl, next _ _ k2 k3 (J.hok.fresh (Nat.le_refl _))⟩
  have low : b < h'.objs.size := Heap.lt_size e
  rw [PyProof.Rows.sortedHeap_old (Nat.ne_of_lt low) (by rw [size_push']; exact Nat.lt_succ_of_lt low)]
  exact Heap.get?_push_of_some _ e
end
end L2.Eng
namespace L2.Eng
open PySem PySem.Spec PyProof.Rows
/-! ## built-in functions by values -/
def rCa (K : PySem.W.Frag) (f : List D → Option (Bool × D)) : List V → Hp → VK → Prop := fun xs H Q => ∃ M ds r, Same M H ∧ Tops K M H xs ds ∧ f ds = some r ∧ ∀ v M' H', Pur M H M' H' → ResO K H M' H' v r → Q v H'
/-- the name, and what it is: a function or a class -/
def Prim.name : Prim → String
  | .len => "len"
  | .list => "list"
  | .tuple => "tuple"
  | .sum => "sum"
  | .all => "all"
  | .any => "any"
  | .int => "int"
  | .abs => "abs"
  | .isi => "isinstance"
  | .sorted => "sorted"
  | .str => "str"
def Prim.isTy : Prim → Bool
  | .list => true
  | .tuple => true
  | .int => true
  | .str => true
  | _ => false
def Prim.val (p : Prim) : Value := if p.isTy then .type p.name else .builtin p.name
theorem prim_boot (p : Prim) : bootBuiltins p.name = some p.val := by
  cases p <;> decide +kernel
section
variable {X : Cx}
theorem Tops.one {K : PySem.W.Frag} {M H : Hp} {xs : List V} {d : D} (t : Tops K M H xs [d]) : ∃ x, xs = [x] ∧ Top K M H x d := by
  cases t with | cons a b => cases b; exact ⟨_, rfl, a⟩
theorem Tops.two {K : PySem.W.Frag} {M H : Hp} {xs : List V} {d e : D} (t : Tops K M H xs [d, e]) : ∃ x y, xs = [x, y] ∧ Top K M H x d ∧ Top K M H y e := by
  cases t with | cons a b => cases b with | cons b c => cases c; exact ⟨_, _, rfl, a, b⟩
theorem Top.scr {K : PySem.W.Frag} {M H : Hp} {v : V} {ds : List D} (t : Top K M H v (.scr ds)) (s : Same M H) : ∃ a vs, v = .ref a ∧ SqL K H a vs ∧ Reps K M vs ds := by
  rcases t with r | ⟨a, rfl, o⟩
  · cases r with | scr e q => exact ⟨_, _, rfl, s.seq e, q⟩
  · cases o
theorem Top.ty {K : PySem.W.Frag} {M H : Hp} {v : V} {n : String} (t : Top K M H v (.ty n)) : v = .ty n := by
  rcases t with r | ⟨a, rfl, o⟩
  · cases r; rfl
  · cases o
theorem tyX_of {K : PySem.W.Frag} {M H : Hp} {x : V} {d : D} {t : String} (sm : Same M H) (tp : Top K M H x d) (h : tyOf d = some t) : TyX K H x (.type t) := by
  unfold tyOf at h
  split at h <;> first | cases h | skip
  · rw [tp.non]; exact .base .non
  · rw [tp.bl]; exact .base (.bl _)
  · rw [tp.int]; exact .base (.int _)
  · rw [tp.str]; exact .base (.str _)
  · obtain ⟨a, vs, rfl, _, ha, _⟩ := tp.tup sm; exact .base (.tup ha)
  · obtain ⟨a, vs, rfl, ha, _⟩ := tp.lst sm; exact .base (.lst ha)
  · obtain ⟨a, kvs, rfl, ha, _⟩ := tp.dct sm; exact .base (.dK ha)
theorem isi_kit {K : PySem.W.Frag} {n t : String} {b : Bool} (h : isiD n t = some b) : PySem.W.kitOne K (.type t) (.type n) = some b := by
  refine kit_ty ?_
  unfold isiD at h
  split at h
  · rename_i hk
    rw [Bool.and_eq_true] at hk
    obtain ⟨h1, h2⟩ := hk
    simp only [List.contains_cons, List.contains_nil, Bool.or_false, Bool.or_eq_true, beq_iff_eq] at h1 h2
    cases h
    rcases h1 with rfl | rfl | rfl | rfl | rfl <;> rcases h2 with rfl | rfl | rfl | rfl | rfl | rfl | rfl <;> decide +kernel
  · cases h
theorem insI_perm (i : Int) : ∀ l : List Int, (insI i l).Perm (i :: l)
  | [] => .refl _
  | j :: r => by
    unfold insI
    split
    · exact .refl _
    · exact ((insI_perm i r).cons j).trans (.swap i j r)
theorem sortI_perm : ∀ l : List Int, (sortI l).Perm l
  | [] => .refl _
  | i :: r => (insI_perm i _).trans ((sortI_perm r).cons i)
theorem insI_sorted (i : Int) : ∀ l : List Int, l.Pairwise (· ≤ ·) → (insI i l).Pairwise (· ≤ ·)
  | [], _ => by simp [insI]
  | j :: r, h => by
    obtain ⟨h1, h2⟩ := List.pairwise_cons.mp h
    unfold insI
    split
    · rename_i hij
      refine List.pairwise_cons.mpr ⟨fun x hx => ?_, h⟩
      rcases List.mem_cons.mp hx with rfl | hx
      · exact hij
      · exact Int.le_trans hij (h1 x hx)
    · rename_i hij
      refine List.pairwise_cons.mpr ⟨fun x hx => ?_, insI_sorted i r h2⟩
      rcases List.mem_cons.mp ((insI_perm i r).mem_iff.mp hx) with rfl | hx
      · omega
      · exact h1 x hx
theorem sortI_sorted : ∀ l : List Int, (sortI l).Pairwise (· ≤ ·)
  | [] => .nil
  | i :: r => insI_sorted i _ (sortI_sorted r)
theorem sorted_one {a b : List Int} (p : a.Perm b) (ha : a.Pairwise (· ≤ ·)) (hb : b.Pairwise (· ≤ ·)) : a = b :=
  p.eq_of_pairwise (fun x y _ _ h1 h2 => Int.le_antisymm h1 h2) ha hb
theorem sorted_is {a b : List Int} (p : a.Perm b) (ha : a.Pairwise (· ≤ ·)) : a = sortI b :=
  sorted_one (p.trans (sortI_perm b).symm) ha (sortI_sorted b)
theorem reps_intsE {K : PySem.W.Frag} {M : Hp} : ∀ is : List Int, Reps K M (is.map V.int) (is.map D.int)
  | [] => .nil
  | i :: r => .cons (.int i) (reps_intsE r)
theorem callr_prim (p : Prim) (hc : X.calm = true) : CallR X p.val (rCa X.K (primD p)) := by
  intro pins s σ H xs us Q I r h
  obtain ⟨M, ds, z, sm, ts, hf, q⟩ := h
  unfold primD at hf
  split at hf
  · cases hf
    obtain ⟨x, rfl, t⟩ := ts.one
    obtain ⟨a, vs, rfl, ha, ra⟩ := t.lst sm
    rw [← ra.length] at q
    exact call_len_seq pins s σ H _ us Q I r ⟨_, _, rfl, .inl (SqL.of ha), q _ _ _ (Pur.refl sm) (.of (.int _))⟩
  · cases hf
    obtain ⟨x, rfl, t⟩ := ts.one
    obtain ⟨a, vs, rfl, ha, ra⟩ := t.scr sm
    rw [← ra.length] at q
    exact call_len_seq pins s σ H _ us Q I r ⟨_, _, rfl, .inl ha, q _ _ _ (Pur.refl sm) (.of (.int _))⟩
  · cases hf
    obtain ⟨x, rfl, t⟩ := ts.one
    obtain ⟨a, vs, rfl, _, ha, ra⟩ := t.tup sm
    rw [← ra.length] at q
    exact call_len_seq pins s σ H _ us Q I r ⟨_, _, rfl, .inr (SqT.of ha), q _ _ _ (Pur.refl sm) (.of (.int _))⟩
  · split at hf
    · rename_i hl
      cases hf
      obtain ⟨x, rfl, t⟩ := ts.one
      exact call_len_str pins s σ H _ us Q I r ⟨_, by rw [t.str], fit_le hl, q _ _ _ (Pur.refl sm) (.of (.int _))⟩
    · cases hf
  · cases hf
    obtain ⟨x, rfl, t⟩ := ts.one
    obtain ⟨a, vs, rfl, ha, ra⟩ := t.lst sm
    exact call_list_of pins s σ H _ us Q I r ⟨_, _, rfl, .inl (SqL.of ha), fun l hl => q _ _ _ (Pur.own sm hl) (.newL sm hl ra)⟩
  · cases hf
    obtain ⟨x, rfl, t⟩ := ts.one
    obtain ⟨a, vs, rfl, ha, ra⟩ := t.scr sm
    exact call_list_of pins s σ H _ us Q I r ⟨_, _, rfl, .inl ha, fun l hl => q _ _ _ (Pur.own sm hl) (.newL sm hl ra)⟩
  · cases hf
    obtain ⟨x, rfl, t⟩ := ts.one
    obtain ⟨a, vs, rfl, _, ha, ra⟩ := t.tup sm
    exact call_list_of pins s σ H _ us Q I r ⟨_, _, rfl, .inr (SqT.of ha), fun l hl => q _ _ _ (Pur.own sm hl) (.newL sm hl ra)⟩
  · cases hf
    obtain ⟨x, rfl, t⟩ := ts.one
    obtain ⟨a, vs, rfl, ha, ra⟩ := t.lst sm
    exact call_tuple_of pins s σ H _ us Q I r ⟨_, _, rfl, .inl ⟨SqL.of ha, fun l hl => q _ _ _ (Pur.lay sm hl) (.newT sm hl ra)⟩⟩
  · cases hf
    obtain ⟨x, rfl, t⟩ := ts.one
    obtain ⟨a, vs, rfl, ma, ha, ra⟩ := t.tup sm
    exact call_tuple_of pins s σ H _ us Q I r ⟨_, _, rfl, .inr ⟨SqT.of ha, q _ _ _ (Pur.refl sm) (.of (.tup ma ra))⟩⟩
  · split at hf
    · rename_i is hi
      cases hf
      obtain ⟨x, rfl, t⟩ := ts.one
      obtain ⟨a, vs, rfl, ha, ra⟩ := t.lst sm
      have e := ra.ints hi
      subst e
      exact cr_sum hc pins s σ H _ us Q I r ⟨_, _, rfl, SqL.of ha, q _ _ _ (Pur.refl sm) (.of (.int _))⟩
    · cases hf
  · split at hf
    · rename_i is hi
      cases hf
      obtain ⟨x, rfl, t⟩ := ts.one
      obtain ⟨a, vs, rfl, ha, ra⟩ := t.lst sm
      have e := ra.bls hi
      subst e
      exact cr_all hc pins s σ H _ us Q I r ⟨_, _, rfl, SqL.of ha, q _ _ _ (Pur.refl sm) (.of (.bl _))⟩
    · cases hf
  · split at hf
    · rename_i is hi
      cases hf
      obtain ⟨x, rfl, t⟩ := ts.one
      obtain ⟨a, vs, rfl, ha, ra⟩ := t.lst sm
      have e := ra.bls hi
      subst e
      exact cr_any hc pins s σ H _ us Q I r ⟨_, _, rfl, SqL.of ha, q _ _ _ (Pur.refl sm) (.of (.bl _))⟩
    · cases hf
  · cases hf
    obtain ⟨x, rfl, t⟩ := ts.one
    exact call_int1 pins s σ H _ us Q I r (.inl ⟨_, by rw [t.int], q _ _ _ (Pur.refl sm) (.of (.int _))⟩)
  · cases hf
    obtain ⟨x, rfl, t⟩ := ts.one
    exact call_int1 pins s σ H _ us Q I r (.inr ⟨_, by rw [t.bl], q _ _ _ (Pur.refl sm) (.of (.int _))⟩)
  · cases hf
    obtain ⟨x, rfl, t⟩ := ts.one
    exact call_abs pins s σ H _ us Q I r ⟨_, by rw [t.int], q _ _ _ (Pur.refl sm) (.of (.int _))⟩
  · cases hf
    obtain ⟨x, rfl, t⟩ := ts.one
    obtain ⟨a, kvs, rfl, ha, ra⟩ := t.dct sm
    rw [← ra.length] at q
    exact call_lenD pins s σ H _ us Q I r ⟨_, _, rfl, ha, q _ _ _ (Pur.refl sm) (.of (.int _))⟩
  · split at hf
    · rename_i is hi
      cases hf
      obtain ⟨x, rfl, t⟩ := ts.one
      obtain ⟨a, vs, rfl, ha, ra⟩ := t.lst sm
      have e := ra.ints hi
      subst e
      exact cr_sortedI pins s σ H _ us Q I r ⟨_, _, rfl, SqL.of ha, fun ns p pm pw hp => by
        rw [sorted_is pm pw]; exact q _ _ _ (Pur.own sm hp) (.newL sm hp (reps_intsE _))⟩
    · cases hf
  · split at hf
    · rename_i ks hk
      split at hf
      · rename_i is hi
        split at hf
        · rename_i h64
          cases hf
          obtain ⟨x, rfl, t⟩ := ts.one
          obtain ⟨a, kvs, rfl, ha, ra⟩ := t.dct sm
          rw [ra.keys hk] at hi
          exact call_sortedDA hc pins s σ H _ us Q I r ⟨_, _, _, rfl, .inl ha, keysI hi, h64, fun ns p pm pw hp => by
            rw [sorted_is pm pw]; exact q _ _ _ (Pur.own sm hp) (.newL sm hp (reps_intsE _))⟩
        · cases hf
      · cases hf
    · cases hf
  · split at hf
    · rename_i hl
      cases hf
      obtain ⟨x, rfl, t⟩ := ts.one
      have hlog : ∀ n : Nat, n < 2 ^ 64 → n.log2 < 1920 := fun n hn => by
        by_cases h0 : n = 0
        · rw [h0]; decide
        · exact Nat.lt_trans ((Nat.log2_lt h0).mpr hn) (by omega)
      rw [t.int] at r
      exact call_str_int pins s σ H _ us Q I r ⟨_, rfl, hlog _ hl, q _ _ _ (Pur.refl sm) (.of (.str _))⟩
    · cases hf
  · split at hf
    · rename_i t ht
      split at hf
      · rename_i b hb
        cases hf
        obtain ⟨x, y, rfl, tx, ty⟩ := ts.two
        rw [ty.ty] at r
        exact call_isi pins s σ H _ us Q I r ⟨_, _, _, _, _, rfl, .ty _, tyX_of sm tx ht, isi_kit hb, q _ _ _ (Pur.refl sm) (.of (.bl _))⟩
      · cases hf
    · cases hf
  · cases hf
end
end L2.Eng
namespace L2.Eng
open PySem PySem.Spec PyProof.Rows
/-! ## the text of an expression and its code -/
structure Gam where
  N : List Str
  sc : Scope
  fn : Str → Bool
  fns : List (Str × Nat)
def Gam.blk (Γ : Gam) (scope : Scope) : Gam := { Γ with sc := relS scope Γ.sc, fn := fun x => scope.names.lookup x == some .cell }
def bltNames : List Str := ["len", "list", "tuple", "sum", "all", "any", "int", "abs", "isinstance", "range", "enumerate", "zip", "bool", "str", "sorted", "set", "dict", "min", "max"]
def tyNames : List String := ["int", "bool", "str", "tuple", "list"]
def visB (sc : Scope) (x : Str) : Bool := match sc.names.lookup x with | some .local => true | some .cell => true | some .free => true | _ => false
def gloB (sc : Scope) (x : Str) : Bool := match sc.names.lookup x with | some .globalImplicit => true | _ => false
/-- a name that may be stored -/
def locB (Γ : Gam) (x : Str) : Bool := match Γ.sc.names.lookup x with | some .local => true | some .cell => Γ.fn x | _ => false
def nodbg (x : Str) : Bool := !(x == ("__debug__" : Str)) && !(x == ("__classdict__" : Str))
/-- its truth is that of its value -/
def plainT : Expr → Bool
  | .UnaryOp .Not _ _ => false
  | .BoolOp .. => false
  | .IfExp .. => false
  | .Compare .. => false
  | _ => true
def plainI : Expr → Bool
  | .Slice .. => false
  | .Tuple .. => false
  | _ => true
def Tg.slots : Tg → List Nat
  | .nm i => [i]
  | .tp is => is
inductive CGs : Gam → List Expr → List Nat → Prop
  | nil {Γ : Gam} : CGs Γ [] []
  | cons {Γ : Gam} {x : Str} {pos : Pos} {i : Nat} {es : List Expr} {is : List Nat} (h1 : Γ.N[i]? = some x) (h2 : locB Γ x = true) (h3 : CGs Γ es is) : CGs Γ (.Name x pos :: es) (i :: is)
inductive CG : Gam → Expr → Tg → Prop
  | nm {Γ : Gam} {x : Str} {pos : Pos} {i : Nat} (h1 : Γ.N[i]? = some x) (h2 : locB Γ x = true) : CG Γ (.Name x pos) (.nm i)
  | tp {Γ : Gam} {es : List Expr} {k : Nat} {pos : Pos} {is : List Nat} (h : CGs Γ es is) : CG Γ (.Tuple es k pos) (.tp is)
mutual
inductive CX : Gam → Expr → Ex → Prop
  | var {Γ : Gam} {x : Str} {pos : Pos} {i : Nat} (h1 : Γ.N[i]? = some x) (h2 : visB Γ.sc x = true) (h3 : nodbg x = true) : CX Γ (.Name x pos) (.var i)
  | bty {Γ : Gam} {n : String} {pos : Pos} (h1 : tyNames.contains n = true) (h2 : gloB Γ.sc n = true) : CX Γ (.Name n pos) (.cst (.ty n))
  | int {Γ : Gam} {i : Int} {j : Nat} {pos : Pos} : CX Γ (.Constant (.int i) j pos) (.cst (.int i))
  | bl {Γ : Gam} {i : Bool} {j : Nat} {pos : Pos} : CX Γ (.Constant (.bool i) j pos) (.cst (.bl i))
  | non {Γ : Gam} {j : Nat} {pos : Pos} : CX Γ (.Constant .none j pos) (.cst .non)
  | str {Γ : Gam} {i : Str} {j : Nat} {pos : Pos} : CX Γ (.Constant (.str i) j pos) (.cst (.str i))
  | tup {Γ : Gam} {es : List Expr} {k : Nat} {pos : Pos} {xs : Exs} (h : CXs Γ es xs) : CX Γ (.Tuple es k pos) (.tup xs)
  | lst {Γ : Gam} {es : List Expr} {pos : Pos} {xs : Exs} (h : CXs Γ es xs) : CX Γ (.List es pos) (.lst xs)
  | bin {Γ : Gam} {o : Operator} {a b : Expr} {pos : Pos} {x y : Ex} (h1 : CX Γ a x) (h2 : CX Γ b y) : CX Γ (.BinOp a o b pos) (.bin o x y)
  | un {Γ : Gam} {o : UnaryOp} {a : Expr} {pos : Pos} {x : Ex} (h1 : CX Γ a x) : CX Γ (.UnaryOp o a pos) (.un o x)
  | nt {Γ : Gam} {a : Expr} {pos : Pos} {x : Ex} (h1 : CX Γ a x) : CX Γ (.UnaryOp .Not a pos) (.nt x)
  | cmp {Γ : Gam} {o : CmpOp} {a b : Expr} {pos : Pos} {x y : Ex} (h1 : CX Γ a x) (h2 : CX Γ b y) (h3 : behindInMarks o b = false) : CX Γ (.Compare a [o] [b] pos) (.cmp o x y)
  | cmp2 {Γ : Gam} {o o' : CmpOp} {a b c : Expr} {pos : Pos} {x y z : Ex} (h1 : CX Γ a x) (h2 : CX Γ b y) (h3 : CX Γ c z) (h4 : behindInMarks o' c = false) : CX Γ (.Compare a [o, o'] [b, c] pos) (.cmp2 o o' x y z)
  | one {Γ : Gam} {o : BoolOp} {a : Expr} {pos : Pos} {x : Ex} (h1 : CX Γ a x) (h2 : ∀ i, x ≠ .var i) : CX Γ (.BoolOp o [a] pos) x
  | and {Γ : Gam} {a b : Expr} {r : List Expr} {pos : Pos} {x y : Ex} (h1 : CX Γ a x) (h2 : CX Γ (.BoolOp .And (b :: r) pos) y) : CX Γ (.BoolOp .And (a :: b :: r) pos) (.and x y)
  | or {Γ : Gam} {a b : Expr} {r : List Expr} {pos : Pos} {x y : Ex} (h1 : CX Γ a x) (h2 : CX Γ (.BoolOp .Or (b :: r) pos) y) : CX Γ (.BoolOp .Or (a :: b :: r) pos) (.or x y)
  | ife {Γ : Gam} {a b c : Expr} {pos : Pos} {t : Tt} {x y : Ex} (h1 : CT Γ c t) (h2 : CX Γ a x) (h3 : CX Γ b y) : CX Γ (.IfExp c a b pos) (.ife t x y)
  | ix {Γ : Gam} {a b : Expr} {pos : Pos} {x y : Ex} (h1 : CX Γ a x) (h2 : CX Γ b y) (h3 : plainI b = true) : CX Γ (.Subscript a b pos) (.ix x y)
  | sl {Γ : Gam} {a : Expr} {lo hi : Option Expr} {p2 pos : Pos} {x : Ex} {l h : Exo} (h1 : CX Γ a x) (h2 : CXo Γ lo l) (h3 : CXo Γ hi h) : CX Γ (.Subscript a (.Slice lo hi none p2) pos) (.sl x l h)
  | rev {Γ : Gam} {a : Expr} {k : Nat} {p1 p2 p3 pos : Pos} {x : Ex} (h1 : CX Γ a x) : CX Γ (.Subscript a (.Slice none none (some (.UnaryOp .USub (.Constant (.int 1) k p1) p2)) p3) pos) (.rev x)
  | call {Γ : Gam} {f : Str} {i : Nat} {p pos : Pos} {e : Expr} {es : List Expr} {xs : Exs} (h1 : Γ.fns.lookup f = some i) (h2 : gloB Γ.sc f = true) (h3 : nodbg f = true) (h4 : CXs Γ (e :: es) xs) : CX Γ (.Call (.Name f p) (e :: es) [] pos) (.call i xs)
  | prim {Γ : Gam} {q : Prim} {p pos : Pos} {e : Expr} {es : List Expr} {xs : Exs} (h2 : gloB Γ.sc q.name = true) (h4 : CXs Γ (e :: es) xs) : CX Γ (.Call (.Name q.name p) (e :: es) [] pos) (.prim q xs)
  | comp {Γ : Gam} {elt tg iter : Expr} {ifs : List Expr} {scope : Scope} {pos : Pos} {own : List (Str × Nat)} {x : Ex} {t : Tg} {it : It} {c : Tt}
      (h1 : blkC Γ.N Γ.sc scope own = true) (h2 : CI Γ tg iter it) (h3 : CG (Γ.blk scope) tg t) (h4 : CTs (Γ.blk scope) ifs c) (h5 : CX (Γ.blk scope) elt x) (h6 : t.slots.all (own.map (·.2)).contains = true) : CX Γ (.ListComp elt [⟨tg, iter, ifs, 0⟩] scope pos) (.comp x t it c (own.map (·.2)))
  | pop {Γ : Gam} {x : Str} {p ap pos : Pos} {i : Nat} (h1 : Γ.N[i]? = some x) (h2 : visB Γ.sc x = true) (h3 : nodbg x = true) (h4 : (ap.endLine == pos.line) = true) : CX Γ (.Call (.Attribute (.Name x p) "pop" ap) [] [] pos) (.pop i)
  | dnew {Γ : Gam} {pos : Pos} : CX Γ (.Dict [] [] pos) .dnew
  | get {Γ : Gam} {x : Str} {p ap pos : Pos} {i : Nat} {k d : Expr} {kx dx : Ex} (h1 : Γ.N[i]? = some x) (h2 : visB Γ.sc x = true) (h3 : nodbg x = true) (h4 : (ap.endLine == pos.line) = true) (h5 : CX Γ k kx) (h6 : CX Γ d dx) : CX Γ (.Call (.Attribute (.Name x p) "get" ap) [k, d] [] pos) (.get i kx dx)
  | sset {Γ : Gam} {a : Expr} {p p2 q pos : Pos} {x : Ex} (h1 : gloB Γ.sc "sorted" = true) (h2 : gloB Γ.sc "set" = true) (h3 : CX Γ a x) : CX Γ (.Call (.Name "sorted" p) [.Call (.Name "set" p2) [a] [] q] [] pos) (.sset x)
  | lset {Γ : Gam} {a : Expr} {p p2 q pos : Pos} {x : Ex} (h1 : gloB Γ.sc "len" = true) (h2 : gloB Γ.sc "set" = true) (h3 : CX Γ a x) : CX Γ (.Call (.Name "len" p) [.Call (.Name "set" p2) [a] [] q] [] pos) (.lset x)
inductive CXs : Gam → List Expr → Exs → Prop
  | nil {Γ : Gam} : CXs Γ [] .nil
  | cons {Γ : Gam} {e : Expr} {es : List Expr} {x : Ex} {xs : Exs} (h1 : CX Γ e x) (h2 : CXs Γ es xs) : CXs Γ (e :: es) (.cons x xs)
inductive CXo : Gam → Option Expr → Exo → Prop
  | no {Γ : Gam} : CXo Γ none .no
  | yes {Γ : Gam} {e : Expr} {x : Ex} (h1 : CX Γ e x) : CXo Γ (some e) (.yes x)
inductive CT : Gam → Expr → Tt → Prop
  | e {Γ : Gam} {a : Expr} {x : Ex} (h1 : CX Γ a x) (h2 : plainT a = true) : CT Γ a (.e x)
  | cmp {Γ : Gam} {o : CmpOp} {a b : Expr} {pos : Pos} {x y : Ex} (h1 : CX Γ a x) (h2 : CX Γ b y) (h3 : behindInMarks o b = false) : CT Γ (.Compare a [o] [b] pos) (.e (.cmp o x y))
  | cmp2 {Γ : Gam} {o o' : CmpOp} {a b c : Expr} {pos : Pos} {x y z : Ex} (h1 : CX Γ a x) (h2 : CX Γ b y) (h3 : CX Γ c z) (h4 : behindInMarks o' c = false) : CT Γ (.Compare a [o, o'] [b, c] pos) (.e (.cmp2 o o' x y z))
  | nt {Γ : Gam} {a : Expr} {pos : Pos} {x : Tt} (h1 : CT Γ a x) : CT Γ (.UnaryOp .Not a pos) (.nt x)
  | one {Γ : Gam} {o : BoolOp} {a : Expr} {pos : Pos} {x : Tt} (h1 : CT Γ a x) : CT Γ (.BoolOp o [a] pos) x
  | and {Γ : Gam} {a b : Expr} {r : List Expr} {pos : Pos} {x y : Tt} (h1 : CT Γ a x) (h2 : CT Γ (.BoolOp .And (b :: r) pos) y) : CT Γ (.BoolOp .And (a :: b :: r) pos) (.and x y)
  | or {Γ : Gam} {a b : Expr} {r : List Expr} {pos : Pos} {x y : Tt} (h1 : CT Γ a x) (h2 : CT Γ (.BoolOp .Or (b :: r) pos) y) : CT Γ (.BoolOp .Or (a :: b :: r) pos) (.or x y)
inductive CTs : Gam → List Expr → Tt → Prop
  | nil {Γ : Gam} : CTs Γ [] .tru
  | one {Γ : Gam} {a : Expr} {x : Tt} (h1 : CT Γ a x) : CTs Γ [a] x
/-- what a for walks; the target is looked at by enumerate -/
inductive CI : Gam → Expr → Expr → It → Prop
  | seq {Γ : Gam} {tg a : Expr} {x : Ex} (h1 : CX Γ a x) : CI Γ tg a (.seq x)
  | rng {Γ : Gam} {tg a : Expr} {p pos : Pos} {x : Ex} (h0 : gloB Γ.sc "range" = true) (h1 : CX Γ a x) : CI Γ tg (.Call (.Name "range" p) [a] [] pos) (.rng x)
  | rng2 {Γ : Gam} {tg a b : Expr} {p pos : Pos} {x y : Ex} (h0 : gloB Γ.sc "range" = true) (h1 : CX Γ a x) (h2 : CX Γ b y) : CI Γ tg (.Call (.Name "range" p) [a, b] [] pos) (.rng2 x y)
  | enum {Γ : Gam} {elts : List Expr} {kk : Nat} {tpos : Pos} {a : Expr} {p pos : Pos} {x : Ex} (h0 : gloB Γ.sc "enumerate" = true) (h1 : CX Γ a x) : CI Γ (.Tuple elts kk tpos) (.Call (.Name "enumerate" p) [a] [] pos) (.enum x)
end
/-! ## what is known around -/
def SpF (K : PySem.W.Frag) (P : Nat → List B → CA) (f np : Nat) : Sp := fun vs H Q _ => vs.length = np ∧ ∃ (M : Hp) (bs : List B) (fr : Bool) (d : D) (outs : List B),
  Vd K M (bs.map some) (vs.map some) H ∧ P f bs = .ret fr d outs ∧
  ∀ v M' H', Vd K M' (outs.map some) (vs.map some) H' → Stp (bs.map some) (vs.map some) M H (outs.map some) (vs.map some) M' H' → Res K (outs.map some) (vs.map some) H M' H' v (fr, d) → Q v H'
structure Cok (T : List Fn) (P : Nat → List B → CA) (Γ : Gam) (X : Cx) : Prop where
  N : X.N = Γ.N
  sc : X.env.scope = Γ.sc
  fn : X.fn = Γ.fn
  calm : X.calm = true
  nd : Γ.N.Nodup
  room : ∃ k, Room k X.A
  blt : ∀ x ∈ bltNames, X.mg x = none
  call : ∀ x f, Γ.fns.lookup x = some f → ∃ fn fa fd ps k, T[f]? = some fn ∧ fn.io.length = fn.np ∧ ps.length = fn.np ∧ FnOk X.prog X.w X.K X.mg X.base CX0 k fa fd ps (SpF X.K P f fn.np) ∧ Room k X.A ∧ X.mg x = some (.ref fa) ∧ PySem.W.keepIn X.K (.ref fa) = true ∧ Binds X.K fd ps []
/-! ## readings -/
def tE (K : PySem.W.Frag) (f : Env → Ans (Bool × D)) : TE := fun σ H Q => ∃ M e, Vd K M e σ H ∧ (f e).wp fun r e' => ∀ v M' H', Vd K M' e' σ H' → Stp e σ M H e' σ M' H' → Res K e' σ H M' H' v r → Q v H'
def tO (K : PySem.W.Frag) (f : Env → Ans Op) : TE := fun σ H Q => ∃ M e, Vd K M e σ H ∧ (f e).wp fun o e' => ∀ v M' H', Vd K M' e' σ H' → Stp e σ M H e' σ M' H' → OpdR K M' σ v o → Q v H'
def tOs (K : PySem.W.Frag) (f : Env → Ans (List Op)) : TA := fun σ H Q => ∃ M e, Vd K M e σ H ∧ (f e).wp fun o e' => ∀ vs M' H', Vd K M' e' σ H' → Stp e σ M H e' σ M' H' → OpdRs K M' σ vs o → Q vs H'
def tT (K : PySem.W.Frag) (f : Env → Ans Bool) : TT := fun σ H Q => ∃ M e, Vd K M e σ H ∧ (f e).wp fun b e' => ∀ M' H', Vd K M' e' σ H' → Stp e σ M H e' σ M' H' → Q b H'
theorem Ans.wp.imp {α : Type} {a : Ans α} {Q Q' : α → Env → Prop} (h : a.wp Q) (k : ∀ x e, Q x e → Q' x e) : a.wp Q' := by
  obtain ⟨x, e, h1, h2⟩ := h
  exact ⟨x, e, h1, k x e h2⟩
section
variable {X : Cx} {e : Expr}
theorem _root_.L2.PE.imp {t t' : TE} (p : PE X e t) (h : ∀ σ H Q, t' σ H Q → t σ H Q) : PE X e t' := ⟨fun pins s σ H Q I q => p.run pins s σ H Q I (h σ H Q q)⟩
theorem _root_.L2.PT.imp {t t' : TT} (p : PT X e t) (h : ∀ σ H Q, t' σ H Q → t σ H Q) : PT X e t' := ⟨fun pins s σ H Q I q => p.run pins s σ H Q I (h σ H Q q)⟩
theorem _root_.L2.PA.imp {es : List Expr} {t t' : TA} (p : PA X es t) (h : ∀ σ H Q, t' σ H Q → t σ H Q) : PA X es t' := ⟨fun pos pins s σ H Q I q => p.run pos pins s σ H Q I (h σ H Q q)⟩
theorem _root_.L2.PW.imp {t t' : TT} (p : PW X e t) (h : ∀ σ H Q, t' σ H Q → t σ H Q) : PW X e t' := ⟨fun wh pins s σ H Q I q => p.run wh pins s σ H Q I (h σ H Q q)⟩
end
section
variable {T : List Fn} {P : Nat → List B → CA} {Γ : Gam} {X : Cx}
theorem visB_vis (C : Cok T P Γ X) {x : Str} (h : visB Γ.sc x = true) : Vis X.env.scope x := by
  unfold visB at h
  rw [C.sc]
  split at h
  · exact .inl (by assumption)
  · exact .inr (.inl (by assumption))
  · exact .inr (.inr (by assumption))
  · cases h
theorem gloB_gl (C : Cok T P Γ X) {x : Str} (h : gloB Γ.sc x = true) : Gl X x := by
  unfold gloB at h
  show X.env.scope.names.lookup x = _
  rw [C.sc]
  split at h
  · assumption
  · cases h
theorem locB_loc (C : Cok T P Γ X) {x : Str} (h : locB Γ x = true) : Loc X.env.scope x ∧ (X.fn x = true ∨ X.env.scope.names.lookup x = some .local) := by
  unfold locB at h
  rw [C.sc, C.fn]
  split at h
  · rename_i q
    exact ⟨.inl q, .inr q⟩
  · rename_i q
    exact ⟨.inr q, .inl h⟩
  · cases h
theorem nodbg_of {x : Str} (h : nodbg x = true) : (x == ("__debug__" : Str)) = false ∧ (x == ("__classdict__" : Str)) = false := by
  unfold nodbg at h
  simp only [Bool.and_eq_true, Bool.not_eq_true'] at h
  exact h
theorem CX.star {e : Expr} {x : Ex} (h : CX Γ e x) (es : List Expr) (env : PySem.Env) : starEach (e :: es) env = (false, eval e env) :: starEach es env := by
  cases h <;> rfl
theorem CXs.star {es : List Expr} {xs : Exs} (h : CXs Γ es xs) (env : PySem.Env) : (starEach es env).any (·.1) = false := by
  induction es generalizing xs with
  | nil => rfl
  | cons e es ih =>
    cases h with
    | cons h1 h2 => rw [h1.star, List.any_cons, ih h2]; rfl
theorem back_any (pos : Pos) (l : List (Bool × Sem Value)) (h : l.any (·.1) = false) : (backTo pos l).any (·.1) = false := by
  unfold backTo
  rw [List.any_map]
  exact h
/-- an operand by its value -/
theorem pe_opd (C : Cok T P Γ X) {e : Expr} {x : Ex} (h : CX Γ e x) (p : PE X e (tE X.K (ev T P x))) : PE X e (tO X.K (opd x (ev T P x))) := by
  by_cases hx : ∃ i, x = .var i
  · obtain ⟨i, rfl⟩ := hx
    cases h with
    | one _ h2 => exact absurd rfl (h2 i)
    | var h1 h2 h3 =>
      obtain ⟨d1, d2⟩ := nodbg_of h3
      refine (pe_var (i := i) (by rw [C.N]; exact h1) (visB_vis C h2) d1 d2).imp fun σ H Q ⟨M, e, D0, w⟩ => ?_
      simp only [opd] at w
      split at w
      · rename_i b hb
        have w := val_wp w
        obtain ⟨v, h4, _⟩ := D0.slot i b hb
        exact ⟨v, h4, w v M H D0 Stp.refl h4⟩
      · exact (stuck_wp w).elim
  · refine p.imp fun σ H Q ⟨M, e, D0, w⟩ => ⟨M, e, D0, ?_⟩
    have e1 : opd x (ev T P x) e = (ev T P x e).bind fun r e1 => .val (.v r.2) e1 := by
      cases x <;> first | rfl | exact absurd ⟨_, rfl⟩ hx
    rw [e1] at w
    refine (Ans.wp_bind w).imp fun r e2 w2 v M' H' D1 S1 rs => ?_
    have w2 := val_wp w2
    obtain ⟨M2, D2, S2, r2⟩ := D1.settle rs
    exact w2 v M2 H' D2 (S2 S1) r2
/-- a value that stands still -/
theorem pe_set {e : Expr} {f : Env → Ans (Bool × D)} (p : PE X e (tE X.K f)) : PE X e (tE X.K fun e => (f e).bind fun r e1 => .val (false, r.2) e1) := by
  refine p.imp fun σ H Q ⟨M, e, D0, w⟩ => ⟨M, e, D0, ?_⟩
  refine (Ans.wp_bind w).imp fun r e2 w2 v M' H' D1 S1 rs => ?_
  have w2 := val_wp w2
  obtain ⟨M2, D2, S2, r2⟩ := D1.settle rs
  exact w2 v M2 H' D2 (S2 S1) (by unfold Res; rw [if_neg (by simp)]; exact r2)
theorem Res.still {K : PySem.W.Frag} {e : Env} {σ : St} {H M1 H1 : Hp} {v : V} {d : D} (r : Rep K M1 v d) : Res K e σ H M1 H1 v (false, d) := by
  unfold Res; rw [if_neg (by simp)]; exact r
theorem Res.rep {K : PySem.W.Frag} {e : Env} {σ : St} {H M1 H1 : Hp} {v : V} {d : D} (r : Res K e σ H M1 H1 v (false, d)) : Rep K M1 v d := by
  unfold Res at r; rw [if_neg (by simp)] at r; exact r
end
end L2.Eng
namespace L2.Eng
open PySem PySem.Spec PyProof.Rows
section
variable {K : PySem.W.Frag} {e e0 e1 e2 : Env} {σ σ0 σ1 : St} {M M0 M1 H H0 H1 : Hp}
theorem own_ne {i j : Nat} {a : Addr} {b : Option B} (h : OwnAt (setB e i b) σ j a) (hj : j ≠ i) : ∃ x, getB e j = some x ∧ x.own = true ∧ σ[j]? = some (some (.ref a)) := by
  obtain ⟨x, h1, h2, h3⟩ := h
  rw [getB_setB_ne hj] at h1
  exact ⟨x, h1, h2, h3⟩
/-- a name is given a value -/
theorem Vd.put (D0 : Vd K M e σ H) {i : Nat} {v : V} {b : B} (hb : Bnd K M H v b) (hn : b.own = true → ∀ a, v = .ref a → ¬ Owns e σ a) (hi : i < e.length) : Vd K M (setB e i (some b)) (σ.set i (some v)) H := by
  have hiσ : i < σ.length := by rw [← D0.len]; exact hi
  have at_ : ∀ j a, OwnAt (setB e i (some b)) (σ.set i (some v)) j a → (j = i ∧ b.own = true ∧ v = .ref a) ∨ (j ≠ i ∧ OwnAt e σ j a) := fun j a h => by
    by_cases hj : j = i
    · subst hj
      obtain ⟨x, h1, h2, h3⟩ := h
      rw [getB_setB_same hi] at h1
      cases h1
      rw [List.getElem?_set_self hiσ] at h3
      injection h3 with h3
      injection h3 with h3
      exact .inl ⟨rfl, h2, h3⟩
    · obtain ⟨x, h1, h2, h3⟩ := own_ne h hj
      rw [List.getElem?_set_ne (Ne.symm hj)] at h3
      exact .inr ⟨hj, x, h1, h2, h3⟩
  refine ⟨D0.same, by rw [setB_length, List.length_set]; exact D0.len, fun j x hx => ?_, fun j k a hj hk => ?_⟩
  · by_cases hj : j = i
    · subst hj
      rw [getB_setB_same hi] at hx
      cases hx
      exact ⟨v, by rw [List.getElem?_set_self hiσ], hb⟩
    · rw [getB_setB_ne hj] at hx
      rw [List.getElem?_set_ne (Ne.symm hj)]
      exact D0.slot j x hx
  · rcases at_ j a hj with ⟨rfl, h1, h2⟩ | ⟨h1, h2⟩
    · rcases at_ k a hk with ⟨rfl, _, _⟩ | ⟨h4, h5⟩
      · rfl
      · exact absurd ⟨k, h5⟩ (hn h1 a h2)
    · rcases at_ k a hk with ⟨rfl, h4, h5⟩ | ⟨h4, h5⟩
      · exact absurd ⟨j, h2⟩ (hn h4 a h5)
      · exact D0.inj j k a h2 h5
theorem Stp.put (s : Stp e0 σ0 M0 H0 e σ M H) {i : Nat} {v : V} {b : B} (hb : b.own = true → ∀ a, v = .ref a → Owns e0 σ0 a ∨ H0 a = none) (hio : ∀ d, b ≠ .io d) (hi : i < e.length) (hl : e.length = σ.length) :
    Stp e0 σ0 M0 H0 (setB e i (some b)) (σ.set i (some v)) M H := by
  have hiσ : i < σ.length := by rw [← hl]; exact hi
  refine ⟨s.same, s.keep, s.new, fun a ⟨j, h⟩ => ?_, s.there, fun j d hj => ?_⟩
  · by_cases hj : j = i
    · subst hj
      obtain ⟨x, h1, h2, h3⟩ := h
      rw [getB_setB_same hi] at h1
      cases h1
      rw [List.getElem?_set_self hiσ] at h3
      injection h3 with h3
      injection h3 with h3
      exact hb h2 a h3
    · obtain ⟨x, h1, h2, h3⟩ := own_ne h hj
      rw [List.getElem?_set_ne (Ne.symm hj)] at h3
      exact s.own a ⟨j, x, h1, h2, h3⟩
  · by_cases hji : j = i
    · subst hji
      rw [getB_setB_same hi] at hj
      cases hj
      exact absurd rfl (hio d)
    · rw [getB_setB_ne hji] at hj
      rw [List.getElem?_set_ne (Ne.symm hji)]
      exact s.io j d hj
/-- an own thing is changed -/
theorem Vd.change (D0 : Vd K M e σ H) {i : Nat} {b b' : B} {a : Addr} {o : HO} (hg : getB e i = some b) (ho : b.own = true) (ha : σ[i]? = some (some (.ref a))) (hk : b'.own = true) (hn : Own K M (upd H a o) a b'.dat) :
    Vd K M (setB e i (some b')) σ (upd H a o) := by
  have hi := getB_lt hg
  have hM : M a = none := (D0.owns ⟨i, b, hg, ho, ha⟩).1
  have at_ : ∀ j c, OwnAt (setB e i (some b')) σ j c → OwnAt e σ j c := fun j c h => by
    by_cases hj : j = i
    · subst hj
      obtain ⟨x, h1, h2, h3⟩ := h
      exact ⟨b, hg, ho, h3⟩
    · exact own_ne h hj
  refine ⟨fun c u q => ?_, by rw [setB_length]; exact D0.len, fun j x hx => ?_, fun j k c hj hk => D0.inj j k c (at_ j c hj) (at_ k c hk)⟩
  · rw [upd_ne (fun z => by rw [z, hM] at q; cases q)]
    exact D0.same c u q
  · by_cases hj : j = i
    · subst hj
      rw [getB_setB_same hi] at hx
      cases hx
      refine ⟨_, ha, ?_⟩
      cases b' with
      | sh d => cases hk
      | ow d => exact ⟨a, rfl, hn⟩
      | io d => exact ⟨a, rfl, hn⟩
    · rw [getB_setB_ne hj] at hx
      obtain ⟨v, h1, h2⟩ := D0.slot j x hx
      refine ⟨v, h1, h2.mono (Same.refl M) fun c ec ow => ?_⟩
      subst ec
      refine ⟨(D0.owns ⟨j, x, hx, ow, h1⟩).1, upd_ne fun z => hj (D0.inj j i c ⟨x, hx, ow, h1⟩ ⟨b, hg, ho, z ▸ ha⟩)⟩
theorem Stp.change {i : Nat} {b b' : B} {a : Addr} {o : HO} (hg : getB e i = some b) (ho : b.own = true) (ha : σ[i]? = some (some (.ref a))) (hio : ∀ d, b' = .io d → ∃ d0, b = .io d0) (hx : ∃ u, H a = some u) :
    Stp e σ M H (setB e i (some b')) σ M (upd H a o) := by
  have hi := getB_lt hg
  refine ⟨Same.refl M, fun c u q n => ?_, fun c u q n => (by rw [n] at q; cases q), fun c ⟨j, h⟩ => .inl ?_, fun c u q => ?_, fun j d hj => ⟨?_, rfl⟩⟩
  · rw [upd_ne (fun z => n (by rw [z]; exact ⟨i, b, hg, ho, ha⟩))]
    exact q
  · by_cases hj : j = i
    · subst hj
      obtain ⟨x, h1, h2, h3⟩ := h
      exact ⟨j, b, hg, ho, h3⟩
    · exact ⟨j, own_ne h hj⟩
  · by_cases hc : c = a
    · subst hc; exact ⟨o, upd_same⟩
    · exact ⟨u, by rw [upd_ne hc]; exact q⟩
  · by_cases hji : j = i
    · subst hji
      rw [getB_setB_same hi] at hj
      cases hj
      obtain ⟨d0, rfl⟩ := hio d rfl
      exact ⟨d0, hg⟩
    · rw [getB_setB_ne hji] at hj
      exact ⟨d, hj⟩
/-- a thing that nobody has and that does not stand still is changed -/
theorem Vd.tmp (D0 : Vd K M e σ H) {a : Addr} {o : HO} (hM : M a = none) (hn : ¬ Owns e σ a) : Vd K M e σ (upd H a o) := by
  refine ⟨fun c u q => ?_, D0.len, fun j x hx => ?_, D0.inj⟩
  · rw [upd_ne (fun z => by rw [z, hM] at q; cases q)]
    exact D0.same c u q
  · obtain ⟨v, h1, h2⟩ := D0.slot j x hx
    refine ⟨v, h1, h2.mono (Same.refl M) fun c ec ow => ?_⟩
    subst ec
    exact ⟨(D0.owns ⟨j, x, hx, ow, h1⟩).1, upd_ne fun z => hn (by rw [← z]; exact ⟨j, x, hx, ow, h1⟩)⟩
theorem Stp.tmp (s : Stp e0 σ0 M0 H0 e σ M H) {a : Addr} {o : HO} (h0 : H0 a = none) : Stp e0 σ0 M0 H0 e σ M (upd H a o) := by
  refine ⟨s.same, fun c u q n => ?_, s.new, s.own, fun c u q => ?_, s.io⟩
  · rw [upd_ne (fun z => by rw [z, h0] at q; cases q)]
    exact s.keep c u q n
  · rw [upd_ne (fun z => by rw [z, h0] at q; cases q)]
    exact s.there c u q
/-! ### targets -/
theorem asgN_ok : ∀ {is : List Nat} {ds : List D} {e e' : Env} {σ : St} {vs : List V}, Vd K M e σ H → Stp e0 σ0 M0 H0 e σ M H → Reps K M vs ds → (∀ i ∈ is, i < e.length) → asgN is ds e = some e' →
    vs.length = is.length ∧ ∃ σ', σ' = (is.zip vs).foldl (fun s p => s.set p.1 (some p.2)) σ ∧ Vd K M e' σ' H ∧ Stp e0 σ0 M0 H0 e' σ' M H ∧ ∀ j, j ∉ is → σ'[j]? = σ[j]?
  | [], [], e, e', σ, vs, D0, S0, r, hl, h => by
    cases r
    simp only [asgN] at h
    cases h
    exact ⟨rfl, σ, rfl, D0, S0, fun _ _ => rfl⟩
  | i :: is, d :: ds, e, e', σ, vs, D0, S0, r, hl, h => by
    cases r with
    | @cons v vs _ _ r1 r2 =>
      simp only [asgN] at h
      have hi : i < e.length := hl i (by simp)
      have D1 := D0.put (b := .sh d) r1 (fun z => by cases z) hi
      have S1 := S0.put (v := v) (b := .sh d) (fun z => by cases z) (fun _ z => by cases z) hi D0.len
      obtain ⟨h1, σ', h2, h3, h4, h5⟩ := asgN_ok D1 S1 r2 (fun j hj => by rw [setB_length]; exact hl j (by simp [hj])) h
      refine ⟨by simp [h1], σ', h2, h3, h4, fun j hj => ?_⟩
      simp only [List.mem_cons, not_or] at hj
      rw [h5 j hj.2, List.getElem?_set_ne (Ne.symm hj.1)]
  | [], _ :: _, _, _, _, _, _, _, _, _, h => by simp [asgN] at h
  | _ :: _, [], _, _, _, _, _, _, _, _, h => by simp [asgN] at h
/-- a target's reading -/
def tG (K : PySem.W.Frag) (t : Tg) : TG := fun v σ H Q => ∃ (M0 : Hp) (e0 : Env) (σ0 : St) (H0 M : Hp) (e : Env) (r : Bool × D) (e' : Env), Vd K M e σ H ∧ Stp e0 σ0 M0 H0 e σ M H ∧ Res K e σ H0 M H v r ∧ asgT t r.1 r.2 e = some e' ∧
  ∀ σ', Vd K M e' σ' H → Stp e0 σ0 M0 H0 e' σ' M H → (∀ j, j ∉ t.slots → σ'[j]? = σ[j]?) → Q σ' H
end
section
variable {T : List Fn} {P : Nat → List B → CA} {Γ : Gam} {X : Cx}
theorem CGs.lt {es : List Expr} {is : List Nat} (h : CGs Γ es is) : ∀ i ∈ is, i < Γ.N.length := by
  induction h with
  | nil => simp
  | cons h1 _ _ ih =>
    intro i hi
    rcases List.mem_cons.mp hi with rfl | hi
    · exact (List.getElem?_eq_some_iff.mp h1).1
    · exact ih i hi
theorem CGs.stores {es : List Expr} {is : List Nat} (h : CGs Γ es is) (env : PySem.Env) : (assignEach es env).length = is.length ∧ (assignEach es env).findIdx? (·.1) = none := by
  induction h with
  | nil => exact ⟨rfl, rfl⟩
  | @cons x pos i es is h1 h2 h3 ih =>
    have e1 : assignEach (.Name x pos :: es) env = (false, assign (.Name x pos) env) :: assignEach es env := by rfl
    rw [e1, List.length_cons, List.length_cons, ih.1, List.findIdx?_cons, ih.2]
    exact ⟨rfl, rfl⟩
/-- the names one after another -/
def gNs : List Nat → TGs
  | [] => gNil
  | i :: is => gCons (gName i) (gNs is)
theorem pgs_names (C : Cok T P Γ X) {es : List Expr} {is : List Nat} (h : CGs Γ es is) : PGs X es (gNs is) := by
  induction h with
  | nil => exact pgs_nil
  | cons h1 h2 h3 ih =>
    obtain ⟨l1, l2⟩ := locB_loc C h2
    exact pgs_cons (pg_name (by rw [C.N]; exact C.nd) (by rw [C.N]; exact h1) l1 l2) ih
theorem gNs_run : ∀ {is : List Nat} {vs : List V} {σ : St} {H : Hp} {Q : St → Hp → Prop}, vs.length = is.length → Q ((is.zip vs).foldl (fun s p => s.set p.1 (some p.2)) σ) H → gNs is vs σ H Q
  | [], [], _, _, _, _, q => ⟨rfl, q⟩
  | [], _ :: _, _, _, _, h, _ => by simp at h
  | _ :: _, [], _, _, _, h, _ => by simp at h
  | i :: is, v :: vs, σ, H, Q, h, q => ⟨v, vs, rfl, gNs_run (is := is) (vs := vs) (by simpa using h) q⟩
theorem pg_tg (C : Cok T P Γ X) {e : Expr} {t : Tg} (h : CG Γ e t) : PG X e (tG X.K t) := by
  cases h with
  | @nm x pos i h1 h2 =>
    obtain ⟨l1, l2⟩ := locB_loc C h2
    have p : PG X (.Name x pos) (gName i) := pg_name (by rw [C.N]; exact C.nd) (by rw [C.N]; exact h1) l1 l2
    refine ⟨fun pins s σ H v u Q I r hq => p.run pins s σ H v u Q I r ?_⟩
    obtain ⟨M0, e0, σ0, H0, M, e, ⟨fr, d⟩, e', D0, S0, rs, ha, q⟩ := hq
    simp only [asgT] at ha
    cases ha
    have hi : i < e.length := by
      have := I.len
      rw [D0.len, this, C.N]
      exact (List.getElem?_eq_some_iff.mp h1).1
    cases fr with
    | false =>
      have rs := Res.rep rs
      exact q _ (D0.put (b := .sh d) rs (fun z => by cases z) hi) (S0.put (b := .sh d) (fun z => by cases z) (fun _ z => by cases z) hi D0.len) (fun j hj => by
        rw [List.getElem?_set_ne]; intro z; exact hj (by simp [Tg.slots, z]))
    | true =>
      obtain ⟨a, rfl, h3, h4, h5⟩ : ∃ a, v = .ref a ∧ H0 a = none ∧ ¬ Owns e σ a ∧ Own X.K M H a d := rs
      exact q _ (D0.put (b := .ow d) ⟨a, rfl, h5⟩ (fun _ c ec => by cases ec; exact h4) hi) (S0.put (b := .ow d) (fun _ c ec => by cases ec; exact .inr h3) (fun _ z => by cases z) hi D0.len) (fun j hj => by
        rw [List.getElem?_set_ne]; intro z; exact hj (by simp [Tg.slots, z]))
  | @tp es k pos is h =>
    obtain ⟨s1, s2⟩ := h.stores X.env
    have p := pg_tup (pos := pos) (k := k) C.calm (pgs_names C h) s1 s2
    refine ⟨fun pins s σ H v u Q I r hq => p.run pins s σ H v u Q I r ?_⟩
    obtain ⟨M0, e0, σ0, H0, M, e, ⟨fr, d⟩, e', D0, S0, rs, ha, q⟩ := hq
    simp only [asgT] at ha
    split at ha
    · rename_i ds
      have rp : Rep X.K M v (.tup ds) := by
        cases fr with
        | false => exact Res.rep rs
        | true =>
          obtain ⟨a, _, _, _, h5⟩ : ∃ a, v = .ref a ∧ H0 a = none ∧ ¬ Owns e σ a ∧ Own X.K M H a (.tup ds) := rs
          cases h5
      cases rp with
      | @tup a vs _ ea ra =>
        have hl : ∀ i ∈ is, i < e.length := fun i hi => by
          have := I.len
          rw [D0.len, this, C.N]
          exact h.lt i hi
        obtain ⟨h1, σ', h2, h3, h4, h5⟩ := asgN_ok D0 S0 ra hl ha
        refine ⟨a, vs, rfl, SqT.of (D0.same _ _ ea), h1, gNs_run h1 ?_⟩
        subst h2
        exact q _ h3 h4 h5
    · cases ha
end
end L2.Eng
namespace PySem
open Sem (wp)
open AutoSeq1 (wpAny_loadPart')
theorem meets_enumerate_newTu (l : Addr) (items : Array Value) (n : Nat) (dct : Option Addr) (sl : Array (Option Value)) :
    Meets (Builtin.«enumerate.__new__» ⟨[.type "enumerate", .ref l], []⟩) (fun _ R s => s.heap.get? l = some { cls := .type "tuple", dict := dct, data := .seq items n, slots := sl } ∧
      R (.ok (.ret (.ref (s.heap.push { cls := .type "tuple_iterator", data := .fields #[.ref l, .int 0 0] }).objs.size)))
        { s with heap := (s.heap.push { cls := .type "tuple_iterator", data := .fields #[.ref l, .int 0 0] }).push { cls := .type "enumerate", data := .fields #[.none, .bool false, .ref s.heap.objs.size, rawInt 0, .none, .none] } }) :=
  .of_wp fun prog w A R s h => by
    obtain ⟨hp, g, d, tk, os⟩ := s; obtain ⟨hl, h⟩ := h
    have hsub := sub_enumerate
    have hL : Heap.IsTuple (Shared.heap ⟨hp, g, d, tk, os⟩) l items := ⟨_, hl, rfl, n, rfl⟩
    wp_walk using wpAny_loadPart' hl
    refine wpAny_stack_any fun st => wpAny_pure ?_
    split
    · rename_i c _ _ _ _ _
      cases (c == Value.type "enumerate")
      · wp_walk using wpAny_loadPart' hl, wpAny_pyIter_tuple hL
        exact ⟨_, rfl, h⟩
      · wp_walk using wpAny_loadPart' hl, wpAny_pyIter_tuple hL
        exact ⟨_, rfl, h⟩
    · wp_walk using wpAny_loadPart' hl, wpAny_pyIter_tuple hL
      exact ⟨_, rfl, h⟩
theorem call_enumerate_tu {prog : Program} {w : World} {A : Around} {E : Value → Shared → Prop} {s : Shared} {l : Addr} {items : Array Value} {Q : Value → Shared → Prop} (hL : s.heap.IsTuple l items)
    (h : ∀ h', IsEnum h' (s.heap.objs.size + 1) s.heap.objs.size 0 .none → h'.IsTupleIter s.heap.objs.size l 0 → h'.objs.size = s.heap.objs.size + 2 →
      (∀ b o, s.heap.get? b = some o → h'.get? b = some o) → Q (.ref (s.heap.objs.size + 1)) { s with heap := h' }) :
    wpAny (model prog w) A (call (.type "enumerate") [.ref l]) Q E s := by
  obtain ⟨⟨c, dct, dt, sl⟩, hl, hc, n, hd⟩ := hL
  replace hc : c = .type "tuple" := hc
  replace hd : dt = .seq items n := hd
  subst hc hd
  refine callType_new F.called_enumerate (by decide) (F.typeCall_enumerate_1 _) (F.newCall_enumerate_1 _) (fun obj => F.args_object_init_2 obj _) F.entry_enumerate_new
    (meets_enumerate_newTu l items n dct sl) ⟨hl, ?_⟩
  have hz : (s.heap.push { cls := .type "tuple_iterator", data := .fields #[.ref l, .int 0 0] }).objs.size = s.heap.objs.size + 1 := Heap.size_push ..
  show _ ∧ _
  rw [hz]
  have he : IsEnum ((s.heap.push { cls := .type "tuple_iterator", data := .fields #[.ref l, .int 0 0] }).push
      { cls := .type "enumerate", data := .fields #[.none, .bool false, .ref s.heap.objs.size, rawInt 0, .none, .none] }) (s.heap.objs.size + 1) s.heap.objs.size 0 .none := by
    have := Heap.get?_push_size (s.heap.push { cls := .type "tuple_iterator", data := .fields #[.ref l, .int 0 0] })
      (o := { cls := .type "enumerate", data := .fields #[.none, .bool false, .ref s.heap.objs.size, rawInt 0, .none, .none] }) rfl
    rw [hz] at this; exact this
  refine ⟨⟨_, he, rfl⟩, h _ he ⟨_, Heap.get?_push_of_some _ (Heap.get?_push_size _ rfl), rfl, rfl⟩ (by rw [Heap.size_push, hz]) fun b o x => Heap.get?_push_of_some _ (Heap.get?_push_of_some _ x)⟩
theorem wpAny_pyNext_tu_end {prog : Program} {w : World} {A : Around} {E : Value → Shared → Prop} {s : Shared} {e it l : Addr} {i : Nat} {items : Array Value} {old : Value} {Q : Option Value → Shared → Prop} (hh : A.handled = none)
    (he : IsEnum s.heap e it i old) (hit : s.heap.IsTupleIter it l i) (hl : s.heap.IsTuple l items) (hx : items[i]? = none)
    (hQ : ∀ h', Heap.ExtBut it s.heap h' → Q none { s with heap := h' }) : wpAny (model prog w) A (pyNext (.ref e)) Q E s := by
  have hT : s.TypeIs (.ref e) "enumerate" := ⟨_, he, rfl⟩
  unfold pyNext
  refine wpAny_bind (wpAny_attempt (wpAny_callSpecial?_slot (name := Str.ofString "__next__") hT F.slot_enumerate_next
    (wpAny_call_entry F.slot_enumerate_next hT F.entry_enumerate_next ?_ (F.args_enumerate_next_1 _))))
  show wpAny _ _ (field (.ref e) 2 >>= _) _ _ _
  refine wpAny_bind (wpAny_field he rfl (x := .ref it) rfl ?_)
  refine wpAny_bind (wpAny_nextOf_tuple_end hh hit hl hx fun h' x he' hx' => ?_)
  obtain ⟨o, ho, hc⟩ := hx'
  refine wpAny_bind (wpAny_isInstance (T := "StopIteration") (b := true) ⟨o, ho, hc⟩ isSubtype_stop ?_)
  exact wpAny_pure (hQ _ he')
end PySem
namespace L2.Eng
open PySem PySem.Spec PyProof.Rows
/-! ## enumerate(tuple) -/
def Iet (K : PySem.W.Frag) (a : Addr) : L2.It :=
  ⟨fun i H => ∃ (xs : List V) (x : V), SqT K H a xs ∧ xs[i]? = some x, fun i H v H' => ∃ T x, v = .ref T ∧ H T = none ∧ H' = upd H T (.tup [.int (i : Nat), x]) ∧ ∀ xs, SqT K H a xs → xs[i]? = some x, fun i H => ∃ xs : List V, SqT K H a xs ∧ xs.length ≤ i⟩
theorem turn_enumT {P : Program} {w : World} {K : PySem.W.Frag} {elts : List Expr} {kk : Nat} {tpos : Pos} (a e it : Addr) (hai : a ≠ it) (hea : e ≠ a) :
    Turn P w K (.Tuple elts kk tpos) (Iet K a) [e, it] e (fun i h => (∃ old, IsEnum h e it ((i : Nat) : Int) old) ∧ h.IsTupleIter it a i ∧ e ≠ it) where
  mem := by simp
  obj := fun i h st b hb => by
    obtain ⟨⟨old, he⟩, ⟨o, ho, hc, hd⟩, _⟩ := st
    have e' : b = e ∨ b = it := by simpa using hb
    rcases e' with z | z
    · rw [z]; exact ⟨_, he, fun v q => nomatch q⟩
    · rw [z]; exact ⟨o, ho, fun v q => by rw [hd] at q; cases q⟩
  keep := fun i h h' st k => let ⟨⟨old, he⟩, hi, hne⟩ := st; ⟨⟨old, k e (by simp) _ he⟩, hi.at fun o q => k it (by simp) o q, hne⟩
  item := by
    intro X hP hw hK hc i pins s σ H E I hf st hg
    subst hP hw hK
    obtain ⟨⟨old, he⟩, hit, hne⟩ := st
    obtain ⟨xs, x, hq, hx⟩ := hg
    obtain ⟨its, rv, p, hz⟩ := I.tuple hq
    obtain ⟨u, hu, ru⟩ := rv.get hx
    have hel : e < s.heap.objs.size := Heap.lt_size he
    have hil : it < s.heap.objs.size := by obtain ⟨_, q, _⟩ := hit; exact Heap.lt_size q
    have hlt : i < its.toArray.size := by
      have := (List.getElem?_eq_some_iff.mp hu).1
      simpa using this
    have D := Draws.tuple (prog := X.prog) (w := X.w) (A := X.A.in1) (I.ok.hd hc) it a hai its.toArray
    refine wpAny_pyNext_enum_itemD D he ⟨hit, p⟩ hlt hne (by simp [hne, hea]) fun x' h' tk hx' ho hst hT hsz hk => ?_
    have ex : x' = u := by
      have : its.toArray[i]? = some u := by simpa using hu
      rw [this] at hx'
      exact (Option.some.inj hx').symm
    subst ex
    refine ⟨_, rfl, wpAny_letOwnedTupleGo_enum (s := { s with heap := h', toks := tk + 1 }) ho fun h'' he' sb => ?_⟩
    have hT2 : h''.get? s.heap.objs.size = some { cls := .type "tuple", data := .seq #[.int i tk, x'] } := (sb.2 _ (Nat.ne_of_gt hel)).trans hT
    have new : ObjOk X.prog X.w (upd H s.heap.objs.size (.tup [.int (i : Nat), x])) h'' s.heap.objs.size (.tup [.int (i : Nat), x]) :=
      ⟨by show 2 ≤ sizeLine; decide, [.int i tk, x'], .cons ⟨_, rfl⟩ (.cons ru .nil), ⟨_, hT2, rfl, _, rfl⟩⟩
    have I1 : Inv X pins σ (upd H s.heap.objs.size (.tup [.int (i : Nat), x])) { s with heap := h'', toks := tk + 1 } :=
      I.turnedNew (ch := [e, it]) (fun b ob hb q => (sb.2 b (fun z => hb (by simp [z]))).trans (hk b ob (fun z => hb (by simp [z])) (fun z => hb (by simp [z])) q)) hf (Nat.le_refl _) new
    refine ⟨.ref s.heap.objs.size, _, I1, rfl, ⟨_, x, rfl, I.hok.fresh (Nat.le_refl _), rfl, fun ys hy => by rw [I.tuple_inj hy hq]; exact hx⟩, ⟨⟨x', ?_⟩, hst.1.at fun o q => (sb.2 it (Ne.symm hne)).trans q, hne⟩, fun b hb => ?_⟩
    · have e1 : ((i + 1 : Nat) : Int) = (i : Int) + 1 := by omega
      rw [e1]; exact he'
    · have hb' : b < s.heap.objs.size := by
        have e' : b = e ∨ b = it := by simpa using hb
        rcases e' with z | z
        · rw [z]; exact hel
        · rw [z]; exact hil
      rw [upd_ne (Nat.ne_of_lt hb')]
      exact (hf b hb).1
  done := by
    intro X hP hw hK hc i pins s σ H E I hf st hg
    subst hP hw hK
    obtain ⟨⟨old, he⟩, hit, hne⟩ := st
    obtain ⟨xs, hq, hx⟩ := hg
    obtain ⟨its, rv, p, hz⟩ := I.tuple hq
    obtain ⟨f0, f1, f2, f3, f4, f5⟩ := hf it (by simp)
    have hl := rv.length
    refine wpAny_pyNext_tu_end (I.ok.hd hc) he hit p (by simp; omega) fun h' eb => ⟨rfl, I.turned (t' := s.toks) (fun b o hb q => eb b o hb q) f0 f1 f3 f4 f5⟩
  self := fun A i s Q E st h => let ⟨⟨_, he⟩, _⟩ := st; wpAny_pyIter_enum he h
def iEnumT (K : PySem.W.Frag) (ta : TA) : TI := fun σ H R => ta σ H fun vs H1 => ∃ a xs, vs = [.ref a] ∧ ((SqL K H1 a xs ∧ R (Ite K a) H1) ∨ (SqT K H1 a xs ∧ R (Iet K a) H1))
theorem pi_enumT {X : Cx} {e : Expr} {ta : TA} {p pos tpos : Pos} {elts : List Expr} {kk : Nat} (hg : Gl X "enumerate") (hm : X.mg "enumerate" = none) (ha : PA X [e] ta) (hs : starEach [e] X.env = [(false, eval e X.env)]) :
    PI X (.Tuple elts kk tpos) (.Call (.Name "enumerate" p) [e] [] pos) (iEnumT X.K ta) := by
  refine ⟨fun pins s σ H R I h => ?_⟩
  refine Call_ (ld_blt I hg hm boot_enumerate (PyProof.Rows.callWith_type1 (thn (ha.run pos pins s σ H _ I h) fun us s1 ⟨vs, H1, I1, r1, q1⟩ => ?_) hs rfl))
  obtain ⟨a, xs, ex, q1⟩ := q1
  subst ex
  cases r1 with
  | cons r rr =>
    cases rr
    cases r
    have fp : ∀ b ∈ [s1.heap.objs.size + 1, s1.heap.objs.size], FpOk X pins H1 b := fun b hb => by
      have e' : b = s1.heap.objs.size + 1 ∨ b = s1.heap.objs.size := by simpa using hb
      have hle : s1.heap.objs.size ≤ b := by
        rcases e' with z | z
        · rw [z]; exact Nat.le_add_right _ _
        · rw [z]; exact Nat.le_refl _
      exact I1.fpOk hle (I1.hok.fresh hle)
    rcases q1 with ⟨hq, q⟩ | ⟨hq, q⟩
    · obtain ⟨its, rv, p', hz⟩ := I1.list hq
      refine call_enumerate_list p'.isList fun h' he hit hsz hk => wpAny_pyIter_enum he ?_
      have I2 : Inv X pins σ H1 { s1 with heap := h' } := I1.kept (t' := s1.toks) hk
      exact ⟨s1.heap.objs.size + 1, [s1.heap.objs.size + 1, s1.heap.objs.size], _, _, H1, rfl, I2, turn_enum a (s1.heap.objs.size + 1) s1.heap.objs.size, ⟨⟨.none, he⟩, hit, Nat.succ_ne_self _⟩, fp, q⟩
    · obtain ⟨its, rv, p', hz⟩ := I1.tuple hq
      obtain ⟨o, ho, _⟩ := id p'
      have hl : a < s1.heap.objs.size := Heap.lt_size ho
      refine call_enumerate_tu p' fun h' he hit hsz hk => wpAny_pyIter_enum he ?_
      have I2 : Inv X pins σ H1 { s1 with heap := h' } := I1.kept (t' := s1.toks) hk
      exact ⟨s1.heap.objs.size + 1, [s1.heap.objs.size + 1, s1.heap.objs.size], _, _, H1, rfl, I2, turn_enumT a (s1.heap.objs.size + 1) s1.heap.objs.size (Nat.ne_of_lt hl) (Nat.ne_of_gt (Nat.lt_succ_of_lt hl)), ⟨⟨.none, he⟩, hit, Nat.succ_ne_self _⟩, fp, q⟩
theorem walk_enumT {K : PySem.W.Frag} {a : Addr} {xs : List V} : Walk (Iet K a) xs.length (fun H => SqT K H a xs) (YPair (fun i => some (.int (i : Nat))) (fun i => xs[i]?)) := by
  refine ⟨fun i _ hi q => ⟨xs, xs[i], q, by simp [hi]⟩, fun _ q => ⟨xs, q, Nat.le_refl _⟩, fun i H v H' _ q y => ?_⟩
  obtain ⟨T, x, h1, h2, h3, h4⟩ := y
  exact ⟨T, .int (i : Nat), x, h1, h2, h3, rfl, h4 xs q⟩
end L2.Eng
namespace L2.Eng
open PySem PySem.Spec PyProof.Rows
/-! ## what is walked -/
/-- the i-th of what is walked is the i-th of ds -/
def YD (K : PySem.W.Frag) (M0 : Hp) (ds : List D) : Nat → Hp → V → Hp → Prop := fun i H x H' => ∃ d, ds[i]? = some d ∧ ∀ M, Same M0 M → Same M H → ∃ M1, Pur M H M1 H' ∧ Rep K M1 x d
def tI (K : PySem.W.Frag) (f : Env → Ans (List D)) : TI := fun σ H R => ∃ M e, Vd K M e σ H ∧ (f e).wp fun ds e' => ∀ J M' H', Vd K M' e' σ H' → Stp e σ M H e' σ M' H' → Walk J ds.length (fun H => Same M' H) (YD K M' ds) → R J H'
theorem _root_.L2.PI.or {X : Cx} {tg iter : Expr} {w1 w2 : TI} (h1 : PI X tg iter w1) (h2 : PI X tg iter w2) : PI X tg iter (fun σ H R => w1 σ H R ∨ w2 σ H R) :=
  ⟨fun pins s σ H R I h => h.elim (h1.run pins s σ H R I) (h2.run pins s σ H R I)⟩
theorem _root_.L2.PI.imp {X : Cx} {tg iter : Expr} {w1 w2 : TI} (h1 : PI X tg iter w1) (h : ∀ σ H R, w2 σ H R → w1 σ H R) : PI X tg iter w2 :=
  ⟨fun pins s σ H R I q => h1.run pins s σ H R I (h σ H R q)⟩
section
variable {K : PySem.W.Frag} {M : Hp} {a : Addr} {vs : List V} {ds : List D}
theorem wk_seq {J : L2.It} {n : Nat} (r : Reps K M vs ds) {G : Hp → Prop} (w : Walk J vs.length G (YAt vs)) (hG : ∀ H, Same M H → G H) : Walk J ds.length (fun H => Same M H) (YD K M ds) := by
  rw [← r.length]
  refine w.mono hG fun i H x H' _ _ y => ?_
  obtain ⟨e, y⟩ := y
  subst e
  obtain ⟨d, h1, h2⟩ := r.getV y
  exact ⟨d, h1, fun M1 s1 s2 => ⟨M1, Pur.refl s2, h2.mono s1⟩⟩
theorem wk_rng {lo : Int} {n : Nat} : Walk (Itr lo n) (rangeD lo n).length (fun H => Same M H) (YD K M (rangeD lo n)) := by
  have hl : (rangeD lo n).length = n := by simp [rangeD]
  rw [hl]
  refine walk_range.mono (fun _ _ => trivial) fun i H x H' hi _ y => ?_
  obtain ⟨e, y⟩ := y
  subst e; subst y
  refine ⟨.int (lo + i), ?_, fun M1 s1 s2 => ⟨M1, Pur.refl s2, .int _⟩⟩
  simp [rangeD, hi]
theorem enumD_length : ∀ (ds : List D) (k : Nat), (enumD k ds).length = ds.length
  | [], _ => rfl
  | d :: ds, k => by simp [enumD, enumD_length ds]
theorem enumD_get : ∀ (ds : List D) (k i : Nat), (enumD k ds)[i]? = ds[i]?.map fun d => .tup [.int ((k + i : Nat) : Int), d]
  | [], _, _ => by simp [enumD]
  | d :: ds, k, 0 => by simp [enumD]
  | d :: ds, k, i + 1 => by
    simp only [enumD, List.getElem?_cons_succ]
    rw [enumD_get ds (k + 1) i, show k + 1 + i = k + (i + 1) by omega]
theorem wk_enum {J : L2.It} (r : Reps K M vs ds) {G : Hp → Prop} (w : Walk J vs.length G (YPair (fun i => some (.int (i : Nat))) (fun i => vs[i]?))) (hG : ∀ H, Same M H → G H) :
    Walk J (enumD 0 ds).length (fun H => Same M H) (YD K M (enumD 0 ds)) := by
  rw [enumD_length, ← r.length]
  refine w.mono hG fun i H x H' _ _ y => ?_
  obtain ⟨p, x1, y1, rfl, hp, rfl, h1, h2⟩ := y
  have h1 : x1 = V.int (i : Nat) := (Option.some.inj h1).symm
  subst h1
  obtain ⟨d, h3, h4⟩ := r.getV h2
  refine ⟨.tup [.int (i : Nat), d], by rw [enumD_get, h3]; simp, fun M1 s1 s2 => ?_⟩
  exact ⟨_, Pur.lay s2 hp, .tup upd_same ((Reps.cons (.int _) (.cons (h4.mono s1) .nil)).mono (Pur.lay s2 hp).same)⟩
theorem strItems (z : Str) : (z.cps.toList.map fun c => D.str ⟨#[c]⟩).length = z.cps.size := by simp
theorem wk_str {z : Str} : Walk (Its z) (z.cps.toList.map fun c => D.str ⟨#[c]⟩).length (fun H => Same M H) (YD K M (z.cps.toList.map fun c => D.str ⟨#[c]⟩)) := by
  rw [strItems]
  refine walk_str.mono (fun _ _ => trivial) fun i H x H' hi _ y => ?_
  obtain ⟨e, c, h1, h2⟩ := y
  subst e; subst h2
  refine ⟨.str ⟨#[c]⟩, ?_, fun M1 s1 s2 => ⟨M1, Pur.refl s2, .str _⟩⟩
  rw [List.getElem?_map, Array.getElem?_toList, h1]
  rfl
end
section
variable {T : List Fn} {P : Nat → List B → CA} {Γ : Gam} {X : Cx}
theorem blt_none (C : Cok T P Γ X) {x : Str} (h : bltNames.contains x = true) : X.mg x = none := C.blt x (by simpa using h)
theorem star1 {e : Expr} {x : Ex} (h : CX Γ e x) (env : PySem.Env) : starEach [e] env = [(false, eval e env)] := by
  rw [h.star]; rfl
theorem pa_one {e : Expr} {t : TE} {x : Ex} (h : CX Γ e x) (p : PE X e t) : PA X [e] (tCons t tNil) := pa_cons p pa_nil (h.star [] X.env)
/-- the readings of what is walked -/
theorem pi_seq (C : Cok T P Γ X) {tg e : Expr} {x : Ex} (p : PE X e (tE X.K (ev T P x))) : PI X tg e (tI X.K (evi T P (.seq x))) := by
  have q := pe_set p
  refine (((pi_list q).or (pi_tup q)).or (pi_str q)).imp fun σ H R ⟨M, e, D0, w⟩ => ?_
  simp only [evi] at w
  obtain ⟨r, e1, hr, w1⟩ := Ans.wp_bind w
  obtain ⟨ds, hds, w1⟩ := opt_wp w1
  have start : ∀ {Q : V → Hp → Prop}, (∀ v M' H', Vd X.K M' e1 σ H' → Stp e σ M H e1 σ M' H' → Rep X.K M' v r.2 → Q v H') → tE X.K (fun e => (ev T P x e).bind fun r e1 => .val (false, r.2) e1) σ H Q := fun {Q} hq =>
    ⟨M, e, D0, (false, r.2), e1, by show (ev T P x e).bind _ = _; rw [hr]; rfl, fun v M' H' D1 S1 rs => hq v M' H' D1 S1 (Res.rep rs)⟩
  have seq : ∀ {M' H' : Hp} {J : L2.It} {vs : List V} {G : Hp → Prop}, Vd X.K M' e1 σ H' → Stp e σ M H e1 σ M' H' → Reps X.K M' vs ds → Walk J vs.length G (YAt vs) → (∀ H, Same M' H → G H) → R J H' :=
    fun {M' H' J vs G} D1 S1 r wk hG => w1 J M' H' D1 S1 (wk_seq (n := 0) r wk hG)
  unfold itemsD at hds
  split at hds
  · rename_i hd
    cases hds
    refine .inl (.inl (start fun v M' H' D1 S1 rp => ?_))
    rw [hd] at rp
    cases rp with
    | lst ea ra => exact ⟨_, rfl, ⟨_, SqL.of (D1.same _ _ ea)⟩, seq D1 S1 ra walk_list fun H s => SqL.of (s _ _ ea)⟩
  · rename_i hd
    cases hds
    refine .inl (.inr (start fun v M' H' D1 S1 rp => ?_))
    rw [hd] at rp
    cases rp with
    | tup ea ra => exact ⟨_, rfl, ⟨_, SqT.of (D1.same _ _ ea)⟩, seq D1 S1 ra walk_tup fun H s => SqT.of (s _ _ ea)⟩
  · rename_i hd
    cases hds
    refine .inl (.inl (start fun v M' H' D1 S1 rp => ?_))
    rw [hd] at rp
    cases rp with
    | scr ea ra => exact ⟨_, rfl, ⟨_, D1.same.seq ea⟩, seq D1 S1 ra walk_list fun H s => s.seq ea⟩
  · rename_i hd
    cases hds
    refine .inr (start fun v M' H' D1 S1 rp => ?_)
    rw [hd] at rp
    cases rp
    exact ⟨_, rfl, w1 _ M' H' D1 S1 wk_str⟩
  · cases hds
theorem pi_rng (C : Cok T P Γ X) {tg a : Expr} {p pos : Pos} {x : Ex} (h0 : gloB Γ.sc "range" = true) (h1 : CX Γ a x) (p1 : PE X a (tE X.K (ev T P x))) : PI X tg (.Call (.Name "range" p) [a] [] pos) (tI X.K (evi T P (.rng x))) := by
  refine (pi_range1 (gloB_gl C h0) (blt_none C (by decide +kernel)) (pa_one h1 (pe_set p1)) (star1 h1 _)).imp fun σ H R ⟨M, e, D0, w⟩ => ?_
  simp only [evi] at w
  obtain ⟨r, e1, hr, w1⟩ := Ans.wp_bind w
  split at w1
  · rename_i n hn
    split at w1
    · rename_i hb
      have w1 := val_wp w1
      refine ⟨M, e, D0, (false, r.2), e1, by show (ev T P x e).bind _ = _; rw [hr]; rfl, fun v M' H' D1 S1 rs => ?_⟩
      have rs := Res.rep rs
      rw [hn] at rs
      cases rs
      exact ⟨n, rfl, hb.1, hb.2, w1 _ M' H' D1 S1 wk_rng⟩
    · exact (stuck_wp w1).elim
  · exact (stuck_wp w1).elim
theorem pi_rng2 (C : Cok T P Γ X) {tg a b : Expr} {p pos : Pos} {x y : Ex} (h0 : gloB Γ.sc "range" = true) (h1 : CX Γ a x) (h2 : CX Γ b y) (p1 : PE X a (tE X.K (ev T P x))) (p2 : PE X b (tE X.K (ev T P y))) :
    PI X tg (.Call (.Name "range" p) [a, b] [] pos) (tI X.K (evi T P (.rng2 x y))) := by
  refine (pi_range2 (gloB_gl C h0) (blt_none C (by decide +kernel)) (pa_cons (pe_set p1) (pa_one h2 (pe_set p2)) (h1.star _ _)) (by rw [h1.star, star1 h2]) (star1 h2 _)).imp fun σ H R ⟨M, e, D0, w⟩ => ?_
  simp only [evi] at w
  obtain ⟨r, e1, hr, w1⟩ := Ans.wp_bind w
  obtain ⟨r', e2, hr', w1⟩ := Ans.wp_bind w1
  split at w1
  · rename_i i j hi hj
    split at w1
    · rename_i hb
      have w1 := val_wp w1
      refine ⟨M, e, D0, (false, r.2), e1, by show (ev T P x e).bind _ = _; rw [hr]; rfl, fun v M' H' D1 S1 rs => ?_⟩
      refine ⟨M', e1, D1, (false, r'.2), e2, by show (ev T P y e1).bind _ = _; rw [hr']; rfl, fun v' M'' H'' D2 S2 rs' => ?_⟩
      have rs := Res.rep rs
      have rs' := Res.rep rs'
      rw [hi] at rs
      rw [hj] at rs'
      cases rs
      cases rs'
      exact ⟨i, j, rfl, ⟨hb.1, hb.2.1, hb.2.2.1, hb.2.2.2⟩, w1 _ M'' H'' D2 (S1.trans S2) wk_rng⟩
    · exact (stuck_wp w1).elim
  · exact (stuck_wp w1).elim
theorem pi_enu (C : Cok T P Γ X) {elts : List Expr} {kk : Nat} {tpos : Pos} {a : Expr} {p pos : Pos} {x : Ex} (h0 : gloB Γ.sc "enumerate" = true) (h1 : CX Γ a x) (p1 : PE X a (tE X.K (ev T P x))) :
    PI X (.Tuple elts kk tpos) (.Call (.Name "enumerate" p) [a] [] pos) (tI X.K (evi T P (.enum x))) := by
  refine (pi_enumT (gloB_gl C h0) (blt_none C (by decide +kernel)) (pa_one h1 (pe_set p1)) (star1 h1 _)).imp fun σ H R ⟨M, e, D0, w⟩ => ?_
  simp only [evi] at w
  obtain ⟨r, e1, hr, w1⟩ := Ans.wp_bind w
  obtain ⟨ds, e2, hds, w2⟩ := Ans.wp_bind w1
  have w3 := val_wp w2
  clear w w1 w2
  have hds : seqD r.2 = some ds ∧ e2 = e1 := by
    cases q : seqD r.2 with
    | none => rw [q] at hds; cases hds
    | some z => rw [q] at hds; cases hds; exact ⟨rfl, rfl⟩
  obtain ⟨hds, rfl⟩ := hds
  refine ⟨M, e, D0, (false, r.2), e2, by show (ev T P x e).bind _ = _; rw [hr]; rfl, fun v M' H' D1 S1 rs => ?_⟩
  have rs := Res.rep rs
  unfold seqD at hds
  split at hds
  · rename_i hd
    cases hds
    rw [hd] at rs
    cases rs with
    | lst ea ra => exact ⟨_, _, rfl, .inl ⟨SqL.of (D1.same _ _ ea), w3 _ M' H' D1 S1 (wk_enum ra walk_enum fun H s => SqL.of (s _ _ ea))⟩⟩
  · rename_i hd
    cases hds
    rw [hd] at rs
    cases rs with
    | tup ea ra => exact ⟨_, _, rfl, .inr ⟨SqT.of (D1.same _ _ ea), w3 _ M' H' D1 S1 (wk_enum ra walk_enumT fun H s => SqT.of (s _ _ ea))⟩⟩
  · rename_i hd
    cases hds
    rw [hd] at rs
    cases rs with
    | scr ea ra => exact ⟨_, _, rfl, .inl ⟨D1.same.seq ea, w3 _ M' H' D1 S1 (wk_enum ra walk_enum fun H s => s.seq ea)⟩⟩
  · cases hds
end
end L2.Eng
namespace L2.Eng
open PySem PySem.Spec PyProof.Rows
/-! ## a comprehension's own names -/
theorem getB_wipe : ∀ (own : List Nat) (e : Env) (j : Nat), getB (wipeB own e) j = if j ∈ own then none else getB e j
  | [], e, j => by simp [wipeB]
  | i :: own, e, j => by
    simp only [wipeB]
    by_cases hj : j = i
    · subst hj
      by_cases hl : j < (wipeB own e).length
      · rw [getB_setB_same hl]; simp
      · rw [getB_none_of_le (by rw [setB_length]; omega)]; simp
    · rw [getB_setB_ne hj, getB_wipe own e j]
      simp [hj]
theorem wipeB_length : ∀ (own : List Nat) (e : Env), (wipeB own e).length = e.length
  | [], e => rfl
  | i :: own, e => by simp only [wipeB, setB_length, wipeB_length own e]
theorem backB_length (e0 : Env) : ∀ (own : List Nat) (e : Env), (backB e0 own e).length = e.length
  | [], e => rfl
  | i :: own, e => by simp only [backB, setB_length, backB_length e0 own e]
theorem getB_back (e0 : Env) : ∀ (own : List Nat) (e : Env) (j : Nat), e0.length = e.length → getB (backB e0 own e) j = if j ∈ own then getB e0 j else getB e j
  | [], e, j, _ => by simp [backB]
  | i :: own, e, j, h => by
    simp only [backB]
    by_cases hj : j = i
    · subst hj
      by_cases hl : j < (backB e0 own e).length
      · rw [getB_setB_same hl]; simp
      · rw [getB_none_of_le (by rw [setB_length]; omega), if_pos (by simp), getB_none_of_le (by rw [backB_length] at hl; omega)]
    · rw [getB_setB_ne hj, getB_back e0 own e j h]
      simp [hj]
theorem wipe_get : ∀ (own : List Nat) (σ : St) (j : Nat), j ∉ own → (wipe σ own)[j]? = σ[j]?
  | [], σ, j, _ => rfl
  | i :: own, σ, j, h => by
    simp only [List.mem_cons, not_or] at h
    unfold wipe
    rw [List.getElem?_set_ne (Ne.symm h.1), wipe_get own σ j h.2]
theorem wipe_in : ∀ (own : List Nat) (σ : St) (j : Nat), j ∈ own → (wipe σ own)[j]? = if j < σ.length then some none else none
  | i :: own, σ, j, h => by
    unfold wipe
    by_cases hj : i = j
    · subst hj
      by_cases hl : i < σ.length
      · rw [List.getElem?_set_self (by rw [wipe_length]; exact hl), if_pos hl]
      · rw [List.getElem?_eq_none (by rw [List.length_set, wipe_length]; omega), if_neg hl]
    · rw [List.getElem?_set_ne hj, wipe_in own σ j (by simpa [Ne.symm hj] using h)]
theorem wipe_eq {σ σ2 : St} {own : List Nat} (hl : σ2.length = σ.length) (h : ∀ j, j ∉ own → σ2[j]? = σ[j]?) : wipe σ2 own = wipe σ own := by
  apply List.ext_getElem?
  intro j
  by_cases hj : j ∈ own
  · rw [wipe_in own σ2 j hj, wipe_in own σ j hj, hl]
  · rw [wipe_get own σ2 j hj, wipe_get own σ j hj, h j hj]
theorem still_of : ∀ {own : List Nat} {e : Env} {i : Nat} {b : B}, stillB e own = true → i ∈ own → getB e i = some b → ∃ d, b = .sh d
  | i :: own, e, j, b, h, hj, hb => by
    simp only [stillB, Bool.and_eq_true] at h
    rcases List.mem_cons.mp hj with rfl | hj
    · rw [hb] at h
      cases b with
      | sh d => exact ⟨d, rfl⟩
      | ow d => simp at h
      | io d => simp at h
    · exact still_of h.2 hj hb
theorem still_mk : ∀ {own : List Nat} {e : Env}, (∀ i ∈ own, ∀ b, getB e i = some b → ∃ d, b = .sh d) → stillB e own = true
  | [], _, _ => rfl
  | i :: own, e, h => by
    simp only [stillB, Bool.and_eq_true]
    refine ⟨?_, still_mk fun j hj => h j (by simp [hj])⟩
    cases q : getB e i with
    | none => rfl
    | some b =>
      obtain ⟨d, rfl⟩ := h i (by simp) b q
      rfl
section
variable {K : PySem.W.Frag} {e e1 : Env} {σ σ1 : St} {M M1 H H1 : Hp} {own : List Nat}
theorem owns_wipe (st : stillB e own = true) {a : Addr} : Owns (wipeB own e) (wipe σ own) a ↔ Owns e σ a := by
  constructor
  · rintro ⟨j, b, h1, h2, h3⟩
    rw [getB_wipe] at h1
    split at h1
    · cases h1
    · rename_i hj
      rw [wipe_get own σ j hj] at h3
      exact ⟨j, b, h1, h2, h3⟩
  · rintro ⟨j, b, h1, h2, h3⟩
    have hj : j ∉ own := fun hj => by
      obtain ⟨d, rfl⟩ := still_of st hj h1
      cases h2
    exact ⟨j, b, by rw [getB_wipe, if_neg hj]; exact h1, h2, by rw [wipe_get own σ j hj]; exact h3⟩
theorem Vd.wiped (D0 : Vd K M e σ H) : Vd K M (wipeB own e) (wipe σ own) H := by
  have at_ : ∀ j a, OwnAt (wipeB own e) (wipe σ own) j a → OwnAt e σ j a := fun j a ⟨b, h1, h2, h3⟩ => by
    rw [getB_wipe] at h1
    split at h1
    · cases h1
    · rename_i hj
      rw [wipe_get own σ j hj] at h3
      exact ⟨b, h1, h2, h3⟩
  refine ⟨D0.same, by rw [wipeB_length, wipe_length]; exact D0.len, fun j b hb => ?_, fun i j a hi hj => D0.inj i j a (at_ i a hi) (at_ j a hj)⟩
  rw [getB_wipe] at hb
  split at hb
  · cases hb
  · rename_i hj
    rw [wipe_get own σ j hj]
    exact D0.slot j b hb
/-- behind a turn of the block -/
theorem Vd.backed (D0 : Vd K M e σ H) (D1 : Vd K M1 e1 σ1 H1) (hs : Same M M1) (st : stillB e own = true) (hl : σ1.length = σ.length) (h : ∀ j, j ∉ own → σ1[j]? = σ[j]?) :
    Vd K M1 (backB e own e1) σ H1 ∧ (∀ a, Owns (backB e own e1) σ a → Owns e1 σ1 a) ∧ stillB (backB e own e1) own = true := by
  have le : e.length = e1.length := by rw [D0.len, D1.len, hl]
  have at_ : ∀ j a, OwnAt (backB e own e1) σ j a → OwnAt e1 σ1 j a := fun j a ⟨b, h1, h2, h3⟩ => by
    rw [getB_back e own e1 j le] at h1
    split at h1
    · rename_i hj
      obtain ⟨d, rfl⟩ := still_of st hj h1
      cases h2
    · rename_i hj
      rw [← h j hj] at h3
      exact ⟨b, h1, h2, h3⟩
  refine ⟨⟨D1.same, by rw [backB_length, ← le]; exact D0.len, fun j b hb => ?_, fun i j a hi hj => D1.inj i j a (at_ i a hi) (at_ j a hj)⟩, fun a ⟨j, hj⟩ => ⟨j, at_ j a hj⟩, still_mk fun i hi b hb => ?_⟩
  · rw [getB_back e own e1 j le] at hb
    split at hb
    · rename_i hj
      obtain ⟨d, rfl⟩ := still_of st hj hb
      obtain ⟨v, h1, h2⟩ := D0.slot j _ hb
      exact ⟨v, h1, Rep.mono hs h2⟩
    · rename_i hj
      rw [← h j hj]
      exact D1.slot j b hb
  · rw [getB_back e own e1 i le, if_pos hi] at hb
    exact still_of st hi hb
theorem Stp.backed (D0 : Vd K M e σ H) (D1 : Vd K M1 e1 σ1 H1) (S : Stp (wipeB own e) (wipe σ own) M H e1 σ1 M1 H1) (st : stillB e own = true) (hl : σ1.length = σ.length) (h : ∀ j, j ∉ own → σ1[j]? = σ[j]?) :
    Stp e σ M H (backB e own e1) σ M1 H1 := by
  have le : e.length = e1.length := by rw [D0.len, D1.len, hl]
  obtain ⟨_, ow, _⟩ := D0.backed D1 S.same st hl h
  refine ⟨S.same, fun b o q n => S.keep b o q fun w => n ((owns_wipe st).mp w), fun b o q n => (S.new b o q n).imp id fun w => (owns_wipe st).mp w, fun b w => (S.own b (ow b w)).imp (fun w => (owns_wipe st).mp w) id, S.there, fun j d hj => ⟨?_, rfl⟩⟩
  rw [getB_back e own e1 j le] at hj
  split at hj
  · rename_i hjo
    obtain ⟨d, z⟩ := still_of st hjo hj
    cases z
  · rename_i hjo
    obtain ⟨⟨d0, q⟩, _⟩ := S.io j d hj
    rw [getB_wipe, if_neg hjo] at q
    exact ⟨d0, q⟩
end
section
variable {T : List Fn} {P : Nat → List B → CA} {Γ : Gam} {X : Cx}
theorem Cok.blk (C : Cok T P Γ X) (scope : Scope) (s : Shared) (H : Hp) (A : Addr) (cl : List (Str × Addr)) (fp : List Addr) : Cok T P (Γ.blk scope) (X.blk s H scope (compEnvC scope cl A X.env) fp) where
  N := C.N
  sc := by show relS scope X.env.scope = relS scope Γ.sc; rw [C.sc]
  fn := rfl
  calm := C.calm
  nd := C.nd
  room := C.room
  blt := C.blt
  call := C.call
theorem asgN_length : ∀ {is : List Nat} {ds : List D} {e e' : Env}, asgN is ds e = some e' → e'.length = e.length
  | [], [], e, e', h => by simp only [asgN] at h; cases h; rfl
  | i :: is, d :: ds, e, e', h => by
    simp only [asgN] at h
    rw [asgN_length h, setB_length]
  | [], _ :: _, _, _, h => by simp [asgN] at h
  | _ :: _, [], _, _, h => by simp [asgN] at h
theorem asgT_length {t : Tg} {f : Bool} {d : D} {e e' : Env} (h : asgT t f d e = some e') : e'.length = e.length := by
  cases t with
  | nm i => simp only [asgT] at h; cases h; rw [setB_length]
  | tp is =>
    simp only [asgT] at h
    split at h
    · exact asgN_length h
    · cases h
theorem comp_step {f : D → Env → Ans (Option D)} {d : D} {ds : List D} {e : Env} {rest : List D} {ef : Env} (h : compN f (d :: ds) e = .val rest ef) : ∃ r e1 rest1, f d e = .val r e1 ∧ compN f ds e1 = .val rest1 ef ∧ rest = putO r rest1 := by
  simp only [compN] at h
  cases q : f d e with
  | stuck => rw [q] at h; cases h
  | exc _ _ => rw [q] at h; cases h
  | val r e1 =>
    rw [q] at h
    have h : ((compN f ds e1).bind fun rest e2 => Ans.val (putO r rest) e2) = .val rest ef := h
    cases q2 : compN f ds e1 with
    | stuck => rw [q2] at h; cases h
    | exc _ _ => rw [q2] at h; cases h
    | val rest1 e2 =>
      rw [q2] at h
      have h : Ans.val (putO r rest1) e2 = .val rest ef := h
      injection h with h1 h2
      subst h2
      exact ⟨r, e1, rest1, rfl, q2, h1.symm⟩
theorem lc_imp {K : PySem.W.Frag} {x : Ex} {t : Tg} {it : It} {c : Tt} {vs0 : List Nat} (h6 : t.slots.all vs0.contains = true) {σ : St} {Hs : Hp} {Q : VK} (h : tE K (ev T P (.comp x t it c vs0)) σ Hs Q) :
    tLc (tI K (evi T P it)) (tG K t) (tT K (evt T P c)) (tE K fun e => (ev T P x e).bind fun r e1 => .val (false, r.2) e1) vs0 σ Hs Q := by
  obtain ⟨M, e, D0, w⟩ := h
  simp only [ev] at w
  refine ⟨M, e, D0, ?_⟩
  obtain ⟨items, e1, hit, w1⟩ := Ans.wp_bind w
  clear w
  refine ⟨items, e1, hit, fun J M1 H1 D1 S1 wk A hA => ?_⟩
  split at w1
  case isFalse => exact (stuck_wp w1).elim
  rename_i st
  obtain ⟨all, ef, hall, w2⟩ := Ans.wp_bind w1
  clear w1
  split at w2
  case isFalse => exact (stuck_wp w2).elim
  rename_i hfit
  have w3 := val_wp w2
  clear w2
  generalize hf : (fun d e2 => match asgT t false d (wipeB vs0 e2) with
          | none => Ans.stuck
          | some e3 => (evt T P c e3).bind fun k e4 => if k then (ev T P x e4).bind fun r e5 => .val (some r.2) (backB e2 vs0 e5) else .val none (backB e2 vs0 e4)) = f at hall
  have mA : M1 A = none := own_no D1.same hA
  have nA : ¬ Owns e1 σ A := fun w => by obtain ⟨_, u, hu⟩ := D1.owns w; rw [hA] at hu; cases hu
  refine lc_it wk (fun i H => ∃ M e2 acc us rest, Vd K M e2 σ H ∧ Stp e1 σ M1 H1 e2 σ M H ∧ stillB e2 vs0 = true ∧ H A = some (.lst us) ∧ M A = none ∧ ¬ Owns e2 σ A ∧ Reps K M us acc ∧ compN f (items.drop i) e2 = .val rest ef ∧ acc ++ rest = all)
    ⟨M1, e1, [], [], all, D1.tmp mA nA, Stp.refl.tmp hA, st, upd_same, mA, nA, .nil, by simpa using hall, rfl⟩ (fun i H _ p => ?_) (fun i v H H' hi p y => ?_) (fun H p => ?_)
  · obtain ⟨M, e2, acc, us, rest, D2, S2, _⟩ := p
    exact S2.same.trans D2.same
  · obtain ⟨M, e2, acc, us, rest, D2, S2, st2, hAu, mA2, nA2, ra, hc, hall2⟩ := p
    obtain ⟨d, hd, y⟩ := y
    obtain ⟨M3, pu, rv⟩ := y M S2.same D2.same
    have hdrop : items.drop i = d :: items.drop (i + 1) := by
      rw [List.drop_eq_getElem_cons hi]
      have := List.getElem?_eq_getElem hi
      rw [hd] at this
      rw [← Option.some.inj this]
    rw [hdrop] at hc
    obtain ⟨r, e3, rest1, hfd, hc1, hr⟩ := comp_step hc
    rw [← hf] at hfd
    simp only at hfd
    split at hfd
    · cases hfd
    · rename_i e4 ha
      have D3 : Vd K M3 e2 σ H' := pu.vd D2
      have S3 : Stp e2 σ M H e2 σ M3 H' := pu.stp
      have DW : Vd K M3 (wipeB vs0 e2) (wipe σ vs0) H' := D3.wiped
      have hA3 : H' A = some (.lst us) := pu.keep _ _ hAu
      have mA3 : M3 A = none := by
        cases q : M3 A with
        | none => rfl
        | some u => have := pu.new A u q mA2; rw [hAu] at this; cases this
      refine ⟨M3, wipeB vs0 e2, wipe σ vs0, H', M3, wipeB vs0 e2, (false, d), e4, DW, Stp.refl, Res.still rv, ha, fun σ2 D4 S4 hσ => ?_⟩
      have hl2 : σ2.length = σ.length := by
        have l1 := D4.len
        have l2 := D2.len
        have : e4.length = (wipeB vs0 e2).length := asgT_length ha
        rw [← l1, this, wipeB_length, l2]
      have hσ2 : ∀ j, j ∉ vs0 → σ2[j]? = σ[j]? := fun j hj => by
        have : j ∉ t.slots := fun h => hj (by
          have := List.all_eq_true.mp h6 j h
          simpa using this)
        rw [hσ j this, wipe_get vs0 σ j hj]
      refine ⟨wipe_eq hl2 hσ2, ?_⟩
      -- the tests
      cases hk : evt T P c e4 with
      | stuck => rw [hk] at hfd; cases hfd
      | exc _ _ => rw [hk] at hfd; cases hfd
      | val k e5 =>
        rw [hk] at hfd
        have hfd : (if k then (ev T P x e5).bind fun r e5 => .val (some r.2) (backB e2 vs0 e5) else Ans.val none (backB e2 vs0 e5)) = .val r e3 := hfd
        refine ⟨M3, e4, D4, k, e5, hk, fun M5 H5 D5 S5 => ?_⟩
        have keepA : ∀ {M' H' : Hp} {e' : Env}, Stp (wipeB vs0 e2) (wipe σ vs0) M3 H' e' σ2 M' H' → True := fun _ => trivial
        have S35 : Stp (wipeB vs0 e2) (wipe σ vs0) M3 H' e5 σ2 M5 H5 := S4.trans S5
        have nW : ¬ Owns (wipeB vs0 e2) (wipe σ vs0) A := fun w => nA2 ((owns_wipe st2).mp w)
        cases k with
        | false =>
          have hfd : Ans.val none (backB e2 vs0 e5) = .val r e3 := hfd
          injection hfd with q1 q2
          subst q1; subst q2
          refine iteF ?_
          have S' := Stp.backed D3 D5 S35 st2 hl2 hσ2
          obtain ⟨D', ow, st'⟩ := D3.backed D5 S35.same st2 hl2 hσ2
          refine ⟨M5, _, acc, us, rest1, D', (S2.trans S3).trans S', st', S35.keep A _ hA3 nW, ?_, fun w => ?_, ra.mono (S3.same.trans S'.same), hc1, by rw [← hall2, hr]; rfl⟩
          · cases q : M5 A with
            | none => rfl
            | some u =>
              rcases S35.new A u q mA3 with z | z
              · rw [hA3] at z; cases z
              · exact absurd z nW
          · rcases S'.own A w with z | z
            · exact nA2 z
            · rw [hA3] at z; cases z
        | true =>
          have hfd : ((ev T P x e5).bind fun r e5 => Ans.val (some r.2) (backB e2 vs0 e5)) = .val r e3 := hfd
          refine iteT ?_
          cases hx : ev T P x e5 with
          | stuck => rw [hx] at hfd; cases hfd
          | exc _ _ => rw [hx] at hfd; cases hfd
          | val rr e6 =>
            rw [hx] at hfd
            have hfd : Ans.val (some rr.2) (backB e2 vs0 e6) = .val r e3 := hfd
            injection hfd with q1 q2
            subst q1; subst q2
            refine ⟨M5, e5, D5, (false, rr.2), e6, by show (ev T P x e5).bind _ = _; rw [hx]; rfl, fun y M6 H6 D6 S6 rs => ?_⟩
            have S36 : Stp (wipeB vs0 e2) (wipe σ vs0) M3 H' e6 σ2 M6 H6 := S35.trans S6
            have S' := Stp.backed D3 D6 S36 st2 hl2 hσ2
            obtain ⟨D', ow, st'⟩ := D3.backed D6 S36.same st2 hl2 hσ2
            have hA6 : H6 A = some (.lst us) := S36.keep A _ hA3 nW
            have mA6 : M6 A = none := by
              cases q : M6 A with
              | none => rfl
              | some u =>
                rcases S36.new A u q mA3 with z | z
                · rw [hA3] at z; cases z
                · exact absurd z nW
            have nA6 : ¬ Owns (backB e2 vs0 e6) σ A := fun w => by
              rcases S'.own A w with z | z
              · exact nA2 z
              · rw [hA3] at z; cases z
            have hlen : acc.length + (1 + rest1.length) = all.length := by
              rw [← hall2, hr, putO, List.length_append, List.length_cons]; omega
            have hfit : all.length ≤ maxLen := of_decide_eq_true hfit
            refine ⟨us, hA6, ?_, M6, _, acc ++ [rr.2], us ++ [y], rest1, D'.tmp mA6 nA6, ((S2.trans S3).trans S').tmp hA, st', upd_same, mA6, nA6, (ra.mono (S3.same.trans S'.same)).append (.cons rs.rep .nil), hc1, by rw [← hall2, hr]; simp [putO]⟩
            rw [ra.length]
            refine Nat.lt_of_lt_of_le (m := maxLen) (by omega) (fit_le (Nat.le_refl _))
  · obtain ⟨M, e2, acc, us, rest, D2, S2, st2, hAu, mA2, nA2, ra, hc, hall2⟩ := p
    rw [List.drop_length] at hc
    simp only [compN] at hc
    injection hc with q1 q2
    subst q1; subst q2
    rw [List.append_nil] at hall2
    subst hall2
    refine w3 _ M H D2 (S1.trans S2) ?_
    unfold Res
    rw [if_pos rfl]
    refine ⟨A, rfl, ?_, nA2, .lst mA2 hAu ra⟩
    cases z : Hs A with
    | none => rfl
    | some u => obtain ⟨o', h'⟩ := S1.there A u z; rw [hA] at h'; cases h'
theorem pe_comp (C : Cok T P Γ X) {elt tg iter : Expr} {ifs : List Expr} {scope : Scope} {pos : Pos} {own : List (Str × Nat)} {x : Ex} {t : Tg} {it : It} {c : Tt}
    (h1 : blkC Γ.N Γ.sc scope own = true) (pi : PI X tg iter (tI X.K (evi T P it)))
    (pg : ∀ (s : Shared) (H : Hp) (A : Addr) (cl : List (Str × Addr)) (fp : List Addr), PG (X.blk s H scope (compEnvC scope cl A X.env) fp) tg (tG X.K t))
    (pt : ∀ (s : Shared) (H : Hp) (A : Addr) (cl : List (Str × Addr)) (fp : List Addr), PTs (X.blk s H scope (compEnvC scope cl A X.env) fp) ifs (tT X.K (evt T P c)))
    (pe : ∀ (s : Shared) (H : Hp) (A : Addr) (cl : List (Str × Addr)) (fp : List Addr), PE (X.blk s H scope (compEnvC scope cl A X.env) fp) elt (tE X.K (ev T P x)))
    (h6 : t.slots.all (own.map (·.2)).contains = true) (hs : ∀ x, foldedSetIterable iter X.env x = pure x) :
    PE X (.ListComp elt [⟨tg, iter, ifs, 0⟩] scope pos) (tE X.K (ev T P (.comp x t it c (own.map (·.2))))) := by
  have ok : BlkOk X.N X.env.scope scope own := by rw [C.N, C.sc]; exact blkOk_by h1
  have pe' : ∀ (s : Shared) (H : Hp) (A : Addr) (cl : List (Str × Addr)) (fp : List Addr), PE (X.blk s H scope (compEnvC scope cl A X.env) fp) elt (tE X.K fun e => (ev T P x e).bind fun r e1 => .val (false, r.2) e1) := fun s H A cl fp => pe_set (pe s H A cl fp)
  exact (pe_lc C.calm (by rw [C.N]; exact C.nd) pi ok pg pt pe' hs).imp fun σ Hs Q h => lc_imp h6 h
end
end L2.Eng
namespace L2.Eng
open PySem PySem.Spec PyProof.Rows
/-! ## calls -/
section
variable {K : PySem.W.Frag} {e e1 e2 : Env} {σ : St} {M M1 M2 H H1 H2 : Hp}
theorem getB_map : ∀ (bs : List B) (i : Nat), getB (bs.map some) i = bs[i]?
  | [], i => by simp [getB]
  | b :: bs, 0 => by simp [getB]
  | b :: bs, i + 1 => by simp only [List.map_cons, getB, List.getElem?_cons_succ]; exact getB_map bs i
theorem Vd.cons {es : Env} {vs : St} (D0 : Vd K M es vs H) {b : B} {v : V} (hb : Bnd K M H v b) (hn : b.own = true → ∀ a, v = .ref a → ¬ Owns es vs a) : Vd K M (some b :: es) (some v :: vs) H := by
  have at_ : ∀ j a, OwnAt (some b :: es) (some v :: vs) j a → (j = 0 ∧ b.own = true ∧ v = .ref a) ∨ ∃ k, j = k + 1 ∧ OwnAt es vs k a := fun j a ⟨x, h1, h2, h3⟩ => by
    cases j with
    | zero =>
      simp only [getB] at h1
      simp only [List.getElem?_cons_zero] at h3
      cases h1
      injection h3 with h3
      injection h3 with h3
      exact .inl ⟨rfl, h2, h3⟩
    | succ k => exact .inr ⟨k, rfl, x, by simpa [getB] using h1, h2, by simpa using h3⟩
  refine ⟨D0.same, by simp [D0.len], fun j x hx => ?_, fun i j a hi hj => ?_⟩
  · cases j with
    | zero => simp only [getB] at hx; cases hx; exact ⟨v, by simp, hb⟩
    | succ k => simpa using D0.slot k x (by simpa [getB] using hx)
  · rcases at_ i a hi with ⟨rfl, h1, h2⟩ | ⟨k, rfl, h1⟩
    · rcases at_ j a hj with ⟨rfl, _, _⟩ | ⟨k, rfl, h3⟩
      · rfl
      · exact absurd ⟨k, h3⟩ (hn h1 a h2)
    · rcases at_ j a hj with ⟨rfl, h3, h4⟩ | ⟨l, rfl, h3⟩
      · exact absurd ⟨k, h1⟩ (hn h3 a h4)
      · rw [D0.inj k l a h1 h3]
theorem Vd.nil (h : Same M H) : Vd K M [] [] H := ⟨h, rfl, fun i b hb => by simp [getB] at hb, fun i j a ⟨b, hb, _⟩ => by simp [getB] at hb⟩
/-- the arguments as the callee's names hold them -/
structure Args (K : PySem.W.Frag) (M H : Hp) (e : Env) (σ : St) (io : List Bool) (ops : List Op) (vs : List V) (bs : List B) : Prop where
  lv : vs.length = io.length
  lb : bs.length = io.length
  vd : Vd K M (bs.map some) (vs.map some) H
  ow : ∀ (p : Nat) (b : B), bs[p]? = some b → b.own = true → ∃ (i : Nat) (d : D), b = B.io d ∧ ops[p]? = some (Op.sl i) ∧ i ∈ slotsOf true io ops ∧ ∃ b1, getB e i = some b1 ∧ b1.own = true
  at_ : ∀ (p : Nat) (v : V), vs[p]? = some v → ∀ i : Nat, ops[p]? = some (Op.sl i) → σ[i]? = some (some v)
theorem slots_sub {w b : Bool} {io : List Bool} {o : Op} {ops : List Op} {i : Nat} (hi : i ∈ slotsOf w io ops) : i ∈ slotsOf w (b :: io) (o :: ops) := by
  cases o with
  | v d => simpa [slotsOf] using hi
  | sl j =>
    simp only [slotsOf]
    split
    · exact List.mem_cons_of_mem _ hi
    · exact hi
theorem slots_nd {w b : Bool} {io : List Bool} {o : Op} {ops : List Op} (nd : (slotsOf w (b :: io) (o :: ops)).Nodup) : (slotsOf w io ops).Nodup := by
  cases o with
  | v d => simpa [slotsOf] using nd
  | sl i =>
    simp only [slotsOf] at nd
    split at nd
    · exact (List.nodup_cons.mp nd).2
    · exact nd
theorem Args.sh {io : List Bool} {ops : List Op} {vs : List V} {bs : List B} (A : Args K M H e σ io ops vs bs) {o : Op} {v : V} {d : D} (r : OpdR K M σ v o) (rp : Rep K M v d) : Args K M H e σ (false :: io) (o :: ops) (v :: vs) (.sh d :: bs) where
  lv := by simp [A.lv]
  lb := by simp [A.lb]
  vd := A.vd.cons (b := .sh d) rp (fun z => by cases z)
  ow := fun p b q w => by
    cases p with
    | zero => simp at q; subst q; cases w
    | succ p =>
      obtain ⟨i, d, q1, q2, q3, q4⟩ := A.ow p b (by simpa using q) w
      exact ⟨i, d, q1, by simpa using q2, slots_sub q3, q4⟩
  at_ := fun p v' q i hi => by
    cases p with
    | zero => simp at q hi; subst q; subst hi; exact r
    | succ p => exact A.at_ p v' (by simpa using q) i (by simpa using hi)
theorem Args.io_ {io : List Bool} {ops : List Op} {vs : List V} {bs : List B} (D0 : Vd K M e σ H) (A : Args K M H e σ io ops vs bs) {i : Nat} {v : V} {b1 : B} (hi : σ[i]? = some (some v)) (hg : getB e i = some b1) (hw : b1.own = true) (nin : i ∉ slotsOf true io ops) :
    Args K M H e σ (true :: io) (.sl i :: ops) (v :: vs) (.io b1.dat :: bs) := by
  obtain ⟨v', q1, q2⟩ := D0.slot i b1 hg
  rw [hi] at q1
  cases q1
  have q3 : ∃ a, v = .ref a ∧ Own K M H a b1.dat := by
    cases b1 with
    | sh d => cases hw
    | ow d' => exact q2
    | io d' => exact q2
  obtain ⟨a, rfl, oo⟩ := q3
  refine ⟨by simp [A.lv], by simp [A.lb], A.vd.cons (b := .io b1.dat) ⟨a, rfl, oo⟩ (fun _ c ec ⟨p, x, w1, w2, w3⟩ => ?_), fun p b q w => ?_, fun p v' q i' hi' => ?_⟩
  · cases ec
    rw [getB_map] at w1
    obtain ⟨i', d', z1, z2, z3, b2, z4, z5⟩ := A.ow p x w1 w2
    have : vs[p]? = some (.ref a) := by
      rw [List.getElem?_map] at w3
      cases q : vs[p]? with
      | none => rw [q] at w3; cases w3
      | some u => rw [q] at w3; simp at w3; rw [w3]
    have z6 := A.at_ p _ this i' z2
    have : i = i' := D0.inj i i' a ⟨b1, hg, hw, hi⟩ ⟨b2, z4, z5, z6⟩
    subst this
    exact nin z3
  · cases p with
    | zero =>
      simp at q
      subst q
      exact ⟨i, _, rfl, by simp, by simp [slotsOf], b1, hg, hw⟩
    | succ p =>
      obtain ⟨i', d, q1, q2, q3, q4⟩ := A.ow p b (by simpa using q) w
      exact ⟨i', d, q1, by simpa using q2, slots_sub q3, q4⟩
  · cases p with
    | zero => simp at q hi'; subst q; subst hi'; exact hi
    | succ p => exact A.at_ p v' (by simpa using q) i' (by simpa using hi')
theorem args_vd (D0 : Vd K M e σ H) : ∀ {io : List Bool} {ops : List Op} {vs : List V} {bs : List B}, OpdRs K M σ vs ops → callArgs e io ops = some bs → (slotsOf true io ops).Nodup →
    (∀ (o : Op) (v : V) (d : D), o ∈ ops → (∀ i, o = .sl i → i ∈ slotsOf false io ops) → OpdR K M σ v o → pk e o = some d → Rep K M v d) → Args K M H e σ io ops vs bs
  | [], [], vs, bs, r, h, nd, st => by
    cases r
    simp only [callArgs] at h
    cases h
    exact ⟨rfl, rfl, Vd.nil D0.same, fun p b h => by simp at h, fun p v h => by simp at h⟩
  | b :: io, o :: ops, vs, bs, r, h, nd, st => by
    cases r with
    | @cons v vs _ _ r1 r2 =>
      simp only [callArgs] at h
      cases hb : callArgs e io ops with
      | none => rw [hb] at h; cases h
      | some bs' =>
        rw [hb] at h
        have A := args_vd D0 r2 hb (slots_nd nd) (fun o' v' d' ho' hi' => st o' v' d' (List.mem_cons_of_mem _ ho') fun i e => slots_sub (hi' i e))
        cases b with
        | false =>
          simp only [Bool.false_eq_true, if_false] at h
          cases hp : pk e o with
          | none => rw [hp] at h; cases h
          | some d =>
            rw [hp] at h
            cases h
            exact A.sh r1 (st o v d (by simp) (fun i e => by subst e; simp [slotsOf]) r1 hp)
        | true =>
          simp only [if_true] at h
          cases o with
          | v d => cases h
          | sl i =>
            have nin : i ∉ slotsOf true io ops := by
              simp only [slotsOf] at nd
              exact (List.nodup_cons.mp nd).1
            cases hg : getB e i with
            | none => simp only [hg] at h; cases h
            | some b1 =>
              simp only [hg] at h
              cases b1 with
              | sh d => cases h
              | ow d => cases h; exact A.io_ D0 (b1 := .ow d) r1 hg rfl nin
              | io d => cases h; exact A.io_ D0 (b1 := .io d) r1 hg rfl nin
  | [], _ :: _, _, _, _, h, _, _ => by simp [callArgs] at h
  | _ :: _, [], _, _, _, h, _, _ => by simp [callArgs] at h
/-- the lent things as they come back -/
structure Back (e1 e2 : Env) (io : List Bool) (ops : List Op) (outs : List B) : Prop where
  len : e2.length = e1.length
  at_ : ∀ (j : Nat) (b2 : B), getB e2 j = some b2 → (j ∉ slotsOf true io ops ∧ getB e1 j = some b2) ∨
    (j ∈ slotsOf true io ops ∧ ∃ b1 : B, getB e1 j = some b1 ∧ b1.own = true ∧ b2.own = true ∧ (∀ d, b2 = B.io d → ∃ d0, b1 = B.io d0) ∧ ∃ p : Nat, outs[p]? = some (B.io b2.dat) ∧ ops[p]? = some (Op.sl j))
theorem back_ok : ∀ {io : List Bool} {ops : List Op} {outs : List B} {e2 : Env}, backIn e io ops outs = some e2 → (slotsOf true io ops).Nodup → Back e e2 io ops outs
  | [], [], [], e2, h, nd => by
    simp only [backIn] at h
    cases h
    exact ⟨rfl, fun j b2 h => .inl ⟨by simp [slotsOf], h⟩⟩
  | b :: io, o :: ops, x :: outs, e2, h, nd => by
    simp only [backIn] at h
    cases hb : backIn e io ops outs with
    | none => rw [hb] at h; cases h
    | some e1 =>
      rw [hb] at h
      have A := back_ok hb (slots_nd nd)
      cases b with
      | false =>
        simp only [Bool.false_eq_true, if_false] at h
        cases h
        have es : slotsOf true (false :: io) (o :: ops) = slotsOf true io ops := by cases o <;> simp [slotsOf]
        refine ⟨A.len, fun j b2 hj => ?_⟩
        rw [es]
        rcases A.at_ j b2 hj with z | ⟨z1, b1, z2, z3, z4, z5, p, z6, z7⟩
        · exact .inl z
        · exact .inr ⟨z1, b1, z2, z3, z4, z5, p + 1, by simpa using z6, by simpa using z7⟩
      | true =>
        simp only [if_true] at h
        cases o with
        | v d => cases x <;> cases h
        | sl i =>
          have nin : i ∉ slotsOf true io ops := by
            simp only [slotsOf] at nd
            exact (List.nodup_cons.mp nd).1
          have es : slotsOf true (true :: io) (.sl i :: ops) = i :: slotsOf true io ops := by simp [slotsOf]
          cases x with
          | sh d => cases h
          | ow d => cases h
          | io d =>
            have fin : ∀ (b1 b2 : B), getB e1 i = some b1 → b1.own = true → b2.own = true → b2.dat = d → (∀ d, b2 = .io d → ∃ d0, b1 = .io d0) → e2 = setB e1 i (some b2) → Back e e2 (true :: io) (.sl i :: ops) (.io d :: outs) := fun b1 b2 hg w1 w2 hd hio he => by
              subst he
              have g0 : getB e i = some b1 := by
                rcases A.at_ i b1 hg with z | ⟨z, _⟩
                · exact z.2
                · exact absurd z nin
              refine ⟨by rw [setB_length]; exact A.len, fun j b3 hj => ?_⟩
              rw [es]
              by_cases hji : j = i
              · subst hji
                rw [getB_setB_same (getB_lt hg)] at hj
                cases hj
                exact .inr ⟨by simp, b1, g0, w1, w2, hio, 0, by simp [hd], by simp⟩
              · rw [getB_setB_ne hji] at hj
                rcases A.at_ j b3 hj with ⟨z1, z2⟩ | ⟨z1, b4, z2, z3, z4, z5, p, z6, z7⟩
                · exact .inl ⟨by simp [hji, z1], z2⟩
                · exact .inr ⟨by simp [z1], b4, z2, z3, z4, z5, p + 1, by simpa using z6, by simpa using z7⟩
            cases hg : getB e1 i with
            | none => simp only [hg] at h; cases h
            | some b1 =>
              simp only [hg] at h
              cases b1 with
              | sh d' => cases h
              | ow d' => cases h; exact fin (.ow d') (.ow d) hg rfl rfl rfl (fun _ z => by cases z) rfl
              | io d' => cases h; exact fin (.io d') (.io d) hg rfl rfl rfl (fun _ _ => ⟨_, rfl⟩) rfl
  | [], [], _ :: _, _, h, _ => by simp [backIn] at h
  | [], _ :: _, _, _, h, _ => by simp [backIn] at h
  | _ :: _, [], _, _, h, _ => by simp [backIn] at h
  | _ :: _, _ :: _, [], _, h, _ => by simp [backIn] at h
/-- what is kept stands still from now on -/
theorem frz_ok : ∀ {io : List Bool} {ops : List Op} {vs : List V} {e : Env} {M : Hp}, Vd K M e σ H → OpdRs K M σ vs ops → frzIn io ops e = some e1 →
    ∃ M1, Vd K M1 e1 σ H ∧ Stp e σ M H e1 σ M1 H ∧ (∀ i d, getB e i = some (.sh d) → getB e1 i = some (.sh d)) ∧ (∀ i, i ∈ slotsOf false io ops → ∃ d, getB e1 i = some (.sh d))
  | [], [], vs, e, M, D0, r, h => by
    simp only [frzIn] at h
    cases h
    exact ⟨M, D0, Stp.refl, fun _ _ h => h, fun i h => by simp [slotsOf] at h⟩
  | b :: io, o :: ops, vs, e, M, D0, r, h => by
    cases r with
    | cons r1 r2 =>
      simp only [frzIn] at h
      cases b with
      | true =>
        simp only [if_true] at h
        obtain ⟨M1, D1, S1, k1, k2⟩ := frz_ok D0 r2 h
        refine ⟨M1, D1, S1, k1, fun i hi => k2 i ?_⟩
        cases o <;> simpa [slotsOf] using hi
      | false =>
        simp only [Bool.false_eq_true, if_false] at h
        cases ht : tk e o with
        | none => rw [ht] at h; cases h
        | some p =>
          obtain ⟨d, e2⟩ := p
          rw [ht] at h
          have h : frzIn io ops e2 = some e1 := h
          obtain ⟨M1, D1, S1, rp⟩ := D0.take r1 ht
          obtain ⟨M2, D2, S2, k1, k2⟩ := frz_ok D1 (r2.mono S1.same) h
          have keep : ∀ i d, getB e i = some (.sh d) → getB e2 i = some (.sh d) := fun i d' hi => by
            cases o with
            | v _ => simp [tk] at ht; rw [← ht.2]; exact hi
            | sl j =>
              simp only [tk] at ht
              split at ht
              · cases ht; exact hi
              · rename_i d'' hj
                cases ht
                by_cases hij : i = j
                · subst hij; rw [hi] at hj; cases hj
                · rw [getB_setB_ne hij]; exact hi
              · cases ht
          refine ⟨M2, D2, S1.trans S2, fun i d' hi => k1 i d' (keep i d' hi), fun i hi => ?_⟩
          cases o with
          | v _ => exact k2 i (by simpa [slotsOf] using hi)
          | sl j =>
            simp only [slotsOf] at hi
            rcases List.mem_cons.mp (by simpa using hi) with rfl | hi
            · simp only [tk] at ht
              split at ht
              · rename_i d'' hj
                cases ht
                exact ⟨_, k1 _ _ hj⟩
              · rename_i d'' hj
                cases ht
                exact ⟨_, k1 _ _ (getB_setB_same (getB_lt hj))⟩
              · cases ht
            · exact k2 i hi
  | [], _ :: _, _, _, _, _, _, h => by simp [frzIn] at h
  | _ :: _, [], _, _, _, _, _, h => by simp [frzIn] at h
end
section
variable {K : PySem.W.Frag} {e e' e1 : Env} {σ : St} {M M1 H H1 : Hp} {T : List Fn} {P : Nat → List B → CA} {f : Nat} {fn : Fn}
theorem callArgs_len : ∀ {io : List Bool} {ops : List Op} {bs : List B}, callArgs e io ops = some bs → ops.length = io.length
  | [], [], _, _ => rfl
  | b :: io, o :: ops, bs, h => by
    simp only [callArgs] at h
    cases hb : callArgs e io ops with
    | none => rw [hb] at h; cases h
    | some bs' => simp [callArgs_len hb]
  | [], _ :: _, _, h => by simp [callArgs] at h
  | _ :: _, [], _, h => by simp [callArgs] at h
theorem slots_none : ∀ {io : List Bool} {ops : List Op}, io.all (!·) = true → slotsOf true io ops = []
  | [], [], _ => rfl
  | [], _ :: _, _ => rfl
  | _ :: _, [], _ => rfl
  | b :: io, o :: ops, h => by
    simp only [List.all_cons, Bool.and_eq_true, Bool.not_eq_true'] at h
    obtain ⟨rfl, h⟩ := h
    have : io.all (!·) = true := h
    cases o <;> simp [slotsOf, slots_none this]
theorem tk_pk {o : Op} {d : D} (h : tk e o = some (d, e1)) (o' : Op) : pk e1 o' = pk e o' := by
  cases o with
  | v _ => simp [tk] at h; rw [h.2]
  | sl j =>
    simp only [tk] at h
    split at h
    · cases h; rfl
    · rename_i d'' hj
      cases h
      cases o' with
      | v _ => rfl
      | sl i =>
        simp only [pk]
        by_cases hij : i = j
        · subst hij; rw [getB_setB_same (getB_lt hj), hj]; rfl
        · rw [getB_setB_ne hij]
    · cases h
theorem frz_pk : ∀ {io : List Bool} {ops : List Op} {e : Env}, frzIn io ops e = some e1 → ∀ o', pk e1 o' = pk e o'
  | [], [], e, h, o' => by simp only [frzIn] at h; cases h; rfl
  | b :: io, o :: ops, e, h, o' => by
    simp only [frzIn] at h
    cases b with
    | true => simp only [if_true] at h; exact frz_pk h o'
    | false =>
      simp only [Bool.false_eq_true, if_false] at h
      cases ht : tk e o with
      | none => rw [ht] at h; cases h
      | some p =>
        obtain ⟨d, e2⟩ := p
        rw [ht] at h
        have h : frzIn io ops e2 = some e1 := h
        rw [frz_pk h o', tk_pk ht o']
  | [], _ :: _, _, h, _ => by simp [frzIn] at h
  | _ :: _, [], _, h, _ => by simp [frzIn] at h
theorem callArgs_pk (k : ∀ o, pk e1 o = pk e o) : ∀ {io : List Bool} {ops : List Op}, io.all (!·) = true → callArgs e1 io ops = callArgs e io ops
  | [], [], _ => rfl
  | [], _ :: _, _ => rfl
  | _ :: _, [], _ => rfl
  | b :: io, o :: ops, h => by
    simp only [List.all_cons, Bool.and_eq_true, Bool.not_eq_true'] at h
    obtain ⟨rfl, h⟩ := h
    have ih : callArgs e1 io ops = callArgs e io ops := callArgs_pk k (h : io.all (!·) = true)
    simp only [callArgs, ih, k o, Bool.false_eq_true, if_false]
theorem no_owns {bs : List B} {vs : St} (h : ∀ (p : Nat) (b : B), bs[p]? = some b → b.own = true → False) (a : Addr) : ¬ Owns (bs.map some) vs a := fun ⟨p, b, h1, h2, _⟩ => by
  rw [getB_map] at h1
  exact h p b h1 h2
theorem call_run (D0 : Vd K M e σ H) {vs : List V} {ops : List Op} (r : OpdRs K M σ vs ops) (hT : T[f]? = some fn) (hio : fn.io.length = fn.np) {res : Bool × D} (h : doCall T P f ops e = .val res e') {Q : VK} {E : XK}
    (q : ∀ v M' H', Vd K M' e' σ H' → Stp e σ M H e' σ M' H' → Res K e' σ H M' H' v res → Q v H') : SpF K P f fn.np vs H Q E := by
  unfold doCall at h
  rw [hT] at h
  simp only at h
  split at h
  · rename_i hall
    split at h
    · cases h
    · rename_i bs hbs
      split at h
      · cases h
      · rename_i fr d outs hP
        have nd : (slotsOf true fn.io ops).Nodup := by rw [slots_none hall]; exact List.nodup_nil
        split at h
        · rename_i hfl
          cases h
          -- lent for the call: everything of ours stands still meanwhile
          have DH : Vd K H (List.replicate e.length none) σ H := ⟨Same.refl H, by simp [D0.len], fun i b hb => (by
              exfalso
              have : ∀ n i, getB (List.replicate n none) i = none := fun n => by
                induction n with
                | zero => intro i; rfl
                | succ n ih => intro i; cases i with | zero => rfl | succ i => simpa [List.replicate_succ, getB] using ih i
              rw [this] at hb; cases hb), fun i j a ⟨b, hb, _⟩ => (by
              exfalso
              have : ∀ n i, getB (List.replicate n none) i = none := fun n => by
                induction n with
                | zero => intro i; rfl
                | succ n ih => intro i; cases i with | zero => rfl | succ i => simpa [List.replicate_succ, getB] using ih i
              rw [this] at hb; cases hb)⟩
          have go : ∀ {io : List Bool} {ops : List Op} {vs : List V} {bs : List B}, OpdRs K M σ vs ops → callArgs e io ops = some bs → io.all (!·) = true → Args K H H (List.replicate e.length none) σ io ops vs bs := by
            intro io
            induction io with
            | nil =>
              intro ops vs bs r hb _
              cases ops with
              | nil =>
                cases r
                simp only [callArgs] at hb
                cases hb
                exact ⟨rfl, rfl, Vd.nil (Same.refl H), fun p b h => by simp at h, fun p v h => by simp at h⟩
              | cons o ops => simp [callArgs] at hb
            | cons b io ih =>
              intro ops vs bs r hb ha
              cases ops with
              | nil => simp [callArgs] at hb
              | cons o ops =>
                cases r with
                | @cons v vs _ _ r1 r2 =>
                  simp only [List.all_cons, Bool.and_eq_true, Bool.not_eq_true'] at ha
                  obtain ⟨rfl, ha⟩ := ha
                  simp only [callArgs, Bool.false_eq_true, if_false] at hb
                  cases hb' : callArgs e io ops with
                  | none => rw [hb'] at hb; cases hb
                  | some bs' =>
                    rw [hb'] at hb
                    cases hp : pk e o with
                    | none => rw [hp] at hb; cases hb
                    | some d =>
                      rw [hp] at hb
                      cases hb
                      have rp := (D0.peek r1 hp).rep D0.same
                      have r1' : OpdR K H σ v o := by
                        cases o with
                        | sl i => exact r1
                        | v d => exact Rep.mono D0.same r1
                      exact (ih r2 hb' ha).sh r1' rp
          have A := go r hbs hall
          have noow : ∀ a, ¬ Owns (bs.map some) (vs.map some) a := no_owns fun p b h1 h2 => by
            obtain ⟨i, _, _, _, hi, _⟩ := A.ow p b h1 h2
            rw [slots_none hall] at hi
            cases hi
          refine ⟨by rw [A.lv]; exact hio, H, bs, fr, d, outs, A.vd, hP, fun v M' H' DV SV rs => ?_⟩
          have rp : Rep K M v d := by
            obtain ⟨M2, _, _, r2⟩ := DV.settle rs
            exact r2.flat hfl M
          have kp : ∀ b o, H b = some o → H' b = some o := fun b o hb => SV.keep b o hb (noow b)
          exact q v M H' (D0.grow (Same.refl M) (D0.same.trans (SV.same.trans DV.same)) kp (fun b o z n => by rw [n] at z; cases z)) (Stp.grow (Same.refl M) kp (fun b o z n => by rw [n] at z; cases z)) (Res.still rp)
        · split at h
          · cases h
          · rename_i e1 hf
            cases h
            obtain ⟨M1, D1, S1, k1, k2⟩ := frz_ok D0 r hf
            have hbs1 : callArgs e' fn.io ops = some bs := by rw [callArgs_pk (frz_pk hf) hall]; exact hbs
            have A := args_vd D1 (r.mono S1.same) hbs1 nd (fun o v d ho hi hr hp => by
              rcases D1.peek hr hp with z | ⟨a, rfl, oo⟩
              · exact z
              · exfalso
                cases o with
                | v d' =>
                  simp [pk] at hp
                  subst hp
                  have := Rep.mono D1.same hr
                  have n := oo.no
                  have hr' : Rep K M1 (.ref a) d' := hr
                  cases oo with
                  | lst _ _ _ => cases hr' with | lst z _ => rw [n] at z; cases z
                  | dct _ _ _ => cases hr' with | dct z _ => rw [n] at z; cases z
                | sl i =>
                  obtain ⟨d2, hd2⟩ := k2 i (hi i rfl)
                  obtain ⟨w, z1, z2⟩ := D1.slot i _ hd2
                  have z3 : σ[i]? = some (some (.ref a)) := hr
                  rw [z1] at z3
                  injection z3 with z3
                  injection z3 with z3
                  subst z3
                  have n := oo.no
                  have z2 : Rep K M1 (.ref a) d2 := z2
                  simp only [pk, hd2] at hp
                  have hp := Option.some.inj hp
                  have hp : d2 = d := hp
                  subst hp
                  cases oo with
                  | lst _ _ _ => cases z2 with | lst z _ => rw [n] at z; cases z
                  | dct _ _ _ => cases z2 with | dct z _ => rw [n] at z; cases z)
            have noow : ∀ a, ¬ Owns (bs.map some) (vs.map some) a := no_owns fun p b h1 h2 => by
              obtain ⟨i, _, _, _, hi, _⟩ := A.ow p b h1 h2
              rw [slots_none hall] at hi
              cases hi
            refine ⟨by rw [A.lv]; exact hio, M1, bs, fr, d, outs, A.vd, hP, fun v M' H' DV SV rs => ?_⟩
            have kp : ∀ b o, H b = some o → H' b = some o := fun b o hb => SV.keep b o hb (noow b)
            have nw : ∀ b o, M' b = some o → M1 b = none → H b = none := fun b o z n => (SV.new b o z n).elim id fun w => absurd w (noow b)
            have D2 := D1.grow SV.same DV.same kp nw
            refine q v M' H' D2 (S1.trans (Stp.grow SV.same kp nw)) ?_
            unfold Res at rs ⊢
            split at rs
            · rename_i hfr
              rw [if_pos hfr]
              obtain ⟨a, rfl, ha, _, o⟩ := rs
              exact ⟨a, rfl, ha, fun w => (by obtain ⟨_, u, hu⟩ := D1.owns w; rw [ha] at hu; cases hu), o⟩
            · rename_i hfr
              rw [if_neg hfr]
              exact rs
  · split at h
    · rename_i hok
      unfold okSlots at hok
      rw [Bool.and_eq_true, decide_eq_true_eq] at hok
      obtain ⟨nd, _⟩ := hok
      split at h
      · cases h
      · rename_i e1 hf
        split at h
        · cases h
        · rename_i bs hbs
          split at h
          · cases h
          · rename_i fr d outs hP
            split at h
            · cases h
            · rename_i e2 hb
              cases h
              obtain ⟨M1, D1, S1, k1, k2⟩ := frz_ok D0 r hf
              have A := args_vd D1 (r.mono S1.same) hbs nd (fun o v d ho hi hr hp => by
                rcases D1.peek hr hp with z | ⟨a, rfl, oo⟩
                · exact z
                · exfalso
                  cases o with
                  | v d' =>
                    simp [pk] at hp
                    subst hp
                    have n := oo.no
                    have hr' : Rep K M1 (.ref a) d' := hr
                    cases oo with
                    | lst _ _ _ => cases hr' with | lst z _ => rw [n] at z; cases z
                    | dct _ _ _ => cases hr' with | dct z _ => rw [n] at z; cases z
                  | sl i =>
                    obtain ⟨d2, hd2⟩ := k2 i (hi i rfl)
                    obtain ⟨w, z1, z2⟩ := D1.slot i _ hd2
                    have z3 : σ[i]? = some (some (.ref a)) := hr
                    rw [z1] at z3
                    injection z3 with z3
                    injection z3 with z3
                    subst z3
                    have n := oo.no
                    have z2 : Rep K M1 (.ref a) d2 := z2
                    simp only [pk, hd2] at hp
                    have hp := Option.some.inj hp
                    have hp : d2 = d := hp
                    subst hp
                    cases oo with
                    | lst _ _ _ => cases z2 with | lst z _ => rw [n] at z; cases z
                    | dct _ _ _ => cases z2 with | dct z _ => rw [n] at z; cases z)
              have Bk := back_ok hb nd
              refine ⟨by rw [A.lv]; exact hio, M1, bs, fr, d, outs, A.vd, hP, fun v M' H' DV SV rs => ?_⟩
              -- an own thing of the callee is one of ours
              have ours : ∀ a, Owns (bs.map some) (vs.map some) a → ∃ i ∈ slotsOf true fn.io ops, OwnAt e1 σ i a := fun a ⟨p, b, h1, h2, h3⟩ => by
                rw [getB_map] at h1
                obtain ⟨i, d', z1, z2, z3, b2, z4, z5⟩ := A.ow p b h1 h2
                have : vs[p]? = some (.ref a) := by
                  rw [List.getElem?_map] at h3
                  cases q : vs[p]? with
                  | none => rw [q] at h3; cases h3
                  | some u => rw [q] at h3; simp at h3; rw [h3]
                exact ⟨i, z3, b2, z4, z5, A.at_ p _ this i z2⟩
              have own2 : ∀ j a, OwnAt e' σ j a → OwnAt e1 σ j a := fun j a ⟨b2, h1, h2, h3⟩ => by
                rcases Bk.at_ j b2 h1 with ⟨_, z⟩ | ⟨_, b1, z1, z2, _⟩
                · exact ⟨b2, z, h2, h3⟩
                · exact ⟨b1, z1, z2, h3⟩
              have D2 : Vd K M' e' σ H' := by
                refine ⟨DV.same, by rw [Bk.len]; exact D1.len, fun j b2 hj => ?_, fun i j a hi hj => D1.inj i j a (own2 i a hi) (own2 j a hj)⟩
                rcases Bk.at_ j b2 hj with ⟨z1, z2⟩ | ⟨z1, b1, z2, z3, z4, z5, p, z6, z7⟩
                · obtain ⟨w, h1, h2⟩ := D1.slot j b2 z2
                  refine ⟨w, h1, h2.mono SV.same fun a ea ow => ?_⟩
                  subst ea
                  have no : ¬ Owns (bs.map some) (vs.map some) a := fun w => by
                    obtain ⟨i, hi, hw⟩ := ours a w
                    have := D1.inj i j a hw ⟨b2, z2, ow, h1⟩
                    subst this
                    exact z1 hi
                  obtain ⟨hm, o, ho⟩ := D1.owns ⟨j, b2, z2, ow, h1⟩
                  refine ⟨?_, (SV.keep a o ho no).trans ho.symm⟩
                  cases y : M' a with
                  | none => rfl
                  | some u =>
                    rcases SV.new a u y hm with x | x
                    · rw [ho] at x; cases x
                    · exact absurd x no
                · obtain ⟨w, h1, h2⟩ := DV.slot p (.io b2.dat) (by rw [getB_map]; exact z6)
                  have hw : vs[p]? = some w := by
                    rw [List.getElem?_map] at h1
                    cases y : vs[p]? with
                    | none => rw [y] at h1; cases h1
                    | some u => rw [y] at h1; simp at h1; rw [h1]
                  refine ⟨w, A.at_ p w hw j z7, ?_⟩
                  cases b2 with
                  | sh d => cases z4
                  | ow d => exact h2
                  | io d => exact h2
              have S2 : Stp e1 σ M1 H e' σ M' H' := by
                refine ⟨SV.same, fun b o hb n => SV.keep b o hb fun w => ?_, fun b o z n => (SV.new b o z n).imp id fun w => ?_, fun b ⟨j, hj⟩ => .inl ⟨j, own2 j b hj⟩, SV.there, fun j d hj => ⟨?_, rfl⟩⟩
                · obtain ⟨i, _, hw⟩ := ours b w
                  exact n ⟨i, hw⟩
                · obtain ⟨i, _, hw⟩ := ours b w
                  exact ⟨i, hw⟩
                · rcases Bk.at_ j _ hj with ⟨_, z⟩ | ⟨_, b1, z1, _, _, z5, _⟩
                  · exact ⟨d, z⟩
                  · obtain ⟨d0, rfl⟩ := z5 d rfl
                    exact ⟨d0, z1⟩
              refine q v M' H' D2 (S1.trans S2) ?_
              unfold Res at rs ⊢
              split at rs
              · rename_i hfr
                rw [if_pos hfr]
                obtain ⟨a, rfl, ha, _, o⟩ := rs
                refine ⟨a, rfl, ha, fun ⟨j, w⟩ => ?_, o⟩
                obtain ⟨_, u, hu⟩ := D1.owns ⟨j, own2 j a w⟩
                rw [ha] at hu; cases hu
              · rename_i hfr
                rw [if_neg hfr]
                exact rs
    · cases h
end
end L2.Eng
namespace L2.Eng
open PySem PySem.Spec PyProof.Rows
section
variable {T : List Fn} {P : Nat → List B → CA} {Γ : Gam} {X : Cx}
theorem opt_eq {α : Type} {o : Option α} {e e2 : Env} {a : α} (h : opt o e = .val a e2) : o = some a ∧ e2 = e := by
  cases o with
  | none => cases h
  | some z => cases h; exact ⟨rfl, rfl⟩
theorem x_cst {e : Expr} {v : V} {d : D} (p : PE X e (tC v)) (r : ∀ M, Rep X.K M v d) : PE X e (tE X.K (ev T P (.cst d))) :=
  p.imp fun σ H Q ⟨M, e, D0, w⟩ => val_wp w v M H D0 Stp.refl (Res.still (r M))
theorem x_var (C : Cok T P Γ X) {x : Str} {pos : Pos} {i : Nat} (h1 : Γ.N[i]? = some x) (h2 : visB Γ.sc x = true) (h3 : nodbg x = true) : PE X (.Name x pos) (tE X.K (ev T P (.var i))) := by
  obtain ⟨d1, d2⟩ := nodbg_of h3
  refine (pe_var (i := i) (by rw [C.N]; exact h1) (visB_vis C h2) d1 d2).imp fun σ H Q ⟨M, e, D0, w⟩ => ?_
  simp only [ev] at w
  split at w
  · rename_i d e1 ht
    have w := val_wp w
    have hs : ∃ b, getB e i = some b := by
      simp only [tk] at ht
      split at ht
      · exact ⟨_, by assumption⟩
      · exact ⟨_, by assumption⟩
      · cases ht
    obtain ⟨b, hb⟩ := hs
    obtain ⟨v, h4, _⟩ := D0.slot i b hb
    obtain ⟨M1, D1, S1, r1⟩ := D0.take (o := .sl i) (v := v) h4 ht
    exact ⟨v, h4, w v M1 H D1 S1 (Res.still r1)⟩
  · exact (stuck_wp w).elim
theorem x_bty (C : Cok T P Γ X) {n : String} {pos : Pos} (h1 : tyNames.contains n = true) (h2 : gloB Γ.sc n = true) : PE X (.Name n pos) (tE X.K (ev T P (.cst (.ty n)))) := by
  have hm : n ∈ tyNames := by simpa using h1
  have hb : bootBuiltins n = some (.type n) := by
    simp only [tyNames, List.mem_cons, List.not_mem_nil, or_false] at hm
    rcases hm with rfl | rfl | rfl | rfl | rfl <;> decide +kernel
  have hn : bltNames.contains (n : Str) = true := by
    simp only [tyNames, List.mem_cons, List.not_mem_nil, or_false] at hm
    rcases hm with rfl | rfl | rfl | rfl | rfl <;> decide +kernel
  have h3 : ((n : Str) ≠ ("__name__" : Str)) ∧ ((n : Str) == ("__debug__" : Str)) = false := by
    simp only [tyNames, List.mem_cons, List.not_mem_nil, or_false] at hm
    rcases hm with rfl | rfl | rfl | rfl | rfl <;> decide +kernel
  exact x_cst (pe_bltn (v := .ty n) (gloB_gl C h2) (blt_none C hn) hb rfl h3.1 h3.2) fun M => .ty n
theorem x_tup {es : List Expr} {k : Nat} {pos : Pos} {xs : Exs} (p : PA X es (tOs X.K (evs T P xs))) : PE X (.Tuple es k pos) (tE X.K (ev T P (.tup xs))) := by
  refine (pe_tup p).imp fun σ H Q ⟨M, e, D0, w⟩ => ?_
  simp only [ev] at w
  obtain ⟨ops, e1, hx, w1⟩ := Ans.wp_bind w
  refine ⟨M, e, D0, ops, e1, hx, fun vs M1 H1 D1 S1 r1 => ?_⟩
  split at w1
  · rename_i ds e2 ht
    split at w1
    · rename_i hf
      have w2 := val_wp w1
      obtain ⟨M2, D2, S2, r2⟩ := D1.takes r1 ht
      refine ⟨by rw [r2.length]; exact fit_le (of_decide_eq_true hf), fun p hp => ?_⟩
      have pu := Pur.lay (o := .tup vs) D2.same hp
      exact w2 _ _ _ (pu.vd D2) ((S1.trans S2).trans pu.stp) (((ResO.newT D2.same hp r2).res D2).back (S1.trans S2))
    · exact (stuck_wp w1).elim
  · exact (stuck_wp w1).elim
theorem x_lst {es : List Expr} {pos : Pos} {xs : Exs} (p : PA X es (tOs X.K (evs T P xs))) : PE X (.List es pos) (tE X.K (ev T P (.lst xs))) := by
  refine (pe_lst p).imp fun σ H Q ⟨M, e, D0, w⟩ => ?_
  simp only [ev] at w
  obtain ⟨ops, e1, hx, w1⟩ := Ans.wp_bind w
  refine ⟨M, e, D0, ops, e1, hx, fun vs M1 H1 D1 S1 r1 => ?_⟩
  split at w1
  · rename_i ds e2 ht
    split at w1
    · rename_i hf
      have w2 := val_wp w1
      obtain ⟨M2, D2, S2, r2⟩ := D1.takes r1 ht
      refine ⟨by rw [r2.length]; exact fit_le (of_decide_eq_true hf), fun p hp => ?_⟩
      have pu := Pur.own (o := .lst vs) D2.same hp
      exact w2 _ _ _ (pu.vd D2) ((S1.trans S2).trans pu.stp) (((ResO.newL D2.same hp r2).res D2).back (S1.trans S2))
    · exact (stuck_wp w1).elim
  · exact (stuck_wp w1).elim
theorem x_bin {o : Operator} {a b : Expr} {pos : Pos} {x y : Ex} (p1 : PE X a (tO X.K (opd x (ev T P x)))) (p2 : PE X b (tO X.K (opd y (ev T P y)))) : PE X (.BinOp a o b pos) (tE X.K (ev T P (.bin o x y))) := by
  refine (pe_op (opr_bin o) p1 p2).imp fun σ H Q ⟨M, e, D0, w⟩ => ?_
  simp only [ev] at w
  obtain ⟨ox, e1, hx, w1⟩ := Ans.wp_bind w
  obtain ⟨oy, e2, hy, w2⟩ := Ans.wp_bind w1
  refine ⟨M, e, D0, ox, e1, hx, fun v M1 H1 D1 S1 r1 => ⟨M1, e1, D1, oy, e2, hy, fun u M2 H2 D2 S2 r2 => ?_⟩⟩
  split at w2
  · rename_i dx dy px py
    obtain ⟨r, hr, w3⟩ := opt_wp w2
    exact ⟨M2, dx, dy, r, D2.same, D2.peek (r1.mono S2.same) px, D2.peek r2 py, hr, fun v M' H' pu ro => w3 v M' H' (pu.vd D2) ((S1.trans S2).trans pu.stp) ((ro.res D2).back (S1.trans S2))⟩
  · exact (stuck_wp w2).elim
theorem x_un {o : UnaryOp} {a : Expr} {pos : Pos} {x : Ex} (p1 : PE X a (tO X.K (opd x (ev T P x)))) : PE X (.UnaryOp o a pos) (tE X.K (ev T P (.un o x))) := by
  refine (pe_un (unr_un o) p1).imp fun σ H Q ⟨M, e, D0, w⟩ => ?_
  simp only [ev] at w
  obtain ⟨ox, e1, hx, w1⟩ := Ans.wp_bind w
  refine ⟨M, e, D0, ox, e1, hx, fun v M1 H1 D1 S1 r1 => ?_⟩
  split at w1
  · rename_i dx px
    obtain ⟨d, e2, hr, w3⟩ := Ans.wp_bind w1
    have w3 := val_wp w3
    obtain ⟨hz, rfl⟩ := opt_eq hr
    exact ⟨M1, dx, (false, d), D1.same, D1.peek r1 px, by show Option.map _ (unD o dx) = _; rw [hz]; rfl, fun v M' H' pu ro => w3 v M' H' (pu.vd D1) (S1.trans pu.stp) ((ro.res D1).back S1)⟩
  · exact (stuck_wp w1).elim
theorem x_nt {a : Expr} {pos : Pos} {x : Ex} (p1 : PE X a (tO X.K (opd x (ev T P x)))) : PE X (.UnaryOp .Not a pos) (tE X.K (ev T P (.nt x))) := by
  refine (pe_notT p1).imp fun σ H Q ⟨M, e, D0, w⟩ => ?_
  simp only [ev] at w
  obtain ⟨ox, e1, hx, w1⟩ := Ans.wp_bind w
  refine ⟨M, e, D0, ox, e1, hx, fun v M1 H1 D1 S1 r1 => ?_⟩
  split at w1
  · rename_i dx px
    obtain ⟨d, e2, hr, w3⟩ := Ans.wp_bind w1
    have w3 := val_wp w3
    obtain ⟨hz, rfl⟩ := opt_eq hr
    exact ⟨d, tru_of D1.same (D1.peek r1 px) hz, w3 _ M1 H1 D1 S1 (Res.still (.bl _))⟩
  · exact (stuck_wp w1).elim
theorem cmp_imp {K : PySem.W.Frag} {o : CmpOp} {x y : Ex} {σ : St} {H : Hp} {Q : VK} (h : tE K (ev T P (.cmp o x y)) σ H Q) : tOp (rC2 K (cmpD o)) (tO K (opd x (ev T P x))) (tO K (opd y (ev T P y))) σ H Q := by
  obtain ⟨M, e, D0, w⟩ := h
  simp only [ev] at w
  obtain ⟨ox, e1, hx, w1⟩ := Ans.wp_bind w
  obtain ⟨oy, e2, hy, w2⟩ := Ans.wp_bind w1
  refine ⟨M, e, D0, ox, e1, hx, fun v M1 H1 D1 S1 r1 => ⟨M1, e1, D1, oy, e2, hy, fun u M2 H2 D2 S2 r2 => ?_⟩⟩
  split at w2
  · rename_i dx dy px py
    obtain ⟨c, e3, hr, w3⟩ := Ans.wp_bind w2
    have w3 := val_wp w3
    obtain ⟨hz, rfl⟩ := opt_eq hr
    exact ⟨M2, dx, dy, c, D2.same, D2.peek (r1.mono S2.same) px, D2.peek r2 py, hz, w3 _ M2 H2 D2 (S1.trans S2) (Res.still (.bl _))⟩
  · exact (stuck_wp w2).elim
theorem cmp2_imp {K : PySem.W.Frag} {o o' : CmpOp} {x y z : Ex} {σ : St} {H : Hp} {Q : VK} (h : tE K (ev T P (.cmp2 o o' x y z)) σ H Q) : tChain (rC2 K (cmpD o)) (rC2 K (cmpD o')) (tO K (opd x (ev T P x))) (tO K (opd y (ev T P y))) (tO K (opd z (ev T P z))) σ H Q := by
  obtain ⟨M, e, D0, w⟩ := h
  simp only [ev] at w
  obtain ⟨ox, e1, hx, w1⟩ := Ans.wp_bind w
  obtain ⟨oy, e2, hy, w2⟩ := Ans.wp_bind w1
  refine ⟨M, e, D0, ox, e1, hx, fun v M1 H1 D1 S1 r1 => ⟨M1, e1, D1, oy, e2, hy, fun u M2 H2 D2 S2 r2 => ?_⟩⟩
  split at w2
  · rename_i dx dy px py
    obtain ⟨c, e3, hr, w3⟩ := Ans.wp_bind w2
    obtain ⟨hz, rfl⟩ := opt_eq hr
    refine ⟨M2, dx, dy, c, D2.same, D2.peek (r1.mono S2.same) px, D2.peek r2 py, hz, c, rfl, ?_⟩
    cases c with
    | false =>
      rw [if_neg (by simp)] at w3 ⊢
      have w3 := val_wp w3
      exact w3 _ M2 H2 D2 (S1.trans S2) (Res.still (.bl _))
    | true =>
      rw [if_pos rfl] at w3 ⊢
      obtain ⟨oz, e4, hz3, w4⟩ := Ans.wp_bind w3
      refine ⟨M2, _, D2, oz, e4, hz3, fun t M3 H3 D3 S3 r3 => ?_⟩
      split at w4
      · rename_i dy' dz py' pz
        obtain ⟨c, e5, hr, w5⟩ := Ans.wp_bind w4
        have w5 := val_wp w5
        obtain ⟨hz5, rfl⟩ := opt_eq hr
        exact ⟨M3, dy', dz, c, D3.same, D3.peek (r2.mono S3.same) py', D3.peek r3 pz, hz5, w5 _ M3 H3 D3 ((S1.trans S2).trans S3) (Res.still (.bl _))⟩
      · exact (stuck_wp w4).elim
  · exact (stuck_wp w2).elim
theorem bind_val {α β : Type} {a : Ans α} {f : α → Env → Ans β} {b : β} {e : Env} (h : a.bind f = .val b e) : ∃ x e1, a = .val x e1 ∧ f x e1 = .val b e := by
  cases a with
  | stuck => cases h
  | exc _ _ => cases h
  | val x e1 => exact ⟨x, e1, rfl, h⟩
theorem ev_cmp {o : CmpOp} {x y : Ex} {e e' : Env} {r : Bool × D} (h : ev T P (.cmp o x y) e = .val r e') : ∃ c, r = (false, .bl c) := by
  simp only [ev] at h
  obtain ⟨ox, e1, _, h⟩ := bind_val h
  obtain ⟨oy, e2, _, h⟩ := bind_val h
  split at h
  · obtain ⟨c, e3, _, h⟩ := bind_val h
    cases h
    exact ⟨_, rfl⟩
  · cases h
theorem ev_cmp2 {o o' : CmpOp} {x y z : Ex} {e e' : Env} {r : Bool × D} (h : ev T P (.cmp2 o o' x y z) e = .val r e') : ∃ c, r = (false, .bl c) := by
  simp only [ev] at h
  obtain ⟨ox, e1, _, h⟩ := bind_val h
  obtain ⟨oy, e2, _, h⟩ := bind_val h
  split at h
  · obtain ⟨c, e3, _, h⟩ := bind_val h
    split at h
    · obtain ⟨oz, e4, _, h⟩ := bind_val h
      split at h
      · obtain ⟨c, e5, _, h⟩ := bind_val h
        cases h
        exact ⟨_, rfl⟩
      · cases h
    · cases h
      exact ⟨_, rfl⟩
  · cases h
/-- a test whose value is a bool -/
theorem tst_imp {K : PySem.W.Frag} {x : Ex} {σ : St} {H : Hp} {Q : Bool → Hp → Prop} (hx : ∀ i, x ≠ .var i) (hb : ∀ {e e' : Env} {r : Bool × D}, ev T P x e = .val r e' → ∃ c, r = (false, .bl c)) (h : tT K (evt T P (.e x)) σ H Q) :
    tE K (ev T P x) σ H fun v H' => ∃ k, v = .bl k ∧ Q k H' := by
  obtain ⟨M, e, D0, w⟩ := h
  have e1 : evt T P (.e x) e = ((ev T P x e).bind fun r e1 => .val (.v r.2) e1).bind fun o e1 => match pk e1 o with
    | some d => opt (truth d) e1
    | none => .stuck := by
    simp only [evt]
    cases x <;> first | rfl | exact absurd rfl (hx _)
  rw [e1] at w
  obtain ⟨o, e2, h2, w2⟩ := Ans.wp_bind w
  obtain ⟨r, e3, h3, h4⟩ := bind_val h2
  cases h4
  obtain ⟨c, rfl⟩ := hb h3
  simp only [pk] at w2
  obtain ⟨k, hk, w3⟩ := opt_wp w2
  simp only [truth, Option.some.injEq] at hk
  subst hk
  refine ⟨M, e, D0, _, _, h3, fun v M' H' D1 S1 rs => ?_⟩
  have rs := Res.rep rs
  cases rs
  exact ⟨c, rfl, w3 M' H' D1 S1⟩
theorem x_cmp (C : Cok T P Γ X) {o : CmpOp} {a b : Expr} {pos : Pos} {x y : Ex} (p1 : PE X a (tO X.K (opd x (ev T P x)))) (p2 : PE X b (tO X.K (opd y (ev T P y)))) (hm : behindInMarks o b = false) : PE X (.Compare a [o] [b] pos) (tE X.K (ev T P (.cmp o x y))) := by
  obtain ⟨k, hk⟩ := C.room
  exact (pe_cmpR (opr_cmp o hk) p1 p2 hm).imp fun σ H Q h => cmp_imp h
theorem t_cmp (C : Cok T P Γ X) {o : CmpOp} {a b : Expr} {pos : Pos} {x y : Ex} (p1 : PE X a (tO X.K (opd x (ev T P x)))) (p2 : PE X b (tO X.K (opd y (ev T P y)))) (hm : behindInMarks o b = false) : PT X (.Compare a [o] [b] pos) (tT X.K (evt T P (.e (.cmp o x y)))) := by
  obtain ⟨k, hk⟩ := C.room
  exact (pt_cmpR (opr_cmp o hk) p1 p2 hm).imp fun σ H Q h => cmp_imp (tst_imp (fun _ z => by cases z) ev_cmp h)
theorem x_cmp2 (C : Cok T P Γ X) {o o' : CmpOp} {a b c : Expr} {pos : Pos} {x y z : Ex} (p1 : PE X a (tO X.K (opd x (ev T P x)))) (p2 : PE X b (tO X.K (opd y (ev T P y)))) (p3 : PE X c (tO X.K (opd z (ev T P z)))) (hm : behindInMarks o' c = false) : PE X (.Compare a [o, o'] [b, c] pos) (tE X.K (ev T P (.cmp2 o o' x y z))) := by
  obtain ⟨k, hk⟩ := C.room
  exact (pe_chain (opr_cmp o hk) (opr_cmp o' hk) p1 p2 p3 (by simpa [lastMarks] using hm)).imp fun σ H Q h => cmp2_imp h
theorem t_cmp2 (C : Cok T P Γ X) {o o' : CmpOp} {a b c : Expr} {pos : Pos} {x y z : Ex} (p1 : PE X a (tO X.K (opd x (ev T P x)))) (p2 : PE X b (tO X.K (opd y (ev T P y)))) (p3 : PE X c (tO X.K (opd z (ev T P z)))) (hm : behindInMarks o' c = false) : PT X (.Compare a [o, o'] [b, c] pos) (tT X.K (evt T P (.e (.cmp2 o o' x y z)))) := by
  obtain ⟨k, hk⟩ := C.room
  exact (pt_chain (opr_cmp o hk) (opr_cmp o' hk) p1 p2 p3 (by simpa [lastMarks] using hm)).imp fun σ H Q h => cmp2_imp (tst_imp (fun _ z => by cases z) ev_cmp2 h)
theorem x_and {a b : Expr} {r : List Expr} {pos : Pos} {x y : Ex} (p1 : PE X a (tE X.K (ev T P x))) (p2 : PE X (.BoolOp .And (b :: r) pos) (tE X.K (ev T P y))) : PE X (.BoolOp .And (a :: b :: r) pos) (tE X.K (ev T P (.and x y))) := by
  refine (pe_and p1 p2).imp fun σ H Q ⟨M, e, D0, w⟩ => ?_
  simp only [ev] at w
  obtain ⟨⟨f, d⟩, e1, hx, w1⟩ := Ans.wp_bind w
  refine ⟨M, e, D0, _, e1, hx, fun v M1 H1 D1 S1 r1 => ?_⟩
  simp only at w1
  split at w1
  · rename_i k
    have ev : v = .bl k := by
      obtain ⟨M2, _, _, r2⟩ := D1.settle r1
      cases r2
      rfl
    refine ⟨k, ev, ?_⟩
    cases k with
    | true =>
      rw [if_pos rfl] at w1 ⊢
      exact ⟨M1, e1, D1, w1.imp fun r e2 q v M' H' D2 S2 r2 => q v M' H' D2 (S1.trans S2) (r2.back S1)⟩
    | false =>
      rw [if_neg (by simp)] at w1 ⊢
      exact val_wp w1 _ M1 H1 D1 S1 (Res.still (.bl _))
  · exact (stuck_wp w1).elim
theorem x_or {a b : Expr} {r : List Expr} {pos : Pos} {x y : Ex} (p1 : PE X a (tE X.K (ev T P x))) (p2 : PE X (.BoolOp .Or (b :: r) pos) (tE X.K (ev T P y))) : PE X (.BoolOp .Or (a :: b :: r) pos) (tE X.K (ev T P (.or x y))) := by
  refine (pe_or p1 p2).imp fun σ H Q ⟨M, e, D0, w⟩ => ?_
  simp only [ev] at w
  obtain ⟨⟨f, d⟩, e1, hx, w1⟩ := Ans.wp_bind w
  refine ⟨M, e, D0, _, e1, hx, fun v M1 H1 D1 S1 r1 => ?_⟩
  simp only at w1
  split at w1
  · rename_i k
    have ev : v = .bl k := by
      obtain ⟨M2, _, _, r2⟩ := D1.settle r1
      cases r2
      rfl
    refine ⟨k, ev, ?_⟩
    cases k with
    | false =>
      rw [if_neg (by simp)] at w1 ⊢
      exact ⟨M1, e1, D1, w1.imp fun r e2 q v M' H' D2 S2 r2 => q v M' H' D2 (S1.trans S2) (r2.back S1)⟩
    | true =>
      rw [if_pos rfl] at w1 ⊢
      exact val_wp w1 _ M1 H1 D1 S1 (Res.still (.bl _))
  · exact (stuck_wp w1).elim
theorem x_ife {a b c : Expr} {pos : Pos} {t : Tt} {x y : Ex} (p0 : PT X c (tT X.K (evt T P t))) (p1 : PE X a (tE X.K (ev T P x))) (p2 : PE X b (tE X.K (ev T P y))) : PE X (.IfExp c a b pos) (tE X.K (ev T P (.ife t x y))) := by
  refine (pe_ifExp p0 p1 p2).imp fun σ H Q ⟨M, e, D0, w⟩ => ?_
  simp only [ev] at w
  obtain ⟨k, e1, hx, w1⟩ := Ans.wp_bind w
  refine ⟨M, e, D0, k, e1, hx, fun M1 H1 D1 S1 => ?_⟩
  cases k with
  | true =>
    rw [if_pos rfl] at w1 ⊢
    exact ⟨M1, e1, D1, w1.imp fun r e2 q v M' H' D2 S2 r2 => q v M' H' D2 (S1.trans S2) (r2.back S1)⟩
  | false =>
    rw [if_neg (by simp)] at w1 ⊢
    exact ⟨M1, e1, D1, w1.imp fun r e2 q v M' H' D2 S2 r2 => q v M' H' D2 (S1.trans S2) (r2.back S1)⟩
theorem plainIx_of {b : Expr} (h : plainI b = true) : PlainIx b := by
  intro o i
  cases b <;> first | rfl | (simp [plainI] at h)
theorem x_ix (C : Cok T P Γ X) {a b : Expr} {pos : Pos} {x y : Ex} (p1 : PE X a (tO X.K (opd x (ev T P x)))) (p2 : PE X b (tO X.K (opd y (ev T P y)))) (h3 : plainI b = true) : PE X (.Subscript a b pos) (tE X.K (ev T P (.ix x y))) := by
  obtain ⟨_, hr⟩ := C.room
  refine (pe_ix (ixr_ix hr) p1 p2 (plainIx_of h3)).imp fun σ H Q ⟨M, e, D0, w⟩ => ?_
  simp only [ev] at w
  obtain ⟨ox, e1, hx, w1⟩ := Ans.wp_bind w
  obtain ⟨oy, e2, hy, w2⟩ := Ans.wp_bind w1
  refine ⟨M, e, D0, ox, e1, hx, fun v M1 H1 D1 S1 r1 => ⟨M1, e1, D1, oy, e2, hy, fun u M2 H2 D2 S2 r2 => ?_⟩⟩
  split at w2
  · rename_i dx dy px py
    obtain ⟨r, e3, hr, w3⟩ := Ans.wp_bind w2
    have w3 := val_wp w3
    obtain ⟨hz, rfl⟩ := opt_eq hr
    exact ⟨M2, dx, dy, (false, r), D2.same, D2.peek (r1.mono S2.same) px, D2.peek r2 py, by show Option.map _ (ixD dx dy) = _; rw [hz]; rfl, fun v M' H' pu ro => w3 v M' H' (pu.vd D2) ((S1.trans S2).trans pu.stp) ((ro.res D2).back (S1.trans S2))⟩
  · exact (stuck_wp w2).elim
/-- an end of a slice -/
def tX (K : PySem.W.Frag) (f : Env → Ans (Option D)) : TO := fun σ H Q => ∃ M e, Vd K M e σ H ∧ (f e).wp fun l e' => ∃ z, endD l = some z ∧ ∀ M' H', Vd K M' e' σ H' → Stp e σ M H e' σ M' H' → Q z H'
theorem _root_.L2.PO.imp {e : Option Expr} {t t' : TO} (p : PO X e t) (h : ∀ σ H Q, t' σ H Q → t σ H Q) : PO X e t' := ⟨fun pins s σ H Q I q => p.run pins s σ H Q I (h σ H Q q)⟩
theorem o_no : PO X none (tX X.K (evx T P .no)) := po_none.imp fun σ H Q ⟨M, e, D0, w⟩ => by
  simp only [evx] at w
  obtain ⟨z, hz, q⟩ := val_wp w
  cases hz
  exact q M H D0 Stp.refl
theorem o_yes {e : Expr} {x : Ex} (p : PE X e (tE X.K (ev T P x))) : PO X (some e) (tX X.K (evx T P (.yes x))) := by
  refine (po_some p).imp fun σ H Q ⟨M, e, D0, w⟩ => ?_
  simp only [evx] at w
  obtain ⟨⟨f, d⟩, e1, hx, w1⟩ := Ans.wp_bind w
  obtain ⟨z, hz, q⟩ := val_wp w1
  refine ⟨M, e, D0, _, e1, hx, fun v M1 H1 D1 S1 r1 => ?_⟩
  simp only [endD] at hz
  split at hz
  · rename_i hd
    cases hd
  · rename_i i hd
    cases hd
    cases hz
    obtain ⟨M2, _, _, r2⟩ := D1.settle r1
    cases r2
    exact ⟨i, rfl, q M1 H1 D1 S1⟩
  · cases hz
theorem x_sl {a : Expr} {lo hi : Option Expr} {p2 pos : Pos} {x : Ex} {l h : Exo} (p1 : PE X a (tO X.K (opd x (ev T P x)))) (q1 : PO X lo (tX X.K (evx T P l))) (q2 : PO X hi (tX X.K (evx T P h))) : PE X (.Subscript a (.Slice lo hi none p2) pos) (tE X.K (ev T P (.sl x l h))) := by
  refine (pe_slice slr_sl p1 q1 q2).imp fun σ H Q ⟨M, e, D0, w⟩ => ?_
  simp only [ev] at w
  obtain ⟨ox, e1, hx, w1⟩ := Ans.wp_bind w
  obtain ⟨ol, e2, hy, w2⟩ := Ans.wp_bind w1
  obtain ⟨oh, e3, hz, w3⟩ := Ans.wp_bind w2
  split at w3
  · rename_i dx lo hi px pl ph
    obtain ⟨r, hr, w4⟩ := opt_wp w3
    exact ⟨M, e, D0, ox, e1, hx, fun v M1 H1 D1 S1 r1 => ⟨M1, e1, D1, ol, e2, hy, lo, pl, fun M2 H2 D2 S2 => ⟨M2, e2, D2, oh, e3, hz, hi, ph, fun M3 H3 D3 S3 =>
      ⟨M3, dx, r, D3.same, D3.peek (r1.mono (S2.trans S3).same) px, hr, fun v M' H' pu ro => w4 v M' H' (pu.vd D3) (((S1.trans S2).trans S3).trans pu.stp) ((ro.res D3).back ((S1.trans S2).trans S3))⟩⟩⟩⟩
  · exact (stuck_wp w3).elim
theorem x_rev {a : Expr} {k : Nat} {p1 p2 p3 pos : Pos} {x : Ex} (p : PE X a (tO X.K (opd x (ev T P x)))) : PE X (.Subscript a (.Slice none none (some (.UnaryOp .USub (.Constant (.int 1) k p1) p2)) p3) pos) (tE X.K (ev T P (.rev x))) := by
  refine (pe_revL p).imp fun σ H Q ⟨M, e, D0, w⟩ => ?_
  simp only [ev] at w
  obtain ⟨ox, e1, hx, w1⟩ := Ans.wp_bind w
  refine ⟨M, e, D0, ox, e1, hx, fun v M1 H1 D1 S1 r1 => ?_⟩
  split at w1
  · rename_i xs px
    have w2 := val_wp w1
    obtain ⟨a, vs, rfl, ha, ra⟩ := (D1.peek r1 px).lst D1.same
    refine ⟨a, vs, rfl, SqL.of ha, fun p hp => ?_⟩
    have pu := Pur.own (o := .lst vs.reverse) D1.same hp
    exact w2 _ _ _ (pu.vd D1) (S1.trans pu.stp) (((ResO.newL D1.same hp ra.reverse).res D1).back S1)
  · exact (stuck_wp w1).elim
theorem x_call (C : Cok T P Γ X) {f : Str} {i : Nat} {p pos : Pos} {e : Expr} {es : List Expr} {xs : Exs} (h1 : Γ.fns.lookup f = some i) (h2 : gloB Γ.sc f = true) (h3 : nodbg f = true) (h4 : CXs Γ (e :: es) xs) (pa : PA X (e :: es) (tOs X.K (evs T P xs))) :
    PE X (.Call (.Name f p) (e :: es) [] pos) (tE X.K (ev T P (.call i xs))) := by
  obtain ⟨d1, d2⟩ := nodbg_of h3
  obtain ⟨fn, fa, fd, ps, k, hT, hio, hps, F, hr, hm, hk, hb⟩ := C.call f i h1
  cases h4 with
  | cons c1 c2 =>
    refine (pe_call (E := fun _ _ _ => False) (ds := []) (dvs := []) F hr (gloB_gl C h2) hm hk hb .nil (fun _ _ _ _ _ _ _ z => False.elim z) pa d1 (c1.star _ _) (back_any _ _ (c2.star _))).imp fun σ H Q ⟨M, e, D0, w⟩ => ?_
    simp only [ev] at w
    obtain ⟨ops, e1, hx, w1⟩ := Ans.wp_bind w
    obtain ⟨res, e2, hd, w2⟩ := w1
    refine ⟨M, e, D0, ops, e1, hx, fun vs M1 H1 D1 S1 r1 => ?_⟩
    show SpF _ _ _ _ (vs ++ []) _ _ _
    rw [List.append_nil]
    exact call_run D1 r1 hT hio hd fun v M' H' D2 S2 r2 => w2 v M' H' D2 (S1.trans S2) (r2.back S1)
theorem prim_blt (p : Prim) : bltNames.contains (p.name : Str) = true ∧ ((p.name : Str) ≠ ("__name__" : Str)) ∧ ((p.name : Str) == ("__debug__" : Str)) = false := by
  cases p <;> decide +kernel
theorem x_prim (C : Cok T P Γ X) {q : Prim} {p pos : Pos} {e : Expr} {es : List Expr} {xs : Exs} (h2 : gloB Γ.sc q.name = true) (h4 : CXs Γ (e :: es) xs) (pa : PA X (e :: es) (tOs X.K (evs T P xs))) :
    PE X (.Call (.Name q.name p) (e :: es) [] pos) (tE X.K (ev T P (.prim q xs))) := by
  obtain ⟨b1, b2, b3⟩ := prim_blt q
  have pb := prim_boot q
  have cr := callr_prim (X := X) q C.calm
  cases h4 with
  | @cons _ _ _ y ys cc cd =>
    have key : PE X (.Call (.Name q.name p) (e :: es) [] pos) (tCB (rCa X.K (primD q)) (tOs X.K (evs T P (.cons y ys)))) := by
      unfold Prim.val at pb cr
      split at pb
      · rename_i ht
        rw [if_pos ht] at cr
        exact pe_callTy cr (gloB_gl C h2) (blt_none C b1) pb pa b2 b3 (cc.star _ _) (back_any _ _ (cd.star _))
      · rename_i ht
        rw [if_neg ht] at cr
        exact pe_callB cr (gloB_gl C h2) (blt_none C b1) pb pa b2 b3 (cc.star _ _) (back_any _ _ (cd.star _))
    refine key.imp fun σ H Q ⟨M, e, D0, w⟩ => ?_
    simp only [ev] at w
    obtain ⟨ops, e1, hx, w1⟩ := Ans.wp_bind w
    refine ⟨M, e, D0, ops, e1, hx, fun vs M1 H1 D1 S1 r1 => ?_⟩
    split at w1
    · rename_i ds hp
      obtain ⟨r, hr, w2⟩ := opt_wp w1
      exact ⟨M1, ds, r, D1.same, D1.peeks r1 hp, hr, fun v M' H' pu ro => w2 v M' H' (pu.vd D1) (S1.trans pu.stp) ((ro.res D1).back S1)⟩
    · exact (stuck_wp w1).elim
theorem x_pop (C : Cok T P Γ X) {x : Str} {p ap pos : Pos} {i : Nat} (h1 : Γ.N[i]? = some x) (h2 : visB Γ.sc x = true) (h3 : nodbg x = true) (h4 : (ap.endLine == pos.line) = true) : PE X (.Call (.Attribute (.Name x p) "pop" ap) [] [] pos) (tE X.K (ev T P (.pop i))) := by
  obtain ⟨d1, d2⟩ := nodbg_of h3
  have pv := pe_var (i := i) (pos := p) (by rw [C.N]; exact h1) (visB_vis C h2) d1 d2
  refine (pe_bm0 (T := "list") (id := "list.pop") PySem.F.plainAttrs_list PySem.F.slot_list_pop PySem.F.type_list_pop mt_pop pv (by rfl) h4).imp fun σ H Q ⟨M, e, D0, w⟩ => ?_
  simp only [ev] at w
  have go : ∀ {b b' : B} {ds : List D} {d : D}, getB e i = some b → b.own = true → b.dat = .lst ds → ds.getLast? = some d → b'.own = true → b'.dat = .lst ds.dropLast → (∀ d, b' = .io d → ∃ d0, b = .io d0) → ((Ans.val (false, d) (setB e i (some b'))).wp fun r e' => ∀ v M' H', Vd X.K M' e' σ H' → Stp e σ M H e' σ M' H' → Res X.K e' σ H M' H' v r → Q v H') →
      tBM0 X.K "list" rPop (tVar i) σ H Q := fun {b b' ds d} hb ho hd hl hk hd' hio w => by
    have w := val_wp w
    obtain ⟨v, z1, z2⟩ := D0.slot i b hb
    have own : ∃ a, v = .ref a ∧ Own X.K M H a (.lst ds) := by
      cases b with
      | sh _ => cases ho
      | ow d' => obtain ⟨a, ea, o⟩ := z2; rw [← hd]; exact ⟨a, ea, o⟩
      | io d' => obtain ⟨a, ea, o⟩ := z2; rw [← hd]; exact ⟨a, ea, o⟩
    obtain ⟨a, rfl, o⟩ := own
    cases o with
    | @lst vs _ hM hH hr =>
      have hlen := hr.length
      have hg : ds[ds.length - 1]? = some d := by rw [← hl, List.getLast?_eq_getElem?]
      obtain ⟨y, hy, ry⟩ := hr.get hg
      have hown : Own X.K M (upd H a (.lst vs.dropLast)) a b'.dat := by
        rw [hd']
        refine .lst hM upd_same ?_
        rw [List.dropLast_eq_take, List.dropLast_eq_take, hlen]
        exact hr.take _
      refine ⟨.ref a, z1, .inl ⟨rfl, vs, SqL.of hH⟩, a, vs, y, rfl, rfl, hH, by rw [hlen]; exact hy, ?_⟩
      exact w y M _ (D0.change hb ho z1 hk hown) (Stp.change hb ho z1 hio ⟨_, hH⟩) (Res.still ry)
  split at w
  · rename_i xs hb
    split at w
    · rename_i d hl
      exact go hb rfl rfl hl rfl rfl (fun _ z => by cases z) w
    · exact (stuck_wp w).elim
  · rename_i xs hb
    split at w
    · rename_i d hl
      exact go hb rfl rfl hl rfl rfl (fun _ _ => ⟨_, rfl⟩) w
    · exact (stuck_wp w).elim
  · exact (stuck_wp w).elim
theorem _root_.L2.Eng.Vd.pkS {K : PySem.W.Frag} {M H : Hp} {e : Env} {σ : St} (D0 : Vd K M e σ H) {i : Nat} {d : D} (h : pk e (.sl i) = some d) : ∃ v, σ[i]? = some (some v) ∧ Top K M H v d := by
  have h' := h
  simp only [pk] at h
  split at h
  · rename_i b hb
    obtain ⟨v, z1, z2⟩ := D0.slot i b hb
    exact ⟨v, z1, D0.peek (o := .sl i) z1 h'⟩
  · cases h
theorem x_dnew {pos : Pos} : PE X (.Dict [] [] pos) (tE X.K (ev T P .dnew)) := pe_dnewK.imp fun σ H Q ⟨M, e, D0, w⟩ p hp => by
  simp only [ev] at w
  have w := val_wp w
  have pu : Pur M H M (upd H p (.dK [])) := Pur.own D0.same hp
  refine w _ M _ (pu.vd D0) pu.stp (ResO.res D0 ?_)
  unfold ResO
  rw [if_pos rfl]
  exact ⟨p, rfl, hp, .dct (own_no D0.same hp) upd_same .nil⟩
theorem x_get (C : Cok T P Γ X) {x : Str} {p ap pos : Pos} {i : Nat} {k d : Expr} {kx dx : Ex} (h1 : Γ.N[i]? = some x) (h2 : visB Γ.sc x = true) (h3 : nodbg x = true) (h4 : (ap.endLine == pos.line) = true) (h5 : CX Γ k kx) (h6 : CX Γ d dx)
    (p1 : PE X k (tO X.K (opd kx (ev T P kx)))) (p2 : PE X d (tE X.K (ev T P dx))) : PE X (.Call (.Attribute (.Name x p) "get" ap) [k, d] [] pos) (tE X.K (ev T P (.get i kx dx))) := by
  obtain ⟨d1, d2⟩ := nodbg_of h3
  obtain ⟨_, hr⟩ := C.room
  have pv := pe_var (i := i) (pos := p) (by rw [C.N]; exact h1) (visB_vis C h2) d1 d2
  have st : starEach [k, d] X.env = [(false, eval k X.env), (false, eval d X.env)] := by rw [h5.star, h6.star]; rfl
  have mm : M2 X (.Name x p) "get" ap k d pos := ⟨rfl, by rw [st]; rfl, h4, by rw [st]; rfl⟩
  refine (pe_dget2 (by have := hr.un; omega) pv p1 (pe_set p2) mm).imp fun σ H Q ⟨M, e, D0, w⟩ => ?_
  simp only [ev] at w
  split at w
  · rename_i xs0 hp
    obtain ⟨w0, z1, tp⟩ := D0.pkS hp
    obtain ⟨a, kvs0, rfl, hH0, _⟩ := tp.dct D0.same
    obtain ⟨ok, e1, hk, w1⟩ := Ans.wp_bind w
    obtain ⟨r, e2, hd, w2⟩ := Ans.wp_bind w1
    refine ⟨.ref a, z1, a, rfl, .inl ⟨kvs0, .inl hH0⟩, M, e, D0, ok, e1, hk, fun kv M1 H1 D1 S1 r1 => ⟨M1, e1, D1, (false, r.2), e2, by show (ev T P dx e1).bind _ = _; rw [hd]; rfl, fun dv M2 H2 D2 S2 r2 => ?_⟩⟩
    split at w2
    · rename_i xs dk hp2 hk2
      split at w2
      · rename_i hkey
        have w3 := val_wp w2
        obtain ⟨key, rfl⟩ := isKey_key hkey
        obtain ⟨w4, z4, tp2⟩ := D2.pkS hp2
        rw [z1] at z4
        obtain rfl : V.ref a = w4 := by injection z4 with z4; injection z4
        obtain ⟨a2, kvs, ea, hH2, ra⟩ := tp2.dct D2.same
        cases ea
        have ek := (D2.peek (r1.mono S2.same) hk2).key
        subst ek
        refine ⟨_, DGet.k hH2, ?_⟩
        have g := ra.get key
        have rd := Res.rep r2
        cases hg : dGet xs (keyV key) with
        | none =>
          rw [hg] at g w3
          rw [g]
          exact w3 _ M2 H2 D2 (S1.trans S2) (Res.still rd)
        | some z =>
          rw [hg] at g w3
          obtain ⟨v, g, rv⟩ := g
          rw [g]
          exact w3 _ M2 H2 D2 (S1.trans S2) (Res.still rv)
      · exact (stuck_wp w2).elim
    · exact (stuck_wp w2).elim
  · exact (stuck_wp w).elim
/-! ### arguments, tests -/
theorem a_nil : PA X [] (tOs X.K (evs T P .nil)) := pa_nil.imp fun σ H Q ⟨M, e, D0, w⟩ => by
  simp only [evs] at w
  exact val_wp w [] M H D0 Stp.refl .nil
theorem a_cons {e : Expr} {es : List Expr} {x : Ex} {xs : Exs} (c : CX Γ e x) (p1 : PE X e (tO X.K (opd x (ev T P x)))) (p2 : PA X es (tOs X.K (evs T P xs))) : PA X (e :: es) (tOs X.K (evs T P (.cons x xs))) := by
  refine (pa_cons p1 p2 (c.star _ _)).imp fun σ H Q ⟨M, e, D0, w⟩ => ?_
  simp only [evs] at w
  obtain ⟨ox, e1, hx, w1⟩ := Ans.wp_bind w
  obtain ⟨os, e2, hy, w2⟩ := Ans.wp_bind w1
  have w3 := val_wp w2
  exact ⟨M, e, D0, ox, e1, hx, fun v M1 H1 D1 S1 r1 => ⟨M1, e1, D1, os, e2, hy, fun vs M2 H2 D2 S2 r2 => w3 (v :: vs) M2 H2 D2 (S1.trans S2) (.cons (r1.mono S2.same) r2)⟩⟩
theorem isTrue_of {a : Expr} (h : plainT a = true) (env : PySem.Env) : ∀ whole, isTrue a env whole = (do let v ← whole; standAt a.pos; holding [v] (truthy v)) := by
  intro whole
  cases a <;> first | rfl | (simp [plainT] at h; done) | skip
  rename_i o _ _
  cases o <;> first | rfl | (simp [plainT] at h; done)
theorem t_e {a : Expr} {x : Ex} (p : PE X a (tO X.K (opd x (ev T P x)))) (h : plainT a = true) : PT X a (tT X.K (evt T P (.e x))) := by
  refine (pt_truth p (isTrue_of h _)).imp fun σ H Q ⟨M, e, D0, w⟩ => ?_
  simp only [evt] at w
  obtain ⟨ox, e1, hx, w1⟩ := Ans.wp_bind w
  refine ⟨M, e, D0, ox, e1, hx, fun v M1 H1 D1 S1 r1 => ?_⟩
  split at w1
  · rename_i d hp
    obtain ⟨b, hb, w2⟩ := opt_wp w1
    exact ⟨b, tru_of D1.same (D1.peek r1 hp) hb, w2 M1 H1 D1 S1⟩
  · exact (stuck_wp w1).elim
theorem t_nt {a : Expr} {pos : Pos} {x : Tt} (p : PT X a (tT X.K (evt T P x))) : PT X (.UnaryOp .Not a pos) (tT X.K (evt T P (.nt x))) := by
  refine (pt_not p).imp fun σ H Q ⟨M, e, D0, w⟩ => ?_
  simp only [evt] at w
  obtain ⟨k, e1, hx, w1⟩ := Ans.wp_bind w
  have w1 := val_wp w1
  exact ⟨M, e, D0, k, e1, hx, fun M1 H1 D1 S1 => w1 M1 H1 D1 S1⟩
theorem w_and {a b : Expr} {r : List Expr} {pos : Pos} {x y : Tt} (p1 : PT X a (tT X.K (evt T P x))) (p2 : PW X (.BoolOp .And (b :: r) pos) (tT X.K (evt T P y))) : PW X (.BoolOp .And (a :: b :: r) pos) (tT X.K (evt T P (.and x y))) := by
  refine (pw_and p1 p2).imp fun σ H Q ⟨M, e, D0, w⟩ => ?_
  simp only [evt] at w
  obtain ⟨k, e1, hx, w1⟩ := Ans.wp_bind w
  refine ⟨M, e, D0, k, e1, hx, fun M1 H1 D1 S1 => ?_⟩
  cases k with
  | true =>
    rw [if_pos rfl] at w1 ⊢
    exact ⟨M1, e1, D1, w1.imp fun r e2 q M' H' D2 S2 => q M' H' D2 (S1.trans S2)⟩
  | false =>
    rw [if_neg (by simp)] at w1 ⊢
    exact val_wp w1 M1 H1 D1 S1
theorem w_or {a b : Expr} {r : List Expr} {pos : Pos} {x y : Tt} (p1 : PT X a (tT X.K (evt T P x))) (p2 : PW X (.BoolOp .Or (b :: r) pos) (tT X.K (evt T P y))) : PW X (.BoolOp .Or (a :: b :: r) pos) (tT X.K (evt T P (.or x y))) := by
  refine (pw_or p1 p2).imp fun σ H Q ⟨M, e, D0, w⟩ => ?_
  simp only [evt] at w
  obtain ⟨k, e1, hx, w1⟩ := Ans.wp_bind w
  refine ⟨M, e, D0, k, e1, hx, fun M1 H1 D1 S1 => ?_⟩
  cases k with
  | false =>
    rw [if_neg (by simp)] at w1 ⊢
    exact ⟨M1, e1, D1, w1.imp fun r e2 q M' H' D2 S2 => q M' H' D2 (S1.trans S2)⟩
  | true =>
    rw [if_pos rfl] at w1 ⊢
    exact val_wp w1 M1 H1 D1 S1
theorem w_one {o : BoolOp} {a : Expr} {pos : Pos} {x : Tt} (p1 : PT X a (tT X.K (evt T P x))) : PW X (.BoolOp o [a] pos) (tT X.K (evt T P x)) := by
  cases o with
  | And => exact pw_and1 p1
  | Or => exact pw_or1 p1
theorem ts_nil : PTs X [] (tT X.K (evt T P .tru)) := ⟨fun pins s σ H Q I q => pts_nil.run pins s σ H Q I (by
  obtain ⟨M, e, D0, w⟩ := q
  simp only [evt] at w
  exact val_wp w M H D0 Stp.refl)⟩
theorem fold_plain {Γ : Gam} {tg a : Expr} {it : It} (h : CI Γ tg a it) (env : PySem.Env) (x : Value) : foldedSetIterable a env x = pure x := by
  cases h with
  | seq c => cases c <;> rfl
  | rng _ _ => rfl
  | rng2 _ _ _ => rfl
  | enum _ _ => rfl
def isBoolOp : Expr → Bool
  | .BoolOp .. => true
  | _ => false
theorem notBool {e : Expr} (h : plainT e = true) (z : isBoolOp e = true) : False := by
  cases e <;> simp [isBoolOp, plainT] at z h
/-! sets of whole numbers -/
theorem mem_nub {k : Int} : ∀ {l : List Int}, k ∈ nubI l ↔ k ∈ l
  | [] => Iff.rfl
  | i :: r => by
    unfold nubI
    split
    · rename_i h
      rw [mem_nub, List.mem_cons]
      exact ⟨.inr, fun q => q.elim (fun e => e ▸ h) id⟩
    · rw [List.mem_cons, List.mem_cons, mem_nub]
theorem nodup_nub : ∀ l : List Int, (nubI l).Nodup
  | [] => List.nodup_nil
  | i :: r => by
    unfold nubI
    split
    · exact nodup_nub r
    · rename_i h
      exact List.nodup_cons.mpr ⟨fun q => h (mem_nub.mp q), nodup_nub r⟩
theorem perm_nub {L l : List Int} (h : L.Nodup) (h2 : ∀ k, k ∈ L ↔ k ∈ l) : L.Perm (nubI l) := (List.perm_ext_iff_of_nodup h (nodup_nub l)).mpr fun k => (h2 k).trans mem_nub.symm
theorem Rep.nums {K : PySem.W.Frag} {M H : Hp} {v : V} {d : D} {is : List Int} (sm : Same M H) (r : Rep K M v d) (h : numsD d = some is) : Nums K H v is := by
  cases d <;> simp only [numsD] at h <;> first | cases h | skip
  · cases r with
    | tup e q =>
      have := q.ints h
      subst this
      exact ⟨_, rfl, .inr (SqT.of (sm _ _ e))⟩
  · cases r with
    | lst e q =>
      have := q.ints h
      subst this
      exact ⟨_, rfl, .inl (SqL.of (sm _ _ e))⟩
theorem x_sset (C : Cok T P Γ X) {a : Expr} {p p2 q pos : Pos} {x : Ex} (h1 : gloB Γ.sc "sorted" = true) (h2 : gloB Γ.sc "set" = true) (c : CX Γ a x) (pa : PE X a (tE X.K (ev T P x))) :
    PE X (.Call (.Name "sorted" p) [.Call (.Name "set" p2) [a] [] q] [] pos) (tE X.K (ev T P (.sset x))) := by
  refine (pe_sset C.calm (gloB_gl C h1) (blt_none C (by decide)) (gloB_gl C h2) (blt_none C (by decide)) (pe_set pa) (c.star [] X.env)).imp fun σ H Q ⟨M, e, D0, w⟩ => ⟨M, e, D0, ?_⟩
  simp only [ev] at w
  obtain ⟨r, e1, hx, w1⟩ := Ans.wp_bind w
  refine ⟨(false, r.2), e1, by show (ev T P x e).bind _ = _; rw [hx]; rfl, fun v M1 H1 D1 S1 r1 => ?_⟩
  split at w1
  · rename_i is hi
    split at w1
    · rename_i hl
      have w2 := val_wp w1
      refine ⟨is, r1.rep.nums D1.same hi, by unfold scanBound; omega, fun ns' p' so me hp => ?_⟩
      have e2 : ns' = sortI (nubI is) := sorted_is (perm_nub (so.imp fun h => Int.ne_of_lt h) me) (so.imp fun h => Int.le_of_lt h)
      subst e2
      have pu := Pur.own (o := .lst ((sortI (nubI is)).map V.int)) D1.same hp
      exact w2 _ _ _ (pu.vd D1) (S1.trans pu.stp) (((ResO.newL D1.same hp (reps_intsE _)).res D1).back S1)
    · exact (stuck_wp w1).elim
  · exact (stuck_wp w1).elim
theorem x_lset (C : Cok T P Γ X) {a : Expr} {p p2 q pos : Pos} {x : Ex} (h1 : gloB Γ.sc "len" = true) (h2 : gloB Γ.sc "set" = true) (c : CX Γ a x) (pa : PE X a (tE X.K (ev T P x))) :
    PE X (.Call (.Name "len" p) [.Call (.Name "set" p2) [a] [] q] [] pos) (tE X.K (ev T P (.lset x))) := by
  refine (pe_lset C.calm (gloB_gl C h1) (blt_none C (by decide)) (gloB_gl C h2) (blt_none C (by decide)) (pe_set pa) (c.star [] X.env)).imp fun σ H Q ⟨M, e, D0, w⟩ => ⟨M, e, D0, ?_⟩
  simp only [ev] at w
  obtain ⟨r, e1, hx, w1⟩ := Ans.wp_bind w
  refine ⟨(false, r.2), e1, by show (ev T P x e).bind _ = _; rw [hx]; rfl, fun v M1 H1 D1 S1 r1 => ?_⟩
  split at w1
  · rename_i is hi
    split at w1
    · rename_i hl
      have w2 := val_wp w1
      refine ⟨is, r1.rep.nums D1.same hi, by unfold scanBound; omega, fun L nd me => ?_⟩
      rw [(perm_nub nd me).length_eq]
      exact w2 _ _ _ D1 S1 (Res.still (.int _))
    · exact (stuck_wp w1).elim
  · exact (stuck_wp w1).elim
/-! every expression's code is right -/
mutual
theorem okX : ∀ {Γ : Gam} {e : Expr} {x : Ex}, CX Γ e x → ∀ X, Cok T P Γ X → PE X e (tE X.K (ev T P x))
  | _, _, _, .var h1 h2 h3, X, C => x_var C h1 h2 h3
  | _, _, _, .bty h1 h2, X, C => x_bty C h1 h2
  | _, _, _, .int, X, C => x_cst pe_int fun _ => .int _
  | _, _, _, .bl, X, C => x_cst pe_bl fun _ => .bl _
  | _, _, _, .non, X, C => x_cst pe_non fun _ => .non
  | _, _, _, .str, X, C => x_cst pe_str fun _ => .str _
  | _, _, _, .tup h, X, C => x_tup (okXs h X C)
  | _, _, _, .lst h, X, C => x_lst (okXs h X C)
  | _, _, _, .bin h1 h2, X, C => x_bin (pe_opd C h1 (okX h1 X C)) (pe_opd C h2 (okX h2 X C))
  | _, _, _, .un h1, X, C => x_un (pe_opd C h1 (okX h1 X C))
  | _, _, _, .nt h1, X, C => x_nt (pe_opd C h1 (okX h1 X C))
  | _, _, _, .cmp h1 h2 h3, X, C => x_cmp C (pe_opd C h1 (okX h1 X C)) (pe_opd C h2 (okX h2 X C)) h3
  | _, _, _, .cmp2 h1 h2 h3 h4, X, C => x_cmp2 C (pe_opd C h1 (okX h1 X C)) (pe_opd C h2 (okX h2 X C)) (pe_opd C h3 (okX h3 X C)) h4
  | _, _, _, .one h1 h2, X, C => pe_one (okX h1 X C)
  | _, _, _, .and h1 h2, X, C => x_and (okX h1 X C) (okX h2 X C)
  | _, _, _, .or h1 h2, X, C => x_or (okX h1 X C) (okX h2 X C)
  | _, _, _, .ife h1 h2 h3, X, C => x_ife (okT h1 X C).1 (okX h2 X C) (okX h3 X C)
  | _, _, _, .ix h1 h2 h3, X, C => x_ix C (pe_opd C h1 (okX h1 X C)) (pe_opd C h2 (okX h2 X C)) h3
  | _, _, _, .sl h1 h2 h3, X, C => x_sl (pe_opd C h1 (okX h1 X C)) (okO h2 X C) (okO h3 X C)
  | _, _, _, .rev h1, X, C => x_rev (pe_opd C h1 (okX h1 X C))
  | _, _, _, .call h1 h2 h3 h4, X, C => x_call C h1 h2 h3 h4 (okXs h4 X C)
  | _, _, _, .prim h2 h4, X, C => x_prim C h2 h4 (okXs h4 X C)
  | _, _, _, .comp h1 h2 h3 h4 h5 h6, X, C => pe_comp C h1 (okI h2 X C) (fun s H A cl fp => pg_tg (C.blk _ s H A cl fp) h3) (fun s H A cl fp => okTs h4 _ (C.blk _ s H A cl fp)) (fun s H A cl fp => okX h5 _ (C.blk _ s H A cl fp)) h6 (fold_plain h2 _)
  | _, _, _, .pop h1 h2 h3 h4, X, C => x_pop C h1 h2 h3 h4
  | _, _, _, .dnew, X, C => x_dnew
  | _, _, _, .sset h1 h2 h3, X, C => x_sset C h1 h2 h3 (okX h3 X C)
  | _, _, _, .lset h1 h2 h3, X, C => x_lset C h1 h2 h3 (okX h3 X C)
  | _, _, _, .get h1 h2 h3 h4 h5 h6, X, C => x_get C h1 h2 h3 h4 h5 h6 (pe_opd C h5 (okX h5 X C)) (okX h6 X C)
termination_by _ e _ _ _ _ => (sizeOf e, 0)
theorem okXs : ∀ {Γ : Gam} {e : List Expr} {x : Exs}, CXs Γ e x → ∀ X, Cok T P Γ X → PA X e (tOs X.K (evs T P x))
  | _, _, _, .nil, X, C => a_nil
  | _, _, _, .cons h1 h2, X, C => a_cons h1 (pe_opd C h1 (okX h1 X C)) (okXs h2 X C)
termination_by _ e _ _ _ _ => (sizeOf e, 0)
theorem okO : ∀ {Γ : Gam} {e : Option Expr} {x : Exo}, CXo Γ e x → ∀ X, Cok T P Γ X → PO X e (tX X.K (evx T P x))
  | _, _, _, .no, X, C => o_no
  | _, _, _, .yes h, X, C => o_yes (okX h X C)
termination_by _ e _ _ _ _ => (sizeOf e, 0)
theorem okT : ∀ {Γ : Gam} {e : Expr} {x : Tt}, CT Γ e x → ∀ X, Cok T P Γ X → PT X e (tT X.K (evt T P x)) ∧ (isBoolOp e = true → PW X e (tT X.K (evt T P x)))
  | _, _, _, .e h1 h2, X, C => ⟨t_e (pe_opd C h1 (okX h1 X C)) h2, fun z => (notBool h2 z).elim⟩
  | _, _, _, .cmp h1 h2 h3, X, C => ⟨t_cmp C (pe_opd C h1 (okX h1 X C)) (pe_opd C h2 (okX h2 X C)) h3, fun z => (by cases z)⟩
  | _, _, _, .cmp2 h1 h2 h3 h4, X, C => ⟨t_cmp2 C (pe_opd C h1 (okX h1 X C)) (pe_opd C h2 (okX h2 X C)) (pe_opd C h3 (okX h3 X C)) h4, fun z => (by cases z)⟩
  | _, _, _, .nt h1, X, C => ⟨t_nt (okT h1 X C).1, fun z => (by cases z)⟩
  | _, _, _, .one h1, X, C => ⟨(w_one (okT h1 X C).1).pt, fun _ => w_one (okT h1 X C).1⟩
  | _, _, _, .and h1 h2, X, C => ⟨(w_and (okT h1 X C).1 ((okT h2 X C).2 rfl)).pt, fun _ => w_and (okT h1 X C).1 ((okT h2 X C).2 rfl)⟩
  | _, _, _, .or h1 h2, X, C => ⟨(w_or (okT h1 X C).1 ((okT h2 X C).2 rfl)).pt, fun _ => w_or (okT h1 X C).1 ((okT h2 X C).2 rfl)⟩
termination_by _ e _ _ _ _ => (sizeOf e, 1)
theorem okTs : ∀ {Γ : Gam} {e : List Expr} {x : Tt}, CTs Γ e x → ∀ X, Cok T P Γ X → PTs X e (tT X.K (evt T P x))
  | _, _, _, .nil, X, C => ts_nil
  | _, _, _, .one h, X, C => pts_one (okT h X C).1
termination_by _ e _ _ _ _ => (sizeOf e, 0)
theorem okI : ∀ {Γ : Gam} {tg e : Expr} {x : It}, CI Γ tg e x → ∀ X, Cok T P Γ X → PI X tg e (tI X.K (evi T P x))
  | _, _, _, _, .seq h, X, C => pi_seq C (okX h X C)
  | _, _, _, _, .rng h0 h1, X, C => pi_rng C h0 h1 (okX h1 X C)
  | _, _, _, _, .rng2 h0 h1 h2, X, C => pi_rng2 C h0 h1 h2 (okX h1 X C) (okX h2 X C)
  | _, _, _, _, .enum h0 h1, X, C => pi_enu C h0 h1 (okX h1 X C)
termination_by _ _ e _ _ _ _ => (sizeOf e, 1)
end
end
end L2.Eng
namespace L2.Eng
open PySem PySem.Spec PyProof.Rows
/-! ## the text of a statement and its code -/
def lcB : Expr → Bool
  | .ListComp .. => true
  | .SetComp .. => true
  | .DictComp .. => true
  | _ => false
def pairB : Expr → Bool
  | .Tuple .. => true
  | .List .. => true
  | _ => false
def isVarB : Ex → Bool
  | .var _ => true
  | _ => false
/-- when the value is a list comprehension: is it stored ahead of the block's end -/
def lcSwaps (Γ : Gam) (scope : Scope) (pos : Pos) (y : Str) (py : Pos) : Bool :=
  (match Γ.sc.kind with | .function => true | _ => false) && (match Γ.sc.names.lookup y with | some .local => true | _ => false) && (py.line == pos.line) && !(scope.names.any fun (n, k) => n == y && (k == .local || k == .cell))
/-- a name that inner blocks see -/
def cellB (Γ : Gam) (y : Str) : Bool := match Γ.sc.names.lookup y with | some .cell => true | _ => false
def lineB (l : Nat) : List Expr → Bool
  | [] => true
  | e :: r => (e.pos.line == l) && lineB l r
mutual
inductive CS : Gam → Stmt → Sm → Prop
  | asg {Γ : Gam} {tg e : Expr} {pos : Pos} {t : Tg} {x : Ex} (h1 : CG Γ tg t) (h2 : CX Γ e x) (h3 : lcB e = false) (h4 : (pairB tg && pairB e) = false) : CS Γ (.Assign [tg] e pos) (.asg t x)
  | lc {Γ : Gam} {y : Str} {py : Pos} {elt tg iter : Expr} {ifs : List Expr} {scope : Scope} {pos spos : Pos} {i : Nat} {x : Ex} (h1 : Γ.N[i]? = some y) (h2 : CX Γ (.ListComp elt [⟨tg, iter, ifs, 0⟩] scope pos) x)
      (h3 : lcSwaps Γ scope pos y py = true) : CS Γ (.Assign [.Name y py] (.ListComp elt [⟨tg, iter, ifs, 0⟩] scope pos) spos) (.asg (.nm i) x)
  | lcc {Γ : Gam} {y : Str} {py : Pos} {elt : Expr} {gs : List Comprehension} {scope : Scope} {pos spos : Pos} {i : Nat} {x : Ex} (h1 : CG Γ (.Name y py) (.nm i)) (h2 : CX Γ (.ListComp elt gs scope pos) x)
      (h3 : cellB Γ y = true) : CS Γ (.Assign [.Name y py] (.ListComp elt gs scope pos) spos) (.asg (.nm i) x)
  | setx {Γ : Gam} {v : Str} {p p' pos : Pos} {k e : Expr} {i : Nat} {kx x : Ex} (h1 : Γ.N[i]? = some v) (h2 : visB Γ.sc v = true) (h3 : nodbg v = true) (h4 : CX Γ k kx) (h5 : plainI k = true) (h6 : CX Γ e x) : CS Γ (.Assign [.Subscript (.Name v p) k p'] e pos) (.setx i kx x)
  | aug {Γ : Gam} {v : Str} {p pos : Pos} {o : Operator} {e : Expr} {i : Nat} {x : Ex} (h1 : Γ.N[i]? = some v) (h2 : locB Γ v = true) (h3 : CX Γ e x) : CS Γ (.AugAssign (.Name v p) o e pos) (.aug i o x)
  | par {Γ : Gam} {x y : Str} {a b : Expr} {px py pt pt2 pos : Pos} {kt k2 : Nat} {i j : Nat} {xs : Exs} (h1 : Γ.N[i]? = some x) (h2 : Γ.N[j]? = some y) (h3 : (i == j) = false) (h4 : (match Γ.sc.names.lookup x with | some .local => true | _ => false) = true) (h5 : (match Γ.sc.names.lookup y with | some .local => true | _ => false) = true)
      (h6 : CXs Γ [a, b] xs) (h7 : (match Γ.sc.kind with | .function => true | _ => false) = true) (h8 : (px.line == py.line) = true) (h9 : [a, b].all (foldedForSure 8) = false) (h10 : [a, b].all (constantsAlone 8) = false) (h11 : (x == y) = false) :
      CS Γ (.Assign [.Tuple [.Name x px, .Name y py] kt pt] (.Tuple [a, b] k2 pt2) pos) (.par [i, j] xs)
  | app {Γ : Gam} {v : Str} {p ap pos pos' : Pos} {e : Expr} {i : Nat} {x : Ex} (h1 : Γ.N[i]? = some v) (h2 : visB Γ.sc v = true) (h3 : nodbg v = true) (h4 : CX Γ e x) (h5 : (ap.endLine == pos.line) = true) : CS Γ (.Expr (.Call (.Attribute (.Name v p) "append" ap) [e] [] pos) pos') (.app i x)
  | ext {Γ : Gam} {v : Str} {p ap pos pos' : Pos} {e : Expr} {i : Nat} {x : Ex} (h1 : Γ.N[i]? = some v) (h2 : visB Γ.sc v = true) (h3 : nodbg v = true) (h4 : CX Γ e x) (h5 : (ap.endLine == pos.line) = true) : CS Γ (.Expr (.Call (.Attribute (.Name v p) "extend" ap) [e] [] pos) pos') (.ext i x)
  | doc {Γ : Gam} {x : Str} {j : Nat} {pos pos' : Pos} : CS Γ (.Expr (.Constant (.str x) j pos) pos') .pass
  | ex {Γ : Gam} {e : Expr} {pos : Pos} {x : Ex} (h1 : CX Γ e x) (h2 : lcB e = false) : CS Γ (.Expr e pos) (.ex x)
  | ret {Γ : Gam} {e : Expr} {pos : Pos} {x : Ex} (h1 : CX Γ e x) : CS Γ (.Return (some e) pos) (.ret x)
  | ret0 {Γ : Gam} {pos : Pos} : CS Γ (.Return none pos) .ret0
  | ite {Γ : Gam} {c : Expr} {a b : List Stmt} {pos : Pos} {t : Tt} {x y : Sms} (h1 : CT Γ c t) (h2 : CSs Γ a x) (h3 : CSs Γ b y) : CS Γ (.If c a b pos) (.ite t x y)
  | wh {Γ : Gam} {c : Expr} {a : List Stmt} {pos : Pos} {t : Tt} {x : Sms} (h1 : CT Γ c t) (h2 : CSs Γ a x) : CS Γ (.While c a [] pos) (.wh t x)
  | for {Γ : Gam} {tg it : Expr} {a : List Stmt} {pos : Pos} {g : Tg} {w : It} {x : Sms} (h1 : CG Γ tg g) (h2 : CI Γ tg it w) (h3 : CSs Γ a x) : CS Γ (.For tg it a [] pos) (.for g w x)
  | brk {Γ : Gam} {pos : Pos} : CS Γ (.Break pos) .brk
  | cnt {Γ : Gam} {pos : Pos} : CS Γ (.Continue pos) .cnt
  | pass {Γ : Gam} {pos : Pos} : CS Γ (.Pass pos) .pass
  | never {Γ : Gam} {s : Stmt} : CS Γ s .never
inductive CSs : Gam → List Stmt → Sms → Prop
  | nil {Γ : Gam} : CSs Γ [] .nil
  | cons {Γ : Gam} {s : Stmt} {r : List Stmt} {x : Sm} {xs : Sms} (h1 : CS Γ s x) (h2 : CSs Γ r xs) : CSs Γ (s :: r) (.cons x xs)
end
/-! ## what a statement's end says -/
def ResR (K : PySem.W.Frag) (e : Env) (σ : St) (e' : Env) (σ' : St) (H M' H' : Hp) (v : V) (r : Bool × D) : Prop :=
  if r.1 = true then ∃ a, v = .ref a ∧ (Owns e σ a ∨ H a = none) ∧ ¬ Owns e' σ' a ∧ Own K M' H' a r.2 else Rep K M' v r.2
def Post (K : PySem.W.Frag) (De : Ends) (e : Env) (σ : St) (M H : Hp) : Fl → Env → Prop := fun fl e' => match fl with
  | .nx => ∀ σ' M' H', Vd K M' e' σ' H' → Stp e σ M H e' σ' M' H' → De.nx σ' H'
  | .bk => ∀ σ' M' H', Vd K M' e' σ' H' → Stp e σ M H e' σ' M' H' → De.bk σ' H'
  | .ct => ∀ σ' M' H', Vd K M' e' σ' H' → Stp e σ M H e' σ' M' H' → De.ct σ' H'
  | .rt fr d => ∀ v σ' M' H', Vd K M' e' σ' H' → Stp e σ M H e' σ' M' H' → ResR K e σ e' σ' H M' H' v (fr, d) → De.rt v H'
def tS (K : PySem.W.Frag) (f : Env → Ans Fl) : TS := fun De σ H => ∃ M e, Vd K M e σ H ∧ (f e).wp (Post K De e σ M H)
section
variable {K : PySem.W.Frag} {De : Ends} {e e1 e2 : Env} {σ σ1 σ2 : St} {M M1 M2 H H1 H2 : Hp}
theorem ResR.back {v : V} {r : Bool × D} (h : ResR K e1 σ1 e2 σ2 H1 M2 H2 v r) (s : Stp e σ M H e1 σ1 M1 H1) : ResR K e σ e2 σ2 H M2 H2 v r := by
  unfold ResR at h ⊢
  split at h
  · rename_i q
    rw [if_pos q]
    obtain ⟨a, rfl, ha, no, o⟩ := h
    refine ⟨a, rfl, ?_, no, o⟩
    rcases ha with ha | ha
    · exact s.own a ha
    · right
      cases z : H a with
      | none => rfl
      | some u => obtain ⟨o', h'⟩ := s.there a u z; rw [ha] at h'; cases h'
  · rename_i q
    rw [if_neg q]
    exact h
theorem Res.toR {v : V} {r : Bool × D} (h : Res K e2 σ H M2 H2 v r) : ResR K e σ e2 σ H M2 H2 v r := by
  unfold Res at h
  unfold ResR
  split at h
  · rename_i q
    rw [if_pos q]
    obtain ⟨a, rfl, ha, no, o⟩ := h
    exact ⟨a, rfl, .inr ha, no, o⟩
  · rename_i q
    rw [if_neg q]
    exact h
/-- from an earlier start -/
theorem Post.from (s : Stp e σ M H e1 σ1 M1 H1) {fl : Fl} (h : Post K De e σ M H fl e2) : Post K De e1 σ1 M1 H1 fl e2 := by
  cases fl with
  | nx => exact fun σ' M' H' D' S' => h σ' M' H' D' (s.trans S')
  | bk => exact fun σ' M' H' D' S' => h σ' M' H' D' (s.trans S')
  | ct => exact fun σ' M' H' D' S' => h σ' M' H' D' (s.trans S')
  | rt fr d => exact fun v σ' M' H' D' S' r => h v σ' M' H' D' (s.trans S') (r.back s)
/-- forgotten -/
theorem Vd.drop (D0 : Vd K M e σ H) (i : Nat) : Vd K M (setB e i none) σ H := by
  have back : ∀ j c, OwnAt (setB e i none) σ j c → OwnAt e σ j c := fun j c ⟨b, q1, q2, q3⟩ => by
    by_cases hj : j = i
    · subst hj
      by_cases hl : j < e.length
      · rw [getB_setB_same hl] at q1; cases q1
      · rw [getB_none_of_le (by rw [setB_length]; omega)] at q1; cases q1
    · rw [getB_setB_ne hj] at q1
      exact ⟨b, q1, q2, q3⟩
  refine ⟨D0.same, by rw [setB_length]; exact D0.len, fun j b hb => ?_, fun j k a hj hk => D0.inj j k a (back j a hj) (back k a hk)⟩
  by_cases hj : j = i
  · subst hj
    by_cases hl : j < e.length
    · rw [getB_setB_same hl] at hb; cases hb
    · rw [getB_none_of_le (by rw [setB_length]; omega)] at hb; cases hb
  · rw [getB_setB_ne hj] at hb
    exact D0.slot j b hb
theorem Stp.drop (i : Nat) : Stp e σ M H (setB e i none) σ M H := by
  have back : ∀ j b, getB (setB e i none) j = some b → getB e j = some b := fun j b q1 => by
    by_cases hj : j = i
    · subst hj
      by_cases hl : j < e.length
      · rw [getB_setB_same hl] at q1; cases q1
      · rw [getB_none_of_le (by rw [setB_length]; omega)] at q1; cases q1
    · rw [getB_setB_ne hj] at q1
      exact q1
  exact ⟨fun _ _ h => h, fun _ _ h _ => h, fun _ _ h n => (by rw [h] at n; cases n), fun _ ⟨j, b, h1, h2, h3⟩ => .inl ⟨j, b, back j b h1, h2, h3⟩, fun _ o h => ⟨o, h⟩, fun j d h => ⟨⟨d, back j _ h⟩, rfl⟩⟩
end
section
variable {X : Cx}
theorem _root_.L2.PS.imp {s : Stmt} {t t' : TS} (p : PS X s t) (h : ∀ D σ H, t' D σ H → t D σ H) : PS X s t' := ⟨fun pins s σ H D I q => p.run pins s σ H D I (h D σ H q)⟩
theorem _root_.L2.PSs.imp {s : List Stmt} {t t' : TS} (p : PSs X s t) (h : ∀ D σ H, t' D σ H → t D σ H) : PSs X s t' := ⟨fun pins s σ H D I q => p.run pins s σ H D I (h D σ H q)⟩
end
section
variable {T : List Fn} {P : Nat → List B → CA} {Γ : Gam} {X : Cx} {m : Nat}
theorem sw_not {e : Expr} {t : Option Expr} {l : Nat} {env : PySem.Env} (h : lcB e = false) : swapsWith e t l env = pure false := by
  cases e <;> first | rfl | (simp [lcB] at h)
theorem CG.one {tg : Expr} {t : Tg} (h : CG Γ tg t) (env : PySem.Env) : (assignEach [tg] env).map (·.2) = [assign tg env] := by
  cases h <;> rfl
theorem asg_imp {K : PySem.W.Frag} {t : Tg} {x : Ex} {De : Ends} {σ : St} {H : Hp} (h : tS K (es1 T P m (.asg t x)) De σ H) : tAsg (tE K (ev T P x)) (tG K t) De σ H := by
  obtain ⟨M, e, D0, w⟩ := h
  simp only [es1] at w
  obtain ⟨r, e1, hx, w1⟩ := Ans.wp_bind w
  refine ⟨M, e, D0, r, e1, hx, fun v M1 H1 D1 S1 r1 => ?_⟩
  split at w1
  · rename_i e2 ha
    have w2 := val_wp w1
    exact ⟨M, e, σ, H, M1, e1, r, e2, D1, S1, r1, ha, fun σ' D2 S2 _ => w2 σ' M1 H1 D2 S2⟩
  · exact (stuck_wp w1).elim
theorem s_asg (C : Cok T P Γ X) {tg e : Expr} {pos : Pos} {t : Tg} {x : Ex} (h1 : CG Γ tg t) (h2 : CX Γ e x) (h3 : lcB e = false) (h4 : (pairB tg && pairB e) = false) : PS X (.Assign [tg] e pos) (tS X.K (es1 T P m (.asg t x))) := by
  refine (ps_asg (okX h2 X C) (pg_tg C h1) (sw_not h3) ?_ (h1.one _)).imp fun D σ H h => asg_imp h
  unfold swappedStores
  cases tg <;> first | rfl | (cases e <;> first | rfl | (simp [pairB] at h4))
theorem s_lcc (C : Cok T P Γ X) {y : Str} {py : Pos} {elt : Expr} {gs : List Comprehension} {scope : Scope} {pos spos : Pos} {i : Nat} {x : Ex} (h1 : CG Γ (.Name y py) (.nm i)) (h2 : CX Γ (.ListComp elt gs scope pos) x)
      (h3 : cellB Γ y = true) : PS X (.Assign [.Name y py] (.ListComp elt gs scope pos) spos) (tS X.K (es1 T P m (.asg (.nm i) x))) := by
  have hk : X.env.kindOf y = some .cell := by
    show X.env.scope.names.lookup y = _
    rw [C.sc]
    unfold cellB at h3
    split at h3
    · assumption
    · cases h3
  have hs : swapsWithSole [.Name y py] (.ListComp elt gs scope pos) spos.line X.env = pure false := by
    unfold swapsWithSole swapsWith
    simp only [hk]
    have : (some NameKind.cell == some NameKind.local) = false := by decide
    simp only [this, Bool.and_false, Bool.false_and]
  exact (ps_asg (okX h2 X C) (pg_tg C h1) hs rfl (h1.one _)).imp fun D σ H h => asg_imp h
theorem gname_of {K : PySem.W.Frag} {i : Nat} {v : V} {σ : St} {H : Hp} {Q : St → Hp → Prop} (hi : i < σ.length) (h : tG K (.nm i) v σ H Q) : gName i v σ H Q := by
  obtain ⟨M0, e0, σ0, H0, M, e, ⟨fr, d⟩, e', D0, S0, rs, ha, q⟩ := h
  simp only [asgT] at ha
  cases ha
  have hi : i < e.length := by rw [D0.len]; exact hi
  cases fr with
  | false =>
    have rs := Res.rep rs
    exact q _ (D0.put (b := .sh d) rs (fun z => by cases z) hi) (S0.put (b := .sh d) (fun z => by cases z) (fun _ z => by cases z) hi D0.len) (fun j hj => by
      rw [List.getElem?_set_ne]; intro z; exact hj (by simp [Tg.slots, z]))
  | true =>
    obtain ⟨a, rfl, h3, h4, h5⟩ : ∃ a, v = .ref a ∧ H0 a = none ∧ ¬ Owns e σ a ∧ Own K M H a d := rs
    exact q _ (D0.put (b := .ow d) ⟨a, rfl, h5⟩ (fun _ c ec => by cases ec; exact h4) hi) (S0.put (b := .ow d) (fun _ c ec => by cases ec; exact .inr h3) (fun _ z => by cases z) hi D0.len) (fun j hj => by
      rw [List.getElem?_set_ne]; intro z; exact hj (by simp [Tg.slots, z]))
theorem s_lc (C : Cok T P Γ X) {y : Str} {py : Pos} {elt tg iter : Expr} {ifs : List Expr} {scope : Scope} {pos spos : Pos} {i : Nat} {x : Ex} (h1 : Γ.N[i]? = some y) (h2 : CX Γ (.ListComp elt [⟨tg, iter, ifs, 0⟩] scope pos) x)
      (h3 : lcSwaps Γ scope pos y py = true) : PS X (.Assign [.Name y py] (.ListComp elt [⟨tg, iter, ifs, 0⟩] scope pos) spos) (tS X.K (es1 T P m (.asg (.nm i) x))) := by
  unfold lcSwaps at h3
  simp only [Bool.and_eq_true, Bool.not_eq_true'] at h3
  obtain ⟨⟨⟨k1, k2⟩, k3⟩, k4⟩ := h3
  have f1 : X.env.scope.kind = .function := by
    rw [C.sc]
    split at k1
    · assumption
    · cases k1
  have f2 : X.env.scope.names.lookup y = some .local := by
    rw [C.sc]
    split at k2
    · assumption
    · cases k2
  cases h2 with
  | @comp _ _ _ _ _ _ _ own x t it c b1 b2 b3 b4 b5 b6 =>
    have ok : BlkOk X.N X.env.scope scope own := by rw [C.N, C.sc]; exact blkOk_by b1
    have pe' : ∀ (s : Shared) (H : Hp) (A : Addr) (cl : List (Str × Addr)) (fp : List Addr), PE (X.blk s H scope (compEnvC scope cl A X.env) fp) elt (tE X.K fun e => (ev T P x e).bind fun r e1 => .val (false, r.2) e1) := fun s H A cl fp => pe_set (okX b5 _ (C.blk _ s H A cl fp))
    have pt' : ∀ (s : Shared) (H : Hp) (A : Addr) (cl : List (Str × Addr)) (fp : List Addr), PTs (X.blk s H scope (compEnvC scope cl A X.env) fp) ifs (tT X.K (evt T P c)) := fun s H A cl fp => okTs b4 _ (C.blk _ s H A cl fp)
    have pg' : ∀ (s : Shared) (H : Hp) (A : Addr) (cl : List (Str × Addr)) (fp : List Addr), PG (X.blk s H scope (compEnvC scope cl A X.env) fp) tg (tG X.K t) := fun s H A cl fp => pg_tg (C.blk _ s H A cl fp) b3
    have P0 := ps_setLc (spos := spos) C.calm (by rw [C.N]; exact C.nd) (by rw [C.N]; exact h1) f2 (sw_true f1 f2 k3 k4) (okI b2 X C) ok pg' pt' pe' (fold_plain b2 _)
    refine ⟨fun pins s σ H De I q => P0.run pins s σ H De I ?_⟩
    have q := asg_imp q
    have hi : i < σ.length := by rw [I.len, C.N]; exact (List.getElem?_eq_some_iff.mp h1).1
    refine lc_imp b6 ?_
    obtain ⟨M, e, D0, w⟩ := q
    exact ⟨M, e, D0, w.imp fun r e1 q v M1 H1 D1 S1 r1 => gname_of hi (q v M1 H1 D1 S1 r1)⟩
/-! ### own lists, changed -/
theorem onOwn_ok {e e' : Env} {i : Nat} {f : D → Option D} (h : onOwn e i f = some e') : ∃ b b', getB e i = some b ∧ b.own = true ∧ f b.dat = some b'.dat ∧ e' = setB e i (some b') ∧ b'.own = true ∧ ∀ d, b' = .io d → ∃ d0, b = .io d0 := by
  unfold onOwn at h
  split at h
  · rename_i d hb
    split at h
    · rename_i d' hd
      cases h
      exact ⟨.ow d, .ow d', hb, rfl, hd, rfl, rfl, fun _ z => by cases z⟩
    · cases h
  · rename_i d hb
    split at h
    · rename_i d' hd
      cases h
      exact ⟨.io d, .io d', hb, rfl, hd, rfl, rfl, fun _ _ => ⟨_, rfl⟩⟩
    · cases h
  · cases h
/-- what is at the i-th name's own list -/
theorem own_list {K : PySem.W.Frag} {M H : Hp} {e : Env} {σ : St} (D0 : Vd K M e σ H) {i : Nat} {b : B} {xs : List D} (hb : getB e i = some b) (ho : b.own = true) (hd : b.dat = .lst xs) : ∃ a vs, σ[i]? = some (some (.ref a)) ∧ M a = none ∧ H a = some (.lst vs) ∧ Reps K M vs xs := by
  obtain ⟨v, z1, z2⟩ := D0.slot i b hb
  have : ∃ a, v = .ref a ∧ Own K M H a (.lst xs) := by
    cases b with
    | sh _ => cases ho
    | ow d => obtain ⟨a, e, o⟩ := z2; have hd : d = .lst xs := hd; subst hd; exact ⟨a, e, o⟩
    | io d => obtain ⟨a, e, o⟩ := z2; have hd : d = .lst xs := hd; subst hd; exact ⟨a, e, o⟩
  obtain ⟨a, rfl, o⟩ := this
  cases o with
  | lst h1 h2 h3 => exact ⟨a, _, z1, h1, h2, h3⟩
theorem pk_slot {K : PySem.W.Frag} {M H : Hp} {e : Env} {σ : St} (D0 : Vd K M e σ H) {i : Nat} {d : D} (h : pk e (.sl i) = some d) : ∃ v, σ[i]? = some (some v) ∧ Top K M H v d := by
  have h' := h
  simp only [pk] at h
  split at h
  · rename_i b hb
    obtain ⟨v, z1, z2⟩ := D0.slot i b hb
    exact ⟨v, z1, D0.peek (o := .sl i) z1 h'⟩
  · cases h
theorem plainS_of {k : Expr} (h : plainI k = true) {o : Expr} {pos : Pos} (env : PySem.Env) : ∀ v, assign (.Subscript o k pos) env v = (do
      let ov ← holding [v] (eval o env)
      let iv ← holding [v, ov] (eval k env)
      standAt pos
      holding [v, ov, iv] (setItem ov iv v)
      release [v, ov, iv] []) := by
  intro v
  cases k <;> first | rfl | (simp [plainI] at h)
theorem sw_sub {e a b : Expr} {p : Pos} {l : Nat} {env : PySem.Env} : swapsWith e (some (.Subscript a b p)) l env = pure false := by
  cases e <;> rfl
theorem own_dct {K : PySem.W.Frag} {M H : Hp} {e : Env} {σ : St} (D0 : Vd K M e σ H) {i : Nat} {b : B} {xs : List D} (hb : getB e i = some b) (ho : b.own = true) (hd : b.dat = .dct xs) : ∃ a vs, σ[i]? = some (some (.ref a)) ∧ M a = none ∧ H a = some (.dK vs) ∧ RepKs K M vs xs := by
  obtain ⟨v, z1, z2⟩ := D0.slot i b hb
  have : ∃ a, v = .ref a ∧ Own K M H a (.dct xs) := by
    cases b with
    | sh _ => cases ho
    | ow d => obtain ⟨a, e, o⟩ := z2; have hd : d = .dct xs := hd; subst hd; exact ⟨a, e, o⟩
    | io d => obtain ⟨a, e, o⟩ := z2; have hd : d = .dct xs := hd; subst hd; exact ⟨a, e, o⟩
  obtain ⟨a, rfl, o⟩ := this
  cases o with
  | dct h1 h2 h3 => exact ⟨a, _, z1, h1, h2, h3⟩
theorem set_any (hu : X.A.units + 1 < cLine) {t : TSet} (h : PSet X t) : PSet X (fun o i v H Q => t o i v H Q ∨ rSetD o i v H Q) := by
  intro pins s σ H o i v ov iv u Q I ro ri rv q
  rcases q with q | q
  · exact h pins s σ H o i v ov iv u Q I ro ri rv q
  · exact set_dict hu pins s σ H o i v ov iv u Q I ro ri rv q
theorem s_setx (C : Cok T P Γ X) {v : Str} {p p' pos : Pos} {k e : Expr} {i : Nat} {kx x : Ex} (h1 : Γ.N[i]? = some v) (h2 : visB Γ.sc v = true) (h3 : nodbg v = true) (h4 : CX Γ k kx) (h5 : plainI k = true) (h6 : CX Γ e x) :
    PS X (.Assign [.Subscript (.Name v p) k p'] e pos) (tS X.K (es1 T P m (.setx i kx x))) := by
  obtain ⟨d1, d2⟩ := nodbg_of h3
  have pv := pe_var (i := i) (pos := p) (by rw [C.N]; exact h1) (visB_vis C h2) d1 d2
  obtain ⟨_, hr⟩ := C.room
  refine (ps_asg (pe_set (okX h6 X C)) (pg_sub pv (pe_opd C h4 (okX h4 X C)) (set_any (by have := hr.un; omega) set_list) (plainS_of h5 _)) (sw_sub (a := .Name v p) (b := k) (p := p') (l := pos.line) (env := X.env)) rfl rfl).imp fun De σ H ⟨M, e, D0, w⟩ => ?_
  simp only [es1] at w
  obtain ⟨r, e1, hx, w1⟩ := Ans.wp_bind w
  refine ⟨M, e, D0, (false, r.2), e1, by show (ev T P x e).bind _ = _; rw [hx]; rfl, fun u M1 H1 D1 S1 r1 => ?_⟩
  have r1 := Res.rep r1
  split at w1
  · rename_i hp1
    obtain ⟨w0, z1, _⟩ := pk_slot D1 hp1
    obtain ⟨o, e2, hk, w2⟩ := Ans.wp_bind w1
    refine ⟨w0, z1, M1, e1, D1, o, e2, hk, fun kv M2 H2 D2 S2 r2 => ?_⟩
    split at w2
    · rename_i dk hpk
      split at w2
      · rename_i e3 hown
        have w3 := val_wp w2
        obtain ⟨b, b', hb, ho, hf, rfl, ho', hio⟩ := onOwn_ok hown
        unfold putAt at hf
        split at hf
        · rename_i xs j hd
          split at hf
          · rename_i q hq
            have hf : D.lst (xs.set q r.2) = b'.dat := Option.some.inj hf
            obtain ⟨a, vs, y1, y2, y3, y4⟩ := own_list D2 hb ho hd
            rw [z1] at y1
            obtain rfl : w0 = .ref a := by injection y1 with y1; injection y1
            have kv' : kv = .int j := (D2.peek r2 hpk).int
            subst kv'
            refine .inl ⟨a, vs, j, q, rfl, rfl, y3, by rw [y4.length]; exact atN_ix hq, ?_⟩
            have ow : Own X.K M2 (upd H2 a (.lst (vs.set q u))) a b'.dat := by
              rw [← hf]
              exact .lst y2 upd_same (y4.set q (r1.mono S2.same))
            exact w3 _ M2 _ (D2.change hb ho z1 ho' ow) ((S1.trans S2).trans (Stp.change hb ho z1 hio ⟨_, y3⟩))
          · cases hf
        · rename_i xs hd
          split at hf
          · rename_i hkey
            split at hf
            · rename_i hl
              obtain ⟨a, vs, y1, y2, y3, y4⟩ := own_dct D2 hb ho hd
              rw [z1] at y1
              obtain rfl : w0 = .ref a := by injection y1 with y1; injection y1
              obtain ⟨key, rfl⟩ := isKey_key hkey
              have hf : D.dct (dPut xs (keyV key) r.2) = b'.dat := Option.some.inj hf
              have kv' := (D2.peek r2 hpk).key
              subst kv'
              refine .inr ⟨a, _, rfl, DPut.k y3 (by rw [y4.length]; exact Nat.lt_of_lt_of_le hl (fit_le (Nat.le_refl _))), ?_⟩
              have ow : Own X.K M2 (upd H2 a (.dK (putK vs key u))) a b'.dat := by
                rw [← hf]
                exact .dct y2 upd_same (y4.put (r1.mono S2.same))
              exact w3 _ M2 _ (D2.change hb ho z1 ho' ow) ((S1.trans S2).trans (Stp.change hb ho z1 hio ⟨_, y3⟩))
            · cases hf
          · cases hf
        · cases hf
      · exact (stuck_wp w2).elim
    · exact (stuck_wp w2).elim
  · exact (stuck_wp w1).elim
theorem s_app (C : Cok T P Γ X) {v : Str} {p ap pos pos' : Pos} {e : Expr} {i : Nat} {x : Ex} (h1 : Γ.N[i]? = some v) (h2 : visB Γ.sc v = true) (h3 : nodbg v = true) (h4 : CX Γ e x) (h5 : (ap.endLine == pos.line) = true) :
    PS X (.Expr (.Call (.Attribute (.Name v p) "append" ap) [e] [] pos) pos') (tS X.K (es1 T P m (.app i x))) := by
  obtain ⟨d1, d2⟩ := nodbg_of h3
  have pv := pe_var (i := i) (pos := p) (by rw [C.N]; exact h1) (visB_vis C h2) d1 d2
  have pm := pe_bm (apos := ap) (cpos := pos) PySem.F.plainAttrs_list PySem.F.slot_list_append PySem.F.type_list_append mt_append pv (pa_one h4 (pe_set (okX h4 X C))) (by rfl) (by rw [star1 h4]; rfl) h5 (star1 h4 _) (by rfl)
  refine (ps_expr pm rfl).imp fun De σ H ⟨M, e, D0, w⟩ => ?_
  simp only [es1] at w
  split at w
  · rename_i xs0 hp
    obtain ⟨w0, z1, tp⟩ := pk_slot D0 hp
    obtain ⟨a0, vs0, rfl, hH0, _⟩ := tp.lst D0.same
    obtain ⟨r, e1, hx, w1⟩ := Ans.wp_bind w
    refine ⟨.ref a0, z1, .inl ⟨rfl, vs0, SqL.of hH0⟩, M, e, D0, (false, r.2), e1, by show (ev T P x e).bind _ = _; rw [hx]; rfl, fun u M1 H1 D1 S1 r1 => ?_⟩
    have r1 := Res.rep r1
    split at w1
    · rename_i e2 hown
      have w3 := val_wp w1
      obtain ⟨b, b', hb, ho, hf, rfl, ho', hio⟩ := onOwn_ok hown
      unfold addD at hf
      split at hf
      · rename_i xs hd
        split at hf
        · rename_i hl
          have hf : D.lst (xs ++ [r.2]) = b'.dat := Option.some.inj hf
          obtain ⟨a, vs, y1, y2, y3, y4⟩ := own_list D1 hb ho hd
          rw [z1] at y1
          obtain rfl : a0 = a := by injection y1 with y1; injection y1 with y1; injection y1
          refine ⟨a0, vs, u, rfl, rfl, y3, by rw [y4.length]; exact Nat.lt_of_lt_of_le hl (fit_le (Nat.le_refl _)), ?_⟩
          have ow : Own X.K M1 (upd H1 a0 (.lst (vs ++ [u]))) a0 b'.dat := by
            rw [← hf]
            exact .lst y2 upd_same (y4.append (.cons r1 .nil))
          exact w3 _ M1 _ (D1.change hb ho z1 ho' ow) (S1.trans (Stp.change hb ho z1 hio ⟨_, y3⟩))
        · cases hf
      · cases hf
    · exact (stuck_wp w1).elim
  · exact (stuck_wp w).elim
theorem s_ext (C : Cok T P Γ X) {v : Str} {p ap pos pos' : Pos} {e : Expr} {i : Nat} {x : Ex} (h1 : Γ.N[i]? = some v) (h2 : visB Γ.sc v = true) (h3 : nodbg v = true) (h4 : CX Γ e x) (h5 : (ap.endLine == pos.line) = true) :
    PS X (.Expr (.Call (.Attribute (.Name v p) "extend" ap) [e] [] pos) pos') (tS X.K (es1 T P m (.ext i x))) := by
  obtain ⟨d1, d2⟩ := nodbg_of h3
  have pv := pe_var (i := i) (pos := p) (by rw [C.N]; exact h1) (visB_vis C h2) d1 d2
  have pm := pe_bm (apos := ap) (cpos := pos) PySem.F.plainAttrs_list PySem.F.slot_list_extend PySem.F.type_list_extend mt_extend pv (pa_one h4 (pe_opd C h4 (okX h4 X C))) (by rfl) (by rw [star1 h4]; rfl) h5 (star1 h4 _) (by rfl)
  refine (ps_expr pm rfl).imp fun De σ H ⟨M, e, D0, w⟩ => ?_
  simp only [es1] at w
  split at w
  · rename_i xs0 hp
    obtain ⟨w0, z1, tp⟩ := pk_slot D0 hp
    obtain ⟨a0, vs0, rfl, hH0, _⟩ := tp.lst D0.same
    obtain ⟨o, e1, hx, w1⟩ := Ans.wp_bind w
    refine ⟨.ref a0, z1, .inl ⟨rfl, vs0, SqL.of hH0⟩, M, e, D0, o, e1, hx, fun u M1 H1 D1 S1 r1 => ?_⟩
    split at w1
    · rename_i d hpo
      split at w1
      · rename_i e2 hown
        have w3 := val_wp w1
        obtain ⟨b, b', hb, ho, hf, rfl, ho', hio⟩ := onOwn_ok hown
        unfold extD at hf
        split at hf
        · rename_i xs hd
          split at hf
          · rename_i ys
            split at hf
            · rename_i hl
              have hf : D.lst (xs ++ ys) = b'.dat := Option.some.inj hf
              obtain ⟨a, vs, y1, y2, y3, y4⟩ := own_list D1 hb ho hd
              rw [z1] at y1
              obtain rfl : a0 = a := by injection y1 with y1; injection y1 with y1; injection y1
              obtain ⟨c, us, rfl, hc, ru⟩ := (D1.peek r1 hpo).lst D1.same
              refine ⟨a0, c, vs, us, rfl, rfl, y3, hc, by rw [y4.length, ru.length]; exact fit_le hl, ?_⟩
              have ow : Own X.K M1 (upd H1 a0 (.lst (vs ++ us))) a0 b'.dat := by
                rw [← hf]
                exact .lst y2 upd_same (y4.append ru)
              exact w3 _ M1 _ (D1.change hb ho z1 ho' ow) (S1.trans (Stp.change hb ho z1 hio ⟨_, y3⟩))
            · cases hf
          · cases hf
        · cases hf
      · exact (stuck_wp w1).elim
    · exact (stuck_wp w1).elim
  · exact (stuck_wp w).elim
end
end L2.Eng
namespace L2.Eng
open PySem PySem.Spec PyProof.Rows
section
variable {T : List Fn} {P : Nat → List B → CA} {Γ : Gam} {X : Cx} {m : Nat}
def rA (K : PySem.W.Frag) (f : D → D → Option D) : R2 := fun x y H Q => ∃ M dx dy r, Same M H ∧ Top K M H x dx ∧ Top K M H y dy ∧ f dx dy = some r ∧ ∀ v, Rep K M v r → Q v H
theorem opr_aug (o : Operator) : OpR X (inplaceOp o) (rA X.K (augD o)) := by
  intro pins s σ H x y v u Q I rx ry h
  obtain ⟨M, dx, dy, r, sm, tx, ty, hf, q⟩ := h
  unfold augD at hf
  split at hf
  · cases hf; exact iop_add pins s σ H x y v u Q I rx ry ⟨_, _, tx.int, ty.int, q _ (.int _)⟩
  · split at hf
    · rename_i hc
      cases hf; exact iop_add_str pins s σ H x y v u Q I rx ry ⟨_, _, tx.str, ty.str, fit_le hc, q _ (.str _)⟩
    · cases hf
  · cases hf; exact iop_sub pins s σ H x y v u Q I rx ry ⟨_, _, tx.int, ty.int, q _ (.int _)⟩
  · split at hf
    · rename_i hc
      cases hf; exact iop_mul pins s σ H x y v u Q I rx ry ⟨_, _, tx.int, ty.int, hc, q _ (.int _)⟩
    · cases hf
  · split at hf
    · rename_i hc
      cases hf; exact iop_mod pins s σ H x y v u Q I rx ry ⟨_, _, tx.int, ty.int, hc, q _ (.int _)⟩
    · cases hf
  · split at hf
    · rename_i hc
      cases hf; exact iop_fdiv pins s σ H x y v u Q I rx ry ⟨_, _, tx.int, ty.int, hc, q _ (.int _)⟩
    · cases hf
  · split at hf
    · rename_i hc
      cases hf; exact iop_shl pins s σ H x y v u Q I rx ry ⟨_, _, tx.int, ty.int, hc, q _ (.int _)⟩
    · cases hf
  · split at hf
    · rename_i hc
      cases hf; exact iop_shr pins s σ H x y v u Q I rx ry ⟨_, _, tx.int, ty.int, hc, q _ (.int _)⟩
    · cases hf
  · cases hf; exact iop_and pins s σ H x y v u Q I rx ry ⟨_, _, tx.int, ty.int, q _ (.int _)⟩
  · cases hf; exact iop_or pins s σ H x y v u Q I rx ry ⟨_, _, tx.int, ty.int, q _ (.int _)⟩
  · cases hf; exact iop_xor pins s σ H x y v u Q I rx ry ⟨_, _, tx.int, ty.int, q _ (.int _)⟩
  · cases hf
/-- a number or a text -/
theorem aug_flat {o : Operator} {a b r : D} (h : augD o a b = some r) : (∀ {K : PySem.W.Frag} {M H M' H' : Hp} {v : V}, Top K M H v a → Top K M' H' v a) := by
  intro K M H M' H' v t
  have ha : (∃ i, a = .int i) ∨ ∃ s, a = .str s := by
    unfold augD at h
    split at h <;> first | exact .inl ⟨_, rfl⟩ | exact .inr ⟨_, rfl⟩ | cases h
  rcases ha with ⟨i, rfl⟩ | ⟨s, rfl⟩
  · rw [t.int]; exact .inl (.int _)
  · rw [t.str]; exact .inl (.str _)
theorem s_aug (C : Cok T P Γ X) {v : Str} {p pos : Pos} {o : Operator} {e : Expr} {i : Nat} {x : Ex} (h1 : Γ.N[i]? = some v) (h2 : locB Γ v = true) (h3 : CX Γ e x) : PS X (.AugAssign (.Name v p) o e pos) (tS X.K (es1 T P m (.aug i o x))) := by
  obtain ⟨l1, l2⟩ := locB_loc C h2
  refine (ps_aug (ti := rA X.K (augD o)) (by rw [C.N]; exact C.nd) (by rw [C.N]; exact h1) l1 (pe_opd C h3 (okX h3 X C)) (fun pins s σ H x y v u Q I rx ry q => opr_aug o pins s σ H x y v u Q I rx ry q) l2).imp fun De σ H ⟨M, e, D0, w⟩ => ?_
  simp only [es1] at w
  split at w
  · rename_i a hp
    obtain ⟨w0, z1, tp⟩ := pk_slot D0 hp
    obtain ⟨y, e1, hx, w1⟩ := Ans.wp_bind w
    refine ⟨w0, z1, M, e, D0, y, e1, hx, fun u M1 H1 D1 S1 r1 => ?_⟩
    split at w1
    · rename_i b hpb
      split at w1
      · rename_i r hr
        have w2 := val_wp w1
        refine ⟨M1, a, b, r, D1.same, aug_flat hr tp, D1.peek r1 hpb, hr, fun z rz => ?_⟩
        have hi : i < e1.length := by
          have h0 := (List.getElem?_eq_some_iff.mp z1).1
          rw [D1.len]; exact h0
        exact w2 _ M1 H1 (D1.put (b := .sh r) rz (fun z => by cases z) hi) (S1.put (b := .sh r) (fun z => by cases z) (fun _ z => by cases z) hi D1.len)
      · exact (stuck_wp w1).elim
    · exact (stuck_wp w1).elim
  · exact (stuck_wp w).elim
theorem swap_par {x y : Str} {px py pt pt2 : Pos} {a b : Expr} {xs : Exs} {kt k2 : Nat} {env : PySem.Env} (c : CXs Γ [a, b] xs) (hk : env.scope.kind = .function) (hx : env.scope.names.lookup x = some .local) (hy : env.scope.names.lookup y = some .local)
    (hl : (px.line == py.line) = true) (h9 : [a, b].all (foldedForSure 8) = false) (h10 : [a, b].all (constantsAlone 8) = false) (h11 : (x == y) = false) :
    swappedStores [.Tuple [.Name x px, .Name y py] kt pt] (.Tuple [a, b] k2 pt2) env = pure (some [x, y]) := by
  have kx : env.kindOf x = some .local := hx
  have ky : env.kindOf y = some .local := hy
  have hb : env.blockKind = .function := by unfold Env.blockKind; rw [hk]; rfl
  have hl' : py.line = px.line := (beq_iff_eq.mp hl).symm
  have hs : ([a, b].any fun | .Starred .. => true | _ => false) = false := by
    cases c with
    | cons c1 c2 =>
      cases c2 with
      | cons c2 c3 =>
        cases c1 <;> cases c2 <;> rfl
  have hne : (Option.some NameKind.local == some NameKind.local) = true := by decide
  have hed : ([x, y].eraseDups).length = 2 := by
    have : [x, y].eraseDups = [x, y] := by
      rw [List.eraseDups_cons]
      have : (y == x) = false := by
        cases q : (y == x) with
        | false => rfl
        | true => rw [eq_of_beq q] at h11; simp at h11
      simp [this, List.eraseDups_cons]
    rw [this]; rfl
  unfold swappedStores
  simp only [Expr.pos, List.length_cons, List.length_nil, List.head?_cons, Option.map_some, Option.getD_some, List.filterMap_cons, List.filterMap_nil, kx, ky, hl', hb, hs, h9, h10, hne, beq_self_eq_true, Bool.and_self, if_true]
  simp [hed]
  intro h
  exfalso
  cases c with
  | cons c1 c2 =>
    cases c2 with
    | cons c2 c3 => cases c1 <;> cases c2 <;> simp at h
theorem s_par (C : Cok T P Γ X) {x y : Str} {a b : Expr} {px py pt pt2 pos : Pos} {kt k2 : Nat} {i j : Nat} {xs : Exs} (h1 : Γ.N[i]? = some x) (h2 : Γ.N[j]? = some y) (h3 : (i == j) = false) (h4 : (match Γ.sc.names.lookup x with | some .local => true | _ => false) = true) (h5 : (match Γ.sc.names.lookup y with | some .local => true | _ => false) = true)
      (h6 : CXs Γ [a, b] xs) (h7 : (match Γ.sc.kind with | .function => true | _ => false) = true) (h8 : (px.line == py.line) = true) (h9 : [a, b].all (foldedForSure 8) = false) (h10 : [a, b].all (constantsAlone 8) = false) (h11 : (x == y) = false) :
      PS X (.Assign [.Tuple [.Name x px, .Name y py] kt pt] (.Tuple [a, b] k2 pt2) pos) (tS X.K (es1 T P m (.par [i, j] xs))) := by
  have f1 : X.env.scope.kind = .function := by
    rw [C.sc]
    split at h7
    · assumption
    · cases h7
  have f2 : X.env.scope.names.lookup x = some .local := by
    rw [C.sc]
    split at h4
    · assumption
    · cases h4
  have f3 : X.env.scope.names.lookup y = some .local := by
    rw [C.sc]
    split at h5
    · assumption
    · cases h5
  have P0 := ps_par (k2 := k2) (kt := kt) (pt := pt) (pt2 := pt2) (px := px) (py := py) (pos := pos) C.calm (by rw [C.N]; exact C.nd) (by rw [C.N]; exact h1) (by rw [C.N]; exact h2) (by intro z; simp [z] at h3) f2 f3 (okXs h6 X C) (swap_par h6 f1 f2 f3 h8 h9 h10 h11)
  refine ⟨fun pins s σ H De I q => P0.run pins s σ H De I ?_⟩
  obtain ⟨M, e, D0, w⟩ := q
  have hi : i < e.length := by rw [D0.len, I.len, C.N]; exact (List.getElem?_eq_some_iff.mp h1).1
  have hj : j < e.length := by rw [D0.len, I.len, C.N]; exact (List.getElem?_eq_some_iff.mp h2).1
  simp only [es1] at w
  obtain ⟨ops, e1, hx, w1⟩ := Ans.wp_bind w
  refine ⟨M, e, D0, ops, e1, hx, fun vs M1 H1 D1 S1 r1 => ?_⟩
  split at w1
  · rename_i ds e2 ht
    split at w1
    · rename_i e3 ha
      have w2 := val_wp w1
      obtain ⟨M2, D2, S2, r2⟩ := D1.takes r1 ht
      have le : e2.length = e.length := by rw [D2.len, D0.len]
      obtain ⟨hl, σ', hσ, D3, S3, _⟩ := asgN_ok D2 (S1.trans S2) r2 (fun k hk => by
        rw [le]
        rcases List.mem_cons.mp hk with rfl | hk
        · exact hi
        · rcases List.mem_cons.mp hk with rfl | hk
          · exact hj
          · cases hk) ha
      have : ∃ v w, vs = [v, w] := by
        match vs, hl with
        | [v, w], _ => exact ⟨v, w, rfl⟩
      obtain ⟨v, w, rfl⟩ := this
      refine ⟨v, w, rfl, ?_⟩
      have e4 : σ' = (σ.set i (some v)).set j (some w) := hσ
      rw [← e4]
      exact w2 σ' M2 H1 D3 S3
    · exact (stuck_wp w1).elim
  · exact (stuck_wp w1).elim
theorem s_ex {e : Expr} {pos : Pos} {x : Ex} (p : PE X e (tE X.K (ev T P x))) (h2 : lcB e = false) : PS X (.Expr e pos) (tS X.K (es1 T P m (.ex x))) := by
  refine (ps_expr p (sw_not h2)).imp fun De σ H ⟨M, e, D0, w⟩ => ?_
  simp only [es1] at w
  obtain ⟨r, e1, hx, w1⟩ := Ans.wp_bind w
  have w2 := val_wp w1
  exact ⟨M, e, D0, r, e1, hx, fun v M1 H1 D1 S1 _ => w2 σ M1 H1 D1 S1⟩
theorem s_doc {x : Str} {j : Nat} {pos pos' : Pos} : PS X (.Expr (.Constant (.str x) j pos) pos') (tS X.K (es1 T P m .pass)) := by
  refine ps_doc.imp fun De σ H ⟨M, e, D0, w⟩ => ?_
  simp only [es1] at w
  exact val_wp w σ M H D0 Stp.refl
theorem s_pass {pos : Pos} : PS X (.Pass pos) (tS X.K (es1 T P m .pass)) := by
  refine ps_pass.imp fun De σ H ⟨M, e, D0, w⟩ => ?_
  simp only [es1] at w
  exact val_wp w σ M H D0 Stp.refl
theorem s_brk {pos : Pos} : PS X (.Break pos) (tS X.K (es1 T P m .brk)) := by
  refine ps_break.imp fun De σ H ⟨M, e, D0, w⟩ => ?_
  simp only [es1] at w
  exact val_wp w σ M H D0 Stp.refl
theorem s_cnt {pos : Pos} : PS X (.Continue pos) (tS X.K (es1 T P m .cnt)) := by
  refine ps_continue.imp fun De σ H ⟨M, e, D0, w⟩ => ?_
  simp only [es1] at w
  exact val_wp w σ M H D0 Stp.refl
theorem s_never {s : Stmt} : PS X s (tS X.K (es1 T P m .never)) := by
  refine ps_never.imp fun De σ H ⟨M, e, D0, w⟩ => ?_
  simp only [es1] at w
  exact (stuck_wp w).elim
theorem s_ret0 {pos : Pos} : PS X (.Return none pos) (tS X.K (es1 T P m .ret0)) := by
  refine ps_retN.imp fun De σ H ⟨M, e, D0, w⟩ => ?_
  simp only [es1] at w
  exact val_wp w .non σ M H D0 Stp.refl (Res.toR (Res.still .non))
theorem s_ret (C : Cok T P Γ X) {e : Expr} {pos : Pos} {x : Ex} (c : CX Γ e x) : PS X (.Return (some e) pos) (tS X.K (es1 T P m (.ret x))) := by
  by_cases hx : ∃ i, x = .var i
  · obtain ⟨i, rfl⟩ := hx
    cases c with
    | one _ h2 => exact absurd rfl (h2 i)
    | var h1 h2 h3 =>
      obtain ⟨d1, d2⟩ := nodbg_of h3
      refine (ps_ret (pe_var (i := i) (by rw [C.N]; exact h1) (visB_vis C h2) d1 d2)).imp fun De σ H ⟨M, e, D0, w⟩ => ?_
      simp only [es1] at w
      split at w
      · rename_i d hb
        have w := val_wp w
        obtain ⟨v, z1, a, rfl, o⟩ := D0.slot i _ hb
        refine ⟨.ref a, z1, w (.ref a) σ M H (D0.drop i) (Stp.drop i) ?_⟩
        unfold ResR
        rw [if_pos rfl]
        refine ⟨a, rfl, .inl ⟨i, .ow d, hb, rfl, z1⟩, fun ⟨j, b, h1, h2, h3⟩ => ?_, o⟩
        by_cases hj : j = i
        · subst hj
          rw [getB_setB_same (getB_lt hb)] at h1; cases h1
        · rw [getB_setB_ne hj] at h1
          exact hj (D0.inj j i a ⟨b, h1, h2, h3⟩ ⟨.ow d, hb, rfl, z1⟩)
      · rename_i d hb
        have w := val_wp w
        obtain ⟨v, z1, r⟩ := D0.slot i _ hb
        exact ⟨v, z1, w v σ M H D0 Stp.refl (Res.toR (Res.still r))⟩
      · exact (stuck_wp w).elim
  · refine (ps_ret (okX c X C)).imp fun De σ H ⟨M, e, D0, w⟩ => ⟨M, e, D0, ?_⟩
    have e1 : es1 T P m (.ret x) e = (ev T P x e).bind fun r e1 => .val (.rt r.1 r.2) e1 := by
      cases x <;> first | rfl | exact absurd ⟨_, rfl⟩ hx
    rw [e1] at w
    refine (Ans.wp_bind w).imp fun r e2 w2 v M' H' D1 S1 rs => ?_
    exact val_wp w2 v σ M' H' D1 S1 (Res.toR rs)
theorem s_ite {c : Expr} {a b : List Stmt} {pos : Pos} {t : Tt} {x y : Sms} (pc : PT X c (tT X.K (evt T P t))) (pa : PSs X a (tS X.K (es T P m x))) (pb : PSs X b (tS X.K (es T P m y))) : PS X (.If c a b pos) (tS X.K (es1 T P m (.ite t x y))) := by
  refine (ps_if pc pa pb).imp fun De σ H ⟨M, e, D0, w⟩ => ?_
  simp only [es1] at w
  obtain ⟨k, e1, hx, w1⟩ := Ans.wp_bind w
  refine ⟨M, e, D0, k, e1, hx, fun M1 H1 D1 S1 => ?_⟩
  cases k with
  | true =>
    rw [if_pos rfl] at w1 ⊢
    exact ⟨M1, e1, D1, w1.imp fun fl e2 q => q.from S1⟩
  | false =>
    rw [if_neg (by simp)] at w1 ⊢
    exact ⟨M1, e1, D1, w1.imp fun fl e2 q => q.from S1⟩
theorem ss_nil : PSs X [] (tS X.K (es T P m .nil)) := by
  refine pss_nil.imp fun De σ H ⟨M, e, D0, w⟩ => ?_
  simp only [es] at w
  exact val_wp w σ M H D0 Stp.refl
theorem ss_cons {s : Stmt} {r : List Stmt} {x : Sm} {xs : Sms} (p : PS X s (tS X.K (es1 T P m x))) (q : PSs X r (tS X.K (es T P m xs))) : PSs X (s :: r) (tS X.K (es T P m (.cons x xs))) := by
  refine (pss_cons p q).imp fun De σ H ⟨M, e, D0, w⟩ => ?_
  simp only [es] at w
  refine ⟨M, e, D0, (Ans.wp_bind w).imp fun fl e1 w1 => ?_⟩
  cases fl with
  | nx => exact fun σ' M' H' D1 S1 => ⟨M', e1, D1, w1.imp fun fl e2 z => z.from S1⟩
  | bk =>
    have w2 := val_wp w1
    exact w2
  | ct =>
    have w2 := val_wp w1
    exact w2
  | rt f d =>
    have w2 := val_wp w1
    exact w2
/-! ### loops -/
theorem s_wh {c : Expr} {a : List Stmt} {pos : Pos} {t : Tt} {x : Sms} (hp : PassesOwn (model X.prog X.w) X.A X.env X.xe) (pc : PT X c (tT X.K (evt T P t))) (pa : PSs X a (tS X.K (es T P m x))) : PS X (.While c a [] pos) (tS X.K (es1 T P m (.wh t x))) := by
  refine (ps_while hp pc pa).imp fun De σ H ⟨M, e, D0, w⟩ => ?_
  simp only [es1] at w
  refine ⟨fun n σ2 H2 => ∃ M2 e2, Vd X.K M2 e2 σ2 H2 ∧ Stp e σ M H e2 σ2 M2 H2 ∧ (whN (evt T P t) (es T P m x) n e2).wp (Post X.K De e σ M H), ⟨m, M, e, D0, Stp.refl, w⟩, fun n σ2 H2 ⟨M2, e2, D2, S2, w2⟩ => ?_⟩
  cases n with
  | zero => exact (stuck_wp w2).elim
  | succ n =>
    simp only [whN] at w2
    obtain ⟨k, e3, hc, w3⟩ := Ans.wp_bind w2
    refine ⟨M2, e2, D2, k, e3, hc, fun M3 H3 D3 S3 => ?_⟩
    cases k with
    | false =>
      rw [if_neg (by simp)] at w3 ⊢
      exact val_wp w3 σ2 M3 H3 D3 (S2.trans S3)
    | true =>
      rw [if_pos rfl] at w3 ⊢
      refine ⟨_, fun σ' H' z => ⟨n, Nat.lt_succ_self n, z⟩, M3, e3, D3, (Ans.wp_bind w3).imp fun fl e4 w4 => ?_⟩
      cases fl with
      | nx => exact fun σ' M' H' D4 S4 => ⟨M', e4, D4, (S2.trans S3).trans S4, w4⟩
      | ct => exact fun σ' M' H' D4 S4 => ⟨M', e4, D4, (S2.trans S3).trans S4, w4⟩
      | bk =>
        have w4 := val_wp w4
        exact fun σ' M' H' D4 S4 => w4 σ' M' H' D4 ((S2.trans S3).trans S4)
      | rt fr d =>
        have w4 := val_wp w4
        exact Post.from (De := { De with nx := _, ct := _, bk := De.nx }) (S2.trans S3) w4
theorem s_for (C : Cok T P Γ X) {tg it : Expr} {a : List Stmt} {pos : Pos} {g : Tg} {w : It} {x : Sms} (hp : PassesOwn (model X.prog X.w) X.A X.env X.xe) (h1 : CG Γ tg g) (h2 : CI Γ tg it w) (pa : PSs X a (tS X.K (es T P m x))) :
    PS X (.For tg it a [] pos) (tS X.K (es1 T P m (.for g w x))) := by
  refine (ps_for hp C.calm (okI h2 X C) (pg_tg C h1) pa (fold_plain h2 _)).imp fun De σ H ⟨M, e, D0, wp⟩ => ?_
  simp only [es1] at wp
  obtain ⟨items, e1, hit, w1⟩ := Ans.wp_bind wp
  refine ⟨M, e, D0, items, e1, hit, fun J M1 H1 D1 S1 wk => ?_⟩
  generalize hf : (fun d e2 => match asgT g false d e2 with
        | some e3 => es T P m x e3
        | none => Ans.stuck) = f at w1
  refine for_it wk (fun i σ2 H2 => ∃ M2 e2, Vd X.K M2 e2 σ2 H2 ∧ Stp e1 σ M1 H1 e2 σ2 M2 H2 ∧ (forN f (items.drop i) e2).wp (Post X.K De e σ M H)) ⟨M1, e1, D1, Stp.refl, by simpa using w1⟩ (fun i σ2 H2 _ ⟨M2, e2, D2, S2, _⟩ => S2.same.trans D2.same) (fun i v σ2 H2 H' hi ⟨M2, e2, D2, S2, w2⟩ ⟨d, hd, y⟩ => ?_) (fun σ2 H2 ⟨M2, e2, D2, S2, w2⟩ => ?_)
  · obtain ⟨M3, pu, rv⟩ := y M2 S2.same D2.same
    have hdrop : items.drop i = d :: items.drop (i + 1) := by
      rw [List.drop_eq_getElem_cons hi]
      have := List.getElem?_eq_getElem hi
      rw [hd] at this
      rw [← Option.some.inj this]
    rw [hdrop] at w2
    simp only [forN] at w2
    obtain ⟨fl, e4, h4, w3⟩ := Ans.wp_bind w2
    rw [← hf] at h4
    simp only at h4
    split at h4
    · rename_i e3 ha
      have D3 := pu.vd D2
      have S3 := S2.trans (pu.stp (e := e2) (σ := σ2))
      refine ⟨M1, e1, σ, H1, M3, e2, (false, d), e3, D3, S3, Res.still rv, ha, fun σ3 D4 S4 _ => ⟨M3, e3, D4, fl, e4, h4, ?_⟩⟩
      cases fl with
      | nx => exact fun σ' M' H' D5 S5 => ⟨M', e4, D5, S4.trans S5, w3⟩
      | ct => exact fun σ' M' H' D5 S5 => ⟨M', e4, D5, S4.trans S5, w3⟩
      | bk =>
        have w3 := val_wp w3
        exact fun σ' M' H' D5 S5 => w3 σ' M' H' D5 (S1.trans (S4.trans S5))
      | rt fr d =>
        have w3 := val_wp w3
        exact Post.from (De := { De with nx := _, ct := _, bk := De.nx }) (S1.trans S4) w3
    · cases h4
  · rw [List.drop_length] at w2
    simp only [forN] at w2
    exact val_wp w2 σ2 M2 H2 D2 (S1.trans S2)
mutual
theorem okS : ∀ {s : Stmt} {x : Sm}, CS Γ s x → ∀ X, Cok T P Γ X → PassesOwn (model X.prog X.w) X.A X.env X.xe → PS X s (tS X.K (es1 T P m x))
  | _, _, .asg h1 h2 h3 h4, X, C, hp => s_asg C h1 h2 h3 h4
  | _, _, .lc h1 h2 h3, X, C, hp => s_lc C h1 h2 h3
  | _, _, .lcc h1 h2 h3, X, C, hp => s_lcc C h1 h2 h3
  | _, _, .setx h1 h2 h3 h4 h5 h6, X, C, hp => s_setx C h1 h2 h3 h4 h5 h6
  | _, _, .aug h1 h2 h3, X, C, hp => s_aug C h1 h2 h3
  | _, _, .par h1 h2 h3 h4 h5 h6 h7 h8 h9 h10 h11, X, C, hp => s_par C h1 h2 h3 h4 h5 h6 h7 h8 h9 h10 h11
  | _, _, .app h1 h2 h3 h4 h5, X, C, hp => s_app C h1 h2 h3 h4 h5
  | _, _, .ext h1 h2 h3 h4 h5, X, C, hp => s_ext C h1 h2 h3 h4 h5
  | _, _, .doc, X, C, hp => s_doc
  | _, _, .ex h1 h2, X, C, hp => s_ex (okX h1 X C) h2
  | _, _, .ret h1, X, C, hp => s_ret C h1
  | _, _, .ret0, X, C, hp => s_ret0
  | _, _, .ite h1 h2 h3, X, C, hp => s_ite (okT h1 X C).1 (okSs h2 X C hp) (okSs h3 X C hp)
  | _, _, .wh h1 h2, X, C, hp => s_wh hp (okT h1 X C).1 (okSs h2 X C hp)
  | _, _, .for h1 h2 h3, X, C, hp => s_for C hp h1 h2 (okSs h3 X C hp)
  | _, _, .brk, X, C, hp => s_brk
  | _, _, .cnt, X, C, hp => s_cnt
  | _, _, .pass, X, C, hp => s_pass
  | _, _, .never, X, C, hp => s_never
termination_by s => sizeOf s
theorem okSs : ∀ {s : List Stmt} {x : Sms}, CSs Γ s x → ∀ X, Cok T P Γ X → PassesOwn (model X.prog X.w) X.A X.env X.xe → PSs X s (tS X.K (es T P m x))
  | _, _, .nil, X, C, hp => ss_nil
  | _, _, .cons h1 h2, X, C, hp => ss_cons (okS h1 X C hp) (okSs h2 X C hp)
termination_by s => sizeOf s
end
end
end L2.Eng
namespace L2.Eng
open PySem PySem.Spec PyProof.Rows
/-! ## a def keeps its promise -/
section
variable {K : PySem.W.Frag}
theorem getB_append : ∀ (a b : Env) (i : Nat), getB (a ++ b) i = if i < a.length then getB a i else getB b (i - a.length)
  | [], b, i => by simp
  | x :: a, b, 0 => by simp [getB]
  | x :: a, b, i + 1 => by
    simp only [List.cons_append, getB, List.length_cons]
    rw [getB_append a b i]
    by_cases h : i < a.length
    · rw [if_pos h, if_pos (by omega)]
    · rw [if_neg h, if_neg (by omega)]
      congr 1
      omega
theorem getB_nones : ∀ (n i : Nat), getB (List.replicate n none) i = none
  | 0, i => rfl
  | n + 1, 0 => rfl
  | n + 1, i + 1 => by simpa [List.replicate_succ, getB] using getB_nones n i
theorem getB_pad (bs : List B) (n i : Nat) : getB (bs.map some ++ List.replicate n none) i = getB (bs.map some) i := by
  rw [getB_append]
  split
  · rfl
  · rename_i h
    rw [getB_nones, getB_none_of_le (by omega)]
theorem pad_at {vs : List V} {n i : Nat} {x : V} : (vs.map some ++ List.replicate n none)[i]? = some (some x) ↔ (vs.map some)[i]? = some (some x) := by
  by_cases h : i < (vs.map some).length
  · rw [List.getElem?_append_left h]
  · rw [List.getElem?_append_right (by omega), List.getElem?_eq_none (l := vs.map some) (by omega)]
    constructor
    · intro z
      rw [List.getElem?_replicate] at z
      split at z
      · cases z
      · cases z
    · intro z; cases z
theorem ownAt_pad {bs : List B} {vs : List V} {n k : Nat} {i : Nat} {a : Addr} : OwnAt (bs.map some ++ List.replicate n none) (vs.map some ++ List.replicate k none) i a ↔ OwnAt (bs.map some) (vs.map some) i a := by
  unfold OwnAt
  rw [getB_pad]
  constructor
  · rintro ⟨b, h1, h2, h3⟩; exact ⟨b, h1, h2, pad_at.mp h3⟩
  · rintro ⟨b, h1, h2, h3⟩; exact ⟨b, h1, h2, pad_at.mpr h3⟩
theorem owns_pad {bs : List B} {vs : List V} {n k : Nat} {a : Addr} : Owns (bs.map some ++ List.replicate n none) (vs.map some ++ List.replicate k none) a ↔ Owns (bs.map some) (vs.map some) a := by
  unfold Owns
  constructor
  · rintro ⟨i, h⟩; exact ⟨i, ownAt_pad.mp h⟩
  · rintro ⟨i, h⟩; exact ⟨i, ownAt_pad.mpr h⟩
theorem Vd.pad {bs : List B} {vs : List V} {M H : Hp} (D0 : Vd K M (bs.map some) (vs.map some) H) (n : Nat) : Vd K M (bs.map some ++ List.replicate n none) (vs.map some ++ List.replicate n none) H := by
  refine ⟨D0.same, by simp only [List.length_append, List.length_replicate, D0.len], fun i b hb => ?_, fun i j a hi hj => D0.inj i j a (ownAt_pad.mp hi) (ownAt_pad.mp hj)⟩
  rw [getB_pad] at hb
  obtain ⟨v, h1, h2⟩ := D0.slot i b hb
  exact ⟨v, pad_at.mpr h1, h2⟩
/-- what outsOf says, place by place -/
theorem outs_at : ∀ {bs : List B} {e : Env} {outs : List B}, outsOf bs e = some outs → outs.length = bs.length ∧ ∀ i b, bs[i]? = some b → (∃ d, b = .sh d ∧ outs[i]? = some (.sh d)) ∨ ∃ d d', b = .io d ∧ getB e i = some (.io d') ∧ outs[i]? = some (.io d')
  | [], _, outs, h => by
    simp only [outsOf, Option.some.injEq] at h
    subst h
    exact ⟨rfl, fun i b hb => by simp at hb⟩
  | b :: bs, [], outs, h => by simp [outsOf] at h
  | b :: bs, x :: e, outs, h => by
    simp only [outsOf] at h
    cases q : outsOf bs e with
    | none => rw [q] at h; cases h
    | some r =>
      rw [q] at h
      obtain ⟨l, ih⟩ := outs_at q
      cases b with
      | sh d =>
        have h : some (.sh d :: r) = some outs := h
        cases h
        refine ⟨by simp [l], fun i b hb => ?_⟩
        cases i with
        | zero => simp at hb; subst hb; exact .inl ⟨d, rfl, rfl⟩
        | succ i => simpa [getB] using ih i b (by simpa using hb)
      | ow d => simp at h
      | io d =>
        cases x with
        | none => simp at h
        | some y =>
          cases y with
          | sh _ => simp at h
          | ow _ => simp at h
          | io d' =>
            have h : some (.io d' :: r) = some outs := h
            cases h
            refine ⟨by simp [l], fun i b hb => ?_⟩
            cases i with
            | zero => simp at hb; subst hb; exact .inr ⟨d, d', rfl, rfl, rfl⟩
            | succ i => simpa [getB] using ih i b (by simpa using hb)
/-- back at the caller's side -/
theorem outs_ok {bs outs : List B} {vs : List V} {n k : Nat} {e' : Env} {σ' : St} {M H M' H' : Hp} (D0 : Vd K M (bs.map some) (vs.map some) H) (D1 : Vd K M' e' σ' H') (S : Stp (bs.map some ++ List.replicate n none) (vs.map some ++ List.replicate n none) M H e' σ' M' H')
    (ho : outsOf bs e' = some outs) : Vd K M' (outs.map some) (vs.map some) H' ∧ Stp (bs.map some) (vs.map some) M H (outs.map some) (vs.map some) M' H' ∧ (∀ a, Owns (bs.map some) (vs.map some) a → Owns e' σ' a) ∧ ∀ a, Owns (outs.map some) (vs.map some) a → Owns e' σ' a := by
  obtain ⟨hl, at_⟩ := outs_at ho
  have lb : bs.length = vs.length := by have := D0.len; simpa using this
  -- a lent thing is at its place still
  have io : ∀ i d', getB e' i = some (.io d') → σ'[i]? = (vs.map some ++ List.replicate n none)[i]? := fun i d' h => (S.io i d' h).2
  have at' : ∀ i b, getB (outs.map some) i = some b → (∃ d, b = .sh d ∧ getB (bs.map some) i = some (.sh d)) ∨ ∃ d d', b = .io d' ∧ getB (bs.map some) i = some (.io d) ∧ getB e' i = some (.io d') := fun i b h => by
    rw [getB_map] at h
    have hi : i < bs.length := by rw [← hl]; exact (List.getElem?_eq_some_iff.mp h).1
    rcases at_ i bs[i] (List.getElem?_eq_getElem hi) with ⟨d, h1, h2⟩ | ⟨d, d', h1, h2, h3⟩
    · rw [h] at h2
      exact .inl ⟨d, Option.some.inj h2, by rw [getB_map, List.getElem?_eq_getElem hi, h1]⟩
    · rw [h] at h3
      exact .inr ⟨d, d', Option.some.inj h3, by rw [getB_map, List.getElem?_eq_getElem hi, h1], h2⟩
  have own : ∀ i a, OwnAt (outs.map some) (vs.map some) i a → OwnAt e' σ' i a := fun i a ⟨b, h1, h2, h3⟩ => by
    rcases at' i b h1 with ⟨d, rfl, _⟩ | ⟨d, d', rfl, _, q⟩
    · cases h2
    · exact ⟨.io d', q, rfl, by rw [io i d' q]; exact pad_at.mpr h3⟩
  have own0 : ∀ a, Owns (bs.map some) (vs.map some) a → Owns e' σ' a := fun a ⟨i, b, h1, h2, h3⟩ => by
    rw [getB_map] at h1
    rcases at_ i b h1 with ⟨d, rfl, _⟩ | ⟨d, d', rfl, q, _⟩
    · cases h2
    · exact ⟨i, .io d', q, rfl, by rw [io i d' q]; exact pad_at.mpr h3⟩
  refine ⟨⟨D1.same, by simp [hl, lb], fun i b hb => ?_, fun i j a hi hj => D1.inj i j a (own i a hi) (own j a hj)⟩, ⟨S.same, fun b o h no => S.keep b o h fun w => no (owns_pad.mp w), fun b o h no => (S.new b o h no).imp id owns_pad.mp, fun b ⟨i, w⟩ => (S.own b ⟨i, own i b w⟩).imp owns_pad.mp id, S.there, fun i d hi => ?_⟩, own0, fun a ⟨i, w⟩ => ⟨i, own i a w⟩⟩
  · rcases at' i b hb with ⟨d, rfl, q⟩ | ⟨d, d', rfl, _, q⟩
    · obtain ⟨v, h1, h2⟩ := D0.slot i _ q
      exact ⟨v, h1, Rep.mono S.same h2⟩
    · obtain ⟨v, h1, h2⟩ := D1.slot i _ q
      rw [io i d' q] at h1
      exact ⟨v, pad_at.mp h1, h2⟩
  · rcases at' i _ hi with ⟨d, z, _⟩ | ⟨d, d', _, q, _⟩
    · cases z
    · exact ⟨⟨d, q⟩, rfl⟩
end
/-- a def of the program, and its code -/
structure Rec where
  name : Str
  st : Stmt
  N : List Str
  ps : List Str
  fn : Fn
/-- the context of all defs -/
def Rec.gam (r : Rec) (fns : List (Str × Nat)) : Gam := ⟨r.N, defScope r.st, fun _ => true, fns⟩
structure Rec.Ok (fns : List (Str × Nat)) (r : Rec) : Prop where
  sc : FnScope r.N r.ps (defScope r.st)
  code : CSs (r.gam fns) (defBody r.st) r.fn.body
  np : r.fn.np = r.ps.length
  ns : r.fn.ns = r.N.length
  io : r.fn.io.length = r.fn.np
structure Here (K : PySem.W.Frag) (mg : Str → Option Value) (r : Rec) (fa : Addr) (fd : FuncData) : Prop where
  fn : Fun K r.name r.name r.st fa fd
  mg : mg r.name = some (.ref fa)
  binds : Binds K fd r.ps []
section
variable {P0 : Program} {w : World} {K : PySem.W.Frag} {mg : Str → Option Value} {base : Heap} {m : Nat}
theorem fn_ok {fns : List (Str × Nat)} {rs : List Rec} (ok : ∀ r ∈ rs, r.Ok fns) (hb : ∀ x ∈ bltNames, mg x = none) (hf : ∀ x f, fns.lookup x = some f → ∃ r fa fd, rs[f]? = some r ∧ r.name = x ∧ Here K mg r fa fd) :
    ∀ (n f : Nat) (r : Rec) (fa : Addr) (fd : FuncData), rs[f]? = some r → Here K mg r fa fd → FnOk P0 w K mg base CX0 n fa fd r.ps (SpF K (callF (rs.map Rec.fn) m n) f r.fn.np)
  | 0, f, r, fa, fd, hr, h => by
    have no : ∀ vs H Q E, ¬ SpF K (callF (rs.map Rec.fn) m 0) f r.fn.np vs H Q E := fun vs H Q E ⟨_, M, bs, fr, d, outs, _, h, _⟩ => by
      simp [callF] at h
    exact ⟨fun vs H Q E h => absurd h (no vs H Q E), fun A outer s H args us vs Q E _ _ _ _ h => absurd h (no vs H Q E)⟩
  | n + 1, f, r, fa, fd, hr, h => by
    have R : r.Ok fns := ok r (List.mem_of_getElem? hr)
    refine h.fn.ok R.sc (fun vs H Q E q => by rw [q.1, R.np]) (fun cdv A outer s H vs Q E hroom hsp => ?_)
    obtain ⟨hl, M, bs, fr, d, outs, D0, hc, q⟩ := hsp
    refine ⟨tS K (es (rs.map Rec.fn) (callF (rs.map Rec.fn) m n) m r.fn.body), ?_, ?_⟩
    · refine okSs R.code (cxOf CX0 P0 w K mg base r.N r.name (defScope r.st) fa cdv A outer s H E).nox ?_ PassesOwn.never
      refine ⟨rfl, rfl, rfl, rfl, R.sc.nd, ⟨n, hroom⟩, hb, fun x g hx => ?_⟩
      obtain ⟨r', fa', fd', h1, h2, h3⟩ := hf x g hx
      have R' : r'.Ok fns := ok r' (List.mem_of_getElem? h1)
      refine ⟨r'.fn, fa', fd', r'.ps, n, by rw [List.getElem?_map, h1]; rfl, R'.io, R'.np.symm, fn_ok ok hb hf n g r' fa' fd' h1 h3, hroom, by rw [← h2]; exact h3.mg, h3.fn.kp, h3.binds⟩
    · have hT : (rs.map Rec.fn)[f]? = some r.fn := by rw [List.getElem?_map, hr]; rfl
      simp only [callF, hT] at hc
      split at hc
      case isFalse => cases hc
      rename_i hbl
      have hst : start r.N vs = vs.map some ++ List.replicate (r.fn.ns - r.fn.np) none := by
        unfold start; rw [R.ns, hl]
      rw [hst]
      have DP := D0.pad (r.fn.ns - r.fn.np)
      refine ⟨M, _, DP, ?_⟩
      split at hc
      · rename_i fr' d' e' he
        split at hc
        · rename_i outs' ho
          injection hc with c1 c2 c3
          subst c1; subst c2; subst c3
          refine ⟨_, e', he, fun v σ' M' H' D1 S1 rr => ?_⟩
          obtain ⟨DO, SO, o0, o1⟩ := outs_ok (k := 0) D0 D1 S1 ho
          refine q v M' H' DO SO ?_
          unfold ResR at rr
          unfold Res
          split at rr
          · rename_i z
            rw [if_pos z]
            obtain ⟨a, rfl, ha, no, o⟩ := rr
            refine ⟨a, rfl, ?_, fun w => no (o1 a w), o⟩
            rcases ha with ha | ha
            · exact absurd (o0 a (owns_pad.mp ha)) no
            · exact ha
          · rename_i z
            rw [if_neg z]
            exact rr
        · cases hc
      · rename_i e' he
        split at hc
        · rename_i outs' ho
          injection hc with c1 c2 c3
          subst c1; subst c2; subst c3
          refine ⟨_, e', he, fun σ' M' H' D1 S1 => ?_⟩
          obtain ⟨DO, SO, o0, o1⟩ := outs_ok (k := 0) D0 D1 S1 ho
          exact q .non M' H' DO SO (Res.still .non)
        · cases hc
      · cases hc
end
end L2.Eng
namespace L2.Eng
open PySem PySem.Spec PyProof.Rows
/-! ## a checker of code against text -/
def chk (b : Bool) : Option (PLift (b = true)) := match b with
  | true => some ⟨rfl⟩
  | false => none
def chn (b : Bool) : Option (PLift (b = false)) := match b with
  | true => none
  | false => some ⟨rfl⟩
def kEq {α : Type} [BEq α] [LawfulBEq α] (a b : α) : Option (PLift (a = b)) := if h : (a == b) = true then some ⟨eq_of_beq h⟩ else none
def kSlot (Γ : Gam) (i : Nat) (x : Str) : Option (PLift (Γ.N[i]? = some x)) := match Γ.N[i]? with
  | some y => (kEq y x).map fun h => ⟨congrArg some h.down⟩
  | none => none
def Operator.code : Operator → Nat
  | .Add => 0 | .Sub => 1 | .Mult => 2 | .MatMult => 3 | .Div => 4 | .Mod => 5 | .Pow => 6 | .LShift => 7 | .RShift => 8 | .BitOr => 9 | .BitXor => 10 | .BitAnd => 11 | .FloorDiv => 12
def kOp (a b : Operator) : Option (PLift (a = b)) := if h : Operator.code a = Operator.code b then some ⟨by cases a <;> cases b <;> first | rfl | (exact absurd h (by decide))⟩ else none
def kUn (a b : UnaryOp) : Option (PLift (a = b)) := match a, b with
  | .USub, .USub => some ⟨rfl⟩
  | .Invert, .Invert => some ⟨rfl⟩
  | _, _ => none
def CmpOp.code : CmpOp → Nat
  | .Eq => 0 | .NotEq => 1 | .Lt => 2 | .LtE => 3 | .Gt => 4 | .GtE => 5 | .Is => 6 | .IsNot => 7 | .In => 8 | .NotIn => 9
def kCo (a b : CmpOp) : Option (PLift (a = b)) := if h : CmpOp.code a = CmpOp.code b then some ⟨by cases a <;> cases b <;> first | rfl | (exact absurd h (by decide))⟩ else none
def kGs (Γ : Gam) : (es : List Expr) → (is : List Nat) → Option (PLift (CGs Γ es is))
  | [], [] => some ⟨.nil⟩
  | .Name x pos :: es, i :: is => (kSlot Γ i x).bind fun h1 => (chk (locB Γ x)).bind fun h2 => (kGs Γ es is).map fun h3 => ⟨.cons h1.down h2.down h3.down⟩
  | _, _ => none
def kG (Γ : Gam) : (e : Expr) → (t : Tg) → Option (PLift (CG Γ e t))
  | .Name x pos, .nm i => (kSlot Γ i x).bind fun h1 => (chk (locB Γ x)).map fun h2 => ⟨.nm h1.down h2.down⟩
  | .Tuple es k pos, .tp is => (kGs Γ es is).map fun h => ⟨.tp h.down⟩
  | _, _ => none
def kNoVar : (x : Ex) → Option (PLift (∀ i, x ≠ .var i))
  | .var _ => none
  | .cst _ => some ⟨fun _ z => by cases z⟩
  | .tup _ => some ⟨fun _ z => by cases z⟩
  | .lst _ => some ⟨fun _ z => by cases z⟩
  | .bin .. => some ⟨fun _ z => by cases z⟩
  | .un .. => some ⟨fun _ z => by cases z⟩
  | .nt .. => some ⟨fun _ z => by cases z⟩
  | .cmp .. => some ⟨fun _ z => by cases z⟩
  | .cmp2 .. => some ⟨fun _ z => by cases z⟩
  | .and .. => some ⟨fun _ z => by cases z⟩
  | .or .. => some ⟨fun _ z => by cases z⟩
  | .ife .. => some ⟨fun _ z => by cases z⟩
  | .ix .. => some ⟨fun _ z => by cases z⟩
  | .sl .. => some ⟨fun _ z => by cases z⟩
  | .rev .. => some ⟨fun _ z => by cases z⟩
  | .call .. => some ⟨fun _ z => by cases z⟩
  | .prim .. => some ⟨fun _ z => by cases z⟩
  | .comp .. => some ⟨fun _ z => by cases z⟩
  | .pop .. => some ⟨fun _ z => by cases z⟩
  | .dnew => some ⟨fun _ z => by cases z⟩
  | .get .. => some ⟨fun _ z => by cases z⟩
  | .sset .. => some ⟨fun _ z => by cases z⟩
  | .lset .. => some ⟨fun _ z => by cases z⟩
/-- a comprehension's own names and their places -/
def ownOf (N : List Str) (scope : Scope) : List (Str × Nat) := scope.names.filterMap fun (x, k) => match k with
  | .local => some (x, N.findIdx (· == x))
  | .cell => some (x, N.findIdx (· == x))
  | _ => none
mutual
def kX : Nat → (Γ : Gam) → (e : Expr) → (x : Ex) → Option (PLift (CX Γ e x))
  | 0, _, _, _ => none
  | n + 1, Γ, .Name x pos, .var i => (kSlot Γ i x).bind fun h1 => (chk (visB Γ.sc x)).bind fun h2 => (chk (nodbg x)).map fun h3 => ⟨.var h1.down h2.down h3.down⟩
  | n + 1, Γ, .Name x pos, .cst (.ty t) => (kEq (Str.ofString t) x).bind fun h => (chk (tyNames.contains t)).bind fun h1 => (chk (gloB Γ.sc t)).map fun h2 => ⟨h.down ▸ .bty h1.down h2.down⟩
  | n + 1, Γ, .Constant (.int i) j pos, .cst (.int k) => (kEq i k).map fun (h : PLift (i = k)) => ⟨h.down ▸ .int⟩
  | n + 1, Γ, .Constant (.bool i) j pos, .cst (.bl k) => (kEq i k).map fun (h : PLift (i = k)) => ⟨h.down ▸ .bl⟩
  | n + 1, Γ, .Constant .none j pos, .cst .non => some ⟨.non⟩
  | n + 1, Γ, .Constant (.str i) j pos, .cst (.str k) => (kEq i k).map fun (h : PLift (i = k)) => ⟨h.down ▸ .str⟩
  | n + 1, Γ, .Tuple es k pos, .tup xs => (kXs n Γ es xs).map fun h => ⟨.tup h.down⟩
  | n + 1, Γ, .List es pos, .lst xs => (kXs n Γ es xs).map fun h => ⟨.lst h.down⟩
  | n + 1, Γ, .BinOp a o b pos, .bin o' x y => (kOp o o').bind fun h => (kX n Γ a x).bind fun h1 => (kX n Γ b y).map fun h2 => ⟨h.down ▸ .bin h1.down h2.down⟩
  | n + 1, Γ, .UnaryOp o a pos, .un o' x => (kUn o o').bind fun h => (kX n Γ a x).map fun h1 => ⟨h.down ▸ .un h1.down⟩
  | n + 1, Γ, .UnaryOp .Not a pos, .nt x => (kX n Γ a x).map fun h1 => ⟨.nt h1.down⟩
  | n + 1, Γ, .Compare a [o] [b] pos, .cmp o' x y => (kCo o o').bind fun h => (kX n Γ a x).bind fun h1 => (kX n Γ b y).bind fun h2 => (chn (behindInMarks o b)).map fun h3 => ⟨h.down ▸ .cmp h1.down h2.down h3.down⟩
  | n + 1, Γ, .Compare a [o, p] [b, c] pos, .cmp2 o' p' x y z => (kCo o o').bind fun h => (kCo p p').bind fun h' => (kX n Γ a x).bind fun h1 => (kX n Γ b y).bind fun h2 => (kX n Γ c z).bind fun h3 => (chn (behindInMarks p c)).map fun h4 => ⟨h.down ▸ h'.down ▸ .cmp2 h1.down h2.down h3.down h4.down⟩
  | n + 1, Γ, .BoolOp o [a] pos, x => (kX n Γ a x).bind fun h1 => (kNoVar x).map fun h2 => ⟨.one h1.down h2.down⟩
  | n + 1, Γ, .BoolOp .And (a :: b :: r) pos, .and x y => (kX n Γ a x).bind fun h1 => (kX n Γ (.BoolOp .And (b :: r) pos) y).map fun h2 => ⟨.and h1.down h2.down⟩
  | n + 1, Γ, .BoolOp .Or (a :: b :: r) pos, .or x y => (kX n Γ a x).bind fun h1 => (kX n Γ (.BoolOp .Or (b :: r) pos) y).map fun h2 => ⟨.or h1.down h2.down⟩
  | n + 1, Γ, .IfExp c a b pos, .ife t x y => (kT n Γ c t).bind fun h1 => (kX n Γ a x).bind fun h2 => (kX n Γ b y).map fun h3 => ⟨.ife h1.down h2.down h3.down⟩
  | n + 1, Γ, .Subscript a b pos, .ix x y => (kX n Γ a x).bind fun h1 => (kX n Γ b y).bind fun h2 => (chk (plainI b)).map fun h3 => ⟨.ix h1.down h2.down h3.down⟩
  | n + 1, Γ, .Subscript a (.Slice lo hi none p2) pos, .sl x l h => (kX n Γ a x).bind fun h1 => (kO n Γ lo l).bind fun h2 => (kO n Γ hi h).map fun h3 => ⟨.sl h1.down h2.down h3.down⟩
  | n + 1, Γ, .Subscript a (.Slice none none (some (.UnaryOp .USub (.Constant (.int i) k p1) p2)) p3) pos, .rev x => (kEq i 1).bind fun h => (kX n Γ a x).map fun h1 => ⟨by obtain ⟨h⟩ := h; subst h; exact .rev h1.down⟩
  | n + 1, Γ, .Call (.Name f p) (e :: es) [] pos, .call i xs => (match Γ.fns.lookup f with
    | some j => (kEq j i).map fun (h' : PLift (j = i)) => ⟨congrArg some h'.down⟩
    | none => none : Option (PLift (Γ.fns.lookup f = some i))).bind fun h1 => (chk (gloB Γ.sc f)).bind fun h2 => (chk (nodbg f)).bind fun h3 => (kXs n Γ (e :: es) xs).map fun h4 => ⟨.call h1.down h2.down h3.down h4.down⟩
  | n + 1, Γ, .Call (.Name f p) (e :: es) [] pos, .prim q xs => (kEq (Str.ofString q.name) f).bind fun h => (chk (gloB Γ.sc q.name)).bind fun h2 => (kXs n Γ (e :: es) xs).map fun h4 => ⟨h.down ▸ .prim h2.down h4.down⟩
  | n + 1, Γ, .ListComp elt [⟨tg, iter, ifs, 0⟩] scope pos, .comp x t it c own => (kEq ((ownOf Γ.N scope).map (·.2)) own).bind fun h => (chk (blkC Γ.N Γ.sc scope (ownOf Γ.N scope))).bind fun h1 => (kI n Γ tg iter it).bind fun h2 => (kG (Γ.blk scope) tg t).bind fun h3 => (kTs n (Γ.blk scope) ifs c).bind fun h4 => (kX n (Γ.blk scope) elt x).bind fun h5 =>
      (chk (t.slots.all ((ownOf Γ.N scope).map (·.2)).contains)).map fun h6 => ⟨h.down ▸ .comp h1.down h2.down h3.down h4.down h5.down h6.down⟩
  | n + 1, Γ, .Call (.Attribute (.Name x p) a ap) [] [] pos, .pop i => (kEq (Str.ofString "pop") a).bind fun h => (kSlot Γ i x).bind fun h1 => (chk (visB Γ.sc x)).bind fun h2 => (chk (nodbg x)).bind fun h3 => (chk (ap.endLine == pos.line)).map fun h4 => ⟨h.down ▸ .pop h1.down h2.down h3.down h4.down⟩
  | n + 1, Γ, .Dict [] [] pos, .dnew => some ⟨.dnew⟩
  | n + 1, Γ, .Call (.Name f p) [.Call (.Name g p2) [a] [] q] [] pos, .sset x => (kEq (Str.ofString "sorted") f).bind fun h => (kEq (Str.ofString "set") g).bind fun h' => (chk (gloB Γ.sc "sorted")).bind fun h1 => (chk (gloB Γ.sc "set")).bind fun h2 => (kX n Γ a x).map fun h3 => ⟨by obtain ⟨h⟩ := h; obtain ⟨h'⟩ := h'; subst h; subst h'; exact .sset h1.down h2.down h3.down⟩
  | n + 1, Γ, .Call (.Name f p) [.Call (.Name g p2) [a] [] q] [] pos, .lset x => (kEq (Str.ofString "len") f).bind fun h => (kEq (Str.ofString "set") g).bind fun h' => (chk (gloB Γ.sc "len")).bind fun h1 => (chk (gloB Γ.sc "set")).bind fun h2 => (kX n Γ a x).map fun h3 => ⟨by obtain ⟨h⟩ := h; obtain ⟨h'⟩ := h'; subst h; subst h'; exact .lset h1.down h2.down h3.down⟩
  | n + 1, Γ, .Call (.Attribute (.Name x p) a ap) [k, d] [] pos, .get i kx dx => (kEq (Str.ofString "get") a).bind fun h => (kSlot Γ i x).bind fun h1 => (chk (visB Γ.sc x)).bind fun h2 => (chk (nodbg x)).bind fun h3 => (chk (ap.endLine == pos.line)).bind fun h4 => (kX n Γ k kx).bind fun h5 => (kX n Γ d dx).map fun h6 => ⟨h.down ▸ .get h1.down h2.down h3.down h4.down h5.down h6.down⟩
  | _, _, _, _ => none
def kXs : Nat → (Γ : Gam) → (e : List Expr) → (x : Exs) → Option (PLift (CXs Γ e x))
  | 0, _, _, _ => none
  | n + 1, Γ, [], .nil => some ⟨.nil⟩
  | n + 1, Γ, e :: es, .cons x xs => (kX n Γ e x).bind fun h1 => (kXs n Γ es xs).map fun h2 => ⟨.cons h1.down h2.down⟩
  | _, _, _, _ => none
def kO : Nat → (Γ : Gam) → (e : Option Expr) → (x : Exo) → Option (PLift (CXo Γ e x))
  | 0, _, _, _ => none
  | n + 1, Γ, none, .no => some ⟨.no⟩
  | n + 1, Γ, some e, .yes x => (kX n Γ e x).map fun h1 => ⟨.yes h1.down⟩
  | _, _, _, _ => none
def kT : Nat → (Γ : Gam) → (e : Expr) → (x : Tt) → Option (PLift (CT Γ e x))
  | 0, _, _, _ => none
  | n + 1, Γ, .BoolOp o [a] pos, x => (kT n Γ a x).map fun h1 => ⟨.one h1.down⟩
  | n + 1, Γ, .BoolOp .And (a :: b :: r) pos, .and x y => (kT n Γ a x).bind fun h1 => (kT n Γ (.BoolOp .And (b :: r) pos) y).map fun h2 => ⟨.and h1.down h2.down⟩
  | n + 1, Γ, .BoolOp .Or (a :: b :: r) pos, .or x y => (kT n Γ a x).bind fun h1 => (kT n Γ (.BoolOp .Or (b :: r) pos) y).map fun h2 => ⟨.or h1.down h2.down⟩
  | n + 1, Γ, .UnaryOp .Not a pos, .nt x => (kT n Γ a x).map fun h1 => ⟨.nt h1.down⟩
  | n + 1, Γ, .Compare a [o] [b] pos, .e (.cmp o' x y) => (kCo o o').bind fun h => (kX n Γ a x).bind fun h1 => (kX n Γ b y).bind fun h2 => (chn (behindInMarks o b)).map fun h3 => ⟨h.down ▸ .cmp h1.down h2.down h3.down⟩
  | n + 1, Γ, .Compare a [o, p] [b, c] pos, .e (.cmp2 o' p' x y z) => (kCo o o').bind fun h => (kCo p p').bind fun h' => (kX n Γ a x).bind fun h1 => (kX n Γ b y).bind fun h2 => (kX n Γ c z).bind fun h3 => (chn (behindInMarks p c)).map fun h4 => ⟨h.down ▸ h'.down ▸ .cmp2 h1.down h2.down h3.down h4.down⟩
  | n + 1, Γ, a, .e x => (kX n Γ a x).bind fun h1 => (chk (plainT a)).map fun h2 => ⟨.e h1.down h2.down⟩
  | _, _, _, _ => none
def kTs : Nat → (Γ : Gam) → (e : List Expr) → (x : Tt) → Option (PLift (CTs Γ e x))
  | 0, _, _, _ => none
  | n + 1, Γ, [], .tru => some ⟨.nil⟩
  | n + 1, Γ, [a], x => (kT n Γ a x).map fun h1 => ⟨.one h1.down⟩
  | _, _, _, _ => none
def kI : Nat → (Γ : Gam) → (tg e : Expr) → (x : It) → Option (PLift (CI Γ tg e x))
  | 0, _, _, _, _ => none
  | n + 1, Γ, tg, e, .seq x => (kX n Γ e x).map fun h1 => ⟨.seq h1.down⟩
  | n + 1, Γ, tg, .Call (.Name f p) [a] [] pos, .rng x => (kEq (Str.ofString "range") f).bind fun h => (chk (gloB Γ.sc "range")).bind fun h0 => (kX n Γ a x).map fun h1 => ⟨h.down ▸ .rng h0.down h1.down⟩
  | n + 1, Γ, tg, .Call (.Name f p) [a, b] [] pos, .rng2 x y => (kEq (Str.ofString "range") f).bind fun h => (chk (gloB Γ.sc "range")).bind fun h0 => (kX n Γ a x).bind fun h1 => (kX n Γ b y).map fun h2 => ⟨h.down ▸ .rng2 h0.down h1.down h2.down⟩
  | n + 1, Γ, .Tuple elts kk tpos, .Call (.Name f p) [a] [] pos, .enum x => (kEq (Str.ofString "enumerate") f).bind fun h => (chk (gloB Γ.sc "enumerate")).bind fun h0 => (kX n Γ a x).map fun h1 => ⟨h.down ▸ .enum h0.down h1.down⟩
  | _, _, _, _, _ => none
end
def locT (Γ : Gam) (x : Str) : Bool := match Γ.sc.names.lookup x with | some .local => true | _ => false
def kLoc (Γ : Gam) (x : Str) : Option (PLift ((match Γ.sc.names.lookup x with | some .local => true | _ => false) = true)) := chk (match Γ.sc.names.lookup x with | some .local => true | _ => false)
def kFun (Γ : Gam) : Option (PLift ((match Γ.sc.kind with | .function => true | _ => false) = true)) := chk (match Γ.sc.kind with | .function => true | _ => false)
mutual
def kS : Nat → (Γ : Gam) → (s : Stmt) → (x : Sm) → Option (PLift (CS Γ s x))
  | 0, _, _, _ => none
  | n + 1, Γ, .Assign [tg] e pos, .asg t x => match tg, e, t with
    | .Name y py, .ListComp elt [⟨tg1, iter, ifs, 0⟩] scope lpos, .nm i => match cellB Γ y with
      | true => ((kG Γ (.Name y py) (.nm i)).bind fun h1 => (kX n Γ (.ListComp elt [⟨tg1, iter, ifs, 0⟩] scope lpos) x).bind fun h2 => (chk (cellB Γ y)).map fun h3 => ⟨.lcc h1.down h2.down h3.down⟩)
      | false => ((kSlot Γ i y).bind fun h1 => (kX n Γ (.ListComp elt [⟨tg1, iter, ifs, 0⟩] scope lpos) x).bind fun h2 => (chk (lcSwaps Γ scope lpos y py)).map fun h3 => ⟨.lc h1.down h2.down h3.down⟩)
    | tg, e, t => (kG Γ tg t).bind fun h1 => (kX n Γ e x).bind fun h2 => (chn (lcB e)).bind fun h3 => (chn (pairB tg && pairB e)).map fun h4 => ⟨.asg h1.down h2.down h3.down h4.down⟩
  | n + 1, Γ, .Assign [.Subscript (.Name v p) k p'] e pos, .setx i kx x => (kSlot Γ i v).bind fun h1 => (chk (visB Γ.sc v)).bind fun h2 => (chk (nodbg v)).bind fun h3 => (kX n Γ k kx).bind fun h4 => (chk (plainI k)).bind fun h5 => (kX n Γ e x).map fun h6 => ⟨.setx h1.down h2.down h3.down h4.down h5.down h6.down⟩
  | n + 1, Γ, .AugAssign (.Name v p) o e pos, .aug i o' x => (kOp o o').bind fun h => (kSlot Γ i v).bind fun h1 => (chk (locB Γ v)).bind fun h2 => (kX n Γ e x).map fun h3 => ⟨h.down ▸ .aug h1.down h2.down h3.down⟩
  | n + 1, Γ, .Assign [.Tuple [.Name x px, .Name y py] kt pt] (.Tuple [a, b] k2 pt2) pos, .par [i, j] xs => (kSlot Γ i x).bind fun h1 => (kSlot Γ j y).bind fun h2 => (chn (i == j)).bind fun h3 => (kLoc Γ x).bind fun h4 => (kLoc Γ y).bind fun h5 => (kXs n Γ [a, b] xs).bind fun h6 => (kFun Γ).bind fun h7 => (chk (px.line == py.line)).bind fun h8 =>
      (chn ([a, b].all (foldedForSure 8))).bind fun h9 => (chn ([a, b].all (constantsAlone 8))).bind fun h10 => (chn (x == y)).map fun h11 => ⟨.par h1.down h2.down h3.down h4.down h5.down h6.down h7.down h8.down h9.down h10.down h11.down⟩
  | n + 1, Γ, .Expr (.Call (.Attribute (.Name v p) a ap) [e] [] pos) pos', .app i x => (kEq (Str.ofString "append") a).bind fun (h : PLift (Str.ofString "append" = a)) => (kSlot Γ i v).bind fun h1 => (chk (visB Γ.sc v)).bind fun h2 => (chk (nodbg v)).bind fun h3 => (kX n Γ e x).bind fun h4 => (chk (ap.endLine == pos.line)).map fun h5 => ⟨h.down ▸ .app h1.down h2.down h3.down h4.down h5.down⟩
  | n + 1, Γ, .Expr (.Call (.Attribute (.Name v p) a ap) [e] [] pos) pos', .ext i x => (kEq (Str.ofString "extend") a).bind fun (h : PLift (Str.ofString "extend" = a)) => (kSlot Γ i v).bind fun h1 => (chk (visB Γ.sc v)).bind fun h2 => (chk (nodbg v)).bind fun h3 => (kX n Γ e x).bind fun h4 => (chk (ap.endLine == pos.line)).map fun h5 => ⟨h.down ▸ .ext h1.down h2.down h3.down h4.down h5.down⟩
  | n + 1, Γ, .Expr (.Constant (.str x) j pos) pos', .pass => some ⟨.doc⟩
  | n + 1, Γ, .Expr e pos, .ex x => (kX n Γ e x).bind fun h1 => (chn (lcB e)).map fun h2 => ⟨.ex h1.down h2.down⟩
  | n + 1, Γ, .Return (some e) pos, .ret x => (kX n Γ e x).map fun h1 => ⟨.ret h1.down⟩
  | n + 1, Γ, .Return none pos, .ret0 => some ⟨.ret0⟩
  | n + 1, Γ, .If c a b pos, .ite t x y => (kT n Γ c t).bind fun h1 => (kSs n Γ a x).bind fun h2 => (kSs n Γ b y).map fun h3 => ⟨.ite h1.down h2.down h3.down⟩
  | n + 1, Γ, .While c a [] pos, .wh t x => (kT n Γ c t).bind fun h1 => (kSs n Γ a x).map fun h2 => ⟨.wh h1.down h2.down⟩
  | n + 1, Γ, .For tg it a [] pos, .for g w x => (kG Γ tg g).bind fun h1 => (kI n Γ tg it w).bind fun h2 => (kSs n Γ a x).map fun h3 => ⟨.for h1.down h2.down h3.down⟩
  | n + 1, Γ, .Break pos, .brk => some ⟨.brk⟩
  | n + 1, Γ, .Continue pos, .cnt => some ⟨.cnt⟩
  | n + 1, Γ, .Pass pos, .pass => some ⟨.pass⟩
  | n + 1, Γ, _, .never => some ⟨.never⟩
  | _, _, _, _ => none
def kSs : Nat → (Γ : Gam) → (s : List Stmt) → (x : Sms) → Option (PLift (CSs Γ s x))
  | 0, _, _, _ => none
  | n + 1, Γ, [], .nil => some ⟨.nil⟩
  | n + 1, Γ, s :: r, .cons x xs => (kS n Γ s x).bind fun h1 => (kSs n Γ r xs).map fun h2 => ⟨.cons h1.down h2.down⟩
  | _, _, _, _ => none
end
theorem css_of {n : Nat} {Γ : Gam} {s : List Stmt} {x : Sms} (h : (kSs n Γ s x).isSome = true) : CSs Γ s x := ((kSs n Γ s x).get h).down
/-- the plain side of a def -/
def Rec.plain (r : Rec) : Bool := (match (defScope r.st).kind with | .function => true | _ => false) && !(defScope r.st).isCoroutine && !(defScope r.st).isGenerator && decide r.N.Nodup && (r.N.take r.ps.length == r.ps)
  && r.ps.all (fun x => match (defScope r.st).names.lookup x with | some .local => true | some .cell => true | _ => false) && (defScope r.st).names.all (fun y => match y.2 with | .free => false | _ => true)
  && decide (r.fn.np = r.ps.length) && decide (r.fn.ns = r.N.length) && decide (r.fn.io.length = r.fn.np)
theorem Rec.ok_of {n : Nat} {fns : List (Str × Nat)} {r : Rec} (h1 : r.plain = true) (h2 : (kSs n (r.gam fns) (defBody r.st) r.fn.body).isSome = true) : r.Ok fns := by
  unfold Rec.plain at h1
  simp only [Bool.and_eq_true, decide_eq_true_eq, Bool.not_eq_true'] at h1
  obtain ⟨⟨⟨⟨⟨⟨⟨⟨⟨a1, a2⟩, a3⟩, a4⟩, a5⟩, a6⟩, a7⟩, a8⟩, a9⟩, a10⟩ := h1
  refine ⟨⟨?_, a2, a3, a4, eq_of_beq a5, fun x hx => ?_, fun y hy z => ?_⟩, css_of h2, a8, a9, a10⟩
  · split at a1
    · assumption
    · cases a1
  · have := List.all_eq_true.mp a6 x hx
    split at this
    · exact .inl (by assumption)
    · exact .inr (by assumption)
    · cases this
  · have := List.all_eq_true.mp a7 y hy
    rw [z] at this
    cases this
end L2.Eng
namespace L2.Eng
open PySem PySem.Spec PyProof.Rows
/-! ## the end of a law -/
structure HereK (K : PySem.W.Frag) (x : Str) (st : Stmt) (ps : List Str) : Prop where
  ex : ∃ fa fd, Fun K x x st fa fd ∧ PySem.W.nsIn K mainGlobals x = some (some (.ref fa)) ∧ Binds K fd ps []
theorem here_mk {K : PySem.W.Frag} {x : Str} {st : Stmt} {ps : List Str} {f : Addr} {oc : Value} {od an : Option Addr} {osl : Array (Option Value)} {kV doc pm cdv ct : Value} (a : PySem.W.nsIn K mainGlobals x = some (some (.ref f)))
    (l : K.lookup f = some ⟨oc, od, .func (PySem.W.fnOf x x (defArgs st) (defBody st) (defScope st) .none kV doc pm an cdv ct), osl⟩) (c : PySem.W.codeIn K cdv x = true) (k : PySem.W.keepIn K (.ref f) = true)
    (b : ∀ (kV doc pm : Value) (an : Option Addr) (cdv ct : Value) (us : List Value), us.length = ps.length → bindArgs (PySem.W.fnOf x x (defArgs st) (defBody st) (defScope st) .none kV doc pm an cdv ct) ⟨us, []⟩ = pure (ps.zip us)) : HereK K x st ps :=
  ⟨f, _, fun_mk l c k, a, (fun_mk l c k).binds b⟩
def spLaw (K : PySem.W.Frag) : Sp := fun vs H Q _ => ∃ (a : Addr) (ns : List Int), vs = [.ref a] ∧ SqL K H a (ns.map V.int) ∧ ns.length ≤ 63 ∧ ∀ H', Q (.bl true) H'
theorem reps_ints (K : PySem.W.Frag) (M : Hp) : ∀ ns : List Int, Reps K M (ns.map V.int) (ns.map D.int)
  | [] => .nil
  | n :: ns => .cons (.int n) (reps_ints K M ns)
section
variable {P0 : Program} {w : World} {K : PySem.W.Frag} {mg : Str → Option Value} {base : Heap}
theorem law_ok {fns : List (Str × Nat)} {rs : List Rec} (ok : ∀ r ∈ rs, r.Ok fns) (hb : ∀ x ∈ bltNames, mg x = none) (hf : ∀ x f, fns.lookup x = some f → ∃ r fa fd, rs[f]? = some r ∧ r.name = x ∧ Here K mg r fa fd)
    {n f : Nat} {r : Rec} {fa : Addr} {fd : FuncData} (hr : rs[f]? = some r) (h : Here K mg r fa fd) (hnp : r.fn.np = 1)
    (main : ∀ ns : List Int, ns.length ≤ 63 → ∃ m fr outs, callF (rs.map Rec.fn) m n f [.sh (.scr (ns.map .int))] = .ret fr (.bl true) outs) : FnOk P0 w K mg base CX0 n fa fd r.ps (spLaw K) := by
  have key : ∀ vs H Q E, spLaw K vs H Q E → ∃ m, SpF K (callF (rs.map Rec.fn) m n) f r.fn.np vs H Q E := fun vs H Q E ⟨a, ns, hv, hS, hl, q⟩ => by
    subst hv
    obtain ⟨m, fr, outs, hm⟩ := main ns hl
    refine ⟨m, by rw [hnp]; rfl, H, _, fr, .bl true, outs, ⟨Same.refl H, rfl, fun i b hb => ?_, fun i j x hi hj => ?_⟩, hm, fun v M' H' D1 S1 rs => ?_⟩
    · cases i with
      | zero =>
        simp only [List.map_cons, List.map_nil, getB, Option.some.injEq] at hb
        subst hb
        exact ⟨.ref a, rfl, Rep.scr hS (reps_ints K H ns)⟩
      | succ i => simp [getB] at hb
    · obtain ⟨b, h1, h2, _⟩ := hi
      cases i with
      | zero =>
        simp only [List.map_cons, List.map_nil, getB, Option.some.injEq] at h1
        subst h1
        cases h2
      | succ i => simp [getB] at h1
    · obtain ⟨M2, _, _, r2⟩ := D1.settle rs
      cases r2
      exact q H'
  refine ⟨fun vs H Q E q => ?_, fun A outer s H args us vs Q E hr1 he hb1 hv hs => ?_⟩
  · obtain ⟨m, z⟩ := key vs H Q E q
    exact (fn_ok (P0 := P0) (w := w) (base := base) ok hb hf n f r fa fd hr h).len vs H Q E z
  · obtain ⟨m, z⟩ := key vs H Q E hs
    exact (fn_ok (P0 := P0) (w := w) (base := base) ok hb hf n f r fa fd hr h).run A outer s H args us vs Q E hr1 he hb1 hv z
theorem all_mk {l : PySem.W.OpenLaw} {h : Heap} {fa : Addr} (X : K.In h) (G : h.Ns mainGlobals mg) (hfa : mg "law" = some (.ref fa)) {fns : List (Str × Nat)} {rs : List Rec} {n f : Nat} {r : Rec}
    (ok : ∀ r ∈ rs, r.Ok fns) (here : ∀ r ∈ rs, HereK K r.name r.st r.ps) (hfns : (fns.all fun p => (rs[p.2]?.map Rec.name) == some p.1) = true) (hr : rs[f]? = some r) (hn : r.name = "law") (hps : r.ps = [("script" : Str)]) (hnp : r.fn.np = 1)
    (hb : ∀ x ∈ bltNames, PySem.W.nsIn K mainGlobals x = some none)
    (main : ∀ ns : List Int, ns.length ≤ 63 → ∃ m fr outs, callF (rs.map Rec.fn) m n f [.sh (.scr (ns.map .int))] = .ret fr (.bl true) outs)
    (hbind : ∀ (fd : FuncData), Binds K fd ["script"] [] → (∃ (kV doc pm : Value) (an : Option Addr) (cdv ct : Value), fd = PySem.W.fnOf r.name r.name (defArgs r.st) (defBody r.st) (defScope r.st) .none kV doc pm an cdv ct) → ∀ (s : Shared) (v : Value), BindsTo s fd ⟨[v], []⟩ [("script", v)]) :
    ∃ fd : FuncData, (∀ (s : Shared) (v : Value), BindsTo s fd ⟨[v], []⟩ [("script", v)]) ∧ ∀ base : Heap, K.In base → base.Ns mainGlobals mg → FnOk l.prog w K mg base CX0 n fa fd ["script"] (spLaw K) := by
  have mk : ∀ r ∈ rs, ∃ fa fd, Here K mg r fa fd := fun r hr => by
    obtain ⟨fa, fd, h1, h2, h3⟩ := (here r hr).ex
    exact ⟨fa, fd, h1, PySem.W.mg_of X G h2, h3⟩
  obtain ⟨fa', fd, h⟩ := mk r (List.mem_of_getElem? hr)
  have e : fa' = fa := by
    have := h.mg
    rw [hn, hfa] at this
    injection this with this
    injection this with this
    exact this.symm
  subst e
  refine ⟨fd, hbind fd (by rw [← hps]; exact h.binds) ?_, fun base _ _ => ?_⟩
  · obtain ⟨oc, od, kV, doc, pm, an, cdv, ct, osl, e, _, _⟩ := h.fn.ex
    exact ⟨kV, doc, pm, an, cdv, ct, e⟩
  · rw [← hps]
    refine law_ok ok (fun x hx => PySem.W.mg_none_of X G (hb x hx)) (fun x g hx => ?_) hr h hnp main
    have hm := PySem.mem_of_lookup hx
    have := eq_of_beq (List.all_eq_true.mp hfns (x, g) hm)
    cases q : rs[g]? with
    | none => rw [q] at this; cases this
    | some r' =>
      rw [q] at this
      obtain ⟨fa, fd, h'⟩ := mk r' (List.mem_of_getElem? q)
      exact ⟨r', fa, fd, rfl, Option.some.inj this, h'⟩
end
theorem walk {l : PySem.W.OpenLaw} {q : Program} {loose : List Str} {XP : (Str → Option Value) → Heap → Prop} {YP : World → Heap → Prop} {d : DefRec} {K : Params → PySem.W.Frag} {k : Nat} (hk : Room k callerA) (hn : l.most = some 63) (hdf : d.params.defaults = [])
    (hY : ∀ (w : World) (h : Heap), YP w h → (K w.params).In h)
    (F : ∀ (w : World) (mg : Str → Option Value) (fa : Addr) (h : Heap), (K w.params).In h → h.Ns mainGlobals mg → mg d.name = some (.ref fa) →
      ∃ fd : FuncData, (∀ (s : Shared) (u : Value), BindsTo s fd ⟨[u], []⟩ [("script", u)]) ∧ ∀ base : Heap, (K w.params).In base → base.Ns mainGlobals mg → FnOk l.prog w (K w.params) mg base CX0 k fa fd ["script"] (spLaw (K w.params))) :
    PySem.W.WalkO q loose XP YP l.row.toRowW d [] (fun f vs => PySem.call f vs) :=
  L2.walk_of (n := 63) (k := k) (x := "script") (CX := fun _ => CX0) (sp := fun w => spLaw (K w.params)) hn (by decide) hdf hk hY F (fun _ _ a ns hl _ hS => ⟨a, ns, rfl, hS, hl, fun _ => rfl⟩) fun _ _ _ _ _ z => z
theorem room200 : Room 200 callerA := ⟨rfl, by decide, by decide⟩
end L2.Eng
namespace L2.Eng
open PySem PySem.Spec PyProof.Rows L2
/-! ## evaluation, row by row -/
section
variable {T : List Fn} {P : Nat → List B → CA} {m : Nat} {e e1 e2 : Env}
theorem bindV {α β : Type} (a : α) (e : Env) (f : α → Env → Ans β) : (Ans.val a e).bind f = f a e := rfl
theorem bind_ite {α β : Type} (c : Prop) [Decidable c] (x y : Ans α) (f : α → Env → Ans β) : (if c then x else y).bind f = if c then x.bind f else y.bind f := by split <;> rfl
theorem opt_some {α : Type} (a : α) (e : Env) : opt (some a) e = .val a e := rfl
/-- a turn of a for, of a comprehension -/
def turnF (T : List Fn) (P : Nat → List B → CA) (m : Nat) (t : Tg) (b : Sms) (d : D) (e : Env) : Ans Fl := match asgT t false d e with
  | some e3 => es T P m b e3
  | none => .stuck
def turnC (T : List Fn) (P : Nat → List B → CA) (x : Ex) (t : Tg) (c : Tt) (own : List Nat) (d : D) (e2 : Env) : Ans (Option D) := match asgT t false d (wipeB own e2) with
  | none => .stuck
  | some e3 => (evt T P c e3).bind fun k e4 => if k then (ev T P x e4).bind fun r e5 => .val (some r.2) (backB e2 own e5) else .val none (backB e2 own e4)
/-- a turn of a comprehension that is code -/
def turnX (T : List Fn) (P : Nat → List B → CA) : Ex → D → Env → Ans (Option D)
  | .comp x t _ c own, d, e => turnC T P x t c own d e
  | _, _, _ => .stuck
def compIt : Ex → It
  | .comp _ _ it _ _ => it
  | x => .seq x
def compOwn : Ex → List Nat
  | .comp _ _ _ _ own => own
  | _ => []
/-- the answer of a comprehension -/
def compEnd (a : Ans (List D)) : Ans (Bool × D) := a.bind fun ds e2 => if fitL ds.length then .val (true, .lst ds) e2 else .stuck
theorem ev_comp' {x : Ex} {t : Tg} {it : It} {c : Tt} {own : List Nat} : ev T P (.comp x t it c own) e = (evi T P it e).bind fun items e1 => if stillB e1 own then compEnd (compN (turnC T P x t c own) items e1) else .stuck := rfl
theorem es1_for' {t : Tg} {it : It} {b : Sms} : es1 T P m (.for t it b) e = (evi T P it e).bind fun items e1 => forN (turnF T P m t b) items e1 := rfl
theorem es1_wh' {c : Tt} {b : Sms} : es1 T P m (.wh c b) e = whN (evt T P c) (es T P m b) m e := by simp only [es1] <;> rfl
theorem es_nil' : es T P m .nil e = .val .nx e := by simp only [es] <;> rfl
/-- what comes behind -/
def thenS (T : List Fn) (P : Nat → List B → CA) (m : Nat) (r : Sms) (f : Fl) (e : Env) : Ans Fl := match f with
  | .nx => es T P m r e
  | .bk => .val .bk e
  | .ct => .val .ct e
  | .rt g d => .val (.rt g d) e
theorem es_cons' {s : Sm} {r : Sms} : es T P m (.cons s r) e = (es1 T P m s e).bind (thenS T P m r) := by
  simp only [es]
  rfl
theorem then_nx {r : Sms} : thenS T P m r .nx e = es T P m r e := rfl
theorem then_bk {r : Sms} : thenS T P m r .bk e = .val .bk e := rfl
theorem then_ct {r : Sms} : thenS T P m r .ct e = .val .ct e := rfl
theorem then_rt {r : Sms} {g : Bool} {d : D} : thenS T P m r (.rt g d) e = .val (.rt g d) e := rfl
theorem es1_asg' {t : Tg} {x : Ex} : es1 T P m (.asg t x) e = (ev T P x e).bind fun r e1 => match asgT t r.1 r.2 e1 with
    | some e2 => .val .nx e2
    | none => .stuck := by simp only [es1] <;> rfl
theorem es1_setx' {i : Nat} {k x : Ex} : es1 T P m (.setx i k x) e = (ev T P x e).bind fun r e1 => match pk e1 (.sl i) with
    | some _ => (opd k (ev T P k) e1).bind fun o e2 => match pk e2 o with
      | some dk => match onOwn e2 i fun b => putAt b dk r.2 with
        | some e3 => .val .nx e3
        | none => .stuck
      | none => .stuck
    | none => .stuck := by simp only [es1] <;> rfl
theorem es1_aug' {i : Nat} {o : Operator} {x : Ex} : es1 T P m (.aug i o x) e = match pk e (.sl i) with
    | some a => (opd x (ev T P x) e).bind fun y e1 => match pk e1 y with
      | some b => match augD o a b with
        | some r => .val .nx (setB e1 i (some (.sh r)))
        | none => .stuck
      | none => .stuck
    | none => .stuck := by simp only [es1] <;> rfl
theorem es1_par' {is : List Nat} {xs : Exs} : es1 T P m (.par is xs) e = (evs T P xs e).bind fun ops e1 => match tks ops e1 with
    | some (ds, e2) => match asgN is ds e2 with
      | some e3 => .val .nx e3
      | none => .stuck
    | none => .stuck := by simp only [es1] <;> rfl
theorem es1_app' {i : Nat} {x : Ex} : es1 T P m (.app i x) e = match pk e (.sl i) with
    | some (.lst _) => (ev T P x e).bind fun r e1 => match onOwn e1 i (addD r.2) with
      | some e2 => .val .nx e2
      | none => .stuck
    | _ => .stuck := by simp only [es1] <;> rfl
theorem es1_ext' {i : Nat} {x : Ex} : es1 T P m (.ext i x) e = match pk e (.sl i) with
    | some (.lst _) => (opd x (ev T P x) e).bind fun o e1 => match pk e1 o with
      | some d => match onOwn e1 i (extD d) with
        | some e2 => .val .nx e2
        | none => .stuck
      | none => .stuck
    | _ => .stuck := by simp only [es1] <;> rfl
theorem es1_ex' {x : Ex} : es1 T P m (.ex x) e = (ev T P x e).bind fun _ e1 => .val .nx e1 := by simp only [es1] <;> rfl
/-- a return -/
def retS (T : List Fn) (P : Nat → List B → CA) (x : Ex) (e : Env) : Ans Fl := match x with
    | .var i => match getB e i with
      | some (.ow d) => .val (.rt true d) (setB e i none)
      | some (.sh d) => .val (.rt false d) e
      | _ => .stuck
    | _ => (ev T P x e).bind fun r e1 => .val (.rt r.1 r.2) e1
theorem op_var {i : Nat} {r : Env → Ans (Bool × D)} : opd (.var i) r e = match getB e i with
    | some _ => .val (.sl i) e
    | none => .stuck := rfl
theorem rs_var {i : Nat} : retS T P (.var i) e = match getB e i with
      | some (.ow d) => .val (.rt true d) (setB e i none)
      | some (.sh d) => .val (.rt false d) e
      | _ => .stuck := rfl
theorem op_cst {d : D} {r : Env → Ans (Bool × D)} : opd (.cst d) r e = (r e).bind fun r e1 => .val (.v r.2) e1 := rfl
theorem rs_cst {d : D} : retS T P (.cst d) e = (ev T P (.cst d) e).bind fun r e1 => .val (.rt r.1 r.2) e1 := rfl
theorem op_tup {xs : Exs} {r : Env → Ans (Bool × D)} : opd (.tup xs) r e = (r e).bind fun r e1 => .val (.v r.2) e1 := rfl
theorem rs_tup {xs : Exs} : retS T P (.tup xs) e = (ev T P (.tup xs) e).bind fun r e1 => .val (.rt r.1 r.2) e1 := rfl
theorem op_lst {xs : Exs} {r : Env → Ans (Bool × D)} : opd (.lst xs) r e = (r e).bind fun r e1 => .val (.v r.2) e1 := rfl
theorem rs_lst {xs : Exs} : retS T P (.lst xs) e = (ev T P (.lst xs) e).bind fun r e1 => .val (.rt r.1 r.2) e1 := rfl
theorem op_bin {o : Operator} {a b : Ex} {r : Env → Ans (Bool × D)} : opd (.bin o a b) r e = (r e).bind fun r e1 => .val (.v r.2) e1 := rfl
theorem rs_bin {o : Operator} {a b : Ex} : retS T P (.bin o a b) e = (ev T P (.bin o a b) e).bind fun r e1 => .val (.rt r.1 r.2) e1 := rfl
theorem op_un {o : UnaryOp} {a : Ex} {r : Env → Ans (Bool × D)} : opd (.un o a) r e = (r e).bind fun r e1 => .val (.v r.2) e1 := rfl
theorem rs_un {o : UnaryOp} {a : Ex} : retS T P (.un o a) e = (ev T P (.un o a) e).bind fun r e1 => .val (.rt r.1 r.2) e1 := rfl
theorem op_nt {a : Ex} {r : Env → Ans (Bool × D)} : opd (.nt a) r e = (r e).bind fun r e1 => .val (.v r.2) e1 := rfl
theorem rs_nt {a : Ex} : retS T P (.nt a) e = (ev T P (.nt a) e).bind fun r e1 => .val (.rt r.1 r.2) e1 := rfl
theorem op_cmp {o : CmpOp} {a b : Ex} {r : Env → Ans (Bool × D)} : opd (.cmp o a b) r e = (r e).bind fun r e1 => .val (.v r.2) e1 := rfl
theorem rs_cmp {o : CmpOp} {a b : Ex} : retS T P (.cmp o a b) e = (ev T P (.cmp o a b) e).bind fun r e1 => .val (.rt r.1 r.2) e1 := rfl
theorem op_cmp2 {o p : CmpOp} {a b c : Ex} {r : Env → Ans (Bool × D)} : opd (.cmp2 o p a b c) r e = (r e).bind fun r e1 => .val (.v r.2) e1 := rfl
theorem rs_cmp2 {o p : CmpOp} {a b c : Ex} : retS T P (.cmp2 o p a b c) e = (ev T P (.cmp2 o p a b c) e).bind fun r e1 => .val (.rt r.1 r.2) e1 := rfl
theorem op_and {a b : Ex} {r : Env → Ans (Bool × D)} : opd (.and a b) r e = (r e).bind fun r e1 => .val (.v r.2) e1 := rfl
theorem rs_and {a b : Ex} : retS T P (.and a b) e = (ev T P (.and a b) e).bind fun r e1 => .val (.rt r.1 r.2) e1 := rfl
theorem op_or {a b : Ex} {r : Env → Ans (Bool × D)} : opd (.or a b) r e = (r e).bind fun r e1 => .val (.v r.2) e1 := rfl
theorem rs_or {a b : Ex} : retS T P (.or a b) e = (ev T P (.or a b) e).bind fun r e1 => .val (.rt r.1 r.2) e1 := rfl
theorem op_ife {c : Tt} {a b : Ex} {r : Env → Ans (Bool × D)} : opd (.ife c a b) r e = (r e).bind fun r e1 => .val (.v r.2) e1 := rfl
theorem rs_ife {c : Tt} {a b : Ex} : retS T P (.ife c a b) e = (ev T P (.ife c a b) e).bind fun r e1 => .val (.rt r.1 r.2) e1 := rfl
theorem op_ix {a b : Ex} {r : Env → Ans (Bool × D)} : opd (.ix a b) r e = (r e).bind fun r e1 => .val (.v r.2) e1 := rfl
theorem rs_ix {a b : Ex} : retS T P (.ix a b) e = (ev T P (.ix a b) e).bind fun r e1 => .val (.rt r.1 r.2) e1 := rfl
theorem op_sl {a : Ex} {l h : Exo} {r : Env → Ans (Bool × D)} : opd (.sl a l h) r e = (r e).bind fun r e1 => .val (.v r.2) e1 := rfl
theorem rs_sl {a : Ex} {l h : Exo} : retS T P (.sl a l h) e = (ev T P (.sl a l h) e).bind fun r e1 => .val (.rt r.1 r.2) e1 := rfl
theorem op_rev {a : Ex} {r : Env → Ans (Bool × D)} : opd (.rev a) r e = (r e).bind fun r e1 => .val (.v r.2) e1 := rfl
theorem rs_rev {a : Ex} : retS T P (.rev a) e = (ev T P (.rev a) e).bind fun r e1 => .val (.rt r.1 r.2) e1 := rfl
theorem op_call {f : Nat} {xs : Exs} {r : Env → Ans (Bool × D)} : opd (.call f xs) r e = (r e).bind fun r e1 => .val (.v r.2) e1 := rfl
theorem rs_call {f : Nat} {xs : Exs} : retS T P (.call f xs) e = (ev T P (.call f xs) e).bind fun r e1 => .val (.rt r.1 r.2) e1 := rfl
theorem op_prim {p : Prim} {xs : Exs} {r : Env → Ans (Bool × D)} : opd (.prim p xs) r e = (r e).bind fun r e1 => .val (.v r.2) e1 := rfl
theorem rs_prim {p : Prim} {xs : Exs} : retS T P (.prim p xs) e = (ev T P (.prim p xs) e).bind fun r e1 => .val (.rt r.1 r.2) e1 := rfl
theorem op_comp {x : Ex} {t : Tg} {it : It} {c : Tt} {own : List Nat} {r : Env → Ans (Bool × D)} : opd (.comp x t it c own) r e = (r e).bind fun r e1 => .val (.v r.2) e1 := rfl
theorem rs_comp {x : Ex} {t : Tg} {it : It} {c : Tt} {own : List Nat} : retS T P (.comp x t it c own) e = (ev T P (.comp x t it c own) e).bind fun r e1 => .val (.rt r.1 r.2) e1 := rfl
theorem op_pop {i : Nat} {r : Env → Ans (Bool × D)} : opd (.pop i) r e = (r e).bind fun r e1 => .val (.v r.2) e1 := rfl
theorem rs_pop {i : Nat} : retS T P (.pop i) e = (ev T P (.pop i) e).bind fun r e1 => .val (.rt r.1 r.2) e1 := rfl
theorem op_dnew {r : Env → Ans (Bool × D)} : opd .dnew r e = (r e).bind fun r e1 => .val (.v r.2) e1 := rfl
theorem rs_dnew : retS T P .dnew e = (ev T P .dnew e).bind fun r e1 => .val (.rt r.1 r.2) e1 := rfl
theorem op_get {i : Nat} {k d : Ex} {r : Env → Ans (Bool × D)} : opd (.get i k d) r e = (r e).bind fun r e1 => .val (.v r.2) e1 := rfl
theorem rs_get {i : Nat} {k d : Ex} : retS T P (.get i k d) e = (ev T P (.get i k d) e).bind fun r e1 => .val (.rt r.1 r.2) e1 := rfl
theorem es1_ret' {x : Ex} : es1 T P m (.ret x) e = retS T P x e := by
  cases x <;> simp only [es1, retS] <;> rfl
theorem es1_ret0' : es1 T P m .ret0 e = .val (.rt false .non) e := by simp only [es1] <;> rfl
theorem es1_ite' {c : Tt} {a b : Sms} : es1 T P m (.ite c a b) e = (evt T P c e).bind fun k e1 => if k then es T P m a e1 else es T P m b e1 := by simp only [es1] <;> rfl
theorem es1_brk' : es1 T P m .brk e = .val .bk e := by simp only [es1] <;> rfl
theorem es1_cnt' : es1 T P m .cnt e = .val .ct e := by simp only [es1] <;> rfl
theorem es1_pass' : es1 T P m .pass e = .val .nx e := by simp only [es1] <;> rfl
theorem ev_var' {i : Nat} : ev T P (.var i) e = match tk e (.sl i) with
    | some (d, e1) => .val (false, d) e1
    | none => .stuck := by simp only [ev] <;> rfl
theorem ev_cst' {d : D} : ev T P (.cst d) e = .val (false, d) e := by simp only [ev] <;> rfl
theorem ev_tup' {xs : Exs} : ev T P (.tup xs) e = (evs T P xs e).bind fun ops e1 => match tks ops e1 with
    | some (ds, e2) => if fitL ds.length then .val (false, .tup ds) e2 else .stuck
    | none => .stuck := by simp only [ev] <;> rfl
theorem ev_lst' {xs : Exs} : ev T P (.lst xs) e = (evs T P xs e).bind fun ops e1 => match tks ops e1 with
    | some (ds, e2) => if fitL ds.length then .val (true, .lst ds) e2 else .stuck
    | none => .stuck := by simp only [ev] <;> rfl
theorem ev_bin' {o : Operator} {a b : Ex} : ev T P (.bin o a b) e = (opd a (ev T P a) e).bind fun x e1 => (opd b (ev T P b) e1).bind fun y e2 => match pk e2 x, pk e2 y with
    | some dx, some dy => opt (binD o dx dy) e2
    | _, _ => .stuck := by simp only [ev] <;> rfl
theorem ev_un' {o : UnaryOp} {a : Ex} : ev T P (.un o a) e = (opd a (ev T P a) e).bind fun x e1 => match pk e1 x with
    | some dx => (opt (unD o dx) e1).bind fun d e2 => .val (false, d) e2
    | none => .stuck := by simp only [ev] <;> rfl
theorem ev_nt' {a : Ex} : ev T P (.nt a) e = (opd a (ev T P a) e).bind fun x e1 => match pk e1 x with
    | some dx => (opt (truth dx) e1).bind fun b e2 => .val (false, .bl (!b)) e2
    | none => .stuck := by simp only [ev] <;> rfl
theorem ev_cmp' {o : CmpOp} {a b : Ex} : ev T P (.cmp o a b) e = (opd a (ev T P a) e).bind fun x e1 => (opd b (ev T P b) e1).bind fun y e2 => match pk e2 x, pk e2 y with
    | some dx, some dy => (opt (cmpD o dx dy) e2).bind fun c e3 => .val (false, .bl c) e3
    | _, _ => .stuck := by simp only [ev] <;> rfl
theorem ev_cmp2' {o o' : CmpOp} {a b c : Ex} : ev T P (.cmp2 o o' a b c) e = (opd a (ev T P a) e).bind fun x e1 => (opd b (ev T P b) e1).bind fun y e2 => match pk e2 x, pk e2 y with
    | some dx, some dy => (opt (cmpD o dx dy) e2).bind fun k e3 => if k then
        (opd c (ev T P c) e3).bind fun z e4 => match pk e4 y, pk e4 z with
        | some dy, some dz => (opt (cmpD o' dy dz) e4).bind fun c e5 => .val (false, .bl c) e5
        | _, _ => .stuck
      else .val (false, .bl false) e3
    | _, _ => .stuck := by simp only [ev] <;> rfl
theorem ev_and' {a b : Ex} : ev T P (.and a b) e = (ev T P a e).bind fun r e1 => match r.2 with
    | .bl k => if k then ev T P b e1 else .val (false, .bl false) e1
    | _ => .stuck := by simp only [ev] <;> rfl
theorem ev_or' {a b : Ex} : ev T P (.or a b) e = (ev T P a e).bind fun r e1 => match r.2 with
    | .bl k => if k then .val (false, .bl true) e1 else ev T P b e1
    | _ => .stuck := by simp only [ev] <;> rfl
theorem ev_ife' {c : Tt} {a b : Ex} : ev T P (.ife c a b) e = (evt T P c e).bind fun k e1 => if k then ev T P a e1 else ev T P b e1 := by simp only [ev] <;> rfl
theorem ev_ix' {a i : Ex} : ev T P (.ix a i) e = (opd a (ev T P a) e).bind fun x e1 => (opd i (ev T P i) e1).bind fun y e2 => match pk e2 x, pk e2 y with
    | some dx, some dy => (opt (ixD dx dy) e2).bind fun d e3 => .val (false, d) e3
    | _, _ => .stuck := by simp only [ev] <;> rfl
theorem ev_sl' {a : Ex} {lo hi : Exo} : ev T P (.sl a lo hi) e = (opd a (ev T P a) e).bind fun x e1 => (evx T P lo e1).bind fun l e2 => (evx T P hi e2).bind fun h e3 => match pk e3 x, endD l, endD h with
    | some dx, some lo, some hi => opt (slD dx lo hi) e3
    | _, _, _ => .stuck := by simp only [ev] <;> rfl
theorem ev_rev' {a : Ex} : ev T P (.rev a) e = (opd a (ev T P a) e).bind fun x e1 => match pk e1 x with
    | some (.lst xs) => .val (true, .lst xs.reverse) e1
    | _ => .stuck := by simp only [ev] <;> rfl
theorem ev_call' {f : Nat} {xs : Exs} : ev T P (.call f xs) e = (evs T P xs e).bind fun ops e1 => doCall T P f ops e1 := by simp only [ev] <;> rfl
theorem ev_prim' {p : Prim} {xs : Exs} : ev T P (.prim p xs) e = (evs T P xs e).bind fun ops e1 => match pks e1 ops with
    | some ds => opt (primD p ds) e1
    | none => .stuck := by simp only [ev] <;> rfl
theorem ev_pop' {i : Nat} : ev T P (.pop i) e = match getB e i with
    | some (.ow (.lst xs)) => match xs.getLast? with
      | some d => .val (false, d) (setB e i (some (.ow (.lst xs.dropLast))))
      | none => .stuck
    | some (.io (.lst xs)) => match xs.getLast? with
      | some d => .val (false, d) (setB e i (some (.io (.lst xs.dropLast))))
      | none => .stuck
    | _ => .stuck := by simp only [ev] <;> rfl
theorem ev_dnew' : ev T P .dnew e = .val (true, .dct []) e := by simp only [ev] <;> rfl
theorem ev_get' {i : Nat} {k d : Ex} : ev T P (.get i k d) e = match pk e (.sl i) with
    | some (.dct _) => (opd k (ev T P k) e).bind fun y e1 => (ev T P d e1).bind fun r e2 => match pk e2 (.sl i), pk e2 y with
      | some (.dct xs), some dk => if isKey dk then .val (false, (dGet xs dk).getD r.2) e2 else .stuck
      | _, _ => .stuck
    | _ => .stuck := by simp only [ev] <;> rfl
theorem evs_nil' : evs T P .nil e = .val [] e := by simp only [evs] <;> rfl
theorem evs_cons' {a : Ex} {r : Exs} : evs T P (.cons a r) e = (opd a (ev T P a) e).bind fun o e1 => (evs T P r e1).bind fun os e2 => .val (o :: os) e2 := by simp only [evs] <;> rfl
theorem evx_no' : evx T P .no e = .val none e := by simp only [evx] <;> rfl
theorem evx_yes' {a : Ex} : evx T P (.yes a) e = (ev T P a e).bind fun r e1 => .val (some r.2) e1 := by simp only [evx] <;> rfl
theorem evt_tru' : evt T P .tru e = .val true e := by simp only [evt] <;> rfl
theorem evt_and' {a b : Tt} : evt T P (.and a b) e = (evt T P a e).bind fun k e1 => if k then evt T P b e1 else .val false e1 := by simp only [evt] <;> rfl
theorem evt_or' {a b : Tt} : evt T P (.or a b) e = (evt T P a e).bind fun k e1 => if k then .val true e1 else evt T P b e1 := by simp only [evt] <;> rfl
theorem evt_nt' {a : Tt} : evt T P (.nt a) e = (evt T P a e).bind fun k e1 => .val (!k) e1 := by simp only [evt] <;> rfl
theorem evt_e' {x : Ex} : evt T P (.e x) e = (opd x (ev T P x) e).bind fun o e1 => match pk e1 o with
    | some d => opt (truth d) e1
    | none => .stuck := by simp only [evt] <;> rfl
def rngA (d : D) (e : Env) : Ans (List D) := match d with
    | .int n => if -(2 ^ 62) ≤ n ∧ n < 2 ^ 62 then .val (rangeD 0 n.toNat) e else .stuck
    | _ => .stuck
def rng2A (a b : D) (e : Env) : Ans (List D) := match a, b with
    | .int i, .int j => if -(2 ^ 62) ≤ i ∧ i < 2 ^ 62 ∧ -(2 ^ 62) ≤ j ∧ j < 2 ^ 62 then .val (rangeD i (j - i).toNat) e else .stuck
    | _, _ => .stuck
theorem evi_seq' {a : Ex} : evi T P (.seq a) e = (ev T P a e).bind fun r e1 => opt (itemsD r.2) e1 := by simp only [evi] <;> rfl
theorem evi_rng' {a : Ex} : evi T P (.rng a) e = (ev T P a e).bind fun r e1 => rngA r.2 e1 := by simp only [evi] <;> rfl
theorem evi_rng2' {a b : Ex} : evi T P (.rng2 a b) e = (ev T P a e).bind fun r e1 => (ev T P b e1).bind fun s e2 => rng2A r.2 s.2 e2 := by simp only [evi] <;> rfl
theorem evi_enum' {a : Ex} : evi T P (.enum a) e = (ev T P a e).bind fun r e1 => (opt (seqD r.2) e1).bind fun ds e2 => .val (enumD 0 ds) e2 := by simp only [evi] <;> rfl
def ssetA (d : D) (e : Env) : Ans (Bool × D) := match numsD d with
    | some is => if is.length < 4000 then .val (true, .lst ((sortI (nubI is)).map .int)) e else .stuck
    | none => .stuck
def lsetA (d : D) (e : Env) : Ans (Bool × D) := match numsD d with
    | some is => if is.length < 4000 then .val (false, .int (nubI is).length) e else .stuck
    | none => .stuck
theorem ev_sset' {a : Ex} : ev T P (.sset a) e = (ev T P a e).bind fun r e1 => ssetA r.2 e1 := by simp only [ev] <;> rfl
theorem ev_lset' {a : Ex} : ev T P (.lset a) e = (ev T P a e).bind fun r e1 => lsetA r.2 e1 := by simp only [ev] <;> rfl
theorem op_sset {a : Ex} {r : Env → Ans (Bool × D)} : opd (.sset a) r e = (r e).bind fun r e1 => .val (.v r.2) e1 := rfl
theorem rs_sset {a : Ex} : retS T P (.sset a) e = (ev T P (.sset a) e).bind fun r e1 => .val (.rt r.1 r.2) e1 := rfl
theorem op_lset {a : Ex} {r : Env → Ans (Bool × D)} : opd (.lset a) r e = (r e).bind fun r e1 => .val (.v r.2) e1 := rfl
theorem rs_lset {a : Ex} : retS T P (.lset a) e = (ev T P (.lset a) e).bind fun r e1 => .val (.rt r.1 r.2) e1 := rfl
/-! answers that part and come together -/
theorem ite_cp {x y : Option D} {b : Bool} : (if b = true then Ans.val x e else Ans.val y e) = .val (if b = true then x else y) e := by cases b <;> rfl
theorem ite_blT {f : Bool} {c : Bool} {b : Bool} : (if b = true then Ans.val (f, D.bl c) e else Ans.val (f, D.bl false) e) = .val (f, D.bl (b && c)) e := by cases b <;> rfl
theorem ite_blF {f : Bool} {c : Bool} {b : Bool} : (if b = true then Ans.val (f, D.bl true) e else Ans.val (f, D.bl c) e) = .val (f, D.bl (b || c)) e := by cases b <;> rfl
theorem ite_bT {c : Bool} {b : Bool} : (if b = true then Ans.val c e else Ans.val false e) = .val (b && c) e := by cases b <;> rfl
theorem ite_bF {c : Bool} {b : Bool} : (if b = true then Ans.val true e else Ans.val c e) = .val (b || c) e := by cases b <;> rfl
theorem ite_rF {f : Bool} {c : Bool} {b : Bool} : (if b = true then Ans.val (Fl.rt f (D.bl false)) e else Ans.val (Fl.rt f (D.bl c)) e) = .val (.rt f (.bl (!b && c))) e := by cases b <;> rfl
theorem ite_rA {f : Bool} {c : Bool} {b : Bool} : (if b = true then Ans.val (Fl.rt f (D.bl c)) e else Ans.val (Fl.rt f (D.bl false)) e) = .val (.rt f (.bl (b && c))) e := by cases b <;> rfl
theorem ite_rT {f : Bool} {c : Bool} {b : Bool} : (if b = true then Ans.val (Fl.rt f (D.bl true)) e else Ans.val (Fl.rt f (D.bl c)) e) = .val (.rt f (.bl (b || c))) e := by cases b <;> rfl
theorem ite_rt {f : Bool} {x y : D} {b : Bool} : (if b = true then Ans.val (Fl.rt f x) e else Ans.val (Fl.rt f y) e) = .val (.rt f (if b = true then x else y)) e := by cases b <;> rfl
end
/-! ## values -/
theorem beqP {α : Type} [BEq α] [LawfulBEq α] {a b : α} (h : a ≠ b) : (a == b) = false := beq_eq_false_iff_ne.mpr h
def cubeD (c : Nat × Nat) : D := .tup [natD c.1, natD c.2]
def coverD (cs : List (Nat × Nat)) : D := .tup (cs.map cubeD)
def notD (k : Nat) : D := .int (Builtin.bitNot (k : Nat))
theorem cube_mk (a b : Nat) : D.tup [natD a, natD b] = cubeD (a, b) := rfl
theorem cover_mk (cs : List (Nat × Nat)) : D.tup (cs.map cubeD) = coverD cs := rfl
theorem nat_beq (a b : Nat) : ((a : Int) == (b : Int)) = (a == b) := by
  rw [Bool.eq_iff_iff, beq_iff_eq, beq_iff_eq]; omega
theorem band_nat (a b : Nat) : Builtin.bitAnd (a : Int) (b : Int) = ((a &&& b : Nat) : Int) := by
  rw [PyProof.Rows.bitAnd_pp (by omega) (by omega)]; simp
theorem bor_nat (a b : Nat) : Builtin.bitOr (a : Int) (b : Int) = ((a ||| b : Nat) : Int) := by
  rw [Bits.bitOr_pp (by omega) (by omega)]; simp
theorem bxor_nat (a b : Nat) : Builtin.bitXor (a : Int) (b : Int) = ((a ^^^ b : Nat) : Int) := by
  rw [Bits.bitXor_pp (by omega) (by omega)]; simp
theorem pow_i {k : Int} (h : 0 ≤ k) : (2 : Int) ^ k.toNat = ((2 ^ k.toNat : Nat) : Int) := by
  rw [Int.natCast_pow]; rfl
theorem bAdd (u v : Nat) : binD .Add (natD u) (natD v) = some (false, natD (u + v)) := by simp only [natD, binD, Int.natCast_add]
theorem bSub {u v : Nat} (h : v ≤ u) : binD .Sub (natD u) (natD v) = some (false, natD (u - v)) := by simp only [natD, binD]; congr 3; omega
theorem bMul {u v : Nat} (h : v < 2 ^ 64) : binD .Mult (natD u) (natD v) = some (false, natD (u * v)) := by
  simp only [natD, binD, Int.natCast_mul]
  rw [if_pos (.inr ⟨by omega, by omega⟩)]
theorem bAnd (u v : Nat) : binD .BitAnd (natD u) (natD v) = some (false, natD (u &&& v)) := by simp only [natD, binD, band_nat]
theorem bOr (u v : Nat) : binD .BitOr (natD u) (natD v) = some (false, natD (u ||| v)) := by simp only [natD, binD, bor_nat]
theorem bXor (u v : Nat) : binD .BitXor (natD u) (natD v) = some (false, natD (u ^^^ v)) := by simp only [natD, binD, bxor_nat]
theorem bShr (u v : Nat) : binD .RShift (natD u) (natD v) = some (false, natD (u >>> v)) := by
  simp only [natD, binD]
  rw [if_pos (by omega), pow_i (by omega), Nat.shiftRight_eq_div_pow, Int.natCast_ediv, Int.toNat_natCast]
theorem bShl {u v : Nat} (hu : u < 2 ^ 64) (h : v ≤ 1000000) : binD .LShift (natD u) (natD v) = some (false, natD (u <<< v)) := by
  simp only [natD, binD]
  rw [if_pos ⟨by omega, by omega, by omega⟩, pow_i (by omega), Nat.shiftLeft_eq, Int.natCast_mul, Int.toNat_natCast]
theorem bShl1 {v : Nat} (h : v ≤ 1000000) : binD .LShift (natD 1) (natD v) = some (false, natD (2 ^ v)) := by
  rw [bShl (by omega) h, Nat.one_shiftLeft]
theorem bMod {u v : Nat} (h : 0 < v) : binD .Mod (natD u) (natD v) = some (false, natD (u % v)) := by
  simp only [natD, binD]
  rw [if_pos (by omega), Int.natCast_emod]
theorem bDiv {u v : Nat} (h : 0 < v) (h2 : v < 1073741824) : binD .FloorDiv (natD u) (natD v) = some (false, natD (u / v)) := by
  simp only [natD, binD]
  rw [if_pos ⟨by omega, by omega⟩, Int.natCast_ediv]
theorem bPow {u v : Nat} (h : u < 2 ^ 64) (h2 : v ≤ 1000000) : binD .Pow (natD u) (natD v) = some (false, natD (u ^ v)) := by
  simp only [natD, binD]
  rw [if_pos ⟨by omega, by omega, by simpa using h⟩, Int.natCast_pow, Int.toNat_natCast]
/-- x with the bits of y taken out -/
def nd (x y : Nat) : Nat := x ^^^ (x &&& y)
theorem nd_bit (x y i : Nat) : (nd x y).testBit i = (x.testBit i && !y.testBit i) := by
  unfold nd
  rw [Nat.testBit_xor, Nat.testBit_and]
  cases x.testBit i <;> cases y.testBit i <;> rfl
theorem nd_int (x y : Nat) : Builtin.bitAnd (x : Int) (Builtin.bitNot (y : Int)) = ((nd x y : Nat) : Int) := by
  rw [bitAnd_not, band_nat]
  unfold nd
  have h := bxor_nat x (x &&& y)
  rw [bitXor_and, band_nat, ← Nat.and_assoc, Nat.and_self] at h
  omega
theorem nd_intc (x y : Nat) : Builtin.bitAnd (Builtin.bitNot (y : Int)) (x : Int) = ((nd x y : Nat) : Int) := by
  rw [← nd_int]
  apply PyProof.Rows.bitAnd_comm
theorem uInv (y : Nat) : unD .Invert (natD y) = some (notD y) := rfl
theorem bAndNot (x y : Nat) : binD .BitAnd (natD x) (notD y) = some (false, natD (nd x y)) := by simp only [natD, notD, binD, nd_int]
theorem aAdd (u v : Nat) : augD .Add (natD u) (natD v) = some (natD (u + v)) := by simp only [natD, augD, Int.natCast_add]
theorem aOr (u v : Nat) : augD .BitOr (natD u) (natD v) = some (natD (u ||| v)) := by simp only [natD, augD, bor_nat]
theorem ok_nat (u k : Nat) : (natD u).ok k = true := rfl
theorem ok_bl (u : Bool) (k : Nat) : (D.bl u).ok k = true := rfl
theorem ok_non (k : Nat) : (D.non).ok k = true := rfl
theorem ok_cube (c : Nat × Nat) (k : Nat) : (cubeD c).ok (k + 1) = true := rfl
theorem ok_cubes : ∀ (cs : List (Nat × Nat)) (k : Nat), D.ok.oks (cs.map cubeD) (k + 1) = true
  | [], _ => rfl
  | c :: cs, k => by simp only [List.map_cons, D.ok.oks, ok_cube, ok_cubes cs k, Bool.and_true]
theorem ok_cover (cs : List (Nat × Nat)) (k : Nat) : (coverD cs).ok (k + 2) = true := ok_cubes cs k
theorem ok_nats : ∀ (cs : List Nat) (k : Nat), D.ok.oks (cs.map natD) k = true
  | [], _ => rfl
  | c :: cs, k => by simp only [List.map_cons, D.ok.oks, ok_nat, ok_nats cs k, Bool.and_true]
theorem cps_str (s : String) : (Str.ofString s).cps = (s.toList.map Char.toNat).toArray := by rw [Str.ofString_eq_toList]
theorem ok_str (s : String) (k : Nat) : (strD s).ok k = true := by
  show PyData.strOk (Str.ofString s) = true
  unfold PyData.strOk
  rw [cps_str, List.all_toArray, List.all_map, List.all_eq_true]
  intro c _
  have := c.valid
  simp only [Function.comp, decide_eq_true_eq]
  have h2 : c.toNat < 0x110000 := by
    have := c.valid
    unfold UInt32.isValidChar Nat.isValidChar at this
    show c.val.toNat < _
    omega
  exact h2
theorem str_inj {a b : String} (h : Str.ofString a = Str.ofString b) : a = b := by
  have h2 := congrArg Str.cps h
  rw [cps_str, cps_str] at h2
  have h3 : a.toList.map Char.toNat = b.toList.map Char.toNat := by simpa using congrArg Array.toList h2
  have h4 : a.toList = b.toList := List.map_inj_right (fun x y q => Char.toNat_inj.mp q) |>.mp h3
  exact String.toList_inj.mp h4
theorem eq_nat (a b : Nat) : D.eq (natD a) (natD b) = (a == b) := nat_beq a b
theorem eq_bl (a b : Bool) : D.eq (.bl a) (.bl b) = (a == b) := rfl
theorem eq_str (a b : String) : D.eq (strD a) (strD b) = (a == b) := by
  show (Str.ofString a == Str.ofString b) = _
  rw [Bool.eq_iff_iff, beq_iff_eq, beq_iff_eq]
  exact ⟨str_inj, fun h => by rw [h]⟩
theorem eq_cube (a b : Nat × Nat) : D.eq (cubeD a) (cubeD b) = (a == b) := by
  show (D.eq (natD a.1) (natD b.1) && (D.eq (natD a.2) (natD b.2) && true)) = _
  rw [eq_nat, eq_nat, Bool.and_true]
  rfl
theorem eqs_map {α : Type} [BEq α] (f : α → D) (h : ∀ a b, D.eq (f a) (f b) = (a == b)) : ∀ (as bs : List α), D.eqs (as.map f) (bs.map f) = (as == bs)
  | [], [] => rfl
  | [], _ :: _ => rfl
  | _ :: _, [] => rfl
  | a :: as, b :: bs => by
    simp only [List.map_cons, D.eqs, h, eqs_map f h as bs]
    rfl
theorem eq_cover (a b : List (Nat × Nat)) : D.eq (coverD a) (coverD b) = (a == b) := eqs_map cubeD eq_cube a b
theorem cEq {a b : D} (ha : a.ok deepest = true) (hb : b.ok deepest = true) : cmpD .Eq a b = some (D.eq a b) := by simp only [cmpD, ha, hb, Bool.and_self, if_true]
theorem cNe {a b : D} (ha : a.ok deepest = true) (hb : b.ok deepest = true) : cmpD .NotEq a b = some (!D.eq a b) := by simp only [cmpD, ha, hb, Bool.and_self, if_true]
theorem cEqN (a b : Nat) : cmpD .Eq (natD a) (natD b) = some (a == b) := by rw [cEq (ok_nat _ _) (ok_nat _ _), eq_nat]
theorem cNeN (a b : Nat) : cmpD .NotEq (natD a) (natD b) = some (a != b) := by rw [cNe (ok_nat _ _) (ok_nat _ _), eq_nat]; rfl
theorem cEqS (a b : String) : cmpD .Eq (strD a) (strD b) = some (a == b) := by rw [cEq (ok_str _ _) (ok_str _ _), eq_str]
theorem cNeS (a b : String) : cmpD .NotEq (strD a) (strD b) = some (a != b) := by rw [cNe (ok_str _ _) (ok_str _ _), eq_str]; rfl
theorem cEqC (a b : Nat × Nat) : cmpD .Eq (cubeD a) (cubeD b) = some (a == b) := by rw [cEq (ok_cube _ _) (ok_cube _ _), eq_cube]
theorem cNeC (a b : Nat × Nat) : cmpD .NotEq (cubeD a) (cubeD b) = some (a != b) := by rw [cNe (ok_cube _ _) (ok_cube _ _), eq_cube]; rfl
theorem cEqB (a b : Bool) : cmpD .Eq (.bl a) (.bl b) = some (a == b) := by rw [cEq (ok_bl _ _) (ok_bl _ _), eq_bl]
theorem cNeB (a b : Bool) : cmpD .NotEq (.bl a) (.bl b) = some (a != b) := by rw [cNe (ok_bl _ _) (ok_bl _ _), eq_bl]; rfl
theorem cLtN (a b : Nat) : cmpD .Lt (natD a) (natD b) = some (decide (a < b)) := by
  simp only [natD, cmpD, Int.ofNat_lt]
theorem cLeN (a b : Nat) : cmpD .LtE (natD a) (natD b) = some (decide (a ≤ b)) := by
  simp only [natD, cmpD, Int.ofNat_le]
theorem cGtN (a b : Nat) : cmpD .Gt (natD a) (natD b) = some (decide (b < a)) := by
  simp only [natD, cmpD, Int.ofNat_lt]
theorem cGeN (a b : Nat) : cmpD .GtE (natD a) (natD b) = some (decide (b ≤ a)) := by
  simp only [natD, cmpD, Int.ofNat_le]
theorem cIsN {a : D} : cmpD .Is a .non = some (isNone a) := rfl
theorem cNsN {a : D} : cmpD .IsNot a .non = some (!isNone a) := rfl
theorem none_non : isNone .non = true := rfl
theorem none_nat (a : Nat) : isNone (natD a) = false := rfl
theorem none_cube (a : Nat × Nat) : isNone (cubeD a) = false := rfl
theorem none_bl (a : Bool) : isNone (.bl a) = false := rfl
theorem none_str (a : String) : isNone (strD a) = false := rfl
theorem none_tup (a : List D) : isNone (.tup a) = false := rfl
theorem cIsB (a b : Bool) : cmpD .Is (.bl a) (.bl b) = some (decide (a = b)) := rfl
theorem cNsB (a b : Bool) : cmpD .IsNot (.bl a) (.bl b) = some (!decide (a = b)) := rfl
theorem inD_map {α : Type} [BEq α] (f : α → D) (h : ∀ a b, D.eq (f a) (f b) = (a == b)) (x : α) (xs : List α) : inD (f x) (xs.map f) = xs.any (· == x) := by
  unfold inD
  rw [List.any_map]
  congr 1
  funext y
  exact h y x
theorem any_contains {α : Type} [BEq α] [LawfulBEq α] (x : α) (xs : List α) : (xs.any (· == x)) = xs.contains x := by
  rw [Bool.eq_iff_iff, List.any_eq_true, List.contains_iff_mem]
  constructor
  · rintro ⟨y, h1, h2⟩
    rw [beq_iff_eq] at h2
    exact h2 ▸ h1
  · exact fun h => ⟨x, h, beq_self_eq_true x⟩
theorem cInN (x : Nat) (xs : List Nat) : cmpD .In (natD x) (.lst (xs.map natD)) = some (xs.contains x) := by
  simp only [cmpD, ok_nat, ok_nats, Bool.and_self, if_true, inD_map natD eq_nat, any_contains]
theorem cNiN (x : Nat) (xs : List Nat) : cmpD .NotIn (natD x) (.lst (xs.map natD)) = some (!xs.contains x) := by
  simp only [cmpD, ok_nat, ok_nats, Bool.and_self, if_true, inD_map natD eq_nat, any_contains]
theorem eq_natL (a b : List Nat) : D.eq (.lst (a.map natD)) (.lst (b.map natD)) = (a == b) := eqs_map natD eq_nat a b
theorem cEqNL (a b : List Nat) : cmpD .Eq (.lst (a.map natD)) (.lst (b.map natD)) = some (a == b) := by
  rw [cEq (a := .lst (a.map natD)) (b := .lst (b.map natD)) (ok_nats a 59) (ok_nats b 59), eq_natL]
theorem cNeNL (a b : List Nat) : cmpD .NotEq (.lst (a.map natD)) (.lst (b.map natD)) = some (a != b) := by
  rw [cNe (a := .lst (a.map natD)) (b := .lst (b.map natD)) (ok_nats a 59) (ok_nats b 59), eq_natL]; rfl
theorem cInC (x : Nat × Nat) (xs : List (Nat × Nat)) : cmpD .In (cubeD x) (.lst (xs.map cubeD)) = some (xs.contains x) := by
  have := ok_cubes xs 59
  simp only [cmpD, ok_cube x 59, deepest, this, Bool.and_self, if_true, inD_map cubeD eq_cube, any_contains]
theorem tr_bl (b : Bool) : truth (.bl b) = some b := rfl
theorem tr_non : truth .non = some false := rfl
theorem tr_nat (n : Nat) : truth (natD n) = some (n != 0) := by
  show some (((n : Nat) : Int) != 0) = _
  congr 1
  show (!((n : Int) == ((0 : Nat) : Int))) = !(n == 0)
  rw [nat_beq]
theorem tr_lst (xs : List D) : truth (.lst xs) = some (!xs.isEmpty) := rfl
theorem tr_tup (xs : List D) : truth (.tup xs) = some (!xs.isEmpty) := rfl
theorem atN_lt {n k : Nat} (h : k < n) : atN n (k : Int) = some k := by
  unfold atN
  rw [if_pos (by omega), if_pos (by omega)]
  simp
theorem ix_lst {xs : List D} {k : Nat} (h : k < xs.length) : ixD (.lst xs) (natD k) = some xs[k] := by
  simp only [natD, ixD, atN_lt h, Option.bind, List.getElem?_eq_getElem h]
theorem ix_tup {xs : List D} {k : Nat} (h : k < xs.length) : ixD (.tup xs) (natD k) = some xs[k] := by
  simp only [natD, ixD, atN_lt h, Option.bind, List.getElem?_eq_getElem h]
theorem ix_lstm {α : Type} {f : α → D} {xs : List α} {k : Nat} (h : k < xs.length) : ixD (.lst (xs.map f)) (natD k) = some (f xs[k]) := by
  rw [ix_lst (by simpa using h), List.getElem_map]
theorem ix_tupm {α : Type} {f : α → D} {xs : List α} {k : Nat} (h : k < xs.length) : ixD (.tup (xs.map f)) (natD k) = some (f xs[k]) := by
  rw [ix_tup (by simpa using h), List.getElem_map]
theorem ix_cov {xs : List (Nat × Nat)} {k : Nat} (h : k < xs.length) : ixD (coverD xs) (natD k) = some (cubeD xs[k]) := ix_tupm h
theorem ix_t0 {a : D} {r : List D} : ixD (.tup (a :: r)) (natD 0) = some a := ix_tup (by simp)
theorem ix_t1 {a b : D} {r : List D} : ixD (.tup (a :: b :: r)) (natD 1) = some b := ix_tup (by simp)
theorem ix_t2 {a b c : D} {r : List D} : ixD (.tup (a :: b :: c :: r)) (natD 2) = some c := ix_tup (by simp)
theorem ix_t3 {a b c d : D} {r : List D} : ixD (.tup (a :: b :: c :: d :: r)) (natD 3) = some d := ix_tup (by simp)
theorem ix_l0 {a : D} {r : List D} : ixD (.lst (a :: r)) (natD 0) = some a := ix_lst (by simp)
theorem ix_l1 {a b : D} {r : List D} : ixD (.lst (a :: b :: r)) (natD 1) = some b := ix_lst (by simp)
theorem ix_l2 {a b c : D} {r : List D} : ixD (.lst (a :: b :: c :: r)) (natD 2) = some c := ix_lst (by simp)
theorem ix_l3 {a b c d : D} {r : List D} : ixD (.lst (a :: b :: c :: d :: r)) (natD 3) = some d := ix_lst (by simp)
theorem ix_c0 (c : Nat × Nat) : ixD (cubeD c) (natD 0) = some (natD c.1) := rfl
theorem ix_c1 (c : Nat × Nat) : ixD (cubeD c) (natD 1) = some (natD c.2) := rfl
theorem pr_lenL (xs : List D) : primD .len [.lst xs] = some (false, natD xs.length) := rfl
theorem pr_lenT (xs : List D) : primD .len [.tup xs] = some (false, natD xs.length) := rfl
theorem pr_lenC (cs : List (Nat × Nat)) : primD .len [coverD cs] = some (false, natD cs.length) := by
  show some (false, natD (cs.map cubeD).length) = _
  rw [List.length_map]
theorem pr_lenD (xs : List D) : primD .len [.dct xs] = some (false, natD xs.length) := rfl
theorem pr_lenK (c : Nat × Nat) : primD .len [cubeD c] = some (false, natD 2) := rfl
theorem pr_tupL (xs : List D) : primD .tuple [.lst xs] = some (false, .tup xs) := rfl
theorem pr_tupT (xs : List D) : primD .tuple [.tup xs] = some (false, .tup xs) := rfl
theorem pr_lstL (xs : List D) : primD .list [.lst xs] = some (true, .lst xs) := rfl
theorem pr_lstT (xs : List D) : primD .list [.tup xs] = some (true, .lst xs) := rfl
theorem pr_lstC (xs : List (Nat × Nat)) : primD .list [coverD xs] = some (true, .lst (xs.map cubeD)) := rfl
theorem pr_lstS (xs : List D) : primD .list [.scr xs] = some (true, .lst xs) := rfl
theorem pr_intN (n : Nat) : primD .int [natD n] = some (false, natD n) := rfl
theorem pr_intB (b : Bool) : primD .int [.bl b] = some (false, natD (if b then 1 else 0)) := by cases b <;> rfl
theorem ints_nat : ∀ xs : List Nat, intsOf (xs.map natD) = some (xs.map fun x : Nat => (x : Int))
  | [] => rfl
  | x :: xs => by
    show (match intsOf (xs.map natD) with | some is => some ((x : Int) :: is) | none => none) = _
    rw [ints_nat xs]
    rfl
theorem sum_nat : ∀ xs : List Nat, (xs.map fun x : Nat => (x : Int)).sum = ((xs.sum : Nat) : Int)
  | [] => rfl
  | x :: xs => by rw [List.map_cons, List.sum_cons, sum_nat xs, List.sum_cons, Int.natCast_add]
theorem pr_sumN (xs : List Nat) : primD .sum [.lst (xs.map natD)] = some (false, natD xs.sum) := by
  simp only [primD, ints_nat, sum_nat]
  rfl
theorem bls_map : ∀ xs : List Bool, blsOf (xs.map D.bl) = some xs
  | [] => rfl
  | x :: xs => by
    show (match blsOf (xs.map D.bl) with | some is => some (x :: is) | none => none) = _
    rw [bls_map xs]
theorem pr_allB (xs : List Bool) : primD .all [.lst (xs.map D.bl)] = some (false, .bl (xs.all id)) := by
  simp only [primD, bls_map]
theorem pr_anyB (xs : List Bool) : primD .any [.lst (xs.map D.bl)] = some (false, .bl (xs.any id)) := by
  simp only [primD, bls_map]
theorem ty_nat (k : Nat) : tyOf (natD k) = some "int" := rfl
theorem ty_str (s : String) : tyOf (strD s) = some "str" := rfl
theorem ty_cube (c : Nat × Nat) : tyOf (cubeD c) = some "tuple" := rfl
theorem ty_cover (c : List (Nat × Nat)) : tyOf (coverD c) = some "tuple" := rfl
theorem pr_isi {d : D} {n t : String} (h : tyOf d = some t) : primD .isi [d, .ty n] = match isiD n t with
      | some b => some (false, .bl b)
      | none => none := by simp only [primD, h] <;> rfl
theorem pi_tup_int (xs : List D) : primD .isi [.tup xs, .ty "int"] = some (false, .bl false) := (pr_isi (show tyOf (.tup xs) = some "tuple" from rfl)).trans rfl
theorem pi_tup_bool (xs : List D) : primD .isi [.tup xs, .ty "bool"] = some (false, .bl false) := (pr_isi (show tyOf (.tup xs) = some "tuple" from rfl)).trans rfl
theorem pi_tup_str (xs : List D) : primD .isi [.tup xs, .ty "str"] = some (false, .bl false) := (pr_isi (show tyOf (.tup xs) = some "tuple" from rfl)).trans rfl
theorem pi_tup_tuple (xs : List D) : primD .isi [.tup xs, .ty "tuple"] = some (false, .bl true) := (pr_isi (show tyOf (.tup xs) = some "tuple" from rfl)).trans rfl
theorem pi_tup_list (xs : List D) : primD .isi [.tup xs, .ty "list"] = some (false, .bl false) := (pr_isi (show tyOf (.tup xs) = some "tuple" from rfl)).trans rfl
theorem pi_lst_int (xs : List D) : primD .isi [.lst xs, .ty "int"] = some (false, .bl false) := (pr_isi (show tyOf (.lst xs) = some "list" from rfl)).trans rfl
theorem pi_lst_bool (xs : List D) : primD .isi [.lst xs, .ty "bool"] = some (false, .bl false) := (pr_isi (show tyOf (.lst xs) = some "list" from rfl)).trans rfl
theorem pi_lst_str (xs : List D) : primD .isi [.lst xs, .ty "str"] = some (false, .bl false) := (pr_isi (show tyOf (.lst xs) = some "list" from rfl)).trans rfl
theorem pi_lst_tuple (xs : List D) : primD .isi [.lst xs, .ty "tuple"] = some (false, .bl false) := (pr_isi (show tyOf (.lst xs) = some "list" from rfl)).trans rfl
theorem pi_lst_list (xs : List D) : primD .isi [.lst xs, .ty "list"] = some (false, .bl true) := (pr_isi (show tyOf (.lst xs) = some "list" from rfl)).trans rfl
theorem pi_int_int (i : Int) : primD .isi [.int i, .ty "int"] = some (false, .bl true) := (pr_isi (show tyOf (.int i) = some "int" from rfl)).trans rfl
theorem pi_int_bool (i : Int) : primD .isi [.int i, .ty "bool"] = some (false, .bl false) := (pr_isi (show tyOf (.int i) = some "int" from rfl)).trans rfl
theorem pi_int_str (i : Int) : primD .isi [.int i, .ty "str"] = some (false, .bl false) := (pr_isi (show tyOf (.int i) = some "int" from rfl)).trans rfl
theorem pi_int_tuple (i : Int) : primD .isi [.int i, .ty "tuple"] = some (false, .bl false) := (pr_isi (show tyOf (.int i) = some "int" from rfl)).trans rfl
theorem pi_int_list (i : Int) : primD .isi [.int i, .ty "list"] = some (false, .bl false) := (pr_isi (show tyOf (.int i) = some "int" from rfl)).trans rfl
theorem pi_bl_int (b : Bool) : primD .isi [.bl b, .ty "int"] = some (false, .bl true) := (pr_isi (show tyOf (.bl b) = some "bool" from rfl)).trans rfl
theorem pi_bl_bool (b : Bool) : primD .isi [.bl b, .ty "bool"] = some (false, .bl true) := (pr_isi (show tyOf (.bl b) = some "bool" from rfl)).trans rfl
theorem pi_bl_str (b : Bool) : primD .isi [.bl b, .ty "str"] = some (false, .bl false) := (pr_isi (show tyOf (.bl b) = some "bool" from rfl)).trans rfl
theorem pi_bl_tuple (b : Bool) : primD .isi [.bl b, .ty "tuple"] = some (false, .bl false) := (pr_isi (show tyOf (.bl b) = some "bool" from rfl)).trans rfl
theorem pi_bl_list (b : Bool) : primD .isi [.bl b, .ty "list"] = some (false, .bl false) := (pr_isi (show tyOf (.bl b) = some "bool" from rfl)).trans rfl
theorem pi_str_int (x : Str) : primD .isi [.str x, .ty "int"] = some (false, .bl false) := (pr_isi (show tyOf (.str x) = some "str" from rfl)).trans rfl
theorem pi_str_bool (x : Str) : primD .isi [.str x, .ty "bool"] = some (false, .bl false) := (pr_isi (show tyOf (.str x) = some "str" from rfl)).trans rfl
theorem pi_str_str (x : Str) : primD .isi [.str x, .ty "str"] = some (false, .bl true) := (pr_isi (show tyOf (.str x) = some "str" from rfl)).trans rfl
theorem pi_str_tuple (x : Str) : primD .isi [.str x, .ty "tuple"] = some (false, .bl false) := (pr_isi (show tyOf (.str x) = some "str" from rfl)).trans rfl
theorem pi_str_list (x : Str) : primD .isi [.str x, .ty "list"] = some (false, .bl false) := (pr_isi (show tyOf (.str x) = some "str" from rfl)).trans rfl
theorem pi_non_int  : primD .isi [.non, .ty "int"] = some (false, .bl false) := (pr_isi (show tyOf (.non) = some "NoneType" from rfl)).trans rfl
theorem pi_non_bool  : primD .isi [.non, .ty "bool"] = some (false, .bl false) := (pr_isi (show tyOf (.non) = some "NoneType" from rfl)).trans rfl
theorem pi_non_str  : primD .isi [.non, .ty "str"] = some (false, .bl false) := (pr_isi (show tyOf (.non) = some "NoneType" from rfl)).trans rfl
theorem pi_non_tuple  : primD .isi [.non, .ty "tuple"] = some (false, .bl false) := (pr_isi (show tyOf (.non) = some "NoneType" from rfl)).trans rfl
theorem pi_non_list  : primD .isi [.non, .ty "list"] = some (false, .bl false) := (pr_isi (show tyOf (.non) = some "NoneType" from rfl)).trans rfl
theorem pi_nat_int (k : Nat) : primD .isi [natD k, .ty "int"] = some (false, .bl true) := (pr_isi (show tyOf (natD k) = some "int" from rfl)).trans rfl
theorem pi_nat_bool (k : Nat) : primD .isi [natD k, .ty "bool"] = some (false, .bl false) := (pr_isi (show tyOf (natD k) = some "int" from rfl)).trans rfl
theorem pi_nat_str (k : Nat) : primD .isi [natD k, .ty "str"] = some (false, .bl false) := (pr_isi (show tyOf (natD k) = some "int" from rfl)).trans rfl
theorem pi_nat_tuple (k : Nat) : primD .isi [natD k, .ty "tuple"] = some (false, .bl false) := (pr_isi (show tyOf (natD k) = some "int" from rfl)).trans rfl
theorem pi_nat_list (k : Nat) : primD .isi [natD k, .ty "list"] = some (false, .bl false) := (pr_isi (show tyOf (natD k) = some "int" from rfl)).trans rfl
theorem pi_strd_int (s : String) : primD .isi [strD s, .ty "int"] = some (false, .bl false) := (pr_isi (show tyOf (strD s) = some "str" from rfl)).trans rfl
theorem pi_strd_bool (s : String) : primD .isi [strD s, .ty "bool"] = some (false, .bl false) := (pr_isi (show tyOf (strD s) = some "str" from rfl)).trans rfl
theorem pi_strd_str (s : String) : primD .isi [strD s, .ty "str"] = some (false, .bl true) := (pr_isi (show tyOf (strD s) = some "str" from rfl)).trans rfl
theorem pi_strd_tuple (s : String) : primD .isi [strD s, .ty "tuple"] = some (false, .bl false) := (pr_isi (show tyOf (strD s) = some "str" from rfl)).trans rfl
theorem pi_strd_list (s : String) : primD .isi [strD s, .ty "list"] = some (false, .bl false) := (pr_isi (show tyOf (strD s) = some "str" from rfl)).trans rfl
theorem pi_cube_int (c : Nat × Nat) : primD .isi [cubeD c, .ty "int"] = some (false, .bl false) := (pr_isi (show tyOf (cubeD c) = some "tuple" from rfl)).trans rfl
theorem pi_cube_bool (c : Nat × Nat) : primD .isi [cubeD c, .ty "bool"] = some (false, .bl false) := (pr_isi (show tyOf (cubeD c) = some "tuple" from rfl)).trans rfl
theorem pi_cube_str (c : Nat × Nat) : primD .isi [cubeD c, .ty "str"] = some (false, .bl false) := (pr_isi (show tyOf (cubeD c) = some "tuple" from rfl)).trans rfl
theorem pi_cube_tuple (c : Nat × Nat) : primD .isi [cubeD c, .ty "tuple"] = some (false, .bl true) := (pr_isi (show tyOf (cubeD c) = some "tuple" from rfl)).trans rfl
theorem pi_cube_list (c : Nat × Nat) : primD .isi [cubeD c, .ty "list"] = some (false, .bl false) := (pr_isi (show tyOf (cubeD c) = some "tuple" from rfl)).trans rfl
theorem pi_cover_int (c : List (Nat × Nat)) : primD .isi [coverD c, .ty "int"] = some (false, .bl false) := (pr_isi (show tyOf (coverD c) = some "tuple" from rfl)).trans rfl
theorem pi_cover_bool (c : List (Nat × Nat)) : primD .isi [coverD c, .ty "bool"] = some (false, .bl false) := (pr_isi (show tyOf (coverD c) = some "tuple" from rfl)).trans rfl
theorem pi_cover_str (c : List (Nat × Nat)) : primD .isi [coverD c, .ty "str"] = some (false, .bl false) := (pr_isi (show tyOf (coverD c) = some "tuple" from rfl)).trans rfl
theorem pi_cover_tuple (c : List (Nat × Nat)) : primD .isi [coverD c, .ty "tuple"] = some (false, .bl true) := (pr_isi (show tyOf (coverD c) = some "tuple" from rfl)).trans rfl
theorem pi_cover_list (c : List (Nat × Nat)) : primD .isi [coverD c, .ty "list"] = some (false, .bl false) := (pr_isi (show tyOf (coverD c) = some "tuple" from rfl)).trans rfl
theorem pi_dct_int (xs : List D) : primD .isi [.dct xs, .ty "int"] = some (false, .bl false) := (pr_isi (show tyOf (.dct xs) = some "dict" from rfl)).trans rfl
theorem pi_dct_bool (xs : List D) : primD .isi [.dct xs, .ty "bool"] = some (false, .bl false) := (pr_isi (show tyOf (.dct xs) = some "dict" from rfl)).trans rfl
theorem pi_dct_str (xs : List D) : primD .isi [.dct xs, .ty "str"] = some (false, .bl false) := (pr_isi (show tyOf (.dct xs) = some "dict" from rfl)).trans rfl
theorem pi_dct_tuple (xs : List D) : primD .isi [.dct xs, .ty "tuple"] = some (false, .bl false) := (pr_isi (show tyOf (.dct xs) = some "dict" from rfl)).trans rfl
theorem pi_dct_list (xs : List D) : primD .isi [.dct xs, .ty "list"] = some (false, .bl false) := (pr_isi (show tyOf (.dct xs) = some "dict" from rfl)).trans rfl
theorem it_lst (xs : List D) : itemsD (.lst xs) = some xs := rfl
theorem it_tup (xs : List D) : itemsD (.tup xs) = some xs := rfl
theorem it_cov (xs : List (Nat × Nat)) : itemsD (coverD xs) = some (xs.map cubeD) := rfl
theorem it_cube (c : Nat × Nat) : itemsD (cubeD c) = some [natD c.1, natD c.2] := rfl
theorem sq_cube (c : Nat × Nat) : seqD (cubeD c) = some [natD c.1, natD c.2] := rfl
theorem sq_lst (xs : List D) : seqD (.lst xs) = some xs := rfl
theorem sq_tup (xs : List D) : seqD (.tup xs) = some xs := rfl
theorem sq_cov (xs : List (Nat × Nat)) : seqD (coverD xs) = some (xs.map cubeD) := rfl
theorem fl_nat (k : Nat) : (natD k).flat = true := rfl
theorem fl_str (k : String) : (strD k).flat = true := rfl
theorem fl_bl (k : Bool) : (D.bl k).flat = true := rfl
theorem fl_non : D.non.flat = true := rfl
theorem fl_lst (k : List D) : (D.lst k).flat = false := rfl
theorem fl_tup (k : List D) : (D.tup k).flat = false := rfl
theorem fl_cube (k : Nat × Nat) : (cubeD k).flat = false := rfl
theorem fl_cover (k : List (Nat × Nat)) : (coverD k).flat = false := rfl
theorem fit0 : fitL 0 = true := rfl
theorem fit1 : fitL (0 + 1) = true := rfl
theorem fit2 : fitL (0 + 1 + 1) = true := rfl
theorem fit3 : fitL (0 + 1 + 1 + 1) = true := rfl
theorem fit4 : fitL (0 + 1 + 1 + 1 + 1) = true := rfl
theorem fit_of {n : Nat} (h : n ≤ 1000000) : fitL n = true := by
  unfold fitL maxLen
  rw [decide_eq_true_eq]; omega
theorem rng_nat {n : Nat} {e : Env} (h : n ≤ 1000000) : rngA (natD n) e = .val ((List.range n).map natD) e := by
  unfold rngA natD rangeD
  simp only
  rw [if_pos ⟨by omega, by omega⟩]
  simp
theorem rng2_nat {a b : Nat} {e : Env} (h : b ≤ 1000000) (h2 : a ≤ 1000000) : rng2A (natD a) (natD b) e = .val ((List.range (b - a)).map fun i => natD (a + i)) e := by
  unfold rng2A natD rangeD
  simp only
  rw [if_pos ⟨by omega, by omega, by omega, by omega⟩, show ((b : Int) - (a : Int)).toNat = b - a by omega]
  simp
theorem enum_map {α : Type} (f : α → D) : ∀ (xs : List α) (k : Nat), enumD k (xs.map f) = (xs.zipIdx k).map fun p => .tup [natD p.2, f p.1]
  | [], _ => rfl
  | x :: xs, k => by
    rw [List.map_cons, enumD, enum_map f xs (k + 1), List.zipIdx_cons, List.map_cons]
    rfl
theorem end_none : endD none = some none := rfl
theorem end_nat (k : Nat) : endD (some (natD k)) = some (some (k : Int)) := rfl
theorem cutTo (xs : List D) (k : Nat) : cutD xs none (some (k : Int)) = xs.take k := by
  unfold cutD HT.sIx
  simp only [List.drop_zero, Nat.sub_zero]
  rw [if_neg (by omega), Int.toNat_natCast]
  by_cases h : k ≤ xs.length
  · rw [Nat.min_eq_left h]
  · rw [Nat.min_eq_right (by omega), List.take_of_length_le (Nat.le_refl _), List.take_of_length_le (by omega)]
theorem cutFrom (xs : List D) (k : Nat) : cutD xs (some (k : Int)) none = xs.drop k := by
  unfold cutD HT.sIx
  simp only
  rw [if_neg (by omega), Int.toNat_natCast]
  by_cases h : k ≤ xs.length
  · rw [Nat.min_eq_left h, List.take_of_length_le (by rw [List.length_drop]; omega)]
  · rw [Nat.min_eq_right (by omega), List.drop_of_length_le (Nat.le_refl _), List.drop_of_length_le (by omega)]; simp
theorem sl_lt (xs : List D) (k : Nat) : slD (.lst xs) none (some (k : Int)) = some (true, .lst (xs.take k)) := by simp only [slD, cutTo]
theorem sl_lf (xs : List D) (k : Nat) : slD (.lst xs) (some (k : Int)) none = some (true, .lst (xs.drop k)) := by simp only [slD, cutFrom]
theorem sl_tt (xs : List D) (k : Nat) : slD (.tup xs) none (some (k : Int)) = some (false, .tup (xs.take k)) := by simp only [slD, cutTo]
theorem sl_tf (xs : List D) (k : Nat) : slD (.tup xs) (some (k : Int)) none = some (false, .tup (xs.drop k)) := by simp only [slD, cutFrom]
theorem sl_ct (xs : List (Nat × Nat)) (k : Nat) : slD (coverD xs) none (some (k : Int)) = some (false, coverD (xs.take k)) := by
  unfold coverD; rw [sl_tt, List.map_take]
theorem sl_cf (xs : List (Nat × Nat)) (k : Nat) : slD (coverD xs) (some (k : Int)) none = some (false, coverD (xs.drop k)) := by
  unfold coverD; rw [sl_tf, List.map_drop]
theorem addL {a b : List D} (h : a.length + b.length ≤ 1000000) : binD .Add (.lst a) (.lst b) = some (true, .lst (a ++ b)) := by
  simp only [binD]
  rw [if_pos (by unfold maxLen; omega)]
theorem addLm {α : Type} {f : α → D} {a b : List α} (h : a.length + b.length ≤ 1000000) : binD .Add (.lst (a.map f)) (.lst (b.map f)) = some (true, .lst ((a ++ b).map f)) := by
  rw [addL (by simpa using h), List.map_append]
theorem addT {a b : List D} (h : a.length + b.length ≤ 1000000) : binD .Add (.tup a) (.tup b) = some (false, .tup (a ++ b)) := by
  simp only [binD]
  rw [if_pos (by unfold maxLen; omega)]
theorem addC {a b : List (Nat × Nat)} (h : a.length + b.length ≤ 1000000) : binD .Add (coverD a) (coverD b) = some (false, coverD (a ++ b)) := by
  unfold coverD
  rw [addT (by simpa using h), List.map_append]
theorem putL {xs : List D} {k : Nat} {v : D} (h : k < xs.length) : putAt (.lst xs) (natD k) v = some (.lst (xs.set k v)) := by
  show (match atN xs.length (k : Int) with | some q => some (D.lst (xs.set q v)) | none => none) = _
  rw [atN_lt h]
theorem addO {xs : List D} {v : D} (h : xs.length < 1000000) : addD v (.lst xs) = some (.lst (xs ++ [v])) := by
  unfold addD
  simp only
  rw [if_pos (by unfold maxLen; omega)]
theorem addOm {α : Type} {f : α → D} {a : List α} {x : α} {d : D} (hd : d = f x) (h : a.length < 1000000) : addD d (.lst (a.map f)) = some (.lst ((a ++ [x]).map f)) := by
  rw [addO (by simpa using h), List.map_append, hd]; rfl
theorem extO {xs ys : List D} (h : xs.length + ys.length ≤ 1000000) : extD (.lst ys) (.lst xs) = some (.lst (xs ++ ys)) := by
  unfold extD
  simp only
  rw [if_pos (by unfold maxLen; omega)]
theorem putLm {α : Type} {f : α → D} {xs : List α} {k : Nat} {v : α} {d : D} (hd : d = f v) (h : k < xs.length) : putAt (.lst (xs.map f)) (natD k) d = some (.lst ((xs.set k v).map f)) := by
  rw [putL (by simpa using h), List.map_set, hd]
theorem map_snoc {α : Type} (f : α → D) (xs : List α) (a : α) : xs.map f ++ [f a] = (xs ++ [a]).map f := by simp
theorem asg_nm {i : Nat} {f : Bool} {d : D} {e : Env} : asgT (.nm i) f d e = some (setB e i (some (if f = true then .ow d else .sh d))) := rfl
theorem asg_tp {is : List Nat} {f : Bool} {ds : List D} {e : Env} : asgT (.tp is) f (.tup ds) e = asgN is ds e := rfl
theorem asg_cube {is : List Nat} {f : Bool} {c : Nat × Nat} {e : Env} : asgT (.tp is) f (cubeD c) e = asgN is [natD c.1, natD c.2] e := rfl
theorem uNeg1 : unD .USub (natD 1) = some (.int (-1)) := rfl
theorem ltNeg : cmpD .Lt (.int (-1)) (natD 0) = some true := by decide +kernel
/-! ## dicts with numbers, sorted lists -/
def putP (k v : Nat) (ps : List (Nat × Nat)) : List (Nat × Nat) := if (ps.lookup k).isSome = true then ps.map (fun p => if p.1 = k then (p.1, v) else p) else ps ++ [(k, v)]
theorem key_nat (k : Nat) : isKey (natD k) = true := rfl
theorem dGet_n (k : Nat) : ∀ ps : List (Nat × Nat), dGet (ps.map cubeD) (natD k) = (ps.lookup k).map natD
  | [] => rfl
  | (a, b) :: ps => by
    show (if keyEq (natD a) (natD k) = true then some (natD b) else dGet (ps.map cubeD) (natD k)) = _
    have : keyEq (natD a) (natD k) = (k == a) := by
      show ((a : Int) == (k : Int)) = _
      rw [nat_beq, Bool.eq_iff_iff, beq_iff_eq, beq_iff_eq]; omega
    rw [this, dGet_n k ps, List.lookup_cons]
    cases k == a <;> rfl
theorem dPut_n (k v : Nat) (ps : List (Nat × Nat)) : dPut (ps.map cubeD) (natD k) (natD v) = (putP k v ps).map cubeD := by
  unfold dPut putP
  rw [dGet_n]
  have h1 : ∀ p : Nat × Nat, dRepl (natD k) (natD v) (cubeD p) = cubeD (if p.1 = k then (p.1, v) else p) := fun p => by
    show (if keyEq (natD p.1) (natD k) = true then D.tup [natD p.1, natD v] else D.tup [natD p.1, natD p.2]) = _
    have : keyEq (natD p.1) (natD k) = decide (p.1 = k) := by
      show ((p.1 : Int) == (k : Int)) = _
      rw [nat_beq, Bool.eq_iff_iff, beq_iff_eq, decide_eq_true_eq]
    rw [this]
    by_cases h : p.1 = k
    · rw [if_pos (by simpa using h), if_pos h]; rfl
    · rw [if_neg (by simpa using h), if_neg h]; rfl
  cases ps.lookup k with
  | none => simp only [Option.map, Option.isSome, Bool.false_eq_true, if_false, List.map_append]; rfl
  | some x =>
    simp only [Option.map, Option.isSome, if_true, List.map_map]
    exact List.map_congr_left fun p _ => h1 p
theorem get_n (ps : List (Nat × Nat)) (k d : Nat) : (dGet (ps.map cubeD) (natD k)).getD (natD d) = natD ((ps.lookup k).getD d) := by
  rw [dGet_n]
  cases ps.lookup k <;> rfl
theorem putAt_n {ps : List (Nat × Nat)} {k v : Nat} (h : ps.length < 1000000) : putAt (.dct (ps.map cubeD)) (natD k) (natD v) = some (.dct ((putP k v ps).map cubeD)) := by
  show (if isKey (natD k) = true then (if (ps.map cubeD).length < maxLen then some (D.dct (dPut (ps.map cubeD) (natD k) (natD v))) else none) else none) = _
  rw [if_pos (key_nat k), if_pos (by rw [List.length_map]; unfold maxLen; omega), dPut_n]
theorem ix_dn (ps : List (Nat × Nat)) (k : Nat) : ixD (.dct (ps.map cubeD)) (natD k) = (ps.lookup k).map natD := by
  show (if isKey (natD k) = true then dGet (ps.map cubeD) (natD k) else none) = _
  rw [if_pos (key_nat k), dGet_n]
theorem put_keys (k v : Nat) (ps : List (Nat × Nat)) : (putP k v ps).map (·.1) = if k ∈ ps.map (·.1) then ps.map (·.1) else ps.map (·.1) ++ [k] := by
  have e : (ps.lookup k).isSome = true ↔ k ∈ ps.map (·.1) := by
    induction ps with
    | nil => simp
    | cons p ps ih =>
      obtain ⟨a, b⟩ := p
      rw [List.lookup_cons, List.map_cons, List.mem_cons]
      by_cases h : k = a
      · simp [h]
      · rw [beqP h]; simp only [ih]; simp [h]
  unfold putP
  by_cases h : k ∈ ps.map (·.1)
  · rw [if_pos (e.mpr h), if_pos h, List.map_map]
    refine List.map_congr_left fun p _ => ?_
    show (if p.1 = k then (p.1, v) else p).1 = p.1
    split <;> rfl
  · rw [if_neg (fun q => h (e.mp q)), if_neg h]; simp
theorem lookup_some {ps : List (Nat × Nat)} {k : Nat} (h : k ∈ ps.map (·.1)) : ∃ v, ps.lookup k = some v := by
  induction ps with
  | nil => simp at h
  | cons p ps ih =>
    obtain ⟨a, b⟩ := p
    rw [List.lookup_cons]
    by_cases q : k = a
    · exact ⟨b, by simp [q]⟩
    · rw [beqP q]
      exact ih (by simpa [q] using h)
def insN (i : Nat) : List Nat → List Nat
  | [] => [i]
  | j :: r => if i ≤ j then i :: j :: r else j :: insN i r
def sortN : List Nat → List Nat
  | [] => []
  | i :: r => insN i (sortN r)
theorem ins_cast (i : Nat) : ∀ xs : List Nat, insI (i : Int) (xs.map fun x : Nat => (x : Int)) = (insN i xs).map fun x : Nat => (x : Int)
  | [] => rfl
  | x :: xs => by
    simp only [List.map_cons, insI, insN, Int.ofNat_le]
    split
    · rfl
    · rw [ins_cast i xs, List.map_cons]
theorem sort_cast : ∀ xs : List Nat, sortI (xs.map fun x : Nat => (x : Int)) = (sortN xs).map fun x : Nat => (x : Int)
  | [] => rfl
  | x :: xs => by rw [List.map_cons, sortI, sort_cast xs, ins_cast, sortN]
theorem ins_perm (i : Nat) : ∀ xs : List Nat, (insN i xs).Perm (i :: xs)
  | [] => List.Perm.refl _
  | x :: xs => by
    unfold insN
    split
    · exact List.Perm.refl _
    · exact (List.Perm.cons x (ins_perm i xs)).trans (List.Perm.swap i x xs)
theorem sort_perm : ∀ xs : List Nat, (sortN xs).Perm xs
  | [] => List.Perm.refl _
  | x :: xs => (ins_perm x (sortN xs)).trans (List.Perm.cons x (sort_perm xs))
theorem ins_sorted (i : Nat) : ∀ {xs : List Nat}, xs.Pairwise (· ≤ ·) → (insN i xs).Pairwise (· ≤ ·)
  | [], _ => by simp [insN]
  | x :: xs, h => by
    have h' := List.pairwise_cons.mp h
    unfold insN
    split
    · rename_i q
      refine List.pairwise_cons.mpr ⟨fun y hy => ?_, h⟩
      rcases List.mem_cons.mp hy with rfl | hy
      · exact q
      · exact Nat.le_trans q (h'.1 y hy)
    · rename_i q
      refine List.pairwise_cons.mpr ⟨fun y hy => ?_, ins_sorted i h'.2⟩
      rcases List.mem_cons.mp ((ins_perm i xs).mem_iff.mp hy) with rfl | hy
      · omega
      · exact h'.1 y hy
theorem sort_sorted : ∀ xs : List Nat, (sortN xs).Pairwise (· ≤ ·)
  | [] => List.Pairwise.nil
  | x :: xs => ins_sorted x (sort_sorted xs)
theorem map_cast (xs : List Nat) : (xs.map fun x : Nat => (x : Int)).map D.int = xs.map natD := by
  rw [List.map_map]; rfl
theorem pr_sortL (xs : List Nat) : primD .sorted [.lst (xs.map natD)] = some (true, .lst ((sortN xs).map natD)) := by
  show (match intsOf (xs.map natD) with | some is => some (true, D.lst ((sortI is).map .int)) | none => none) = _
  rw [ints_nat]
  show some (true, D.lst ((sortI _).map .int)) = _
  rw [sort_cast, map_cast]
/-- each once -/
def nubN : List Nat → List Nat
  | [] => []
  | i :: r => if i ∈ r then nubN r else i :: nubN r
theorem nub_cast : ∀ xs : List Nat, nubI (xs.map fun x : Nat => (x : Int)) = (nubN xs).map fun x : Nat => (x : Int)
  | [] => rfl
  | x :: xs => by
    have e : ((x : Int) ∈ xs.map fun x : Nat => (x : Int)) ↔ x ∈ xs := by
      rw [List.mem_map]
      exact ⟨fun ⟨y, h, q⟩ => by rw [← Int.ofNat_inj.mp q]; exact h, fun h => ⟨x, h, rfl⟩⟩
    rw [List.map_cons, nubI, nubN, nub_cast xs]
    by_cases h : x ∈ xs
    · rw [if_pos h, if_pos (e.mpr h)]
    · rw [if_neg h, if_neg (fun q => h (e.mp q))]; rfl
theorem mem_nubN {k : Nat} : ∀ {l : List Nat}, k ∈ nubN l ↔ k ∈ l
  | [] => Iff.rfl
  | i :: r => by
    unfold nubN
    split
    · rename_i h
      rw [mem_nubN, List.mem_cons]
      exact ⟨.inr, fun q => q.elim (fun e => e ▸ h) id⟩
    · rw [List.mem_cons, List.mem_cons, mem_nubN]
theorem nodup_nubN : ∀ l : List Nat, (nubN l).Nodup
  | [] => List.nodup_nil
  | i :: r => by
    unfold nubN
    split
    · exact nodup_nubN r
    · rename_i h
      exact List.nodup_cons.mpr ⟨fun q => h (mem_nubN.mp q), nodup_nubN r⟩
theorem nubN_id : ∀ {l : List Nat}, l.Nodup → nubN l = l
  | [], _ => rfl
  | i :: r, h => by
    obtain ⟨h1, h2⟩ := List.nodup_cons.mp h
    unfold nubN
    rw [if_neg h1, nubN_id h2]
/-- the members, each once, ascending -/
def setN (l : List Nat) : List Nat := sortN (nubN l)
theorem mem_setN {k : Nat} {l : List Nat} : k ∈ setN l ↔ k ∈ l := (sort_perm _).mem_iff.trans mem_nubN
theorem nodup_setN (l : List Nat) : (setN l).Nodup := (sort_perm _).nodup_iff.mpr (nodup_nubN l)
theorem sorted_setN (l : List Nat) : (setN l).Pairwise (· < ·) := by
  have h1 := sort_sorted (nubN l)
  have h2 := nodup_setN l
  have := h1.and h2
  exact this.imp fun ⟨a, b⟩ => Nat.lt_of_le_of_ne a b
/-- lists that rise and have the same members -/
theorem rising_eq : ∀ {a b : List Nat}, a.Pairwise (· < ·) → b.Pairwise (· < ·) → (∀ k, k ∈ a ↔ k ∈ b) → a = b := fun {a b} ha hb h =>
  List.Perm.eq_of_pairwise (le := (· ≤ ·)) (fun x y _ _ h1 h2 => Nat.le_antisymm h1 h2) (ha.imp fun h => Nat.le_of_lt h) (hb.imp fun h => Nat.le_of_lt h) ((List.perm_ext_iff_of_nodup (ha.imp fun h => Nat.ne_of_lt h) (hb.imp fun h => Nat.ne_of_lt h)).mpr h)
theorem numsL (xs : List Nat) : numsD (.lst (xs.map natD)) = some (xs.map fun x : Nat => (x : Int)) := ints_nat xs
theorem numsT (xs : List Nat) : numsD (.tup (xs.map natD)) = some (xs.map fun x : Nat => (x : Int)) := ints_nat xs
theorem sset_L {xs : List Nat} {e : Env} (h : xs.length < 4000) : ssetA (.lst (xs.map natD)) e = .val (true, .lst ((setN xs).map natD)) e := by
  unfold ssetA
  rw [numsL]
  simp only [List.length_map]
  rw [if_pos h, nub_cast, sort_cast, map_cast]
  rfl
theorem sset_T {xs : List Nat} {e : Env} (h : xs.length < 4000) : ssetA (.tup (xs.map natD)) e = .val (true, .lst ((setN xs).map natD)) e := by
  unfold ssetA
  rw [numsT]
  simp only [List.length_map]
  rw [if_pos h, nub_cast, sort_cast, map_cast]
  rfl
theorem lset_L {xs : List Nat} {e : Env} (h : xs.length < 4000) : lsetA (.lst (xs.map natD)) e = .val (false, natD (nubN xs).length) e := by
  unfold lsetA
  rw [numsL]
  simp only [List.length_map]
  rw [if_pos h, nub_cast, List.length_map]
  rfl
theorem keys_n : ∀ ps : List (Nat × Nat), dKeys (ps.map cubeD) = some ((ps.map (·.1)).map natD)
  | [] => rfl
  | (a, b) :: ps => by
    show (match dKeys (ps.map cubeD) with | some ks => some (natD a :: ks) | none => none) = _
    rw [keys_n ps]
    rfl
theorem pr_sortD {ps : List (Nat × Nat)} (h : ps.length ≤ 1000000) : primD .sorted [.dct (ps.map cubeD)] = some (true, .lst ((sortN (ps.map (·.1))).map natD)) := by
  show (match dKeys (ps.map cubeD) with | some ks => (match intsOf ks with | some is => if is.length ≤ 1000000 then some (true, D.lst ((sortI is).map .int)) else none | none => none) | none => none) = _
  rw [keys_n]
  simp only [ints_nat]
  rw [if_pos (by simpa using h), sort_cast, map_cast]
theorem nodup_len : ∀ {w : Nat} {ks : List Nat}, ks.Nodup → (∀ k ∈ ks, k < w) → ks.length ≤ w
  | 0, [], _, _ => by simp
  | 0, k :: ks, _, h2 => absurd (h2 k (by simp)) (by omega)
  | w + 1, ks, h, h2 => by
    have hp := (List.filter_append_perm (fun k => decide (k < w)) ks).length_eq
    have h1 := nodup_len (w := w) (ks := ks.filter fun k => decide (k < w)) (h.sublist List.filter_sublist) fun k hk => by simpa using (List.mem_filter.mp hk).2
    have h3 : (ks.filter fun k => !decide (k < w)).length ≤ 1 := by
      have hn : (ks.filter fun k => !decide (k < w)).Nodup := h.sublist List.filter_sublist
      have ha : ∀ k ∈ ks.filter fun k => !decide (k < w), k = w := fun k hk => by
        obtain ⟨x, y⟩ := List.mem_filter.mp hk
        have := h2 k x
        simp at y
        omega
      generalize (ks.filter fun k => !decide (k < w)) = l at hn ha
      match l, hn, ha with
      | [], _, _ => simp
      | [_], _, _ => simp
      | a :: b :: l, hn, ha =>
        have e1 := ha a (by simp)
        have e2 := ha b (by simp)
        simp [e1, e2] at hn
    rw [List.length_append] at hp
    omega
/-! ## dicts as sets -/
def keyT (k : Nat) : D := .tup [natD k, .bl true]
def putT (k : Nat) (ks : List Nat) : List Nat := if k ∈ ks then ks else ks ++ [k]
theorem dGet_T (k : Nat) : ∀ ks : List Nat, dGet (ks.map keyT) (natD k) = if k ∈ ks then some (.bl true) else none
  | [] => rfl
  | a :: ks => by
    show (if keyEq (natD a) (natD k) = true then some (D.bl true) else dGet (ks.map keyT) (natD k)) = _
    have : keyEq (natD a) (natD k) = decide (a = k) := by
      show ((a : Int) == (k : Int)) = _
      rw [nat_beq, Bool.eq_iff_iff, beq_iff_eq, decide_eq_true_eq]
    rw [this, dGet_T k ks]
    by_cases h : a = k
    · subst h; simp
    · have h' : ¬ k = a := fun e => h e.symm
      simp [h, h']
theorem dPut_T (k : Nat) (ks : List Nat) : dPut (ks.map keyT) (natD k) (.bl true) = (putT k ks).map keyT := by
  unfold dPut putT
  rw [dGet_T]
  by_cases h : k ∈ ks
  · rw [if_pos h, if_pos h]
    simp only [List.map_map]
    refine List.map_congr_left fun a _ => ?_
    show (if keyEq (natD a) (natD k) = true then D.tup [natD a, .bl true] else D.tup [natD a, .bl true]) = keyT a
    split <;> rfl
  · rw [if_neg h, if_neg h, List.map_append]; rfl
theorem putAt_T {ks : List Nat} {k : Nat} (h : ks.length < 1000000) : putAt (.dct (ks.map keyT)) (natD k) (.bl true) = some (.dct ((putT k ks).map keyT)) := by
  show (if isKey (natD k) = true then (if (ks.map keyT).length < maxLen then some (D.dct (dPut (ks.map keyT) (natD k) (.bl true))) else none) else none) = _
  rw [if_pos (key_nat k), if_pos (by rw [List.length_map]; unfold maxLen; omega), dPut_T]
theorem keys_T : ∀ ks : List Nat, dKeys (ks.map keyT) = some (ks.map natD)
  | [] => rfl
  | a :: ks => by
    show (match dKeys (ks.map keyT) with | some l => some (natD a :: l) | none => none) = _
    rw [keys_T ks]
    rfl
theorem pr_sortT {ks : List Nat} (h : ks.length ≤ 1000000) : primD .sorted [.dct (ks.map keyT)] = some (true, .lst ((sortN ks).map natD)) := by
  show (match dKeys (ks.map keyT) with | some l => (match intsOf l with | some is => if is.length ≤ 1000000 then some (true, D.lst ((sortI is).map .int)) else none | none => none) | none => none) = _
  rw [keys_T]
  simp only [ints_nat]
  rw [if_pos (by simpa using h), sort_cast, map_cast]
theorem mem_putT {k x : Nat} {ks : List Nat} : x ∈ putT k ks ↔ x ∈ ks ∨ x = k := by
  unfold putT
  split
  · rename_i h
    exact ⟨.inl, fun q => q.elim id fun q => q ▸ h⟩
  · simp
theorem nodup_putT {k : Nat} {ks : List Nat} (h : ks.Nodup) : (putT k ks).Nodup := by
  unfold putT
  split
  · exact h
  · rename_i q
    refine List.nodup_append.mpr ⟨h, by simp, fun a ha b hb e => ?_⟩
    rw [List.mem_singleton] at hb
    subst hb e
    exact q ha
theorem sortN_of {l : List Nat} (h : l.Nodup) : (sortN l).Pairwise (· < ·) := by
  have h1 := sort_sorted l
  have h2 := (sort_perm l).nodup_iff.mpr h
  exact (h1.and h2).imp fun ⟨a, b⟩ => Nat.lt_of_le_of_ne a b
/-! ## a body in pieces -/
def takeS : Nat → Sms → Sms
  | 0, _ => .nil
  | _ + 1, .nil => .nil
  | n + 1, .cons s r => .cons s (takeS n r)
def dropS : Nat → Sms → Sms
  | 0, r => r
  | _ + 1, .nil => .nil
  | n + 1, .cons _ r => dropS n r
theorem es_take {T : List Fn} {P : Nat → List B → CA} {m : Nat} : ∀ {k : Nat} {b : Sms} {e e1 : Env}, es T P m (takeS k b) e = .val .nx e1 → es T P m b e = es T P m (dropS k b) e1
  | 0, b, e, e1, h => by
    rw [takeS, es_nil'] at h
    injection h with _ h
    rw [dropS, h]
  | k + 1, .nil, e, e1, h => by
    rw [takeS, es_nil'] at h
    injection h with _ h
    rw [dropS, h]
  | k + 1, .cons s r, e, e1, h => by
    rw [takeS, es_cons'] at h
    rw [es_cons', dropS]
    cases hs : es1 T P m s e with
    | stuck => rw [hs] at h; cases h
    | exc x e2 => rw [hs] at h; cases h
    | val fl e2 =>
      rw [hs, bindV] at h
      rw [bindV]
      cases fl with
      | nx => rw [then_nx] at h ⊢; exact es_take h
      | bk => rw [then_bk] at h; cases h
      | ct => rw [then_ct] at h; cases h
      | rt g d => rw [then_rt] at h; cases h
/-! ## calls -/
section
variable {T : List Fn} {P : Nat → List B → CA} {m : Nat}
/-- a call's end -/
theorem call_end {n f : Nat} {fn : Fn} {bs outs : List B} {fr : Bool} {d : D} {e : Env} (hT : T[f]? = some fn) (hl : bs.length = fn.np) (h : es T (callF T m n) m fn.body (bs.map some ++ List.replicate (fn.ns - fn.np) none) = .val (.rt fr d) e) (ho : outsOf bs e = some outs) : callF T m (n + 1) f bs = .ret fr d outs := by
  simp only [callF, hT, if_pos hl, h, ho]
theorem call_nx {n f : Nat} {fn : Fn} {bs outs : List B} {e : Env} (hT : T[f]? = some fn) (hl : bs.length = fn.np) (h : es T (callF T m n) m fn.body (bs.map some ++ List.replicate (fn.ns - fn.np) none) = .val .nx e) (ho : outsOf bs e = some outs) : callF T m (n + 1) f bs = .ret false .non outs := by
  simp only [callF, hT, if_pos hl, h, ho]
/-- the answer of a body, by what is left -/
def endC (bs : List B) : Ans Fl → CA
  | .val (.rt fr d) e => match outsOf bs e with
    | some outs => .ret fr d outs
    | none => .stuck
  | .val .nx e => match outsOf bs e with
    | some outs => .ret false .non outs
    | none => .stuck
  | _ => .stuck
theorem callF_body {n f : Nat} {fn : Fn} {bs : List B} (hT : T[f]? = some fn) (hl : bs.length = fn.np) : callF T m (n + 1) f bs = endC bs (es T (callF T m n) m fn.body (bs.map some ++ List.replicate (fn.ns - fn.np) none)) := by
  simp only [callF, hT, if_pos hl]
  generalize es T (callF T m n) m fn.body (bs.map some ++ List.replicate (fn.ns - fn.np) none) = a
  rcases a with _ | ⟨fl, e⟩ | ⟨x, e⟩
  · rfl
  · cases fl <;> rfl
  · rfl
theorem end_rt {bs : List B} {fr : Bool} {d : D} {e : Env} : endC bs (.val (.rt fr d) e) = match outsOf bs e with
    | some outs => .ret fr d outs
    | none => .stuck := rfl
theorem end_nx {bs : List B} {e : Env} : endC bs (.val .nx e) = match outsOf bs e with
    | some outs => .ret false .non outs
    | none => .stuck := rfl
theorem end_ite {c : Prop} [Decidable c] {bs : List B} {a b : Ans Fl} : endC bs (if c then a else b) = if c then endC bs a else endC bs b := by split <;> rfl
theorem ite_caF {b c : Bool} {o : List B} : (if b = true then CA.ret false (.bl false) o else CA.ret false (.bl c) o) = .ret false (.bl (!b && c)) o := by cases b <;> rfl
theorem ite_caT {b c : Bool} {o : List B} : (if b = true then CA.ret false (.bl true) o else CA.ret false (.bl c) o) = .ret false (.bl (b || c)) o := by cases b <;> rfl
theorem ite_caA {b c : Bool} {o : List B} : (if b = true then CA.ret false (.bl c) o else CA.ret false (.bl false) o) = .ret false (.bl (b && c)) o := by cases b <;> rfl
theorem ite_caO {b c : Bool} {o : List B} : (if b = true then CA.ret false (.bl c) o else CA.ret false (.bl true) o) = .ret false (.bl (!b || c)) o := by cases b <;> rfl
theorem ite_ca {b f : Bool} {x y : D} {o : List B} : (if b = true then CA.ret f x o else CA.ret f y o) = .ret f (if b = true then x else y) o := by cases b <;> rfl
theorem outs_sh : ∀ {ds : List D} {e : Env}, ds.length ≤ e.length → outsOf (ds.map B.sh) e = some (ds.map B.sh)
  | [], _, _ => rfl
  | d :: ds, [], h => by simp at h
  | d :: ds, x :: e, h => by
    simp only [List.map_cons, outsOf, outs_sh (ds := ds) (e := e) (by simpa using h)]
/-! ## loops -/
theorem compN_enc {α : Type} {f : D → Env → Ans (Option D)} (enc : α → D) (h : α → Option D) {e : Env} : ∀ {cs : List α}, (∀ c ∈ cs, f (enc c) e = .val (h c) e) → compN f (cs.map enc) e = .val (cs.filterMap h) e
  | [], _ => rfl
  | c :: cs, hc => by
    simp only [List.map_cons, compN, hc c (by simp), Ans.bind, compN_enc enc h (cs := cs) fun c hd => hc c (by simp [hd])]
    rw [List.filterMap_cons]
    cases h c <;> rfl
theorem comp_pure {α : Type} {k : Ex} {e e1 : Env} {cs : List α} (enc : α → D) (h : α → Option D) (hk : ∃ x t it c own, k = .comp x t it c own) (hit : evi T P (compIt k) e = .val (cs.map enc) e1) (hst : stillB e1 (compOwn k) = true)
    (hc : ∀ d ∈ cs, turnX T P k (enc d) e1 = .val (h d) e1) (hf : (cs.filterMap h).length ≤ 1000000) : ev T P k e = .val (true, .lst (cs.filterMap h)) e1 := by
  obtain ⟨x, t, it, c, own, rfl⟩ := hk
  rw [ev_comp']
  show (evi T P it e).bind _ = _
  rw [show evi T P it e = .val (cs.map enc) e1 from hit, bindV]
  rw [if_pos (show stillB e1 own = true from hst), compN_enc enc h (f := turnC T P x t c own) hc]
  show (if fitL _ = true then _ else _) = _
  rw [if_pos (fit_of hf)]
/-- each stays, changed -/
theorem comp_map {α β : Type} {k : Ex} {e e1 : Env} {cs : List α} (enc : α → D) (enc2 : β → D) (g : α → β) (hk : ∃ x t it c own, k = .comp x t it c own) (hit : evi T P (compIt k) e = .val (cs.map enc) e1) (hst : stillB e1 (compOwn k) = true)
    (hc : ∀ d ∈ cs, turnX T P k (enc d) e1 = .val (some (enc2 (g d))) e1) (hf : cs.length ≤ 1000000) : ev T P k e = .val (true, .lst ((cs.map g).map enc2)) e1 := by
  have e0 : cs.filterMap (fun d => some (enc2 (g d))) = (cs.map g).map enc2 := by
    rw [List.map_map, ← List.filterMap_eq_map]; rfl
  have := comp_pure (T := T) (P := P) enc (fun d => some (enc2 (g d))) hk hit hst hc (by rw [e0]; simpa using hf)
  rw [this, e0]
theorem fm_filter {α : Type} (enc : α → D) (p : α → Bool) (cs : List α) : cs.filterMap (fun c => if p c then some (enc c) else none) = (cs.filter p).map enc := by
  induction cs with
  | nil => rfl
  | cons c cs ih =>
    rw [List.filterMap_cons, List.filter_cons]
    cases p c <;> simp [ih]
/-- some stay -/
theorem comp_filter {α : Type} {k : Ex} {e e1 : Env} {cs : List α} (enc : α → D) (p : α → Bool) (hk : ∃ x t it c own, k = .comp x t it c own) (hit : evi T P (compIt k) e = .val (cs.map enc) e1) (hst : stillB e1 (compOwn k) = true)
    (hc : ∀ d ∈ cs, turnX T P k (enc d) e1 = .val (if p d = true then some (enc d) else none) e1) (hf : cs.length ≤ 1000000) : ev T P k e = .val (true, .lst ((cs.filter p).map enc)) e1 := by
  have := comp_pure (T := T) (P := P) enc (fun d => if p d = true then some (enc d) else none) hk hit hst hc (by rw [fm_filter, List.length_map]; have := List.length_filter_le p cs; omega)
  rw [this, fm_filter]
/-- some stay, and what is around may change, but keeps what is asked of it -/
theorem compN_filterI {α : Type} {f : D → Env → Ans (Option D)} (enc : α → D) (p : α → Bool) (I : Env → Prop) : ∀ {cs : List α} {e : Env}, I e → (∀ c ∈ cs, ∀ e, I e → ∃ e', f (enc c) e = .val (if p c = true then some (enc c) else none) e' ∧ I e') → ∃ e', compN f (cs.map enc) e = .val ((cs.filter p).map enc) e' ∧ I e'
  | [], e, hi, _ => ⟨e, rfl, hi⟩
  | c :: cs, e, hi, h => by
    obtain ⟨e1, h1, h2⟩ := h c (by simp) e hi
    obtain ⟨e2, q1, q2⟩ := compN_filterI enc p I (cs := cs) h2 fun d hd => h d (by simp [hd])
    refine ⟨e2, ?_, q2⟩
    simp only [List.map_cons, compN, h1, Ans.bind, q1]
    rw [List.filter_cons]
    cases p c <;> rfl
/-- a comprehension whose turns change what is around -/
theorem compN_inv {α : Type} {f : D → Env → Ans (Option D)} (enc : α → D) (I : Env → Prop) (R : α → D → Prop) : ∀ {ds : List α} {e : Env}, I e → (∀ d ∈ ds, ∀ e, I e → ∃ r e', f (enc d) e = .val (some r) e' ∧ I e' ∧ R d r) → ∃ rs e', compN f (ds.map enc) e = .val rs e' ∧ I e' ∧ rs.length = ds.length ∧ ∀ r ∈ rs, ∃ d ∈ ds, R d r
  | [], e, hi, _ => ⟨[], e, rfl, hi, rfl, by simp⟩
  | d :: ds, e, hi, h => by
    obtain ⟨r, e1, h1, h2, h3⟩ := h d (by simp) e hi
    obtain ⟨rs, e2, q1, q2, q3, q4⟩ := compN_inv enc I R (ds := ds) h2 fun d hd => h d (by simp [hd])
    refine ⟨r :: rs, e2, ?_, q2, by simp [q3], fun x hx => ?_⟩
    · simp only [List.map_cons, compN, h1, Ans.bind, q1, putO]
    · rcases List.mem_cons.mp hx with rfl | hx
      · exact ⟨d, by simp, h3⟩
      · obtain ⟨c, hc, hr⟩ := q4 x hx
        exact ⟨c, by simp [hc], hr⟩
theorem comp_of {k : Ex} {e e1 e2 : Env} {items ds : List D} (hk : ∃ x t it c own, k = .comp x t it c own) (hit : evi T P (compIt k) e = .val items e1) (hst : stillB e1 (compOwn k) = true)
    (hc : compN (turnX T P k) items e1 = .val ds e2) (hf : ds.length ≤ 1000000) : ev T P k e = .val (true, .lst ds) e2 := by
  obtain ⟨x, t, it, c, own, rfl⟩ := hk
  rw [ev_comp']
  rw [show evi T P it e = .val items e1 from hit, bindV, if_pos (show stillB e1 own = true from hst), show compN (turnC T P x t c own) items e1 = _ from hc]
  show (if fitL _ = true then _ else _) = _
  rw [if_pos (fit_of hf)]
/-- a for, by what is left to be walked -/
theorem forN_ind {α : Type} {f : D → Env → Ans Fl} (enc : α → D) (I : List α → Env → Prop) (Q : Fl → Env → Prop)
    (hs : ∀ c cs e, I (c :: cs) e → ∃ fl e', f (enc c) e = .val fl e' ∧ match fl with | .nx => I cs e' | .ct => I cs e' | .bk => Q .nx e' | .rt g d => Q (.rt g d) e') (h0 : ∀ e, I [] e → Q .nx e) :
    ∀ {cs : List α} {e : Env}, I cs e → ∃ fl e', forN f (cs.map enc) e = .val fl e' ∧ Q fl e'
  | [], e, hi => ⟨.nx, e, rfl, h0 e hi⟩
  | c :: cs, e, hi => by
    obtain ⟨fl, e1, h1, h2⟩ := hs c cs e hi
    rw [List.map_cons]
    cases fl with
    | nx =>
      obtain ⟨fl, e2, q1, q2⟩ := forN_ind enc I Q hs h0 (cs := cs) h2
      exact ⟨fl, e2, by simp only [forN, h1, Ans.bind, q1], q2⟩
    | ct =>
      obtain ⟨fl, e2, q1, q2⟩ := forN_ind enc I Q hs h0 (cs := cs) h2
      exact ⟨fl, e2, by simp only [forN, h1, Ans.bind, q1], q2⟩
    | bk => exact ⟨.nx, e1, by simp only [forN, h1, Ans.bind], h2⟩
    | rt g d => exact ⟨.rt g d, e1, by simp only [forN, h1, Ans.bind], h2⟩
/-- a for that runs through: what holds behind each turn -/
theorem forN_all {α : Type} {f : D → Env → Ans Fl} (enc : α → D) (I : List α → Env → Prop)
    (hs : ∀ c cs e, I (c :: cs) e → ∃ e', (f (enc c) e = .val .nx e' ∨ f (enc c) e = .val .ct e') ∧ I cs e') {cs : List α} {e : Env} (hi : I cs e) : ∃ e', forN f (cs.map enc) e = .val .nx e' ∧ I [] e' := by
  obtain ⟨fl, e', h1, h2⟩ := forN_ind enc I (fun fl e => fl = .nx ∧ I [] e) (fun c cs e hi => by
    obtain ⟨e', h1, h2⟩ := hs c cs e hi
    rcases h1 with h1 | h1
    · exact ⟨.nx, e', h1, h2⟩
    · exact ⟨.ct, e', h1, h2⟩) (fun e hi => ⟨rfl, hi⟩) hi
  obtain ⟨rfl, h3⟩ := h2
  exact ⟨e', h1, h3⟩
/-- the turns behind one -/
def nextF (f : D → Env → Ans Fl) (ds : List D) (fl : Fl) (e : Env) : Ans Fl := match fl with
  | .nx => forN f ds e
  | .ct => forN f ds e
  | .bk => .val .nx e
  | .rt fr r => .val (.rt fr r) e
theorem forN_step {f : D → Env → Ans Fl} {d : D} {ds : List D} {e : Env} : forN f (d :: ds) e = (f d e).bind (nextF f ds) := rfl
theorem nextF_nx {f : D → Env → Ans Fl} {ds : List D} {e : Env} : nextF f ds .nx e = forN f ds e := rfl
theorem nextF_ct {f : D → Env → Ans Fl} {ds : List D} {e : Env} : nextF f ds .ct e = forN f ds e := rfl
theorem nextF_bk {f : D → Env → Ans Fl} {ds : List D} {e : Env} : nextF f ds .bk e = .val .nx e := rfl
theorem nextF_rt {f : D → Env → Ans Fl} {ds : List D} {fr : Bool} {r : D} {e : Env} : nextF f ds (.rt fr r) e = .val (.rt fr r) e := rfl
theorem forN_nil {f : D → Env → Ans Fl} {e : Env} : forN f [] e = .val .nx e := rfl
theorem forN_cons {f : D → Env → Ans Fl} {d : D} {ds : List D} {e e1 : Env} (h : f d e = .val .nx e1 ∨ f d e = .val .ct e1) : forN f (d :: ds) e = forN f ds e1 := by
  rcases h with h | h <;> simp only [forN, h, Ans.bind]
theorem whN_stop {c : Env → Ans Bool} {f : Env → Ans Fl} {n : Nat} {e e1 : Env} (h : c e = .val false e1) : whN c f (n + 1) e = .val .nx e1 := by
  simp only [whN, h, bindV, Bool.false_eq_true, if_false]
theorem whN_go {c : Env → Ans Bool} {f : Env → Ans Fl} {n : Nat} {e e1 e2 : Env} (h : c e = .val true e1) (h2 : f e1 = .val .nx e2 ∨ f e1 = .val .ct e2) : whN c f (n + 1) e = whN c f n e2 := by
  rcases h2 with h2 | h2 <;> simp only [whN, h, bindV, if_true, h2]
end
end L2.Eng
namespace L2.Eng
open PySem PySem.Spec PyProof.Rows
namespace Lk23
def top (i : Nat) : Stmt := PySem.Challenge.pw_unhurried_k23_gates.main.body.getD i (.Pass ⟨0, 0, 0, 0⟩)
def fnT : List (Str × Nat) := [("is_number", 0), ("is_cube", 1), ("is_cover", 2), ("in_cube", 3), ("in_cover", 4), ("is_gate", 5), ("next_value", 6), ("fights", 7), ("reads", 8), ("_law_draws", 9), ("_law_draw", 10), ("_law_same", 11), ("_law_has", 12), ("_law_in", 13), ("_law_cube", 14), ("_law_cover", 15), ("_law_bits", 16), ("_law_odd", 17), ("_law_next", 18), ("_law_gate", 19), ("_law_reads", 20), ("_law_wrong", 21), ("law", 22)]
def f_is_number : Fn := ⟨3, 3, [false, false, false],
    (.cons (.ret (.and (.prim .isi (.cons (.var 0) (.cons (.cst (.ty "int")) .nil))) (.and (.nt (.prim .isi (.cons (.var 0) (.cons (.cst (.ty "bool")) .nil)))) (.cmp2 .LtE .LtE (.var 1) (.var 0) (.var 2)))))
    .nil)⟩
def r_is_number : Rec := ⟨"is_number", top 1, ["value", "low", "high"], ["value", "low", "high"], f_is_number⟩
def f_is_cube : Fn := ⟨2, 3, [false, false],
    (.cons (.ite (.or (.nt (.e (.prim .isi (.cons (.var 0) (.cons (.cst (.ty "tuple")) .nil))))) (.e (.cmp .NotEq (.prim .len (.cons (.var 0) .nil)) (.cst (natD 2))))) (.cons (.ret (.cst (.bl false)))
    .nil) .nil)
    (.cons (.asg (.nm 2) (.bin .Sub (.bin .LShift (.cst (natD 1)) (.var 1)) (.cst (natD 1))))
    (.cons (.ite (.or (.nt (.e (.call 0 (.cons (.ix (.var 0) (.cst (natD 0))) (.cons (.cst (natD 0)) (.cons (.var 2) .nil)))))) (.nt (.e (.call 0 (.cons (.ix (.var 0) (.cst (natD 1))) (.cons (.cst (natD 0)) (.cons (.var 2) .nil))))))) (.cons (.ret (.cst (.bl false)))
    .nil) .nil)
    (.cons (.ret (.cmp .Eq (.bin .BitAnd (.ix (.var 0) (.cst (natD 0))) (.ix (.var 0) (.cst (natD 1)))) (.ix (.var 0) (.cst (natD 1)))))
    .nil))))⟩
def r_is_cube : Rec := ⟨"is_cube", top 2, ["value", "n", "top"], ["value", "n"], f_is_cube⟩
def k_is_cover_0 : Ex :=
    .comp (.call 1 (.cons (.var 3) (.cons (.var 1) .nil))) (.nm 3) (.seq (.var 0)) .tru [2, 3]
def f_is_cover : Fn := ⟨2, 4, [false, false],
    (.cons (.ret (.and (.prim .isi (.cons (.var 0) (.cons (.cst (.ty "tuple")) .nil))) (.prim .all (.cons k_is_cover_0 .nil))))
    .nil)⟩
def r_is_cover : Rec := ⟨"is_cover", top 3, ["value", "n", ".0", "cube"], ["value", "n"], f_is_cover⟩
def f_in_cube : Fn := ⟨2, 2, [false, false],
    (.cons (.ret (.cmp .Eq (.bin .BitAnd (.var 0) (.ix (.var 1) (.cst (natD 0)))) (.ix (.var 1) (.cst (natD 1)))))
    .nil)⟩
def r_in_cube : Rec := ⟨"in_cube", top 4, ["x", "cube"], ["x", "cube"], f_in_cube⟩
def k_in_cover_0 : Ex :=
    .comp (.call 3 (.cons (.var 0) (.cons (.var 3) .nil))) (.nm 3) (.seq (.var 1)) .tru [2, 3]
def f_in_cover : Fn := ⟨2, 4, [false, false],
    (.cons (.ret (.prim .any (.cons k_in_cover_0 .nil)))
    .nil)⟩
def r_in_cover : Rec := ⟨"in_cover", top 5, ["x", "cover", ".0", "cube"], ["x", "cover"], f_in_cover⟩
def f_is_gate : Fn := ⟨2, 2, [false, false],
    (.cons (.ite (.or (.nt (.e (.prim .isi (.cons (.var 0) (.cons (.cst (.ty "tuple")) .nil))))) (.or (.e (.cmp .Lt (.prim .len (.cons (.var 0) .nil)) (.cst (natD 2)))) (.nt (.e (.prim .isi (.cons (.ix (.var 0) (.cst (natD 0))) (.cons (.cst (.ty "str")) .nil))))))) (.cons (.ret (.cst (.bl false)))
    .nil) .nil)
    (.cons (.ite (.e (.cmp .Eq (.ix (.var 0) (.cst (natD 0))) (.cst (strD "sum")))) (.cons (.ret (.and (.cmp .Eq (.prim .len (.cons (.var 0) .nil)) (.cst (natD 2))) (.call 2 (.cons (.ix (.var 0) (.cst (natD 1))) (.cons (.var 1) .nil)))))
    .nil) .nil)
    (.cons (.ite (.e (.cmp .Eq (.ix (.var 0) (.cst (natD 0))) (.cst (strD "hold")))) (.cons (.ret (.and (.cmp .Eq (.prim .len (.cons (.var 0) .nil)) (.cst (natD 3))) (.and (.call 2 (.cons (.ix (.var 0) (.cst (natD 1))) (.cons (.var 1) .nil))) (.call 2 (.cons (.ix (.var 0) (.cst (natD 2))) (.cons (.var 1) .nil))))))
    .nil) .nil)
    (.cons (.ite (.e (.cmp .Eq (.ix (.var 0) (.cst (natD 0))) (.cst (strD "pick")))) (.cons (.ret (.and (.cmp .Eq (.prim .len (.cons (.var 0) .nil)) (.cst (natD 3))) (.and (.call 0 (.cons (.ix (.var 0) (.cst (natD 1))) (.cons (.cst (natD 0)) (.cons (.bin .Sub (.var 1) (.cst (natD 1))) .nil)))) (.call 0 (.cons (.ix (.var 0) (.cst (natD 2))) (.cons (.cst (natD 0)) (.cons (.bin .Sub (.var 1) (.cst (natD 1))) .nil)))))))
    .nil) .nil)
    (.cons (.ret (.cst (.bl false)))
    .nil)))))⟩
def r_is_gate : Rec := ⟨"is_gate", top 7, ["value", "n"], ["value", "n"], f_is_gate⟩
def f_next_value : Fn := ⟨3, 3, [false, false, false],
    (.cons (.ite (.e (.cmp .Eq (.ix (.var 0) (.cst (natD 0))) (.cst (strD "sum")))) (.cons (.ret (.ife (.e (.call 4 (.cons (.var 1) (.cons (.ix (.var 0) (.cst (natD 1))) .nil)))) (.cst (natD 1)) (.cst (natD 0))))
    .nil) .nil)
    (.cons (.ite (.e (.cmp .Eq (.ix (.var 0) (.cst (natD 0))) (.cst (strD "pick")))) (.cons (.ret (.bin .BitAnd (.bin .BitAnd (.bin .RShift (.var 1) (.ix (.var 0) (.cst (natD 1)))) (.cst (natD 1))) (.un .Invert (.bin .RShift (.var 1) (.ix (.var 0) (.cst (natD 2)))))))
    .nil) .nil)
    (.cons (.ite (.e (.call 4 (.cons (.var 1) (.cons (.ix (.var 0) (.cst (natD 1))) .nil)))) (.cons (.ret (.cst (natD 1)))
    .nil) .nil)
    (.cons (.ret (.ife (.e (.call 4 (.cons (.var 1) (.cons (.ix (.var 0) (.cst (natD 2))) .nil)))) (.cst (natD 0)) (.var 2)))
    .nil))))⟩
def r_next_value : Rec := ⟨"next_value", top 8, ["gate", "x", "now"], ["gate", "x", "now"], f_next_value⟩
def f_fights : Fn := ⟨2, 2, [false, false],
    (.cons (.ret (.and (.cmp .Eq (.ix (.var 0) (.cst (natD 0))) (.cst (strD "hold"))) (.and (.call 4 (.cons (.var 1) (.cons (.ix (.var 0) (.cst (natD 1))) .nil))) (.call 4 (.cons (.var 1) (.cons (.ix (.var 0) (.cst (natD 2))) .nil))))))
    .nil)⟩
def r_fights : Rec := ⟨"fights", top 9, ["gate", "x"], ["gate", "x"], f_fights⟩
def b_reads_0 : Sms :=
    (.cons (.asg (.nm 1) (.bin .BitOr (.var 1) (.var 3)))
    .nil)
def b_reads_1 : Sms :=
    (.cons (.for (.tp [3, 4]) (.seq (.var 2)) b_reads_0)
    .nil)
def f_reads : Fn := ⟨1, 5, [false],
    (.cons (.ite (.e (.cmp .Eq (.ix (.var 0) (.cst (natD 0))) (.cst (strD "pick")))) (.cons (.ret (.bin .BitOr (.bin .LShift (.cst (natD 1)) (.ix (.var 0) (.cst (natD 1)))) (.bin .LShift (.cst (natD 1)) (.ix (.var 0) (.cst (natD 2))))))
    .nil) .nil)
    (.cons (.asg (.nm 1) (.cst (natD 0)))
    (.cons (.for (.nm 2) (.seq (.sl (.var 0) (.yes (.cst (natD 1))) .no)) b_reads_1)
    (.cons (.ret (.var 1))
    .nil))))⟩
def r_reads : Rec := ⟨"reads", top 10, ["gate", "mask", "cover", "care", "_"], ["gate"], f_reads⟩
def f__law_draws : Fn := ⟨1, 1, [false],
    (.cons (.ret (.lst (.cons (.prim .list (.cons (.var 0) .nil)) (.cons (.cst (natD 0)) (.cons (.cst (natD 0)) (.cons (.cst (natD 1)) .nil))))))
    .nil)⟩
def r__law_draws : Rec := ⟨"_law_draws", top 12, ["script"], ["script"], f__law_draws⟩
def f__law_draw : Fn := ⟨2, 4, [true, false],
    (.cons (.ite (.and (.e (.cmp .Eq (.ix (.var 0) (.cst (natD 2))) (.cst (natD 0)))) (.e (.cmp .Lt (.ix (.var 0) (.cst (natD 1))) (.prim .len (.cons (.ix (.var 0) (.cst (natD 0))) .nil))))) (.cons (.asg (.nm 2) (.ix (.ix (.var 0) (.cst (natD 0))) (.ix (.var 0) (.cst (natD 1)))))
    (.cons (.setx 0 (.cst (natD 1)) (.bin .Add (.ix (.var 0) (.cst (natD 1))) (.cst (natD 1))))
    (.cons (.ite (.e (.cmp .GtE (.var 2) (.bin .Pow (.cst (natD 10)) (.cst (natD 18))))) (.cons (.setx 0 (.cst (natD 2)) (.var 2))
    .nil) .nil)
    (.cons (.setx 0 (.cst (natD 3)) (.bin .Mod (.prim .int (.cons (.bin .Add (.bin .Add (.bin .Mult (.ix (.var 0) (.cst (natD 3))) (.cst (natD 48271))) (.var 2)) (.cst (natD 13))) .nil)) (.cst (natD 2147483647))))
    .nil)))) .nil)
    (.cons (.ite (.e (.cmp .Gt (.ix (.var 0) (.cst (natD 2))) (.cst (natD 0)))) (.cons (.asg (.nm 3) (.bin .Mod (.prim .int (.cons (.ix (.var 0) (.cst (natD 2))) .nil)) (.var 1)))
    (.cons (.setx 0 (.cst (natD 2)) (.bin .FloorDiv (.ix (.var 0) (.cst (natD 2))) (.var 1)))
    (.cons (.ret (.var 3))
    .nil))) .nil)
    (.cons (.setx 0 (.cst (natD 3)) (.bin .Mod (.prim .int (.cons (.bin .Add (.bin .Mult (.ix (.var 0) (.cst (natD 3))) (.cst (natD 69621))) (.cst (natD 7))) .nil)) (.cst (natD 2147483629))))
    (.cons (.ret (.bin .Mod (.prim .int (.cons (.bin .FloorDiv (.ix (.var 0) (.cst (natD 3))) (.cst (natD 11))) .nil)) (.var 1)))
    .nil))))⟩
def r__law_draw : Rec := ⟨"_law_draw", top 13, ["draws", "limit", "cell", "value"], ["draws", "limit"], f__law_draw⟩
def b__law_same_0 : Sms :=
    (.cons (.ite (.nt (.e (.call 11 (.cons (.ix (.var 0) (.var 2)) (.cons (.ix (.var 1) (.var 2)) .nil))))) (.cons (.ret (.cst (.bl false)))
    .nil) .nil)
    .nil)
def f__law_same : Fn := ⟨2, 3, [false, false],
    (.cons (.ite (.or (.e (.prim .isi (.cons (.var 1) (.cons (.cst (.ty "tuple")) .nil)))) (.e (.prim .isi (.cons (.var 1) (.cons (.cst (.ty "list")) .nil))))) (.cons (.ite (.and (.e (.prim .isi (.cons (.var 1) (.cons (.cst (.ty "tuple")) .nil)))) (.nt (.e (.prim .isi (.cons (.var 0) (.cons (.cst (.ty "tuple")) .nil)))))) (.cons (.ret (.cst (.bl false)))
    .nil) .nil)
    (.cons (.ite (.and (.e (.prim .isi (.cons (.var 1) (.cons (.cst (.ty "list")) .nil)))) (.nt (.e (.prim .isi (.cons (.var 0) (.cons (.cst (.ty "list")) .nil)))))) (.cons (.ret (.cst (.bl false)))
    .nil) .nil)
    (.cons (.ite (.e (.cmp .NotEq (.prim .len (.cons (.var 0) .nil)) (.prim .len (.cons (.var 1) .nil)))) (.cons (.ret (.cst (.bl false)))
    .nil) .nil)
    (.cons (.for (.nm 2) (.rng (.prim .len (.cons (.var 1) .nil))) b__law_same_0)
    (.cons (.ret (.cst (.bl true)))
    .nil))))) .nil)
    (.cons (.ite (.e (.prim .isi (.cons (.var 1) (.cons (.cst (.ty "str")) .nil)))) (.cons (.ret (.and (.prim .isi (.cons (.var 0) (.cons (.cst (.ty "str")) .nil))) (.cmp .Eq (.var 0) (.var 1))))
    .nil) .nil)
    (.cons (.ite (.e (.cmp .Is (.var 1) (.cst .non))) (.cons (.ret (.cmp .Is (.var 0) (.cst .non)))
    .nil) .nil)
    (.cons (.ite (.or (.e (.prim .isi (.cons (.var 1) (.cons (.cst (.ty "bool")) .nil)))) (.e (.prim .isi (.cons (.var 0) (.cons (.cst (.ty "bool")) .nil))))) (.cons (.ret (.and (.prim .isi (.cons (.var 1) (.cons (.cst (.ty "bool")) .nil))) (.and (.prim .isi (.cons (.var 0) (.cons (.cst (.ty "bool")) .nil))) (.cmp .Eq (.var 0) (.var 1)))))
    .nil) .nil)
    (.cons (.ret (.and (.prim .isi (.cons (.var 0) (.cons (.cst (.ty "int")) .nil))) (.and (.prim .isi (.cons (.var 1) (.cons (.cst (.ty "int")) .nil))) (.cmp .Eq (.var 0) (.var 1)))))
    .nil)))))⟩
def r__law_same : Rec := ⟨"_law_same", top 15, ["actual", "expected", "k"], ["actual", "expected"], f__law_same⟩
def f__law_has : Fn := ⟨2, 2, [false, false],
    (.cons (.ret (.cmp .Eq (.bin .BitAnd (.var 0) (.ix (.var 1) (.cst (natD 0)))) (.ix (.var 1) (.cst (natD 1)))))
    .nil)⟩
def r__law_has : Rec := ⟨"_law_has", top 17, ["x", "cube"], ["x", "cube"], f__law_has⟩
def k__law_in_0 : Ex :=
    .comp (.var 3) (.nm 3) (.seq (.var 1)) (.e (.call 12 (.cons (.var 0) (.cons (.var 3) .nil)))) [2, 3]
def f__law_in : Fn := ⟨2, 4, [false, false],
    (.cons (.ret (.cmp .Gt (.prim .len (.cons k__law_in_0 .nil)) (.cst (natD 0))))
    .nil)⟩
def r__law_in : Rec := ⟨"_law_in", top 18, ["x", "cover", ".0", "cube"], ["x", "cover"], f__law_in⟩
def b__law_cube_0 : Sms :=
    (.cons (.asg (.nm 3) (.bin .BitOr (.var 3) (.bin .LShift (.cst (natD 1)) (.call 10 (.cons (.var 0) (.cons (.var 1) .nil))))))
    .nil)
def f__law_cube : Fn := ⟨2, 5, [true, false],
    (.cons (.asg (.nm 2) (.ix (.lst (.cons (.cst (natD 0)) (.cons (.cst (natD 1)) (.cons (.cst (natD 2)) (.cons (.var 1) (.cons (.call 10 (.cons (.var 0) (.cons (.bin .Add (.var 1) (.cst (natD 1))) .nil))) .nil)))))) (.call 10 (.cons (.var 0) (.cons (.cst (natD 5)) .nil)))))
    (.cons (.asg (.nm 3) (.cst (natD 0)))
    (.cons (.for (.nm 4) (.rng (.var 2)) b__law_cube_0)
    (.cons (.ret (.tup (.cons (.var 3) (.cons (.bin .BitAnd (.var 3) (.call 10 (.cons (.var 0) (.cons (.bin .LShift (.cst (natD 1)) (.var 1)) .nil)))) .nil))))
    .nil))))⟩
def r__law_cube : Rec := ⟨"_law_cube", top 19, ["draws", "n", "many", "care", "k"], ["draws", "n"], f__law_cube⟩
def k__law_cover_0 : Ex :=
    .comp (.call 14 (.cons (.var 0) (.cons (.var 1) .nil))) (.nm 4) (.rng (.call 10 (.cons (.var 0) (.cons (.bin .Add (.var 2) (.cst (natD 1))) .nil)))) .tru [3, 4]
def f__law_cover : Fn := ⟨3, 5, [true, false, false],
    (.cons (.ret (.prim .tuple (.cons k__law_cover_0 .nil)))
    .nil)⟩
def r__law_cover : Rec := ⟨"_law_cover", top 20, ["draws", "n", "most", ".0", "k"], ["draws", "n", "most"], f__law_cover⟩
def c__law_bits_0 : Tt :=
    (.e (.cmp .Gt (.bin .RShift (.var 0) (.var 2)) (.cst (natD 0))))
def b__law_bits_1 : Sms :=
    (.cons (.ite (.e (.cmp .Eq (.bin .BitAnd (.bin .RShift (.var 0) (.var 2)) (.cst (natD 1))) (.cst (natD 1)))) (.cons (.app 1 (.var 2))
    .nil) .nil)
    (.cons (.asg (.nm 2) (.bin .Add (.var 2) (.cst (natD 1))))
    .nil))
def f__law_bits : Fn := ⟨1, 3, [false],
    (.cons (.asg (.nm 1) (.lst .nil))
    (.cons (.asg (.nm 2) (.cst (natD 0)))
    (.cons (.wh c__law_bits_0 b__law_bits_1)
    (.cons (.ret (.var 1))
    .nil))))⟩
def r__law_bits : Rec := ⟨"_law_bits", top 22, ["mask", "told", "wire"], ["mask"], f__law_bits⟩
def f__law_odd : Fn := ⟨1, 1, [true],
    (.cons (.ret (.ix (.lst (.cons (.cst .non) (.cons (.cst (.bl true)) (.cons (.cst (.bl false)) (.cons (.cst (strD "")) (.cons (.cst (strD "1")) (.cons (.tup .nil) (.cons (.lst .nil) (.cons (.tup (.cons (.cst (natD 1)) .nil)) (.cons (.lst (.cons (.cst (natD 0)) (.cons (.cst (natD 0)) .nil))) (.cons (.tup (.cons (.cst (natD 0)) (.cons (.cst (natD 0)) (.cons (.cst (natD 0)) .nil)))) (.cons .dnew (.cons (.tup (.cons (.cst .non) (.cons (.cst (natD 0)) .nil))) (.cons (.tup (.cons (.cst (natD 0)) (.cons (.cst .non) .nil))) (.cons (.tup (.cons (.cst (strD "0")) (.cons (.cst (natD 0)) .nil))) .nil))))))))))))))) (.call 10 (.cons (.var 0) (.cons (.cst (natD 14)) .nil)))))
    .nil)⟩
def r__law_odd : Rec := ⟨"_law_odd", top 23, ["draws"], ["draws"], f__law_odd⟩
def f__law_next : Fn := ⟨3, 3, [false, false, false],
    (.cons (.ite (.e (.cmp .Eq (.ix (.var 0) (.cst (natD 0))) (.cst (strD "sum")))) (.cons (.ret (.prim .int (.cons (.call 13 (.cons (.var 1) (.cons (.ix (.var 0) (.cst (natD 1))) .nil))) .nil)))
    .nil) .nil)
    (.cons (.ite (.e (.cmp .Eq (.ix (.var 0) (.cst (natD 0))) (.cst (strD "pick")))) (.cons (.ret (.prim .int (.cons (.and (.cmp .Eq (.bin .BitAnd (.bin .RShift (.var 1) (.ix (.var 0) (.cst (natD 1)))) (.cst (natD 1))) (.cst (natD 1))) (.cmp .Eq (.bin .BitAnd (.bin .RShift (.var 1) (.ix (.var 0) (.cst (natD 2)))) (.cst (natD 1))) (.cst (natD 0)))) .nil)))
    .nil) .nil)
    (.cons (.ite (.e (.call 13 (.cons (.var 1) (.cons (.ix (.var 0) (.cst (natD 1))) .nil)))) (.cons (.ret (.cst (natD 1)))
    .nil) .nil)
    (.cons (.ret (.ife (.e (.call 13 (.cons (.var 1) (.cons (.ix (.var 0) (.cst (natD 2))) .nil)))) (.cst (natD 0)) (.var 2)))
    .nil))))⟩
def r__law_next : Rec := ⟨"_law_next", top 24, ["gate", "x", "now"], ["gate", "x", "now"], f__law_next⟩
def f__law_gate : Fn := ⟨2, 3, [true, false],
    (.cons (.asg (.nm 2) (.call 10 (.cons (.var 0) (.cons (.cst (natD 4)) .nil))))
    (.cons (.ite (.e (.cmp .Eq (.var 2) (.cst (natD 0)))) (.cons (.ret (.tup (.cons (.cst (strD "hold")) (.cons (.call 15 (.cons (.var 0) (.cons (.var 1) (.cons (.cst (natD 3)) .nil)))) (.cons (.call 15 (.cons (.var 0) (.cons (.var 1) (.cons (.cst (natD 3)) .nil)))) .nil)))))
    .nil) .nil)
    (.cons (.ite (.e (.cmp .Eq (.var 2) (.cst (natD 1)))) (.cons (.ret (.tup (.cons (.cst (strD "pick")) (.cons (.call 10 (.cons (.var 0) (.cons (.var 1) .nil))) (.cons (.call 10 (.cons (.var 0) (.cons (.var 1) .nil))) .nil)))))
    .nil) .nil)
    (.cons (.ret (.tup (.cons (.cst (strD "sum")) (.cons (.call 15 (.cons (.var 0) (.cons (.var 1) (.cons (.cst (natD 4)) .nil)))) .nil))))
    .nil))))⟩
def r__law_gate : Rec := ⟨"_law_gate", top 27, ["draws", "n", "kind"], ["draws", "n"], f__law_gate⟩
def b__law_reads_0 : Sms :=
    (.cons (.asg (.nm 1) (.bin .Add (.var 1) (.call 16 (.cons (.ix (.var 3) (.cst (natD 0))) .nil))))
    .nil)
def b__law_reads_1 : Sms :=
    (.cons (.for (.nm 3) (.seq (.var 2)) b__law_reads_0)
    .nil)
def k__law_reads_2 : Ex :=
    .comp (.bin .LShift (.cst (natD 1)) (.var 5)) (.nm 5) (.rng (.cst (natD 40))) (.e (.cmp .In (.var 5) (.var 1))) [4, 5]
def f__law_reads : Fn := ⟨1, 6, [false],
    (.cons (.ite (.e (.cmp .Eq (.ix (.var 0) (.cst (natD 0))) (.cst (strD "pick")))) (.cons (.asg (.nm 1) (.lst (.cons (.ix (.var 0) (.cst (natD 1))) (.cons (.ix (.var 0) (.cst (natD 2))) .nil))))
    .nil) (.cons (.asg (.nm 1) (.lst .nil))
    (.cons (.for (.nm 2) (.seq (.sl (.var 0) (.yes (.cst (natD 1))) .no)) b__law_reads_1)
    .nil)))
    (.cons (.ret (.prim .sum (.cons k__law_reads_2 .nil)))
    .nil))⟩
def r__law_reads : Rec := ⟨"_law_reads", top 28, ["gate", "wires", "cover", "cube", ".0", "wire"], ["gate"], f__law_reads⟩
def f__law_wrong : Fn := ⟨3, 8, [true, false, false],
    (.cons (.asg (.nm 3) (.call 17 (.cons (.var 0) .nil)))
    (.cons (.asg (.nm 4) (.tup (.cons (.bin .LShift (.cst (natD 1)) (.var 2)) (.cons (.cst (natD 0)) .nil))))
    (.cons (.asg (.nm 5) (.lst (.cons (.prim .list (.cons (.var 1) .nil)) (.cons (.sl (.var 1) .no (.yes (.cst (natD 1)))) (.cons (.bin .Add (.var 1) (.tup (.cons (.tup .nil) .nil))) (.cons (.bin .Add (.tup (.cons (.cst (strD "and")) .nil)) (.sl (.var 1) (.yes (.cst (natD 1))) .no)) (.cons (.bin .Add (.tup (.cons (.cst .non) .nil)) (.sl (.var 1) (.yes (.cst (natD 1))) .no)) (.cons (.var 3) (.cons (.ix (.var 1) (.cst (natD 0))) (.cons (.tup (.cons (.cst (strD "sum")) (.cons (.tup (.cons (.var 4) .nil)) .nil))) (.cons (.tup (.cons (.cst (strD "sum")) (.cons (.var 3) .nil))) (.cons (.tup (.cons (.cst (strD "hold")) (.cons (.tup .nil) (.cons (.tup (.cons (.var 4) .nil)) .nil)))) (.cons (.tup (.cons (.cst (strD "hold")) (.cons (.tup (.cons (.var 4) .nil)) (.cons (.tup .nil) .nil)))) (.cons (.tup (.cons (.cst (strD "hold")) (.cons (.tup .nil) .nil))) (.cons (.tup (.cons (.cst (strD "pick")) (.cons (.var 2) (.cons (.cst (natD 0)) .nil)))) (.cons (.tup (.cons (.cst (strD "pick")) (.cons (.cst (natD 0)) (.cons (.un .USub (.cst (natD 1))) .nil)))) (.cons (.tup (.cons (.cst (strD "pick")) (.cons (.cst (.bl true)) (.cons (.cst (natD 0)) .nil)))) (.cons (.tup (.cons (.cst (strD "pick")) (.cons (.cst (natD 0)) .nil))) (.cons (.tup (.cons (.cst (strD "sum")) (.cons (.lst (.cons (.tup (.cons (.cst (natD 0)) (.cons (.cst (natD 0)) .nil))) .nil)) .nil))) (.cons (.tup (.cons (.cst (strD "sum")) (.cons (.tup .nil) (.cons (.tup .nil) .nil)))) (.cons (.tup (.cons (.cst (strD "hold")) (.cons (.tup .nil) (.cons (.tup .nil) (.cons (.tup .nil) .nil))))) .nil)))))))))))))))))))))
    (.cons (.asg (.nm 6) (.call 10 (.cons (.var 0) (.cons (.prim .len (.cons (.var 5) .nil)) .nil))))
    (.cons (.asg (.nm 7) (.ix (.var 5) (.var 6)))
    (.cons (.ret (.ife (.e (.cmp .Eq (.var 7) (.tup (.cons (.cst (strD "sum")) (.cons (.tup .nil) .nil))))) (.cst .non) (.var 7)))
    .nil))))))⟩
def r__law_wrong : Rec := ⟨"_law_wrong", top 29, ["draws", "gate", "n", "odd", "cube", "wrong", "at", "value"], ["draws", "gate", "n"], f__law_wrong⟩
def b_law_0 : Sms :=
    (.cons (.ite (.nt (.e (.call 11 (.cons (.call 6 (.cons (.var 4) (.cons (.var 5) (.cons (.var 6) .nil)))) (.cons (.call 18 (.cons (.var 4) (.cons (.var 5) (.cons (.var 6) .nil)))) .nil))))) (.cons (.ret (.cst (.bl false)))
    .nil) .nil)
    .nil)
def b_law_1 : Sms :=
    (.cons (.for (.nm 6) (.seq (.lst (.cons (.cst (natD 0)) (.cons (.cst (natD 1)) .nil)))) b_law_0)
    (.cons (.asg (.nm 7) (.and (.cmp .Eq (.ix (.var 4) (.cst (natD 0))) (.cst (strD "hold"))) (.and (.call 13 (.cons (.var 5) (.cons (.ix (.var 4) (.cst (natD 1))) .nil))) (.call 13 (.cons (.var 5) (.cons (.ix (.var 4) (.cst (natD 2))) .nil))))))
    (.cons (.ite (.nt (.e (.call 11 (.cons (.call 7 (.cons (.var 4) (.cons (.var 5) .nil))) (.cons (.var 7) .nil))))) (.cons (.ret (.cst (.bl false)))
    .nil) .nil)
    .nil)))
def b_law_2 : Sms :=
    (.cons (.ite (.e (.cmp .IsNot (.call 5 (.cons (.call 21 (.cons (.var 1) (.cons (.var 4) (.cons (.var 3) .nil)))) (.cons (.var 3) .nil))) (.cst (.bl false)))) (.cons (.ret (.cst (.bl false)))
    .nil) .nil)
    .nil)
def b_law_3 : Sms :=
    (.cons (.asg (.nm 3) (.bin .Add (.cst (natD 1)) (.call 10 (.cons (.var 1) (.cons (.cst (natD 6)) .nil)))))
    (.cons (.asg (.nm 4) (.call 19 (.cons (.var 1) (.cons (.var 3) .nil))))
    (.cons (.for (.nm 5) (.rng (.bin .LShift (.cst (natD 1)) (.var 3))) b_law_1)
    (.cons (.ite (.or (.nt (.e (.call 11 (.cons (.call 8 (.cons (.var 4) .nil)) (.cons (.call 20 (.cons (.var 4) .nil)) .nil))))) (.e (.cmp .IsNot (.call 5 (.cons (.var 4) (.cons (.var 3) .nil))) (.cst (.bl true))))) (.cons (.ret (.cst (.bl false)))
    .nil) .nil)
    (.cons (.for (.nm 8) (.rng (.cst (natD 6))) b_law_2)
    .nil)))))
def f_law : Fn := ⟨1, 9, [false],
    (.cons (.asg (.nm 1) (.call 9 (.cons (.var 0) .nil)))
    (.cons (.for (.nm 2) (.rng (.cst (natD 4))) b_law_3)
    (.cons (.ret (.and (.cmp .Is (.call 5 (.cons (.tup (.cons (.cst (strD "sum")) (.cons (.tup .nil) .nil))) (.cons (.cst (natD 1)) .nil))) (.cst (.bl true))) (.and (.cmp .Is (.call 5 (.cons (.tup (.cons (.cst (strD "hold")) (.cons (.tup .nil) (.cons (.tup .nil) .nil)))) (.cons (.cst (natD 1)) .nil))) (.cst (.bl true))) (.cmp .Is (.call 5 (.cons (.tup (.cons (.cst (strD "pick")) (.cons (.cst (natD 0)) (.cons (.cst (natD 0)) .nil)))) (.cons (.cst (natD 1)) .nil))) (.cst (.bl true))))))
    .nil)))⟩
def r_law : Rec := ⟨"law", top 30, ["script", "draws", "turn", "n", "gate", "x", "now", "due", "k"], ["script"], f_law⟩
def recs : List Rec := [r_is_number, r_is_cube, r_is_cover, r_in_cube, r_in_cover, r_is_gate, r_next_value, r_fights, r_reads, r__law_draws, r__law_draw, r__law_same, r__law_has, r__law_in, r__law_cube, r__law_cover, r__law_bits, r__law_odd, r__law_next, r__law_gate, r__law_reads, r__law_wrong, r_law]
theorem ok_is_number : r_is_number.Ok fnT := Rec.ok_of (n := 200) (by decide +kernel) (by decide +kernel)
theorem ok_is_cube : r_is_cube.Ok fnT := Rec.ok_of (n := 200) (by decide +kernel) (by decide +kernel)
theorem ok_is_cover : r_is_cover.Ok fnT := Rec.ok_of (n := 200) (by decide +kernel) (by decide +kernel)
theorem ok_in_cube : r_in_cube.Ok fnT := Rec.ok_of (n := 200) (by decide +kernel) (by decide +kernel)
theorem ok_in_cover : r_in_cover.Ok fnT := Rec.ok_of (n := 200) (by decide +kernel) (by decide +kernel)
theorem ok_is_gate : r_is_gate.Ok fnT := Rec.ok_of (n := 200) (by decide +kernel) (by decide +kernel)
theorem ok_next_value : r_next_value.Ok fnT := Rec.ok_of (n := 200) (by decide +kernel) (by decide +kernel)
theorem ok_fights : r_fights.Ok fnT := Rec.ok_of (n := 200) (by decide +kernel) (by decide +kernel)
theorem ok_reads : r_reads.Ok fnT := Rec.ok_of (n := 200) (by decide +kernel) (by decide +kernel)
theorem ok__law_draws : r__law_draws.Ok fnT := Rec.ok_of (n := 200) (by decide +kernel) (by decide +kernel)
theorem ok__law_draw : r__law_draw.Ok fnT := Rec.ok_of (n := 200) (by decide +kernel) (by decide +kernel)
theorem ok__law_same : r__law_same.Ok fnT := Rec.ok_of (n := 200) (by decide +kernel) (by decide +kernel)
theorem ok__law_has : r__law_has.Ok fnT := Rec.ok_of (n := 200) (by decide +kernel) (by decide +kernel)
theorem ok__law_in : r__law_in.Ok fnT := Rec.ok_of (n := 200) (by decide +kernel) (by decide +kernel)
theorem ok__law_cube : r__law_cube.Ok fnT := Rec.ok_of (n := 200) (by decide +kernel) (by decide +kernel)
theorem ok__law_cover : r__law_cover.Ok fnT := Rec.ok_of (n := 200) (by decide +kernel) (by decide +kernel)
theorem ok__law_bits : r__law_bits.Ok fnT := Rec.ok_of (n := 200) (by decide +kernel) (by decide +kernel)
theorem ok__law_odd : r__law_odd.Ok fnT := Rec.ok_of (n := 200) (by decide +kernel) (by decide +kernel)
theorem ok__law_next : r__law_next.Ok fnT := Rec.ok_of (n := 200) (by decide +kernel) (by decide +kernel)
theorem ok__law_gate : r__law_gate.Ok fnT := Rec.ok_of (n := 200) (by decide +kernel) (by decide +kernel)
theorem ok__law_reads : r__law_reads.Ok fnT := Rec.ok_of (n := 200) (by decide +kernel) (by decide +kernel)
theorem ok__law_wrong : r__law_wrong.Ok fnT := Rec.ok_of (n := 200) (by decide +kernel) (by decide +kernel)
theorem ok_law : r_law.Ok fnT := Rec.ok_of (n := 200) (by decide +kernel) (by decide +kernel)
def T : List Fn := recs.map Rec.fn
theorem T_is_number : T[0]? = some f_is_number := rfl
theorem io_is_number : f_is_number.io = [false, false, false] := rfl
theorem T_is_cube : T[1]? = some f_is_cube := rfl
theorem io_is_cube : f_is_cube.io = [false, false] := rfl
theorem T_is_cover : T[2]? = some f_is_cover := rfl
theorem io_is_cover : f_is_cover.io = [false, false] := rfl
theorem T_in_cube : T[3]? = some f_in_cube := rfl
theorem io_in_cube : f_in_cube.io = [false, false] := rfl
theorem T_in_cover : T[4]? = some f_in_cover := rfl
theorem io_in_cover : f_in_cover.io = [false, false] := rfl
theorem T_is_gate : T[5]? = some f_is_gate := rfl
theorem io_is_gate : f_is_gate.io = [false, false] := rfl
theorem T_next_value : T[6]? = some f_next_value := rfl
theorem io_next_value : f_next_value.io = [false, false, false] := rfl
theorem T_fights : T[7]? = some f_fights := rfl
theorem io_fights : f_fights.io = [false, false] := rfl
theorem T_reads : T[8]? = some f_reads := rfl
theorem io_reads : f_reads.io = [false] := rfl
theorem T__law_draws : T[9]? = some f__law_draws := rfl
theorem io__law_draws : f__law_draws.io = [false] := rfl
theorem T__law_draw : T[10]? = some f__law_draw := rfl
theorem io__law_draw : f__law_draw.io = [true, false] := rfl
theorem T__law_same : T[11]? = some f__law_same := rfl
theorem io__law_same : f__law_same.io = [false, false] := rfl
theorem T__law_has : T[12]? = some f__law_has := rfl
theorem io__law_has : f__law_has.io = [false, false] := rfl
theorem T__law_in : T[13]? = some f__law_in := rfl
theorem io__law_in : f__law_in.io = [false, false] := rfl
theorem T__law_cube : T[14]? = some f__law_cube := rfl
theorem io__law_cube : f__law_cube.io = [true, false] := rfl
theorem T__law_cover : T[15]? = some f__law_cover := rfl
theorem io__law_cover : f__law_cover.io = [true, false, false] := rfl
theorem T__law_bits : T[16]? = some f__law_bits := rfl
theorem io__law_bits : f__law_bits.io = [false] := rfl
theorem T__law_odd : T[17]? = some f__law_odd := rfl
theorem io__law_odd : f__law_odd.io = [true] := rfl
theorem T__law_next : T[18]? = some f__law_next := rfl
theorem io__law_next : f__law_next.io = [false, false, false] := rfl
theorem T__law_gate : T[19]? = some f__law_gate := rfl
theorem io__law_gate : f__law_gate.io = [true, false] := rfl
theorem T__law_reads : T[20]? = some f__law_reads := rfl
theorem io__law_reads : f__law_reads.io = [false] := rfl
theorem T__law_wrong : T[21]? = some f__law_wrong := rfl
theorem io__law_wrong : f__law_wrong.io = [true, false, false] := rfl
theorem T_law : T[22]? = some f_law := rfl
theorem io_law : f_law.io = [false] := rfl
theorem op_k_is_cover_0 {T : List Fn} {P : Nat → List B → CA} {e : Env} : opd k_is_cover_0 (ev T P k_is_cover_0) e = (ev T P k_is_cover_0 e).bind fun r e1 => .val (.v r.2) e1 := rfl
theorem rs_k_is_cover_0 {T : List Fn} {P : Nat → List B → CA} {e : Env} : retS T P k_is_cover_0 e = (ev T P k_is_cover_0 e).bind fun r e1 => .val (.rt r.1 r.2) e1 := rfl
theorem op_k_in_cover_0 {T : List Fn} {P : Nat → List B → CA} {e : Env} : opd k_in_cover_0 (ev T P k_in_cover_0) e = (ev T P k_in_cover_0 e).bind fun r e1 => .val (.v r.2) e1 := rfl
theorem rs_k_in_cover_0 {T : List Fn} {P : Nat → List B → CA} {e : Env} : retS T P k_in_cover_0 e = (ev T P k_in_cover_0 e).bind fun r e1 => .val (.rt r.1 r.2) e1 := rfl
theorem op_k__law_in_0 {T : List Fn} {P : Nat → List B → CA} {e : Env} : opd k__law_in_0 (ev T P k__law_in_0) e = (ev T P k__law_in_0 e).bind fun r e1 => .val (.v r.2) e1 := rfl
theorem rs_k__law_in_0 {T : List Fn} {P : Nat → List B → CA} {e : Env} : retS T P k__law_in_0 e = (ev T P k__law_in_0 e).bind fun r e1 => .val (.rt r.1 r.2) e1 := rfl
theorem op_k__law_cover_0 {T : List Fn} {P : Nat → List B → CA} {e : Env} : opd k__law_cover_0 (ev T P k__law_cover_0) e = (ev T P k__law_cover_0 e).bind fun r e1 => .val (.v r.2) e1 := rfl
theorem rs_k__law_cover_0 {T : List Fn} {P : Nat → List B → CA} {e : Env} : retS T P k__law_cover_0 e = (ev T P k__law_cover_0 e).bind fun r e1 => .val (.rt r.1 r.2) e1 := rfl
theorem op_k__law_reads_2 {T : List Fn} {P : Nat → List B → CA} {e : Env} : opd k__law_reads_2 (ev T P k__law_reads_2) e = (ev T P k__law_reads_2 e).bind fun r e1 => .val (.v r.2) e1 := rfl
theorem rs_k__law_reads_2 {T : List Fn} {P : Nat → List B → CA} {e : Env} : retS T P k__law_reads_2 e = (ev T P k__law_reads_2 e).bind fun r e1 => .val (.rt r.1 r.2) e1 := rfl
end Lk23
end L2.Eng
namespace L2.Eng.Lk23
open PySem PySem.Spec PyProof.Rows L2 L2.Eng
variable {m : Nat}
theorem to_succ {N k : Nat} (h : k + 1 ≤ N) : ∃ n, N = n + 1 ∧ k ≤ n := ⟨N - 1, by omega, by omega⟩
/-- a state of the draws: what is drawn from it, and the state behind -/
structure St where
  cells : List Int
  a : Nat
  b : Nat
  c : Nat
  hc : c < 2147483647
def St.d (s : St) : D := .lst [.lst (s.cells.map D.int), natD s.a, natD s.b, natD s.c]
theorem fl_st (s : St) : s.d.flat = false := rfl
theorem draws_ok {N : Nat} (hN : 1 ≤ N) (xs : List Int) : ∃ s : St, callF T m N 9 [.sh (.scr (xs.map D.int))] = .ret true s.d [.sh (.scr (xs.map D.int))] := by
  obtain ⟨n, rfl, _⟩ := to_succ hN
  refine ⟨⟨xs, 0, 0, 1, by omega⟩, ?_⟩
  rw [callF_body T__law_draws rfl]
  simp only [f__law_draws, List.map_cons, List.map_nil, List.cons_append, List.nil_append, List.replicate, Nat.sub_self, forN_nil, bindV, bind_ite, opt_some, es_nil', es_cons', then_nx, then_bk, then_ct, then_rt, es1_asg', es1_setx', es1_aug', es1_par', es1_app', es1_ext', es1_ex', es1_ret', op_var, rs_var, op_cst, rs_cst, op_tup, rs_tup, op_lst, rs_lst, op_bin, rs_bin, op_un, rs_un, op_nt, rs_nt, op_cmp, rs_cmp, op_cmp2, rs_cmp2, op_and, rs_and, op_or, rs_or, op_ife, rs_ife, op_ix, rs_ix, op_sl, rs_sl, op_rev, rs_rev, op_call, rs_call, op_prim, rs_prim, op_comp, rs_comp, op_pop, rs_pop, op_dnew, rs_dnew, op_get, rs_get, es1_ret0', es1_ite', es1_brk', es1_cnt', es1_pass', es1_for', es1_wh', ev_var', ev_cst', ev_tup', ev_lst', ev_bin', ev_un', ev_nt', ev_cmp', ev_cmp2', ev_and', ev_or', ev_ife', ev_ix', ev_sl', ev_rev', ev_call', ev_prim', ev_pop', ev_dnew', ev_get', ev_sset', ev_lset', op_sset, op_lset, rs_sset, rs_lset, evs_nil', evs_cons', evx_no', evx_yes', evt_tru', evt_and', evt_or', evt_nt', evt_e', evi_seq', evi_rng', evi_rng2', evi_enum', getB, setB, pk, tk, pks, tks, B.dat, asg_nm, asg_tp, asg_cube, asgN, onOwn, stillB, backB, wipeB, turnF, turnX, turnC, ite_caA, ite_caO, ite_rA, ite_cp, ite_blT, ite_blF, ite_bT, ite_bF, ite_rF, ite_rT, ite_caF, ite_caT, doCall, callArgs, backIn, frzIn, okSlots, slotsOf, List.all_cons, List.all_nil, List.nodup_cons, List.nodup_nil, List.not_mem_nil, not_false_eq_true, and_self, decide_true, List.contains_nil, List.contains_cons, beq_true, beq_false, Bool.true_beq, Bool.false_beq, decide_false, if_true, if_false, Bool.false_eq_true, Bool.and_true, Bool.true_and, Bool.and_false, Bool.false_and, Bool.or_true, Bool.true_or, Bool.or_false, Bool.false_or, Bool.not_true, Bool.not_false, beq_self_eq_true, Bool.not_not, reduceIte, Nat.reduceBEq, Nat.reduceLT, Nat.reduceLeDiff, Nat.reduceAdd, Nat.reducePow, reduceCtorEq, BEq.rfl, List.length_cons, List.length_nil, List.length_map, List.map_cons, List.map_nil, String.reduceBEq, Option.some.injEq, pi_dct_int, pi_dct_bool, pi_dct_str, pi_dct_tuple, pi_dct_list, pi_tup_int, pi_tup_bool, pi_tup_str, pi_tup_tuple, pi_tup_list, pi_lst_int, pi_lst_bool, pi_lst_str, pi_lst_tuple, pi_lst_list, pi_int_int, pi_int_bool, pi_int_str, pi_int_tuple, pi_int_list, pi_bl_int, pi_bl_bool, pi_bl_str, pi_bl_tuple, pi_bl_list, pi_str_int, pi_str_bool, pi_str_str, pi_str_tuple, pi_str_list, pi_non_int, pi_non_bool, pi_non_str, pi_non_tuple, pi_non_list, pi_nat_int, pi_nat_bool, pi_nat_str, pi_nat_tuple, pi_nat_list, pi_strd_int, pi_strd_bool, pi_strd_str, pi_strd_tuple, pi_strd_list, pi_cube_int, pi_cube_bool, pi_cube_str, pi_cube_tuple, pi_cube_list, pi_cover_int, pi_cover_bool, pi_cover_str, pi_cover_tuple, pi_cover_list, cover_mk, ← List.map_take, ← List.map_drop, it_cube, sq_cube, uNeg1, ltNeg, key_nat, get_n, ix_dn, Option.map_some, cube_mk, bAdd, bAnd, bOr, bXor, bShr, uInv, bAndNot, aAdd, aOr, cEqN, cNeN, cEqS, cNeS, cEqC, cNeC, cEqB, cNeB, cLtN, cLeN, cGtN, cGeN, cIsN, cNsN, none_non, none_nat, none_cube, none_bl, none_str, none_tup, cIsB, cNsB, cInN, cEqNL, cNeNL, pr_sortL, cNiN, cInC, tr_bl, tr_non, tr_nat, tr_lst, tr_tup, ix_t0, ix_t1, ix_t2, ix_t3, ix_l0, ix_l1, ix_l2, ix_l3, ix_c0, ix_c1, pr_lenL, pr_lenT, pr_lenC, pr_lenD, pr_lenK, pr_tupL, pr_tupT, pr_lstL, pr_lstT, pr_lstC, pr_lstS, pr_intN, pr_intB, pr_sumN, pr_allB, pr_anyB, it_lst, it_tup, it_cov, sq_lst, sq_tup, sq_cov, fl_nat, fl_str, fl_bl, fl_non, fl_lst, fl_tup, fl_cube, fl_cover, fit0, fit1, fit2, fit3, fit4, end_none, end_nat, sl_lt, sl_lf, sl_tt, sl_tf, sl_ct, sl_cf, map_snoc, end_rt, outsOf, St.d]
/-- ahead: another number of the script -/
def St.next (s : St) : St := if h : s.b = 0 ∧ s.a < s.cells.length then
    let x := s.cells[s.a]'h.2
    ⟨s.cells, s.a + 1, if 1000000000000000000 ≤ x then x.toNat else 0, (((s.c : Int) * 48271 + x + 13) % 2147483647).toNat, by omega⟩
  else s
def St.dv (s : St) (l : Nat) : Nat := if 0 < s.b then s.b % l else (s.c * 69621 + 7) % 2147483629 / 11 % l
def St.ds (s : St) (l : Nat) : St := if 0 < s.b then ⟨s.cells, s.a, s.b / l, s.c, s.hc⟩ else ⟨s.cells, s.a, s.b, (s.c * 69621 + 7) % 2147483629, by omega⟩
theorem dv_lt (s : St) {l : Nat} (h : 0 < l) : s.dv l < l := by
  unfold St.dv
  split <;> exact Nat.mod_lt _ h
def draw_fst : Sm := match f__law_draw.body with
  | .cons s _ => s
  | _ => .pass
def draw_rst : Sms := match f__law_draw.body with
  | .cons _ r => r
  | _ => .nil
theorem ix_ints {xs : List Int} {k : Nat} (h : k < xs.length) : ixD (.lst (xs.map D.int)) (natD k) = some (.int xs[k]) := ix_lstm h
theorem draw_one {P : Nat → List B → CA} (s : St) {l : Nat} (hl : 0 < l) (h1 : l < 1073741824) : ∃ x, es1 T P m draw_fst [some (.io (s.d)), some (.sh (natD l)), none, none] = .val .nx [some (.io (s.next.d)), some (.sh (natD l)), x, none] := by
  by_cases h : s.b = 0 ∧ s.a < s.cells.length
  · have hb := h.1
    have ha := h.2
    have e10 : binD .Pow (natD 10) (natD 18) = some (false, .int 1000000000000000000) := by rw [bPow (by omega) (by omega)]; simp [natD]
    have hge : ∀ x : Int, cmpD .GtE (.int x) (.int 1000000000000000000) = some (decide (1000000000000000000 ≤ x)) := fun x => rfl
    have hmul : binD .Mult (natD s.c) (natD 48271) = some (false, .int ((s.c : Int) * 48271)) := by
      rw [bMul (by omega)]; simp [natD]
    have hadd : ∀ x y : Int, binD .Add (.int x) (.int y) = some (false, .int (x + y)) := fun _ _ => rfl
    have hmod : ∀ x : Int, binD .Mod (.int x) (natD 2147483647) = some (false, natD (x % 2147483647).toNat) := fun x => by
      have : ((x % 2147483647).toNat : Int) = x % 2147483647 := Int.toNat_of_nonneg (Int.emod_nonneg _ (by omega))
      simp only [natD, binD, this]
      rfl
    have h13 : natD 13 = .int 13 := rfl
    have hint : ∀ x : Int, primD .int [.int x] = some (false, .int x) := fun _ => rfl
    generalize hx : s.cells[s.a]'ha = x
    have hnx : s.next = ⟨s.cells, s.a + 1, if 1000000000000000000 ≤ x then x.toNat else 0, (((s.c : Int) * 48271 + x + 13) % 2147483647).toNat, by omega⟩ := by
      unfold St.next
      rw [dif_pos h]
      simp only [hx]
    refine ⟨some (.sh (.int x)), ?_⟩
    rw [hnx]
    have hix := ix_ints ha
    rw [hx] at hix
    have hp1 : ∀ (a b c d v : D), putAt (.lst [a, b, c, d]) (natD 1) v = some (.lst [a, v, c, d]) := fun a b c d v => putL (by simp)
    have hp2 : ∀ (a b c d v : D), putAt (.lst [a, b, c, d]) (natD 2) v = some (.lst [a, b, v, d]) := fun a b c d v => putL (by simp)
    have hp3 : ∀ (a b c d v : D), putAt (.lst [a, b, c, d]) (natD 3) v = some (.lst [a, b, c, v]) := fun a b c d v => putL (by simp)
    by_cases hbig : 1000000000000000000 ≤ x
    · have hxn : D.int x = natD x.toNat := by
        show D.int x = D.int ((x.toNat : Nat) : Int)
        rw [Int.toNat_of_nonneg (by omega)]
      simp -implicitDefEqProofs only [draw_fst, f__law_draw, St.d, hb, ha, hix, e10, hge, hbig, hmul, hadd, h13, hmod, hint, hp1, hp2, hp3, forN_nil, bindV, bind_ite, opt_some, es_nil', es_cons', then_nx, then_bk, then_ct, then_rt, es1_asg', es1_setx', es1_aug', es1_par', es1_app', es1_ext', es1_ex', es1_ret', op_var, rs_var, op_cst, rs_cst, op_tup, rs_tup, op_lst, rs_lst, op_bin, rs_bin, op_un, rs_un, op_nt, rs_nt, op_cmp, rs_cmp, op_cmp2, rs_cmp2, op_and, rs_and, op_or, rs_or, op_ife, rs_ife, op_ix, rs_ix, op_sl, rs_sl, op_rev, rs_rev, op_call, rs_call, op_prim, rs_prim, op_comp, rs_comp, op_pop, rs_pop, op_dnew, rs_dnew, op_get, rs_get, es1_ret0', es1_ite', es1_brk', es1_cnt', es1_pass', es1_for', es1_wh', ev_var', ev_cst', ev_tup', ev_lst', ev_bin', ev_un', ev_nt', ev_cmp', ev_cmp2', ev_and', ev_or', ev_ife', ev_ix', ev_sl', ev_rev', ev_call', ev_prim', ev_pop', ev_dnew', ev_get', ev_sset', ev_lset', op_sset, op_lset, rs_sset, rs_lset, evs_nil', evs_cons', evx_no', evx_yes', evt_tru', evt_and', evt_or', evt_nt', evt_e', evi_seq', evi_rng', evi_rng2', evi_enum', getB, setB, pk, tk, pks, tks, B.dat, asg_nm, asg_tp, asg_cube, asgN, onOwn, stillB, backB, wipeB, turnF, turnX, turnC, ite_caA, ite_caO, ite_rA, ite_cp, ite_blT, ite_blF, ite_bT, ite_bF, ite_rF, ite_rT, ite_caF, ite_caT, doCall, callArgs, backIn, frzIn, okSlots, slotsOf, List.all_cons, List.all_nil, List.nodup_cons, List.nodup_nil, List.not_mem_nil, not_false_eq_true, and_self, decide_true, List.contains_nil, List.contains_cons, beq_true, beq_false, Bool.true_beq, Bool.false_beq, decide_false, if_true, if_false, Bool.false_eq_true, Bool.and_true, Bool.true_and, Bool.and_false, Bool.false_and, Bool.or_true, Bool.true_or, Bool.or_false, Bool.false_or, Bool.not_true, Bool.not_false, beq_self_eq_true, Bool.not_not, reduceIte, Nat.reduceBEq, Nat.reduceLT, Nat.reduceLeDiff, Nat.reduceAdd, Nat.reducePow, reduceCtorEq, BEq.rfl, List.length_cons, List.length_nil, List.length_map, List.map_cons, List.map_nil, String.reduceBEq, Option.some.injEq, pi_dct_int, pi_dct_bool, pi_dct_str, pi_dct_tuple, pi_dct_list, pi_tup_int, pi_tup_bool, pi_tup_str, pi_tup_tuple, pi_tup_list, pi_lst_int, pi_lst_bool, pi_lst_str, pi_lst_tuple, pi_lst_list, pi_int_int, pi_int_bool, pi_int_str, pi_int_tuple, pi_int_list, pi_bl_int, pi_bl_bool, pi_bl_str, pi_bl_tuple, pi_bl_list, pi_str_int, pi_str_bool, pi_str_str, pi_str_tuple, pi_str_list, pi_non_int, pi_non_bool, pi_non_str, pi_non_tuple, pi_non_list, pi_nat_int, pi_nat_bool, pi_nat_str, pi_nat_tuple, pi_nat_list, pi_strd_int, pi_strd_bool, pi_strd_str, pi_strd_tuple, pi_strd_list, pi_cube_int, pi_cube_bool, pi_cube_str, pi_cube_tuple, pi_cube_list, pi_cover_int, pi_cover_bool, pi_cover_str, pi_cover_tuple, pi_cover_list, cover_mk, ← List.map_take, ← List.map_drop, it_cube, sq_cube, uNeg1, ltNeg, key_nat, get_n, ix_dn, Option.map_some, cube_mk, bAdd, bAnd, bOr, bXor, bShr, uInv, bAndNot, aAdd, aOr, cEqN, cNeN, cEqS, cNeS, cEqC, cNeC, cEqB, cNeB, cLtN, cLeN, cGtN, cGeN, cIsN, cNsN, none_non, none_nat, none_cube, none_bl, none_str, none_tup, cIsB, cNsB, cInN, cEqNL, cNeNL, pr_sortL, cNiN, cInC, tr_bl, tr_non, tr_nat, tr_lst, tr_tup, ix_t0, ix_t1, ix_t2, ix_t3, ix_l0, ix_l1, ix_l2, ix_l3, ix_c0, ix_c1, pr_lenL, pr_lenT, pr_lenC, pr_lenD, pr_lenK, pr_tupL, pr_tupT, pr_lstL, pr_lstT, pr_lstC, pr_lstS, pr_intN, pr_intB, pr_sumN, pr_allB, pr_anyB, it_lst, it_tup, it_cov, sq_lst, sq_tup, sq_cov, fl_nat, fl_str, fl_bl, fl_non, fl_lst, fl_tup, fl_cube, fl_cover, fit0, fit1, fit2, fit3, fit4, end_none, end_nat, sl_lt, sl_lf, sl_tt, sl_tf, sl_ct, sl_cf, map_snoc]
      simp only [hxn]
    · simp -implicitDefEqProofs only [draw_fst, f__law_draw, St.d, hb, ha, hix, e10, hge, hbig, hmul, hadd, h13, hmod, hint, hp1, hp2, hp3, forN_nil, bindV, bind_ite, opt_some, es_nil', es_cons', then_nx, then_bk, then_ct, then_rt, es1_asg', es1_setx', es1_aug', es1_par', es1_app', es1_ext', es1_ex', es1_ret', op_var, rs_var, op_cst, rs_cst, op_tup, rs_tup, op_lst, rs_lst, op_bin, rs_bin, op_un, rs_un, op_nt, rs_nt, op_cmp, rs_cmp, op_cmp2, rs_cmp2, op_and, rs_and, op_or, rs_or, op_ife, rs_ife, op_ix, rs_ix, op_sl, rs_sl, op_rev, rs_rev, op_call, rs_call, op_prim, rs_prim, op_comp, rs_comp, op_pop, rs_pop, op_dnew, rs_dnew, op_get, rs_get, es1_ret0', es1_ite', es1_brk', es1_cnt', es1_pass', es1_for', es1_wh', ev_var', ev_cst', ev_tup', ev_lst', ev_bin', ev_un', ev_nt', ev_cmp', ev_cmp2', ev_and', ev_or', ev_ife', ev_ix', ev_sl', ev_rev', ev_call', ev_prim', ev_pop', ev_dnew', ev_get', ev_sset', ev_lset', op_sset, op_lset, rs_sset, rs_lset, evs_nil', evs_cons', evx_no', evx_yes', evt_tru', evt_and', evt_or', evt_nt', evt_e', evi_seq', evi_rng', evi_rng2', evi_enum', getB, setB, pk, tk, pks, tks, B.dat, asg_nm, asg_tp, asg_cube, asgN, onOwn, stillB, backB, wipeB, turnF, turnX, turnC, ite_caA, ite_caO, ite_rA, ite_cp, ite_blT, ite_blF, ite_bT, ite_bF, ite_rF, ite_rT, ite_caF, ite_caT, doCall, callArgs, backIn, frzIn, okSlots, slotsOf, List.all_cons, List.all_nil, List.nodup_cons, List.nodup_nil, List.not_mem_nil, not_false_eq_true, and_self, decide_true, List.contains_nil, List.contains_cons, beq_true, beq_false, Bool.true_beq, Bool.false_beq, decide_false, if_true, if_false, Bool.false_eq_true, Bool.and_true, Bool.true_and, Bool.and_false, Bool.false_and, Bool.or_true, Bool.true_or, Bool.or_false, Bool.false_or, Bool.not_true, Bool.not_false, beq_self_eq_true, Bool.not_not, reduceIte, Nat.reduceBEq, Nat.reduceLT, Nat.reduceLeDiff, Nat.reduceAdd, Nat.reducePow, reduceCtorEq, BEq.rfl, List.length_cons, List.length_nil, List.length_map, List.map_cons, List.map_nil, String.reduceBEq, Option.some.injEq, pi_dct_int, pi_dct_bool, pi_dct_str, pi_dct_tuple, pi_dct_list, pi_tup_int, pi_tup_bool, pi_tup_str, pi_tup_tuple, pi_tup_list, pi_lst_int, pi_lst_bool, pi_lst_str, pi_lst_tuple, pi_lst_list, pi_int_int, pi_int_bool, pi_int_str, pi_int_tuple, pi_int_list, pi_bl_int, pi_bl_bool, pi_bl_str, pi_bl_tuple, pi_bl_list, pi_str_int, pi_str_bool, pi_str_str, pi_str_tuple, pi_str_list, pi_non_int, pi_non_bool, pi_non_str, pi_non_tuple, pi_non_list, pi_nat_int, pi_nat_bool, pi_nat_str, pi_nat_tuple, pi_nat_list, pi_strd_int, pi_strd_bool, pi_strd_str, pi_strd_tuple, pi_strd_list, pi_cube_int, pi_cube_bool, pi_cube_str, pi_cube_tuple, pi_cube_list, pi_cover_int, pi_cover_bool, pi_cover_str, pi_cover_tuple, pi_cover_list, cover_mk, ← List.map_take, ← List.map_drop, it_cube, sq_cube, uNeg1, ltNeg, key_nat, get_n, ix_dn, Option.map_some, cube_mk, bAdd, bAnd, bOr, bXor, bShr, uInv, bAndNot, aAdd, aOr, cEqN, cNeN, cEqS, cNeS, cEqC, cNeC, cEqB, cNeB, cLtN, cLeN, cGtN, cGeN, cIsN, cNsN, none_non, none_nat, none_cube, none_bl, none_str, none_tup, cIsB, cNsB, cInN, cEqNL, cNeNL, pr_sortL, cNiN, cInC, tr_bl, tr_non, tr_nat, tr_lst, tr_tup, ix_t0, ix_t1, ix_t2, ix_t3, ix_l0, ix_l1, ix_l2, ix_l3, ix_c0, ix_c1, pr_lenL, pr_lenT, pr_lenC, pr_lenD, pr_lenK, pr_tupL, pr_tupT, pr_lstL, pr_lstT, pr_lstC, pr_lstS, pr_intN, pr_intB, pr_sumN, pr_allB, pr_anyB, it_lst, it_tup, it_cov, sq_lst, sq_tup, sq_cov, fl_nat, fl_str, fl_bl, fl_non, fl_lst, fl_tup, fl_cube, fl_cover, fit0, fit1, fit2, fit3, fit4, end_none, end_nat, sl_lt, sl_lf, sl_tt, sl_tf, sl_ct, sl_cf, map_snoc]
  · have hnx : s.next = s := by unfold St.next; rw [dif_neg h]
    refine ⟨none, ?_⟩
    rw [hnx]
    by_cases hb : s.b = 0
    · have ha : decide (s.a < s.cells.length) = false := by simpa [hb] using h
      simp -implicitDefEqProofs only [draw_fst, f__law_draw, St.d, hb, ha, forN_nil, bindV, bind_ite, opt_some, es_nil', es_cons', then_nx, then_bk, then_ct, then_rt, es1_asg', es1_setx', es1_aug', es1_par', es1_app', es1_ext', es1_ex', es1_ret', op_var, rs_var, op_cst, rs_cst, op_tup, rs_tup, op_lst, rs_lst, op_bin, rs_bin, op_un, rs_un, op_nt, rs_nt, op_cmp, rs_cmp, op_cmp2, rs_cmp2, op_and, rs_and, op_or, rs_or, op_ife, rs_ife, op_ix, rs_ix, op_sl, rs_sl, op_rev, rs_rev, op_call, rs_call, op_prim, rs_prim, op_comp, rs_comp, op_pop, rs_pop, op_dnew, rs_dnew, op_get, rs_get, es1_ret0', es1_ite', es1_brk', es1_cnt', es1_pass', es1_for', es1_wh', ev_var', ev_cst', ev_tup', ev_lst', ev_bin', ev_un', ev_nt', ev_cmp', ev_cmp2', ev_and', ev_or', ev_ife', ev_ix', ev_sl', ev_rev', ev_call', ev_prim', ev_pop', ev_dnew', ev_get', ev_sset', ev_lset', op_sset, op_lset, rs_sset, rs_lset, evs_nil', evs_cons', evx_no', evx_yes', evt_tru', evt_and', evt_or', evt_nt', evt_e', evi_seq', evi_rng', evi_rng2', evi_enum', getB, setB, pk, tk, pks, tks, B.dat, asg_nm, asg_tp, asg_cube, asgN, onOwn, stillB, backB, wipeB, turnF, turnX, turnC, ite_caA, ite_caO, ite_rA, ite_cp, ite_blT, ite_blF, ite_bT, ite_bF, ite_rF, ite_rT, ite_caF, ite_caT, doCall, callArgs, backIn, frzIn, okSlots, slotsOf, List.all_cons, List.all_nil, List.nodup_cons, List.nodup_nil, List.not_mem_nil, not_false_eq_true, and_self, decide_true, List.contains_nil, List.contains_cons, beq_true, beq_false, Bool.true_beq, Bool.false_beq, decide_false, if_true, if_false, Bool.false_eq_true, Bool.and_true, Bool.true_and, Bool.and_false, Bool.false_and, Bool.or_true, Bool.true_or, Bool.or_false, Bool.false_or, Bool.not_true, Bool.not_false, beq_self_eq_true, Bool.not_not, reduceIte, Nat.reduceBEq, Nat.reduceLT, Nat.reduceLeDiff, Nat.reduceAdd, Nat.reducePow, reduceCtorEq, BEq.rfl, List.length_cons, List.length_nil, List.length_map, List.map_cons, List.map_nil, String.reduceBEq, Option.some.injEq, pi_dct_int, pi_dct_bool, pi_dct_str, pi_dct_tuple, pi_dct_list, pi_tup_int, pi_tup_bool, pi_tup_str, pi_tup_tuple, pi_tup_list, pi_lst_int, pi_lst_bool, pi_lst_str, pi_lst_tuple, pi_lst_list, pi_int_int, pi_int_bool, pi_int_str, pi_int_tuple, pi_int_list, pi_bl_int, pi_bl_bool, pi_bl_str, pi_bl_tuple, pi_bl_list, pi_str_int, pi_str_bool, pi_str_str, pi_str_tuple, pi_str_list, pi_non_int, pi_non_bool, pi_non_str, pi_non_tuple, pi_non_list, pi_nat_int, pi_nat_bool, pi_nat_str, pi_nat_tuple, pi_nat_list, pi_strd_int, pi_strd_bool, pi_strd_str, pi_strd_tuple, pi_strd_list, pi_cube_int, pi_cube_bool, pi_cube_str, pi_cube_tuple, pi_cube_list, pi_cover_int, pi_cover_bool, pi_cover_str, pi_cover_tuple, pi_cover_list, cover_mk, ← List.map_take, ← List.map_drop, it_cube, sq_cube, uNeg1, ltNeg, key_nat, get_n, ix_dn, Option.map_some, cube_mk, bAdd, bAnd, bOr, bXor, bShr, uInv, bAndNot, aAdd, aOr, cEqN, cNeN, cEqS, cNeS, cEqC, cNeC, cEqB, cNeB, cLtN, cLeN, cGtN, cGeN, cIsN, cNsN, none_non, none_nat, none_cube, none_bl, none_str, none_tup, cIsB, cNsB, cInN, cEqNL, cNeNL, pr_sortL, cNiN, cInC, tr_bl, tr_non, tr_nat, tr_lst, tr_tup, ix_t0, ix_t1, ix_t2, ix_t3, ix_l0, ix_l1, ix_l2, ix_l3, ix_c0, ix_c1, pr_lenL, pr_lenT, pr_lenC, pr_lenD, pr_lenK, pr_tupL, pr_tupT, pr_lstL, pr_lstT, pr_lstC, pr_lstS, pr_intN, pr_intB, pr_sumN, pr_allB, pr_anyB, it_lst, it_tup, it_cov, sq_lst, sq_tup, sq_cov, fl_nat, fl_str, fl_bl, fl_non, fl_lst, fl_tup, fl_cube, fl_cover, fit0, fit1, fit2, fit3, fit4, end_none, end_nat, sl_lt, sl_lf, sl_tt, sl_tf, sl_ct, sl_cf, map_snoc]
    · have hb : (s.b == 0) = false := by simpa using hb
      simp -implicitDefEqProofs only [draw_fst, f__law_draw, St.d, hb, forN_nil, bindV, bind_ite, opt_some, es_nil', es_cons', then_nx, then_bk, then_ct, then_rt, es1_asg', es1_setx', es1_aug', es1_par', es1_app', es1_ext', es1_ex', es1_ret', op_var, rs_var, op_cst, rs_cst, op_tup, rs_tup, op_lst, rs_lst, op_bin, rs_bin, op_un, rs_un, op_nt, rs_nt, op_cmp, rs_cmp, op_cmp2, rs_cmp2, op_and, rs_and, op_or, rs_or, op_ife, rs_ife, op_ix, rs_ix, op_sl, rs_sl, op_rev, rs_rev, op_call, rs_call, op_prim, rs_prim, op_comp, rs_comp, op_pop, rs_pop, op_dnew, rs_dnew, op_get, rs_get, es1_ret0', es1_ite', es1_brk', es1_cnt', es1_pass', es1_for', es1_wh', ev_var', ev_cst', ev_tup', ev_lst', ev_bin', ev_un', ev_nt', ev_cmp', ev_cmp2', ev_and', ev_or', ev_ife', ev_ix', ev_sl', ev_rev', ev_call', ev_prim', ev_pop', ev_dnew', ev_get', ev_sset', ev_lset', op_sset, op_lset, rs_sset, rs_lset, evs_nil', evs_cons', evx_no', evx_yes', evt_tru', evt_and', evt_or', evt_nt', evt_e', evi_seq', evi_rng', evi_rng2', evi_enum', getB, setB, pk, tk, pks, tks, B.dat, asg_nm, asg_tp, asg_cube, asgN, onOwn, stillB, backB, wipeB, turnF, turnX, turnC, ite_caA, ite_caO, ite_rA, ite_cp, ite_blT, ite_blF, ite_bT, ite_bF, ite_rF, ite_rT, ite_caF, ite_caT, doCall, callArgs, backIn, frzIn, okSlots, slotsOf, List.all_cons, List.all_nil, List.nodup_cons, List.nodup_nil, List.not_mem_nil, not_false_eq_true, and_self, decide_true, List.contains_nil, List.contains_cons, beq_true, beq_false, Bool.true_beq, Bool.false_beq, decide_false, if_true, if_false, Bool.false_eq_true, Bool.and_true, Bool.true_and, Bool.and_false, Bool.false_and, Bool.or_true, Bool.true_or, Bool.or_false, Bool.false_or, Bool.not_true, Bool.not_false, beq_self_eq_true, Bool.not_not, reduceIte, Nat.reduceBEq, Nat.reduceLT, Nat.reduceLeDiff, Nat.reduceAdd, Nat.reducePow, reduceCtorEq, BEq.rfl, List.length_cons, List.length_nil, List.length_map, List.map_cons, List.map_nil, String.reduceBEq, Option.some.injEq, pi_dct_int, pi_dct_bool, pi_dct_str, pi_dct_tuple, pi_dct_list, pi_tup_int, pi_tup_bool, pi_tup_str, pi_tup_tuple, pi_tup_list, pi_lst_int, pi_lst_bool, pi_lst_str, pi_lst_tuple, pi_lst_list, pi_int_int, pi_int_bool, pi_int_str, pi_int_tuple, pi_int_list, pi_bl_int, pi_bl_bool, pi_bl_str, pi_bl_tuple, pi_bl_list, pi_str_int, pi_str_bool, pi_str_str, pi_str_tuple, pi_str_list, pi_non_int, pi_non_bool, pi_non_str, pi_non_tuple, pi_non_list, pi_nat_int, pi_nat_bool, pi_nat_str, pi_nat_tuple, pi_nat_list, pi_strd_int, pi_strd_bool, pi_strd_str, pi_strd_tuple, pi_strd_list, pi_cube_int, pi_cube_bool, pi_cube_str, pi_cube_tuple, pi_cube_list, pi_cover_int, pi_cover_bool, pi_cover_str, pi_cover_tuple, pi_cover_list, cover_mk, ← List.map_take, ← List.map_drop, it_cube, sq_cube, uNeg1, ltNeg, key_nat, get_n, ix_dn, Option.map_some, cube_mk, bAdd, bAnd, bOr, bXor, bShr, uInv, bAndNot, aAdd, aOr, cEqN, cNeN, cEqS, cNeS, cEqC, cNeC, cEqB, cNeB, cLtN, cLeN, cGtN, cGeN, cIsN, cNsN, none_non, none_nat, none_cube, none_bl, none_str, none_tup, cIsB, cNsB, cInN, cEqNL, cNeNL, pr_sortL, cNiN, cInC, tr_bl, tr_non, tr_nat, tr_lst, tr_tup, ix_t0, ix_t1, ix_t2, ix_t3, ix_l0, ix_l1, ix_l2, ix_l3, ix_c0, ix_c1, pr_lenL, pr_lenT, pr_lenC, pr_lenD, pr_lenK, pr_tupL, pr_tupT, pr_lstL, pr_lstT, pr_lstC, pr_lstS, pr_intN, pr_intB, pr_sumN, pr_allB, pr_anyB, it_lst, it_tup, it_cov, sq_lst, sq_tup, sq_cov, fl_nat, fl_str, fl_bl, fl_non, fl_lst, fl_tup, fl_cube, fl_cover, fit0, fit1, fit2, fit3, fit4, end_none, end_nat, sl_lt, sl_lf, sl_tt, sl_tf, sl_ct, sl_cf, map_snoc]
theorem draw_two {P : Nat → List B → CA} (s : St) {l : Nat} (hl : 0 < l) (h1 : l < 1073741824) (x : Option B) : ∃ y, es T P m draw_rst [some (.io (s.d)), some (.sh (natD l)), x, none] = .val (.rt false (natD (s.dv l))) [some (.io ((s.ds l).d)), some (.sh (natD l)), x, y] := by
  have hp2 : ∀ (a b c d v : D), putAt (.lst [a, b, c, d]) (natD 2) v = some (.lst [a, b, v, d]) := fun a b c d v => putL (by simp)
  have hp3 : ∀ (a b c d v : D), putAt (.lst [a, b, c, d]) (natD 3) v = some (.lst [a, b, c, v]) := fun a b c d v => putL (by simp)
  have hmod : binD .Mod (natD s.b) (natD l) = some (false, natD (s.b % l)) := bMod hl
  have hdiv : binD .FloorDiv (natD s.b) (natD l) = some (false, natD (s.b / l)) := bDiv hl h1
  have hd11 : ∀ u, binD .FloorDiv (natD u) (natD 11) = some (false, natD (u / 11)) := fun u => bDiv (by omega) (by omega)
  have hml : ∀ u, binD .Mod (natD u) (natD l) = some (false, natD (u % l)) := fun u => bMod hl
  have hmm : ∀ u, binD .Mod (natD u) (natD 2147483629) = some (false, natD (u % 2147483629)) := fun u => bMod (by omega)
  have hmul : binD .Mult (natD s.c) (natD 69621) = some (false, natD (s.c * 69621)) := bMul (by omega)
  by_cases hb : 0 < s.b
  · refine ⟨some (.sh (natD (s.b % l))), ?_⟩
    simp -implicitDefEqProofs only [draw_rst, f__law_draw, St.d, St.dv, St.ds, hb, hmod, hdiv, hp2, forN_nil, bindV, bind_ite, opt_some, es_nil', es_cons', then_nx, then_bk, then_ct, then_rt, es1_asg', es1_setx', es1_aug', es1_par', es1_app', es1_ext', es1_ex', es1_ret', op_var, rs_var, op_cst, rs_cst, op_tup, rs_tup, op_lst, rs_lst, op_bin, rs_bin, op_un, rs_un, op_nt, rs_nt, op_cmp, rs_cmp, op_cmp2, rs_cmp2, op_and, rs_and, op_or, rs_or, op_ife, rs_ife, op_ix, rs_ix, op_sl, rs_sl, op_rev, rs_rev, op_call, rs_call, op_prim, rs_prim, op_comp, rs_comp, op_pop, rs_pop, op_dnew, rs_dnew, op_get, rs_get, es1_ret0', es1_ite', es1_brk', es1_cnt', es1_pass', es1_for', es1_wh', ev_var', ev_cst', ev_tup', ev_lst', ev_bin', ev_un', ev_nt', ev_cmp', ev_cmp2', ev_and', ev_or', ev_ife', ev_ix', ev_sl', ev_rev', ev_call', ev_prim', ev_pop', ev_dnew', ev_get', ev_sset', ev_lset', op_sset, op_lset, rs_sset, rs_lset, evs_nil', evs_cons', evx_no', evx_yes', evt_tru', evt_and', evt_or', evt_nt', evt_e', evi_seq', evi_rng', evi_rng2', evi_enum', getB, setB, pk, tk, pks, tks, B.dat, asg_nm, asg_tp, asg_cube, asgN, onOwn, stillB, backB, wipeB, turnF, turnX, turnC, ite_caA, ite_caO, ite_rA, ite_cp, ite_blT, ite_blF, ite_bT, ite_bF, ite_rF, ite_rT, ite_caF, ite_caT, doCall, callArgs, backIn, frzIn, okSlots, slotsOf, List.all_cons, List.all_nil, List.nodup_cons, List.nodup_nil, List.not_mem_nil, not_false_eq_true, and_self, decide_true, List.contains_nil, List.contains_cons, beq_true, beq_false, Bool.true_beq, Bool.false_beq, decide_false, if_true, if_false, Bool.false_eq_true, Bool.and_true, Bool.true_and, Bool.and_false, Bool.false_and, Bool.or_true, Bool.true_or, Bool.or_false, Bool.false_or, Bool.not_true, Bool.not_false, beq_self_eq_true, Bool.not_not, reduceIte, Nat.reduceBEq, Nat.reduceLT, Nat.reduceLeDiff, Nat.reduceAdd, Nat.reducePow, reduceCtorEq, BEq.rfl, List.length_cons, List.length_nil, List.length_map, List.map_cons, List.map_nil, String.reduceBEq, Option.some.injEq, pi_dct_int, pi_dct_bool, pi_dct_str, pi_dct_tuple, pi_dct_list, pi_tup_int, pi_tup_bool, pi_tup_str, pi_tup_tuple, pi_tup_list, pi_lst_int, pi_lst_bool, pi_lst_str, pi_lst_tuple, pi_lst_list, pi_int_int, pi_int_bool, pi_int_str, pi_int_tuple, pi_int_list, pi_bl_int, pi_bl_bool, pi_bl_str, pi_bl_tuple, pi_bl_list, pi_str_int, pi_str_bool, pi_str_str, pi_str_tuple, pi_str_list, pi_non_int, pi_non_bool, pi_non_str, pi_non_tuple, pi_non_list, pi_nat_int, pi_nat_bool, pi_nat_str, pi_nat_tuple, pi_nat_list, pi_strd_int, pi_strd_bool, pi_strd_str, pi_strd_tuple, pi_strd_list, pi_cube_int, pi_cube_bool, pi_cube_str, pi_cube_tuple, pi_cube_list, pi_cover_int, pi_cover_bool, pi_cover_str, pi_cover_tuple, pi_cover_list, cover_mk, ← List.map_take, ← List.map_drop, it_cube, sq_cube, uNeg1, ltNeg, key_nat, get_n, ix_dn, Option.map_some, cube_mk, bAdd, bAnd, bOr, bXor, bShr, uInv, bAndNot, aAdd, aOr, cEqN, cNeN, cEqS, cNeS, cEqC, cNeC, cEqB, cNeB, cLtN, cLeN, cGtN, cGeN, cIsN, cNsN, none_non, none_nat, none_cube, none_bl, none_str, none_tup, cIsB, cNsB, cInN, cEqNL, cNeNL, pr_sortL, cNiN, cInC, tr_bl, tr_non, tr_nat, tr_lst, tr_tup, ix_t0, ix_t1, ix_t2, ix_t3, ix_l0, ix_l1, ix_l2, ix_l3, ix_c0, ix_c1, pr_lenL, pr_lenT, pr_lenC, pr_lenD, pr_lenK, pr_tupL, pr_tupT, pr_lstL, pr_lstT, pr_lstC, pr_lstS, pr_intN, pr_intB, pr_sumN, pr_allB, pr_anyB, it_lst, it_tup, it_cov, sq_lst, sq_tup, sq_cov, fl_nat, fl_str, fl_bl, fl_non, fl_lst, fl_tup, fl_cube, fl_cover, fit0, fit1, fit2, fit3, fit4, end_none, end_nat, sl_lt, sl_lf, sl_tt, sl_tf, sl_ct, sl_cf, map_snoc]
  · refine ⟨none, ?_⟩
    have hb' : decide (0 < s.b) = false := decide_eq_false hb
    simp -implicitDefEqProofs only [draw_rst, f__law_draw, St.d, St.dv, St.ds, hb, hb', hml, hmm, hd11, hmul, hp3, forN_nil, bindV, bind_ite, opt_some, es_nil', es_cons', then_nx, then_bk, then_ct, then_rt, es1_asg', es1_setx', es1_aug', es1_par', es1_app', es1_ext', es1_ex', es1_ret', op_var, rs_var, op_cst, rs_cst, op_tup, rs_tup, op_lst, rs_lst, op_bin, rs_bin, op_un, rs_un, op_nt, rs_nt, op_cmp, rs_cmp, op_cmp2, rs_cmp2, op_and, rs_and, op_or, rs_or, op_ife, rs_ife, op_ix, rs_ix, op_sl, rs_sl, op_rev, rs_rev, op_call, rs_call, op_prim, rs_prim, op_comp, rs_comp, op_pop, rs_pop, op_dnew, rs_dnew, op_get, rs_get, es1_ret0', es1_ite', es1_brk', es1_cnt', es1_pass', es1_for', es1_wh', ev_var', ev_cst', ev_tup', ev_lst', ev_bin', ev_un', ev_nt', ev_cmp', ev_cmp2', ev_and', ev_or', ev_ife', ev_ix', ev_sl', ev_rev', ev_call', ev_prim', ev_pop', ev_dnew', ev_get', ev_sset', ev_lset', op_sset, op_lset, rs_sset, rs_lset, evs_nil', evs_cons', evx_no', evx_yes', evt_tru', evt_and', evt_or', evt_nt', evt_e', evi_seq', evi_rng', evi_rng2', evi_enum', getB, setB, pk, tk, pks, tks, B.dat, asg_nm, asg_tp, asg_cube, asgN, onOwn, stillB, backB, wipeB, turnF, turnX, turnC, ite_caA, ite_caO, ite_rA, ite_cp, ite_blT, ite_blF, ite_bT, ite_bF, ite_rF, ite_rT, ite_caF, ite_caT, doCall, callArgs, backIn, frzIn, okSlots, slotsOf, List.all_cons, List.all_nil, List.nodup_cons, List.nodup_nil, List.not_mem_nil, not_false_eq_true, and_self, decide_true, List.contains_nil, List.contains_cons, beq_true, beq_false, Bool.true_beq, Bool.false_beq, decide_false, if_true, if_false, Bool.false_eq_true, Bool.and_true, Bool.true_and, Bool.and_false, Bool.false_and, Bool.or_true, Bool.true_or, Bool.or_false, Bool.false_or, Bool.not_true, Bool.not_false, beq_self_eq_true, Bool.not_not, reduceIte, Nat.reduceBEq, Nat.reduceLT, Nat.reduceLeDiff, Nat.reduceAdd, Nat.reducePow, reduceCtorEq, BEq.rfl, List.length_cons, List.length_nil, List.length_map, List.map_cons, List.map_nil, String.reduceBEq, Option.some.injEq, pi_dct_int, pi_dct_bool, pi_dct_str, pi_dct_tuple, pi_dct_list, pi_tup_int, pi_tup_bool, pi_tup_str, pi_tup_tuple, pi_tup_list, pi_lst_int, pi_lst_bool, pi_lst_str, pi_lst_tuple, pi_lst_list, pi_int_int, pi_int_bool, pi_int_str, pi_int_tuple, pi_int_list, pi_bl_int, pi_bl_bool, pi_bl_str, pi_bl_tuple, pi_bl_list, pi_str_int, pi_str_bool, pi_str_str, pi_str_tuple, pi_str_list, pi_non_int, pi_non_bool, pi_non_str, pi_non_tuple, pi_non_list, pi_nat_int, pi_nat_bool, pi_nat_str, pi_nat_tuple, pi_nat_list, pi_strd_int, pi_strd_bool, pi_strd_str, pi_strd_tuple, pi_strd_list, pi_cube_int, pi_cube_bool, pi_cube_str, pi_cube_tuple, pi_cube_list, pi_cover_int, pi_cover_bool, pi_cover_str, pi_cover_tuple, pi_cover_list, cover_mk, ← List.map_take, ← List.map_drop, it_cube, sq_cube, uNeg1, ltNeg, key_nat, get_n, ix_dn, Option.map_some, cube_mk, bAdd, bAnd, bOr, bXor, bShr, uInv, bAndNot, aAdd, aOr, cEqN, cNeN, cEqS, cNeS, cEqC, cNeC, cEqB, cNeB, cLtN, cLeN, cGtN, cGeN, cIsN, cNsN, none_non, none_nat, none_cube, none_bl, none_str, none_tup, cIsB, cNsB, cInN, cEqNL, cNeNL, pr_sortL, cNiN, cInC, tr_bl, tr_non, tr_nat, tr_lst, tr_tup, ix_t0, ix_t1, ix_t2, ix_t3, ix_l0, ix_l1, ix_l2, ix_l3, ix_c0, ix_c1, pr_lenL, pr_lenT, pr_lenC, pr_lenD, pr_lenK, pr_tupL, pr_tupT, pr_lstL, pr_lstT, pr_lstC, pr_lstS, pr_intN, pr_intB, pr_sumN, pr_allB, pr_anyB, it_lst, it_tup, it_cov, sq_lst, sq_tup, sq_cov, fl_nat, fl_str, fl_bl, fl_non, fl_lst, fl_tup, fl_cube, fl_cover, fit0, fit1, fit2, fit3, fit4, end_none, end_nat, sl_lt, sl_lf, sl_tt, sl_tf, sl_ct, sl_cf, map_snoc]
/-- the number drawn, and the state behind -/
def St.v (s : St) (l : Nat) : Nat := s.next.dv l
def St.s (s : St) (l : Nat) : St := s.next.ds l
theorem v_lt (s : St) {l : Nat} (h : 0 < l) : s.v l < l := dv_lt _ h
theorem draw_ok {N : Nat} (hN : 1 ≤ N) (s : St) (l : Nat) (hl : 0 < l) (h1 : l < 1073741824) :
    callF T m N 10 [.io s.d, .sh (natD l)] = .ret false (natD (s.v l)) [.io (s.s l).d, .sh (natD l)] := by
  obtain ⟨n, rfl, _⟩ := to_succ hN
  obtain ⟨x, e1⟩ := draw_one (m := m) (P := callF T m n) s hl h1
  obtain ⟨y, e2⟩ := draw_two (m := m) (P := callF T m n) s.next hl h1 x
  refine call_end T__law_draw rfl (e := [some (.io ((s.s l).d)), some (.sh (natD l)), x, y]) ?_ rfl
  show es T (callF T m n) m (.cons draw_fst draw_rst) [some (.io (s.d)), some (.sh (natD l)), none, none] = _
  rw [es_cons', e1, bindV, then_nx]
  exact e2
def hasB (x : Nat) (c : Nat × Nat) : Bool := x &&& c.1 == c.2
theorem has_ok {N : Nat} (hN : 1 ≤ N) (x : Nat) (c : Nat × Nat) : callF T m N 12 [.sh (natD x), .sh (cubeD c)] = .ret false (.bl (hasB x c)) [.sh (natD x), .sh (cubeD c)] := by
  obtain ⟨n, rfl, hn⟩ := to_succ hN
  rw [callF_body T__law_has rfl]
  simp -implicitDefEqProofs only [f__law_has, List.map_cons, List.map_nil, List.cons_append, List.nil_append, List.replicate, Nat.sub_self, Nat.reduceSub, end_rt, end_nx, end_ite, outsOf, forN_nil, bindV, bind_ite, opt_some, es_nil', es_cons', then_nx, then_bk, then_ct, then_rt, es1_asg', es1_setx', es1_aug', es1_par', es1_app', es1_ext', es1_ex', es1_ret', op_var, rs_var, op_cst, rs_cst, op_tup, rs_tup, op_lst, rs_lst, op_bin, rs_bin, op_un, rs_un, op_nt, rs_nt, op_cmp, rs_cmp, op_cmp2, rs_cmp2, op_and, rs_and, op_or, rs_or, op_ife, rs_ife, op_ix, rs_ix, op_sl, rs_sl, op_rev, rs_rev, op_call, rs_call, op_prim, rs_prim, op_comp, rs_comp, op_pop, rs_pop, op_dnew, rs_dnew, op_get, rs_get, es1_ret0', es1_ite', es1_brk', es1_cnt', es1_pass', es1_for', es1_wh', ev_var', ev_cst', ev_tup', ev_lst', ev_bin', ev_un', ev_nt', ev_cmp', ev_cmp2', ev_and', ev_or', ev_ife', ev_ix', ev_sl', ev_rev', ev_call', ev_prim', ev_pop', ev_dnew', ev_get', ev_sset', ev_lset', op_sset, op_lset, rs_sset, rs_lset, evs_nil', evs_cons', evx_no', evx_yes', evt_tru', evt_and', evt_or', evt_nt', evt_e', evi_seq', evi_rng', evi_rng2', evi_enum', getB, setB, pk, tk, pks, tks, B.dat, asg_nm, asg_tp, asg_cube, asgN, onOwn, stillB, backB, wipeB, turnF, turnX, turnC, ite_caA, ite_caO, ite_rA, ite_cp, ite_blT, ite_blF, ite_bT, ite_bF, ite_rF, ite_rT, ite_caF, ite_caT, doCall, callArgs, backIn, frzIn, okSlots, slotsOf, List.all_cons, List.all_nil, List.nodup_cons, List.nodup_nil, List.not_mem_nil, not_false_eq_true, and_self, decide_true, List.contains_nil, List.contains_cons, beq_true, beq_false, Bool.true_beq, Bool.false_beq, decide_false, if_true, if_false, Bool.false_eq_true, Bool.and_true, Bool.true_and, Bool.and_false, Bool.false_and, Bool.or_true, Bool.true_or, Bool.or_false, Bool.false_or, Bool.not_true, Bool.not_false, beq_self_eq_true, Bool.not_not, reduceIte, Nat.reduceBEq, Nat.reduceLT, Nat.reduceLeDiff, Nat.reduceAdd, Nat.reducePow, reduceCtorEq, BEq.rfl, List.length_cons, List.length_nil, List.length_map, List.map_cons, List.map_nil, String.reduceBEq, Option.some.injEq, pi_dct_int, pi_dct_bool, pi_dct_str, pi_dct_tuple, pi_dct_list, pi_tup_int, pi_tup_bool, pi_tup_str, pi_tup_tuple, pi_tup_list, pi_lst_int, pi_lst_bool, pi_lst_str, pi_lst_tuple, pi_lst_list, pi_int_int, pi_int_bool, pi_int_str, pi_int_tuple, pi_int_list, pi_bl_int, pi_bl_bool, pi_bl_str, pi_bl_tuple, pi_bl_list, pi_str_int, pi_str_bool, pi_str_str, pi_str_tuple, pi_str_list, pi_non_int, pi_non_bool, pi_non_str, pi_non_tuple, pi_non_list, pi_nat_int, pi_nat_bool, pi_nat_str, pi_nat_tuple, pi_nat_list, pi_strd_int, pi_strd_bool, pi_strd_str, pi_strd_tuple, pi_strd_list, pi_cube_int, pi_cube_bool, pi_cube_str, pi_cube_tuple, pi_cube_list, pi_cover_int, pi_cover_bool, pi_cover_str, pi_cover_tuple, pi_cover_list, cover_mk, ← List.map_take, ← List.map_drop, it_cube, sq_cube, uNeg1, ltNeg, key_nat, get_n, ix_dn, Option.map_some, cube_mk, bAdd, bAnd, bOr, bXor, bShr, uInv, bAndNot, aAdd, aOr, cEqN, cNeN, cEqS, cNeS, cEqC, cNeC, cEqB, cNeB, cLtN, cLeN, cGtN, cGeN, cIsN, cNsN, none_non, none_nat, none_cube, none_bl, none_str, none_tup, cIsB, cNsB, cInN, cEqNL, cNeNL, pr_sortL, cNiN, cInC, tr_bl, tr_non, tr_nat, tr_lst, tr_tup, ix_t0, ix_t1, ix_t2, ix_t3, ix_l0, ix_l1, ix_l2, ix_l3, ix_c0, ix_c1, pr_lenL, pr_lenT, pr_lenC, pr_lenD, pr_lenK, pr_tupL, pr_tupT, pr_lstL, pr_lstT, pr_lstC, pr_lstS, pr_intN, pr_intB, pr_sumN, pr_allB, pr_anyB, it_lst, it_tup, it_cov, sq_lst, sq_tup, sq_cov, fl_nat, fl_str, fl_bl, fl_non, fl_lst, fl_tup, fl_cube, fl_cover, fit0, fit1, fit2, fit3, fit4, end_none, end_nat, sl_lt, sl_lf, sl_tt, sl_tf, sl_ct, sl_cf, map_snoc, hasB]
theorem filter_any {α : Type} (p : α → Bool) (cs : List α) : decide (0 < (cs.filter p).length) = cs.any p := by
  rw [Bool.eq_iff_iff, decide_eq_true_eq, List.any_eq_true, List.length_pos_iff_exists_mem]
  constructor
  · rintro ⟨c, hc⟩
    rw [List.mem_filter] at hc
    exact ⟨c, hc.1, hc.2⟩
  · rintro ⟨c, h1, h2⟩
    exact ⟨c, List.mem_filter.mpr ⟨h1, h2⟩⟩
theorem in_ok {N : Nat} (hN : 2 ≤ N) (x : Nat) (cs : List (Nat × Nat)) (hl : cs.length ≤ 1000000) :
    callF T m N 13 [.sh (natD x), .sh (coverD cs)] = .ret false (.bl (cs.any (hasB x))) [.sh (natD x), .sh (coverD cs)] := by
  obtain ⟨n, rfl, hn⟩ := to_succ hN
  have hh := has_ok (m := m) hn x
  have hc : ev T (callF T m n) k__law_in_0 [some (.sh (natD x)), some (.sh (coverD cs)), none, none] = .val (true, .lst ((cs.filter (hasB x)).map cubeD)) [some (.sh (natD x)), some (.sh (coverD cs)), none, none] :=
    comp_filter cubeD (hasB x) ⟨_, _, _, _, _, rfl⟩ (by simp -implicitDefEqProofs only [k__law_in_0, compIt, forN_nil, bindV, bind_ite, opt_some, es_nil', es_cons', then_nx, then_bk, then_ct, then_rt, es1_asg', es1_setx', es1_aug', es1_par', es1_app', es1_ext', es1_ex', es1_ret', op_var, rs_var, op_cst, rs_cst, op_tup, rs_tup, op_lst, rs_lst, op_bin, rs_bin, op_un, rs_un, op_nt, rs_nt, op_cmp, rs_cmp, op_cmp2, rs_cmp2, op_and, rs_and, op_or, rs_or, op_ife, rs_ife, op_ix, rs_ix, op_sl, rs_sl, op_rev, rs_rev, op_call, rs_call, op_prim, rs_prim, op_comp, rs_comp, op_pop, rs_pop, op_dnew, rs_dnew, op_get, rs_get, es1_ret0', es1_ite', es1_brk', es1_cnt', es1_pass', es1_for', es1_wh', ev_var', ev_cst', ev_tup', ev_lst', ev_bin', ev_un', ev_nt', ev_cmp', ev_cmp2', ev_and', ev_or', ev_ife', ev_ix', ev_sl', ev_rev', ev_call', ev_prim', ev_pop', ev_dnew', ev_get', ev_sset', ev_lset', op_sset, op_lset, rs_sset, rs_lset, evs_nil', evs_cons', evx_no', evx_yes', evt_tru', evt_and', evt_or', evt_nt', evt_e', evi_seq', evi_rng', evi_rng2', evi_enum', getB, setB, pk, tk, pks, tks, B.dat, asg_nm, asg_tp, asg_cube, asgN, onOwn, stillB, backB, wipeB, turnF, turnX, turnC, ite_caA, ite_caO, ite_rA, ite_cp, ite_blT, ite_blF, ite_bT, ite_bF, ite_rF, ite_rT, ite_caF, ite_caT, doCall, callArgs, backIn, frzIn, okSlots, slotsOf, List.all_cons, List.all_nil, List.nodup_cons, List.nodup_nil, List.not_mem_nil, not_false_eq_true, and_self, decide_true, List.contains_nil, List.contains_cons, beq_true, beq_false, Bool.true_beq, Bool.false_beq, decide_false, if_true, if_false, Bool.false_eq_true, Bool.and_true, Bool.true_and, Bool.and_false, Bool.false_and, Bool.or_true, Bool.true_or, Bool.or_false, Bool.false_or, Bool.not_true, Bool.not_false, beq_self_eq_true, Bool.not_not, reduceIte, Nat.reduceBEq, Nat.reduceLT, Nat.reduceLeDiff, Nat.reduceAdd, Nat.reducePow, reduceCtorEq, BEq.rfl, List.length_cons, List.length_nil, List.length_map, List.map_cons, List.map_nil, String.reduceBEq, Option.some.injEq, pi_dct_int, pi_dct_bool, pi_dct_str, pi_dct_tuple, pi_dct_list, pi_tup_int, pi_tup_bool, pi_tup_str, pi_tup_tuple, pi_tup_list, pi_lst_int, pi_lst_bool, pi_lst_str, pi_lst_tuple, pi_lst_list, pi_int_int, pi_int_bool, pi_int_str, pi_int_tuple, pi_int_list, pi_bl_int, pi_bl_bool, pi_bl_str, pi_bl_tuple, pi_bl_list, pi_str_int, pi_str_bool, pi_str_str, pi_str_tuple, pi_str_list, pi_non_int, pi_non_bool, pi_non_str, pi_non_tuple, pi_non_list, pi_nat_int, pi_nat_bool, pi_nat_str, pi_nat_tuple, pi_nat_list, pi_strd_int, pi_strd_bool, pi_strd_str, pi_strd_tuple, pi_strd_list, pi_cube_int, pi_cube_bool, pi_cube_str, pi_cube_tuple, pi_cube_list, pi_cover_int, pi_cover_bool, pi_cover_str, pi_cover_tuple, pi_cover_list, cover_mk, ← List.map_take, ← List.map_drop, it_cube, sq_cube, uNeg1, ltNeg, key_nat, get_n, ix_dn, Option.map_some, cube_mk, bAdd, bAnd, bOr, bXor, bShr, uInv, bAndNot, aAdd, aOr, cEqN, cNeN, cEqS, cNeS, cEqC, cNeC, cEqB, cNeB, cLtN, cLeN, cGtN, cGeN, cIsN, cNsN, none_non, none_nat, none_cube, none_bl, none_str, none_tup, cIsB, cNsB, cInN, cEqNL, cNeNL, pr_sortL, cNiN, cInC, tr_bl, tr_non, tr_nat, tr_lst, tr_tup, ix_t0, ix_t1, ix_t2, ix_t3, ix_l0, ix_l1, ix_l2, ix_l3, ix_c0, ix_c1, pr_lenL, pr_lenT, pr_lenC, pr_lenD, pr_lenK, pr_tupL, pr_tupT, pr_lstL, pr_lstT, pr_lstC, pr_lstS, pr_intN, pr_intB, pr_sumN, pr_allB, pr_anyB, it_lst, it_tup, it_cov, sq_lst, sq_tup, sq_cov, fl_nat, fl_str, fl_bl, fl_non, fl_lst, fl_tup, fl_cube, fl_cover, fit0, fit1, fit2, fit3, fit4, end_none, end_nat, sl_lt, sl_lf, sl_tt, sl_tf, sl_ct, sl_cf, map_snoc]) rfl (fun c _ => by simp -implicitDefEqProofs only [k__law_in_0, forN_nil, bindV, bind_ite, opt_some, es_nil', es_cons', then_nx, then_bk, then_ct, then_rt, es1_asg', es1_setx', es1_aug', es1_par', es1_app', es1_ext', es1_ex', es1_ret', op_var, rs_var, op_cst, rs_cst, op_tup, rs_tup, op_lst, rs_lst, op_bin, rs_bin, op_un, rs_un, op_nt, rs_nt, op_cmp, rs_cmp, op_cmp2, rs_cmp2, op_and, rs_and, op_or, rs_or, op_ife, rs_ife, op_ix, rs_ix, op_sl, rs_sl, op_rev, rs_rev, op_call, rs_call, op_prim, rs_prim, op_comp, rs_comp, op_pop, rs_pop, op_dnew, rs_dnew, op_get, rs_get, es1_ret0', es1_ite', es1_brk', es1_cnt', es1_pass', es1_for', es1_wh', ev_var', ev_cst', ev_tup', ev_lst', ev_bin', ev_un', ev_nt', ev_cmp', ev_cmp2', ev_and', ev_or', ev_ife', ev_ix', ev_sl', ev_rev', ev_call', ev_prim', ev_pop', ev_dnew', ev_get', ev_sset', ev_lset', op_sset, op_lset, rs_sset, rs_lset, evs_nil', evs_cons', evx_no', evx_yes', evt_tru', evt_and', evt_or', evt_nt', evt_e', evi_seq', evi_rng', evi_rng2', evi_enum', getB, setB, pk, tk, pks, tks, B.dat, asg_nm, asg_tp, asg_cube, asgN, onOwn, stillB, backB, wipeB, turnF, turnX, turnC, ite_caA, ite_caO, ite_rA, ite_cp, ite_blT, ite_blF, ite_bT, ite_bF, ite_rF, ite_rT, ite_caF, ite_caT, doCall, callArgs, backIn, frzIn, okSlots, slotsOf, List.all_cons, List.all_nil, List.nodup_cons, List.nodup_nil, List.not_mem_nil, not_false_eq_true, and_self, decide_true, List.contains_nil, List.contains_cons, beq_true, beq_false, Bool.true_beq, Bool.false_beq, decide_false, if_true, if_false, Bool.false_eq_true, Bool.and_true, Bool.true_and, Bool.and_false, Bool.false_and, Bool.or_true, Bool.true_or, Bool.or_false, Bool.false_or, Bool.not_true, Bool.not_false, beq_self_eq_true, Bool.not_not, reduceIte, Nat.reduceBEq, Nat.reduceLT, Nat.reduceLeDiff, Nat.reduceAdd, Nat.reducePow, reduceCtorEq, BEq.rfl, List.length_cons, List.length_nil, List.length_map, List.map_cons, List.map_nil, String.reduceBEq, Option.some.injEq, pi_dct_int, pi_dct_bool, pi_dct_str, pi_dct_tuple, pi_dct_list, pi_tup_int, pi_tup_bool, pi_tup_str, pi_tup_tuple, pi_tup_list, pi_lst_int, pi_lst_bool, pi_lst_str, pi_lst_tuple, pi_lst_list, pi_int_int, pi_int_bool, pi_int_str, pi_int_tuple, pi_int_list, pi_bl_int, pi_bl_bool, pi_bl_str, pi_bl_tuple, pi_bl_list, pi_str_int, pi_str_bool, pi_str_str, pi_str_tuple, pi_str_list, pi_non_int, pi_non_bool, pi_non_str, pi_non_tuple, pi_non_list, pi_nat_int, pi_nat_bool, pi_nat_str, pi_nat_tuple, pi_nat_list, pi_strd_int, pi_strd_bool, pi_strd_str, pi_strd_tuple, pi_strd_list, pi_cube_int, pi_cube_bool, pi_cube_str, pi_cube_tuple, pi_cube_list, pi_cover_int, pi_cover_bool, pi_cover_str, pi_cover_tuple, pi_cover_list, cover_mk, ← List.map_take, ← List.map_drop, it_cube, sq_cube, uNeg1, ltNeg, key_nat, get_n, ix_dn, Option.map_some, cube_mk, bAdd, bAnd, bOr, bXor, bShr, uInv, bAndNot, aAdd, aOr, cEqN, cNeN, cEqS, cNeS, cEqC, cNeC, cEqB, cNeB, cLtN, cLeN, cGtN, cGeN, cIsN, cNsN, none_non, none_nat, none_cube, none_bl, none_str, none_tup, cIsB, cNsB, cInN, cEqNL, cNeNL, pr_sortL, cNiN, cInC, tr_bl, tr_non, tr_nat, tr_lst, tr_tup, ix_t0, ix_t1, ix_t2, ix_t3, ix_l0, ix_l1, ix_l2, ix_l3, ix_c0, ix_c1, pr_lenL, pr_lenT, pr_lenC, pr_lenD, pr_lenK, pr_tupL, pr_tupT, pr_lstL, pr_lstT, pr_lstC, pr_lstS, pr_intN, pr_intB, pr_sumN, pr_allB, pr_anyB, it_lst, it_tup, it_cov, sq_lst, sq_tup, sq_cov, fl_nat, fl_str, fl_bl, fl_non, fl_lst, fl_tup, fl_cube, fl_cover, fit0, fit1, fit2, fit3, fit4, end_none, end_nat, sl_lt, sl_lf, sl_tt, sl_tf, sl_ct, sl_cf, map_snoc, T_is_number, io_is_number, T_is_cube, io_is_cube, T_is_cover, io_is_cover, T_in_cube, io_in_cube, T_in_cover, io_in_cover, T_is_gate, io_is_gate, T_next_value, io_next_value, T_fights, io_fights, T_reads, io_reads, T__law_draws, io__law_draws, T__law_draw, io__law_draw, T__law_same, io__law_same, T__law_has, io__law_has, T__law_in, io__law_in, T__law_cube, io__law_cube, T__law_cover, io__law_cover, T__law_bits, io__law_bits, T__law_odd, io__law_odd, T__law_next, io__law_next, T__law_gate, io__law_gate, T__law_reads, io__law_reads, T__law_wrong, io__law_wrong, T_law, io_law, op_k_is_cover_0, rs_k_is_cover_0, op_k_in_cover_0, rs_k_in_cover_0, op_k__law_in_0, rs_k__law_in_0, op_k__law_cover_0, rs_k__law_cover_0, op_k__law_reads_2, rs_k__law_reads_2, hh]) hl
  rw [callF_body T__law_in rfl]
  simp -implicitDefEqProofs only [f__law_in, List.map_cons, List.map_nil, List.cons_append, List.nil_append, List.replicate, Nat.sub_self, Nat.reduceSub, end_rt, end_nx, end_ite, outsOf, forN_nil, bindV, bind_ite, opt_some, es_nil', es_cons', then_nx, then_bk, then_ct, then_rt, es1_asg', es1_setx', es1_aug', es1_par', es1_app', es1_ext', es1_ex', es1_ret', op_var, rs_var, op_cst, rs_cst, op_tup, rs_tup, op_lst, rs_lst, op_bin, rs_bin, op_un, rs_un, op_nt, rs_nt, op_cmp, rs_cmp, op_cmp2, rs_cmp2, op_and, rs_and, op_or, rs_or, op_ife, rs_ife, op_ix, rs_ix, op_sl, rs_sl, op_rev, rs_rev, op_call, rs_call, op_prim, rs_prim, op_comp, rs_comp, op_pop, rs_pop, op_dnew, rs_dnew, op_get, rs_get, es1_ret0', es1_ite', es1_brk', es1_cnt', es1_pass', es1_for', es1_wh', ev_var', ev_cst', ev_tup', ev_lst', ev_bin', ev_un', ev_nt', ev_cmp', ev_cmp2', ev_and', ev_or', ev_ife', ev_ix', ev_sl', ev_rev', ev_call', ev_prim', ev_pop', ev_dnew', ev_get', ev_sset', ev_lset', op_sset, op_lset, rs_sset, rs_lset, evs_nil', evs_cons', evx_no', evx_yes', evt_tru', evt_and', evt_or', evt_nt', evt_e', evi_seq', evi_rng', evi_rng2', evi_enum', getB, setB, pk, tk, pks, tks, B.dat, asg_nm, asg_tp, asg_cube, asgN, onOwn, stillB, backB, wipeB, turnF, turnX, turnC, ite_caA, ite_caO, ite_rA, ite_cp, ite_blT, ite_blF, ite_bT, ite_bF, ite_rF, ite_rT, ite_caF, ite_caT, doCall, callArgs, backIn, frzIn, okSlots, slotsOf, List.all_cons, List.all_nil, List.nodup_cons, List.nodup_nil, List.not_mem_nil, not_false_eq_true, and_self, decide_true, List.contains_nil, List.contains_cons, beq_true, beq_false, Bool.true_beq, Bool.false_beq, decide_false, if_true, if_false, Bool.false_eq_true, Bool.and_true, Bool.true_and, Bool.and_false, Bool.false_and, Bool.or_true, Bool.true_or, Bool.or_false, Bool.false_or, Bool.not_true, Bool.not_false, beq_self_eq_true, Bool.not_not, reduceIte, Nat.reduceBEq, Nat.reduceLT, Nat.reduceLeDiff, Nat.reduceAdd, Nat.reducePow, reduceCtorEq, BEq.rfl, List.length_cons, List.length_nil, List.length_map, List.map_cons, List.map_nil, String.reduceBEq, Option.some.injEq, pi_dct_int, pi_dct_bool, pi_dct_str, pi_dct_tuple, pi_dct_list, pi_tup_int, pi_tup_bool, pi_tup_str, pi_tup_tuple, pi_tup_list, pi_lst_int, pi_lst_bool, pi_lst_str, pi_lst_tuple, pi_lst_list, pi_int_int, pi_int_bool, pi_int_str, pi_int_tuple, pi_int_list, pi_bl_int, pi_bl_bool, pi_bl_str, pi_bl_tuple, pi_bl_list, pi_str_int, pi_str_bool, pi_str_str, pi_str_tuple, pi_str_list, pi_non_int, pi_non_bool, pi_non_str, pi_non_tuple, pi_non_list, pi_nat_int, pi_nat_bool, pi_nat_str, pi_nat_tuple, pi_nat_list, pi_strd_int, pi_strd_bool, pi_strd_str, pi_strd_tuple, pi_strd_list, pi_cube_int, pi_cube_bool, pi_cube_str, pi_cube_tuple, pi_cube_list, pi_cover_int, pi_cover_bool, pi_cover_str, pi_cover_tuple, pi_cover_list, cover_mk, ← List.map_take, ← List.map_drop, it_cube, sq_cube, uNeg1, ltNeg, key_nat, get_n, ix_dn, Option.map_some, cube_mk, bAdd, bAnd, bOr, bXor, bShr, uInv, bAndNot, aAdd, aOr, cEqN, cNeN, cEqS, cNeS, cEqC, cNeC, cEqB, cNeB, cLtN, cLeN, cGtN, cGeN, cIsN, cNsN, none_non, none_nat, none_cube, none_bl, none_str, none_tup, cIsB, cNsB, cInN, cEqNL, cNeNL, pr_sortL, cNiN, cInC, tr_bl, tr_non, tr_nat, tr_lst, tr_tup, ix_t0, ix_t1, ix_t2, ix_t3, ix_l0, ix_l1, ix_l2, ix_l3, ix_c0, ix_c1, pr_lenL, pr_lenT, pr_lenC, pr_lenD, pr_lenK, pr_tupL, pr_tupT, pr_lstL, pr_lstT, pr_lstC, pr_lstS, pr_intN, pr_intB, pr_sumN, pr_allB, pr_anyB, it_lst, it_tup, it_cov, sq_lst, sq_tup, sq_cov, fl_nat, fl_str, fl_bl, fl_non, fl_lst, fl_tup, fl_cube, fl_cover, fit0, fit1, fit2, fit3, fit4, end_none, end_nat, sl_lt, sl_lf, sl_tt, sl_tf, sl_ct, sl_cf, map_snoc, T_is_number, io_is_number, T_is_cube, io_is_cube, T_is_cover, io_is_cover, T_in_cube, io_in_cube, T_in_cover, io_in_cover, T_is_gate, io_is_gate, T_next_value, io_next_value, T_fights, io_fights, T_reads, io_reads, T__law_draws, io__law_draws, T__law_draw, io__law_draw, T__law_same, io__law_same, T__law_has, io__law_has, T__law_in, io__law_in, T__law_cube, io__law_cube, T__law_cover, io__law_cover, T__law_bits, io__law_bits, T__law_odd, io__law_odd, T__law_next, io__law_next, T__law_gate, io__law_gate, T__law_reads, io__law_reads, T__law_wrong, io__law_wrong, T_law, io_law, op_k_is_cover_0, rs_k_is_cover_0, op_k_in_cover_0, rs_k_in_cover_0, op_k__law_in_0, rs_k__law_in_0, op_k__law_cover_0, rs_k__law_cover_0, op_k__law_reads_2, rs_k__law_reads_2, hc, filter_any]
mutual
/-- the law's own sameness: the same values of the same kinds -/
def sameD : D → D → Bool
  | a, .tup ys => match a with | .tup xs => sameL xs ys | _ => false
  | a, .lst ys => match a with | .lst xs => sameL xs ys | _ => false
  | a, .str y => match a with | .str x => x == y | _ => false
  | a, .non => isNone a
  | a, .bl y => match a with | .bl x => x == y | _ => false
  | a, .int j => match a with | .int i => i == j | _ => false
  | _, _ => false
def sameL : List D → List D → Bool
  | xs, [] => xs.isEmpty
  | xs, y :: ys => match xs with | [] => false | x :: xs => sameD x y && sameL xs ys
end
mutual
/-- its lists are no longer than that -/
def lensD : D → Bool
  | .tup ys => decide (ys.length ≤ 1000000) && lensL ys
  | .lst ys => decide (ys.length ≤ 1000000) && lensL ys
  | _ => true
def lensL : List D → Bool
  | [] => true
  | y :: ys => lensD y && lensL ys
end
theorem sameL_len : ∀ (ys xs : List D), xs.length ≠ ys.length → sameL xs ys = false
  | [], [], h => absurd rfl h
  | [], _ :: _, _ => rfl
  | _ :: _, [], _ => rfl
  | y :: ys, x :: xs, h => by
    simp only [sameL]
    rw [sameL_len ys xs (by simpa using h), Bool.and_false]
theorem sameL_all : ∀ (ys xs : List D), xs.length = ys.length → sameL xs ys = (List.range ys.length).all fun j => sameD (xs.getD j .non) (ys.getD j .non)
  | [], [], _ => rfl
  | [], _ :: _, h => by simp at h
  | _ :: _, [], h => by simp at h
  | y :: ys, x :: xs, h => by
    simp only [sameL]
    rw [sameL_all ys xs (by simpa using h), List.length_cons, List.range_succ_eq_map, List.all_cons, List.all_map]
    rfl
theorem oks_get {k : Nat} : ∀ {xs : List D} {j : Nat}, D.ok.oks xs k = true → j < xs.length → (xs.getD j .non).ok k = true
  | [], _, _, h => by simp at h
  | x :: xs, 0, h, _ => by simp only [D.ok.oks, Bool.and_eq_true] at h; exact h.1
  | x :: xs, j + 1, h, hj => by
    simp only [D.ok.oks, Bool.and_eq_true] at h
    exact oks_get (xs := xs) (j := j) h.2 (by simpa using hj)
theorem lens_get : ∀ {xs : List D} {j : Nat}, lensL xs = true → j < xs.length → lensD (xs.getD j .non) = true
  | [], _, _, h => by simp at h
  | x :: xs, 0, h, _ => by simp only [lensL, Bool.and_eq_true] at h; exact h.1
  | x :: xs, j + 1, h, hj => by
    simp only [lensL, Bool.and_eq_true] at h
    exact lens_get (xs := xs) (j := j) h.2 (by simpa using hj)
theorem getD_get {xs : List D} {j : Nat} (h : j < xs.length) : xs[j] = xs.getD j .non := by simp [h]
theorem same_loop {n : Nat} (a b : D) (xs ys : List D) (hl : xs.length = ys.length) (hab : (a = .tup xs ∧ b = .tup ys) ∨ (a = .lst xs ∧ b = .lst ys))
    (hs : ∀ j, j < ys.length → callF T m n 11 [.sh (xs.getD j .non), .sh (ys.getD j .non)] = .ret false (.bl (sameD (xs.getD j .non) (ys.getD j .non))) [.sh (xs.getD j .non), .sh (ys.getD j .non)]) :
    ∀ (js : List Nat) (x : Option B), (∀ j ∈ js, j < ys.length) → ∃ y, forN (turnF T (callF T m n) m (.nm 2) b__law_same_0) (js.map natD) [some (.sh (a)), some (.sh (b)), x] = .val (if js.all (fun j => sameD (xs.getD j .non) (ys.getD j .non)) = true then .nx else .rt false (.bl false)) [some (.sh (a)), some (.sh (b)), y]
  | [], x, _ => ⟨x, rfl⟩
  | j :: js, x, h => by
    have hj := h j (by simp)
    have hc := hs j hj
    have hx : ixD a (natD j) = some (xs.getD j .non) := by
      rcases hab with ⟨e, _⟩ | ⟨e, _⟩ <;> rw [e]
      · rw [ix_tup (by omega), getD_get (by omega)]
      · rw [ix_lst (by omega), getD_get (by omega)]
    have hy : ixD b (natD j) = some (ys.getD j .non) := by
      rcases hab with ⟨_, e⟩ | ⟨_, e⟩ <;> rw [e]
      · rw [ix_tup (by omega), getD_get (by omega)]
      · rw [ix_lst (by omega), getD_get (by omega)]
    cases hb : sameD (xs.getD j .non) (ys.getD j .non) with
    | true =>
      rw [hb] at hc
      have step : turnF T (callF T m n) m (.nm 2) b__law_same_0 (natD j) [some (.sh (a)), some (.sh (b)), x] = .val .nx [some (.sh (a)), some (.sh (b)), some (.sh (natD j))] := by
        simp -implicitDefEqProofs only [b__law_same_0, forN_nil, bindV, bind_ite, opt_some, es_nil', es_cons', then_nx, then_bk, then_ct, then_rt, es1_asg', es1_setx', es1_aug', es1_par', es1_app', es1_ext', es1_ex', es1_ret', op_var, rs_var, op_cst, rs_cst, op_tup, rs_tup, op_lst, rs_lst, op_bin, rs_bin, op_un, rs_un, op_nt, rs_nt, op_cmp, rs_cmp, op_cmp2, rs_cmp2, op_and, rs_and, op_or, rs_or, op_ife, rs_ife, op_ix, rs_ix, op_sl, rs_sl, op_rev, rs_rev, op_call, rs_call, op_prim, rs_prim, op_comp, rs_comp, op_pop, rs_pop, op_dnew, rs_dnew, op_get, rs_get, es1_ret0', es1_ite', es1_brk', es1_cnt', es1_pass', es1_for', es1_wh', ev_var', ev_cst', ev_tup', ev_lst', ev_bin', ev_un', ev_nt', ev_cmp', ev_cmp2', ev_and', ev_or', ev_ife', ev_ix', ev_sl', ev_rev', ev_call', ev_prim', ev_pop', ev_dnew', ev_get', ev_sset', ev_lset', op_sset, op_lset, rs_sset, rs_lset, evs_nil', evs_cons', evx_no', evx_yes', evt_tru', evt_and', evt_or', evt_nt', evt_e', evi_seq', evi_rng', evi_rng2', evi_enum', getB, setB, pk, tk, pks, tks, B.dat, asg_nm, asg_tp, asg_cube, asgN, onOwn, stillB, backB, wipeB, turnF, turnX, turnC, ite_caA, ite_caO, ite_rA, ite_cp, ite_blT, ite_blF, ite_bT, ite_bF, ite_rF, ite_rT, ite_caF, ite_caT, doCall, callArgs, backIn, frzIn, okSlots, slotsOf, List.all_cons, List.all_nil, List.nodup_cons, List.nodup_nil, List.not_mem_nil, not_false_eq_true, and_self, decide_true, List.contains_nil, List.contains_cons, beq_true, beq_false, Bool.true_beq, Bool.false_beq, decide_false, if_true, if_false, Bool.false_eq_true, Bool.and_true, Bool.true_and, Bool.and_false, Bool.false_and, Bool.or_true, Bool.true_or, Bool.or_false, Bool.false_or, Bool.not_true, Bool.not_false, beq_self_eq_true, Bool.not_not, reduceIte, Nat.reduceBEq, Nat.reduceLT, Nat.reduceLeDiff, Nat.reduceAdd, Nat.reducePow, reduceCtorEq, BEq.rfl, List.length_cons, List.length_nil, List.length_map, List.map_cons, List.map_nil, String.reduceBEq, Option.some.injEq, pi_dct_int, pi_dct_bool, pi_dct_str, pi_dct_tuple, pi_dct_list, pi_tup_int, pi_tup_bool, pi_tup_str, pi_tup_tuple, pi_tup_list, pi_lst_int, pi_lst_bool, pi_lst_str, pi_lst_tuple, pi_lst_list, pi_int_int, pi_int_bool, pi_int_str, pi_int_tuple, pi_int_list, pi_bl_int, pi_bl_bool, pi_bl_str, pi_bl_tuple, pi_bl_list, pi_str_int, pi_str_bool, pi_str_str, pi_str_tuple, pi_str_list, pi_non_int, pi_non_bool, pi_non_str, pi_non_tuple, pi_non_list, pi_nat_int, pi_nat_bool, pi_nat_str, pi_nat_tuple, pi_nat_list, pi_strd_int, pi_strd_bool, pi_strd_str, pi_strd_tuple, pi_strd_list, pi_cube_int, pi_cube_bool, pi_cube_str, pi_cube_tuple, pi_cube_list, pi_cover_int, pi_cover_bool, pi_cover_str, pi_cover_tuple, pi_cover_list, cover_mk, ← List.map_take, ← List.map_drop, it_cube, sq_cube, uNeg1, ltNeg, key_nat, get_n, ix_dn, Option.map_some, cube_mk, bAdd, bAnd, bOr, bXor, bShr, uInv, bAndNot, aAdd, aOr, cEqN, cNeN, cEqS, cNeS, cEqC, cNeC, cEqB, cNeB, cLtN, cLeN, cGtN, cGeN, cIsN, cNsN, none_non, none_nat, none_cube, none_bl, none_str, none_tup, cIsB, cNsB, cInN, cEqNL, cNeNL, pr_sortL, cNiN, cInC, tr_bl, tr_non, tr_nat, tr_lst, tr_tup, ix_t0, ix_t1, ix_t2, ix_t3, ix_l0, ix_l1, ix_l2, ix_l3, ix_c0, ix_c1, pr_lenL, pr_lenT, pr_lenC, pr_lenD, pr_lenK, pr_tupL, pr_tupT, pr_lstL, pr_lstT, pr_lstC, pr_lstS, pr_intN, pr_intB, pr_sumN, pr_allB, pr_anyB, it_lst, it_tup, it_cov, sq_lst, sq_tup, sq_cov, fl_nat, fl_str, fl_bl, fl_non, fl_lst, fl_tup, fl_cube, fl_cover, fit0, fit1, fit2, fit3, fit4, end_none, end_nat, sl_lt, sl_lf, sl_tt, sl_tf, sl_ct, sl_cf, map_snoc, T_is_number, io_is_number, T_is_cube, io_is_cube, T_is_cover, io_is_cover, T_in_cube, io_in_cube, T_in_cover, io_in_cover, T_is_gate, io_is_gate, T_next_value, io_next_value, T_fights, io_fights, T_reads, io_reads, T__law_draws, io__law_draws, T__law_draw, io__law_draw, T__law_same, io__law_same, T__law_has, io__law_has, T__law_in, io__law_in, T__law_cube, io__law_cube, T__law_cover, io__law_cover, T__law_bits, io__law_bits, T__law_odd, io__law_odd, T__law_next, io__law_next, T__law_gate, io__law_gate, T__law_reads, io__law_reads, T__law_wrong, io__law_wrong, T_law, io_law, op_k_is_cover_0, rs_k_is_cover_0, op_k_in_cover_0, rs_k_in_cover_0, op_k__law_in_0, rs_k__law_in_0, op_k__law_cover_0, rs_k__law_cover_0, op_k__law_reads_2, rs_k__law_reads_2, hx, hy, hc]
      obtain ⟨y, q⟩ := same_loop a b xs ys hl hab hs js (some (.sh (natD j))) (fun i hi => h i (by simp [hi]))
      exact ⟨y, by rw [List.map_cons, forN_cons (.inl step), q, List.all_cons, hb, Bool.true_and]⟩
    | false =>
      rw [hb] at hc
      have step : turnF T (callF T m n) m (.nm 2) b__law_same_0 (natD j) [some (.sh (a)), some (.sh (b)), x] = .val (.rt false (.bl false)) [some (.sh (a)), some (.sh (b)), some (.sh (natD j))] := by
        simp -implicitDefEqProofs only [b__law_same_0, forN_nil, bindV, bind_ite, opt_some, es_nil', es_cons', then_nx, then_bk, then_ct, then_rt, es1_asg', es1_setx', es1_aug', es1_par', es1_app', es1_ext', es1_ex', es1_ret', op_var, rs_var, op_cst, rs_cst, op_tup, rs_tup, op_lst, rs_lst, op_bin, rs_bin, op_un, rs_un, op_nt, rs_nt, op_cmp, rs_cmp, op_cmp2, rs_cmp2, op_and, rs_and, op_or, rs_or, op_ife, rs_ife, op_ix, rs_ix, op_sl, rs_sl, op_rev, rs_rev, op_call, rs_call, op_prim, rs_prim, op_comp, rs_comp, op_pop, rs_pop, op_dnew, rs_dnew, op_get, rs_get, es1_ret0', es1_ite', es1_brk', es1_cnt', es1_pass', es1_for', es1_wh', ev_var', ev_cst', ev_tup', ev_lst', ev_bin', ev_un', ev_nt', ev_cmp', ev_cmp2', ev_and', ev_or', ev_ife', ev_ix', ev_sl', ev_rev', ev_call', ev_prim', ev_pop', ev_dnew', ev_get', ev_sset', ev_lset', op_sset, op_lset, rs_sset, rs_lset, evs_nil', evs_cons', evx_no', evx_yes', evt_tru', evt_and', evt_or', evt_nt', evt_e', evi_seq', evi_rng', evi_rng2', evi_enum', getB, setB, pk, tk, pks, tks, B.dat, asg_nm, asg_tp, asg_cube, asgN, onOwn, stillB, backB, wipeB, turnF, turnX, turnC, ite_caA, ite_caO, ite_rA, ite_cp, ite_blT, ite_blF, ite_bT, ite_bF, ite_rF, ite_rT, ite_caF, ite_caT, doCall, callArgs, backIn, frzIn, okSlots, slotsOf, List.all_cons, List.all_nil, List.nodup_cons, List.nodup_nil, List.not_mem_nil, not_false_eq_true, and_self, decide_true, List.contains_nil, List.contains_cons, beq_true, beq_false, Bool.true_beq, Bool.false_beq, decide_false, if_true, if_false, Bool.false_eq_true, Bool.and_true, Bool.true_and, Bool.and_false, Bool.false_and, Bool.or_true, Bool.true_or, Bool.or_false, Bool.false_or, Bool.not_true, Bool.not_false, beq_self_eq_true, Bool.not_not, reduceIte, Nat.reduceBEq, Nat.reduceLT, Nat.reduceLeDiff, Nat.reduceAdd, Nat.reducePow, reduceCtorEq, BEq.rfl, List.length_cons, List.length_nil, List.length_map, List.map_cons, List.map_nil, String.reduceBEq, Option.some.injEq, pi_dct_int, pi_dct_bool, pi_dct_str, pi_dct_tuple, pi_dct_list, pi_tup_int, pi_tup_bool, pi_tup_str, pi_tup_tuple, pi_tup_list, pi_lst_int, pi_lst_bool, pi_lst_str, pi_lst_tuple, pi_lst_list, pi_int_int, pi_int_bool, pi_int_str, pi_int_tuple, pi_int_list, pi_bl_int, pi_bl_bool, pi_bl_str, pi_bl_tuple, pi_bl_list, pi_str_int, pi_str_bool, pi_str_str, pi_str_tuple, pi_str_list, pi_non_int, pi_non_bool, pi_non_str, pi_non_tuple, pi_non_list, pi_nat_int, pi_nat_bool, pi_nat_str, pi_nat_tuple, pi_nat_list, pi_strd_int, pi_strd_bool, pi_strd_str, pi_strd_tuple, pi_strd_list, pi_cube_int, pi_cube_bool, pi_cube_str, pi_cube_tuple, pi_cube_list, pi_cover_int, pi_cover_bool, pi_cover_str, pi_cover_tuple, pi_cover_list, cover_mk, ← List.map_take, ← List.map_drop, it_cube, sq_cube, uNeg1, ltNeg, key_nat, get_n, ix_dn, Option.map_some, cube_mk, bAdd, bAnd, bOr, bXor, bShr, uInv, bAndNot, aAdd, aOr, cEqN, cNeN, cEqS, cNeS, cEqC, cNeC, cEqB, cNeB, cLtN, cLeN, cGtN, cGeN, cIsN, cNsN, none_non, none_nat, none_cube, none_bl, none_str, none_tup, cIsB, cNsB, cInN, cEqNL, cNeNL, pr_sortL, cNiN, cInC, tr_bl, tr_non, tr_nat, tr_lst, tr_tup, ix_t0, ix_t1, ix_t2, ix_t3, ix_l0, ix_l1, ix_l2, ix_l3, ix_c0, ix_c1, pr_lenL, pr_lenT, pr_lenC, pr_lenD, pr_lenK, pr_tupL, pr_tupT, pr_lstL, pr_lstT, pr_lstC, pr_lstS, pr_intN, pr_intB, pr_sumN, pr_allB, pr_anyB, it_lst, it_tup, it_cov, sq_lst, sq_tup, sq_cov, fl_nat, fl_str, fl_bl, fl_non, fl_lst, fl_tup, fl_cube, fl_cover, fit0, fit1, fit2, fit3, fit4, end_none, end_nat, sl_lt, sl_lf, sl_tt, sl_tf, sl_ct, sl_cf, map_snoc, T_is_number, io_is_number, T_is_cube, io_is_cube, T_is_cover, io_is_cover, T_in_cube, io_in_cube, T_in_cover, io_in_cover, T_is_gate, io_is_gate, T_next_value, io_next_value, T_fights, io_fights, T_reads, io_reads, T__law_draws, io__law_draws, T__law_draw, io__law_draw, T__law_same, io__law_same, T__law_has, io__law_has, T__law_in, io__law_in, T__law_cube, io__law_cube, T__law_cover, io__law_cover, T__law_bits, io__law_bits, T__law_odd, io__law_odd, T__law_next, io__law_next, T__law_gate, io__law_gate, T__law_reads, io__law_reads, T__law_wrong, io__law_wrong, T_law, io_law, op_k_is_cover_0, rs_k_is_cover_0, op_k_in_cover_0, rs_k_in_cover_0, op_k__law_in_0, rs_k__law_in_0, op_k__law_cover_0, rs_k__law_cover_0, op_k__law_reads_2, rs_k__law_reads_2, hx, hy, hc]
      refine ⟨some (.sh (natD j)), ?_⟩
      rw [List.map_cons, forN_step, step, bindV, nextF_rt, List.all_cons, hb, Bool.false_and]
      rfl
theorem same_ok : ∀ (k N ka : Nat) (a b : D), a.ok ka = true → b.ok k = true → lensD b = true → k + 1 ≤ N →
    callF T m N 11 [.sh a, .sh b] = .ret false (.bl (sameD a b)) [.sh a, .sh b]
  | k, 0, _, _, _, _, _, _, h => by omega
  | k, n + 1, ka, a, b, ha, hb, hlen, hN => by
    have hst : ∀ x y : Str, PyData.strOk x = true → PyData.strOk y = true → cmpD .Eq (.str x) (.str y) = some (x == y) := fun x y hx hy => cEq hx hy
    have hin : ∀ x y : Int, cmpD .Eq (.int x) (.int y) = some (x == y) := fun x y => cEq rfl rfl
    have hbb : ∀ x y : Bool, cmpD .Eq (.bl x) (.bl y) = some (x == y) := fun x y => cEq rfl rfl
    have key : ∀ xs ys, (a = .tup xs ∧ b = .tup ys) ∨ (a = .lst xs ∧ b = .lst ys) → xs.length = ys.length → ∃ y, forN (turnF T (callF T m n) m (.nm 2) b__law_same_0) ((List.range ys.length).map natD) [some (.sh (a)), some (.sh (b)), none] = .val (if sameL xs ys = true then .nx else .rt false (.bl false)) [some (.sh (a)), some (.sh (b)), y] := fun xs ys hab hl => by
      obtain ⟨k', rfl, hys, hlys⟩ : ∃ k', k = k' + 1 ∧ D.ok.oks ys k' = true ∧ lensL ys = true := by
        rcases hab with ⟨_, e⟩ | ⟨_, e⟩ <;> rw [e] at hb hlen <;> cases k <;> simp [D.ok, lensD] at hb hlen
        · exact ⟨_, rfl, hb, hlen.2⟩
        · exact ⟨_, rfl, hb, hlen.2⟩
      obtain ⟨ka', hxs⟩ : ∃ ka', D.ok.oks xs ka' = true := by
        rcases hab with ⟨e, _⟩ | ⟨e, _⟩ <;> rw [e] at ha <;> cases ka <;> simp [D.ok] at ha
        · exact ⟨_, ha⟩
        · exact ⟨_, ha⟩
      obtain ⟨y, q⟩ := same_loop (m := m) (n := n) a b xs ys hl hab (fun j hj => same_ok k' n ka' _ _ (oks_get hxs (by omega)) (oks_get hys hj) (lens_get hlys hj) (by omega)) (List.range ys.length) none (fun j hj => List.mem_range.mp hj)
      rw [← sameL_all ys xs hl] at q
      exact ⟨y, q⟩
    have hr : ∀ ys : List D, (b = .tup ys ∨ b = .lst ys) → ∀ e, rngA (natD ys.length) e = .val ((List.range ys.length).map natD) e := fun ys hy e => rng_nat (by
      rcases hy with e | e <;> rw [e] at hlen <;> simp [lensD] at hlen <;> omega)
    rw [callF_body T__law_same rfl]
    cases b with
    | tup ys =>
      cases a with
      | tup xs =>
        by_cases hl : xs.length = ys.length
        · obtain ⟨y, q⟩ := key xs ys (.inl ⟨rfl, rfl⟩) hl
          have hr := hr ys (.inl rfl)
          cases hsl : sameL xs ys <;> rw [hsl] at q <;> simp -implicitDefEqProofs only [f__law_same, List.map_cons, List.map_nil, List.cons_append, List.nil_append, List.replicate, Nat.sub_self, Nat.reduceSub, end_rt, end_nx, end_ite, outsOf, forN_nil, bindV, bind_ite, opt_some, es_nil', es_cons', then_nx, then_bk, then_ct, then_rt, es1_asg', es1_setx', es1_aug', es1_par', es1_app', es1_ext', es1_ex', es1_ret', op_var, rs_var, op_cst, rs_cst, op_tup, rs_tup, op_lst, rs_lst, op_bin, rs_bin, op_un, rs_un, op_nt, rs_nt, op_cmp, rs_cmp, op_cmp2, rs_cmp2, op_and, rs_and, op_or, rs_or, op_ife, rs_ife, op_ix, rs_ix, op_sl, rs_sl, op_rev, rs_rev, op_call, rs_call, op_prim, rs_prim, op_comp, rs_comp, op_pop, rs_pop, op_dnew, rs_dnew, op_get, rs_get, es1_ret0', es1_ite', es1_brk', es1_cnt', es1_pass', es1_for', es1_wh', ev_var', ev_cst', ev_tup', ev_lst', ev_bin', ev_un', ev_nt', ev_cmp', ev_cmp2', ev_and', ev_or', ev_ife', ev_ix', ev_sl', ev_rev', ev_call', ev_prim', ev_pop', ev_dnew', ev_get', ev_sset', ev_lset', op_sset, op_lset, rs_sset, rs_lset, evs_nil', evs_cons', evx_no', evx_yes', evt_tru', evt_and', evt_or', evt_nt', evt_e', evi_seq', evi_rng', evi_rng2', evi_enum', getB, setB, pk, tk, pks, tks, B.dat, asg_nm, asg_tp, asg_cube, asgN, onOwn, stillB, backB, wipeB, turnF, turnX, turnC, ite_caA, ite_caO, ite_rA, ite_cp, ite_blT, ite_blF, ite_bT, ite_bF, ite_rF, ite_rT, ite_caF, ite_caT, doCall, callArgs, backIn, frzIn, okSlots, slotsOf, List.all_cons, List.all_nil, List.nodup_cons, List.nodup_nil, List.not_mem_nil, not_false_eq_true, and_self, decide_true, List.contains_nil, List.contains_cons, beq_true, beq_false, Bool.true_beq, Bool.false_beq, decide_false, if_true, if_false, Bool.false_eq_true, Bool.and_true, Bool.true_and, Bool.and_false, Bool.false_and, Bool.or_true, Bool.true_or, Bool.or_false, Bool.false_or, Bool.not_true, Bool.not_false, beq_self_eq_true, Bool.not_not, reduceIte, Nat.reduceBEq, Nat.reduceLT, Nat.reduceLeDiff, Nat.reduceAdd, Nat.reducePow, reduceCtorEq, BEq.rfl, List.length_cons, List.length_nil, List.length_map, List.map_cons, List.map_nil, String.reduceBEq, Option.some.injEq, pi_dct_int, pi_dct_bool, pi_dct_str, pi_dct_tuple, pi_dct_list, pi_tup_int, pi_tup_bool, pi_tup_str, pi_tup_tuple, pi_tup_list, pi_lst_int, pi_lst_bool, pi_lst_str, pi_lst_tuple, pi_lst_list, pi_int_int, pi_int_bool, pi_int_str, pi_int_tuple, pi_int_list, pi_bl_int, pi_bl_bool, pi_bl_str, pi_bl_tuple, pi_bl_list, pi_str_int, pi_str_bool, pi_str_str, pi_str_tuple, pi_str_list, pi_non_int, pi_non_bool, pi_non_str, pi_non_tuple, pi_non_list, pi_nat_int, pi_nat_bool, pi_nat_str, pi_nat_tuple, pi_nat_list, pi_strd_int, pi_strd_bool, pi_strd_str, pi_strd_tuple, pi_strd_list, pi_cube_int, pi_cube_bool, pi_cube_str, pi_cube_tuple, pi_cube_list, pi_cover_int, pi_cover_bool, pi_cover_str, pi_cover_tuple, pi_cover_list, cover_mk, ← List.map_take, ← List.map_drop, it_cube, sq_cube, uNeg1, ltNeg, key_nat, get_n, ix_dn, Option.map_some, cube_mk, bAdd, bAnd, bOr, bXor, bShr, uInv, bAndNot, aAdd, aOr, cEqN, cNeN, cEqS, cNeS, cEqC, cNeC, cEqB, cNeB, cLtN, cLeN, cGtN, cGeN, cIsN, cNsN, none_non, none_nat, none_cube, none_bl, none_str, none_tup, cIsB, cNsB, cInN, cEqNL, cNeNL, pr_sortL, cNiN, cInC, tr_bl, tr_non, tr_nat, tr_lst, tr_tup, ix_t0, ix_t1, ix_t2, ix_t3, ix_l0, ix_l1, ix_l2, ix_l3, ix_c0, ix_c1, pr_lenL, pr_lenT, pr_lenC, pr_lenD, pr_lenK, pr_tupL, pr_tupT, pr_lstL, pr_lstT, pr_lstC, pr_lstS, pr_intN, pr_intB, pr_sumN, pr_allB, pr_anyB, it_lst, it_tup, it_cov, sq_lst, sq_tup, sq_cov, fl_nat, fl_str, fl_bl, fl_non, fl_lst, fl_tup, fl_cube, fl_cover, fit0, fit1, fit2, fit3, fit4, end_none, end_nat, sl_lt, sl_lf, sl_tt, sl_tf, sl_ct, sl_cf, map_snoc, T_is_number, io_is_number, T_is_cube, io_is_cube, T_is_cover, io_is_cover, T_in_cube, io_in_cube, T_in_cover, io_in_cover, T_is_gate, io_is_gate, T_next_value, io_next_value, T_fights, io_fights, T_reads, io_reads, T__law_draws, io__law_draws, T__law_draw, io__law_draw, T__law_same, io__law_same, T__law_has, io__law_has, T__law_in, io__law_in, T__law_cube, io__law_cube, T__law_cover, io__law_cover, T__law_bits, io__law_bits, T__law_odd, io__law_odd, T__law_next, io__law_next, T__law_gate, io__law_gate, T__law_reads, io__law_reads, T__law_wrong, io__law_wrong, T_law, io_law, op_k_is_cover_0, rs_k_is_cover_0, op_k_in_cover_0, rs_k_in_cover_0, op_k__law_in_0, rs_k__law_in_0, op_k__law_cover_0, rs_k__law_cover_0, op_k__law_reads_2, rs_k__law_reads_2, sameD, hsl, hl, cNeN, hr, q, bne_self_eq_false]
        · have hne : (xs.length != ys.length) = true := by simpa using hl
          have hnn : cmpD .NotEq (.int (xs.length : Nat)) (.int (ys.length : Nat)) = some true := by
            have := cNeN xs.length ys.length; rw [hne] at this; exact this
          simp -implicitDefEqProofs only [f__law_same, List.map_cons, List.map_nil, List.cons_append, List.nil_append, List.replicate, Nat.sub_self, Nat.reduceSub, end_rt, end_nx, end_ite, outsOf, forN_nil, bindV, bind_ite, opt_some, es_nil', es_cons', then_nx, then_bk, then_ct, then_rt, es1_asg', es1_setx', es1_aug', es1_par', es1_app', es1_ext', es1_ex', es1_ret', op_var, rs_var, op_cst, rs_cst, op_tup, rs_tup, op_lst, rs_lst, op_bin, rs_bin, op_un, rs_un, op_nt, rs_nt, op_cmp, rs_cmp, op_cmp2, rs_cmp2, op_and, rs_and, op_or, rs_or, op_ife, rs_ife, op_ix, rs_ix, op_sl, rs_sl, op_rev, rs_rev, op_call, rs_call, op_prim, rs_prim, op_comp, rs_comp, op_pop, rs_pop, op_dnew, rs_dnew, op_get, rs_get, es1_ret0', es1_ite', es1_brk', es1_cnt', es1_pass', es1_for', es1_wh', ev_var', ev_cst', ev_tup', ev_lst', ev_bin', ev_un', ev_nt', ev_cmp', ev_cmp2', ev_and', ev_or', ev_ife', ev_ix', ev_sl', ev_rev', ev_call', ev_prim', ev_pop', ev_dnew', ev_get', ev_sset', ev_lset', op_sset, op_lset, rs_sset, rs_lset, evs_nil', evs_cons', evx_no', evx_yes', evt_tru', evt_and', evt_or', evt_nt', evt_e', evi_seq', evi_rng', evi_rng2', evi_enum', getB, setB, pk, tk, pks, tks, B.dat, asg_nm, asg_tp, asg_cube, asgN, onOwn, stillB, backB, wipeB, turnF, turnX, turnC, ite_caA, ite_caO, ite_rA, ite_cp, ite_blT, ite_blF, ite_bT, ite_bF, ite_rF, ite_rT, ite_caF, ite_caT, doCall, callArgs, backIn, frzIn, okSlots, slotsOf, List.all_cons, List.all_nil, List.nodup_cons, List.nodup_nil, List.not_mem_nil, not_false_eq_true, and_self, decide_true, List.contains_nil, List.contains_cons, beq_true, beq_false, Bool.true_beq, Bool.false_beq, decide_false, if_true, if_false, Bool.false_eq_true, Bool.and_true, Bool.true_and, Bool.and_false, Bool.false_and, Bool.or_true, Bool.true_or, Bool.or_false, Bool.false_or, Bool.not_true, Bool.not_false, beq_self_eq_true, Bool.not_not, reduceIte, Nat.reduceBEq, Nat.reduceLT, Nat.reduceLeDiff, Nat.reduceAdd, Nat.reducePow, reduceCtorEq, BEq.rfl, List.length_cons, List.length_nil, List.length_map, List.map_cons, List.map_nil, String.reduceBEq, Option.some.injEq, pi_dct_int, pi_dct_bool, pi_dct_str, pi_dct_tuple, pi_dct_list, pi_tup_int, pi_tup_bool, pi_tup_str, pi_tup_tuple, pi_tup_list, pi_lst_int, pi_lst_bool, pi_lst_str, pi_lst_tuple, pi_lst_list, pi_int_int, pi_int_bool, pi_int_str, pi_int_tuple, pi_int_list, pi_bl_int, pi_bl_bool, pi_bl_str, pi_bl_tuple, pi_bl_list, pi_str_int, pi_str_bool, pi_str_str, pi_str_tuple, pi_str_list, pi_non_int, pi_non_bool, pi_non_str, pi_non_tuple, pi_non_list, pi_nat_int, pi_nat_bool, pi_nat_str, pi_nat_tuple, pi_nat_list, pi_strd_int, pi_strd_bool, pi_strd_str, pi_strd_tuple, pi_strd_list, pi_cube_int, pi_cube_bool, pi_cube_str, pi_cube_tuple, pi_cube_list, pi_cover_int, pi_cover_bool, pi_cover_str, pi_cover_tuple, pi_cover_list, cover_mk, ← List.map_take, ← List.map_drop, it_cube, sq_cube, uNeg1, ltNeg, key_nat, get_n, ix_dn, Option.map_some, cube_mk, bAdd, bAnd, bOr, bXor, bShr, uInv, bAndNot, aAdd, aOr, cEqN, cNeN, cEqS, cNeS, cEqC, cNeC, cEqB, cNeB, cLtN, cLeN, cGtN, cGeN, cIsN, cNsN, none_non, none_nat, none_cube, none_bl, none_str, none_tup, cIsB, cNsB, cInN, cEqNL, cNeNL, pr_sortL, cNiN, cInC, tr_bl, tr_non, tr_nat, tr_lst, tr_tup, ix_t0, ix_t1, ix_t2, ix_t3, ix_l0, ix_l1, ix_l2, ix_l3, ix_c0, ix_c1, pr_lenL, pr_lenT, pr_lenC, pr_lenD, pr_lenK, pr_tupL, pr_tupT, pr_lstL, pr_lstT, pr_lstC, pr_lstS, pr_intN, pr_intB, pr_sumN, pr_allB, pr_anyB, it_lst, it_tup, it_cov, sq_lst, sq_tup, sq_cov, fl_nat, fl_str, fl_bl, fl_non, fl_lst, fl_tup, fl_cube, fl_cover, fit0, fit1, fit2, fit3, fit4, end_none, end_nat, sl_lt, sl_lf, sl_tt, sl_tf, sl_ct, sl_cf, map_snoc, T_is_number, io_is_number, T_is_cube, io_is_cube, T_is_cover, io_is_cover, T_in_cube, io_in_cube, T_in_cover, io_in_cover, T_is_gate, io_is_gate, T_next_value, io_next_value, T_fights, io_fights, T_reads, io_reads, T__law_draws, io__law_draws, T__law_draw, io__law_draw, T__law_same, io__law_same, T__law_has, io__law_has, T__law_in, io__law_in, T__law_cube, io__law_cube, T__law_cover, io__law_cover, T__law_bits, io__law_bits, T__law_odd, io__law_odd, T__law_next, io__law_next, T__law_gate, io__law_gate, T__law_reads, io__law_reads, T__law_wrong, io__law_wrong, T_law, io_law, op_k_is_cover_0, rs_k_is_cover_0, op_k_in_cover_0, rs_k_in_cover_0, op_k__law_in_0, rs_k__law_in_0, op_k__law_cover_0, rs_k__law_cover_0, op_k__law_reads_2, rs_k__law_reads_2, sameD, sameL_len ys xs hl, hnn, hne]
      | scr _ => simp [D.ok] at ha
      | dct _ => simp [D.ok] at ha
      | ty _ => simp [D.ok] at ha
      | _ => simp -implicitDefEqProofs only [f__law_same, List.map_cons, List.map_nil, List.cons_append, List.nil_append, List.replicate, Nat.sub_self, Nat.reduceSub, end_rt, end_nx, end_ite, outsOf, forN_nil, bindV, bind_ite, opt_some, es_nil', es_cons', then_nx, then_bk, then_ct, then_rt, es1_asg', es1_setx', es1_aug', es1_par', es1_app', es1_ext', es1_ex', es1_ret', op_var, rs_var, op_cst, rs_cst, op_tup, rs_tup, op_lst, rs_lst, op_bin, rs_bin, op_un, rs_un, op_nt, rs_nt, op_cmp, rs_cmp, op_cmp2, rs_cmp2, op_and, rs_and, op_or, rs_or, op_ife, rs_ife, op_ix, rs_ix, op_sl, rs_sl, op_rev, rs_rev, op_call, rs_call, op_prim, rs_prim, op_comp, rs_comp, op_pop, rs_pop, op_dnew, rs_dnew, op_get, rs_get, es1_ret0', es1_ite', es1_brk', es1_cnt', es1_pass', es1_for', es1_wh', ev_var', ev_cst', ev_tup', ev_lst', ev_bin', ev_un', ev_nt', ev_cmp', ev_cmp2', ev_and', ev_or', ev_ife', ev_ix', ev_sl', ev_rev', ev_call', ev_prim', ev_pop', ev_dnew', ev_get', ev_sset', ev_lset', op_sset, op_lset, rs_sset, rs_lset, evs_nil', evs_cons', evx_no', evx_yes', evt_tru', evt_and', evt_or', evt_nt', evt_e', evi_seq', evi_rng', evi_rng2', evi_enum', getB, setB, pk, tk, pks, tks, B.dat, asg_nm, asg_tp, asg_cube, asgN, onOwn, stillB, backB, wipeB, turnF, turnX, turnC, ite_caA, ite_caO, ite_rA, ite_cp, ite_blT, ite_blF, ite_bT, ite_bF, ite_rF, ite_rT, ite_caF, ite_caT, doCall, callArgs, backIn, frzIn, okSlots, slotsOf, List.all_cons, List.all_nil, List.nodup_cons, List.nodup_nil, List.not_mem_nil, not_false_eq_true, and_self, decide_true, List.contains_nil, List.contains_cons, beq_true, beq_false, Bool.true_beq, Bool.false_beq, decide_false, if_true, if_false, Bool.false_eq_true, Bool.and_true, Bool.true_and, Bool.and_false, Bool.false_and, Bool.or_true, Bool.true_or, Bool.or_false, Bool.false_or, Bool.not_true, Bool.not_false, beq_self_eq_true, Bool.not_not, reduceIte, Nat.reduceBEq, Nat.reduceLT, Nat.reduceLeDiff, Nat.reduceAdd, Nat.reducePow, reduceCtorEq, BEq.rfl, List.length_cons, List.length_nil, List.length_map, List.map_cons, List.map_nil, String.reduceBEq, Option.some.injEq, pi_dct_int, pi_dct_bool, pi_dct_str, pi_dct_tuple, pi_dct_list, pi_tup_int, pi_tup_bool, pi_tup_str, pi_tup_tuple, pi_tup_list, pi_lst_int, pi_lst_bool, pi_lst_str, pi_lst_tuple, pi_lst_list, pi_int_int, pi_int_bool, pi_int_str, pi_int_tuple, pi_int_list, pi_bl_int, pi_bl_bool, pi_bl_str, pi_bl_tuple, pi_bl_list, pi_str_int, pi_str_bool, pi_str_str, pi_str_tuple, pi_str_list, pi_non_int, pi_non_bool, pi_non_str, pi_non_tuple, pi_non_list, pi_nat_int, pi_nat_bool, pi_nat_str, pi_nat_tuple, pi_nat_list, pi_strd_int, pi_strd_bool, pi_strd_str, pi_strd_tuple, pi_strd_list, pi_cube_int, pi_cube_bool, pi_cube_str, pi_cube_tuple, pi_cube_list, pi_cover_int, pi_cover_bool, pi_cover_str, pi_cover_tuple, pi_cover_list, cover_mk, ← List.map_take, ← List.map_drop, it_cube, sq_cube, uNeg1, ltNeg, key_nat, get_n, ix_dn, Option.map_some, cube_mk, bAdd, bAnd, bOr, bXor, bShr, uInv, bAndNot, aAdd, aOr, cEqN, cNeN, cEqS, cNeS, cEqC, cNeC, cEqB, cNeB, cLtN, cLeN, cGtN, cGeN, cIsN, cNsN, none_non, none_nat, none_cube, none_bl, none_str, none_tup, cIsB, cNsB, cInN, cEqNL, cNeNL, pr_sortL, cNiN, cInC, tr_bl, tr_non, tr_nat, tr_lst, tr_tup, ix_t0, ix_t1, ix_t2, ix_t3, ix_l0, ix_l1, ix_l2, ix_l3, ix_c0, ix_c1, pr_lenL, pr_lenT, pr_lenC, pr_lenD, pr_lenK, pr_tupL, pr_tupT, pr_lstL, pr_lstT, pr_lstC, pr_lstS, pr_intN, pr_intB, pr_sumN, pr_allB, pr_anyB, it_lst, it_tup, it_cov, sq_lst, sq_tup, sq_cov, fl_nat, fl_str, fl_bl, fl_non, fl_lst, fl_tup, fl_cube, fl_cover, fit0, fit1, fit2, fit3, fit4, end_none, end_nat, sl_lt, sl_lf, sl_tt, sl_tf, sl_ct, sl_cf, map_snoc, T_is_number, io_is_number, T_is_cube, io_is_cube, T_is_cover, io_is_cover, T_in_cube, io_in_cube, T_in_cover, io_in_cover, T_is_gate, io_is_gate, T_next_value, io_next_value, T_fights, io_fights, T_reads, io_reads, T__law_draws, io__law_draws, T__law_draw, io__law_draw, T__law_same, io__law_same, T__law_has, io__law_has, T__law_in, io__law_in, T__law_cube, io__law_cube, T__law_cover, io__law_cover, T__law_bits, io__law_bits, T__law_odd, io__law_odd, T__law_next, io__law_next, T__law_gate, io__law_gate, T__law_reads, io__law_reads, T__law_wrong, io__law_wrong, T_law, io_law, op_k_is_cover_0, rs_k_is_cover_0, op_k_in_cover_0, rs_k_in_cover_0, op_k__law_in_0, rs_k__law_in_0, op_k__law_cover_0, rs_k__law_cover_0, op_k__law_reads_2, rs_k__law_reads_2, sameD]
    | lst ys =>
      cases a with
      | lst xs =>
        by_cases hl : xs.length = ys.length
        · obtain ⟨y, q⟩ := key xs ys (.inr ⟨rfl, rfl⟩) hl
          have hr := hr ys (.inr rfl)
          cases hsl : sameL xs ys <;> rw [hsl] at q <;> simp -implicitDefEqProofs only [f__law_same, List.map_cons, List.map_nil, List.cons_append, List.nil_append, List.replicate, Nat.sub_self, Nat.reduceSub, end_rt, end_nx, end_ite, outsOf, forN_nil, bindV, bind_ite, opt_some, es_nil', es_cons', then_nx, then_bk, then_ct, then_rt, es1_asg', es1_setx', es1_aug', es1_par', es1_app', es1_ext', es1_ex', es1_ret', op_var, rs_var, op_cst, rs_cst, op_tup, rs_tup, op_lst, rs_lst, op_bin, rs_bin, op_un, rs_un, op_nt, rs_nt, op_cmp, rs_cmp, op_cmp2, rs_cmp2, op_and, rs_and, op_or, rs_or, op_ife, rs_ife, op_ix, rs_ix, op_sl, rs_sl, op_rev, rs_rev, op_call, rs_call, op_prim, rs_prim, op_comp, rs_comp, op_pop, rs_pop, op_dnew, rs_dnew, op_get, rs_get, es1_ret0', es1_ite', es1_brk', es1_cnt', es1_pass', es1_for', es1_wh', ev_var', ev_cst', ev_tup', ev_lst', ev_bin', ev_un', ev_nt', ev_cmp', ev_cmp2', ev_and', ev_or', ev_ife', ev_ix', ev_sl', ev_rev', ev_call', ev_prim', ev_pop', ev_dnew', ev_get', ev_sset', ev_lset', op_sset, op_lset, rs_sset, rs_lset, evs_nil', evs_cons', evx_no', evx_yes', evt_tru', evt_and', evt_or', evt_nt', evt_e', evi_seq', evi_rng', evi_rng2', evi_enum', getB, setB, pk, tk, pks, tks, B.dat, asg_nm, asg_tp, asg_cube, asgN, onOwn, stillB, backB, wipeB, turnF, turnX, turnC, ite_caA, ite_caO, ite_rA, ite_cp, ite_blT, ite_blF, ite_bT, ite_bF, ite_rF, ite_rT, ite_caF, ite_caT, doCall, callArgs, backIn, frzIn, okSlots, slotsOf, List.all_cons, List.all_nil, List.nodup_cons, List.nodup_nil, List.not_mem_nil, not_false_eq_true, and_self, decide_true, List.contains_nil, List.contains_cons, beq_true, beq_false, Bool.true_beq, Bool.false_beq, decide_false, if_true, if_false, Bool.false_eq_true, Bool.and_true, Bool.true_and, Bool.and_false, Bool.false_and, Bool.or_true, Bool.true_or, Bool.or_false, Bool.false_or, Bool.not_true, Bool.not_false, beq_self_eq_true, Bool.not_not, reduceIte, Nat.reduceBEq, Nat.reduceLT, Nat.reduceLeDiff, Nat.reduceAdd, Nat.reducePow, reduceCtorEq, BEq.rfl, List.length_cons, List.length_nil, List.length_map, List.map_cons, List.map_nil, String.reduceBEq, Option.some.injEq, pi_dct_int, pi_dct_bool, pi_dct_str, pi_dct_tuple, pi_dct_list, pi_tup_int, pi_tup_bool, pi_tup_str, pi_tup_tuple, pi_tup_list, pi_lst_int, pi_lst_bool, pi_lst_str, pi_lst_tuple, pi_lst_list, pi_int_int, pi_int_bool, pi_int_str, pi_int_tuple, pi_int_list, pi_bl_int, pi_bl_bool, pi_bl_str, pi_bl_tuple, pi_bl_list, pi_str_int, pi_str_bool, pi_str_str, pi_str_tuple, pi_str_list, pi_non_int, pi_non_bool, pi_non_str, pi_non_tuple, pi_non_list, pi_nat_int, pi_nat_bool, pi_nat_str, pi_nat_tuple, pi_nat_list, pi_strd_int, pi_strd_bool, pi_strd_str, pi_strd_tuple, pi_strd_list, pi_cube_int, pi_cube_bool, pi_cube_str, pi_cube_tuple, pi_cube_list, pi_cover_int, pi_cover_bool, pi_cover_str, pi_cover_tuple, pi_cover_list, cover_mk, ← List.map_take, ← List.map_drop, it_cube, sq_cube, uNeg1, ltNeg, key_nat, get_n, ix_dn, Option.map_some, cube_mk, bAdd, bAnd, bOr, bXor, bShr, uInv, bAndNot, aAdd, aOr, cEqN, cNeN, cEqS, cNeS, cEqC, cNeC, cEqB, cNeB, cLtN, cLeN, cGtN, cGeN, cIsN, cNsN, none_non, none_nat, none_cube, none_bl, none_str, none_tup, cIsB, cNsB, cInN, cEqNL, cNeNL, pr_sortL, cNiN, cInC, tr_bl, tr_non, tr_nat, tr_lst, tr_tup, ix_t0, ix_t1, ix_t2, ix_t3, ix_l0, ix_l1, ix_l2, ix_l3, ix_c0, ix_c1, pr_lenL, pr_lenT, pr_lenC, pr_lenD, pr_lenK, pr_tupL, pr_tupT, pr_lstL, pr_lstT, pr_lstC, pr_lstS, pr_intN, pr_intB, pr_sumN, pr_allB, pr_anyB, it_lst, it_tup, it_cov, sq_lst, sq_tup, sq_cov, fl_nat, fl_str, fl_bl, fl_non, fl_lst, fl_tup, fl_cube, fl_cover, fit0, fit1, fit2, fit3, fit4, end_none, end_nat, sl_lt, sl_lf, sl_tt, sl_tf, sl_ct, sl_cf, map_snoc, T_is_number, io_is_number, T_is_cube, io_is_cube, T_is_cover, io_is_cover, T_in_cube, io_in_cube, T_in_cover, io_in_cover, T_is_gate, io_is_gate, T_next_value, io_next_value, T_fights, io_fights, T_reads, io_reads, T__law_draws, io__law_draws, T__law_draw, io__law_draw, T__law_same, io__law_same, T__law_has, io__law_has, T__law_in, io__law_in, T__law_cube, io__law_cube, T__law_cover, io__law_cover, T__law_bits, io__law_bits, T__law_odd, io__law_odd, T__law_next, io__law_next, T__law_gate, io__law_gate, T__law_reads, io__law_reads, T__law_wrong, io__law_wrong, T_law, io_law, op_k_is_cover_0, rs_k_is_cover_0, op_k_in_cover_0, rs_k_in_cover_0, op_k__law_in_0, rs_k__law_in_0, op_k__law_cover_0, rs_k__law_cover_0, op_k__law_reads_2, rs_k__law_reads_2, sameD, hsl, hl, cNeN, hr, q, bne_self_eq_false]
        · have hne : (xs.length != ys.length) = true := by simpa using hl
          have hnn : cmpD .NotEq (.int (xs.length : Nat)) (.int (ys.length : Nat)) = some true := by
            have := cNeN xs.length ys.length; rw [hne] at this; exact this
          simp -implicitDefEqProofs only [f__law_same, List.map_cons, List.map_nil, List.cons_append, List.nil_append, List.replicate, Nat.sub_self, Nat.reduceSub, end_rt, end_nx, end_ite, outsOf, forN_nil, bindV, bind_ite, opt_some, es_nil', es_cons', then_nx, then_bk, then_ct, then_rt, es1_asg', es1_setx', es1_aug', es1_par', es1_app', es1_ext', es1_ex', es1_ret', op_var, rs_var, op_cst, rs_cst, op_tup, rs_tup, op_lst, rs_lst, op_bin, rs_bin, op_un, rs_un, op_nt, rs_nt, op_cmp, rs_cmp, op_cmp2, rs_cmp2, op_and, rs_and, op_or, rs_or, op_ife, rs_ife, op_ix, rs_ix, op_sl, rs_sl, op_rev, rs_rev, op_call, rs_call, op_prim, rs_prim, op_comp, rs_comp, op_pop, rs_pop, op_dnew, rs_dnew, op_get, rs_get, es1_ret0', es1_ite', es1_brk', es1_cnt', es1_pass', es1_for', es1_wh', ev_var', ev_cst', ev_tup', ev_lst', ev_bin', ev_un', ev_nt', ev_cmp', ev_cmp2', ev_and', ev_or', ev_ife', ev_ix', ev_sl', ev_rev', ev_call', ev_prim', ev_pop', ev_dnew', ev_get', ev_sset', ev_lset', op_sset, op_lset, rs_sset, rs_lset, evs_nil', evs_cons', evx_no', evx_yes', evt_tru', evt_and', evt_or', evt_nt', evt_e', evi_seq', evi_rng', evi_rng2', evi_enum', getB, setB, pk, tk, pks, tks, B.dat, asg_nm, asg_tp, asg_cube, asgN, onOwn, stillB, backB, wipeB, turnF, turnX, turnC, ite_caA, ite_caO, ite_rA, ite_cp, ite_blT, ite_blF, ite_bT, ite_bF, ite_rF, ite_rT, ite_caF, ite_caT, doCall, callArgs, backIn, frzIn, okSlots, slotsOf, List.all_cons, List.all_nil, List.nodup_cons, List.nodup_nil, List.not_mem_nil, not_false_eq_true, and_self, decide_true, List.contains_nil, List.contains_cons, beq_true, beq_false, Bool.true_beq, Bool.false_beq, decide_false, if_true, if_false, Bool.false_eq_true, Bool.and_true, Bool.true_and, Bool.and_false, Bool.false_and, Bool.or_true, Bool.true_or, Bool.or_false, Bool.false_or, Bool.not_true, Bool.not_false, beq_self_eq_true, Bool.not_not, reduceIte, Nat.reduceBEq, Nat.reduceLT, Nat.reduceLeDiff, Nat.reduceAdd, Nat.reducePow, reduceCtorEq, BEq.rfl, List.length_cons, List.length_nil, List.length_map, List.map_cons, List.map_nil, String.reduceBEq, Option.some.injEq, pi_dct_int, pi_dct_bool, pi_dct_str, pi_dct_tuple, pi_dct_list, pi_tup_int, pi_tup_bool, pi_tup_str, pi_tup_tuple, pi_tup_list, pi_lst_int, pi_lst_bool, pi_lst_str, pi_lst_tuple, pi_lst_list, pi_int_int, pi_int_bool, pi_int_str, pi_int_tuple, pi_int_list, pi_bl_int, pi_bl_bool, pi_bl_str, pi_bl_tuple, pi_bl_list, pi_str_int, pi_str_bool, pi_str_str, pi_str_tuple, pi_str_list, pi_non_int, pi_non_bool, pi_non_str, pi_non_tuple, pi_non_list, pi_nat_int, pi_nat_bool, pi_nat_str, pi_nat_tuple, pi_nat_list, pi_strd_int, pi_strd_bool, pi_strd_str, pi_strd_tuple, pi_strd_list, pi_cube_int, pi_cube_bool, pi_cube_str, pi_cube_tuple, pi_cube_list, pi_cover_int, pi_cover_bool, pi_cover_str, pi_cover_tuple, pi_cover_list, cover_mk, ← List.map_take, ← List.map_drop, it_cube, sq_cube, uNeg1, ltNeg, key_nat, get_n, ix_dn, Option.map_some, cube_mk, bAdd, bAnd, bOr, bXor, bShr, uInv, bAndNot, aAdd, aOr, cEqN, cNeN, cEqS, cNeS, cEqC, cNeC, cEqB, cNeB, cLtN, cLeN, cGtN, cGeN, cIsN, cNsN, none_non, none_nat, none_cube, none_bl, none_str, none_tup, cIsB, cNsB, cInN, cEqNL, cNeNL, pr_sortL, cNiN, cInC, tr_bl, tr_non, tr_nat, tr_lst, tr_tup, ix_t0, ix_t1, ix_t2, ix_t3, ix_l0, ix_l1, ix_l2, ix_l3, ix_c0, ix_c1, pr_lenL, pr_lenT, pr_lenC, pr_lenD, pr_lenK, pr_tupL, pr_tupT, pr_lstL, pr_lstT, pr_lstC, pr_lstS, pr_intN, pr_intB, pr_sumN, pr_allB, pr_anyB, it_lst, it_tup, it_cov, sq_lst, sq_tup, sq_cov, fl_nat, fl_str, fl_bl, fl_non, fl_lst, fl_tup, fl_cube, fl_cover, fit0, fit1, fit2, fit3, fit4, end_none, end_nat, sl_lt, sl_lf, sl_tt, sl_tf, sl_ct, sl_cf, map_snoc, T_is_number, io_is_number, T_is_cube, io_is_cube, T_is_cover, io_is_cover, T_in_cube, io_in_cube, T_in_cover, io_in_cover, T_is_gate, io_is_gate, T_next_value, io_next_value, T_fights, io_fights, T_reads, io_reads, T__law_draws, io__law_draws, T__law_draw, io__law_draw, T__law_same, io__law_same, T__law_has, io__law_has, T__law_in, io__law_in, T__law_cube, io__law_cube, T__law_cover, io__law_cover, T__law_bits, io__law_bits, T__law_odd, io__law_odd, T__law_next, io__law_next, T__law_gate, io__law_gate, T__law_reads, io__law_reads, T__law_wrong, io__law_wrong, T_law, io_law, op_k_is_cover_0, rs_k_is_cover_0, op_k_in_cover_0, rs_k_in_cover_0, op_k__law_in_0, rs_k__law_in_0, op_k__law_cover_0, rs_k__law_cover_0, op_k__law_reads_2, rs_k__law_reads_2, sameD, sameL_len ys xs hl, hnn, hne]
      | scr _ => simp [D.ok] at ha
      | dct _ => simp [D.ok] at ha
      | ty _ => simp [D.ok] at ha
      | _ => simp -implicitDefEqProofs only [f__law_same, List.map_cons, List.map_nil, List.cons_append, List.nil_append, List.replicate, Nat.sub_self, Nat.reduceSub, end_rt, end_nx, end_ite, outsOf, forN_nil, bindV, bind_ite, opt_some, es_nil', es_cons', then_nx, then_bk, then_ct, then_rt, es1_asg', es1_setx', es1_aug', es1_par', es1_app', es1_ext', es1_ex', es1_ret', op_var, rs_var, op_cst, rs_cst, op_tup, rs_tup, op_lst, rs_lst, op_bin, rs_bin, op_un, rs_un, op_nt, rs_nt, op_cmp, rs_cmp, op_cmp2, rs_cmp2, op_and, rs_and, op_or, rs_or, op_ife, rs_ife, op_ix, rs_ix, op_sl, rs_sl, op_rev, rs_rev, op_call, rs_call, op_prim, rs_prim, op_comp, rs_comp, op_pop, rs_pop, op_dnew, rs_dnew, op_get, rs_get, es1_ret0', es1_ite', es1_brk', es1_cnt', es1_pass', es1_for', es1_wh', ev_var', ev_cst', ev_tup', ev_lst', ev_bin', ev_un', ev_nt', ev_cmp', ev_cmp2', ev_and', ev_or', ev_ife', ev_ix', ev_sl', ev_rev', ev_call', ev_prim', ev_pop', ev_dnew', ev_get', ev_sset', ev_lset', op_sset, op_lset, rs_sset, rs_lset, evs_nil', evs_cons', evx_no', evx_yes', evt_tru', evt_and', evt_or', evt_nt', evt_e', evi_seq', evi_rng', evi_rng2', evi_enum', getB, setB, pk, tk, pks, tks, B.dat, asg_nm, asg_tp, asg_cube, asgN, onOwn, stillB, backB, wipeB, turnF, turnX, turnC, ite_caA, ite_caO, ite_rA, ite_cp, ite_blT, ite_blF, ite_bT, ite_bF, ite_rF, ite_rT, ite_caF, ite_caT, doCall, callArgs, backIn, frzIn, okSlots, slotsOf, List.all_cons, List.all_nil, List.nodup_cons, List.nodup_nil, List.not_mem_nil, not_false_eq_true, and_self, decide_true, List.contains_nil, List.contains_cons, beq_true, beq_false, Bool.true_beq, Bool.false_beq, decide_false, if_true, if_false, Bool.false_eq_true, Bool.and_true, Bool.true_and, Bool.and_false, Bool.false_and, Bool.or_true, Bool.true_or, Bool.or_false, Bool.false_or, Bool.not_true, Bool.not_false, beq_self_eq_true, Bool.not_not, reduceIte, Nat.reduceBEq, Nat.reduceLT, Nat.reduceLeDiff, Nat.reduceAdd, Nat.reducePow, reduceCtorEq, BEq.rfl, List.length_cons, List.length_nil, List.length_map, List.map_cons, List.map_nil, String.reduceBEq, Option.some.injEq, pi_dct_int, pi_dct_bool, pi_dct_str, pi_dct_tuple, pi_dct_list, pi_tup_int, pi_tup_bool, pi_tup_str, pi_tup_tuple, pi_tup_list, pi_lst_int, pi_lst_bool, pi_lst_str, pi_lst_tuple, pi_lst_list, pi_int_int, pi_int_bool, pi_int_str, pi_int_tuple, pi_int_list, pi_bl_int, pi_bl_bool, pi_bl_str, pi_bl_tuple, pi_bl_list, pi_str_int, pi_str_bool, pi_str_str, pi_str_tuple, pi_str_list, pi_non_int, pi_non_bool, pi_non_str, pi_non_tuple, pi_non_list, pi_nat_int, pi_nat_bool, pi_nat_str, pi_nat_tuple, pi_nat_list, pi_strd_int, pi_strd_bool, pi_strd_str, pi_strd_tuple, pi_strd_list, pi_cube_int, pi_cube_bool, pi_cube_str, pi_cube_tuple, pi_cube_list, pi_cover_int, pi_cover_bool, pi_cover_str, pi_cover_tuple, pi_cover_list, cover_mk, ← List.map_take, ← List.map_drop, it_cube, sq_cube, uNeg1, ltNeg, key_nat, get_n, ix_dn, Option.map_some, cube_mk, bAdd, bAnd, bOr, bXor, bShr, uInv, bAndNot, aAdd, aOr, cEqN, cNeN, cEqS, cNeS, cEqC, cNeC, cEqB, cNeB, cLtN, cLeN, cGtN, cGeN, cIsN, cNsN, none_non, none_nat, none_cube, none_bl, none_str, none_tup, cIsB, cNsB, cInN, cEqNL, cNeNL, pr_sortL, cNiN, cInC, tr_bl, tr_non, tr_nat, tr_lst, tr_tup, ix_t0, ix_t1, ix_t2, ix_t3, ix_l0, ix_l1, ix_l2, ix_l3, ix_c0, ix_c1, pr_lenL, pr_lenT, pr_lenC, pr_lenD, pr_lenK, pr_tupL, pr_tupT, pr_lstL, pr_lstT, pr_lstC, pr_lstS, pr_intN, pr_intB, pr_sumN, pr_allB, pr_anyB, it_lst, it_tup, it_cov, sq_lst, sq_tup, sq_cov, fl_nat, fl_str, fl_bl, fl_non, fl_lst, fl_tup, fl_cube, fl_cover, fit0, fit1, fit2, fit3, fit4, end_none, end_nat, sl_lt, sl_lf, sl_tt, sl_tf, sl_ct, sl_cf, map_snoc, T_is_number, io_is_number, T_is_cube, io_is_cube, T_is_cover, io_is_cover, T_in_cube, io_in_cube, T_in_cover, io_in_cover, T_is_gate, io_is_gate, T_next_value, io_next_value, T_fights, io_fights, T_reads, io_reads, T__law_draws, io__law_draws, T__law_draw, io__law_draw, T__law_same, io__law_same, T__law_has, io__law_has, T__law_in, io__law_in, T__law_cube, io__law_cube, T__law_cover, io__law_cover, T__law_bits, io__law_bits, T__law_odd, io__law_odd, T__law_next, io__law_next, T__law_gate, io__law_gate, T__law_reads, io__law_reads, T__law_wrong, io__law_wrong, T_law, io_law, op_k_is_cover_0, rs_k_is_cover_0, op_k_in_cover_0, rs_k_in_cover_0, op_k__law_in_0, rs_k__law_in_0, op_k__law_cover_0, rs_k__law_cover_0, op_k__law_reads_2, rs_k__law_reads_2, sameD]
    | scr _ => simp [D.ok] at hb
    | dct _ => simp [D.ok] at hb
    | ty _ => simp [D.ok] at hb
    | str y =>
      cases a with
      | str x => simp -implicitDefEqProofs only [f__law_same, List.map_cons, List.map_nil, List.cons_append, List.nil_append, List.replicate, Nat.sub_self, Nat.reduceSub, end_rt, end_nx, end_ite, outsOf, forN_nil, bindV, bind_ite, opt_some, es_nil', es_cons', then_nx, then_bk, then_ct, then_rt, es1_asg', es1_setx', es1_aug', es1_par', es1_app', es1_ext', es1_ex', es1_ret', op_var, rs_var, op_cst, rs_cst, op_tup, rs_tup, op_lst, rs_lst, op_bin, rs_bin, op_un, rs_un, op_nt, rs_nt, op_cmp, rs_cmp, op_cmp2, rs_cmp2, op_and, rs_and, op_or, rs_or, op_ife, rs_ife, op_ix, rs_ix, op_sl, rs_sl, op_rev, rs_rev, op_call, rs_call, op_prim, rs_prim, op_comp, rs_comp, op_pop, rs_pop, op_dnew, rs_dnew, op_get, rs_get, es1_ret0', es1_ite', es1_brk', es1_cnt', es1_pass', es1_for', es1_wh', ev_var', ev_cst', ev_tup', ev_lst', ev_bin', ev_un', ev_nt', ev_cmp', ev_cmp2', ev_and', ev_or', ev_ife', ev_ix', ev_sl', ev_rev', ev_call', ev_prim', ev_pop', ev_dnew', ev_get', ev_sset', ev_lset', op_sset, op_lset, rs_sset, rs_lset, evs_nil', evs_cons', evx_no', evx_yes', evt_tru', evt_and', evt_or', evt_nt', evt_e', evi_seq', evi_rng', evi_rng2', evi_enum', getB, setB, pk, tk, pks, tks, B.dat, asg_nm, asg_tp, asg_cube, asgN, onOwn, stillB, backB, wipeB, turnF, turnX, turnC, ite_caA, ite_caO, ite_rA, ite_cp, ite_blT, ite_blF, ite_bT, ite_bF, ite_rF, ite_rT, ite_caF, ite_caT, doCall, callArgs, backIn, frzIn, okSlots, slotsOf, List.all_cons, List.all_nil, List.nodup_cons, List.nodup_nil, List.not_mem_nil, not_false_eq_true, and_self, decide_true, List.contains_nil, List.contains_cons, beq_true, beq_false, Bool.true_beq, Bool.false_beq, decide_false, if_true, if_false, Bool.false_eq_true, Bool.and_true, Bool.true_and, Bool.and_false, Bool.false_and, Bool.or_true, Bool.true_or, Bool.or_false, Bool.false_or, Bool.not_true, Bool.not_false, beq_self_eq_true, Bool.not_not, reduceIte, Nat.reduceBEq, Nat.reduceLT, Nat.reduceLeDiff, Nat.reduceAdd, Nat.reducePow, reduceCtorEq, BEq.rfl, List.length_cons, List.length_nil, List.length_map, List.map_cons, List.map_nil, String.reduceBEq, Option.some.injEq, pi_dct_int, pi_dct_bool, pi_dct_str, pi_dct_tuple, pi_dct_list, pi_tup_int, pi_tup_bool, pi_tup_str, pi_tup_tuple, pi_tup_list, pi_lst_int, pi_lst_bool, pi_lst_str, pi_lst_tuple, pi_lst_list, pi_int_int, pi_int_bool, pi_int_str, pi_int_tuple, pi_int_list, pi_bl_int, pi_bl_bool, pi_bl_str, pi_bl_tuple, pi_bl_list, pi_str_int, pi_str_bool, pi_str_str, pi_str_tuple, pi_str_list, pi_non_int, pi_non_bool, pi_non_str, pi_non_tuple, pi_non_list, pi_nat_int, pi_nat_bool, pi_nat_str, pi_nat_tuple, pi_nat_list, pi_strd_int, pi_strd_bool, pi_strd_str, pi_strd_tuple, pi_strd_list, pi_cube_int, pi_cube_bool, pi_cube_str, pi_cube_tuple, pi_cube_list, pi_cover_int, pi_cover_bool, pi_cover_str, pi_cover_tuple, pi_cover_list, cover_mk, ← List.map_take, ← List.map_drop, it_cube, sq_cube, uNeg1, ltNeg, key_nat, get_n, ix_dn, Option.map_some, cube_mk, bAdd, bAnd, bOr, bXor, bShr, uInv, bAndNot, aAdd, aOr, cEqN, cNeN, cEqS, cNeS, cEqC, cNeC, cEqB, cNeB, cLtN, cLeN, cGtN, cGeN, cIsN, cNsN, none_non, none_nat, none_cube, none_bl, none_str, none_tup, cIsB, cNsB, cInN, cEqNL, cNeNL, pr_sortL, cNiN, cInC, tr_bl, tr_non, tr_nat, tr_lst, tr_tup, ix_t0, ix_t1, ix_t2, ix_t3, ix_l0, ix_l1, ix_l2, ix_l3, ix_c0, ix_c1, pr_lenL, pr_lenT, pr_lenC, pr_lenD, pr_lenK, pr_tupL, pr_tupT, pr_lstL, pr_lstT, pr_lstC, pr_lstS, pr_intN, pr_intB, pr_sumN, pr_allB, pr_anyB, it_lst, it_tup, it_cov, sq_lst, sq_tup, sq_cov, fl_nat, fl_str, fl_bl, fl_non, fl_lst, fl_tup, fl_cube, fl_cover, fit0, fit1, fit2, fit3, fit4, end_none, end_nat, sl_lt, sl_lf, sl_tt, sl_tf, sl_ct, sl_cf, map_snoc, T_is_number, io_is_number, T_is_cube, io_is_cube, T_is_cover, io_is_cover, T_in_cube, io_in_cube, T_in_cover, io_in_cover, T_is_gate, io_is_gate, T_next_value, io_next_value, T_fights, io_fights, T_reads, io_reads, T__law_draws, io__law_draws, T__law_draw, io__law_draw, T__law_same, io__law_same, T__law_has, io__law_has, T__law_in, io__law_in, T__law_cube, io__law_cube, T__law_cover, io__law_cover, T__law_bits, io__law_bits, T__law_odd, io__law_odd, T__law_next, io__law_next, T__law_gate, io__law_gate, T__law_reads, io__law_reads, T__law_wrong, io__law_wrong, T_law, io_law, op_k_is_cover_0, rs_k_is_cover_0, op_k_in_cover_0, rs_k_in_cover_0, op_k__law_in_0, rs_k__law_in_0, op_k__law_cover_0, rs_k__law_cover_0, op_k__law_reads_2, rs_k__law_reads_2, sameD, hst x y (by simpa [D.ok] using ha) (by simpa [D.ok] using hb)]
      | scr _ => simp [D.ok] at ha
      | dct _ => simp [D.ok] at ha
      | ty _ => simp [D.ok] at ha
      | _ => simp -implicitDefEqProofs only [f__law_same, List.map_cons, List.map_nil, List.cons_append, List.nil_append, List.replicate, Nat.sub_self, Nat.reduceSub, end_rt, end_nx, end_ite, outsOf, forN_nil, bindV, bind_ite, opt_some, es_nil', es_cons', then_nx, then_bk, then_ct, then_rt, es1_asg', es1_setx', es1_aug', es1_par', es1_app', es1_ext', es1_ex', es1_ret', op_var, rs_var, op_cst, rs_cst, op_tup, rs_tup, op_lst, rs_lst, op_bin, rs_bin, op_un, rs_un, op_nt, rs_nt, op_cmp, rs_cmp, op_cmp2, rs_cmp2, op_and, rs_and, op_or, rs_or, op_ife, rs_ife, op_ix, rs_ix, op_sl, rs_sl, op_rev, rs_rev, op_call, rs_call, op_prim, rs_prim, op_comp, rs_comp, op_pop, rs_pop, op_dnew, rs_dnew, op_get, rs_get, es1_ret0', es1_ite', es1_brk', es1_cnt', es1_pass', es1_for', es1_wh', ev_var', ev_cst', ev_tup', ev_lst', ev_bin', ev_un', ev_nt', ev_cmp', ev_cmp2', ev_and', ev_or', ev_ife', ev_ix', ev_sl', ev_rev', ev_call', ev_prim', ev_pop', ev_dnew', ev_get', ev_sset', ev_lset', op_sset, op_lset, rs_sset, rs_lset, evs_nil', evs_cons', evx_no', evx_yes', evt_tru', evt_and', evt_or', evt_nt', evt_e', evi_seq', evi_rng', evi_rng2', evi_enum', getB, setB, pk, tk, pks, tks, B.dat, asg_nm, asg_tp, asg_cube, asgN, onOwn, stillB, backB, wipeB, turnF, turnX, turnC, ite_caA, ite_caO, ite_rA, ite_cp, ite_blT, ite_blF, ite_bT, ite_bF, ite_rF, ite_rT, ite_caF, ite_caT, doCall, callArgs, backIn, frzIn, okSlots, slotsOf, List.all_cons, List.all_nil, List.nodup_cons, List.nodup_nil, List.not_mem_nil, not_false_eq_true, and_self, decide_true, List.contains_nil, List.contains_cons, beq_true, beq_false, Bool.true_beq, Bool.false_beq, decide_false, if_true, if_false, Bool.false_eq_true, Bool.and_true, Bool.true_and, Bool.and_false, Bool.false_and, Bool.or_true, Bool.true_or, Bool.or_false, Bool.false_or, Bool.not_true, Bool.not_false, beq_self_eq_true, Bool.not_not, reduceIte, Nat.reduceBEq, Nat.reduceLT, Nat.reduceLeDiff, Nat.reduceAdd, Nat.reducePow, reduceCtorEq, BEq.rfl, List.length_cons, List.length_nil, List.length_map, List.map_cons, List.map_nil, String.reduceBEq, Option.some.injEq, pi_dct_int, pi_dct_bool, pi_dct_str, pi_dct_tuple, pi_dct_list, pi_tup_int, pi_tup_bool, pi_tup_str, pi_tup_tuple, pi_tup_list, pi_lst_int, pi_lst_bool, pi_lst_str, pi_lst_tuple, pi_lst_list, pi_int_int, pi_int_bool, pi_int_str, pi_int_tuple, pi_int_list, pi_bl_int, pi_bl_bool, pi_bl_str, pi_bl_tuple, pi_bl_list, pi_str_int, pi_str_bool, pi_str_str, pi_str_tuple, pi_str_list, pi_non_int, pi_non_bool, pi_non_str, pi_non_tuple, pi_non_list, pi_nat_int, pi_nat_bool, pi_nat_str, pi_nat_tuple, pi_nat_list, pi_strd_int, pi_strd_bool, pi_strd_str, pi_strd_tuple, pi_strd_list, pi_cube_int, pi_cube_bool, pi_cube_str, pi_cube_tuple, pi_cube_list, pi_cover_int, pi_cover_bool, pi_cover_str, pi_cover_tuple, pi_cover_list, cover_mk, ← List.map_take, ← List.map_drop, it_cube, sq_cube, uNeg1, ltNeg, key_nat, get_n, ix_dn, Option.map_some, cube_mk, bAdd, bAnd, bOr, bXor, bShr, uInv, bAndNot, aAdd, aOr, cEqN, cNeN, cEqS, cNeS, cEqC, cNeC, cEqB, cNeB, cLtN, cLeN, cGtN, cGeN, cIsN, cNsN, none_non, none_nat, none_cube, none_bl, none_str, none_tup, cIsB, cNsB, cInN, cEqNL, cNeNL, pr_sortL, cNiN, cInC, tr_bl, tr_non, tr_nat, tr_lst, tr_tup, ix_t0, ix_t1, ix_t2, ix_t3, ix_l0, ix_l1, ix_l2, ix_l3, ix_c0, ix_c1, pr_lenL, pr_lenT, pr_lenC, pr_lenD, pr_lenK, pr_tupL, pr_tupT, pr_lstL, pr_lstT, pr_lstC, pr_lstS, pr_intN, pr_intB, pr_sumN, pr_allB, pr_anyB, it_lst, it_tup, it_cov, sq_lst, sq_tup, sq_cov, fl_nat, fl_str, fl_bl, fl_non, fl_lst, fl_tup, fl_cube, fl_cover, fit0, fit1, fit2, fit3, fit4, end_none, end_nat, sl_lt, sl_lf, sl_tt, sl_tf, sl_ct, sl_cf, map_snoc, T_is_number, io_is_number, T_is_cube, io_is_cube, T_is_cover, io_is_cover, T_in_cube, io_in_cube, T_in_cover, io_in_cover, T_is_gate, io_is_gate, T_next_value, io_next_value, T_fights, io_fights, T_reads, io_reads, T__law_draws, io__law_draws, T__law_draw, io__law_draw, T__law_same, io__law_same, T__law_has, io__law_has, T__law_in, io__law_in, T__law_cube, io__law_cube, T__law_cover, io__law_cover, T__law_bits, io__law_bits, T__law_odd, io__law_odd, T__law_next, io__law_next, T__law_gate, io__law_gate, T__law_reads, io__law_reads, T__law_wrong, io__law_wrong, T_law, io_law, op_k_is_cover_0, rs_k_is_cover_0, op_k_in_cover_0, rs_k_in_cover_0, op_k__law_in_0, rs_k__law_in_0, op_k__law_cover_0, rs_k__law_cover_0, op_k__law_reads_2, rs_k__law_reads_2, sameD]
    | _ =>
      cases a with
      | scr _ => simp [D.ok] at ha
      | dct _ => simp [D.ok] at ha
      | ty _ => simp [D.ok] at ha
      | _ => simp -implicitDefEqProofs only [f__law_same, List.map_cons, List.map_nil, List.cons_append, List.nil_append, List.replicate, Nat.sub_self, Nat.reduceSub, end_rt, end_nx, end_ite, outsOf, forN_nil, bindV, bind_ite, opt_some, es_nil', es_cons', then_nx, then_bk, then_ct, then_rt, es1_asg', es1_setx', es1_aug', es1_par', es1_app', es1_ext', es1_ex', es1_ret', op_var, rs_var, op_cst, rs_cst, op_tup, rs_tup, op_lst, rs_lst, op_bin, rs_bin, op_un, rs_un, op_nt, rs_nt, op_cmp, rs_cmp, op_cmp2, rs_cmp2, op_and, rs_and, op_or, rs_or, op_ife, rs_ife, op_ix, rs_ix, op_sl, rs_sl, op_rev, rs_rev, op_call, rs_call, op_prim, rs_prim, op_comp, rs_comp, op_pop, rs_pop, op_dnew, rs_dnew, op_get, rs_get, es1_ret0', es1_ite', es1_brk', es1_cnt', es1_pass', es1_for', es1_wh', ev_var', ev_cst', ev_tup', ev_lst', ev_bin', ev_un', ev_nt', ev_cmp', ev_cmp2', ev_and', ev_or', ev_ife', ev_ix', ev_sl', ev_rev', ev_call', ev_prim', ev_pop', ev_dnew', ev_get', ev_sset', ev_lset', op_sset, op_lset, rs_sset, rs_lset, evs_nil', evs_cons', evx_no', evx_yes', evt_tru', evt_and', evt_or', evt_nt', evt_e', evi_seq', evi_rng', evi_rng2', evi_enum', getB, setB, pk, tk, pks, tks, B.dat, asg_nm, asg_tp, asg_cube, asgN, onOwn, stillB, backB, wipeB, turnF, turnX, turnC, ite_caA, ite_caO, ite_rA, ite_cp, ite_blT, ite_blF, ite_bT, ite_bF, ite_rF, ite_rT, ite_caF, ite_caT, doCall, callArgs, backIn, frzIn, okSlots, slotsOf, List.all_cons, List.all_nil, List.nodup_cons, List.nodup_nil, List.not_mem_nil, not_false_eq_true, and_self, decide_true, List.contains_nil, List.contains_cons, beq_true, beq_false, Bool.true_beq, Bool.false_beq, decide_false, if_true, if_false, Bool.false_eq_true, Bool.and_true, Bool.true_and, Bool.and_false, Bool.false_and, Bool.or_true, Bool.true_or, Bool.or_false, Bool.false_or, Bool.not_true, Bool.not_false, beq_self_eq_true, Bool.not_not, reduceIte, Nat.reduceBEq, Nat.reduceLT, Nat.reduceLeDiff, Nat.reduceAdd, Nat.reducePow, reduceCtorEq, BEq.rfl, List.length_cons, List.length_nil, List.length_map, List.map_cons, List.map_nil, String.reduceBEq, Option.some.injEq, pi_dct_int, pi_dct_bool, pi_dct_str, pi_dct_tuple, pi_dct_list, pi_tup_int, pi_tup_bool, pi_tup_str, pi_tup_tuple, pi_tup_list, pi_lst_int, pi_lst_bool, pi_lst_str, pi_lst_tuple, pi_lst_list, pi_int_int, pi_int_bool, pi_int_str, pi_int_tuple, pi_int_list, pi_bl_int, pi_bl_bool, pi_bl_str, pi_bl_tuple, pi_bl_list, pi_str_int, pi_str_bool, pi_str_str, pi_str_tuple, pi_str_list, pi_non_int, pi_non_bool, pi_non_str, pi_non_tuple, pi_non_list, pi_nat_int, pi_nat_bool, pi_nat_str, pi_nat_tuple, pi_nat_list, pi_strd_int, pi_strd_bool, pi_strd_str, pi_strd_tuple, pi_strd_list, pi_cube_int, pi_cube_bool, pi_cube_str, pi_cube_tuple, pi_cube_list, pi_cover_int, pi_cover_bool, pi_cover_str, pi_cover_tuple, pi_cover_list, cover_mk, ← List.map_take, ← List.map_drop, it_cube, sq_cube, uNeg1, ltNeg, key_nat, get_n, ix_dn, Option.map_some, cube_mk, bAdd, bAnd, bOr, bXor, bShr, uInv, bAndNot, aAdd, aOr, cEqN, cNeN, cEqS, cNeS, cEqC, cNeC, cEqB, cNeB, cLtN, cLeN, cGtN, cGeN, cIsN, cNsN, none_non, none_nat, none_cube, none_bl, none_str, none_tup, cIsB, cNsB, cInN, cEqNL, cNeNL, pr_sortL, cNiN, cInC, tr_bl, tr_non, tr_nat, tr_lst, tr_tup, ix_t0, ix_t1, ix_t2, ix_t3, ix_l0, ix_l1, ix_l2, ix_l3, ix_c0, ix_c1, pr_lenL, pr_lenT, pr_lenC, pr_lenD, pr_lenK, pr_tupL, pr_tupT, pr_lstL, pr_lstT, pr_lstC, pr_lstS, pr_intN, pr_intB, pr_sumN, pr_allB, pr_anyB, it_lst, it_tup, it_cov, sq_lst, sq_tup, sq_cov, fl_nat, fl_str, fl_bl, fl_non, fl_lst, fl_tup, fl_cube, fl_cover, fit0, fit1, fit2, fit3, fit4, end_none, end_nat, sl_lt, sl_lf, sl_tt, sl_tf, sl_ct, sl_cf, map_snoc, T_is_number, io_is_number, T_is_cube, io_is_cube, T_is_cover, io_is_cover, T_in_cube, io_in_cube, T_in_cover, io_in_cover, T_is_gate, io_is_gate, T_next_value, io_next_value, T_fights, io_fights, T_reads, io_reads, T__law_draws, io__law_draws, T__law_draw, io__law_draw, T__law_same, io__law_same, T__law_has, io__law_has, T__law_in, io__law_in, T__law_cube, io__law_cube, T__law_cover, io__law_cover, T__law_bits, io__law_bits, T__law_odd, io__law_odd, T__law_next, io__law_next, T__law_gate, io__law_gate, T__law_reads, io__law_reads, T__law_wrong, io__law_wrong, T_law, io_law, op_k_is_cover_0, rs_k_is_cover_0, op_k_in_cover_0, rs_k_in_cover_0, op_k__law_in_0, rs_k__law_in_0, op_k__law_cover_0, rs_k__law_cover_0, op_k__law_reads_2, rs_k__law_reads_2, sameD, isNone, hin, hbb]
theorem sameL_map {α : Type} [BEq α] (f : α → D) (h : ∀ a b, sameD (f a) (f b) = (a == b)) : ∀ (bs as : List α), sameL (as.map f) (bs.map f) = (as == bs)
  | [], [] => rfl
  | [], _ :: _ => rfl
  | _ :: _, [] => rfl
  | b :: bs, a :: as => by
    simp only [List.map_cons, sameL, h, sameL_map f h bs as]
    rfl
theorem same_nat (a b : Nat) : sameD (natD a) (natD b) = (a == b) := nat_beq a b
theorem same_str (a b : String) : sameD (strD a) (strD b) = (a == b) := eq_str a b
theorem same_cube (a b : Nat × Nat) : sameD (cubeD a) (cubeD b) = (a == b) := by
  show (sameD (natD a.1) (natD b.1) && (sameD (natD a.2) (natD b.2) && true)) = _
  rw [same_nat, same_nat, Bool.and_true]
  rfl
theorem lensL_map {α : Type} (f : α → D) (h : ∀ a, lensD (f a) = true) : ∀ as : List α, lensL (as.map f) = true
  | [] => rfl
  | a :: as => by simp only [List.map_cons, lensL, h, lensL_map f h as, Bool.and_true]
/-- the usual kinds -/
theorem same_strs {N : Nat} (hN : 2 ≤ N) (a b : String) : callF T m N 11 [.sh (strD a), .sh (strD b)] = .ret false (.bl (a == b)) [.sh (strD a), .sh (strD b)] := by
  rw [same_ok 1 N 1 _ _ (ok_str _ _) (ok_str _ _) rfl (by omega), same_str]
theorem same_nats {N : Nat} (hN : 2 ≤ N) (a b : Nat) : callF T m N 11 [.sh (natD a), .sh (natD b)] = .ret false (.bl (a == b)) [.sh (natD a), .sh (natD b)] := by
  rw [same_ok 1 N 1 _ _ (ok_nat _ _) (ok_nat _ _) rfl (by omega), same_nat]
theorem same_bls {N : Nat} (hN : 2 ≤ N) (a b : Bool) : callF T m N 11 [.sh (.bl a), .sh (.bl b)] = .ret false (.bl (a == b)) [.sh (.bl a), .sh (.bl b)] := by
  rw [same_ok 1 N 1 _ _ (ok_bl _ _) (ok_bl _ _) rfl (by omega)]; rfl
theorem same_natL {N : Nat} (hN : 3 ≤ N) (a b : List Nat) (hb : b.length ≤ 1000000) : callF T m N 11 [.sh (.lst (a.map natD)), .sh (.lst (b.map natD))] = .ret false (.bl (a == b)) [.sh (.lst (a.map natD)), .sh (.lst (b.map natD))] := by
  rw [same_ok 2 N 2 (.lst (a.map natD)) (.lst (b.map natD)) (ok_nats a 1) (ok_nats b 1) (by simp only [lensD, lensL_map natD (fun _ => rfl), List.length_map, hb, decide_true, Bool.and_self]) (by omega)]
  simp only [sameD, sameL_map natD same_nat]
theorem same_natT {N : Nat} (hN : 3 ≤ N) (a b : List Nat) (hb : b.length ≤ 1000000) : callF T m N 11 [.sh (.tup (a.map natD)), .sh (.tup (b.map natD))] = .ret false (.bl (a == b)) [.sh (.tup (a.map natD)), .sh (.tup (b.map natD))] := by
  rw [same_ok 2 N 2 (.tup (a.map natD)) (.tup (b.map natD)) (ok_nats a 1) (ok_nats b 1) (by simp only [lensD, lensL_map natD (fun _ => rfl), List.length_map, hb, decide_true, Bool.and_self]) (by omega)]
  simp only [sameD, sameL_map natD same_nat]
theorem same_cubes {N : Nat} (hN : 3 ≤ N) (a b : Nat × Nat) : callF T m N 11 [.sh (cubeD a), .sh (cubeD b)] = .ret false (.bl (a == b)) [.sh (cubeD a), .sh (cubeD b)] := by
  rw [same_ok 2 N 2 _ _ (ok_cube _ _) (ok_cube _ _) rfl (by omega), same_cube]
theorem same_covers {N : Nat} (hN : 4 ≤ N) (a b : List (Nat × Nat)) (hb : b.length ≤ 1000000) : callF T m N 11 [.sh (coverD a), .sh (coverD b)] = .ret false (.bl (a == b)) [.sh (coverD a), .sh (coverD b)] := by
  rw [same_ok 3 N 3 _ _ (ok_cover _ _) (ok_cover _ _) (by simp only [coverD, lensD, lensL_map cubeD (fun _ => rfl), List.length_map, hb, decide_true, Bool.and_self]) (by omega)]
  simp only [coverD, sameD, sameL_map cubeD same_cube]
theorem same_cubeL {N : Nat} (hN : 4 ≤ N) (a b : List (Nat × Nat)) (hb : b.length ≤ 1000000) : callF T m N 11 [.sh (.lst (a.map cubeD)), .sh (.lst (b.map cubeD))] = .ret false (.bl (a == b)) [.sh (.lst (a.map cubeD)), .sh (.lst (b.map cubeD))] := by
  rw [same_ok 3 N 3 (.lst (a.map cubeD)) (.lst (b.map cubeD)) (ok_cubes a 1) (ok_cubes b 1) (by simp only [lensD, lensL_map cubeD (fun _ => rfl), List.length_map, hb, decide_true, Bool.and_self]) (by omega)]
  simp only [sameD, sameL_map cubeD same_cube]
/-- a cube over n wires -/
def Cu (n : Nat) (c : Nat × Nat) : Prop := c.1 < 2 ^ n ∧ c.1 &&& c.2 = c.2
theorem pow2_le {k : Nat} (h : k ≤ 16) : 2 ^ k ≤ 65536 := Nat.pow_le_pow_right (by omega) h
theorem pow2_pos (k : Nat) : 0 < 2 ^ k := Nat.two_pow_pos k
theorem cube_loop {n : Nat} (hn : 1 ≤ n) {w : Nat} (hw : 1 ≤ w) (hw2 : w ≤ 100) (M : D) : ∀ (ks : List Nat) (s : St) (care : Nat) (x : Option B), care < 2 ^ w →
    ∃ (s' : St) (care' : Nat) (x' : Option B), forN (turnF T (callF T m n) m (.nm 4) b__law_cube_0) (ks.map natD) [some (.io (s.d)), some (.sh (natD w)), some (.sh (M)), some (.sh (natD care)), x] = .val .nx [some (.io (s'.d)), some (.sh (natD w)), some (.sh (M)), some (.sh (natD care')), x'] ∧ care' < 2 ^ w
  | [], s, care, x, h => ⟨s, care, x, rfl, h⟩
  | k :: ks, s, care, x, h => by
    have hd := draw_ok (m := m) hn s w (by omega) (by omega)
    have hv := v_lt s (l := w) (by omega)
    generalize s.v w = v at hd hv
    have hs := bShl1 (v := v) (by omega)
    have step : turnF T (callF T m n) m (.nm 4) b__law_cube_0 (natD k) [some (.io (s.d)), some (.sh (natD w)), some (.sh (M)), some (.sh (natD care)), x] = .val .nx [some (.io ((s.s w).d)), some (.sh (natD w)), some (.sh (M)), some (.sh (natD (care ||| 2 ^ v))), some (.sh (natD k))] := by
      simp -implicitDefEqProofs only [b__law_cube_0, forN_nil, bindV, bind_ite, opt_some, es_nil', es_cons', then_nx, then_bk, then_ct, then_rt, es1_asg', es1_setx', es1_aug', es1_par', es1_app', es1_ext', es1_ex', es1_ret', op_var, rs_var, op_cst, rs_cst, op_tup, rs_tup, op_lst, rs_lst, op_bin, rs_bin, op_un, rs_un, op_nt, rs_nt, op_cmp, rs_cmp, op_cmp2, rs_cmp2, op_and, rs_and, op_or, rs_or, op_ife, rs_ife, op_ix, rs_ix, op_sl, rs_sl, op_rev, rs_rev, op_call, rs_call, op_prim, rs_prim, op_comp, rs_comp, op_pop, rs_pop, op_dnew, rs_dnew, op_get, rs_get, es1_ret0', es1_ite', es1_brk', es1_cnt', es1_pass', es1_for', es1_wh', ev_var', ev_cst', ev_tup', ev_lst', ev_bin', ev_un', ev_nt', ev_cmp', ev_cmp2', ev_and', ev_or', ev_ife', ev_ix', ev_sl', ev_rev', ev_call', ev_prim', ev_pop', ev_dnew', ev_get', ev_sset', ev_lset', op_sset, op_lset, rs_sset, rs_lset, evs_nil', evs_cons', evx_no', evx_yes', evt_tru', evt_and', evt_or', evt_nt', evt_e', evi_seq', evi_rng', evi_rng2', evi_enum', getB, setB, pk, tk, pks, tks, B.dat, asg_nm, asg_tp, asg_cube, asgN, onOwn, stillB, backB, wipeB, turnF, turnX, turnC, ite_caA, ite_caO, ite_rA, ite_cp, ite_blT, ite_blF, ite_bT, ite_bF, ite_rF, ite_rT, ite_caF, ite_caT, doCall, callArgs, backIn, frzIn, okSlots, slotsOf, List.all_cons, List.all_nil, List.nodup_cons, List.nodup_nil, List.not_mem_nil, not_false_eq_true, and_self, decide_true, List.contains_nil, List.contains_cons, beq_true, beq_false, Bool.true_beq, Bool.false_beq, decide_false, if_true, if_false, Bool.false_eq_true, Bool.and_true, Bool.true_and, Bool.and_false, Bool.false_and, Bool.or_true, Bool.true_or, Bool.or_false, Bool.false_or, Bool.not_true, Bool.not_false, beq_self_eq_true, Bool.not_not, reduceIte, Nat.reduceBEq, Nat.reduceLT, Nat.reduceLeDiff, Nat.reduceAdd, Nat.reducePow, reduceCtorEq, BEq.rfl, List.length_cons, List.length_nil, List.length_map, List.map_cons, List.map_nil, String.reduceBEq, Option.some.injEq, pi_dct_int, pi_dct_bool, pi_dct_str, pi_dct_tuple, pi_dct_list, pi_tup_int, pi_tup_bool, pi_tup_str, pi_tup_tuple, pi_tup_list, pi_lst_int, pi_lst_bool, pi_lst_str, pi_lst_tuple, pi_lst_list, pi_int_int, pi_int_bool, pi_int_str, pi_int_tuple, pi_int_list, pi_bl_int, pi_bl_bool, pi_bl_str, pi_bl_tuple, pi_bl_list, pi_str_int, pi_str_bool, pi_str_str, pi_str_tuple, pi_str_list, pi_non_int, pi_non_bool, pi_non_str, pi_non_tuple, pi_non_list, pi_nat_int, pi_nat_bool, pi_nat_str, pi_nat_tuple, pi_nat_list, pi_strd_int, pi_strd_bool, pi_strd_str, pi_strd_tuple, pi_strd_list, pi_cube_int, pi_cube_bool, pi_cube_str, pi_cube_tuple, pi_cube_list, pi_cover_int, pi_cover_bool, pi_cover_str, pi_cover_tuple, pi_cover_list, cover_mk, ← List.map_take, ← List.map_drop, it_cube, sq_cube, uNeg1, ltNeg, key_nat, get_n, ix_dn, Option.map_some, cube_mk, bAdd, bAnd, bOr, bXor, bShr, uInv, bAndNot, aAdd, aOr, cEqN, cNeN, cEqS, cNeS, cEqC, cNeC, cEqB, cNeB, cLtN, cLeN, cGtN, cGeN, cIsN, cNsN, none_non, none_nat, none_cube, none_bl, none_str, none_tup, cIsB, cNsB, cInN, cEqNL, cNeNL, pr_sortL, cNiN, cInC, tr_bl, tr_non, tr_nat, tr_lst, tr_tup, ix_t0, ix_t1, ix_t2, ix_t3, ix_l0, ix_l1, ix_l2, ix_l3, ix_c0, ix_c1, pr_lenL, pr_lenT, pr_lenC, pr_lenD, pr_lenK, pr_tupL, pr_tupT, pr_lstL, pr_lstT, pr_lstC, pr_lstS, pr_intN, pr_intB, pr_sumN, pr_allB, pr_anyB, it_lst, it_tup, it_cov, sq_lst, sq_tup, sq_cov, fl_nat, fl_str, fl_bl, fl_non, fl_lst, fl_tup, fl_cube, fl_cover, fit0, fit1, fit2, fit3, fit4, end_none, end_nat, sl_lt, sl_lf, sl_tt, sl_tf, sl_ct, sl_cf, map_snoc, T_is_number, io_is_number, T_is_cube, io_is_cube, T_is_cover, io_is_cover, T_in_cube, io_in_cube, T_in_cover, io_in_cover, T_is_gate, io_is_gate, T_next_value, io_next_value, T_fights, io_fights, T_reads, io_reads, T__law_draws, io__law_draws, T__law_draw, io__law_draw, T__law_same, io__law_same, T__law_has, io__law_has, T__law_in, io__law_in, T__law_cube, io__law_cube, T__law_cover, io__law_cover, T__law_bits, io__law_bits, T__law_odd, io__law_odd, T__law_next, io__law_next, T__law_gate, io__law_gate, T__law_reads, io__law_reads, T__law_wrong, io__law_wrong, T_law, io_law, op_k_is_cover_0, rs_k_is_cover_0, op_k_in_cover_0, rs_k_in_cover_0, op_k__law_in_0, rs_k__law_in_0, op_k__law_cover_0, rs_k__law_cover_0, op_k__law_reads_2, rs_k__law_reads_2, hd, hs]
    obtain ⟨s', c', x', q1, q2⟩ := cube_loop hn hw hw2 M ks (s.s w) (care ||| 2 ^ v) (some (.sh (natD k))) (Nat.or_lt_two_pow h (Nat.pow_lt_pow_right (by omega) hv))
    exact ⟨s', c', x', by rw [List.map_cons, forN_cons (.inl step), q1], q2⟩
theorem cube_ok {N : Nat} (hN : 2 ≤ N) (s : St) {w : Nat} (hw : 1 ≤ w) (hw2 : w ≤ 29) :
    ∃ (c : Nat × Nat) (s' : St), callF T m N 14 [.io s.d, .sh (natD w)] = .ret false (cubeD c) [.io s'.d, .sh (natD w)] ∧ Cu w c := by
  obtain ⟨n, rfl, hn⟩ := to_succ hN
  have hd1 := draw_ok (m := m) hn s (w + 1) (by omega) (by omega)
  have hv1 := v_lt s (l := w + 1) (by omega)
  generalize s.s (w + 1) = s1 at hd1
  generalize s.v (w + 1) = v1 at hd1 hv1
  have hd2 := draw_ok (m := m) hn s1 5 (by omega) (by omega)
  have hv2 := v_lt s1 (l := 5) (by omega)
  generalize s1.s 5 = s2 at hd2
  generalize s1.v 5 = v2 at hd2 hv2
  obtain ⟨many, hm1, hix⟩ : ∃ many : Nat, many ≤ 29 ∧ ixD (.lst [natD 0, natD 1, natD 2, natD w, natD v1]) (natD v2) = some (natD many) := by
    rcases (by omega : v2 = 0 ∨ v2 = 1 ∨ v2 = 2 ∨ v2 = 3 ∨ v2 = 4) with rfl | rfl | rfl | rfl | rfl
    · exact ⟨0, by omega, rfl⟩
    · exact ⟨1, by omega, rfl⟩
    · exact ⟨2, by omega, rfl⟩
    · exact ⟨w, by omega, rfl⟩
    · exact ⟨v1, by omega, rfl⟩
  obtain ⟨s3, care, x3, hl, hc⟩ := cube_loop (m := m) hn hw (by omega) (natD many) (List.range many) s2 0 none (pow2_pos w)
  have hp := pow2_pos w
  have hp2 : 2 ^ w ≤ 2 ^ 29 := Nat.pow_le_pow_right (by omega) hw2
  have hd3 := draw_ok (m := m) hn s3 (2 ^ w) hp (by omega)
  refine ⟨(care, care &&& s3.v (2 ^ w)), s3.s (2 ^ w), ?_, hc, by rw [← Nat.and_assoc, Nat.and_self]⟩
  have hr := rng_nat (n := many) (e := [some (.io (s2.d)), some (.sh (natD w)), some (.sh (natD many)), some (.sh (natD 0)), none]) (by omega)
  have hs := bShl1 (v := w) (by omega)
  have hf5 : fitL (0 + 1 + 1 + 1 + 1 + 1) = true := rfl
  rw [callF_body T__law_cube rfl]
  simp -implicitDefEqProofs only [f__law_cube, List.map_cons, List.map_nil, List.cons_append, List.nil_append, List.replicate, Nat.sub_self, Nat.reduceSub, end_rt, end_nx, end_ite, outsOf, forN_nil, bindV, bind_ite, opt_some, es_nil', es_cons', then_nx, then_bk, then_ct, then_rt, es1_asg', es1_setx', es1_aug', es1_par', es1_app', es1_ext', es1_ex', es1_ret', op_var, rs_var, op_cst, rs_cst, op_tup, rs_tup, op_lst, rs_lst, op_bin, rs_bin, op_un, rs_un, op_nt, rs_nt, op_cmp, rs_cmp, op_cmp2, rs_cmp2, op_and, rs_and, op_or, rs_or, op_ife, rs_ife, op_ix, rs_ix, op_sl, rs_sl, op_rev, rs_rev, op_call, rs_call, op_prim, rs_prim, op_comp, rs_comp, op_pop, rs_pop, op_dnew, rs_dnew, op_get, rs_get, es1_ret0', es1_ite', es1_brk', es1_cnt', es1_pass', es1_for', es1_wh', ev_var', ev_cst', ev_tup', ev_lst', ev_bin', ev_un', ev_nt', ev_cmp', ev_cmp2', ev_and', ev_or', ev_ife', ev_ix', ev_sl', ev_rev', ev_call', ev_prim', ev_pop', ev_dnew', ev_get', ev_sset', ev_lset', op_sset, op_lset, rs_sset, rs_lset, evs_nil', evs_cons', evx_no', evx_yes', evt_tru', evt_and', evt_or', evt_nt', evt_e', evi_seq', evi_rng', evi_rng2', evi_enum', getB, setB, pk, tk, pks, tks, B.dat, asg_nm, asg_tp, asg_cube, asgN, onOwn, stillB, backB, wipeB, turnF, turnX, turnC, ite_caA, ite_caO, ite_rA, ite_cp, ite_blT, ite_blF, ite_bT, ite_bF, ite_rF, ite_rT, ite_caF, ite_caT, doCall, callArgs, backIn, frzIn, okSlots, slotsOf, List.all_cons, List.all_nil, List.nodup_cons, List.nodup_nil, List.not_mem_nil, not_false_eq_true, and_self, decide_true, List.contains_nil, List.contains_cons, beq_true, beq_false, Bool.true_beq, Bool.false_beq, decide_false, if_true, if_false, Bool.false_eq_true, Bool.and_true, Bool.true_and, Bool.and_false, Bool.false_and, Bool.or_true, Bool.true_or, Bool.or_false, Bool.false_or, Bool.not_true, Bool.not_false, beq_self_eq_true, Bool.not_not, reduceIte, Nat.reduceBEq, Nat.reduceLT, Nat.reduceLeDiff, Nat.reduceAdd, Nat.reducePow, reduceCtorEq, BEq.rfl, List.length_cons, List.length_nil, List.length_map, List.map_cons, List.map_nil, String.reduceBEq, Option.some.injEq, pi_dct_int, pi_dct_bool, pi_dct_str, pi_dct_tuple, pi_dct_list, pi_tup_int, pi_tup_bool, pi_tup_str, pi_tup_tuple, pi_tup_list, pi_lst_int, pi_lst_bool, pi_lst_str, pi_lst_tuple, pi_lst_list, pi_int_int, pi_int_bool, pi_int_str, pi_int_tuple, pi_int_list, pi_bl_int, pi_bl_bool, pi_bl_str, pi_bl_tuple, pi_bl_list, pi_str_int, pi_str_bool, pi_str_str, pi_str_tuple, pi_str_list, pi_non_int, pi_non_bool, pi_non_str, pi_non_tuple, pi_non_list, pi_nat_int, pi_nat_bool, pi_nat_str, pi_nat_tuple, pi_nat_list, pi_strd_int, pi_strd_bool, pi_strd_str, pi_strd_tuple, pi_strd_list, pi_cube_int, pi_cube_bool, pi_cube_str, pi_cube_tuple, pi_cube_list, pi_cover_int, pi_cover_bool, pi_cover_str, pi_cover_tuple, pi_cover_list, cover_mk, ← List.map_take, ← List.map_drop, it_cube, sq_cube, uNeg1, ltNeg, key_nat, get_n, ix_dn, Option.map_some, cube_mk, bAdd, bAnd, bOr, bXor, bShr, uInv, bAndNot, aAdd, aOr, cEqN, cNeN, cEqS, cNeS, cEqC, cNeC, cEqB, cNeB, cLtN, cLeN, cGtN, cGeN, cIsN, cNsN, none_non, none_nat, none_cube, none_bl, none_str, none_tup, cIsB, cNsB, cInN, cEqNL, cNeNL, pr_sortL, cNiN, cInC, tr_bl, tr_non, tr_nat, tr_lst, tr_tup, ix_t0, ix_t1, ix_t2, ix_t3, ix_l0, ix_l1, ix_l2, ix_l3, ix_c0, ix_c1, pr_lenL, pr_lenT, pr_lenC, pr_lenD, pr_lenK, pr_tupL, pr_tupT, pr_lstL, pr_lstT, pr_lstC, pr_lstS, pr_intN, pr_intB, pr_sumN, pr_allB, pr_anyB, it_lst, it_tup, it_cov, sq_lst, sq_tup, sq_cov, fl_nat, fl_str, fl_bl, fl_non, fl_lst, fl_tup, fl_cube, fl_cover, fit0, fit1, fit2, fit3, fit4, end_none, end_nat, sl_lt, sl_lf, sl_tt, sl_tf, sl_ct, sl_cf, map_snoc, T_is_number, io_is_number, T_is_cube, io_is_cube, T_is_cover, io_is_cover, T_in_cube, io_in_cube, T_in_cover, io_in_cover, T_is_gate, io_is_gate, T_next_value, io_next_value, T_fights, io_fights, T_reads, io_reads, T__law_draws, io__law_draws, T__law_draw, io__law_draw, T__law_same, io__law_same, T__law_has, io__law_has, T__law_in, io__law_in, T__law_cube, io__law_cube, T__law_cover, io__law_cover, T__law_bits, io__law_bits, T__law_odd, io__law_odd, T__law_next, io__law_next, T__law_gate, io__law_gate, T__law_reads, io__law_reads, T__law_wrong, io__law_wrong, T_law, io_law, op_k_is_cover_0, rs_k_is_cover_0, op_k_in_cover_0, rs_k_in_cover_0, op_k__law_in_0, rs_k__law_in_0, op_k__law_cover_0, rs_k__law_cover_0, op_k__law_reads_2, rs_k__law_reads_2, hd1, hd2, hix, hr, hl, hs, hd3, hf5]
theorem cover_ok {N : Nat} (hN : 3 ≤ N) (s : St) {w most : Nat} (hw : 1 ≤ w) (hw2 : w ≤ 29) (hm : most ≤ 100) :
    ∃ (cs : List (Nat × Nat)) (s' : St), callF T m N 15 [.io s.d, .sh (natD w), .sh (natD most)] = .ret false (coverD cs) [.io s'.d, .sh (natD w), .sh (natD most)] ∧ (∀ c ∈ cs, Cu w c) ∧ cs.length ≤ most := by
  obtain ⟨n, rfl, hn⟩ := to_succ hN
  have hd := draw_ok (m := m) (N := n) (by omega) s (most + 1) (by omega) (by omega)
  have hv := v_lt s (l := most + 1) (by omega)
  generalize s.s (most + 1) = s1 at hd
  generalize s.v (most + 1) = v1 at hd hv
  have hr := rng_nat (n := v1) (e := [some (.io (s1.d)), some (.sh (natD w)), some (.sh (natD most)), none, none]) (by omega)
  obtain ⟨rs, e', h1, ⟨s2, rfl⟩, h3, h4⟩ := compN_inv (f := turnX T (callF T m n) k__law_cover_0) (ds := List.range v1) natD (fun e => ∃ s2 : St, e = [some (.io (s2.d)), some (.sh (natD w)), some (.sh (natD most)), none, none]) (fun _ d => ∃ c, d = cubeD c ∧ Cu w c) ⟨s1, rfl⟩ (fun k _ e ⟨s2, he⟩ => by
    subst he
    obtain ⟨c, s3, hc, hcu⟩ := cube_ok (m := m) (N := n) (by omega) s2 hw hw2
    exact ⟨cubeD c, [some (.io (s3.d)), some (.sh (natD w)), some (.sh (natD most)), none, none], by simp -implicitDefEqProofs only [k__law_cover_0, forN_nil, bindV, bind_ite, opt_some, es_nil', es_cons', then_nx, then_bk, then_ct, then_rt, es1_asg', es1_setx', es1_aug', es1_par', es1_app', es1_ext', es1_ex', es1_ret', op_var, rs_var, op_cst, rs_cst, op_tup, rs_tup, op_lst, rs_lst, op_bin, rs_bin, op_un, rs_un, op_nt, rs_nt, op_cmp, rs_cmp, op_cmp2, rs_cmp2, op_and, rs_and, op_or, rs_or, op_ife, rs_ife, op_ix, rs_ix, op_sl, rs_sl, op_rev, rs_rev, op_call, rs_call, op_prim, rs_prim, op_comp, rs_comp, op_pop, rs_pop, op_dnew, rs_dnew, op_get, rs_get, es1_ret0', es1_ite', es1_brk', es1_cnt', es1_pass', es1_for', es1_wh', ev_var', ev_cst', ev_tup', ev_lst', ev_bin', ev_un', ev_nt', ev_cmp', ev_cmp2', ev_and', ev_or', ev_ife', ev_ix', ev_sl', ev_rev', ev_call', ev_prim', ev_pop', ev_dnew', ev_get', ev_sset', ev_lset', op_sset, op_lset, rs_sset, rs_lset, evs_nil', evs_cons', evx_no', evx_yes', evt_tru', evt_and', evt_or', evt_nt', evt_e', evi_seq', evi_rng', evi_rng2', evi_enum', getB, setB, pk, tk, pks, tks, B.dat, asg_nm, asg_tp, asg_cube, asgN, onOwn, stillB, backB, wipeB, turnF, turnX, turnC, ite_caA, ite_caO, ite_rA, ite_cp, ite_blT, ite_blF, ite_bT, ite_bF, ite_rF, ite_rT, ite_caF, ite_caT, doCall, callArgs, backIn, frzIn, okSlots, slotsOf, List.all_cons, List.all_nil, List.nodup_cons, List.nodup_nil, List.not_mem_nil, not_false_eq_true, and_self, decide_true, List.contains_nil, List.contains_cons, beq_true, beq_false, Bool.true_beq, Bool.false_beq, decide_false, if_true, if_false, Bool.false_eq_true, Bool.and_true, Bool.true_and, Bool.and_false, Bool.false_and, Bool.or_true, Bool.true_or, Bool.or_false, Bool.false_or, Bool.not_true, Bool.not_false, beq_self_eq_true, Bool.not_not, reduceIte, Nat.reduceBEq, Nat.reduceLT, Nat.reduceLeDiff, Nat.reduceAdd, Nat.reducePow, reduceCtorEq, BEq.rfl, List.length_cons, List.length_nil, List.length_map, List.map_cons, List.map_nil, String.reduceBEq, Option.some.injEq, pi_dct_int, pi_dct_bool, pi_dct_str, pi_dct_tuple, pi_dct_list, pi_tup_int, pi_tup_bool, pi_tup_str, pi_tup_tuple, pi_tup_list, pi_lst_int, pi_lst_bool, pi_lst_str, pi_lst_tuple, pi_lst_list, pi_int_int, pi_int_bool, pi_int_str, pi_int_tuple, pi_int_list, pi_bl_int, pi_bl_bool, pi_bl_str, pi_bl_tuple, pi_bl_list, pi_str_int, pi_str_bool, pi_str_str, pi_str_tuple, pi_str_list, pi_non_int, pi_non_bool, pi_non_str, pi_non_tuple, pi_non_list, pi_nat_int, pi_nat_bool, pi_nat_str, pi_nat_tuple, pi_nat_list, pi_strd_int, pi_strd_bool, pi_strd_str, pi_strd_tuple, pi_strd_list, pi_cube_int, pi_cube_bool, pi_cube_str, pi_cube_tuple, pi_cube_list, pi_cover_int, pi_cover_bool, pi_cover_str, pi_cover_tuple, pi_cover_list, cover_mk, ← List.map_take, ← List.map_drop, it_cube, sq_cube, uNeg1, ltNeg, key_nat, get_n, ix_dn, Option.map_some, cube_mk, bAdd, bAnd, bOr, bXor, bShr, uInv, bAndNot, aAdd, aOr, cEqN, cNeN, cEqS, cNeS, cEqC, cNeC, cEqB, cNeB, cLtN, cLeN, cGtN, cGeN, cIsN, cNsN, none_non, none_nat, none_cube, none_bl, none_str, none_tup, cIsB, cNsB, cInN, cEqNL, cNeNL, pr_sortL, cNiN, cInC, tr_bl, tr_non, tr_nat, tr_lst, tr_tup, ix_t0, ix_t1, ix_t2, ix_t3, ix_l0, ix_l1, ix_l2, ix_l3, ix_c0, ix_c1, pr_lenL, pr_lenT, pr_lenC, pr_lenD, pr_lenK, pr_tupL, pr_tupT, pr_lstL, pr_lstT, pr_lstC, pr_lstS, pr_intN, pr_intB, pr_sumN, pr_allB, pr_anyB, it_lst, it_tup, it_cov, sq_lst, sq_tup, sq_cov, fl_nat, fl_str, fl_bl, fl_non, fl_lst, fl_tup, fl_cube, fl_cover, fit0, fit1, fit2, fit3, fit4, end_none, end_nat, sl_lt, sl_lf, sl_tt, sl_tf, sl_ct, sl_cf, map_snoc, T_is_number, io_is_number, T_is_cube, io_is_cube, T_is_cover, io_is_cover, T_in_cube, io_in_cube, T_in_cover, io_in_cover, T_is_gate, io_is_gate, T_next_value, io_next_value, T_fights, io_fights, T_reads, io_reads, T__law_draws, io__law_draws, T__law_draw, io__law_draw, T__law_same, io__law_same, T__law_has, io__law_has, T__law_in, io__law_in, T__law_cube, io__law_cube, T__law_cover, io__law_cover, T__law_bits, io__law_bits, T__law_odd, io__law_odd, T__law_next, io__law_next, T__law_gate, io__law_gate, T__law_reads, io__law_reads, T__law_wrong, io__law_wrong, T_law, io_law, op_k_is_cover_0, rs_k_is_cover_0, op_k_in_cover_0, rs_k_in_cover_0, op_k__law_in_0, rs_k__law_in_0, op_k__law_cover_0, rs_k__law_cover_0, op_k__law_reads_2, rs_k__law_reads_2, hc], ⟨s3, rfl⟩, c, rfl, hcu⟩)
  obtain ⟨cs, rfl, hcs⟩ : ∃ cs : List (Nat × Nat), rs = cs.map cubeD ∧ ∀ c ∈ cs, Cu w c := by
    clear h1 h3
    induction rs with
    | nil => exact ⟨[], rfl, by simp⟩
    | cons r rs ih =>
      obtain ⟨cs, e1, e2⟩ := ih fun r hr => h4 r (by simp [hr])
      obtain ⟨_, _, c, rfl, hc⟩ := h4 r (by simp)
      exact ⟨c :: cs, by rw [e1, List.map_cons], fun c' h' => by
        rcases List.mem_cons.mp h' with rfl | h'
        · exact hc
        · exact e2 c' h'⟩
  rw [List.length_map, List.length_range] at h3
  have hev : ev T (callF T m n) k__law_cover_0 [some (.io (s.d)), some (.sh (natD w)), some (.sh (natD most)), none, none] = .val (true, .lst (cs.map cubeD)) [some (.io (s2.d)), some (.sh (natD w)), some (.sh (natD most)), none, none] := by
    exact comp_of ⟨_, _, _, _, _, rfl⟩ (by simp -implicitDefEqProofs only [k__law_cover_0, compIt, forN_nil, bindV, bind_ite, opt_some, es_nil', es_cons', then_nx, then_bk, then_ct, then_rt, es1_asg', es1_setx', es1_aug', es1_par', es1_app', es1_ext', es1_ex', es1_ret', op_var, rs_var, op_cst, rs_cst, op_tup, rs_tup, op_lst, rs_lst, op_bin, rs_bin, op_un, rs_un, op_nt, rs_nt, op_cmp, rs_cmp, op_cmp2, rs_cmp2, op_and, rs_and, op_or, rs_or, op_ife, rs_ife, op_ix, rs_ix, op_sl, rs_sl, op_rev, rs_rev, op_call, rs_call, op_prim, rs_prim, op_comp, rs_comp, op_pop, rs_pop, op_dnew, rs_dnew, op_get, rs_get, es1_ret0', es1_ite', es1_brk', es1_cnt', es1_pass', es1_for', es1_wh', ev_var', ev_cst', ev_tup', ev_lst', ev_bin', ev_un', ev_nt', ev_cmp', ev_cmp2', ev_and', ev_or', ev_ife', ev_ix', ev_sl', ev_rev', ev_call', ev_prim', ev_pop', ev_dnew', ev_get', ev_sset', ev_lset', op_sset, op_lset, rs_sset, rs_lset, evs_nil', evs_cons', evx_no', evx_yes', evt_tru', evt_and', evt_or', evt_nt', evt_e', evi_seq', evi_rng', evi_rng2', evi_enum', getB, setB, pk, tk, pks, tks, B.dat, asg_nm, asg_tp, asg_cube, asgN, onOwn, stillB, backB, wipeB, turnF, turnX, turnC, ite_caA, ite_caO, ite_rA, ite_cp, ite_blT, ite_blF, ite_bT, ite_bF, ite_rF, ite_rT, ite_caF, ite_caT, doCall, callArgs, backIn, frzIn, okSlots, slotsOf, List.all_cons, List.all_nil, List.nodup_cons, List.nodup_nil, List.not_mem_nil, not_false_eq_true, and_self, decide_true, List.contains_nil, List.contains_cons, beq_true, beq_false, Bool.true_beq, Bool.false_beq, decide_false, if_true, if_false, Bool.false_eq_true, Bool.and_true, Bool.true_and, Bool.and_false, Bool.false_and, Bool.or_true, Bool.true_or, Bool.or_false, Bool.false_or, Bool.not_true, Bool.not_false, beq_self_eq_true, Bool.not_not, reduceIte, Nat.reduceBEq, Nat.reduceLT, Nat.reduceLeDiff, Nat.reduceAdd, Nat.reducePow, reduceCtorEq, BEq.rfl, List.length_cons, List.length_nil, List.length_map, List.map_cons, List.map_nil, String.reduceBEq, Option.some.injEq, pi_dct_int, pi_dct_bool, pi_dct_str, pi_dct_tuple, pi_dct_list, pi_tup_int, pi_tup_bool, pi_tup_str, pi_tup_tuple, pi_tup_list, pi_lst_int, pi_lst_bool, pi_lst_str, pi_lst_tuple, pi_lst_list, pi_int_int, pi_int_bool, pi_int_str, pi_int_tuple, pi_int_list, pi_bl_int, pi_bl_bool, pi_bl_str, pi_bl_tuple, pi_bl_list, pi_str_int, pi_str_bool, pi_str_str, pi_str_tuple, pi_str_list, pi_non_int, pi_non_bool, pi_non_str, pi_non_tuple, pi_non_list, pi_nat_int, pi_nat_bool, pi_nat_str, pi_nat_tuple, pi_nat_list, pi_strd_int, pi_strd_bool, pi_strd_str, pi_strd_tuple, pi_strd_list, pi_cube_int, pi_cube_bool, pi_cube_str, pi_cube_tuple, pi_cube_list, pi_cover_int, pi_cover_bool, pi_cover_str, pi_cover_tuple, pi_cover_list, cover_mk, ← List.map_take, ← List.map_drop, it_cube, sq_cube, uNeg1, ltNeg, key_nat, get_n, ix_dn, Option.map_some, cube_mk, bAdd, bAnd, bOr, bXor, bShr, uInv, bAndNot, aAdd, aOr, cEqN, cNeN, cEqS, cNeS, cEqC, cNeC, cEqB, cNeB, cLtN, cLeN, cGtN, cGeN, cIsN, cNsN, none_non, none_nat, none_cube, none_bl, none_str, none_tup, cIsB, cNsB, cInN, cEqNL, cNeNL, pr_sortL, cNiN, cInC, tr_bl, tr_non, tr_nat, tr_lst, tr_tup, ix_t0, ix_t1, ix_t2, ix_t3, ix_l0, ix_l1, ix_l2, ix_l3, ix_c0, ix_c1, pr_lenL, pr_lenT, pr_lenC, pr_lenD, pr_lenK, pr_tupL, pr_tupT, pr_lstL, pr_lstT, pr_lstC, pr_lstS, pr_intN, pr_intB, pr_sumN, pr_allB, pr_anyB, it_lst, it_tup, it_cov, sq_lst, sq_tup, sq_cov, fl_nat, fl_str, fl_bl, fl_non, fl_lst, fl_tup, fl_cube, fl_cover, fit0, fit1, fit2, fit3, fit4, end_none, end_nat, sl_lt, sl_lf, sl_tt, sl_tf, sl_ct, sl_cf, map_snoc, T_is_number, io_is_number, T_is_cube, io_is_cube, T_is_cover, io_is_cover, T_in_cube, io_in_cube, T_in_cover, io_in_cover, T_is_gate, io_is_gate, T_next_value, io_next_value, T_fights, io_fights, T_reads, io_reads, T__law_draws, io__law_draws, T__law_draw, io__law_draw, T__law_same, io__law_same, T__law_has, io__law_has, T__law_in, io__law_in, T__law_cube, io__law_cube, T__law_cover, io__law_cover, T__law_bits, io__law_bits, T__law_odd, io__law_odd, T__law_next, io__law_next, T__law_gate, io__law_gate, T__law_reads, io__law_reads, T__law_wrong, io__law_wrong, T_law, io_law, op_k_is_cover_0, rs_k_is_cover_0, op_k_in_cover_0, rs_k_in_cover_0, op_k__law_in_0, rs_k__law_in_0, op_k__law_cover_0, rs_k__law_cover_0, op_k__law_reads_2, rs_k__law_reads_2, hd, hr]) rfl h1 (by rw [List.length_map]; omega)
  refine ⟨cs, s2, ?_, hcs, by omega⟩
  rw [callF_body T__law_cover rfl]
  simp -implicitDefEqProofs only [f__law_cover, List.map_cons, List.map_nil, List.cons_append, List.nil_append, List.replicate, Nat.sub_self, Nat.reduceSub, end_rt, end_nx, end_ite, outsOf, forN_nil, bindV, bind_ite, opt_some, es_nil', es_cons', then_nx, then_bk, then_ct, then_rt, es1_asg', es1_setx', es1_aug', es1_par', es1_app', es1_ext', es1_ex', es1_ret', op_var, rs_var, op_cst, rs_cst, op_tup, rs_tup, op_lst, rs_lst, op_bin, rs_bin, op_un, rs_un, op_nt, rs_nt, op_cmp, rs_cmp, op_cmp2, rs_cmp2, op_and, rs_and, op_or, rs_or, op_ife, rs_ife, op_ix, rs_ix, op_sl, rs_sl, op_rev, rs_rev, op_call, rs_call, op_prim, rs_prim, op_comp, rs_comp, op_pop, rs_pop, op_dnew, rs_dnew, op_get, rs_get, es1_ret0', es1_ite', es1_brk', es1_cnt', es1_pass', es1_for', es1_wh', ev_var', ev_cst', ev_tup', ev_lst', ev_bin', ev_un', ev_nt', ev_cmp', ev_cmp2', ev_and', ev_or', ev_ife', ev_ix', ev_sl', ev_rev', ev_call', ev_prim', ev_pop', ev_dnew', ev_get', ev_sset', ev_lset', op_sset, op_lset, rs_sset, rs_lset, evs_nil', evs_cons', evx_no', evx_yes', evt_tru', evt_and', evt_or', evt_nt', evt_e', evi_seq', evi_rng', evi_rng2', evi_enum', getB, setB, pk, tk, pks, tks, B.dat, asg_nm, asg_tp, asg_cube, asgN, onOwn, stillB, backB, wipeB, turnF, turnX, turnC, ite_caA, ite_caO, ite_rA, ite_cp, ite_blT, ite_blF, ite_bT, ite_bF, ite_rF, ite_rT, ite_caF, ite_caT, doCall, callArgs, backIn, frzIn, okSlots, slotsOf, List.all_cons, List.all_nil, List.nodup_cons, List.nodup_nil, List.not_mem_nil, not_false_eq_true, and_self, decide_true, List.contains_nil, List.contains_cons, beq_true, beq_false, Bool.true_beq, Bool.false_beq, decide_false, if_true, if_false, Bool.false_eq_true, Bool.and_true, Bool.true_and, Bool.and_false, Bool.false_and, Bool.or_true, Bool.true_or, Bool.or_false, Bool.false_or, Bool.not_true, Bool.not_false, beq_self_eq_true, Bool.not_not, reduceIte, Nat.reduceBEq, Nat.reduceLT, Nat.reduceLeDiff, Nat.reduceAdd, Nat.reducePow, reduceCtorEq, BEq.rfl, List.length_cons, List.length_nil, List.length_map, List.map_cons, List.map_nil, String.reduceBEq, Option.some.injEq, pi_dct_int, pi_dct_bool, pi_dct_str, pi_dct_tuple, pi_dct_list, pi_tup_int, pi_tup_bool, pi_tup_str, pi_tup_tuple, pi_tup_list, pi_lst_int, pi_lst_bool, pi_lst_str, pi_lst_tuple, pi_lst_list, pi_int_int, pi_int_bool, pi_int_str, pi_int_tuple, pi_int_list, pi_bl_int, pi_bl_bool, pi_bl_str, pi_bl_tuple, pi_bl_list, pi_str_int, pi_str_bool, pi_str_str, pi_str_tuple, pi_str_list, pi_non_int, pi_non_bool, pi_non_str, pi_non_tuple, pi_non_list, pi_nat_int, pi_nat_bool, pi_nat_str, pi_nat_tuple, pi_nat_list, pi_strd_int, pi_strd_bool, pi_strd_str, pi_strd_tuple, pi_strd_list, pi_cube_int, pi_cube_bool, pi_cube_str, pi_cube_tuple, pi_cube_list, pi_cover_int, pi_cover_bool, pi_cover_str, pi_cover_tuple, pi_cover_list, cover_mk, ← List.map_take, ← List.map_drop, it_cube, sq_cube, uNeg1, ltNeg, key_nat, get_n, ix_dn, Option.map_some, cube_mk, bAdd, bAnd, bOr, bXor, bShr, uInv, bAndNot, aAdd, aOr, cEqN, cNeN, cEqS, cNeS, cEqC, cNeC, cEqB, cNeB, cLtN, cLeN, cGtN, cGeN, cIsN, cNsN, none_non, none_nat, none_cube, none_bl, none_str, none_tup, cIsB, cNsB, cInN, cEqNL, cNeNL, pr_sortL, cNiN, cInC, tr_bl, tr_non, tr_nat, tr_lst, tr_tup, ix_t0, ix_t1, ix_t2, ix_t3, ix_l0, ix_l1, ix_l2, ix_l3, ix_c0, ix_c1, pr_lenL, pr_lenT, pr_lenC, pr_lenD, pr_lenK, pr_tupL, pr_tupT, pr_lstL, pr_lstT, pr_lstC, pr_lstS, pr_intN, pr_intB, pr_sumN, pr_allB, pr_anyB, it_lst, it_tup, it_cov, sq_lst, sq_tup, sq_cov, fl_nat, fl_str, fl_bl, fl_non, fl_lst, fl_tup, fl_cube, fl_cover, fit0, fit1, fit2, fit3, fit4, end_none, end_nat, sl_lt, sl_lf, sl_tt, sl_tf, sl_ct, sl_cf, map_snoc, T_is_number, io_is_number, T_is_cube, io_is_cube, T_is_cover, io_is_cover, T_in_cube, io_in_cube, T_in_cover, io_in_cover, T_is_gate, io_is_gate, T_next_value, io_next_value, T_fights, io_fights, T_reads, io_reads, T__law_draws, io__law_draws, T__law_draw, io__law_draw, T__law_same, io__law_same, T__law_has, io__law_has, T__law_in, io__law_in, T__law_cube, io__law_cube, T__law_cover, io__law_cover, T__law_bits, io__law_bits, T__law_odd, io__law_odd, T__law_next, io__law_next, T__law_gate, io__law_gate, T__law_reads, io__law_reads, T__law_wrong, io__law_wrong, T_law, io_law, op_k_is_cover_0, rs_k_is_cover_0, op_k_in_cover_0, rs_k_in_cover_0, op_k__law_in_0, rs_k__law_in_0, op_k__law_cover_0, rs_k__law_cover_0, op_k__law_reads_2, rs_k__law_reads_2, hev, cover_mk]
def statesL (cs : List (Nat × Nat)) (w : Nat) : List Nat := (List.range (2 ^ w)).filter fun x => cs.any (hasB x)
/-! cubes in plain numbers -/
def bitsL (w mask : Nat) : List Nat := (List.range w).filter fun i => mask.testBit i
theorem bits_len (w mask : Nat) : (bitsL w mask).length ≤ w := by
  have := List.length_filter_le (fun i => mask.testBit i) (List.range w)
  rwa [List.length_range] at this
theorem bits_step (j mask : Nat) : bitsL (j + 1) mask = if mask.testBit j = true then bitsL j mask ++ [j] else bitsL j mask := by
  unfold bitsL
  rw [List.range_succ, List.filter_append, List.filter_cons, List.filter_nil]
  split <;> simp
theorem bits_done {mask j : Nat} (hz : mask >>> j = 0) : ∀ {w : Nat}, j ≤ w → bitsL j mask = bitsL w mask
  | 0, h => by have : j = 0 := by omega
               rw [this]
  | w + 1, h => by
    by_cases q : j = w + 1
    · rw [q]
    · have hb : mask.testBit w = false := by
        have h0 := congrArg (fun z => Nat.testBit z (w - j)) hz
        simp only [Nat.testBit_shiftRight, Nat.zero_testBit] at h0
        rwa [show j + (w - j) = w by omega] at h0
      rw [bits_step, hb, bits_done hz (w := w) (by omega)]
      simp
theorem bits_mem {w mask i : Nat} : i ∈ bitsL w mask ↔ i < w ∧ mask.testBit i = true := by
  unfold bitsL
  rw [List.mem_filter, List.mem_range]
theorem bits_nodup (w mask : Nat) : (bitsL w mask).Nodup := List.Nodup.sublist List.filter_sublist List.nodup_range
theorem bit_at (mask j : Nat) : (mask >>> j &&& 1 == 1) = mask.testBit j := by
  rw [Nat.testBit, Bool.eq_iff_iff, beq_iff_eq, bne_iff_ne, Nat.and_comm]
  have : 1 &&& mask >>> j < 2 := Nat.lt_of_le_of_lt Nat.and_le_left (by omega)
  omega
theorem bit_num (a j : Nat) : a >>> j &&& 1 = if a.testBit j = true then 1 else 0 := by
  have h := bit_at a j
  have h2 : a >>> j &&& 1 < 2 := Nat.lt_of_le_of_lt Nat.and_le_right (by omega)
  generalize a >>> j &&& 1 = z at h h2
  cases hb : a.testBit j with
  | true => rw [hb, beq_iff_eq] at h; rw [h]; rfl
  | false =>
    rw [hb, beq_eq_false_iff_ne] at h
    rw [if_neg (by simp)]; omega
theorem two_bit (w : Nat) (b : Bool) (i : Nat) : (if b = true then 2 ^ w else 0 : Nat).testBit i = (b && decide (w = i)) := by
  cases b
  · simp
  · simp [Nat.testBit_two_pow]
theorem lt_of_bits {a n : Nat} (h : ∀ i, a.testBit i = true → i < n) : a < 2 ^ n := by
  refine Nat.lt_pow_two_of_testBit _ fun i hi => ?_
  cases q : a.testBit i with
  | false => rfl
  | true => have := h i q; omega
theorem bit_lt {a n i : Nat} (h : a < 2 ^ n) (hi : a.testBit i = true) : i < n := by
  refine Nat.lt_of_not_le fun q => ?_
  rw [Nat.testBit_lt_two_pow (Nat.lt_of_lt_of_le h (Nat.pow_le_pow_right (by omega) q))] at hi
  cases hi
theorem nd_lt {a b n : Nat} (h : a < 2 ^ n) : nd a b < 2 ^ n := lt_of_bits fun i hi => by
  rw [nd_bit, Bool.and_eq_true] at hi
  exact bit_lt h hi.1
/-- where both ask and want something else -/
def clash (a b : Nat × Nat) : Nat := (a.2 ^^^ b.2) &&& a.1 &&& b.1
def lies (a b : Nat × Nat) : Bool := (b.1 &&& a.1 == b.1) && (a.2 &&& b.1 == b.2)
/-- the part of the cube with the wire at the level -/
def low (c : Nat × Nat) (v l : Nat) : Nat × Nat := (c.1 ||| 2 ^ v, c.2 ||| l <<< v)
def isNum : D → Int → Int → Bool
  | .int i, lo, hi => decide (lo ≤ i) && decide (i ≤ hi)
  | _, _, _ => false
theorem is_number_int {N : Nat} (hN : 1 ≤ N) (i lo hi : Int) : callF T m N 0 [.sh (.int i), .sh (.int lo), .sh (.int hi)] = .ret false (.bl (isNum (.int i) lo hi)) [.sh (.int i), .sh (.int lo), .sh (.int hi)] := by
  obtain ⟨n, rfl, hn⟩ := to_succ hN
  have h1 : ∀ a b : Int, cmpD .LtE (.int a) (.int b) = some (decide (a ≤ b)) := fun _ _ => rfl
  rw [callF_body T_is_number rfl]
  simp -implicitDefEqProofs only [f_is_number, List.map_cons, List.map_nil, List.cons_append, List.nil_append, List.replicate, Nat.sub_self, Nat.reduceSub, end_rt, end_nx, end_ite, outsOf, forN_nil, bindV, bind_ite, opt_some, es_nil', es_cons', then_nx, then_bk, then_ct, then_rt, es1_asg', es1_setx', es1_aug', es1_par', es1_app', es1_ext', es1_ex', es1_ret', op_var, rs_var, op_cst, rs_cst, op_tup, rs_tup, op_lst, rs_lst, op_bin, rs_bin, op_un, rs_un, op_nt, rs_nt, op_cmp, rs_cmp, op_cmp2, rs_cmp2, op_and, rs_and, op_or, rs_or, op_ife, rs_ife, op_ix, rs_ix, op_sl, rs_sl, op_rev, rs_rev, op_call, rs_call, op_prim, rs_prim, op_comp, rs_comp, op_pop, rs_pop, op_dnew, rs_dnew, op_get, rs_get, es1_ret0', es1_ite', es1_brk', es1_cnt', es1_pass', es1_for', es1_wh', ev_var', ev_cst', ev_tup', ev_lst', ev_bin', ev_un', ev_nt', ev_cmp', ev_cmp2', ev_and', ev_or', ev_ife', ev_ix', ev_sl', ev_rev', ev_call', ev_prim', ev_pop', ev_dnew', ev_get', ev_sset', ev_lset', op_sset, op_lset, rs_sset, rs_lset, evs_nil', evs_cons', evx_no', evx_yes', evt_tru', evt_and', evt_or', evt_nt', evt_e', evi_seq', evi_rng', evi_rng2', evi_enum', getB, setB, pk, tk, pks, tks, B.dat, asg_nm, asg_tp, asg_cube, asgN, onOwn, stillB, backB, wipeB, turnF, turnX, turnC, ite_caA, ite_caO, ite_rA, ite_cp, ite_blT, ite_blF, ite_bT, ite_bF, ite_rF, ite_rT, ite_caF, ite_caT, doCall, callArgs, backIn, frzIn, okSlots, slotsOf, List.all_cons, List.all_nil, List.nodup_cons, List.nodup_nil, List.not_mem_nil, not_false_eq_true, and_self, decide_true, List.contains_nil, List.contains_cons, beq_true, beq_false, Bool.true_beq, Bool.false_beq, decide_false, if_true, if_false, Bool.false_eq_true, Bool.and_true, Bool.true_and, Bool.and_false, Bool.false_and, Bool.or_true, Bool.true_or, Bool.or_false, Bool.false_or, Bool.not_true, Bool.not_false, beq_self_eq_true, Bool.not_not, reduceIte, Nat.reduceBEq, Nat.reduceLT, Nat.reduceLeDiff, Nat.reduceAdd, Nat.reducePow, reduceCtorEq, BEq.rfl, List.length_cons, List.length_nil, List.length_map, List.map_cons, List.map_nil, String.reduceBEq, Option.some.injEq, pi_dct_int, pi_dct_bool, pi_dct_str, pi_dct_tuple, pi_dct_list, pi_tup_int, pi_tup_bool, pi_tup_str, pi_tup_tuple, pi_tup_list, pi_lst_int, pi_lst_bool, pi_lst_str, pi_lst_tuple, pi_lst_list, pi_int_int, pi_int_bool, pi_int_str, pi_int_tuple, pi_int_list, pi_bl_int, pi_bl_bool, pi_bl_str, pi_bl_tuple, pi_bl_list, pi_str_int, pi_str_bool, pi_str_str, pi_str_tuple, pi_str_list, pi_non_int, pi_non_bool, pi_non_str, pi_non_tuple, pi_non_list, pi_nat_int, pi_nat_bool, pi_nat_str, pi_nat_tuple, pi_nat_list, pi_strd_int, pi_strd_bool, pi_strd_str, pi_strd_tuple, pi_strd_list, pi_cube_int, pi_cube_bool, pi_cube_str, pi_cube_tuple, pi_cube_list, pi_cover_int, pi_cover_bool, pi_cover_str, pi_cover_tuple, pi_cover_list, cover_mk, ← List.map_take, ← List.map_drop, it_cube, sq_cube, uNeg1, ltNeg, key_nat, get_n, ix_dn, Option.map_some, cube_mk, bAdd, bAnd, bOr, bXor, bShr, uInv, bAndNot, aAdd, aOr, cEqN, cNeN, cEqS, cNeS, cEqC, cNeC, cEqB, cNeB, cLtN, cLeN, cGtN, cGeN, cIsN, cNsN, none_non, none_nat, none_cube, none_bl, none_str, none_tup, cIsB, cNsB, cInN, cEqNL, cNeNL, pr_sortL, cNiN, cInC, tr_bl, tr_non, tr_nat, tr_lst, tr_tup, ix_t0, ix_t1, ix_t2, ix_t3, ix_l0, ix_l1, ix_l2, ix_l3, ix_c0, ix_c1, pr_lenL, pr_lenT, pr_lenC, pr_lenD, pr_lenK, pr_tupL, pr_tupT, pr_lstL, pr_lstT, pr_lstC, pr_lstS, pr_intN, pr_intB, pr_sumN, pr_allB, pr_anyB, it_lst, it_tup, it_cov, sq_lst, sq_tup, sq_cov, fl_nat, fl_str, fl_bl, fl_non, fl_lst, fl_tup, fl_cube, fl_cover, fit0, fit1, fit2, fit3, fit4, end_none, end_nat, sl_lt, sl_lf, sl_tt, sl_tf, sl_ct, sl_cf, map_snoc, T_is_number, io_is_number, T_is_cube, io_is_cube, T_is_cover, io_is_cover, T_in_cube, io_in_cube, T_in_cover, io_in_cover, T_is_gate, io_is_gate, T_next_value, io_next_value, T_fights, io_fights, T_reads, io_reads, T__law_draws, io__law_draws, T__law_draw, io__law_draw, T__law_same, io__law_same, T__law_has, io__law_has, T__law_in, io__law_in, T__law_cube, io__law_cube, T__law_cover, io__law_cover, T__law_bits, io__law_bits, T__law_odd, io__law_odd, T__law_next, io__law_next, T__law_gate, io__law_gate, T__law_reads, io__law_reads, T__law_wrong, io__law_wrong, T_law, io_law, op_k_is_cover_0, rs_k_is_cover_0, op_k_in_cover_0, rs_k_in_cover_0, op_k__law_in_0, rs_k__law_in_0, op_k__law_cover_0, rs_k__law_cover_0, op_k__law_reads_2, rs_k__law_reads_2, primD, tyOf, isiD, List.contains_cons, List.contains_nil, beq_self_eq_true, String.reduceBEq, Bool.or_self, Bool.or_false, Bool.false_or, Bool.true_or, Bool.or_true, Bool.and_self, Bool.and_true, Bool.and_false, isNum, h1]
theorem is_number_ok {N : Nat} (hN : 1 ≤ N) {d : D} {k : Nat} (hd : d.ok k = true) (lo hi : Int) : callF T m N 0 [.sh d, .sh (.int lo), .sh (.int hi)] = .ret false (.bl (isNum d lo hi)) [.sh d, .sh (.int lo), .sh (.int hi)] := by
  obtain ⟨n, rfl, hn⟩ := to_succ hN
  have h1 : ∀ a b : Int, cmpD .LtE (.int a) (.int b) = some (decide (a ≤ b)) := fun _ _ => rfl
  rw [callF_body T_is_number rfl]
  cases d <;> first
    | (exfalso; simp only [D.ok] at hd; cases hd; done)
    | simp -implicitDefEqProofs only [f_is_number, List.map_cons, List.map_nil, List.cons_append, List.nil_append, List.replicate, Nat.sub_self, Nat.reduceSub, end_rt, end_nx, end_ite, outsOf, forN_nil, bindV, bind_ite, opt_some, es_nil', es_cons', then_nx, then_bk, then_ct, then_rt, es1_asg', es1_setx', es1_aug', es1_par', es1_app', es1_ext', es1_ex', es1_ret', op_var, rs_var, op_cst, rs_cst, op_tup, rs_tup, op_lst, rs_lst, op_bin, rs_bin, op_un, rs_un, op_nt, rs_nt, op_cmp, rs_cmp, op_cmp2, rs_cmp2, op_and, rs_and, op_or, rs_or, op_ife, rs_ife, op_ix, rs_ix, op_sl, rs_sl, op_rev, rs_rev, op_call, rs_call, op_prim, rs_prim, op_comp, rs_comp, op_pop, rs_pop, op_dnew, rs_dnew, op_get, rs_get, es1_ret0', es1_ite', es1_brk', es1_cnt', es1_pass', es1_for', es1_wh', ev_var', ev_cst', ev_tup', ev_lst', ev_bin', ev_un', ev_nt', ev_cmp', ev_cmp2', ev_and', ev_or', ev_ife', ev_ix', ev_sl', ev_rev', ev_call', ev_prim', ev_pop', ev_dnew', ev_get', ev_sset', ev_lset', op_sset, op_lset, rs_sset, rs_lset, evs_nil', evs_cons', evx_no', evx_yes', evt_tru', evt_and', evt_or', evt_nt', evt_e', evi_seq', evi_rng', evi_rng2', evi_enum', getB, setB, pk, tk, pks, tks, B.dat, asg_nm, asg_tp, asg_cube, asgN, onOwn, stillB, backB, wipeB, turnF, turnX, turnC, ite_caA, ite_caO, ite_rA, ite_cp, ite_blT, ite_blF, ite_bT, ite_bF, ite_rF, ite_rT, ite_caF, ite_caT, doCall, callArgs, backIn, frzIn, okSlots, slotsOf, List.all_cons, List.all_nil, List.nodup_cons, List.nodup_nil, List.not_mem_nil, not_false_eq_true, and_self, decide_true, List.contains_nil, List.contains_cons, beq_true, beq_false, Bool.true_beq, Bool.false_beq, decide_false, if_true, if_false, Bool.false_eq_true, Bool.and_true, Bool.true_and, Bool.and_false, Bool.false_and, Bool.or_true, Bool.true_or, Bool.or_false, Bool.false_or, Bool.not_true, Bool.not_false, beq_self_eq_true, Bool.not_not, reduceIte, Nat.reduceBEq, Nat.reduceLT, Nat.reduceLeDiff, Nat.reduceAdd, Nat.reducePow, reduceCtorEq, BEq.rfl, List.length_cons, List.length_nil, List.length_map, List.map_cons, List.map_nil, String.reduceBEq, Option.some.injEq, pi_dct_int, pi_dct_bool, pi_dct_str, pi_dct_tuple, pi_dct_list, pi_tup_int, pi_tup_bool, pi_tup_str, pi_tup_tuple, pi_tup_list, pi_lst_int, pi_lst_bool, pi_lst_str, pi_lst_tuple, pi_lst_list, pi_int_int, pi_int_bool, pi_int_str, pi_int_tuple, pi_int_list, pi_bl_int, pi_bl_bool, pi_bl_str, pi_bl_tuple, pi_bl_list, pi_str_int, pi_str_bool, pi_str_str, pi_str_tuple, pi_str_list, pi_non_int, pi_non_bool, pi_non_str, pi_non_tuple, pi_non_list, pi_nat_int, pi_nat_bool, pi_nat_str, pi_nat_tuple, pi_nat_list, pi_strd_int, pi_strd_bool, pi_strd_str, pi_strd_tuple, pi_strd_list, pi_cube_int, pi_cube_bool, pi_cube_str, pi_cube_tuple, pi_cube_list, pi_cover_int, pi_cover_bool, pi_cover_str, pi_cover_tuple, pi_cover_list, cover_mk, ← List.map_take, ← List.map_drop, it_cube, sq_cube, uNeg1, ltNeg, key_nat, get_n, ix_dn, Option.map_some, cube_mk, bAdd, bAnd, bOr, bXor, bShr, uInv, bAndNot, aAdd, aOr, cEqN, cNeN, cEqS, cNeS, cEqC, cNeC, cEqB, cNeB, cLtN, cLeN, cGtN, cGeN, cIsN, cNsN, none_non, none_nat, none_cube, none_bl, none_str, none_tup, cIsB, cNsB, cInN, cEqNL, cNeNL, pr_sortL, cNiN, cInC, tr_bl, tr_non, tr_nat, tr_lst, tr_tup, ix_t0, ix_t1, ix_t2, ix_t3, ix_l0, ix_l1, ix_l2, ix_l3, ix_c0, ix_c1, pr_lenL, pr_lenT, pr_lenC, pr_lenD, pr_lenK, pr_tupL, pr_tupT, pr_lstL, pr_lstT, pr_lstC, pr_lstS, pr_intN, pr_intB, pr_sumN, pr_allB, pr_anyB, it_lst, it_tup, it_cov, sq_lst, sq_tup, sq_cov, fl_nat, fl_str, fl_bl, fl_non, fl_lst, fl_tup, fl_cube, fl_cover, fit0, fit1, fit2, fit3, fit4, end_none, end_nat, sl_lt, sl_lf, sl_tt, sl_tf, sl_ct, sl_cf, map_snoc, T_is_number, io_is_number, T_is_cube, io_is_cube, T_is_cover, io_is_cover, T_in_cube, io_in_cube, T_in_cover, io_in_cover, T_is_gate, io_is_gate, T_next_value, io_next_value, T_fights, io_fights, T_reads, io_reads, T__law_draws, io__law_draws, T__law_draw, io__law_draw, T__law_same, io__law_same, T__law_has, io__law_has, T__law_in, io__law_in, T__law_cube, io__law_cube, T__law_cover, io__law_cover, T__law_bits, io__law_bits, T__law_odd, io__law_odd, T__law_next, io__law_next, T__law_gate, io__law_gate, T__law_reads, io__law_reads, T__law_wrong, io__law_wrong, T_law, io_law, op_k_is_cover_0, rs_k_is_cover_0, op_k_in_cover_0, rs_k_in_cover_0, op_k__law_in_0, rs_k__law_in_0, op_k__law_cover_0, rs_k__law_cover_0, op_k__law_reads_2, rs_k__law_reads_2, primD, tyOf, isiD, List.contains_cons, List.contains_nil, beq_self_eq_true, String.reduceBEq, Bool.or_self, Bool.or_false, Bool.false_or, Bool.true_or, Bool.or_true, Bool.and_self, Bool.and_true, Bool.and_false, isNum, h1]
theorem is_number_nat {N : Nat} (hN : 1 ≤ N) (i lo hi : Nat) : callF T m N 0 [.sh (natD i), .sh (natD lo), .sh (natD hi)] = .ret false (.bl (decide (lo ≤ i) && decide (i ≤ hi))) [.sh (natD i), .sh (natD lo), .sh (natD hi)] := by
  have h := is_number_int (m := m) hN (i : Int) (lo : Int) (hi : Int)
  have e : isNum (.int (i : Int)) (lo : Int) (hi : Int) = (decide (lo ≤ i) && decide (i ≤ hi)) := by
    show (decide ((lo : Int) ≤ i) && decide ((i : Int) ≤ hi)) = _
    simp only [Int.ofNat_le]
  rw [e] at h
  exact h
theorem _law_bits_loop {n : Nat} {w : Nat} (hw : w ≤ 900) (mask : Nat) (hm : mask < 2 ^ w) : ∀ (k j f : Nat), k + j = w → k < f →
    ∃ y, whN (evt T (callF T m n) c__law_bits_0) (es T (callF T m n) m b__law_bits_1) f [some (.sh (natD mask)), some (.ow (.lst ((bitsL j mask).map natD))), some (.sh (natD j))] = .val .nx [some (.sh (natD mask)), some (.ow (.lst ((bitsL w mask).map natD))), y]
  | k, j, 0, _, h => by omega
  | k, j, f + 1, hk, h => by
    by_cases hz : mask >>> j = 0
    · have hc : evt T (callF T m n) c__law_bits_0 [some (.sh (natD mask)), some (.ow (.lst ((bitsL j mask).map natD))), some (.sh (natD j))] = .val false [some (.sh (natD mask)), some (.ow (.lst ((bitsL j mask).map natD))), some (.sh (natD j))] := by
        simp -implicitDefEqProofs only [c__law_bits_0, forN_nil, bindV, bind_ite, opt_some, es_nil', es_cons', then_nx, then_bk, then_ct, then_rt, es1_asg', es1_setx', es1_aug', es1_par', es1_app', es1_ext', es1_ex', es1_ret', op_var, rs_var, op_cst, rs_cst, op_tup, rs_tup, op_lst, rs_lst, op_bin, rs_bin, op_un, rs_un, op_nt, rs_nt, op_cmp, rs_cmp, op_cmp2, rs_cmp2, op_and, rs_and, op_or, rs_or, op_ife, rs_ife, op_ix, rs_ix, op_sl, rs_sl, op_rev, rs_rev, op_call, rs_call, op_prim, rs_prim, op_comp, rs_comp, op_pop, rs_pop, op_dnew, rs_dnew, op_get, rs_get, es1_ret0', es1_ite', es1_brk', es1_cnt', es1_pass', es1_for', es1_wh', ev_var', ev_cst', ev_tup', ev_lst', ev_bin', ev_un', ev_nt', ev_cmp', ev_cmp2', ev_and', ev_or', ev_ife', ev_ix', ev_sl', ev_rev', ev_call', ev_prim', ev_pop', ev_dnew', ev_get', ev_sset', ev_lset', op_sset, op_lset, rs_sset, rs_lset, evs_nil', evs_cons', evx_no', evx_yes', evt_tru', evt_and', evt_or', evt_nt', evt_e', evi_seq', evi_rng', evi_rng2', evi_enum', getB, setB, pk, tk, pks, tks, B.dat, asg_nm, asg_tp, asg_cube, asgN, onOwn, stillB, backB, wipeB, turnF, turnX, turnC, ite_caA, ite_caO, ite_rA, ite_cp, ite_blT, ite_blF, ite_bT, ite_bF, ite_rF, ite_rT, ite_caF, ite_caT, doCall, callArgs, backIn, frzIn, okSlots, slotsOf, List.all_cons, List.all_nil, List.nodup_cons, List.nodup_nil, List.not_mem_nil, not_false_eq_true, and_self, decide_true, List.contains_nil, List.contains_cons, beq_true, beq_false, Bool.true_beq, Bool.false_beq, decide_false, if_true, if_false, Bool.false_eq_true, Bool.and_true, Bool.true_and, Bool.and_false, Bool.false_and, Bool.or_true, Bool.true_or, Bool.or_false, Bool.false_or, Bool.not_true, Bool.not_false, beq_self_eq_true, Bool.not_not, reduceIte, Nat.reduceBEq, Nat.reduceLT, Nat.reduceLeDiff, Nat.reduceAdd, Nat.reducePow, reduceCtorEq, BEq.rfl, List.length_cons, List.length_nil, List.length_map, List.map_cons, List.map_nil, String.reduceBEq, Option.some.injEq, pi_dct_int, pi_dct_bool, pi_dct_str, pi_dct_tuple, pi_dct_list, pi_tup_int, pi_tup_bool, pi_tup_str, pi_tup_tuple, pi_tup_list, pi_lst_int, pi_lst_bool, pi_lst_str, pi_lst_tuple, pi_lst_list, pi_int_int, pi_int_bool, pi_int_str, pi_int_tuple, pi_int_list, pi_bl_int, pi_bl_bool, pi_bl_str, pi_bl_tuple, pi_bl_list, pi_str_int, pi_str_bool, pi_str_str, pi_str_tuple, pi_str_list, pi_non_int, pi_non_bool, pi_non_str, pi_non_tuple, pi_non_list, pi_nat_int, pi_nat_bool, pi_nat_str, pi_nat_tuple, pi_nat_list, pi_strd_int, pi_strd_bool, pi_strd_str, pi_strd_tuple, pi_strd_list, pi_cube_int, pi_cube_bool, pi_cube_str, pi_cube_tuple, pi_cube_list, pi_cover_int, pi_cover_bool, pi_cover_str, pi_cover_tuple, pi_cover_list, cover_mk, ← List.map_take, ← List.map_drop, it_cube, sq_cube, uNeg1, ltNeg, key_nat, get_n, ix_dn, Option.map_some, cube_mk, bAdd, bAnd, bOr, bXor, bShr, uInv, bAndNot, aAdd, aOr, cEqN, cNeN, cEqS, cNeS, cEqC, cNeC, cEqB, cNeB, cLtN, cLeN, cGtN, cGeN, cIsN, cNsN, none_non, none_nat, none_cube, none_bl, none_str, none_tup, cIsB, cNsB, cInN, cEqNL, cNeNL, pr_sortL, cNiN, cInC, tr_bl, tr_non, tr_nat, tr_lst, tr_tup, ix_t0, ix_t1, ix_t2, ix_t3, ix_l0, ix_l1, ix_l2, ix_l3, ix_c0, ix_c1, pr_lenL, pr_lenT, pr_lenC, pr_lenD, pr_lenK, pr_tupL, pr_tupT, pr_lstL, pr_lstT, pr_lstC, pr_lstS, pr_intN, pr_intB, pr_sumN, pr_allB, pr_anyB, it_lst, it_tup, it_cov, sq_lst, sq_tup, sq_cov, fl_nat, fl_str, fl_bl, fl_non, fl_lst, fl_tup, fl_cube, fl_cover, fit0, fit1, fit2, fit3, fit4, end_none, end_nat, sl_lt, sl_lf, sl_tt, sl_tf, sl_ct, sl_cf, map_snoc, T_is_number, io_is_number, T_is_cube, io_is_cube, T_is_cover, io_is_cover, T_in_cube, io_in_cube, T_in_cover, io_in_cover, T_is_gate, io_is_gate, T_next_value, io_next_value, T_fights, io_fights, T_reads, io_reads, T__law_draws, io__law_draws, T__law_draw, io__law_draw, T__law_same, io__law_same, T__law_has, io__law_has, T__law_in, io__law_in, T__law_cube, io__law_cube, T__law_cover, io__law_cover, T__law_bits, io__law_bits, T__law_odd, io__law_odd, T__law_next, io__law_next, T__law_gate, io__law_gate, T__law_reads, io__law_reads, T__law_wrong, io__law_wrong, T_law, io_law, op_k_is_cover_0, rs_k_is_cover_0, op_k_in_cover_0, rs_k_in_cover_0, op_k__law_in_0, rs_k__law_in_0, op_k__law_cover_0, rs_k__law_cover_0, op_k__law_reads_2, rs_k__law_reads_2, hz, Nat.lt_irrefl]
      refine ⟨some (.sh (natD j)), ?_⟩
      rw [whN_stop hc, bits_done (j := j) (w := w) hz (by omega)]
    · have hj : j < w := by
        refine Nat.lt_of_not_le fun q => hz ?_
        rw [Nat.shiftRight_eq_div_pow, Nat.div_eq_of_lt]
        exact Nat.lt_of_lt_of_le hm (Nat.pow_le_pow_right (by omega) q)
      have hp : 0 < mask >>> j := Nat.pos_of_ne_zero hz
      have hc : evt T (callF T m n) c__law_bits_0 [some (.sh (natD mask)), some (.ow (.lst ((bitsL j mask).map natD))), some (.sh (natD j))] = .val true [some (.sh (natD mask)), some (.ow (.lst ((bitsL j mask).map natD))), some (.sh (natD j))] := by
        simp -implicitDefEqProofs only [c__law_bits_0, forN_nil, bindV, bind_ite, opt_some, es_nil', es_cons', then_nx, then_bk, then_ct, then_rt, es1_asg', es1_setx', es1_aug', es1_par', es1_app', es1_ext', es1_ex', es1_ret', op_var, rs_var, op_cst, rs_cst, op_tup, rs_tup, op_lst, rs_lst, op_bin, rs_bin, op_un, rs_un, op_nt, rs_nt, op_cmp, rs_cmp, op_cmp2, rs_cmp2, op_and, rs_and, op_or, rs_or, op_ife, rs_ife, op_ix, rs_ix, op_sl, rs_sl, op_rev, rs_rev, op_call, rs_call, op_prim, rs_prim, op_comp, rs_comp, op_pop, rs_pop, op_dnew, rs_dnew, op_get, rs_get, es1_ret0', es1_ite', es1_brk', es1_cnt', es1_pass', es1_for', es1_wh', ev_var', ev_cst', ev_tup', ev_lst', ev_bin', ev_un', ev_nt', ev_cmp', ev_cmp2', ev_and', ev_or', ev_ife', ev_ix', ev_sl', ev_rev', ev_call', ev_prim', ev_pop', ev_dnew', ev_get', ev_sset', ev_lset', op_sset, op_lset, rs_sset, rs_lset, evs_nil', evs_cons', evx_no', evx_yes', evt_tru', evt_and', evt_or', evt_nt', evt_e', evi_seq', evi_rng', evi_rng2', evi_enum', getB, setB, pk, tk, pks, tks, B.dat, asg_nm, asg_tp, asg_cube, asgN, onOwn, stillB, backB, wipeB, turnF, turnX, turnC, ite_caA, ite_caO, ite_rA, ite_cp, ite_blT, ite_blF, ite_bT, ite_bF, ite_rF, ite_rT, ite_caF, ite_caT, doCall, callArgs, backIn, frzIn, okSlots, slotsOf, List.all_cons, List.all_nil, List.nodup_cons, List.nodup_nil, List.not_mem_nil, not_false_eq_true, and_self, decide_true, List.contains_nil, List.contains_cons, beq_true, beq_false, Bool.true_beq, Bool.false_beq, decide_false, if_true, if_false, Bool.false_eq_true, Bool.and_true, Bool.true_and, Bool.and_false, Bool.false_and, Bool.or_true, Bool.true_or, Bool.or_false, Bool.false_or, Bool.not_true, Bool.not_false, beq_self_eq_true, Bool.not_not, reduceIte, Nat.reduceBEq, Nat.reduceLT, Nat.reduceLeDiff, Nat.reduceAdd, Nat.reducePow, reduceCtorEq, BEq.rfl, List.length_cons, List.length_nil, List.length_map, List.map_cons, List.map_nil, String.reduceBEq, Option.some.injEq, pi_dct_int, pi_dct_bool, pi_dct_str, pi_dct_tuple, pi_dct_list, pi_tup_int, pi_tup_bool, pi_tup_str, pi_tup_tuple, pi_tup_list, pi_lst_int, pi_lst_bool, pi_lst_str, pi_lst_tuple, pi_lst_list, pi_int_int, pi_int_bool, pi_int_str, pi_int_tuple, pi_int_list, pi_bl_int, pi_bl_bool, pi_bl_str, pi_bl_tuple, pi_bl_list, pi_str_int, pi_str_bool, pi_str_str, pi_str_tuple, pi_str_list, pi_non_int, pi_non_bool, pi_non_str, pi_non_tuple, pi_non_list, pi_nat_int, pi_nat_bool, pi_nat_str, pi_nat_tuple, pi_nat_list, pi_strd_int, pi_strd_bool, pi_strd_str, pi_strd_tuple, pi_strd_list, pi_cube_int, pi_cube_bool, pi_cube_str, pi_cube_tuple, pi_cube_list, pi_cover_int, pi_cover_bool, pi_cover_str, pi_cover_tuple, pi_cover_list, cover_mk, ← List.map_take, ← List.map_drop, it_cube, sq_cube, uNeg1, ltNeg, key_nat, get_n, ix_dn, Option.map_some, cube_mk, bAdd, bAnd, bOr, bXor, bShr, uInv, bAndNot, aAdd, aOr, cEqN, cNeN, cEqS, cNeS, cEqC, cNeC, cEqB, cNeB, cLtN, cLeN, cGtN, cGeN, cIsN, cNsN, none_non, none_nat, none_cube, none_bl, none_str, none_tup, cIsB, cNsB, cInN, cEqNL, cNeNL, pr_sortL, cNiN, cInC, tr_bl, tr_non, tr_nat, tr_lst, tr_tup, ix_t0, ix_t1, ix_t2, ix_t3, ix_l0, ix_l1, ix_l2, ix_l3, ix_c0, ix_c1, pr_lenL, pr_lenT, pr_lenC, pr_lenD, pr_lenK, pr_tupL, pr_tupT, pr_lstL, pr_lstT, pr_lstC, pr_lstS, pr_intN, pr_intB, pr_sumN, pr_allB, pr_anyB, it_lst, it_tup, it_cov, sq_lst, sq_tup, sq_cov, fl_nat, fl_str, fl_bl, fl_non, fl_lst, fl_tup, fl_cube, fl_cover, fit0, fit1, fit2, fit3, fit4, end_none, end_nat, sl_lt, sl_lf, sl_tt, sl_tf, sl_ct, sl_cf, map_snoc, T_is_number, io_is_number, T_is_cube, io_is_cube, T_is_cover, io_is_cover, T_in_cube, io_in_cube, T_in_cover, io_in_cover, T_is_gate, io_is_gate, T_next_value, io_next_value, T_fights, io_fights, T_reads, io_reads, T__law_draws, io__law_draws, T__law_draw, io__law_draw, T__law_same, io__law_same, T__law_has, io__law_has, T__law_in, io__law_in, T__law_cube, io__law_cube, T__law_cover, io__law_cover, T__law_bits, io__law_bits, T__law_odd, io__law_odd, T__law_next, io__law_next, T__law_gate, io__law_gate, T__law_reads, io__law_reads, T__law_wrong, io__law_wrong, T_law, io_law, op_k_is_cover_0, rs_k_is_cover_0, op_k_in_cover_0, rs_k_in_cover_0, op_k__law_in_0, rs_k__law_in_0, op_k__law_cover_0, rs_k__law_cover_0, op_k__law_reads_2, rs_k__law_reads_2, hp]
      have hlen : ((bitsL j mask).map natD).length < 1000000 := by have := bits_len j mask; rw [List.length_map]; omega
      have hb : es T (callF T m n) m b__law_bits_1 [some (.sh (natD mask)), some (.ow (.lst ((bitsL j mask).map natD))), some (.sh (natD j))] = .val .nx [some (.sh (natD mask)), some (.ow (.lst ((bitsL (j + 1) mask).map natD))), some (.sh (natD (j + 1)))] := by
        rw [bits_step]
        cases hb : mask.testBit j with
        | true => simp -implicitDefEqProofs only [b__law_bits_1, forN_nil, bindV, bind_ite, opt_some, es_nil', es_cons', then_nx, then_bk, then_ct, then_rt, es1_asg', es1_setx', es1_aug', es1_par', es1_app', es1_ext', es1_ex', es1_ret', op_var, rs_var, op_cst, rs_cst, op_tup, rs_tup, op_lst, rs_lst, op_bin, rs_bin, op_un, rs_un, op_nt, rs_nt, op_cmp, rs_cmp, op_cmp2, rs_cmp2, op_and, rs_and, op_or, rs_or, op_ife, rs_ife, op_ix, rs_ix, op_sl, rs_sl, op_rev, rs_rev, op_call, rs_call, op_prim, rs_prim, op_comp, rs_comp, op_pop, rs_pop, op_dnew, rs_dnew, op_get, rs_get, es1_ret0', es1_ite', es1_brk', es1_cnt', es1_pass', es1_for', es1_wh', ev_var', ev_cst', ev_tup', ev_lst', ev_bin', ev_un', ev_nt', ev_cmp', ev_cmp2', ev_and', ev_or', ev_ife', ev_ix', ev_sl', ev_rev', ev_call', ev_prim', ev_pop', ev_dnew', ev_get', ev_sset', ev_lset', op_sset, op_lset, rs_sset, rs_lset, evs_nil', evs_cons', evx_no', evx_yes', evt_tru', evt_and', evt_or', evt_nt', evt_e', evi_seq', evi_rng', evi_rng2', evi_enum', getB, setB, pk, tk, pks, tks, B.dat, asg_nm, asg_tp, asg_cube, asgN, onOwn, stillB, backB, wipeB, turnF, turnX, turnC, ite_caA, ite_caO, ite_rA, ite_cp, ite_blT, ite_blF, ite_bT, ite_bF, ite_rF, ite_rT, ite_caF, ite_caT, doCall, callArgs, backIn, frzIn, okSlots, slotsOf, List.all_cons, List.all_nil, List.nodup_cons, List.nodup_nil, List.not_mem_nil, not_false_eq_true, and_self, decide_true, List.contains_nil, List.contains_cons, beq_true, beq_false, Bool.true_beq, Bool.false_beq, decide_false, if_true, if_false, Bool.false_eq_true, Bool.and_true, Bool.true_and, Bool.and_false, Bool.false_and, Bool.or_true, Bool.true_or, Bool.or_false, Bool.false_or, Bool.not_true, Bool.not_false, beq_self_eq_true, Bool.not_not, reduceIte, Nat.reduceBEq, Nat.reduceLT, Nat.reduceLeDiff, Nat.reduceAdd, Nat.reducePow, reduceCtorEq, BEq.rfl, List.length_cons, List.length_nil, List.length_map, List.map_cons, List.map_nil, String.reduceBEq, Option.some.injEq, pi_dct_int, pi_dct_bool, pi_dct_str, pi_dct_tuple, pi_dct_list, pi_tup_int, pi_tup_bool, pi_tup_str, pi_tup_tuple, pi_tup_list, pi_lst_int, pi_lst_bool, pi_lst_str, pi_lst_tuple, pi_lst_list, pi_int_int, pi_int_bool, pi_int_str, pi_int_tuple, pi_int_list, pi_bl_int, pi_bl_bool, pi_bl_str, pi_bl_tuple, pi_bl_list, pi_str_int, pi_str_bool, pi_str_str, pi_str_tuple, pi_str_list, pi_non_int, pi_non_bool, pi_non_str, pi_non_tuple, pi_non_list, pi_nat_int, pi_nat_bool, pi_nat_str, pi_nat_tuple, pi_nat_list, pi_strd_int, pi_strd_bool, pi_strd_str, pi_strd_tuple, pi_strd_list, pi_cube_int, pi_cube_bool, pi_cube_str, pi_cube_tuple, pi_cube_list, pi_cover_int, pi_cover_bool, pi_cover_str, pi_cover_tuple, pi_cover_list, cover_mk, ← List.map_take, ← List.map_drop, it_cube, sq_cube, uNeg1, ltNeg, key_nat, get_n, ix_dn, Option.map_some, cube_mk, bAdd, bAnd, bOr, bXor, bShr, uInv, bAndNot, aAdd, aOr, cEqN, cNeN, cEqS, cNeS, cEqC, cNeC, cEqB, cNeB, cLtN, cLeN, cGtN, cGeN, cIsN, cNsN, none_non, none_nat, none_cube, none_bl, none_str, none_tup, cIsB, cNsB, cInN, cEqNL, cNeNL, pr_sortL, cNiN, cInC, tr_bl, tr_non, tr_nat, tr_lst, tr_tup, ix_t0, ix_t1, ix_t2, ix_t3, ix_l0, ix_l1, ix_l2, ix_l3, ix_c0, ix_c1, pr_lenL, pr_lenT, pr_lenC, pr_lenD, pr_lenK, pr_tupL, pr_tupT, pr_lstL, pr_lstT, pr_lstC, pr_lstS, pr_intN, pr_intB, pr_sumN, pr_allB, pr_anyB, it_lst, it_tup, it_cov, sq_lst, sq_tup, sq_cov, fl_nat, fl_str, fl_bl, fl_non, fl_lst, fl_tup, fl_cube, fl_cover, fit0, fit1, fit2, fit3, fit4, end_none, end_nat, sl_lt, sl_lf, sl_tt, sl_tf, sl_ct, sl_cf, map_snoc, T_is_number, io_is_number, T_is_cube, io_is_cube, T_is_cover, io_is_cover, T_in_cube, io_in_cube, T_in_cover, io_in_cover, T_is_gate, io_is_gate, T_next_value, io_next_value, T_fights, io_fights, T_reads, io_reads, T__law_draws, io__law_draws, T__law_draw, io__law_draw, T__law_same, io__law_same, T__law_has, io__law_has, T__law_in, io__law_in, T__law_cube, io__law_cube, T__law_cover, io__law_cover, T__law_bits, io__law_bits, T__law_odd, io__law_odd, T__law_next, io__law_next, T__law_gate, io__law_gate, T__law_reads, io__law_reads, T__law_wrong, io__law_wrong, T_law, io_law, op_k_is_cover_0, rs_k_is_cover_0, op_k_in_cover_0, rs_k_in_cover_0, op_k__law_in_0, rs_k__law_in_0, op_k__law_cover_0, rs_k__law_cover_0, op_k__law_reads_2, rs_k__law_reads_2, bit_at, hb, addO hlen]
        | false => simp -implicitDefEqProofs only [b__law_bits_1, forN_nil, bindV, bind_ite, opt_some, es_nil', es_cons', then_nx, then_bk, then_ct, then_rt, es1_asg', es1_setx', es1_aug', es1_par', es1_app', es1_ext', es1_ex', es1_ret', op_var, rs_var, op_cst, rs_cst, op_tup, rs_tup, op_lst, rs_lst, op_bin, rs_bin, op_un, rs_un, op_nt, rs_nt, op_cmp, rs_cmp, op_cmp2, rs_cmp2, op_and, rs_and, op_or, rs_or, op_ife, rs_ife, op_ix, rs_ix, op_sl, rs_sl, op_rev, rs_rev, op_call, rs_call, op_prim, rs_prim, op_comp, rs_comp, op_pop, rs_pop, op_dnew, rs_dnew, op_get, rs_get, es1_ret0', es1_ite', es1_brk', es1_cnt', es1_pass', es1_for', es1_wh', ev_var', ev_cst', ev_tup', ev_lst', ev_bin', ev_un', ev_nt', ev_cmp', ev_cmp2', ev_and', ev_or', ev_ife', ev_ix', ev_sl', ev_rev', ev_call', ev_prim', ev_pop', ev_dnew', ev_get', ev_sset', ev_lset', op_sset, op_lset, rs_sset, rs_lset, evs_nil', evs_cons', evx_no', evx_yes', evt_tru', evt_and', evt_or', evt_nt', evt_e', evi_seq', evi_rng', evi_rng2', evi_enum', getB, setB, pk, tk, pks, tks, B.dat, asg_nm, asg_tp, asg_cube, asgN, onOwn, stillB, backB, wipeB, turnF, turnX, turnC, ite_caA, ite_caO, ite_rA, ite_cp, ite_blT, ite_blF, ite_bT, ite_bF, ite_rF, ite_rT, ite_caF, ite_caT, doCall, callArgs, backIn, frzIn, okSlots, slotsOf, List.all_cons, List.all_nil, List.nodup_cons, List.nodup_nil, List.not_mem_nil, not_false_eq_true, and_self, decide_true, List.contains_nil, List.contains_cons, beq_true, beq_false, Bool.true_beq, Bool.false_beq, decide_false, if_true, if_false, Bool.false_eq_true, Bool.and_true, Bool.true_and, Bool.and_false, Bool.false_and, Bool.or_true, Bool.true_or, Bool.or_false, Bool.false_or, Bool.not_true, Bool.not_false, beq_self_eq_true, Bool.not_not, reduceIte, Nat.reduceBEq, Nat.reduceLT, Nat.reduceLeDiff, Nat.reduceAdd, Nat.reducePow, reduceCtorEq, BEq.rfl, List.length_cons, List.length_nil, List.length_map, List.map_cons, List.map_nil, String.reduceBEq, Option.some.injEq, pi_dct_int, pi_dct_bool, pi_dct_str, pi_dct_tuple, pi_dct_list, pi_tup_int, pi_tup_bool, pi_tup_str, pi_tup_tuple, pi_tup_list, pi_lst_int, pi_lst_bool, pi_lst_str, pi_lst_tuple, pi_lst_list, pi_int_int, pi_int_bool, pi_int_str, pi_int_tuple, pi_int_list, pi_bl_int, pi_bl_bool, pi_bl_str, pi_bl_tuple, pi_bl_list, pi_str_int, pi_str_bool, pi_str_str, pi_str_tuple, pi_str_list, pi_non_int, pi_non_bool, pi_non_str, pi_non_tuple, pi_non_list, pi_nat_int, pi_nat_bool, pi_nat_str, pi_nat_tuple, pi_nat_list, pi_strd_int, pi_strd_bool, pi_strd_str, pi_strd_tuple, pi_strd_list, pi_cube_int, pi_cube_bool, pi_cube_str, pi_cube_tuple, pi_cube_list, pi_cover_int, pi_cover_bool, pi_cover_str, pi_cover_tuple, pi_cover_list, cover_mk, ← List.map_take, ← List.map_drop, it_cube, sq_cube, uNeg1, ltNeg, key_nat, get_n, ix_dn, Option.map_some, cube_mk, bAdd, bAnd, bOr, bXor, bShr, uInv, bAndNot, aAdd, aOr, cEqN, cNeN, cEqS, cNeS, cEqC, cNeC, cEqB, cNeB, cLtN, cLeN, cGtN, cGeN, cIsN, cNsN, none_non, none_nat, none_cube, none_bl, none_str, none_tup, cIsB, cNsB, cInN, cEqNL, cNeNL, pr_sortL, cNiN, cInC, tr_bl, tr_non, tr_nat, tr_lst, tr_tup, ix_t0, ix_t1, ix_t2, ix_t3, ix_l0, ix_l1, ix_l2, ix_l3, ix_c0, ix_c1, pr_lenL, pr_lenT, pr_lenC, pr_lenD, pr_lenK, pr_tupL, pr_tupT, pr_lstL, pr_lstT, pr_lstC, pr_lstS, pr_intN, pr_intB, pr_sumN, pr_allB, pr_anyB, it_lst, it_tup, it_cov, sq_lst, sq_tup, sq_cov, fl_nat, fl_str, fl_bl, fl_non, fl_lst, fl_tup, fl_cube, fl_cover, fit0, fit1, fit2, fit3, fit4, end_none, end_nat, sl_lt, sl_lf, sl_tt, sl_tf, sl_ct, sl_cf, map_snoc, T_is_number, io_is_number, T_is_cube, io_is_cube, T_is_cover, io_is_cover, T_in_cube, io_in_cube, T_in_cover, io_in_cover, T_is_gate, io_is_gate, T_next_value, io_next_value, T_fights, io_fights, T_reads, io_reads, T__law_draws, io__law_draws, T__law_draw, io__law_draw, T__law_same, io__law_same, T__law_has, io__law_has, T__law_in, io__law_in, T__law_cube, io__law_cube, T__law_cover, io__law_cover, T__law_bits, io__law_bits, T__law_odd, io__law_odd, T__law_next, io__law_next, T__law_gate, io__law_gate, T__law_reads, io__law_reads, T__law_wrong, io__law_wrong, T_law, io_law, op_k_is_cover_0, rs_k_is_cover_0, op_k_in_cover_0, rs_k_in_cover_0, op_k__law_in_0, rs_k__law_in_0, op_k__law_cover_0, rs_k__law_cover_0, op_k__law_reads_2, rs_k__law_reads_2, bit_at, hb]
      obtain ⟨y, hr⟩ := _law_bits_loop (n := n) hw mask hm (k - 1) (j + 1) f (by omega) (by omega)
      exact ⟨y, by rw [whN_go hc (.inl hb), hr]⟩
theorem _law_bits_ok {N : Nat} (hN : 1 ≤ N) (hm : 1000 ≤ m) {w : Nat} (hw : w ≤ 900) (mask : Nat) (hk : mask < 2 ^ w) : callF T m N 16 [.sh (natD mask)] = .ret true (.lst ((bitsL w mask).map natD)) [.sh (natD mask)] := by
  obtain ⟨n, rfl, hn⟩ := to_succ hN
  obtain ⟨y, hl⟩ := _law_bits_loop (m := m) (n := n) hw mask hk w 0 m (by omega) (by omega)
  have e0 : (bitsL 0 mask).map natD = [] := rfl
  rw [e0] at hl
  rw [callF_body T__law_bits rfl]
  simp -implicitDefEqProofs only [f__law_bits, List.map_cons, List.map_nil, List.cons_append, List.nil_append, List.replicate, Nat.sub_self, Nat.reduceSub, end_rt, end_nx, end_ite, outsOf, forN_nil, bindV, bind_ite, opt_some, es_nil', es_cons', then_nx, then_bk, then_ct, then_rt, es1_asg', es1_setx', es1_aug', es1_par', es1_app', es1_ext', es1_ex', es1_ret', op_var, rs_var, op_cst, rs_cst, op_tup, rs_tup, op_lst, rs_lst, op_bin, rs_bin, op_un, rs_un, op_nt, rs_nt, op_cmp, rs_cmp, op_cmp2, rs_cmp2, op_and, rs_and, op_or, rs_or, op_ife, rs_ife, op_ix, rs_ix, op_sl, rs_sl, op_rev, rs_rev, op_call, rs_call, op_prim, rs_prim, op_comp, rs_comp, op_pop, rs_pop, op_dnew, rs_dnew, op_get, rs_get, es1_ret0', es1_ite', es1_brk', es1_cnt', es1_pass', es1_for', es1_wh', ev_var', ev_cst', ev_tup', ev_lst', ev_bin', ev_un', ev_nt', ev_cmp', ev_cmp2', ev_and', ev_or', ev_ife', ev_ix', ev_sl', ev_rev', ev_call', ev_prim', ev_pop', ev_dnew', ev_get', ev_sset', ev_lset', op_sset, op_lset, rs_sset, rs_lset, evs_nil', evs_cons', evx_no', evx_yes', evt_tru', evt_and', evt_or', evt_nt', evt_e', evi_seq', evi_rng', evi_rng2', evi_enum', getB, setB, pk, tk, pks, tks, B.dat, asg_nm, asg_tp, asg_cube, asgN, onOwn, stillB, backB, wipeB, turnF, turnX, turnC, ite_caA, ite_caO, ite_rA, ite_cp, ite_blT, ite_blF, ite_bT, ite_bF, ite_rF, ite_rT, ite_caF, ite_caT, doCall, callArgs, backIn, frzIn, okSlots, slotsOf, List.all_cons, List.all_nil, List.nodup_cons, List.nodup_nil, List.not_mem_nil, not_false_eq_true, and_self, decide_true, List.contains_nil, List.contains_cons, beq_true, beq_false, Bool.true_beq, Bool.false_beq, decide_false, if_true, if_false, Bool.false_eq_true, Bool.and_true, Bool.true_and, Bool.and_false, Bool.false_and, Bool.or_true, Bool.true_or, Bool.or_false, Bool.false_or, Bool.not_true, Bool.not_false, beq_self_eq_true, Bool.not_not, reduceIte, Nat.reduceBEq, Nat.reduceLT, Nat.reduceLeDiff, Nat.reduceAdd, Nat.reducePow, reduceCtorEq, BEq.rfl, List.length_cons, List.length_nil, List.length_map, List.map_cons, List.map_nil, String.reduceBEq, Option.some.injEq, pi_dct_int, pi_dct_bool, pi_dct_str, pi_dct_tuple, pi_dct_list, pi_tup_int, pi_tup_bool, pi_tup_str, pi_tup_tuple, pi_tup_list, pi_lst_int, pi_lst_bool, pi_lst_str, pi_lst_tuple, pi_lst_list, pi_int_int, pi_int_bool, pi_int_str, pi_int_tuple, pi_int_list, pi_bl_int, pi_bl_bool, pi_bl_str, pi_bl_tuple, pi_bl_list, pi_str_int, pi_str_bool, pi_str_str, pi_str_tuple, pi_str_list, pi_non_int, pi_non_bool, pi_non_str, pi_non_tuple, pi_non_list, pi_nat_int, pi_nat_bool, pi_nat_str, pi_nat_tuple, pi_nat_list, pi_strd_int, pi_strd_bool, pi_strd_str, pi_strd_tuple, pi_strd_list, pi_cube_int, pi_cube_bool, pi_cube_str, pi_cube_tuple, pi_cube_list, pi_cover_int, pi_cover_bool, pi_cover_str, pi_cover_tuple, pi_cover_list, cover_mk, ← List.map_take, ← List.map_drop, it_cube, sq_cube, uNeg1, ltNeg, key_nat, get_n, ix_dn, Option.map_some, cube_mk, bAdd, bAnd, bOr, bXor, bShr, uInv, bAndNot, aAdd, aOr, cEqN, cNeN, cEqS, cNeS, cEqC, cNeC, cEqB, cNeB, cLtN, cLeN, cGtN, cGeN, cIsN, cNsN, none_non, none_nat, none_cube, none_bl, none_str, none_tup, cIsB, cNsB, cInN, cEqNL, cNeNL, pr_sortL, cNiN, cInC, tr_bl, tr_non, tr_nat, tr_lst, tr_tup, ix_t0, ix_t1, ix_t2, ix_t3, ix_l0, ix_l1, ix_l2, ix_l3, ix_c0, ix_c1, pr_lenL, pr_lenT, pr_lenC, pr_lenD, pr_lenK, pr_tupL, pr_tupT, pr_lstL, pr_lstT, pr_lstC, pr_lstS, pr_intN, pr_intB, pr_sumN, pr_allB, pr_anyB, it_lst, it_tup, it_cov, sq_lst, sq_tup, sq_cov, fl_nat, fl_str, fl_bl, fl_non, fl_lst, fl_tup, fl_cube, fl_cover, fit0, fit1, fit2, fit3, fit4, end_none, end_nat, sl_lt, sl_lf, sl_tt, sl_tf, sl_ct, sl_cf, map_snoc, T_is_number, io_is_number, T_is_cube, io_is_cube, T_is_cover, io_is_cover, T_in_cube, io_in_cube, T_in_cover, io_in_cover, T_is_gate, io_is_gate, T_next_value, io_next_value, T_fights, io_fights, T_reads, io_reads, T__law_draws, io__law_draws, T__law_draw, io__law_draw, T__law_same, io__law_same, T__law_has, io__law_has, T__law_in, io__law_in, T__law_cube, io__law_cube, T__law_cover, io__law_cover, T__law_bits, io__law_bits, T__law_odd, io__law_odd, T__law_next, io__law_next, T__law_gate, io__law_gate, T__law_reads, io__law_reads, T__law_wrong, io__law_wrong, T_law, io_law, op_k_is_cover_0, rs_k_is_cover_0, op_k_in_cover_0, rs_k_in_cover_0, op_k__law_in_0, rs_k__law_in_0, op_k__law_cover_0, rs_k__law_cover_0, op_k__law_reads_2, rs_k__law_reads_2, hl]
/-- is_cube, of any value -/
def isCubeB (w : Nat) : D → Bool
  | .tup [.int a, .int b] => (decide (0 ≤ a) && decide (a ≤ (2 ^ w - 1 : Nat))) && (decide (0 ≤ b) && decide (b ≤ (2 ^ w - 1 : Nat))) && (Builtin.bitAnd a b == b)
  | _ => false
/-- a value of a known kind: plain, or an empty dict -/
def Known (d : D) : Prop := (∃ k, d.ok k = true) ∨ ∃ ds, d = .dct ds
theorem Known.tup {xs : List D} (h : Known (.tup xs)) : ∃ k, D.ok.oks xs k = true := by
  rcases h with ⟨k, h⟩ | ⟨ds, h⟩
  · cases k with
    | zero => simp [D.ok] at h
    | succ k => exact ⟨k, by simpa [D.ok] using h⟩
  · cases h
theorem isNum_not {w : Nat} {d : D} (hd : ∀ i, d ≠ .int i) : isNum d 0 ((2 ^ w - 1 : Nat) : Int) = false := by
  cases d <;> first | rfl | exact absurd rfl (hd _)
theorem is_cube_ok {N : Nat} (hN : 2 ≤ N) {w : Nat} (hw : w ≤ 900) {d : D} (hd : Known d) : callF T m N 1 [.sh d, .sh (natD w)] = .ret false (.bl (isCubeB w d)) [.sh d, .sh (natD w)] := by
  obtain ⟨n, rfl, hn⟩ := to_succ hN
  have hs := bShl1 (v := w) (by omega)
  have hsub := bSub (u := 2 ^ w) (v := 1) (pow2_pos w)
  rw [callF_body T_is_cube rfl]
  cases d with
  | tup xs =>
    match xs, hd.tup with
    | [], _ =>
      have h0 : cmpD .NotEq (natD 0) (natD 2) = some true := by rw [cNeN]; rfl
      simp -implicitDefEqProofs only [f_is_cube, List.map_cons, List.map_nil, List.cons_append, List.nil_append, List.replicate, Nat.sub_self, Nat.reduceSub, end_rt, end_nx, end_ite, outsOf, forN_nil, bindV, bind_ite, opt_some, es_nil', es_cons', then_nx, then_bk, then_ct, then_rt, es1_asg', es1_setx', es1_aug', es1_par', es1_app', es1_ext', es1_ex', es1_ret', op_var, rs_var, op_cst, rs_cst, op_tup, rs_tup, op_lst, rs_lst, op_bin, rs_bin, op_un, rs_un, op_nt, rs_nt, op_cmp, rs_cmp, op_cmp2, rs_cmp2, op_and, rs_and, op_or, rs_or, op_ife, rs_ife, op_ix, rs_ix, op_sl, rs_sl, op_rev, rs_rev, op_call, rs_call, op_prim, rs_prim, op_comp, rs_comp, op_pop, rs_pop, op_dnew, rs_dnew, op_get, rs_get, es1_ret0', es1_ite', es1_brk', es1_cnt', es1_pass', es1_for', es1_wh', ev_var', ev_cst', ev_tup', ev_lst', ev_bin', ev_un', ev_nt', ev_cmp', ev_cmp2', ev_and', ev_or', ev_ife', ev_ix', ev_sl', ev_rev', ev_call', ev_prim', ev_pop', ev_dnew', ev_get', ev_sset', ev_lset', op_sset, op_lset, rs_sset, rs_lset, evs_nil', evs_cons', evx_no', evx_yes', evt_tru', evt_and', evt_or', evt_nt', evt_e', evi_seq', evi_rng', evi_rng2', evi_enum', getB, setB, pk, tk, pks, tks, B.dat, asg_nm, asg_tp, asg_cube, asgN, onOwn, stillB, backB, wipeB, turnF, turnX, turnC, ite_caA, ite_caO, ite_rA, ite_cp, ite_blT, ite_blF, ite_bT, ite_bF, ite_rF, ite_rT, ite_caF, ite_caT, doCall, callArgs, backIn, frzIn, okSlots, slotsOf, List.all_cons, List.all_nil, List.nodup_cons, List.nodup_nil, List.not_mem_nil, not_false_eq_true, and_self, decide_true, List.contains_nil, List.contains_cons, beq_true, beq_false, Bool.true_beq, Bool.false_beq, decide_false, if_true, if_false, Bool.false_eq_true, Bool.and_true, Bool.true_and, Bool.and_false, Bool.false_and, Bool.or_true, Bool.true_or, Bool.or_false, Bool.false_or, Bool.not_true, Bool.not_false, beq_self_eq_true, Bool.not_not, reduceIte, Nat.reduceBEq, Nat.reduceLT, Nat.reduceLeDiff, Nat.reduceAdd, Nat.reducePow, reduceCtorEq, BEq.rfl, List.length_cons, List.length_nil, List.length_map, List.map_cons, List.map_nil, String.reduceBEq, Option.some.injEq, pi_dct_int, pi_dct_bool, pi_dct_str, pi_dct_tuple, pi_dct_list, pi_tup_int, pi_tup_bool, pi_tup_str, pi_tup_tuple, pi_tup_list, pi_lst_int, pi_lst_bool, pi_lst_str, pi_lst_tuple, pi_lst_list, pi_int_int, pi_int_bool, pi_int_str, pi_int_tuple, pi_int_list, pi_bl_int, pi_bl_bool, pi_bl_str, pi_bl_tuple, pi_bl_list, pi_str_int, pi_str_bool, pi_str_str, pi_str_tuple, pi_str_list, pi_non_int, pi_non_bool, pi_non_str, pi_non_tuple, pi_non_list, pi_nat_int, pi_nat_bool, pi_nat_str, pi_nat_tuple, pi_nat_list, pi_strd_int, pi_strd_bool, pi_strd_str, pi_strd_tuple, pi_strd_list, pi_cube_int, pi_cube_bool, pi_cube_str, pi_cube_tuple, pi_cube_list, pi_cover_int, pi_cover_bool, pi_cover_str, pi_cover_tuple, pi_cover_list, cover_mk, ← List.map_take, ← List.map_drop, it_cube, sq_cube, uNeg1, ltNeg, key_nat, get_n, ix_dn, Option.map_some, cube_mk, bAdd, bAnd, bOr, bXor, bShr, uInv, bAndNot, aAdd, aOr, cEqN, cNeN, cEqS, cNeS, cEqC, cNeC, cEqB, cNeB, cLtN, cLeN, cGtN, cGeN, cIsN, cNsN, none_non, none_nat, none_cube, none_bl, none_str, none_tup, cIsB, cNsB, cInN, cEqNL, cNeNL, pr_sortL, cNiN, cInC, tr_bl, tr_non, tr_nat, tr_lst, tr_tup, ix_t0, ix_t1, ix_t2, ix_t3, ix_l0, ix_l1, ix_l2, ix_l3, ix_c0, ix_c1, pr_lenL, pr_lenT, pr_lenC, pr_lenD, pr_lenK, pr_tupL, pr_tupT, pr_lstL, pr_lstT, pr_lstC, pr_lstS, pr_intN, pr_intB, pr_sumN, pr_allB, pr_anyB, it_lst, it_tup, it_cov, sq_lst, sq_tup, sq_cov, fl_nat, fl_str, fl_bl, fl_non, fl_lst, fl_tup, fl_cube, fl_cover, fit0, fit1, fit2, fit3, fit4, end_none, end_nat, sl_lt, sl_lf, sl_tt, sl_tf, sl_ct, sl_cf, map_snoc, T_is_number, io_is_number, T_is_cube, io_is_cube, T_is_cover, io_is_cover, T_in_cube, io_in_cube, T_in_cover, io_in_cover, T_is_gate, io_is_gate, T_next_value, io_next_value, T_fights, io_fights, T_reads, io_reads, T__law_draws, io__law_draws, T__law_draw, io__law_draw, T__law_same, io__law_same, T__law_has, io__law_has, T__law_in, io__law_in, T__law_cube, io__law_cube, T__law_cover, io__law_cover, T__law_bits, io__law_bits, T__law_odd, io__law_odd, T__law_next, io__law_next, T__law_gate, io__law_gate, T__law_reads, io__law_reads, T__law_wrong, io__law_wrong, T_law, io_law, op_k_is_cover_0, rs_k_is_cover_0, op_k_in_cover_0, rs_k_in_cover_0, op_k__law_in_0, rs_k__law_in_0, op_k__law_cover_0, rs_k__law_cover_0, op_k__law_reads_2, rs_k__law_reads_2, h0, isCubeB]
    | [a], _ =>
      have h0 : (0 + 1 != 2) = true := rfl
      simp -implicitDefEqProofs only [f_is_cube, List.map_cons, List.map_nil, List.cons_append, List.nil_append, List.replicate, Nat.sub_self, Nat.reduceSub, end_rt, end_nx, end_ite, outsOf, forN_nil, bindV, bind_ite, opt_some, es_nil', es_cons', then_nx, then_bk, then_ct, then_rt, es1_asg', es1_setx', es1_aug', es1_par', es1_app', es1_ext', es1_ex', es1_ret', op_var, rs_var, op_cst, rs_cst, op_tup, rs_tup, op_lst, rs_lst, op_bin, rs_bin, op_un, rs_un, op_nt, rs_nt, op_cmp, rs_cmp, op_cmp2, rs_cmp2, op_and, rs_and, op_or, rs_or, op_ife, rs_ife, op_ix, rs_ix, op_sl, rs_sl, op_rev, rs_rev, op_call, rs_call, op_prim, rs_prim, op_comp, rs_comp, op_pop, rs_pop, op_dnew, rs_dnew, op_get, rs_get, es1_ret0', es1_ite', es1_brk', es1_cnt', es1_pass', es1_for', es1_wh', ev_var', ev_cst', ev_tup', ev_lst', ev_bin', ev_un', ev_nt', ev_cmp', ev_cmp2', ev_and', ev_or', ev_ife', ev_ix', ev_sl', ev_rev', ev_call', ev_prim', ev_pop', ev_dnew', ev_get', ev_sset', ev_lset', op_sset, op_lset, rs_sset, rs_lset, evs_nil', evs_cons', evx_no', evx_yes', evt_tru', evt_and', evt_or', evt_nt', evt_e', evi_seq', evi_rng', evi_rng2', evi_enum', getB, setB, pk, tk, pks, tks, B.dat, asg_nm, asg_tp, asg_cube, asgN, onOwn, stillB, backB, wipeB, turnF, turnX, turnC, ite_caA, ite_caO, ite_rA, ite_cp, ite_blT, ite_blF, ite_bT, ite_bF, ite_rF, ite_rT, ite_caF, ite_caT, doCall, callArgs, backIn, frzIn, okSlots, slotsOf, List.all_cons, List.all_nil, List.nodup_cons, List.nodup_nil, List.not_mem_nil, not_false_eq_true, and_self, decide_true, List.contains_nil, List.contains_cons, beq_true, beq_false, Bool.true_beq, Bool.false_beq, decide_false, if_true, if_false, Bool.false_eq_true, Bool.and_true, Bool.true_and, Bool.and_false, Bool.false_and, Bool.or_true, Bool.true_or, Bool.or_false, Bool.false_or, Bool.not_true, Bool.not_false, beq_self_eq_true, Bool.not_not, reduceIte, Nat.reduceBEq, Nat.reduceLT, Nat.reduceLeDiff, Nat.reduceAdd, Nat.reducePow, reduceCtorEq, BEq.rfl, List.length_cons, List.length_nil, List.length_map, List.map_cons, List.map_nil, String.reduceBEq, Option.some.injEq, pi_dct_int, pi_dct_bool, pi_dct_str, pi_dct_tuple, pi_dct_list, pi_tup_int, pi_tup_bool, pi_tup_str, pi_tup_tuple, pi_tup_list, pi_lst_int, pi_lst_bool, pi_lst_str, pi_lst_tuple, pi_lst_list, pi_int_int, pi_int_bool, pi_int_str, pi_int_tuple, pi_int_list, pi_bl_int, pi_bl_bool, pi_bl_str, pi_bl_tuple, pi_bl_list, pi_str_int, pi_str_bool, pi_str_str, pi_str_tuple, pi_str_list, pi_non_int, pi_non_bool, pi_non_str, pi_non_tuple, pi_non_list, pi_nat_int, pi_nat_bool, pi_nat_str, pi_nat_tuple, pi_nat_list, pi_strd_int, pi_strd_bool, pi_strd_str, pi_strd_tuple, pi_strd_list, pi_cube_int, pi_cube_bool, pi_cube_str, pi_cube_tuple, pi_cube_list, pi_cover_int, pi_cover_bool, pi_cover_str, pi_cover_tuple, pi_cover_list, cover_mk, ← List.map_take, ← List.map_drop, it_cube, sq_cube, uNeg1, ltNeg, key_nat, get_n, ix_dn, Option.map_some, cube_mk, bAdd, bAnd, bOr, bXor, bShr, uInv, bAndNot, aAdd, aOr, cEqN, cNeN, cEqS, cNeS, cEqC, cNeC, cEqB, cNeB, cLtN, cLeN, cGtN, cGeN, cIsN, cNsN, none_non, none_nat, none_cube, none_bl, none_str, none_tup, cIsB, cNsB, cInN, cEqNL, cNeNL, pr_sortL, cNiN, cInC, tr_bl, tr_non, tr_nat, tr_lst, tr_tup, ix_t0, ix_t1, ix_t2, ix_t3, ix_l0, ix_l1, ix_l2, ix_l3, ix_c0, ix_c1, pr_lenL, pr_lenT, pr_lenC, pr_lenD, pr_lenK, pr_tupL, pr_tupT, pr_lstL, pr_lstT, pr_lstC, pr_lstS, pr_intN, pr_intB, pr_sumN, pr_allB, pr_anyB, it_lst, it_tup, it_cov, sq_lst, sq_tup, sq_cov, fl_nat, fl_str, fl_bl, fl_non, fl_lst, fl_tup, fl_cube, fl_cover, fit0, fit1, fit2, fit3, fit4, end_none, end_nat, sl_lt, sl_lf, sl_tt, sl_tf, sl_ct, sl_cf, map_snoc, T_is_number, io_is_number, T_is_cube, io_is_cube, T_is_cover, io_is_cover, T_in_cube, io_in_cube, T_in_cover, io_in_cover, T_is_gate, io_is_gate, T_next_value, io_next_value, T_fights, io_fights, T_reads, io_reads, T__law_draws, io__law_draws, T__law_draw, io__law_draw, T__law_same, io__law_same, T__law_has, io__law_has, T__law_in, io__law_in, T__law_cube, io__law_cube, T__law_cover, io__law_cover, T__law_bits, io__law_bits, T__law_odd, io__law_odd, T__law_next, io__law_next, T__law_gate, io__law_gate, T__law_reads, io__law_reads, T__law_wrong, io__law_wrong, T_law, io_law, op_k_is_cover_0, rs_k_is_cover_0, op_k_in_cover_0, rs_k_in_cover_0, op_k__law_in_0, rs_k__law_in_0, op_k__law_cover_0, rs_k__law_cover_0, op_k__law_reads_2, rs_k__law_reads_2, h0, isCubeB]
    | a :: b :: c :: r, _ =>
      have h0 : (r.length + 1 + 1 + 1 != 2) = true := by rw [bne_iff_ne]; omega
      have e1 : isCubeB w (.tup (a :: b :: c :: r)) = false := by cases a <;> cases b <;> rfl
      simp -implicitDefEqProofs only [f_is_cube, List.map_cons, List.map_nil, List.cons_append, List.nil_append, List.replicate, Nat.sub_self, Nat.reduceSub, end_rt, end_nx, end_ite, outsOf, forN_nil, bindV, bind_ite, opt_some, es_nil', es_cons', then_nx, then_bk, then_ct, then_rt, es1_asg', es1_setx', es1_aug', es1_par', es1_app', es1_ext', es1_ex', es1_ret', op_var, rs_var, op_cst, rs_cst, op_tup, rs_tup, op_lst, rs_lst, op_bin, rs_bin, op_un, rs_un, op_nt, rs_nt, op_cmp, rs_cmp, op_cmp2, rs_cmp2, op_and, rs_and, op_or, rs_or, op_ife, rs_ife, op_ix, rs_ix, op_sl, rs_sl, op_rev, rs_rev, op_call, rs_call, op_prim, rs_prim, op_comp, rs_comp, op_pop, rs_pop, op_dnew, rs_dnew, op_get, rs_get, es1_ret0', es1_ite', es1_brk', es1_cnt', es1_pass', es1_for', es1_wh', ev_var', ev_cst', ev_tup', ev_lst', ev_bin', ev_un', ev_nt', ev_cmp', ev_cmp2', ev_and', ev_or', ev_ife', ev_ix', ev_sl', ev_rev', ev_call', ev_prim', ev_pop', ev_dnew', ev_get', ev_sset', ev_lset', op_sset, op_lset, rs_sset, rs_lset, evs_nil', evs_cons', evx_no', evx_yes', evt_tru', evt_and', evt_or', evt_nt', evt_e', evi_seq', evi_rng', evi_rng2', evi_enum', getB, setB, pk, tk, pks, tks, B.dat, asg_nm, asg_tp, asg_cube, asgN, onOwn, stillB, backB, wipeB, turnF, turnX, turnC, ite_caA, ite_caO, ite_rA, ite_cp, ite_blT, ite_blF, ite_bT, ite_bF, ite_rF, ite_rT, ite_caF, ite_caT, doCall, callArgs, backIn, frzIn, okSlots, slotsOf, List.all_cons, List.all_nil, List.nodup_cons, List.nodup_nil, List.not_mem_nil, not_false_eq_true, and_self, decide_true, List.contains_nil, List.contains_cons, beq_true, beq_false, Bool.true_beq, Bool.false_beq, decide_false, if_true, if_false, Bool.false_eq_true, Bool.and_true, Bool.true_and, Bool.and_false, Bool.false_and, Bool.or_true, Bool.true_or, Bool.or_false, Bool.false_or, Bool.not_true, Bool.not_false, beq_self_eq_true, Bool.not_not, reduceIte, Nat.reduceBEq, Nat.reduceLT, Nat.reduceLeDiff, Nat.reduceAdd, Nat.reducePow, reduceCtorEq, BEq.rfl, List.length_cons, List.length_nil, List.length_map, List.map_cons, List.map_nil, String.reduceBEq, Option.some.injEq, pi_dct_int, pi_dct_bool, pi_dct_str, pi_dct_tuple, pi_dct_list, pi_tup_int, pi_tup_bool, pi_tup_str, pi_tup_tuple, pi_tup_list, pi_lst_int, pi_lst_bool, pi_lst_str, pi_lst_tuple, pi_lst_list, pi_int_int, pi_int_bool, pi_int_str, pi_int_tuple, pi_int_list, pi_bl_int, pi_bl_bool, pi_bl_str, pi_bl_tuple, pi_bl_list, pi_str_int, pi_str_bool, pi_str_str, pi_str_tuple, pi_str_list, pi_non_int, pi_non_bool, pi_non_str, pi_non_tuple, pi_non_list, pi_nat_int, pi_nat_bool, pi_nat_str, pi_nat_tuple, pi_nat_list, pi_strd_int, pi_strd_bool, pi_strd_str, pi_strd_tuple, pi_strd_list, pi_cube_int, pi_cube_bool, pi_cube_str, pi_cube_tuple, pi_cube_list, pi_cover_int, pi_cover_bool, pi_cover_str, pi_cover_tuple, pi_cover_list, cover_mk, ← List.map_take, ← List.map_drop, it_cube, sq_cube, uNeg1, ltNeg, key_nat, get_n, ix_dn, Option.map_some, cube_mk, bAdd, bAnd, bOr, bXor, bShr, uInv, bAndNot, aAdd, aOr, cEqN, cNeN, cEqS, cNeS, cEqC, cNeC, cEqB, cNeB, cLtN, cLeN, cGtN, cGeN, cIsN, cNsN, none_non, none_nat, none_cube, none_bl, none_str, none_tup, cIsB, cNsB, cInN, cEqNL, cNeNL, pr_sortL, cNiN, cInC, tr_bl, tr_non, tr_nat, tr_lst, tr_tup, ix_t0, ix_t1, ix_t2, ix_t3, ix_l0, ix_l1, ix_l2, ix_l3, ix_c0, ix_c1, pr_lenL, pr_lenT, pr_lenC, pr_lenD, pr_lenK, pr_tupL, pr_tupT, pr_lstL, pr_lstT, pr_lstC, pr_lstS, pr_intN, pr_intB, pr_sumN, pr_allB, pr_anyB, it_lst, it_tup, it_cov, sq_lst, sq_tup, sq_cov, fl_nat, fl_str, fl_bl, fl_non, fl_lst, fl_tup, fl_cube, fl_cover, fit0, fit1, fit2, fit3, fit4, end_none, end_nat, sl_lt, sl_lf, sl_tt, sl_tf, sl_ct, sl_cf, map_snoc, T_is_number, io_is_number, T_is_cube, io_is_cube, T_is_cover, io_is_cover, T_in_cube, io_in_cube, T_in_cover, io_in_cover, T_is_gate, io_is_gate, T_next_value, io_next_value, T_fights, io_fights, T_reads, io_reads, T__law_draws, io__law_draws, T__law_draw, io__law_draw, T__law_same, io__law_same, T__law_has, io__law_has, T__law_in, io__law_in, T__law_cube, io__law_cube, T__law_cover, io__law_cover, T__law_bits, io__law_bits, T__law_odd, io__law_odd, T__law_next, io__law_next, T__law_gate, io__law_gate, T__law_reads, io__law_reads, T__law_wrong, io__law_wrong, T_law, io_law, op_k_is_cover_0, rs_k_is_cover_0, op_k_in_cover_0, rs_k_in_cover_0, op_k__law_in_0, rs_k__law_in_0, op_k__law_cover_0, rs_k__law_cover_0, op_k__law_reads_2, rs_k__law_reads_2, h0, e1]
    | [a, b], ⟨k, h⟩ =>
      have h0 : (0 + 1 + 1 != 2) = false := rfl
      simp only [D.ok.oks, Bool.and_eq_true] at h
      have n1 : callF T m n 0 [.sh a, .sh (natD 0), .sh (natD (2 ^ w - 1))] = .ret false (.bl (isNum a 0 ((2 ^ w - 1 : Nat) : Int))) [.sh a, .sh (natD 0), .sh (natD (2 ^ w - 1))] := is_number_ok (m := m) hn h.1 0 ((2 ^ w - 1 : Nat) : Int)
      have n2 : callF T m n 0 [.sh b, .sh (natD 0), .sh (natD (2 ^ w - 1))] = .ret false (.bl (isNum b 0 ((2 ^ w - 1 : Nat) : Int))) [.sh b, .sh (natD 0), .sh (natD (2 ^ w - 1))] := is_number_ok (m := m) hn h.2.1 0 ((2 ^ w - 1 : Nat) : Int)
      by_cases ha : ∃ i, a = .int i
      · obtain ⟨i, rfl⟩ := ha
        by_cases hb : ∃ j, b = .int j
        · obtain ⟨j, rfl⟩ := hb
          have e1 : isCubeB w (.tup [.int i, .int j]) = (isNum (.int i) 0 ((2 ^ w - 1 : Nat) : Int) && isNum (.int j) 0 ((2 ^ w - 1 : Nat) : Int) && (Builtin.bitAnd i j == j)) := rfl
          have hand : binD .BitAnd (.int i) (.int j) = some (false, .int (Builtin.bitAnd i j)) := rfl
          have heq : cmpD .Eq (.int (Builtin.bitAnd i j)) (.int j) = some (Builtin.bitAnd i j == j) := cEq rfl rfl
          rw [e1]
          generalize isNum (.int i) 0 ((2 ^ w - 1 : Nat) : Int) = p at n1
          generalize isNum (.int j) 0 ((2 ^ w - 1 : Nat) : Int) = q at n2
          cases p <;> cases q <;> simp -implicitDefEqProofs only [f_is_cube, List.map_cons, List.map_nil, List.cons_append, List.nil_append, List.replicate, Nat.sub_self, Nat.reduceSub, end_rt, end_nx, end_ite, outsOf, forN_nil, bindV, bind_ite, opt_some, es_nil', es_cons', then_nx, then_bk, then_ct, then_rt, es1_asg', es1_setx', es1_aug', es1_par', es1_app', es1_ext', es1_ex', es1_ret', op_var, rs_var, op_cst, rs_cst, op_tup, rs_tup, op_lst, rs_lst, op_bin, rs_bin, op_un, rs_un, op_nt, rs_nt, op_cmp, rs_cmp, op_cmp2, rs_cmp2, op_and, rs_and, op_or, rs_or, op_ife, rs_ife, op_ix, rs_ix, op_sl, rs_sl, op_rev, rs_rev, op_call, rs_call, op_prim, rs_prim, op_comp, rs_comp, op_pop, rs_pop, op_dnew, rs_dnew, op_get, rs_get, es1_ret0', es1_ite', es1_brk', es1_cnt', es1_pass', es1_for', es1_wh', ev_var', ev_cst', ev_tup', ev_lst', ev_bin', ev_un', ev_nt', ev_cmp', ev_cmp2', ev_and', ev_or', ev_ife', ev_ix', ev_sl', ev_rev', ev_call', ev_prim', ev_pop', ev_dnew', ev_get', ev_sset', ev_lset', op_sset, op_lset, rs_sset, rs_lset, evs_nil', evs_cons', evx_no', evx_yes', evt_tru', evt_and', evt_or', evt_nt', evt_e', evi_seq', evi_rng', evi_rng2', evi_enum', getB, setB, pk, tk, pks, tks, B.dat, asg_nm, asg_tp, asg_cube, asgN, onOwn, stillB, backB, wipeB, turnF, turnX, turnC, ite_caA, ite_caO, ite_rA, ite_cp, ite_blT, ite_blF, ite_bT, ite_bF, ite_rF, ite_rT, ite_caF, ite_caT, doCall, callArgs, backIn, frzIn, okSlots, slotsOf, List.all_cons, List.all_nil, List.nodup_cons, List.nodup_nil, List.not_mem_nil, not_false_eq_true, and_self, decide_true, List.contains_nil, List.contains_cons, beq_true, beq_false, Bool.true_beq, Bool.false_beq, decide_false, if_true, if_false, Bool.false_eq_true, Bool.and_true, Bool.true_and, Bool.and_false, Bool.false_and, Bool.or_true, Bool.true_or, Bool.or_false, Bool.false_or, Bool.not_true, Bool.not_false, beq_self_eq_true, Bool.not_not, reduceIte, Nat.reduceBEq, Nat.reduceLT, Nat.reduceLeDiff, Nat.reduceAdd, Nat.reducePow, reduceCtorEq, BEq.rfl, List.length_cons, List.length_nil, List.length_map, List.map_cons, List.map_nil, String.reduceBEq, Option.some.injEq, pi_dct_int, pi_dct_bool, pi_dct_str, pi_dct_tuple, pi_dct_list, pi_tup_int, pi_tup_bool, pi_tup_str, pi_tup_tuple, pi_tup_list, pi_lst_int, pi_lst_bool, pi_lst_str, pi_lst_tuple, pi_lst_list, pi_int_int, pi_int_bool, pi_int_str, pi_int_tuple, pi_int_list, pi_bl_int, pi_bl_bool, pi_bl_str, pi_bl_tuple, pi_bl_list, pi_str_int, pi_str_bool, pi_str_str, pi_str_tuple, pi_str_list, pi_non_int, pi_non_bool, pi_non_str, pi_non_tuple, pi_non_list, pi_nat_int, pi_nat_bool, pi_nat_str, pi_nat_tuple, pi_nat_list, pi_strd_int, pi_strd_bool, pi_strd_str, pi_strd_tuple, pi_strd_list, pi_cube_int, pi_cube_bool, pi_cube_str, pi_cube_tuple, pi_cube_list, pi_cover_int, pi_cover_bool, pi_cover_str, pi_cover_tuple, pi_cover_list, cover_mk, ← List.map_take, ← List.map_drop, it_cube, sq_cube, uNeg1, ltNeg, key_nat, get_n, ix_dn, Option.map_some, cube_mk, bAdd, bAnd, bOr, bXor, bShr, uInv, bAndNot, aAdd, aOr, cEqN, cNeN, cEqS, cNeS, cEqC, cNeC, cEqB, cNeB, cLtN, cLeN, cGtN, cGeN, cIsN, cNsN, none_non, none_nat, none_cube, none_bl, none_str, none_tup, cIsB, cNsB, cInN, cEqNL, cNeNL, pr_sortL, cNiN, cInC, tr_bl, tr_non, tr_nat, tr_lst, tr_tup, ix_t0, ix_t1, ix_t2, ix_t3, ix_l0, ix_l1, ix_l2, ix_l3, ix_c0, ix_c1, pr_lenL, pr_lenT, pr_lenC, pr_lenD, pr_lenK, pr_tupL, pr_tupT, pr_lstL, pr_lstT, pr_lstC, pr_lstS, pr_intN, pr_intB, pr_sumN, pr_allB, pr_anyB, it_lst, it_tup, it_cov, sq_lst, sq_tup, sq_cov, fl_nat, fl_str, fl_bl, fl_non, fl_lst, fl_tup, fl_cube, fl_cover, fit0, fit1, fit2, fit3, fit4, end_none, end_nat, sl_lt, sl_lf, sl_tt, sl_tf, sl_ct, sl_cf, map_snoc, T_is_number, io_is_number, T_is_cube, io_is_cube, T_is_cover, io_is_cover, T_in_cube, io_in_cube, T_in_cover, io_in_cover, T_is_gate, io_is_gate, T_next_value, io_next_value, T_fights, io_fights, T_reads, io_reads, T__law_draws, io__law_draws, T__law_draw, io__law_draw, T__law_same, io__law_same, T__law_has, io__law_has, T__law_in, io__law_in, T__law_cube, io__law_cube, T__law_cover, io__law_cover, T__law_bits, io__law_bits, T__law_odd, io__law_odd, T__law_next, io__law_next, T__law_gate, io__law_gate, T__law_reads, io__law_reads, T__law_wrong, io__law_wrong, T_law, io_law, op_k_is_cover_0, rs_k_is_cover_0, op_k_in_cover_0, rs_k_in_cover_0, op_k__law_in_0, rs_k__law_in_0, op_k__law_cover_0, rs_k__law_cover_0, op_k__law_reads_2, rs_k__law_reads_2, h0, hs, hsub, n1, n2, hand, heq]
        · have e1 : isCubeB w (.tup [.int i, b]) = false := by cases b <;> first | rfl | exact absurd ⟨_, rfl⟩ hb
          rw [isNum_not fun j z => hb ⟨j, z⟩] at n2
          generalize isNum (.int i) 0 ((2 ^ w - 1 : Nat) : Int) = p at n1
          cases p <;> simp -implicitDefEqProofs only [f_is_cube, List.map_cons, List.map_nil, List.cons_append, List.nil_append, List.replicate, Nat.sub_self, Nat.reduceSub, end_rt, end_nx, end_ite, outsOf, forN_nil, bindV, bind_ite, opt_some, es_nil', es_cons', then_nx, then_bk, then_ct, then_rt, es1_asg', es1_setx', es1_aug', es1_par', es1_app', es1_ext', es1_ex', es1_ret', op_var, rs_var, op_cst, rs_cst, op_tup, rs_tup, op_lst, rs_lst, op_bin, rs_bin, op_un, rs_un, op_nt, rs_nt, op_cmp, rs_cmp, op_cmp2, rs_cmp2, op_and, rs_and, op_or, rs_or, op_ife, rs_ife, op_ix, rs_ix, op_sl, rs_sl, op_rev, rs_rev, op_call, rs_call, op_prim, rs_prim, op_comp, rs_comp, op_pop, rs_pop, op_dnew, rs_dnew, op_get, rs_get, es1_ret0', es1_ite', es1_brk', es1_cnt', es1_pass', es1_for', es1_wh', ev_var', ev_cst', ev_tup', ev_lst', ev_bin', ev_un', ev_nt', ev_cmp', ev_cmp2', ev_and', ev_or', ev_ife', ev_ix', ev_sl', ev_rev', ev_call', ev_prim', ev_pop', ev_dnew', ev_get', ev_sset', ev_lset', op_sset, op_lset, rs_sset, rs_lset, evs_nil', evs_cons', evx_no', evx_yes', evt_tru', evt_and', evt_or', evt_nt', evt_e', evi_seq', evi_rng', evi_rng2', evi_enum', getB, setB, pk, tk, pks, tks, B.dat, asg_nm, asg_tp, asg_cube, asgN, onOwn, stillB, backB, wipeB, turnF, turnX, turnC, ite_caA, ite_caO, ite_rA, ite_cp, ite_blT, ite_blF, ite_bT, ite_bF, ite_rF, ite_rT, ite_caF, ite_caT, doCall, callArgs, backIn, frzIn, okSlots, slotsOf, List.all_cons, List.all_nil, List.nodup_cons, List.nodup_nil, List.not_mem_nil, not_false_eq_true, and_self, decide_true, List.contains_nil, List.contains_cons, beq_true, beq_false, Bool.true_beq, Bool.false_beq, decide_false, if_true, if_false, Bool.false_eq_true, Bool.and_true, Bool.true_and, Bool.and_false, Bool.false_and, Bool.or_true, Bool.true_or, Bool.or_false, Bool.false_or, Bool.not_true, Bool.not_false, beq_self_eq_true, Bool.not_not, reduceIte, Nat.reduceBEq, Nat.reduceLT, Nat.reduceLeDiff, Nat.reduceAdd, Nat.reducePow, reduceCtorEq, BEq.rfl, List.length_cons, List.length_nil, List.length_map, List.map_cons, List.map_nil, String.reduceBEq, Option.some.injEq, pi_dct_int, pi_dct_bool, pi_dct_str, pi_dct_tuple, pi_dct_list, pi_tup_int, pi_tup_bool, pi_tup_str, pi_tup_tuple, pi_tup_list, pi_lst_int, pi_lst_bool, pi_lst_str, pi_lst_tuple, pi_lst_list, pi_int_int, pi_int_bool, pi_int_str, pi_int_tuple, pi_int_list, pi_bl_int, pi_bl_bool, pi_bl_str, pi_bl_tuple, pi_bl_list, pi_str_int, pi_str_bool, pi_str_str, pi_str_tuple, pi_str_list, pi_non_int, pi_non_bool, pi_non_str, pi_non_tuple, pi_non_list, pi_nat_int, pi_nat_bool, pi_nat_str, pi_nat_tuple, pi_nat_list, pi_strd_int, pi_strd_bool, pi_strd_str, pi_strd_tuple, pi_strd_list, pi_cube_int, pi_cube_bool, pi_cube_str, pi_cube_tuple, pi_cube_list, pi_cover_int, pi_cover_bool, pi_cover_str, pi_cover_tuple, pi_cover_list, cover_mk, ← List.map_take, ← List.map_drop, it_cube, sq_cube, uNeg1, ltNeg, key_nat, get_n, ix_dn, Option.map_some, cube_mk, bAdd, bAnd, bOr, bXor, bShr, uInv, bAndNot, aAdd, aOr, cEqN, cNeN, cEqS, cNeS, cEqC, cNeC, cEqB, cNeB, cLtN, cLeN, cGtN, cGeN, cIsN, cNsN, none_non, none_nat, none_cube, none_bl, none_str, none_tup, cIsB, cNsB, cInN, cEqNL, cNeNL, pr_sortL, cNiN, cInC, tr_bl, tr_non, tr_nat, tr_lst, tr_tup, ix_t0, ix_t1, ix_t2, ix_t3, ix_l0, ix_l1, ix_l2, ix_l3, ix_c0, ix_c1, pr_lenL, pr_lenT, pr_lenC, pr_lenD, pr_lenK, pr_tupL, pr_tupT, pr_lstL, pr_lstT, pr_lstC, pr_lstS, pr_intN, pr_intB, pr_sumN, pr_allB, pr_anyB, it_lst, it_tup, it_cov, sq_lst, sq_tup, sq_cov, fl_nat, fl_str, fl_bl, fl_non, fl_lst, fl_tup, fl_cube, fl_cover, fit0, fit1, fit2, fit3, fit4, end_none, end_nat, sl_lt, sl_lf, sl_tt, sl_tf, sl_ct, sl_cf, map_snoc, T_is_number, io_is_number, T_is_cube, io_is_cube, T_is_cover, io_is_cover, T_in_cube, io_in_cube, T_in_cover, io_in_cover, T_is_gate, io_is_gate, T_next_value, io_next_value, T_fights, io_fights, T_reads, io_reads, T__law_draws, io__law_draws, T__law_draw, io__law_draw, T__law_same, io__law_same, T__law_has, io__law_has, T__law_in, io__law_in, T__law_cube, io__law_cube, T__law_cover, io__law_cover, T__law_bits, io__law_bits, T__law_odd, io__law_odd, T__law_next, io__law_next, T__law_gate, io__law_gate, T__law_reads, io__law_reads, T__law_wrong, io__law_wrong, T_law, io_law, op_k_is_cover_0, rs_k_is_cover_0, op_k_in_cover_0, rs_k_in_cover_0, op_k__law_in_0, rs_k__law_in_0, op_k__law_cover_0, rs_k__law_cover_0, op_k__law_reads_2, rs_k__law_reads_2, h0, hs, hsub, n1, n2, e1]
      · have e1 : isCubeB w (.tup [a, b]) = false := by cases a <;> first | rfl | exact absurd ⟨_, rfl⟩ ha
        rw [isNum_not fun j z => ha ⟨j, z⟩] at n1
        simp -implicitDefEqProofs only [f_is_cube, List.map_cons, List.map_nil, List.cons_append, List.nil_append, List.replicate, Nat.sub_self, Nat.reduceSub, end_rt, end_nx, end_ite, outsOf, forN_nil, bindV, bind_ite, opt_some, es_nil', es_cons', then_nx, then_bk, then_ct, then_rt, es1_asg', es1_setx', es1_aug', es1_par', es1_app', es1_ext', es1_ex', es1_ret', op_var, rs_var, op_cst, rs_cst, op_tup, rs_tup, op_lst, rs_lst, op_bin, rs_bin, op_un, rs_un, op_nt, rs_nt, op_cmp, rs_cmp, op_cmp2, rs_cmp2, op_and, rs_and, op_or, rs_or, op_ife, rs_ife, op_ix, rs_ix, op_sl, rs_sl, op_rev, rs_rev, op_call, rs_call, op_prim, rs_prim, op_comp, rs_comp, op_pop, rs_pop, op_dnew, rs_dnew, op_get, rs_get, es1_ret0', es1_ite', es1_brk', es1_cnt', es1_pass', es1_for', es1_wh', ev_var', ev_cst', ev_tup', ev_lst', ev_bin', ev_un', ev_nt', ev_cmp', ev_cmp2', ev_and', ev_or', ev_ife', ev_ix', ev_sl', ev_rev', ev_call', ev_prim', ev_pop', ev_dnew', ev_get', ev_sset', ev_lset', op_sset, op_lset, rs_sset, rs_lset, evs_nil', evs_cons', evx_no', evx_yes', evt_tru', evt_and', evt_or', evt_nt', evt_e', evi_seq', evi_rng', evi_rng2', evi_enum', getB, setB, pk, tk, pks, tks, B.dat, asg_nm, asg_tp, asg_cube, asgN, onOwn, stillB, backB, wipeB, turnF, turnX, turnC, ite_caA, ite_caO, ite_rA, ite_cp, ite_blT, ite_blF, ite_bT, ite_bF, ite_rF, ite_rT, ite_caF, ite_caT, doCall, callArgs, backIn, frzIn, okSlots, slotsOf, List.all_cons, List.all_nil, List.nodup_cons, List.nodup_nil, List.not_mem_nil, not_false_eq_true, and_self, decide_true, List.contains_nil, List.contains_cons, beq_true, beq_false, Bool.true_beq, Bool.false_beq, decide_false, if_true, if_false, Bool.false_eq_true, Bool.and_true, Bool.true_and, Bool.and_false, Bool.false_and, Bool.or_true, Bool.true_or, Bool.or_false, Bool.false_or, Bool.not_true, Bool.not_false, beq_self_eq_true, Bool.not_not, reduceIte, Nat.reduceBEq, Nat.reduceLT, Nat.reduceLeDiff, Nat.reduceAdd, Nat.reducePow, reduceCtorEq, BEq.rfl, List.length_cons, List.length_nil, List.length_map, List.map_cons, List.map_nil, String.reduceBEq, Option.some.injEq, pi_dct_int, pi_dct_bool, pi_dct_str, pi_dct_tuple, pi_dct_list, pi_tup_int, pi_tup_bool, pi_tup_str, pi_tup_tuple, pi_tup_list, pi_lst_int, pi_lst_bool, pi_lst_str, pi_lst_tuple, pi_lst_list, pi_int_int, pi_int_bool, pi_int_str, pi_int_tuple, pi_int_list, pi_bl_int, pi_bl_bool, pi_bl_str, pi_bl_tuple, pi_bl_list, pi_str_int, pi_str_bool, pi_str_str, pi_str_tuple, pi_str_list, pi_non_int, pi_non_bool, pi_non_str, pi_non_tuple, pi_non_list, pi_nat_int, pi_nat_bool, pi_nat_str, pi_nat_tuple, pi_nat_list, pi_strd_int, pi_strd_bool, pi_strd_str, pi_strd_tuple, pi_strd_list, pi_cube_int, pi_cube_bool, pi_cube_str, pi_cube_tuple, pi_cube_list, pi_cover_int, pi_cover_bool, pi_cover_str, pi_cover_tuple, pi_cover_list, cover_mk, ← List.map_take, ← List.map_drop, it_cube, sq_cube, uNeg1, ltNeg, key_nat, get_n, ix_dn, Option.map_some, cube_mk, bAdd, bAnd, bOr, bXor, bShr, uInv, bAndNot, aAdd, aOr, cEqN, cNeN, cEqS, cNeS, cEqC, cNeC, cEqB, cNeB, cLtN, cLeN, cGtN, cGeN, cIsN, cNsN, none_non, none_nat, none_cube, none_bl, none_str, none_tup, cIsB, cNsB, cInN, cEqNL, cNeNL, pr_sortL, cNiN, cInC, tr_bl, tr_non, tr_nat, tr_lst, tr_tup, ix_t0, ix_t1, ix_t2, ix_t3, ix_l0, ix_l1, ix_l2, ix_l3, ix_c0, ix_c1, pr_lenL, pr_lenT, pr_lenC, pr_lenD, pr_lenK, pr_tupL, pr_tupT, pr_lstL, pr_lstT, pr_lstC, pr_lstS, pr_intN, pr_intB, pr_sumN, pr_allB, pr_anyB, it_lst, it_tup, it_cov, sq_lst, sq_tup, sq_cov, fl_nat, fl_str, fl_bl, fl_non, fl_lst, fl_tup, fl_cube, fl_cover, fit0, fit1, fit2, fit3, fit4, end_none, end_nat, sl_lt, sl_lf, sl_tt, sl_tf, sl_ct, sl_cf, map_snoc, T_is_number, io_is_number, T_is_cube, io_is_cube, T_is_cover, io_is_cover, T_in_cube, io_in_cube, T_in_cover, io_in_cover, T_is_gate, io_is_gate, T_next_value, io_next_value, T_fights, io_fights, T_reads, io_reads, T__law_draws, io__law_draws, T__law_draw, io__law_draw, T__law_same, io__law_same, T__law_has, io__law_has, T__law_in, io__law_in, T__law_cube, io__law_cube, T__law_cover, io__law_cover, T__law_bits, io__law_bits, T__law_odd, io__law_odd, T__law_next, io__law_next, T__law_gate, io__law_gate, T__law_reads, io__law_reads, T__law_wrong, io__law_wrong, T_law, io_law, op_k_is_cover_0, rs_k_is_cover_0, op_k_in_cover_0, rs_k_in_cover_0, op_k__law_in_0, rs_k__law_in_0, op_k__law_cover_0, rs_k__law_cover_0, op_k__law_reads_2, rs_k__law_reads_2, h0, hs, hsub, n1, e1]
  | scr _ => rcases hd with ⟨k, h⟩ | ⟨ds, h⟩ <;> simp [D.ok] at h
  | ty _ => rcases hd with ⟨k, h⟩ | ⟨ds, h⟩ <;> simp [D.ok] at h
  | _ => simp -implicitDefEqProofs only [f_is_cube, List.map_cons, List.map_nil, List.cons_append, List.nil_append, List.replicate, Nat.sub_self, Nat.reduceSub, end_rt, end_nx, end_ite, outsOf, forN_nil, bindV, bind_ite, opt_some, es_nil', es_cons', then_nx, then_bk, then_ct, then_rt, es1_asg', es1_setx', es1_aug', es1_par', es1_app', es1_ext', es1_ex', es1_ret', op_var, rs_var, op_cst, rs_cst, op_tup, rs_tup, op_lst, rs_lst, op_bin, rs_bin, op_un, rs_un, op_nt, rs_nt, op_cmp, rs_cmp, op_cmp2, rs_cmp2, op_and, rs_and, op_or, rs_or, op_ife, rs_ife, op_ix, rs_ix, op_sl, rs_sl, op_rev, rs_rev, op_call, rs_call, op_prim, rs_prim, op_comp, rs_comp, op_pop, rs_pop, op_dnew, rs_dnew, op_get, rs_get, es1_ret0', es1_ite', es1_brk', es1_cnt', es1_pass', es1_for', es1_wh', ev_var', ev_cst', ev_tup', ev_lst', ev_bin', ev_un', ev_nt', ev_cmp', ev_cmp2', ev_and', ev_or', ev_ife', ev_ix', ev_sl', ev_rev', ev_call', ev_prim', ev_pop', ev_dnew', ev_get', ev_sset', ev_lset', op_sset, op_lset, rs_sset, rs_lset, evs_nil', evs_cons', evx_no', evx_yes', evt_tru', evt_and', evt_or', evt_nt', evt_e', evi_seq', evi_rng', evi_rng2', evi_enum', getB, setB, pk, tk, pks, tks, B.dat, asg_nm, asg_tp, asg_cube, asgN, onOwn, stillB, backB, wipeB, turnF, turnX, turnC, ite_caA, ite_caO, ite_rA, ite_cp, ite_blT, ite_blF, ite_bT, ite_bF, ite_rF, ite_rT, ite_caF, ite_caT, doCall, callArgs, backIn, frzIn, okSlots, slotsOf, List.all_cons, List.all_nil, List.nodup_cons, List.nodup_nil, List.not_mem_nil, not_false_eq_true, and_self, decide_true, List.contains_nil, List.contains_cons, beq_true, beq_false, Bool.true_beq, Bool.false_beq, decide_false, if_true, if_false, Bool.false_eq_true, Bool.and_true, Bool.true_and, Bool.and_false, Bool.false_and, Bool.or_true, Bool.true_or, Bool.or_false, Bool.false_or, Bool.not_true, Bool.not_false, beq_self_eq_true, Bool.not_not, reduceIte, Nat.reduceBEq, Nat.reduceLT, Nat.reduceLeDiff, Nat.reduceAdd, Nat.reducePow, reduceCtorEq, BEq.rfl, List.length_cons, List.length_nil, List.length_map, List.map_cons, List.map_nil, String.reduceBEq, Option.some.injEq, pi_dct_int, pi_dct_bool, pi_dct_str, pi_dct_tuple, pi_dct_list, pi_tup_int, pi_tup_bool, pi_tup_str, pi_tup_tuple, pi_tup_list, pi_lst_int, pi_lst_bool, pi_lst_str, pi_lst_tuple, pi_lst_list, pi_int_int, pi_int_bool, pi_int_str, pi_int_tuple, pi_int_list, pi_bl_int, pi_bl_bool, pi_bl_str, pi_bl_tuple, pi_bl_list, pi_str_int, pi_str_bool, pi_str_str, pi_str_tuple, pi_str_list, pi_non_int, pi_non_bool, pi_non_str, pi_non_tuple, pi_non_list, pi_nat_int, pi_nat_bool, pi_nat_str, pi_nat_tuple, pi_nat_list, pi_strd_int, pi_strd_bool, pi_strd_str, pi_strd_tuple, pi_strd_list, pi_cube_int, pi_cube_bool, pi_cube_str, pi_cube_tuple, pi_cube_list, pi_cover_int, pi_cover_bool, pi_cover_str, pi_cover_tuple, pi_cover_list, cover_mk, ← List.map_take, ← List.map_drop, it_cube, sq_cube, uNeg1, ltNeg, key_nat, get_n, ix_dn, Option.map_some, cube_mk, bAdd, bAnd, bOr, bXor, bShr, uInv, bAndNot, aAdd, aOr, cEqN, cNeN, cEqS, cNeS, cEqC, cNeC, cEqB, cNeB, cLtN, cLeN, cGtN, cGeN, cIsN, cNsN, none_non, none_nat, none_cube, none_bl, none_str, none_tup, cIsB, cNsB, cInN, cEqNL, cNeNL, pr_sortL, cNiN, cInC, tr_bl, tr_non, tr_nat, tr_lst, tr_tup, ix_t0, ix_t1, ix_t2, ix_t3, ix_l0, ix_l1, ix_l2, ix_l3, ix_c0, ix_c1, pr_lenL, pr_lenT, pr_lenC, pr_lenD, pr_lenK, pr_tupL, pr_tupT, pr_lstL, pr_lstT, pr_lstC, pr_lstS, pr_intN, pr_intB, pr_sumN, pr_allB, pr_anyB, it_lst, it_tup, it_cov, sq_lst, sq_tup, sq_cov, fl_nat, fl_str, fl_bl, fl_non, fl_lst, fl_tup, fl_cube, fl_cover, fit0, fit1, fit2, fit3, fit4, end_none, end_nat, sl_lt, sl_lf, sl_tt, sl_tf, sl_ct, sl_cf, map_snoc, T_is_number, io_is_number, T_is_cube, io_is_cube, T_is_cover, io_is_cover, T_in_cube, io_in_cube, T_in_cover, io_in_cover, T_is_gate, io_is_gate, T_next_value, io_next_value, T_fights, io_fights, T_reads, io_reads, T__law_draws, io__law_draws, T__law_draw, io__law_draw, T__law_same, io__law_same, T__law_has, io__law_has, T__law_in, io__law_in, T__law_cube, io__law_cube, T__law_cover, io__law_cover, T__law_bits, io__law_bits, T__law_odd, io__law_odd, T__law_next, io__law_next, T__law_gate, io__law_gate, T__law_reads, io__law_reads, T__law_wrong, io__law_wrong, T_law, io_law, op_k_is_cover_0, rs_k_is_cover_0, op_k_in_cover_0, rs_k_in_cover_0, op_k__law_in_0, rs_k__law_in_0, op_k__law_cover_0, rs_k__law_cover_0, op_k__law_reads_2, rs_k__law_reads_2, isCubeB]
theorem is_cube_cu {w : Nat} (c : Nat × Nat) : isCubeB w (cubeD c) = true ↔ Cu w c := by
  have e : isCubeB w (cubeD c) = ((decide ((0 : Int) ≤ (c.1 : Nat)) && decide (((c.1 : Nat) : Int) ≤ (2 ^ w - 1 : Nat))) && (decide ((0 : Int) ≤ (c.2 : Nat)) && decide (((c.2 : Nat) : Int) ≤ (2 ^ w - 1 : Nat))) && (Builtin.bitAnd (c.1 : Int) (c.2 : Int) == (c.2 : Int))) := rfl
  rw [e, band_nat, nat_beq]
  have hp := pow2_pos w
  have hle := Nat.and_le_left (n := c.1) (m := c.2)
  simp only [Bool.and_eq_true, decide_eq_true_eq, beq_iff_eq, Cu]
  generalize c.1 &&& c.2 = z at *
  omega
theorem is_cover_ok {N : Nat} (hN : 3 ≤ N) {w : Nat} (hw : w ≤ 900) {xs : List D} (hx : ∀ x ∈ xs, Known x) (hl : xs.length ≤ 1000000) : callF T m N 2 [.sh (.tup xs), .sh (natD w)] = .ret false (.bl (xs.all (isCubeB w))) [.sh (.tup xs), .sh (natD w)] := by
  obtain ⟨n, rfl, hn⟩ := to_succ hN
  have hk : ev T (callF T m n) k_is_cover_0 [some (.sh (.tup xs)), some (.sh (natD w)), none, none] = .val (true, .lst ((xs.map (isCubeB w)).map D.bl)) [some (.sh (.tup xs)), some (.sh (natD w)), none, none] :=
    comp_map (fun d => d) D.bl (isCubeB w) ⟨_, _, _, _, _, rfl⟩ (by rw [List.map_id']; simp -implicitDefEqProofs only [k_is_cover_0, compIt, forN_nil, bindV, bind_ite, opt_some, es_nil', es_cons', then_nx, then_bk, then_ct, then_rt, es1_asg', es1_setx', es1_aug', es1_par', es1_app', es1_ext', es1_ex', es1_ret', op_var, rs_var, op_cst, rs_cst, op_tup, rs_tup, op_lst, rs_lst, op_bin, rs_bin, op_un, rs_un, op_nt, rs_nt, op_cmp, rs_cmp, op_cmp2, rs_cmp2, op_and, rs_and, op_or, rs_or, op_ife, rs_ife, op_ix, rs_ix, op_sl, rs_sl, op_rev, rs_rev, op_call, rs_call, op_prim, rs_prim, op_comp, rs_comp, op_pop, rs_pop, op_dnew, rs_dnew, op_get, rs_get, es1_ret0', es1_ite', es1_brk', es1_cnt', es1_pass', es1_for', es1_wh', ev_var', ev_cst', ev_tup', ev_lst', ev_bin', ev_un', ev_nt', ev_cmp', ev_cmp2', ev_and', ev_or', ev_ife', ev_ix', ev_sl', ev_rev', ev_call', ev_prim', ev_pop', ev_dnew', ev_get', ev_sset', ev_lset', op_sset, op_lset, rs_sset, rs_lset, evs_nil', evs_cons', evx_no', evx_yes', evt_tru', evt_and', evt_or', evt_nt', evt_e', evi_seq', evi_rng', evi_rng2', evi_enum', getB, setB, pk, tk, pks, tks, B.dat, asg_nm, asg_tp, asg_cube, asgN, onOwn, stillB, backB, wipeB, turnF, turnX, turnC, ite_caA, ite_caO, ite_rA, ite_cp, ite_blT, ite_blF, ite_bT, ite_bF, ite_rF, ite_rT, ite_caF, ite_caT, doCall, callArgs, backIn, frzIn, okSlots, slotsOf, List.all_cons, List.all_nil, List.nodup_cons, List.nodup_nil, List.not_mem_nil, not_false_eq_true, and_self, decide_true, List.contains_nil, List.contains_cons, beq_true, beq_false, Bool.true_beq, Bool.false_beq, decide_false, if_true, if_false, Bool.false_eq_true, Bool.and_true, Bool.true_and, Bool.and_false, Bool.false_and, Bool.or_true, Bool.true_or, Bool.or_false, Bool.false_or, Bool.not_true, Bool.not_false, beq_self_eq_true, Bool.not_not, reduceIte, Nat.reduceBEq, Nat.reduceLT, Nat.reduceLeDiff, Nat.reduceAdd, Nat.reducePow, reduceCtorEq, BEq.rfl, List.length_cons, List.length_nil, List.length_map, List.map_cons, List.map_nil, String.reduceBEq, Option.some.injEq, pi_dct_int, pi_dct_bool, pi_dct_str, pi_dct_tuple, pi_dct_list, pi_tup_int, pi_tup_bool, pi_tup_str, pi_tup_tuple, pi_tup_list, pi_lst_int, pi_lst_bool, pi_lst_str, pi_lst_tuple, pi_lst_list, pi_int_int, pi_int_bool, pi_int_str, pi_int_tuple, pi_int_list, pi_bl_int, pi_bl_bool, pi_bl_str, pi_bl_tuple, pi_bl_list, pi_str_int, pi_str_bool, pi_str_str, pi_str_tuple, pi_str_list, pi_non_int, pi_non_bool, pi_non_str, pi_non_tuple, pi_non_list, pi_nat_int, pi_nat_bool, pi_nat_str, pi_nat_tuple, pi_nat_list, pi_strd_int, pi_strd_bool, pi_strd_str, pi_strd_tuple, pi_strd_list, pi_cube_int, pi_cube_bool, pi_cube_str, pi_cube_tuple, pi_cube_list, pi_cover_int, pi_cover_bool, pi_cover_str, pi_cover_tuple, pi_cover_list, cover_mk, ← List.map_take, ← List.map_drop, it_cube, sq_cube, uNeg1, ltNeg, key_nat, get_n, ix_dn, Option.map_some, cube_mk, bAdd, bAnd, bOr, bXor, bShr, uInv, bAndNot, aAdd, aOr, cEqN, cNeN, cEqS, cNeS, cEqC, cNeC, cEqB, cNeB, cLtN, cLeN, cGtN, cGeN, cIsN, cNsN, none_non, none_nat, none_cube, none_bl, none_str, none_tup, cIsB, cNsB, cInN, cEqNL, cNeNL, pr_sortL, cNiN, cInC, tr_bl, tr_non, tr_nat, tr_lst, tr_tup, ix_t0, ix_t1, ix_t2, ix_t3, ix_l0, ix_l1, ix_l2, ix_l3, ix_c0, ix_c1, pr_lenL, pr_lenT, pr_lenC, pr_lenD, pr_lenK, pr_tupL, pr_tupT, pr_lstL, pr_lstT, pr_lstC, pr_lstS, pr_intN, pr_intB, pr_sumN, pr_allB, pr_anyB, it_lst, it_tup, it_cov, sq_lst, sq_tup, sq_cov, fl_nat, fl_str, fl_bl, fl_non, fl_lst, fl_tup, fl_cube, fl_cover, fit0, fit1, fit2, fit3, fit4, end_none, end_nat, sl_lt, sl_lf, sl_tt, sl_tf, sl_ct, sl_cf, map_snoc]) rfl (fun d hd => by
      have h := is_cube_ok (m := m) hn hw (hx d hd)
      simp -implicitDefEqProofs only [k_is_cover_0, forN_nil, bindV, bind_ite, opt_some, es_nil', es_cons', then_nx, then_bk, then_ct, then_rt, es1_asg', es1_setx', es1_aug', es1_par', es1_app', es1_ext', es1_ex', es1_ret', op_var, rs_var, op_cst, rs_cst, op_tup, rs_tup, op_lst, rs_lst, op_bin, rs_bin, op_un, rs_un, op_nt, rs_nt, op_cmp, rs_cmp, op_cmp2, rs_cmp2, op_and, rs_and, op_or, rs_or, op_ife, rs_ife, op_ix, rs_ix, op_sl, rs_sl, op_rev, rs_rev, op_call, rs_call, op_prim, rs_prim, op_comp, rs_comp, op_pop, rs_pop, op_dnew, rs_dnew, op_get, rs_get, es1_ret0', es1_ite', es1_brk', es1_cnt', es1_pass', es1_for', es1_wh', ev_var', ev_cst', ev_tup', ev_lst', ev_bin', ev_un', ev_nt', ev_cmp', ev_cmp2', ev_and', ev_or', ev_ife', ev_ix', ev_sl', ev_rev', ev_call', ev_prim', ev_pop', ev_dnew', ev_get', ev_sset', ev_lset', op_sset, op_lset, rs_sset, rs_lset, evs_nil', evs_cons', evx_no', evx_yes', evt_tru', evt_and', evt_or', evt_nt', evt_e', evi_seq', evi_rng', evi_rng2', evi_enum', getB, setB, pk, tk, pks, tks, B.dat, asg_nm, asg_tp, asg_cube, asgN, onOwn, stillB, backB, wipeB, turnF, turnX, turnC, ite_caA, ite_caO, ite_rA, ite_cp, ite_blT, ite_blF, ite_bT, ite_bF, ite_rF, ite_rT, ite_caF, ite_caT, doCall, callArgs, backIn, frzIn, okSlots, slotsOf, List.all_cons, List.all_nil, List.nodup_cons, List.nodup_nil, List.not_mem_nil, not_false_eq_true, and_self, decide_true, List.contains_nil, List.contains_cons, beq_true, beq_false, Bool.true_beq, Bool.false_beq, decide_false, if_true, if_false, Bool.false_eq_true, Bool.and_true, Bool.true_and, Bool.and_false, Bool.false_and, Bool.or_true, Bool.true_or, Bool.or_false, Bool.false_or, Bool.not_true, Bool.not_false, beq_self_eq_true, Bool.not_not, reduceIte, Nat.reduceBEq, Nat.reduceLT, Nat.reduceLeDiff, Nat.reduceAdd, Nat.reducePow, reduceCtorEq, BEq.rfl, List.length_cons, List.length_nil, List.length_map, List.map_cons, List.map_nil, String.reduceBEq, Option.some.injEq, pi_dct_int, pi_dct_bool, pi_dct_str, pi_dct_tuple, pi_dct_list, pi_tup_int, pi_tup_bool, pi_tup_str, pi_tup_tuple, pi_tup_list, pi_lst_int, pi_lst_bool, pi_lst_str, pi_lst_tuple, pi_lst_list, pi_int_int, pi_int_bool, pi_int_str, pi_int_tuple, pi_int_list, pi_bl_int, pi_bl_bool, pi_bl_str, pi_bl_tuple, pi_bl_list, pi_str_int, pi_str_bool, pi_str_str, pi_str_tuple, pi_str_list, pi_non_int, pi_non_bool, pi_non_str, pi_non_tuple, pi_non_list, pi_nat_int, pi_nat_bool, pi_nat_str, pi_nat_tuple, pi_nat_list, pi_strd_int, pi_strd_bool, pi_strd_str, pi_strd_tuple, pi_strd_list, pi_cube_int, pi_cube_bool, pi_cube_str, pi_cube_tuple, pi_cube_list, pi_cover_int, pi_cover_bool, pi_cover_str, pi_cover_tuple, pi_cover_list, cover_mk, ← List.map_take, ← List.map_drop, it_cube, sq_cube, uNeg1, ltNeg, key_nat, get_n, ix_dn, Option.map_some, cube_mk, bAdd, bAnd, bOr, bXor, bShr, uInv, bAndNot, aAdd, aOr, cEqN, cNeN, cEqS, cNeS, cEqC, cNeC, cEqB, cNeB, cLtN, cLeN, cGtN, cGeN, cIsN, cNsN, none_non, none_nat, none_cube, none_bl, none_str, none_tup, cIsB, cNsB, cInN, cEqNL, cNeNL, pr_sortL, cNiN, cInC, tr_bl, tr_non, tr_nat, tr_lst, tr_tup, ix_t0, ix_t1, ix_t2, ix_t3, ix_l0, ix_l1, ix_l2, ix_l3, ix_c0, ix_c1, pr_lenL, pr_lenT, pr_lenC, pr_lenD, pr_lenK, pr_tupL, pr_tupT, pr_lstL, pr_lstT, pr_lstC, pr_lstS, pr_intN, pr_intB, pr_sumN, pr_allB, pr_anyB, it_lst, it_tup, it_cov, sq_lst, sq_tup, sq_cov, fl_nat, fl_str, fl_bl, fl_non, fl_lst, fl_tup, fl_cube, fl_cover, fit0, fit1, fit2, fit3, fit4, end_none, end_nat, sl_lt, sl_lf, sl_tt, sl_tf, sl_ct, sl_cf, map_snoc, T_is_number, io_is_number, T_is_cube, io_is_cube, T_is_cover, io_is_cover, T_in_cube, io_in_cube, T_in_cover, io_in_cover, T_is_gate, io_is_gate, T_next_value, io_next_value, T_fights, io_fights, T_reads, io_reads, T__law_draws, io__law_draws, T__law_draw, io__law_draw, T__law_same, io__law_same, T__law_has, io__law_has, T__law_in, io__law_in, T__law_cube, io__law_cube, T__law_cover, io__law_cover, T__law_bits, io__law_bits, T__law_odd, io__law_odd, T__law_next, io__law_next, T__law_gate, io__law_gate, T__law_reads, io__law_reads, T__law_wrong, io__law_wrong, T_law, io_law, op_k_is_cover_0, rs_k_is_cover_0, op_k_in_cover_0, rs_k_in_cover_0, op_k__law_in_0, rs_k__law_in_0, op_k__law_cover_0, rs_k__law_cover_0, op_k__law_reads_2, rs_k__law_reads_2, h]) hl
  have e : ((xs.map (isCubeB w)).all id) = xs.all (isCubeB w) := by rw [List.all_map]; rfl
  rw [callF_body T_is_cover rfl]
  simp -implicitDefEqProofs only [f_is_cover, List.map_cons, List.map_nil, List.cons_append, List.nil_append, List.replicate, Nat.sub_self, Nat.reduceSub, end_rt, end_nx, end_ite, outsOf, forN_nil, bindV, bind_ite, opt_some, es_nil', es_cons', then_nx, then_bk, then_ct, then_rt, es1_asg', es1_setx', es1_aug', es1_par', es1_app', es1_ext', es1_ex', es1_ret', op_var, rs_var, op_cst, rs_cst, op_tup, rs_tup, op_lst, rs_lst, op_bin, rs_bin, op_un, rs_un, op_nt, rs_nt, op_cmp, rs_cmp, op_cmp2, rs_cmp2, op_and, rs_and, op_or, rs_or, op_ife, rs_ife, op_ix, rs_ix, op_sl, rs_sl, op_rev, rs_rev, op_call, rs_call, op_prim, rs_prim, op_comp, rs_comp, op_pop, rs_pop, op_dnew, rs_dnew, op_get, rs_get, es1_ret0', es1_ite', es1_brk', es1_cnt', es1_pass', es1_for', es1_wh', ev_var', ev_cst', ev_tup', ev_lst', ev_bin', ev_un', ev_nt', ev_cmp', ev_cmp2', ev_and', ev_or', ev_ife', ev_ix', ev_sl', ev_rev', ev_call', ev_prim', ev_pop', ev_dnew', ev_get', ev_sset', ev_lset', op_sset, op_lset, rs_sset, rs_lset, evs_nil', evs_cons', evx_no', evx_yes', evt_tru', evt_and', evt_or', evt_nt', evt_e', evi_seq', evi_rng', evi_rng2', evi_enum', getB, setB, pk, tk, pks, tks, B.dat, asg_nm, asg_tp, asg_cube, asgN, onOwn, stillB, backB, wipeB, turnF, turnX, turnC, ite_caA, ite_caO, ite_rA, ite_cp, ite_blT, ite_blF, ite_bT, ite_bF, ite_rF, ite_rT, ite_caF, ite_caT, doCall, callArgs, backIn, frzIn, okSlots, slotsOf, List.all_cons, List.all_nil, List.nodup_cons, List.nodup_nil, List.not_mem_nil, not_false_eq_true, and_self, decide_true, List.contains_nil, List.contains_cons, beq_true, beq_false, Bool.true_beq, Bool.false_beq, decide_false, if_true, if_false, Bool.false_eq_true, Bool.and_true, Bool.true_and, Bool.and_false, Bool.false_and, Bool.or_true, Bool.true_or, Bool.or_false, Bool.false_or, Bool.not_true, Bool.not_false, beq_self_eq_true, Bool.not_not, reduceIte, Nat.reduceBEq, Nat.reduceLT, Nat.reduceLeDiff, Nat.reduceAdd, Nat.reducePow, reduceCtorEq, BEq.rfl, List.length_cons, List.length_nil, List.length_map, List.map_cons, List.map_nil, String.reduceBEq, Option.some.injEq, pi_dct_int, pi_dct_bool, pi_dct_str, pi_dct_tuple, pi_dct_list, pi_tup_int, pi_tup_bool, pi_tup_str, pi_tup_tuple, pi_tup_list, pi_lst_int, pi_lst_bool, pi_lst_str, pi_lst_tuple, pi_lst_list, pi_int_int, pi_int_bool, pi_int_str, pi_int_tuple, pi_int_list, pi_bl_int, pi_bl_bool, pi_bl_str, pi_bl_tuple, pi_bl_list, pi_str_int, pi_str_bool, pi_str_str, pi_str_tuple, pi_str_list, pi_non_int, pi_non_bool, pi_non_str, pi_non_tuple, pi_non_list, pi_nat_int, pi_nat_bool, pi_nat_str, pi_nat_tuple, pi_nat_list, pi_strd_int, pi_strd_bool, pi_strd_str, pi_strd_tuple, pi_strd_list, pi_cube_int, pi_cube_bool, pi_cube_str, pi_cube_tuple, pi_cube_list, pi_cover_int, pi_cover_bool, pi_cover_str, pi_cover_tuple, pi_cover_list, cover_mk, ← List.map_take, ← List.map_drop, it_cube, sq_cube, uNeg1, ltNeg, key_nat, get_n, ix_dn, Option.map_some, cube_mk, bAdd, bAnd, bOr, bXor, bShr, uInv, bAndNot, aAdd, aOr, cEqN, cNeN, cEqS, cNeS, cEqC, cNeC, cEqB, cNeB, cLtN, cLeN, cGtN, cGeN, cIsN, cNsN, none_non, none_nat, none_cube, none_bl, none_str, none_tup, cIsB, cNsB, cInN, cEqNL, cNeNL, pr_sortL, cNiN, cInC, tr_bl, tr_non, tr_nat, tr_lst, tr_tup, ix_t0, ix_t1, ix_t2, ix_t3, ix_l0, ix_l1, ix_l2, ix_l3, ix_c0, ix_c1, pr_lenL, pr_lenT, pr_lenC, pr_lenD, pr_lenK, pr_tupL, pr_tupT, pr_lstL, pr_lstT, pr_lstC, pr_lstS, pr_intN, pr_intB, pr_sumN, pr_allB, pr_anyB, it_lst, it_tup, it_cov, sq_lst, sq_tup, sq_cov, fl_nat, fl_str, fl_bl, fl_non, fl_lst, fl_tup, fl_cube, fl_cover, fit0, fit1, fit2, fit3, fit4, end_none, end_nat, sl_lt, sl_lf, sl_tt, sl_tf, sl_ct, sl_cf, map_snoc, T_is_number, io_is_number, T_is_cube, io_is_cube, T_is_cover, io_is_cover, T_in_cube, io_in_cube, T_in_cover, io_in_cover, T_is_gate, io_is_gate, T_next_value, io_next_value, T_fights, io_fights, T_reads, io_reads, T__law_draws, io__law_draws, T__law_draw, io__law_draw, T__law_same, io__law_same, T__law_has, io__law_has, T__law_in, io__law_in, T__law_cube, io__law_cube, T__law_cover, io__law_cover, T__law_bits, io__law_bits, T__law_odd, io__law_odd, T__law_next, io__law_next, T__law_gate, io__law_gate, T__law_reads, io__law_reads, T__law_wrong, io__law_wrong, T_law, io_law, op_k_is_cover_0, rs_k_is_cover_0, op_k_in_cover_0, rs_k_in_cover_0, op_k__law_in_0, rs_k__law_in_0, op_k__law_cover_0, rs_k__law_cover_0, op_k__law_reads_2, rs_k__law_reads_2, hk, e]
theorem is_cover_not {N : Nat} (hN : 1 ≤ N) {w : Nat} {d : D} (hd : Known d) (ht : ∀ xs, d ≠ .tup xs) : callF T m N 2 [.sh d, .sh (natD w)] = .ret false (.bl false) [.sh d, .sh (natD w)] := by
  obtain ⟨n, rfl, hn⟩ := to_succ hN
  rw [callF_body T_is_cover rfl]
  cases d with
  | tup xs => exact absurd rfl (ht xs)
  | scr _ => rcases hd with ⟨k, h⟩ | ⟨ds, h⟩ <;> simp [D.ok] at h
  | ty _ => rcases hd with ⟨k, h⟩ | ⟨ds, h⟩ <;> simp [D.ok] at h
  | _ => simp -implicitDefEqProofs only [f_is_cover, List.map_cons, List.map_nil, List.cons_append, List.nil_append, List.replicate, Nat.sub_self, Nat.reduceSub, end_rt, end_nx, end_ite, outsOf, forN_nil, bindV, bind_ite, opt_some, es_nil', es_cons', then_nx, then_bk, then_ct, then_rt, es1_asg', es1_setx', es1_aug', es1_par', es1_app', es1_ext', es1_ex', es1_ret', op_var, rs_var, op_cst, rs_cst, op_tup, rs_tup, op_lst, rs_lst, op_bin, rs_bin, op_un, rs_un, op_nt, rs_nt, op_cmp, rs_cmp, op_cmp2, rs_cmp2, op_and, rs_and, op_or, rs_or, op_ife, rs_ife, op_ix, rs_ix, op_sl, rs_sl, op_rev, rs_rev, op_call, rs_call, op_prim, rs_prim, op_comp, rs_comp, op_pop, rs_pop, op_dnew, rs_dnew, op_get, rs_get, es1_ret0', es1_ite', es1_brk', es1_cnt', es1_pass', es1_for', es1_wh', ev_var', ev_cst', ev_tup', ev_lst', ev_bin', ev_un', ev_nt', ev_cmp', ev_cmp2', ev_and', ev_or', ev_ife', ev_ix', ev_sl', ev_rev', ev_call', ev_prim', ev_pop', ev_dnew', ev_get', ev_sset', ev_lset', op_sset, op_lset, rs_sset, rs_lset, evs_nil', evs_cons', evx_no', evx_yes', evt_tru', evt_and', evt_or', evt_nt', evt_e', evi_seq', evi_rng', evi_rng2', evi_enum', getB, setB, pk, tk, pks, tks, B.dat, asg_nm, asg_tp, asg_cube, asgN, onOwn, stillB, backB, wipeB, turnF, turnX, turnC, ite_caA, ite_caO, ite_rA, ite_cp, ite_blT, ite_blF, ite_bT, ite_bF, ite_rF, ite_rT, ite_caF, ite_caT, doCall, callArgs, backIn, frzIn, okSlots, slotsOf, List.all_cons, List.all_nil, List.nodup_cons, List.nodup_nil, List.not_mem_nil, not_false_eq_true, and_self, decide_true, List.contains_nil, List.contains_cons, beq_true, beq_false, Bool.true_beq, Bool.false_beq, decide_false, if_true, if_false, Bool.false_eq_true, Bool.and_true, Bool.true_and, Bool.and_false, Bool.false_and, Bool.or_true, Bool.true_or, Bool.or_false, Bool.false_or, Bool.not_true, Bool.not_false, beq_self_eq_true, Bool.not_not, reduceIte, Nat.reduceBEq, Nat.reduceLT, Nat.reduceLeDiff, Nat.reduceAdd, Nat.reducePow, reduceCtorEq, BEq.rfl, List.length_cons, List.length_nil, List.length_map, List.map_cons, List.map_nil, String.reduceBEq, Option.some.injEq, pi_dct_int, pi_dct_bool, pi_dct_str, pi_dct_tuple, pi_dct_list, pi_tup_int, pi_tup_bool, pi_tup_str, pi_tup_tuple, pi_tup_list, pi_lst_int, pi_lst_bool, pi_lst_str, pi_lst_tuple, pi_lst_list, pi_int_int, pi_int_bool, pi_int_str, pi_int_tuple, pi_int_list, pi_bl_int, pi_bl_bool, pi_bl_str, pi_bl_tuple, pi_bl_list, pi_str_int, pi_str_bool, pi_str_str, pi_str_tuple, pi_str_list, pi_non_int, pi_non_bool, pi_non_str, pi_non_tuple, pi_non_list, pi_nat_int, pi_nat_bool, pi_nat_str, pi_nat_tuple, pi_nat_list, pi_strd_int, pi_strd_bool, pi_strd_str, pi_strd_tuple, pi_strd_list, pi_cube_int, pi_cube_bool, pi_cube_str, pi_cube_tuple, pi_cube_list, pi_cover_int, pi_cover_bool, pi_cover_str, pi_cover_tuple, pi_cover_list, cover_mk, ← List.map_take, ← List.map_drop, it_cube, sq_cube, uNeg1, ltNeg, key_nat, get_n, ix_dn, Option.map_some, cube_mk, bAdd, bAnd, bOr, bXor, bShr, uInv, bAndNot, aAdd, aOr, cEqN, cNeN, cEqS, cNeS, cEqC, cNeC, cEqB, cNeB, cLtN, cLeN, cGtN, cGeN, cIsN, cNsN, none_non, none_nat, none_cube, none_bl, none_str, none_tup, cIsB, cNsB, cInN, cEqNL, cNeNL, pr_sortL, cNiN, cInC, tr_bl, tr_non, tr_nat, tr_lst, tr_tup, ix_t0, ix_t1, ix_t2, ix_t3, ix_l0, ix_l1, ix_l2, ix_l3, ix_c0, ix_c1, pr_lenL, pr_lenT, pr_lenC, pr_lenD, pr_lenK, pr_tupL, pr_tupT, pr_lstL, pr_lstT, pr_lstC, pr_lstS, pr_intN, pr_intB, pr_sumN, pr_allB, pr_anyB, it_lst, it_tup, it_cov, sq_lst, sq_tup, sq_cov, fl_nat, fl_str, fl_bl, fl_non, fl_lst, fl_tup, fl_cube, fl_cover, fit0, fit1, fit2, fit3, fit4, end_none, end_nat, sl_lt, sl_lf, sl_tt, sl_tf, sl_ct, sl_cf, map_snoc, T_is_number, io_is_number, T_is_cube, io_is_cube, T_is_cover, io_is_cover, T_in_cube, io_in_cube, T_in_cover, io_in_cover, T_is_gate, io_is_gate, T_next_value, io_next_value, T_fights, io_fights, T_reads, io_reads, T__law_draws, io__law_draws, T__law_draw, io__law_draw, T__law_same, io__law_same, T__law_has, io__law_has, T__law_in, io__law_in, T__law_cube, io__law_cube, T__law_cover, io__law_cover, T__law_bits, io__law_bits, T__law_odd, io__law_odd, T__law_next, io__law_next, T__law_gate, io__law_gate, T__law_reads, io__law_reads, T__law_wrong, io__law_wrong, T_law, io_law, op_k_is_cover_0, rs_k_is_cover_0, op_k_in_cover_0, rs_k_in_cover_0, op_k__law_in_0, rs_k__law_in_0, op_k__law_cover_0, rs_k__law_cover_0, op_k__law_reads_2, rs_k__law_reads_2]
theorem in_cube_ok {N : Nat} (hN : 1 ≤ N) (x : Nat) (c : Nat × Nat) : callF T m N 3 [.sh (natD x), .sh (cubeD c)] = .ret false (.bl (hasB x c)) [.sh (natD x), .sh (cubeD c)] := by
  obtain ⟨n, rfl, hn⟩ := to_succ hN
  rw [callF_body T_in_cube rfl]
  simp -implicitDefEqProofs only [f_in_cube, List.map_cons, List.map_nil, List.cons_append, List.nil_append, List.replicate, Nat.sub_self, Nat.reduceSub, end_rt, end_nx, end_ite, outsOf, forN_nil, bindV, bind_ite, opt_some, es_nil', es_cons', then_nx, then_bk, then_ct, then_rt, es1_asg', es1_setx', es1_aug', es1_par', es1_app', es1_ext', es1_ex', es1_ret', op_var, rs_var, op_cst, rs_cst, op_tup, rs_tup, op_lst, rs_lst, op_bin, rs_bin, op_un, rs_un, op_nt, rs_nt, op_cmp, rs_cmp, op_cmp2, rs_cmp2, op_and, rs_and, op_or, rs_or, op_ife, rs_ife, op_ix, rs_ix, op_sl, rs_sl, op_rev, rs_rev, op_call, rs_call, op_prim, rs_prim, op_comp, rs_comp, op_pop, rs_pop, op_dnew, rs_dnew, op_get, rs_get, es1_ret0', es1_ite', es1_brk', es1_cnt', es1_pass', es1_for', es1_wh', ev_var', ev_cst', ev_tup', ev_lst', ev_bin', ev_un', ev_nt', ev_cmp', ev_cmp2', ev_and', ev_or', ev_ife', ev_ix', ev_sl', ev_rev', ev_call', ev_prim', ev_pop', ev_dnew', ev_get', ev_sset', ev_lset', op_sset, op_lset, rs_sset, rs_lset, evs_nil', evs_cons', evx_no', evx_yes', evt_tru', evt_and', evt_or', evt_nt', evt_e', evi_seq', evi_rng', evi_rng2', evi_enum', getB, setB, pk, tk, pks, tks, B.dat, asg_nm, asg_tp, asg_cube, asgN, onOwn, stillB, backB, wipeB, turnF, turnX, turnC, ite_caA, ite_caO, ite_rA, ite_cp, ite_blT, ite_blF, ite_bT, ite_bF, ite_rF, ite_rT, ite_caF, ite_caT, doCall, callArgs, backIn, frzIn, okSlots, slotsOf, List.all_cons, List.all_nil, List.nodup_cons, List.nodup_nil, List.not_mem_nil, not_false_eq_true, and_self, decide_true, List.contains_nil, List.contains_cons, beq_true, beq_false, Bool.true_beq, Bool.false_beq, decide_false, if_true, if_false, Bool.false_eq_true, Bool.and_true, Bool.true_and, Bool.and_false, Bool.false_and, Bool.or_true, Bool.true_or, Bool.or_false, Bool.false_or, Bool.not_true, Bool.not_false, beq_self_eq_true, Bool.not_not, reduceIte, Nat.reduceBEq, Nat.reduceLT, Nat.reduceLeDiff, Nat.reduceAdd, Nat.reducePow, reduceCtorEq, BEq.rfl, List.length_cons, List.length_nil, List.length_map, List.map_cons, List.map_nil, String.reduceBEq, Option.some.injEq, pi_dct_int, pi_dct_bool, pi_dct_str, pi_dct_tuple, pi_dct_list, pi_tup_int, pi_tup_bool, pi_tup_str, pi_tup_tuple, pi_tup_list, pi_lst_int, pi_lst_bool, pi_lst_str, pi_lst_tuple, pi_lst_list, pi_int_int, pi_int_bool, pi_int_str, pi_int_tuple, pi_int_list, pi_bl_int, pi_bl_bool, pi_bl_str, pi_bl_tuple, pi_bl_list, pi_str_int, pi_str_bool, pi_str_str, pi_str_tuple, pi_str_list, pi_non_int, pi_non_bool, pi_non_str, pi_non_tuple, pi_non_list, pi_nat_int, pi_nat_bool, pi_nat_str, pi_nat_tuple, pi_nat_list, pi_strd_int, pi_strd_bool, pi_strd_str, pi_strd_tuple, pi_strd_list, pi_cube_int, pi_cube_bool, pi_cube_str, pi_cube_tuple, pi_cube_list, pi_cover_int, pi_cover_bool, pi_cover_str, pi_cover_tuple, pi_cover_list, cover_mk, ← List.map_take, ← List.map_drop, it_cube, sq_cube, uNeg1, ltNeg, key_nat, get_n, ix_dn, Option.map_some, cube_mk, bAdd, bAnd, bOr, bXor, bShr, uInv, bAndNot, aAdd, aOr, cEqN, cNeN, cEqS, cNeS, cEqC, cNeC, cEqB, cNeB, cLtN, cLeN, cGtN, cGeN, cIsN, cNsN, none_non, none_nat, none_cube, none_bl, none_str, none_tup, cIsB, cNsB, cInN, cEqNL, cNeNL, pr_sortL, cNiN, cInC, tr_bl, tr_non, tr_nat, tr_lst, tr_tup, ix_t0, ix_t1, ix_t2, ix_t3, ix_l0, ix_l1, ix_l2, ix_l3, ix_c0, ix_c1, pr_lenL, pr_lenT, pr_lenC, pr_lenD, pr_lenK, pr_tupL, pr_tupT, pr_lstL, pr_lstT, pr_lstC, pr_lstS, pr_intN, pr_intB, pr_sumN, pr_allB, pr_anyB, it_lst, it_tup, it_cov, sq_lst, sq_tup, sq_cov, fl_nat, fl_str, fl_bl, fl_non, fl_lst, fl_tup, fl_cube, fl_cover, fit0, fit1, fit2, fit3, fit4, end_none, end_nat, sl_lt, sl_lf, sl_tt, sl_tf, sl_ct, sl_cf, map_snoc, T_is_number, io_is_number, T_is_cube, io_is_cube, T_is_cover, io_is_cover, T_in_cube, io_in_cube, T_in_cover, io_in_cover, T_is_gate, io_is_gate, T_next_value, io_next_value, T_fights, io_fights, T_reads, io_reads, T__law_draws, io__law_draws, T__law_draw, io__law_draw, T__law_same, io__law_same, T__law_has, io__law_has, T__law_in, io__law_in, T__law_cube, io__law_cube, T__law_cover, io__law_cover, T__law_bits, io__law_bits, T__law_odd, io__law_odd, T__law_next, io__law_next, T__law_gate, io__law_gate, T__law_reads, io__law_reads, T__law_wrong, io__law_wrong, T_law, io_law, op_k_is_cover_0, rs_k_is_cover_0, op_k_in_cover_0, rs_k_in_cover_0, op_k__law_in_0, rs_k__law_in_0, op_k__law_cover_0, rs_k__law_cover_0, op_k__law_reads_2, rs_k__law_reads_2, hasB]
theorem in_cover_ok {N : Nat} (hN : 2 ≤ N) (x : Nat) (cs : List (Nat × Nat)) (hl : cs.length ≤ 1000000) : callF T m N 4 [.sh (natD x), .sh (coverD cs)] = .ret false (.bl (cs.any (hasB x))) [.sh (natD x), .sh (coverD cs)] := by
  obtain ⟨n, rfl, hn⟩ := to_succ hN
  have hk : ev T (callF T m n) k_in_cover_0 [some (.sh (natD x)), some (.sh (coverD cs)), none, none] = .val (true, .lst ((cs.map (hasB x)).map D.bl)) [some (.sh (natD x)), some (.sh (coverD cs)), none, none] :=
    comp_map cubeD D.bl (hasB x) ⟨_, _, _, _, _, rfl⟩ (by simp -implicitDefEqProofs only [k_in_cover_0, compIt, forN_nil, bindV, bind_ite, opt_some, es_nil', es_cons', then_nx, then_bk, then_ct, then_rt, es1_asg', es1_setx', es1_aug', es1_par', es1_app', es1_ext', es1_ex', es1_ret', op_var, rs_var, op_cst, rs_cst, op_tup, rs_tup, op_lst, rs_lst, op_bin, rs_bin, op_un, rs_un, op_nt, rs_nt, op_cmp, rs_cmp, op_cmp2, rs_cmp2, op_and, rs_and, op_or, rs_or, op_ife, rs_ife, op_ix, rs_ix, op_sl, rs_sl, op_rev, rs_rev, op_call, rs_call, op_prim, rs_prim, op_comp, rs_comp, op_pop, rs_pop, op_dnew, rs_dnew, op_get, rs_get, es1_ret0', es1_ite', es1_brk', es1_cnt', es1_pass', es1_for', es1_wh', ev_var', ev_cst', ev_tup', ev_lst', ev_bin', ev_un', ev_nt', ev_cmp', ev_cmp2', ev_and', ev_or', ev_ife', ev_ix', ev_sl', ev_rev', ev_call', ev_prim', ev_pop', ev_dnew', ev_get', ev_sset', ev_lset', op_sset, op_lset, rs_sset, rs_lset, evs_nil', evs_cons', evx_no', evx_yes', evt_tru', evt_and', evt_or', evt_nt', evt_e', evi_seq', evi_rng', evi_rng2', evi_enum', getB, setB, pk, tk, pks, tks, B.dat, asg_nm, asg_tp, asg_cube, asgN, onOwn, stillB, backB, wipeB, turnF, turnX, turnC, ite_caA, ite_caO, ite_rA, ite_cp, ite_blT, ite_blF, ite_bT, ite_bF, ite_rF, ite_rT, ite_caF, ite_caT, doCall, callArgs, backIn, frzIn, okSlots, slotsOf, List.all_cons, List.all_nil, List.nodup_cons, List.nodup_nil, List.not_mem_nil, not_false_eq_true, and_self, decide_true, List.contains_nil, List.contains_cons, beq_true, beq_false, Bool.true_beq, Bool.false_beq, decide_false, if_true, if_false, Bool.false_eq_true, Bool.and_true, Bool.true_and, Bool.and_false, Bool.false_and, Bool.or_true, Bool.true_or, Bool.or_false, Bool.false_or, Bool.not_true, Bool.not_false, beq_self_eq_true, Bool.not_not, reduceIte, Nat.reduceBEq, Nat.reduceLT, Nat.reduceLeDiff, Nat.reduceAdd, Nat.reducePow, reduceCtorEq, BEq.rfl, List.length_cons, List.length_nil, List.length_map, List.map_cons, List.map_nil, String.reduceBEq, Option.some.injEq, pi_dct_int, pi_dct_bool, pi_dct_str, pi_dct_tuple, pi_dct_list, pi_tup_int, pi_tup_bool, pi_tup_str, pi_tup_tuple, pi_tup_list, pi_lst_int, pi_lst_bool, pi_lst_str, pi_lst_tuple, pi_lst_list, pi_int_int, pi_int_bool, pi_int_str, pi_int_tuple, pi_int_list, pi_bl_int, pi_bl_bool, pi_bl_str, pi_bl_tuple, pi_bl_list, pi_str_int, pi_str_bool, pi_str_str, pi_str_tuple, pi_str_list, pi_non_int, pi_non_bool, pi_non_str, pi_non_tuple, pi_non_list, pi_nat_int, pi_nat_bool, pi_nat_str, pi_nat_tuple, pi_nat_list, pi_strd_int, pi_strd_bool, pi_strd_str, pi_strd_tuple, pi_strd_list, pi_cube_int, pi_cube_bool, pi_cube_str, pi_cube_tuple, pi_cube_list, pi_cover_int, pi_cover_bool, pi_cover_str, pi_cover_tuple, pi_cover_list, cover_mk, ← List.map_take, ← List.map_drop, it_cube, sq_cube, uNeg1, ltNeg, key_nat, get_n, ix_dn, Option.map_some, cube_mk, bAdd, bAnd, bOr, bXor, bShr, uInv, bAndNot, aAdd, aOr, cEqN, cNeN, cEqS, cNeS, cEqC, cNeC, cEqB, cNeB, cLtN, cLeN, cGtN, cGeN, cIsN, cNsN, none_non, none_nat, none_cube, none_bl, none_str, none_tup, cIsB, cNsB, cInN, cEqNL, cNeNL, pr_sortL, cNiN, cInC, tr_bl, tr_non, tr_nat, tr_lst, tr_tup, ix_t0, ix_t1, ix_t2, ix_t3, ix_l0, ix_l1, ix_l2, ix_l3, ix_c0, ix_c1, pr_lenL, pr_lenT, pr_lenC, pr_lenD, pr_lenK, pr_tupL, pr_tupT, pr_lstL, pr_lstT, pr_lstC, pr_lstS, pr_intN, pr_intB, pr_sumN, pr_allB, pr_anyB, it_lst, it_tup, it_cov, sq_lst, sq_tup, sq_cov, fl_nat, fl_str, fl_bl, fl_non, fl_lst, fl_tup, fl_cube, fl_cover, fit0, fit1, fit2, fit3, fit4, end_none, end_nat, sl_lt, sl_lf, sl_tt, sl_tf, sl_ct, sl_cf, map_snoc]) rfl (fun c _ => by
      have h := in_cube_ok (m := m) hn x c
      simp -implicitDefEqProofs only [k_in_cover_0, forN_nil, bindV, bind_ite, opt_some, es_nil', es_cons', then_nx, then_bk, then_ct, then_rt, es1_asg', es1_setx', es1_aug', es1_par', es1_app', es1_ext', es1_ex', es1_ret', op_var, rs_var, op_cst, rs_cst, op_tup, rs_tup, op_lst, rs_lst, op_bin, rs_bin, op_un, rs_un, op_nt, rs_nt, op_cmp, rs_cmp, op_cmp2, rs_cmp2, op_and, rs_and, op_or, rs_or, op_ife, rs_ife, op_ix, rs_ix, op_sl, rs_sl, op_rev, rs_rev, op_call, rs_call, op_prim, rs_prim, op_comp, rs_comp, op_pop, rs_pop, op_dnew, rs_dnew, op_get, rs_get, es1_ret0', es1_ite', es1_brk', es1_cnt', es1_pass', es1_for', es1_wh', ev_var', ev_cst', ev_tup', ev_lst', ev_bin', ev_un', ev_nt', ev_cmp', ev_cmp2', ev_and', ev_or', ev_ife', ev_ix', ev_sl', ev_rev', ev_call', ev_prim', ev_pop', ev_dnew', ev_get', ev_sset', ev_lset', op_sset, op_lset, rs_sset, rs_lset, evs_nil', evs_cons', evx_no', evx_yes', evt_tru', evt_and', evt_or', evt_nt', evt_e', evi_seq', evi_rng', evi_rng2', evi_enum', getB, setB, pk, tk, pks, tks, B.dat, asg_nm, asg_tp, asg_cube, asgN, onOwn, stillB, backB, wipeB, turnF, turnX, turnC, ite_caA, ite_caO, ite_rA, ite_cp, ite_blT, ite_blF, ite_bT, ite_bF, ite_rF, ite_rT, ite_caF, ite_caT, doCall, callArgs, backIn, frzIn, okSlots, slotsOf, List.all_cons, List.all_nil, List.nodup_cons, List.nodup_nil, List.not_mem_nil, not_false_eq_true, and_self, decide_true, List.contains_nil, List.contains_cons, beq_true, beq_false, Bool.true_beq, Bool.false_beq, decide_false, if_true, if_false, Bool.false_eq_true, Bool.and_true, Bool.true_and, Bool.and_false, Bool.false_and, Bool.or_true, Bool.true_or, Bool.or_false, Bool.false_or, Bool.not_true, Bool.not_false, beq_self_eq_true, Bool.not_not, reduceIte, Nat.reduceBEq, Nat.reduceLT, Nat.reduceLeDiff, Nat.reduceAdd, Nat.reducePow, reduceCtorEq, BEq.rfl, List.length_cons, List.length_nil, List.length_map, List.map_cons, List.map_nil, String.reduceBEq, Option.some.injEq, pi_dct_int, pi_dct_bool, pi_dct_str, pi_dct_tuple, pi_dct_list, pi_tup_int, pi_tup_bool, pi_tup_str, pi_tup_tuple, pi_tup_list, pi_lst_int, pi_lst_bool, pi_lst_str, pi_lst_tuple, pi_lst_list, pi_int_int, pi_int_bool, pi_int_str, pi_int_tuple, pi_int_list, pi_bl_int, pi_bl_bool, pi_bl_str, pi_bl_tuple, pi_bl_list, pi_str_int, pi_str_bool, pi_str_str, pi_str_tuple, pi_str_list, pi_non_int, pi_non_bool, pi_non_str, pi_non_tuple, pi_non_list, pi_nat_int, pi_nat_bool, pi_nat_str, pi_nat_tuple, pi_nat_list, pi_strd_int, pi_strd_bool, pi_strd_str, pi_strd_tuple, pi_strd_list, pi_cube_int, pi_cube_bool, pi_cube_str, pi_cube_tuple, pi_cube_list, pi_cover_int, pi_cover_bool, pi_cover_str, pi_cover_tuple, pi_cover_list, cover_mk, ← List.map_take, ← List.map_drop, it_cube, sq_cube, uNeg1, ltNeg, key_nat, get_n, ix_dn, Option.map_some, cube_mk, bAdd, bAnd, bOr, bXor, bShr, uInv, bAndNot, aAdd, aOr, cEqN, cNeN, cEqS, cNeS, cEqC, cNeC, cEqB, cNeB, cLtN, cLeN, cGtN, cGeN, cIsN, cNsN, none_non, none_nat, none_cube, none_bl, none_str, none_tup, cIsB, cNsB, cInN, cEqNL, cNeNL, pr_sortL, cNiN, cInC, tr_bl, tr_non, tr_nat, tr_lst, tr_tup, ix_t0, ix_t1, ix_t2, ix_t3, ix_l0, ix_l1, ix_l2, ix_l3, ix_c0, ix_c1, pr_lenL, pr_lenT, pr_lenC, pr_lenD, pr_lenK, pr_tupL, pr_tupT, pr_lstL, pr_lstT, pr_lstC, pr_lstS, pr_intN, pr_intB, pr_sumN, pr_allB, pr_anyB, it_lst, it_tup, it_cov, sq_lst, sq_tup, sq_cov, fl_nat, fl_str, fl_bl, fl_non, fl_lst, fl_tup, fl_cube, fl_cover, fit0, fit1, fit2, fit3, fit4, end_none, end_nat, sl_lt, sl_lf, sl_tt, sl_tf, sl_ct, sl_cf, map_snoc, T_is_number, io_is_number, T_is_cube, io_is_cube, T_is_cover, io_is_cover, T_in_cube, io_in_cube, T_in_cover, io_in_cover, T_is_gate, io_is_gate, T_next_value, io_next_value, T_fights, io_fights, T_reads, io_reads, T__law_draws, io__law_draws, T__law_draw, io__law_draw, T__law_same, io__law_same, T__law_has, io__law_has, T__law_in, io__law_in, T__law_cube, io__law_cube, T__law_cover, io__law_cover, T__law_bits, io__law_bits, T__law_odd, io__law_odd, T__law_next, io__law_next, T__law_gate, io__law_gate, T__law_reads, io__law_reads, T__law_wrong, io__law_wrong, T_law, io_law, op_k_is_cover_0, rs_k_is_cover_0, op_k_in_cover_0, rs_k_in_cover_0, op_k__law_in_0, rs_k__law_in_0, op_k__law_cover_0, rs_k__law_cover_0, op_k__law_reads_2, rs_k__law_reads_2, h]) hl
  have e : ((cs.map (hasB x)).any id) = cs.any (hasB x) := by rw [List.any_map]; rfl
  rw [callF_body T_in_cover rfl]
  simp -implicitDefEqProofs only [f_in_cover, List.map_cons, List.map_nil, List.cons_append, List.nil_append, List.replicate, Nat.sub_self, Nat.reduceSub, end_rt, end_nx, end_ite, outsOf, forN_nil, bindV, bind_ite, opt_some, es_nil', es_cons', then_nx, then_bk, then_ct, then_rt, es1_asg', es1_setx', es1_aug', es1_par', es1_app', es1_ext', es1_ex', es1_ret', op_var, rs_var, op_cst, rs_cst, op_tup, rs_tup, op_lst, rs_lst, op_bin, rs_bin, op_un, rs_un, op_nt, rs_nt, op_cmp, rs_cmp, op_cmp2, rs_cmp2, op_and, rs_and, op_or, rs_or, op_ife, rs_ife, op_ix, rs_ix, op_sl, rs_sl, op_rev, rs_rev, op_call, rs_call, op_prim, rs_prim, op_comp, rs_comp, op_pop, rs_pop, op_dnew, rs_dnew, op_get, rs_get, es1_ret0', es1_ite', es1_brk', es1_cnt', es1_pass', es1_for', es1_wh', ev_var', ev_cst', ev_tup', ev_lst', ev_bin', ev_un', ev_nt', ev_cmp', ev_cmp2', ev_and', ev_or', ev_ife', ev_ix', ev_sl', ev_rev', ev_call', ev_prim', ev_pop', ev_dnew', ev_get', ev_sset', ev_lset', op_sset, op_lset, rs_sset, rs_lset, evs_nil', evs_cons', evx_no', evx_yes', evt_tru', evt_and', evt_or', evt_nt', evt_e', evi_seq', evi_rng', evi_rng2', evi_enum', getB, setB, pk, tk, pks, tks, B.dat, asg_nm, asg_tp, asg_cube, asgN, onOwn, stillB, backB, wipeB, turnF, turnX, turnC, ite_caA, ite_caO, ite_rA, ite_cp, ite_blT, ite_blF, ite_bT, ite_bF, ite_rF, ite_rT, ite_caF, ite_caT, doCall, callArgs, backIn, frzIn, okSlots, slotsOf, List.all_cons, List.all_nil, List.nodup_cons, List.nodup_nil, List.not_mem_nil, not_false_eq_true, and_self, decide_true, List.contains_nil, List.contains_cons, beq_true, beq_false, Bool.true_beq, Bool.false_beq, decide_false, if_true, if_false, Bool.false_eq_true, Bool.and_true, Bool.true_and, Bool.and_false, Bool.false_and, Bool.or_true, Bool.true_or, Bool.or_false, Bool.false_or, Bool.not_true, Bool.not_false, beq_self_eq_true, Bool.not_not, reduceIte, Nat.reduceBEq, Nat.reduceLT, Nat.reduceLeDiff, Nat.reduceAdd, Nat.reducePow, reduceCtorEq, BEq.rfl, List.length_cons, List.length_nil, List.length_map, List.map_cons, List.map_nil, String.reduceBEq, Option.some.injEq, pi_dct_int, pi_dct_bool, pi_dct_str, pi_dct_tuple, pi_dct_list, pi_tup_int, pi_tup_bool, pi_tup_str, pi_tup_tuple, pi_tup_list, pi_lst_int, pi_lst_bool, pi_lst_str, pi_lst_tuple, pi_lst_list, pi_int_int, pi_int_bool, pi_int_str, pi_int_tuple, pi_int_list, pi_bl_int, pi_bl_bool, pi_bl_str, pi_bl_tuple, pi_bl_list, pi_str_int, pi_str_bool, pi_str_str, pi_str_tuple, pi_str_list, pi_non_int, pi_non_bool, pi_non_str, pi_non_tuple, pi_non_list, pi_nat_int, pi_nat_bool, pi_nat_str, pi_nat_tuple, pi_nat_list, pi_strd_int, pi_strd_bool, pi_strd_str, pi_strd_tuple, pi_strd_list, pi_cube_int, pi_cube_bool, pi_cube_str, pi_cube_tuple, pi_cube_list, pi_cover_int, pi_cover_bool, pi_cover_str, pi_cover_tuple, pi_cover_list, cover_mk, ← List.map_take, ← List.map_drop, it_cube, sq_cube, uNeg1, ltNeg, key_nat, get_n, ix_dn, Option.map_some, cube_mk, bAdd, bAnd, bOr, bXor, bShr, uInv, bAndNot, aAdd, aOr, cEqN, cNeN, cEqS, cNeS, cEqC, cNeC, cEqB, cNeB, cLtN, cLeN, cGtN, cGeN, cIsN, cNsN, none_non, none_nat, none_cube, none_bl, none_str, none_tup, cIsB, cNsB, cInN, cEqNL, cNeNL, pr_sortL, cNiN, cInC, tr_bl, tr_non, tr_nat, tr_lst, tr_tup, ix_t0, ix_t1, ix_t2, ix_t3, ix_l0, ix_l1, ix_l2, ix_l3, ix_c0, ix_c1, pr_lenL, pr_lenT, pr_lenC, pr_lenD, pr_lenK, pr_tupL, pr_tupT, pr_lstL, pr_lstT, pr_lstC, pr_lstS, pr_intN, pr_intB, pr_sumN, pr_allB, pr_anyB, it_lst, it_tup, it_cov, sq_lst, sq_tup, sq_cov, fl_nat, fl_str, fl_bl, fl_non, fl_lst, fl_tup, fl_cube, fl_cover, fit0, fit1, fit2, fit3, fit4, end_none, end_nat, sl_lt, sl_lf, sl_tt, sl_tf, sl_ct, sl_cf, map_snoc, T_is_number, io_is_number, T_is_cube, io_is_cube, T_is_cover, io_is_cover, T_in_cube, io_in_cube, T_in_cover, io_in_cover, T_is_gate, io_is_gate, T_next_value, io_next_value, T_fights, io_fights, T_reads, io_reads, T__law_draws, io__law_draws, T__law_draw, io__law_draw, T__law_same, io__law_same, T__law_has, io__law_has, T__law_in, io__law_in, T__law_cube, io__law_cube, T__law_cover, io__law_cover, T__law_bits, io__law_bits, T__law_odd, io__law_odd, T__law_next, io__law_next, T__law_gate, io__law_gate, T__law_reads, io__law_reads, T__law_wrong, io__law_wrong, T_law, io_law, op_k_is_cover_0, rs_k_is_cover_0, op_k_in_cover_0, rs_k_in_cover_0, op_k__law_in_0, rs_k__law_in_0, op_k__law_cover_0, rs_k__law_cover_0, op_k__law_reads_2, rs_k__law_reads_2, hk, e]
/-- the odd values -/
def oddL : List D := [.non, .bl true, .bl false, strD "", strD "1", .tup [], .lst [], .tup [natD 1], .lst [natD 0, natD 0], .tup [natD 0, natD 0, natD 0], .dct [], .tup [.non, natD 0], .tup [natD 0, .non], .tup [strD "0", natD 0]]
theorem odd_ok {N : Nat} (hN : 2 ≤ N) (s : St) : ∃ (d : D) (s' : St), callF T m N 17 [.io s.d] = .ret false d [.io s'.d] ∧ d ∈ oddL := by
  obtain ⟨n, rfl, hn⟩ := to_succ hN
  have hd := draw_ok (m := m) hn s 14 (by omega) (by omega)
  have hv := v_lt s (l := 14) (by omega)
  generalize s.s 14 = s1 at hd
  generalize s.v 14 = v at hd hv
  have hix := ix_lst (xs := oddL) (k := v) hv
  have hf : fitL (0 + 1 + 1 + 1 + 1 + 1 + 1 + 1 + 1 + 1 + 1 + 1 + 1 + 1 + 1) = true := rfl
  refine ⟨oddL[v], s1, ?_, List.getElem_mem hv⟩
  have e : D.lst oddL = .lst [.non, .bl true, .bl false, strD "", strD "1", .tup [], .lst [], .tup [natD 1], .lst [natD 0, natD 0], .tup [natD 0, natD 0, natD 0], .dct [], .tup [.non, natD 0], .tup [natD 0, .non], .tup [strD "0", natD 0]] := rfl
  rw [e] at hix
  generalize oddL[v] = r at hix
  have hz : D.lst [natD 0, natD 0] = .lst [natD 0, natD 0] := rfl
  rw [callF_body T__law_odd rfl]
  simp -implicitDefEqProofs only [f__law_odd, List.map_cons, List.map_nil, List.cons_append, List.nil_append, List.replicate, Nat.sub_self, Nat.reduceSub, end_rt, end_nx, end_ite, outsOf, forN_nil, bindV, bind_ite, opt_some, es_nil', es_cons', then_nx, then_bk, then_ct, then_rt, es1_asg', es1_setx', es1_aug', es1_par', es1_app', es1_ext', es1_ex', es1_ret', op_var, rs_var, op_cst, rs_cst, op_tup, rs_tup, op_lst, rs_lst, op_bin, rs_bin, op_un, rs_un, op_nt, rs_nt, op_cmp, rs_cmp, op_cmp2, rs_cmp2, op_and, rs_and, op_or, rs_or, op_ife, rs_ife, op_ix, rs_ix, op_sl, rs_sl, op_rev, rs_rev, op_call, rs_call, op_prim, rs_prim, op_comp, rs_comp, op_pop, rs_pop, op_dnew, rs_dnew, op_get, rs_get, es1_ret0', es1_ite', es1_brk', es1_cnt', es1_pass', es1_for', es1_wh', ev_var', ev_cst', ev_tup', ev_lst', ev_bin', ev_un', ev_nt', ev_cmp', ev_cmp2', ev_and', ev_or', ev_ife', ev_ix', ev_sl', ev_rev', ev_call', ev_prim', ev_pop', ev_dnew', ev_get', ev_sset', ev_lset', op_sset, op_lset, rs_sset, rs_lset, evs_nil', evs_cons', evx_no', evx_yes', evt_tru', evt_and', evt_or', evt_nt', evt_e', evi_seq', evi_rng', evi_rng2', evi_enum', getB, setB, pk, tk, pks, tks, B.dat, asg_nm, asg_tp, asg_cube, asgN, onOwn, stillB, backB, wipeB, turnF, turnX, turnC, ite_caA, ite_caO, ite_rA, ite_cp, ite_blT, ite_blF, ite_bT, ite_bF, ite_rF, ite_rT, ite_caF, ite_caT, doCall, callArgs, backIn, frzIn, okSlots, slotsOf, List.all_cons, List.all_nil, List.nodup_cons, List.nodup_nil, List.not_mem_nil, not_false_eq_true, and_self, decide_true, List.contains_nil, List.contains_cons, beq_true, beq_false, Bool.true_beq, Bool.false_beq, decide_false, if_true, if_false, Bool.false_eq_true, Bool.and_true, Bool.true_and, Bool.and_false, Bool.false_and, Bool.or_true, Bool.true_or, Bool.or_false, Bool.false_or, Bool.not_true, Bool.not_false, beq_self_eq_true, Bool.not_not, reduceIte, Nat.reduceBEq, Nat.reduceLT, Nat.reduceLeDiff, Nat.reduceAdd, Nat.reducePow, reduceCtorEq, BEq.rfl, List.length_cons, List.length_nil, List.length_map, List.map_cons, List.map_nil, String.reduceBEq, Option.some.injEq, pi_dct_int, pi_dct_bool, pi_dct_str, pi_dct_tuple, pi_dct_list, pi_tup_int, pi_tup_bool, pi_tup_str, pi_tup_tuple, pi_tup_list, pi_lst_int, pi_lst_bool, pi_lst_str, pi_lst_tuple, pi_lst_list, pi_int_int, pi_int_bool, pi_int_str, pi_int_tuple, pi_int_list, pi_bl_int, pi_bl_bool, pi_bl_str, pi_bl_tuple, pi_bl_list, pi_str_int, pi_str_bool, pi_str_str, pi_str_tuple, pi_str_list, pi_non_int, pi_non_bool, pi_non_str, pi_non_tuple, pi_non_list, pi_nat_int, pi_nat_bool, pi_nat_str, pi_nat_tuple, pi_nat_list, pi_strd_int, pi_strd_bool, pi_strd_str, pi_strd_tuple, pi_strd_list, pi_cube_int, pi_cube_bool, pi_cube_str, pi_cube_tuple, pi_cube_list, pi_cover_int, pi_cover_bool, pi_cover_str, pi_cover_tuple, pi_cover_list, cover_mk, ← List.map_take, ← List.map_drop, it_cube, sq_cube, uNeg1, ltNeg, key_nat, get_n, ix_dn, Option.map_some, cube_mk, bAdd, bAnd, bOr, bXor, bShr, uInv, bAndNot, aAdd, aOr, cEqN, cNeN, cEqS, cNeS, cEqC, cNeC, cEqB, cNeB, cLtN, cLeN, cGtN, cGeN, cIsN, cNsN, none_non, none_nat, none_cube, none_bl, none_str, none_tup, cIsB, cNsB, cInN, cEqNL, cNeNL, pr_sortL, cNiN, cInC, tr_bl, tr_non, tr_nat, tr_lst, tr_tup, ix_t0, ix_t1, ix_t2, ix_t3, ix_l0, ix_l1, ix_l2, ix_l3, ix_c0, ix_c1, pr_lenL, pr_lenT, pr_lenC, pr_lenD, pr_lenK, pr_tupL, pr_tupT, pr_lstL, pr_lstT, pr_lstC, pr_lstS, pr_intN, pr_intB, pr_sumN, pr_allB, pr_anyB, it_lst, it_tup, it_cov, sq_lst, sq_tup, sq_cov, fl_nat, fl_str, fl_bl, fl_non, fl_lst, fl_tup, fl_cube, fl_cover, fit0, fit1, fit2, fit3, fit4, end_none, end_nat, sl_lt, sl_lf, sl_tt, sl_tf, sl_ct, sl_cf, map_snoc, T_is_number, io_is_number, T_is_cube, io_is_cube, T_is_cover, io_is_cover, T_in_cube, io_in_cube, T_in_cover, io_in_cover, T_is_gate, io_is_gate, T_next_value, io_next_value, T_fights, io_fights, T_reads, io_reads, T__law_draws, io__law_draws, T__law_draw, io__law_draw, T__law_same, io__law_same, T__law_has, io__law_has, T__law_in, io__law_in, T__law_cube, io__law_cube, T__law_cover, io__law_cover, T__law_bits, io__law_bits, T__law_odd, io__law_odd, T__law_next, io__law_next, T__law_gate, io__law_gate, T__law_reads, io__law_reads, T__law_wrong, io__law_wrong, T_law, io_law, op_k_is_cover_0, rs_k_is_cover_0, op_k_in_cover_0, rs_k_in_cover_0, op_k__law_in_0, rs_k__law_in_0, op_k__law_cover_0, rs_k__law_cover_0, op_k__law_reads_2, rs_k__law_reads_2, hd, hix, hf]
theorem odd_known {d : D} (h : d ∈ oddL) : Known d := by
  unfold oddL at h
  simp only [List.mem_cons, List.not_mem_nil, or_false] at h
  rcases h with rfl | rfl | rfl | rfl | rfl | rfl | rfl | rfl | rfl | rfl | rfl | rfl | rfl | rfl
  · exact .inl ⟨1, rfl⟩
  · exact .inl ⟨1, rfl⟩
  · exact .inl ⟨1, rfl⟩
  · exact .inl ⟨1, ok_str _ _⟩
  · exact .inl ⟨1, ok_str _ _⟩
  · exact .inl ⟨1, rfl⟩
  · exact .inl ⟨1, rfl⟩
  · exact .inl ⟨2, rfl⟩
  · exact .inl ⟨2, rfl⟩
  · exact .inl ⟨2, rfl⟩
  · exact .inr ⟨_, rfl⟩
  · exact .inl ⟨2, rfl⟩
  · exact .inl ⟨2, rfl⟩
  · refine .inl ⟨2, ?_⟩
    show (D.ok (strD "0") 1 && (D.ok (natD 0) 1 && true)) = true
    rw [ok_str]; rfl
theorem odd_cube {d : D} (h : d ∈ oddL) (w : Nat) : isCubeB w d = false := by
  unfold oddL at h
  simp only [List.mem_cons, List.not_mem_nil, or_false] at h
  rcases h with rfl | rfl | rfl | rfl | rfl | rfl | rfl | rfl | rfl | rfl | rfl | rfl | rfl | rfl <;> rfl
/-! # gates in plain numbers -/
inductive G where
  | hold (a b : List (Nat × Nat))
  | pick (u v : Nat)
  | sum (a : List (Nat × Nat))
def gateD : G → D
  | .hold a b => .tup [strD "hold", coverD a, coverD b]
  | .pick u v => .tup [strD "pick", natD u, natD v]
  | .sum a => .tup [strD "sum", coverD a]
/-- gates of w wires -/
def GOk (w : Nat) : G → Prop
  | .hold a b => (∀ c ∈ a, Cu w c) ∧ (∀ c ∈ b, Cu w c) ∧ a.length ≤ 10 ∧ b.length ≤ 10
  | .pick u v => u < w ∧ v < w
  | .sum a => (∀ c ∈ a, Cu w c) ∧ a.length ≤ 10
def nextB (x now : Nat) : G → Nat
  | .hold a b => if a.any (hasB x) then 1 else if b.any (hasB x) then 0 else now
  | .pick u v => if x.testBit u && !x.testBit v then 1 else 0
  | .sum a => if a.any (hasB x) then 1 else 0
def fightB (x : Nat) : G → Bool
  | .hold a b => a.any (hasB x) && b.any (hasB x)
  | _ => false
theorem gd_h (a b : List (Nat × Nat)) : gateD (.hold a b) = .tup [strD "hold", coverD a, coverD b] := rfl
theorem gd_p (u v : Nat) : gateD (.pick u v) = .tup [strD "pick", natD u, natD v] := rfl
theorem gd_s (a : List (Nat × Nat)) : gateD (.sum a) = .tup [strD "sum", coverD a] := rfl
theorem nx_h (x now : Nat) (a b : List (Nat × Nat)) : nextB x now (.hold a b) = if a.any (hasB x) then 1 else if b.any (hasB x) then 0 else now := rfl
theorem nx_p (x now u v : Nat) : nextB x now (.pick u v) = if x.testBit u && !x.testBit v then 1 else 0 := rfl
theorem nx_s (x now : Nat) (a : List (Nat × Nat)) : nextB x now (.sum a) = if a.any (hasB x) then 1 else 0 := rfl
theorem fb_h (x : Nat) (a b : List (Nat × Nat)) : fightB x (.hold a b) = (a.any (hasB x) && b.any (hasB x)) := rfl
theorem fb_p (x u v : Nat) : fightB x (.pick u v) = false := rfl
theorem fb_s (x : Nat) (a : List (Nat × Nat)) : fightB x (.sum a) = false := rfl
theorem gate_tup (g : G) : ∃ h r, gateD g = .tup (strD h :: r) := by cases g <;> exact ⟨_, _, rfl⟩
theorem hs1 : ("hold" == "sum") = false := by decide
theorem hs2 : ("hold" == "pick") = false := by decide
theorem hs3 : ("pick" == "sum") = false := by decide
theorem hs4 : ("pick" == "hold") = false := by decide
theorem hs5 : ("sum" == "hold") = false := by decide
theorem hs6 : ("sum" == "pick") = false := by decide
theorem hs7 : ("and" == "sum") = false := by decide
theorem hs8 : ("and" == "pick") = false := by decide
theorem hs9 : ("and" == "hold") = false := by decide
theorem pick_num (x u v : Nat) : nd (x >>> u &&& 1) (x >>> v) = if x.testBit u && !x.testBit v then 1 else 0 := by
  refine Nat.eq_of_testBit_eq fun i => ?_
  rw [nd_bit, Nat.testBit_and, Nat.testBit_shiftRight, Nat.testBit_shiftRight]
  cases i with
  | zero => cases h1 : x.testBit u <;> cases h2 : x.testBit v <;> simp [h1, h2]
  | succ i =>
    have h1 : (1 : Nat).testBit (i + 1) = false := by simp [Nat.testBit_succ]
    rw [h1, Bool.and_false, Bool.false_and]
    split
    · exact h1.symm
    · exact Nat.zero_testBit _ |>.symm
theorem next_value_ok {N : Nat} (hN : 3 ≤ N) {w : Nat} {g : G} (hg : GOk w g) (x now : Nat) : callF T m N 6 [.sh (gateD g), .sh (natD x), .sh (natD now)] = .ret false (natD (nextB x now g)) [.sh (gateD g), .sh (natD x), .sh (natD now)] := by
  obtain ⟨n, rfl, hn⟩ := to_succ hN
  rw [callF_body T_next_value rfl]
  cases g with
  | hold a b =>
    obtain ⟨_, _, h3, h4⟩ := hg
    have c1 := in_cover_ok (m := m) (N := n) (by omega) x a (by omega)
    have c2 := in_cover_ok (m := m) (N := n) (by omega) x b (by omega)
    rw [gd_h, nx_h]
    generalize a.any (hasB x) = p at c1 ⊢
    generalize b.any (hasB x) = q at c2 ⊢
    cases p <;> cases q <;> simp -implicitDefEqProofs only [f_next_value, List.map_cons, List.map_nil, List.cons_append, List.nil_append, List.replicate, Nat.sub_self, Nat.reduceSub, end_rt, end_nx, end_ite, outsOf, forN_nil, bindV, bind_ite, opt_some, es_nil', es_cons', then_nx, then_bk, then_ct, then_rt, es1_asg', es1_setx', es1_aug', es1_par', es1_app', es1_ext', es1_ex', es1_ret', op_var, rs_var, op_cst, rs_cst, op_tup, rs_tup, op_lst, rs_lst, op_bin, rs_bin, op_un, rs_un, op_nt, rs_nt, op_cmp, rs_cmp, op_cmp2, rs_cmp2, op_and, rs_and, op_or, rs_or, op_ife, rs_ife, op_ix, rs_ix, op_sl, rs_sl, op_rev, rs_rev, op_call, rs_call, op_prim, rs_prim, op_comp, rs_comp, op_pop, rs_pop, op_dnew, rs_dnew, op_get, rs_get, es1_ret0', es1_ite', es1_brk', es1_cnt', es1_pass', es1_for', es1_wh', ev_var', ev_cst', ev_tup', ev_lst', ev_bin', ev_un', ev_nt', ev_cmp', ev_cmp2', ev_and', ev_or', ev_ife', ev_ix', ev_sl', ev_rev', ev_call', ev_prim', ev_pop', ev_dnew', ev_get', ev_sset', ev_lset', op_sset, op_lset, rs_sset, rs_lset, evs_nil', evs_cons', evx_no', evx_yes', evt_tru', evt_and', evt_or', evt_nt', evt_e', evi_seq', evi_rng', evi_rng2', evi_enum', getB, setB, pk, tk, pks, tks, B.dat, asg_nm, asg_tp, asg_cube, asgN, onOwn, stillB, backB, wipeB, turnF, turnX, turnC, ite_caA, ite_caO, ite_rA, ite_cp, ite_blT, ite_blF, ite_bT, ite_bF, ite_rF, ite_rT, ite_caF, ite_caT, doCall, callArgs, backIn, frzIn, okSlots, slotsOf, List.all_cons, List.all_nil, List.nodup_cons, List.nodup_nil, List.not_mem_nil, not_false_eq_true, and_self, decide_true, List.contains_nil, List.contains_cons, beq_true, beq_false, Bool.true_beq, Bool.false_beq, decide_false, if_true, if_false, Bool.false_eq_true, Bool.and_true, Bool.true_and, Bool.and_false, Bool.false_and, Bool.or_true, Bool.true_or, Bool.or_false, Bool.false_or, Bool.not_true, Bool.not_false, beq_self_eq_true, Bool.not_not, reduceIte, Nat.reduceBEq, Nat.reduceLT, Nat.reduceLeDiff, Nat.reduceAdd, Nat.reducePow, reduceCtorEq, BEq.rfl, List.length_cons, List.length_nil, List.length_map, List.map_cons, List.map_nil, String.reduceBEq, Option.some.injEq, pi_dct_int, pi_dct_bool, pi_dct_str, pi_dct_tuple, pi_dct_list, pi_tup_int, pi_tup_bool, pi_tup_str, pi_tup_tuple, pi_tup_list, pi_lst_int, pi_lst_bool, pi_lst_str, pi_lst_tuple, pi_lst_list, pi_int_int, pi_int_bool, pi_int_str, pi_int_tuple, pi_int_list, pi_bl_int, pi_bl_bool, pi_bl_str, pi_bl_tuple, pi_bl_list, pi_str_int, pi_str_bool, pi_str_str, pi_str_tuple, pi_str_list, pi_non_int, pi_non_bool, pi_non_str, pi_non_tuple, pi_non_list, pi_nat_int, pi_nat_bool, pi_nat_str, pi_nat_tuple, pi_nat_list, pi_strd_int, pi_strd_bool, pi_strd_str, pi_strd_tuple, pi_strd_list, pi_cube_int, pi_cube_bool, pi_cube_str, pi_cube_tuple, pi_cube_list, pi_cover_int, pi_cover_bool, pi_cover_str, pi_cover_tuple, pi_cover_list, cover_mk, ← List.map_take, ← List.map_drop, it_cube, sq_cube, uNeg1, ltNeg, key_nat, get_n, ix_dn, Option.map_some, cube_mk, bAdd, bAnd, bOr, bXor, bShr, uInv, bAndNot, aAdd, aOr, cEqN, cNeN, cEqS, cNeS, cEqC, cNeC, cEqB, cNeB, cLtN, cLeN, cGtN, cGeN, cIsN, cNsN, none_non, none_nat, none_cube, none_bl, none_str, none_tup, cIsB, cNsB, cInN, cEqNL, cNeNL, pr_sortL, cNiN, cInC, tr_bl, tr_non, tr_nat, tr_lst, tr_tup, ix_t0, ix_t1, ix_t2, ix_t3, ix_l0, ix_l1, ix_l2, ix_l3, ix_c0, ix_c1, pr_lenL, pr_lenT, pr_lenC, pr_lenD, pr_lenK, pr_tupL, pr_tupT, pr_lstL, pr_lstT, pr_lstC, pr_lstS, pr_intN, pr_intB, pr_sumN, pr_allB, pr_anyB, it_lst, it_tup, it_cov, sq_lst, sq_tup, sq_cov, fl_nat, fl_str, fl_bl, fl_non, fl_lst, fl_tup, fl_cube, fl_cover, fit0, fit1, fit2, fit3, fit4, end_none, end_nat, sl_lt, sl_lf, sl_tt, sl_tf, sl_ct, sl_cf, map_snoc, T_is_number, io_is_number, T_is_cube, io_is_cube, T_is_cover, io_is_cover, T_in_cube, io_in_cube, T_in_cover, io_in_cover, T_is_gate, io_is_gate, T_next_value, io_next_value, T_fights, io_fights, T_reads, io_reads, T__law_draws, io__law_draws, T__law_draw, io__law_draw, T__law_same, io__law_same, T__law_has, io__law_has, T__law_in, io__law_in, T__law_cube, io__law_cube, T__law_cover, io__law_cover, T__law_bits, io__law_bits, T__law_odd, io__law_odd, T__law_next, io__law_next, T__law_gate, io__law_gate, T__law_reads, io__law_reads, T__law_wrong, io__law_wrong, T_law, io_law, op_k_is_cover_0, rs_k_is_cover_0, op_k_in_cover_0, rs_k_in_cover_0, op_k__law_in_0, rs_k__law_in_0, op_k__law_cover_0, rs_k__law_cover_0, op_k__law_reads_2, rs_k__law_reads_2, c1, c2, hs1, hs2]
  | pick u v =>
    rw [gd_p, nx_p]
    rw [← pick_num]
    simp -implicitDefEqProofs only [f_next_value, List.map_cons, List.map_nil, List.cons_append, List.nil_append, List.replicate, Nat.sub_self, Nat.reduceSub, end_rt, end_nx, end_ite, outsOf, forN_nil, bindV, bind_ite, opt_some, es_nil', es_cons', then_nx, then_bk, then_ct, then_rt, es1_asg', es1_setx', es1_aug', es1_par', es1_app', es1_ext', es1_ex', es1_ret', op_var, rs_var, op_cst, rs_cst, op_tup, rs_tup, op_lst, rs_lst, op_bin, rs_bin, op_un, rs_un, op_nt, rs_nt, op_cmp, rs_cmp, op_cmp2, rs_cmp2, op_and, rs_and, op_or, rs_or, op_ife, rs_ife, op_ix, rs_ix, op_sl, rs_sl, op_rev, rs_rev, op_call, rs_call, op_prim, rs_prim, op_comp, rs_comp, op_pop, rs_pop, op_dnew, rs_dnew, op_get, rs_get, es1_ret0', es1_ite', es1_brk', es1_cnt', es1_pass', es1_for', es1_wh', ev_var', ev_cst', ev_tup', ev_lst', ev_bin', ev_un', ev_nt', ev_cmp', ev_cmp2', ev_and', ev_or', ev_ife', ev_ix', ev_sl', ev_rev', ev_call', ev_prim', ev_pop', ev_dnew', ev_get', ev_sset', ev_lset', op_sset, op_lset, rs_sset, rs_lset, evs_nil', evs_cons', evx_no', evx_yes', evt_tru', evt_and', evt_or', evt_nt', evt_e', evi_seq', evi_rng', evi_rng2', evi_enum', getB, setB, pk, tk, pks, tks, B.dat, asg_nm, asg_tp, asg_cube, asgN, onOwn, stillB, backB, wipeB, turnF, turnX, turnC, ite_caA, ite_caO, ite_rA, ite_cp, ite_blT, ite_blF, ite_bT, ite_bF, ite_rF, ite_rT, ite_caF, ite_caT, doCall, callArgs, backIn, frzIn, okSlots, slotsOf, List.all_cons, List.all_nil, List.nodup_cons, List.nodup_nil, List.not_mem_nil, not_false_eq_true, and_self, decide_true, List.contains_nil, List.contains_cons, beq_true, beq_false, Bool.true_beq, Bool.false_beq, decide_false, if_true, if_false, Bool.false_eq_true, Bool.and_true, Bool.true_and, Bool.and_false, Bool.false_and, Bool.or_true, Bool.true_or, Bool.or_false, Bool.false_or, Bool.not_true, Bool.not_false, beq_self_eq_true, Bool.not_not, reduceIte, Nat.reduceBEq, Nat.reduceLT, Nat.reduceLeDiff, Nat.reduceAdd, Nat.reducePow, reduceCtorEq, BEq.rfl, List.length_cons, List.length_nil, List.length_map, List.map_cons, List.map_nil, String.reduceBEq, Option.some.injEq, pi_dct_int, pi_dct_bool, pi_dct_str, pi_dct_tuple, pi_dct_list, pi_tup_int, pi_tup_bool, pi_tup_str, pi_tup_tuple, pi_tup_list, pi_lst_int, pi_lst_bool, pi_lst_str, pi_lst_tuple, pi_lst_list, pi_int_int, pi_int_bool, pi_int_str, pi_int_tuple, pi_int_list, pi_bl_int, pi_bl_bool, pi_bl_str, pi_bl_tuple, pi_bl_list, pi_str_int, pi_str_bool, pi_str_str, pi_str_tuple, pi_str_list, pi_non_int, pi_non_bool, pi_non_str, pi_non_tuple, pi_non_list, pi_nat_int, pi_nat_bool, pi_nat_str, pi_nat_tuple, pi_nat_list, pi_strd_int, pi_strd_bool, pi_strd_str, pi_strd_tuple, pi_strd_list, pi_cube_int, pi_cube_bool, pi_cube_str, pi_cube_tuple, pi_cube_list, pi_cover_int, pi_cover_bool, pi_cover_str, pi_cover_tuple, pi_cover_list, cover_mk, ← List.map_take, ← List.map_drop, it_cube, sq_cube, uNeg1, ltNeg, key_nat, get_n, ix_dn, Option.map_some, cube_mk, bAdd, bAnd, bOr, bXor, bShr, uInv, bAndNot, aAdd, aOr, cEqN, cNeN, cEqS, cNeS, cEqC, cNeC, cEqB, cNeB, cLtN, cLeN, cGtN, cGeN, cIsN, cNsN, none_non, none_nat, none_cube, none_bl, none_str, none_tup, cIsB, cNsB, cInN, cEqNL, cNeNL, pr_sortL, cNiN, cInC, tr_bl, tr_non, tr_nat, tr_lst, tr_tup, ix_t0, ix_t1, ix_t2, ix_t3, ix_l0, ix_l1, ix_l2, ix_l3, ix_c0, ix_c1, pr_lenL, pr_lenT, pr_lenC, pr_lenD, pr_lenK, pr_tupL, pr_tupT, pr_lstL, pr_lstT, pr_lstC, pr_lstS, pr_intN, pr_intB, pr_sumN, pr_allB, pr_anyB, it_lst, it_tup, it_cov, sq_lst, sq_tup, sq_cov, fl_nat, fl_str, fl_bl, fl_non, fl_lst, fl_tup, fl_cube, fl_cover, fit0, fit1, fit2, fit3, fit4, end_none, end_nat, sl_lt, sl_lf, sl_tt, sl_tf, sl_ct, sl_cf, map_snoc, T_is_number, io_is_number, T_is_cube, io_is_cube, T_is_cover, io_is_cover, T_in_cube, io_in_cube, T_in_cover, io_in_cover, T_is_gate, io_is_gate, T_next_value, io_next_value, T_fights, io_fights, T_reads, io_reads, T__law_draws, io__law_draws, T__law_draw, io__law_draw, T__law_same, io__law_same, T__law_has, io__law_has, T__law_in, io__law_in, T__law_cube, io__law_cube, T__law_cover, io__law_cover, T__law_bits, io__law_bits, T__law_odd, io__law_odd, T__law_next, io__law_next, T__law_gate, io__law_gate, T__law_reads, io__law_reads, T__law_wrong, io__law_wrong, T_law, io_law, op_k_is_cover_0, rs_k_is_cover_0, op_k_in_cover_0, rs_k_in_cover_0, op_k__law_in_0, rs_k__law_in_0, op_k__law_cover_0, rs_k__law_cover_0, op_k__law_reads_2, rs_k__law_reads_2, hs3]
  | sum a =>
    obtain ⟨_, h3⟩ := hg
    have c1 := in_cover_ok (m := m) (N := n) (by omega) x a (by omega)
    rw [gd_s, nx_s]
    generalize a.any (hasB x) = p at c1 ⊢
    cases p <;> simp -implicitDefEqProofs only [f_next_value, List.map_cons, List.map_nil, List.cons_append, List.nil_append, List.replicate, Nat.sub_self, Nat.reduceSub, end_rt, end_nx, end_ite, outsOf, forN_nil, bindV, bind_ite, opt_some, es_nil', es_cons', then_nx, then_bk, then_ct, then_rt, es1_asg', es1_setx', es1_aug', es1_par', es1_app', es1_ext', es1_ex', es1_ret', op_var, rs_var, op_cst, rs_cst, op_tup, rs_tup, op_lst, rs_lst, op_bin, rs_bin, op_un, rs_un, op_nt, rs_nt, op_cmp, rs_cmp, op_cmp2, rs_cmp2, op_and, rs_and, op_or, rs_or, op_ife, rs_ife, op_ix, rs_ix, op_sl, rs_sl, op_rev, rs_rev, op_call, rs_call, op_prim, rs_prim, op_comp, rs_comp, op_pop, rs_pop, op_dnew, rs_dnew, op_get, rs_get, es1_ret0', es1_ite', es1_brk', es1_cnt', es1_pass', es1_for', es1_wh', ev_var', ev_cst', ev_tup', ev_lst', ev_bin', ev_un', ev_nt', ev_cmp', ev_cmp2', ev_and', ev_or', ev_ife', ev_ix', ev_sl', ev_rev', ev_call', ev_prim', ev_pop', ev_dnew', ev_get', ev_sset', ev_lset', op_sset, op_lset, rs_sset, rs_lset, evs_nil', evs_cons', evx_no', evx_yes', evt_tru', evt_and', evt_or', evt_nt', evt_e', evi_seq', evi_rng', evi_rng2', evi_enum', getB, setB, pk, tk, pks, tks, B.dat, asg_nm, asg_tp, asg_cube, asgN, onOwn, stillB, backB, wipeB, turnF, turnX, turnC, ite_caA, ite_caO, ite_rA, ite_cp, ite_blT, ite_blF, ite_bT, ite_bF, ite_rF, ite_rT, ite_caF, ite_caT, doCall, callArgs, backIn, frzIn, okSlots, slotsOf, List.all_cons, List.all_nil, List.nodup_cons, List.nodup_nil, List.not_mem_nil, not_false_eq_true, and_self, decide_true, List.contains_nil, List.contains_cons, beq_true, beq_false, Bool.true_beq, Bool.false_beq, decide_false, if_true, if_false, Bool.false_eq_true, Bool.and_true, Bool.true_and, Bool.and_false, Bool.false_and, Bool.or_true, Bool.true_or, Bool.or_false, Bool.false_or, Bool.not_true, Bool.not_false, beq_self_eq_true, Bool.not_not, reduceIte, Nat.reduceBEq, Nat.reduceLT, Nat.reduceLeDiff, Nat.reduceAdd, Nat.reducePow, reduceCtorEq, BEq.rfl, List.length_cons, List.length_nil, List.length_map, List.map_cons, List.map_nil, String.reduceBEq, Option.some.injEq, pi_dct_int, pi_dct_bool, pi_dct_str, pi_dct_tuple, pi_dct_list, pi_tup_int, pi_tup_bool, pi_tup_str, pi_tup_tuple, pi_tup_list, pi_lst_int, pi_lst_bool, pi_lst_str, pi_lst_tuple, pi_lst_list, pi_int_int, pi_int_bool, pi_int_str, pi_int_tuple, pi_int_list, pi_bl_int, pi_bl_bool, pi_bl_str, pi_bl_tuple, pi_bl_list, pi_str_int, pi_str_bool, pi_str_str, pi_str_tuple, pi_str_list, pi_non_int, pi_non_bool, pi_non_str, pi_non_tuple, pi_non_list, pi_nat_int, pi_nat_bool, pi_nat_str, pi_nat_tuple, pi_nat_list, pi_strd_int, pi_strd_bool, pi_strd_str, pi_strd_tuple, pi_strd_list, pi_cube_int, pi_cube_bool, pi_cube_str, pi_cube_tuple, pi_cube_list, pi_cover_int, pi_cover_bool, pi_cover_str, pi_cover_tuple, pi_cover_list, cover_mk, ← List.map_take, ← List.map_drop, it_cube, sq_cube, uNeg1, ltNeg, key_nat, get_n, ix_dn, Option.map_some, cube_mk, bAdd, bAnd, bOr, bXor, bShr, uInv, bAndNot, aAdd, aOr, cEqN, cNeN, cEqS, cNeS, cEqC, cNeC, cEqB, cNeB, cLtN, cLeN, cGtN, cGeN, cIsN, cNsN, none_non, none_nat, none_cube, none_bl, none_str, none_tup, cIsB, cNsB, cInN, cEqNL, cNeNL, pr_sortL, cNiN, cInC, tr_bl, tr_non, tr_nat, tr_lst, tr_tup, ix_t0, ix_t1, ix_t2, ix_t3, ix_l0, ix_l1, ix_l2, ix_l3, ix_c0, ix_c1, pr_lenL, pr_lenT, pr_lenC, pr_lenD, pr_lenK, pr_tupL, pr_tupT, pr_lstL, pr_lstT, pr_lstC, pr_lstS, pr_intN, pr_intB, pr_sumN, pr_allB, pr_anyB, it_lst, it_tup, it_cov, sq_lst, sq_tup, sq_cov, fl_nat, fl_str, fl_bl, fl_non, fl_lst, fl_tup, fl_cube, fl_cover, fit0, fit1, fit2, fit3, fit4, end_none, end_nat, sl_lt, sl_lf, sl_tt, sl_tf, sl_ct, sl_cf, map_snoc, T_is_number, io_is_number, T_is_cube, io_is_cube, T_is_cover, io_is_cover, T_in_cube, io_in_cube, T_in_cover, io_in_cover, T_is_gate, io_is_gate, T_next_value, io_next_value, T_fights, io_fights, T_reads, io_reads, T__law_draws, io__law_draws, T__law_draw, io__law_draw, T__law_same, io__law_same, T__law_has, io__law_has, T__law_in, io__law_in, T__law_cube, io__law_cube, T__law_cover, io__law_cover, T__law_bits, io__law_bits, T__law_odd, io__law_odd, T__law_next, io__law_next, T__law_gate, io__law_gate, T__law_reads, io__law_reads, T__law_wrong, io__law_wrong, T_law, io_law, op_k_is_cover_0, rs_k_is_cover_0, op_k_in_cover_0, rs_k_in_cover_0, op_k__law_in_0, rs_k__law_in_0, op_k__law_cover_0, rs_k__law_cover_0, op_k__law_reads_2, rs_k__law_reads_2, c1]
theorem law_next_ok {N : Nat} (hN : 3 ≤ N) {w : Nat} {g : G} (hg : GOk w g) (x now : Nat) : callF T m N 18 [.sh (gateD g), .sh (natD x), .sh (natD now)] = .ret false (natD (nextB x now g)) [.sh (gateD g), .sh (natD x), .sh (natD now)] := by
  obtain ⟨n, rfl, hn⟩ := to_succ hN
  rw [callF_body T__law_next rfl]
  cases g with
  | hold a b =>
    obtain ⟨_, _, h3, h4⟩ := hg
    have c1 := in_ok (m := m) (N := n) (by omega) x a (by omega)
    have c2 := in_ok (m := m) (N := n) (by omega) x b (by omega)
    rw [gd_h, nx_h]
    generalize a.any (hasB x) = p at c1 ⊢
    generalize b.any (hasB x) = q at c2 ⊢
    cases p <;> cases q <;> simp -implicitDefEqProofs only [f__law_next, List.map_cons, List.map_nil, List.cons_append, List.nil_append, List.replicate, Nat.sub_self, Nat.reduceSub, end_rt, end_nx, end_ite, outsOf, forN_nil, bindV, bind_ite, opt_some, es_nil', es_cons', then_nx, then_bk, then_ct, then_rt, es1_asg', es1_setx', es1_aug', es1_par', es1_app', es1_ext', es1_ex', es1_ret', op_var, rs_var, op_cst, rs_cst, op_tup, rs_tup, op_lst, rs_lst, op_bin, rs_bin, op_un, rs_un, op_nt, rs_nt, op_cmp, rs_cmp, op_cmp2, rs_cmp2, op_and, rs_and, op_or, rs_or, op_ife, rs_ife, op_ix, rs_ix, op_sl, rs_sl, op_rev, rs_rev, op_call, rs_call, op_prim, rs_prim, op_comp, rs_comp, op_pop, rs_pop, op_dnew, rs_dnew, op_get, rs_get, es1_ret0', es1_ite', es1_brk', es1_cnt', es1_pass', es1_for', es1_wh', ev_var', ev_cst', ev_tup', ev_lst', ev_bin', ev_un', ev_nt', ev_cmp', ev_cmp2', ev_and', ev_or', ev_ife', ev_ix', ev_sl', ev_rev', ev_call', ev_prim', ev_pop', ev_dnew', ev_get', ev_sset', ev_lset', op_sset, op_lset, rs_sset, rs_lset, evs_nil', evs_cons', evx_no', evx_yes', evt_tru', evt_and', evt_or', evt_nt', evt_e', evi_seq', evi_rng', evi_rng2', evi_enum', getB, setB, pk, tk, pks, tks, B.dat, asg_nm, asg_tp, asg_cube, asgN, onOwn, stillB, backB, wipeB, turnF, turnX, turnC, ite_caA, ite_caO, ite_rA, ite_cp, ite_blT, ite_blF, ite_bT, ite_bF, ite_rF, ite_rT, ite_caF, ite_caT, doCall, callArgs, backIn, frzIn, okSlots, slotsOf, List.all_cons, List.all_nil, List.nodup_cons, List.nodup_nil, List.not_mem_nil, not_false_eq_true, and_self, decide_true, List.contains_nil, List.contains_cons, beq_true, beq_false, Bool.true_beq, Bool.false_beq, decide_false, if_true, if_false, Bool.false_eq_true, Bool.and_true, Bool.true_and, Bool.and_false, Bool.false_and, Bool.or_true, Bool.true_or, Bool.or_false, Bool.false_or, Bool.not_true, Bool.not_false, beq_self_eq_true, Bool.not_not, reduceIte, Nat.reduceBEq, Nat.reduceLT, Nat.reduceLeDiff, Nat.reduceAdd, Nat.reducePow, reduceCtorEq, BEq.rfl, List.length_cons, List.length_nil, List.length_map, List.map_cons, List.map_nil, String.reduceBEq, Option.some.injEq, pi_dct_int, pi_dct_bool, pi_dct_str, pi_dct_tuple, pi_dct_list, pi_tup_int, pi_tup_bool, pi_tup_str, pi_tup_tuple, pi_tup_list, pi_lst_int, pi_lst_bool, pi_lst_str, pi_lst_tuple, pi_lst_list, pi_int_int, pi_int_bool, pi_int_str, pi_int_tuple, pi_int_list, pi_bl_int, pi_bl_bool, pi_bl_str, pi_bl_tuple, pi_bl_list, pi_str_int, pi_str_bool, pi_str_str, pi_str_tuple, pi_str_list, pi_non_int, pi_non_bool, pi_non_str, pi_non_tuple, pi_non_list, pi_nat_int, pi_nat_bool, pi_nat_str, pi_nat_tuple, pi_nat_list, pi_strd_int, pi_strd_bool, pi_strd_str, pi_strd_tuple, pi_strd_list, pi_cube_int, pi_cube_bool, pi_cube_str, pi_cube_tuple, pi_cube_list, pi_cover_int, pi_cover_bool, pi_cover_str, pi_cover_tuple, pi_cover_list, cover_mk, ← List.map_take, ← List.map_drop, it_cube, sq_cube, uNeg1, ltNeg, key_nat, get_n, ix_dn, Option.map_some, cube_mk, bAdd, bAnd, bOr, bXor, bShr, uInv, bAndNot, aAdd, aOr, cEqN, cNeN, cEqS, cNeS, cEqC, cNeC, cEqB, cNeB, cLtN, cLeN, cGtN, cGeN, cIsN, cNsN, none_non, none_nat, none_cube, none_bl, none_str, none_tup, cIsB, cNsB, cInN, cEqNL, cNeNL, pr_sortL, cNiN, cInC, tr_bl, tr_non, tr_nat, tr_lst, tr_tup, ix_t0, ix_t1, ix_t2, ix_t3, ix_l0, ix_l1, ix_l2, ix_l3, ix_c0, ix_c1, pr_lenL, pr_lenT, pr_lenC, pr_lenD, pr_lenK, pr_tupL, pr_tupT, pr_lstL, pr_lstT, pr_lstC, pr_lstS, pr_intN, pr_intB, pr_sumN, pr_allB, pr_anyB, it_lst, it_tup, it_cov, sq_lst, sq_tup, sq_cov, fl_nat, fl_str, fl_bl, fl_non, fl_lst, fl_tup, fl_cube, fl_cover, fit0, fit1, fit2, fit3, fit4, end_none, end_nat, sl_lt, sl_lf, sl_tt, sl_tf, sl_ct, sl_cf, map_snoc, T_is_number, io_is_number, T_is_cube, io_is_cube, T_is_cover, io_is_cover, T_in_cube, io_in_cube, T_in_cover, io_in_cover, T_is_gate, io_is_gate, T_next_value, io_next_value, T_fights, io_fights, T_reads, io_reads, T__law_draws, io__law_draws, T__law_draw, io__law_draw, T__law_same, io__law_same, T__law_has, io__law_has, T__law_in, io__law_in, T__law_cube, io__law_cube, T__law_cover, io__law_cover, T__law_bits, io__law_bits, T__law_odd, io__law_odd, T__law_next, io__law_next, T__law_gate, io__law_gate, T__law_reads, io__law_reads, T__law_wrong, io__law_wrong, T_law, io_law, op_k_is_cover_0, rs_k_is_cover_0, op_k_in_cover_0, rs_k_in_cover_0, op_k__law_in_0, rs_k__law_in_0, op_k__law_cover_0, rs_k__law_cover_0, op_k__law_reads_2, rs_k__law_reads_2, c1, c2, hs1, hs2]
  | pick u v =>
    rw [gd_p, nx_p]
    have b1 := bit_num x u
    have b2 := bit_num x v
    cases h1 : x.testBit u <;> cases h2 : x.testBit v <;> simp -implicitDefEqProofs only [h1, h2, if_true, if_false, Bool.false_eq_true] at b1 b2 <;> simp -implicitDefEqProofs only [f__law_next, List.map_cons, List.map_nil, List.cons_append, List.nil_append, List.replicate, Nat.sub_self, Nat.reduceSub, end_rt, end_nx, end_ite, outsOf, forN_nil, bindV, bind_ite, opt_some, es_nil', es_cons', then_nx, then_bk, then_ct, then_rt, es1_asg', es1_setx', es1_aug', es1_par', es1_app', es1_ext', es1_ex', es1_ret', op_var, rs_var, op_cst, rs_cst, op_tup, rs_tup, op_lst, rs_lst, op_bin, rs_bin, op_un, rs_un, op_nt, rs_nt, op_cmp, rs_cmp, op_cmp2, rs_cmp2, op_and, rs_and, op_or, rs_or, op_ife, rs_ife, op_ix, rs_ix, op_sl, rs_sl, op_rev, rs_rev, op_call, rs_call, op_prim, rs_prim, op_comp, rs_comp, op_pop, rs_pop, op_dnew, rs_dnew, op_get, rs_get, es1_ret0', es1_ite', es1_brk', es1_cnt', es1_pass', es1_for', es1_wh', ev_var', ev_cst', ev_tup', ev_lst', ev_bin', ev_un', ev_nt', ev_cmp', ev_cmp2', ev_and', ev_or', ev_ife', ev_ix', ev_sl', ev_rev', ev_call', ev_prim', ev_pop', ev_dnew', ev_get', ev_sset', ev_lset', op_sset, op_lset, rs_sset, rs_lset, evs_nil', evs_cons', evx_no', evx_yes', evt_tru', evt_and', evt_or', evt_nt', evt_e', evi_seq', evi_rng', evi_rng2', evi_enum', getB, setB, pk, tk, pks, tks, B.dat, asg_nm, asg_tp, asg_cube, asgN, onOwn, stillB, backB, wipeB, turnF, turnX, turnC, ite_caA, ite_caO, ite_rA, ite_cp, ite_blT, ite_blF, ite_bT, ite_bF, ite_rF, ite_rT, ite_caF, ite_caT, doCall, callArgs, backIn, frzIn, okSlots, slotsOf, List.all_cons, List.all_nil, List.nodup_cons, List.nodup_nil, List.not_mem_nil, not_false_eq_true, and_self, decide_true, List.contains_nil, List.contains_cons, beq_true, beq_false, Bool.true_beq, Bool.false_beq, decide_false, if_true, if_false, Bool.false_eq_true, Bool.and_true, Bool.true_and, Bool.and_false, Bool.false_and, Bool.or_true, Bool.true_or, Bool.or_false, Bool.false_or, Bool.not_true, Bool.not_false, beq_self_eq_true, Bool.not_not, reduceIte, Nat.reduceBEq, Nat.reduceLT, Nat.reduceLeDiff, Nat.reduceAdd, Nat.reducePow, reduceCtorEq, BEq.rfl, List.length_cons, List.length_nil, List.length_map, List.map_cons, List.map_nil, String.reduceBEq, Option.some.injEq, pi_dct_int, pi_dct_bool, pi_dct_str, pi_dct_tuple, pi_dct_list, pi_tup_int, pi_tup_bool, pi_tup_str, pi_tup_tuple, pi_tup_list, pi_lst_int, pi_lst_bool, pi_lst_str, pi_lst_tuple, pi_lst_list, pi_int_int, pi_int_bool, pi_int_str, pi_int_tuple, pi_int_list, pi_bl_int, pi_bl_bool, pi_bl_str, pi_bl_tuple, pi_bl_list, pi_str_int, pi_str_bool, pi_str_str, pi_str_tuple, pi_str_list, pi_non_int, pi_non_bool, pi_non_str, pi_non_tuple, pi_non_list, pi_nat_int, pi_nat_bool, pi_nat_str, pi_nat_tuple, pi_nat_list, pi_strd_int, pi_strd_bool, pi_strd_str, pi_strd_tuple, pi_strd_list, pi_cube_int, pi_cube_bool, pi_cube_str, pi_cube_tuple, pi_cube_list, pi_cover_int, pi_cover_bool, pi_cover_str, pi_cover_tuple, pi_cover_list, cover_mk, ← List.map_take, ← List.map_drop, it_cube, sq_cube, uNeg1, ltNeg, key_nat, get_n, ix_dn, Option.map_some, cube_mk, bAdd, bAnd, bOr, bXor, bShr, uInv, bAndNot, aAdd, aOr, cEqN, cNeN, cEqS, cNeS, cEqC, cNeC, cEqB, cNeB, cLtN, cLeN, cGtN, cGeN, cIsN, cNsN, none_non, none_nat, none_cube, none_bl, none_str, none_tup, cIsB, cNsB, cInN, cEqNL, cNeNL, pr_sortL, cNiN, cInC, tr_bl, tr_non, tr_nat, tr_lst, tr_tup, ix_t0, ix_t1, ix_t2, ix_t3, ix_l0, ix_l1, ix_l2, ix_l3, ix_c0, ix_c1, pr_lenL, pr_lenT, pr_lenC, pr_lenD, pr_lenK, pr_tupL, pr_tupT, pr_lstL, pr_lstT, pr_lstC, pr_lstS, pr_intN, pr_intB, pr_sumN, pr_allB, pr_anyB, it_lst, it_tup, it_cov, sq_lst, sq_tup, sq_cov, fl_nat, fl_str, fl_bl, fl_non, fl_lst, fl_tup, fl_cube, fl_cover, fit0, fit1, fit2, fit3, fit4, end_none, end_nat, sl_lt, sl_lf, sl_tt, sl_tf, sl_ct, sl_cf, map_snoc, T_is_number, io_is_number, T_is_cube, io_is_cube, T_is_cover, io_is_cover, T_in_cube, io_in_cube, T_in_cover, io_in_cover, T_is_gate, io_is_gate, T_next_value, io_next_value, T_fights, io_fights, T_reads, io_reads, T__law_draws, io__law_draws, T__law_draw, io__law_draw, T__law_same, io__law_same, T__law_has, io__law_has, T__law_in, io__law_in, T__law_cube, io__law_cube, T__law_cover, io__law_cover, T__law_bits, io__law_bits, T__law_odd, io__law_odd, T__law_next, io__law_next, T__law_gate, io__law_gate, T__law_reads, io__law_reads, T__law_wrong, io__law_wrong, T_law, io_law, op_k_is_cover_0, rs_k_is_cover_0, op_k_in_cover_0, rs_k_in_cover_0, op_k__law_in_0, rs_k__law_in_0, op_k__law_cover_0, rs_k__law_cover_0, op_k__law_reads_2, rs_k__law_reads_2, hs3, b1, b2]
  | sum a =>
    obtain ⟨_, h3⟩ := hg
    have c1 := in_ok (m := m) (N := n) (by omega) x a (by omega)
    rw [gd_s, nx_s]
    generalize a.any (hasB x) = p at c1 ⊢
    cases p <;> simp -implicitDefEqProofs only [f__law_next, List.map_cons, List.map_nil, List.cons_append, List.nil_append, List.replicate, Nat.sub_self, Nat.reduceSub, end_rt, end_nx, end_ite, outsOf, forN_nil, bindV, bind_ite, opt_some, es_nil', es_cons', then_nx, then_bk, then_ct, then_rt, es1_asg', es1_setx', es1_aug', es1_par', es1_app', es1_ext', es1_ex', es1_ret', op_var, rs_var, op_cst, rs_cst, op_tup, rs_tup, op_lst, rs_lst, op_bin, rs_bin, op_un, rs_un, op_nt, rs_nt, op_cmp, rs_cmp, op_cmp2, rs_cmp2, op_and, rs_and, op_or, rs_or, op_ife, rs_ife, op_ix, rs_ix, op_sl, rs_sl, op_rev, rs_rev, op_call, rs_call, op_prim, rs_prim, op_comp, rs_comp, op_pop, rs_pop, op_dnew, rs_dnew, op_get, rs_get, es1_ret0', es1_ite', es1_brk', es1_cnt', es1_pass', es1_for', es1_wh', ev_var', ev_cst', ev_tup', ev_lst', ev_bin', ev_un', ev_nt', ev_cmp', ev_cmp2', ev_and', ev_or', ev_ife', ev_ix', ev_sl', ev_rev', ev_call', ev_prim', ev_pop', ev_dnew', ev_get', ev_sset', ev_lset', op_sset, op_lset, rs_sset, rs_lset, evs_nil', evs_cons', evx_no', evx_yes', evt_tru', evt_and', evt_or', evt_nt', evt_e', evi_seq', evi_rng', evi_rng2', evi_enum', getB, setB, pk, tk, pks, tks, B.dat, asg_nm, asg_tp, asg_cube, asgN, onOwn, stillB, backB, wipeB, turnF, turnX, turnC, ite_caA, ite_caO, ite_rA, ite_cp, ite_blT, ite_blF, ite_bT, ite_bF, ite_rF, ite_rT, ite_caF, ite_caT, doCall, callArgs, backIn, frzIn, okSlots, slotsOf, List.all_cons, List.all_nil, List.nodup_cons, List.nodup_nil, List.not_mem_nil, not_false_eq_true, and_self, decide_true, List.contains_nil, List.contains_cons, beq_true, beq_false, Bool.true_beq, Bool.false_beq, decide_false, if_true, if_false, Bool.false_eq_true, Bool.and_true, Bool.true_and, Bool.and_false, Bool.false_and, Bool.or_true, Bool.true_or, Bool.or_false, Bool.false_or, Bool.not_true, Bool.not_false, beq_self_eq_true, Bool.not_not, reduceIte, Nat.reduceBEq, Nat.reduceLT, Nat.reduceLeDiff, Nat.reduceAdd, Nat.reducePow, reduceCtorEq, BEq.rfl, List.length_cons, List.length_nil, List.length_map, List.map_cons, List.map_nil, String.reduceBEq, Option.some.injEq, pi_dct_int, pi_dct_bool, pi_dct_str, pi_dct_tuple, pi_dct_list, pi_tup_int, pi_tup_bool, pi_tup_str, pi_tup_tuple, pi_tup_list, pi_lst_int, pi_lst_bool, pi_lst_str, pi_lst_tuple, pi_lst_list, pi_int_int, pi_int_bool, pi_int_str, pi_int_tuple, pi_int_list, pi_bl_int, pi_bl_bool, pi_bl_str, pi_bl_tuple, pi_bl_list, pi_str_int, pi_str_bool, pi_str_str, pi_str_tuple, pi_str_list, pi_non_int, pi_non_bool, pi_non_str, pi_non_tuple, pi_non_list, pi_nat_int, pi_nat_bool, pi_nat_str, pi_nat_tuple, pi_nat_list, pi_strd_int, pi_strd_bool, pi_strd_str, pi_strd_tuple, pi_strd_list, pi_cube_int, pi_cube_bool, pi_cube_str, pi_cube_tuple, pi_cube_list, pi_cover_int, pi_cover_bool, pi_cover_str, pi_cover_tuple, pi_cover_list, cover_mk, ← List.map_take, ← List.map_drop, it_cube, sq_cube, uNeg1, ltNeg, key_nat, get_n, ix_dn, Option.map_some, cube_mk, bAdd, bAnd, bOr, bXor, bShr, uInv, bAndNot, aAdd, aOr, cEqN, cNeN, cEqS, cNeS, cEqC, cNeC, cEqB, cNeB, cLtN, cLeN, cGtN, cGeN, cIsN, cNsN, none_non, none_nat, none_cube, none_bl, none_str, none_tup, cIsB, cNsB, cInN, cEqNL, cNeNL, pr_sortL, cNiN, cInC, tr_bl, tr_non, tr_nat, tr_lst, tr_tup, ix_t0, ix_t1, ix_t2, ix_t3, ix_l0, ix_l1, ix_l2, ix_l3, ix_c0, ix_c1, pr_lenL, pr_lenT, pr_lenC, pr_lenD, pr_lenK, pr_tupL, pr_tupT, pr_lstL, pr_lstT, pr_lstC, pr_lstS, pr_intN, pr_intB, pr_sumN, pr_allB, pr_anyB, it_lst, it_tup, it_cov, sq_lst, sq_tup, sq_cov, fl_nat, fl_str, fl_bl, fl_non, fl_lst, fl_tup, fl_cube, fl_cover, fit0, fit1, fit2, fit3, fit4, end_none, end_nat, sl_lt, sl_lf, sl_tt, sl_tf, sl_ct, sl_cf, map_snoc, T_is_number, io_is_number, T_is_cube, io_is_cube, T_is_cover, io_is_cover, T_in_cube, io_in_cube, T_in_cover, io_in_cover, T_is_gate, io_is_gate, T_next_value, io_next_value, T_fights, io_fights, T_reads, io_reads, T__law_draws, io__law_draws, T__law_draw, io__law_draw, T__law_same, io__law_same, T__law_has, io__law_has, T__law_in, io__law_in, T__law_cube, io__law_cube, T__law_cover, io__law_cover, T__law_bits, io__law_bits, T__law_odd, io__law_odd, T__law_next, io__law_next, T__law_gate, io__law_gate, T__law_reads, io__law_reads, T__law_wrong, io__law_wrong, T_law, io_law, op_k_is_cover_0, rs_k_is_cover_0, op_k_in_cover_0, rs_k_in_cover_0, op_k__law_in_0, rs_k__law_in_0, op_k__law_cover_0, rs_k__law_cover_0, op_k__law_reads_2, rs_k__law_reads_2, c1]
theorem fights_ok {N : Nat} (hN : 3 ≤ N) {w : Nat} {g : G} (hg : GOk w g) (x : Nat) : callF T m N 7 [.sh (gateD g), .sh (natD x)] = .ret false (.bl (fightB x g)) [.sh (gateD g), .sh (natD x)] := by
  obtain ⟨n, rfl, hn⟩ := to_succ hN
  rw [callF_body T_fights rfl]
  cases g with
  | hold a b =>
    obtain ⟨_, _, h3, h4⟩ := hg
    have c1 := in_cover_ok (m := m) (N := n) (by omega) x a (by omega)
    have c2 := in_cover_ok (m := m) (N := n) (by omega) x b (by omega)
    rw [gd_h, fb_h]
    generalize a.any (hasB x) = p at c1 ⊢
    cases p <;> simp -implicitDefEqProofs only [f_fights, List.map_cons, List.map_nil, List.cons_append, List.nil_append, List.replicate, Nat.sub_self, Nat.reduceSub, end_rt, end_nx, end_ite, outsOf, forN_nil, bindV, bind_ite, opt_some, es_nil', es_cons', then_nx, then_bk, then_ct, then_rt, es1_asg', es1_setx', es1_aug', es1_par', es1_app', es1_ext', es1_ex', es1_ret', op_var, rs_var, op_cst, rs_cst, op_tup, rs_tup, op_lst, rs_lst, op_bin, rs_bin, op_un, rs_un, op_nt, rs_nt, op_cmp, rs_cmp, op_cmp2, rs_cmp2, op_and, rs_and, op_or, rs_or, op_ife, rs_ife, op_ix, rs_ix, op_sl, rs_sl, op_rev, rs_rev, op_call, rs_call, op_prim, rs_prim, op_comp, rs_comp, op_pop, rs_pop, op_dnew, rs_dnew, op_get, rs_get, es1_ret0', es1_ite', es1_brk', es1_cnt', es1_pass', es1_for', es1_wh', ev_var', ev_cst', ev_tup', ev_lst', ev_bin', ev_un', ev_nt', ev_cmp', ev_cmp2', ev_and', ev_or', ev_ife', ev_ix', ev_sl', ev_rev', ev_call', ev_prim', ev_pop', ev_dnew', ev_get', ev_sset', ev_lset', op_sset, op_lset, rs_sset, rs_lset, evs_nil', evs_cons', evx_no', evx_yes', evt_tru', evt_and', evt_or', evt_nt', evt_e', evi_seq', evi_rng', evi_rng2', evi_enum', getB, setB, pk, tk, pks, tks, B.dat, asg_nm, asg_tp, asg_cube, asgN, onOwn, stillB, backB, wipeB, turnF, turnX, turnC, ite_caA, ite_caO, ite_rA, ite_cp, ite_blT, ite_blF, ite_bT, ite_bF, ite_rF, ite_rT, ite_caF, ite_caT, doCall, callArgs, backIn, frzIn, okSlots, slotsOf, List.all_cons, List.all_nil, List.nodup_cons, List.nodup_nil, List.not_mem_nil, not_false_eq_true, and_self, decide_true, List.contains_nil, List.contains_cons, beq_true, beq_false, Bool.true_beq, Bool.false_beq, decide_false, if_true, if_false, Bool.false_eq_true, Bool.and_true, Bool.true_and, Bool.and_false, Bool.false_and, Bool.or_true, Bool.true_or, Bool.or_false, Bool.false_or, Bool.not_true, Bool.not_false, beq_self_eq_true, Bool.not_not, reduceIte, Nat.reduceBEq, Nat.reduceLT, Nat.reduceLeDiff, Nat.reduceAdd, Nat.reducePow, reduceCtorEq, BEq.rfl, List.length_cons, List.length_nil, List.length_map, List.map_cons, List.map_nil, String.reduceBEq, Option.some.injEq, pi_dct_int, pi_dct_bool, pi_dct_str, pi_dct_tuple, pi_dct_list, pi_tup_int, pi_tup_bool, pi_tup_str, pi_tup_tuple, pi_tup_list, pi_lst_int, pi_lst_bool, pi_lst_str, pi_lst_tuple, pi_lst_list, pi_int_int, pi_int_bool, pi_int_str, pi_int_tuple, pi_int_list, pi_bl_int, pi_bl_bool, pi_bl_str, pi_bl_tuple, pi_bl_list, pi_str_int, pi_str_bool, pi_str_str, pi_str_tuple, pi_str_list, pi_non_int, pi_non_bool, pi_non_str, pi_non_tuple, pi_non_list, pi_nat_int, pi_nat_bool, pi_nat_str, pi_nat_tuple, pi_nat_list, pi_strd_int, pi_strd_bool, pi_strd_str, pi_strd_tuple, pi_strd_list, pi_cube_int, pi_cube_bool, pi_cube_str, pi_cube_tuple, pi_cube_list, pi_cover_int, pi_cover_bool, pi_cover_str, pi_cover_tuple, pi_cover_list, cover_mk, ← List.map_take, ← List.map_drop, it_cube, sq_cube, uNeg1, ltNeg, key_nat, get_n, ix_dn, Option.map_some, cube_mk, bAdd, bAnd, bOr, bXor, bShr, uInv, bAndNot, aAdd, aOr, cEqN, cNeN, cEqS, cNeS, cEqC, cNeC, cEqB, cNeB, cLtN, cLeN, cGtN, cGeN, cIsN, cNsN, none_non, none_nat, none_cube, none_bl, none_str, none_tup, cIsB, cNsB, cInN, cEqNL, cNeNL, pr_sortL, cNiN, cInC, tr_bl, tr_non, tr_nat, tr_lst, tr_tup, ix_t0, ix_t1, ix_t2, ix_t3, ix_l0, ix_l1, ix_l2, ix_l3, ix_c0, ix_c1, pr_lenL, pr_lenT, pr_lenC, pr_lenD, pr_lenK, pr_tupL, pr_tupT, pr_lstL, pr_lstT, pr_lstC, pr_lstS, pr_intN, pr_intB, pr_sumN, pr_allB, pr_anyB, it_lst, it_tup, it_cov, sq_lst, sq_tup, sq_cov, fl_nat, fl_str, fl_bl, fl_non, fl_lst, fl_tup, fl_cube, fl_cover, fit0, fit1, fit2, fit3, fit4, end_none, end_nat, sl_lt, sl_lf, sl_tt, sl_tf, sl_ct, sl_cf, map_snoc, T_is_number, io_is_number, T_is_cube, io_is_cube, T_is_cover, io_is_cover, T_in_cube, io_in_cube, T_in_cover, io_in_cover, T_is_gate, io_is_gate, T_next_value, io_next_value, T_fights, io_fights, T_reads, io_reads, T__law_draws, io__law_draws, T__law_draw, io__law_draw, T__law_same, io__law_same, T__law_has, io__law_has, T__law_in, io__law_in, T__law_cube, io__law_cube, T__law_cover, io__law_cover, T__law_bits, io__law_bits, T__law_odd, io__law_odd, T__law_next, io__law_next, T__law_gate, io__law_gate, T__law_reads, io__law_reads, T__law_wrong, io__law_wrong, T_law, io_law, op_k_is_cover_0, rs_k_is_cover_0, op_k_in_cover_0, rs_k_in_cover_0, op_k__law_in_0, rs_k__law_in_0, op_k__law_cover_0, rs_k__law_cover_0, op_k__law_reads_2, rs_k__law_reads_2, c1, c2]
  | pick u v =>
    rw [gd_p, fb_p]
    simp -implicitDefEqProofs only [f_fights, List.map_cons, List.map_nil, List.cons_append, List.nil_append, List.replicate, Nat.sub_self, Nat.reduceSub, end_rt, end_nx, end_ite, outsOf, forN_nil, bindV, bind_ite, opt_some, es_nil', es_cons', then_nx, then_bk, then_ct, then_rt, es1_asg', es1_setx', es1_aug', es1_par', es1_app', es1_ext', es1_ex', es1_ret', op_var, rs_var, op_cst, rs_cst, op_tup, rs_tup, op_lst, rs_lst, op_bin, rs_bin, op_un, rs_un, op_nt, rs_nt, op_cmp, rs_cmp, op_cmp2, rs_cmp2, op_and, rs_and, op_or, rs_or, op_ife, rs_ife, op_ix, rs_ix, op_sl, rs_sl, op_rev, rs_rev, op_call, rs_call, op_prim, rs_prim, op_comp, rs_comp, op_pop, rs_pop, op_dnew, rs_dnew, op_get, rs_get, es1_ret0', es1_ite', es1_brk', es1_cnt', es1_pass', es1_for', es1_wh', ev_var', ev_cst', ev_tup', ev_lst', ev_bin', ev_un', ev_nt', ev_cmp', ev_cmp2', ev_and', ev_or', ev_ife', ev_ix', ev_sl', ev_rev', ev_call', ev_prim', ev_pop', ev_dnew', ev_get', ev_sset', ev_lset', op_sset, op_lset, rs_sset, rs_lset, evs_nil', evs_cons', evx_no', evx_yes', evt_tru', evt_and', evt_or', evt_nt', evt_e', evi_seq', evi_rng', evi_rng2', evi_enum', getB, setB, pk, tk, pks, tks, B.dat, asg_nm, asg_tp, asg_cube, asgN, onOwn, stillB, backB, wipeB, turnF, turnX, turnC, ite_caA, ite_caO, ite_rA, ite_cp, ite_blT, ite_blF, ite_bT, ite_bF, ite_rF, ite_rT, ite_caF, ite_caT, doCall, callArgs, backIn, frzIn, okSlots, slotsOf, List.all_cons, List.all_nil, List.nodup_cons, List.nodup_nil, List.not_mem_nil, not_false_eq_true, and_self, decide_true, List.contains_nil, List.contains_cons, beq_true, beq_false, Bool.true_beq, Bool.false_beq, decide_false, if_true, if_false, Bool.false_eq_true, Bool.and_true, Bool.true_and, Bool.and_false, Bool.false_and, Bool.or_true, Bool.true_or, Bool.or_false, Bool.false_or, Bool.not_true, Bool.not_false, beq_self_eq_true, Bool.not_not, reduceIte, Nat.reduceBEq, Nat.reduceLT, Nat.reduceLeDiff, Nat.reduceAdd, Nat.reducePow, reduceCtorEq, BEq.rfl, List.length_cons, List.length_nil, List.length_map, List.map_cons, List.map_nil, String.reduceBEq, Option.some.injEq, pi_dct_int, pi_dct_bool, pi_dct_str, pi_dct_tuple, pi_dct_list, pi_tup_int, pi_tup_bool, pi_tup_str, pi_tup_tuple, pi_tup_list, pi_lst_int, pi_lst_bool, pi_lst_str, pi_lst_tuple, pi_lst_list, pi_int_int, pi_int_bool, pi_int_str, pi_int_tuple, pi_int_list, pi_bl_int, pi_bl_bool, pi_bl_str, pi_bl_tuple, pi_bl_list, pi_str_int, pi_str_bool, pi_str_str, pi_str_tuple, pi_str_list, pi_non_int, pi_non_bool, pi_non_str, pi_non_tuple, pi_non_list, pi_nat_int, pi_nat_bool, pi_nat_str, pi_nat_tuple, pi_nat_list, pi_strd_int, pi_strd_bool, pi_strd_str, pi_strd_tuple, pi_strd_list, pi_cube_int, pi_cube_bool, pi_cube_str, pi_cube_tuple, pi_cube_list, pi_cover_int, pi_cover_bool, pi_cover_str, pi_cover_tuple, pi_cover_list, cover_mk, ← List.map_take, ← List.map_drop, it_cube, sq_cube, uNeg1, ltNeg, key_nat, get_n, ix_dn, Option.map_some, cube_mk, bAdd, bAnd, bOr, bXor, bShr, uInv, bAndNot, aAdd, aOr, cEqN, cNeN, cEqS, cNeS, cEqC, cNeC, cEqB, cNeB, cLtN, cLeN, cGtN, cGeN, cIsN, cNsN, none_non, none_nat, none_cube, none_bl, none_str, none_tup, cIsB, cNsB, cInN, cEqNL, cNeNL, pr_sortL, cNiN, cInC, tr_bl, tr_non, tr_nat, tr_lst, tr_tup, ix_t0, ix_t1, ix_t2, ix_t3, ix_l0, ix_l1, ix_l2, ix_l3, ix_c0, ix_c1, pr_lenL, pr_lenT, pr_lenC, pr_lenD, pr_lenK, pr_tupL, pr_tupT, pr_lstL, pr_lstT, pr_lstC, pr_lstS, pr_intN, pr_intB, pr_sumN, pr_allB, pr_anyB, it_lst, it_tup, it_cov, sq_lst, sq_tup, sq_cov, fl_nat, fl_str, fl_bl, fl_non, fl_lst, fl_tup, fl_cube, fl_cover, fit0, fit1, fit2, fit3, fit4, end_none, end_nat, sl_lt, sl_lf, sl_tt, sl_tf, sl_ct, sl_cf, map_snoc, T_is_number, io_is_number, T_is_cube, io_is_cube, T_is_cover, io_is_cover, T_in_cube, io_in_cube, T_in_cover, io_in_cover, T_is_gate, io_is_gate, T_next_value, io_next_value, T_fights, io_fights, T_reads, io_reads, T__law_draws, io__law_draws, T__law_draw, io__law_draw, T__law_same, io__law_same, T__law_has, io__law_has, T__law_in, io__law_in, T__law_cube, io__law_cube, T__law_cover, io__law_cover, T__law_bits, io__law_bits, T__law_odd, io__law_odd, T__law_next, io__law_next, T__law_gate, io__law_gate, T__law_reads, io__law_reads, T__law_wrong, io__law_wrong, T_law, io_law, op_k_is_cover_0, rs_k_is_cover_0, op_k_in_cover_0, rs_k_in_cover_0, op_k__law_in_0, rs_k__law_in_0, op_k__law_cover_0, rs_k__law_cover_0, op_k__law_reads_2, rs_k__law_reads_2, hs4]
  | sum a =>
    rw [gd_s, fb_s]
    simp -implicitDefEqProofs only [f_fights, List.map_cons, List.map_nil, List.cons_append, List.nil_append, List.replicate, Nat.sub_self, Nat.reduceSub, end_rt, end_nx, end_ite, outsOf, forN_nil, bindV, bind_ite, opt_some, es_nil', es_cons', then_nx, then_bk, then_ct, then_rt, es1_asg', es1_setx', es1_aug', es1_par', es1_app', es1_ext', es1_ex', es1_ret', op_var, rs_var, op_cst, rs_cst, op_tup, rs_tup, op_lst, rs_lst, op_bin, rs_bin, op_un, rs_un, op_nt, rs_nt, op_cmp, rs_cmp, op_cmp2, rs_cmp2, op_and, rs_and, op_or, rs_or, op_ife, rs_ife, op_ix, rs_ix, op_sl, rs_sl, op_rev, rs_rev, op_call, rs_call, op_prim, rs_prim, op_comp, rs_comp, op_pop, rs_pop, op_dnew, rs_dnew, op_get, rs_get, es1_ret0', es1_ite', es1_brk', es1_cnt', es1_pass', es1_for', es1_wh', ev_var', ev_cst', ev_tup', ev_lst', ev_bin', ev_un', ev_nt', ev_cmp', ev_cmp2', ev_and', ev_or', ev_ife', ev_ix', ev_sl', ev_rev', ev_call', ev_prim', ev_pop', ev_dnew', ev_get', ev_sset', ev_lset', op_sset, op_lset, rs_sset, rs_lset, evs_nil', evs_cons', evx_no', evx_yes', evt_tru', evt_and', evt_or', evt_nt', evt_e', evi_seq', evi_rng', evi_rng2', evi_enum', getB, setB, pk, tk, pks, tks, B.dat, asg_nm, asg_tp, asg_cube, asgN, onOwn, stillB, backB, wipeB, turnF, turnX, turnC, ite_caA, ite_caO, ite_rA, ite_cp, ite_blT, ite_blF, ite_bT, ite_bF, ite_rF, ite_rT, ite_caF, ite_caT, doCall, callArgs, backIn, frzIn, okSlots, slotsOf, List.all_cons, List.all_nil, List.nodup_cons, List.nodup_nil, List.not_mem_nil, not_false_eq_true, and_self, decide_true, List.contains_nil, List.contains_cons, beq_true, beq_false, Bool.true_beq, Bool.false_beq, decide_false, if_true, if_false, Bool.false_eq_true, Bool.and_true, Bool.true_and, Bool.and_false, Bool.false_and, Bool.or_true, Bool.true_or, Bool.or_false, Bool.false_or, Bool.not_true, Bool.not_false, beq_self_eq_true, Bool.not_not, reduceIte, Nat.reduceBEq, Nat.reduceLT, Nat.reduceLeDiff, Nat.reduceAdd, Nat.reducePow, reduceCtorEq, BEq.rfl, List.length_cons, List.length_nil, List.length_map, List.map_cons, List.map_nil, String.reduceBEq, Option.some.injEq, pi_dct_int, pi_dct_bool, pi_dct_str, pi_dct_tuple, pi_dct_list, pi_tup_int, pi_tup_bool, pi_tup_str, pi_tup_tuple, pi_tup_list, pi_lst_int, pi_lst_bool, pi_lst_str, pi_lst_tuple, pi_lst_list, pi_int_int, pi_int_bool, pi_int_str, pi_int_tuple, pi_int_list, pi_bl_int, pi_bl_bool, pi_bl_str, pi_bl_tuple, pi_bl_list, pi_str_int, pi_str_bool, pi_str_str, pi_str_tuple, pi_str_list, pi_non_int, pi_non_bool, pi_non_str, pi_non_tuple, pi_non_list, pi_nat_int, pi_nat_bool, pi_nat_str, pi_nat_tuple, pi_nat_list, pi_strd_int, pi_strd_bool, pi_strd_str, pi_strd_tuple, pi_strd_list, pi_cube_int, pi_cube_bool, pi_cube_str, pi_cube_tuple, pi_cube_list, pi_cover_int, pi_cover_bool, pi_cover_str, pi_cover_tuple, pi_cover_list, cover_mk, ← List.map_take, ← List.map_drop, it_cube, sq_cube, uNeg1, ltNeg, key_nat, get_n, ix_dn, Option.map_some, cube_mk, bAdd, bAnd, bOr, bXor, bShr, uInv, bAndNot, aAdd, aOr, cEqN, cNeN, cEqS, cNeS, cEqC, cNeC, cEqB, cNeB, cLtN, cLeN, cGtN, cGeN, cIsN, cNsN, none_non, none_nat, none_cube, none_bl, none_str, none_tup, cIsB, cNsB, cInN, cEqNL, cNeNL, pr_sortL, cNiN, cInC, tr_bl, tr_non, tr_nat, tr_lst, tr_tup, ix_t0, ix_t1, ix_t2, ix_t3, ix_l0, ix_l1, ix_l2, ix_l3, ix_c0, ix_c1, pr_lenL, pr_lenT, pr_lenC, pr_lenD, pr_lenK, pr_tupL, pr_tupT, pr_lstL, pr_lstT, pr_lstC, pr_lstS, pr_intN, pr_intB, pr_sumN, pr_allB, pr_anyB, it_lst, it_tup, it_cov, sq_lst, sq_tup, sq_cov, fl_nat, fl_str, fl_bl, fl_non, fl_lst, fl_tup, fl_cube, fl_cover, fit0, fit1, fit2, fit3, fit4, end_none, end_nat, sl_lt, sl_lf, sl_tt, sl_tf, sl_ct, sl_cf, map_snoc, T_is_number, io_is_number, T_is_cube, io_is_cube, T_is_cover, io_is_cover, T_in_cube, io_in_cube, T_in_cover, io_in_cover, T_is_gate, io_is_gate, T_next_value, io_next_value, T_fights, io_fights, T_reads, io_reads, T__law_draws, io__law_draws, T__law_draw, io__law_draw, T__law_same, io__law_same, T__law_has, io__law_has, T__law_in, io__law_in, T__law_cube, io__law_cube, T__law_cover, io__law_cover, T__law_bits, io__law_bits, T__law_odd, io__law_odd, T__law_next, io__law_next, T__law_gate, io__law_gate, T__law_reads, io__law_reads, T__law_wrong, io__law_wrong, T_law, io_law, op_k_is_cover_0, rs_k_is_cover_0, op_k_in_cover_0, rs_k_in_cover_0, op_k__law_in_0, rs_k__law_in_0, op_k__law_cover_0, rs_k__law_cover_0, op_k__law_reads_2, rs_k__law_reads_2, hs5]
/-- what a gate reads, in the order of its covers -/
def readsN : G → Nat
  | .hold a b => b.foldl (fun z c => z ||| c.1) (a.foldl (fun z c => z ||| c.1) 0)
  | .pick u v => 2 ^ u ||| 2 ^ v
  | .sum a => a.foldl (fun z c => z ||| c.1) 0
theorem rd_h (a b : List (Nat × Nat)) : readsN (.hold a b) = b.foldl (fun z c => z ||| c.1) (a.foldl (fun z c => z ||| c.1) 0) := rfl
theorem rd_p (u v : Nat) : readsN (.pick u v) = 2 ^ u ||| 2 ^ v := rfl
theorem rd_s (a : List (Nat × Nat)) : readsN (.sum a) = a.foldl (fun z c => z ||| c.1) 0 := rfl
theorem reads_in {n : Nat} (d0 x2 : Option B) : ∀ (cs : List (Nat × Nat)) (z : Nat) (x3 x4 : Option B),
    ∃ y3 y4, forN (turnF T (callF T m n) m (.tp [3, 4]) b_reads_0) (cs.map cubeD) [d0, some (.sh (natD z)), x2, x3, x4] = .val .nx [d0, some (.sh (natD (cs.foldl (fun z c => z ||| c.1) z))), x2, y3, y4]
  | [], z, x3, x4 => ⟨x3, x4, rfl⟩
  | c :: cs, z, x3, x4 => by
    have step : turnF T (callF T m n) m (.tp [3, 4]) b_reads_0 (cubeD c) [d0, some (.sh (natD z)), x2, x3, x4] = .val .nx [d0, some (.sh (natD (z ||| c.1))), x2, some (.sh (natD c.1)), some (.sh (natD c.2))] := by
      simp -implicitDefEqProofs only [b_reads_0, forN_nil, bindV, bind_ite, opt_some, es_nil', es_cons', then_nx, then_bk, then_ct, then_rt, es1_asg', es1_setx', es1_aug', es1_par', es1_app', es1_ext', es1_ex', es1_ret', op_var, rs_var, op_cst, rs_cst, op_tup, rs_tup, op_lst, rs_lst, op_bin, rs_bin, op_un, rs_un, op_nt, rs_nt, op_cmp, rs_cmp, op_cmp2, rs_cmp2, op_and, rs_and, op_or, rs_or, op_ife, rs_ife, op_ix, rs_ix, op_sl, rs_sl, op_rev, rs_rev, op_call, rs_call, op_prim, rs_prim, op_comp, rs_comp, op_pop, rs_pop, op_dnew, rs_dnew, op_get, rs_get, es1_ret0', es1_ite', es1_brk', es1_cnt', es1_pass', es1_for', es1_wh', ev_var', ev_cst', ev_tup', ev_lst', ev_bin', ev_un', ev_nt', ev_cmp', ev_cmp2', ev_and', ev_or', ev_ife', ev_ix', ev_sl', ev_rev', ev_call', ev_prim', ev_pop', ev_dnew', ev_get', ev_sset', ev_lset', op_sset, op_lset, rs_sset, rs_lset, evs_nil', evs_cons', evx_no', evx_yes', evt_tru', evt_and', evt_or', evt_nt', evt_e', evi_seq', evi_rng', evi_rng2', evi_enum', getB, setB, pk, tk, pks, tks, B.dat, asg_nm, asg_tp, asg_cube, asgN, onOwn, stillB, backB, wipeB, turnF, turnX, turnC, ite_caA, ite_caO, ite_rA, ite_cp, ite_blT, ite_blF, ite_bT, ite_bF, ite_rF, ite_rT, ite_caF, ite_caT, doCall, callArgs, backIn, frzIn, okSlots, slotsOf, List.all_cons, List.all_nil, List.nodup_cons, List.nodup_nil, List.not_mem_nil, not_false_eq_true, and_self, decide_true, List.contains_nil, List.contains_cons, beq_true, beq_false, Bool.true_beq, Bool.false_beq, decide_false, if_true, if_false, Bool.false_eq_true, Bool.and_true, Bool.true_and, Bool.and_false, Bool.false_and, Bool.or_true, Bool.true_or, Bool.or_false, Bool.false_or, Bool.not_true, Bool.not_false, beq_self_eq_true, Bool.not_not, reduceIte, Nat.reduceBEq, Nat.reduceLT, Nat.reduceLeDiff, Nat.reduceAdd, Nat.reducePow, reduceCtorEq, BEq.rfl, List.length_cons, List.length_nil, List.length_map, List.map_cons, List.map_nil, String.reduceBEq, Option.some.injEq, pi_dct_int, pi_dct_bool, pi_dct_str, pi_dct_tuple, pi_dct_list, pi_tup_int, pi_tup_bool, pi_tup_str, pi_tup_tuple, pi_tup_list, pi_lst_int, pi_lst_bool, pi_lst_str, pi_lst_tuple, pi_lst_list, pi_int_int, pi_int_bool, pi_int_str, pi_int_tuple, pi_int_list, pi_bl_int, pi_bl_bool, pi_bl_str, pi_bl_tuple, pi_bl_list, pi_str_int, pi_str_bool, pi_str_str, pi_str_tuple, pi_str_list, pi_non_int, pi_non_bool, pi_non_str, pi_non_tuple, pi_non_list, pi_nat_int, pi_nat_bool, pi_nat_str, pi_nat_tuple, pi_nat_list, pi_strd_int, pi_strd_bool, pi_strd_str, pi_strd_tuple, pi_strd_list, pi_cube_int, pi_cube_bool, pi_cube_str, pi_cube_tuple, pi_cube_list, pi_cover_int, pi_cover_bool, pi_cover_str, pi_cover_tuple, pi_cover_list, cover_mk, ← List.map_take, ← List.map_drop, it_cube, sq_cube, uNeg1, ltNeg, key_nat, get_n, ix_dn, Option.map_some, cube_mk, bAdd, bAnd, bOr, bXor, bShr, uInv, bAndNot, aAdd, aOr, cEqN, cNeN, cEqS, cNeS, cEqC, cNeC, cEqB, cNeB, cLtN, cLeN, cGtN, cGeN, cIsN, cNsN, none_non, none_nat, none_cube, none_bl, none_str, none_tup, cIsB, cNsB, cInN, cEqNL, cNeNL, pr_sortL, cNiN, cInC, tr_bl, tr_non, tr_nat, tr_lst, tr_tup, ix_t0, ix_t1, ix_t2, ix_t3, ix_l0, ix_l1, ix_l2, ix_l3, ix_c0, ix_c1, pr_lenL, pr_lenT, pr_lenC, pr_lenD, pr_lenK, pr_tupL, pr_tupT, pr_lstL, pr_lstT, pr_lstC, pr_lstS, pr_intN, pr_intB, pr_sumN, pr_allB, pr_anyB, it_lst, it_tup, it_cov, sq_lst, sq_tup, sq_cov, fl_nat, fl_str, fl_bl, fl_non, fl_lst, fl_tup, fl_cube, fl_cover, fit0, fit1, fit2, fit3, fit4, end_none, end_nat, sl_lt, sl_lf, sl_tt, sl_tf, sl_ct, sl_cf, map_snoc, T_is_number, io_is_number, T_is_cube, io_is_cube, T_is_cover, io_is_cover, T_in_cube, io_in_cube, T_in_cover, io_in_cover, T_is_gate, io_is_gate, T_next_value, io_next_value, T_fights, io_fights, T_reads, io_reads, T__law_draws, io__law_draws, T__law_draw, io__law_draw, T__law_same, io__law_same, T__law_has, io__law_has, T__law_in, io__law_in, T__law_cube, io__law_cube, T__law_cover, io__law_cover, T__law_bits, io__law_bits, T__law_odd, io__law_odd, T__law_next, io__law_next, T__law_gate, io__law_gate, T__law_reads, io__law_reads, T__law_wrong, io__law_wrong, T_law, io_law, op_k_is_cover_0, rs_k_is_cover_0, op_k_in_cover_0, rs_k_in_cover_0, op_k__law_in_0, rs_k__law_in_0, op_k__law_cover_0, rs_k__law_cover_0, op_k__law_reads_2, rs_k__law_reads_2]
    obtain ⟨y3, y4, q⟩ := reads_in (n := n) d0 x2 cs (z ||| c.1) (some (.sh (natD c.1))) (some (.sh (natD c.2)))
    exact ⟨y3, y4, by rw [List.map_cons, forN_cons (.inl step), q]; rfl⟩
theorem reads_ok {N : Nat} (hN : 3 ≤ N) {w : Nat} (hw : w ≤ 100) {g : G} (hg : GOk w g) : callF T m N 8 [.sh (gateD g)] = .ret false (natD (readsN g)) [.sh (gateD g)] := by
  obtain ⟨n, rfl, hn⟩ := to_succ hN
  rw [callF_body T_reads rfl]
  cases g with
  | hold a b =>
    obtain ⟨y3, y4, q1⟩ := reads_in (m := m) (n := n) (some (.sh (gateD (.hold a b)))) (some (.sh (coverD a))) a 0 none none
    obtain ⟨z3, z4, q2⟩ := reads_in (m := m) (n := n) (some (.sh (gateD (.hold a b)))) (some (.sh (coverD b))) b (a.foldl (fun z c => z ||| c.1) 0) y3 y4
    rw [gd_h] at q1 q2
    rw [gd_h, rd_h]
    have t1 : turnF T (callF T m n) m (.nm 2) b_reads_1 (coverD a) [some (.sh (.tup [strD "hold", coverD a, coverD b])), some (.sh (natD 0)), none, none, none] = .val .nx [some (.sh (.tup [strD "hold", coverD a, coverD b])), some (.sh (natD (a.foldl (fun z c => z ||| c.1) 0))), some (.sh (coverD a)), y3, y4] := by simp -implicitDefEqProofs only [b_reads_1, forN_nil, bindV, bind_ite, opt_some, es_nil', es_cons', then_nx, then_bk, then_ct, then_rt, es1_asg', es1_setx', es1_aug', es1_par', es1_app', es1_ext', es1_ex', es1_ret', op_var, rs_var, op_cst, rs_cst, op_tup, rs_tup, op_lst, rs_lst, op_bin, rs_bin, op_un, rs_un, op_nt, rs_nt, op_cmp, rs_cmp, op_cmp2, rs_cmp2, op_and, rs_and, op_or, rs_or, op_ife, rs_ife, op_ix, rs_ix, op_sl, rs_sl, op_rev, rs_rev, op_call, rs_call, op_prim, rs_prim, op_comp, rs_comp, op_pop, rs_pop, op_dnew, rs_dnew, op_get, rs_get, es1_ret0', es1_ite', es1_brk', es1_cnt', es1_pass', es1_for', es1_wh', ev_var', ev_cst', ev_tup', ev_lst', ev_bin', ev_un', ev_nt', ev_cmp', ev_cmp2', ev_and', ev_or', ev_ife', ev_ix', ev_sl', ev_rev', ev_call', ev_prim', ev_pop', ev_dnew', ev_get', ev_sset', ev_lset', op_sset, op_lset, rs_sset, rs_lset, evs_nil', evs_cons', evx_no', evx_yes', evt_tru', evt_and', evt_or', evt_nt', evt_e', evi_seq', evi_rng', evi_rng2', evi_enum', getB, setB, pk, tk, pks, tks, B.dat, asg_nm, asg_tp, asg_cube, asgN, onOwn, stillB, backB, wipeB, turnF, turnX, turnC, ite_caA, ite_caO, ite_rA, ite_cp, ite_blT, ite_blF, ite_bT, ite_bF, ite_rF, ite_rT, ite_caF, ite_caT, doCall, callArgs, backIn, frzIn, okSlots, slotsOf, List.all_cons, List.all_nil, List.nodup_cons, List.nodup_nil, List.not_mem_nil, not_false_eq_true, and_self, decide_true, List.contains_nil, List.contains_cons, beq_true, beq_false, Bool.true_beq, Bool.false_beq, decide_false, if_true, if_false, Bool.false_eq_true, Bool.and_true, Bool.true_and, Bool.and_false, Bool.false_and, Bool.or_true, Bool.true_or, Bool.or_false, Bool.false_or, Bool.not_true, Bool.not_false, beq_self_eq_true, Bool.not_not, reduceIte, Nat.reduceBEq, Nat.reduceLT, Nat.reduceLeDiff, Nat.reduceAdd, Nat.reducePow, reduceCtorEq, BEq.rfl, List.length_cons, List.length_nil, List.length_map, List.map_cons, List.map_nil, String.reduceBEq, Option.some.injEq, pi_dct_int, pi_dct_bool, pi_dct_str, pi_dct_tuple, pi_dct_list, pi_tup_int, pi_tup_bool, pi_tup_str, pi_tup_tuple, pi_tup_list, pi_lst_int, pi_lst_bool, pi_lst_str, pi_lst_tuple, pi_lst_list, pi_int_int, pi_int_bool, pi_int_str, pi_int_tuple, pi_int_list, pi_bl_int, pi_bl_bool, pi_bl_str, pi_bl_tuple, pi_bl_list, pi_str_int, pi_str_bool, pi_str_str, pi_str_tuple, pi_str_list, pi_non_int, pi_non_bool, pi_non_str, pi_non_tuple, pi_non_list, pi_nat_int, pi_nat_bool, pi_nat_str, pi_nat_tuple, pi_nat_list, pi_strd_int, pi_strd_bool, pi_strd_str, pi_strd_tuple, pi_strd_list, pi_cube_int, pi_cube_bool, pi_cube_str, pi_cube_tuple, pi_cube_list, pi_cover_int, pi_cover_bool, pi_cover_str, pi_cover_tuple, pi_cover_list, cover_mk, ← List.map_take, ← List.map_drop, it_cube, sq_cube, uNeg1, ltNeg, key_nat, get_n, ix_dn, Option.map_some, cube_mk, bAdd, bAnd, bOr, bXor, bShr, uInv, bAndNot, aAdd, aOr, cEqN, cNeN, cEqS, cNeS, cEqC, cNeC, cEqB, cNeB, cLtN, cLeN, cGtN, cGeN, cIsN, cNsN, none_non, none_nat, none_cube, none_bl, none_str, none_tup, cIsB, cNsB, cInN, cEqNL, cNeNL, pr_sortL, cNiN, cInC, tr_bl, tr_non, tr_nat, tr_lst, tr_tup, ix_t0, ix_t1, ix_t2, ix_t3, ix_l0, ix_l1, ix_l2, ix_l3, ix_c0, ix_c1, pr_lenL, pr_lenT, pr_lenC, pr_lenD, pr_lenK, pr_tupL, pr_tupT, pr_lstL, pr_lstT, pr_lstC, pr_lstS, pr_intN, pr_intB, pr_sumN, pr_allB, pr_anyB, it_lst, it_tup, it_cov, sq_lst, sq_tup, sq_cov, fl_nat, fl_str, fl_bl, fl_non, fl_lst, fl_tup, fl_cube, fl_cover, fit0, fit1, fit2, fit3, fit4, end_none, end_nat, sl_lt, sl_lf, sl_tt, sl_tf, sl_ct, sl_cf, map_snoc, T_is_number, io_is_number, T_is_cube, io_is_cube, T_is_cover, io_is_cover, T_in_cube, io_in_cube, T_in_cover, io_in_cover, T_is_gate, io_is_gate, T_next_value, io_next_value, T_fights, io_fights, T_reads, io_reads, T__law_draws, io__law_draws, T__law_draw, io__law_draw, T__law_same, io__law_same, T__law_has, io__law_has, T__law_in, io__law_in, T__law_cube, io__law_cube, T__law_cover, io__law_cover, T__law_bits, io__law_bits, T__law_odd, io__law_odd, T__law_next, io__law_next, T__law_gate, io__law_gate, T__law_reads, io__law_reads, T__law_wrong, io__law_wrong, T_law, io_law, op_k_is_cover_0, rs_k_is_cover_0, op_k_in_cover_0, rs_k_in_cover_0, op_k__law_in_0, rs_k__law_in_0, op_k__law_cover_0, rs_k__law_cover_0, op_k__law_reads_2, rs_k__law_reads_2, q1]
    have t2 : turnF T (callF T m n) m (.nm 2) b_reads_1 (coverD b) [some (.sh (.tup [strD "hold", coverD a, coverD b])), some (.sh (natD (a.foldl (fun z c => z ||| c.1) 0))), some (.sh (coverD a)), y3, y4] = .val .nx [some (.sh (.tup [strD "hold", coverD a, coverD b])), some (.sh (natD (b.foldl (fun z c => z ||| c.1) (a.foldl (fun z c => z ||| c.1) 0)))), some (.sh (coverD b)), z3, z4] := by simp -implicitDefEqProofs only [b_reads_1, forN_nil, bindV, bind_ite, opt_some, es_nil', es_cons', then_nx, then_bk, then_ct, then_rt, es1_asg', es1_setx', es1_aug', es1_par', es1_app', es1_ext', es1_ex', es1_ret', op_var, rs_var, op_cst, rs_cst, op_tup, rs_tup, op_lst, rs_lst, op_bin, rs_bin, op_un, rs_un, op_nt, rs_nt, op_cmp, rs_cmp, op_cmp2, rs_cmp2, op_and, rs_and, op_or, rs_or, op_ife, rs_ife, op_ix, rs_ix, op_sl, rs_sl, op_rev, rs_rev, op_call, rs_call, op_prim, rs_prim, op_comp, rs_comp, op_pop, rs_pop, op_dnew, rs_dnew, op_get, rs_get, es1_ret0', es1_ite', es1_brk', es1_cnt', es1_pass', es1_for', es1_wh', ev_var', ev_cst', ev_tup', ev_lst', ev_bin', ev_un', ev_nt', ev_cmp', ev_cmp2', ev_and', ev_or', ev_ife', ev_ix', ev_sl', ev_rev', ev_call', ev_prim', ev_pop', ev_dnew', ev_get', ev_sset', ev_lset', op_sset, op_lset, rs_sset, rs_lset, evs_nil', evs_cons', evx_no', evx_yes', evt_tru', evt_and', evt_or', evt_nt', evt_e', evi_seq', evi_rng', evi_rng2', evi_enum', getB, setB, pk, tk, pks, tks, B.dat, asg_nm, asg_tp, asg_cube, asgN, onOwn, stillB, backB, wipeB, turnF, turnX, turnC, ite_caA, ite_caO, ite_rA, ite_cp, ite_blT, ite_blF, ite_bT, ite_bF, ite_rF, ite_rT, ite_caF, ite_caT, doCall, callArgs, backIn, frzIn, okSlots, slotsOf, List.all_cons, List.all_nil, List.nodup_cons, List.nodup_nil, List.not_mem_nil, not_false_eq_true, and_self, decide_true, List.contains_nil, List.contains_cons, beq_true, beq_false, Bool.true_beq, Bool.false_beq, decide_false, if_true, if_false, Bool.false_eq_true, Bool.and_true, Bool.true_and, Bool.and_false, Bool.false_and, Bool.or_true, Bool.true_or, Bool.or_false, Bool.false_or, Bool.not_true, Bool.not_false, beq_self_eq_true, Bool.not_not, reduceIte, Nat.reduceBEq, Nat.reduceLT, Nat.reduceLeDiff, Nat.reduceAdd, Nat.reducePow, reduceCtorEq, BEq.rfl, List.length_cons, List.length_nil, List.length_map, List.map_cons, List.map_nil, String.reduceBEq, Option.some.injEq, pi_dct_int, pi_dct_bool, pi_dct_str, pi_dct_tuple, pi_dct_list, pi_tup_int, pi_tup_bool, pi_tup_str, pi_tup_tuple, pi_tup_list, pi_lst_int, pi_lst_bool, pi_lst_str, pi_lst_tuple, pi_lst_list, pi_int_int, pi_int_bool, pi_int_str, pi_int_tuple, pi_int_list, pi_bl_int, pi_bl_bool, pi_bl_str, pi_bl_tuple, pi_bl_list, pi_str_int, pi_str_bool, pi_str_str, pi_str_tuple, pi_str_list, pi_non_int, pi_non_bool, pi_non_str, pi_non_tuple, pi_non_list, pi_nat_int, pi_nat_bool, pi_nat_str, pi_nat_tuple, pi_nat_list, pi_strd_int, pi_strd_bool, pi_strd_str, pi_strd_tuple, pi_strd_list, pi_cube_int, pi_cube_bool, pi_cube_str, pi_cube_tuple, pi_cube_list, pi_cover_int, pi_cover_bool, pi_cover_str, pi_cover_tuple, pi_cover_list, cover_mk, ← List.map_take, ← List.map_drop, it_cube, sq_cube, uNeg1, ltNeg, key_nat, get_n, ix_dn, Option.map_some, cube_mk, bAdd, bAnd, bOr, bXor, bShr, uInv, bAndNot, aAdd, aOr, cEqN, cNeN, cEqS, cNeS, cEqC, cNeC, cEqB, cNeB, cLtN, cLeN, cGtN, cGeN, cIsN, cNsN, none_non, none_nat, none_cube, none_bl, none_str, none_tup, cIsB, cNsB, cInN, cEqNL, cNeNL, pr_sortL, cNiN, cInC, tr_bl, tr_non, tr_nat, tr_lst, tr_tup, ix_t0, ix_t1, ix_t2, ix_t3, ix_l0, ix_l1, ix_l2, ix_l3, ix_c0, ix_c1, pr_lenL, pr_lenT, pr_lenC, pr_lenD, pr_lenK, pr_tupL, pr_tupT, pr_lstL, pr_lstT, pr_lstC, pr_lstS, pr_intN, pr_intB, pr_sumN, pr_allB, pr_anyB, it_lst, it_tup, it_cov, sq_lst, sq_tup, sq_cov, fl_nat, fl_str, fl_bl, fl_non, fl_lst, fl_tup, fl_cube, fl_cover, fit0, fit1, fit2, fit3, fit4, end_none, end_nat, sl_lt, sl_lf, sl_tt, sl_tf, sl_ct, sl_cf, map_snoc, T_is_number, io_is_number, T_is_cube, io_is_cube, T_is_cover, io_is_cover, T_in_cube, io_in_cube, T_in_cover, io_in_cover, T_is_gate, io_is_gate, T_next_value, io_next_value, T_fights, io_fights, T_reads, io_reads, T__law_draws, io__law_draws, T__law_draw, io__law_draw, T__law_same, io__law_same, T__law_has, io__law_has, T__law_in, io__law_in, T__law_cube, io__law_cube, T__law_cover, io__law_cover, T__law_bits, io__law_bits, T__law_odd, io__law_odd, T__law_next, io__law_next, T__law_gate, io__law_gate, T__law_reads, io__law_reads, T__law_wrong, io__law_wrong, T_law, io_law, op_k_is_cover_0, rs_k_is_cover_0, op_k_in_cover_0, rs_k_in_cover_0, op_k__law_in_0, rs_k__law_in_0, op_k__law_cover_0, rs_k__law_cover_0, op_k__law_reads_2, rs_k__law_reads_2, q2]
    have hf := (forN_cons (ds := [coverD b]) (.inl t1)).trans ((forN_cons (ds := []) (.inl t2)).trans forN_nil)
    have hd : List.drop 1 [strD "hold", coverD a, coverD b] = [coverD a, coverD b] := rfl
    simp -implicitDefEqProofs only [f_reads, List.map_cons, List.map_nil, List.cons_append, List.nil_append, List.replicate, Nat.sub_self, Nat.reduceSub, end_rt, end_nx, end_ite, outsOf, forN_nil, bindV, bind_ite, opt_some, es_nil', es_cons', then_nx, then_bk, then_ct, then_rt, es1_asg', es1_setx', es1_aug', es1_par', es1_app', es1_ext', es1_ex', es1_ret', op_var, rs_var, op_cst, rs_cst, op_tup, rs_tup, op_lst, rs_lst, op_bin, rs_bin, op_un, rs_un, op_nt, rs_nt, op_cmp, rs_cmp, op_cmp2, rs_cmp2, op_and, rs_and, op_or, rs_or, op_ife, rs_ife, op_ix, rs_ix, op_sl, rs_sl, op_rev, rs_rev, op_call, rs_call, op_prim, rs_prim, op_comp, rs_comp, op_pop, rs_pop, op_dnew, rs_dnew, op_get, rs_get, es1_ret0', es1_ite', es1_brk', es1_cnt', es1_pass', es1_for', es1_wh', ev_var', ev_cst', ev_tup', ev_lst', ev_bin', ev_un', ev_nt', ev_cmp', ev_cmp2', ev_and', ev_or', ev_ife', ev_ix', ev_sl', ev_rev', ev_call', ev_prim', ev_pop', ev_dnew', ev_get', ev_sset', ev_lset', op_sset, op_lset, rs_sset, rs_lset, evs_nil', evs_cons', evx_no', evx_yes', evt_tru', evt_and', evt_or', evt_nt', evt_e', evi_seq', evi_rng', evi_rng2', evi_enum', getB, setB, pk, tk, pks, tks, B.dat, asg_nm, asg_tp, asg_cube, asgN, onOwn, stillB, backB, wipeB, turnF, turnX, turnC, ite_caA, ite_caO, ite_rA, ite_cp, ite_blT, ite_blF, ite_bT, ite_bF, ite_rF, ite_rT, ite_caF, ite_caT, doCall, callArgs, backIn, frzIn, okSlots, slotsOf, List.all_cons, List.all_nil, List.nodup_cons, List.nodup_nil, List.not_mem_nil, not_false_eq_true, and_self, decide_true, List.contains_nil, List.contains_cons, beq_true, beq_false, Bool.true_beq, Bool.false_beq, decide_false, if_true, if_false, Bool.false_eq_true, Bool.and_true, Bool.true_and, Bool.and_false, Bool.false_and, Bool.or_true, Bool.true_or, Bool.or_false, Bool.false_or, Bool.not_true, Bool.not_false, beq_self_eq_true, Bool.not_not, reduceIte, Nat.reduceBEq, Nat.reduceLT, Nat.reduceLeDiff, Nat.reduceAdd, Nat.reducePow, reduceCtorEq, BEq.rfl, List.length_cons, List.length_nil, List.length_map, List.map_cons, List.map_nil, String.reduceBEq, Option.some.injEq, pi_dct_int, pi_dct_bool, pi_dct_str, pi_dct_tuple, pi_dct_list, pi_tup_int, pi_tup_bool, pi_tup_str, pi_tup_tuple, pi_tup_list, pi_lst_int, pi_lst_bool, pi_lst_str, pi_lst_tuple, pi_lst_list, pi_int_int, pi_int_bool, pi_int_str, pi_int_tuple, pi_int_list, pi_bl_int, pi_bl_bool, pi_bl_str, pi_bl_tuple, pi_bl_list, pi_str_int, pi_str_bool, pi_str_str, pi_str_tuple, pi_str_list, pi_non_int, pi_non_bool, pi_non_str, pi_non_tuple, pi_non_list, pi_nat_int, pi_nat_bool, pi_nat_str, pi_nat_tuple, pi_nat_list, pi_strd_int, pi_strd_bool, pi_strd_str, pi_strd_tuple, pi_strd_list, pi_cube_int, pi_cube_bool, pi_cube_str, pi_cube_tuple, pi_cube_list, pi_cover_int, pi_cover_bool, pi_cover_str, pi_cover_tuple, pi_cover_list, cover_mk, ← List.map_take, ← List.map_drop, it_cube, sq_cube, uNeg1, ltNeg, key_nat, get_n, ix_dn, Option.map_some, cube_mk, bAdd, bAnd, bOr, bXor, bShr, uInv, bAndNot, aAdd, aOr, cEqN, cNeN, cEqS, cNeS, cEqC, cNeC, cEqB, cNeB, cLtN, cLeN, cGtN, cGeN, cIsN, cNsN, none_non, none_nat, none_cube, none_bl, none_str, none_tup, cIsB, cNsB, cInN, cEqNL, cNeNL, pr_sortL, cNiN, cInC, tr_bl, tr_non, tr_nat, tr_lst, tr_tup, ix_t0, ix_t1, ix_t2, ix_t3, ix_l0, ix_l1, ix_l2, ix_l3, ix_c0, ix_c1, pr_lenL, pr_lenT, pr_lenC, pr_lenD, pr_lenK, pr_tupL, pr_tupT, pr_lstL, pr_lstT, pr_lstC, pr_lstS, pr_intN, pr_intB, pr_sumN, pr_allB, pr_anyB, it_lst, it_tup, it_cov, sq_lst, sq_tup, sq_cov, fl_nat, fl_str, fl_bl, fl_non, fl_lst, fl_tup, fl_cube, fl_cover, fit0, fit1, fit2, fit3, fit4, end_none, end_nat, sl_lt, sl_lf, sl_tt, sl_tf, sl_ct, sl_cf, map_snoc, T_is_number, io_is_number, T_is_cube, io_is_cube, T_is_cover, io_is_cover, T_in_cube, io_in_cube, T_in_cover, io_in_cover, T_is_gate, io_is_gate, T_next_value, io_next_value, T_fights, io_fights, T_reads, io_reads, T__law_draws, io__law_draws, T__law_draw, io__law_draw, T__law_same, io__law_same, T__law_has, io__law_has, T__law_in, io__law_in, T__law_cube, io__law_cube, T__law_cover, io__law_cover, T__law_bits, io__law_bits, T__law_odd, io__law_odd, T__law_next, io__law_next, T__law_gate, io__law_gate, T__law_reads, io__law_reads, T__law_wrong, io__law_wrong, T_law, io_law, op_k_is_cover_0, rs_k_is_cover_0, op_k_in_cover_0, rs_k_in_cover_0, op_k__law_in_0, rs_k__law_in_0, op_k__law_cover_0, rs_k__law_cover_0, op_k__law_reads_2, rs_k__law_reads_2, hs2, hd, hf]
  | pick u v =>
    obtain ⟨h1, h2⟩ := hg
    have e1 := bShl1 (v := u) (by omega)
    have e2 := bShl1 (v := v) (by omega)
    rw [gd_p, rd_p]
    simp -implicitDefEqProofs only [f_reads, List.map_cons, List.map_nil, List.cons_append, List.nil_append, List.replicate, Nat.sub_self, Nat.reduceSub, end_rt, end_nx, end_ite, outsOf, forN_nil, bindV, bind_ite, opt_some, es_nil', es_cons', then_nx, then_bk, then_ct, then_rt, es1_asg', es1_setx', es1_aug', es1_par', es1_app', es1_ext', es1_ex', es1_ret', op_var, rs_var, op_cst, rs_cst, op_tup, rs_tup, op_lst, rs_lst, op_bin, rs_bin, op_un, rs_un, op_nt, rs_nt, op_cmp, rs_cmp, op_cmp2, rs_cmp2, op_and, rs_and, op_or, rs_or, op_ife, rs_ife, op_ix, rs_ix, op_sl, rs_sl, op_rev, rs_rev, op_call, rs_call, op_prim, rs_prim, op_comp, rs_comp, op_pop, rs_pop, op_dnew, rs_dnew, op_get, rs_get, es1_ret0', es1_ite', es1_brk', es1_cnt', es1_pass', es1_for', es1_wh', ev_var', ev_cst', ev_tup', ev_lst', ev_bin', ev_un', ev_nt', ev_cmp', ev_cmp2', ev_and', ev_or', ev_ife', ev_ix', ev_sl', ev_rev', ev_call', ev_prim', ev_pop', ev_dnew', ev_get', ev_sset', ev_lset', op_sset, op_lset, rs_sset, rs_lset, evs_nil', evs_cons', evx_no', evx_yes', evt_tru', evt_and', evt_or', evt_nt', evt_e', evi_seq', evi_rng', evi_rng2', evi_enum', getB, setB, pk, tk, pks, tks, B.dat, asg_nm, asg_tp, asg_cube, asgN, onOwn, stillB, backB, wipeB, turnF, turnX, turnC, ite_caA, ite_caO, ite_rA, ite_cp, ite_blT, ite_blF, ite_bT, ite_bF, ite_rF, ite_rT, ite_caF, ite_caT, doCall, callArgs, backIn, frzIn, okSlots, slotsOf, List.all_cons, List.all_nil, List.nodup_cons, List.nodup_nil, List.not_mem_nil, not_false_eq_true, and_self, decide_true, List.contains_nil, List.contains_cons, beq_true, beq_false, Bool.true_beq, Bool.false_beq, decide_false, if_true, if_false, Bool.false_eq_true, Bool.and_true, Bool.true_and, Bool.and_false, Bool.false_and, Bool.or_true, Bool.true_or, Bool.or_false, Bool.false_or, Bool.not_true, Bool.not_false, beq_self_eq_true, Bool.not_not, reduceIte, Nat.reduceBEq, Nat.reduceLT, Nat.reduceLeDiff, Nat.reduceAdd, Nat.reducePow, reduceCtorEq, BEq.rfl, List.length_cons, List.length_nil, List.length_map, List.map_cons, List.map_nil, String.reduceBEq, Option.some.injEq, pi_dct_int, pi_dct_bool, pi_dct_str, pi_dct_tuple, pi_dct_list, pi_tup_int, pi_tup_bool, pi_tup_str, pi_tup_tuple, pi_tup_list, pi_lst_int, pi_lst_bool, pi_lst_str, pi_lst_tuple, pi_lst_list, pi_int_int, pi_int_bool, pi_int_str, pi_int_tuple, pi_int_list, pi_bl_int, pi_bl_bool, pi_bl_str, pi_bl_tuple, pi_bl_list, pi_str_int, pi_str_bool, pi_str_str, pi_str_tuple, pi_str_list, pi_non_int, pi_non_bool, pi_non_str, pi_non_tuple, pi_non_list, pi_nat_int, pi_nat_bool, pi_nat_str, pi_nat_tuple, pi_nat_list, pi_strd_int, pi_strd_bool, pi_strd_str, pi_strd_tuple, pi_strd_list, pi_cube_int, pi_cube_bool, pi_cube_str, pi_cube_tuple, pi_cube_list, pi_cover_int, pi_cover_bool, pi_cover_str, pi_cover_tuple, pi_cover_list, cover_mk, ← List.map_take, ← List.map_drop, it_cube, sq_cube, uNeg1, ltNeg, key_nat, get_n, ix_dn, Option.map_some, cube_mk, bAdd, bAnd, bOr, bXor, bShr, uInv, bAndNot, aAdd, aOr, cEqN, cNeN, cEqS, cNeS, cEqC, cNeC, cEqB, cNeB, cLtN, cLeN, cGtN, cGeN, cIsN, cNsN, none_non, none_nat, none_cube, none_bl, none_str, none_tup, cIsB, cNsB, cInN, cEqNL, cNeNL, pr_sortL, cNiN, cInC, tr_bl, tr_non, tr_nat, tr_lst, tr_tup, ix_t0, ix_t1, ix_t2, ix_t3, ix_l0, ix_l1, ix_l2, ix_l3, ix_c0, ix_c1, pr_lenL, pr_lenT, pr_lenC, pr_lenD, pr_lenK, pr_tupL, pr_tupT, pr_lstL, pr_lstT, pr_lstC, pr_lstS, pr_intN, pr_intB, pr_sumN, pr_allB, pr_anyB, it_lst, it_tup, it_cov, sq_lst, sq_tup, sq_cov, fl_nat, fl_str, fl_bl, fl_non, fl_lst, fl_tup, fl_cube, fl_cover, fit0, fit1, fit2, fit3, fit4, end_none, end_nat, sl_lt, sl_lf, sl_tt, sl_tf, sl_ct, sl_cf, map_snoc, T_is_number, io_is_number, T_is_cube, io_is_cube, T_is_cover, io_is_cover, T_in_cube, io_in_cube, T_in_cover, io_in_cover, T_is_gate, io_is_gate, T_next_value, io_next_value, T_fights, io_fights, T_reads, io_reads, T__law_draws, io__law_draws, T__law_draw, io__law_draw, T__law_same, io__law_same, T__law_has, io__law_has, T__law_in, io__law_in, T__law_cube, io__law_cube, T__law_cover, io__law_cover, T__law_bits, io__law_bits, T__law_odd, io__law_odd, T__law_next, io__law_next, T__law_gate, io__law_gate, T__law_reads, io__law_reads, T__law_wrong, io__law_wrong, T_law, io_law, op_k_is_cover_0, rs_k_is_cover_0, op_k_in_cover_0, rs_k_in_cover_0, op_k__law_in_0, rs_k__law_in_0, op_k__law_cover_0, rs_k__law_cover_0, op_k__law_reads_2, rs_k__law_reads_2, e1, e2]
  | sum a =>
    obtain ⟨y3, y4, q1⟩ := reads_in (m := m) (n := n) (some (.sh (gateD (.sum a)))) (some (.sh (coverD a))) a 0 none none
    rw [gd_s] at q1
    rw [gd_s, rd_s]
    have t1 : turnF T (callF T m n) m (.nm 2) b_reads_1 (coverD a) [some (.sh (.tup [strD "sum", coverD a])), some (.sh (natD 0)), none, none, none] = .val .nx [some (.sh (.tup [strD "sum", coverD a])), some (.sh (natD (a.foldl (fun z c => z ||| c.1) 0))), some (.sh (coverD a)), y3, y4] := by simp -implicitDefEqProofs only [b_reads_1, forN_nil, bindV, bind_ite, opt_some, es_nil', es_cons', then_nx, then_bk, then_ct, then_rt, es1_asg', es1_setx', es1_aug', es1_par', es1_app', es1_ext', es1_ex', es1_ret', op_var, rs_var, op_cst, rs_cst, op_tup, rs_tup, op_lst, rs_lst, op_bin, rs_bin, op_un, rs_un, op_nt, rs_nt, op_cmp, rs_cmp, op_cmp2, rs_cmp2, op_and, rs_and, op_or, rs_or, op_ife, rs_ife, op_ix, rs_ix, op_sl, rs_sl, op_rev, rs_rev, op_call, rs_call, op_prim, rs_prim, op_comp, rs_comp, op_pop, rs_pop, op_dnew, rs_dnew, op_get, rs_get, es1_ret0', es1_ite', es1_brk', es1_cnt', es1_pass', es1_for', es1_wh', ev_var', ev_cst', ev_tup', ev_lst', ev_bin', ev_un', ev_nt', ev_cmp', ev_cmp2', ev_and', ev_or', ev_ife', ev_ix', ev_sl', ev_rev', ev_call', ev_prim', ev_pop', ev_dnew', ev_get', ev_sset', ev_lset', op_sset, op_lset, rs_sset, rs_lset, evs_nil', evs_cons', evx_no', evx_yes', evt_tru', evt_and', evt_or', evt_nt', evt_e', evi_seq', evi_rng', evi_rng2', evi_enum', getB, setB, pk, tk, pks, tks, B.dat, asg_nm, asg_tp, asg_cube, asgN, onOwn, stillB, backB, wipeB, turnF, turnX, turnC, ite_caA, ite_caO, ite_rA, ite_cp, ite_blT, ite_blF, ite_bT, ite_bF, ite_rF, ite_rT, ite_caF, ite_caT, doCall, callArgs, backIn, frzIn, okSlots, slotsOf, List.all_cons, List.all_nil, List.nodup_cons, List.nodup_nil, List.not_mem_nil, not_false_eq_true, and_self, decide_true, List.contains_nil, List.contains_cons, beq_true, beq_false, Bool.true_beq, Bool.false_beq, decide_false, if_true, if_false, Bool.false_eq_true, Bool.and_true, Bool.true_and, Bool.and_false, Bool.false_and, Bool.or_true, Bool.true_or, Bool.or_false, Bool.false_or, Bool.not_true, Bool.not_false, beq_self_eq_true, Bool.not_not, reduceIte, Nat.reduceBEq, Nat.reduceLT, Nat.reduceLeDiff, Nat.reduceAdd, Nat.reducePow, reduceCtorEq, BEq.rfl, List.length_cons, List.length_nil, List.length_map, List.map_cons, List.map_nil, String.reduceBEq, Option.some.injEq, pi_dct_int, pi_dct_bool, pi_dct_str, pi_dct_tuple, pi_dct_list, pi_tup_int, pi_tup_bool, pi_tup_str, pi_tup_tuple, pi_tup_list, pi_lst_int, pi_lst_bool, pi_lst_str, pi_lst_tuple, pi_lst_list, pi_int_int, pi_int_bool, pi_int_str, pi_int_tuple, pi_int_list, pi_bl_int, pi_bl_bool, pi_bl_str, pi_bl_tuple, pi_bl_list, pi_str_int, pi_str_bool, pi_str_str, pi_str_tuple, pi_str_list, pi_non_int, pi_non_bool, pi_non_str, pi_non_tuple, pi_non_list, pi_nat_int, pi_nat_bool, pi_nat_str, pi_nat_tuple, pi_nat_list, pi_strd_int, pi_strd_bool, pi_strd_str, pi_strd_tuple, pi_strd_list, pi_cube_int, pi_cube_bool, pi_cube_str, pi_cube_tuple, pi_cube_list, pi_cover_int, pi_cover_bool, pi_cover_str, pi_cover_tuple, pi_cover_list, cover_mk, ← List.map_take, ← List.map_drop, it_cube, sq_cube, uNeg1, ltNeg, key_nat, get_n, ix_dn, Option.map_some, cube_mk, bAdd, bAnd, bOr, bXor, bShr, uInv, bAndNot, aAdd, aOr, cEqN, cNeN, cEqS, cNeS, cEqC, cNeC, cEqB, cNeB, cLtN, cLeN, cGtN, cGeN, cIsN, cNsN, none_non, none_nat, none_cube, none_bl, none_str, none_tup, cIsB, cNsB, cInN, cEqNL, cNeNL, pr_sortL, cNiN, cInC, tr_bl, tr_non, tr_nat, tr_lst, tr_tup, ix_t0, ix_t1, ix_t2, ix_t3, ix_l0, ix_l1, ix_l2, ix_l3, ix_c0, ix_c1, pr_lenL, pr_lenT, pr_lenC, pr_lenD, pr_lenK, pr_tupL, pr_tupT, pr_lstL, pr_lstT, pr_lstC, pr_lstS, pr_intN, pr_intB, pr_sumN, pr_allB, pr_anyB, it_lst, it_tup, it_cov, sq_lst, sq_tup, sq_cov, fl_nat, fl_str, fl_bl, fl_non, fl_lst, fl_tup, fl_cube, fl_cover, fit0, fit1, fit2, fit3, fit4, end_none, end_nat, sl_lt, sl_lf, sl_tt, sl_tf, sl_ct, sl_cf, map_snoc, T_is_number, io_is_number, T_is_cube, io_is_cube, T_is_cover, io_is_cover, T_in_cube, io_in_cube, T_in_cover, io_in_cover, T_is_gate, io_is_gate, T_next_value, io_next_value, T_fights, io_fights, T_reads, io_reads, T__law_draws, io__law_draws, T__law_draw, io__law_draw, T__law_same, io__law_same, T__law_has, io__law_has, T__law_in, io__law_in, T__law_cube, io__law_cube, T__law_cover, io__law_cover, T__law_bits, io__law_bits, T__law_odd, io__law_odd, T__law_next, io__law_next, T__law_gate, io__law_gate, T__law_reads, io__law_reads, T__law_wrong, io__law_wrong, T_law, io_law, op_k_is_cover_0, rs_k_is_cover_0, op_k_in_cover_0, rs_k_in_cover_0, op_k__law_in_0, rs_k__law_in_0, op_k__law_cover_0, rs_k__law_cover_0, op_k__law_reads_2, rs_k__law_reads_2, q1]
    have hf := (forN_cons (ds := []) (.inl t1)).trans forN_nil
    have hd : List.drop 1 [strD "sum", coverD a] = [coverD a] := rfl
    simp -implicitDefEqProofs only [f_reads, List.map_cons, List.map_nil, List.cons_append, List.nil_append, List.replicate, Nat.sub_self, Nat.reduceSub, end_rt, end_nx, end_ite, outsOf, forN_nil, bindV, bind_ite, opt_some, es_nil', es_cons', then_nx, then_bk, then_ct, then_rt, es1_asg', es1_setx', es1_aug', es1_par', es1_app', es1_ext', es1_ex', es1_ret', op_var, rs_var, op_cst, rs_cst, op_tup, rs_tup, op_lst, rs_lst, op_bin, rs_bin, op_un, rs_un, op_nt, rs_nt, op_cmp, rs_cmp, op_cmp2, rs_cmp2, op_and, rs_and, op_or, rs_or, op_ife, rs_ife, op_ix, rs_ix, op_sl, rs_sl, op_rev, rs_rev, op_call, rs_call, op_prim, rs_prim, op_comp, rs_comp, op_pop, rs_pop, op_dnew, rs_dnew, op_get, rs_get, es1_ret0', es1_ite', es1_brk', es1_cnt', es1_pass', es1_for', es1_wh', ev_var', ev_cst', ev_tup', ev_lst', ev_bin', ev_un', ev_nt', ev_cmp', ev_cmp2', ev_and', ev_or', ev_ife', ev_ix', ev_sl', ev_rev', ev_call', ev_prim', ev_pop', ev_dnew', ev_get', ev_sset', ev_lset', op_sset, op_lset, rs_sset, rs_lset, evs_nil', evs_cons', evx_no', evx_yes', evt_tru', evt_and', evt_or', evt_nt', evt_e', evi_seq', evi_rng', evi_rng2', evi_enum', getB, setB, pk, tk, pks, tks, B.dat, asg_nm, asg_tp, asg_cube, asgN, onOwn, stillB, backB, wipeB, turnF, turnX, turnC, ite_caA, ite_caO, ite_rA, ite_cp, ite_blT, ite_blF, ite_bT, ite_bF, ite_rF, ite_rT, ite_caF, ite_caT, doCall, callArgs, backIn, frzIn, okSlots, slotsOf, List.all_cons, List.all_nil, List.nodup_cons, List.nodup_nil, List.not_mem_nil, not_false_eq_true, and_self, decide_true, List.contains_nil, List.contains_cons, beq_true, beq_false, Bool.true_beq, Bool.false_beq, decide_false, if_true, if_false, Bool.false_eq_true, Bool.and_true, Bool.true_and, Bool.and_false, Bool.false_and, Bool.or_true, Bool.true_or, Bool.or_false, Bool.false_or, Bool.not_true, Bool.not_false, beq_self_eq_true, Bool.not_not, reduceIte, Nat.reduceBEq, Nat.reduceLT, Nat.reduceLeDiff, Nat.reduceAdd, Nat.reducePow, reduceCtorEq, BEq.rfl, List.length_cons, List.length_nil, List.length_map, List.map_cons, List.map_nil, String.reduceBEq, Option.some.injEq, pi_dct_int, pi_dct_bool, pi_dct_str, pi_dct_tuple, pi_dct_list, pi_tup_int, pi_tup_bool, pi_tup_str, pi_tup_tuple, pi_tup_list, pi_lst_int, pi_lst_bool, pi_lst_str, pi_lst_tuple, pi_lst_list, pi_int_int, pi_int_bool, pi_int_str, pi_int_tuple, pi_int_list, pi_bl_int, pi_bl_bool, pi_bl_str, pi_bl_tuple, pi_bl_list, pi_str_int, pi_str_bool, pi_str_str, pi_str_tuple, pi_str_list, pi_non_int, pi_non_bool, pi_non_str, pi_non_tuple, pi_non_list, pi_nat_int, pi_nat_bool, pi_nat_str, pi_nat_tuple, pi_nat_list, pi_strd_int, pi_strd_bool, pi_strd_str, pi_strd_tuple, pi_strd_list, pi_cube_int, pi_cube_bool, pi_cube_str, pi_cube_tuple, pi_cube_list, pi_cover_int, pi_cover_bool, pi_cover_str, pi_cover_tuple, pi_cover_list, cover_mk, ← List.map_take, ← List.map_drop, it_cube, sq_cube, uNeg1, ltNeg, key_nat, get_n, ix_dn, Option.map_some, cube_mk, bAdd, bAnd, bOr, bXor, bShr, uInv, bAndNot, aAdd, aOr, cEqN, cNeN, cEqS, cNeS, cEqC, cNeC, cEqB, cNeB, cLtN, cLeN, cGtN, cGeN, cIsN, cNsN, none_non, none_nat, none_cube, none_bl, none_str, none_tup, cIsB, cNsB, cInN, cEqNL, cNeNL, pr_sortL, cNiN, cInC, tr_bl, tr_non, tr_nat, tr_lst, tr_tup, ix_t0, ix_t1, ix_t2, ix_t3, ix_l0, ix_l1, ix_l2, ix_l3, ix_c0, ix_c1, pr_lenL, pr_lenT, pr_lenC, pr_lenD, pr_lenK, pr_tupL, pr_tupT, pr_lstL, pr_lstT, pr_lstC, pr_lstS, pr_intN, pr_intB, pr_sumN, pr_allB, pr_anyB, it_lst, it_tup, it_cov, sq_lst, sq_tup, sq_cov, fl_nat, fl_str, fl_bl, fl_non, fl_lst, fl_tup, fl_cube, fl_cover, fit0, fit1, fit2, fit3, fit4, end_none, end_nat, sl_lt, sl_lf, sl_tt, sl_tf, sl_ct, sl_cf, map_snoc, T_is_number, io_is_number, T_is_cube, io_is_cube, T_is_cover, io_is_cover, T_in_cube, io_in_cube, T_in_cover, io_in_cover, T_is_gate, io_is_gate, T_next_value, io_next_value, T_fights, io_fights, T_reads, io_reads, T__law_draws, io__law_draws, T__law_draw, io__law_draw, T__law_same, io__law_same, T__law_has, io__law_has, T__law_in, io__law_in, T__law_cube, io__law_cube, T__law_cover, io__law_cover, T__law_bits, io__law_bits, T__law_odd, io__law_odd, T__law_next, io__law_next, T__law_gate, io__law_gate, T__law_reads, io__law_reads, T__law_wrong, io__law_wrong, T_law, io_law, op_k_is_cover_0, rs_k_is_cover_0, op_k_in_cover_0, rs_k_in_cover_0, op_k__law_in_0, rs_k__law_in_0, op_k__law_cover_0, rs_k__law_cover_0, op_k__law_reads_2, rs_k__law_reads_2, hs6, hd, hf]
theorem gate_ok {N : Nat} (hN : 10 ≤ N) (s : St) {w : Nat} (w1 : 1 ≤ w) (w2 : w ≤ 7) : ∃ (g : G) (s' : St), callF T m N 19 [.io s.d, .sh (natD w)] = .ret false (gateD g) [.io s'.d, .sh (natD w)] ∧ GOk w g := by
  obtain ⟨n, rfl, hn⟩ := to_succ hN
  have hd1 := draw_ok (m := m) (N := n) (by omega) s 4 (by omega) (by omega)
  generalize s.s 4 = s1 at hd1
  generalize s.v 4 = v at hd1
  rw [callF_body T__law_gate rfl]
  by_cases h0 : v = 0
  · obtain ⟨a, s2, c2, pa, na⟩ := cover_ok (m := m) (N := n) (by omega) s1 (w := w) (most := 3) w1 (by omega) (by omega)
    obtain ⟨b, s3, c3, pb, nb⟩ := cover_ok (m := m) (N := n) (by omega) s2 (w := w) (most := 3) w1 (by omega) (by omega)
    refine ⟨.hold a b, s3, ?_, pa, pb, by omega, by omega⟩
    have hz : (v == 0) = true := by rw [h0]; rfl
    rw [gd_h]
    simp -implicitDefEqProofs only [f__law_gate, List.map_cons, List.map_nil, List.cons_append, List.nil_append, List.replicate, Nat.sub_self, Nat.reduceSub, end_rt, end_nx, end_ite, outsOf, forN_nil, bindV, bind_ite, opt_some, es_nil', es_cons', then_nx, then_bk, then_ct, then_rt, es1_asg', es1_setx', es1_aug', es1_par', es1_app', es1_ext', es1_ex', es1_ret', op_var, rs_var, op_cst, rs_cst, op_tup, rs_tup, op_lst, rs_lst, op_bin, rs_bin, op_un, rs_un, op_nt, rs_nt, op_cmp, rs_cmp, op_cmp2, rs_cmp2, op_and, rs_and, op_or, rs_or, op_ife, rs_ife, op_ix, rs_ix, op_sl, rs_sl, op_rev, rs_rev, op_call, rs_call, op_prim, rs_prim, op_comp, rs_comp, op_pop, rs_pop, op_dnew, rs_dnew, op_get, rs_get, es1_ret0', es1_ite', es1_brk', es1_cnt', es1_pass', es1_for', es1_wh', ev_var', ev_cst', ev_tup', ev_lst', ev_bin', ev_un', ev_nt', ev_cmp', ev_cmp2', ev_and', ev_or', ev_ife', ev_ix', ev_sl', ev_rev', ev_call', ev_prim', ev_pop', ev_dnew', ev_get', ev_sset', ev_lset', op_sset, op_lset, rs_sset, rs_lset, evs_nil', evs_cons', evx_no', evx_yes', evt_tru', evt_and', evt_or', evt_nt', evt_e', evi_seq', evi_rng', evi_rng2', evi_enum', getB, setB, pk, tk, pks, tks, B.dat, asg_nm, asg_tp, asg_cube, asgN, onOwn, stillB, backB, wipeB, turnF, turnX, turnC, ite_caA, ite_caO, ite_rA, ite_cp, ite_blT, ite_blF, ite_bT, ite_bF, ite_rF, ite_rT, ite_caF, ite_caT, doCall, callArgs, backIn, frzIn, okSlots, slotsOf, List.all_cons, List.all_nil, List.nodup_cons, List.nodup_nil, List.not_mem_nil, not_false_eq_true, and_self, decide_true, List.contains_nil, List.contains_cons, beq_true, beq_false, Bool.true_beq, Bool.false_beq, decide_false, if_true, if_false, Bool.false_eq_true, Bool.and_true, Bool.true_and, Bool.and_false, Bool.false_and, Bool.or_true, Bool.true_or, Bool.or_false, Bool.false_or, Bool.not_true, Bool.not_false, beq_self_eq_true, Bool.not_not, reduceIte, Nat.reduceBEq, Nat.reduceLT, Nat.reduceLeDiff, Nat.reduceAdd, Nat.reducePow, reduceCtorEq, BEq.rfl, List.length_cons, List.length_nil, List.length_map, List.map_cons, List.map_nil, String.reduceBEq, Option.some.injEq, pi_dct_int, pi_dct_bool, pi_dct_str, pi_dct_tuple, pi_dct_list, pi_tup_int, pi_tup_bool, pi_tup_str, pi_tup_tuple, pi_tup_list, pi_lst_int, pi_lst_bool, pi_lst_str, pi_lst_tuple, pi_lst_list, pi_int_int, pi_int_bool, pi_int_str, pi_int_tuple, pi_int_list, pi_bl_int, pi_bl_bool, pi_bl_str, pi_bl_tuple, pi_bl_list, pi_str_int, pi_str_bool, pi_str_str, pi_str_tuple, pi_str_list, pi_non_int, pi_non_bool, pi_non_str, pi_non_tuple, pi_non_list, pi_nat_int, pi_nat_bool, pi_nat_str, pi_nat_tuple, pi_nat_list, pi_strd_int, pi_strd_bool, pi_strd_str, pi_strd_tuple, pi_strd_list, pi_cube_int, pi_cube_bool, pi_cube_str, pi_cube_tuple, pi_cube_list, pi_cover_int, pi_cover_bool, pi_cover_str, pi_cover_tuple, pi_cover_list, cover_mk, ← List.map_take, ← List.map_drop, it_cube, sq_cube, uNeg1, ltNeg, key_nat, get_n, ix_dn, Option.map_some, cube_mk, bAdd, bAnd, bOr, bXor, bShr, uInv, bAndNot, aAdd, aOr, cEqN, cNeN, cEqS, cNeS, cEqC, cNeC, cEqB, cNeB, cLtN, cLeN, cGtN, cGeN, cIsN, cNsN, none_non, none_nat, none_cube, none_bl, none_str, none_tup, cIsB, cNsB, cInN, cEqNL, cNeNL, pr_sortL, cNiN, cInC, tr_bl, tr_non, tr_nat, tr_lst, tr_tup, ix_t0, ix_t1, ix_t2, ix_t3, ix_l0, ix_l1, ix_l2, ix_l3, ix_c0, ix_c1, pr_lenL, pr_lenT, pr_lenC, pr_lenD, pr_lenK, pr_tupL, pr_tupT, pr_lstL, pr_lstT, pr_lstC, pr_lstS, pr_intN, pr_intB, pr_sumN, pr_allB, pr_anyB, it_lst, it_tup, it_cov, sq_lst, sq_tup, sq_cov, fl_nat, fl_str, fl_bl, fl_non, fl_lst, fl_tup, fl_cube, fl_cover, fit0, fit1, fit2, fit3, fit4, end_none, end_nat, sl_lt, sl_lf, sl_tt, sl_tf, sl_ct, sl_cf, map_snoc, T_is_number, io_is_number, T_is_cube, io_is_cube, T_is_cover, io_is_cover, T_in_cube, io_in_cube, T_in_cover, io_in_cover, T_is_gate, io_is_gate, T_next_value, io_next_value, T_fights, io_fights, T_reads, io_reads, T__law_draws, io__law_draws, T__law_draw, io__law_draw, T__law_same, io__law_same, T__law_has, io__law_has, T__law_in, io__law_in, T__law_cube, io__law_cube, T__law_cover, io__law_cover, T__law_bits, io__law_bits, T__law_odd, io__law_odd, T__law_next, io__law_next, T__law_gate, io__law_gate, T__law_reads, io__law_reads, T__law_wrong, io__law_wrong, T_law, io_law, op_k_is_cover_0, rs_k_is_cover_0, op_k_in_cover_0, rs_k_in_cover_0, op_k__law_in_0, rs_k__law_in_0, op_k__law_cover_0, rs_k__law_cover_0, op_k__law_reads_2, rs_k__law_reads_2, hd1, hz, c2, c3]
  have hz : (v == 0) = false := beqP h0
  by_cases h1 : v = 1
  · have hd2 := draw_ok (m := m) (N := n) (by omega) s1 w (by omega) (by omega)
    have hv2 := v_lt s1 (l := w) (by omega)
    generalize s1.s w = s2 at hd2
    generalize s1.v w = a at hd2 hv2
    have hd3 := draw_ok (m := m) (N := n) (by omega) s2 w (by omega) (by omega)
    have hv3 := v_lt s2 (l := w) (by omega)
    generalize s2.s w = s3 at hd3
    generalize s2.v w = b at hd3 hv3
    refine ⟨.pick a b, s3, ?_, hv2, hv3⟩
    have hy : (v == 1) = true := by rw [h1]; rfl
    rw [gd_p]
    simp -implicitDefEqProofs only [f__law_gate, List.map_cons, List.map_nil, List.cons_append, List.nil_append, List.replicate, Nat.sub_self, Nat.reduceSub, end_rt, end_nx, end_ite, outsOf, forN_nil, bindV, bind_ite, opt_some, es_nil', es_cons', then_nx, then_bk, then_ct, then_rt, es1_asg', es1_setx', es1_aug', es1_par', es1_app', es1_ext', es1_ex', es1_ret', op_var, rs_var, op_cst, rs_cst, op_tup, rs_tup, op_lst, rs_lst, op_bin, rs_bin, op_un, rs_un, op_nt, rs_nt, op_cmp, rs_cmp, op_cmp2, rs_cmp2, op_and, rs_and, op_or, rs_or, op_ife, rs_ife, op_ix, rs_ix, op_sl, rs_sl, op_rev, rs_rev, op_call, rs_call, op_prim, rs_prim, op_comp, rs_comp, op_pop, rs_pop, op_dnew, rs_dnew, op_get, rs_get, es1_ret0', es1_ite', es1_brk', es1_cnt', es1_pass', es1_for', es1_wh', ev_var', ev_cst', ev_tup', ev_lst', ev_bin', ev_un', ev_nt', ev_cmp', ev_cmp2', ev_and', ev_or', ev_ife', ev_ix', ev_sl', ev_rev', ev_call', ev_prim', ev_pop', ev_dnew', ev_get', ev_sset', ev_lset', op_sset, op_lset, rs_sset, rs_lset, evs_nil', evs_cons', evx_no', evx_yes', evt_tru', evt_and', evt_or', evt_nt', evt_e', evi_seq', evi_rng', evi_rng2', evi_enum', getB, setB, pk, tk, pks, tks, B.dat, asg_nm, asg_tp, asg_cube, asgN, onOwn, stillB, backB, wipeB, turnF, turnX, turnC, ite_caA, ite_caO, ite_rA, ite_cp, ite_blT, ite_blF, ite_bT, ite_bF, ite_rF, ite_rT, ite_caF, ite_caT, doCall, callArgs, backIn, frzIn, okSlots, slotsOf, List.all_cons, List.all_nil, List.nodup_cons, List.nodup_nil, List.not_mem_nil, not_false_eq_true, and_self, decide_true, List.contains_nil, List.contains_cons, beq_true, beq_false, Bool.true_beq, Bool.false_beq, decide_false, if_true, if_false, Bool.false_eq_true, Bool.and_true, Bool.true_and, Bool.and_false, Bool.false_and, Bool.or_true, Bool.true_or, Bool.or_false, Bool.false_or, Bool.not_true, Bool.not_false, beq_self_eq_true, Bool.not_not, reduceIte, Nat.reduceBEq, Nat.reduceLT, Nat.reduceLeDiff, Nat.reduceAdd, Nat.reducePow, reduceCtorEq, BEq.rfl, List.length_cons, List.length_nil, List.length_map, List.map_cons, List.map_nil, String.reduceBEq, Option.some.injEq, pi_dct_int, pi_dct_bool, pi_dct_str, pi_dct_tuple, pi_dct_list, pi_tup_int, pi_tup_bool, pi_tup_str, pi_tup_tuple, pi_tup_list, pi_lst_int, pi_lst_bool, pi_lst_str, pi_lst_tuple, pi_lst_list, pi_int_int, pi_int_bool, pi_int_str, pi_int_tuple, pi_int_list, pi_bl_int, pi_bl_bool, pi_bl_str, pi_bl_tuple, pi_bl_list, pi_str_int, pi_str_bool, pi_str_str, pi_str_tuple, pi_str_list, pi_non_int, pi_non_bool, pi_non_str, pi_non_tuple, pi_non_list, pi_nat_int, pi_nat_bool, pi_nat_str, pi_nat_tuple, pi_nat_list, pi_strd_int, pi_strd_bool, pi_strd_str, pi_strd_tuple, pi_strd_list, pi_cube_int, pi_cube_bool, pi_cube_str, pi_cube_tuple, pi_cube_list, pi_cover_int, pi_cover_bool, pi_cover_str, pi_cover_tuple, pi_cover_list, cover_mk, ← List.map_take, ← List.map_drop, it_cube, sq_cube, uNeg1, ltNeg, key_nat, get_n, ix_dn, Option.map_some, cube_mk, bAdd, bAnd, bOr, bXor, bShr, uInv, bAndNot, aAdd, aOr, cEqN, cNeN, cEqS, cNeS, cEqC, cNeC, cEqB, cNeB, cLtN, cLeN, cGtN, cGeN, cIsN, cNsN, none_non, none_nat, none_cube, none_bl, none_str, none_tup, cIsB, cNsB, cInN, cEqNL, cNeNL, pr_sortL, cNiN, cInC, tr_bl, tr_non, tr_nat, tr_lst, tr_tup, ix_t0, ix_t1, ix_t2, ix_t3, ix_l0, ix_l1, ix_l2, ix_l3, ix_c0, ix_c1, pr_lenL, pr_lenT, pr_lenC, pr_lenD, pr_lenK, pr_tupL, pr_tupT, pr_lstL, pr_lstT, pr_lstC, pr_lstS, pr_intN, pr_intB, pr_sumN, pr_allB, pr_anyB, it_lst, it_tup, it_cov, sq_lst, sq_tup, sq_cov, fl_nat, fl_str, fl_bl, fl_non, fl_lst, fl_tup, fl_cube, fl_cover, fit0, fit1, fit2, fit3, fit4, end_none, end_nat, sl_lt, sl_lf, sl_tt, sl_tf, sl_ct, sl_cf, map_snoc, T_is_number, io_is_number, T_is_cube, io_is_cube, T_is_cover, io_is_cover, T_in_cube, io_in_cube, T_in_cover, io_in_cover, T_is_gate, io_is_gate, T_next_value, io_next_value, T_fights, io_fights, T_reads, io_reads, T__law_draws, io__law_draws, T__law_draw, io__law_draw, T__law_same, io__law_same, T__law_has, io__law_has, T__law_in, io__law_in, T__law_cube, io__law_cube, T__law_cover, io__law_cover, T__law_bits, io__law_bits, T__law_odd, io__law_odd, T__law_next, io__law_next, T__law_gate, io__law_gate, T__law_reads, io__law_reads, T__law_wrong, io__law_wrong, T_law, io_law, op_k_is_cover_0, rs_k_is_cover_0, op_k_in_cover_0, rs_k_in_cover_0, op_k__law_in_0, rs_k__law_in_0, op_k__law_cover_0, rs_k__law_cover_0, op_k__law_reads_2, rs_k__law_reads_2, hd1, hz, hy, hd2, hd3]
  · have hy : (v == 1) = false := beqP h1
    obtain ⟨a, s2, c2, pa, na⟩ := cover_ok (m := m) (N := n) (by omega) s1 (w := w) (most := 4) w1 (by omega) (by omega)
    refine ⟨.sum a, s2, ?_, pa, by omega⟩
    rw [gd_s]
    simp -implicitDefEqProofs only [f__law_gate, List.map_cons, List.map_nil, List.cons_append, List.nil_append, List.replicate, Nat.sub_self, Nat.reduceSub, end_rt, end_nx, end_ite, outsOf, forN_nil, bindV, bind_ite, opt_some, es_nil', es_cons', then_nx, then_bk, then_ct, then_rt, es1_asg', es1_setx', es1_aug', es1_par', es1_app', es1_ext', es1_ex', es1_ret', op_var, rs_var, op_cst, rs_cst, op_tup, rs_tup, op_lst, rs_lst, op_bin, rs_bin, op_un, rs_un, op_nt, rs_nt, op_cmp, rs_cmp, op_cmp2, rs_cmp2, op_and, rs_and, op_or, rs_or, op_ife, rs_ife, op_ix, rs_ix, op_sl, rs_sl, op_rev, rs_rev, op_call, rs_call, op_prim, rs_prim, op_comp, rs_comp, op_pop, rs_pop, op_dnew, rs_dnew, op_get, rs_get, es1_ret0', es1_ite', es1_brk', es1_cnt', es1_pass', es1_for', es1_wh', ev_var', ev_cst', ev_tup', ev_lst', ev_bin', ev_un', ev_nt', ev_cmp', ev_cmp2', ev_and', ev_or', ev_ife', ev_ix', ev_sl', ev_rev', ev_call', ev_prim', ev_pop', ev_dnew', ev_get', ev_sset', ev_lset', op_sset, op_lset, rs_sset, rs_lset, evs_nil', evs_cons', evx_no', evx_yes', evt_tru', evt_and', evt_or', evt_nt', evt_e', evi_seq', evi_rng', evi_rng2', evi_enum', getB, setB, pk, tk, pks, tks, B.dat, asg_nm, asg_tp, asg_cube, asgN, onOwn, stillB, backB, wipeB, turnF, turnX, turnC, ite_caA, ite_caO, ite_rA, ite_cp, ite_blT, ite_blF, ite_bT, ite_bF, ite_rF, ite_rT, ite_caF, ite_caT, doCall, callArgs, backIn, frzIn, okSlots, slotsOf, List.all_cons, List.all_nil, List.nodup_cons, List.nodup_nil, List.not_mem_nil, not_false_eq_true, and_self, decide_true, List.contains_nil, List.contains_cons, beq_true, beq_false, Bool.true_beq, Bool.false_beq, decide_false, if_true, if_false, Bool.false_eq_true, Bool.and_true, Bool.true_and, Bool.and_false, Bool.false_and, Bool.or_true, Bool.true_or, Bool.or_false, Bool.false_or, Bool.not_true, Bool.not_false, beq_self_eq_true, Bool.not_not, reduceIte, Nat.reduceBEq, Nat.reduceLT, Nat.reduceLeDiff, Nat.reduceAdd, Nat.reducePow, reduceCtorEq, BEq.rfl, List.length_cons, List.length_nil, List.length_map, List.map_cons, List.map_nil, String.reduceBEq, Option.some.injEq, pi_dct_int, pi_dct_bool, pi_dct_str, pi_dct_tuple, pi_dct_list, pi_tup_int, pi_tup_bool, pi_tup_str, pi_tup_tuple, pi_tup_list, pi_lst_int, pi_lst_bool, pi_lst_str, pi_lst_tuple, pi_lst_list, pi_int_int, pi_int_bool, pi_int_str, pi_int_tuple, pi_int_list, pi_bl_int, pi_bl_bool, pi_bl_str, pi_bl_tuple, pi_bl_list, pi_str_int, pi_str_bool, pi_str_str, pi_str_tuple, pi_str_list, pi_non_int, pi_non_bool, pi_non_str, pi_non_tuple, pi_non_list, pi_nat_int, pi_nat_bool, pi_nat_str, pi_nat_tuple, pi_nat_list, pi_strd_int, pi_strd_bool, pi_strd_str, pi_strd_tuple, pi_strd_list, pi_cube_int, pi_cube_bool, pi_cube_str, pi_cube_tuple, pi_cube_list, pi_cover_int, pi_cover_bool, pi_cover_str, pi_cover_tuple, pi_cover_list, cover_mk, ← List.map_take, ← List.map_drop, it_cube, sq_cube, uNeg1, ltNeg, key_nat, get_n, ix_dn, Option.map_some, cube_mk, bAdd, bAnd, bOr, bXor, bShr, uInv, bAndNot, aAdd, aOr, cEqN, cNeN, cEqS, cNeS, cEqC, cNeC, cEqB, cNeB, cLtN, cLeN, cGtN, cGeN, cIsN, cNsN, none_non, none_nat, none_cube, none_bl, none_str, none_tup, cIsB, cNsB, cInN, cEqNL, cNeNL, pr_sortL, cNiN, cInC, tr_bl, tr_non, tr_nat, tr_lst, tr_tup, ix_t0, ix_t1, ix_t2, ix_t3, ix_l0, ix_l1, ix_l2, ix_l3, ix_c0, ix_c1, pr_lenL, pr_lenT, pr_lenC, pr_lenD, pr_lenK, pr_tupL, pr_tupT, pr_lstL, pr_lstT, pr_lstC, pr_lstS, pr_intN, pr_intB, pr_sumN, pr_allB, pr_anyB, it_lst, it_tup, it_cov, sq_lst, sq_tup, sq_cov, fl_nat, fl_str, fl_bl, fl_non, fl_lst, fl_tup, fl_cube, fl_cover, fit0, fit1, fit2, fit3, fit4, end_none, end_nat, sl_lt, sl_lf, sl_tt, sl_tf, sl_ct, sl_cf, map_snoc, T_is_number, io_is_number, T_is_cube, io_is_cube, T_is_cover, io_is_cover, T_in_cube, io_in_cube, T_in_cover, io_in_cover, T_is_gate, io_is_gate, T_next_value, io_next_value, T_fights, io_fights, T_reads, io_reads, T__law_draws, io__law_draws, T__law_draw, io__law_draw, T__law_same, io__law_same, T__law_has, io__law_has, T__law_in, io__law_in, T__law_cube, io__law_cube, T__law_cover, io__law_cover, T__law_bits, io__law_bits, T__law_odd, io__law_odd, T__law_next, io__law_next, T__law_gate, io__law_gate, T__law_reads, io__law_reads, T__law_wrong, io__law_wrong, T_law, io_law, op_k_is_cover_0, rs_k_is_cover_0, op_k_in_cover_0, rs_k_in_cover_0, op_k__law_in_0, rs_k__law_in_0, op_k__law_cover_0, rs_k__law_cover_0, op_k__law_reads_2, rs_k__law_reads_2, hd1, hz, hy, c2]
theorem sum_pows : ∀ (w v : Nat), v < 2 ^ w → ((bitsL w v).map fun i => 2 ^ i).sum = v
  | 0, v, h => by simp at h; subst h; rfl
  | w + 1, v, h => by
    have hb : bitsL w v = bitsL w (v % 2 ^ w) := List.filter_congr fun i hi => by
      rw [Nat.testBit_mod_two_pow, decide_eq_true (List.mem_range.mp hi), Bool.true_and]
    have ih := sum_pows w (v % 2 ^ w) (Nat.mod_lt _ (pow2_pos w))
    have hd := Nat.div_add_mod v (2 ^ w)
    have hlt : v / 2 ^ w < 2 := Nat.div_lt_of_lt_mul (by rw [Nat.pow_succ] at h; omega)
    have ht : v.testBit w = decide (v / 2 ^ w = 1) := by
      rw [Nat.testBit_eq_decide_div_mod_eq, Nat.mod_eq_of_lt hlt]
    rw [bits_step, ht, hb]
    by_cases q : v / 2 ^ w = 1
    · rw [q] at hd ⊢
      rw [if_pos (by simp), List.map_append, List.sum_append, ih]
      simp
      omega
    · have q0 : v / 2 ^ w = 0 := by
        generalize v / 2 ^ w = z at hlt q
        omega
      rw [if_neg (by simpa using q), ih]
      rw [q0] at hd
      omega
/-- the wires that the law notes -/
def notes (ws : List Nat) (cs : List (Nat × Nat)) : List Nat := cs.foldl (fun z c => z ++ bitsL 7 c.1) ws
theorem notes_mem : ∀ (cs : List (Nat × Nat)) (ws : List Nat) (i : Nat), i ∈ notes ws cs ↔ i ∈ ws ∨ ∃ c ∈ cs, i < 7 ∧ c.1.testBit i = true
  | [], ws, i => by simp [notes]
  | c :: cs, ws, i => by
    have h := notes_mem cs (ws ++ bitsL 7 c.1) i
    have e : notes ws (c :: cs) = notes (ws ++ bitsL 7 c.1) cs := rfl
    rw [e, h, List.mem_append, bits_mem]
    simp only [List.mem_cons, exists_eq_or_imp, or_assoc]
theorem notes_len : ∀ (cs : List (Nat × Nat)) (ws : List Nat), (notes ws cs).length ≤ ws.length + 7 * cs.length
  | [], ws => by simp [notes]
  | c :: cs, ws => by
    have h := notes_len cs (ws ++ bitsL 7 c.1)
    have e : notes ws (c :: cs) = notes (ws ++ bitsL 7 c.1) cs := rfl
    have := bits_len 7 c.1
    rw [e]
    rw [List.length_append] at h
    rw [List.length_cons]
    omega
theorem cares_bit : ∀ (cs : List (Nat × Nat)) (z i : Nat), (cs.foldl (fun z c => z ||| c.1) z).testBit i = true ↔ z.testBit i = true ∨ ∃ c ∈ cs, c.1.testBit i = true
  | [], z, i => by simp
  | c :: cs, z, i => by
    rw [List.foldl_cons, cares_bit cs, Nat.testBit_or, Bool.or_eq_true]
    simp only [List.mem_cons, exists_eq_or_imp, or_assoc]
theorem wires_in {n : Nat} (hn : 2 ≤ n) (hm : 1000 ≤ m) (d0 x2 x4 x5 : Option B) : ∀ (cs : List (Nat × Nat)) (ws : List Nat) (x3 : Option B), (∀ c ∈ cs, c.1 < 2 ^ 7) → ws.length + 7 * cs.length ≤ 1000 →
    ∃ y3, forN (turnF T (callF T m n) m (.nm 3) b__law_reads_0) (cs.map cubeD) [d0, some (.ow (.lst (ws.map natD))), x2, x3, x4, x5] = .val .nx [d0, some (.ow (.lst ((notes ws cs).map natD))), x2, y3, x4, x5]
  | [], ws, x3, _, _ => ⟨x3, rfl⟩
  | c :: cs, ws, x3, hc, hl => by
    rw [List.length_cons] at hl
    have hb := _law_bits_ok (m := m) (N := n) (by omega) hm (w := 7) (by omega) c.1 (hc c (by simp))
    have hbl := bits_len 7 c.1
    have hadd : binD .Add (.lst (ws.map natD)) (.lst ((bitsL 7 c.1).map natD)) = some (true, .lst ((ws ++ bitsL 7 c.1).map natD)) := addLm (by omega)
    have step : turnF T (callF T m n) m (.nm 3) b__law_reads_0 (cubeD c) [d0, some (.ow (.lst (ws.map natD))), x2, x3, x4, x5] = .val .nx [d0, some (.ow (.lst ((ws ++ bitsL 7 c.1).map natD))), x2, some (.sh (cubeD c)), x4, x5] := by
      simp -implicitDefEqProofs only [b__law_reads_0, forN_nil, bindV, bind_ite, opt_some, es_nil', es_cons', then_nx, then_bk, then_ct, then_rt, es1_asg', es1_setx', es1_aug', es1_par', es1_app', es1_ext', es1_ex', es1_ret', op_var, rs_var, op_cst, rs_cst, op_tup, rs_tup, op_lst, rs_lst, op_bin, rs_bin, op_un, rs_un, op_nt, rs_nt, op_cmp, rs_cmp, op_cmp2, rs_cmp2, op_and, rs_and, op_or, rs_or, op_ife, rs_ife, op_ix, rs_ix, op_sl, rs_sl, op_rev, rs_rev, op_call, rs_call, op_prim, rs_prim, op_comp, rs_comp, op_pop, rs_pop, op_dnew, rs_dnew, op_get, rs_get, es1_ret0', es1_ite', es1_brk', es1_cnt', es1_pass', es1_for', es1_wh', ev_var', ev_cst', ev_tup', ev_lst', ev_bin', ev_un', ev_nt', ev_cmp', ev_cmp2', ev_and', ev_or', ev_ife', ev_ix', ev_sl', ev_rev', ev_call', ev_prim', ev_pop', ev_dnew', ev_get', ev_sset', ev_lset', op_sset, op_lset, rs_sset, rs_lset, evs_nil', evs_cons', evx_no', evx_yes', evt_tru', evt_and', evt_or', evt_nt', evt_e', evi_seq', evi_rng', evi_rng2', evi_enum', getB, setB, pk, tk, pks, tks, B.dat, asg_nm, asg_tp, asg_cube, asgN, onOwn, stillB, backB, wipeB, turnF, turnX, turnC, ite_caA, ite_caO, ite_rA, ite_cp, ite_blT, ite_blF, ite_bT, ite_bF, ite_rF, ite_rT, ite_caF, ite_caT, doCall, callArgs, backIn, frzIn, okSlots, slotsOf, List.all_cons, List.all_nil, List.nodup_cons, List.nodup_nil, List.not_mem_nil, not_false_eq_true, and_self, decide_true, List.contains_nil, List.contains_cons, beq_true, beq_false, Bool.true_beq, Bool.false_beq, decide_false, if_true, if_false, Bool.false_eq_true, Bool.and_true, Bool.true_and, Bool.and_false, Bool.false_and, Bool.or_true, Bool.true_or, Bool.or_false, Bool.false_or, Bool.not_true, Bool.not_false, beq_self_eq_true, Bool.not_not, reduceIte, Nat.reduceBEq, Nat.reduceLT, Nat.reduceLeDiff, Nat.reduceAdd, Nat.reducePow, reduceCtorEq, BEq.rfl, List.length_cons, List.length_nil, List.length_map, List.map_cons, List.map_nil, String.reduceBEq, Option.some.injEq, pi_dct_int, pi_dct_bool, pi_dct_str, pi_dct_tuple, pi_dct_list, pi_tup_int, pi_tup_bool, pi_tup_str, pi_tup_tuple, pi_tup_list, pi_lst_int, pi_lst_bool, pi_lst_str, pi_lst_tuple, pi_lst_list, pi_int_int, pi_int_bool, pi_int_str, pi_int_tuple, pi_int_list, pi_bl_int, pi_bl_bool, pi_bl_str, pi_bl_tuple, pi_bl_list, pi_str_int, pi_str_bool, pi_str_str, pi_str_tuple, pi_str_list, pi_non_int, pi_non_bool, pi_non_str, pi_non_tuple, pi_non_list, pi_nat_int, pi_nat_bool, pi_nat_str, pi_nat_tuple, pi_nat_list, pi_strd_int, pi_strd_bool, pi_strd_str, pi_strd_tuple, pi_strd_list, pi_cube_int, pi_cube_bool, pi_cube_str, pi_cube_tuple, pi_cube_list, pi_cover_int, pi_cover_bool, pi_cover_str, pi_cover_tuple, pi_cover_list, cover_mk, ← List.map_take, ← List.map_drop, it_cube, sq_cube, uNeg1, ltNeg, key_nat, get_n, ix_dn, Option.map_some, cube_mk, bAdd, bAnd, bOr, bXor, bShr, uInv, bAndNot, aAdd, aOr, cEqN, cNeN, cEqS, cNeS, cEqC, cNeC, cEqB, cNeB, cLtN, cLeN, cGtN, cGeN, cIsN, cNsN, none_non, none_nat, none_cube, none_bl, none_str, none_tup, cIsB, cNsB, cInN, cEqNL, cNeNL, pr_sortL, cNiN, cInC, tr_bl, tr_non, tr_nat, tr_lst, tr_tup, ix_t0, ix_t1, ix_t2, ix_t3, ix_l0, ix_l1, ix_l2, ix_l3, ix_c0, ix_c1, pr_lenL, pr_lenT, pr_lenC, pr_lenD, pr_lenK, pr_tupL, pr_tupT, pr_lstL, pr_lstT, pr_lstC, pr_lstS, pr_intN, pr_intB, pr_sumN, pr_allB, pr_anyB, it_lst, it_tup, it_cov, sq_lst, sq_tup, sq_cov, fl_nat, fl_str, fl_bl, fl_non, fl_lst, fl_tup, fl_cube, fl_cover, fit0, fit1, fit2, fit3, fit4, end_none, end_nat, sl_lt, sl_lf, sl_tt, sl_tf, sl_ct, sl_cf, map_snoc, T_is_number, io_is_number, T_is_cube, io_is_cube, T_is_cover, io_is_cover, T_in_cube, io_in_cube, T_in_cover, io_in_cover, T_is_gate, io_is_gate, T_next_value, io_next_value, T_fights, io_fights, T_reads, io_reads, T__law_draws, io__law_draws, T__law_draw, io__law_draw, T__law_same, io__law_same, T__law_has, io__law_has, T__law_in, io__law_in, T__law_cube, io__law_cube, T__law_cover, io__law_cover, T__law_bits, io__law_bits, T__law_odd, io__law_odd, T__law_next, io__law_next, T__law_gate, io__law_gate, T__law_reads, io__law_reads, T__law_wrong, io__law_wrong, T_law, io_law, op_k_is_cover_0, rs_k_is_cover_0, op_k_in_cover_0, rs_k_in_cover_0, op_k__law_in_0, rs_k__law_in_0, op_k__law_cover_0, rs_k__law_cover_0, op_k__law_reads_2, rs_k__law_reads_2, hb, hadd]
    obtain ⟨y3, q⟩ := wires_in (n := n) hn hm d0 x2 x4 x5 cs (ws ++ bitsL 7 c.1) (some (.sh (cubeD c))) (fun o ho => hc o (by simp [ho])) (by rw [List.length_append]; omega)
    exact ⟨y3, by rw [List.map_cons, forN_cons (.inl step), q]; rfl⟩
theorem fm_fm0 {α β : Type} {p : α → Bool} {f : α → β} : ∀ l : List α, l.filterMap (fun x => if p x = true then some (f x) else none) = (l.filter p).map f
  | [] => rfl
  | y :: l => by
    rw [List.filterMap_cons, List.filter_cons, fm_fm0 l]
    cases p y <;> rfl
theorem bits_of {ws : List Nat} {v : Nat} (h : ∀ i, i < 40 → (i ∈ ws ↔ v.testBit i = true)) : (List.range 40).filter (fun i => ws.contains i) = bitsL 40 v :=
  List.filter_congr fun i hi => by
    rw [Bool.eq_iff_iff, List.contains_iff_mem]
    exact h i (List.mem_range.mp hi)
theorem sum_part {n : Nat} (d0 x2 x3 : Option B) (ws : List Nat) {v : Nat} (hv : v < 2 ^ 40) (h : ∀ i, i < 40 → (i ∈ ws ↔ v.testBit i = true)) :
    ∃ l : List Nat, ev T (callF T m n) k__law_reads_2 [d0, some (.ow (.lst (ws.map natD))), x2, x3, none, none] = .val (true, .lst (l.map natD)) [d0, some (.ow (.lst (ws.map natD))), x2, x3, none, none] ∧ l.sum = v := by
  have hr := fun e => rng_nat (n := 40) (e := e) (by omega)
  have e1 : (List.range 40).filterMap (fun x => if ws.contains x = true then some (natD (2 ^ x)) else none) = ((bitsL 40 v).map fun i => 2 ^ i).map natD := by
    rw [fm_fm0 (p := fun x => ws.contains x) (f := fun x => natD (2 ^ x)), bits_of h, List.map_map]; rfl
  have hbl := bits_len 40 v
  refine ⟨(bitsL 40 v).map fun i => 2 ^ i, ?_, sum_pows 40 v hv⟩
  rw [← e1]
  exact comp_pure natD (fun x => if ws.contains x = true then some (natD (2 ^ x)) else none) ⟨_, _, _, _, _, rfl⟩ (by simp -implicitDefEqProofs only [k__law_reads_2, compIt, forN_nil, bindV, bind_ite, opt_some, es_nil', es_cons', then_nx, then_bk, then_ct, then_rt, es1_asg', es1_setx', es1_aug', es1_par', es1_app', es1_ext', es1_ex', es1_ret', op_var, rs_var, op_cst, rs_cst, op_tup, rs_tup, op_lst, rs_lst, op_bin, rs_bin, op_un, rs_un, op_nt, rs_nt, op_cmp, rs_cmp, op_cmp2, rs_cmp2, op_and, rs_and, op_or, rs_or, op_ife, rs_ife, op_ix, rs_ix, op_sl, rs_sl, op_rev, rs_rev, op_call, rs_call, op_prim, rs_prim, op_comp, rs_comp, op_pop, rs_pop, op_dnew, rs_dnew, op_get, rs_get, es1_ret0', es1_ite', es1_brk', es1_cnt', es1_pass', es1_for', es1_wh', ev_var', ev_cst', ev_tup', ev_lst', ev_bin', ev_un', ev_nt', ev_cmp', ev_cmp2', ev_and', ev_or', ev_ife', ev_ix', ev_sl', ev_rev', ev_call', ev_prim', ev_pop', ev_dnew', ev_get', ev_sset', ev_lset', op_sset, op_lset, rs_sset, rs_lset, evs_nil', evs_cons', evx_no', evx_yes', evt_tru', evt_and', evt_or', evt_nt', evt_e', evi_seq', evi_rng', evi_rng2', evi_enum', getB, setB, pk, tk, pks, tks, B.dat, asg_nm, asg_tp, asg_cube, asgN, onOwn, stillB, backB, wipeB, turnF, turnX, turnC, ite_caA, ite_caO, ite_rA, ite_cp, ite_blT, ite_blF, ite_bT, ite_bF, ite_rF, ite_rT, ite_caF, ite_caT, doCall, callArgs, backIn, frzIn, okSlots, slotsOf, List.all_cons, List.all_nil, List.nodup_cons, List.nodup_nil, List.not_mem_nil, not_false_eq_true, and_self, decide_true, List.contains_nil, List.contains_cons, beq_true, beq_false, Bool.true_beq, Bool.false_beq, decide_false, if_true, if_false, Bool.false_eq_true, Bool.and_true, Bool.true_and, Bool.and_false, Bool.false_and, Bool.or_true, Bool.true_or, Bool.or_false, Bool.false_or, Bool.not_true, Bool.not_false, beq_self_eq_true, Bool.not_not, reduceIte, Nat.reduceBEq, Nat.reduceLT, Nat.reduceLeDiff, Nat.reduceAdd, Nat.reducePow, reduceCtorEq, BEq.rfl, List.length_cons, List.length_nil, List.length_map, List.map_cons, List.map_nil, String.reduceBEq, Option.some.injEq, pi_dct_int, pi_dct_bool, pi_dct_str, pi_dct_tuple, pi_dct_list, pi_tup_int, pi_tup_bool, pi_tup_str, pi_tup_tuple, pi_tup_list, pi_lst_int, pi_lst_bool, pi_lst_str, pi_lst_tuple, pi_lst_list, pi_int_int, pi_int_bool, pi_int_str, pi_int_tuple, pi_int_list, pi_bl_int, pi_bl_bool, pi_bl_str, pi_bl_tuple, pi_bl_list, pi_str_int, pi_str_bool, pi_str_str, pi_str_tuple, pi_str_list, pi_non_int, pi_non_bool, pi_non_str, pi_non_tuple, pi_non_list, pi_nat_int, pi_nat_bool, pi_nat_str, pi_nat_tuple, pi_nat_list, pi_strd_int, pi_strd_bool, pi_strd_str, pi_strd_tuple, pi_strd_list, pi_cube_int, pi_cube_bool, pi_cube_str, pi_cube_tuple, pi_cube_list, pi_cover_int, pi_cover_bool, pi_cover_str, pi_cover_tuple, pi_cover_list, cover_mk, ← List.map_take, ← List.map_drop, it_cube, sq_cube, uNeg1, ltNeg, key_nat, get_n, ix_dn, Option.map_some, cube_mk, bAdd, bAnd, bOr, bXor, bShr, uInv, bAndNot, aAdd, aOr, cEqN, cNeN, cEqS, cNeS, cEqC, cNeC, cEqB, cNeB, cLtN, cLeN, cGtN, cGeN, cIsN, cNsN, none_non, none_nat, none_cube, none_bl, none_str, none_tup, cIsB, cNsB, cInN, cEqNL, cNeNL, pr_sortL, cNiN, cInC, tr_bl, tr_non, tr_nat, tr_lst, tr_tup, ix_t0, ix_t1, ix_t2, ix_t3, ix_l0, ix_l1, ix_l2, ix_l3, ix_c0, ix_c1, pr_lenL, pr_lenT, pr_lenC, pr_lenD, pr_lenK, pr_tupL, pr_tupT, pr_lstL, pr_lstT, pr_lstC, pr_lstS, pr_intN, pr_intB, pr_sumN, pr_allB, pr_anyB, it_lst, it_tup, it_cov, sq_lst, sq_tup, sq_cov, fl_nat, fl_str, fl_bl, fl_non, fl_lst, fl_tup, fl_cube, fl_cover, fit0, fit1, fit2, fit3, fit4, end_none, end_nat, sl_lt, sl_lf, sl_tt, sl_tf, sl_ct, sl_cf, map_snoc, T_is_number, io_is_number, T_is_cube, io_is_cube, T_is_cover, io_is_cover, T_in_cube, io_in_cube, T_in_cover, io_in_cover, T_is_gate, io_is_gate, T_next_value, io_next_value, T_fights, io_fights, T_reads, io_reads, T__law_draws, io__law_draws, T__law_draw, io__law_draw, T__law_same, io__law_same, T__law_has, io__law_has, T__law_in, io__law_in, T__law_cube, io__law_cube, T__law_cover, io__law_cover, T__law_bits, io__law_bits, T__law_odd, io__law_odd, T__law_next, io__law_next, T__law_gate, io__law_gate, T__law_reads, io__law_reads, T__law_wrong, io__law_wrong, T_law, io_law, op_k_is_cover_0, rs_k_is_cover_0, op_k_in_cover_0, rs_k_in_cover_0, op_k__law_in_0, rs_k__law_in_0, op_k__law_cover_0, rs_k__law_cover_0, op_k__law_reads_2, rs_k__law_reads_2, hr]) rfl (fun y hy => by
    have hs := bShl1 (v := y) (by have := List.mem_range.mp hy; omega)
    cases hq : ws.contains y <;> simp -implicitDefEqProofs only [k__law_reads_2, forN_nil, bindV, bind_ite, opt_some, es_nil', es_cons', then_nx, then_bk, then_ct, then_rt, es1_asg', es1_setx', es1_aug', es1_par', es1_app', es1_ext', es1_ex', es1_ret', op_var, rs_var, op_cst, rs_cst, op_tup, rs_tup, op_lst, rs_lst, op_bin, rs_bin, op_un, rs_un, op_nt, rs_nt, op_cmp, rs_cmp, op_cmp2, rs_cmp2, op_and, rs_and, op_or, rs_or, op_ife, rs_ife, op_ix, rs_ix, op_sl, rs_sl, op_rev, rs_rev, op_call, rs_call, op_prim, rs_prim, op_comp, rs_comp, op_pop, rs_pop, op_dnew, rs_dnew, op_get, rs_get, es1_ret0', es1_ite', es1_brk', es1_cnt', es1_pass', es1_for', es1_wh', ev_var', ev_cst', ev_tup', ev_lst', ev_bin', ev_un', ev_nt', ev_cmp', ev_cmp2', ev_and', ev_or', ev_ife', ev_ix', ev_sl', ev_rev', ev_call', ev_prim', ev_pop', ev_dnew', ev_get', ev_sset', ev_lset', op_sset, op_lset, rs_sset, rs_lset, evs_nil', evs_cons', evx_no', evx_yes', evt_tru', evt_and', evt_or', evt_nt', evt_e', evi_seq', evi_rng', evi_rng2', evi_enum', getB, setB, pk, tk, pks, tks, B.dat, asg_nm, asg_tp, asg_cube, asgN, onOwn, stillB, backB, wipeB, turnF, turnX, turnC, ite_caA, ite_caO, ite_rA, ite_cp, ite_blT, ite_blF, ite_bT, ite_bF, ite_rF, ite_rT, ite_caF, ite_caT, doCall, callArgs, backIn, frzIn, okSlots, slotsOf, List.all_cons, List.all_nil, List.nodup_cons, List.nodup_nil, List.not_mem_nil, not_false_eq_true, and_self, decide_true, List.contains_nil, List.contains_cons, beq_true, beq_false, Bool.true_beq, Bool.false_beq, decide_false, if_true, if_false, Bool.false_eq_true, Bool.and_true, Bool.true_and, Bool.and_false, Bool.false_and, Bool.or_true, Bool.true_or, Bool.or_false, Bool.false_or, Bool.not_true, Bool.not_false, beq_self_eq_true, Bool.not_not, reduceIte, Nat.reduceBEq, Nat.reduceLT, Nat.reduceLeDiff, Nat.reduceAdd, Nat.reducePow, reduceCtorEq, BEq.rfl, List.length_cons, List.length_nil, List.length_map, List.map_cons, List.map_nil, String.reduceBEq, Option.some.injEq, pi_dct_int, pi_dct_bool, pi_dct_str, pi_dct_tuple, pi_dct_list, pi_tup_int, pi_tup_bool, pi_tup_str, pi_tup_tuple, pi_tup_list, pi_lst_int, pi_lst_bool, pi_lst_str, pi_lst_tuple, pi_lst_list, pi_int_int, pi_int_bool, pi_int_str, pi_int_tuple, pi_int_list, pi_bl_int, pi_bl_bool, pi_bl_str, pi_bl_tuple, pi_bl_list, pi_str_int, pi_str_bool, pi_str_str, pi_str_tuple, pi_str_list, pi_non_int, pi_non_bool, pi_non_str, pi_non_tuple, pi_non_list, pi_nat_int, pi_nat_bool, pi_nat_str, pi_nat_tuple, pi_nat_list, pi_strd_int, pi_strd_bool, pi_strd_str, pi_strd_tuple, pi_strd_list, pi_cube_int, pi_cube_bool, pi_cube_str, pi_cube_tuple, pi_cube_list, pi_cover_int, pi_cover_bool, pi_cover_str, pi_cover_tuple, pi_cover_list, cover_mk, ← List.map_take, ← List.map_drop, it_cube, sq_cube, uNeg1, ltNeg, key_nat, get_n, ix_dn, Option.map_some, cube_mk, bAdd, bAnd, bOr, bXor, bShr, uInv, bAndNot, aAdd, aOr, cEqN, cNeN, cEqS, cNeS, cEqC, cNeC, cEqB, cNeB, cLtN, cLeN, cGtN, cGeN, cIsN, cNsN, none_non, none_nat, none_cube, none_bl, none_str, none_tup, cIsB, cNsB, cInN, cEqNL, cNeNL, pr_sortL, cNiN, cInC, tr_bl, tr_non, tr_nat, tr_lst, tr_tup, ix_t0, ix_t1, ix_t2, ix_t3, ix_l0, ix_l1, ix_l2, ix_l3, ix_c0, ix_c1, pr_lenL, pr_lenT, pr_lenC, pr_lenD, pr_lenK, pr_tupL, pr_tupT, pr_lstL, pr_lstT, pr_lstC, pr_lstS, pr_intN, pr_intB, pr_sumN, pr_allB, pr_anyB, it_lst, it_tup, it_cov, sq_lst, sq_tup, sq_cov, fl_nat, fl_str, fl_bl, fl_non, fl_lst, fl_tup, fl_cube, fl_cover, fit0, fit1, fit2, fit3, fit4, end_none, end_nat, sl_lt, sl_lf, sl_tt, sl_tf, sl_ct, sl_cf, map_snoc, T_is_number, io_is_number, T_is_cube, io_is_cube, T_is_cover, io_is_cover, T_in_cube, io_in_cube, T_in_cover, io_in_cover, T_is_gate, io_is_gate, T_next_value, io_next_value, T_fights, io_fights, T_reads, io_reads, T__law_draws, io__law_draws, T__law_draw, io__law_draw, T__law_same, io__law_same, T__law_has, io__law_has, T__law_in, io__law_in, T__law_cube, io__law_cube, T__law_cover, io__law_cover, T__law_bits, io__law_bits, T__law_odd, io__law_odd, T__law_next, io__law_next, T__law_gate, io__law_gate, T__law_reads, io__law_reads, T__law_wrong, io__law_wrong, T_law, io_law, op_k_is_cover_0, rs_k_is_cover_0, op_k_in_cover_0, rs_k_in_cover_0, op_k__law_in_0, rs_k__law_in_0, op_k__law_cover_0, rs_k__law_cover_0, op_k__law_reads_2, rs_k__law_reads_2, hq, hs]) (by rw [e1, List.length_map, List.length_map]; omega)
theorem cu_lt {w : Nat} (hw : w ≤ 7) {c : Nat × Nat} (h : Cu w c) : c.1 < 2 ^ 7 := Nat.lt_of_lt_of_le h.1 (Nat.pow_le_pow_right (by omega) hw)
theorem cares_lt (cs : List (Nat × Nat)) (z : Nat) (hz : z < 2 ^ 7) (h : ∀ c ∈ cs, c.1 < 2 ^ 7) : cs.foldl (fun z c => z ||| c.1) z < 2 ^ 7 := lt_of_bits fun i hi => by
  rcases (cares_bit cs z i).mp hi with q | ⟨c, hc, q⟩
  · exact bit_lt hz q
  · exact bit_lt (h c hc) q
theorem reads_lt {w : Nat} (hw : w ≤ 7) {g : G} (hg : GOk w g) : readsN g < 2 ^ 7 := by
  cases g with
  | hold a b => exact cares_lt b _ (cares_lt a 0 (by decide) fun c hc => cu_lt hw (hg.1 c hc)) fun c hc => cu_lt hw (hg.2.1 c hc)
  | pick u v => exact Nat.or_lt_two_pow (Nat.pow_lt_pow_right (by omega) (by have := hg.1; omega)) (Nat.pow_lt_pow_right (by omega) (by have := hg.2; omega))
  | sum a => exact cares_lt a 0 (by decide) fun c hc => cu_lt hw (hg.1 c hc)
theorem ex_lt {cs : List (Nat × Nat)} (h : ∀ c ∈ cs, c.1 < 2 ^ 7) (i : Nat) : (∃ c ∈ cs, i < 7 ∧ c.1.testBit i = true) ↔ ∃ c ∈ cs, c.1.testBit i = true :=
  ⟨fun ⟨c, hc, _, q⟩ => ⟨c, hc, q⟩, fun ⟨c, hc, q⟩ => ⟨c, hc, bit_lt (h c hc) q, q⟩⟩
theorem law_reads_ok {N : Nat} (hN : 3 ≤ N) (hm : 1000 ≤ m) {w : Nat} (hw : w ≤ 7) {g : G} (hg : GOk w g) : callF T m N 20 [.sh (gateD g)] = .ret false (natD (readsN g)) [.sh (gateD g)] := by
  obtain ⟨n, rfl, hn⟩ := to_succ hN
  have hlt : readsN g < 2 ^ 40 := Nat.lt_of_lt_of_le (reads_lt hw hg) (by decide)
  rw [callF_body T__law_reads rfl]
  cases g with
  | hold a b =>
    obtain ⟨h1, h2, h3, h4⟩ := hg
    have ha : ∀ c ∈ a, c.1 < 2 ^ 7 := fun c hc => cu_lt hw (h1 c hc)
    have hb : ∀ c ∈ b, c.1 < 2 ^ 7 := fun c hc => cu_lt hw (h2 c hc)
    have n1 := notes_len a []
    rw [List.length_nil] at n1
    obtain ⟨y3, q1⟩ := wires_in (m := m) (n := n) (by omega) hm (some (.sh (gateD (.hold a b)))) (some (.sh (coverD a))) none none a [] none ha (by rw [List.length_nil]; omega)
    obtain ⟨z3, q2⟩ := wires_in (m := m) (n := n) (by omega) hm (some (.sh (gateD (.hold a b)))) (some (.sh (coverD b))) none none b (notes [] a) y3 hb (by omega)
    obtain ⟨l, k1, k2⟩ := sum_part (m := m) (n := n) (some (.sh (gateD (.hold a b)))) (some (.sh (coverD b))) z3 (notes (notes [] a) b) hlt (fun i _ => by
      rw [notes_mem, notes_mem, rd_h, cares_bit, cares_bit, ex_lt ha, ex_lt hb]; simp)
    simp only [List.map_nil] at q1
    rw [gd_h] at q1 q2 k1
    rw [rd_h] at k2
    rw [gd_h, rd_h]
    have t1 : turnF T (callF T m n) m (.nm 2) b__law_reads_1 (coverD a) [some (.sh (.tup [strD "hold", coverD a, coverD b])), some (.ow (.lst [])), none, none, none, none] = .val .nx [some (.sh (.tup [strD "hold", coverD a, coverD b])), some (.ow (.lst ((notes [] a).map natD))), some (.sh (coverD a)), y3, none, none] := by simp -implicitDefEqProofs only [b__law_reads_1, forN_nil, bindV, bind_ite, opt_some, es_nil', es_cons', then_nx, then_bk, then_ct, then_rt, es1_asg', es1_setx', es1_aug', es1_par', es1_app', es1_ext', es1_ex', es1_ret', op_var, rs_var, op_cst, rs_cst, op_tup, rs_tup, op_lst, rs_lst, op_bin, rs_bin, op_un, rs_un, op_nt, rs_nt, op_cmp, rs_cmp, op_cmp2, rs_cmp2, op_and, rs_and, op_or, rs_or, op_ife, rs_ife, op_ix, rs_ix, op_sl, rs_sl, op_rev, rs_rev, op_call, rs_call, op_prim, rs_prim, op_comp, rs_comp, op_pop, rs_pop, op_dnew, rs_dnew, op_get, rs_get, es1_ret0', es1_ite', es1_brk', es1_cnt', es1_pass', es1_for', es1_wh', ev_var', ev_cst', ev_tup', ev_lst', ev_bin', ev_un', ev_nt', ev_cmp', ev_cmp2', ev_and', ev_or', ev_ife', ev_ix', ev_sl', ev_rev', ev_call', ev_prim', ev_pop', ev_dnew', ev_get', ev_sset', ev_lset', op_sset, op_lset, rs_sset, rs_lset, evs_nil', evs_cons', evx_no', evx_yes', evt_tru', evt_and', evt_or', evt_nt', evt_e', evi_seq', evi_rng', evi_rng2', evi_enum', getB, setB, pk, tk, pks, tks, B.dat, asg_nm, asg_tp, asg_cube, asgN, onOwn, stillB, backB, wipeB, turnF, turnX, turnC, ite_caA, ite_caO, ite_rA, ite_cp, ite_blT, ite_blF, ite_bT, ite_bF, ite_rF, ite_rT, ite_caF, ite_caT, doCall, callArgs, backIn, frzIn, okSlots, slotsOf, List.all_cons, List.all_nil, List.nodup_cons, List.nodup_nil, List.not_mem_nil, not_false_eq_true, and_self, decide_true, List.contains_nil, List.contains_cons, beq_true, beq_false, Bool.true_beq, Bool.false_beq, decide_false, if_true, if_false, Bool.false_eq_true, Bool.and_true, Bool.true_and, Bool.and_false, Bool.false_and, Bool.or_true, Bool.true_or, Bool.or_false, Bool.false_or, Bool.not_true, Bool.not_false, beq_self_eq_true, Bool.not_not, reduceIte, Nat.reduceBEq, Nat.reduceLT, Nat.reduceLeDiff, Nat.reduceAdd, Nat.reducePow, reduceCtorEq, BEq.rfl, List.length_cons, List.length_nil, List.length_map, List.map_cons, List.map_nil, String.reduceBEq, Option.some.injEq, pi_dct_int, pi_dct_bool, pi_dct_str, pi_dct_tuple, pi_dct_list, pi_tup_int, pi_tup_bool, pi_tup_str, pi_tup_tuple, pi_tup_list, pi_lst_int, pi_lst_bool, pi_lst_str, pi_lst_tuple, pi_lst_list, pi_int_int, pi_int_bool, pi_int_str, pi_int_tuple, pi_int_list, pi_bl_int, pi_bl_bool, pi_bl_str, pi_bl_tuple, pi_bl_list, pi_str_int, pi_str_bool, pi_str_str, pi_str_tuple, pi_str_list, pi_non_int, pi_non_bool, pi_non_str, pi_non_tuple, pi_non_list, pi_nat_int, pi_nat_bool, pi_nat_str, pi_nat_tuple, pi_nat_list, pi_strd_int, pi_strd_bool, pi_strd_str, pi_strd_tuple, pi_strd_list, pi_cube_int, pi_cube_bool, pi_cube_str, pi_cube_tuple, pi_cube_list, pi_cover_int, pi_cover_bool, pi_cover_str, pi_cover_tuple, pi_cover_list, cover_mk, ← List.map_take, ← List.map_drop, it_cube, sq_cube, uNeg1, ltNeg, key_nat, get_n, ix_dn, Option.map_some, cube_mk, bAdd, bAnd, bOr, bXor, bShr, uInv, bAndNot, aAdd, aOr, cEqN, cNeN, cEqS, cNeS, cEqC, cNeC, cEqB, cNeB, cLtN, cLeN, cGtN, cGeN, cIsN, cNsN, none_non, none_nat, none_cube, none_bl, none_str, none_tup, cIsB, cNsB, cInN, cEqNL, cNeNL, pr_sortL, cNiN, cInC, tr_bl, tr_non, tr_nat, tr_lst, tr_tup, ix_t0, ix_t1, ix_t2, ix_t3, ix_l0, ix_l1, ix_l2, ix_l3, ix_c0, ix_c1, pr_lenL, pr_lenT, pr_lenC, pr_lenD, pr_lenK, pr_tupL, pr_tupT, pr_lstL, pr_lstT, pr_lstC, pr_lstS, pr_intN, pr_intB, pr_sumN, pr_allB, pr_anyB, it_lst, it_tup, it_cov, sq_lst, sq_tup, sq_cov, fl_nat, fl_str, fl_bl, fl_non, fl_lst, fl_tup, fl_cube, fl_cover, fit0, fit1, fit2, fit3, fit4, end_none, end_nat, sl_lt, sl_lf, sl_tt, sl_tf, sl_ct, sl_cf, map_snoc, T_is_number, io_is_number, T_is_cube, io_is_cube, T_is_cover, io_is_cover, T_in_cube, io_in_cube, T_in_cover, io_in_cover, T_is_gate, io_is_gate, T_next_value, io_next_value, T_fights, io_fights, T_reads, io_reads, T__law_draws, io__law_draws, T__law_draw, io__law_draw, T__law_same, io__law_same, T__law_has, io__law_has, T__law_in, io__law_in, T__law_cube, io__law_cube, T__law_cover, io__law_cover, T__law_bits, io__law_bits, T__law_odd, io__law_odd, T__law_next, io__law_next, T__law_gate, io__law_gate, T__law_reads, io__law_reads, T__law_wrong, io__law_wrong, T_law, io_law, op_k_is_cover_0, rs_k_is_cover_0, op_k_in_cover_0, rs_k_in_cover_0, op_k__law_in_0, rs_k__law_in_0, op_k__law_cover_0, rs_k__law_cover_0, op_k__law_reads_2, rs_k__law_reads_2, q1]
    have t2 : turnF T (callF T m n) m (.nm 2) b__law_reads_1 (coverD b) [some (.sh (.tup [strD "hold", coverD a, coverD b])), some (.ow (.lst ((notes [] a).map natD))), some (.sh (coverD a)), y3, none, none] = .val .nx [some (.sh (.tup [strD "hold", coverD a, coverD b])), some (.ow (.lst ((notes (notes [] a) b).map natD))), some (.sh (coverD b)), z3, none, none] := by simp -implicitDefEqProofs only [b__law_reads_1, forN_nil, bindV, bind_ite, opt_some, es_nil', es_cons', then_nx, then_bk, then_ct, then_rt, es1_asg', es1_setx', es1_aug', es1_par', es1_app', es1_ext', es1_ex', es1_ret', op_var, rs_var, op_cst, rs_cst, op_tup, rs_tup, op_lst, rs_lst, op_bin, rs_bin, op_un, rs_un, op_nt, rs_nt, op_cmp, rs_cmp, op_cmp2, rs_cmp2, op_and, rs_and, op_or, rs_or, op_ife, rs_ife, op_ix, rs_ix, op_sl, rs_sl, op_rev, rs_rev, op_call, rs_call, op_prim, rs_prim, op_comp, rs_comp, op_pop, rs_pop, op_dnew, rs_dnew, op_get, rs_get, es1_ret0', es1_ite', es1_brk', es1_cnt', es1_pass', es1_for', es1_wh', ev_var', ev_cst', ev_tup', ev_lst', ev_bin', ev_un', ev_nt', ev_cmp', ev_cmp2', ev_and', ev_or', ev_ife', ev_ix', ev_sl', ev_rev', ev_call', ev_prim', ev_pop', ev_dnew', ev_get', ev_sset', ev_lset', op_sset, op_lset, rs_sset, rs_lset, evs_nil', evs_cons', evx_no', evx_yes', evt_tru', evt_and', evt_or', evt_nt', evt_e', evi_seq', evi_rng', evi_rng2', evi_enum', getB, setB, pk, tk, pks, tks, B.dat, asg_nm, asg_tp, asg_cube, asgN, onOwn, stillB, backB, wipeB, turnF, turnX, turnC, ite_caA, ite_caO, ite_rA, ite_cp, ite_blT, ite_blF, ite_bT, ite_bF, ite_rF, ite_rT, ite_caF, ite_caT, doCall, callArgs, backIn, frzIn, okSlots, slotsOf, List.all_cons, List.all_nil, List.nodup_cons, List.nodup_nil, List.not_mem_nil, not_false_eq_true, and_self, decide_true, List.contains_nil, List.contains_cons, beq_true, beq_false, Bool.true_beq, Bool.false_beq, decide_false, if_true, if_false, Bool.false_eq_true, Bool.and_true, Bool.true_and, Bool.and_false, Bool.false_and, Bool.or_true, Bool.true_or, Bool.or_false, Bool.false_or, Bool.not_true, Bool.not_false, beq_self_eq_true, Bool.not_not, reduceIte, Nat.reduceBEq, Nat.reduceLT, Nat.reduceLeDiff, Nat.reduceAdd, Nat.reducePow, reduceCtorEq, BEq.rfl, List.length_cons, List.length_nil, List.length_map, List.map_cons, List.map_nil, String.reduceBEq, Option.some.injEq, pi_dct_int, pi_dct_bool, pi_dct_str, pi_dct_tuple, pi_dct_list, pi_tup_int, pi_tup_bool, pi_tup_str, pi_tup_tuple, pi_tup_list, pi_lst_int, pi_lst_bool, pi_lst_str, pi_lst_tuple, pi_lst_list, pi_int_int, pi_int_bool, pi_int_str, pi_int_tuple, pi_int_list, pi_bl_int, pi_bl_bool, pi_bl_str, pi_bl_tuple, pi_bl_list, pi_str_int, pi_str_bool, pi_str_str, pi_str_tuple, pi_str_list, pi_non_int, pi_non_bool, pi_non_str, pi_non_tuple, pi_non_list, pi_nat_int, pi_nat_bool, pi_nat_str, pi_nat_tuple, pi_nat_list, pi_strd_int, pi_strd_bool, pi_strd_str, pi_strd_tuple, pi_strd_list, pi_cube_int, pi_cube_bool, pi_cube_str, pi_cube_tuple, pi_cube_list, pi_cover_int, pi_cover_bool, pi_cover_str, pi_cover_tuple, pi_cover_list, cover_mk, ← List.map_take, ← List.map_drop, it_cube, sq_cube, uNeg1, ltNeg, key_nat, get_n, ix_dn, Option.map_some, cube_mk, bAdd, bAnd, bOr, bXor, bShr, uInv, bAndNot, aAdd, aOr, cEqN, cNeN, cEqS, cNeS, cEqC, cNeC, cEqB, cNeB, cLtN, cLeN, cGtN, cGeN, cIsN, cNsN, none_non, none_nat, none_cube, none_bl, none_str, none_tup, cIsB, cNsB, cInN, cEqNL, cNeNL, pr_sortL, cNiN, cInC, tr_bl, tr_non, tr_nat, tr_lst, tr_tup, ix_t0, ix_t1, ix_t2, ix_t3, ix_l0, ix_l1, ix_l2, ix_l3, ix_c0, ix_c1, pr_lenL, pr_lenT, pr_lenC, pr_lenD, pr_lenK, pr_tupL, pr_tupT, pr_lstL, pr_lstT, pr_lstC, pr_lstS, pr_intN, pr_intB, pr_sumN, pr_allB, pr_anyB, it_lst, it_tup, it_cov, sq_lst, sq_tup, sq_cov, fl_nat, fl_str, fl_bl, fl_non, fl_lst, fl_tup, fl_cube, fl_cover, fit0, fit1, fit2, fit3, fit4, end_none, end_nat, sl_lt, sl_lf, sl_tt, sl_tf, sl_ct, sl_cf, map_snoc, T_is_number, io_is_number, T_is_cube, io_is_cube, T_is_cover, io_is_cover, T_in_cube, io_in_cube, T_in_cover, io_in_cover, T_is_gate, io_is_gate, T_next_value, io_next_value, T_fights, io_fights, T_reads, io_reads, T__law_draws, io__law_draws, T__law_draw, io__law_draw, T__law_same, io__law_same, T__law_has, io__law_has, T__law_in, io__law_in, T__law_cube, io__law_cube, T__law_cover, io__law_cover, T__law_bits, io__law_bits, T__law_odd, io__law_odd, T__law_next, io__law_next, T__law_gate, io__law_gate, T__law_reads, io__law_reads, T__law_wrong, io__law_wrong, T_law, io_law, op_k_is_cover_0, rs_k_is_cover_0, op_k_in_cover_0, rs_k_in_cover_0, op_k__law_in_0, rs_k__law_in_0, op_k__law_cover_0, rs_k__law_cover_0, op_k__law_reads_2, rs_k__law_reads_2, q2]
    have hf := (forN_cons (ds := [coverD b]) (.inl t1)).trans ((forN_cons (ds := []) (.inl t2)).trans forN_nil)
    have hd : List.drop 1 [strD "hold", coverD a, coverD b] = [coverD a, coverD b] := rfl
    simp -implicitDefEqProofs only [f__law_reads, List.map_cons, List.map_nil, List.cons_append, List.nil_append, List.replicate, Nat.sub_self, Nat.reduceSub, end_rt, end_nx, end_ite, outsOf, forN_nil, bindV, bind_ite, opt_some, es_nil', es_cons', then_nx, then_bk, then_ct, then_rt, es1_asg', es1_setx', es1_aug', es1_par', es1_app', es1_ext', es1_ex', es1_ret', op_var, rs_var, op_cst, rs_cst, op_tup, rs_tup, op_lst, rs_lst, op_bin, rs_bin, op_un, rs_un, op_nt, rs_nt, op_cmp, rs_cmp, op_cmp2, rs_cmp2, op_and, rs_and, op_or, rs_or, op_ife, rs_ife, op_ix, rs_ix, op_sl, rs_sl, op_rev, rs_rev, op_call, rs_call, op_prim, rs_prim, op_comp, rs_comp, op_pop, rs_pop, op_dnew, rs_dnew, op_get, rs_get, es1_ret0', es1_ite', es1_brk', es1_cnt', es1_pass', es1_for', es1_wh', ev_var', ev_cst', ev_tup', ev_lst', ev_bin', ev_un', ev_nt', ev_cmp', ev_cmp2', ev_and', ev_or', ev_ife', ev_ix', ev_sl', ev_rev', ev_call', ev_prim', ev_pop', ev_dnew', ev_get', ev_sset', ev_lset', op_sset, op_lset, rs_sset, rs_lset, evs_nil', evs_cons', evx_no', evx_yes', evt_tru', evt_and', evt_or', evt_nt', evt_e', evi_seq', evi_rng', evi_rng2', evi_enum', getB, setB, pk, tk, pks, tks, B.dat, asg_nm, asg_tp, asg_cube, asgN, onOwn, stillB, backB, wipeB, turnF, turnX, turnC, ite_caA, ite_caO, ite_rA, ite_cp, ite_blT, ite_blF, ite_bT, ite_bF, ite_rF, ite_rT, ite_caF, ite_caT, doCall, callArgs, backIn, frzIn, okSlots, slotsOf, List.all_cons, List.all_nil, List.nodup_cons, List.nodup_nil, List.not_mem_nil, not_false_eq_true, and_self, decide_true, List.contains_nil, List.contains_cons, beq_true, beq_false, Bool.true_beq, Bool.false_beq, decide_false, if_true, if_false, Bool.false_eq_true, Bool.and_true, Bool.true_and, Bool.and_false, Bool.false_and, Bool.or_true, Bool.true_or, Bool.or_false, Bool.false_or, Bool.not_true, Bool.not_false, beq_self_eq_true, Bool.not_not, reduceIte, Nat.reduceBEq, Nat.reduceLT, Nat.reduceLeDiff, Nat.reduceAdd, Nat.reducePow, reduceCtorEq, BEq.rfl, List.length_cons, List.length_nil, List.length_map, List.map_cons, List.map_nil, String.reduceBEq, Option.some.injEq, pi_dct_int, pi_dct_bool, pi_dct_str, pi_dct_tuple, pi_dct_list, pi_tup_int, pi_tup_bool, pi_tup_str, pi_tup_tuple, pi_tup_list, pi_lst_int, pi_lst_bool, pi_lst_str, pi_lst_tuple, pi_lst_list, pi_int_int, pi_int_bool, pi_int_str, pi_int_tuple, pi_int_list, pi_bl_int, pi_bl_bool, pi_bl_str, pi_bl_tuple, pi_bl_list, pi_str_int, pi_str_bool, pi_str_str, pi_str_tuple, pi_str_list, pi_non_int, pi_non_bool, pi_non_str, pi_non_tuple, pi_non_list, pi_nat_int, pi_nat_bool, pi_nat_str, pi_nat_tuple, pi_nat_list, pi_strd_int, pi_strd_bool, pi_strd_str, pi_strd_tuple, pi_strd_list, pi_cube_int, pi_cube_bool, pi_cube_str, pi_cube_tuple, pi_cube_list, pi_cover_int, pi_cover_bool, pi_cover_str, pi_cover_tuple, pi_cover_list, cover_mk, ← List.map_take, ← List.map_drop, it_cube, sq_cube, uNeg1, ltNeg, key_nat, get_n, ix_dn, Option.map_some, cube_mk, bAdd, bAnd, bOr, bXor, bShr, uInv, bAndNot, aAdd, aOr, cEqN, cNeN, cEqS, cNeS, cEqC, cNeC, cEqB, cNeB, cLtN, cLeN, cGtN, cGeN, cIsN, cNsN, none_non, none_nat, none_cube, none_bl, none_str, none_tup, cIsB, cNsB, cInN, cEqNL, cNeNL, pr_sortL, cNiN, cInC, tr_bl, tr_non, tr_nat, tr_lst, tr_tup, ix_t0, ix_t1, ix_t2, ix_t3, ix_l0, ix_l1, ix_l2, ix_l3, ix_c0, ix_c1, pr_lenL, pr_lenT, pr_lenC, pr_lenD, pr_lenK, pr_tupL, pr_tupT, pr_lstL, pr_lstT, pr_lstC, pr_lstS, pr_intN, pr_intB, pr_sumN, pr_allB, pr_anyB, it_lst, it_tup, it_cov, sq_lst, sq_tup, sq_cov, fl_nat, fl_str, fl_bl, fl_non, fl_lst, fl_tup, fl_cube, fl_cover, fit0, fit1, fit2, fit3, fit4, end_none, end_nat, sl_lt, sl_lf, sl_tt, sl_tf, sl_ct, sl_cf, map_snoc, T_is_number, io_is_number, T_is_cube, io_is_cube, T_is_cover, io_is_cover, T_in_cube, io_in_cube, T_in_cover, io_in_cover, T_is_gate, io_is_gate, T_next_value, io_next_value, T_fights, io_fights, T_reads, io_reads, T__law_draws, io__law_draws, T__law_draw, io__law_draw, T__law_same, io__law_same, T__law_has, io__law_has, T__law_in, io__law_in, T__law_cube, io__law_cube, T__law_cover, io__law_cover, T__law_bits, io__law_bits, T__law_odd, io__law_odd, T__law_next, io__law_next, T__law_gate, io__law_gate, T__law_reads, io__law_reads, T__law_wrong, io__law_wrong, T_law, io_law, op_k_is_cover_0, rs_k_is_cover_0, op_k_in_cover_0, rs_k_in_cover_0, op_k__law_in_0, rs_k__law_in_0, op_k__law_cover_0, rs_k__law_cover_0, op_k__law_reads_2, rs_k__law_reads_2, hs2, hd, hf, k1, k2]
  | pick u v =>
    obtain ⟨h1, h2⟩ := hg
    obtain ⟨l, k1, k2⟩ := sum_part (m := m) (n := n) (some (.sh (gateD (.pick u v)))) none none [u, v] hlt (fun i _ => by
      rw [rd_p, Nat.testBit_or, Nat.testBit_two_pow, Nat.testBit_two_pow, Bool.or_eq_true, decide_eq_true_eq, decide_eq_true_eq]
      simp only [List.mem_cons, List.not_mem_nil, or_false]
      omega)
    simp only [List.map_cons, List.map_nil] at k1
    rw [gd_p] at k1
    rw [rd_p] at k2
    rw [gd_p, rd_p]
    simp -implicitDefEqProofs only [f__law_reads, List.map_cons, List.map_nil, List.cons_append, List.nil_append, List.replicate, Nat.sub_self, Nat.reduceSub, end_rt, end_nx, end_ite, outsOf, forN_nil, bindV, bind_ite, opt_some, es_nil', es_cons', then_nx, then_bk, then_ct, then_rt, es1_asg', es1_setx', es1_aug', es1_par', es1_app', es1_ext', es1_ex', es1_ret', op_var, rs_var, op_cst, rs_cst, op_tup, rs_tup, op_lst, rs_lst, op_bin, rs_bin, op_un, rs_un, op_nt, rs_nt, op_cmp, rs_cmp, op_cmp2, rs_cmp2, op_and, rs_and, op_or, rs_or, op_ife, rs_ife, op_ix, rs_ix, op_sl, rs_sl, op_rev, rs_rev, op_call, rs_call, op_prim, rs_prim, op_comp, rs_comp, op_pop, rs_pop, op_dnew, rs_dnew, op_get, rs_get, es1_ret0', es1_ite', es1_brk', es1_cnt', es1_pass', es1_for', es1_wh', ev_var', ev_cst', ev_tup', ev_lst', ev_bin', ev_un', ev_nt', ev_cmp', ev_cmp2', ev_and', ev_or', ev_ife', ev_ix', ev_sl', ev_rev', ev_call', ev_prim', ev_pop', ev_dnew', ev_get', ev_sset', ev_lset', op_sset, op_lset, rs_sset, rs_lset, evs_nil', evs_cons', evx_no', evx_yes', evt_tru', evt_and', evt_or', evt_nt', evt_e', evi_seq', evi_rng', evi_rng2', evi_enum', getB, setB, pk, tk, pks, tks, B.dat, asg_nm, asg_tp, asg_cube, asgN, onOwn, stillB, backB, wipeB, turnF, turnX, turnC, ite_caA, ite_caO, ite_rA, ite_cp, ite_blT, ite_blF, ite_bT, ite_bF, ite_rF, ite_rT, ite_caF, ite_caT, doCall, callArgs, backIn, frzIn, okSlots, slotsOf, List.all_cons, List.all_nil, List.nodup_cons, List.nodup_nil, List.not_mem_nil, not_false_eq_true, and_self, decide_true, List.contains_nil, List.contains_cons, beq_true, beq_false, Bool.true_beq, Bool.false_beq, decide_false, if_true, if_false, Bool.false_eq_true, Bool.and_true, Bool.true_and, Bool.and_false, Bool.false_and, Bool.or_true, Bool.true_or, Bool.or_false, Bool.false_or, Bool.not_true, Bool.not_false, beq_self_eq_true, Bool.not_not, reduceIte, Nat.reduceBEq, Nat.reduceLT, Nat.reduceLeDiff, Nat.reduceAdd, Nat.reducePow, reduceCtorEq, BEq.rfl, List.length_cons, List.length_nil, List.length_map, List.map_cons, List.map_nil, String.reduceBEq, Option.some.injEq, pi_dct_int, pi_dct_bool, pi_dct_str, pi_dct_tuple, pi_dct_list, pi_tup_int, pi_tup_bool, pi_tup_str, pi_tup_tuple, pi_tup_list, pi_lst_int, pi_lst_bool, pi_lst_str, pi_lst_tuple, pi_lst_list, pi_int_int, pi_int_bool, pi_int_str, pi_int_tuple, pi_int_list, pi_bl_int, pi_bl_bool, pi_bl_str, pi_bl_tuple, pi_bl_list, pi_str_int, pi_str_bool, pi_str_str, pi_str_tuple, pi_str_list, pi_non_int, pi_non_bool, pi_non_str, pi_non_tuple, pi_non_list, pi_nat_int, pi_nat_bool, pi_nat_str, pi_nat_tuple, pi_nat_list, pi_strd_int, pi_strd_bool, pi_strd_str, pi_strd_tuple, pi_strd_list, pi_cube_int, pi_cube_bool, pi_cube_str, pi_cube_tuple, pi_cube_list, pi_cover_int, pi_cover_bool, pi_cover_str, pi_cover_tuple, pi_cover_list, cover_mk, ← List.map_take, ← List.map_drop, it_cube, sq_cube, uNeg1, ltNeg, key_nat, get_n, ix_dn, Option.map_some, cube_mk, bAdd, bAnd, bOr, bXor, bShr, uInv, bAndNot, aAdd, aOr, cEqN, cNeN, cEqS, cNeS, cEqC, cNeC, cEqB, cNeB, cLtN, cLeN, cGtN, cGeN, cIsN, cNsN, none_non, none_nat, none_cube, none_bl, none_str, none_tup, cIsB, cNsB, cInN, cEqNL, cNeNL, pr_sortL, cNiN, cInC, tr_bl, tr_non, tr_nat, tr_lst, tr_tup, ix_t0, ix_t1, ix_t2, ix_t3, ix_l0, ix_l1, ix_l2, ix_l3, ix_c0, ix_c1, pr_lenL, pr_lenT, pr_lenC, pr_lenD, pr_lenK, pr_tupL, pr_tupT, pr_lstL, pr_lstT, pr_lstC, pr_lstS, pr_intN, pr_intB, pr_sumN, pr_allB, pr_anyB, it_lst, it_tup, it_cov, sq_lst, sq_tup, sq_cov, fl_nat, fl_str, fl_bl, fl_non, fl_lst, fl_tup, fl_cube, fl_cover, fit0, fit1, fit2, fit3, fit4, end_none, end_nat, sl_lt, sl_lf, sl_tt, sl_tf, sl_ct, sl_cf, map_snoc, T_is_number, io_is_number, T_is_cube, io_is_cube, T_is_cover, io_is_cover, T_in_cube, io_in_cube, T_in_cover, io_in_cover, T_is_gate, io_is_gate, T_next_value, io_next_value, T_fights, io_fights, T_reads, io_reads, T__law_draws, io__law_draws, T__law_draw, io__law_draw, T__law_same, io__law_same, T__law_has, io__law_has, T__law_in, io__law_in, T__law_cube, io__law_cube, T__law_cover, io__law_cover, T__law_bits, io__law_bits, T__law_odd, io__law_odd, T__law_next, io__law_next, T__law_gate, io__law_gate, T__law_reads, io__law_reads, T__law_wrong, io__law_wrong, T_law, io_law, op_k_is_cover_0, rs_k_is_cover_0, op_k_in_cover_0, rs_k_in_cover_0, op_k__law_in_0, rs_k__law_in_0, op_k__law_cover_0, rs_k__law_cover_0, op_k__law_reads_2, rs_k__law_reads_2, k1, k2]
  | sum a =>
    obtain ⟨h1, h3⟩ := hg
    have ha : ∀ c ∈ a, c.1 < 2 ^ 7 := fun c hc => cu_lt hw (h1 c hc)
    obtain ⟨y3, q1⟩ := wires_in (m := m) (n := n) (by omega) hm (some (.sh (gateD (.sum a)))) (some (.sh (coverD a))) none none a [] none ha (by rw [List.length_nil]; omega)
    obtain ⟨l, k1, k2⟩ := sum_part (m := m) (n := n) (some (.sh (gateD (.sum a)))) (some (.sh (coverD a))) y3 (notes [] a) hlt (fun i _ => by
      rw [notes_mem, rd_s, cares_bit, ex_lt ha]; simp)
    simp only [List.map_nil] at q1
    rw [gd_s] at q1 k1
    rw [rd_s] at k2
    rw [gd_s, rd_s]
    have t1 : turnF T (callF T m n) m (.nm 2) b__law_reads_1 (coverD a) [some (.sh (.tup [strD "sum", coverD a])), some (.ow (.lst [])), none, none, none, none] = .val .nx [some (.sh (.tup [strD "sum", coverD a])), some (.ow (.lst ((notes [] a).map natD))), some (.sh (coverD a)), y3, none, none] := by simp -implicitDefEqProofs only [b__law_reads_1, forN_nil, bindV, bind_ite, opt_some, es_nil', es_cons', then_nx, then_bk, then_ct, then_rt, es1_asg', es1_setx', es1_aug', es1_par', es1_app', es1_ext', es1_ex', es1_ret', op_var, rs_var, op_cst, rs_cst, op_tup, rs_tup, op_lst, rs_lst, op_bin, rs_bin, op_un, rs_un, op_nt, rs_nt, op_cmp, rs_cmp, op_cmp2, rs_cmp2, op_and, rs_and, op_or, rs_or, op_ife, rs_ife, op_ix, rs_ix, op_sl, rs_sl, op_rev, rs_rev, op_call, rs_call, op_prim, rs_prim, op_comp, rs_comp, op_pop, rs_pop, op_dnew, rs_dnew, op_get, rs_get, es1_ret0', es1_ite', es1_brk', es1_cnt', es1_pass', es1_for', es1_wh', ev_var', ev_cst', ev_tup', ev_lst', ev_bin', ev_un', ev_nt', ev_cmp', ev_cmp2', ev_and', ev_or', ev_ife', ev_ix', ev_sl', ev_rev', ev_call', ev_prim', ev_pop', ev_dnew', ev_get', ev_sset', ev_lset', op_sset, op_lset, rs_sset, rs_lset, evs_nil', evs_cons', evx_no', evx_yes', evt_tru', evt_and', evt_or', evt_nt', evt_e', evi_seq', evi_rng', evi_rng2', evi_enum', getB, setB, pk, tk, pks, tks, B.dat, asg_nm, asg_tp, asg_cube, asgN, onOwn, stillB, backB, wipeB, turnF, turnX, turnC, ite_caA, ite_caO, ite_rA, ite_cp, ite_blT, ite_blF, ite_bT, ite_bF, ite_rF, ite_rT, ite_caF, ite_caT, doCall, callArgs, backIn, frzIn, okSlots, slotsOf, List.all_cons, List.all_nil, List.nodup_cons, List.nodup_nil, List.not_mem_nil, not_false_eq_true, and_self, decide_true, List.contains_nil, List.contains_cons, beq_true, beq_false, Bool.true_beq, Bool.false_beq, decide_false, if_true, if_false, Bool.false_eq_true, Bool.and_true, Bool.true_and, Bool.and_false, Bool.false_and, Bool.or_true, Bool.true_or, Bool.or_false, Bool.false_or, Bool.not_true, Bool.not_false, beq_self_eq_true, Bool.not_not, reduceIte, Nat.reduceBEq, Nat.reduceLT, Nat.reduceLeDiff, Nat.reduceAdd, Nat.reducePow, reduceCtorEq, BEq.rfl, List.length_cons, List.length_nil, List.length_map, List.map_cons, List.map_nil, String.reduceBEq, Option.some.injEq, pi_dct_int, pi_dct_bool, pi_dct_str, pi_dct_tuple, pi_dct_list, pi_tup_int, pi_tup_bool, pi_tup_str, pi_tup_tuple, pi_tup_list, pi_lst_int, pi_lst_bool, pi_lst_str, pi_lst_tuple, pi_lst_list, pi_int_int, pi_int_bool, pi_int_str, pi_int_tuple, pi_int_list, pi_bl_int, pi_bl_bool, pi_bl_str, pi_bl_tuple, pi_bl_list, pi_str_int, pi_str_bool, pi_str_str, pi_str_tuple, pi_str_list, pi_non_int, pi_non_bool, pi_non_str, pi_non_tuple, pi_non_list, pi_nat_int, pi_nat_bool, pi_nat_str, pi_nat_tuple, pi_nat_list, pi_strd_int, pi_strd_bool, pi_strd_str, pi_strd_tuple, pi_strd_list, pi_cube_int, pi_cube_bool, pi_cube_str, pi_cube_tuple, pi_cube_list, pi_cover_int, pi_cover_bool, pi_cover_str, pi_cover_tuple, pi_cover_list, cover_mk, ← List.map_take, ← List.map_drop, it_cube, sq_cube, uNeg1, ltNeg, key_nat, get_n, ix_dn, Option.map_some, cube_mk, bAdd, bAnd, bOr, bXor, bShr, uInv, bAndNot, aAdd, aOr, cEqN, cNeN, cEqS, cNeS, cEqC, cNeC, cEqB, cNeB, cLtN, cLeN, cGtN, cGeN, cIsN, cNsN, none_non, none_nat, none_cube, none_bl, none_str, none_tup, cIsB, cNsB, cInN, cEqNL, cNeNL, pr_sortL, cNiN, cInC, tr_bl, tr_non, tr_nat, tr_lst, tr_tup, ix_t0, ix_t1, ix_t2, ix_t3, ix_l0, ix_l1, ix_l2, ix_l3, ix_c0, ix_c1, pr_lenL, pr_lenT, pr_lenC, pr_lenD, pr_lenK, pr_tupL, pr_tupT, pr_lstL, pr_lstT, pr_lstC, pr_lstS, pr_intN, pr_intB, pr_sumN, pr_allB, pr_anyB, it_lst, it_tup, it_cov, sq_lst, sq_tup, sq_cov, fl_nat, fl_str, fl_bl, fl_non, fl_lst, fl_tup, fl_cube, fl_cover, fit0, fit1, fit2, fit3, fit4, end_none, end_nat, sl_lt, sl_lf, sl_tt, sl_tf, sl_ct, sl_cf, map_snoc, T_is_number, io_is_number, T_is_cube, io_is_cube, T_is_cover, io_is_cover, T_in_cube, io_in_cube, T_in_cover, io_in_cover, T_is_gate, io_is_gate, T_next_value, io_next_value, T_fights, io_fights, T_reads, io_reads, T__law_draws, io__law_draws, T__law_draw, io__law_draw, T__law_same, io__law_same, T__law_has, io__law_has, T__law_in, io__law_in, T__law_cube, io__law_cube, T__law_cover, io__law_cover, T__law_bits, io__law_bits, T__law_odd, io__law_odd, T__law_next, io__law_next, T__law_gate, io__law_gate, T__law_reads, io__law_reads, T__law_wrong, io__law_wrong, T_law, io_law, op_k_is_cover_0, rs_k_is_cover_0, op_k_in_cover_0, rs_k_in_cover_0, op_k__law_in_0, rs_k__law_in_0, op_k__law_cover_0, rs_k__law_cover_0, op_k__law_reads_2, rs_k__law_reads_2, q1]
    have hf := (forN_cons (ds := []) (.inl t1)).trans forN_nil
    have hd : List.drop 1 [strD "sum", coverD a] = [coverD a] := rfl
    simp -implicitDefEqProofs only [f__law_reads, List.map_cons, List.map_nil, List.cons_append, List.nil_append, List.replicate, Nat.sub_self, Nat.reduceSub, end_rt, end_nx, end_ite, outsOf, forN_nil, bindV, bind_ite, opt_some, es_nil', es_cons', then_nx, then_bk, then_ct, then_rt, es1_asg', es1_setx', es1_aug', es1_par', es1_app', es1_ext', es1_ex', es1_ret', op_var, rs_var, op_cst, rs_cst, op_tup, rs_tup, op_lst, rs_lst, op_bin, rs_bin, op_un, rs_un, op_nt, rs_nt, op_cmp, rs_cmp, op_cmp2, rs_cmp2, op_and, rs_and, op_or, rs_or, op_ife, rs_ife, op_ix, rs_ix, op_sl, rs_sl, op_rev, rs_rev, op_call, rs_call, op_prim, rs_prim, op_comp, rs_comp, op_pop, rs_pop, op_dnew, rs_dnew, op_get, rs_get, es1_ret0', es1_ite', es1_brk', es1_cnt', es1_pass', es1_for', es1_wh', ev_var', ev_cst', ev_tup', ev_lst', ev_bin', ev_un', ev_nt', ev_cmp', ev_cmp2', ev_and', ev_or', ev_ife', ev_ix', ev_sl', ev_rev', ev_call', ev_prim', ev_pop', ev_dnew', ev_get', ev_sset', ev_lset', op_sset, op_lset, rs_sset, rs_lset, evs_nil', evs_cons', evx_no', evx_yes', evt_tru', evt_and', evt_or', evt_nt', evt_e', evi_seq', evi_rng', evi_rng2', evi_enum', getB, setB, pk, tk, pks, tks, B.dat, asg_nm, asg_tp, asg_cube, asgN, onOwn, stillB, backB, wipeB, turnF, turnX, turnC, ite_caA, ite_caO, ite_rA, ite_cp, ite_blT, ite_blF, ite_bT, ite_bF, ite_rF, ite_rT, ite_caF, ite_caT, doCall, callArgs, backIn, frzIn, okSlots, slotsOf, List.all_cons, List.all_nil, List.nodup_cons, List.nodup_nil, List.not_mem_nil, not_false_eq_true, and_self, decide_true, List.contains_nil, List.contains_cons, beq_true, beq_false, Bool.true_beq, Bool.false_beq, decide_false, if_true, if_false, Bool.false_eq_true, Bool.and_true, Bool.true_and, Bool.and_false, Bool.false_and, Bool.or_true, Bool.true_or, Bool.or_false, Bool.false_or, Bool.not_true, Bool.not_false, beq_self_eq_true, Bool.not_not, reduceIte, Nat.reduceBEq, Nat.reduceLT, Nat.reduceLeDiff, Nat.reduceAdd, Nat.reducePow, reduceCtorEq, BEq.rfl, List.length_cons, List.length_nil, List.length_map, List.map_cons, List.map_nil, String.reduceBEq, Option.some.injEq, pi_dct_int, pi_dct_bool, pi_dct_str, pi_dct_tuple, pi_dct_list, pi_tup_int, pi_tup_bool, pi_tup_str, pi_tup_tuple, pi_tup_list, pi_lst_int, pi_lst_bool, pi_lst_str, pi_lst_tuple, pi_lst_list, pi_int_int, pi_int_bool, pi_int_str, pi_int_tuple, pi_int_list, pi_bl_int, pi_bl_bool, pi_bl_str, pi_bl_tuple, pi_bl_list, pi_str_int, pi_str_bool, pi_str_str, pi_str_tuple, pi_str_list, pi_non_int, pi_non_bool, pi_non_str, pi_non_tuple, pi_non_list, pi_nat_int, pi_nat_bool, pi_nat_str, pi_nat_tuple, pi_nat_list, pi_strd_int, pi_strd_bool, pi_strd_str, pi_strd_tuple, pi_strd_list, pi_cube_int, pi_cube_bool, pi_cube_str, pi_cube_tuple, pi_cube_list, pi_cover_int, pi_cover_bool, pi_cover_str, pi_cover_tuple, pi_cover_list, cover_mk, ← List.map_take, ← List.map_drop, it_cube, sq_cube, uNeg1, ltNeg, key_nat, get_n, ix_dn, Option.map_some, cube_mk, bAdd, bAnd, bOr, bXor, bShr, uInv, bAndNot, aAdd, aOr, cEqN, cNeN, cEqS, cNeS, cEqC, cNeC, cEqB, cNeB, cLtN, cLeN, cGtN, cGeN, cIsN, cNsN, none_non, none_nat, none_cube, none_bl, none_str, none_tup, cIsB, cNsB, cInN, cEqNL, cNeNL, pr_sortL, cNiN, cInC, tr_bl, tr_non, tr_nat, tr_lst, tr_tup, ix_t0, ix_t1, ix_t2, ix_t3, ix_l0, ix_l1, ix_l2, ix_l3, ix_c0, ix_c1, pr_lenL, pr_lenT, pr_lenC, pr_lenD, pr_lenK, pr_tupL, pr_tupT, pr_lstL, pr_lstT, pr_lstC, pr_lstS, pr_intN, pr_intB, pr_sumN, pr_allB, pr_anyB, it_lst, it_tup, it_cov, sq_lst, sq_tup, sq_cov, fl_nat, fl_str, fl_bl, fl_non, fl_lst, fl_tup, fl_cube, fl_cover, fit0, fit1, fit2, fit3, fit4, end_none, end_nat, sl_lt, sl_lf, sl_tt, sl_tf, sl_ct, sl_cf, map_snoc, T_is_number, io_is_number, T_is_cube, io_is_cube, T_is_cover, io_is_cover, T_in_cube, io_in_cube, T_in_cover, io_in_cover, T_is_gate, io_is_gate, T_next_value, io_next_value, T_fights, io_fights, T_reads, io_reads, T__law_draws, io__law_draws, T__law_draw, io__law_draw, T__law_same, io__law_same, T__law_has, io__law_has, T__law_in, io__law_in, T__law_cube, io__law_cube, T__law_cover, io__law_cover, T__law_bits, io__law_bits, T__law_odd, io__law_odd, T__law_next, io__law_next, T__law_gate, io__law_gate, T__law_reads, io__law_reads, T__law_wrong, io__law_wrong, T_law, io_law, op_k_is_cover_0, rs_k_is_cover_0, op_k_in_cover_0, rs_k_in_cover_0, op_k__law_in_0, rs_k__law_in_0, op_k__law_cover_0, rs_k__law_cover_0, op_k__law_reads_2, rs_k__law_reads_2, hs6, hd, hf, k1, k2]
def Bad (m w : Nat) (d : D) : Prop := ∀ N, 5 ≤ N → callF T m N 5 [.sh d, .sh (natD w)] = .ret false (.bl false) [.sh d, .sh (natD w)]
theorem bad_flat {w : Nat} {d : D} (hd : Known d) (ht : ∀ xs, d ≠ .tup xs) : Bad m w d := fun N hN => by
  obtain ⟨n, rfl, hn⟩ := to_succ hN
  rw [callF_body T_is_gate rfl]
  cases d with
  | tup xs => exact absurd rfl (ht xs)
  | scr _ => rcases hd with ⟨k, h⟩ | ⟨ds, h⟩ <;> simp [D.ok] at h
  | ty _ => rcases hd with ⟨k, h⟩ | ⟨ds, h⟩ <;> simp [D.ok] at h
  | _ => simp -implicitDefEqProofs only [f_is_gate, List.map_cons, List.map_nil, List.cons_append, List.nil_append, List.replicate, Nat.sub_self, Nat.reduceSub, end_rt, end_nx, end_ite, outsOf, forN_nil, bindV, bind_ite, opt_some, es_nil', es_cons', then_nx, then_bk, then_ct, then_rt, es1_asg', es1_setx', es1_aug', es1_par', es1_app', es1_ext', es1_ex', es1_ret', op_var, rs_var, op_cst, rs_cst, op_tup, rs_tup, op_lst, rs_lst, op_bin, rs_bin, op_un, rs_un, op_nt, rs_nt, op_cmp, rs_cmp, op_cmp2, rs_cmp2, op_and, rs_and, op_or, rs_or, op_ife, rs_ife, op_ix, rs_ix, op_sl, rs_sl, op_rev, rs_rev, op_call, rs_call, op_prim, rs_prim, op_comp, rs_comp, op_pop, rs_pop, op_dnew, rs_dnew, op_get, rs_get, es1_ret0', es1_ite', es1_brk', es1_cnt', es1_pass', es1_for', es1_wh', ev_var', ev_cst', ev_tup', ev_lst', ev_bin', ev_un', ev_nt', ev_cmp', ev_cmp2', ev_and', ev_or', ev_ife', ev_ix', ev_sl', ev_rev', ev_call', ev_prim', ev_pop', ev_dnew', ev_get', ev_sset', ev_lset', op_sset, op_lset, rs_sset, rs_lset, evs_nil', evs_cons', evx_no', evx_yes', evt_tru', evt_and', evt_or', evt_nt', evt_e', evi_seq', evi_rng', evi_rng2', evi_enum', getB, setB, pk, tk, pks, tks, B.dat, asg_nm, asg_tp, asg_cube, asgN, onOwn, stillB, backB, wipeB, turnF, turnX, turnC, ite_caA, ite_caO, ite_rA, ite_cp, ite_blT, ite_blF, ite_bT, ite_bF, ite_rF, ite_rT, ite_caF, ite_caT, doCall, callArgs, backIn, frzIn, okSlots, slotsOf, List.all_cons, List.all_nil, List.nodup_cons, List.nodup_nil, List.not_mem_nil, not_false_eq_true, and_self, decide_true, List.contains_nil, List.contains_cons, beq_true, beq_false, Bool.true_beq, Bool.false_beq, decide_false, if_true, if_false, Bool.false_eq_true, Bool.and_true, Bool.true_and, Bool.and_false, Bool.false_and, Bool.or_true, Bool.true_or, Bool.or_false, Bool.false_or, Bool.not_true, Bool.not_false, beq_self_eq_true, Bool.not_not, reduceIte, Nat.reduceBEq, Nat.reduceLT, Nat.reduceLeDiff, Nat.reduceAdd, Nat.reducePow, reduceCtorEq, BEq.rfl, List.length_cons, List.length_nil, List.length_map, List.map_cons, List.map_nil, String.reduceBEq, Option.some.injEq, pi_dct_int, pi_dct_bool, pi_dct_str, pi_dct_tuple, pi_dct_list, pi_tup_int, pi_tup_bool, pi_tup_str, pi_tup_tuple, pi_tup_list, pi_lst_int, pi_lst_bool, pi_lst_str, pi_lst_tuple, pi_lst_list, pi_int_int, pi_int_bool, pi_int_str, pi_int_tuple, pi_int_list, pi_bl_int, pi_bl_bool, pi_bl_str, pi_bl_tuple, pi_bl_list, pi_str_int, pi_str_bool, pi_str_str, pi_str_tuple, pi_str_list, pi_non_int, pi_non_bool, pi_non_str, pi_non_tuple, pi_non_list, pi_nat_int, pi_nat_bool, pi_nat_str, pi_nat_tuple, pi_nat_list, pi_strd_int, pi_strd_bool, pi_strd_str, pi_strd_tuple, pi_strd_list, pi_cube_int, pi_cube_bool, pi_cube_str, pi_cube_tuple, pi_cube_list, pi_cover_int, pi_cover_bool, pi_cover_str, pi_cover_tuple, pi_cover_list, cover_mk, ← List.map_take, ← List.map_drop, it_cube, sq_cube, uNeg1, ltNeg, key_nat, get_n, ix_dn, Option.map_some, cube_mk, bAdd, bAnd, bOr, bXor, bShr, uInv, bAndNot, aAdd, aOr, cEqN, cNeN, cEqS, cNeS, cEqC, cNeC, cEqB, cNeB, cLtN, cLeN, cGtN, cGeN, cIsN, cNsN, none_non, none_nat, none_cube, none_bl, none_str, none_tup, cIsB, cNsB, cInN, cEqNL, cNeNL, pr_sortL, cNiN, cInC, tr_bl, tr_non, tr_nat, tr_lst, tr_tup, ix_t0, ix_t1, ix_t2, ix_t3, ix_l0, ix_l1, ix_l2, ix_l3, ix_c0, ix_c1, pr_lenL, pr_lenT, pr_lenC, pr_lenD, pr_lenK, pr_tupL, pr_tupT, pr_lstL, pr_lstT, pr_lstC, pr_lstS, pr_intN, pr_intB, pr_sumN, pr_allB, pr_anyB, it_lst, it_tup, it_cov, sq_lst, sq_tup, sq_cov, fl_nat, fl_str, fl_bl, fl_non, fl_lst, fl_tup, fl_cube, fl_cover, fit0, fit1, fit2, fit3, fit4, end_none, end_nat, sl_lt, sl_lf, sl_tt, sl_tf, sl_ct, sl_cf, map_snoc, T_is_number, io_is_number, T_is_cube, io_is_cube, T_is_cover, io_is_cover, T_in_cube, io_in_cube, T_in_cover, io_in_cover, T_is_gate, io_is_gate, T_next_value, io_next_value, T_fights, io_fights, T_reads, io_reads, T__law_draws, io__law_draws, T__law_draw, io__law_draw, T__law_same, io__law_same, T__law_has, io__law_has, T__law_in, io__law_in, T__law_cube, io__law_cube, T__law_cover, io__law_cover, T__law_bits, io__law_bits, T__law_odd, io__law_odd, T__law_next, io__law_next, T__law_gate, io__law_gate, T__law_reads, io__law_reads, T__law_wrong, io__law_wrong, T_law, io_law, op_k_is_cover_0, rs_k_is_cover_0, op_k_in_cover_0, rs_k_in_cover_0, op_k__law_in_0, rs_k__law_in_0, op_k__law_cover_0, rs_k__law_cover_0, op_k__law_reads_2, rs_k__law_reads_2]
theorem bad_none {w : Nat} : Bad m w .non := bad_flat (.inl ⟨1, rfl⟩) fun _ h => by cases h
theorem bad_nil {w : Nat} : Bad m w (.tup []) := fun N hN => by
  obtain ⟨n, rfl, hn⟩ := to_succ hN
  rw [callF_body T_is_gate rfl]
  have h0 : cmpD .Lt (natD 0) (natD 2) = some true := by rw [cLtN]; rfl
  simp -implicitDefEqProofs only [f_is_gate, List.map_cons, List.map_nil, List.cons_append, List.nil_append, List.replicate, Nat.sub_self, Nat.reduceSub, end_rt, end_nx, end_ite, outsOf, forN_nil, bindV, bind_ite, opt_some, es_nil', es_cons', then_nx, then_bk, then_ct, then_rt, es1_asg', es1_setx', es1_aug', es1_par', es1_app', es1_ext', es1_ex', es1_ret', op_var, rs_var, op_cst, rs_cst, op_tup, rs_tup, op_lst, rs_lst, op_bin, rs_bin, op_un, rs_un, op_nt, rs_nt, op_cmp, rs_cmp, op_cmp2, rs_cmp2, op_and, rs_and, op_or, rs_or, op_ife, rs_ife, op_ix, rs_ix, op_sl, rs_sl, op_rev, rs_rev, op_call, rs_call, op_prim, rs_prim, op_comp, rs_comp, op_pop, rs_pop, op_dnew, rs_dnew, op_get, rs_get, es1_ret0', es1_ite', es1_brk', es1_cnt', es1_pass', es1_for', es1_wh', ev_var', ev_cst', ev_tup', ev_lst', ev_bin', ev_un', ev_nt', ev_cmp', ev_cmp2', ev_and', ev_or', ev_ife', ev_ix', ev_sl', ev_rev', ev_call', ev_prim', ev_pop', ev_dnew', ev_get', ev_sset', ev_lset', op_sset, op_lset, rs_sset, rs_lset, evs_nil', evs_cons', evx_no', evx_yes', evt_tru', evt_and', evt_or', evt_nt', evt_e', evi_seq', evi_rng', evi_rng2', evi_enum', getB, setB, pk, tk, pks, tks, B.dat, asg_nm, asg_tp, asg_cube, asgN, onOwn, stillB, backB, wipeB, turnF, turnX, turnC, ite_caA, ite_caO, ite_rA, ite_cp, ite_blT, ite_blF, ite_bT, ite_bF, ite_rF, ite_rT, ite_caF, ite_caT, doCall, callArgs, backIn, frzIn, okSlots, slotsOf, List.all_cons, List.all_nil, List.nodup_cons, List.nodup_nil, List.not_mem_nil, not_false_eq_true, and_self, decide_true, List.contains_nil, List.contains_cons, beq_true, beq_false, Bool.true_beq, Bool.false_beq, decide_false, if_true, if_false, Bool.false_eq_true, Bool.and_true, Bool.true_and, Bool.and_false, Bool.false_and, Bool.or_true, Bool.true_or, Bool.or_false, Bool.false_or, Bool.not_true, Bool.not_false, beq_self_eq_true, Bool.not_not, reduceIte, Nat.reduceBEq, Nat.reduceLT, Nat.reduceLeDiff, Nat.reduceAdd, Nat.reducePow, reduceCtorEq, BEq.rfl, List.length_cons, List.length_nil, List.length_map, List.map_cons, List.map_nil, String.reduceBEq, Option.some.injEq, pi_dct_int, pi_dct_bool, pi_dct_str, pi_dct_tuple, pi_dct_list, pi_tup_int, pi_tup_bool, pi_tup_str, pi_tup_tuple, pi_tup_list, pi_lst_int, pi_lst_bool, pi_lst_str, pi_lst_tuple, pi_lst_list, pi_int_int, pi_int_bool, pi_int_str, pi_int_tuple, pi_int_list, pi_bl_int, pi_bl_bool, pi_bl_str, pi_bl_tuple, pi_bl_list, pi_str_int, pi_str_bool, pi_str_str, pi_str_tuple, pi_str_list, pi_non_int, pi_non_bool, pi_non_str, pi_non_tuple, pi_non_list, pi_nat_int, pi_nat_bool, pi_nat_str, pi_nat_tuple, pi_nat_list, pi_strd_int, pi_strd_bool, pi_strd_str, pi_strd_tuple, pi_strd_list, pi_cube_int, pi_cube_bool, pi_cube_str, pi_cube_tuple, pi_cube_list, pi_cover_int, pi_cover_bool, pi_cover_str, pi_cover_tuple, pi_cover_list, cover_mk, ← List.map_take, ← List.map_drop, it_cube, sq_cube, uNeg1, ltNeg, key_nat, get_n, ix_dn, Option.map_some, cube_mk, bAdd, bAnd, bOr, bXor, bShr, uInv, bAndNot, aAdd, aOr, cEqN, cNeN, cEqS, cNeS, cEqC, cNeC, cEqB, cNeB, cLtN, cLeN, cGtN, cGeN, cIsN, cNsN, none_non, none_nat, none_cube, none_bl, none_str, none_tup, cIsB, cNsB, cInN, cEqNL, cNeNL, pr_sortL, cNiN, cInC, tr_bl, tr_non, tr_nat, tr_lst, tr_tup, ix_t0, ix_t1, ix_t2, ix_t3, ix_l0, ix_l1, ix_l2, ix_l3, ix_c0, ix_c1, pr_lenL, pr_lenT, pr_lenC, pr_lenD, pr_lenK, pr_tupL, pr_tupT, pr_lstL, pr_lstT, pr_lstC, pr_lstS, pr_intN, pr_intB, pr_sumN, pr_allB, pr_anyB, it_lst, it_tup, it_cov, sq_lst, sq_tup, sq_cov, fl_nat, fl_str, fl_bl, fl_non, fl_lst, fl_tup, fl_cube, fl_cover, fit0, fit1, fit2, fit3, fit4, end_none, end_nat, sl_lt, sl_lf, sl_tt, sl_tf, sl_ct, sl_cf, map_snoc, T_is_number, io_is_number, T_is_cube, io_is_cube, T_is_cover, io_is_cover, T_in_cube, io_in_cube, T_in_cover, io_in_cover, T_is_gate, io_is_gate, T_next_value, io_next_value, T_fights, io_fights, T_reads, io_reads, T__law_draws, io__law_draws, T__law_draw, io__law_draw, T__law_same, io__law_same, T__law_has, io__law_has, T__law_in, io__law_in, T__law_cube, io__law_cube, T__law_cover, io__law_cover, T__law_bits, io__law_bits, T__law_odd, io__law_odd, T__law_next, io__law_next, T__law_gate, io__law_gate, T__law_reads, io__law_reads, T__law_wrong, io__law_wrong, T_law, io_law, op_k_is_cover_0, rs_k_is_cover_0, op_k_in_cover_0, rs_k_in_cover_0, op_k__law_in_0, rs_k__law_in_0, op_k__law_cover_0, rs_k__law_cover_0, op_k__law_reads_2, rs_k__law_reads_2, h0]
theorem bad_one {w : Nat} (a : D) : Bad m w (.tup [a]) := fun N hN => by
  obtain ⟨n, rfl, hn⟩ := to_succ hN
  rw [callF_body T_is_gate rfl]
  have h0 : cmpD .Lt (natD (0 + 1)) (natD 2) = some true := by rw [cLtN]; rfl
  simp -implicitDefEqProofs only [f_is_gate, List.map_cons, List.map_nil, List.cons_append, List.nil_append, List.replicate, Nat.sub_self, Nat.reduceSub, end_rt, end_nx, end_ite, outsOf, forN_nil, bindV, bind_ite, opt_some, es_nil', es_cons', then_nx, then_bk, then_ct, then_rt, es1_asg', es1_setx', es1_aug', es1_par', es1_app', es1_ext', es1_ex', es1_ret', op_var, rs_var, op_cst, rs_cst, op_tup, rs_tup, op_lst, rs_lst, op_bin, rs_bin, op_un, rs_un, op_nt, rs_nt, op_cmp, rs_cmp, op_cmp2, rs_cmp2, op_and, rs_and, op_or, rs_or, op_ife, rs_ife, op_ix, rs_ix, op_sl, rs_sl, op_rev, rs_rev, op_call, rs_call, op_prim, rs_prim, op_comp, rs_comp, op_pop, rs_pop, op_dnew, rs_dnew, op_get, rs_get, es1_ret0', es1_ite', es1_brk', es1_cnt', es1_pass', es1_for', es1_wh', ev_var', ev_cst', ev_tup', ev_lst', ev_bin', ev_un', ev_nt', ev_cmp', ev_cmp2', ev_and', ev_or', ev_ife', ev_ix', ev_sl', ev_rev', ev_call', ev_prim', ev_pop', ev_dnew', ev_get', ev_sset', ev_lset', op_sset, op_lset, rs_sset, rs_lset, evs_nil', evs_cons', evx_no', evx_yes', evt_tru', evt_and', evt_or', evt_nt', evt_e', evi_seq', evi_rng', evi_rng2', evi_enum', getB, setB, pk, tk, pks, tks, B.dat, asg_nm, asg_tp, asg_cube, asgN, onOwn, stillB, backB, wipeB, turnF, turnX, turnC, ite_caA, ite_caO, ite_rA, ite_cp, ite_blT, ite_blF, ite_bT, ite_bF, ite_rF, ite_rT, ite_caF, ite_caT, doCall, callArgs, backIn, frzIn, okSlots, slotsOf, List.all_cons, List.all_nil, List.nodup_cons, List.nodup_nil, List.not_mem_nil, not_false_eq_true, and_self, decide_true, List.contains_nil, List.contains_cons, beq_true, beq_false, Bool.true_beq, Bool.false_beq, decide_false, if_true, if_false, Bool.false_eq_true, Bool.and_true, Bool.true_and, Bool.and_false, Bool.false_and, Bool.or_true, Bool.true_or, Bool.or_false, Bool.false_or, Bool.not_true, Bool.not_false, beq_self_eq_true, Bool.not_not, reduceIte, Nat.reduceBEq, Nat.reduceLT, Nat.reduceLeDiff, Nat.reduceAdd, Nat.reducePow, reduceCtorEq, BEq.rfl, List.length_cons, List.length_nil, List.length_map, List.map_cons, List.map_nil, String.reduceBEq, Option.some.injEq, pi_dct_int, pi_dct_bool, pi_dct_str, pi_dct_tuple, pi_dct_list, pi_tup_int, pi_tup_bool, pi_tup_str, pi_tup_tuple, pi_tup_list, pi_lst_int, pi_lst_bool, pi_lst_str, pi_lst_tuple, pi_lst_list, pi_int_int, pi_int_bool, pi_int_str, pi_int_tuple, pi_int_list, pi_bl_int, pi_bl_bool, pi_bl_str, pi_bl_tuple, pi_bl_list, pi_str_int, pi_str_bool, pi_str_str, pi_str_tuple, pi_str_list, pi_non_int, pi_non_bool, pi_non_str, pi_non_tuple, pi_non_list, pi_nat_int, pi_nat_bool, pi_nat_str, pi_nat_tuple, pi_nat_list, pi_strd_int, pi_strd_bool, pi_strd_str, pi_strd_tuple, pi_strd_list, pi_cube_int, pi_cube_bool, pi_cube_str, pi_cube_tuple, pi_cube_list, pi_cover_int, pi_cover_bool, pi_cover_str, pi_cover_tuple, pi_cover_list, cover_mk, ← List.map_take, ← List.map_drop, it_cube, sq_cube, uNeg1, ltNeg, key_nat, get_n, ix_dn, Option.map_some, cube_mk, bAdd, bAnd, bOr, bXor, bShr, uInv, bAndNot, aAdd, aOr, cEqN, cNeN, cEqS, cNeS, cEqC, cNeC, cEqB, cNeB, cLtN, cLeN, cGtN, cGeN, cIsN, cNsN, none_non, none_nat, none_cube, none_bl, none_str, none_tup, cIsB, cNsB, cInN, cEqNL, cNeNL, pr_sortL, cNiN, cInC, tr_bl, tr_non, tr_nat, tr_lst, tr_tup, ix_t0, ix_t1, ix_t2, ix_t3, ix_l0, ix_l1, ix_l2, ix_l3, ix_c0, ix_c1, pr_lenL, pr_lenT, pr_lenC, pr_lenD, pr_lenK, pr_tupL, pr_tupT, pr_lstL, pr_lstT, pr_lstC, pr_lstS, pr_intN, pr_intB, pr_sumN, pr_allB, pr_anyB, it_lst, it_tup, it_cov, sq_lst, sq_tup, sq_cov, fl_nat, fl_str, fl_bl, fl_non, fl_lst, fl_tup, fl_cube, fl_cover, fit0, fit1, fit2, fit3, fit4, end_none, end_nat, sl_lt, sl_lf, sl_tt, sl_tf, sl_ct, sl_cf, map_snoc, T_is_number, io_is_number, T_is_cube, io_is_cube, T_is_cover, io_is_cover, T_in_cube, io_in_cube, T_in_cover, io_in_cover, T_is_gate, io_is_gate, T_next_value, io_next_value, T_fights, io_fights, T_reads, io_reads, T__law_draws, io__law_draws, T__law_draw, io__law_draw, T__law_same, io__law_same, T__law_has, io__law_has, T__law_in, io__law_in, T__law_cube, io__law_cube, T__law_cover, io__law_cover, T__law_bits, io__law_bits, T__law_odd, io__law_odd, T__law_next, io__law_next, T__law_gate, io__law_gate, T__law_reads, io__law_reads, T__law_wrong, io__law_wrong, T_law, io_law, op_k_is_cover_0, rs_k_is_cover_0, op_k_in_cover_0, rs_k_in_cover_0, op_k__law_in_0, rs_k__law_in_0, op_k__law_cover_0, rs_k__law_cover_0, op_k__law_reads_2, rs_k__law_reads_2, h0]
theorem lt2 (k : Nat) : cmpD .Lt (natD (k + 1 + 1)) (natD 2) = some false := by rw [cLtN, decide_eq_false (by omega)]
theorem bad_head {w : Nat} {h a : D} {r : List D} (hp : primD .isi [h, .ty "str"] = some (false, .bl false)) : Bad m w (.tup (h :: a :: r)) := fun N hN => by
  obtain ⟨n, rfl, hn⟩ := to_succ hN
  rw [callF_body T_is_gate rfl]
  have h0 := lt2 r.length
  simp -implicitDefEqProofs only [f_is_gate, List.map_cons, List.map_nil, List.cons_append, List.nil_append, List.replicate, Nat.sub_self, Nat.reduceSub, end_rt, end_nx, end_ite, outsOf, forN_nil, bindV, bind_ite, opt_some, es_nil', es_cons', then_nx, then_bk, then_ct, then_rt, es1_asg', es1_setx', es1_aug', es1_par', es1_app', es1_ext', es1_ex', es1_ret', op_var, rs_var, op_cst, rs_cst, op_tup, rs_tup, op_lst, rs_lst, op_bin, rs_bin, op_un, rs_un, op_nt, rs_nt, op_cmp, rs_cmp, op_cmp2, rs_cmp2, op_and, rs_and, op_or, rs_or, op_ife, rs_ife, op_ix, rs_ix, op_sl, rs_sl, op_rev, rs_rev, op_call, rs_call, op_prim, rs_prim, op_comp, rs_comp, op_pop, rs_pop, op_dnew, rs_dnew, op_get, rs_get, es1_ret0', es1_ite', es1_brk', es1_cnt', es1_pass', es1_for', es1_wh', ev_var', ev_cst', ev_tup', ev_lst', ev_bin', ev_un', ev_nt', ev_cmp', ev_cmp2', ev_and', ev_or', ev_ife', ev_ix', ev_sl', ev_rev', ev_call', ev_prim', ev_pop', ev_dnew', ev_get', ev_sset', ev_lset', op_sset, op_lset, rs_sset, rs_lset, evs_nil', evs_cons', evx_no', evx_yes', evt_tru', evt_and', evt_or', evt_nt', evt_e', evi_seq', evi_rng', evi_rng2', evi_enum', getB, setB, pk, tk, pks, tks, B.dat, asg_nm, asg_tp, asg_cube, asgN, onOwn, stillB, backB, wipeB, turnF, turnX, turnC, ite_caA, ite_caO, ite_rA, ite_cp, ite_blT, ite_blF, ite_bT, ite_bF, ite_rF, ite_rT, ite_caF, ite_caT, doCall, callArgs, backIn, frzIn, okSlots, slotsOf, List.all_cons, List.all_nil, List.nodup_cons, List.nodup_nil, List.not_mem_nil, not_false_eq_true, and_self, decide_true, List.contains_nil, List.contains_cons, beq_true, beq_false, Bool.true_beq, Bool.false_beq, decide_false, if_true, if_false, Bool.false_eq_true, Bool.and_true, Bool.true_and, Bool.and_false, Bool.false_and, Bool.or_true, Bool.true_or, Bool.or_false, Bool.false_or, Bool.not_true, Bool.not_false, beq_self_eq_true, Bool.not_not, reduceIte, Nat.reduceBEq, Nat.reduceLT, Nat.reduceLeDiff, Nat.reduceAdd, Nat.reducePow, reduceCtorEq, BEq.rfl, List.length_cons, List.length_nil, List.length_map, List.map_cons, List.map_nil, String.reduceBEq, Option.some.injEq, pi_dct_int, pi_dct_bool, pi_dct_str, pi_dct_tuple, pi_dct_list, pi_tup_int, pi_tup_bool, pi_tup_str, pi_tup_tuple, pi_tup_list, pi_lst_int, pi_lst_bool, pi_lst_str, pi_lst_tuple, pi_lst_list, pi_int_int, pi_int_bool, pi_int_str, pi_int_tuple, pi_int_list, pi_bl_int, pi_bl_bool, pi_bl_str, pi_bl_tuple, pi_bl_list, pi_str_int, pi_str_bool, pi_str_str, pi_str_tuple, pi_str_list, pi_non_int, pi_non_bool, pi_non_str, pi_non_tuple, pi_non_list, pi_nat_int, pi_nat_bool, pi_nat_str, pi_nat_tuple, pi_nat_list, pi_strd_int, pi_strd_bool, pi_strd_str, pi_strd_tuple, pi_strd_list, pi_cube_int, pi_cube_bool, pi_cube_str, pi_cube_tuple, pi_cube_list, pi_cover_int, pi_cover_bool, pi_cover_str, pi_cover_tuple, pi_cover_list, cover_mk, ← List.map_take, ← List.map_drop, it_cube, sq_cube, uNeg1, ltNeg, key_nat, get_n, ix_dn, Option.map_some, cube_mk, bAdd, bAnd, bOr, bXor, bShr, uInv, bAndNot, aAdd, aOr, cEqN, cNeN, cEqS, cNeS, cEqC, cNeC, cEqB, cNeB, cLtN, cLeN, cGtN, cGeN, cIsN, cNsN, none_non, none_nat, none_cube, none_bl, none_str, none_tup, cIsB, cNsB, cInN, cEqNL, cNeNL, pr_sortL, cNiN, cInC, tr_bl, tr_non, tr_nat, tr_lst, tr_tup, ix_t0, ix_t1, ix_t2, ix_t3, ix_l0, ix_l1, ix_l2, ix_l3, ix_c0, ix_c1, pr_lenL, pr_lenT, pr_lenC, pr_lenD, pr_lenK, pr_tupL, pr_tupT, pr_lstL, pr_lstT, pr_lstC, pr_lstS, pr_intN, pr_intB, pr_sumN, pr_allB, pr_anyB, it_lst, it_tup, it_cov, sq_lst, sq_tup, sq_cov, fl_nat, fl_str, fl_bl, fl_non, fl_lst, fl_tup, fl_cube, fl_cover, fit0, fit1, fit2, fit3, fit4, end_none, end_nat, sl_lt, sl_lf, sl_tt, sl_tf, sl_ct, sl_cf, map_snoc, T_is_number, io_is_number, T_is_cube, io_is_cube, T_is_cover, io_is_cover, T_in_cube, io_in_cube, T_in_cover, io_in_cover, T_is_gate, io_is_gate, T_next_value, io_next_value, T_fights, io_fights, T_reads, io_reads, T__law_draws, io__law_draws, T__law_draw, io__law_draw, T__law_same, io__law_same, T__law_has, io__law_has, T__law_in, io__law_in, T__law_cube, io__law_cube, T__law_cover, io__law_cover, T__law_bits, io__law_bits, T__law_odd, io__law_odd, T__law_next, io__law_next, T__law_gate, io__law_gate, T__law_reads, io__law_reads, T__law_wrong, io__law_wrong, T_law, io_law, op_k_is_cover_0, rs_k_is_cover_0, op_k_in_cover_0, rs_k_in_cover_0, op_k__law_in_0, rs_k__law_in_0, op_k__law_cover_0, rs_k__law_cover_0, op_k__law_reads_2, rs_k__law_reads_2, h0, hp]
theorem bad_word {w : Nat} {h : String} {a : D} {r : List D} (h1 : (h == "sum") = false) (h2 : (h == "hold") = false) (h3 : (h == "pick") = false) : Bad m w (.tup (strD h :: a :: r)) := fun N hN => by
  obtain ⟨n, rfl, hn⟩ := to_succ hN
  rw [callF_body T_is_gate rfl]
  have h0 := lt2 r.length
  simp -implicitDefEqProofs only [f_is_gate, List.map_cons, List.map_nil, List.cons_append, List.nil_append, List.replicate, Nat.sub_self, Nat.reduceSub, end_rt, end_nx, end_ite, outsOf, forN_nil, bindV, bind_ite, opt_some, es_nil', es_cons', then_nx, then_bk, then_ct, then_rt, es1_asg', es1_setx', es1_aug', es1_par', es1_app', es1_ext', es1_ex', es1_ret', op_var, rs_var, op_cst, rs_cst, op_tup, rs_tup, op_lst, rs_lst, op_bin, rs_bin, op_un, rs_un, op_nt, rs_nt, op_cmp, rs_cmp, op_cmp2, rs_cmp2, op_and, rs_and, op_or, rs_or, op_ife, rs_ife, op_ix, rs_ix, op_sl, rs_sl, op_rev, rs_rev, op_call, rs_call, op_prim, rs_prim, op_comp, rs_comp, op_pop, rs_pop, op_dnew, rs_dnew, op_get, rs_get, es1_ret0', es1_ite', es1_brk', es1_cnt', es1_pass', es1_for', es1_wh', ev_var', ev_cst', ev_tup', ev_lst', ev_bin', ev_un', ev_nt', ev_cmp', ev_cmp2', ev_and', ev_or', ev_ife', ev_ix', ev_sl', ev_rev', ev_call', ev_prim', ev_pop', ev_dnew', ev_get', ev_sset', ev_lset', op_sset, op_lset, rs_sset, rs_lset, evs_nil', evs_cons', evx_no', evx_yes', evt_tru', evt_and', evt_or', evt_nt', evt_e', evi_seq', evi_rng', evi_rng2', evi_enum', getB, setB, pk, tk, pks, tks, B.dat, asg_nm, asg_tp, asg_cube, asgN, onOwn, stillB, backB, wipeB, turnF, turnX, turnC, ite_caA, ite_caO, ite_rA, ite_cp, ite_blT, ite_blF, ite_bT, ite_bF, ite_rF, ite_rT, ite_caF, ite_caT, doCall, callArgs, backIn, frzIn, okSlots, slotsOf, List.all_cons, List.all_nil, List.nodup_cons, List.nodup_nil, List.not_mem_nil, not_false_eq_true, and_self, decide_true, List.contains_nil, List.contains_cons, beq_true, beq_false, Bool.true_beq, Bool.false_beq, decide_false, if_true, if_false, Bool.false_eq_true, Bool.and_true, Bool.true_and, Bool.and_false, Bool.false_and, Bool.or_true, Bool.true_or, Bool.or_false, Bool.false_or, Bool.not_true, Bool.not_false, beq_self_eq_true, Bool.not_not, reduceIte, Nat.reduceBEq, Nat.reduceLT, Nat.reduceLeDiff, Nat.reduceAdd, Nat.reducePow, reduceCtorEq, BEq.rfl, List.length_cons, List.length_nil, List.length_map, List.map_cons, List.map_nil, String.reduceBEq, Option.some.injEq, pi_dct_int, pi_dct_bool, pi_dct_str, pi_dct_tuple, pi_dct_list, pi_tup_int, pi_tup_bool, pi_tup_str, pi_tup_tuple, pi_tup_list, pi_lst_int, pi_lst_bool, pi_lst_str, pi_lst_tuple, pi_lst_list, pi_int_int, pi_int_bool, pi_int_str, pi_int_tuple, pi_int_list, pi_bl_int, pi_bl_bool, pi_bl_str, pi_bl_tuple, pi_bl_list, pi_str_int, pi_str_bool, pi_str_str, pi_str_tuple, pi_str_list, pi_non_int, pi_non_bool, pi_non_str, pi_non_tuple, pi_non_list, pi_nat_int, pi_nat_bool, pi_nat_str, pi_nat_tuple, pi_nat_list, pi_strd_int, pi_strd_bool, pi_strd_str, pi_strd_tuple, pi_strd_list, pi_cube_int, pi_cube_bool, pi_cube_str, pi_cube_tuple, pi_cube_list, pi_cover_int, pi_cover_bool, pi_cover_str, pi_cover_tuple, pi_cover_list, cover_mk, ← List.map_take, ← List.map_drop, it_cube, sq_cube, uNeg1, ltNeg, key_nat, get_n, ix_dn, Option.map_some, cube_mk, bAdd, bAnd, bOr, bXor, bShr, uInv, bAndNot, aAdd, aOr, cEqN, cNeN, cEqS, cNeS, cEqC, cNeC, cEqB, cNeB, cLtN, cLeN, cGtN, cGeN, cIsN, cNsN, none_non, none_nat, none_cube, none_bl, none_str, none_tup, cIsB, cNsB, cInN, cEqNL, cNeNL, pr_sortL, cNiN, cInC, tr_bl, tr_non, tr_nat, tr_lst, tr_tup, ix_t0, ix_t1, ix_t2, ix_t3, ix_l0, ix_l1, ix_l2, ix_l3, ix_c0, ix_c1, pr_lenL, pr_lenT, pr_lenC, pr_lenD, pr_lenK, pr_tupL, pr_tupT, pr_lstL, pr_lstT, pr_lstC, pr_lstS, pr_intN, pr_intB, pr_sumN, pr_allB, pr_anyB, it_lst, it_tup, it_cov, sq_lst, sq_tup, sq_cov, fl_nat, fl_str, fl_bl, fl_non, fl_lst, fl_tup, fl_cube, fl_cover, fit0, fit1, fit2, fit3, fit4, end_none, end_nat, sl_lt, sl_lf, sl_tt, sl_tf, sl_ct, sl_cf, map_snoc, T_is_number, io_is_number, T_is_cube, io_is_cube, T_is_cover, io_is_cover, T_in_cube, io_in_cube, T_in_cover, io_in_cover, T_is_gate, io_is_gate, T_next_value, io_next_value, T_fights, io_fights, T_reads, io_reads, T__law_draws, io__law_draws, T__law_draw, io__law_draw, T__law_same, io__law_same, T__law_has, io__law_has, T__law_in, io__law_in, T__law_cube, io__law_cube, T__law_cover, io__law_cover, T__law_bits, io__law_bits, T__law_odd, io__law_odd, T__law_next, io__law_next, T__law_gate, io__law_gate, T__law_reads, io__law_reads, T__law_wrong, io__law_wrong, T_law, io_law, op_k_is_cover_0, rs_k_is_cover_0, op_k_in_cover_0, rs_k_in_cover_0, op_k__law_in_0, rs_k__law_in_0, op_k__law_cover_0, rs_k__law_cover_0, op_k__law_reads_2, rs_k__law_reads_2, h0, h1, h2, h3]
theorem ne2 (k : Nat) : cmpD .Eq (natD (k + 1 + 1 + 1)) (natD 2) = some false := by rw [cEqN, beqP (by omega)]
theorem ne3 (k : Nat) : cmpD .Eq (natD (k + 1 + 1 + 1 + 1)) (natD 3) = some false := by rw [cEqN, beqP (by omega)]
theorem ne4 : cmpD .Eq (natD (0 + 1 + 1)) (natD 3) = some false := by rw [cEqN]; rfl
theorem ee2 : cmpD .Eq (natD (0 + 1 + 1)) (natD 2) = some true := by rw [cEqN]; rfl
theorem ee3 : cmpD .Eq (natD (0 + 1 + 1 + 1)) (natD 3) = some true := by rw [cEqN]; rfl
theorem bad_sum3 {w : Nat} {a b : D} {r : List D} : Bad m w (.tup (strD "sum" :: a :: b :: r)) := fun N hN => by
  obtain ⟨n, rfl, hn⟩ := to_succ hN
  rw [callF_body T_is_gate rfl]
  have h0 := lt2 (r.length + 1)
  have h1 := ne2 r.length
  simp -implicitDefEqProofs only [f_is_gate, List.map_cons, List.map_nil, List.cons_append, List.nil_append, List.replicate, Nat.sub_self, Nat.reduceSub, end_rt, end_nx, end_ite, outsOf, forN_nil, bindV, bind_ite, opt_some, es_nil', es_cons', then_nx, then_bk, then_ct, then_rt, es1_asg', es1_setx', es1_aug', es1_par', es1_app', es1_ext', es1_ex', es1_ret', op_var, rs_var, op_cst, rs_cst, op_tup, rs_tup, op_lst, rs_lst, op_bin, rs_bin, op_un, rs_un, op_nt, rs_nt, op_cmp, rs_cmp, op_cmp2, rs_cmp2, op_and, rs_and, op_or, rs_or, op_ife, rs_ife, op_ix, rs_ix, op_sl, rs_sl, op_rev, rs_rev, op_call, rs_call, op_prim, rs_prim, op_comp, rs_comp, op_pop, rs_pop, op_dnew, rs_dnew, op_get, rs_get, es1_ret0', es1_ite', es1_brk', es1_cnt', es1_pass', es1_for', es1_wh', ev_var', ev_cst', ev_tup', ev_lst', ev_bin', ev_un', ev_nt', ev_cmp', ev_cmp2', ev_and', ev_or', ev_ife', ev_ix', ev_sl', ev_rev', ev_call', ev_prim', ev_pop', ev_dnew', ev_get', ev_sset', ev_lset', op_sset, op_lset, rs_sset, rs_lset, evs_nil', evs_cons', evx_no', evx_yes', evt_tru', evt_and', evt_or', evt_nt', evt_e', evi_seq', evi_rng', evi_rng2', evi_enum', getB, setB, pk, tk, pks, tks, B.dat, asg_nm, asg_tp, asg_cube, asgN, onOwn, stillB, backB, wipeB, turnF, turnX, turnC, ite_caA, ite_caO, ite_rA, ite_cp, ite_blT, ite_blF, ite_bT, ite_bF, ite_rF, ite_rT, ite_caF, ite_caT, doCall, callArgs, backIn, frzIn, okSlots, slotsOf, List.all_cons, List.all_nil, List.nodup_cons, List.nodup_nil, List.not_mem_nil, not_false_eq_true, and_self, decide_true, List.contains_nil, List.contains_cons, beq_true, beq_false, Bool.true_beq, Bool.false_beq, decide_false, if_true, if_false, Bool.false_eq_true, Bool.and_true, Bool.true_and, Bool.and_false, Bool.false_and, Bool.or_true, Bool.true_or, Bool.or_false, Bool.false_or, Bool.not_true, Bool.not_false, beq_self_eq_true, Bool.not_not, reduceIte, Nat.reduceBEq, Nat.reduceLT, Nat.reduceLeDiff, Nat.reduceAdd, Nat.reducePow, reduceCtorEq, BEq.rfl, List.length_cons, List.length_nil, List.length_map, List.map_cons, List.map_nil, String.reduceBEq, Option.some.injEq, pi_dct_int, pi_dct_bool, pi_dct_str, pi_dct_tuple, pi_dct_list, pi_tup_int, pi_tup_bool, pi_tup_str, pi_tup_tuple, pi_tup_list, pi_lst_int, pi_lst_bool, pi_lst_str, pi_lst_tuple, pi_lst_list, pi_int_int, pi_int_bool, pi_int_str, pi_int_tuple, pi_int_list, pi_bl_int, pi_bl_bool, pi_bl_str, pi_bl_tuple, pi_bl_list, pi_str_int, pi_str_bool, pi_str_str, pi_str_tuple, pi_str_list, pi_non_int, pi_non_bool, pi_non_str, pi_non_tuple, pi_non_list, pi_nat_int, pi_nat_bool, pi_nat_str, pi_nat_tuple, pi_nat_list, pi_strd_int, pi_strd_bool, pi_strd_str, pi_strd_tuple, pi_strd_list, pi_cube_int, pi_cube_bool, pi_cube_str, pi_cube_tuple, pi_cube_list, pi_cover_int, pi_cover_bool, pi_cover_str, pi_cover_tuple, pi_cover_list, cover_mk, ← List.map_take, ← List.map_drop, it_cube, sq_cube, uNeg1, ltNeg, key_nat, get_n, ix_dn, Option.map_some, cube_mk, bAdd, bAnd, bOr, bXor, bShr, uInv, bAndNot, aAdd, aOr, cEqN, cNeN, cEqS, cNeS, cEqC, cNeC, cEqB, cNeB, cLtN, cLeN, cGtN, cGeN, cIsN, cNsN, none_non, none_nat, none_cube, none_bl, none_str, none_tup, cIsB, cNsB, cInN, cEqNL, cNeNL, pr_sortL, cNiN, cInC, tr_bl, tr_non, tr_nat, tr_lst, tr_tup, ix_t0, ix_t1, ix_t2, ix_t3, ix_l0, ix_l1, ix_l2, ix_l3, ix_c0, ix_c1, pr_lenL, pr_lenT, pr_lenC, pr_lenD, pr_lenK, pr_tupL, pr_tupT, pr_lstL, pr_lstT, pr_lstC, pr_lstS, pr_intN, pr_intB, pr_sumN, pr_allB, pr_anyB, it_lst, it_tup, it_cov, sq_lst, sq_tup, sq_cov, fl_nat, fl_str, fl_bl, fl_non, fl_lst, fl_tup, fl_cube, fl_cover, fit0, fit1, fit2, fit3, fit4, end_none, end_nat, sl_lt, sl_lf, sl_tt, sl_tf, sl_ct, sl_cf, map_snoc, T_is_number, io_is_number, T_is_cube, io_is_cube, T_is_cover, io_is_cover, T_in_cube, io_in_cube, T_in_cover, io_in_cover, T_is_gate, io_is_gate, T_next_value, io_next_value, T_fights, io_fights, T_reads, io_reads, T__law_draws, io__law_draws, T__law_draw, io__law_draw, T__law_same, io__law_same, T__law_has, io__law_has, T__law_in, io__law_in, T__law_cube, io__law_cube, T__law_cover, io__law_cover, T__law_bits, io__law_bits, T__law_odd, io__law_odd, T__law_next, io__law_next, T__law_gate, io__law_gate, T__law_reads, io__law_reads, T__law_wrong, io__law_wrong, T_law, io_law, op_k_is_cover_0, rs_k_is_cover_0, op_k_in_cover_0, rs_k_in_cover_0, op_k__law_in_0, rs_k__law_in_0, op_k__law_cover_0, rs_k__law_cover_0, op_k__law_reads_2, rs_k__law_reads_2, h0, h1]
theorem bad_hold2 {w : Nat} {a : D} : Bad m w (.tup [strD "hold", a]) := fun N hN => by
  obtain ⟨n, rfl, hn⟩ := to_succ hN
  rw [callF_body T_is_gate rfl]
  have h0 := lt2 0
  have h1 := ne4
  simp -implicitDefEqProofs only [f_is_gate, List.map_cons, List.map_nil, List.cons_append, List.nil_append, List.replicate, Nat.sub_self, Nat.reduceSub, end_rt, end_nx, end_ite, outsOf, forN_nil, bindV, bind_ite, opt_some, es_nil', es_cons', then_nx, then_bk, then_ct, then_rt, es1_asg', es1_setx', es1_aug', es1_par', es1_app', es1_ext', es1_ex', es1_ret', op_var, rs_var, op_cst, rs_cst, op_tup, rs_tup, op_lst, rs_lst, op_bin, rs_bin, op_un, rs_un, op_nt, rs_nt, op_cmp, rs_cmp, op_cmp2, rs_cmp2, op_and, rs_and, op_or, rs_or, op_ife, rs_ife, op_ix, rs_ix, op_sl, rs_sl, op_rev, rs_rev, op_call, rs_call, op_prim, rs_prim, op_comp, rs_comp, op_pop, rs_pop, op_dnew, rs_dnew, op_get, rs_get, es1_ret0', es1_ite', es1_brk', es1_cnt', es1_pass', es1_for', es1_wh', ev_var', ev_cst', ev_tup', ev_lst', ev_bin', ev_un', ev_nt', ev_cmp', ev_cmp2', ev_and', ev_or', ev_ife', ev_ix', ev_sl', ev_rev', ev_call', ev_prim', ev_pop', ev_dnew', ev_get', ev_sset', ev_lset', op_sset, op_lset, rs_sset, rs_lset, evs_nil', evs_cons', evx_no', evx_yes', evt_tru', evt_and', evt_or', evt_nt', evt_e', evi_seq', evi_rng', evi_rng2', evi_enum', getB, setB, pk, tk, pks, tks, B.dat, asg_nm, asg_tp, asg_cube, asgN, onOwn, stillB, backB, wipeB, turnF, turnX, turnC, ite_caA, ite_caO, ite_rA, ite_cp, ite_blT, ite_blF, ite_bT, ite_bF, ite_rF, ite_rT, ite_caF, ite_caT, doCall, callArgs, backIn, frzIn, okSlots, slotsOf, List.all_cons, List.all_nil, List.nodup_cons, List.nodup_nil, List.not_mem_nil, not_false_eq_true, and_self, decide_true, List.contains_nil, List.contains_cons, beq_true, beq_false, Bool.true_beq, Bool.false_beq, decide_false, if_true, if_false, Bool.false_eq_true, Bool.and_true, Bool.true_and, Bool.and_false, Bool.false_and, Bool.or_true, Bool.true_or, Bool.or_false, Bool.false_or, Bool.not_true, Bool.not_false, beq_self_eq_true, Bool.not_not, reduceIte, Nat.reduceBEq, Nat.reduceLT, Nat.reduceLeDiff, Nat.reduceAdd, Nat.reducePow, reduceCtorEq, BEq.rfl, List.length_cons, List.length_nil, List.length_map, List.map_cons, List.map_nil, String.reduceBEq, Option.some.injEq, pi_dct_int, pi_dct_bool, pi_dct_str, pi_dct_tuple, pi_dct_list, pi_tup_int, pi_tup_bool, pi_tup_str, pi_tup_tuple, pi_tup_list, pi_lst_int, pi_lst_bool, pi_lst_str, pi_lst_tuple, pi_lst_list, pi_int_int, pi_int_bool, pi_int_str, pi_int_tuple, pi_int_list, pi_bl_int, pi_bl_bool, pi_bl_str, pi_bl_tuple, pi_bl_list, pi_str_int, pi_str_bool, pi_str_str, pi_str_tuple, pi_str_list, pi_non_int, pi_non_bool, pi_non_str, pi_non_tuple, pi_non_list, pi_nat_int, pi_nat_bool, pi_nat_str, pi_nat_tuple, pi_nat_list, pi_strd_int, pi_strd_bool, pi_strd_str, pi_strd_tuple, pi_strd_list, pi_cube_int, pi_cube_bool, pi_cube_str, pi_cube_tuple, pi_cube_list, pi_cover_int, pi_cover_bool, pi_cover_str, pi_cover_tuple, pi_cover_list, cover_mk, ← List.map_take, ← List.map_drop, it_cube, sq_cube, uNeg1, ltNeg, key_nat, get_n, ix_dn, Option.map_some, cube_mk, bAdd, bAnd, bOr, bXor, bShr, uInv, bAndNot, aAdd, aOr, cEqN, cNeN, cEqS, cNeS, cEqC, cNeC, cEqB, cNeB, cLtN, cLeN, cGtN, cGeN, cIsN, cNsN, none_non, none_nat, none_cube, none_bl, none_str, none_tup, cIsB, cNsB, cInN, cEqNL, cNeNL, pr_sortL, cNiN, cInC, tr_bl, tr_non, tr_nat, tr_lst, tr_tup, ix_t0, ix_t1, ix_t2, ix_t3, ix_l0, ix_l1, ix_l2, ix_l3, ix_c0, ix_c1, pr_lenL, pr_lenT, pr_lenC, pr_lenD, pr_lenK, pr_tupL, pr_tupT, pr_lstL, pr_lstT, pr_lstC, pr_lstS, pr_intN, pr_intB, pr_sumN, pr_allB, pr_anyB, it_lst, it_tup, it_cov, sq_lst, sq_tup, sq_cov, fl_nat, fl_str, fl_bl, fl_non, fl_lst, fl_tup, fl_cube, fl_cover, fit0, fit1, fit2, fit3, fit4, end_none, end_nat, sl_lt, sl_lf, sl_tt, sl_tf, sl_ct, sl_cf, map_snoc, T_is_number, io_is_number, T_is_cube, io_is_cube, T_is_cover, io_is_cover, T_in_cube, io_in_cube, T_in_cover, io_in_cover, T_is_gate, io_is_gate, T_next_value, io_next_value, T_fights, io_fights, T_reads, io_reads, T__law_draws, io__law_draws, T__law_draw, io__law_draw, T__law_same, io__law_same, T__law_has, io__law_has, T__law_in, io__law_in, T__law_cube, io__law_cube, T__law_cover, io__law_cover, T__law_bits, io__law_bits, T__law_odd, io__law_odd, T__law_next, io__law_next, T__law_gate, io__law_gate, T__law_reads, io__law_reads, T__law_wrong, io__law_wrong, T_law, io_law, op_k_is_cover_0, rs_k_is_cover_0, op_k_in_cover_0, rs_k_in_cover_0, op_k__law_in_0, rs_k__law_in_0, op_k__law_cover_0, rs_k__law_cover_0, op_k__law_reads_2, rs_k__law_reads_2, h0, h1, hs1]
theorem bad_hold4 {w : Nat} {a b c : D} {r : List D} : Bad m w (.tup (strD "hold" :: a :: b :: c :: r)) := fun N hN => by
  obtain ⟨n, rfl, hn⟩ := to_succ hN
  rw [callF_body T_is_gate rfl]
  have h0 := lt2 (r.length + 1 + 1)
  have h1 := ne3 r.length
  simp -implicitDefEqProofs only [f_is_gate, List.map_cons, List.map_nil, List.cons_append, List.nil_append, List.replicate, Nat.sub_self, Nat.reduceSub, end_rt, end_nx, end_ite, outsOf, forN_nil, bindV, bind_ite, opt_some, es_nil', es_cons', then_nx, then_bk, then_ct, then_rt, es1_asg', es1_setx', es1_aug', es1_par', es1_app', es1_ext', es1_ex', es1_ret', op_var, rs_var, op_cst, rs_cst, op_tup, rs_tup, op_lst, rs_lst, op_bin, rs_bin, op_un, rs_un, op_nt, rs_nt, op_cmp, rs_cmp, op_cmp2, rs_cmp2, op_and, rs_and, op_or, rs_or, op_ife, rs_ife, op_ix, rs_ix, op_sl, rs_sl, op_rev, rs_rev, op_call, rs_call, op_prim, rs_prim, op_comp, rs_comp, op_pop, rs_pop, op_dnew, rs_dnew, op_get, rs_get, es1_ret0', es1_ite', es1_brk', es1_cnt', es1_pass', es1_for', es1_wh', ev_var', ev_cst', ev_tup', ev_lst', ev_bin', ev_un', ev_nt', ev_cmp', ev_cmp2', ev_and', ev_or', ev_ife', ev_ix', ev_sl', ev_rev', ev_call', ev_prim', ev_pop', ev_dnew', ev_get', ev_sset', ev_lset', op_sset, op_lset, rs_sset, rs_lset, evs_nil', evs_cons', evx_no', evx_yes', evt_tru', evt_and', evt_or', evt_nt', evt_e', evi_seq', evi_rng', evi_rng2', evi_enum', getB, setB, pk, tk, pks, tks, B.dat, asg_nm, asg_tp, asg_cube, asgN, onOwn, stillB, backB, wipeB, turnF, turnX, turnC, ite_caA, ite_caO, ite_rA, ite_cp, ite_blT, ite_blF, ite_bT, ite_bF, ite_rF, ite_rT, ite_caF, ite_caT, doCall, callArgs, backIn, frzIn, okSlots, slotsOf, List.all_cons, List.all_nil, List.nodup_cons, List.nodup_nil, List.not_mem_nil, not_false_eq_true, and_self, decide_true, List.contains_nil, List.contains_cons, beq_true, beq_false, Bool.true_beq, Bool.false_beq, decide_false, if_true, if_false, Bool.false_eq_true, Bool.and_true, Bool.true_and, Bool.and_false, Bool.false_and, Bool.or_true, Bool.true_or, Bool.or_false, Bool.false_or, Bool.not_true, Bool.not_false, beq_self_eq_true, Bool.not_not, reduceIte, Nat.reduceBEq, Nat.reduceLT, Nat.reduceLeDiff, Nat.reduceAdd, Nat.reducePow, reduceCtorEq, BEq.rfl, List.length_cons, List.length_nil, List.length_map, List.map_cons, List.map_nil, String.reduceBEq, Option.some.injEq, pi_dct_int, pi_dct_bool, pi_dct_str, pi_dct_tuple, pi_dct_list, pi_tup_int, pi_tup_bool, pi_tup_str, pi_tup_tuple, pi_tup_list, pi_lst_int, pi_lst_bool, pi_lst_str, pi_lst_tuple, pi_lst_list, pi_int_int, pi_int_bool, pi_int_str, pi_int_tuple, pi_int_list, pi_bl_int, pi_bl_bool, pi_bl_str, pi_bl_tuple, pi_bl_list, pi_str_int, pi_str_bool, pi_str_str, pi_str_tuple, pi_str_list, pi_non_int, pi_non_bool, pi_non_str, pi_non_tuple, pi_non_list, pi_nat_int, pi_nat_bool, pi_nat_str, pi_nat_tuple, pi_nat_list, pi_strd_int, pi_strd_bool, pi_strd_str, pi_strd_tuple, pi_strd_list, pi_cube_int, pi_cube_bool, pi_cube_str, pi_cube_tuple, pi_cube_list, pi_cover_int, pi_cover_bool, pi_cover_str, pi_cover_tuple, pi_cover_list, cover_mk, ← List.map_take, ← List.map_drop, it_cube, sq_cube, uNeg1, ltNeg, key_nat, get_n, ix_dn, Option.map_some, cube_mk, bAdd, bAnd, bOr, bXor, bShr, uInv, bAndNot, aAdd, aOr, cEqN, cNeN, cEqS, cNeS, cEqC, cNeC, cEqB, cNeB, cLtN, cLeN, cGtN, cGeN, cIsN, cNsN, none_non, none_nat, none_cube, none_bl, none_str, none_tup, cIsB, cNsB, cInN, cEqNL, cNeNL, pr_sortL, cNiN, cInC, tr_bl, tr_non, tr_nat, tr_lst, tr_tup, ix_t0, ix_t1, ix_t2, ix_t3, ix_l0, ix_l1, ix_l2, ix_l3, ix_c0, ix_c1, pr_lenL, pr_lenT, pr_lenC, pr_lenD, pr_lenK, pr_tupL, pr_tupT, pr_lstL, pr_lstT, pr_lstC, pr_lstS, pr_intN, pr_intB, pr_sumN, pr_allB, pr_anyB, it_lst, it_tup, it_cov, sq_lst, sq_tup, sq_cov, fl_nat, fl_str, fl_bl, fl_non, fl_lst, fl_tup, fl_cube, fl_cover, fit0, fit1, fit2, fit3, fit4, end_none, end_nat, sl_lt, sl_lf, sl_tt, sl_tf, sl_ct, sl_cf, map_snoc, T_is_number, io_is_number, T_is_cube, io_is_cube, T_is_cover, io_is_cover, T_in_cube, io_in_cube, T_in_cover, io_in_cover, T_is_gate, io_is_gate, T_next_value, io_next_value, T_fights, io_fights, T_reads, io_reads, T__law_draws, io__law_draws, T__law_draw, io__law_draw, T__law_same, io__law_same, T__law_has, io__law_has, T__law_in, io__law_in, T__law_cube, io__law_cube, T__law_cover, io__law_cover, T__law_bits, io__law_bits, T__law_odd, io__law_odd, T__law_next, io__law_next, T__law_gate, io__law_gate, T__law_reads, io__law_reads, T__law_wrong, io__law_wrong, T_law, io_law, op_k_is_cover_0, rs_k_is_cover_0, op_k_in_cover_0, rs_k_in_cover_0, op_k__law_in_0, rs_k__law_in_0, op_k__law_cover_0, rs_k__law_cover_0, op_k__law_reads_2, rs_k__law_reads_2, h0, h1, hs1]
theorem bad_pick2 {w : Nat} {a : D} : Bad m w (.tup [strD "pick", a]) := fun N hN => by
  obtain ⟨n, rfl, hn⟩ := to_succ hN
  rw [callF_body T_is_gate rfl]
  have h0 := lt2 0
  have h1 := ne4
  simp -implicitDefEqProofs only [f_is_gate, List.map_cons, List.map_nil, List.cons_append, List.nil_append, List.replicate, Nat.sub_self, Nat.reduceSub, end_rt, end_nx, end_ite, outsOf, forN_nil, bindV, bind_ite, opt_some, es_nil', es_cons', then_nx, then_bk, then_ct, then_rt, es1_asg', es1_setx', es1_aug', es1_par', es1_app', es1_ext', es1_ex', es1_ret', op_var, rs_var, op_cst, rs_cst, op_tup, rs_tup, op_lst, rs_lst, op_bin, rs_bin, op_un, rs_un, op_nt, rs_nt, op_cmp, rs_cmp, op_cmp2, rs_cmp2, op_and, rs_and, op_or, rs_or, op_ife, rs_ife, op_ix, rs_ix, op_sl, rs_sl, op_rev, rs_rev, op_call, rs_call, op_prim, rs_prim, op_comp, rs_comp, op_pop, rs_pop, op_dnew, rs_dnew, op_get, rs_get, es1_ret0', es1_ite', es1_brk', es1_cnt', es1_pass', es1_for', es1_wh', ev_var', ev_cst', ev_tup', ev_lst', ev_bin', ev_un', ev_nt', ev_cmp', ev_cmp2', ev_and', ev_or', ev_ife', ev_ix', ev_sl', ev_rev', ev_call', ev_prim', ev_pop', ev_dnew', ev_get', ev_sset', ev_lset', op_sset, op_lset, rs_sset, rs_lset, evs_nil', evs_cons', evx_no', evx_yes', evt_tru', evt_and', evt_or', evt_nt', evt_e', evi_seq', evi_rng', evi_rng2', evi_enum', getB, setB, pk, tk, pks, tks, B.dat, asg_nm, asg_tp, asg_cube, asgN, onOwn, stillB, backB, wipeB, turnF, turnX, turnC, ite_caA, ite_caO, ite_rA, ite_cp, ite_blT, ite_blF, ite_bT, ite_bF, ite_rF, ite_rT, ite_caF, ite_caT, doCall, callArgs, backIn, frzIn, okSlots, slotsOf, List.all_cons, List.all_nil, List.nodup_cons, List.nodup_nil, List.not_mem_nil, not_false_eq_true, and_self, decide_true, List.contains_nil, List.contains_cons, beq_true, beq_false, Bool.true_beq, Bool.false_beq, decide_false, if_true, if_false, Bool.false_eq_true, Bool.and_true, Bool.true_and, Bool.and_false, Bool.false_and, Bool.or_true, Bool.true_or, Bool.or_false, Bool.false_or, Bool.not_true, Bool.not_false, beq_self_eq_true, Bool.not_not, reduceIte, Nat.reduceBEq, Nat.reduceLT, Nat.reduceLeDiff, Nat.reduceAdd, Nat.reducePow, reduceCtorEq, BEq.rfl, List.length_cons, List.length_nil, List.length_map, List.map_cons, List.map_nil, String.reduceBEq, Option.some.injEq, pi_dct_int, pi_dct_bool, pi_dct_str, pi_dct_tuple, pi_dct_list, pi_tup_int, pi_tup_bool, pi_tup_str, pi_tup_tuple, pi_tup_list, pi_lst_int, pi_lst_bool, pi_lst_str, pi_lst_tuple, pi_lst_list, pi_int_int, pi_int_bool, pi_int_str, pi_int_tuple, pi_int_list, pi_bl_int, pi_bl_bool, pi_bl_str, pi_bl_tuple, pi_bl_list, pi_str_int, pi_str_bool, pi_str_str, pi_str_tuple, pi_str_list, pi_non_int, pi_non_bool, pi_non_str, pi_non_tuple, pi_non_list, pi_nat_int, pi_nat_bool, pi_nat_str, pi_nat_tuple, pi_nat_list, pi_strd_int, pi_strd_bool, pi_strd_str, pi_strd_tuple, pi_strd_list, pi_cube_int, pi_cube_bool, pi_cube_str, pi_cube_tuple, pi_cube_list, pi_cover_int, pi_cover_bool, pi_cover_str, pi_cover_tuple, pi_cover_list, cover_mk, ← List.map_take, ← List.map_drop, it_cube, sq_cube, uNeg1, ltNeg, key_nat, get_n, ix_dn, Option.map_some, cube_mk, bAdd, bAnd, bOr, bXor, bShr, uInv, bAndNot, aAdd, aOr, cEqN, cNeN, cEqS, cNeS, cEqC, cNeC, cEqB, cNeB, cLtN, cLeN, cGtN, cGeN, cIsN, cNsN, none_non, none_nat, none_cube, none_bl, none_str, none_tup, cIsB, cNsB, cInN, cEqNL, cNeNL, pr_sortL, cNiN, cInC, tr_bl, tr_non, tr_nat, tr_lst, tr_tup, ix_t0, ix_t1, ix_t2, ix_t3, ix_l0, ix_l1, ix_l2, ix_l3, ix_c0, ix_c1, pr_lenL, pr_lenT, pr_lenC, pr_lenD, pr_lenK, pr_tupL, pr_tupT, pr_lstL, pr_lstT, pr_lstC, pr_lstS, pr_intN, pr_intB, pr_sumN, pr_allB, pr_anyB, it_lst, it_tup, it_cov, sq_lst, sq_tup, sq_cov, fl_nat, fl_str, fl_bl, fl_non, fl_lst, fl_tup, fl_cube, fl_cover, fit0, fit1, fit2, fit3, fit4, end_none, end_nat, sl_lt, sl_lf, sl_tt, sl_tf, sl_ct, sl_cf, map_snoc, T_is_number, io_is_number, T_is_cube, io_is_cube, T_is_cover, io_is_cover, T_in_cube, io_in_cube, T_in_cover, io_in_cover, T_is_gate, io_is_gate, T_next_value, io_next_value, T_fights, io_fights, T_reads, io_reads, T__law_draws, io__law_draws, T__law_draw, io__law_draw, T__law_same, io__law_same, T__law_has, io__law_has, T__law_in, io__law_in, T__law_cube, io__law_cube, T__law_cover, io__law_cover, T__law_bits, io__law_bits, T__law_odd, io__law_odd, T__law_next, io__law_next, T__law_gate, io__law_gate, T__law_reads, io__law_reads, T__law_wrong, io__law_wrong, T_law, io_law, op_k_is_cover_0, rs_k_is_cover_0, op_k_in_cover_0, rs_k_in_cover_0, op_k__law_in_0, rs_k__law_in_0, op_k__law_cover_0, rs_k__law_cover_0, op_k__law_reads_2, rs_k__law_reads_2, h0, h1, hs3, hs4]
theorem bad_pick4 {w : Nat} {a b c : D} {r : List D} : Bad m w (.tup (strD "pick" :: a :: b :: c :: r)) := fun N hN => by
  obtain ⟨n, rfl, hn⟩ := to_succ hN
  rw [callF_body T_is_gate rfl]
  have h0 := lt2 (r.length + 1 + 1)
  have h1 := ne3 r.length
  simp -implicitDefEqProofs only [f_is_gate, List.map_cons, List.map_nil, List.cons_append, List.nil_append, List.replicate, Nat.sub_self, Nat.reduceSub, end_rt, end_nx, end_ite, outsOf, forN_nil, bindV, bind_ite, opt_some, es_nil', es_cons', then_nx, then_bk, then_ct, then_rt, es1_asg', es1_setx', es1_aug', es1_par', es1_app', es1_ext', es1_ex', es1_ret', op_var, rs_var, op_cst, rs_cst, op_tup, rs_tup, op_lst, rs_lst, op_bin, rs_bin, op_un, rs_un, op_nt, rs_nt, op_cmp, rs_cmp, op_cmp2, rs_cmp2, op_and, rs_and, op_or, rs_or, op_ife, rs_ife, op_ix, rs_ix, op_sl, rs_sl, op_rev, rs_rev, op_call, rs_call, op_prim, rs_prim, op_comp, rs_comp, op_pop, rs_pop, op_dnew, rs_dnew, op_get, rs_get, es1_ret0', es1_ite', es1_brk', es1_cnt', es1_pass', es1_for', es1_wh', ev_var', ev_cst', ev_tup', ev_lst', ev_bin', ev_un', ev_nt', ev_cmp', ev_cmp2', ev_and', ev_or', ev_ife', ev_ix', ev_sl', ev_rev', ev_call', ev_prim', ev_pop', ev_dnew', ev_get', ev_sset', ev_lset', op_sset, op_lset, rs_sset, rs_lset, evs_nil', evs_cons', evx_no', evx_yes', evt_tru', evt_and', evt_or', evt_nt', evt_e', evi_seq', evi_rng', evi_rng2', evi_enum', getB, setB, pk, tk, pks, tks, B.dat, asg_nm, asg_tp, asg_cube, asgN, onOwn, stillB, backB, wipeB, turnF, turnX, turnC, ite_caA, ite_caO, ite_rA, ite_cp, ite_blT, ite_blF, ite_bT, ite_bF, ite_rF, ite_rT, ite_caF, ite_caT, doCall, callArgs, backIn, frzIn, okSlots, slotsOf, List.all_cons, List.all_nil, List.nodup_cons, List.nodup_nil, List.not_mem_nil, not_false_eq_true, and_self, decide_true, List.contains_nil, List.contains_cons, beq_true, beq_false, Bool.true_beq, Bool.false_beq, decide_false, if_true, if_false, Bool.false_eq_true, Bool.and_true, Bool.true_and, Bool.and_false, Bool.false_and, Bool.or_true, Bool.true_or, Bool.or_false, Bool.false_or, Bool.not_true, Bool.not_false, beq_self_eq_true, Bool.not_not, reduceIte, Nat.reduceBEq, Nat.reduceLT, Nat.reduceLeDiff, Nat.reduceAdd, Nat.reducePow, reduceCtorEq, BEq.rfl, List.length_cons, List.length_nil, List.length_map, List.map_cons, List.map_nil, String.reduceBEq, Option.some.injEq, pi_dct_int, pi_dct_bool, pi_dct_str, pi_dct_tuple, pi_dct_list, pi_tup_int, pi_tup_bool, pi_tup_str, pi_tup_tuple, pi_tup_list, pi_lst_int, pi_lst_bool, pi_lst_str, pi_lst_tuple, pi_lst_list, pi_int_int, pi_int_bool, pi_int_str, pi_int_tuple, pi_int_list, pi_bl_int, pi_bl_bool, pi_bl_str, pi_bl_tuple, pi_bl_list, pi_str_int, pi_str_bool, pi_str_str, pi_str_tuple, pi_str_list, pi_non_int, pi_non_bool, pi_non_str, pi_non_tuple, pi_non_list, pi_nat_int, pi_nat_bool, pi_nat_str, pi_nat_tuple, pi_nat_list, pi_strd_int, pi_strd_bool, pi_strd_str, pi_strd_tuple, pi_strd_list, pi_cube_int, pi_cube_bool, pi_cube_str, pi_cube_tuple, pi_cube_list, pi_cover_int, pi_cover_bool, pi_cover_str, pi_cover_tuple, pi_cover_list, cover_mk, ← List.map_take, ← List.map_drop, it_cube, sq_cube, uNeg1, ltNeg, key_nat, get_n, ix_dn, Option.map_some, cube_mk, bAdd, bAnd, bOr, bXor, bShr, uInv, bAndNot, aAdd, aOr, cEqN, cNeN, cEqS, cNeS, cEqC, cNeC, cEqB, cNeB, cLtN, cLeN, cGtN, cGeN, cIsN, cNsN, none_non, none_nat, none_cube, none_bl, none_str, none_tup, cIsB, cNsB, cInN, cEqNL, cNeNL, pr_sortL, cNiN, cInC, tr_bl, tr_non, tr_nat, tr_lst, tr_tup, ix_t0, ix_t1, ix_t2, ix_t3, ix_l0, ix_l1, ix_l2, ix_l3, ix_c0, ix_c1, pr_lenL, pr_lenT, pr_lenC, pr_lenD, pr_lenK, pr_tupL, pr_tupT, pr_lstL, pr_lstT, pr_lstC, pr_lstS, pr_intN, pr_intB, pr_sumN, pr_allB, pr_anyB, it_lst, it_tup, it_cov, sq_lst, sq_tup, sq_cov, fl_nat, fl_str, fl_bl, fl_non, fl_lst, fl_tup, fl_cube, fl_cover, fit0, fit1, fit2, fit3, fit4, end_none, end_nat, sl_lt, sl_lf, sl_tt, sl_tf, sl_ct, sl_cf, map_snoc, T_is_number, io_is_number, T_is_cube, io_is_cube, T_is_cover, io_is_cover, T_in_cube, io_in_cube, T_in_cover, io_in_cover, T_is_gate, io_is_gate, T_next_value, io_next_value, T_fights, io_fights, T_reads, io_reads, T__law_draws, io__law_draws, T__law_draw, io__law_draw, T__law_same, io__law_same, T__law_has, io__law_has, T__law_in, io__law_in, T__law_cube, io__law_cube, T__law_cover, io__law_cover, T__law_bits, io__law_bits, T__law_odd, io__law_odd, T__law_next, io__law_next, T__law_gate, io__law_gate, T__law_reads, io__law_reads, T__law_wrong, io__law_wrong, T_law, io_law, op_k_is_cover_0, rs_k_is_cover_0, op_k_in_cover_0, rs_k_in_cover_0, op_k__law_in_0, rs_k__law_in_0, op_k__law_cover_0, rs_k__law_cover_0, op_k__law_reads_2, rs_k__law_reads_2, h0, h1, hs3, hs4]
theorem sum_eval {N : Nat} {w : Nat} {a : D} {p : Bool} (c1 : callF T m N 2 [.sh a, .sh (natD w)] = .ret false (.bl p) [.sh a, .sh (natD w)]) :
    callF T m (N + 1) 5 [.sh (.tup [strD "sum", a]), .sh (natD w)] = .ret false (.bl p) [.sh (.tup [strD "sum", a]), .sh (natD w)] := by
  rw [callF_body T_is_gate rfl]
  have h0 := lt2 0
  have h1 := ee2
  simp -implicitDefEqProofs only [f_is_gate, List.map_cons, List.map_nil, List.cons_append, List.nil_append, List.replicate, Nat.sub_self, Nat.reduceSub, end_rt, end_nx, end_ite, outsOf, forN_nil, bindV, bind_ite, opt_some, es_nil', es_cons', then_nx, then_bk, then_ct, then_rt, es1_asg', es1_setx', es1_aug', es1_par', es1_app', es1_ext', es1_ex', es1_ret', op_var, rs_var, op_cst, rs_cst, op_tup, rs_tup, op_lst, rs_lst, op_bin, rs_bin, op_un, rs_un, op_nt, rs_nt, op_cmp, rs_cmp, op_cmp2, rs_cmp2, op_and, rs_and, op_or, rs_or, op_ife, rs_ife, op_ix, rs_ix, op_sl, rs_sl, op_rev, rs_rev, op_call, rs_call, op_prim, rs_prim, op_comp, rs_comp, op_pop, rs_pop, op_dnew, rs_dnew, op_get, rs_get, es1_ret0', es1_ite', es1_brk', es1_cnt', es1_pass', es1_for', es1_wh', ev_var', ev_cst', ev_tup', ev_lst', ev_bin', ev_un', ev_nt', ev_cmp', ev_cmp2', ev_and', ev_or', ev_ife', ev_ix', ev_sl', ev_rev', ev_call', ev_prim', ev_pop', ev_dnew', ev_get', ev_sset', ev_lset', op_sset, op_lset, rs_sset, rs_lset, evs_nil', evs_cons', evx_no', evx_yes', evt_tru', evt_and', evt_or', evt_nt', evt_e', evi_seq', evi_rng', evi_rng2', evi_enum', getB, setB, pk, tk, pks, tks, B.dat, asg_nm, asg_tp, asg_cube, asgN, onOwn, stillB, backB, wipeB, turnF, turnX, turnC, ite_caA, ite_caO, ite_rA, ite_cp, ite_blT, ite_blF, ite_bT, ite_bF, ite_rF, ite_rT, ite_caF, ite_caT, doCall, callArgs, backIn, frzIn, okSlots, slotsOf, List.all_cons, List.all_nil, List.nodup_cons, List.nodup_nil, List.not_mem_nil, not_false_eq_true, and_self, decide_true, List.contains_nil, List.contains_cons, beq_true, beq_false, Bool.true_beq, Bool.false_beq, decide_false, if_true, if_false, Bool.false_eq_true, Bool.and_true, Bool.true_and, Bool.and_false, Bool.false_and, Bool.or_true, Bool.true_or, Bool.or_false, Bool.false_or, Bool.not_true, Bool.not_false, beq_self_eq_true, Bool.not_not, reduceIte, Nat.reduceBEq, Nat.reduceLT, Nat.reduceLeDiff, Nat.reduceAdd, Nat.reducePow, reduceCtorEq, BEq.rfl, List.length_cons, List.length_nil, List.length_map, List.map_cons, List.map_nil, String.reduceBEq, Option.some.injEq, pi_dct_int, pi_dct_bool, pi_dct_str, pi_dct_tuple, pi_dct_list, pi_tup_int, pi_tup_bool, pi_tup_str, pi_tup_tuple, pi_tup_list, pi_lst_int, pi_lst_bool, pi_lst_str, pi_lst_tuple, pi_lst_list, pi_int_int, pi_int_bool, pi_int_str, pi_int_tuple, pi_int_list, pi_bl_int, pi_bl_bool, pi_bl_str, pi_bl_tuple, pi_bl_list, pi_str_int, pi_str_bool, pi_str_str, pi_str_tuple, pi_str_list, pi_non_int, pi_non_bool, pi_non_str, pi_non_tuple, pi_non_list, pi_nat_int, pi_nat_bool, pi_nat_str, pi_nat_tuple, pi_nat_list, pi_strd_int, pi_strd_bool, pi_strd_str, pi_strd_tuple, pi_strd_list, pi_cube_int, pi_cube_bool, pi_cube_str, pi_cube_tuple, pi_cube_list, pi_cover_int, pi_cover_bool, pi_cover_str, pi_cover_tuple, pi_cover_list, cover_mk, ← List.map_take, ← List.map_drop, it_cube, sq_cube, uNeg1, ltNeg, key_nat, get_n, ix_dn, Option.map_some, cube_mk, bAdd, bAnd, bOr, bXor, bShr, uInv, bAndNot, aAdd, aOr, cEqN, cNeN, cEqS, cNeS, cEqC, cNeC, cEqB, cNeB, cLtN, cLeN, cGtN, cGeN, cIsN, cNsN, none_non, none_nat, none_cube, none_bl, none_str, none_tup, cIsB, cNsB, cInN, cEqNL, cNeNL, pr_sortL, cNiN, cInC, tr_bl, tr_non, tr_nat, tr_lst, tr_tup, ix_t0, ix_t1, ix_t2, ix_t3, ix_l0, ix_l1, ix_l2, ix_l3, ix_c0, ix_c1, pr_lenL, pr_lenT, pr_lenC, pr_lenD, pr_lenK, pr_tupL, pr_tupT, pr_lstL, pr_lstT, pr_lstC, pr_lstS, pr_intN, pr_intB, pr_sumN, pr_allB, pr_anyB, it_lst, it_tup, it_cov, sq_lst, sq_tup, sq_cov, fl_nat, fl_str, fl_bl, fl_non, fl_lst, fl_tup, fl_cube, fl_cover, fit0, fit1, fit2, fit3, fit4, end_none, end_nat, sl_lt, sl_lf, sl_tt, sl_tf, sl_ct, sl_cf, map_snoc, T_is_number, io_is_number, T_is_cube, io_is_cube, T_is_cover, io_is_cover, T_in_cube, io_in_cube, T_in_cover, io_in_cover, T_is_gate, io_is_gate, T_next_value, io_next_value, T_fights, io_fights, T_reads, io_reads, T__law_draws, io__law_draws, T__law_draw, io__law_draw, T__law_same, io__law_same, T__law_has, io__law_has, T__law_in, io__law_in, T__law_cube, io__law_cube, T__law_cover, io__law_cover, T__law_bits, io__law_bits, T__law_odd, io__law_odd, T__law_next, io__law_next, T__law_gate, io__law_gate, T__law_reads, io__law_reads, T__law_wrong, io__law_wrong, T_law, io_law, op_k_is_cover_0, rs_k_is_cover_0, op_k_in_cover_0, rs_k_in_cover_0, op_k__law_in_0, rs_k__law_in_0, op_k__law_cover_0, rs_k__law_cover_0, op_k__law_reads_2, rs_k__law_reads_2, h0, h1, c1]
theorem hold_eval {N : Nat} {w : Nat} {a b : D} {p q : Bool} (c1 : callF T m N 2 [.sh a, .sh (natD w)] = .ret false (.bl p) [.sh a, .sh (natD w)]) (c2 : callF T m N 2 [.sh b, .sh (natD w)] = .ret false (.bl q) [.sh b, .sh (natD w)]) :
    callF T m (N + 1) 5 [.sh (.tup [strD "hold", a, b]), .sh (natD w)] = .ret false (.bl (p && q)) [.sh (.tup [strD "hold", a, b]), .sh (natD w)] := by
  rw [callF_body T_is_gate rfl]
  have h0 := lt2 (0 + 1)
  have h1 := ee3
  cases p <;> simp -implicitDefEqProofs only [f_is_gate, List.map_cons, List.map_nil, List.cons_append, List.nil_append, List.replicate, Nat.sub_self, Nat.reduceSub, end_rt, end_nx, end_ite, outsOf, forN_nil, bindV, bind_ite, opt_some, es_nil', es_cons', then_nx, then_bk, then_ct, then_rt, es1_asg', es1_setx', es1_aug', es1_par', es1_app', es1_ext', es1_ex', es1_ret', op_var, rs_var, op_cst, rs_cst, op_tup, rs_tup, op_lst, rs_lst, op_bin, rs_bin, op_un, rs_un, op_nt, rs_nt, op_cmp, rs_cmp, op_cmp2, rs_cmp2, op_and, rs_and, op_or, rs_or, op_ife, rs_ife, op_ix, rs_ix, op_sl, rs_sl, op_rev, rs_rev, op_call, rs_call, op_prim, rs_prim, op_comp, rs_comp, op_pop, rs_pop, op_dnew, rs_dnew, op_get, rs_get, es1_ret0', es1_ite', es1_brk', es1_cnt', es1_pass', es1_for', es1_wh', ev_var', ev_cst', ev_tup', ev_lst', ev_bin', ev_un', ev_nt', ev_cmp', ev_cmp2', ev_and', ev_or', ev_ife', ev_ix', ev_sl', ev_rev', ev_call', ev_prim', ev_pop', ev_dnew', ev_get', ev_sset', ev_lset', op_sset, op_lset, rs_sset, rs_lset, evs_nil', evs_cons', evx_no', evx_yes', evt_tru', evt_and', evt_or', evt_nt', evt_e', evi_seq', evi_rng', evi_rng2', evi_enum', getB, setB, pk, tk, pks, tks, B.dat, asg_nm, asg_tp, asg_cube, asgN, onOwn, stillB, backB, wipeB, turnF, turnX, turnC, ite_caA, ite_caO, ite_rA, ite_cp, ite_blT, ite_blF, ite_bT, ite_bF, ite_rF, ite_rT, ite_caF, ite_caT, doCall, callArgs, backIn, frzIn, okSlots, slotsOf, List.all_cons, List.all_nil, List.nodup_cons, List.nodup_nil, List.not_mem_nil, not_false_eq_true, and_self, decide_true, List.contains_nil, List.contains_cons, beq_true, beq_false, Bool.true_beq, Bool.false_beq, decide_false, if_true, if_false, Bool.false_eq_true, Bool.and_true, Bool.true_and, Bool.and_false, Bool.false_and, Bool.or_true, Bool.true_or, Bool.or_false, Bool.false_or, Bool.not_true, Bool.not_false, beq_self_eq_true, Bool.not_not, reduceIte, Nat.reduceBEq, Nat.reduceLT, Nat.reduceLeDiff, Nat.reduceAdd, Nat.reducePow, reduceCtorEq, BEq.rfl, List.length_cons, List.length_nil, List.length_map, List.map_cons, List.map_nil, String.reduceBEq, Option.some.injEq, pi_dct_int, pi_dct_bool, pi_dct_str, pi_dct_tuple, pi_dct_list, pi_tup_int, pi_tup_bool, pi_tup_str, pi_tup_tuple, pi_tup_list, pi_lst_int, pi_lst_bool, pi_lst_str, pi_lst_tuple, pi_lst_list, pi_int_int, pi_int_bool, pi_int_str, pi_int_tuple, pi_int_list, pi_bl_int, pi_bl_bool, pi_bl_str, pi_bl_tuple, pi_bl_list, pi_str_int, pi_str_bool, pi_str_str, pi_str_tuple, pi_str_list, pi_non_int, pi_non_bool, pi_non_str, pi_non_tuple, pi_non_list, pi_nat_int, pi_nat_bool, pi_nat_str, pi_nat_tuple, pi_nat_list, pi_strd_int, pi_strd_bool, pi_strd_str, pi_strd_tuple, pi_strd_list, pi_cube_int, pi_cube_bool, pi_cube_str, pi_cube_tuple, pi_cube_list, pi_cover_int, pi_cover_bool, pi_cover_str, pi_cover_tuple, pi_cover_list, cover_mk, ← List.map_take, ← List.map_drop, it_cube, sq_cube, uNeg1, ltNeg, key_nat, get_n, ix_dn, Option.map_some, cube_mk, bAdd, bAnd, bOr, bXor, bShr, uInv, bAndNot, aAdd, aOr, cEqN, cNeN, cEqS, cNeS, cEqC, cNeC, cEqB, cNeB, cLtN, cLeN, cGtN, cGeN, cIsN, cNsN, none_non, none_nat, none_cube, none_bl, none_str, none_tup, cIsB, cNsB, cInN, cEqNL, cNeNL, pr_sortL, cNiN, cInC, tr_bl, tr_non, tr_nat, tr_lst, tr_tup, ix_t0, ix_t1, ix_t2, ix_t3, ix_l0, ix_l1, ix_l2, ix_l3, ix_c0, ix_c1, pr_lenL, pr_lenT, pr_lenC, pr_lenD, pr_lenK, pr_tupL, pr_tupT, pr_lstL, pr_lstT, pr_lstC, pr_lstS, pr_intN, pr_intB, pr_sumN, pr_allB, pr_anyB, it_lst, it_tup, it_cov, sq_lst, sq_tup, sq_cov, fl_nat, fl_str, fl_bl, fl_non, fl_lst, fl_tup, fl_cube, fl_cover, fit0, fit1, fit2, fit3, fit4, end_none, end_nat, sl_lt, sl_lf, sl_tt, sl_tf, sl_ct, sl_cf, map_snoc, T_is_number, io_is_number, T_is_cube, io_is_cube, T_is_cover, io_is_cover, T_in_cube, io_in_cube, T_in_cover, io_in_cover, T_is_gate, io_is_gate, T_next_value, io_next_value, T_fights, io_fights, T_reads, io_reads, T__law_draws, io__law_draws, T__law_draw, io__law_draw, T__law_same, io__law_same, T__law_has, io__law_has, T__law_in, io__law_in, T__law_cube, io__law_cube, T__law_cover, io__law_cover, T__law_bits, io__law_bits, T__law_odd, io__law_odd, T__law_next, io__law_next, T__law_gate, io__law_gate, T__law_reads, io__law_reads, T__law_wrong, io__law_wrong, T_law, io_law, op_k_is_cover_0, rs_k_is_cover_0, op_k_in_cover_0, rs_k_in_cover_0, op_k__law_in_0, rs_k__law_in_0, op_k__law_cover_0, rs_k__law_cover_0, op_k__law_reads_2, rs_k__law_reads_2, h0, h1, c1, c2, hs1]
theorem pick_eval {N : Nat} {w : Nat} (w1 : 1 ≤ w) {a b : D} {p q : Bool} (c1 : callF T m N 0 [.sh a, .sh (natD 0), .sh (natD (w - 1))] = .ret false (.bl p) [.sh a, .sh (natD 0), .sh (natD (w - 1))]) (c2 : callF T m N 0 [.sh b, .sh (natD 0), .sh (natD (w - 1))] = .ret false (.bl q) [.sh b, .sh (natD 0), .sh (natD (w - 1))]) :
    callF T m (N + 1) 5 [.sh (.tup [strD "pick", a, b]), .sh (natD w)] = .ret false (.bl (p && q)) [.sh (.tup [strD "pick", a, b]), .sh (natD w)] := by
  rw [callF_body T_is_gate rfl]
  have h0 := lt2 (0 + 1)
  have h1 := ee3
  have hsub := bSub (u := w) (v := 1) w1
  cases p <;> simp -implicitDefEqProofs only [f_is_gate, List.map_cons, List.map_nil, List.cons_append, List.nil_append, List.replicate, Nat.sub_self, Nat.reduceSub, end_rt, end_nx, end_ite, outsOf, forN_nil, bindV, bind_ite, opt_some, es_nil', es_cons', then_nx, then_bk, then_ct, then_rt, es1_asg', es1_setx', es1_aug', es1_par', es1_app', es1_ext', es1_ex', es1_ret', op_var, rs_var, op_cst, rs_cst, op_tup, rs_tup, op_lst, rs_lst, op_bin, rs_bin, op_un, rs_un, op_nt, rs_nt, op_cmp, rs_cmp, op_cmp2, rs_cmp2, op_and, rs_and, op_or, rs_or, op_ife, rs_ife, op_ix, rs_ix, op_sl, rs_sl, op_rev, rs_rev, op_call, rs_call, op_prim, rs_prim, op_comp, rs_comp, op_pop, rs_pop, op_dnew, rs_dnew, op_get, rs_get, es1_ret0', es1_ite', es1_brk', es1_cnt', es1_pass', es1_for', es1_wh', ev_var', ev_cst', ev_tup', ev_lst', ev_bin', ev_un', ev_nt', ev_cmp', ev_cmp2', ev_and', ev_or', ev_ife', ev_ix', ev_sl', ev_rev', ev_call', ev_prim', ev_pop', ev_dnew', ev_get', ev_sset', ev_lset', op_sset, op_lset, rs_sset, rs_lset, evs_nil', evs_cons', evx_no', evx_yes', evt_tru', evt_and', evt_or', evt_nt', evt_e', evi_seq', evi_rng', evi_rng2', evi_enum', getB, setB, pk, tk, pks, tks, B.dat, asg_nm, asg_tp, asg_cube, asgN, onOwn, stillB, backB, wipeB, turnF, turnX, turnC, ite_caA, ite_caO, ite_rA, ite_cp, ite_blT, ite_blF, ite_bT, ite_bF, ite_rF, ite_rT, ite_caF, ite_caT, doCall, callArgs, backIn, frzIn, okSlots, slotsOf, List.all_cons, List.all_nil, List.nodup_cons, List.nodup_nil, List.not_mem_nil, not_false_eq_true, and_self, decide_true, List.contains_nil, List.contains_cons, beq_true, beq_false, Bool.true_beq, Bool.false_beq, decide_false, if_true, if_false, Bool.false_eq_true, Bool.and_true, Bool.true_and, Bool.and_false, Bool.false_and, Bool.or_true, Bool.true_or, Bool.or_false, Bool.false_or, Bool.not_true, Bool.not_false, beq_self_eq_true, Bool.not_not, reduceIte, Nat.reduceBEq, Nat.reduceLT, Nat.reduceLeDiff, Nat.reduceAdd, Nat.reducePow, reduceCtorEq, BEq.rfl, List.length_cons, List.length_nil, List.length_map, List.map_cons, List.map_nil, String.reduceBEq, Option.some.injEq, pi_dct_int, pi_dct_bool, pi_dct_str, pi_dct_tuple, pi_dct_list, pi_tup_int, pi_tup_bool, pi_tup_str, pi_tup_tuple, pi_tup_list, pi_lst_int, pi_lst_bool, pi_lst_str, pi_lst_tuple, pi_lst_list, pi_int_int, pi_int_bool, pi_int_str, pi_int_tuple, pi_int_list, pi_bl_int, pi_bl_bool, pi_bl_str, pi_bl_tuple, pi_bl_list, pi_str_int, pi_str_bool, pi_str_str, pi_str_tuple, pi_str_list, pi_non_int, pi_non_bool, pi_non_str, pi_non_tuple, pi_non_list, pi_nat_int, pi_nat_bool, pi_nat_str, pi_nat_tuple, pi_nat_list, pi_strd_int, pi_strd_bool, pi_strd_str, pi_strd_tuple, pi_strd_list, pi_cube_int, pi_cube_bool, pi_cube_str, pi_cube_tuple, pi_cube_list, pi_cover_int, pi_cover_bool, pi_cover_str, pi_cover_tuple, pi_cover_list, cover_mk, ← List.map_take, ← List.map_drop, it_cube, sq_cube, uNeg1, ltNeg, key_nat, get_n, ix_dn, Option.map_some, cube_mk, bAdd, bAnd, bOr, bXor, bShr, uInv, bAndNot, aAdd, aOr, cEqN, cNeN, cEqS, cNeS, cEqC, cNeC, cEqB, cNeB, cLtN, cLeN, cGtN, cGeN, cIsN, cNsN, none_non, none_nat, none_cube, none_bl, none_str, none_tup, cIsB, cNsB, cInN, cEqNL, cNeNL, pr_sortL, cNiN, cInC, tr_bl, tr_non, tr_nat, tr_lst, tr_tup, ix_t0, ix_t1, ix_t2, ix_t3, ix_l0, ix_l1, ix_l2, ix_l3, ix_c0, ix_c1, pr_lenL, pr_lenT, pr_lenC, pr_lenD, pr_lenK, pr_tupL, pr_tupT, pr_lstL, pr_lstT, pr_lstC, pr_lstS, pr_intN, pr_intB, pr_sumN, pr_allB, pr_anyB, it_lst, it_tup, it_cov, sq_lst, sq_tup, sq_cov, fl_nat, fl_str, fl_bl, fl_non, fl_lst, fl_tup, fl_cube, fl_cover, fit0, fit1, fit2, fit3, fit4, end_none, end_nat, sl_lt, sl_lf, sl_tt, sl_tf, sl_ct, sl_cf, map_snoc, T_is_number, io_is_number, T_is_cube, io_is_cube, T_is_cover, io_is_cover, T_in_cube, io_in_cube, T_in_cover, io_in_cover, T_is_gate, io_is_gate, T_next_value, io_next_value, T_fights, io_fights, T_reads, io_reads, T__law_draws, io__law_draws, T__law_draw, io__law_draw, T__law_same, io__law_same, T__law_has, io__law_has, T__law_in, io__law_in, T__law_cube, io__law_cube, T__law_cover, io__law_cover, T__law_bits, io__law_bits, T__law_odd, io__law_odd, T__law_next, io__law_next, T__law_gate, io__law_gate, T__law_reads, io__law_reads, T__law_wrong, io__law_wrong, T_law, io_law, op_k_is_cover_0, rs_k_is_cover_0, op_k_in_cover_0, rs_k_in_cover_0, op_k__law_in_0, rs_k__law_in_0, op_k__law_cover_0, rs_k__law_cover_0, op_k__law_reads_2, rs_k__law_reads_2, h0, h1, hsub, c1, c2, hs3, hs4]
theorem cov_good {N : Nat} (hN : 3 ≤ N) {w : Nat} (hw : w ≤ 900) {a : List (Nat × Nat)} (ha : ∀ c ∈ a, Cu w c) (hl : a.length ≤ 1000) : callF T m N 2 [.sh (coverD a), .sh (natD w)] = .ret false (.bl true) [.sh (coverD a), .sh (natD w)] := by
  have h := is_cover_ok (m := m) hN hw (xs := a.map cubeD) (fun x hx => by
    obtain ⟨c, _, rfl⟩ := List.mem_map.mp hx
    exact .inl ⟨1, rfl⟩) (by rw [List.length_map]; omega)
  have e : (a.map cubeD).all (isCubeB w) = true := by
    rw [List.all_eq_true]
    intro x hx
    obtain ⟨c, hc, rfl⟩ := List.mem_map.mp hx
    exact (is_cube_cu c).mpr (ha c hc)
  rw [e] at h
  exact h
theorem is_gate_good {N : Nat} (hN : 5 ≤ N) {w : Nat} (w1 : 1 ≤ w) (hw : w ≤ 900) {g : G} (hg : GOk w g) : callF T m N 5 [.sh (gateD g), .sh (natD w)] = .ret false (.bl true) [.sh (gateD g), .sh (natD w)] := by
  obtain ⟨n, rfl, hn⟩ := to_succ hN
  cases g with
  | hold a b => exact hold_eval (cov_good (by omega) hw hg.1 (by have := hg.2.2.1; omega)) (cov_good (by omega) hw hg.2.1 (by have := hg.2.2.2; omega))
  | pick u v =>
    have h1 := is_number_nat (m := m) (N := n) (by omega) u 0 (w - 1)
    have h2 := is_number_nat (m := m) (N := n) (by omega) v 0 (w - 1)
    obtain ⟨g1, g2⟩ := hg
    rw [decide_eq_true (Nat.zero_le u), decide_eq_true (show u ≤ w - 1 by omega)] at h1
    rw [decide_eq_true (Nat.zero_le v), decide_eq_true (show v ≤ w - 1 by omega)] at h2
    exact pick_eval w1 h1 h2
  | sum a => exact sum_eval (cov_good (by omega) hw hg.1 (by have := hg.2; omega))
def tgt : D := .tup [strD "sum", .tup []]
theorem oks_of : ∀ {xs : List D} {k : Nat}, (∀ x ∈ xs, x.ok k = true) → D.ok.oks xs k = true
  | [], _, _ => rfl
  | x :: xs, k, h => by
    simp only [D.ok.oks, Bool.and_eq_true]
    exact ⟨h x (by simp), oks_of fun y hy => h y (by simp [hy])⟩
theorem okT {xs : List D} {k : Nat} (h : ∀ x ∈ xs, x.ok k = true) : (D.tup xs).ok (k + 1) = true := oks_of h
theorem okL {xs : List D} {k : Nat} (h : ∀ x ∈ xs, x.ok k = true) : (D.lst xs).ok (k + 1) = true := oks_of h
theorem ok1 {a : D} {k : Nat} (ha : a.ok k = true) : ∀ x ∈ [a], x.ok k = true := fun x hx => by rw [List.mem_singleton] at hx; subst hx; exact ha
theorem okc {a : D} {xs : List D} {k : Nat} (ha : a.ok k = true) (h : ∀ x ∈ xs, x.ok k = true) : ∀ x ∈ a :: xs, x.ok k = true := fun x hx => by
  rcases List.mem_cons.mp hx with rfl | hx
  · exact ha
  · exact h x hx
theorem okn {k : Nat} : ∀ x ∈ ([] : List D), x.ok k = true := fun x hx => by cases hx
theorem tgt_ok : tgt.ok deepest = true := okT (k := 59) (okc (ok_str _ _) (okc (okT (k := 58) okn) okn))
theorem cmp_some {r : D} (h : r.ok deepest = true) : ∃ b, cmpD .Eq r tgt = some b := ⟨_, cEq h tgt_ok⟩
def Okd (m w : Nat) (r : D) : Prop := (∃ b, cmpD .Eq r tgt = some b) ∧ (Bad m w r ∨ cmpD .Eq r tgt = some true)
theorem odd_ok2 {d : D} (h : d ∈ oddL) : d = .dct [] ∨ ∀ k, d.ok (k + 2) = true := by
  unfold oddL at h
  simp only [List.mem_cons, List.not_mem_nil, or_false] at h
  rcases h with rfl | rfl | rfl | rfl | rfl | rfl | rfl | rfl | rfl | rfl | rfl | rfl | rfl | rfl
  · exact .inr fun k => rfl
  · exact .inr fun k => rfl
  · exact .inr fun k => rfl
  · exact .inr fun k => ok_str _ _
  · exact .inr fun k => ok_str _ _
  · exact .inr fun k => rfl
  · exact .inr fun k => rfl
  · exact .inr fun k => rfl
  · exact .inr fun k => rfl
  · exact .inr fun k => rfl
  · exact .inl rfl
  · exact .inr fun k => rfl
  · exact .inr fun k => rfl
  · exact .inr fun k => okT (okc (ok_str _ _) (ok1 rfl))
theorem cov_none {N : Nat} (hN : 3 ≤ N) {w : Nat} (hw : w ≤ 900) : callF T m N 2 [.sh (.tup []), .sh (natD w)] = .ret false (.bl true) [.sh (.tup []), .sh (natD w)] :=
  is_cover_ok (m := m) hN hw (xs := []) (fun x hx => by cases hx) (by simp)
theorem known_nat (k : Nat) : Known (natD k) := .inl ⟨1, rfl⟩
theorem known_cons {P : D → Prop} {a : D} {xs : List D} (ha : P a) (h : ∀ x ∈ xs, P x) : ∀ x ∈ a :: xs, P x := fun x hx => by
  rcases List.mem_cons.mp hx with rfl | hx
  · exact ha
  · exact h x hx
theorem known_nil {P : D → Prop} : ∀ x ∈ ([] : List D), P x := fun x hx => by cases hx
theorem cov_all {N : Nat} (hN : 3 ≤ N) {w : Nat} (hw : w ≤ 900) {xs : List D} (hx : ∀ x ∈ xs, Known x) (hl : xs.length ≤ 1000) (e : xs.all (isCubeB w) = false) : callF T m N 2 [.sh (.tup xs), .sh (natD w)] = .ret false (.bl false) [.sh (.tup xs), .sh (natD w)] := by
  have h := is_cover_ok (m := m) hN hw hx (by omega)
  rw [e] at h
  exact h
theorem cov_big {N : Nat} (hN : 3 ≤ N) {w : Nat} (hw : w ≤ 900) : callF T m N 2 [.sh (.tup [cubeD (2 ^ w, 0)]), .sh (natD w)] = .ret false (.bl false) [.sh (.tup [cubeD (2 ^ w, 0)]), .sh (natD w)] := by
  refine cov_all hN hw (known_cons (.inl ⟨1, rfl⟩) known_nil) (by simp) ?_
  have h : isCubeB w (cubeD (2 ^ w, 0)) = false := Bool.eq_false_iff.mpr fun h => absurd ((is_cube_cu _).mp h).1 (Nat.lt_irrefl _)
  rw [List.all_cons, h, Bool.false_and]
theorem odd_cov {d : D} (h : d ∈ oddL) {N : Nat} (hN : 3 ≤ N) {w : Nat} (hw : w ≤ 900) : d = .tup [] ∨ callF T m N 2 [.sh d, .sh (natD w)] = .ret false (.bl false) [.sh d, .sh (natD w)] := by
  have hk := odd_known h
  unfold oddL at h
  simp only [List.mem_cons, List.not_mem_nil, or_false] at h
  rcases h with rfl | rfl | rfl | rfl | rfl | rfl | rfl | rfl | rfl | rfl | rfl | rfl | rfl | rfl
  · exact .inr (is_cover_not (by omega) hk fun _ z => by cases z)
  · exact .inr (is_cover_not (by omega) hk fun _ z => by cases z)
  · exact .inr (is_cover_not (by omega) hk fun _ z => by cases z)
  · exact .inr (is_cover_not (by omega) hk fun _ z => by cases z)
  · exact .inr (is_cover_not (by omega) hk fun _ z => by cases z)
  · exact .inl rfl
  · exact .inr (is_cover_not (by omega) hk fun _ z => by cases z)
  · exact .inr (cov_all hN hw (known_cons (known_nat _) known_nil) (by simp) rfl)
  · exact .inr (is_cover_not (by omega) hk fun _ z => by cases z)
  · exact .inr (cov_all hN hw (known_cons (known_nat _) (known_cons (known_nat _) (known_cons (known_nat _) known_nil))) (by simp) rfl)
  · exact .inr (is_cover_not (by omega) hk fun _ z => by cases z)
  · exact .inr (cov_all hN hw (known_cons (.inl ⟨1, rfl⟩) (known_cons (known_nat _) known_nil)) (by simp) rfl)
  · exact .inr (cov_all hN hw (known_cons (known_nat _) (known_cons (.inl ⟨1, rfl⟩) known_nil)) (by simp) rfl)
  · exact .inr (cov_all hN hw (known_cons (.inl ⟨1, ok_str _ _⟩) (known_cons (known_nat _) known_nil)) (by simp) rfl)
theorem odd_bad {d : D} (h : d ∈ oddL) {w : Nat} : Bad m w d := by
  have hk := odd_known h
  unfold oddL at h
  simp only [List.mem_cons, List.not_mem_nil, or_false] at h
  rcases h with rfl | rfl | rfl | rfl | rfl | rfl | rfl | rfl | rfl | rfl | rfl | rfl | rfl | rfl
  · exact bad_flat hk fun _ z => by cases z
  · exact bad_flat hk fun _ z => by cases z
  · exact bad_flat hk fun _ z => by cases z
  · exact bad_flat hk fun _ z => by cases z
  · exact bad_flat hk fun _ z => by cases z
  · exact bad_nil
  · exact bad_flat hk fun _ z => by cases z
  · exact bad_one _
  · exact bad_flat hk fun _ z => by cases z
  · exact bad_head (pi_nat_str _)
  · exact bad_flat hk fun _ z => by cases z
  · exact bad_head rfl
  · exact bad_head (pi_nat_str _)
  · exact bad_word (by decide) (by decide) (by decide)
/-- the wrong values -/
def wrongL (w : Nat) (h : String) (r : List D) (odd : D) : List D := [.lst (strD h :: r), .tup [strD h], .tup (strD h :: r ++ [.tup []]), .tup ([strD "and"] ++ r), .tup ([.non] ++ r), odd, strD h, .tup [strD "sum", .tup [cubeD (2 ^ w, 0)]], .tup [strD "sum", odd],
  .tup [strD "hold", .tup [], .tup [cubeD (2 ^ w, 0)]], .tup [strD "hold", .tup [cubeD (2 ^ w, 0)], .tup []], .tup [strD "hold", .tup []], .tup [strD "pick", natD w, natD 0], .tup [strD "pick", natD 0, .int (-1)], .tup [strD "pick", .bl true, natD 0], .tup [strD "pick", natD 0],
  .tup [strD "sum", .lst [cubeD (0, 0)]], .tup [strD "sum", .tup [], .tup []], .tup [strD "hold", .tup [], .tup [], .tup []]]
/-- what a gate is, behind its word -/
def restD : G → String × List D
  | .hold a b => ("hold", [coverD a, coverD b])
  | .pick u v => ("pick", [natD u, natD v])
  | .sum a => ("sum", [coverD a])
theorem gate_rest (g : G) : gateD g = .tup (strD (restD g).1 :: (restD g).2) := by cases g <;> rfl
theorem rest_ok (g : G) {k : Nat} : ∀ x ∈ (restD g).2, x.ok (k + 2) = true := by
  cases g with
  | hold a b => exact okc (ok_cover _ _) (ok1 (ok_cover _ _))
  | pick u v => exact okc rfl (ok1 rfl)
  | sum a => exact ok1 (ok_cover _ _)
theorem okA {xs ys : List D} {k : Nat} (h1 : ∀ x ∈ xs, x.ok k = true) (h2 : ∀ x ∈ ys, x.ok k = true) : ∀ x ∈ xs ++ ys, x.ok k = true := fun x hx => by
  rcases List.mem_append.mp hx with h | h
  · exact h1 x h
  · exact h2 x h
theorem wrong_all {w : Nat} (w1 : 1 ≤ w) (hw : w ≤ 900) (g : G) {odd : D} (ho : odd ∈ oddL) : ∀ r ∈ wrongL w (restD g).1 (restD g).2 odd, Okd m w r := by
  have t0 : (D.tup []).ok 59 = true := rfl
  have tc : (D.tup [cubeD (2 ^ w, 0)]).ok 59 = true := rfl
  refine known_cons ⟨cmp_some (okL (k := 59) (okc (ok_str _ _) (rest_ok g))), .inl (bad_flat (.inl ⟨60, okL (k := 59) (okc (ok_str _ _) (rest_ok g))⟩) fun _ z => by cases z)⟩ ?_
  refine known_cons ⟨cmp_some (okT (k := 59) (ok1 (ok_str _ _))), .inl (bad_one _)⟩ ?_
  refine known_cons ⟨cmp_some (okT (k := 59) (okA (okc (ok_str _ _) (rest_ok g)) (ok1 t0))), .inl ?_⟩ ?_
  · cases g with
    | hold a b => exact bad_hold4
    | pick u v => exact bad_pick4
    | sum a => exact bad_sum3
  refine known_cons ⟨cmp_some (okT (k := 59) (okc (ok_str _ _) (rest_ok g))), .inl ?_⟩ ?_
  · cases g <;> exact bad_word hs7 hs9 hs8
  refine known_cons ⟨cmp_some (okT (k := 59) (okc rfl (rest_ok g))), .inl ?_⟩ ?_
  · cases g <;> exact bad_head rfl
  refine known_cons ⟨?_, .inl (odd_bad ho)⟩ ?_
  · rcases odd_ok2 ho with rfl | h
    · exact ⟨false, rfl⟩
    · exact cmp_some (h 58)
  refine known_cons ⟨cmp_some (ok_str _ _), .inl (bad_flat (.inl ⟨1, ok_str _ _⟩) fun _ z => by cases z)⟩ ?_
  refine known_cons ⟨cmp_some (okT (k := 59) (okc (ok_str _ _) (ok1 tc))), .inl fun N hN => ?_⟩ ?_
  · obtain ⟨n, rfl, hn⟩ := to_succ hN
    exact sum_eval (cov_big (by omega) hw)
  refine known_cons ⟨?_, ?_⟩ ?_
  · rcases odd_ok2 ho with rfl | h
    · refine ⟨false, ?_⟩
      have h1 : (D.tup [strD "sum", .dct []]).ok deepest = false := by
        show (D.ok (strD "sum") 59 && (false && true)) = false
        rw [Bool.false_and, Bool.and_false]
      have h2 : (strD "sum").ok deepest = true := ok_str _ _
      unfold tgt
      simp only [cmpD, h1, Bool.false_and, Bool.false_eq_true, if_false, eqDT, h2, Bool.and_self, if_true]
    · exact cmp_some (okT (k := 59) (okc (ok_str _ _) (ok1 (h 57))))
  · by_cases hz : odd = .tup []
    · subst hz
      refine .inr ?_
      have : cmpD .Eq tgt tgt = some (D.eq tgt tgt) := cEq tgt_ok tgt_ok
      have h3 : D.eq tgt tgt = true := by
        show (D.eq (strD "sum") (strD "sum") && (true && true)) = true
        rw [eq_str]; rfl
      rw [h3] at this
      exact this
    · refine .inl fun N hN => ?_
      obtain ⟨n, rfl, hn⟩ := to_succ hN
      rcases odd_cov (m := m) ho (N := n) (by omega) hw with h | h
      · exact absurd h hz
      · exact sum_eval h
  refine known_cons ⟨cmp_some (okT (k := 59) (okc (ok_str _ _) (okc t0 (ok1 tc)))), .inl fun N hN => ?_⟩ ?_
  · obtain ⟨n, rfl, hn⟩ := to_succ hN
    exact hold_eval (cov_none (by omega) hw) (cov_big (by omega) hw)
  refine known_cons ⟨cmp_some (okT (k := 59) (okc (ok_str _ _) (okc tc (ok1 t0)))), .inl fun N hN => ?_⟩ ?_
  · obtain ⟨n, rfl, hn⟩ := to_succ hN
    exact hold_eval (cov_big (by omega) hw) (cov_none (by omega) hw)
  refine known_cons ⟨cmp_some (okT (k := 59) (okc (ok_str _ _) (ok1 t0))), .inl bad_hold2⟩ ?_
  refine known_cons ⟨cmp_some (okT (k := 59) (okc (ok_str _ _) (okc rfl (ok1 rfl)))), .inl fun N hN => ?_⟩ ?_
  · obtain ⟨n, rfl, hn⟩ := to_succ hN
    have h1 := is_number_nat (m := m) (N := n) (by omega) w 0 (w - 1)
    have h2 := is_number_nat (m := m) (N := n) (by omega) 0 0 (w - 1)
    rw [decide_eq_false (show ¬ w ≤ w - 1 by omega), Bool.and_false] at h1
    exact pick_eval w1 h1 h2
  refine known_cons ⟨cmp_some (okT (k := 59) (okc (ok_str _ _) (okc rfl (ok1 rfl)))), .inl fun N hN => ?_⟩ ?_
  · obtain ⟨n, rfl, hn⟩ := to_succ hN
    have h1 := is_number_nat (m := m) (N := n) (by omega) 0 0 (w - 1)
    have h2 := is_number_ok (m := m) (N := n) (by omega) (d := .int (-1)) (k := 1) rfl 0 ((w - 1 : Nat) : Int)
    have e2 : isNum (.int (-1)) 0 ((w - 1 : Nat) : Int) = false := rfl
    rw [decide_eq_true (Nat.zero_le _), decide_eq_true (Nat.zero_le _)] at h1
    rw [e2] at h2
    exact pick_eval w1 h1 h2
  refine known_cons ⟨cmp_some (okT (k := 59) (okc (ok_str _ _) (okc rfl (ok1 rfl)))), .inl fun N hN => ?_⟩ ?_
  · obtain ⟨n, rfl, hn⟩ := to_succ hN
    have h1 := is_number_ok (m := m) (N := n) (by omega) (d := .bl true) (k := 1) rfl 0 ((w - 1 : Nat) : Int)
    have h2 := is_number_nat (m := m) (N := n) (by omega) 0 0 (w - 1)
    have e1 : isNum (.bl true) 0 ((w - 1 : Nat) : Int) = false := rfl
    rw [e1] at h1
    exact pick_eval w1 h1 h2
  refine known_cons ⟨cmp_some (okT (k := 59) (okc (ok_str _ _) (ok1 rfl))), .inl bad_pick2⟩ ?_
  refine known_cons ⟨cmp_some (okT (k := 59) (okc (ok_str _ _) (ok1 rfl))), .inl fun N hN => ?_⟩ ?_
  · obtain ⟨n, rfl, hn⟩ := to_succ hN
    exact sum_eval (is_cover_not (by omega) (.inl ⟨5, rfl⟩) fun _ z => by cases z)
  refine known_cons ⟨cmp_some (okT (k := 59) (okc (ok_str _ _) (okc t0 (ok1 t0)))), .inl bad_sum3⟩ ?_
  exact known_cons ⟨cmp_some (okT (k := 59) (okc (ok_str _ _) (okc t0 (okc t0 (ok1 t0))))), .inl bad_hold4⟩ known_nil
theorem wrong_ok {N : Nat} (hN : 6 ≤ N) (s : St) {w : Nat} (w1 : 1 ≤ w) (hw : w ≤ 900) (g : G) : ∃ (d : D) (s' : St), callF T m N 21 [.io s.d, .sh (gateD g), .sh (natD w)] = .ret false d [.io s'.d, .sh (gateD g), .sh (natD w)] ∧ Bad m w d := by
  obtain ⟨n, rfl, hn⟩ := to_succ hN
  obtain ⟨odd, s1, c1, ho⟩ := odd_ok (m := m) (N := n) (by omega) s
  have hd := draw_ok (m := m) (N := n) (by omega) s1 19 (by omega) (by omega)
  have hv := v_lt s1 (l := 19) (by omega)
  generalize s1.s 19 = s2 at hd
  generalize s1.v 19 = v at hd hv
  have hall := wrong_all (m := m) w1 hw g ho
  have hr := gate_rest g
  have hlen : (restD g).2.length ≤ 2 := by cases g <;> simp [restD]
  generalize (restD g).1 = h at hall hr
  generalize (restD g).2 = r at hall hr hlen
  rw [hr]
  have hix := ix_lst (xs := wrongL w h r odd) (k := v) hv
  obtain ⟨⟨b, hb⟩, hbad⟩ := hall _ (List.getElem_mem hv)
  have e : D.lst (wrongL w h r odd) = .lst [.lst (strD h :: r), .tup [strD h], .tup (strD h :: (r ++ [.tup []])), .tup (strD "and" :: r), .tup (.non :: r), odd, strD h, .tup [strD "sum", .tup [cubeD (2 ^ w, 0)]], .tup [strD "sum", odd],
  .tup [strD "hold", .tup [], .tup [cubeD (2 ^ w, 0)]], .tup [strD "hold", .tup [cubeD (2 ^ w, 0)], .tup []], .tup [strD "hold", .tup []], .tup [strD "pick", natD w, natD 0], .tup [strD "pick", natD 0, .int (-1)], .tup [strD "pick", .bl true, natD 0], .tup [strD "pick", natD 0],
  .tup [strD "sum", .lst [cubeD (0, 0)]], .tup [strD "sum", .tup [], .tup []], .tup [strD "hold", .tup [], .tup [], .tup []]] := rfl
  rw [e] at hix
  generalize (wrongL w h r odd)[v] = z at hix hb hbad
  have hs := bShl1 (v := w) (by omega)
  have hf : fitL (0 + 1 + 1 + 1 + 1 + 1 + 1 + 1 + 1 + 1 + 1 + 1 + 1 + 1 + 1 + 1 + 1 + 1 + 1 + 1) = true := rfl
  have ht1 : List.take 1 (strD h :: r) = [strD h] := rfl
  have ht2 : List.drop 1 (strD h :: r) = r := rfl
  have ha1 : binD .Add (.tup (strD h :: r)) (.tup [.tup []]) = some (false, .tup (strD h :: (r ++ [.tup []]))) := addT (by simp; omega)
  have ha2 : binD .Add (.tup [strD "and"]) (.tup r) = some (false, .tup (strD "and" :: r)) := addT (by simp; omega)
  have ha3 : binD .Add (.tup [.non]) (.tup r) = some (false, .tup (.non :: r)) := addT (by simp; omega)
  have hu : unD .USub (natD 1) = some (.int (-1)) := rfl
  have hl19 : (0 + 1 + 1 + 1 + 1 + 1 + 1 + 1 + 1 + 1 + 1 + 1 + 1 + 1 + 1 + 1 + 1 + 1 + 1 + 1) = 19 := rfl
  unfold tgt at hb hbad
  refine ⟨if b then .non else z, s2, ?_, ?_⟩
  · rw [callF_body T__law_wrong rfl]
    cases b <;> simp -implicitDefEqProofs only [f__law_wrong, List.map_cons, List.map_nil, List.cons_append, List.nil_append, List.replicate, Nat.sub_self, Nat.reduceSub, end_rt, end_nx, end_ite, outsOf, forN_nil, bindV, bind_ite, opt_some, es_nil', es_cons', then_nx, then_bk, then_ct, then_rt, es1_asg', es1_setx', es1_aug', es1_par', es1_app', es1_ext', es1_ex', es1_ret', op_var, rs_var, op_cst, rs_cst, op_tup, rs_tup, op_lst, rs_lst, op_bin, rs_bin, op_un, rs_un, op_nt, rs_nt, op_cmp, rs_cmp, op_cmp2, rs_cmp2, op_and, rs_and, op_or, rs_or, op_ife, rs_ife, op_ix, rs_ix, op_sl, rs_sl, op_rev, rs_rev, op_call, rs_call, op_prim, rs_prim, op_comp, rs_comp, op_pop, rs_pop, op_dnew, rs_dnew, op_get, rs_get, es1_ret0', es1_ite', es1_brk', es1_cnt', es1_pass', es1_for', es1_wh', ev_var', ev_cst', ev_tup', ev_lst', ev_bin', ev_un', ev_nt', ev_cmp', ev_cmp2', ev_and', ev_or', ev_ife', ev_ix', ev_sl', ev_rev', ev_call', ev_prim', ev_pop', ev_dnew', ev_get', ev_sset', ev_lset', op_sset, op_lset, rs_sset, rs_lset, evs_nil', evs_cons', evx_no', evx_yes', evt_tru', evt_and', evt_or', evt_nt', evt_e', evi_seq', evi_rng', evi_rng2', evi_enum', getB, setB, pk, tk, pks, tks, B.dat, asg_nm, asg_tp, asg_cube, asgN, onOwn, stillB, backB, wipeB, turnF, turnX, turnC, ite_caA, ite_caO, ite_rA, ite_cp, ite_blT, ite_blF, ite_bT, ite_bF, ite_rF, ite_rT, ite_caF, ite_caT, doCall, callArgs, backIn, frzIn, okSlots, slotsOf, List.all_cons, List.all_nil, List.nodup_cons, List.nodup_nil, List.not_mem_nil, not_false_eq_true, and_self, decide_true, List.contains_nil, List.contains_cons, beq_true, beq_false, Bool.true_beq, Bool.false_beq, decide_false, if_true, if_false, Bool.false_eq_true, Bool.and_true, Bool.true_and, Bool.and_false, Bool.false_and, Bool.or_true, Bool.true_or, Bool.or_false, Bool.false_or, Bool.not_true, Bool.not_false, beq_self_eq_true, Bool.not_not, reduceIte, Nat.reduceBEq, Nat.reduceLT, Nat.reduceLeDiff, Nat.reduceAdd, Nat.reducePow, reduceCtorEq, BEq.rfl, List.length_cons, List.length_nil, List.length_map, List.map_cons, List.map_nil, String.reduceBEq, Option.some.injEq, pi_dct_int, pi_dct_bool, pi_dct_str, pi_dct_tuple, pi_dct_list, pi_tup_int, pi_tup_bool, pi_tup_str, pi_tup_tuple, pi_tup_list, pi_lst_int, pi_lst_bool, pi_lst_str, pi_lst_tuple, pi_lst_list, pi_int_int, pi_int_bool, pi_int_str, pi_int_tuple, pi_int_list, pi_bl_int, pi_bl_bool, pi_bl_str, pi_bl_tuple, pi_bl_list, pi_str_int, pi_str_bool, pi_str_str, pi_str_tuple, pi_str_list, pi_non_int, pi_non_bool, pi_non_str, pi_non_tuple, pi_non_list, pi_nat_int, pi_nat_bool, pi_nat_str, pi_nat_tuple, pi_nat_list, pi_strd_int, pi_strd_bool, pi_strd_str, pi_strd_tuple, pi_strd_list, pi_cube_int, pi_cube_bool, pi_cube_str, pi_cube_tuple, pi_cube_list, pi_cover_int, pi_cover_bool, pi_cover_str, pi_cover_tuple, pi_cover_list, cover_mk, ← List.map_take, ← List.map_drop, it_cube, sq_cube, uNeg1, ltNeg, key_nat, get_n, ix_dn, Option.map_some, cube_mk, bAdd, bAnd, bOr, bXor, bShr, uInv, bAndNot, aAdd, aOr, cEqN, cNeN, cEqS, cNeS, cEqC, cNeC, cEqB, cNeB, cLtN, cLeN, cGtN, cGeN, cIsN, cNsN, none_non, none_nat, none_cube, none_bl, none_str, none_tup, cIsB, cNsB, cInN, cEqNL, cNeNL, pr_sortL, cNiN, cInC, tr_bl, tr_non, tr_nat, tr_lst, tr_tup, ix_t0, ix_t1, ix_t2, ix_t3, ix_l0, ix_l1, ix_l2, ix_l3, ix_c0, ix_c1, pr_lenL, pr_lenT, pr_lenC, pr_lenD, pr_lenK, pr_tupL, pr_tupT, pr_lstL, pr_lstT, pr_lstC, pr_lstS, pr_intN, pr_intB, pr_sumN, pr_allB, pr_anyB, it_lst, it_tup, it_cov, sq_lst, sq_tup, sq_cov, fl_nat, fl_str, fl_bl, fl_non, fl_lst, fl_tup, fl_cube, fl_cover, fit0, fit1, fit2, fit3, fit4, end_none, end_nat, sl_lt, sl_lf, sl_tt, sl_tf, sl_ct, sl_cf, map_snoc, T_is_number, io_is_number, T_is_cube, io_is_cube, T_is_cover, io_is_cover, T_in_cube, io_in_cube, T_in_cover, io_in_cover, T_is_gate, io_is_gate, T_next_value, io_next_value, T_fights, io_fights, T_reads, io_reads, T__law_draws, io__law_draws, T__law_draw, io__law_draw, T__law_same, io__law_same, T__law_has, io__law_has, T__law_in, io__law_in, T__law_cube, io__law_cube, T__law_cover, io__law_cover, T__law_bits, io__law_bits, T__law_odd, io__law_odd, T__law_next, io__law_next, T__law_gate, io__law_gate, T__law_reads, io__law_reads, T__law_wrong, io__law_wrong, T_law, io_law, op_k_is_cover_0, rs_k_is_cover_0, op_k_in_cover_0, rs_k_in_cover_0, op_k__law_in_0, rs_k__law_in_0, op_k__law_cover_0, rs_k__law_cover_0, op_k__law_reads_2, rs_k__law_reads_2, c1, hs, ht1, ht2, ha1, ha2, ha3, hu, hf, hl19, hd, hix, hb]
  · cases b with
    | true => exact bad_none
    | false =>
      rcases hbad with h | h
      · exact h
      · rw [h] at hb; cases hb
/-- the law's slots -/
def env (d0 : D) (s : St) (x2 x3 x4 x5 x6 x7 x8 : Option B) : Env := [some (.sh (d0)), some (.ow (s.d)), x2, x3, x4, x5, x6, x7, x8]
theorem turn0 {n : Nat} (hn : 20 ≤ n) (d0 : D) (s : St) {w : Nat} {g : G} (hg : GOk w g) (x now : Nat) (x2 x6 x7 x8 : Option B) :
    turnF T (callF T m n) m (.nm 6) b_law_0 (natD now) (env d0 s x2 (some (.sh (natD w))) (some (.sh (gateD g))) (some (.sh (natD x))) x6 x7 x8) = .val .nx (env d0 s x2 (some (.sh (natD w))) (some (.sh (gateD g))) (some (.sh (natD x))) (some (.sh (natD now))) x7 x8) := by
  have h1 := next_value_ok (m := m) (N := n) (by omega) hg x now
  have h2 := law_next_ok (m := m) (N := n) (by omega) hg x now
  have q := same_nats (m := m) (N := n) (by omega) (nextB x now g) (nextB x now g)
  rw [beq_self_eq_true] at q
  simp -implicitDefEqProofs only [b_law_0, env, forN_nil, bindV, bind_ite, opt_some, es_nil', es_cons', then_nx, then_bk, then_ct, then_rt, es1_asg', es1_setx', es1_aug', es1_par', es1_app', es1_ext', es1_ex', es1_ret', op_var, rs_var, op_cst, rs_cst, op_tup, rs_tup, op_lst, rs_lst, op_bin, rs_bin, op_un, rs_un, op_nt, rs_nt, op_cmp, rs_cmp, op_cmp2, rs_cmp2, op_and, rs_and, op_or, rs_or, op_ife, rs_ife, op_ix, rs_ix, op_sl, rs_sl, op_rev, rs_rev, op_call, rs_call, op_prim, rs_prim, op_comp, rs_comp, op_pop, rs_pop, op_dnew, rs_dnew, op_get, rs_get, es1_ret0', es1_ite', es1_brk', es1_cnt', es1_pass', es1_for', es1_wh', ev_var', ev_cst', ev_tup', ev_lst', ev_bin', ev_un', ev_nt', ev_cmp', ev_cmp2', ev_and', ev_or', ev_ife', ev_ix', ev_sl', ev_rev', ev_call', ev_prim', ev_pop', ev_dnew', ev_get', ev_sset', ev_lset', op_sset, op_lset, rs_sset, rs_lset, evs_nil', evs_cons', evx_no', evx_yes', evt_tru', evt_and', evt_or', evt_nt', evt_e', evi_seq', evi_rng', evi_rng2', evi_enum', getB, setB, pk, tk, pks, tks, B.dat, asg_nm, asg_tp, asg_cube, asgN, onOwn, stillB, backB, wipeB, turnF, turnX, turnC, ite_caA, ite_caO, ite_rA, ite_cp, ite_blT, ite_blF, ite_bT, ite_bF, ite_rF, ite_rT, ite_caF, ite_caT, doCall, callArgs, backIn, frzIn, okSlots, slotsOf, List.all_cons, List.all_nil, List.nodup_cons, List.nodup_nil, List.not_mem_nil, not_false_eq_true, and_self, decide_true, List.contains_nil, List.contains_cons, beq_true, beq_false, Bool.true_beq, Bool.false_beq, decide_false, if_true, if_false, Bool.false_eq_true, Bool.and_true, Bool.true_and, Bool.and_false, Bool.false_and, Bool.or_true, Bool.true_or, Bool.or_false, Bool.false_or, Bool.not_true, Bool.not_false, beq_self_eq_true, Bool.not_not, reduceIte, Nat.reduceBEq, Nat.reduceLT, Nat.reduceLeDiff, Nat.reduceAdd, Nat.reducePow, reduceCtorEq, BEq.rfl, List.length_cons, List.length_nil, List.length_map, List.map_cons, List.map_nil, String.reduceBEq, Option.some.injEq, pi_dct_int, pi_dct_bool, pi_dct_str, pi_dct_tuple, pi_dct_list, pi_tup_int, pi_tup_bool, pi_tup_str, pi_tup_tuple, pi_tup_list, pi_lst_int, pi_lst_bool, pi_lst_str, pi_lst_tuple, pi_lst_list, pi_int_int, pi_int_bool, pi_int_str, pi_int_tuple, pi_int_list, pi_bl_int, pi_bl_bool, pi_bl_str, pi_bl_tuple, pi_bl_list, pi_str_int, pi_str_bool, pi_str_str, pi_str_tuple, pi_str_list, pi_non_int, pi_non_bool, pi_non_str, pi_non_tuple, pi_non_list, pi_nat_int, pi_nat_bool, pi_nat_str, pi_nat_tuple, pi_nat_list, pi_strd_int, pi_strd_bool, pi_strd_str, pi_strd_tuple, pi_strd_list, pi_cube_int, pi_cube_bool, pi_cube_str, pi_cube_tuple, pi_cube_list, pi_cover_int, pi_cover_bool, pi_cover_str, pi_cover_tuple, pi_cover_list, cover_mk, ← List.map_take, ← List.map_drop, it_cube, sq_cube, uNeg1, ltNeg, key_nat, get_n, ix_dn, Option.map_some, cube_mk, bAdd, bAnd, bOr, bXor, bShr, uInv, bAndNot, aAdd, aOr, cEqN, cNeN, cEqS, cNeS, cEqC, cNeC, cEqB, cNeB, cLtN, cLeN, cGtN, cGeN, cIsN, cNsN, none_non, none_nat, none_cube, none_bl, none_str, none_tup, cIsB, cNsB, cInN, cEqNL, cNeNL, pr_sortL, cNiN, cInC, tr_bl, tr_non, tr_nat, tr_lst, tr_tup, ix_t0, ix_t1, ix_t2, ix_t3, ix_l0, ix_l1, ix_l2, ix_l3, ix_c0, ix_c1, pr_lenL, pr_lenT, pr_lenC, pr_lenD, pr_lenK, pr_tupL, pr_tupT, pr_lstL, pr_lstT, pr_lstC, pr_lstS, pr_intN, pr_intB, pr_sumN, pr_allB, pr_anyB, it_lst, it_tup, it_cov, sq_lst, sq_tup, sq_cov, fl_nat, fl_str, fl_bl, fl_non, fl_lst, fl_tup, fl_cube, fl_cover, fit0, fit1, fit2, fit3, fit4, end_none, end_nat, sl_lt, sl_lf, sl_tt, sl_tf, sl_ct, sl_cf, map_snoc, T_is_number, io_is_number, T_is_cube, io_is_cube, T_is_cover, io_is_cover, T_in_cube, io_in_cube, T_in_cover, io_in_cover, T_is_gate, io_is_gate, T_next_value, io_next_value, T_fights, io_fights, T_reads, io_reads, T__law_draws, io__law_draws, T__law_draw, io__law_draw, T__law_same, io__law_same, T__law_has, io__law_has, T__law_in, io__law_in, T__law_cube, io__law_cube, T__law_cover, io__law_cover, T__law_bits, io__law_bits, T__law_odd, io__law_odd, T__law_next, io__law_next, T__law_gate, io__law_gate, T__law_reads, io__law_reads, T__law_wrong, io__law_wrong, T_law, io_law, op_k_is_cover_0, rs_k_is_cover_0, op_k_in_cover_0, rs_k_in_cover_0, op_k__law_in_0, rs_k__law_in_0, op_k__law_cover_0, rs_k__law_cover_0, op_k__law_reads_2, rs_k__law_reads_2, h1, h2, q]
theorem turn1 {n : Nat} (hn : 20 ≤ n) (d0 : D) (s : St) {w : Nat} {g : G} (hg : GOk w g) (x : Nat) (x2 x5 x6 x7 x8 : Option B) :
    turnF T (callF T m n) m (.nm 5) b_law_1 (natD x) (env d0 s x2 (some (.sh (natD w))) (some (.sh (gateD g))) x5 x6 x7 x8) = .val .nx (env d0 s x2 (some (.sh (natD w))) (some (.sh (gateD g))) (some (.sh (natD x))) (some (.sh (natD 1))) (some (.sh (.bl (fightB x g)))) x8) := by
  have t0 := turn0 (m := m) hn d0 s hg x 0 x2 x6 x7 x8
  have t1 := turn0 (m := m) hn d0 s hg x 1 x2 (some (.sh (natD 0))) x7 x8
  have hfor := (forN_cons (ds := [natD 1]) (.inl t0)).trans ((forN_cons (ds := []) (.inl t1)).trans forN_nil)
  have hf := fights_ok (m := m) (N := n) (by omega) hg x
  have q := same_bls (m := m) (N := n) (by omega) (fightB x g) (fightB x g)
  rw [beq_self_eq_true] at q
  simp only [env] at hfor
  cases g with
  | hold a b =>
    obtain ⟨h1, h2, h3, h4⟩ := hg
    have c1 := in_ok (m := m) (N := n) (by omega) x a (by omega)
    have c2 := in_ok (m := m) (N := n) (by omega) x b (by omega)
    rw [fb_h] at *
    rw [gd_h] at *
    generalize a.any (hasB x) = p at *
    generalize b.any (hasB x) = r at *
    cases p <;> simp only [Bool.false_and, Bool.true_and] at hf q ⊢ <;> simp -implicitDefEqProofs only [b_law_1, env, forN_nil, bindV, bind_ite, opt_some, es_nil', es_cons', then_nx, then_bk, then_ct, then_rt, es1_asg', es1_setx', es1_aug', es1_par', es1_app', es1_ext', es1_ex', es1_ret', op_var, rs_var, op_cst, rs_cst, op_tup, rs_tup, op_lst, rs_lst, op_bin, rs_bin, op_un, rs_un, op_nt, rs_nt, op_cmp, rs_cmp, op_cmp2, rs_cmp2, op_and, rs_and, op_or, rs_or, op_ife, rs_ife, op_ix, rs_ix, op_sl, rs_sl, op_rev, rs_rev, op_call, rs_call, op_prim, rs_prim, op_comp, rs_comp, op_pop, rs_pop, op_dnew, rs_dnew, op_get, rs_get, es1_ret0', es1_ite', es1_brk', es1_cnt', es1_pass', es1_for', es1_wh', ev_var', ev_cst', ev_tup', ev_lst', ev_bin', ev_un', ev_nt', ev_cmp', ev_cmp2', ev_and', ev_or', ev_ife', ev_ix', ev_sl', ev_rev', ev_call', ev_prim', ev_pop', ev_dnew', ev_get', ev_sset', ev_lset', op_sset, op_lset, rs_sset, rs_lset, evs_nil', evs_cons', evx_no', evx_yes', evt_tru', evt_and', evt_or', evt_nt', evt_e', evi_seq', evi_rng', evi_rng2', evi_enum', getB, setB, pk, tk, pks, tks, B.dat, asg_nm, asg_tp, asg_cube, asgN, onOwn, stillB, backB, wipeB, turnF, turnX, turnC, ite_caA, ite_caO, ite_rA, ite_cp, ite_blT, ite_blF, ite_bT, ite_bF, ite_rF, ite_rT, ite_caF, ite_caT, doCall, callArgs, backIn, frzIn, okSlots, slotsOf, List.all_cons, List.all_nil, List.nodup_cons, List.nodup_nil, List.not_mem_nil, not_false_eq_true, and_self, decide_true, List.contains_nil, List.contains_cons, beq_true, beq_false, Bool.true_beq, Bool.false_beq, decide_false, if_true, if_false, Bool.false_eq_true, Bool.and_true, Bool.true_and, Bool.and_false, Bool.false_and, Bool.or_true, Bool.true_or, Bool.or_false, Bool.false_or, Bool.not_true, Bool.not_false, beq_self_eq_true, Bool.not_not, reduceIte, Nat.reduceBEq, Nat.reduceLT, Nat.reduceLeDiff, Nat.reduceAdd, Nat.reducePow, reduceCtorEq, BEq.rfl, List.length_cons, List.length_nil, List.length_map, List.map_cons, List.map_nil, String.reduceBEq, Option.some.injEq, pi_dct_int, pi_dct_bool, pi_dct_str, pi_dct_tuple, pi_dct_list, pi_tup_int, pi_tup_bool, pi_tup_str, pi_tup_tuple, pi_tup_list, pi_lst_int, pi_lst_bool, pi_lst_str, pi_lst_tuple, pi_lst_list, pi_int_int, pi_int_bool, pi_int_str, pi_int_tuple, pi_int_list, pi_bl_int, pi_bl_bool, pi_bl_str, pi_bl_tuple, pi_bl_list, pi_str_int, pi_str_bool, pi_str_str, pi_str_tuple, pi_str_list, pi_non_int, pi_non_bool, pi_non_str, pi_non_tuple, pi_non_list, pi_nat_int, pi_nat_bool, pi_nat_str, pi_nat_tuple, pi_nat_list, pi_strd_int, pi_strd_bool, pi_strd_str, pi_strd_tuple, pi_strd_list, pi_cube_int, pi_cube_bool, pi_cube_str, pi_cube_tuple, pi_cube_list, pi_cover_int, pi_cover_bool, pi_cover_str, pi_cover_tuple, pi_cover_list, cover_mk, ← List.map_take, ← List.map_drop, it_cube, sq_cube, uNeg1, ltNeg, key_nat, get_n, ix_dn, Option.map_some, cube_mk, bAdd, bAnd, bOr, bXor, bShr, uInv, bAndNot, aAdd, aOr, cEqN, cNeN, cEqS, cNeS, cEqC, cNeC, cEqB, cNeB, cLtN, cLeN, cGtN, cGeN, cIsN, cNsN, none_non, none_nat, none_cube, none_bl, none_str, none_tup, cIsB, cNsB, cInN, cEqNL, cNeNL, pr_sortL, cNiN, cInC, tr_bl, tr_non, tr_nat, tr_lst, tr_tup, ix_t0, ix_t1, ix_t2, ix_t3, ix_l0, ix_l1, ix_l2, ix_l3, ix_c0, ix_c1, pr_lenL, pr_lenT, pr_lenC, pr_lenD, pr_lenK, pr_tupL, pr_tupT, pr_lstL, pr_lstT, pr_lstC, pr_lstS, pr_intN, pr_intB, pr_sumN, pr_allB, pr_anyB, it_lst, it_tup, it_cov, sq_lst, sq_tup, sq_cov, fl_nat, fl_str, fl_bl, fl_non, fl_lst, fl_tup, fl_cube, fl_cover, fit0, fit1, fit2, fit3, fit4, end_none, end_nat, sl_lt, sl_lf, sl_tt, sl_tf, sl_ct, sl_cf, map_snoc, T_is_number, io_is_number, T_is_cube, io_is_cube, T_is_cover, io_is_cover, T_in_cube, io_in_cube, T_in_cover, io_in_cover, T_is_gate, io_is_gate, T_next_value, io_next_value, T_fights, io_fights, T_reads, io_reads, T__law_draws, io__law_draws, T__law_draw, io__law_draw, T__law_same, io__law_same, T__law_has, io__law_has, T__law_in, io__law_in, T__law_cube, io__law_cube, T__law_cover, io__law_cover, T__law_bits, io__law_bits, T__law_odd, io__law_odd, T__law_next, io__law_next, T__law_gate, io__law_gate, T__law_reads, io__law_reads, T__law_wrong, io__law_wrong, T_law, io_law, op_k_is_cover_0, rs_k_is_cover_0, op_k_in_cover_0, rs_k_in_cover_0, op_k__law_in_0, rs_k__law_in_0, op_k__law_cover_0, rs_k__law_cover_0, op_k__law_reads_2, rs_k__law_reads_2, hfor, c1, c2, hf, q]
  | pick u v =>
    rw [fb_p] at *
    rw [gd_p] at *
    simp -implicitDefEqProofs only [b_law_1, env, forN_nil, bindV, bind_ite, opt_some, es_nil', es_cons', then_nx, then_bk, then_ct, then_rt, es1_asg', es1_setx', es1_aug', es1_par', es1_app', es1_ext', es1_ex', es1_ret', op_var, rs_var, op_cst, rs_cst, op_tup, rs_tup, op_lst, rs_lst, op_bin, rs_bin, op_un, rs_un, op_nt, rs_nt, op_cmp, rs_cmp, op_cmp2, rs_cmp2, op_and, rs_and, op_or, rs_or, op_ife, rs_ife, op_ix, rs_ix, op_sl, rs_sl, op_rev, rs_rev, op_call, rs_call, op_prim, rs_prim, op_comp, rs_comp, op_pop, rs_pop, op_dnew, rs_dnew, op_get, rs_get, es1_ret0', es1_ite', es1_brk', es1_cnt', es1_pass', es1_for', es1_wh', ev_var', ev_cst', ev_tup', ev_lst', ev_bin', ev_un', ev_nt', ev_cmp', ev_cmp2', ev_and', ev_or', ev_ife', ev_ix', ev_sl', ev_rev', ev_call', ev_prim', ev_pop', ev_dnew', ev_get', ev_sset', ev_lset', op_sset, op_lset, rs_sset, rs_lset, evs_nil', evs_cons', evx_no', evx_yes', evt_tru', evt_and', evt_or', evt_nt', evt_e', evi_seq', evi_rng', evi_rng2', evi_enum', getB, setB, pk, tk, pks, tks, B.dat, asg_nm, asg_tp, asg_cube, asgN, onOwn, stillB, backB, wipeB, turnF, turnX, turnC, ite_caA, ite_caO, ite_rA, ite_cp, ite_blT, ite_blF, ite_bT, ite_bF, ite_rF, ite_rT, ite_caF, ite_caT, doCall, callArgs, backIn, frzIn, okSlots, slotsOf, List.all_cons, List.all_nil, List.nodup_cons, List.nodup_nil, List.not_mem_nil, not_false_eq_true, and_self, decide_true, List.contains_nil, List.contains_cons, beq_true, beq_false, Bool.true_beq, Bool.false_beq, decide_false, if_true, if_false, Bool.false_eq_true, Bool.and_true, Bool.true_and, Bool.and_false, Bool.false_and, Bool.or_true, Bool.true_or, Bool.or_false, Bool.false_or, Bool.not_true, Bool.not_false, beq_self_eq_true, Bool.not_not, reduceIte, Nat.reduceBEq, Nat.reduceLT, Nat.reduceLeDiff, Nat.reduceAdd, Nat.reducePow, reduceCtorEq, BEq.rfl, List.length_cons, List.length_nil, List.length_map, List.map_cons, List.map_nil, String.reduceBEq, Option.some.injEq, pi_dct_int, pi_dct_bool, pi_dct_str, pi_dct_tuple, pi_dct_list, pi_tup_int, pi_tup_bool, pi_tup_str, pi_tup_tuple, pi_tup_list, pi_lst_int, pi_lst_bool, pi_lst_str, pi_lst_tuple, pi_lst_list, pi_int_int, pi_int_bool, pi_int_str, pi_int_tuple, pi_int_list, pi_bl_int, pi_bl_bool, pi_bl_str, pi_bl_tuple, pi_bl_list, pi_str_int, pi_str_bool, pi_str_str, pi_str_tuple, pi_str_list, pi_non_int, pi_non_bool, pi_non_str, pi_non_tuple, pi_non_list, pi_nat_int, pi_nat_bool, pi_nat_str, pi_nat_tuple, pi_nat_list, pi_strd_int, pi_strd_bool, pi_strd_str, pi_strd_tuple, pi_strd_list, pi_cube_int, pi_cube_bool, pi_cube_str, pi_cube_tuple, pi_cube_list, pi_cover_int, pi_cover_bool, pi_cover_str, pi_cover_tuple, pi_cover_list, cover_mk, ← List.map_take, ← List.map_drop, it_cube, sq_cube, uNeg1, ltNeg, key_nat, get_n, ix_dn, Option.map_some, cube_mk, bAdd, bAnd, bOr, bXor, bShr, uInv, bAndNot, aAdd, aOr, cEqN, cNeN, cEqS, cNeS, cEqC, cNeC, cEqB, cNeB, cLtN, cLeN, cGtN, cGeN, cIsN, cNsN, none_non, none_nat, none_cube, none_bl, none_str, none_tup, cIsB, cNsB, cInN, cEqNL, cNeNL, pr_sortL, cNiN, cInC, tr_bl, tr_non, tr_nat, tr_lst, tr_tup, ix_t0, ix_t1, ix_t2, ix_t3, ix_l0, ix_l1, ix_l2, ix_l3, ix_c0, ix_c1, pr_lenL, pr_lenT, pr_lenC, pr_lenD, pr_lenK, pr_tupL, pr_tupT, pr_lstL, pr_lstT, pr_lstC, pr_lstS, pr_intN, pr_intB, pr_sumN, pr_allB, pr_anyB, it_lst, it_tup, it_cov, sq_lst, sq_tup, sq_cov, fl_nat, fl_str, fl_bl, fl_non, fl_lst, fl_tup, fl_cube, fl_cover, fit0, fit1, fit2, fit3, fit4, end_none, end_nat, sl_lt, sl_lf, sl_tt, sl_tf, sl_ct, sl_cf, map_snoc, T_is_number, io_is_number, T_is_cube, io_is_cube, T_is_cover, io_is_cover, T_in_cube, io_in_cube, T_in_cover, io_in_cover, T_is_gate, io_is_gate, T_next_value, io_next_value, T_fights, io_fights, T_reads, io_reads, T__law_draws, io__law_draws, T__law_draw, io__law_draw, T__law_same, io__law_same, T__law_has, io__law_has, T__law_in, io__law_in, T__law_cube, io__law_cube, T__law_cover, io__law_cover, T__law_bits, io__law_bits, T__law_odd, io__law_odd, T__law_next, io__law_next, T__law_gate, io__law_gate, T__law_reads, io__law_reads, T__law_wrong, io__law_wrong, T_law, io_law, op_k_is_cover_0, rs_k_is_cover_0, op_k_in_cover_0, rs_k_in_cover_0, op_k__law_in_0, rs_k__law_in_0, op_k__law_cover_0, rs_k__law_cover_0, op_k__law_reads_2, rs_k__law_reads_2, hfor, hs4, hf, q]
  | sum a =>
    rw [fb_s] at *
    rw [gd_s] at *
    simp -implicitDefEqProofs only [b_law_1, env, forN_nil, bindV, bind_ite, opt_some, es_nil', es_cons', then_nx, then_bk, then_ct, then_rt, es1_asg', es1_setx', es1_aug', es1_par', es1_app', es1_ext', es1_ex', es1_ret', op_var, rs_var, op_cst, rs_cst, op_tup, rs_tup, op_lst, rs_lst, op_bin, rs_bin, op_un, rs_un, op_nt, rs_nt, op_cmp, rs_cmp, op_cmp2, rs_cmp2, op_and, rs_and, op_or, rs_or, op_ife, rs_ife, op_ix, rs_ix, op_sl, rs_sl, op_rev, rs_rev, op_call, rs_call, op_prim, rs_prim, op_comp, rs_comp, op_pop, rs_pop, op_dnew, rs_dnew, op_get, rs_get, es1_ret0', es1_ite', es1_brk', es1_cnt', es1_pass', es1_for', es1_wh', ev_var', ev_cst', ev_tup', ev_lst', ev_bin', ev_un', ev_nt', ev_cmp', ev_cmp2', ev_and', ev_or', ev_ife', ev_ix', ev_sl', ev_rev', ev_call', ev_prim', ev_pop', ev_dnew', ev_get', ev_sset', ev_lset', op_sset, op_lset, rs_sset, rs_lset, evs_nil', evs_cons', evx_no', evx_yes', evt_tru', evt_and', evt_or', evt_nt', evt_e', evi_seq', evi_rng', evi_rng2', evi_enum', getB, setB, pk, tk, pks, tks, B.dat, asg_nm, asg_tp, asg_cube, asgN, onOwn, stillB, backB, wipeB, turnF, turnX, turnC, ite_caA, ite_caO, ite_rA, ite_cp, ite_blT, ite_blF, ite_bT, ite_bF, ite_rF, ite_rT, ite_caF, ite_caT, doCall, callArgs, backIn, frzIn, okSlots, slotsOf, List.all_cons, List.all_nil, List.nodup_cons, List.nodup_nil, List.not_mem_nil, not_false_eq_true, and_self, decide_true, List.contains_nil, List.contains_cons, beq_true, beq_false, Bool.true_beq, Bool.false_beq, decide_false, if_true, if_false, Bool.false_eq_true, Bool.and_true, Bool.true_and, Bool.and_false, Bool.false_and, Bool.or_true, Bool.true_or, Bool.or_false, Bool.false_or, Bool.not_true, Bool.not_false, beq_self_eq_true, Bool.not_not, reduceIte, Nat.reduceBEq, Nat.reduceLT, Nat.reduceLeDiff, Nat.reduceAdd, Nat.reducePow, reduceCtorEq, BEq.rfl, List.length_cons, List.length_nil, List.length_map, List.map_cons, List.map_nil, String.reduceBEq, Option.some.injEq, pi_dct_int, pi_dct_bool, pi_dct_str, pi_dct_tuple, pi_dct_list, pi_tup_int, pi_tup_bool, pi_tup_str, pi_tup_tuple, pi_tup_list, pi_lst_int, pi_lst_bool, pi_lst_str, pi_lst_tuple, pi_lst_list, pi_int_int, pi_int_bool, pi_int_str, pi_int_tuple, pi_int_list, pi_bl_int, pi_bl_bool, pi_bl_str, pi_bl_tuple, pi_bl_list, pi_str_int, pi_str_bool, pi_str_str, pi_str_tuple, pi_str_list, pi_non_int, pi_non_bool, pi_non_str, pi_non_tuple, pi_non_list, pi_nat_int, pi_nat_bool, pi_nat_str, pi_nat_tuple, pi_nat_list, pi_strd_int, pi_strd_bool, pi_strd_str, pi_strd_tuple, pi_strd_list, pi_cube_int, pi_cube_bool, pi_cube_str, pi_cube_tuple, pi_cube_list, pi_cover_int, pi_cover_bool, pi_cover_str, pi_cover_tuple, pi_cover_list, cover_mk, ← List.map_take, ← List.map_drop, it_cube, sq_cube, uNeg1, ltNeg, key_nat, get_n, ix_dn, Option.map_some, cube_mk, bAdd, bAnd, bOr, bXor, bShr, uInv, bAndNot, aAdd, aOr, cEqN, cNeN, cEqS, cNeS, cEqC, cNeC, cEqB, cNeB, cLtN, cLeN, cGtN, cGeN, cIsN, cNsN, none_non, none_nat, none_cube, none_bl, none_str, none_tup, cIsB, cNsB, cInN, cEqNL, cNeNL, pr_sortL, cNiN, cInC, tr_bl, tr_non, tr_nat, tr_lst, tr_tup, ix_t0, ix_t1, ix_t2, ix_t3, ix_l0, ix_l1, ix_l2, ix_l3, ix_c0, ix_c1, pr_lenL, pr_lenT, pr_lenC, pr_lenD, pr_lenK, pr_tupL, pr_tupT, pr_lstL, pr_lstT, pr_lstC, pr_lstS, pr_intN, pr_intB, pr_sumN, pr_allB, pr_anyB, it_lst, it_tup, it_cov, sq_lst, sq_tup, sq_cov, fl_nat, fl_str, fl_bl, fl_non, fl_lst, fl_tup, fl_cube, fl_cover, fit0, fit1, fit2, fit3, fit4, end_none, end_nat, sl_lt, sl_lf, sl_tt, sl_tf, sl_ct, sl_cf, map_snoc, T_is_number, io_is_number, T_is_cube, io_is_cube, T_is_cover, io_is_cover, T_in_cube, io_in_cube, T_in_cover, io_in_cover, T_is_gate, io_is_gate, T_next_value, io_next_value, T_fights, io_fights, T_reads, io_reads, T__law_draws, io__law_draws, T__law_draw, io__law_draw, T__law_same, io__law_same, T__law_has, io__law_has, T__law_in, io__law_in, T__law_cube, io__law_cube, T__law_cover, io__law_cover, T__law_bits, io__law_bits, T__law_odd, io__law_odd, T__law_next, io__law_next, T__law_gate, io__law_gate, T__law_reads, io__law_reads, T__law_wrong, io__law_wrong, T_law, io_law, op_k_is_cover_0, rs_k_is_cover_0, op_k_in_cover_0, rs_k_in_cover_0, op_k__law_in_0, rs_k__law_in_0, op_k__law_cover_0, rs_k__law_cover_0, op_k__law_reads_2, rs_k__law_reads_2, hfor, hs5, hf, q]
theorem loop1 {n : Nat} (hn : 20 ≤ n) (d0 : D) (s : St) {w : Nat} {g : G} (hg : GOk w g) (x2 x8 : Option B) : ∀ (xs : List Nat) (x5 x6 x7 : Option B),
    ∃ y5 y6 y7, forN (turnF T (callF T m n) m (.nm 5) b_law_1) (xs.map natD) (env d0 s x2 (some (.sh (natD w))) (some (.sh (gateD g))) x5 x6 x7 x8) = .val .nx (env d0 s x2 (some (.sh (natD w))) (some (.sh (gateD g))) y5 y6 y7 x8)
  | [], x5, x6, x7 => ⟨x5, x6, x7, rfl⟩
  | x :: xs, x5, x6, x7 => by
    obtain ⟨y5, y6, y7, q⟩ := loop1 (n := n) hn d0 s hg x2 x8 xs (some (.sh (natD x))) (some (.sh (natD 1))) (some (.sh (.bl (fightB x g))))
    exact ⟨y5, y6, y7, by rw [List.map_cons, forN_cons (.inl (turn1 hn d0 s hg x x2 x5 x6 x7 x8)), q]⟩
theorem turn2 {n : Nat} (hn : 20 ≤ n) (d0 : D) (s : St) {w : Nat} (w1 : 1 ≤ w) (hw : w ≤ 900) (g : G) (k : D) (x2 x5 x6 x7 x8 : Option B) :
    ∃ s', turnF T (callF T m n) m (.nm 8) b_law_2 k (env d0 s x2 (some (.sh (natD w))) (some (.sh (gateD g))) x5 x6 x7 x8) = .val .nx (env d0 s' x2 (some (.sh (natD w))) (some (.sh (gateD g))) x5 x6 x7 (some (.sh (k)))) := by
  obtain ⟨d, s', h1, h2⟩ := wrong_ok (m := m) (N := n) (by omega) s w1 hw g
  have h3 := h2 n (by omega)
  exact ⟨s', by simp -implicitDefEqProofs only [b_law_2, env, forN_nil, bindV, bind_ite, opt_some, es_nil', es_cons', then_nx, then_bk, then_ct, then_rt, es1_asg', es1_setx', es1_aug', es1_par', es1_app', es1_ext', es1_ex', es1_ret', op_var, rs_var, op_cst, rs_cst, op_tup, rs_tup, op_lst, rs_lst, op_bin, rs_bin, op_un, rs_un, op_nt, rs_nt, op_cmp, rs_cmp, op_cmp2, rs_cmp2, op_and, rs_and, op_or, rs_or, op_ife, rs_ife, op_ix, rs_ix, op_sl, rs_sl, op_rev, rs_rev, op_call, rs_call, op_prim, rs_prim, op_comp, rs_comp, op_pop, rs_pop, op_dnew, rs_dnew, op_get, rs_get, es1_ret0', es1_ite', es1_brk', es1_cnt', es1_pass', es1_for', es1_wh', ev_var', ev_cst', ev_tup', ev_lst', ev_bin', ev_un', ev_nt', ev_cmp', ev_cmp2', ev_and', ev_or', ev_ife', ev_ix', ev_sl', ev_rev', ev_call', ev_prim', ev_pop', ev_dnew', ev_get', ev_sset', ev_lset', op_sset, op_lset, rs_sset, rs_lset, evs_nil', evs_cons', evx_no', evx_yes', evt_tru', evt_and', evt_or', evt_nt', evt_e', evi_seq', evi_rng', evi_rng2', evi_enum', getB, setB, pk, tk, pks, tks, B.dat, asg_nm, asg_tp, asg_cube, asgN, onOwn, stillB, backB, wipeB, turnF, turnX, turnC, ite_caA, ite_caO, ite_rA, ite_cp, ite_blT, ite_blF, ite_bT, ite_bF, ite_rF, ite_rT, ite_caF, ite_caT, doCall, callArgs, backIn, frzIn, okSlots, slotsOf, List.all_cons, List.all_nil, List.nodup_cons, List.nodup_nil, List.not_mem_nil, not_false_eq_true, and_self, decide_true, List.contains_nil, List.contains_cons, beq_true, beq_false, Bool.true_beq, Bool.false_beq, decide_false, if_true, if_false, Bool.false_eq_true, Bool.and_true, Bool.true_and, Bool.and_false, Bool.false_and, Bool.or_true, Bool.true_or, Bool.or_false, Bool.false_or, Bool.not_true, Bool.not_false, beq_self_eq_true, Bool.not_not, reduceIte, Nat.reduceBEq, Nat.reduceLT, Nat.reduceLeDiff, Nat.reduceAdd, Nat.reducePow, reduceCtorEq, BEq.rfl, List.length_cons, List.length_nil, List.length_map, List.map_cons, List.map_nil, String.reduceBEq, Option.some.injEq, pi_dct_int, pi_dct_bool, pi_dct_str, pi_dct_tuple, pi_dct_list, pi_tup_int, pi_tup_bool, pi_tup_str, pi_tup_tuple, pi_tup_list, pi_lst_int, pi_lst_bool, pi_lst_str, pi_lst_tuple, pi_lst_list, pi_int_int, pi_int_bool, pi_int_str, pi_int_tuple, pi_int_list, pi_bl_int, pi_bl_bool, pi_bl_str, pi_bl_tuple, pi_bl_list, pi_str_int, pi_str_bool, pi_str_str, pi_str_tuple, pi_str_list, pi_non_int, pi_non_bool, pi_non_str, pi_non_tuple, pi_non_list, pi_nat_int, pi_nat_bool, pi_nat_str, pi_nat_tuple, pi_nat_list, pi_strd_int, pi_strd_bool, pi_strd_str, pi_strd_tuple, pi_strd_list, pi_cube_int, pi_cube_bool, pi_cube_str, pi_cube_tuple, pi_cube_list, pi_cover_int, pi_cover_bool, pi_cover_str, pi_cover_tuple, pi_cover_list, cover_mk, ← List.map_take, ← List.map_drop, it_cube, sq_cube, uNeg1, ltNeg, key_nat, get_n, ix_dn, Option.map_some, cube_mk, bAdd, bAnd, bOr, bXor, bShr, uInv, bAndNot, aAdd, aOr, cEqN, cNeN, cEqS, cNeS, cEqC, cNeC, cEqB, cNeB, cLtN, cLeN, cGtN, cGeN, cIsN, cNsN, none_non, none_nat, none_cube, none_bl, none_str, none_tup, cIsB, cNsB, cInN, cEqNL, cNeNL, pr_sortL, cNiN, cInC, tr_bl, tr_non, tr_nat, tr_lst, tr_tup, ix_t0, ix_t1, ix_t2, ix_t3, ix_l0, ix_l1, ix_l2, ix_l3, ix_c0, ix_c1, pr_lenL, pr_lenT, pr_lenC, pr_lenD, pr_lenK, pr_tupL, pr_tupT, pr_lstL, pr_lstT, pr_lstC, pr_lstS, pr_intN, pr_intB, pr_sumN, pr_allB, pr_anyB, it_lst, it_tup, it_cov, sq_lst, sq_tup, sq_cov, fl_nat, fl_str, fl_bl, fl_non, fl_lst, fl_tup, fl_cube, fl_cover, fit0, fit1, fit2, fit3, fit4, end_none, end_nat, sl_lt, sl_lf, sl_tt, sl_tf, sl_ct, sl_cf, map_snoc, T_is_number, io_is_number, T_is_cube, io_is_cube, T_is_cover, io_is_cover, T_in_cube, io_in_cube, T_in_cover, io_in_cover, T_is_gate, io_is_gate, T_next_value, io_next_value, T_fights, io_fights, T_reads, io_reads, T__law_draws, io__law_draws, T__law_draw, io__law_draw, T__law_same, io__law_same, T__law_has, io__law_has, T__law_in, io__law_in, T__law_cube, io__law_cube, T__law_cover, io__law_cover, T__law_bits, io__law_bits, T__law_odd, io__law_odd, T__law_next, io__law_next, T__law_gate, io__law_gate, T__law_reads, io__law_reads, T__law_wrong, io__law_wrong, T_law, io_law, op_k_is_cover_0, rs_k_is_cover_0, op_k_in_cover_0, rs_k_in_cover_0, op_k__law_in_0, rs_k__law_in_0, op_k__law_cover_0, rs_k__law_cover_0, op_k__law_reads_2, rs_k__law_reads_2, h1, h3]⟩
theorem loop2 {n : Nat} (hn : 20 ≤ n) (d0 : D) {w : Nat} (w1 : 1 ≤ w) (hw : w ≤ 900) (g : G) (x2 x5 x6 x7 : Option B) : ∀ (ks : List Nat) (s : St) (x8 : Option B),
    ∃ s' y8, forN (turnF T (callF T m n) m (.nm 8) b_law_2) (ks.map natD) (env d0 s x2 (some (.sh (natD w))) (some (.sh (gateD g))) x5 x6 x7 x8) = .val .nx (env d0 s' x2 (some (.sh (natD w))) (some (.sh (gateD g))) x5 x6 x7 y8)
  | [], s, x8 => ⟨s, x8, rfl⟩
  | k :: ks, s, x8 => by
    obtain ⟨s1, t⟩ := turn2 (m := m) hn d0 s w1 hw g (natD k) x2 x5 x6 x7 x8
    obtain ⟨s2, y8, q⟩ := loop2 (n := n) hn d0 w1 hw g x2 x5 x6 x7 ks s1 (some (.sh (natD k)))
    exact ⟨s2, y8, by rw [List.map_cons, forN_cons (.inl t), q]⟩
theorem turn3 {n : Nat} (hn : 20 ≤ n) (hm : 1000 ≤ m) (d0 : D) (s : St) (k : D) (x2 x3 x4 x5 x6 x7 x8 : Option B) :
    ∃ (s' : St) (z3 z4 z5 z6 z7 z8 : Option B), turnF T (callF T m n) m (.nm 2) b_law_3 k (env d0 s x2 x3 x4 x5 x6 x7 x8) = .val .nx (env d0 s' (some (.sh (k))) z3 z4 z5 z6 z7 z8) := by
  have hd1 := draw_ok (m := m) (N := n) (by omega) s 6 (by omega) (by omega)
  have hv1 := v_lt s (l := 6) (by omega)
  generalize s.s 6 = s1 at hd1
  generalize s.v 6 = v1 at hd1 hv1
  obtain ⟨w, hw⟩ : ∃ w, w = 1 + v1 := ⟨_, rfl⟩
  have w1 : 1 ≤ w := by omega
  have w2 : w ≤ 6 := by omega
  obtain ⟨g, s2, c2, hg⟩ := gate_ok (m := m) (N := n) (by omega) s1 w1 (by omega)
  obtain ⟨y5, y6, y7, l1⟩ := loop1 (m := m) hn d0 s2 hg (some (.sh (k))) x8 (List.range (2 ^ w)) x5 x6 x7
  obtain ⟨s3, y8, l2⟩ := loop2 (m := m) hn d0 (w := w) w1 (by omega) g (some (.sh (k))) y5 y6 y7 (List.range 6) s2 x8
  have hs := bShl1 (v := w) (by omega)
  have hp : 2 ^ w ≤ 2 ^ 6 := Nat.pow_le_pow_right (by omega) w2
  have hr1 := fun e => rng_nat (n := 2 ^ w) (e := e) (by omega)
  have hr2 := fun e => rng_nat (n := 6) (e := e) (by omega)
  have r1 := reads_ok (m := m) (N := n) (by omega) (w := w) (by omega) hg
  have r2 := law_reads_ok (m := m) (N := n) (by omega) hm (w := w) (by omega) hg
  have q := same_nats (m := m) (N := n) (by omega) (readsN g) (readsN g)
  rw [beq_self_eq_true] at q
  have hgood := is_gate_good (m := m) (N := n) (by omega) w1 (by omega) hg
  refine ⟨s3, some (.sh (natD w)), some (.sh (gateD g)), y5, y6, y7, y8, ?_⟩
  simp only [env] at l1 l2
  simp -implicitDefEqProofs only [b_law_3, env, forN_nil, bindV, bind_ite, opt_some, es_nil', es_cons', then_nx, then_bk, then_ct, then_rt, es1_asg', es1_setx', es1_aug', es1_par', es1_app', es1_ext', es1_ex', es1_ret', op_var, rs_var, op_cst, rs_cst, op_tup, rs_tup, op_lst, rs_lst, op_bin, rs_bin, op_un, rs_un, op_nt, rs_nt, op_cmp, rs_cmp, op_cmp2, rs_cmp2, op_and, rs_and, op_or, rs_or, op_ife, rs_ife, op_ix, rs_ix, op_sl, rs_sl, op_rev, rs_rev, op_call, rs_call, op_prim, rs_prim, op_comp, rs_comp, op_pop, rs_pop, op_dnew, rs_dnew, op_get, rs_get, es1_ret0', es1_ite', es1_brk', es1_cnt', es1_pass', es1_for', es1_wh', ev_var', ev_cst', ev_tup', ev_lst', ev_bin', ev_un', ev_nt', ev_cmp', ev_cmp2', ev_and', ev_or', ev_ife', ev_ix', ev_sl', ev_rev', ev_call', ev_prim', ev_pop', ev_dnew', ev_get', ev_sset', ev_lset', op_sset, op_lset, rs_sset, rs_lset, evs_nil', evs_cons', evx_no', evx_yes', evt_tru', evt_and', evt_or', evt_nt', evt_e', evi_seq', evi_rng', evi_rng2', evi_enum', getB, setB, pk, tk, pks, tks, B.dat, asg_nm, asg_tp, asg_cube, asgN, onOwn, stillB, backB, wipeB, turnF, turnX, turnC, ite_caA, ite_caO, ite_rA, ite_cp, ite_blT, ite_blF, ite_bT, ite_bF, ite_rF, ite_rT, ite_caF, ite_caT, doCall, callArgs, backIn, frzIn, okSlots, slotsOf, List.all_cons, List.all_nil, List.nodup_cons, List.nodup_nil, List.not_mem_nil, not_false_eq_true, and_self, decide_true, List.contains_nil, List.contains_cons, beq_true, beq_false, Bool.true_beq, Bool.false_beq, decide_false, if_true, if_false, Bool.false_eq_true, Bool.and_true, Bool.true_and, Bool.and_false, Bool.false_and, Bool.or_true, Bool.true_or, Bool.or_false, Bool.false_or, Bool.not_true, Bool.not_false, beq_self_eq_true, Bool.not_not, reduceIte, Nat.reduceBEq, Nat.reduceLT, Nat.reduceLeDiff, Nat.reduceAdd, Nat.reducePow, reduceCtorEq, BEq.rfl, List.length_cons, List.length_nil, List.length_map, List.map_cons, List.map_nil, String.reduceBEq, Option.some.injEq, pi_dct_int, pi_dct_bool, pi_dct_str, pi_dct_tuple, pi_dct_list, pi_tup_int, pi_tup_bool, pi_tup_str, pi_tup_tuple, pi_tup_list, pi_lst_int, pi_lst_bool, pi_lst_str, pi_lst_tuple, pi_lst_list, pi_int_int, pi_int_bool, pi_int_str, pi_int_tuple, pi_int_list, pi_bl_int, pi_bl_bool, pi_bl_str, pi_bl_tuple, pi_bl_list, pi_str_int, pi_str_bool, pi_str_str, pi_str_tuple, pi_str_list, pi_non_int, pi_non_bool, pi_non_str, pi_non_tuple, pi_non_list, pi_nat_int, pi_nat_bool, pi_nat_str, pi_nat_tuple, pi_nat_list, pi_strd_int, pi_strd_bool, pi_strd_str, pi_strd_tuple, pi_strd_list, pi_cube_int, pi_cube_bool, pi_cube_str, pi_cube_tuple, pi_cube_list, pi_cover_int, pi_cover_bool, pi_cover_str, pi_cover_tuple, pi_cover_list, cover_mk, ← List.map_take, ← List.map_drop, it_cube, sq_cube, uNeg1, ltNeg, key_nat, get_n, ix_dn, Option.map_some, cube_mk, bAdd, bAnd, bOr, bXor, bShr, uInv, bAndNot, aAdd, aOr, cEqN, cNeN, cEqS, cNeS, cEqC, cNeC, cEqB, cNeB, cLtN, cLeN, cGtN, cGeN, cIsN, cNsN, none_non, none_nat, none_cube, none_bl, none_str, none_tup, cIsB, cNsB, cInN, cEqNL, cNeNL, pr_sortL, cNiN, cInC, tr_bl, tr_non, tr_nat, tr_lst, tr_tup, ix_t0, ix_t1, ix_t2, ix_t3, ix_l0, ix_l1, ix_l2, ix_l3, ix_c0, ix_c1, pr_lenL, pr_lenT, pr_lenC, pr_lenD, pr_lenK, pr_tupL, pr_tupT, pr_lstL, pr_lstT, pr_lstC, pr_lstS, pr_intN, pr_intB, pr_sumN, pr_allB, pr_anyB, it_lst, it_tup, it_cov, sq_lst, sq_tup, sq_cov, fl_nat, fl_str, fl_bl, fl_non, fl_lst, fl_tup, fl_cube, fl_cover, fit0, fit1, fit2, fit3, fit4, end_none, end_nat, sl_lt, sl_lf, sl_tt, sl_tf, sl_ct, sl_cf, map_snoc, T_is_number, io_is_number, T_is_cube, io_is_cube, T_is_cover, io_is_cover, T_in_cube, io_in_cube, T_in_cover, io_in_cover, T_is_gate, io_is_gate, T_next_value, io_next_value, T_fights, io_fights, T_reads, io_reads, T__law_draws, io__law_draws, T__law_draw, io__law_draw, T__law_same, io__law_same, T__law_has, io__law_has, T__law_in, io__law_in, T__law_cube, io__law_cube, T__law_cover, io__law_cover, T__law_bits, io__law_bits, T__law_odd, io__law_odd, T__law_next, io__law_next, T__law_gate, io__law_gate, T__law_reads, io__law_reads, T__law_wrong, io__law_wrong, T_law, io_law, op_k_is_cover_0, rs_k_is_cover_0, op_k_in_cover_0, rs_k_in_cover_0, op_k__law_in_0, rs_k__law_in_0, op_k__law_cover_0, rs_k__law_cover_0, op_k__law_reads_2, rs_k__law_reads_2, hd1, ← hw, c2, hs, hr1, l1, r1, r2, q, hgood, hr2, l2]
theorem main_n (n : Nat) (hn : n = 199) (ns : List Int) (hns : ns.length ≤ 63) : ∃ m fr outs, callF T m (n + 1) 22 [.sh (.scr (ns.map .int))] = .ret fr (.bl true) outs := by
  obtain ⟨m, hm⟩ : ∃ m, 1000 ≤ m := ⟨1000, Nat.le_refl _⟩
  obtain ⟨s0, h0⟩ := draws_ok (m := m) (N := n) (by omega) ns
  obtain ⟨s1, a3, a4, a5, a6, a7, a8, t1⟩ := turn3 (m := m) (n := n) (by omega) hm (.scr (ns.map .int)) s0 (natD 0) none none none none none none none
  obtain ⟨s2, b3, b4, b5, b6, b7, b8, t2⟩ := turn3 (m := m) (n := n) (by omega) hm (.scr (ns.map .int)) s1 (natD 1) (some (.sh (natD 0))) a3 a4 a5 a6 a7 a8
  obtain ⟨s3, c3, c4, c5, c6, c7, c8, t3⟩ := turn3 (m := m) (n := n) (by omega) hm (.scr (ns.map .int)) s2 (natD 2) (some (.sh (natD 1))) b3 b4 b5 b6 b7 b8
  obtain ⟨s4, f3, f4, f5, f6, f7, f8, t4⟩ := turn3 (m := m) (n := n) (by omega) hm (.scr (ns.map .int)) s3 (natD 3) (some (.sh (natD 2))) c3 c4 c5 c6 c7 c8
  have hr : ∀ e, rngA (natD 4) e = .val [natD 0, natD 1, natD 2, natD 3] e := fun e => rng_nat (n := 4) (by omega)
  have hfor := (forN_cons (.inl t1)).trans ((forN_cons (ds := [natD 2, natD 3]) (.inl t2)).trans ((forN_cons (ds := [natD 3]) (.inl t3)).trans ((forN_cons (ds := []) (.inl t4)).trans forN_nil)))
  have g1 : callF T m n 5 [.sh (.tup [strD "sum", .tup []]), .sh (natD 1)] = .ret false (.bl true) [.sh (.tup [strD "sum", .tup []]), .sh (natD 1)] :=
    is_gate_good (m := m) (N := n) (w := 1) (g := .sum []) (by omega) (by omega) (by omega) ⟨by simp, by simp⟩
  have g2 : callF T m n 5 [.sh (.tup [strD "hold", .tup [], .tup []]), .sh (natD 1)] = .ret false (.bl true) [.sh (.tup [strD "hold", .tup [], .tup []]), .sh (natD 1)] :=
    is_gate_good (m := m) (N := n) (w := 1) (g := .hold [] []) (by omega) (by omega) (by omega) ⟨by simp, by simp, by simp, by simp⟩
  have g3 : callF T m n 5 [.sh (.tup [strD "pick", natD 0, natD 0]), .sh (natD 1)] = .ret false (.bl true) [.sh (.tup [strD "pick", natD 0, natD 0]), .sh (natD 1)] :=
    is_gate_good (m := m) (N := n) (w := 1) (g := .pick 0 0) (by omega) (by omega) (by omega) ⟨by omega, by omega⟩
  simp only [env] at hfor
  refine ⟨m, false, [.sh (.scr (ns.map .int))], (callF_body (n := n) T_law rfl).trans ?_⟩
  simp -implicitDefEqProofs only [f_law, List.map_cons, List.map_nil, List.cons_append, List.nil_append, List.replicate, Nat.sub_self, Nat.reduceSub, end_rt, end_nx, end_ite, outsOf, forN_nil, bindV, bind_ite, opt_some, es_nil', es_cons', then_nx, then_bk, then_ct, then_rt, es1_asg', es1_setx', es1_aug', es1_par', es1_app', es1_ext', es1_ex', es1_ret', op_var, rs_var, op_cst, rs_cst, op_tup, rs_tup, op_lst, rs_lst, op_bin, rs_bin, op_un, rs_un, op_nt, rs_nt, op_cmp, rs_cmp, op_cmp2, rs_cmp2, op_and, rs_and, op_or, rs_or, op_ife, rs_ife, op_ix, rs_ix, op_sl, rs_sl, op_rev, rs_rev, op_call, rs_call, op_prim, rs_prim, op_comp, rs_comp, op_pop, rs_pop, op_dnew, rs_dnew, op_get, rs_get, es1_ret0', es1_ite', es1_brk', es1_cnt', es1_pass', es1_for', es1_wh', ev_var', ev_cst', ev_tup', ev_lst', ev_bin', ev_un', ev_nt', ev_cmp', ev_cmp2', ev_and', ev_or', ev_ife', ev_ix', ev_sl', ev_rev', ev_call', ev_prim', ev_pop', ev_dnew', ev_get', ev_sset', ev_lset', op_sset, op_lset, rs_sset, rs_lset, evs_nil', evs_cons', evx_no', evx_yes', evt_tru', evt_and', evt_or', evt_nt', evt_e', evi_seq', evi_rng', evi_rng2', evi_enum', getB, setB, pk, tk, pks, tks, B.dat, asg_nm, asg_tp, asg_cube, asgN, onOwn, stillB, backB, wipeB, turnF, turnX, turnC, ite_caA, ite_caO, ite_rA, ite_cp, ite_blT, ite_blF, ite_bT, ite_bF, ite_rF, ite_rT, ite_caF, ite_caT, doCall, callArgs, backIn, frzIn, okSlots, slotsOf, List.all_cons, List.all_nil, List.nodup_cons, List.nodup_nil, List.not_mem_nil, not_false_eq_true, and_self, decide_true, List.contains_nil, List.contains_cons, beq_true, beq_false, Bool.true_beq, Bool.false_beq, decide_false, if_true, if_false, Bool.false_eq_true, Bool.and_true, Bool.true_and, Bool.and_false, Bool.false_and, Bool.or_true, Bool.true_or, Bool.or_false, Bool.false_or, Bool.not_true, Bool.not_false, beq_self_eq_true, Bool.not_not, reduceIte, Nat.reduceBEq, Nat.reduceLT, Nat.reduceLeDiff, Nat.reduceAdd, Nat.reducePow, reduceCtorEq, BEq.rfl, List.length_cons, List.length_nil, List.length_map, List.map_cons, List.map_nil, String.reduceBEq, Option.some.injEq, pi_dct_int, pi_dct_bool, pi_dct_str, pi_dct_tuple, pi_dct_list, pi_tup_int, pi_tup_bool, pi_tup_str, pi_tup_tuple, pi_tup_list, pi_lst_int, pi_lst_bool, pi_lst_str, pi_lst_tuple, pi_lst_list, pi_int_int, pi_int_bool, pi_int_str, pi_int_tuple, pi_int_list, pi_bl_int, pi_bl_bool, pi_bl_str, pi_bl_tuple, pi_bl_list, pi_str_int, pi_str_bool, pi_str_str, pi_str_tuple, pi_str_list, pi_non_int, pi_non_bool, pi_non_str, pi_non_tuple, pi_non_list, pi_nat_int, pi_nat_bool, pi_nat_str, pi_nat_tuple, pi_nat_list, pi_strd_int, pi_strd_bool, pi_strd_str, pi_strd_tuple, pi_strd_list, pi_cube_int, pi_cube_bool, pi_cube_str, pi_cube_tuple, pi_cube_list, pi_cover_int, pi_cover_bool, pi_cover_str, pi_cover_tuple, pi_cover_list, cover_mk, ← List.map_take, ← List.map_drop, it_cube, sq_cube, uNeg1, ltNeg, key_nat, get_n, ix_dn, Option.map_some, cube_mk, bAdd, bAnd, bOr, bXor, bShr, uInv, bAndNot, aAdd, aOr, cEqN, cNeN, cEqS, cNeS, cEqC, cNeC, cEqB, cNeB, cLtN, cLeN, cGtN, cGeN, cIsN, cNsN, none_non, none_nat, none_cube, none_bl, none_str, none_tup, cIsB, cNsB, cInN, cEqNL, cNeNL, pr_sortL, cNiN, cInC, tr_bl, tr_non, tr_nat, tr_lst, tr_tup, ix_t0, ix_t1, ix_t2, ix_t3, ix_l0, ix_l1, ix_l2, ix_l3, ix_c0, ix_c1, pr_lenL, pr_lenT, pr_lenC, pr_lenD, pr_lenK, pr_tupL, pr_tupT, pr_lstL, pr_lstT, pr_lstC, pr_lstS, pr_intN, pr_intB, pr_sumN, pr_allB, pr_anyB, it_lst, it_tup, it_cov, sq_lst, sq_tup, sq_cov, fl_nat, fl_str, fl_bl, fl_non, fl_lst, fl_tup, fl_cube, fl_cover, fit0, fit1, fit2, fit3, fit4, end_none, end_nat, sl_lt, sl_lf, sl_tt, sl_tf, sl_ct, sl_cf, map_snoc, T_is_number, io_is_number, T_is_cube, io_is_cube, T_is_cover, io_is_cover, T_in_cube, io_in_cube, T_in_cover, io_in_cover, T_is_gate, io_is_gate, T_next_value, io_next_value, T_fights, io_fights, T_reads, io_reads, T__law_draws, io__law_draws, T__law_draw, io__law_draw, T__law_same, io__law_same, T__law_has, io__law_has, T__law_in, io__law_in, T__law_cube, io__law_cube, T__law_cover, io__law_cover, T__law_bits, io__law_bits, T__law_odd, io__law_odd, T__law_next, io__law_next, T__law_gate, io__law_gate, T__law_reads, io__law_reads, T__law_wrong, io__law_wrong, T_law, io_law, op_k_is_cover_0, rs_k_is_cover_0, op_k_in_cover_0, rs_k_in_cover_0, op_k__law_in_0, rs_k__law_in_0, op_k__law_cover_0, rs_k__law_cover_0, op_k__law_reads_2, rs_k__law_reads_2, fl_st, h0, hr, hfor, g1, g2, g3]
theorem main (ns : List Int) (hns : ns.length ≤ 63) : ∃ m fr outs, callF T m 200 22 [.sh (.scr (ns.map .int))] = .ret fr (.bl true) outs := main_n 199 rfl ns hns
theorem main_m (ns : List Int) (h : ns.length ≤ 63) : ∃ m fr outs, callF (recs.map Rec.fn) m 200 22 [.sh (.scr (ns.map .int))] = .ret fr (.bl true) outs := main ns h
end L2.Eng.Lk23
namespace L2.Eng.Lk23
open PySem L2 L2.Eng
theorem oks : ∀ r ∈ recs, r.Ok fnT := (List.forall_mem_cons.mpr ⟨ok_is_number, (List.forall_mem_cons.mpr ⟨ok_is_cube, (List.forall_mem_cons.mpr ⟨ok_is_cover, (List.forall_mem_cons.mpr ⟨ok_in_cube, (List.forall_mem_cons.mpr ⟨ok_in_cover, (List.forall_mem_cons.mpr ⟨ok_is_gate, (List.forall_mem_cons.mpr ⟨ok_next_value, (List.forall_mem_cons.mpr ⟨ok_fights, (List.forall_mem_cons.mpr ⟨ok_reads, (List.forall_mem_cons.mpr ⟨ok__law_draws, (List.forall_mem_cons.mpr ⟨ok__law_draw, (List.forall_mem_cons.mpr ⟨ok__law_same, (List.forall_mem_cons.mpr ⟨ok__law_has, (List.forall_mem_cons.mpr ⟨ok__law_in, (List.forall_mem_cons.mpr ⟨ok__law_cube, (List.forall_mem_cons.mpr ⟨ok__law_cover, (List.forall_mem_cons.mpr ⟨ok__law_bits, (List.forall_mem_cons.mpr ⟨ok__law_odd, (List.forall_mem_cons.mpr ⟨ok__law_next, (List.forall_mem_cons.mpr ⟨ok__law_gate, (List.forall_mem_cons.mpr ⟨ok__law_reads, (List.forall_mem_cons.mpr ⟨ok__law_wrong, (List.forall_mem_cons.mpr ⟨ok_law, (fun _ h => absurd h (List.not_mem_nil))⟩)⟩)⟩)⟩)⟩)⟩)⟩)⟩)⟩)⟩)⟩)⟩)⟩)⟩)⟩)⟩)⟩)⟩)⟩)⟩)⟩)⟩)⟩)
end L2.Eng.Lk23
open PySem PySem.W PyProof.Rows
set_option maxRecDepth 100000 in
set_option maxHeartbeats 0 in
theorem PySem.Challenge.cw_unhurried_k23_gates_holds : PySem.Challenge.rw_unhurried_k23_gates.Holds := by
  w_on; o_law; k_head; (case hw => w_witness2)
  k_fill
  refine L2.Eng.walk (l := PySem.Challenge.rw_unhurried_k23_gates) L2.Eng.room200 rfl rfl (fun w h Y => PySem.W.kIn_of Y) ?F
  case F =>
    intro w mg fa h KX G hmg
    refine L2.Eng.all_mk (rs := L2.Eng.Lk23.recs) (fns := L2.Eng.Lk23.fnT) (r := L2.Eng.Lk23.r_law) (f := 22) KX G hmg L2.Eng.Lk23.oks ?here (by decide +kernel) rfl rfl rfl rfl ?blt L2.Eng.Lk23.main_m (fun fd _ he s v => by obtain ⟨_, _, _, _, _, _, e⟩ := he; subst e; exact .of_eq rfl)
    case here =>
      refine List.forall_mem_cons.mpr ⟨?_, ?_⟩
      · refine' L2.Eng.here_mk (x := "is_number") (st := L2.Eng.Lk23.top 1) (ps := ["value", "low", "high"]) ?a ?l ?c ?k (fun _ _ _ _ _ _ us hl => match us, hl with | [_, _, _], _ => rfl)
        (case a => k_is); (case l => k_is); (case c => k_is); (case k => k_is)
      refine List.forall_mem_cons.mpr ⟨?_, ?_⟩
      · refine' L2.Eng.here_mk (x := "is_cube") (st := L2.Eng.Lk23.top 2) (ps := ["value", "n"]) ?a ?l ?c ?k (fun _ _ _ _ _ _ us hl => match us, hl with | [_, _], _ => rfl)
        (case a => k_is); (case l => k_is); (case c => k_is); (case k => k_is)
      refine List.forall_mem_cons.mpr ⟨?_, ?_⟩
      · refine' L2.Eng.here_mk (x := "is_cover") (st := L2.Eng.Lk23.top 3) (ps := ["value", "n"]) ?a ?l ?c ?k (fun _ _ _ _ _ _ us hl => match us, hl with | [_, _], _ => rfl)
        (case a => k_is); (case l => k_is); (case c => k_is); (case k => k_is)
      refine List.forall_mem_cons.mpr ⟨?_, ?_⟩
      · refine' L2.Eng.here_mk (x := "in_cube") (st := L2.Eng.Lk23.top 4) (ps := ["x", "cube"]) ?a ?l ?c ?k (fun _ _ _ _ _ _ us hl => match us, hl with | [_, _], _ => rfl)
        (case a => k_is); (case l => k_is); (case c => k_is); (case k => k_is)
      refine List.forall_mem_cons.mpr ⟨?_, ?_⟩
      · refine' L2.Eng.here_mk (x := "in_cover") (st := L2.Eng.Lk23.top 5) (ps := ["x", "cover"]) ?a ?l ?c ?k (fun _ _ _ _ _ _ us hl => match us, hl with | [_, _], _ => rfl)
        (case a => k_is); (case l => k_is); (case c => k_is); (case k => k_is)
      refine List.forall_mem_cons.mpr ⟨?_, ?_⟩
      · refine' L2.Eng.here_mk (x := "is_gate") (st := L2.Eng.Lk23.top 7) (ps := ["value", "n"]) ?a ?l ?c ?k (fun _ _ _ _ _ _ us hl => match us, hl with | [_, _], _ => rfl)
        (case a => k_is); (case l => k_is); (case c => k_is); (case k => k_is)
      refine List.forall_mem_cons.mpr ⟨?_, ?_⟩
      · refine' L2.Eng.here_mk (x := "next_value") (st := L2.Eng.Lk23.top 8) (ps := ["gate", "x", "now"]) ?a ?l ?c ?k (fun _ _ _ _ _ _ us hl => match us, hl with | [_, _, _], _ => rfl)
        (case a => k_is); (case l => k_is); (case c => k_is); (case k => k_is)
      refine List.forall_mem_cons.mpr ⟨?_, ?_⟩
      · refine' L2.Eng.here_mk (x := "fights") (st := L2.Eng.Lk23.top 9) (ps := ["gate", "x"]) ?a ?l ?c ?k (fun _ _ _ _ _ _ us hl => match us, hl with | [_, _], _ => rfl)
        (case a => k_is); (case l => k_is); (case c => k_is); (case k => k_is)
      refine List.forall_mem_cons.mpr ⟨?_, ?_⟩
      · refine' L2.Eng.here_mk (x := "reads") (st := L2.Eng.Lk23.top 10) (ps := ["gate"]) ?a ?l ?c ?k (fun _ _ _ _ _ _ us hl => match us, hl with | [_], _ => rfl)
        (case a => k_is); (case l => k_is); (case c => k_is); (case k => k_is)
      refine List.forall_mem_cons.mpr ⟨?_, ?_⟩
      · refine' L2.Eng.here_mk (x := "_law_draws") (st := L2.Eng.Lk23.top 12) (ps := ["script"]) ?a ?l ?c ?k (fun _ _ _ _ _ _ us hl => match us, hl with | [_], _ => rfl)
        (case a => k_is); (case l => k_is); (case c => k_is); (case k => k_is)
      refine List.forall_mem_cons.mpr ⟨?_, ?_⟩
      · refine' L2.Eng.here_mk (x := "_law_draw") (st := L2.Eng.Lk23.top 13) (ps := ["draws", "limit"]) ?a ?l ?c ?k (fun _ _ _ _ _ _ us hl => match us, hl with | [_, _], _ => rfl)
        (case a => k_is); (case l => k_is); (case c => k_is); (case k => k_is)
      refine List.forall_mem_cons.mpr ⟨?_, ?_⟩
      · refine' L2.Eng.here_mk (x := "_law_same") (st := L2.Eng.Lk23.top 15) (ps := ["actual", "expected"]) ?a ?l ?c ?k (fun _ _ _ _ _ _ us hl => match us, hl with | [_, _], _ => rfl)
        (case a => k_is); (case l => k_is); (case c => k_is); (case k => k_is)
      refine List.forall_mem_cons.mpr ⟨?_, ?_⟩
      · refine' L2.Eng.here_mk (x := "_law_has") (st := L2.Eng.Lk23.top 17) (ps := ["x", "cube"]) ?a ?l ?c ?k (fun _ _ _ _ _ _ us hl => match us, hl with | [_, _], _ => rfl)
        (case a => k_is); (case l => k_is); (case c => k_is); (case k => k_is)
      refine List.forall_mem_cons.mpr ⟨?_, ?_⟩
      · refine' L2.Eng.here_mk (x := "_law_in") (st := L2.Eng.Lk23.top 18) (ps := ["x", "cover"]) ?a ?l ?c ?k (fun _ _ _ _ _ _ us hl => match us, hl with | [_, _], _ => rfl)
        (case a => k_is); (case l => k_is); (case c => k_is); (case k => k_is)
      refine List.forall_mem_cons.mpr ⟨?_, ?_⟩
      · refine' L2.Eng.here_mk (x := "_law_cube") (st := L2.Eng.Lk23.top 19) (ps := ["draws", "n"]) ?a ?l ?c ?k (fun _ _ _ _ _ _ us hl => match us, hl with | [_, _], _ => rfl)
        (case a => k_is); (case l => k_is); (case c => k_is); (case k => k_is)
      refine List.forall_mem_cons.mpr ⟨?_, ?_⟩
      · refine' L2.Eng.here_mk (x := "_law_cover") (st := L2.Eng.Lk23.top 20) (ps := ["draws", "n", "most"]) ?a ?l ?c ?k (fun _ _ _ _ _ _ us hl => match us, hl with | [_, _, _], _ => rfl)
        (case a => k_is); (case l => k_is); (case c => k_is); (case k => k_is)
      refine List.forall_mem_cons.mpr ⟨?_, ?_⟩
      · refine' L2.Eng.here_mk (x := "_law_bits") (st := L2.Eng.Lk23.top 22) (ps := ["mask"]) ?a ?l ?c ?k (fun _ _ _ _ _ _ us hl => match us, hl with | [_], _ => rfl)
        (case a => k_is); (case l => k_is); (case c => k_is); (case k => k_is)
      refine List.forall_mem_cons.mpr ⟨?_, ?_⟩
      · refine' L2.Eng.here_mk (x := "_law_odd") (st := L2.Eng.Lk23.top 23) (ps := ["draws"]) ?a ?l ?c ?k (fun _ _ _ _ _ _ us hl => match us, hl with | [_], _ => rfl)
        (case a => k_is); (case l => k_is); (case c => k_is); (case k => k_is)
      refine List.forall_mem_cons.mpr ⟨?_, ?_⟩
      · refine' L2.Eng.here_mk (x := "_law_next") (st := L2.Eng.Lk23.top 24) (ps := ["gate", "x", "now"]) ?a ?l ?c ?k (fun _ _ _ _ _ _ us hl => match us, hl with | [_, _, _], _ => rfl)
        (case a => k_is); (case l => k_is); (case c => k_is); (case k => k_is)
      refine List.forall_mem_cons.mpr ⟨?_, ?_⟩
      · refine' L2.Eng.here_mk (x := "_law_gate") (st := L2.Eng.Lk23.top 27) (ps := ["draws", "n"]) ?a ?l ?c ?k (fun _ _ _ _ _ _ us hl => match us, hl with | [_, _], _ => rfl)
        (case a => k_is); (case l => k_is); (case c => k_is); (case k => k_is)
      refine List.forall_mem_cons.mpr ⟨?_, ?_⟩
      · refine' L2.Eng.here_mk (x := "_law_reads") (st := L2.Eng.Lk23.top 28) (ps := ["gate"]) ?a ?l ?c ?k (fun _ _ _ _ _ _ us hl => match us, hl with | [_], _ => rfl)
        (case a => k_is); (case l => k_is); (case c => k_is); (case k => k_is)
      refine List.forall_mem_cons.mpr ⟨?_, ?_⟩
      · refine' L2.Eng.here_mk (x := "_law_wrong") (st := L2.Eng.Lk23.top 29) (ps := ["draws", "gate", "n"]) ?a ?l ?c ?k (fun _ _ _ _ _ _ us hl => match us, hl with | [_, _, _], _ => rfl)
        (case a => k_is); (case l => k_is); (case c => k_is); (case k => k_is)
      refine List.forall_mem_cons.mpr ⟨?_, ?_⟩
      · refine' L2.Eng.here_mk (x := "law") (st := L2.Eng.Lk23.top 30) (ps := ["script"]) ?a ?l ?c ?k (fun _ _ _ _ _ _ us hl => match us, hl with | [_], _ => rfl)
        (case a => k_is); (case l => k_is); (case c => k_is); (case k => k_is)
      exact fun _ h => absurd h List.not_mem_nil
    case blt =>
      refine List.forall_mem_cons.mpr ⟨?_, ?_⟩
      · show PySem.W.nsIn _ mainGlobals (PySem.Str.ofString "len") = _; k_is
      refine List.forall_mem_cons.mpr ⟨?_, ?_⟩
      · show PySem.W.nsIn _ mainGlobals (PySem.Str.ofString "list") = _; k_is
      refine List.forall_mem_cons.mpr ⟨?_, ?_⟩
      · show PySem.W.nsIn _ mainGlobals (PySem.Str.ofString "tuple") = _; k_is
      refine List.forall_mem_cons.mpr ⟨?_, ?_⟩
      · show PySem.W.nsIn _ mainGlobals (PySem.Str.ofString "sum") = _; k_is
      refine List.forall_mem_cons.mpr ⟨?_, ?_⟩
      · show PySem.W.nsIn _ mainGlobals (PySem.Str.ofString "all") = _; k_is
      refine List.forall_mem_cons.mpr ⟨?_, ?_⟩
      · show PySem.W.nsIn _ mainGlobals (PySem.Str.ofString "any") = _; k_is
      refine List.forall_mem_cons.mpr ⟨?_, ?_⟩
      · show PySem.W.nsIn _ mainGlobals (PySem.Str.ofString "int") = _; k_is
      refine List.forall_mem_cons.mpr ⟨?_, ?_⟩
      · show PySem.W.nsIn _ mainGlobals (PySem.Str.ofString "abs") = _; k_is
      refine List.forall_mem_cons.mpr ⟨?_, ?_⟩
      · show PySem.W.nsIn _ mainGlobals (PySem.Str.ofString "isinstance") = _; k_is
      refine List.forall_mem_cons.mpr ⟨?_, ?_⟩
      · show PySem.W.nsIn _ mainGlobals (PySem.Str.ofString "range") = _; k_is
      refine List.forall_mem_cons.mpr ⟨?_, ?_⟩
      · show PySem.W.nsIn _ mainGlobals (PySem.Str.ofString "enumerate") = _; k_is
      refine List.forall_mem_cons.mpr ⟨?_, ?_⟩
      · show PySem.W.nsIn _ mainGlobals (PySem.Str.ofString "zip") = _; k_is
      refine List.forall_mem_cons.mpr ⟨?_, ?_⟩
      · show PySem.W.nsIn _ mainGlobals (PySem.Str.ofString "bool") = _; k_is
      refine List.forall_mem_cons.mpr ⟨?_, ?_⟩
      · show PySem.W.nsIn _ mainGlobals (PySem.Str.ofString "str") = _; k_is
      refine List.forall_mem_cons.mpr ⟨?_, ?_⟩
      · show PySem.W.nsIn _ mainGlobals (PySem.Str.ofString "sorted") = _; k_is
      refine List.forall_mem_cons.mpr ⟨?_, ?_⟩
      · show PySem.W.nsIn _ mainGlobals (PySem.Str.ofString "set") = _; k_is
      refine List.forall_mem_cons.mpr ⟨?_, ?_⟩
      · show PySem.W.nsIn _ mainGlobals (PySem.Str.ofString "dict") = _; k_is
      refine List.forall_mem_cons.mpr ⟨?_, ?_⟩
      · show PySem.W.nsIn _ mainGlobals (PySem.Str.ofString "min") = _; k_is
      refine List.forall_mem_cons.mpr ⟨?_, ?_⟩
      · show PySem.W.nsIn _ mainGlobals (PySem.Str.ofString "max") = _; k_is
      exact fun _ h => absurd h List.not_mem_nil

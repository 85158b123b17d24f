import PyProof.Rows.All
import Wide.All
import OpenK.AllK
import Wide.FinOn
import HandS.ForExc
import HandS.Comp
import HandS.Dict
import HandS.Iter
import HandS.Text
import HandS.Walk
import HandS.TupAny
import HandS.TupLe
import HandS.SortInts
import HandS.IsInst
import HandS.Deep
import HandS.Style
import HandS.Wide
import HandS.WideBits
import HandS.Flow
import HandS.Zip
import HandS.Rev
import HandS.RaiseMore
import KE.GoesMore
import PySem.Challenge.RW_unhurried_k01_differences_of_covers
set_option Elab.async false
set_option linter.all false
set_option maxRecDepth 100000
set_option maxHeartbeats 4000000
namespace L2.Eng
open PySem
/-! ## values -/
inductive D where
  | non
  | bl (b : Bool)
  | int (i : Int)
  | str (x : Str)
  | tup (xs : List D)
  | lst (xs : List D)
  | scr (xs : List D)
  | dct (xs : List D)
  | ty (n : String)
/-- == of plain data, as Python has it -/
def D.toP : D → PyData
  | .non => .none
  | .bl b => .bool b
  | .int i => .int i
  | .str x => .str x
  | .tup xs => .tuple (toPs xs)
  | .lst xs => .list (toPs xs)
  | .scr xs => .list (toPs xs)
  | .dct _ => .dict []
  | .ty _ => .dict []
where
  toPs : List D → List PyData
  | [] => []
  | x :: xs => x.toP :: toPs xs
mutual
def D.eq : D → D → Bool
  | .non, y => match y with | .non => true | _ => false
  | .bl a, y => match y with | .bl b => a == b | .int j => (if a then 1 else 0) == j | _ => false
  | .int i, y => match y with | .int j => i == j | .bl b => i == (if b then 1 else 0) | _ => false
  | .str a, y => match y with | .str b => a == b | _ => false
  | .tup xs, y => match y with | .tup ys => D.eqs xs ys | _ => false
  | .lst xs, y => match y with | .lst ys => D.eqs xs ys | _ => false
  | .scr _, _ => false
  | .dct _, _ => false
  | .ty _, _ => false
def D.eqs : List D → List D → Bool
  | [], ys => match ys with | [] => true | _ :: _ => false
  | x :: xs, ys => match ys with | [] => false | y :: ys => D.eq x y && D.eqs xs ys
end
/-- plain data (no dict, no type), not too deep, its texts well made -/
def D.ok : D → Nat → Bool
  | .non, _ => true
  | .bl _, _ => true
  | .int _, _ => true
  | .str x, _ => PyData.strOk x
  | .tup xs, n => match n with | 0 => false | n + 1 => oks xs n
  | .lst xs, n => match n with | 0 => false | n + 1 => oks xs n
  | .scr _, _ => false
  | .dct _, _ => false
  | .ty _, _ => false
where
  oks : List D → Nat → Bool
  | [], _ => true
  | x :: xs, n => x.ok n && oks xs n
def D.flat : D → Bool
  | .non => true
  | .bl _ => true
  | .int _ => true
  | .str _ => true
  | .ty _ => true
  | _ => false
/-! ## bindings, environments, answers -/
/-- what a name holds: a value that stands still; an own list (or dict) that nobody else holds; the same, lent by the caller -/
inductive B where
  | sh (d : D)
  | ow (d : D)
  | io (d : D)
abbrev Env := List (Option B)
def B.dat : B → D
  | .sh d => d
  | .ow d => d
  | .io d => d
inductive Ans (α : Type) where
  | stuck
  | val (a : α) (e : Env)
  | exc (x : D) (e : Env)
def Ans.bind {α β : Type} (x : Ans α) (f : α → Env → Ans β) : Ans β :=
  match x with
  | .stuck => .stuck
  | .val a e => f a e
  | .exc x e => .exc x e
def opt {α : Type} (o : Option α) (e : Env) : Ans α :=
  match o with
  | none => .stuck
  | some a => .val a e
/-- an operand: a name, looked up when the operation comes, or a value -/
inductive Op where
  | sl (i : Nat)
  | v (d : D)
def getB : Env → Nat → Option B
  | [], _ => none
  | b :: _, 0 => b
  | _ :: r, i + 1 => getB r i
def setB : Env → Nat → Option B → Env
  | [], _, _ => []
  | _ :: r, 0, x => x :: r
  | b :: r, i + 1, x => b :: setB r i x
/-- the operand's value, looked at -/
def pk (e : Env) : Op → Option D
  | .v d => some d
  | .sl i => match getB e i with
    | some b => some b.dat
    | none => none
/-- the operand's value, kept by somebody: an own thing stands still from then on -/
def tk (e : Env) : Op → Option (D × Env)
  | .v d => some (d, e)
  | .sl i => match getB e i with
    | some (.sh d) => some (d, e)
    | some (.ow d) => some (d, setB e i (some (.sh d)))
    | _ => none
def pks (e : Env) : List Op → Option (List D)
  | [] => some []
  | o :: r => match pk e o with
    | none => none
    | some d => match pks e r with
      | none => none
      | some ds => some (d :: ds)
def tks : List Op → Env → Option (List D × Env)
  | [], e => some ([], e)
  | o :: r, e => match tk e o with
    | none => none
    | some (d, e1) => match tks r e1 with
      | none => none
      | some (ds, e2) => some (d :: ds, e2)
/-! ## operations on values -/
def maxLen : Nat := 16777216
def truth : D → Option Bool
  | .non => some false
  | .bl b => some b
  | .int i => some (i != 0)
  | .str x => if x.length ≤ maxLen then some ((x.length : Int) != 0) else none
  | .tup xs => some (!xs.isEmpty)
  | .lst xs => some (!xs.isEmpty)
  | _ => none
def binD : Operator → D → D → Option (Bool × D)
  | .Add, .int i, .int j => some (false, .int (i + j))
  | .Add, .str a, .str b => if a.length + b.length ≤ maxLen then some (false, .str (a ++ b)) else none
  | .Add, .lst a, .lst b => if a.length + b.length ≤ maxLen then some (true, .lst (a ++ b)) else none
  | .Add, .tup a, .tup b => if a.length + b.length ≤ maxLen then some (false, .tup (a ++ b)) else none
  | .Sub, .int i, .int j => some (false, .int (i - j))
  | .Mult, .int i, .int j => if (-(2 ^ 64) < i ∧ i < 2 ^ 64) ∨ (-(2 ^ 64) < j ∧ j < 2 ^ 64) then some (false, .int (i * j)) else none
  | .Mult, .lst a, .int j => if -(2 ^ 63) ≤ j ∧ j < 2 ^ 63 ∧ a.length * j.toNat ≤ maxLen then some (true, .lst (List.replicate j.toNat a).flatten) else none
  | .Mod, .int i, .int j => if 0 < j then some (false, .int (i % j)) else none
  | .FloorDiv, .int i, .int j => if 0 < j ∧ j < 1073741824 then some (false, .int (i / j)) else none
  | .Pow, .int i, .int j => if 0 ≤ j ∧ j ≤ 1000000 ∧ i.natAbs < 2 ^ 64 then some (false, .int (i ^ j.toNat)) else none
  | .LShift, .int i, .int j => if 0 ≤ j ∧ j ≤ 1000000 ∧ i.natAbs < 2 ^ 64 then some (false, .int (i * 2 ^ j.toNat)) else none
  | .RShift, .int i, .int j => if 0 ≤ j then some (false, .int (i / 2 ^ j.toNat)) else none
  | .BitAnd, .int i, .int j => some (false, .int (Builtin.bitAnd i j))
  | .BitOr, .int i, .int j => some (false, .int (Builtin.bitOr i j))
  | .BitXor, .int i, .int j => some (false, .int (Builtin.bitXor i j))
  | _, _, _ => none
/-- a op= b: numbers and texts -/
def augD : Operator → D → D → Option D
  | .Add, .int i, .int j => some (.int (i + j))
  | .Add, .str a, .str b => if a.length + b.length ≤ maxLen then some (.str (a ++ b)) else none
  | .Sub, .int i, .int j => some (.int (i - j))
  | .Mult, .int i, .int j => if (-(2 ^ 64) < i ∧ i < 2 ^ 64) ∨ (-(2 ^ 64) < j ∧ j < 2 ^ 64) then some (.int (i * j)) else none
  | .Mod, .int i, .int j => if 0 < j then some (.int (i % j)) else none
  | .FloorDiv, .int i, .int j => if 0 < j ∧ j < 1073741824 then some (.int (i / j)) else none
  | .LShift, .int i, .int j => if 0 ≤ j ∧ j ≤ 1000000 ∧ i.natAbs < 2 ^ 64 then some (.int (i * 2 ^ j.toNat)) else none
  | .RShift, .int i, .int j => if 0 ≤ j then some (.int (i / 2 ^ j.toNat)) else none
  | .BitAnd, .int i, .int j => some (.int (Builtin.bitAnd i j))
  | .BitOr, .int i, .int j => some (.int (Builtin.bitOr i j))
  | .BitXor, .int i, .int j => some (.int (Builtin.bitXor i j))
  | _, _, _ => none
def unD : UnaryOp → D → Option D
  | .USub, .int i => some (.int (-i))
  | .Invert, .int i => some (.int (Builtin.bitNot i))
  | _, _ => none
/-- how deep a value may be that is compared -/
def deepest : Nat := 60
mutual
def D.lt : D → D → Option Bool
  | .int i, y => match y with | .int j => some (decide (i < j)) | _ => none
  | .str a, y => match y with | .str b => some (decide (a.cps.toList < b.cps.toList)) | _ => none
  | .tup xs, y => match y with | .tup ys => D.lts xs ys | _ => none
  | _, _ => none
def D.lts : List D → List D → Option Bool
  | [], ys => match ys with | [] => some false | _ :: _ => some true
  | x :: xs, ys => match ys with | [] => some false | y :: ys => if D.eq x y then D.lts xs ys else D.lt x y
end
def inD (x : D) (xs : List D) : Bool := xs.any fun y => D.eq y x
def isNone : D → Bool
  | .non => true
  | _ => false
def cmpD : CmpOp → D → D → Option Bool
  | .Eq, a, b => if a.ok deepest && b.ok deepest then some (D.eq a b) else none
  | .NotEq, a, b => if a.ok deepest && b.ok deepest then some (!D.eq a b) else none
  | .Lt, .int i, .int j => some (decide (i < j))
  | .LtE, .int i, .int j => some (decide (i ≤ j))
  | .Gt, .int i, .int j => some (decide (j < i))
  | .GtE, .int i, .int j => some (decide (j ≤ i))
  | .Lt, .str i, .str j => some (decide (i.cps.toList < j.cps.toList))
  | .LtE, .str i, .str j => some (!decide (j.cps.toList < i.cps.toList))
  | .Is, a, .non => some (isNone a)
  | .IsNot, a, .non => some (!isNone a)
  | .Is, .bl a, .bl b => some (decide (a = b))
  | .IsNot, .bl a, .bl b => some (!decide (a = b))
  | .In, a, .lst xs => if a.ok deepest && D.ok.oks xs deepest then some (inD a xs) else none
  | .In, a, .tup xs => if a.ok deepest && D.ok.oks xs deepest then some (inD a xs) else none
  | .NotIn, a, .tup xs => if a.ok deepest && D.ok.oks xs deepest then some (!inD a xs) else none
  | .NotIn, a, .lst xs => if a.ok deepest && D.ok.oks xs deepest then some (!inD a xs) else none
  | _, _, _ => none
def atN (n : Nat) (i : Int) : Option Nat := if 0 ≤ i then (if i < n then some i.toNat else none) else if -(n : Int) ≤ i then some (i + n).toNat else none
def ixD : D → D → Option D
  | .lst xs, .int i => (atN xs.length i).bind fun k => xs[k]?
  | .tup xs, .int i => (atN xs.length i).bind fun k => xs[k]?
  | .str z, .int i => if z.length ≤ maxLen then ((atN z.cps.toList.length i).bind fun k => z.cps.toList[k]?).map fun c => .str ⟨#[c]⟩ else none
  | _, _ => none
def ixL : D → D → Option D
  | .lst xs, .int i => (atN xs.length i).bind fun k => xs[k]?
  | _, _ => none
/-- the end of a slice: none, or a whole number -/
def endD : Option D → Option (Option Int)
  | none => some none
  | some (.int i) => some (some i)
  | _ => none
def cutD (xs : List D) (lo hi : Option Int) : List D := (xs.drop (HT.sIx xs.length 0 lo)).take (HT.sIx xs.length xs.length hi - HT.sIx xs.length 0 lo)
def slD : D → Option Int → Option Int → Option (Bool × D)
  | .lst xs, lo, hi => some (true, .lst (cutD xs lo hi))
  | .tup xs, lo, hi => some (false, .tup (cutD xs lo hi))
  | .str z, lo, hi => if z.length ≤ maxLen then some (false, .str (L2.cutS z lo hi)) else none
  | _, _, _ => none
/-- built-in functions -/
inductive Prim where
  | len | list | tuple | sum | all | any | int | abs
  | isi
def intsOf : List D → Option (List Int)
  | [] => some []
  | .int i :: r => match intsOf r with
    | some is => some (i :: is)
    | none => none
  | _ => none
def blsOf : List D → Option (List Bool)
  | [] => some []
  | .bl i :: r => match blsOf r with
    | some is => some (i :: is)
    | none => none
  | _ => none
/-- the built-in class of a value -/
def tyOf : D → Option String
  | .non => some "NoneType"
  | .bl _ => some "bool"
  | .int _ => some "int"
  | .str _ => some "str"
  | .tup _ => some "tuple"
  | .lst _ => some "list"
  | .scr _ => none
  | .dct _ => some "dict"
  | .ty _ => none
def isiD (n : String) (t : String) : Option Bool :=
  if ["int", "bool", "str", "tuple", "list"].contains n && ["NoneType", "bool", "int", "str", "tuple", "list"].contains t then some (n == t || (n == "int" && t == "bool")) else none
def primD : Prim → List D → Option (Bool × D)
  | .len, [.lst xs] => some (false, .int xs.length)
  | .len, [.scr xs] => some (false, .int xs.length)
  | .len, [.tup xs] => some (false, .int xs.length)
  | .len, [.str x] => if x.length ≤ maxLen then some (false, .int x.length) else none
  | .list, [.lst xs] => some (true, .lst xs)
  | .list, [.scr xs] => some (true, .lst xs)
  | .list, [.tup xs] => some (true, .lst xs)
  | .tuple, [.lst xs] => some (false, .tup xs)
  | .tuple, [.tup xs] => some (false, .tup xs)
  | .sum, [.lst xs] => match intsOf xs with
    | some is => some (false, .int is.sum)
    | none => none
  | .all, [.lst xs] => match blsOf xs with
    | some is => some (false, .bl (is.all id))
    | none => none
  | .any, [.lst xs] => match blsOf xs with
    | some is => some (false, .bl (is.any id))
    | none => none
  | .int, [.int i] => some (false, .int i)
  | .int, [.bl b] => some (false, .int (if b then 1 else 0))
  | .abs, [.int i] => some (false, .int (if i < 0 then -i else i))
  | .isi, [d, .ty n] => match tyOf d with
    | some t => match isiD n t with
      | some b => some (false, .bl b)
      | none => none
    | none => none
  | _, _ => none
/-! ## the code -/
inductive Tg where
  | nm (i : Nat)
  | tp (is : List Nat)
mutual
inductive Ex where
  | var (i : Nat)
  | cst (d : D)
  | tup (es : Exs)
  | lst (es : Exs)
  | bin (o : Operator) (a b : Ex)
  | un (o : UnaryOp) (a : Ex)
  | nt (a : Ex)
  | cmp (o : CmpOp) (a b : Ex)
  | cmp2 (o o' : CmpOp) (a b c : Ex)
  | and (a b : Ex)
  | or (a b : Ex)
  | ife (c : Tt) (a b : Ex)
  | ix (a i : Ex)
  | sl (a : Ex) (lo hi : Exo)
  | rev (a : Ex)
  | call (f : Nat) (es : Exs)
  | prim (p : Prim) (es : Exs)
  | comp (el : Ex) (t : Tg) (it : It) (c : Tt) (own : List Nat)
  | pop (i : Nat)
inductive Exs where
  | nil
  | cons (e : Ex) (es : Exs)
inductive Exo where
  | no
  | yes (e : Ex)
inductive It where
  | seq (e : Ex)
  | rng (a : Ex)
  | rng2 (a b : Ex)
  | enum (e : Ex)
/-- a test -/
inductive Tt where
  | tru
  | and (a b : Tt)
  | or (a b : Tt)
  | nt (a : Tt)
  | e (a : Ex)
end
mutual
inductive Sm where
  | asg (t : Tg) (e : Ex)
  | setx (i : Nat) (k e : Ex)
  | aug (i : Nat) (o : Operator) (e : Ex)
  | augx (i : Nat) (o : Operator) (k e : Ex)
  | par (is : List Nat) (es : Exs)
  | app (i : Nat) (e : Ex)
  | ext (i : Nat) (e : Ex)
  | ex (e : Ex)
  | ret (e : Ex)
  | ret0
  | ite (c : Tt) (a b : Sms)
  | wh (c : Tt) (b : Sms)
  | for (t : Tg) (it : It) (b : Sms)
  | brk
  | cnt
  | pass
  | never
inductive Sms where
  | nil
  | cons (s : Sm) (r : Sms)
end
inductive Fl where
  | nx
  | bk
  | ct
  | rt (f : Bool) (d : D)
/-- a call's answer: fresh?, the value, the parameters as they are left -/
inductive CA where
  | stuck
  | ret (f : Bool) (d : D) (outs : List B)
structure Fn where
  np : Nat
  ns : Nat
  io : List Bool
  body : Sms
/-! ## calls -/
def callArgs (e : Env) : List Bool → List Op → Option (List B)
  | [], [] => some []
  | b :: io, o :: ops =>
    match callArgs e io ops with
    | none => none
    | some bs =>
      if b then
        match o with
        | .sl i => match getB e i with
          | some (.ow d) => some (.io d :: bs)
          | some (.io d) => some (.io d :: bs)
          | _ => none
        | .v _ => none
      else match pk e o with
        | some d => some (.sh d :: bs)
        | none => none
  | _, _ => none
/-- the lent things as they come back -/
def backIn (e : Env) : List Bool → List Op → List B → Option Env
  | [], [], [] => some e
  | b :: io, o :: ops, x :: outs =>
    match backIn e io ops outs with
    | none => none
    | some e1 =>
      if b then
        match o, x with
        | .sl i, .io d => match getB e1 i with
          | some (.ow _) => some (setB e1 i (some (.ow d)))
          | some (.io _) => some (setB e1 i (some (.io d)))
          | _ => none
        | _, _ => none
      else some e1
  | _, _, _ => none
/-- what is kept stands still -/
def frzIn : List Bool → List Op → Env → Option Env
  | [], [], e => some e
  | b :: io, o :: ops, e =>
    if b then frzIn io ops e
    else match tk e o with
      | some (_, e1) => frzIn io ops e1
      | none => none
  | _, _, _ => none
def slotsOf (w : Bool) : List Bool → List Op → List Nat
  | b :: io, .sl i :: ops => if b == w then i :: slotsOf w io ops else slotsOf w io ops
  | _ :: io, .v _ :: ops => slotsOf w io ops
  | _, _ => []
def okSlots (io : List Bool) (ops : List Op) : Bool :=
  decide (slotsOf true io ops).Nodup && (slotsOf true io ops).all fun i => !(slotsOf false io ops).contains i
def doCall (T : List Fn) (P : Nat → List B → CA) (f : Nat) (ops : List Op) (e : Env) : Ans (Bool × D) :=
  match T[f]? with
  | none => .stuck
  | some fn =>
    if fn.io.all (!·) then
      match callArgs e fn.io ops with
      | none => .stuck
      | some bs => match P f bs with
        | .stuck => .stuck
        | .ret fr d _ =>
          if d.flat then .val (false, d) e
          else match frzIn fn.io ops e with
            | none => .stuck
            | some e1 => .val (fr, d) e1
    else if okSlots fn.io ops then
      match frzIn fn.io ops e with
      | none => .stuck
      | some e1 => match callArgs e1 fn.io ops with
        | none => .stuck
        | some bs => match P f bs with
          | .stuck => .stuck
          | .ret fr d outs => match backIn e1 fn.io ops outs with
            | none => .stuck
            | some e2 => .val (fr, d) e2
    else .stuck
/-! ## loops -/
def asgN : List Nat → List D → Env → Option Env
  | [], [], e => some e
  | i :: is, d :: ds, e => asgN is ds (setB e i (some (.sh d)))
  | _, _, _ => none
def asgT (t : Tg) (f : Bool) (d : D) (e : Env) : Option Env :=
  match t with
  | .nm i => some (setB e i (some (if f then .ow d else .sh d)))
  | .tp is => match d with
    | .tup ds => asgN is ds e
    | _ => none
def wipeB : List Nat → Env → Env
  | [], e => e
  | i :: is, e => setB (wipeB is e) i none
/-- the comprehension's own names as they stood ahead of it -/
def backB (e0 : Env) : List Nat → Env → Env
  | [], e => e
  | i :: is, e => setB (backB e0 is e) i (getB e0 i)
def stillB (e : Env) : List Nat → Bool
  | [] => true
  | i :: is => (match getB e i with | none => true | some (.sh _) => true | _ => false) && stillB e is
def putO : Option D → List D → List D
  | none, r => r
  | some y, r => y :: r
def compN (f : D → Env → Ans (Option D)) : List D → Env → Ans (List D)
  | [], e => .val [] e
  | d :: ds, e => (f d e).bind fun r e1 => (compN f ds e1).bind fun rest e2 => .val (putO r rest) e2
def forN (f : D → Env → Ans Fl) : List D → Env → Ans Fl
  | [], e => .val .nx e
  | d :: ds, e => (f d e).bind fun fl e1 => match fl with
    | .nx => forN f ds e1
    | .ct => forN f ds e1
    | .bk => .val .nx e1
    | .rt fr r => .val (.rt fr r) e1
def whN (c : Env → Ans Bool) (f : Env → Ans Fl) : Nat → Env → Ans Fl
  | 0, _ => .stuck
  | m + 1, e => (c e).bind fun b e1 => if b then (f e1).bind fun fl e2 => match fl with
      | .nx => whN c f m e2
      | .ct => whN c f m e2
      | .bk => .val .nx e2
      | .rt fr r => .val (.rt fr r) e2
    else .val .nx e1
def itemsD : D → Option (List D)
  | .lst xs => some xs
  | .tup xs => some xs
  | .scr xs => some xs
  | .str z => some (z.cps.toList.map fun c => .str ⟨#[c]⟩)
  | _ => none
def seqD : D → Option (List D)
  | .lst xs => some xs
  | .tup xs => some xs
  | .scr xs => some xs
  | _ => none
def rangeD (lo : Int) (n : Nat) : List D := (List.range n).map fun i => .int (lo + (i : Nat))
def enumD : Nat → List D → List D
  | _, [] => []
  | k, d :: ds => .tup [.int (k : Nat), d] :: enumD (k + 1) ds
/-- fresh or not, it is kept: fine as a value that stands still -/
def fitL (n : Nat) : Bool := decide (n ≤ maxLen)
/-- an operand: a name is not looked up yet -/
def opd (x : Ex) (r : Env → Ans (Bool × D)) (e : Env) : Ans Op :=
  match x with
  | .var i => match getB e i with
    | some _ => .val (.sl i) e
    | none => .stuck
  | _ => (r e).bind fun r e1 => .val (.v r.2) e1
section
variable (T : List Fn) (P : Nat → List B → CA)
mutual
def ev : Ex → Env → Ans (Bool × D)
  | .var i, e => match tk e (.sl i) with
    | some (d, e1) => .val (false, d) e1
    | none => .stuck
  | .cst d, e => .val (false, d) e
  | .tup es, e => (evs es e).bind fun ops e1 => match tks ops e1 with
    | some (ds, e2) => if fitL ds.length then .val (false, .tup ds) e2 else .stuck
    | none => .stuck
  | .lst es, e => (evs es e).bind fun ops e1 => match tks ops e1 with
    | some (ds, e2) => if fitL ds.length then .val (true, .lst ds) e2 else .stuck
    | none => .stuck
  | .bin o a b, e => (opd a (ev a) e).bind fun x e1 => (opd b (ev b) e1).bind fun y e2 => match pk e2 x, pk e2 y with
    | some dx, some dy => opt (binD o dx dy) e2
    | _, _ => .stuck
  | .un o a, e => (opd a (ev a) e).bind fun x e1 => match pk e1 x with
    | some dx => (opt (unD o dx) e1).bind fun d e2 => .val (false, d) e2
    | none => .stuck
  | .nt a, e => (opd a (ev a) e).bind fun x e1 => match pk e1 x with
    | some dx => (opt (truth dx) e1).bind fun b e2 => .val (false, .bl (!b)) e2
    | none => .stuck
  | .cmp o a b, e => (opd a (ev a) e).bind fun x e1 => (opd b (ev b) e1).bind fun y e2 => match pk e2 x, pk e2 y with
    | some dx, some dy => (opt (cmpD o dx dy) e2).bind fun c e3 => .val (false, .bl c) e3
    | _, _ => .stuck
  | .cmp2 o o' a b c, e => (opd a (ev a) e).bind fun x e1 => (opd b (ev b) e1).bind fun y e2 => match pk e2 x, pk e2 y with
    | some dx, some dy => (opt (cmpD o dx dy) e2).bind fun k e3 => if k then
        (opd c (ev c) e3).bind fun z e4 => match pk e4 y, pk e4 z with
        | some dy, some dz => (opt (cmpD o' dy dz) e4).bind fun c e5 => .val (false, .bl c) e5
        | _, _ => .stuck
      else .val (false, .bl false) e3
    | _, _ => .stuck
  | .and a b, e => (ev a e).bind fun r e1 => match r.2 with
    | .bl k => if k then ev b e1 else .val (false, .bl false) e1
    | _ => .stuck
  | .or a b, e => (ev a e).bind fun r e1 => match r.2 with
    | .bl k => if k then .val (false, .bl true) e1 else ev b e1
    | _ => .stuck
  | .ife c a b, e => (evt c e).bind fun k e1 => if k then ev a e1 else ev b e1
  | .ix a i, e => (opd a (ev a) e).bind fun x e1 => (opd i (ev i) e1).bind fun y e2 => match pk e2 x, pk e2 y with
    | some dx, some dy => (opt (ixD dx dy) e2).bind fun d e3 => .val (false, d) e3
    | _, _ => .stuck
  | .sl a lo hi, e => (opd a (ev a) e).bind fun x e1 => (evx lo e1).bind fun l e2 => (evx hi e2).bind fun h e3 => match pk e3 x, endD l, endD h with
    | some dx, some lo, some hi => opt (slD dx lo hi) e3
    | _, _, _ => .stuck
  | .rev a, e => (opd a (ev a) e).bind fun x e1 => match pk e1 x with
    | some (.lst xs) => .val (true, .lst xs.reverse) e1
    | _ => .stuck
  | .call f es, e => (evs es e).bind fun ops e1 => doCall T P f ops e1
  | .prim p es, e => (evs es e).bind fun ops e1 => match pks e1 ops with
    | some ds => opt (primD p ds) e1
    | none => .stuck
  | .comp el t it c own, e => (evi it e).bind fun items e1 =>
      if stillB e1 own then
        (compN (fun d e2 => match asgT t false d (wipeB own e2) with
          | none => .stuck
          | some e3 => (evt c e3).bind fun k e4 => if k then (ev el e4).bind fun r e5 => .val (some r.2) (backB e2 own e5) else .val none (backB e2 own e4)) items e1).bind fun ds e2 =>
        if fitL ds.length then .val (true, .lst ds) e2 else .stuck
      else .stuck
  | .pop i, e => match getB e i with
    | some (.ow (.lst xs)) => match xs.getLast? with
      | some d => .val (false, d) (setB e i (some (.ow (.lst xs.dropLast))))
      | none => .stuck
    | some (.io (.lst xs)) => match xs.getLast? with
      | some d => .val (false, d) (setB e i (some (.io (.lst xs.dropLast))))
      | none => .stuck
    | _ => .stuck
termination_by structural x => x
def evs : Exs → Env → Ans (List Op)
  | .nil, e => .val [] e
  | .cons a r, e => (opd a (ev a) e).bind fun o e1 => (evs r e1).bind fun os e2 => .val (o :: os) e2
termination_by structural x => x
def evx : Exo → Env → Ans (Option D)
  | .no, e => .val none e
  | .yes a, e => (ev a e).bind fun r e1 => .val (some r.2) e1
termination_by structural x => x
def evt : Tt → Env → Ans Bool
  | .tru, e => .val true e
  | .and a b, e => (evt a e).bind fun k e1 => if k then evt b e1 else .val false e1
  | .or a b, e => (evt a e).bind fun k e1 => if k then .val true e1 else evt b e1
  | .nt a, e => (evt a e).bind fun k e1 => .val (!k) e1
  | .e x, e => (opd x (ev x) e).bind fun o e1 => match pk e1 o with
    | some d => opt (truth d) e1
    | none => .stuck
termination_by structural x => x
def evi : It → Env → Ans (List D)
  | .seq a, e => (ev a e).bind fun r e1 => opt (itemsD r.2) e1
  | .rng a, e => (ev a e).bind fun r e1 => match r.2 with
    | .int n => if -(2 ^ 62) ≤ n ∧ n < 2 ^ 62 then .val (rangeD 0 n.toNat) e1 else .stuck
    | _ => .stuck
  | .rng2 a b, e => (ev a e).bind fun r e1 => (ev b e1).bind fun s e2 => match r.2, s.2 with
    | .int i, .int j => if -(2 ^ 62) ≤ i ∧ i < 2 ^ 62 ∧ -(2 ^ 62) ≤ j ∧ j < 2 ^ 62 then .val (rangeD i (j - i).toNat) e2 else .stuck
    | _, _ => .stuck
  | .enum a, e => (ev a e).bind fun r e1 => (opt (seqD r.2) e1).bind fun ds e2 => .val (enumD 0 ds) e2
termination_by structural x => x
end
variable (m : Nat)
/-- the list at the place k, changed -/
def putAt (b : D) (k v : D) : Option D :=
  match b, k with
  | .lst xs, .int j => match atN xs.length j with
    | some q => some (.lst (xs.set q v))
    | none => none
  | _, _ => none
def onOwn (e : Env) (i : Nat) (f : D → Option D) : Option Env :=
  match getB e i with
  | some (.ow d) => match f d with
    | some d' => some (setB e i (some (.ow d')))
    | none => none
  | some (.io d) => match f d with
    | some d' => some (setB e i (some (.io d')))
    | none => none
  | _ => none
def addD (v : D) : D → Option D
  | .lst xs => if xs.length < maxLen then some (.lst (xs ++ [v])) else none
  | _ => none
def extD (v : D) : D → Option D
  | .lst xs => match v with
    | .lst ys => if xs.length + ys.length ≤ maxLen then some (.lst (xs ++ ys)) else none
    | _ => none
  | _ => none
mutual
def es1 : Sm → Env → Ans Fl
  | .asg t x, e => (ev T P x e).bind fun r e1 => match asgT t r.1 r.2 e1 with
    | some e2 => .val .nx e2
    | none => .stuck
  | .setx i k x, e => (ev T P x e).bind fun r e1 => match pk e1 (.sl i) with
    | some _ => (opd k (ev T P k) e1).bind fun o e2 => match pk e2 o with
      | some dk => match onOwn e2 i fun b => putAt b dk r.2 with
        | some e3 => .val .nx e3
        | none => .stuck
      | none => .stuck
    | none => .stuck
  | .aug i o x, e => match pk e (.sl i) with
    | some a => (opd x (ev T P x) e).bind fun y e1 => match pk e1 y with
      | some b => match augD o a b with
        | some r => .val .nx (setB e1 i (some (.sh r)))
        | none => .stuck
      | none => .stuck
    | none => .stuck
  | .augx i o k x, e => match pk e (.sl i) with
    | some _ => (opd k (ev T P k) e).bind fun ko e1 => match pk e1 (.sl i), pk e1 ko with
      | some b, some dk => match ixL b dk with
        | some old => (opd x (ev T P x) e1).bind fun y e2 => match pk e2 y with
          | some dy => match augD o old dy with
            | some r => match onOwn e2 i fun b => putAt b dk r with
              | some e3 => .val .nx e3
              | none => .stuck
            | none => .stuck
          | none => .stuck
        | none => .stuck
      | _, _ => .stuck
    | none => .stuck
  | .par is xs, e => (evs T P xs e).bind fun ops e1 => match tks ops e1 with
    | some (ds, e2) => match asgN is ds e2 with
      | some e3 => .val .nx e3
      | none => .stuck
    | none => .stuck
  | .app i x, e => match pk e (.sl i) with
    | some (.lst _) => (ev T P x e).bind fun r e1 => match onOwn e1 i (addD r.2) with
      | some e2 => .val .nx e2
      | none => .stuck
    | _ => .stuck
  | .ext i x, e => match pk e (.sl i) with
    | some (.lst _) => (opd x (ev T P x) e).bind fun o e1 => match pk e1 o with
      | some d => match onOwn e1 i (extD d) with
        | some e2 => .val .nx e2
        | none => .stuck
      | none => .stuck
    | _ => .stuck
  | .ex x, e => (ev T P x e).bind fun _ e1 => .val .nx e1
  | .ret x, e => match x with
    | .var i => match getB e i with
      | some (.ow d) => .val (.rt true d) (setB e i none)
      | some (.sh d) => .val (.rt false d) e
      | _ => .stuck
    | _ => (ev T P x e).bind fun r e1 => .val (.rt r.1 r.2) e1
  | .ret0, e => .val (.rt false .non) e
  | .ite c a b, e => (evt T P c e).bind fun k e1 => if k then es a e1 else es b e1
  | .wh c b, e => whN (evt T P c) (es b) m e
  | .for t it b, e => (evi T P it e).bind fun items e1 =>
      forN (fun d e2 => match asgT t false d e2 with
        | some e3 => es b e3
        | none => .stuck) items e1
  | .brk, e => .val .bk e
  | .cnt, e => .val .ct e
  | .pass, e => .val .nx e
  | .never, _ => .stuck
termination_by structural x => x
def es : Sms → Env → Ans Fl
  | .nil, e => .val .nx e
  | .cons s r, e => (es1 s e).bind fun f e1 => match f with
    | .nx => es r e1
    | .bk => .val .bk e1
    | .ct => .val .ct e1
    | .rt g d => .val (.rt g d) e1
termination_by structural x => x
end
end
/-- the parameters as they are left: the lent ones must still be lent -/
def outsOf : List B → Env → Option (List B)
  | [], _ => some []
  | _ :: _, [] => none
  | b :: bs, x :: e => match outsOf bs e with
    | none => none
    | some r => match b with
      | .sh d => some (.sh d :: r)
      | .ow _ => none
      | .io _ => match x with
        | some (.io d) => some (.io d :: r)
        | _ => none
/-- a call of the f-th def, n calls deep at most, m turns of a while at most -/
def callF (T : List Fn) (m : Nat) : Nat → Nat → List B → CA
  | 0, _, _ => .stuck
  | n + 1, f, bs => match T[f]? with
    | none => .stuck
    | some fn => if bs.length = fn.np then
        match es T (callF T m n) m fn.body (bs.map some ++ List.replicate (fn.ns - fn.np) none) with
        | .val (.rt fr d) e => match outsOf bs e with
          | some outs => .ret fr d outs
          | none => .stuck
        | .val .nx e => match outsOf bs e with
          | some outs => .ret false .non outs
          | none => .stuck
        | _ => .stuck
      else .stuck
end L2.Eng
namespace L2.Eng
open PySem PySem.Spec PyProof.Rows
theorem fit_le {n : Nat} (h : n ≤ maxLen) : n ≤ sizeLine := by
  rw [sizeLine_eq]; exact h
/-! ## how values stand in the heap -/
mutual
inductive Rep (K : PySem.W.Frag) (M : Hp) : V → D → Prop
  | non : Rep K M .non .non
  | bl (b : Bool) : Rep K M (.bl b) (.bl b)
  | int (i : Int) : Rep K M (.int i) (.int i)
  | str (x : Str) : Rep K M (.str x) (.str x)
  | ty (n : String) : Rep K M (.ty n) (.ty n)
  | tup {a : Addr} {vs : List V} {ds : List D} : M a = some (.tup vs) → Reps K M vs ds → Rep K M (.ref a) (.tup ds)
  | lst {a : Addr} {vs : List V} {ds : List D} : M a = some (.lst vs) → Reps K M vs ds → Rep K M (.ref a) (.lst ds)
  | scr {a : Addr} {vs : List V} {ds : List D} : SqL K M a vs → Reps K M vs ds → Rep K M (.ref a) (.scr ds)
inductive Reps (K : PySem.W.Frag) (M : Hp) : List V → List D → Prop
  | nil : Reps K M [] []
  | cons {v : V} {vs : List V} {d : D} {ds : List D} : Rep K M v d → Reps K M vs ds → Reps K M (v :: vs) (d :: ds)
end
section
variable {K : PySem.W.Frag} {M M' H H' : Hp}
mutual
theorem Rep.mono (h : Same M M') : ∀ {d : D} {v : V}, Rep K M v d → Rep K M' v d
  | .non, _, r => by cases r; exact .non
  | .bl _, _, r => by cases r; exact .bl _
  | .int _, _, r => by cases r; exact .int _
  | .str _, _, r => by cases r; exact .str _
  | .ty _, _, r => by cases r; exact .ty _
  | .tup ds, _, r => by cases r with | tup e q => exact .tup (h _ _ e) (Reps.mono h q)
  | .lst ds, _, r => by cases r with | lst e q => exact .lst (h _ _ e) (Reps.mono h q)
  | .scr ds, _, r => by cases r with | scr e q => exact .scr (h.seq e) (Reps.mono h q)
  | .dct _, _, r => by cases r
theorem Reps.mono (h : Same M M') : ∀ {ds : List D} {vs : List V}, Reps K M vs ds → Reps K M' vs ds
  | [], _, r => by cases r; exact .nil
  | d :: ds, _, r => by cases r with | cons a b => exact .cons (Rep.mono h a) (Reps.mono h b)
end
theorem Reps.length : ∀ {ds : List D} {vs : List V}, Reps K M vs ds → vs.length = ds.length
  | [], _, r => by cases r; rfl
  | d :: ds, _, r => by cases r with | cons a b => simp [Reps.length b]
theorem Reps.get : ∀ {ds : List D} {vs : List V} {i : Nat} {d : D}, Reps K M vs ds → ds[i]? = some d → ∃ v, vs[i]? = some v ∧ Rep K M v d
  | [], _, _, _, r, h => by simp at h
  | d :: ds, _, 0, _, r, h => by cases r with | cons a b => simp at h; subst h; exact ⟨_, rfl, a⟩
  | d :: ds, _, i + 1, _, r, h => by
    cases r with
    | cons a b => obtain ⟨v, e, q⟩ := Reps.get (i := i) b (by simpa using h); exact ⟨v, by simpa using e, q⟩
theorem Reps.getV : ∀ {ds : List D} {vs : List V} {i : Nat} {v : V}, Reps K M vs ds → vs[i]? = some v → ∃ d, ds[i]? = some d ∧ Rep K M v d
  | [], _, _, _, r, h => by cases r; simp at h
  | d :: ds, _, 0, _, r, h => by cases r with | cons a b => simp at h; subst h; exact ⟨_, rfl, a⟩
  | d :: ds, _, i + 1, _, r, h => by
    cases r with
    | cons a b => obtain ⟨v, e, q⟩ := Reps.getV (i := i) b (by simpa using h); exact ⟨v, by simpa using e, q⟩
theorem Reps.append : ∀ {ds es : List D} {vs us : List V}, Reps K M vs ds → Reps K M us es → Reps K M (vs ++ us) (ds ++ es)
  | [], _, _, _, r, q => by cases r; exact q
  | d :: ds, _, _, _, r, q => by cases r with | cons a b => exact .cons a (Reps.append b q)
theorem Reps.drop : ∀ {ds : List D} {vs : List V} (n : Nat), Reps K M vs ds → Reps K M (vs.drop n) (ds.drop n)
  | _, _, 0, r => r
  | [], _, n + 1, r => by cases r; exact .nil
  | d :: ds, _, n + 1, r => by cases r with | cons a b => exact Reps.drop n b
theorem Reps.take : ∀ {ds : List D} {vs : List V} (n : Nat), Reps K M vs ds → Reps K M (vs.take n) (ds.take n)
  | _, _, 0, r => by simpa using Reps.nil
  | [], _, n + 1, r => by cases r; exact .nil
  | d :: ds, _, n + 1, r => by cases r with | cons a b => exact .cons a (Reps.take n b)
theorem Reps.set : ∀ {ds : List D} {vs : List V} (n : Nat) {v : V} {d : D}, Reps K M vs ds → Rep K M v d → Reps K M (vs.set n v) (ds.set n d)
  | [], _, _, _, _, r, q => by cases r; exact .nil
  | d :: ds, _, 0, _, _, r, q => by cases r with | cons a b => exact .cons q b
  | d :: ds, _, n + 1, _, _, r, q => by cases r with | cons a b => exact .cons a (Reps.set n b q)
theorem Reps.reverse : ∀ {ds : List D} {vs : List V}, Reps K M vs ds → Reps K M vs.reverse ds.reverse
  | [], _, r => by cases r; exact .nil
  | d :: ds, _, r => by
    cases r with
    | cons a b => rw [List.reverse_cons, List.reverse_cons]; exact (Reps.reverse b).append (.cons a .nil)
theorem Reps.flatRep {ds : List D} {vs : List V} (r : Reps K M vs ds) : ∀ n : Nat, Reps K M (List.replicate n vs).flatten (List.replicate n ds).flatten
  | 0 => .nil
  | n + 1 => by rw [List.replicate_succ, List.replicate_succ, List.flatten_cons, List.flatten_cons]; exact r.append (Reps.flatRep r n)
theorem Rep.flat {d : D} {v : V} (r : Rep K M v d) (h : d.flat = true) (M' : Hp) : Rep K M' v d := by
  cases r with
  | non => exact .non
  | bl => exact .bl _
  | int => exact .int _
  | str => exact .str _
  | ty => exact .ty _
  | tup => simp [D.flat] at h
  | lst => simp [D.flat] at h
  | scr => simp [D.flat] at h
theorem Reps.ints : ∀ {ds : List D} {vs : List V} {is : List Int}, Reps K M vs ds → intsOf ds = some is → vs = is.map V.int
  | [], _, _, r, h => by cases r; simp [intsOf] at h; subst h; rfl
  | d :: ds, _, _, r, h => by
    cases r with
    | cons a b =>
      cases d <;> simp only [intsOf] at h <;> try (exact absurd h (by simp))
      split at h
      · rename_i q
        cases h
        cases a
        rw [List.map_cons, Reps.ints b q]
      · cases h
theorem Reps.bls : ∀ {ds : List D} {vs : List V} {is : List Bool}, Reps K M vs ds → blsOf ds = some is → vs = is.map V.bl
  | [], _, _, r, h => by cases r; simp [blsOf] at h; subst h; rfl
  | d :: ds, _, _, r, h => by
    cases r with
    | cons a b =>
      cases d <;> simp only [blsOf] at h <;> try (exact absurd h (by simp))
      split at h
      · rename_i q
        cases h
        cases a
        rw [List.map_cons, Reps.bls b q]
      · cases h
end
/-- an own thing at a: nobody else holds it -/
inductive Own (K : PySem.W.Frag) (M H : Hp) (a : Addr) : D → Prop
  | lst {vs : List V} {ds : List D} : M a = none → H a = some (.lst vs) → Reps K M vs ds → Own K M H a (.lst ds)
theorem Own.no {K : PySem.W.Frag} {M H : Hp} {a : Addr} {d : D} (o : Own K M H a d) : M a = none := by cases o; assumption
theorem Own.some {K : PySem.W.Frag} {M H : Hp} {a : Addr} {d : D} (o : Own K M H a d) : ∃ u, H a = some u := by cases o; exact ⟨_, by assumption⟩
theorem Own.mono {K : PySem.W.Frag} {M H M' H' : Hp} {a : Addr} {d : D} (o : Own K M H a d) (hm : Same M M') (hn : M' a = none) (ha : H' a = H a) : Own K M' H' a d := by
  cases o with
  | lst _ e r => exact .lst hn (ha.trans e) (r.mono hm)
/-- what may be looked at: it stands still, or it is an own thing -/
def Top (K : PySem.W.Frag) (M H : Hp) (v : V) (d : D) : Prop := Rep K M v d ∨ ∃ a, v = .ref a ∧ Own K M H a d
section
variable {K : PySem.W.Frag} {M M' H H' : Hp}
theorem Top.lst {v : V} {ds : List D} (t : Top K M H v (.lst ds)) (s : Same M H) : ∃ a vs, v = .ref a ∧ H a = some (.lst vs) ∧ Reps K M vs ds := by
  rcases t with r | ⟨a, rfl, o⟩
  · cases r with | lst e q => exact ⟨_, _, rfl, s _ _ e, q⟩
  · cases o with | lst _ e q => exact ⟨_, _, rfl, e, q⟩
theorem Top.tup {v : V} {ds : List D} (t : Top K M H v (.tup ds)) (s : Same M H) : ∃ a vs, v = .ref a ∧ M a = some (.tup vs) ∧ H a = some (.tup vs) ∧ Reps K M vs ds := by
  rcases t with r | ⟨a, rfl, o⟩
  · cases r with | tup e q => exact ⟨_, _, rfl, e, s _ _ e, q⟩
  · cases o
theorem Top.int {v : V} {i : Int} (t : Top K M H v (.int i)) : v = .int i := by
  rcases t with r | ⟨a, rfl, o⟩
  · cases r; rfl
  · cases o
theorem Top.str {v : V} {i : Str} (t : Top K M H v (.str i)) : v = .str i := by
  rcases t with r | ⟨a, rfl, o⟩
  · cases r; rfl
  · cases o
theorem Top.bl {v : V} {i : Bool} (t : Top K M H v (.bl i)) : v = .bl i := by
  rcases t with r | ⟨a, rfl, o⟩
  · cases r; rfl
  · cases o
theorem Top.non {v : V} (t : Top K M H v .non) : v = .non := by
  rcases t with r | ⟨a, rfl, o⟩
  · cases r; rfl
  · cases o
theorem Top.rep {v : V} {d : D} (t : Top K M H v d) (s : Same M H) : Rep K H v d := by
  rcases t with r | ⟨a, rfl, o⟩
  · exact r.mono s
  · cases o with | lst _ e q => exact .lst e (q.mono s)
end
/-! ## names and what they hold -/
def Bnd (K : PySem.W.Frag) (M H : Hp) (v : V) : B → Prop
  | .sh d => Rep K M v d
  | .ow d => ∃ a, v = .ref a ∧ Own K M H a d
  | .io d => ∃ a, v = .ref a ∧ Own K M H a d
def B.own : B → Bool
  | .sh _ => false
  | _ => true
/-- a is the own thing of the i-th name -/
def OwnAt (e : Env) (σ : St) (i : Nat) (a : Addr) : Prop := ∃ b, getB e i = some b ∧ b.own = true ∧ σ[i]? = some (some (.ref a))
def Owns (e : Env) (σ : St) (a : Addr) : Prop := ∃ i, OwnAt e σ i a
structure Vd (K : PySem.W.Frag) (M : Hp) (e : Env) (σ : St) (H : Hp) : Prop where
  same : Same M H
  len : e.length = σ.length
  slot : ∀ i b, getB e i = some b → ∃ v, σ[i]? = some (some v) ∧ Bnd K M H v b
  inj : ∀ i j a, OwnAt e σ i a → OwnAt e σ j a → i = j
/-- from one state to a later one: what nobody of us owns stays as it was -/
structure Stp (e : Env) (σ : St) (M H : Hp) (e' : Env) (σ' : St) (M' H' : Hp) : Prop where
  same : Same M M'
  keep : ∀ b o, H b = some o → ¬ Owns e σ b → H' b = some o
  new : ∀ b o, M' b = some o → M b = none → H b = none ∨ Owns e σ b
  own : ∀ b, Owns e' σ' b → Owns e σ b ∨ H b = none
  there : ∀ b o, H b = some o → ∃ o', H' b = some o'
  io : ∀ i d, getB e' i = some (.io d) → (∃ d0, getB e i = some (.io d0)) ∧ σ'[i]? = σ[i]?
section
variable {K : PySem.W.Frag} {e e1 e2 : Env} {σ σ1 σ2 : St} {M M1 M2 H H1 H2 : Hp}
theorem Stp.refl : Stp e σ M H e σ M H := ⟨fun _ _ h => h, fun _ _ h _ => h, fun _ _ h n => (by rw [h] at n; cases n), fun _ h => .inl h, fun _ o h => ⟨o, h⟩, fun _ d h => ⟨⟨d, h⟩, rfl⟩⟩
theorem Stp.trans (a : Stp e σ M H e1 σ1 M1 H1) (b : Stp e1 σ1 M1 H1 e2 σ2 M2 H2) : Stp e σ M H e2 σ2 M2 H2 where
  same := a.same.trans b.same
  keep := fun c o h n => b.keep c o (a.keep c o h n) fun w => (a.own c w).elim n fun z => by rw [h] at z; cases z
  new := fun c o h n => by
    cases q : M1 c with
    | some u => exact a.new c u q n
    | none =>
      rcases b.new c o h q with z | z
      · left
        cases r : H c with
        | none => rfl
        | some u => obtain ⟨o', z'⟩ := a.there c u r; rw [z] at z'; cases z'
      · exact (a.own c z).symm
  own := fun c h => by
    rcases b.own c h with z | z
    · exact a.own c z
    · right
      cases r : H c with
      | none => rfl
      | some u => obtain ⟨o', z'⟩ := a.there c u r; rw [z] at z'; cases z'
  there := fun c o h => by
    obtain ⟨o', h'⟩ := a.there c o h
    exact b.there c o' h'
  io := fun i d h => by
    obtain ⟨⟨d1, h1⟩, q1⟩ := b.io i d h
    obtain ⟨h0, q0⟩ := a.io i d1 h1
    exact ⟨h0, q1.trans q0⟩
end
/-! ### places of an environment -/
theorem getB_setB_same : ∀ {e : Env} {i : Nat} {b : Option B}, i < e.length → getB (setB e i b) i = b
  | [], _, _, h => by simp at h
  | x :: r, 0, b, _ => by simp [setB, getB]
  | x :: r, i + 1, b, h => by simp only [setB, getB]; exact getB_setB_same (by simpa using h)
theorem getB_setB_ne : ∀ {e : Env} {i j : Nat} {b : Option B}, j ≠ i → getB (setB e i b) j = getB e j
  | [], _, _, _, _ => rfl
  | x :: r, 0, 0, b, h => absurd rfl h
  | x :: r, 0, j + 1, b, h => by simp [setB, getB]
  | x :: r, i + 1, 0, b, h => by simp [setB, getB]
  | x :: r, i + 1, j + 1, b, h => by simp only [setB, getB]; exact getB_setB_ne (by omega)
theorem setB_length : ∀ {e : Env} {i : Nat} {b : Option B}, (setB e i b).length = e.length
  | [], _, _ => rfl
  | x :: r, 0, b => by simp [setB]
  | x :: r, i + 1, b => by simp [setB, setB_length]
theorem getB_lt : ∀ {e : Env} {i : Nat} {b : B}, getB e i = some b → i < e.length
  | [], _, _, h => by simp [getB] at h
  | x :: r, 0, b, h => by simp
  | x :: r, i + 1, b, h => by simp only [getB] at h; have := getB_lt h; simp; omega
theorem getB_none_of_le : ∀ {e : Env} {i : Nat}, e.length ≤ i → getB e i = none
  | [], _, _ => rfl
  | x :: r, 0, h => by simp at h
  | x :: r, i + 1, h => by simp only [getB]; exact getB_none_of_le (by simpa using h)
section
variable {K : PySem.W.Frag} {e e1 : Env} {σ : St} {M M1 H H1 : Hp}
theorem Vd.owned (D0 : Vd K M e σ H) {i : Nat} {a : Addr} (h : OwnAt e σ i a) : ∃ b, getB e i = some b ∧ b.own = true ∧ Own K M H a b.dat := by
  obtain ⟨b, h1, h2, h3⟩ := h
  obtain ⟨v, h4, h5⟩ := D0.slot i b h1
  rw [h3] at h4
  cases h4
  refine ⟨b, h1, h2, ?_⟩
  cases b with
  | sh d => cases h2
  | ow d => obtain ⟨a', ea, o⟩ := h5; cases ea; exact o
  | io d => obtain ⟨a', ea, o⟩ := h5; cases ea; exact o
theorem Vd.owns (D0 : Vd K M e σ H) {a : Addr} (h : Owns e σ a) : M a = none ∧ ∃ o, H a = some o := by
  obtain ⟨i, h⟩ := h
  obtain ⟨b, _, _, o⟩ := D0.owned h
  exact ⟨o.no, o.some⟩
theorem Bnd.mono {v : V} {b : B} (h : Bnd K M H v b) (hs : Same M M1) (hn : ∀ a, v = .ref a → b.own = true → M1 a = none ∧ H1 a = H a) : Bnd K M1 H1 v b := by
  cases b with
  | sh d => exact Rep.mono hs h
  | ow d => obtain ⟨a, rfl, o⟩ := h; exact ⟨a, rfl, o.mono hs (hn a rfl rfl).1 (hn a rfl rfl).2⟩
  | io d => obtain ⟨a, rfl, o⟩ := h; exact ⟨a, rfl, o.mono hs (hn a rfl rfl).1 (hn a rfl rfl).2⟩
/-- nothing of ours has changed: a new object, standing still or not -/
theorem Vd.grow (D0 : Vd K M e σ H) (hs : Same M M1) (hs1 : Same M1 H1) (hk : ∀ b o, H b = some o → H1 b = some o) (hn : ∀ b o, M1 b = some o → M b = none → H b = none) : Vd K M1 e σ H1 := by
  refine ⟨hs1, D0.len, fun i b hb => ?_, D0.inj⟩
  obtain ⟨v, h1, h2⟩ := D0.slot i b hb
  refine ⟨v, h1, h2.mono hs fun a ea ow => ?_⟩
  subst ea
  obtain ⟨z, o, ho⟩ := D0.owns ⟨i, b, hb, ow, h1⟩
  refine ⟨?_, (hk a o ho).trans ho.symm⟩
  cases q : M1 a with
  | none => rfl
  | some u =>
    have := hn a u q z
    rw [ho] at this
    cases this
theorem Stp.grow (hs : Same M M1) (hk : ∀ b o, H b = some o → H1 b = some o) (hn : ∀ b o, M1 b = some o → M b = none → H b = none) : Stp e σ M H e σ M1 H1 :=
  ⟨hs, fun b o h _ => hk b o h, fun b o h n => .inl (hn b o h n), fun _ h => .inl h, fun b o h => ⟨o, hk b o h⟩, fun _ d h => ⟨⟨d, h⟩, rfl⟩⟩
theorem upd_keeps {H : Hp} {p : Addr} {o : HO} (h : H p = none) : ∀ b u, H b = some u → upd H p o b = some u := fun b u q => by
  rw [upd_ne (ne_of_none q h)]; exact q
/-- an own thing of the i-th name stands still from now on -/
theorem Vd.freeze (D0 : Vd K M e σ H) {i : Nat} {d : D} (h : getB e i = some (.ow d)) : ∃ M1, Vd K M1 (setB e i (some (.sh d))) σ H ∧ Stp e σ M H (setB e i (some (.sh d))) σ M1 H ∧ ∃ v, σ[i]? = some (some v) ∧ Rep K M1 v d := by
  obtain ⟨v, h1, a, rfl, o⟩ := D0.slot i _ h
  obtain ⟨u, hu⟩ := o.some
  have hlt := getB_lt h
  have hne : ∀ j b, getB (setB e i (some (.sh d))) j = some b → b.own = true → j ≠ i := fun j b hb ow z => by
    subst z
    rw [getB_setB_same hlt] at hb
    cases hb
    cases ow
  have back : ∀ j c, OwnAt (setB e i (some (.sh d))) σ j c → OwnAt e σ j c ∧ j ≠ i := fun j c ⟨b, q1, q2, q3⟩ => by
    have := hne j b q1 q2
    rw [getB_setB_ne this] at q1
    exact ⟨⟨b, q1, q2, q3⟩, this⟩
  have sm : Same M (upd M a u) := fun b w q => by rw [upd_ne (fun z => by rw [z, o.no] at q; cases q)]; exact q
  have rp : Rep K (upd M a u) (.ref a) d := by
    cases o with
    | lst n e r =>
      rw [hu] at e
      cases e
      exact .lst upd_same (r.mono sm)
  refine ⟨upd M a u, ⟨fun b w q => ?_, by rw [setB_length]; exact D0.len, fun j b hb => ?_, fun j k c hj hk => ?_⟩, ⟨sm, fun b w q _ => q, fun b w q n => ?_, fun b ⟨j, hj⟩ => .inl ⟨j, (back j b hj).1⟩, fun b w q => ⟨w, q⟩, fun j dd hj => ?_⟩, ⟨_, h1, rp⟩⟩
  · by_cases hb : b = a
    · subst hb; rw [upd_same] at q; cases q; exact hu
    · rw [upd_ne hb] at q; exact D0.same _ _ q
  · by_cases hj : j = i
    · subst hj
      rw [getB_setB_same hlt] at hb
      cases hb
      exact ⟨_, h1, rp⟩
    · rw [getB_setB_ne hj] at hb
      obtain ⟨w, q1, q2⟩ := D0.slot j b hb
      refine ⟨w, q1, q2.mono sm fun c ec ow => ⟨?_, rfl⟩⟩
      subst ec
      have hca : c ≠ a := fun z => by
        subst z
        exact hj (D0.inj j i c ⟨b, hb, ow, q1⟩ ⟨_, h, rfl, h1⟩)
      rw [upd_ne hca]
      exact (D0.owns ⟨j, b, hb, ow, q1⟩).1
  · exact D0.inj j k c (back j c hj).1 (back k c hk).1
  · by_cases hb : b = a
    · subst hb; exact .inr ⟨i, _, h, rfl, h1⟩
    · rw [upd_ne hb, n] at q; cases q
  · have := hne j _ hj rfl
    rw [getB_setB_ne this] at hj
    exact ⟨⟨_, hj⟩, rfl⟩
/-! ### operands -/
def OpdR (K : PySem.W.Frag) (M : Hp) (σ : St) (v : V) : Op → Prop
  | .sl i => σ[i]? = some (some v)
  | .v d => Rep K M v d
theorem OpdR.mono {v : V} {o : Op} (h : OpdR K M σ v o) (hs : Same M M1) : OpdR K M1 σ v o := by
  cases o with
  | sl i => exact h
  | v d => exact Rep.mono hs h
theorem Vd.peek (D0 : Vd K M e σ H) {o : Op} {v : V} {d : D} (r : OpdR K M σ v o) (h : pk e o = some d) : Top K M H v d := by
  cases o with
  | v d' => simp [pk] at h; subst h; exact .inl r
  | sl i =>
    simp only [pk] at h
    split at h
    · rename_i b hb
      cases h
      obtain ⟨w, h1, h2⟩ := D0.slot i b hb
      have : w = v := by
        have z : σ[i]? = some (some v) := r
        rw [h1] at z; injection z with z; injection z
      subst this
      cases b with
      | sh d => exact .inl h2
      | ow d => exact .inr h2
      | io d => exact .inr h2
    · cases h
theorem Vd.take (D0 : Vd K M e σ H) {o : Op} {v : V} {d : D} (r : OpdR K M σ v o) (h : tk e o = some (d, e1)) : ∃ M1, Vd K M1 e1 σ H ∧ Stp e σ M H e1 σ M1 H ∧ Rep K M1 v d := by
  cases o with
  | v d' => simp [tk] at h; obtain ⟨rfl, rfl⟩ := h; exact ⟨M, D0, Stp.refl, r⟩
  | sl i =>
    simp only [tk] at h
    split at h
    · rename_i d' hb
      cases h
      obtain ⟨w, h1, h2⟩ := D0.slot i _ hb
      have : w = v := by
        have z : σ[i]? = some (some v) := r
        rw [h1] at z; injection z with z; injection z
      subst this
      exact ⟨M, D0, Stp.refl, h2⟩
    · rename_i d' hb
      cases h
      obtain ⟨M1, V1, S1, w, h1, h2⟩ := D0.freeze hb
      have : w = v := by
        have z : σ[i]? = some (some v) := r
        rw [h1] at z; injection z with z; injection z
      subst this
      exact ⟨M1, V1, S1, h2⟩
    · cases h
inductive OpdRs (K : PySem.W.Frag) (M : Hp) (σ : St) : List V → List Op → Prop
  | nil : OpdRs K M σ [] []
  | cons {v : V} {vs : List V} {o : Op} {os : List Op} : OpdR K M σ v o → OpdRs K M σ vs os → OpdRs K M σ (v :: vs) (o :: os)
theorem OpdRs.mono {vs : List V} {os : List Op} (h : OpdRs K M σ vs os) (hs : Same M M1) : OpdRs K M1 σ vs os := by
  induction h with
  | nil => exact .nil
  | cons a _ ih => exact .cons (a.mono hs) ih
theorem Vd.takes {os : List Op} : ∀ {vs : List V} {ds : List D} {e : Env} {M : Hp}, Vd K M e σ H → OpdRs K M σ vs os → tks os e = some (ds, e1) → ∃ M1, Vd K M1 e1 σ H ∧ Stp e σ M H e1 σ M1 H ∧ Reps K M1 vs ds := by
  induction os with
  | nil => intro vs ds e M D0 r h; cases r; simp [tks] at h; obtain ⟨rfl, rfl⟩ := h; exact ⟨M, D0, Stp.refl, .nil⟩
  | cons o os ih =>
    intro vs ds e M D0 r h
    cases r with
    | cons a b =>
      simp only [tks] at h
      split at h
      · cases h
      · rename_i d e2 hd
        split at h
        · cases h
        · rename_i ds' e3 hds
          cases h
          obtain ⟨M2, V2, S2, r2⟩ := D0.take a hd
          obtain ⟨M3, V3, S3, r3⟩ := ih V2 (b.mono S2.same) hds
          exact ⟨M3, V3, S2.trans S3, .cons (r2.mono S3.same) r3⟩
inductive Tops (K : PySem.W.Frag) (M H : Hp) : List V → List D → Prop
  | nil : Tops K M H [] []
  | cons {v : V} {vs : List V} {d : D} {ds : List D} : Top K M H v d → Tops K M H vs ds → Tops K M H (v :: vs) (d :: ds)
theorem Vd.peeks (D0 : Vd K M e σ H) {os : List Op} : ∀ {vs : List V} {ds : List D}, OpdRs K M σ vs os → pks e os = some ds → Tops K M H vs ds := by
  induction os with
  | nil => intro vs ds r h; cases r; simp [pks] at h; subst h; exact .nil
  | cons o os ih =>
    intro vs ds r h
    cases r with
    | cons a b =>
      simp only [pks] at h
      split at h
      · cases h
      · rename_i d hd
        split at h
        · cases h
        · rename_i ds' hds
          cases h
          exact .cons (D0.peek a hd) (ih b hds)
end
/-! ### what an expression gives -/
/-- fresh: a new own thing that no name holds yet; else it stands still -/
def Res (K : PySem.W.Frag) (e' : Env) (σ : St) (H M' H' : Hp) (v : V) (r : Bool × D) : Prop :=
  if r.1 = true then ∃ a, v = .ref a ∧ H a = none ∧ ¬ Owns e' σ a ∧ Own K M' H' a r.2 else Rep K M' v r.2
section
variable {K : PySem.W.Frag} {e e1 e2 : Env} {σ : St} {M M1 M2 H H1 H2 : Hp}
/-- a fresh thing stands still from now on -/
theorem Vd.settle (D0 : Vd K M e σ H1) {v : V} {r : Bool × D} (h : Res K e σ H M H1 v r) : ∃ M1, Vd K M1 e σ H1 ∧ (∀ {e0 : Env} {M0 : Hp}, Stp e0 σ M0 H e σ M H1 → Stp e0 σ M0 H e σ M1 H1) ∧ Rep K M1 v r.2 := by
  obtain ⟨f, d⟩ := r
  cases f with
  | false => exact ⟨M, D0, fun s => s, h⟩
  | true =>
    obtain ⟨a, rfl, ha, no, o⟩ : ∃ a, v = .ref a ∧ H a = none ∧ ¬ Owns e σ a ∧ Own K M H1 a d := h
    obtain ⟨u, hu⟩ := o.some
    have sm : Same M (upd M a u) := fun b w q => by rw [upd_ne (fun z => by rw [z, o.no] at q; cases q)]; exact q
    have rp : Rep K (upd M a u) (.ref a) d := by
      cases o with
      | lst n e r =>
        rw [hu] at e
        cases e
        exact .lst upd_same (r.mono sm)
    refine ⟨upd M a u, ⟨fun b w q => ?_, D0.len, fun j b hb => ?_, D0.inj⟩, fun {e0 M0} s => ⟨s.same.trans sm, s.keep, fun b w q n => ?_, s.own, s.there, s.io⟩, rp⟩
    · by_cases hb : b = a
      · subst hb; rw [upd_same] at q; cases q; exact hu
      · rw [upd_ne hb] at q; exact D0.same _ _ q
    · obtain ⟨w, q1, q2⟩ := D0.slot j b hb
      refine ⟨w, q1, q2.mono sm fun c ec ow => ⟨?_, rfl⟩⟩
      subst ec
      rw [upd_ne (fun z => no (by rw [← z]; exact ⟨j, b, hb, ow, q1⟩))]
      exact (D0.owns ⟨j, b, hb, ow, q1⟩).1
    · by_cases hb : b = a
      · subst hb; exact .inl ha
      · rw [upd_ne hb] at q; exact s.new b w q n
end
/-- what an operation on values may do: it makes at most new objects -/
structure Pur (M H M' H' : Hp) : Prop where
  same : Same M M'
  keep : ∀ b o, H b = some o → H' b = some o
  new : ∀ b o, M' b = some o → M b = none → H b = none
  sub : Same M' H'
def ResO (K : PySem.W.Frag) (H M' H' : Hp) (v : V) (r : Bool × D) : Prop :=
  if r.1 = true then ∃ a, v = .ref a ∧ H a = none ∧ Own K M' H' a r.2 else Rep K M' v r.2
section
variable {K : PySem.W.Frag} {e e1 e2 : Env} {σ : St} {M M1 M2 H H1 H2 : Hp}
theorem Pur.refl (h : Same M H) : Pur M H M H := ⟨fun _ _ q => q, fun _ _ q => q, fun _ _ q n => (by rw [q] at n; cases n), h⟩
theorem Pur.vd (p : Pur M H M1 H1) (D0 : Vd K M e σ H) : Vd K M1 e σ H1 := D0.grow p.same p.sub p.keep p.new
theorem Pur.stp (p : Pur M H M1 H1) : Stp e σ M H e σ M1 H1 := Stp.grow p.same p.keep p.new
theorem ResO.res {v : V} {r : Bool × D} (D0 : Vd K M e σ H) (h : ResO K H M1 H1 v r) : Res K e σ H M1 H1 v r := by
  unfold ResO at h
  unfold Res
  split at h
  · rename_i q
    rw [if_pos q]
    obtain ⟨a, rfl, ha, o⟩ := h
    exact ⟨a, rfl, ha, fun w => (by obtain ⟨_, u, hu⟩ := D0.owns w; rw [ha] at hu; cases hu), o⟩
  · rename_i q
    rw [if_neg q]
    exact h
/-- an earlier start -/
theorem Res.back {v : V} {r : Bool × D} {e0 : Env} {M0 H0 : Hp} (h : Res K e σ H M1 H1 v r) (s : Stp e0 σ M0 H0 e2 σ M H) : Res K e σ H0 M1 H1 v r := by
  unfold Res at h ⊢
  split at h
  · rename_i q
    rw [if_pos q]
    obtain ⟨a, rfl, ha, no, o⟩ := h
    refine ⟨a, rfl, ?_, no, o⟩
    cases z : H0 a with
    | none => rfl
    | some u => obtain ⟨o', h'⟩ := s.there a u z; rw [ha] at h'; cases h'
  · rename_i q
    rw [if_neg q]
    exact h
/-- a new object that stands still -/
theorem Pur.lay (h : Same M H) {p : Addr} {o : HO} (n : H p = none) : Pur M H (upd M p o) (upd H p o) := by
  have nm : M p = none := by
    cases q : M p with
    | none => rfl
    | some u => rw [h _ _ q] at n; cases n
  refine ⟨fun b u q => ?_, upd_keeps n, fun b u q z => ?_, fun b u q => ?_⟩
  · rw [upd_ne (ne_of_none q nm)]; exact q
  · by_cases hb : b = p
    · subst hb; exact n
    · rw [upd_ne hb, z] at q; cases q
  · by_cases hb : b = p
    · subst hb; rw [upd_same] at q ⊢; exact q
    · rw [upd_ne hb] at q ⊢; exact h _ _ q
/-- a new own object -/
theorem Pur.own (h : Same M H) {p : Addr} {o : HO} (n : H p = none) : Pur M H M (upd H p o) :=
  ⟨fun _ _ q => q, upd_keeps n, fun b u q z => (by rw [z] at q; cases q), fun b u q => (by rw [upd_ne (fun z => by rw [z] at q; rw [h _ _ q] at n; cases n)]; exact h _ _ q)⟩
theorem own_no (h : Same M H) {p : Addr} (n : H p = none) : M p = none := by
  cases q : M p with
  | none => rfl
  | some u => rw [h _ _ q] at n; cases n
theorem ResO.newL (h : Same M H) {p : Addr} {vs : List V} {ds : List D} (n : H p = none) (r : Reps K M vs ds) : ResO K H M (upd H p (.lst vs)) (.ref p) (true, .lst ds) := by
  unfold ResO
  rw [if_pos rfl]
  exact ⟨p, rfl, n, .lst (own_no h n) upd_same r⟩
theorem ResO.newT (h : Same M H) {p : Addr} {vs : List V} {ds : List D} (n : H p = none) (r : Reps K M vs ds) : ResO K H (upd M p (.tup vs)) (upd H p (.tup vs)) (.ref p) (false, .tup ds) := by
  unfold ResO
  rw [if_neg (by simp)]
  exact .tup upd_same (r.mono (Pur.lay h n).same)
theorem ResO.of {v : V} {d : D} (r : Rep K M1 v d) : ResO K H M1 H1 v (false, d) := by
  unfold ResO; rw [if_neg (by simp)]; exact r
end
/-! ### answers -/
def Ans.wp {α : Type} (a : Ans α) (Q : α → Env → Prop) : Prop := ∃ x e, a = .val x e ∧ Q x e
theorem Ans.wp_bind {α β : Type} {a : Ans α} {f : α → Env → Ans β} {Q : β → Env → Prop} (h : (a.bind f).wp Q) : a.wp fun x e => (f x e).wp Q := by
  obtain ⟨y, e, h1, h2⟩ := h
  cases a with
  | stuck => cases h1
  | val x e1 => exact ⟨x, e1, rfl, y, e, h1, h2⟩
  | exc _ _ => cases h1
theorem opt_wp {α : Type} {o : Option α} {e : Env} {Q : α → Env → Prop} (h : (opt o e).wp Q) : ∃ a, o = some a ∧ Q a e := by
  obtain ⟨y, e1, h1, h2⟩ := h
  cases o with
  | none => cases h1
  | some z => cases h1; exact ⟨_, rfl, h2⟩
theorem val_wp {α : Type} {a : α} {e : Env} {Q : α → Env → Prop} (h : (Ans.val a e).wp Q) : Q a e := by
  obtain ⟨y, e1, h1, h2⟩ := h
  cases h1
  exact h2
theorem stuck_wp {α : Type} {Q : α → Env → Prop} (h : (Ans.stuck : Ans α).wp Q) : False := by
  obtain ⟨y, e1, h1, h2⟩ := h
  cases h1
end L2.Eng
namespace L2.Eng
open PySem PySem.Spec PyProof.Rows
/-! ## equality of data -/
mutual
theorem eq_toP : ∀ (a b : D) (n m : Nat), a.ok n = true → b.ok m = true → PyData.eqv a.toP b.toP = D.eq a b
  | .non, b, n, m, h1, h2 => by cases b <;> simp_all [D.toP, PyData.eqv, D.eq, D.ok]
  | .bl x, b, n, m, h1, h2 => by cases b <;> simp_all [D.toP, PyData.eqv, D.eq, D.ok]
  | .int x, b, n, m, h1, h2 => by cases b <;> simp_all [D.toP, PyData.eqv, D.eq, D.ok]
  | .str x, b, n, m, h1, h2 => by cases b <;> simp_all [D.toP, PyData.eqv, D.eq, D.ok]
  | .tup xs, b, n, m, h1, h2 => by
    cases b with
    | tup ys =>
      cases n with
      | zero => simp [D.ok] at h1
      | succ n =>
        cases m with
        | zero => simp [D.ok] at h2
        | succ m => simp only [D.toP, PyData.eqv, D.eq]; exact eqs_toP xs ys n m (by simpa [D.ok] using h1) (by simpa [D.ok] using h2)
    | _ => simp_all [D.toP, PyData.eqv, D.eq, D.ok]
  | .lst xs, b, n, m, h1, h2 => by
    cases b with
    | lst ys =>
      cases n with
      | zero => simp [D.ok] at h1
      | succ n =>
        cases m with
        | zero => simp [D.ok] at h2
        | succ m => simp only [D.toP, PyData.eqv, D.eq]; exact eqs_toP xs ys n m (by simpa [D.ok] using h1) (by simpa [D.ok] using h2)
    | _ => simp_all [D.toP, PyData.eqv, D.eq, D.ok]
  | .scr xs, _, _, _, h1, _ => by simp [D.ok] at h1
  | .dct xs, _, _, _, h1, _ => by simp [D.ok] at h1
  | .ty xs, _, _, _, h1, _ => by simp [D.ok] at h1
theorem eqs_toP : ∀ (a b : List D) (n m : Nat), D.ok.oks a n = true → D.ok.oks b m = true → PyData.eqvAll (D.toP.toPs a) (D.toP.toPs b) = D.eqs a b
  | [], [], _, _, _, _ => by simp [D.toP.toPs, PyData.eqvAll, D.eqs]
  | [], y :: ys, _, _, _, _ => by simp [D.toP.toPs, PyData.eqvAll, D.eqs]
  | x :: xs, [], _, _, _, _ => by simp [D.toP.toPs, PyData.eqvAll, D.eqs]
  | x :: xs, y :: ys, n, m, h1, h2 => by
    simp only [D.ok.oks, Bool.and_eq_true] at h1 h2
    simp only [D.toP.toPs, PyData.eqvAll, D.eqs, eq_toP x y n m h1.1 h2.1, eqs_toP xs ys n m h1.2 h2.2]
end
mutual
theorem ok_lay : ∀ (a : D) (n : Nat), a.ok n = true → a.toP.canLay0 = true ∧ a.toP.depth ≤ n
  | .non, n, _ => by simp [D.toP, PyData.canLay0, PyData.depth]
  | .bl x, n, _ => by simp [D.toP, PyData.canLay0, PyData.depth]
  | .int x, n, _ => by simp [D.toP, PyData.canLay0, PyData.depth]
  | .str x, n, h => by simp [D.toP, PyData.canLay0, PyData.depth]; simpa [D.ok] using h
  | .tup xs, 0, h => by simp [D.ok] at h
  | .tup xs, n + 1, h => by
    obtain ⟨h1, h2⟩ := oks_lay xs n (by simpa [D.ok] using h)
    simp only [D.toP, PyData.canLay0, PyData.depth]
    exact ⟨h1, by omega⟩
  | .lst xs, 0, h => by simp [D.ok] at h
  | .lst xs, n + 1, h => by
    obtain ⟨h1, h2⟩ := oks_lay xs n (by simpa [D.ok] using h)
    simp only [D.toP, PyData.canLay0, PyData.depth]
    exact ⟨h1, by omega⟩
  | .scr xs, _, h1 => by simp [D.ok] at h1
  | .dct xs, _, h1 => by simp [D.ok] at h1
  | .ty xs, _, h1 => by simp [D.ok] at h1
theorem oks_lay : ∀ (a : List D) (n : Nat), D.ok.oks a n = true → PyData.canLayAll0 (D.toP.toPs a) = true ∧ PyData.depthAll (D.toP.toPs a) ≤ n
  | [], _, _ => by simp [D.toP.toPs, PyData.canLayAll0, PyData.depthAll]
  | x :: xs, n, h => by
    simp only [D.ok.oks, Bool.and_eq_true] at h
    obtain ⟨a1, a2⟩ := ok_lay x n h.1
    obtain ⟨b1, b2⟩ := oks_lay xs n h.2
    simp only [D.toP.toPs, PyData.canLayAll0, PyData.depthAll, a1, b1, Bool.and_self, true_and]
    omega
end
theorem ok_shaped {a : D} (h : a.ok deepest = true) : SeqAt.shaped a.toP = true := by
  obtain ⟨h1, h2⟩ := ok_lay a _ h
  unfold SeqAt.shaped
  rw [h1, Bool.true_and, decide_eq_true_eq]
  exact Nat.le_trans h2 (by decide)
theorem oks_shaped {a : List D} (h : D.ok.oks a deepest = true) : SeqAt.shaped (.list (D.toP.toPs a)) = true := by
  obtain ⟨h1, h2⟩ := oks_lay a _ h
  unfold SeqAt.shaped
  have e : (PyData.list (D.toP.toPs a)).depth = PyData.depthAll (D.toP.toPs a) + 1 := by simp only [PyData.depth]
  rw [e, show (PyData.list (D.toP.toPs a)).canLay0 = true from by simp only [PyData.canLay0]; exact h1, Bool.true_and, decide_eq_true_eq]
  have : deepest = 60 := rfl
  omega
section
variable {K : PySem.W.Frag} {H : Hp}
mutual
theorem Rep.dp : ∀ {d : D} {v : V} {n : Nat}, Rep K H v d → d.ok n = true → Dp K H v d.toP
  | .non, _, _, r, _ => by cases r; exact .non
  | .bl _, _, _, r, _ => by cases r; exact .bl _
  | .int _, _, _, r, _ => by cases r; exact .int _
  | .str _, _, _, r, _ => by cases r; exact .str _
  | .ty _, _, _, r, h => by simp [D.ok] at h
  | .tup ds, _, 0, r, h => by simp [D.ok] at h
  | .tup ds, _, n + 1, r, h => by cases r with | tup e q => exact .tup (SqT.of e) (Reps.dp (n := n) q (by simpa [D.ok] using h))
  | .lst ds, _, 0, r, h => by simp [D.ok] at h
  | .lst ds, _, n + 1, r, h => by cases r with | lst e q => exact .lst (SqL.of e) (Reps.dp (n := n) q (by simpa [D.ok] using h))
  | .scr ds, _, _, r, h => by simp [D.ok] at h
  | .dct _, _, _, r, _ => by cases r
theorem Reps.dp : ∀ {ds : List D} {vs : List V} {n : Nat}, Reps K H vs ds → D.ok.oks ds n = true → DpAll K H vs (D.toP.toPs ds)
  | [], _, _, r, _ => by cases r; exact .nil
  | d :: ds, _, n, r, h => by
    simp only [D.ok.oks, Bool.and_eq_true] at h
    cases r with | cons a b => exact .cons (Rep.dp a h.1) (Reps.dp b h.2)
end
end
theorem any_toP (x : D) (n : Nat) (h : x.ok n = true) : ∀ (xs : List D) (m : Nat), D.ok.oks xs m = true → ((D.toP.toPs xs).any fun z => PyData.eqv z x.toP) = inD x xs
  | [], _, _ => rfl
  | y :: ys, m, h2 => by
    simp only [D.ok.oks, Bool.and_eq_true] at h2
    simp only [D.toP.toPs, List.any_cons, inD, eq_toP y x m n h2.1 h]
    have := any_toP x n h ys m h2.2
    unfold inD at this
    rw [this]
/-! ## operations by values -/
def rP1 (K : PySem.W.Frag) (f : D → Option (Bool × D)) : V → Hp → VK → Prop := fun x H Q => ∃ M dx r, Same M H ∧ Top K M H x dx ∧ f dx = some r ∧ ∀ v M' H', Pur M H M' H' → ResO K H M' H' v r → Q v H'
def rP2 (K : PySem.W.Frag) (f : D → D → Option (Bool × D)) : R2 := fun x y H Q => ∃ M dx dy r, Same M H ∧ Top K M H x dx ∧ Top K M H y dy ∧ f dx dy = some r ∧ ∀ v M' H', Pur M H M' H' → ResO K H M' H' v r → Q v H'
def rC2 (K : PySem.W.Frag) (f : D → D → Option Bool) : R2 := fun x y H Q => ∃ M dx dy c, Same M H ∧ Top K M H x dx ∧ Top K M H y dy ∧ f dx dy = some c ∧ Q (.bl c) H
section
variable {X : Cx}
theorem opr_bin (o : Operator) : OpR X (binaryOp o) (rP2 X.K (binD o)) := by
  intro pins s σ H x y v u Q I rx ry h
  obtain ⟨M, dx, dy, r, sm, tx, ty, hf, q⟩ := h
  unfold binD at hf
  split at hf
  · cases hf; exact op_add pins s σ H x y v u Q I rx ry ⟨_, _, tx.int, ty.int, q _ _ _ (Pur.refl sm) (.of (.int _))⟩
  · split at hf
    · rename_i hl
      cases hf; exact op_add_str pins s σ H x y v u Q I rx ry ⟨_, _, tx.str, ty.str, fit_le hl, q _ _ _ (Pur.refl sm) (.of (.str _))⟩
    · cases hf
  · split at hf
    · rename_i hl
      cases hf
      obtain ⟨a, vs, rfl, ha, ra⟩ := tx.lst sm
      obtain ⟨b, us, rfl, hb, rb⟩ := ty.lst sm
      exact op_cat pins s σ H _ _ v u Q I rx ry ⟨_, _, _, _, rfl, rfl, ha, hb, by rw [ra.length, rb.length]; exact fit_le hl, fun p hp => q _ _ _ (Pur.own sm hp) (.newL sm hp (ra.append rb))⟩
    · cases hf
  · split at hf
    · rename_i hl
      cases hf
      obtain ⟨a, vs, rfl, ma, ha, ra⟩ := tx.tup sm
      obtain ⟨b, us, rfl, mb, hb, rb⟩ := ty.tup sm
      refine op_catA pins s σ H _ _ v u Q I rx ry ⟨_, _, _, _, rfl, rfl, SqT.of ha, SqT.of hb, by rw [ra.length, rb.length]; exact fit_le hl, fun e => ?_, fun e1 e2 => ?_, fun e1 e2 p hp => ?_⟩
      · subst e
        refine q _ _ _ (Pur.refl sm) (.of (.tup mb ?_))
        have e0 := ra.length
        have : _ = [] := List.length_eq_zero_iff.mp e0.symm
        subst this
        exact rb
      · subst e2
        refine q _ _ _ (Pur.refl sm) (.of (.tup ma ?_))
        have e0 := rb.length
        have : _ = [] := List.length_eq_zero_iff.mp e0.symm
        subst this
        rw [List.append_nil]
        exact ra
      · exact q _ _ _ (Pur.lay sm hp) (.newT sm hp (ra.append rb))
    · cases hf
  · cases hf; exact op_sub pins s σ H x y v u Q I rx ry ⟨_, _, tx.int, ty.int, q _ _ _ (Pur.refl sm) (.of (.int _))⟩
  · split at hf
    · rename_i hc
      cases hf; exact op_mul pins s σ H x y v u Q I rx ry ⟨_, _, tx.int, ty.int, hc, q _ _ _ (Pur.refl sm) (.of (.int _))⟩
    · cases hf
  · split at hf
    · rename_i hc
      cases hf
      obtain ⟨a, vs, rfl, ha, ra⟩ := tx.lst sm
      exact op_rep pins s σ H _ y v u Q I rx ry ⟨_, _, _, rfl, ty.int, ha, hc.1, hc.2.1, by rw [ra.length]; exact fit_le hc.2.2, fun p hp => q _ _ _ (Pur.own sm hp) (.newL sm hp (ra.flatRep _))⟩
    · cases hf
  · split at hf
    · rename_i hc
      cases hf; exact op_mod pins s σ H x y v u Q I rx ry ⟨_, _, tx.int, ty.int, hc, q _ _ _ (Pur.refl sm) (.of (.int _))⟩
    · cases hf
  · split at hf
    · rename_i hc
      cases hf; exact op_fdiv pins s σ H x y v u Q I rx ry ⟨_, _, tx.int, ty.int, hc, q _ _ _ (Pur.refl sm) (.of (.int _))⟩
    · cases hf
  · split at hf
    · rename_i hc
      cases hf; exact op_pow pins s σ H x y v u Q I rx ry ⟨_, _, tx.int, ty.int, hc, q _ _ _ (Pur.refl sm) (.of (.int _))⟩
    · cases hf
  · split at hf
    · rename_i hc
      cases hf; exact op_shl pins s σ H x y v u Q I rx ry ⟨_, _, tx.int, ty.int, hc, q _ _ _ (Pur.refl sm) (.of (.int _))⟩
    · cases hf
  · split at hf
    · rename_i hc
      cases hf; exact op_shr pins s σ H x y v u Q I rx ry ⟨_, _, tx.int, ty.int, hc, q _ _ _ (Pur.refl sm) (.of (.int _))⟩
    · cases hf
  · cases hf; exact op_and pins s σ H x y v u Q I rx ry ⟨_, _, tx.int, ty.int, q _ _ _ (Pur.refl sm) (.of (.int _))⟩
  · cases hf; exact op_or pins s σ H x y v u Q I rx ry ⟨_, _, tx.int, ty.int, q _ _ _ (Pur.refl sm) (.of (.int _))⟩
  · cases hf; exact op_xor pins s σ H x y v u Q I rx ry ⟨_, _, tx.int, ty.int, q _ _ _ (Pur.refl sm) (.of (.int _))⟩
  · cases hf
theorem unr_un (o : UnaryOp) : UnR X (unaryOp o) (rP1 X.K fun d => (unD o d).map fun z => (false, z)) := by
  intro pins s σ H x v Q I rx h
  obtain ⟨M, dx, r, sm, tx, hf, q⟩ := h
  cases hu : unD o dx with
  | none => simp only [hu, Option.map_none] at hf; cases hf
  | some z =>
    simp only [hu, Option.map_some] at hf
    cases hf
    unfold unD at hu
    split at hu
    · cases hu; exact un_neg pins s σ H x v Q I rx ⟨_, tx.int, q _ _ _ (Pur.refl sm) (.of (.int _))⟩
    · cases hu; exact un_inv pins s σ H x v Q I rx ⟨_, tx.int, q _ _ _ (Pur.refl sm) (.of (.int _))⟩
    · cases hu
theorem tru_of {K : PySem.W.Frag} {M H : Hp} {x : V} {d : D} {b : Bool} (sm : Same M H) (t : Top K M H x d) (h : truth d = some b) : TruV K x H b := by
  unfold truth at h
  split at h
  · cases h; rw [t.non]; rfl
  · cases h; rw [t.bl]; rfl
  · cases h; rw [t.int]; rfl
  · split at h
    · rename_i hl
      cases h; rw [t.str]; exact ⟨fit_le hl, rfl⟩
    · cases h
  · cases h
    obtain ⟨a, vs, rfl, _, ha, ra⟩ := t.tup sm
    refine .inr (.inl ⟨_, SqT.of ha, ?_⟩)
    cases ra <;> rfl
  · cases h
    obtain ⟨a, vs, rfl, ha, ra⟩ := t.lst sm
    refine .inl ⟨_, SqL.of ha, ?_⟩
    cases ra <;> rfl
  · cases h
theorem isNone_top {K : PySem.W.Frag} {M H : Hp} {x : V} {d : D} (t : Top K M H x d) : decide (x = .non) = isNone d := by
  rcases t with r | ⟨a, rfl, o⟩
  · cases r <;> simp [isNone]
  · cases o; simp [isNone]
/-- x in a tuple of data -/
theorem op_inT (neg : Bool) (hu : X.A.units + 65 < cLine) : OpR X (compareOp (if neg then .NotIn else .In)) (fun x y H Q => ∃ (a : Addr) (xs : List V) (d : PyData) (ds : List PyData), y = .ref a ∧ SqT X.K H a xs ∧ Dp X.K H x d ∧ DpAll X.K H xs ds ∧ SeqAt.shaped d = true ∧ SeqAt.shaped (.list ds) = true ∧
    Q (.bl (if neg then !ds.any (fun z => PyData.eqv z d) else ds.any fun z => PyData.eqv z d)) H) := by
  intro pins s σ H x y v u Q I rx ry h
  obtain ⟨a, xs, d, ds, rfl, hs, hd, he, sd, se, q⟩ := h
  cases ry
  obtain ⟨bs, r1⟩ := Dp.reads I d x v hd rx
  obtain ⟨its, rv, pl, hz⟩ := I.tuple hs
  obtain ⟨as, r2⟩ := Dp.readsAll I ds xs its he rv
  have hxs : PyData.canLayAll0 ds = true := SeqAt.canLay_of_shaped se
  have hm : its.map (SeqAt.readOf s.heap) = ds := SeqAt.readsAll_map ds its as hxs r2
  have hany : its.toArray.any (fun u => PyData.eqv (SeqAt.readOf s.heap u) d) = ds.any fun z => PyData.eqv z d := by
    rw [← hm, List.any_map]; simp; rfl
  have at_ := SeqAt.items_eqAt (A := X.A) (vs := its.toArray) (show ReadsAll s.heap its.toArray.toList ds as from r2) r1 hxs (SeqAt.canLay_of_shaped sd) (room_in_shaped sd hu)
  cases neg with
  | false => exact SeqAt.in_tupleAt (fun u => PyData.eqv (SeqAt.readOf s.heap u) d) pl at_ ⟨.bl _, H, I, rfl, by rw [hany]; exact q⟩
  | true => exact SeqAt.notIn_tupleAt (fun u => PyData.eqv (SeqAt.readOf s.heap u) d) pl at_ ⟨.bl _, H, I, rfl, by rw [hany]; exact q⟩
theorem opr_cmp (o : CmpOp) {k : Nat} (hr : Room k X.A) : OpR X (compareOp o) (rC2 X.K (cmpD o)) := by
  intro pins s σ H x y v u Q I rx ry h
  obtain ⟨M, dx, dy, c, sm, tx, ty, hf, q⟩ := h
  unfold cmpD at hf
  split at hf
  · split at hf
    · rename_i a b hk
      rw [Bool.and_eq_true] at hk
      cases hf
      refine op_eqD hr.units pins s σ H x y v u Q I rx ry ⟨_, _, (tx.rep sm).dp hk.1, (ty.rep sm).dp hk.2, ok_shaped hk.1, ok_shaped hk.2, ?_⟩
      rw [eq_toP _ _ _ _ hk.1 hk.2]
      exact q
    · cases hf
  · split at hf
    · rename_i a b hk
      rw [Bool.and_eq_true] at hk
      cases hf
      refine op_neD hr.units pins s σ H x y v u Q I rx ry ⟨_, _, (tx.rep sm).dp hk.1, (ty.rep sm).dp hk.2, ok_shaped hk.1, ok_shaped hk.2, ?_⟩
      rw [eq_toP _ _ _ _ hk.1 hk.2]
      exact q
    · cases hf
  · cases hf; exact op_lt pins s σ H x y v u Q I rx ry ⟨_, _, tx.int, ty.int, q⟩
  · cases hf; exact op_le pins s σ H x y v u Q I rx ry ⟨_, _, tx.int, ty.int, q⟩
  · cases hf; exact op_gt pins s σ H x y v u Q I rx ry ⟨_, _, tx.int, ty.int, q⟩
  · cases hf; exact op_ge pins s σ H x y v u Q I rx ry ⟨_, _, tx.int, ty.int, q⟩
  · cases hf; exact op_lt_str pins s σ H x y v u Q I rx ry ⟨_, _, tx.str, ty.str, q⟩
  · cases hf; exact op_le_str pins s σ H x y v u Q I rx ry ⟨_, _, tx.str, ty.str, q⟩
  · cases hf
    refine op_isN pins s σ H x y v u Q I rx ry ⟨ty.non, ?_⟩
    rw [isNone_top tx]; exact q
  · cases hf
    refine op_notN pins s σ H x y v u Q I rx ry ⟨ty.non, ?_⟩
    rw [isNone_top tx]; exact q
  · cases hf; exact op_isBl pins s σ H x y v u Q I rx ry ⟨_, _, tx.bl, ty.bl, q⟩
  · cases hf
    refine op_notBl pins s σ H x y v u Q I rx ry ⟨_, _, tx.bl, ty.bl, ?_⟩
    exact q
  · split at hf
    · rename_i a xs hk
      rw [Bool.and_eq_true] at hk
      cases hf
      obtain ⟨b, vs, rfl, hb, rb⟩ := ty.lst sm
      refine op_inD (by have := hr.un; omega) pins s σ H x _ v u Q I rx ry ⟨_, _, (tx.rep sm).dp hk.1, .lst (SqL.of hb) ((rb.mono sm).dp hk.2), ok_shaped hk.1, oks_shaped hk.2, ?_⟩
      rw [any_toP _ _ hk.1 _ _ hk.2]
      exact q
    · cases hf
  · split at hf
    · rename_i a xs hk
      rw [Bool.and_eq_true] at hk
      cases hf
      obtain ⟨b, vs, rfl, _, hb, rb⟩ := ty.tup sm
      refine op_inT false (by have := hr.un; omega) pins s σ H x _ v u Q I rx ry ⟨b, vs, _, _, rfl, SqT.of hb, (tx.rep sm).dp hk.1, (rb.mono sm).dp hk.2, ok_shaped hk.1, oks_shaped hk.2, ?_⟩
      rw [any_toP _ _ hk.1 _ _ hk.2]
      exact q
    · cases hf
  · split at hf
    · rename_i a xs hk
      rw [Bool.and_eq_true] at hk
      cases hf
      obtain ⟨b, vs, rfl, _, hb, rb⟩ := ty.tup sm
      refine op_inT true (by have := hr.un; omega) pins s σ H x _ v u Q I rx ry ⟨b, vs, _, _, rfl, SqT.of hb, (tx.rep sm).dp hk.1, (rb.mono sm).dp hk.2, ok_shaped hk.1, oks_shaped hk.2, ?_⟩
      rw [any_toP _ _ hk.1 _ _ hk.2]
      exact q
    · cases hf
  · split at hf
    · rename_i a xs hk
      rw [Bool.and_eq_true] at hk
      cases hf
      obtain ⟨b, vs, rfl, hb, rb⟩ := ty.lst sm
      refine op_notInD (by have := hr.un; omega) pins s σ H x _ v u Q I rx ry ⟨_, _, (tx.rep sm).dp hk.1, .lst (SqL.of hb) ((rb.mono sm).dp hk.2), ok_shaped hk.1, oks_shaped hk.2, ?_⟩
      rw [any_toP _ _ hk.1 _ _ hk.2]
      exact q
    · cases hf
  · cases hf
theorem atN_ix {n : Nat} {i : Int} {k : Nat} (h : atN n i = some k) : ixN n i = some k := h
theorem ixr_ix : IxR X (rP2 X.K fun a b => (ixD a b).map fun z => (false, z)) := by
  intro value slice pins s σ H x y v u Q I rx ry h hs
  obtain ⟨M, dx, dy, r, sm, tx, ty, hf, q⟩ := h
  cases hu : ixD dx dy with
  | none => simp only [hu, Option.map_none] at hf; cases hf
  | some z =>
    simp only [hu, Option.map_some] at hf
    cases hf
    unfold ixD at hu
    split at hu
    · rename_i xs i
      obtain ⟨a, vs, rfl, ha, ra⟩ := tx.lst sm
      cases hk : atN xs.length i with
      | none => rw [hk] at hu; cases hu
      | some k =>
        rw [hk] at hu
        have hu : xs[k]? = some z := hu
        obtain ⟨w, hw, rw_⟩ := ra.get hu
        refine ix_list value slice pins s σ H _ y v u Q I rx ry ⟨_, _, _, w, rfl, ty.int, SqL.of ha, ?_, q _ _ _ (Pur.refl sm) (.of rw_)⟩ hs
        unfold atI
        rw [ra.length, atN_ix hk]
        exact hw
    · rename_i xs i
      obtain ⟨a, vs, rfl, ma, ha, ra⟩ := tx.tup sm
      cases hk : atN xs.length i with
      | none => rw [hk] at hu; cases hu
      | some k =>
        rw [hk] at hu
        have hu : xs[k]? = some z := hu
        obtain ⟨w, hw, rw_⟩ := ra.get hu
        refine ix_tup value slice pins s σ H _ y v u Q I rx ry ⟨_, _, _, w, rfl, ty.int, SqT.of ha, ?_, q _ _ _ (Pur.refl sm) (.of rw_)⟩ hs
        unfold atI
        rw [ra.length, atN_ix hk]
        exact hw
    · rename_i zs i
      split at hu
      · rename_i hl
        cases hk : ((atN zs.cps.toList.length i).bind fun k => zs.cps.toList[k]?) with
        | none => rw [hk] at hu; cases hu
        | some c =>
          rw [hk] at hu
          cases hu
          refine ix_str value slice pins s σ H x y v u Q I rx ry ⟨_, _, c, tx.str, ty.int, fit_le hl, ?_, q _ _ _ (Pur.refl sm) (.of (.str _))⟩ hs
          exact hk
      · cases hu
    · cases hu
def rPS (K : PySem.W.Frag) (f : D → Option Int → Option Int → Option (Bool × D)) : V → Option Int → Option Int → Hp → VK → Prop := fun x lo hi H Q =>
  ∃ M dx r, Same M H ∧ Top K M H x dx ∧ f dx lo hi = some r ∧ ∀ v M' H', Pur M H M' H' → ResO K H M' H' v r → Q v H'
theorem Reps.cut {K : PySem.W.Frag} {M : Hp} {vs : List V} {ds : List D} (r : Reps K M vs ds) (lo hi : Option Int) : Reps K M (cutV vs lo hi) (cutD ds lo hi) := by
  unfold cutV cutD
  rw [r.length]
  exact (r.drop _).take _
theorem slr_sl : SlR X (rPS X.K slD) := by
  intro pins s σ H x v vl vu lo hi sl Q I rx hs pl pu h
  obtain ⟨M, dx, r, sm, tx, hf, q⟩ := h
  unfold slD at hf
  split at hf
  · cases hf
    obtain ⟨a, vs, rfl, ha, ra⟩ := tx.lst sm
    exact sl_list pins s σ H _ v vl vu lo hi sl Q I rx hs pl pu ⟨_, _, rfl, SqL.of ha, fun p hp => q _ _ _ (Pur.own sm hp) (.newL sm hp (ra.cut _ _))⟩
  · cases hf
    obtain ⟨a, vs, rfl, ma, ha, ra⟩ := tx.tup sm
    refine sl_tupA pins s σ H _ v vl vu lo hi sl Q I rx hs pl pu ⟨_, _, rfl, SqT.of ha, fun e => ?_, fun _ p hp => q _ _ _ (Pur.lay sm hp) (.newT sm hp (ra.cut _ _))⟩
    refine q _ _ _ (Pur.refl sm) (.of (.tup ma ?_))
    unfold cutD
    rw [← ra.length, e.1, e.2, List.drop_zero, Nat.sub_zero, ra.length, List.take_length]
    exact ra
  · split at hf
    · rename_i hl
      cases hf
      exact sl_str pins s σ H x v vl vu lo hi sl Q I rx hs pl pu ⟨_, tx.str, fit_le hl, q _ _ _ (Pur.refl sm) (.of (.str _))⟩
    · cases hf
  · cases hf
end
end L2.Eng
namespace L2.Eng
open PySem PySem.Spec PyProof.Rows
/-! ## built-in functions by values -/
def rCa (K : PySem.W.Frag) (f : List D → Option (Bool × D)) : List V → Hp → VK → Prop := fun xs H Q => ∃ M ds r, Same M H ∧ Tops K M H xs ds ∧ f ds = some r ∧ ∀ v M' H', Pur M H M' H' → ResO K H M' H' v r → Q v H'
/-- the name, and what it is: a function or a class -/
def Prim.name : Prim → String
  | .len => "len"
  | .list => "list"
  | .tuple => "tuple"
  | .sum => "sum"
  | .all => "all"
  | .any => "any"
  | .int => "int"
  | .abs => "abs"
  | .isi => "isinstance"
def Prim.isTy : Prim → Bool
  | .list => true
  | .tuple => true
  | .int => true
  | _ => false
def Prim.val (p : Prim) : Value := if p.isTy then .type p.name else .builtin p.name
theorem prim_boot (p : Prim) : bootBuiltins p.name = some p.val := by
  cases p <;> decide +kernel
section
variable {X : Cx}
theorem Tops.one {K : PySem.W.Frag} {M H : Hp} {xs : List V} {d : D} (t : Tops K M H xs [d]) : ∃ x, xs = [x] ∧ Top K M H x d := by
  cases t with | cons a b => cases b; exact ⟨_, rfl, a⟩
theorem Tops.two {K : PySem.W.Frag} {M H : Hp} {xs : List V} {d e : D} (t : Tops K M H xs [d, e]) : ∃ x y, xs = [x, y] ∧ Top K M H x d ∧ Top K M H y e := by
  cases t with | cons a b => cases b with | cons b c => cases c; exact ⟨_, _, rfl, a, b⟩
theorem Top.scr {K : PySem.W.Frag} {M H : Hp} {v : V} {ds : List D} (t : Top K M H v (.scr ds)) (s : Same M H) : ∃ a vs, v = .ref a ∧ SqL K H a vs ∧ Reps K M vs ds := by
  rcases t with r | ⟨a, rfl, o⟩
  · cases r with | scr e q => exact ⟨_, _, rfl, s.seq e, q⟩
  · cases o
theorem Top.ty {K : PySem.W.Frag} {M H : Hp} {v : V} {n : String} (t : Top K M H v (.ty n)) : v = .ty n := by
  rcases t with r | ⟨a, rfl, o⟩
  · cases r; rfl
  · cases o
theorem tyX_of {K : PySem.W.Frag} {M H : Hp} {x : V} {d : D} {t : String} (sm : Same M H) (tp : Top K M H x d) (h : tyOf d = some t) (hd : t ≠ "dict") : TyX K H x (.type t) := by
  unfold tyOf at h
  split at h <;> first | cases h | skip
  · rw [tp.non]; exact .base .non
  · rw [tp.bl]; exact .base (.bl _)
  · rw [tp.int]; exact .base (.int _)
  · rw [tp.str]; exact .base (.str _)
  · obtain ⟨a, vs, rfl, _, ha, _⟩ := tp.tup sm; exact .base (.tup ha)
  · obtain ⟨a, vs, rfl, ha, _⟩ := tp.lst sm; exact .base (.lst ha)
  · exact absurd rfl hd
theorem isi_kit {K : PySem.W.Frag} {n t : String} {b : Bool} (h : isiD n t = some b) : PySem.W.kitOne K (.type t) (.type n) = some b := by
  refine kit_ty ?_
  unfold isiD at h
  split at h
  · rename_i hk
    rw [Bool.and_eq_true] at hk
    obtain ⟨h1, h2⟩ := hk
    simp only [List.contains_cons, List.contains_nil, Bool.or_false, Bool.or_eq_true, beq_iff_eq] at h1 h2
    cases h
    rcases h1 with rfl | rfl | rfl | rfl | rfl <;> rcases h2 with rfl | rfl | rfl | rfl | rfl | rfl <;> decide +kernel
  · cases h
theorem callr_prim (p : Prim) (hc : X.calm = true) : CallR X p.val (rCa X.K (primD p)) := by
  intro pins s σ H xs us Q I r h
  obtain ⟨M, ds, z, sm, ts, hf, q⟩ := h
  unfold primD at hf
  split at hf
  · cases hf
    obtain ⟨x, rfl, t⟩ := ts.one
    obtain ⟨a, vs, rfl, ha, ra⟩ := t.lst sm
    rw [← ra.length] at q
    exact call_len_seq pins s σ H _ us Q I r ⟨_, _, rfl, .inl (SqL.of ha), q _ _ _ (Pur.refl sm) (.of (.int _))⟩
  · cases hf
    obtain ⟨x, rfl, t⟩ := ts.one
    obtain ⟨a, vs, rfl, ha, ra⟩ := t.scr sm
    rw [← ra.length] at q
    exact call_len_seq pins s σ H _ us Q I r ⟨_, _, rfl, .inl ha, q _ _ _ (Pur.refl sm) (.of (.int _))⟩
  · cases hf
    obtain ⟨x, rfl, t⟩ := ts.one
    obtain ⟨a, vs, rfl, _, ha, ra⟩ := t.tup sm
    rw [← ra.length] at q
    exact call_len_seq pins s σ H _ us Q I r ⟨_, _, rfl, .inr (SqT.of ha), q _ _ _ (Pur.refl sm) (.of (.int _))⟩
  · split at hf
    · rename_i hl
      cases hf
      obtain ⟨x, rfl, t⟩ := ts.one
      exact call_len_str pins s σ H _ us Q I r ⟨_, by rw [t.str], fit_le hl, q _ _ _ (Pur.refl sm) (.of (.int _))⟩
    · cases hf
  · cases hf
    obtain ⟨x, rfl, t⟩ := ts.one
    obtain ⟨a, vs, rfl, ha, ra⟩ := t.lst sm
    exact call_list_of pins s σ H _ us Q I r ⟨_, _, rfl, .inl (SqL.of ha), fun l hl => q _ _ _ (Pur.own sm hl) (.newL sm hl ra)⟩
  · cases hf
    obtain ⟨x, rfl, t⟩ := ts.one
    obtain ⟨a, vs, rfl, ha, ra⟩ := t.scr sm
    exact call_list_of pins s σ H _ us Q I r ⟨_, _, rfl, .inl ha, fun l hl => q _ _ _ (Pur.own sm hl) (.newL sm hl ra)⟩
  · cases hf
    obtain ⟨x, rfl, t⟩ := ts.one
    obtain ⟨a, vs, rfl, _, ha, ra⟩ := t.tup sm
    exact call_list_of pins s σ H _ us Q I r ⟨_, _, rfl, .inr (SqT.of ha), fun l hl => q _ _ _ (Pur.own sm hl) (.newL sm hl ra)⟩
  · cases hf
    obtain ⟨x, rfl, t⟩ := ts.one
    obtain ⟨a, vs, rfl, ha, ra⟩ := t.lst sm
    exact call_tuple_of pins s σ H _ us Q I r ⟨_, _, rfl, .inl ⟨SqL.of ha, fun l hl => q _ _ _ (Pur.lay sm hl) (.newT sm hl ra)⟩⟩
  · cases hf
    obtain ⟨x, rfl, t⟩ := ts.one
    obtain ⟨a, vs, rfl, ma, ha, ra⟩ := t.tup sm
    exact call_tuple_of pins s σ H _ us Q I r ⟨_, _, rfl, .inr ⟨SqT.of ha, q _ _ _ (Pur.refl sm) (.of (.tup ma ra))⟩⟩
  · split at hf
    · rename_i is hi
      cases hf
      obtain ⟨x, rfl, t⟩ := ts.one
      obtain ⟨a, vs, rfl, ha, ra⟩ := t.lst sm
      have e := ra.ints hi
      subst e
      exact cr_sum hc pins s σ H _ us Q I r ⟨_, _, rfl, SqL.of ha, q _ _ _ (Pur.refl sm) (.of (.int _))⟩
    · cases hf
  · split at hf
    · rename_i is hi
      cases hf
      obtain ⟨x, rfl, t⟩ := ts.one
      obtain ⟨a, vs, rfl, ha, ra⟩ := t.lst sm
      have e := ra.bls hi
      subst e
      exact cr_all hc pins s σ H _ us Q I r ⟨_, _, rfl, SqL.of ha, q _ _ _ (Pur.refl sm) (.of (.bl _))⟩
    · cases hf
  · split at hf
    · rename_i is hi
      cases hf
      obtain ⟨x, rfl, t⟩ := ts.one
      obtain ⟨a, vs, rfl, ha, ra⟩ := t.lst sm
      have e := ra.bls hi
      subst e
      exact cr_any hc pins s σ H _ us Q I r ⟨_, _, rfl, SqL.of ha, q _ _ _ (Pur.refl sm) (.of (.bl _))⟩
    · cases hf
  · cases hf
    obtain ⟨x, rfl, t⟩ := ts.one
    exact call_int1 pins s σ H _ us Q I r (.inl ⟨_, by rw [t.int], q _ _ _ (Pur.refl sm) (.of (.int _))⟩)
  · cases hf
    obtain ⟨x, rfl, t⟩ := ts.one
    exact call_int1 pins s σ H _ us Q I r (.inr ⟨_, by rw [t.bl], q _ _ _ (Pur.refl sm) (.of (.int _))⟩)
  · cases hf
    obtain ⟨x, rfl, t⟩ := ts.one
    exact call_abs pins s σ H _ us Q I r ⟨_, by rw [t.int], q _ _ _ (Pur.refl sm) (.of (.int _))⟩
  · split at hf
    · rename_i t ht
      split at hf
      · rename_i b hb
        cases hf
        obtain ⟨x, y, rfl, tx, ty⟩ := ts.two
        rw [ty.ty] at r
        have hd : t ≠ "dict" := fun e => by
          subst e
          unfold isiD at hb
          simp at hb
        exact call_isi pins s σ H _ us Q I r ⟨_, _, _, _, _, rfl, .ty _, tyX_of sm tx ht hd, isi_kit hb, q _ _ _ (Pur.refl sm) (.of (.bl _))⟩
      · cases hf
    · cases hf
  · cases hf
end
end L2.Eng
namespace L2.Eng
open PySem PySem.Spec PyProof.Rows
/-! ## the text of an expression and its code -/
structure Gam where
  N : List Str
  sc : Scope
  fn : Str → Bool
  fns : List (Str × Nat)
def Gam.blk (Γ : Gam) (scope : Scope) : Gam := { Γ with sc := relS scope Γ.sc, fn := fun x => scope.names.lookup x == some .cell }
def bltNames : List Str := ["len", "list", "tuple", "sum", "all", "any", "int", "abs", "isinstance", "range", "enumerate", "zip", "bool", "str", "sorted", "set", "dict", "min", "max"]
def tyNames : List String := ["int", "bool", "str", "tuple", "list"]
def visB (sc : Scope) (x : Str) : Bool := match sc.names.lookup x with | some .local => true | some .cell => true | some .free => true | _ => false
def gloB (sc : Scope) (x : Str) : Bool := match sc.names.lookup x with | some .globalImplicit => true | _ => false
/-- a name that may be stored -/
def locB (Γ : Gam) (x : Str) : Bool := match Γ.sc.names.lookup x with | some .local => true | some .cell => Γ.fn x | _ => false
def nodbg (x : Str) : Bool := !(x == ("__debug__" : Str)) && !(x == ("__classdict__" : Str))
/-- its truth is that of its value -/
def plainT : Expr → Bool
  | .UnaryOp .Not _ _ => false
  | .BoolOp .. => false
  | .IfExp .. => false
  | .Compare .. => false
  | _ => true
def plainI : Expr → Bool
  | .Slice .. => false
  | .Tuple .. => false
  | _ => true
def Tg.slots : Tg → List Nat
  | .nm i => [i]
  | .tp is => is
inductive CGs : Gam → List Expr → List Nat → Prop
  | nil {Γ : Gam} : CGs Γ [] []
  | cons {Γ : Gam} {x : Str} {pos : Pos} {i : Nat} {es : List Expr} {is : List Nat} (h1 : Γ.N[i]? = some x) (h2 : locB Γ x = true) (h3 : CGs Γ es is) : CGs Γ (.Name x pos :: es) (i :: is)
inductive CG : Gam → Expr → Tg → Prop
  | nm {Γ : Gam} {x : Str} {pos : Pos} {i : Nat} (h1 : Γ.N[i]? = some x) (h2 : locB Γ x = true) : CG Γ (.Name x pos) (.nm i)
  | tp {Γ : Gam} {es : List Expr} {k : Nat} {pos : Pos} {is : List Nat} (h : CGs Γ es is) : CG Γ (.Tuple es k pos) (.tp is)
mutual
inductive CX : Gam → Expr → Ex → Prop
  | var {Γ : Gam} {x : Str} {pos : Pos} {i : Nat} (h1 : Γ.N[i]? = some x) (h2 : visB Γ.sc x = true) (h3 : nodbg x = true) : CX Γ (.Name x pos) (.var i)
  | bty {Γ : Gam} {n : String} {pos : Pos} (h1 : tyNames.contains n = true) (h2 : gloB Γ.sc n = true) : CX Γ (.Name n pos) (.cst (.ty n))
  | int {Γ : Gam} {i : Int} {j : Nat} {pos : Pos} : CX Γ (.Constant (.int i) j pos) (.cst (.int i))
  | bl {Γ : Gam} {i : Bool} {j : Nat} {pos : Pos} : CX Γ (.Constant (.bool i) j pos) (.cst (.bl i))
  | non {Γ : Gam} {j : Nat} {pos : Pos} : CX Γ (.Constant .none j pos) (.cst .non)
  | str {Γ : Gam} {i : Str} {j : Nat} {pos : Pos} : CX Γ (.Constant (.str i) j pos) (.cst (.str i))
  | tup {Γ : Gam} {es : List Expr} {k : Nat} {pos : Pos} {xs : Exs} (h : CXs Γ es xs) : CX Γ (.Tuple es k pos) (.tup xs)
  | lst {Γ : Gam} {es : List Expr} {pos : Pos} {xs : Exs} (h : CXs Γ es xs) : CX Γ (.List es pos) (.lst xs)
  | bin {Γ : Gam} {o : Operator} {a b : Expr} {pos : Pos} {x y : Ex} (h1 : CX Γ a x) (h2 : CX Γ b y) : CX Γ (.BinOp a o b pos) (.bin o x y)
  | un {Γ : Gam} {o : UnaryOp} {a : Expr} {pos : Pos} {x : Ex} (h1 : CX Γ a x) : CX Γ (.UnaryOp o a pos) (.un o x)
  | nt {Γ : Gam} {a : Expr} {pos : Pos} {x : Ex} (h1 : CX Γ a x) : CX Γ (.UnaryOp .Not a pos) (.nt x)
  | cmp {Γ : Gam} {o : CmpOp} {a b : Expr} {pos : Pos} {x y : Ex} (h1 : CX Γ a x) (h2 : CX Γ b y) (h3 : behindInMarks o b = false) : CX Γ (.Compare a [o] [b] pos) (.cmp o x y)
  | cmp2 {Γ : Gam} {o o' : CmpOp} {a b c : Expr} {pos : Pos} {x y z : Ex} (h1 : CX Γ a x) (h2 : CX Γ b y) (h3 : CX Γ c z) (h4 : behindInMarks o' c = false) : CX Γ (.Compare a [o, o'] [b, c] pos) (.cmp2 o o' x y z)
  | one {Γ : Gam} {o : BoolOp} {a : Expr} {pos : Pos} {x : Ex} (h1 : CX Γ a x) (h2 : ∀ i, x ≠ .var i) : CX Γ (.BoolOp o [a] pos) x
  | and {Γ : Gam} {a b : Expr} {r : List Expr} {pos : Pos} {x y : Ex} (h1 : CX Γ a x) (h2 : CX Γ (.BoolOp .And (b :: r) pos) y) : CX Γ (.BoolOp .And (a :: b :: r) pos) (.and x y)
  | or {Γ : Gam} {a b : Expr} {r : List Expr} {pos : Pos} {x y : Ex} (h1 : CX Γ a x) (h2 : CX Γ (.BoolOp .Or (b :: r) pos) y) : CX Γ (.BoolOp .Or (a :: b :: r) pos) (.or x y)
  | ife {Γ : Gam} {a b c : Expr} {pos : Pos} {t : Tt} {x y : Ex} (h1 : CT Γ c t) (h2 : CX Γ a x) (h3 : CX Γ b y) : CX Γ (.IfExp c a b pos) (.ife t x y)
  | ix {Γ : Gam} {a b : Expr} {pos : Pos} {x y : Ex} (h1 : CX Γ a x) (h2 : CX Γ b y) (h3 : plainI b = true) : CX Γ (.Subscript a b pos) (.ix x y)
  | sl {Γ : Gam} {a : Expr} {lo hi : Option Expr} {p2 pos : Pos} {x : Ex} {l h : Exo} (h1 : CX Γ a x) (h2 : CXo Γ lo l) (h3 : CXo Γ hi h) : CX Γ (.Subscript a (.Slice lo hi none p2) pos) (.sl x l h)
  | rev {Γ : Gam} {a : Expr} {k : Nat} {p1 p2 p3 pos : Pos} {x : Ex} (h1 : CX Γ a x) : CX Γ (.Subscript a (.Slice none none (some (.UnaryOp .USub (.Constant (.int 1) k p1) p2)) p3) pos) (.rev x)
  | call {Γ : Gam} {f : Str} {i : Nat} {p pos : Pos} {e : Expr} {es : List Expr} {xs : Exs} (h1 : Γ.fns.lookup f = some i) (h2 : gloB Γ.sc f = true) (h3 : nodbg f = true) (h4 : CXs Γ (e :: es) xs) : CX Γ (.Call (.Name f p) (e :: es) [] pos) (.call i xs)
  | prim {Γ : Gam} {q : Prim} {p pos : Pos} {e : Expr} {es : List Expr} {xs : Exs} (h2 : gloB Γ.sc q.name = true) (h4 : CXs Γ (e :: es) xs) : CX Γ (.Call (.Name q.name p) (e :: es) [] pos) (.prim q xs)
  | comp {Γ : Gam} {elt tg iter : Expr} {ifs : List Expr} {scope : Scope} {pos : Pos} {own : List (Str × Nat)} {x : Ex} {t : Tg} {it : It} {c : Tt}
      (h1 : blkC Γ.N Γ.sc scope own = true) (h2 : CI Γ tg iter it) (h3 : CG (Γ.blk scope) tg t) (h4 : CTs (Γ.blk scope) ifs c) (h5 : CX (Γ.blk scope) elt x) (h6 : t.slots.all (own.map (·.2)).contains = true) : CX Γ (.ListComp elt [⟨tg, iter, ifs, 0⟩] scope pos) (.comp x t it c (own.map (·.2)))
  | pop {Γ : Gam} {x : Str} {p ap pos : Pos} {i : Nat} (h1 : Γ.N[i]? = some x) (h2 : visB Γ.sc x = true) (h3 : nodbg x = true) (h4 : (ap.endLine == pos.line) = true) : CX Γ (.Call (.Attribute (.Name x p) "pop" ap) [] [] pos) (.pop i)
inductive CXs : Gam → List Expr → Exs → Prop
  | nil {Γ : Gam} : CXs Γ [] .nil
  | cons {Γ : Gam} {e : Expr} {es : List Expr} {x : Ex} {xs : Exs} (h1 : CX Γ e x) (h2 : CXs Γ es xs) : CXs Γ (e :: es) (.cons x xs)
inductive CXo : Gam → Option Expr → Exo → Prop
  | no {Γ : Gam} : CXo Γ none .no
  | yes {Γ : Gam} {e : Expr} {x : Ex} (h1 : CX Γ e x) : CXo Γ (some e) (.yes x)
inductive CT : Gam → Expr → Tt → Prop
  | e {Γ : Gam} {a : Expr} {x : Ex} (h1 : CX Γ a x) (h2 : plainT a = true) : CT Γ a (.e x)
  | cmp {Γ : Gam} {o : CmpOp} {a b : Expr} {pos : Pos} {x y : Ex} (h1 : CX Γ a x) (h2 : CX Γ b y) (h3 : behindInMarks o b = false) : CT Γ (.Compare a [o] [b] pos) (.e (.cmp o x y))
  | cmp2 {Γ : Gam} {o o' : CmpOp} {a b c : Expr} {pos : Pos} {x y z : Ex} (h1 : CX Γ a x) (h2 : CX Γ b y) (h3 : CX Γ c z) (h4 : behindInMarks o' c = false) : CT Γ (.Compare a [o, o'] [b, c] pos) (.e (.cmp2 o o' x y z))
  | nt {Γ : Gam} {a : Expr} {pos : Pos} {x : Tt} (h1 : CT Γ a x) : CT Γ (.UnaryOp .Not a pos) (.nt x)
  | one {Γ : Gam} {o : BoolOp} {a : Expr} {pos : Pos} {x : Tt} (h1 : CT Γ a x) : CT Γ (.BoolOp o [a] pos) x
  | and {Γ : Gam} {a b : Expr} {r : List Expr} {pos : Pos} {x y : Tt} (h1 : CT Γ a x) (h2 : CT Γ (.BoolOp .And (b :: r) pos) y) : CT Γ (.BoolOp .And (a :: b :: r) pos) (.and x y)
  | or {Γ : Gam} {a b : Expr} {r : List Expr} {pos : Pos} {x y : Tt} (h1 : CT Γ a x) (h2 : CT Γ (.BoolOp .Or (b :: r) pos) y) : CT Γ (.BoolOp .Or (a :: b :: r) pos) (.or x y)
inductive CTs : Gam → List Expr → Tt → Prop
  | nil {Γ : Gam} : CTs Γ [] .tru
  | one {Γ : Gam} {a : Expr} {x : Tt} (h1 : CT Γ a x) : CTs Γ [a] x
/-- what a for walks; the target is looked at by enumerate -/
inductive CI : Gam → Expr → Expr → It → Prop
  | seq {Γ : Gam} {tg a : Expr} {x : Ex} (h1 : CX Γ a x) : CI Γ tg a (.seq x)
  | rng {Γ : Gam} {tg a : Expr} {p pos : Pos} {x : Ex} (h0 : gloB Γ.sc "range" = true) (h1 : CX Γ a x) : CI Γ tg (.Call (.Name "range" p) [a] [] pos) (.rng x)
  | rng2 {Γ : Gam} {tg a b : Expr} {p pos : Pos} {x y : Ex} (h0 : gloB Γ.sc "range" = true) (h1 : CX Γ a x) (h2 : CX Γ b y) : CI Γ tg (.Call (.Name "range" p) [a, b] [] pos) (.rng2 x y)
  | enum {Γ : Gam} {elts : List Expr} {kk : Nat} {tpos : Pos} {a : Expr} {p pos : Pos} {x : Ex} (h0 : gloB Γ.sc "enumerate" = true) (h1 : CX Γ a x) : CI Γ (.Tuple elts kk tpos) (.Call (.Name "enumerate" p) [a] [] pos) (.enum x)
end
/-! ## what is known around -/
def SpF (K : PySem.W.Frag) (P : Nat → List B → CA) (f np : Nat) : Sp := fun vs H Q _ => vs.length = np ∧ ∃ (M : Hp) (bs : List B) (fr : Bool) (d : D) (outs : List B),
  Vd K M (bs.map some) (vs.map some) H ∧ P f bs = .ret fr d outs ∧
  ∀ v M' H', Vd K M' (outs.map some) (vs.map some) H' → Stp (bs.map some) (vs.map some) M H (outs.map some) (vs.map some) M' H' → Res K (outs.map some) (vs.map some) H M' H' v (fr, d) → Q v H'
structure Cok (T : List Fn) (P : Nat → List B → CA) (Γ : Gam) (X : Cx) : Prop where
  N : X.N = Γ.N
  sc : X.env.scope = Γ.sc
  fn : X.fn = Γ.fn
  calm : X.calm = true
  nd : Γ.N.Nodup
  room : ∃ k, Room k X.A
  blt : ∀ x ∈ bltNames, X.mg x = none
  call : ∀ x f, Γ.fns.lookup x = some f → ∃ fn fa fd ps k, T[f]? = some fn ∧ fn.io.length = fn.np ∧ ps.length = fn.np ∧ FnOk X.prog X.w X.K X.mg X.base CX0 k fa fd ps (SpF X.K P f fn.np) ∧ Room k X.A ∧ X.mg x = some (.ref fa) ∧ PySem.W.keepIn X.K (.ref fa) = true ∧ Binds X.K fd ps []
/-! ## readings -/
def tE (K : PySem.W.Frag) (f : Env → Ans (Bool × D)) : TE := fun σ H Q => ∃ M e, Vd K M e σ H ∧ (f e).wp fun r e' => ∀ v M' H', Vd K M' e' σ H' → Stp e σ M H e' σ M' H' → Res K e' σ H M' H' v r → Q v H'
def tO (K : PySem.W.Frag) (f : Env → Ans Op) : TE := fun σ H Q => ∃ M e, Vd K M e σ H ∧ (f e).wp fun o e' => ∀ v M' H', Vd K M' e' σ H' → Stp e σ M H e' σ M' H' → OpdR K M' σ v o → Q v H'
def tOs (K : PySem.W.Frag) (f : Env → Ans (List Op)) : TA := fun σ H Q => ∃ M e, Vd K M e σ H ∧ (f e).wp fun o e' => ∀ vs M' H', Vd K M' e' σ H' → Stp e σ M H e' σ M' H' → OpdRs K M' σ vs o → Q vs H'
def tT (K : PySem.W.Frag) (f : Env → Ans Bool) : TT := fun σ H Q => ∃ M e, Vd K M e σ H ∧ (f e).wp fun b e' => ∀ M' H', Vd K M' e' σ H' → Stp e σ M H e' σ M' H' → Q b H'
theorem Ans.wp.imp {α : Type} {a : Ans α} {Q Q' : α → Env → Prop} (h : a.wp Q) (k : ∀ x e, Q x e → Q' x e) : a.wp Q' := by
  obtain ⟨x, e, h1, h2⟩ := h
  exact ⟨x, e, h1, k x e h2⟩
section
variable {X : Cx} {e : Expr}
theorem _root_.L2.PE.imp {t t' : TE} (p : PE X e t) (h : ∀ σ H Q, t' σ H Q → t σ H Q) : PE X e t' := ⟨fun pins s σ H Q I q => p.run pins s σ H Q I (h σ H Q q)⟩
theorem _root_.L2.PT.imp {t t' : TT} (p : PT X e t) (h : ∀ σ H Q, t' σ H Q → t σ H Q) : PT X e t' := ⟨fun pins s σ H Q I q => p.run pins s σ H Q I (h σ H Q q)⟩
theorem _root_.L2.PA.imp {es : List Expr} {t t' : TA} (p : PA X es t) (h : ∀ σ H Q, t' σ H Q → t σ H Q) : PA X es t' := ⟨fun pos pins s σ H Q I q => p.run pos pins s σ H Q I (h σ H Q q)⟩
theorem _root_.L2.PW.imp {t t' : TT} (p : PW X e t) (h : ∀ σ H Q, t' σ H Q → t σ H Q) : PW X e t' := ⟨fun wh pins s σ H Q I q => p.run wh pins s σ H Q I (h σ H Q q)⟩
end
section
variable {T : List Fn} {P : Nat → List B → CA} {Γ : Gam} {X : Cx}
theorem visB_vis (C : Cok T P Γ X) {x : Str} (h : visB Γ.sc x = true) : Vis X.env.scope x := by
  unfold visB at h
  rw [C.sc]
  split at h
  · exact .inl (by assumption)
  · exact .inr (.inl (by assumption))
  · exact .inr (.inr (by assumption))
  · cases h
theorem gloB_gl (C : Cok T P Γ X) {x : Str} (h : gloB Γ.sc x = true) : Gl X x := by
  unfold gloB at h
  show X.env.scope.names.lookup x = _
  rw [C.sc]
  split at h
  · assumption
  · cases h
theorem locB_loc (C : Cok T P Γ X) {x : Str} (h : locB Γ x = true) : Loc X.env.scope x ∧ (X.fn x = true ∨ X.env.scope.names.lookup x = some .local) := by
  unfold locB at h
  rw [C.sc, C.fn]
  split at h
  · rename_i q
    exact ⟨.inl q, .inr q⟩
  · rename_i q
    exact ⟨.inr q, .inl h⟩
  · cases h
theorem nodbg_of {x : Str} (h : nodbg x = true) : (x == ("__debug__" : Str)) = false ∧ (x == ("__classdict__" : Str)) = false := by
  unfold nodbg at h
  simp only [Bool.and_eq_true, Bool.not_eq_true'] at h
  exact h
theorem CX.star {e : Expr} {x : Ex} (h : CX Γ e x) (es : List Expr) (env : PySem.Env) : starEach (e :: es) env = (false, eval e env) :: starEach es env := by
  cases h <;> rfl
theorem CXs.star {es : List Expr} {xs : Exs} (h : CXs Γ es xs) (env : PySem.Env) : (starEach es env).any (·.1) = false := by
  induction es generalizing xs with
  | nil => rfl
  | cons e es ih =>
    cases h with
    | cons h1 h2 => rw [h1.star, List.any_cons, ih h2]; rfl
theorem back_any (pos : Pos) (l : List (Bool × Sem Value)) (h : l.any (·.1) = false) : (backTo pos l).any (·.1) = false := by
  unfold backTo
  rw [List.any_map]
  exact h
/-- an operand by its value -/
theorem pe_opd (C : Cok T P Γ X) {e : Expr} {x : Ex} (h : CX Γ e x) (p : PE X e (tE X.K (ev T P x))) : PE X e (tO X.K (opd x (ev T P x))) := by
  by_cases hx : ∃ i, x = .var i
  · obtain ⟨i, rfl⟩ := hx
    cases h with
    | one _ h2 => exact absurd rfl (h2 i)
    | var h1 h2 h3 =>
      obtain ⟨d1, d2⟩ := nodbg_of h3
      refine (pe_var (i := i) (by rw [C.N]; exact h1) (visB_vis C h2) d1 d2).imp fun σ H Q ⟨M, e, D0, w⟩ => ?_
      simp only [opd] at w
      split at w
      · rename_i b hb
        have w := val_wp w
        obtain ⟨v, h4, _⟩ := D0.slot i b hb
        exact ⟨v, h4, w v M H D0 Stp.refl h4⟩
      · exact (stuck_wp w).elim
  · refine p.imp fun σ H Q ⟨M, e, D0, w⟩ => ⟨M, e, D0, ?_⟩
    have e1 : opd x (ev T P x) e = (ev T P x e).bind fun r e1 => .val (.v r.2) e1 := by
      cases x <;> first | rfl | exact absurd ⟨_, rfl⟩ hx
    rw [e1] at w
    refine (Ans.wp_bind w).imp fun r e2 w2 v M' H' D1 S1 rs => ?_
    have w2 := val_wp w2
    obtain ⟨M2, D2, S2, r2⟩ := D1.settle rs
    exact w2 v M2 H' D2 (S2 S1) r2
/-- a value that stands still -/
theorem pe_set {e : Expr} {f : Env → Ans (Bool × D)} (p : PE X e (tE X.K f)) : PE X e (tE X.K fun e => (f e).bind fun r e1 => .val (false, r.2) e1) := by
  refine p.imp fun σ H Q ⟨M, e, D0, w⟩ => ⟨M, e, D0, ?_⟩
  refine (Ans.wp_bind w).imp fun r e2 w2 v M' H' D1 S1 rs => ?_
  have w2 := val_wp w2
  obtain ⟨M2, D2, S2, r2⟩ := D1.settle rs
  exact w2 v M2 H' D2 (S2 S1) (by unfold Res; rw [if_neg (by simp)]; exact r2)
theorem Res.still {K : PySem.W.Frag} {e : Env} {σ : St} {H M1 H1 : Hp} {v : V} {d : D} (r : Rep K M1 v d) : Res K e σ H M1 H1 v (false, d) := by
  unfold Res; rw [if_neg (by simp)]; exact r
theorem Res.rep {K : PySem.W.Frag} {e : Env} {σ : St} {H M1 H1 : Hp} {v : V} {d : D} (r : Res K e σ H M1 H1 v (false, d)) : Rep K M1 v d := by
  unfold Res at r; rw [if_neg (by simp)] at r; exact r
end
end L2.Eng
namespace L2.Eng
open PySem PySem.Spec PyProof.Rows
section
variable {K : PySem.W.Frag} {e e0 e1 e2 : Env} {σ σ0 σ1 : St} {M M0 M1 H H0 H1 : Hp}
theorem own_ne {i j : Nat} {a : Addr} {b : Option B} (h : OwnAt (setB e i b) σ j a) (hj : j ≠ i) : ∃ x, getB e j = some x ∧ x.own = true ∧ σ[j]? = some (some (.ref a)) := by
  obtain ⟨x, h1, h2, h3⟩ := h
  rw [getB_setB_ne hj] at h1
  exact ⟨x, h1, h2, h3⟩
/-- a name is given a value -/
theorem Vd.put (D0 : Vd K M e σ H) {i : Nat} {v : V} {b : B} (hb : Bnd K M H v b) (hn : b.own = true → ∀ a, v = .ref a → ¬ Owns e σ a) (hi : i < e.length) : Vd K M (setB e i (some b)) (σ.set i (some v)) H := by
  have hiσ : i < σ.length := by rw [← D0.len]; exact hi
  have at_ : ∀ j a, OwnAt (setB e i (some b)) (σ.set i (some v)) j a → (j = i ∧ b.own = true ∧ v = .ref a) ∨ (j ≠ i ∧ OwnAt e σ j a) := fun j a h => by
    by_cases hj : j = i
    · subst hj
      obtain ⟨x, h1, h2, h3⟩ := h
      rw [getB_setB_same hi] at h1
      cases h1
      rw [List.getElem?_set_self hiσ] at h3
      injection h3 with h3
      injection h3 with h3
      exact .inl ⟨rfl, h2, h3⟩
    · obtain ⟨x, h1, h2, h3⟩ := own_ne h hj
      rw [List.getElem?_set_ne (Ne.symm hj)] at h3
      exact .inr ⟨hj, x, h1, h2, h3⟩
  refine ⟨D0.same, by rw [setB_length, List.length_set]; exact D0.len, fun j x hx => ?_, fun j k a hj hk => ?_⟩
  · by_cases hj : j = i
    · subst hj
      rw [getB_setB_same hi] at hx
      cases hx
      exact ⟨v, by rw [List.getElem?_set_self hiσ], hb⟩
    · rw [getB_setB_ne hj] at hx
      rw [List.getElem?_set_ne (Ne.symm hj)]
      exact D0.slot j x hx
  · rcases at_ j a hj with ⟨rfl, h1, h2⟩ | ⟨h1, h2⟩
    · rcases at_ k a hk with ⟨rfl, _, _⟩ | ⟨h4, h5⟩
      · rfl
      · exact absurd ⟨k, h5⟩ (hn h1 a h2)
    · rcases at_ k a hk with ⟨rfl, h4, h5⟩ | ⟨h4, h5⟩
      · exact absurd ⟨j, h2⟩ (hn h4 a h5)
      · exact D0.inj j k a h2 h5
theorem Stp.put (s : Stp e0 σ0 M0 H0 e σ M H) {i : Nat} {v : V} {b : B} (hb : b.own = true → ∀ a, v = .ref a → Owns e0 σ0 a ∨ H0 a = none) (hio : ∀ d, b ≠ .io d) (hi : i < e.length) (hl : e.length = σ.length) :
    Stp e0 σ0 M0 H0 (setB e i (some b)) (σ.set i (some v)) M H := by
  have hiσ : i < σ.length := by rw [← hl]; exact hi
  refine ⟨s.same, s.keep, s.new, fun a ⟨j, h⟩ => ?_, s.there, fun j d hj => ?_⟩
  · by_cases hj : j = i
    · subst hj
      obtain ⟨x, h1, h2, h3⟩ := h
      rw [getB_setB_same hi] at h1
      cases h1
      rw [List.getElem?_set_self hiσ] at h3
      injection h3 with h3
      injection h3 with h3
      exact hb h2 a h3
    · obtain ⟨x, h1, h2, h3⟩ := own_ne h hj
      rw [List.getElem?_set_ne (Ne.symm hj)] at h3
      exact s.own a ⟨j, x, h1, h2, h3⟩
  · by_cases hji : j = i
    · subst hji
      rw [getB_setB_same hi] at hj
      cases hj
      exact absurd rfl (hio d)
    · rw [getB_setB_ne hji] at hj
      rw [List.getElem?_set_ne (Ne.symm hji)]
      exact s.io j d hj
/-- an own thing is changed -/
theorem Vd.change (D0 : Vd K M e σ H) {i : Nat} {b b' : B} {a : Addr} {o : HO} (hg : getB e i = some b) (ho : b.own = true) (ha : σ[i]? = some (some (.ref a))) (hk : b'.own = true) (hn : Own K M (upd H a o) a b'.dat) :
    Vd K M (setB e i (some b')) σ (upd H a o) := by
  have hi := getB_lt hg
  have hM : M a = none := (D0.owns ⟨i, b, hg, ho, ha⟩).1
  have at_ : ∀ j c, OwnAt (setB e i (some b')) σ j c → OwnAt e σ j c := fun j c h => by
    by_cases hj : j = i
    · subst hj
      obtain ⟨x, h1, h2, h3⟩ := h
      exact ⟨b, hg, ho, h3⟩
    · exact own_ne h hj
  refine ⟨fun c u q => ?_, by rw [setB_length]; exact D0.len, fun j x hx => ?_, fun j k c hj hk => D0.inj j k c (at_ j c hj) (at_ k c hk)⟩
  · rw [upd_ne (fun z => by rw [z, hM] at q; cases q)]
    exact D0.same c u q
  · by_cases hj : j = i
    · subst hj
      rw [getB_setB_same hi] at hx
      cases hx
      refine ⟨_, ha, ?_⟩
      cases b' with
      | sh d => cases hk
      | ow d => exact ⟨a, rfl, hn⟩
      | io d => exact ⟨a, rfl, hn⟩
    · rw [getB_setB_ne hj] at hx
      obtain ⟨v, h1, h2⟩ := D0.slot j x hx
      refine ⟨v, h1, h2.mono (Same.refl M) fun c ec ow => ?_⟩
      subst ec
      refine ⟨(D0.owns ⟨j, x, hx, ow, h1⟩).1, upd_ne fun z => hj (D0.inj j i c ⟨x, hx, ow, h1⟩ ⟨b, hg, ho, z ▸ ha⟩)⟩
theorem Stp.change {i : Nat} {b b' : B} {a : Addr} {o : HO} (hg : getB e i = some b) (ho : b.own = true) (ha : σ[i]? = some (some (.ref a))) (hio : ∀ d, b' = .io d → ∃ d0, b = .io d0) (hx : ∃ u, H a = some u) :
    Stp e σ M H (setB e i (some b')) σ M (upd H a o) := by
  have hi := getB_lt hg
  refine ⟨Same.refl M, fun c u q n => ?_, fun c u q n => (by rw [n] at q; cases q), fun c ⟨j, h⟩ => .inl ?_, fun c u q => ?_, fun j d hj => ⟨?_, rfl⟩⟩
  · rw [upd_ne (fun z => n (by rw [z]; exact ⟨i, b, hg, ho, ha⟩))]
    exact q
  · by_cases hj : j = i
    · subst hj
      obtain ⟨x, h1, h2, h3⟩ := h
      exact ⟨j, b, hg, ho, h3⟩
    · exact ⟨j, own_ne h hj⟩
  · by_cases hc : c = a
    · subst hc; exact ⟨o, upd_same⟩
    · exact ⟨u, by rw [upd_ne hc]; exact q⟩
  · by_cases hji : j = i
    · subst hji
      rw [getB_setB_same hi] at hj
      cases hj
      obtain ⟨d0, rfl⟩ := hio d rfl
      exact ⟨d0, hg⟩
    · rw [getB_setB_ne hji] at hj
      exact ⟨d, hj⟩
/-- a thing that nobody has and that does not stand still is changed -/
theorem Vd.tmp (D0 : Vd K M e σ H) {a : Addr} {o : HO} (hM : M a = none) (hn : ¬ Owns e σ a) : Vd K M e σ (upd H a o) := by
  refine ⟨fun c u q => ?_, D0.len, fun j x hx => ?_, D0.inj⟩
  · rw [upd_ne (fun z => by rw [z, hM] at q; cases q)]
    exact D0.same c u q
  · obtain ⟨v, h1, h2⟩ := D0.slot j x hx
    refine ⟨v, h1, h2.mono (Same.refl M) fun c ec ow => ?_⟩
    subst ec
    exact ⟨(D0.owns ⟨j, x, hx, ow, h1⟩).1, upd_ne fun z => hn (by rw [← z]; exact ⟨j, x, hx, ow, h1⟩)⟩
theorem Stp.tmp (s : Stp e0 σ0 M0 H0 e σ M H) {a : Addr} {o : HO} (h0 : H0 a = none) : Stp e0 σ0 M0 H0 e σ M (upd H a o) := by
  refine ⟨s.same, fun c u q n => ?_, s.new, s.own, fun c u q => ?_, s.io⟩
  · rw [upd_ne (fun z => by rw [z, h0] at q; cases q)]
    exact s.keep c u q n
  · rw [upd_ne (fun z => by rw [z, h0] at q; cases q)]
    exact s.there c u q
/-! ### targets -/
theorem asgN_ok : ∀ {is : List Nat} {ds : List D} {e e' : Env} {σ : St} {vs : List V}, Vd K M e σ H → Stp e0 σ0 M0 H0 e σ M H → Reps K M vs ds → (∀ i ∈ is, i < e.length) → asgN is ds e = some e' →
    vs.length = is.length ∧ ∃ σ', σ' = (is.zip vs).foldl (fun s p => s.set p.1 (some p.2)) σ ∧ Vd K M e' σ' H ∧ Stp e0 σ0 M0 H0 e' σ' M H ∧ ∀ j, j ∉ is → σ'[j]? = σ[j]?
  | [], [], e, e', σ, vs, D0, S0, r, hl, h => by
    cases r
    simp only [asgN] at h
    cases h
    exact ⟨rfl, σ, rfl, D0, S0, fun _ _ => rfl⟩
  | i :: is, d :: ds, e, e', σ, vs, D0, S0, r, hl, h => by
    cases r with
    | @cons v vs _ _ r1 r2 =>
      simp only [asgN] at h
      have hi : i < e.length := hl i (by simp)
      have D1 := D0.put (b := .sh d) r1 (fun z => by cases z) hi
      have S1 := S0.put (v := v) (b := .sh d) (fun z => by cases z) (fun _ z => by cases z) hi D0.len
      obtain ⟨h1, σ', h2, h3, h4, h5⟩ := asgN_ok D1 S1 r2 (fun j hj => by rw [setB_length]; exact hl j (by simp [hj])) h
      refine ⟨by simp [h1], σ', h2, h3, h4, fun j hj => ?_⟩
      simp only [List.mem_cons, not_or] at hj
      rw [h5 j hj.2, List.getElem?_set_ne (Ne.symm hj.1)]
  | [], _ :: _, _, _, _, _, _, _, _, _, h => by simp [asgN] at h
  | _ :: _, [], _, _, _, _, _, _, _, _, h => by simp [asgN] at h
/-- a target's reading -/
def tG (K : PySem.W.Frag) (t : Tg) : TG := fun v σ H Q => ∃ (M0 : Hp) (e0 : Env) (σ0 : St) (H0 M : Hp) (e : Env) (r : Bool × D) (e' : Env), Vd K M e σ H ∧ Stp e0 σ0 M0 H0 e σ M H ∧ Res K e σ H0 M H v r ∧ asgT t r.1 r.2 e = some e' ∧
  ∀ σ', Vd K M e' σ' H → Stp e0 σ0 M0 H0 e' σ' M H → (∀ j, j ∉ t.slots → σ'[j]? = σ[j]?) → Q σ' H
end
section
variable {T : List Fn} {P : Nat → List B → CA} {Γ : Gam} {X : Cx}
theorem CGs.lt {es : List Expr} {is : List Nat} (h : CGs Γ es is) : ∀ i ∈ is, i < Γ.N.length := by
  induction h with
  | nil => simp
  | cons h1 _ _ ih =>
    intro i hi
    rcases List.mem_cons.mp hi with rfl | hi
    · exact (List.getElem?_eq_some_iff.mp h1).1
    · exact ih i hi
theorem CGs.stores {es : List Expr} {is : List Nat} (h : CGs Γ es is) (env : PySem.Env) : (assignEach es env).length = is.length ∧ (assignEach es env).findIdx? (·.1) = none := by
  induction h with
  | nil => exact ⟨rfl, rfl⟩
  | @cons x pos i es is h1 h2 h3 ih =>
    have e1 : assignEach (.Name x pos :: es) env = (false, assign (.Name x pos) env) :: assignEach es env := by rfl
    rw [e1, List.length_cons, List.length_cons, ih.1, List.findIdx?_cons, ih.2]
    exact ⟨rfl, rfl⟩
/-- the names one after another -/
def gNs : List Nat → TGs
  | [] => gNil
  | i :: is => gCons (gName i) (gNs is)
theorem pgs_names (C : Cok T P Γ X) {es : List Expr} {is : List Nat} (h : CGs Γ es is) : PGs X es (gNs is) := by
  induction h with
  | nil => exact pgs_nil
  | cons h1 h2 h3 ih =>
    obtain ⟨l1, l2⟩ := locB_loc C h2
    exact pgs_cons (pg_name (by rw [C.N]; exact C.nd) (by rw [C.N]; exact h1) l1 l2) ih
theorem gNs_run : ∀ {is : List Nat} {vs : List V} {σ : St} {H : Hp} {Q : St → Hp → Prop}, vs.length = is.length → Q ((is.zip vs).foldl (fun s p => s.set p.1 (some p.2)) σ) H → gNs is vs σ H Q
  | [], [], _, _, _, _, q => ⟨rfl, q⟩
  | [], _ :: _, _, _, _, h, _ => by simp at h
  | _ :: _, [], _, _, _, h, _ => by simp at h
  | i :: is, v :: vs, σ, H, Q, h, q => ⟨v, vs, rfl, gNs_run (is := is) (vs := vs) (by simpa using h) q⟩
theorem pg_tg (C : Cok T P Γ X) {e : Expr} {t : Tg} (h : CG Γ e t) : PG X e (tG X.K t) := by
  cases h with
  | @nm x pos i h1 h2 =>
    obtain ⟨l1, l2⟩ := locB_loc C h2
    have p : PG X (.Name x pos) (gName i) := pg_name (by rw [C.N]; exact C.nd) (by rw [C.N]; exact h1) l1 l2
    refine ⟨fun pins s σ H v u Q I r hq => p.run pins s σ H v u Q I r ?_⟩
    obtain ⟨M0, e0, σ0, H0, M, e, ⟨fr, d⟩, e', D0, S0, rs, ha, q⟩ := hq
    simp only [asgT] at ha
    cases ha
    have hi : i < e.length := by
      have := I.len
      rw [D0.len, this, C.N]
      exact (List.getElem?_eq_some_iff.mp h1).1
    cases fr with
    | false =>
      have rs := Res.rep rs
      exact q _ (D0.put (b := .sh d) rs (fun z => by cases z) hi) (S0.put (b := .sh d) (fun z => by cases z) (fun _ z => by cases z) hi D0.len) (fun j hj => by
        rw [List.getElem?_set_ne]; intro z; exact hj (by simp [Tg.slots, z]))
    | true =>
      obtain ⟨a, rfl, h3, h4, h5⟩ : ∃ a, v = .ref a ∧ H0 a = none ∧ ¬ Owns e σ a ∧ Own X.K M H a d := rs
      exact q _ (D0.put (b := .ow d) ⟨a, rfl, h5⟩ (fun _ c ec => by cases ec; exact h4) hi) (S0.put (b := .ow d) (fun _ c ec => by cases ec; exact .inr h3) (fun _ z => by cases z) hi D0.len) (fun j hj => by
        rw [List.getElem?_set_ne]; intro z; exact hj (by simp [Tg.slots, z]))
  | @tp es k pos is h =>
    obtain ⟨s1, s2⟩ := h.stores X.env
    have p := pg_tup (pos := pos) (k := k) C.calm (pgs_names C h) s1 s2
    refine ⟨fun pins s σ H v u Q I r hq => p.run pins s σ H v u Q I r ?_⟩
    obtain ⟨M0, e0, σ0, H0, M, e, ⟨fr, d⟩, e', D0, S0, rs, ha, q⟩ := hq
    simp only [asgT] at ha
    split at ha
    · rename_i ds
      have rp : Rep X.K M v (.tup ds) := by
        cases fr with
        | false => exact Res.rep rs
        | true =>
          obtain ⟨a, _, _, _, h5⟩ : ∃ a, v = .ref a ∧ H0 a = none ∧ ¬ Owns e σ a ∧ Own X.K M H a (.tup ds) := rs
          cases h5
      cases rp with
      | @tup a vs _ ea ra =>
        have hl : ∀ i ∈ is, i < e.length := fun i hi => by
          have := I.len
          rw [D0.len, this, C.N]
          exact h.lt i hi
        obtain ⟨h1, σ', h2, h3, h4, h5⟩ := asgN_ok D0 S0 ra hl ha
        refine ⟨a, vs, rfl, SqT.of (D0.same _ _ ea), h1, gNs_run h1 ?_⟩
        subst h2
        exact q _ h3 h4 h5
    · cases ha
end
end L2.Eng
namespace PySem
open Sem (wp)
open AutoSeq1 (wpAny_loadPart')
theorem meets_enumerate_newTu (l : Addr) (items : Array Value) (n : Nat) (dct : Option Addr) (sl : Array (Option Value)) :
    Meets (Builtin.«enumerate.__new__» ⟨[.type "enumerate", .ref l], []⟩) (fun _ R s => s.heap.get? l = some { cls := .type "tuple", dict := dct, data := .seq items n, slots := sl } ∧
      R (.ok (.ret (.ref (s.heap.push { cls := .type "tuple_iterator", data := .fields #[.ref l, .int 0 0] }).objs.size)))
        { s with heap := (s.heap.push { cls := .type "tuple_iterator", data := .fields #[.ref l, .int 0 0] }).push { cls := .type "enumerate", data := .fields #[.none, .bool false, .ref s.heap.objs.size, rawInt 0, .none, .none] } }) :=
  .of_wp fun prog w A R s h => by
    obtain ⟨hp, g, d, tk, os⟩ := s; obtain ⟨hl, h⟩ := h
    have hsub := sub_enumerate
    have hL : Heap.IsTuple (Shared.heap ⟨hp, g, d, tk, os⟩) l items := ⟨_, hl, rfl, n, rfl⟩
    wp_walk using wpAny_loadPart' hl
    refine wpAny_stack_any fun st => wpAny_pure ?_
    split
    · rename_i c _ _ _ _ _
      cases (c == Value.type "enumerate")
      · wp_walk using wpAny_loadPart' hl, wpAny_pyIter_tuple hL
        exact ⟨_, rfl, h⟩
      · wp_walk using wpAny_loadPart' hl, wpAny_pyIter_tuple hL
        exact ⟨_, rfl, h⟩
    · wp_walk using wpAny_loadPart' hl, wpAny_pyIter_tuple hL
      exact ⟨_, rfl, h⟩
theorem call_enumerate_tu {prog : Program} {w : World} {A : Around} {E : Value → Shared → Prop} {s : Shared} {l : Addr} {items : Array Value} {Q : Value → Shared → Prop} (hL : s.heap.IsTuple l items)
    (h : ∀ h', IsEnum h' (s.heap.objs.size + 1) s.heap.objs.size 0 .none → h'.IsTupleIter s.heap.objs.size l 0 → h'.objs.size = s.heap.objs.size + 2 →
      (∀ b o, s.heap.get? b = some o → h'.get? b = some o) → Q (.ref (s.heap.objs.size + 1)) { s with heap := h' }) :
    wpAny (model prog w) A (call (.type "enumerate") [.ref l]) Q E s := by
  obtain ⟨⟨c, dct, dt, sl⟩, hl, hc, n, hd⟩ := hL
  replace hc : c = .type "tuple" := hc
  replace hd : dt = .seq items n := hd
  subst hc hd
  refine callType_new F.called_enumerate (by decide) (F.typeCall_enumerate_1 _) (F.newCall_enumerate_1 _) (fun obj => F.args_object_init_2 obj _) F.entry_enumerate_new
    (meets_enumerate_newTu l items n dct sl) ⟨hl, ?_⟩
  have hz : (s.heap.push { cls := .type "tuple_iterator", data := .fields #[.ref l, .int 0 0] }).objs.size = s.heap.objs.size + 1 := Heap.size_push ..
  show _ ∧ _
  rw [hz]
  have he : IsEnum ((s.heap.push { cls := .type "tuple_iterator", data := .fields #[.ref l, .int 0 0] }).push
      { cls := .type "enumerate", data := .fields #[.none, .bool false, .ref s.heap.objs.size, rawInt 0, .none, .none] }) (s.heap.objs.size + 1) s.heap.objs.size 0 .none := by
    have := Heap.get?_push_size (s.heap.push { cls := .type "tuple_iterator", data := .fields #[.ref l, .int 0 0] })
      (o := { cls := .type "enumerate", data := .fields #[.none, .bool false, .ref s.heap.objs.size, rawInt 0, .none, .none] }) rfl
    rw [hz] at this; exact this
  refine ⟨⟨_, he, rfl⟩, h _ he ⟨_, Heap.get?_push_of_some _ (Heap.get?_push_size _ rfl), rfl, rfl⟩ (by rw [Heap.size_push, hz]) fun b o x => Heap.get?_push_of_some _ (Heap.get?_push_of_some _ x)⟩
theorem wpAny_pyNext_tu_end {prog : Program} {w : World} {A : Around} {E : Value → Shared → Prop} {s : Shared} {e it l : Addr} {i : Nat} {items : Array Value} {old : Value} {Q : Option Value → Shared → Prop} (hh : A.handled = none)
    (he : IsEnum s.heap e it i old) (hit : s.heap.IsTupleIter it l i) (hl : s.heap.IsTuple l items) (hx : items[i]? = none)
    (hQ : ∀ h', Heap.ExtBut it s.heap h' → Q none { s with heap := h' }) : wpAny (model prog w) A (pyNext (.ref e)) Q E s := by
  have hT : s.TypeIs (.ref e) "enumerate" := ⟨_, he, rfl⟩
  unfold pyNext
  refine wpAny_bind (wpAny_attempt (wpAny_callSpecial?_slot (name := Str.ofString "__next__") hT F.slot_enumerate_next
    (wpAny_call_entry F.slot_enumerate_next hT F.entry_enumerate_next ?_ (F.args_enumerate_next_1 _))))
  show wpAny _ _ (field (.ref e) 2 >>= _) _ _ _
  refine wpAny_bind (wpAny_field he rfl (x := .ref it) rfl ?_)
  refine wpAny_bind (wpAny_nextOf_tuple_end hh hit hl hx fun h' x he' hx' => ?_)
  obtain ⟨o, ho, hc⟩ := hx'
  refine wpAny_bind (wpAny_isInstance (T := "StopIteration") (b := true) ⟨o, ho, hc⟩ isSubtype_stop ?_)
  exact wpAny_pure (hQ _ he')
end PySem
namespace L2.Eng
open PySem PySem.Spec PyProof.Rows
/-! ## enumerate(tuple) -/
def Iet (K : PySem.W.Frag) (a : Addr) : L2.It :=
  ⟨fun i H => ∃ (xs : List V) (x : V), SqT K H a xs ∧ xs[i]? = some x, fun i H v H' => ∃ T x, v = .ref T ∧ H T = none ∧ H' = upd H T (.tup [.int (i : Nat), x]) ∧ ∀ xs, SqT K H a xs → xs[i]? = some x, fun i H => ∃ xs : List V, SqT K H a xs ∧ xs.length ≤ i⟩
theorem turn_enumT {P : Program} {w : World} {K : PySem.W.Frag} {elts : List Expr} {kk : Nat} {tpos : Pos} (a e it : Addr) (hai : a ≠ it) (hea : e ≠ a) :
    Turn P w K (.Tuple elts kk tpos) (Iet K a) [e, it] e (fun i h => (∃ old, IsEnum h e it ((i : Nat) : Int) old) ∧ h.IsTupleIter it a i ∧ e ≠ it) where
  mem := by simp
  obj := fun i h st b hb => by
    obtain ⟨⟨old, he⟩, ⟨o, ho, hc, hd⟩, _⟩ := st
    have e' : b = e ∨ b = it := by simpa using hb
    rcases e' with z | z
    · rw [z]; exact ⟨_, he, fun v q => nomatch q⟩
    · rw [z]; exact ⟨o, ho, fun v q => by rw [hd] at q; cases q⟩
  keep := fun i h h' st k => let ⟨⟨old, he⟩, hi, hne⟩ := st; ⟨⟨old, k e (by simp) _ he⟩, hi.at fun o q => k it (by simp) o q, hne⟩
  item := by
    intro X hP hw hK hc i pins s σ H E I hf st hg
    subst hP hw hK
    obtain ⟨⟨old, he⟩, hit, hne⟩ := st
    obtain ⟨xs, x, hq, hx⟩ := hg
    obtain ⟨its, rv, p, hz⟩ := I.tuple hq
    obtain ⟨u, hu, ru⟩ := rv.get hx
    have hel : e < s.heap.objs.size := Heap.lt_size he
    have hil : it < s.heap.objs.size := by obtain ⟨_, q, _⟩ := hit; exact Heap.lt_size q
    have hlt : i < its.toArray.size := by
      have := (List.getElem?_eq_some_iff.mp hu).1
      simpa using this
    have D := Draws.tuple (prog := X.prog) (w := X.w) (A := X.A.in1) (I.ok.hd hc) it a hai its.toArray
    refine wpAny_pyNext_enum_itemD D he ⟨hit, p⟩ hlt hne (by simp [hne, hea]) fun x' h' tk hx' ho hst hT hsz hk => ?_
    have ex : x' = u := by
      have : its.toArray[i]? = some u := by simpa using hu
      rw [this] at hx'
      exact (Option.some.inj hx').symm
    subst ex
    refine ⟨_, rfl, wpAny_letOwnedTupleGo_enum (s := { s with heap := h', toks := tk + 1 }) ho fun h'' he' sb => ?_⟩
    have hT2 : h''.get? s.heap.objs.size = some { cls := .type "tuple", data := .seq #[.int i tk, x'] } := (sb.2 _ (Nat.ne_of_gt hel)).trans hT
    have new : ObjOk X.prog X.w (upd H s.heap.objs.size (.tup [.int (i : Nat), x])) h'' s.heap.objs.size (.tup [.int (i : Nat), x]) :=
      ⟨by show 2 ≤ sizeLine; decide, [.int i tk, x'], .cons ⟨_, rfl⟩ (.cons ru .nil), ⟨_, hT2, rfl, _, rfl⟩⟩
    have I1 : Inv X pins σ (upd H s.heap.objs.size (.tup [.int (i : Nat), x])) { s with heap := h'', toks := tk + 1 } :=
      I.turnedNew (ch := [e, it]) (fun b ob hb q => (sb.2 b (fun z => hb (by simp [z]))).trans (hk b ob (fun z => hb (by simp [z])) (fun z => hb (by simp [z])) q)) hf (Nat.le_refl _) new
    refine ⟨.ref s.heap.objs.size, _, I1, rfl, ⟨_, x, rfl, I.hok.fresh (Nat.le_refl _), rfl, fun ys hy => by rw [I.tuple_inj hy hq]; exact hx⟩, ⟨⟨x', ?_⟩, hst.1.at fun o q => (sb.2 it (Ne.symm hne)).trans q, hne⟩, fun b hb => ?_⟩
    · have e1 : ((i + 1 : Nat) : Int) = (i : Int) + 1 := by omega
      rw [e1]; exact he'
    · have hb' : b < s.heap.objs.size := by
        have e' : b = e ∨ b = it := by simpa using hb
        rcases e' with z | z
        · rw [z]; exact hel
        · rw [z]; exact hil
      rw [upd_ne (Nat.ne_of_lt hb')]
      exact (hf b hb).1
  done := by
    intro X hP hw hK hc i pins s σ H E I hf st hg
    subst hP hw hK
    obtain ⟨⟨old, he⟩, hit, hne⟩ := st
    obtain ⟨xs, hq, hx⟩ := hg
    obtain ⟨its, rv, p, hz⟩ := I.tuple hq
    obtain ⟨f0, f1, f2, f3, f4, f5⟩ := hf it (by simp)
    have hl := rv.length
    refine wpAny_pyNext_tu_end (I.ok.hd hc) he hit p (by simp; omega) fun h' eb => ⟨rfl, I.turned (t' := s.toks) (fun b o hb q => eb b o hb q) f0 f1 f3 f4 f5⟩
  self := fun A i s Q E st h => let ⟨⟨_, he⟩, _⟩ := st; wpAny_pyIter_enum he h
def iEnumT (K : PySem.W.Frag) (ta : TA) : TI := fun σ H R => ta σ H fun vs H1 => ∃ a xs, vs = [.ref a] ∧ ((SqL K H1 a xs ∧ R (Ite K a) H1) ∨ (SqT K H1 a xs ∧ R (Iet K a) H1))
theorem pi_enumT {X : Cx} {e : Expr} {ta : TA} {p pos tpos : Pos} {elts : List Expr} {kk : Nat} (hg : Gl X "enumerate") (hm : X.mg "enumerate" = none) (ha : PA X [e] ta) (hs : starEach [e] X.env = [(false, eval e X.env)]) :
    PI X (.Tuple elts kk tpos) (.Call (.Name "enumerate" p) [e] [] pos) (iEnumT X.K ta) := by
  refine ⟨fun pins s σ H R I h => ?_⟩
  refine Call_ (ld_blt I hg hm boot_enumerate (PyProof.Rows.callWith_type1 (thn (ha.run pos pins s σ H _ I h) fun us s1 ⟨vs, H1, I1, r1, q1⟩ => ?_) hs rfl))
  obtain ⟨a, xs, ex, q1⟩ := q1
  subst ex
  cases r1 with
  | cons r rr =>
    cases rr
    cases r
    have fp : ∀ b ∈ [s1.heap.objs.size + 1, s1.heap.objs.size], FpOk X pins H1 b := fun b hb => by
      have e' : b = s1.heap.objs.size + 1 ∨ b = s1.heap.objs.size := by simpa using hb
      have hle : s1.heap.objs.size ≤ b := by
        rcases e' with z | z
        · rw [z]; exact Nat.le_add_right _ _
        · rw [z]; exact Nat.le_refl _
      exact I1.fpOk hle (I1.hok.fresh hle)
    rcases q1 with ⟨hq, q⟩ | ⟨hq, q⟩
    · obtain ⟨its, rv, p', hz⟩ := I1.list hq
      refine call_enumerate_list p'.isList fun h' he hit hsz hk => wpAny_pyIter_enum he ?_
      have I2 : Inv X pins σ H1 { s1 with heap := h' } := I1.kept (t' := s1.toks) hk
      exact ⟨s1.heap.objs.size + 1, [s1.heap.objs.size + 1, s1.heap.objs.size], _, _, H1, rfl, I2, turn_enum a (s1.heap.objs.size + 1) s1.heap.objs.size, ⟨⟨.none, he⟩, hit, Nat.succ_ne_self _⟩, fp, q⟩
    · obtain ⟨its, rv, p', hz⟩ := I1.tuple hq
      obtain ⟨o, ho, _⟩ := id p'
      have hl : a < s1.heap.objs.size := Heap.lt_size ho
      refine call_enumerate_tu p' fun h' he hit hsz hk => wpAny_pyIter_enum he ?_
      have I2 : Inv X pins σ H1 { s1 with heap := h' } := I1.kept (t' := s1.toks) hk
      exact ⟨s1.heap.objs.size + 1, [s1.heap.objs.size + 1, s1.heap.objs.size], _, _, H1, rfl, I2, turn_enumT a (s1.heap.objs.size + 1) s1.heap.objs.size (Nat.ne_of_lt hl) (Nat.ne_of_gt (Nat.lt_succ_of_lt hl)), ⟨⟨.none, he⟩, hit, Nat.succ_ne_self _⟩, fp, q⟩
theorem walk_enumT {K : PySem.W.Frag} {a : Addr} {xs : List V} : Walk (Iet K a) xs.length (fun H => SqT K H a xs) (YPair (fun i => some (.int (i : Nat))) (fun i => xs[i]?)) := by
  refine ⟨fun i _ hi q => ⟨xs, xs[i], q, by simp [hi]⟩, fun _ q => ⟨xs, q, Nat.le_refl _⟩, fun i H v H' _ q y => ?_⟩
  obtain ⟨T, x, h1, h2, h3, h4⟩ := y
  exact ⟨T, .int (i : Nat), x, h1, h2, h3, rfl, h4 xs q⟩
end L2.Eng
namespace L2.Eng
open PySem PySem.Spec PyProof.Rows
/-! ## what is walked -/
/-- the i-th of what is walked is the i-th of ds -/
def YD (K : PySem.W.Frag) (M0 : Hp) (ds : List D) : Nat → Hp → V → Hp → Prop := fun i H x H' => ∃ d, ds[i]? = some d ∧ ∀ M, Same M0 M → Same M H → ∃ M1, Pur M H M1 H' ∧ Rep K M1 x d
def tI (K : PySem.W.Frag) (f : Env → Ans (List D)) : TI := fun σ H R => ∃ M e, Vd K M e σ H ∧ (f e).wp fun ds e' => ∀ J M' H', Vd K M' e' σ H' → Stp e σ M H e' σ M' H' → Walk J ds.length (fun H => Same M' H) (YD K M' ds) → R J H'
theorem _root_.L2.PI.or {X : Cx} {tg iter : Expr} {w1 w2 : TI} (h1 : PI X tg iter w1) (h2 : PI X tg iter w2) : PI X tg iter (fun σ H R => w1 σ H R ∨ w2 σ H R) :=
  ⟨fun pins s σ H R I h => h.elim (h1.run pins s σ H R I) (h2.run pins s σ H R I)⟩
theorem _root_.L2.PI.imp {X : Cx} {tg iter : Expr} {w1 w2 : TI} (h1 : PI X tg iter w1) (h : ∀ σ H R, w2 σ H R → w1 σ H R) : PI X tg iter w2 :=
  ⟨fun pins s σ H R I q => h1.run pins s σ H R I (h σ H R q)⟩
section
variable {K : PySem.W.Frag} {M : Hp} {a : Addr} {vs : List V} {ds : List D}
theorem wk_seq {J : L2.It} {n : Nat} (r : Reps K M vs ds) {G : Hp → Prop} (w : Walk J vs.length G (YAt vs)) (hG : ∀ H, Same M H → G H) : Walk J ds.length (fun H => Same M H) (YD K M ds) := by
  rw [← r.length]
  refine w.mono hG fun i H x H' _ _ y => ?_
  obtain ⟨e, y⟩ := y
  subst e
  obtain ⟨d, h1, h2⟩ := r.getV y
  exact ⟨d, h1, fun M1 s1 s2 => ⟨M1, Pur.refl s2, h2.mono s1⟩⟩
theorem wk_rng {lo : Int} {n : Nat} : Walk (Itr lo n) (rangeD lo n).length (fun H => Same M H) (YD K M (rangeD lo n)) := by
  have hl : (rangeD lo n).length = n := by simp [rangeD]
  rw [hl]
  refine walk_range.mono (fun _ _ => trivial) fun i H x H' hi _ y => ?_
  obtain ⟨e, y⟩ := y
  subst e; subst y
  refine ⟨.int (lo + i), ?_, fun M1 s1 s2 => ⟨M1, Pur.refl s2, .int _⟩⟩
  simp [rangeD, hi]
theorem enumD_length : ∀ (ds : List D) (k : Nat), (enumD k ds).length = ds.length
  | [], _ => rfl
  | d :: ds, k => by simp [enumD, enumD_length ds]
theorem enumD_get : ∀ (ds : List D) (k i : Nat), (enumD k ds)[i]? = ds[i]?.map fun d => .tup [.int ((k + i : Nat) : Int), d]
  | [], _, _ => by simp [enumD]
  | d :: ds, k, 0 => by simp [enumD]
  | d :: ds, k, i + 1 => by
    simp only [enumD, List.getElem?_cons_succ]
    rw [enumD_get ds (k + 1) i, show k + 1 + i = k + (i + 1) by omega]
theorem wk_enum {J : L2.It} (r : Reps K M vs ds) {G : Hp → Prop} (w : Walk J vs.length G (YPair (fun i => some (.int (i : Nat))) (fun i => vs[i]?))) (hG : ∀ H, Same M H → G H) :
    Walk J (enumD 0 ds).length (fun H => Same M H) (YD K M (enumD 0 ds)) := by
  rw [enumD_length, ← r.length]
  refine w.mono hG fun i H x H' _ _ y => ?_
  obtain ⟨p, x1, y1, rfl, hp, rfl, h1, h2⟩ := y
  have h1 : x1 = V.int (i : Nat) := (Option.some.inj h1).symm
  subst h1
  obtain ⟨d, h3, h4⟩ := r.getV h2
  refine ⟨.tup [.int (i : Nat), d], by rw [enumD_get, h3]; simp, fun M1 s1 s2 => ?_⟩
  exact ⟨_, Pur.lay s2 hp, .tup upd_same ((Reps.cons (.int _) (.cons (h4.mono s1) .nil)).mono (Pur.lay s2 hp).same)⟩
theorem strItems (z : Str) : (z.cps.toList.map fun c => D.str ⟨#[c]⟩).length = z.cps.size := by simp
theorem wk_str {z : Str} : Walk (Its z) (z.cps.toList.map fun c => D.str ⟨#[c]⟩).length (fun H => Same M H) (YD K M (z.cps.toList.map fun c => D.str ⟨#[c]⟩)) := by
  rw [strItems]
  refine walk_str.mono (fun _ _ => trivial) fun i H x H' hi _ y => ?_
  obtain ⟨e, c, h1, h2⟩ := y
  subst e; subst h2
  refine ⟨.str ⟨#[c]⟩, ?_, fun M1 s1 s2 => ⟨M1, Pur.refl s2, .str _⟩⟩
  rw [List.getElem?_map, Array.getElem?_toList, h1]
  rfl
end
section
variable {T : List Fn} {P : Nat → List B → CA} {Γ : Gam} {X : Cx}
theorem blt_none (C : Cok T P Γ X) {x : Str} (h : bltNames.contains x = true) : X.mg x = none := C.blt x (by simpa using h)
theorem star1 {e : Expr} {x : Ex} (h : CX Γ e x) (env : PySem.Env) : starEach [e] env = [(false, eval e env)] := by
  rw [h.star]; rfl
theorem pa_one {e : Expr} {t : TE} {x : Ex} (h : CX Γ e x) (p : PE X e t) : PA X [e] (tCons t tNil) := pa_cons p pa_nil (h.star [] X.env)
/-- the readings of what is walked -/
theorem pi_seq (C : Cok T P Γ X) {tg e : Expr} {x : Ex} (p : PE X e (tE X.K (ev T P x))) : PI X tg e (tI X.K (evi T P (.seq x))) := by
  have q := pe_set p
  refine (((pi_list q).or (pi_tup q)).or (pi_str q)).imp fun σ H R ⟨M, e, D0, w⟩ => ?_
  simp only [evi] at w
  obtain ⟨r, e1, hr, w1⟩ := Ans.wp_bind w
  obtain ⟨ds, hds, w1⟩ := opt_wp w1
  have start : ∀ {Q : V → Hp → Prop}, (∀ v M' H', Vd X.K M' e1 σ H' → Stp e σ M H e1 σ M' H' → Rep X.K M' v r.2 → Q v H') → tE X.K (fun e => (ev T P x e).bind fun r e1 => .val (false, r.2) e1) σ H Q := fun {Q} hq =>
    ⟨M, e, D0, (false, r.2), e1, by show (ev T P x e).bind _ = _; rw [hr]; rfl, fun v M' H' D1 S1 rs => hq v M' H' D1 S1 (Res.rep rs)⟩
  have seq : ∀ {M' H' : Hp} {J : L2.It} {vs : List V} {G : Hp → Prop}, Vd X.K M' e1 σ H' → Stp e σ M H e1 σ M' H' → Reps X.K M' vs ds → Walk J vs.length G (YAt vs) → (∀ H, Same M' H → G H) → R J H' :=
    fun {M' H' J vs G} D1 S1 r wk hG => w1 J M' H' D1 S1 (wk_seq (n := 0) r wk hG)
  unfold itemsD at hds
  split at hds
  · rename_i hd
    cases hds
    refine .inl (.inl (start fun v M' H' D1 S1 rp => ?_))
    rw [hd] at rp
    cases rp with
    | lst ea ra => exact ⟨_, rfl, ⟨_, SqL.of (D1.same _ _ ea)⟩, seq D1 S1 ra walk_list fun H s => SqL.of (s _ _ ea)⟩
  · rename_i hd
    cases hds
    refine .inl (.inr (start fun v M' H' D1 S1 rp => ?_))
    rw [hd] at rp
    cases rp with
    | tup ea ra => exact ⟨_, rfl, ⟨_, SqT.of (D1.same _ _ ea)⟩, seq D1 S1 ra walk_tup fun H s => SqT.of (s _ _ ea)⟩
  · rename_i hd
    cases hds
    refine .inl (.inl (start fun v M' H' D1 S1 rp => ?_))
    rw [hd] at rp
    cases rp with
    | scr ea ra => exact ⟨_, rfl, ⟨_, D1.same.seq ea⟩, seq D1 S1 ra walk_list fun H s => s.seq ea⟩
  · rename_i hd
    cases hds
    refine .inr (start fun v M' H' D1 S1 rp => ?_)
    rw [hd] at rp
    cases rp
    exact ⟨_, rfl, w1 _ M' H' D1 S1 wk_str⟩
  · cases hds
theorem pi_rng (C : Cok T P Γ X) {tg a : Expr} {p pos : Pos} {x : Ex} (h0 : gloB Γ.sc "range" = true) (h1 : CX Γ a x) (p1 : PE X a (tE X.K (ev T P x))) : PI X tg (.Call (.Name "range" p) [a] [] pos) (tI X.K (evi T P (.rng x))) := by
  refine (pi_range1 (gloB_gl C h0) (blt_none C (by decide +kernel)) (pa_one h1 (pe_set p1)) (star1 h1 _)).imp fun σ H R ⟨M, e, D0, w⟩ => ?_
  simp only [evi] at w
  obtain ⟨r, e1, hr, w1⟩ := Ans.wp_bind w
  split at w1
  · rename_i n hn
    split at w1
    · rename_i hb
      have w1 := val_wp w1
      refine ⟨M, e, D0, (false, r.2), e1, by show (ev T P x e).bind _ = _; rw [hr]; rfl, fun v M' H' D1 S1 rs => ?_⟩
      have rs := Res.rep rs
      rw [hn] at rs
      cases rs
      exact ⟨n, rfl, hb.1, hb.2, w1 _ M' H' D1 S1 wk_rng⟩
    · exact (stuck_wp w1).elim
  · exact (stuck_wp w1).elim
theorem pi_rng2 (C : Cok T P Γ X) {tg a b : Expr} {p pos : Pos} {x y : Ex} (h0 : gloB Γ.sc "range" = true) (h1 : CX Γ a x) (h2 : CX Γ b y) (p1 : PE X a (tE X.K (ev T P x))) (p2 : PE X b (tE X.K (ev T P y))) :
    PI X tg (.Call (.Name "range" p) [a, b] [] pos) (tI X.K (evi T P (.rng2 x y))) := by
  refine (pi_range2 (gloB_gl C h0) (blt_none C (by decide +kernel)) (pa_cons (pe_set p1) (pa_one h2 (pe_set p2)) (h1.star _ _)) (by rw [h1.star, star1 h2]) (star1 h2 _)).imp fun σ H R ⟨M, e, D0, w⟩ => ?_
  simp only [evi] at w
  obtain ⟨r, e1, hr, w1⟩ := Ans.wp_bind w
  obtain ⟨r', e2, hr', w1⟩ := Ans.wp_bind w1
  split at w1
  · rename_i i j hi hj
    split at w1
    · rename_i hb
      have w1 := val_wp w1
      refine ⟨M, e, D0, (false, r.2), e1, by show (ev T P x e).bind _ = _; rw [hr]; rfl, fun v M' H' D1 S1 rs => ?_⟩
      refine ⟨M', e1, D1, (false, r'.2), e2, by show (ev T P y e1).bind _ = _; rw [hr']; rfl, fun v' M'' H'' D2 S2 rs' => ?_⟩
      have rs := Res.rep rs
      have rs' := Res.rep rs'
      rw [hi] at rs
      rw [hj] at rs'
      cases rs
      cases rs'
      exact ⟨i, j, rfl, ⟨hb.1, hb.2.1, hb.2.2.1, hb.2.2.2⟩, w1 _ M'' H'' D2 (S1.trans S2) wk_rng⟩
    · exact (stuck_wp w1).elim
  · exact (stuck_wp w1).elim
theorem pi_enu (C : Cok T P Γ X) {elts : List Expr} {kk : Nat} {tpos : Pos} {a : Expr} {p pos : Pos} {x : Ex} (h0 : gloB Γ.sc "enumerate" = true) (h1 : CX Γ a x) (p1 : PE X a (tE X.K (ev T P x))) :
    PI X (.Tuple elts kk tpos) (.Call (.Name "enumerate" p) [a] [] pos) (tI X.K (evi T P (.enum x))) := by
  refine (pi_enumT (gloB_gl C h0) (blt_none C (by decide +kernel)) (pa_one h1 (pe_set p1)) (star1 h1 _)).imp fun σ H R ⟨M, e, D0, w⟩ => ?_
  simp only [evi] at w
  obtain ⟨r, e1, hr, w1⟩ := Ans.wp_bind w
  obtain ⟨ds, e2, hds, w2⟩ := Ans.wp_bind w1
  have w3 := val_wp w2
  clear w w1 w2
  have hds : seqD r.2 = some ds ∧ e2 = e1 := by
    cases q : seqD r.2 with
    | none => rw [q] at hds; cases hds
    | some z => rw [q] at hds; cases hds; exact ⟨rfl, rfl⟩
  obtain ⟨hds, rfl⟩ := hds
  refine ⟨M, e, D0, (false, r.2), e2, by show (ev T P x e).bind _ = _; rw [hr]; rfl, fun v M' H' D1 S1 rs => ?_⟩
  have rs := Res.rep rs
  unfold seqD at hds
  split at hds
  · rename_i hd
    cases hds
    rw [hd] at rs
    cases rs with
    | lst ea ra => exact ⟨_, _, rfl, .inl ⟨SqL.of (D1.same _ _ ea), w3 _ M' H' D1 S1 (wk_enum ra walk_enum fun H s => SqL.of (s _ _ ea))⟩⟩
  · rename_i hd
    cases hds
    rw [hd] at rs
    cases rs with
    | tup ea ra => exact ⟨_, _, rfl, .inr ⟨SqT.of (D1.same _ _ ea), w3 _ M' H' D1 S1 (wk_enum ra walk_enumT fun H s => SqT.of (s _ _ ea))⟩⟩
  · rename_i hd
    cases hds
    rw [hd] at rs
    cases rs with
    | scr ea ra => exact ⟨_, _, rfl, .inl ⟨D1.same.seq ea, w3 _ M' H' D1 S1 (wk_enum ra walk_enum fun H s => s.seq ea)⟩⟩
  · cases hds
end
end L2.Eng
namespace L2.Eng
open PySem PySem.Spec PyProof.Rows
/-! ## a comprehension's own names -/
theorem getB_wipe : ∀ (own : List Nat) (e : Env) (j : Nat), getB (wipeB own e) j = if j ∈ own then none else getB e j
  | [], e, j => by simp [wipeB]
  | i :: own, e, j => by
    simp only [wipeB]
    by_cases hj : j = i
    · subst hj
      by_cases hl : j < (wipeB own e).length
      · rw [getB_setB_same hl]; simp
      · rw [getB_none_of_le (by rw [setB_length]; omega)]; simp
    · rw [getB_setB_ne hj, getB_wipe own e j]
      simp [hj]
theorem wipeB_length : ∀ (own : List Nat) (e : Env), (wipeB own e).length = e.length
  | [], e => rfl
  | i :: own, e => by simp only [wipeB, setB_length, wipeB_length own e]
theorem backB_length (e0 : Env) : ∀ (own : List Nat) (e : Env), (backB e0 own e).length = e.length
  | [], e => rfl
  | i :: own, e => by simp only [backB, setB_length, backB_length e0 own e]
theorem getB_back (e0 : Env) : ∀ (own : List Nat) (e : Env) (j : Nat), e0.length = e.length → getB (backB e0 own e) j = if j ∈ own then getB e0 j else getB e j
  | [], e, j, _ => by simp [backB]
  | i :: own, e, j, h => by
    simp only [backB]
    by_cases hj : j = i
    · subst hj
      by_cases hl : j < (backB e0 own e).length
      · rw [getB_setB_same hl]; simp
      · rw [getB_none_of_le (by rw [setB_length]; omega), if_pos (by simp), getB_none_of_le (by rw [backB_length] at hl; omega)]
    · rw [getB_setB_ne hj, getB_back e0 own e j h]
      simp [hj]
theorem wipe_get : ∀ (own : List Nat) (σ : St) (j : Nat), j ∉ own → (wipe σ own)[j]? = σ[j]?
  | [], σ, j, _ => rfl
  | i :: own, σ, j, h => by
    simp only [List.mem_cons, not_or] at h
    unfold wipe
    rw [List.getElem?_set_ne (Ne.symm h.1), wipe_get own σ j h.2]
theorem wipe_in : ∀ (own : List Nat) (σ : St) (j : Nat), j ∈ own → (wipe σ own)[j]? = if j < σ.length then some none else none
  | i :: own, σ, j, h => by
    unfold wipe
    by_cases hj : i = j
    · subst hj
      by_cases hl : i < σ.length
      · rw [List.getElem?_set_self (by rw [wipe_length]; exact hl), if_pos hl]
      · rw [List.getElem?_eq_none (by rw [List.length_set, wipe_length]; omega), if_neg hl]
    · rw [List.getElem?_set_ne hj, wipe_in own σ j (by simpa [Ne.symm hj] using h)]
theorem wipe_eq {σ σ2 : St} {own : List Nat} (hl : σ2.length = σ.length) (h : ∀ j, j ∉ own → σ2[j]? = σ[j]?) : wipe σ2 own = wipe σ own := by
  apply List.ext_getElem?
  intro j
  by_cases hj : j ∈ own
  · rw [wipe_in own σ2 j hj, wipe_in own σ j hj, hl]
  · rw [wipe_get own σ2 j hj, wipe_get own σ j hj, h j hj]
theorem still_of : ∀ {own : List Nat} {e : Env} {i : Nat} {b : B}, stillB e own = true → i ∈ own → getB e i = some b → ∃ d, b = .sh d
  | i :: own, e, j, b, h, hj, hb => by
    simp only [stillB, Bool.and_eq_true] at h
    rcases List.mem_cons.mp hj with rfl | hj
    · rw [hb] at h
      cases b with
      | sh d => exact ⟨d, rfl⟩
      | ow d => simp at h
      | io d => simp at h
    · exact still_of h.2 hj hb
theorem still_mk : ∀ {own : List Nat} {e : Env}, (∀ i ∈ own, ∀ b, getB e i = some b → ∃ d, b = .sh d) → stillB e own = true
  | [], _, _ => rfl
  | i :: own, e, h => by
    simp only [stillB, Bool.and_eq_true]
    refine ⟨?_, still_mk fun j hj => h j (by simp [hj])⟩
    cases q : getB e i with
    | none => rfl
    | some b =>
      obtain ⟨d, rfl⟩ := h i (by simp) b q
      rfl
section
variable {K : PySem.W.Frag} {e e1 : Env} {σ σ1 : St} {M M1 H H1 : Hp} {own : List Nat}
theorem owns_wipe (st : stillB e own = true) {a : Addr} : Owns (wipeB own e) (wipe σ own) a ↔ Owns e σ a := by
  constructor
  · rintro ⟨j, b, h1, h2, h3⟩
    rw [getB_wipe] at h1
    split at h1
    · cases h1
    · rename_i hj
      rw [wipe_get own σ j hj] at h3
      exact ⟨j, b, h1, h2, h3⟩
  · rintro ⟨j, b, h1, h2, h3⟩
    have hj : j ∉ own := fun hj => by
      obtain ⟨d, rfl⟩ := still_of st hj h1
      cases h2
    exact ⟨j, b, by rw [getB_wipe, if_neg hj]; exact h1, h2, by rw [wipe_get own σ j hj]; exact h3⟩
theorem Vd.wiped (D0 : Vd K M e σ H) : Vd K M (wipeB own e) (wipe σ own) H := by
  have at_ : ∀ j a, OwnAt (wipeB own e) (wipe σ own) j a → OwnAt e σ j a := fun j a ⟨b, h1, h2, h3⟩ => by
    rw [getB_wipe] at h1
    split at h1
    · cases h1
    · rename_i hj
      rw [wipe_get own σ j hj] at h3
      exact ⟨b, h1, h2, h3⟩
  refine ⟨D0.same, by rw [wipeB_length, wipe_length]; exact D0.len, fun j b hb => ?_, fun i j a hi hj => D0.inj i j a (at_ i a hi) (at_ j a hj)⟩
  rw [getB_wipe] at hb
  split at hb
  · cases hb
  · rename_i hj
    rw [wipe_get own σ j hj]
    exact D0.slot j b hb
/-- behind a turn of the block -/
theorem Vd.backed (D0 : Vd K M e σ H) (D1 : Vd K M1 e1 σ1 H1) (hs : Same M M1) (st : stillB e own = true) (hl : σ1.length = σ.length) (h : ∀ j, j ∉ own → σ1[j]? = σ[j]?) :
    Vd K M1 (backB e own e1) σ H1 ∧ (∀ a, Owns (backB e own e1) σ a → Owns e1 σ1 a) ∧ stillB (backB e own e1) own = true := by
  have le : e.length = e1.length := by rw [D0.len, D1.len, hl]
  have at_ : ∀ j a, OwnAt (backB e own e1) σ j a → OwnAt e1 σ1 j a := fun j a ⟨b, h1, h2, h3⟩ => by
    rw [getB_back e own e1 j le] at h1
    split at h1
    · rename_i hj
      obtain ⟨d, rfl⟩ := still_of st hj h1
      cases h2
    · rename_i hj
      rw [← h j hj] at h3
      exact ⟨b, h1, h2, h3⟩
  refine ⟨⟨D1.same, by rw [backB_length, ← le]; exact D0.len, fun j b hb => ?_, fun i j a hi hj => D1.inj i j a (at_ i a hi) (at_ j a hj)⟩, fun a ⟨j, hj⟩ => ⟨j, at_ j a hj⟩, still_mk fun i hi b hb => ?_⟩
  · rw [getB_back e own e1 j le] at hb
    split at hb
    · rename_i hj
      obtain ⟨d, rfl⟩ := still_of st hj hb
      obtain ⟨v, h1, h2⟩ := D0.slot j _ hb
      exact ⟨v, h1, Rep.mono hs h2⟩
    · rename_i hj
      rw [← h j hj]
      exact D1.slot j b hb
  · rw [getB_back e own e1 i le, if_pos hi] at hb
    exact still_of st hi hb
theorem Stp.backed (D0 : Vd K M e σ H) (D1 : Vd K M1 e1 σ1 H1) (S : Stp (wipeB own e) (wipe σ own) M H e1 σ1 M1 H1) (st : stillB e own = true) (hl : σ1.length = σ.length) (h : ∀ j, j ∉ own → σ1[j]? = σ[j]?) :
    Stp e σ M H (backB e own e1) σ M1 H1 := by
  have le : e.length = e1.length := by rw [D0.len, D1.len, hl]
  obtain ⟨_, ow, _⟩ := D0.backed D1 S.same st hl h
  refine ⟨S.same, fun b o q n => S.keep b o q fun w => n ((owns_wipe st).mp w), fun b o q n => (S.new b o q n).imp id fun w => (owns_wipe st).mp w, fun b w => (S.own b (ow b w)).imp (fun w => (owns_wipe st).mp w) id, S.there, fun j d hj => ⟨?_, rfl⟩⟩
  rw [getB_back e own e1 j le] at hj
  split at hj
  · rename_i hjo
    obtain ⟨d, z⟩ := still_of st hjo hj
    cases z
  · rename_i hjo
    obtain ⟨⟨d0, q⟩, _⟩ := S.io j d hj
    rw [getB_wipe, if_neg hjo] at q
    exact ⟨d0, q⟩
end
section
variable {T : List Fn} {P : Nat → List B → CA} {Γ : Gam} {X : Cx}
theorem Cok.blk (C : Cok T P Γ X) (scope : Scope) (s : Shared) (H : Hp) (A : Addr) (cl : List (Str × Addr)) (fp : List Addr) : Cok T P (Γ.blk scope) (X.blk s H scope (compEnvC scope cl A X.env) fp) where
  N := C.N
  sc := by show relS scope X.env.scope = relS scope Γ.sc; rw [C.sc]
  fn := rfl
  calm := C.calm
  nd := C.nd
  room := C.room
  blt := C.blt
  call := C.call
theorem asgN_length : ∀ {is : List Nat} {ds : List D} {e e' : Env}, asgN is ds e = some e' → e'.length = e.length
  | [], [], e, e', h => by simp only [asgN] at h; cases h; rfl
  | i :: is, d :: ds, e, e', h => by
    simp only [asgN] at h
    rw [asgN_length h, setB_length]
  | [], _ :: _, _, _, h => by simp [asgN] at h
  | _ :: _, [], _, _, h => by simp [asgN] at h
theorem asgT_length {t : Tg} {f : Bool} {d : D} {e e' : Env} (h : asgT t f d e = some e') : e'.length = e.length := by
  cases t with
  | nm i => simp only [asgT] at h; cases h; rw [setB_length]
  | tp is =>
    simp only [asgT] at h
    split at h
    · exact asgN_length h
    · cases h
theorem comp_step {f : D → Env → Ans (Option D)} {d : D} {ds : List D} {e : Env} {rest : List D} {ef : Env} (h : compN f (d :: ds) e = .val rest ef) : ∃ r e1 rest1, f d e = .val r e1 ∧ compN f ds e1 = .val rest1 ef ∧ rest = putO r rest1 := by
  simp only [compN] at h
  cases q : f d e with
  | stuck => rw [q] at h; cases h
  | exc _ _ => rw [q] at h; cases h
  | val r e1 =>
    rw [q] at h
    have h : ((compN f ds e1).bind fun rest e2 => Ans.val (putO r rest) e2) = .val rest ef := h
    cases q2 : compN f ds e1 with
    | stuck => rw [q2] at h; cases h
    | exc _ _ => rw [q2] at h; cases h
    | val rest1 e2 =>
      rw [q2] at h
      have h : Ans.val (putO r rest1) e2 = .val rest ef := h
      injection h with h1 h2
      subst h2
      exact ⟨r, e1, rest1, rfl, q2, h1.symm⟩
theorem lc_imp {K : PySem.W.Frag} {x : Ex} {t : Tg} {it : It} {c : Tt} {vs0 : List Nat} (h6 : t.slots.all vs0.contains = true) {σ : St} {Hs : Hp} {Q : VK} (h : tE K (ev T P (.comp x t it c vs0)) σ Hs Q) :
    tLc (tI K (evi T P it)) (tG K t) (tT K (evt T P c)) (tE K fun e => (ev T P x e).bind fun r e1 => .val (false, r.2) e1) vs0 σ Hs Q := by
  obtain ⟨M, e, D0, w⟩ := h
  simp only [ev] at w
  refine ⟨M, e, D0, ?_⟩
  obtain ⟨items, e1, hit, w1⟩ := Ans.wp_bind w
  clear w
  refine ⟨items, e1, hit, fun J M1 H1 D1 S1 wk A hA => ?_⟩
  split at w1
  case isFalse => exact (stuck_wp w1).elim
  rename_i st
  obtain ⟨all, ef, hall, w2⟩ := Ans.wp_bind w1
  clear w1
  split at w2
  case isFalse => exact (stuck_wp w2).elim
  rename_i hfit
  have w3 := val_wp w2
  clear w2
  generalize hf : (fun d e2 => match asgT t false d (wipeB vs0 e2) with
          | none => Ans.stuck
          | some e3 => (evt T P c e3).bind fun k e4 => if k then (ev T P x e4).bind fun r e5 => .val (some r.2) (backB e2 vs0 e5) else .val none (backB e2 vs0 e4)) = f at hall
  have mA : M1 A = none := own_no D1.same hA
  have nA : ¬ Owns e1 σ A := fun w => by obtain ⟨_, u, hu⟩ := D1.owns w; rw [hA] at hu; cases hu
  refine lc_it wk (fun i H => ∃ M e2 acc us rest, Vd K M e2 σ H ∧ Stp e1 σ M1 H1 e2 σ M H ∧ stillB e2 vs0 = true ∧ H A = some (.lst us) ∧ M A = none ∧ ¬ Owns e2 σ A ∧ Reps K M us acc ∧ compN f (items.drop i) e2 = .val rest ef ∧ acc ++ rest = all)
    ⟨M1, e1, [], [], all, D1.tmp mA nA, Stp.refl.tmp hA, st, upd_same, mA, nA, .nil, by simpa using hall, rfl⟩ (fun i H _ p => ?_) (fun i v H H' hi p y => ?_) (fun H p => ?_)
  · obtain ⟨M, e2, acc, us, rest, D2, S2, _⟩ := p
    exact S2.same.trans D2.same
  · obtain ⟨M, e2, acc, us, rest, D2, S2, st2, hAu, mA2, nA2, ra, hc, hall2⟩ := p
    obtain ⟨d, hd, y⟩ := y
    obtain ⟨M3, pu, rv⟩ := y M S2.same D2.same
    have hdrop : items.drop i = d :: items.drop (i + 1) := by
      rw [List.drop_eq_getElem_cons hi]
      have := List.getElem?_eq_getElem hi
      rw [hd] at this
      rw [← Option.some.inj this]
    rw [hdrop] at hc
    obtain ⟨r, e3, rest1, hfd, hc1, hr⟩ := comp_step hc
    rw [← hf] at hfd
    simp only at hfd
    split at hfd
    · cases hfd
    · rename_i e4 ha
      have D3 : Vd K M3 e2 σ H' := pu.vd D2
      have S3 : Stp e2 σ M H e2 σ M3 H' := pu.stp
      have DW : Vd K M3 (wipeB vs0 e2) (wipe σ vs0) H' := D3.wiped
      have hA3 : H' A = some (.lst us) := pu.keep _ _ hAu
      have mA3 : M3 A = none := by
        cases q : M3 A with
        | none => rfl
        | some u => have := pu.new A u q mA2; rw [hAu] at this; cases this
      refine ⟨M3, wipeB vs0 e2, wipe σ vs0, H', M3, wipeB vs0 e2, (false, d), e4, DW, Stp.refl, Res.still rv, ha, fun σ2 D4 S4 hσ => ?_⟩
      have hl2 : σ2.length = σ.length := by
        have l1 := D4.len
        have l2 := D2.len
        have : e4.length = (wipeB vs0 e2).length := asgT_length ha
        rw [← l1, this, wipeB_length, l2]
      have hσ2 : ∀ j, j ∉ vs0 → σ2[j]? = σ[j]? := fun j hj => by
        have : j ∉ t.slots := fun h => hj (by
          have := List.all_eq_true.mp h6 j h
          simpa using this)
        rw [hσ j this, wipe_get vs0 σ j hj]
      refine ⟨wipe_eq hl2 hσ2, ?_⟩
      -- the tests
      cases hk : evt T P c e4 with
      | stuck => rw [hk] at hfd; cases hfd
      | exc _ _ => rw [hk] at hfd; cases hfd
      | val k e5 =>
        rw [hk] at hfd
        have hfd : (if k then (ev T P x e5).bind fun r e5 => .val (some r.2) (backB e2 vs0 e5) else Ans.val none (backB e2 vs0 e5)) = .val r e3 := hfd
        refine ⟨M3, e4, D4, k, e5, hk, fun M5 H5 D5 S5 => ?_⟩
        have keepA : ∀ {M' H' : Hp} {e' : Env}, Stp (wipeB vs0 e2) (wipe σ vs0) M3 H' e' σ2 M' H' → True := fun _ => trivial
        have S35 : Stp (wipeB vs0 e2) (wipe σ vs0) M3 H' e5 σ2 M5 H5 := S4.trans S5
        have nW : ¬ Owns (wipeB vs0 e2) (wipe σ vs0) A := fun w => nA2 ((owns_wipe st2).mp w)
        cases k with
        | false =>
          have hfd : Ans.val none (backB e2 vs0 e5) = .val r e3 := hfd
          injection hfd with q1 q2
          subst q1; subst q2
          refine iteF ?_
          have S' := Stp.backed D3 D5 S35 st2 hl2 hσ2
          obtain ⟨D', ow, st'⟩ := D3.backed D5 S35.same st2 hl2 hσ2
          refine ⟨M5, _, acc, us, rest1, D', (S2.trans S3).trans S', st', S35.keep A _ hA3 nW, ?_, fun w => ?_, ra.mono (S3.same.trans S'.same), hc1, by rw [← hall2, hr]; rfl⟩
          · cases q : M5 A with
            | none => rfl
            | some u =>
              rcases S35.new A u q mA3 with z | z
              · rw [hA3] at z; cases z
              · exact absurd z nW
          · rcases S'.own A w with z | z
            · exact nA2 z
            · rw [hA3] at z; cases z
        | true =>
          have hfd : ((ev T P x e5).bind fun r e5 => Ans.val (some r.2) (backB e2 vs0 e5)) = .val r e3 := hfd
          refine iteT ?_
          cases hx : ev T P x e5 with
          | stuck => rw [hx] at hfd; cases hfd
          | exc _ _ => rw [hx] at hfd; cases hfd
          | val rr e6 =>
            rw [hx] at hfd
            have hfd : Ans.val (some rr.2) (backB e2 vs0 e6) = .val r e3 := hfd
            injection hfd with q1 q2
            subst q1; subst q2
            refine ⟨M5, e5, D5, (false, rr.2), e6, by show (ev T P x e5).bind _ = _; rw [hx]; rfl, fun y M6 H6 D6 S6 rs => ?_⟩
            have S36 : Stp (wipeB vs0 e2) (wipe σ vs0) M3 H' e6 σ2 M6 H6 := S35.trans S6
            have S' := Stp.backed D3 D6 S36 st2 hl2 hσ2
            obtain ⟨D', ow, st'⟩ := D3.backed D6 S36.same st2 hl2 hσ2
            have hA6 : H6 A = some (.lst us) := S36.keep A _ hA3 nW
            have mA6 : M6 A = none := by
              cases q : M6 A with
              | none => rfl
              | some u =>
                rcases S36.new A u q mA3 with z | z
                · rw [hA3] at z; cases z
                · exact absurd z nW
            have nA6 : ¬ Owns (backB e2 vs0 e6) σ A := fun w => by
              rcases S'.own A w with z | z
              · exact nA2 z
              · rw [hA3] at z; cases z
            have hlen : acc.length + (1 + rest1.length) = all.length := by
              rw [← hall2, hr, putO, List.length_append, List.length_cons]; omega
            have hfit : all.length ≤ maxLen := of_decide_eq_true hfit
            refine ⟨us, hA6, ?_, M6, _, acc ++ [rr.2], us ++ [y], rest1, D'.tmp mA6 nA6, ((S2.trans S3).trans S').tmp hA, st', upd_same, mA6, nA6, (ra.mono (S3.same.trans S'.same)).append (.cons rs.rep .nil), hc1, by rw [← hall2, hr]; simp [putO]⟩
            rw [ra.length]
            refine Nat.lt_of_lt_of_le (m := maxLen) (by omega) (fit_le (Nat.le_refl _))
  · obtain ⟨M, e2, acc, us, rest, D2, S2, st2, hAu, mA2, nA2, ra, hc, hall2⟩ := p
    rw [List.drop_length] at hc
    simp only [compN] at hc
    injection hc with q1 q2
    subst q1; subst q2
    rw [List.append_nil] at hall2
    subst hall2
    refine w3 _ M H D2 (S1.trans S2) ?_
    unfold Res
    rw [if_pos rfl]
    refine ⟨A, rfl, ?_, nA2, .lst mA2 hAu ra⟩
    cases z : Hs A with
    | none => rfl
    | some u => obtain ⟨o', h'⟩ := S1.there A u z; rw [hA] at h'; cases h'
theorem pe_comp (C : Cok T P Γ X) {elt tg iter : Expr} {ifs : List Expr} {scope : Scope} {pos : Pos} {own : List (Str × Nat)} {x : Ex} {t : Tg} {it : It} {c : Tt}
    (h1 : blkC Γ.N Γ.sc scope own = true) (pi : PI X tg iter (tI X.K (evi T P it)))
    (pg : ∀ (s : Shared) (H : Hp) (A : Addr) (cl : List (Str × Addr)) (fp : List Addr), PG (X.blk s H scope (compEnvC scope cl A X.env) fp) tg (tG X.K t))
    (pt : ∀ (s : Shared) (H : Hp) (A : Addr) (cl : List (Str × Addr)) (fp : List Addr), PTs (X.blk s H scope (compEnvC scope cl A X.env) fp) ifs (tT X.K (evt T P c)))
    (pe : ∀ (s : Shared) (H : Hp) (A : Addr) (cl : List (Str × Addr)) (fp : List Addr), PE (X.blk s H scope (compEnvC scope cl A X.env) fp) elt (tE X.K (ev T P x)))
    (h6 : t.slots.all (own.map (·.2)).contains = true) (hs : ∀ x, foldedSetIterable iter X.env x = pure x) :
    PE X (.ListComp elt [⟨tg, iter, ifs, 0⟩] scope pos) (tE X.K (ev T P (.comp x t it c (own.map (·.2))))) := by
  have ok : BlkOk X.N X.env.scope scope own := by rw [C.N, C.sc]; exact blkOk_by h1
  have pe' : ∀ (s : Shared) (H : Hp) (A : Addr) (cl : List (Str × Addr)) (fp : List Addr), PE (X.blk s H scope (compEnvC scope cl A X.env) fp) elt (tE X.K fun e => (ev T P x e).bind fun r e1 => .val (false, r.2) e1) := fun s H A cl fp => pe_set (pe s H A cl fp)
  exact (pe_lc C.calm (by rw [C.N]; exact C.nd) pi ok pg pt pe' hs).imp fun σ Hs Q h => lc_imp h6 h
end
end L2.Eng
namespace L2.Eng
open PySem PySem.Spec PyProof.Rows
/-! ## calls -/
section
variable {K : PySem.W.Frag} {e e1 e2 : Env} {σ : St} {M M1 M2 H H1 H2 : Hp}
theorem getB_map : ∀ (bs : List B) (i : Nat), getB (bs.map some) i = bs[i]?
  | [], i => by simp [getB]
  | b :: bs, 0 => by simp [getB]
  | b :: bs, i + 1 => by simp only [List.map_cons, getB, List.getElem?_cons_succ]; exact getB_map bs i
theorem Vd.cons {es : Env} {vs : St} (D0 : Vd K M es vs H) {b : B} {v : V} (hb : Bnd K M H v b) (hn : b.own = true → ∀ a, v = .ref a → ¬ Owns es vs a) : Vd K M (some b :: es) (some v :: vs) H := by
  have at_ : ∀ j a, OwnAt (some b :: es) (some v :: vs) j a → (j = 0 ∧ b.own = true ∧ v = .ref a) ∨ ∃ k, j = k + 1 ∧ OwnAt es vs k a := fun j a ⟨x, h1, h2, h3⟩ => by
    cases j with
    | zero =>
      simp only [getB] at h1
      simp only [List.getElem?_cons_zero] at h3
      cases h1
      injection h3 with h3
      injection h3 with h3
      exact .inl ⟨rfl, h2, h3⟩
    | succ k => exact .inr ⟨k, rfl, x, by simpa [getB] using h1, h2, by simpa using h3⟩
  refine ⟨D0.same, by simp [D0.len], fun j x hx => ?_, fun i j a hi hj => ?_⟩
  · cases j with
    | zero => simp only [getB] at hx; cases hx; exact ⟨v, by simp, hb⟩
    | succ k => simpa using D0.slot k x (by simpa [getB] using hx)
  · rcases at_ i a hi with ⟨rfl, h1, h2⟩ | ⟨k, rfl, h1⟩
    · rcases at_ j a hj with ⟨rfl, _, _⟩ | ⟨k, rfl, h3⟩
      · rfl
      · exact absurd ⟨k, h3⟩ (hn h1 a h2)
    · rcases at_ j a hj with ⟨rfl, h3, h4⟩ | ⟨l, rfl, h3⟩
      · exact absurd ⟨k, h1⟩ (hn h3 a h4)
      · rw [D0.inj k l a h1 h3]
theorem Vd.nil (h : Same M H) : Vd K M [] [] H := ⟨h, rfl, fun i b hb => by simp [getB] at hb, fun i j a ⟨b, hb, _⟩ => by simp [getB] at hb⟩
/-- the arguments as the callee's names hold them -/
structure Args (K : PySem.W.Frag) (M H : Hp) (e : Env) (σ : St) (io : List Bool) (ops : List Op) (vs : List V) (bs : List B) : Prop where
  lv : vs.length = io.length
  lb : bs.length = io.length
  vd : Vd K M (bs.map some) (vs.map some) H
  ow : ∀ (p : Nat) (b : B), bs[p]? = some b → b.own = true → ∃ (i : Nat) (d : D), b = B.io d ∧ ops[p]? = some (Op.sl i) ∧ i ∈ slotsOf true io ops ∧ ∃ b1, getB e i = some b1 ∧ b1.own = true
  at_ : ∀ (p : Nat) (v : V), vs[p]? = some v → ∀ i : Nat, ops[p]? = some (Op.sl i) → σ[i]? = some (some v)
theorem slots_sub {w b : Bool} {io : List Bool} {o : Op} {ops : List Op} {i : Nat} (hi : i ∈ slotsOf w io ops) : i ∈ slotsOf w (b :: io) (o :: ops) := by
  cases o with
  | v d => simpa [slotsOf] using hi
  | sl j =>
    simp only [slotsOf]
    split
    · exact List.mem_cons_of_mem _ hi
    · exact hi
theorem slots_nd {w b : Bool} {io : List Bool} {o : Op} {ops : List Op} (nd : (slotsOf w (b :: io) (o :: ops)).Nodup) : (slotsOf w io ops).Nodup := by
  cases o with
  | v d => simpa [slotsOf] using nd
  | sl i =>
    simp only [slotsOf] at nd
    split at nd
    · exact (List.nodup_cons.mp nd).2
    · exact nd
theorem Args.sh {io : List Bool} {ops : List Op} {vs : List V} {bs : List B} (A : Args K M H e σ io ops vs bs) {o : Op} {v : V} {d : D} (r : OpdR K M σ v o) (rp : Rep K M v d) : Args K M H e σ (false :: io) (o :: ops) (v :: vs) (.sh d :: bs) where
  lv := by simp [A.lv]
  lb := by simp [A.lb]
  vd := A.vd.cons (b := .sh d) rp (fun z => by cases z)
  ow := fun p b q w => by
    cases p with
    | zero => simp at q; subst q; cases w
    | succ p =>
      obtain ⟨i, d, q1, q2, q3, q4⟩ := A.ow p b (by simpa using q) w
      exact ⟨i, d, q1, by simpa using q2, slots_sub q3, q4⟩
  at_ := fun p v' q i hi => by
    cases p with
    | zero => simp at q hi; subst q; subst hi; exact r
    | succ p => exact A.at_ p v' (by simpa using q) i (by simpa using hi)
theorem Args.io_ {io : List Bool} {ops : List Op} {vs : List V} {bs : List B} (D0 : Vd K M e σ H) (A : Args K M H e σ io ops vs bs) {i : Nat} {v : V} {b1 : B} (hi : σ[i]? = some (some v)) (hg : getB e i = some b1) (hw : b1.own = true) (nin : i ∉ slotsOf true io ops) :
    Args K M H e σ (true :: io) (.sl i :: ops) (v :: vs) (.io b1.dat :: bs) := by
  obtain ⟨v', q1, q2⟩ := D0.slot i b1 hg
  rw [hi] at q1
  cases q1
  have q3 : ∃ a, v = .ref a ∧ Own K M H a b1.dat := by
    cases b1 with
    | sh d => cases hw
    | ow d' => exact q2
    | io d' => exact q2
  obtain ⟨a, rfl, oo⟩ := q3
  refine ⟨by simp [A.lv], by simp [A.lb], A.vd.cons (b := .io b1.dat) ⟨a, rfl, oo⟩ (fun _ c ec ⟨p, x, w1, w2, w3⟩ => ?_), fun p b q w => ?_, fun p v' q i' hi' => ?_⟩
  · cases ec
    rw [getB_map] at w1
    obtain ⟨i', d', z1, z2, z3, b2, z4, z5⟩ := A.ow p x w1 w2
    have : vs[p]? = some (.ref a) := by
      rw [List.getElem?_map] at w3
      cases q : vs[p]? with
      | none => rw [q] at w3; cases w3
      | some u => rw [q] at w3; simp at w3; rw [w3]
    have z6 := A.at_ p _ this i' z2
    have : i = i' := D0.inj i i' a ⟨b1, hg, hw, hi⟩ ⟨b2, z4, z5, z6⟩
    subst this
    exact nin z3
  · cases p with
    | zero =>
      simp at q
      subst q
      exact ⟨i, _, rfl, by simp, by simp [slotsOf], b1, hg, hw⟩
    | succ p =>
      obtain ⟨i', d, q1, q2, q3, q4⟩ := A.ow p b (by simpa using q) w
      exact ⟨i', d, q1, by simpa using q2, slots_sub q3, q4⟩
  · cases p with
    | zero => simp at q hi'; subst q; subst hi'; exact hi
    | succ p => exact A.at_ p v' (by simpa using q) i' (by simpa using hi')
theorem args_vd (D0 : Vd K M e σ H) : ∀ {io : List Bool} {ops : List Op} {vs : List V} {bs : List B}, OpdRs K M σ vs ops → callArgs e io ops = some bs → (slotsOf true io ops).Nodup →
    (∀ (o : Op) (v : V) (d : D), o ∈ ops → (∀ i, o = .sl i → i ∈ slotsOf false io ops) → OpdR K M σ v o → pk e o = some d → Rep K M v d) → Args K M H e σ io ops vs bs
  | [], [], vs, bs, r, h, nd, st => by
    cases r
    simp only [callArgs] at h
    cases h
    exact ⟨rfl, rfl, Vd.nil D0.same, fun p b h => by simp at h, fun p v h => by simp at h⟩
  | b :: io, o :: ops, vs, bs, r, h, nd, st => by
    cases r with
    | @cons v vs _ _ r1 r2 =>
      simp only [callArgs] at h
      cases hb : callArgs e io ops with
      | none => rw [hb] at h; cases h
      | some bs' =>
        rw [hb] at h
        have A := args_vd D0 r2 hb (slots_nd nd) (fun o' v' d' ho' hi' => st o' v' d' (List.mem_cons_of_mem _ ho') fun i e => slots_sub (hi' i e))
        cases b with
        | false =>
          simp only [Bool.false_eq_true, if_false] at h
          cases hp : pk e o with
          | none => rw [hp] at h; cases h
          | some d =>
            rw [hp] at h
            cases h
            exact A.sh r1 (st o v d (by simp) (fun i e => by subst e; simp [slotsOf]) r1 hp)
        | true =>
          simp only [if_true] at h
          cases o with
          | v d => cases h
          | sl i =>
            have nin : i ∉ slotsOf true io ops := by
              simp only [slotsOf] at nd
              exact (List.nodup_cons.mp nd).1
            cases hg : getB e i with
            | none => simp only [hg] at h; cases h
            | some b1 =>
              simp only [hg] at h
              cases b1 with
              | sh d => cases h
              | ow d => cases h; exact A.io_ D0 (b1 := .ow d) r1 hg rfl nin
              | io d => cases h; exact A.io_ D0 (b1 := .io d) r1 hg rfl nin
  | [], _ :: _, _, _, _, h, _, _ => by simp [callArgs] at h
  | _ :: _, [], _, _, _, h, _, _ => by simp [callArgs] at h
/-- the lent things as they come back -/
structure Back (e1 e2 : Env) (io : List Bool) (ops : List Op) (outs : List B) : Prop where
  len : e2.length = e1.length
  at_ : ∀ (j : Nat) (b2 : B), getB e2 j = some b2 → (j ∉ slotsOf true io ops ∧ getB e1 j = some b2) ∨
    (j ∈ slotsOf true io ops ∧ ∃ b1 : B, getB e1 j = some b1 ∧ b1.own = true ∧ b2.own = true ∧ (∀ d, b2 = B.io d → ∃ d0, b1 = B.io d0) ∧ ∃ p : Nat, outs[p]? = some (B.io b2.dat) ∧ ops[p]? = some (Op.sl j))
theorem back_ok : ∀ {io : List Bool} {ops : List Op} {outs : List B} {e2 : Env}, backIn e io ops outs = some e2 → (slotsOf true io ops).Nodup → Back e e2 io ops outs
  | [], [], [], e2, h, nd => by
    simp only [backIn] at h
    cases h
    exact ⟨rfl, fun j b2 h => .inl ⟨by simp [slotsOf], h⟩⟩
  | b :: io, o :: ops, x :: outs, e2, h, nd => by
    simp only [backIn] at h
    cases hb : backIn e io ops outs with
    | none => rw [hb] at h; cases h
    | some e1 =>
      rw [hb] at h
      have A := back_ok hb (slots_nd nd)
      cases b with
      | false =>
        simp only [Bool.false_eq_true, if_false] at h
        cases h
        have es : slotsOf true (false :: io) (o :: ops) = slotsOf true io ops := by cases o <;> simp [slotsOf]
        refine ⟨A.len, fun j b2 hj => ?_⟩
        rw [es]
        rcases A.at_ j b2 hj with z | ⟨z1, b1, z2, z3, z4, z5, p, z6, z7⟩
        · exact .inl z
        · exact .inr ⟨z1, b1, z2, z3, z4, z5, p + 1, by simpa using z6, by simpa using z7⟩
      | true =>
        simp only [if_true] at h
        cases o with
        | v d => cases x <;> cases h
        | sl i =>
          have nin : i ∉ slotsOf true io ops := by
            simp only [slotsOf] at nd
            exact (List.nodup_cons.mp nd).1
          have es : slotsOf true (true :: io) (.sl i :: ops) = i :: slotsOf true io ops := by simp [slotsOf]
          cases x with
          | sh d => cases h
          | ow d => cases h
          | io d =>
            have fin : ∀ (b1 b2 : B), getB e1 i = some b1 → b1.own = true → b2.own = true → b2.dat = d → (∀ d, b2 = .io d → ∃ d0, b1 = .io d0) → e2 = setB e1 i (some b2) → Back e e2 (true :: io) (.sl i :: ops) (.io d :: outs) := fun b1 b2 hg w1 w2 hd hio he => by
              subst he
              have g0 : getB e i = some b1 := by
                rcases A.at_ i b1 hg with z | ⟨z, _⟩
                · exact z.2
                · exact absurd z nin
              refine ⟨by rw [setB_length]; exact A.len, fun j b3 hj => ?_⟩
              rw [es]
              by_cases hji : j = i
              · subst hji
                rw [getB_setB_same (getB_lt hg)] at hj
                cases hj
                exact .inr ⟨by simp, b1, g0, w1, w2, hio, 0, by simp [hd], by simp⟩
              · rw [getB_setB_ne hji] at hj
                rcases A.at_ j b3 hj with ⟨z1, z2⟩ | ⟨z1, b4, z2, z3, z4, z5, p, z6, z7⟩
                · exact .inl ⟨by simp [hji, z1], z2⟩
                · exact .inr ⟨by simp [z1], b4, z2, z3, z4, z5, p + 1, by simpa using z6, by simpa using z7⟩
            cases hg : getB e1 i with
            | none => simp only [hg] at h; cases h
            | some b1 =>
              simp only [hg] at h
              cases b1 with
              | sh d' => cases h
              | ow d' => cases h; exact fin (.ow d') (.ow d) hg rfl rfl rfl (fun _ z => by cases z) rfl
              | io d' => cases h; exact fin (.io d') (.io d) hg rfl rfl rfl (fun _ _ => ⟨_, rfl⟩) rfl
  | [], [], _ :: _, _, h, _ => by simp [backIn] at h
  | [], _ :: _, _, _, h, _ => by simp [backIn] at h
  | _ :: _, [], _, _, h, _ => by simp [backIn] at h
  | _ :: _, _ :: _, [], _, h, _ => by simp [backIn] at h
/-- what is kept stands still from now on -/
theorem frz_ok : ∀ {io : List Bool} {ops : List Op} {vs : List V} {e : Env} {M : Hp}, Vd K M e σ H → OpdRs K M σ vs ops → frzIn io ops e = some e1 →
    ∃ M1, Vd K M1 e1 σ H ∧ Stp e σ M H e1 σ M1 H ∧ (∀ i d, getB e i = some (.sh d) → getB e1 i = some (.sh d)) ∧ (∀ i, i ∈ slotsOf false io ops → ∃ d, getB e1 i = some (.sh d))
  | [], [], vs, e, M, D0, r, h => by
    simp only [frzIn] at h
    cases h
    exact ⟨M, D0, Stp.refl, fun _ _ h => h, fun i h => by simp [slotsOf] at h⟩
  | b :: io, o :: ops, vs, e, M, D0, r, h => by
    cases r with
    | cons r1 r2 =>
      simp only [frzIn] at h
      cases b with
      | true =>
        simp only [if_true] at h
        obtain ⟨M1, D1, S1, k1, k2⟩ := frz_ok D0 r2 h
        refine ⟨M1, D1, S1, k1, fun i hi => k2 i ?_⟩
        cases o <;> simpa [slotsOf] using hi
      | false =>
        simp only [Bool.false_eq_true, if_false] at h
        cases ht : tk e o with
        | none => rw [ht] at h; cases h
        | some p =>
          obtain ⟨d, e2⟩ := p
          rw [ht] at h
          have h : frzIn io ops e2 = some e1 := h
          obtain ⟨M1, D1, S1, rp⟩ := D0.take r1 ht
          obtain ⟨M2, D2, S2, k1, k2⟩ := frz_ok D1 (r2.mono S1.same) h
          have keep : ∀ i d, getB e i = some (.sh d) → getB e2 i = some (.sh d) := fun i d' hi => by
            cases o with
            | v _ => simp [tk] at ht; rw [← ht.2]; exact hi
            | sl j =>
              simp only [tk] at ht
              split at ht
              · cases ht; exact hi
              · rename_i d'' hj
                cases ht
                by_cases hij : i = j
                · subst hij; rw [hi] at hj; cases hj
                · rw [getB_setB_ne hij]; exact hi
              · cases ht
          refine ⟨M2, D2, S1.trans S2, fun i d' hi => k1 i d' (keep i d' hi), fun i hi => ?_⟩
          cases o with
          | v _ => exact k2 i (by simpa [slotsOf] using hi)
          | sl j =>
            simp only [slotsOf] at hi
            rcases List.mem_cons.mp (by simpa using hi) with rfl | hi
            · simp only [tk] at ht
              split at ht
              · rename_i d'' hj
                cases ht
                exact ⟨_, k1 _ _ hj⟩
              · rename_i d'' hj
                cases ht
                exact ⟨_, k1 _ _ (getB_setB_same (getB_lt hj))⟩
              · cases ht
            · exact k2 i hi
  | [], _ :: _, _, _, _, _, _, h => by simp [frzIn] at h
  | _ :: _, [], _, _, _, _, _, h => by simp [frzIn] at h
end
section
variable {K : PySem.W.Frag} {e e' e1 : Env} {σ : St} {M M1 H H1 : Hp} {T : List Fn} {P : Nat → List B → CA} {f : Nat} {fn : Fn}
theorem callArgs_len : ∀ {io : List Bool} {ops : List Op} {bs : List B}, callArgs e io ops = some bs → ops.length = io.length
  | [], [], _, _ => rfl
  | b :: io, o :: ops, bs, h => by
    simp only [callArgs] at h
    cases hb : callArgs e io ops with
    | none => rw [hb] at h; cases h
    | some bs' => simp [callArgs_len hb]
  | [], _ :: _, _, h => by simp [callArgs] at h
  | _ :: _, [], _, h => by simp [callArgs] at h
theorem slots_none : ∀ {io : List Bool} {ops : List Op}, io.all (!·) = true → slotsOf true io ops = []
  | [], [], _ => rfl
  | [], _ :: _, _ => rfl
  | _ :: _, [], _ => rfl
  | b :: io, o :: ops, h => by
    simp only [List.all_cons, Bool.and_eq_true, Bool.not_eq_true'] at h
    obtain ⟨rfl, h⟩ := h
    have : io.all (!·) = true := h
    cases o <;> simp [slotsOf, slots_none this]
theorem tk_pk {o : Op} {d : D} (h : tk e o = some (d, e1)) (o' : Op) : pk e1 o' = pk e o' := by
  cases o with
  | v _ => simp [tk] at h; rw [h.2]
  | sl j =>
    simp only [tk] at h
    split at h
    · cases h; rfl
    · rename_i d'' hj
      cases h
      cases o' with
      | v _ => rfl
      | sl i =>
        simp only [pk]
        by_cases hij : i = j
        · subst hij; rw [getB_setB_same (getB_lt hj), hj]; rfl
        · rw [getB_setB_ne hij]
    · cases h
theorem frz_pk : ∀ {io : List Bool} {ops : List Op} {e : Env}, frzIn io ops e = some e1 → ∀ o', pk e1 o' = pk e o'
  | [], [], e, h, o' => by simp only [frzIn] at h; cases h; rfl
  | b :: io, o :: ops, e, h, o' => by
    simp only [frzIn] at h
    cases b with
    | true => simp only [if_true] at h; exact frz_pk h o'
    | false =>
      simp only [Bool.false_eq_true, if_false] at h
      cases ht : tk e o with
      | none => rw [ht] at h; cases h
      | some p =>
        obtain ⟨d, e2⟩ := p
        rw [ht] at h
        have h : frzIn io ops e2 = some e1 := h
        rw [frz_pk h o', tk_pk ht o']
  | [], _ :: _, _, h, _ => by simp [frzIn] at h
  | _ :: _, [], _, h, _ => by simp [frzIn] at h
theorem callArgs_pk (k : ∀ o, pk e1 o = pk e o) : ∀ {io : List Bool} {ops : List Op}, io.all (!·) = true → callArgs e1 io ops = callArgs e io ops
  | [], [], _ => rfl
  | [], _ :: _, _ => rfl
  | _ :: _, [], _ => rfl
  | b :: io, o :: ops, h => by
    simp only [List.all_cons, Bool.and_eq_true, Bool.not_eq_true'] at h
    obtain ⟨rfl, h⟩ := h
    have ih : callArgs e1 io ops = callArgs e io ops := callArgs_pk k (h : io.all (!·) = true)
    simp only [callArgs, ih, k o, Bool.false_eq_true, if_false]
theorem no_owns {bs : List B} {vs : St} (h : ∀ (p : Nat) (b : B), bs[p]? = some b → b.own = true → False) (a : Addr) : ¬ Owns (bs.map some) vs a := fun ⟨p, b, h1, h2, _⟩ => by
  rw [getB_map] at h1
  exact h p b h1 h2
theorem call_run (D0 : Vd K M e σ H) {vs : List V} {ops : List Op} (r : OpdRs K M σ vs ops) (hT : T[f]? = some fn) (hio : fn.io.length = fn.np) {res : Bool × D} (h : doCall T P f ops e = .val res e') {Q : VK} {E : XK}
    (q : ∀ v M' H', Vd K M' e' σ H' → Stp e σ M H e' σ M' H' → Res K e' σ H M' H' v res → Q v H') : SpF K P f fn.np vs H Q E := by
  unfold doCall at h
  rw [hT] at h
  simp only at h
  split at h
  · rename_i hall
    split at h
    · cases h
    · rename_i bs hbs
      split at h
      · cases h
      · rename_i fr d outs hP
        have nd : (slotsOf true fn.io ops).Nodup := by rw [slots_none hall]; exact List.nodup_nil
        split at h
        · rename_i hfl
          cases h
          -- lent for the call: everything of ours stands still meanwhile
          have DH : Vd K H (List.replicate e.length none) σ H := ⟨Same.refl H, by simp [D0.len], fun i b hb => (by
              exfalso
              have : ∀ n i, getB (List.replicate n none) i = none := fun n => by
                induction n with
                | zero => intro i; rfl
                | succ n ih => intro i; cases i with | zero => rfl | succ i => simpa [List.replicate_succ, getB] using ih i
              rw [this] at hb; cases hb), fun i j a ⟨b, hb, _⟩ => (by
              exfalso
              have : ∀ n i, getB (List.replicate n none) i = none := fun n => by
                induction n with
                | zero => intro i; rfl
                | succ n ih => intro i; cases i with | zero => rfl | succ i => simpa [List.replicate_succ, getB] using ih i
              rw [this] at hb; cases hb)⟩
          have go : ∀ {io : List Bool} {ops : List Op} {vs : List V} {bs : List B}, OpdRs K M σ vs ops → callArgs e io ops = some bs → io.all (!·) = true → Args K H H (List.replicate e.length none) σ io ops vs bs := by
            intro io
            induction io with
            | nil =>
              intro ops vs bs r hb _
              cases ops with
              | nil =>
                cases r
                simp only [callArgs] at hb
                cases hb
                exact ⟨rfl, rfl, Vd.nil (Same.refl H), fun p b h => by simp at h, fun p v h => by simp at h⟩
              | cons o ops => simp [callArgs] at hb
            | cons b io ih =>
              intro ops vs bs r hb ha
              cases ops with
              | nil => simp [callArgs] at hb
              | cons o ops =>
                cases r with
                | @cons v vs _ _ r1 r2 =>
                  simp only [List.all_cons, Bool.and_eq_true, Bool.not_eq_true'] at ha
                  obtain ⟨rfl, ha⟩ := ha
                  simp only [callArgs, Bool.false_eq_true, if_false] at hb
                  cases hb' : callArgs e io ops with
                  | none => rw [hb'] at hb; cases hb
                  | some bs' =>
                    rw [hb'] at hb
                    cases hp : pk e o with
                    | none => rw [hp] at hb; cases hb
                    | some d =>
                      rw [hp] at hb
                      cases hb
                      have rp := (D0.peek r1 hp).rep D0.same
                      have r1' : OpdR K H σ v o := by
                        cases o with
                        | sl i => exact r1
                        | v d => exact Rep.mono D0.same r1
                      exact (ih r2 hb' ha).sh r1' rp
          have A := go r hbs hall
          have noow : ∀ a, ¬ Owns (bs.map some) (vs.map some) a := no_owns fun p b h1 h2 => by
            obtain ⟨i, _, _, _, hi, _⟩ := A.ow p b h1 h2
            rw [slots_none hall] at hi
            cases hi
          refine ⟨by rw [A.lv]; exact hio, H, bs, fr, d, outs, A.vd, hP, fun v M' H' DV SV rs => ?_⟩
          have rp : Rep K M v d := by
            obtain ⟨M2, _, _, r2⟩ := DV.settle rs
            exact r2.flat hfl M
          have kp : ∀ b o, H b = some o → H' b = some o := fun b o hb => SV.keep b o hb (noow b)
          exact q v M H' (D0.grow (Same.refl M) (D0.same.trans (SV.same.trans DV.same)) kp (fun b o z n => by rw [n] at z; cases z)) (Stp.grow (Same.refl M) kp (fun b o z n => by rw [n] at z; cases z)) (Res.still rp)
        · split at h
          · cases h
          · rename_i e1 hf
            cases h
            obtain ⟨M1, D1, S1, k1, k2⟩ := frz_ok D0 r hf
            have hbs1 : callArgs e' fn.io ops = some bs := by rw [callArgs_pk (frz_pk hf) hall]; exact hbs
            have A := args_vd D1 (r.mono S1.same) hbs1 nd (fun o v d ho hi hr hp => by
              rcases D1.peek hr hp with z | ⟨a, rfl, oo⟩
              · exact z
              · exfalso
                cases o with
                | v d' =>
                  simp [pk] at hp
                  subst hp
                  have := Rep.mono D1.same hr
                  have n := oo.no
                  have hr' : Rep K M1 (.ref a) d' := hr
                  cases oo with
                  | lst _ _ _ => cases hr' with | lst z _ => rw [n] at z; cases z
                | sl i =>
                  obtain ⟨d2, hd2⟩ := k2 i (hi i rfl)
                  obtain ⟨w, z1, z2⟩ := D1.slot i _ hd2
                  have z3 : σ[i]? = some (some (.ref a)) := hr
                  rw [z1] at z3
                  injection z3 with z3
                  injection z3 with z3
                  subst z3
                  have n := oo.no
                  have z2 : Rep K M1 (.ref a) d2 := z2
                  simp only [pk, hd2] at hp
                  have hp := Option.some.inj hp
                  have hp : d2 = d := hp
                  subst hp
                  cases oo with
                  | lst _ _ _ => cases z2 with | lst z _ => rw [n] at z; cases z)
            have noow : ∀ a, ¬ Owns (bs.map some) (vs.map some) a := no_owns fun p b h1 h2 => by
              obtain ⟨i, _, _, _, hi, _⟩ := A.ow p b h1 h2
              rw [slots_none hall] at hi
              cases hi
            refine ⟨by rw [A.lv]; exact hio, M1, bs, fr, d, outs, A.vd, hP, fun v M' H' DV SV rs => ?_⟩
            have kp : ∀ b o, H b = some o → H' b = some o := fun b o hb => SV.keep b o hb (noow b)
            have nw : ∀ b o, M' b = some o → M1 b = none → H b = none := fun b o z n => (SV.new b o z n).elim id fun w => absurd w (noow b)
            have D2 := D1.grow SV.same DV.same kp nw
            refine q v M' H' D2 (S1.trans (Stp.grow SV.same kp nw)) ?_
            unfold Res at rs ⊢
            split at rs
            · rename_i hfr
              rw [if_pos hfr]
              obtain ⟨a, rfl, ha, _, o⟩ := rs
              exact ⟨a, rfl, ha, fun w => (by obtain ⟨_, u, hu⟩ := D1.owns w; rw [ha] at hu; cases hu), o⟩
            · rename_i hfr
              rw [if_neg hfr]
              exact rs
  · split at h
    · rename_i hok
      unfold okSlots at hok
      rw [Bool.and_eq_true, decide_eq_true_eq] at hok
      obtain ⟨nd, _⟩ := hok
      split at h
      · cases h
      · rename_i e1 hf
        split at h
        · cases h
        · rename_i bs hbs
          split at h
          · cases h
          · rename_i fr d outs hP
            split at h
            · cases h
            · rename_i e2 hb
              cases h
              obtain ⟨M1, D1, S1, k1, k2⟩ := frz_ok D0 r hf
              have A := args_vd D1 (r.mono S1.same) hbs nd (fun o v d ho hi hr hp => by
                rcases D1.peek hr hp with z | ⟨a, rfl, oo⟩
                · exact z
                · exfalso
                  cases o with
                  | v d' =>
                    simp [pk] at hp
                    subst hp
                    have n := oo.no
                    have hr' : Rep K M1 (.ref a) d' := hr
                    cases oo with
                    | lst _ _ _ => cases hr' with | lst z _ => rw [n] at z; cases z
                  | sl i =>
                    obtain ⟨d2, hd2⟩ := k2 i (hi i rfl)
                    obtain ⟨w, z1, z2⟩ := D1.slot i _ hd2
                    have z3 : σ[i]? = some (some (.ref a)) := hr
                    rw [z1] at z3
                    injection z3 with z3
                    injection z3 with z3
                    subst z3
                    have n := oo.no
                    have z2 : Rep K M1 (.ref a) d2 := z2
                    simp only [pk, hd2] at hp
                    have hp := Option.some.inj hp
                    have hp : d2 = d := hp
                    subst hp
                    cases oo with
                    | lst _ _ _ => cases z2 with | lst z _ => rw [n] at z; cases z)
              have Bk := back_ok hb nd
              refine ⟨by rw [A.lv]; exact hio, M1, bs, fr, d, outs, A.vd, hP, fun v M' H' DV SV rs => ?_⟩
              -- an own thing of the callee is one of ours
              have ours : ∀ a, Owns (bs.map some) (vs.map some) a → ∃ i ∈ slotsOf true fn.io ops, OwnAt e1 σ i a := fun a ⟨p, b, h1, h2, h3⟩ => by
                rw [getB_map] at h1
                obtain ⟨i, d', z1, z2, z3, b2, z4, z5⟩ := A.ow p b h1 h2
                have : vs[p]? = some (.ref a) := by
                  rw [List.getElem?_map] at h3
                  cases q : vs[p]? with
                  | none => rw [q] at h3; cases h3
                  | some u => rw [q] at h3; simp at h3; rw [h3]
                exact ⟨i, z3, b2, z4, z5, A.at_ p _ this i z2⟩
              have own2 : ∀ j a, OwnAt e' σ j a → OwnAt e1 σ j a := fun j a ⟨b2, h1, h2, h3⟩ => by
                rcases Bk.at_ j b2 h1 with ⟨_, z⟩ | ⟨_, b1, z1, z2, _⟩
                · exact ⟨b2, z, h2, h3⟩
                · exact ⟨b1, z1, z2, h3⟩
              have D2 : Vd K M' e' σ H' := by
                refine ⟨DV.same, by rw [Bk.len]; exact D1.len, fun j b2 hj => ?_, fun i j a hi hj => D1.inj i j a (own2 i a hi) (own2 j a hj)⟩
                rcases Bk.at_ j b2 hj with ⟨z1, z2⟩ | ⟨z1, b1, z2, z3, z4, z5, p, z6, z7⟩
                · obtain ⟨w, h1, h2⟩ := D1.slot j b2 z2
                  refine ⟨w, h1, h2.mono SV.same fun a ea ow => ?_⟩
                  subst ea
                  have no : ¬ Owns (bs.map some) (vs.map some) a := fun w => by
                    obtain ⟨i, hi, hw⟩ := ours a w
                    have := D1.inj i j a hw ⟨b2, z2, ow, h1⟩
                    subst this
                    exact z1 hi
                  obtain ⟨hm, o, ho⟩ := D1.owns ⟨j, b2, z2, ow, h1⟩
                  refine ⟨?_, (SV.keep a o ho no).trans ho.symm⟩
                  cases y : M' a with
                  | none => rfl
                  | some u =>
                    rcases SV.new a u y hm with x | x
                    · rw [ho] at x; cases x
                    · exact absurd x no
                · obtain ⟨w, h1, h2⟩ := DV.slot p (.io b2.dat) (by rw [getB_map]; exact z6)
                  have hw : vs[p]? = some w := by
                    rw [List.getElem?_map] at h1
                    cases y : vs[p]? with
                    | none => rw [y] at h1; cases h1
                    | some u => rw [y] at h1; simp at h1; rw [h1]
                  refine ⟨w, A.at_ p w hw j z7, ?_⟩
                  cases b2 with
                  | sh d => cases z4
                  | ow d => exact h2
                  | io d => exact h2
              have S2 : Stp e1 σ M1 H e' σ M' H' := by
                refine ⟨SV.same, fun b o hb n => SV.keep b o hb fun w => ?_, fun b o z n => (SV.new b o z n).imp id fun w => ?_, fun b ⟨j, hj⟩ => .inl ⟨j, own2 j b hj⟩, SV.there, fun j d hj => ⟨?_, rfl⟩⟩
                · obtain ⟨i, _, hw⟩ := ours b w
                  exact n ⟨i, hw⟩
                · obtain ⟨i, _, hw⟩ := ours b w
                  exact ⟨i, hw⟩
                · rcases Bk.at_ j _ hj with ⟨_, z⟩ | ⟨_, b1, z1, _, _, z5, _⟩
                  · exact ⟨d, z⟩
                  · obtain ⟨d0, rfl⟩ := z5 d rfl
                    exact ⟨d0, z1⟩
              refine q v M' H' D2 (S1.trans S2) ?_
              unfold Res at rs ⊢
              split at rs
              · rename_i hfr
                rw [if_pos hfr]
                obtain ⟨a, rfl, ha, _, o⟩ := rs
                refine ⟨a, rfl, ha, fun ⟨j, w⟩ => ?_, o⟩
                obtain ⟨_, u, hu⟩ := D1.owns ⟨j, own2 j a w⟩
                rw [ha] at hu; cases hu
              · rename_i hfr
                rw [if_neg hfr]
                exact rs
    · cases h
end
end L2.Eng
namespace L2.Eng
open PySem PySem.Spec PyProof.Rows
section
variable {T : List Fn} {P : Nat → List B → CA} {Γ : Gam} {X : Cx}
theorem opt_eq {α : Type} {o : Option α} {e e2 : Env} {a : α} (h : opt o e = .val a e2) : o = some a ∧ e2 = e := by
  cases o with
  | none => cases h
  | some z => cases h; exact ⟨rfl, rfl⟩
theorem x_cst {e : Expr} {v : V} {d : D} (p : PE X e (tC v)) (r : ∀ M, Rep X.K M v d) : PE X e (tE X.K (ev T P (.cst d))) :=
  p.imp fun σ H Q ⟨M, e, D0, w⟩ => val_wp w v M H D0 Stp.refl (Res.still (r M))
theorem x_var (C : Cok T P Γ X) {x : Str} {pos : Pos} {i : Nat} (h1 : Γ.N[i]? = some x) (h2 : visB Γ.sc x = true) (h3 : nodbg x = true) : PE X (.Name x pos) (tE X.K (ev T P (.var i))) := by
  obtain ⟨d1, d2⟩ := nodbg_of h3
  refine (pe_var (i := i) (by rw [C.N]; exact h1) (visB_vis C h2) d1 d2).imp fun σ H Q ⟨M, e, D0, w⟩ => ?_
  simp only [ev] at w
  split at w
  · rename_i d e1 ht
    have w := val_wp w
    have hs : ∃ b, getB e i = some b := by
      simp only [tk] at ht
      split at ht
      · exact ⟨_, by assumption⟩
      · exact ⟨_, by assumption⟩
      · cases ht
    obtain ⟨b, hb⟩ := hs
    obtain ⟨v, h4, _⟩ := D0.slot i b hb
    obtain ⟨M1, D1, S1, r1⟩ := D0.take (o := .sl i) (v := v) h4 ht
    exact ⟨v, h4, w v M1 H D1 S1 (Res.still r1)⟩
  · exact (stuck_wp w).elim
theorem x_bty (C : Cok T P Γ X) {n : String} {pos : Pos} (h1 : tyNames.contains n = true) (h2 : gloB Γ.sc n = true) : PE X (.Name n pos) (tE X.K (ev T P (.cst (.ty n)))) := by
  have hm : n ∈ tyNames := by simpa using h1
  have hb : bootBuiltins n = some (.type n) := by
    simp only [tyNames, List.mem_cons, List.not_mem_nil, or_false] at hm
    rcases hm with rfl | rfl | rfl | rfl | rfl <;> decide +kernel
  have hn : bltNames.contains (n : Str) = true := by
    simp only [tyNames, List.mem_cons, List.not_mem_nil, or_false] at hm
    rcases hm with rfl | rfl | rfl | rfl | rfl <;> decide +kernel
  have h3 : ((n : Str) ≠ ("__name__" : Str)) ∧ ((n : Str) == ("__debug__" : Str)) = false := by
    simp only [tyNames, List.mem_cons, List.not_mem_nil, or_false] at hm
    rcases hm with rfl | rfl | rfl | rfl | rfl <;> decide +kernel
  exact x_cst (pe_bltn (v := .ty n) (gloB_gl C h2) (blt_none C hn) hb rfl h3.1 h3.2) fun M => .ty n
theorem x_tup {es : List Expr} {k : Nat} {pos : Pos} {xs : Exs} (p : PA X es (tOs X.K (evs T P xs))) : PE X (.Tuple es k pos) (tE X.K (ev T P (.tup xs))) := by
  refine (pe_tup p).imp fun σ H Q ⟨M, e, D0, w⟩ => ?_
  simp only [ev] at w
  obtain ⟨ops, e1, hx, w1⟩ := Ans.wp_bind w
  refine ⟨M, e, D0, ops, e1, hx, fun vs M1 H1 D1 S1 r1 => ?_⟩
  split at w1
  · rename_i ds e2 ht
    split at w1
    · rename_i hf
      have w2 := val_wp w1
      obtain ⟨M2, D2, S2, r2⟩ := D1.takes r1 ht
      refine ⟨by rw [r2.length]; exact fit_le (of_decide_eq_true hf), fun p hp => ?_⟩
      have pu := Pur.lay (o := .tup vs) D2.same hp
      exact w2 _ _ _ (pu.vd D2) ((S1.trans S2).trans pu.stp) (((ResO.newT D2.same hp r2).res D2).back (S1.trans S2))
    · exact (stuck_wp w1).elim
  · exact (stuck_wp w1).elim
theorem x_lst {es : List Expr} {pos : Pos} {xs : Exs} (p : PA X es (tOs X.K (evs T P xs))) : PE X (.List es pos) (tE X.K (ev T P (.lst xs))) := by
  refine (pe_lst p).imp fun σ H Q ⟨M, e, D0, w⟩ => ?_
  simp only [ev] at w
  obtain ⟨ops, e1, hx, w1⟩ := Ans.wp_bind w
  refine ⟨M, e, D0, ops, e1, hx, fun vs M1 H1 D1 S1 r1 => ?_⟩
  split at w1
  · rename_i ds e2 ht
    split at w1
    · rename_i hf
      have w2 := val_wp w1
      obtain ⟨M2, D2, S2, r2⟩ := D1.takes r1 ht
      refine ⟨by rw [r2.length]; exact fit_le (of_decide_eq_true hf), fun p hp => ?_⟩
      have pu := Pur.own (o := .lst vs) D2.same hp
      exact w2 _ _ _ (pu.vd D2) ((S1.trans S2).trans pu.stp) (((ResO.newL D2.same hp r2).res D2).back (S1.trans S2))
    · exact (stuck_wp w1).elim
  · exact (stuck_wp w1).elim
theorem x_bin {o : Operator} {a b : Expr} {pos : Pos} {x y : Ex} (p1 : PE X a (tO X.K (opd x (ev T P x)))) (p2 : PE X b (tO X.K (opd y (ev T P y)))) : PE X (.BinOp a o b pos) (tE X.K (ev T P (.bin o x y))) := by
  refine (pe_op (opr_bin o) p1 p2).imp fun σ H Q ⟨M, e, D0, w⟩ => ?_
  simp only [ev] at w
  obtain ⟨ox, e1, hx, w1⟩ := Ans.wp_bind w
  obtain ⟨oy, e2, hy, w2⟩ := Ans.wp_bind w1
  refine ⟨M, e, D0, ox, e1, hx, fun v M1 H1 D1 S1 r1 => ⟨M1, e1, D1, oy, e2, hy, fun u M2 H2 D2 S2 r2 => ?_⟩⟩
  split at w2
  · rename_i dx dy px py
    obtain ⟨r, hr, w3⟩ := opt_wp w2
    exact ⟨M2, dx, dy, r, D2.same, D2.peek (r1.mono S2.same) px, D2.peek r2 py, hr, fun v M' H' pu ro => w3 v M' H' (pu.vd D2) ((S1.trans S2).trans pu.stp) ((ro.res D2).back (S1.trans S2))⟩
  · exact (stuck_wp w2).elim
theorem x_un {o : UnaryOp} {a : Expr} {pos : Pos} {x : Ex} (p1 : PE X a (tO X.K (opd x (ev T P x)))) : PE X (.UnaryOp o a pos) (tE X.K (ev T P (.un o x))) := by
  refine (pe_un (unr_un o) p1).imp fun σ H Q ⟨M, e, D0, w⟩ => ?_
  simp only [ev] at w
  obtain ⟨ox, e1, hx, w1⟩ := Ans.wp_bind w
  refine ⟨M, e, D0, ox, e1, hx, fun v M1 H1 D1 S1 r1 => ?_⟩
  split at w1
  · rename_i dx px
    obtain ⟨d, e2, hr, w3⟩ := Ans.wp_bind w1
    have w3 := val_wp w3
    obtain ⟨hz, rfl⟩ := opt_eq hr
    exact ⟨M1, dx, (false, d), D1.same, D1.peek r1 px, by show Option.map _ (unD o dx) = _; rw [hz]; rfl, fun v M' H' pu ro => w3 v M' H' (pu.vd D1) (S1.trans pu.stp) ((ro.res D1).back S1)⟩
  · exact (stuck_wp w1).elim
theorem x_nt {a : Expr} {pos : Pos} {x : Ex} (p1 : PE X a (tO X.K (opd x (ev T P x)))) : PE X (.UnaryOp .Not a pos) (tE X.K (ev T P (.nt x))) := by
  refine (pe_notT p1).imp fun σ H Q ⟨M, e, D0, w⟩ => ?_
  simp only [ev] at w
  obtain ⟨ox, e1, hx, w1⟩ := Ans.wp_bind w
  refine ⟨M, e, D0, ox, e1, hx, fun v M1 H1 D1 S1 r1 => ?_⟩
  split at w1
  · rename_i dx px
    obtain ⟨d, e2, hr, w3⟩ := Ans.wp_bind w1
    have w3 := val_wp w3
    obtain ⟨hz, rfl⟩ := opt_eq hr
    exact ⟨d, tru_of D1.same (D1.peek r1 px) hz, w3 _ M1 H1 D1 S1 (Res.still (.bl _))⟩
  · exact (stuck_wp w1).elim
theorem cmp_imp {K : PySem.W.Frag} {o : CmpOp} {x y : Ex} {σ : St} {H : Hp} {Q : VK} (h : tE K (ev T P (.cmp o x y)) σ H Q) : tOp (rC2 K (cmpD o)) (tO K (opd x (ev T P x))) (tO K (opd y (ev T P y))) σ H Q := by
  obtain ⟨M, e, D0, w⟩ := h
  simp only [ev] at w
  obtain ⟨ox, e1, hx, w1⟩ := Ans.wp_bind w
  obtain ⟨oy, e2, hy, w2⟩ := Ans.wp_bind w1
  refine ⟨M, e, D0, ox, e1, hx, fun v M1 H1 D1 S1 r1 => ⟨M1, e1, D1, oy, e2, hy, fun u M2 H2 D2 S2 r2 => ?_⟩⟩
  split at w2
  · rename_i dx dy px py
    obtain ⟨c, e3, hr, w3⟩ := Ans.wp_bind w2
    have w3 := val_wp w3
    obtain ⟨hz, rfl⟩ := opt_eq hr
    exact ⟨M2, dx, dy, c, D2.same, D2.peek (r1.mono S2.same) px, D2.peek r2 py, hz, w3 _ M2 H2 D2 (S1.trans S2) (Res.still (.bl _))⟩
  · exact (stuck_wp w2).elim
theorem cmp2_imp {K : PySem.W.Frag} {o o' : CmpOp} {x y z : Ex} {σ : St} {H : Hp} {Q : VK} (h : tE K (ev T P (.cmp2 o o' x y z)) σ H Q) : tChain (rC2 K (cmpD o)) (rC2 K (cmpD o')) (tO K (opd x (ev T P x))) (tO K (opd y (ev T P y))) (tO K (opd z (ev T P z))) σ H Q := by
  obtain ⟨M, e, D0, w⟩ := h
  simp only [ev] at w
  obtain ⟨ox, e1, hx, w1⟩ := Ans.wp_bind w
  obtain ⟨oy, e2, hy, w2⟩ := Ans.wp_bind w1
  refine ⟨M, e, D0, ox, e1, hx, fun v M1 H1 D1 S1 r1 => ⟨M1, e1, D1, oy, e2, hy, fun u M2 H2 D2 S2 r2 => ?_⟩⟩
  split at w2
  · rename_i dx dy px py
    obtain ⟨c, e3, hr, w3⟩ := Ans.wp_bind w2
    obtain ⟨hz, rfl⟩ := opt_eq hr
    refine ⟨M2, dx, dy, c, D2.same, D2.peek (r1.mono S2.same) px, D2.peek r2 py, hz, c, rfl, ?_⟩
    cases c with
    | false =>
      rw [if_neg (by simp)] at w3 ⊢
      have w3 := val_wp w3
      exact w3 _ M2 H2 D2 (S1.trans S2) (Res.still (.bl _))
    | true =>
      rw [if_pos rfl] at w3 ⊢
      obtain ⟨oz, e4, hz3, w4⟩ := Ans.wp_bind w3
      refine ⟨M2, _, D2, oz, e4, hz3, fun t M3 H3 D3 S3 r3 => ?_⟩
      split at w4
      · rename_i dy' dz py' pz
        obtain ⟨c, e5, hr, w5⟩ := Ans.wp_bind w4
        have w5 := val_wp w5
        obtain ⟨hz5, rfl⟩ := opt_eq hr
        exact ⟨M3, dy', dz, c, D3.same, D3.peek (r2.mono S3.same) py', D3.peek r3 pz, hz5, w5 _ M3 H3 D3 ((S1.trans S2).trans S3) (Res.still (.bl _))⟩
      · exact (stuck_wp w4).elim
  · exact (stuck_wp w2).elim
theorem bind_val {α β : Type} {a : Ans α} {f : α → Env → Ans β} {b : β} {e : Env} (h : a.bind f = .val b e) : ∃ x e1, a = .val x e1 ∧ f x e1 = .val b e := by
  cases a with
  | stuck => cases h
  | exc _ _ => cases h
  | val x e1 => exact ⟨x, e1, rfl, h⟩
theorem ev_cmp {o : CmpOp} {x y : Ex} {e e' : Env} {r : Bool × D} (h : ev T P (.cmp o x y) e = .val r e') : ∃ c, r = (false, .bl c) := by
  simp only [ev] at h
  obtain ⟨ox, e1, _, h⟩ := bind_val h
  obtain ⟨oy, e2, _, h⟩ := bind_val h
  split at h
  · obtain ⟨c, e3, _, h⟩ := bind_val h
    cases h
    exact ⟨_, rfl⟩
  · cases h
theorem ev_cmp2 {o o' : CmpOp} {x y z : Ex} {e e' : Env} {r : Bool × D} (h : ev T P (.cmp2 o o' x y z) e = .val r e') : ∃ c, r = (false, .bl c) := by
  simp only [ev] at h
  obtain ⟨ox, e1, _, h⟩ := bind_val h
  obtain ⟨oy, e2, _, h⟩ := bind_val h
  split at h
  · obtain ⟨c, e3, _, h⟩ := bind_val h
    split at h
    · obtain ⟨oz, e4, _, h⟩ := bind_val h
      split at h
      · obtain ⟨c, e5, _, h⟩ := bind_val h
        cases h
        exact ⟨_, rfl⟩
      · cases h
    · cases h
      exact ⟨_, rfl⟩
  · cases h
/-- a test whose value is a bool -/
theorem tst_imp {K : PySem.W.Frag} {x : Ex} {σ : St} {H : Hp} {Q : Bool → Hp → Prop} (hx : ∀ i, x ≠ .var i) (hb : ∀ {e e' : Env} {r : Bool × D}, ev T P x e = .val r e' → ∃ c, r = (false, .bl c)) (h : tT K (evt T P (.e x)) σ H Q) :
    tE K (ev T P x) σ H fun v H' => ∃ k, v = .bl k ∧ Q k H' := by
  obtain ⟨M, e, D0, w⟩ := h
  have e1 : evt T P (.e x) e = ((ev T P x e).bind fun r e1 => .val (.v r.2) e1).bind fun o e1 => match pk e1 o with
    | some d => opt (truth d) e1
    | none => .stuck := by
    simp only [evt]
    cases x <;> first | rfl | exact absurd rfl (hx _)
  rw [e1] at w
  obtain ⟨o, e2, h2, w2⟩ := Ans.wp_bind w
  obtain ⟨r, e3, h3, h4⟩ := bind_val h2
  cases h4
  obtain ⟨c, rfl⟩ := hb h3
  simp only [pk] at w2
  obtain ⟨k, hk, w3⟩ := opt_wp w2
  simp only [truth, Option.some.injEq] at hk
  subst hk
  refine ⟨M, e, D0, _, _, h3, fun v M' H' D1 S1 rs => ?_⟩
  have rs := Res.rep rs
  cases rs
  exact ⟨c, rfl, w3 M' H' D1 S1⟩
theorem x_cmp (C : Cok T P Γ X) {o : CmpOp} {a b : Expr} {pos : Pos} {x y : Ex} (p1 : PE X a (tO X.K (opd x (ev T P x)))) (p2 : PE X b (tO X.K (opd y (ev T P y)))) (hm : behindInMarks o b = false) : PE X (.Compare a [o] [b] pos) (tE X.K (ev T P (.cmp o x y))) := by
  obtain ⟨k, hk⟩ := C.room
  exact (pe_cmpR (opr_cmp o hk) p1 p2 hm).imp fun σ H Q h => cmp_imp h
theorem t_cmp (C : Cok T P Γ X) {o : CmpOp} {a b : Expr} {pos : Pos} {x y : Ex} (p1 : PE X a (tO X.K (opd x (ev T P x)))) (p2 : PE X b (tO X.K (opd y (ev T P y)))) (hm : behindInMarks o b = false) : PT X (.Compare a [o] [b] pos) (tT X.K (evt T P (.e (.cmp o x y)))) := by
  obtain ⟨k, hk⟩ := C.room
  exact (pt_cmpR (opr_cmp o hk) p1 p2 hm).imp fun σ H Q h => cmp_imp (tst_imp (fun _ z => by cases z) ev_cmp h)
theorem x_cmp2 (C : Cok T P Γ X) {o o' : CmpOp} {a b c : Expr} {pos : Pos} {x y z : Ex} (p1 : PE X a (tO X.K (opd x (ev T P x)))) (p2 : PE X b (tO X.K (opd y (ev T P y)))) (p3 : PE X c (tO X.K (opd z (ev T P z)))) (hm : behindInMarks o' c = false) : PE X (.Compare a [o, o'] [b, c] pos) (tE X.K (ev T P (.cmp2 o o' x y z))) := by
  obtain ⟨k, hk⟩ := C.room
  exact (pe_chain (opr_cmp o hk) (opr_cmp o' hk) p1 p2 p3 (by simpa [lastMarks] using hm)).imp fun σ H Q h => cmp2_imp h
theorem t_cmp2 (C : Cok T P Γ X) {o o' : CmpOp} {a b c : Expr} {pos : Pos} {x y z : Ex} (p1 : PE X a (tO X.K (opd x (ev T P x)))) (p2 : PE X b (tO X.K (opd y (ev T P y)))) (p3 : PE X c (tO X.K (opd z (ev T P z)))) (hm : behindInMarks o' c = false) : PT X (.Compare a [o, o'] [b, c] pos) (tT X.K (evt T P (.e (.cmp2 o o' x y z)))) := by
  obtain ⟨k, hk⟩ := C.room
  exact (pt_chain (opr_cmp o hk) (opr_cmp o' hk) p1 p2 p3 (by simpa [lastMarks] using hm)).imp fun σ H Q h => cmp2_imp (tst_imp (fun _ z => by cases z) ev_cmp2 h)
theorem x_and {a b : Expr} {r : List Expr} {pos : Pos} {x y : Ex} (p1 : PE X a (tE X.K (ev T P x))) (p2 : PE X (.BoolOp .And (b :: r) pos) (tE X.K (ev T P y))) : PE X (.BoolOp .And (a :: b :: r) pos) (tE X.K (ev T P (.and x y))) := by
  refine (pe_and p1 p2).imp fun σ H Q ⟨M, e, D0, w⟩ => ?_
  simp only [ev] at w
  obtain ⟨⟨f, d⟩, e1, hx, w1⟩ := Ans.wp_bind w
  refine ⟨M, e, D0, _, e1, hx, fun v M1 H1 D1 S1 r1 => ?_⟩
  simp only at w1
  split at w1
  · rename_i k
    have ev : v = .bl k := by
      obtain ⟨M2, _, _, r2⟩ := D1.settle r1
      cases r2
      rfl
    refine ⟨k, ev, ?_⟩
    cases k with
    | true =>
      rw [if_pos rfl] at w1 ⊢
      exact ⟨M1, e1, D1, w1.imp fun r e2 q v M' H' D2 S2 r2 => q v M' H' D2 (S1.trans S2) (r2.back S1)⟩
    | false =>
      rw [if_neg (by simp)] at w1 ⊢
      exact val_wp w1 _ M1 H1 D1 S1 (Res.still (.bl _))
  · exact (stuck_wp w1).elim
theorem x_or {a b : Expr} {r : List Expr} {pos : Pos} {x y : Ex} (p1 : PE X a (tE X.K (ev T P x))) (p2 : PE X (.BoolOp .Or (b :: r) pos) (tE X.K (ev T P y))) : PE X (.BoolOp .Or (a :: b :: r) pos) (tE X.K (ev T P (.or x y))) := by
  refine (pe_or p1 p2).imp fun σ H Q ⟨M, e, D0, w⟩ => ?_
  simp only [ev] at w
  obtain ⟨⟨f, d⟩, e1, hx, w1⟩ := Ans.wp_bind w
  refine ⟨M, e, D0, _, e1, hx, fun v M1 H1 D1 S1 r1 => ?_⟩
  simp only at w1
  split at w1
  · rename_i k
    have ev : v = .bl k := by
      obtain ⟨M2, _, _, r2⟩ := D1.settle r1
      cases r2
      rfl
    refine ⟨k, ev, ?_⟩
    cases k with
    | false =>
      rw [if_neg (by simp)] at w1 ⊢
      exact ⟨M1, e1, D1, w1.imp fun r e2 q v M' H' D2 S2 r2 => q v M' H' D2 (S1.trans S2) (r2.back S1)⟩
    | true =>
      rw [if_pos rfl] at w1 ⊢
      exact val_wp w1 _ M1 H1 D1 S1 (Res.still (.bl _))
  · exact (stuck_wp w1).elim
theorem x_ife {a b c : Expr} {pos : Pos} {t : Tt} {x y : Ex} (p0 : PT X c (tT X.K (evt T P t))) (p1 : PE X a (tE X.K (ev T P x))) (p2 : PE X b (tE X.K (ev T P y))) : PE X (.IfExp c a b pos) (tE X.K (ev T P (.ife t x y))) := by
  refine (pe_ifExp p0 p1 p2).imp fun σ H Q ⟨M, e, D0, w⟩ => ?_
  simp only [ev] at w
  obtain ⟨k, e1, hx, w1⟩ := Ans.wp_bind w
  refine ⟨M, e, D0, k, e1, hx, fun M1 H1 D1 S1 => ?_⟩
  cases k with
  | true =>
    rw [if_pos rfl] at w1 ⊢
    exact ⟨M1, e1, D1, w1.imp fun r e2 q v M' H' D2 S2 r2 => q v M' H' D2 (S1.trans S2) (r2.back S1)⟩
  | false =>
    rw [if_neg (by simp)] at w1 ⊢
    exact ⟨M1, e1, D1, w1.imp fun r e2 q v M' H' D2 S2 r2 => q v M' H' D2 (S1.trans S2) (r2.back S1)⟩
theorem plainIx_of {b : Expr} (h : plainI b = true) : PlainIx b := by
  intro o i
  cases b <;> first | rfl | (simp [plainI] at h)
theorem x_ix {a b : Expr} {pos : Pos} {x y : Ex} (p1 : PE X a (tO X.K (opd x (ev T P x)))) (p2 : PE X b (tO X.K (opd y (ev T P y)))) (h3 : plainI b = true) : PE X (.Subscript a b pos) (tE X.K (ev T P (.ix x y))) := by
  refine (pe_ix ixr_ix p1 p2 (plainIx_of h3)).imp fun σ H Q ⟨M, e, D0, w⟩ => ?_
  simp only [ev] at w
  obtain ⟨ox, e1, hx, w1⟩ := Ans.wp_bind w
  obtain ⟨oy, e2, hy, w2⟩ := Ans.wp_bind w1
  refine ⟨M, e, D0, ox, e1, hx, fun v M1 H1 D1 S1 r1 => ⟨M1, e1, D1, oy, e2, hy, fun u M2 H2 D2 S2 r2 => ?_⟩⟩
  split at w2
  · rename_i dx dy px py
    obtain ⟨r, e3, hr, w3⟩ := Ans.wp_bind w2
    have w3 := val_wp w3
    obtain ⟨hz, rfl⟩ := opt_eq hr
    exact ⟨M2, dx, dy, (false, r), D2.same, D2.peek (r1.mono S2.same) px, D2.peek r2 py, by show Option.map _ (ixD dx dy) = _; rw [hz]; rfl, fun v M' H' pu ro => w3 v M' H' (pu.vd D2) ((S1.trans S2).trans pu.stp) ((ro.res D2).back (S1.trans S2))⟩
  · exact (stuck_wp w2).elim
/-- an end of a slice -/
def tX (K : PySem.W.Frag) (f : Env → Ans (Option D)) : TO := fun σ H Q => ∃ M e, Vd K M e σ H ∧ (f e).wp fun l e' => ∃ z, endD l = some z ∧ ∀ M' H', Vd K M' e' σ H' → Stp e σ M H e' σ M' H' → Q z H'
theorem _root_.L2.PO.imp {e : Option Expr} {t t' : TO} (p : PO X e t) (h : ∀ σ H Q, t' σ H Q → t σ H Q) : PO X e t' := ⟨fun pins s σ H Q I q => p.run pins s σ H Q I (h σ H Q q)⟩
theorem o_no : PO X none (tX X.K (evx T P .no)) := po_none.imp fun σ H Q ⟨M, e, D0, w⟩ => by
  simp only [evx] at w
  obtain ⟨z, hz, q⟩ := val_wp w
  cases hz
  exact q M H D0 Stp.refl
theorem o_yes {e : Expr} {x : Ex} (p : PE X e (tE X.K (ev T P x))) : PO X (some e) (tX X.K (evx T P (.yes x))) := by
  refine (po_some p).imp fun σ H Q ⟨M, e, D0, w⟩ => ?_
  simp only [evx] at w
  obtain ⟨⟨f, d⟩, e1, hx, w1⟩ := Ans.wp_bind w
  obtain ⟨z, hz, q⟩ := val_wp w1
  refine ⟨M, e, D0, _, e1, hx, fun v M1 H1 D1 S1 r1 => ?_⟩
  simp only [endD] at hz
  split at hz
  · rename_i hd
    cases hd
  · rename_i i hd
    cases hd
    cases hz
    obtain ⟨M2, _, _, r2⟩ := D1.settle r1
    cases r2
    exact ⟨i, rfl, q M1 H1 D1 S1⟩
  · cases hz
theorem x_sl {a : Expr} {lo hi : Option Expr} {p2 pos : Pos} {x : Ex} {l h : Exo} (p1 : PE X a (tO X.K (opd x (ev T P x)))) (q1 : PO X lo (tX X.K (evx T P l))) (q2 : PO X hi (tX X.K (evx T P h))) : PE X (.Subscript a (.Slice lo hi none p2) pos) (tE X.K (ev T P (.sl x l h))) := by
  refine (pe_slice slr_sl p1 q1 q2).imp fun σ H Q ⟨M, e, D0, w⟩ => ?_
  simp only [ev] at w
  obtain ⟨ox, e1, hx, w1⟩ := Ans.wp_bind w
  obtain ⟨ol, e2, hy, w2⟩ := Ans.wp_bind w1
  obtain ⟨oh, e3, hz, w3⟩ := Ans.wp_bind w2
  split at w3
  · rename_i dx lo hi px pl ph
    obtain ⟨r, hr, w4⟩ := opt_wp w3
    exact ⟨M, e, D0, ox, e1, hx, fun v M1 H1 D1 S1 r1 => ⟨M1, e1, D1, ol, e2, hy, lo, pl, fun M2 H2 D2 S2 => ⟨M2, e2, D2, oh, e3, hz, hi, ph, fun M3 H3 D3 S3 =>
      ⟨M3, dx, r, D3.same, D3.peek (r1.mono (S2.trans S3).same) px, hr, fun v M' H' pu ro => w4 v M' H' (pu.vd D3) (((S1.trans S2).trans S3).trans pu.stp) ((ro.res D3).back ((S1.trans S2).trans S3))⟩⟩⟩⟩
  · exact (stuck_wp w3).elim
theorem x_rev {a : Expr} {k : Nat} {p1 p2 p3 pos : Pos} {x : Ex} (p : PE X a (tO X.K (opd x (ev T P x)))) : PE X (.Subscript a (.Slice none none (some (.UnaryOp .USub (.Constant (.int 1) k p1) p2)) p3) pos) (tE X.K (ev T P (.rev x))) := by
  refine (pe_revL p).imp fun σ H Q ⟨M, e, D0, w⟩ => ?_
  simp only [ev] at w
  obtain ⟨ox, e1, hx, w1⟩ := Ans.wp_bind w
  refine ⟨M, e, D0, ox, e1, hx, fun v M1 H1 D1 S1 r1 => ?_⟩
  split at w1
  · rename_i xs px
    have w2 := val_wp w1
    obtain ⟨a, vs, rfl, ha, ra⟩ := (D1.peek r1 px).lst D1.same
    refine ⟨a, vs, rfl, SqL.of ha, fun p hp => ?_⟩
    have pu := Pur.own (o := .lst vs.reverse) D1.same hp
    exact w2 _ _ _ (pu.vd D1) (S1.trans pu.stp) (((ResO.newL D1.same hp ra.reverse).res D1).back S1)
  · exact (stuck_wp w1).elim
theorem x_call (C : Cok T P Γ X) {f : Str} {i : Nat} {p pos : Pos} {e : Expr} {es : List Expr} {xs : Exs} (h1 : Γ.fns.lookup f = some i) (h2 : gloB Γ.sc f = true) (h3 : nodbg f = true) (h4 : CXs Γ (e :: es) xs) (pa : PA X (e :: es) (tOs X.K (evs T P xs))) :
    PE X (.Call (.Name f p) (e :: es) [] pos) (tE X.K (ev T P (.call i xs))) := by
  obtain ⟨d1, d2⟩ := nodbg_of h3
  obtain ⟨fn, fa, fd, ps, k, hT, hio, hps, F, hr, hm, hk, hb⟩ := C.call f i h1
  cases h4 with
  | cons c1 c2 =>
    refine (pe_call (E := fun _ _ _ => False) (ds := []) (dvs := []) F hr (gloB_gl C h2) hm hk hb .nil (fun _ _ _ _ _ _ _ z => False.elim z) pa d1 (c1.star _ _) (back_any _ _ (c2.star _))).imp fun σ H Q ⟨M, e, D0, w⟩ => ?_
    simp only [ev] at w
    obtain ⟨ops, e1, hx, w1⟩ := Ans.wp_bind w
    obtain ⟨res, e2, hd, w2⟩ := w1
    refine ⟨M, e, D0, ops, e1, hx, fun vs M1 H1 D1 S1 r1 => ?_⟩
    show SpF _ _ _ _ (vs ++ []) _ _ _
    rw [List.append_nil]
    exact call_run D1 r1 hT hio hd fun v M' H' D2 S2 r2 => w2 v M' H' D2 (S1.trans S2) (r2.back S1)
theorem prim_blt (p : Prim) : bltNames.contains (p.name : Str) = true ∧ ((p.name : Str) ≠ ("__name__" : Str)) ∧ ((p.name : Str) == ("__debug__" : Str)) = false := by
  cases p <;> decide +kernel
theorem x_prim (C : Cok T P Γ X) {q : Prim} {p pos : Pos} {e : Expr} {es : List Expr} {xs : Exs} (h2 : gloB Γ.sc q.name = true) (h4 : CXs Γ (e :: es) xs) (pa : PA X (e :: es) (tOs X.K (evs T P xs))) :
    PE X (.Call (.Name q.name p) (e :: es) [] pos) (tE X.K (ev T P (.prim q xs))) := by
  obtain ⟨b1, b2, b3⟩ := prim_blt q
  have pb := prim_boot q
  have cr := callr_prim (X := X) q C.calm
  cases h4 with
  | @cons _ _ _ y ys cc cd =>
    have key : PE X (.Call (.Name q.name p) (e :: es) [] pos) (tCB (rCa X.K (primD q)) (tOs X.K (evs T P (.cons y ys)))) := by
      unfold Prim.val at pb cr
      split at pb
      · rename_i ht
        rw [if_pos ht] at cr
        exact pe_callTy cr (gloB_gl C h2) (blt_none C b1) pb pa b2 b3 (cc.star _ _) (back_any _ _ (cd.star _))
      · rename_i ht
        rw [if_neg ht] at cr
        exact pe_callB cr (gloB_gl C h2) (blt_none C b1) pb pa b2 b3 (cc.star _ _) (back_any _ _ (cd.star _))
    refine key.imp fun σ H Q ⟨M, e, D0, w⟩ => ?_
    simp only [ev] at w
    obtain ⟨ops, e1, hx, w1⟩ := Ans.wp_bind w
    refine ⟨M, e, D0, ops, e1, hx, fun vs M1 H1 D1 S1 r1 => ?_⟩
    split at w1
    · rename_i ds hp
      obtain ⟨r, hr, w2⟩ := opt_wp w1
      exact ⟨M1, ds, r, D1.same, D1.peeks r1 hp, hr, fun v M' H' pu ro => w2 v M' H' (pu.vd D1) (S1.trans pu.stp) ((ro.res D1).back S1)⟩
    · exact (stuck_wp w1).elim
theorem x_pop (C : Cok T P Γ X) {x : Str} {p ap pos : Pos} {i : Nat} (h1 : Γ.N[i]? = some x) (h2 : visB Γ.sc x = true) (h3 : nodbg x = true) (h4 : (ap.endLine == pos.line) = true) : PE X (.Call (.Attribute (.Name x p) "pop" ap) [] [] pos) (tE X.K (ev T P (.pop i))) := by
  obtain ⟨d1, d2⟩ := nodbg_of h3
  have pv := pe_var (i := i) (pos := p) (by rw [C.N]; exact h1) (visB_vis C h2) d1 d2
  refine (pe_bm0 (T := "list") (id := "list.pop") PySem.F.plainAttrs_list PySem.F.slot_list_pop PySem.F.type_list_pop mt_pop pv (by rfl) h4).imp fun σ H Q ⟨M, e, D0, w⟩ => ?_
  simp only [ev] at w
  have go : ∀ {b b' : B} {ds : List D} {d : D}, getB e i = some b → b.own = true → b.dat = .lst ds → ds.getLast? = some d → b'.own = true → b'.dat = .lst ds.dropLast → (∀ d, b' = .io d → ∃ d0, b = .io d0) → ((Ans.val (false, d) (setB e i (some b'))).wp fun r e' => ∀ v M' H', Vd X.K M' e' σ H' → Stp e σ M H e' σ M' H' → Res X.K e' σ H M' H' v r → Q v H') →
      tBM0 X.K "list" rPop (tVar i) σ H Q := fun {b b' ds d} hb ho hd hl hk hd' hio w => by
    have w := val_wp w
    obtain ⟨v, z1, z2⟩ := D0.slot i b hb
    have own : ∃ a, v = .ref a ∧ Own X.K M H a (.lst ds) := by
      cases b with
      | sh _ => cases ho
      | ow d' => obtain ⟨a, ea, o⟩ := z2; rw [← hd]; exact ⟨a, ea, o⟩
      | io d' => obtain ⟨a, ea, o⟩ := z2; rw [← hd]; exact ⟨a, ea, o⟩
    obtain ⟨a, rfl, o⟩ := own
    cases o with
    | @lst vs _ hM hH hr =>
      have hlen := hr.length
      have hg : ds[ds.length - 1]? = some d := by rw [← hl, List.getLast?_eq_getElem?]
      obtain ⟨y, hy, ry⟩ := hr.get hg
      have hown : Own X.K M (upd H a (.lst vs.dropLast)) a b'.dat := by
        rw [hd']
        refine .lst hM upd_same ?_
        rw [List.dropLast_eq_take, List.dropLast_eq_take, hlen]
        exact hr.take _
      refine ⟨.ref a, z1, .inl ⟨rfl, vs, SqL.of hH⟩, a, vs, y, rfl, rfl, hH, by rw [hlen]; exact hy, ?_⟩
      exact w y M _ (D0.change hb ho z1 hk hown) (Stp.change hb ho z1 hio ⟨_, hH⟩) (Res.still ry)
  split at w
  · rename_i xs hb
    split at w
    · rename_i d hl
      exact go hb rfl rfl hl rfl rfl (fun _ z => by cases z) w
    · exact (stuck_wp w).elim
  · rename_i xs hb
    split at w
    · rename_i d hl
      exact go hb rfl rfl hl rfl rfl (fun _ _ => ⟨_, rfl⟩) w
    · exact (stuck_wp w).elim
  · exact (stuck_wp w).elim
/-! ### arguments, tests -/
theorem a_nil : PA X [] (tOs X.K (evs T P .nil)) := pa_nil.imp fun σ H Q ⟨M, e, D0, w⟩ => by
  simp only [evs] at w
  exact val_wp w [] M H D0 Stp.refl .nil
theorem a_cons {e : Expr} {es : List Expr} {x : Ex} {xs : Exs} (c : CX Γ e x) (p1 : PE X e (tO X.K (opd x (ev T P x)))) (p2 : PA X es (tOs X.K (evs T P xs))) : PA X (e :: es) (tOs X.K (evs T P (.cons x xs))) := by
  refine (pa_cons p1 p2 (c.star _ _)).imp fun σ H Q ⟨M, e, D0, w⟩ => ?_
  simp only [evs] at w
  obtain ⟨ox, e1, hx, w1⟩ := Ans.wp_bind w
  obtain ⟨os, e2, hy, w2⟩ := Ans.wp_bind w1
  have w3 := val_wp w2
  exact ⟨M, e, D0, ox, e1, hx, fun v M1 H1 D1 S1 r1 => ⟨M1, e1, D1, os, e2, hy, fun vs M2 H2 D2 S2 r2 => w3 (v :: vs) M2 H2 D2 (S1.trans S2) (.cons (r1.mono S2.same) r2)⟩⟩
theorem isTrue_of {a : Expr} (h : plainT a = true) (env : PySem.Env) : ∀ whole, isTrue a env whole = (do let v ← whole; standAt a.pos; holding [v] (truthy v)) := by
  intro whole
  cases a <;> first | rfl | (simp [plainT] at h; done) | skip
  rename_i o _ _
  cases o <;> first | rfl | (simp [plainT] at h; done)
theorem t_e {a : Expr} {x : Ex} (p : PE X a (tO X.K (opd x (ev T P x)))) (h : plainT a = true) : PT X a (tT X.K (evt T P (.e x))) := by
  refine (pt_truth p (isTrue_of h _)).imp fun σ H Q ⟨M, e, D0, w⟩ => ?_
  simp only [evt] at w
  obtain ⟨ox, e1, hx, w1⟩ := Ans.wp_bind w
  refine ⟨M, e, D0, ox, e1, hx, fun v M1 H1 D1 S1 r1 => ?_⟩
  split at w1
  · rename_i d hp
    obtain ⟨b, hb, w2⟩ := opt_wp w1
    exact ⟨b, tru_of D1.same (D1.peek r1 hp) hb, w2 M1 H1 D1 S1⟩
  · exact (stuck_wp w1).elim
theorem t_nt {a : Expr} {pos : Pos} {x : Tt} (p : PT X a (tT X.K (evt T P x))) : PT X (.UnaryOp .Not a pos) (tT X.K (evt T P (.nt x))) := by
  refine (pt_not p).imp fun σ H Q ⟨M, e, D0, w⟩ => ?_
  simp only [evt] at w
  obtain ⟨k, e1, hx, w1⟩ := Ans.wp_bind w
  have w1 := val_wp w1
  exact ⟨M, e, D0, k, e1, hx, fun M1 H1 D1 S1 => w1 M1 H1 D1 S1⟩
theorem w_and {a b : Expr} {r : List Expr} {pos : Pos} {x y : Tt} (p1 : PT X a (tT X.K (evt T P x))) (p2 : PW X (.BoolOp .And (b :: r) pos) (tT X.K (evt T P y))) : PW X (.BoolOp .And (a :: b :: r) pos) (tT X.K (evt T P (.and x y))) := by
  refine (pw_and p1 p2).imp fun σ H Q ⟨M, e, D0, w⟩ => ?_
  simp only [evt] at w
  obtain ⟨k, e1, hx, w1⟩ := Ans.wp_bind w
  refine ⟨M, e, D0, k, e1, hx, fun M1 H1 D1 S1 => ?_⟩
  cases k with
  | true =>
    rw [if_pos rfl] at w1 ⊢
    exact ⟨M1, e1, D1, w1.imp fun r e2 q M' H' D2 S2 => q M' H' D2 (S1.trans S2)⟩
  | false =>
    rw [if_neg (by simp)] at w1 ⊢
    exact val_wp w1 M1 H1 D1 S1
theorem w_or {a b : Expr} {r : List Expr} {pos : Pos} {x y : Tt} (p1 : PT X a (tT X.K (evt T P x))) (p2 : PW X (.BoolOp .Or (b :: r) pos) (tT X.K (evt T P y))) : PW X (.BoolOp .Or (a :: b :: r) pos) (tT X.K (evt T P (.or x y))) := by
  refine (pw_or p1 p2).imp fun σ H Q ⟨M, e, D0, w⟩ => ?_
  simp only [evt] at w
  obtain ⟨k, e1, hx, w1⟩ := Ans.wp_bind w
  refine ⟨M, e, D0, k, e1, hx, fun M1 H1 D1 S1 => ?_⟩
  cases k with
  | false =>
    rw [if_neg (by simp)] at w1 ⊢
    exact ⟨M1, e1, D1, w1.imp fun r e2 q M' H' D2 S2 => q M' H' D2 (S1.trans S2)⟩
  | true =>
    rw [if_pos rfl] at w1 ⊢
    exact val_wp w1 M1 H1 D1 S1
theorem w_one {o : BoolOp} {a : Expr} {pos : Pos} {x : Tt} (p1 : PT X a (tT X.K (evt T P x))) : PW X (.BoolOp o [a] pos) (tT X.K (evt T P x)) := by
  cases o with
  | And => exact pw_and1 p1
  | Or => exact pw_or1 p1
theorem ts_nil : PTs X [] (tT X.K (evt T P .tru)) := ⟨fun pins s σ H Q I q => pts_nil.run pins s σ H Q I (by
  obtain ⟨M, e, D0, w⟩ := q
  simp only [evt] at w
  exact val_wp w M H D0 Stp.refl)⟩
theorem fold_plain {Γ : Gam} {tg a : Expr} {it : It} (h : CI Γ tg a it) (env : PySem.Env) (x : Value) : foldedSetIterable a env x = pure x := by
  cases h with
  | seq c => cases c <;> rfl
  | rng _ _ => rfl
  | rng2 _ _ _ => rfl
  | enum _ _ => rfl
def isBoolOp : Expr → Bool
  | .BoolOp .. => true
  | _ => false
theorem notBool {e : Expr} (h : plainT e = true) (z : isBoolOp e = true) : False := by
  cases e <;> simp [isBoolOp, plainT] at z h
/-! every expression's code is right -/
mutual
theorem okX : ∀ {Γ : Gam} {e : Expr} {x : Ex}, CX Γ e x → ∀ X, Cok T P Γ X → PE X e (tE X.K (ev T P x))
  | _, _, _, .var h1 h2 h3, X, C => x_var C h1 h2 h3
  | _, _, _, .bty h1 h2, X, C => x_bty C h1 h2
  | _, _, _, .int, X, C => x_cst pe_int fun _ => .int _
  | _, _, _, .bl, X, C => x_cst pe_bl fun _ => .bl _
  | _, _, _, .non, X, C => x_cst pe_non fun _ => .non
  | _, _, _, .str, X, C => x_cst pe_str fun _ => .str _
  | _, _, _, .tup h, X, C => x_tup (okXs h X C)
  | _, _, _, .lst h, X, C => x_lst (okXs h X C)
  | _, _, _, .bin h1 h2, X, C => x_bin (pe_opd C h1 (okX h1 X C)) (pe_opd C h2 (okX h2 X C))
  | _, _, _, .un h1, X, C => x_un (pe_opd C h1 (okX h1 X C))
  | _, _, _, .nt h1, X, C => x_nt (pe_opd C h1 (okX h1 X C))
  | _, _, _, .cmp h1 h2 h3, X, C => x_cmp C (pe_opd C h1 (okX h1 X C)) (pe_opd C h2 (okX h2 X C)) h3
  | _, _, _, .cmp2 h1 h2 h3 h4, X, C => x_cmp2 C (pe_opd C h1 (okX h1 X C)) (pe_opd C h2 (okX h2 X C)) (pe_opd C h3 (okX h3 X C)) h4
  | _, _, _, .one h1 h2, X, C => pe_one (okX h1 X C)
  | _, _, _, .and h1 h2, X, C => x_and (okX h1 X C) (okX h2 X C)
  | _, _, _, .or h1 h2, X, C => x_or (okX h1 X C) (okX h2 X C)
  | _, _, _, .ife h1 h2 h3, X, C => x_ife (okT h1 X C).1 (okX h2 X C) (okX h3 X C)
  | _, _, _, .ix h1 h2 h3, X, C => x_ix (pe_opd C h1 (okX h1 X C)) (pe_opd C h2 (okX h2 X C)) h3
  | _, _, _, .sl h1 h2 h3, X, C => x_sl (pe_opd C h1 (okX h1 X C)) (okO h2 X C) (okO h3 X C)
  | _, _, _, .rev h1, X, C => x_rev (pe_opd C h1 (okX h1 X C))
  | _, _, _, .call h1 h2 h3 h4, X, C => x_call C h1 h2 h3 h4 (okXs h4 X C)
  | _, _, _, .prim h2 h4, X, C => x_prim C h2 h4 (okXs h4 X C)
  | _, _, _, .comp h1 h2 h3 h4 h5 h6, X, C => pe_comp C h1 (okI h2 X C) (fun s H A cl fp => pg_tg (C.blk _ s H A cl fp) h3) (fun s H A cl fp => okTs h4 _ (C.blk _ s H A cl fp)) (fun s H A cl fp => okX h5 _ (C.blk _ s H A cl fp)) h6 (fold_plain h2 _)
  | _, _, _, .pop h1 h2 h3 h4, X, C => x_pop C h1 h2 h3 h4
termination_by _ e _ _ _ _ => (sizeOf e, 0)
theorem okXs : ∀ {Γ : Gam} {e : List Expr} {x : Exs}, CXs Γ e x → ∀ X, Cok T P Γ X → PA X e (tOs X.K (evs T P x))
  | _, _, _, .nil, X, C => a_nil
  | _, _, _, .cons h1 h2, X, C => a_cons h1 (pe_opd C h1 (okX h1 X C)) (okXs h2 X C)
termination_by _ e _ _ _ _ => (sizeOf e, 0)
theorem okO : ∀ {Γ : Gam} {e : Option Expr} {x : Exo}, CXo Γ e x → ∀ X, Cok T P Γ X → PO X e (tX X.K (evx T P x))
  | _, _, _, .no, X, C => o_no
  | _, _, _, .yes h, X, C => o_yes (okX h X C)
termination_by _ e _ _ _ _ => (sizeOf e, 0)
theorem okT : ∀ {Γ : Gam} {e : Expr} {x : Tt}, CT Γ e x → ∀ X, Cok T P Γ X → PT X e (tT X.K (evt T P x)) ∧ (isBoolOp e = true → PW X e (tT X.K (evt T P x)))
  | _, _, _, .e h1 h2, X, C => ⟨t_e (pe_opd C h1 (okX h1 X C)) h2, fun z => (notBool h2 z).elim⟩
  | _, _, _, .cmp h1 h2 h3, X, C => ⟨t_cmp C (pe_opd C h1 (okX h1 X C)) (pe_opd C h2 (okX h2 X C)) h3, fun z => (by cases z)⟩
  | _, _, _, .cmp2 h1 h2 h3 h4, X, C => ⟨t_cmp2 C (pe_opd C h1 (okX h1 X C)) (pe_opd C h2 (okX h2 X C)) (pe_opd C h3 (okX h3 X C)) h4, fun z => (by cases z)⟩
  | _, _, _, .nt h1, X, C => ⟨t_nt (okT h1 X C).1, fun z => (by cases z)⟩
  | _, _, _, .one h1, X, C => ⟨(w_one (okT h1 X C).1).pt, fun _ => w_one (okT h1 X C).1⟩
  | _, _, _, .and h1 h2, X, C => ⟨(w_and (okT h1 X C).1 ((okT h2 X C).2 rfl)).pt, fun _ => w_and (okT h1 X C).1 ((okT h2 X C).2 rfl)⟩
  | _, _, _, .or h1 h2, X, C => ⟨(w_or (okT h1 X C).1 ((okT h2 X C).2 rfl)).pt, fun _ => w_or (okT h1 X C).1 ((okT h2 X C).2 rfl)⟩
termination_by _ e _ _ _ _ => (sizeOf e, 1)
theorem okTs : ∀ {Γ : Gam} {e : List Expr} {x : Tt}, CTs Γ e x → ∀ X, Cok T P Γ X → PTs X e (tT X.K (evt T P x))
  | _, _, _, .nil, X, C => ts_nil
  | _, _, _, .one h, X, C => pts_one (okT h X C).1
termination_by _ e _ _ _ _ => (sizeOf e, 0)
theorem okI : ∀ {Γ : Gam} {tg e : Expr} {x : It}, CI Γ tg e x → ∀ X, Cok T P Γ X → PI X tg e (tI X.K (evi T P x))
  | _, _, _, _, .seq h, X, C => pi_seq C (okX h X C)
  | _, _, _, _, .rng h0 h1, X, C => pi_rng C h0 h1 (okX h1 X C)
  | _, _, _, _, .rng2 h0 h1 h2, X, C => pi_rng2 C h0 h1 h2 (okX h1 X C) (okX h2 X C)
  | _, _, _, _, .enum h0 h1, X, C => pi_enu C h0 h1 (okX h1 X C)
termination_by _ _ e _ _ _ _ => (sizeOf e, 1)
end
end
end L2.Eng
namespace L2.Eng
open PySem PySem.Spec PyProof.Rows
/-! ## the text of a statement and its code -/
def lcB : Expr → Bool
  | .ListComp .. => true
  | .SetComp .. => true
  | .DictComp .. => true
  | _ => false
def pairB : Expr → Bool
  | .Tuple .. => true
  | .List .. => true
  | _ => false
def isVarB : Ex → Bool
  | .var _ => true
  | _ => false
/-- when the value is a list comprehension: is it stored ahead of the block's end -/
def lcSwaps (Γ : Gam) (scope : Scope) (pos : Pos) (y : Str) (py : Pos) : Bool :=
  (match Γ.sc.kind with | .function => true | _ => false) && (match Γ.sc.names.lookup y with | some .local => true | _ => false) && (py.line == pos.line) && !(scope.names.any fun (n, k) => n == y && (k == .local || k == .cell))
def lineB (l : Nat) : List Expr → Bool
  | [] => true
  | e :: r => (e.pos.line == l) && lineB l r
mutual
inductive CS : Gam → Stmt → Sm → Prop
  | asg {Γ : Gam} {tg e : Expr} {pos : Pos} {t : Tg} {x : Ex} (h1 : CG Γ tg t) (h2 : CX Γ e x) (h3 : lcB e = false) (h4 : (pairB tg && pairB e) = false) : CS Γ (.Assign [tg] e pos) (.asg t x)
  | lc {Γ : Gam} {y : Str} {py : Pos} {elt tg iter : Expr} {ifs : List Expr} {scope : Scope} {pos spos : Pos} {i : Nat} {x : Ex} (h1 : Γ.N[i]? = some y) (h2 : CX Γ (.ListComp elt [⟨tg, iter, ifs, 0⟩] scope pos) x)
      (h3 : lcSwaps Γ scope pos y py = true) : CS Γ (.Assign [.Name y py] (.ListComp elt [⟨tg, iter, ifs, 0⟩] scope pos) spos) (.asg (.nm i) x)
  | setx {Γ : Gam} {v : Str} {p p' pos : Pos} {k e : Expr} {i : Nat} {kx x : Ex} (h1 : Γ.N[i]? = some v) (h2 : visB Γ.sc v = true) (h3 : nodbg v = true) (h4 : CX Γ k kx) (h5 : plainI k = true) (h6 : CX Γ e x) : CS Γ (.Assign [.Subscript (.Name v p) k p'] e pos) (.setx i kx x)
  | aug {Γ : Gam} {v : Str} {p pos : Pos} {o : Operator} {e : Expr} {i : Nat} {x : Ex} (h1 : Γ.N[i]? = some v) (h2 : locB Γ v = true) (h3 : CX Γ e x) : CS Γ (.AugAssign (.Name v p) o e pos) (.aug i o x)
  | par {Γ : Gam} {x y : Str} {a b : Expr} {px py pt pt2 pos : Pos} {kt k2 : Nat} {i j : Nat} {xs : Exs} (h1 : Γ.N[i]? = some x) (h2 : Γ.N[j]? = some y) (h3 : (i == j) = false) (h4 : (match Γ.sc.names.lookup x with | some .local => true | _ => false) = true) (h5 : (match Γ.sc.names.lookup y with | some .local => true | _ => false) = true)
      (h6 : CXs Γ [a, b] xs) (h7 : (match Γ.sc.kind with | .function => true | _ => false) = true) (h8 : (px.line == py.line) = true) (h9 : [a, b].all (foldedForSure 8) = false) (h10 : [a, b].all (constantsAlone 8) = false) (h11 : (x == y) = false) :
      CS Γ (.Assign [.Tuple [.Name x px, .Name y py] kt pt] (.Tuple [a, b] k2 pt2) pos) (.par [i, j] xs)
  | app {Γ : Gam} {v : Str} {p ap pos pos' : Pos} {e : Expr} {i : Nat} {x : Ex} (h1 : Γ.N[i]? = some v) (h2 : visB Γ.sc v = true) (h3 : nodbg v = true) (h4 : CX Γ e x) (h5 : (ap.endLine == pos.line) = true) : CS Γ (.Expr (.Call (.Attribute (.Name v p) "append" ap) [e] [] pos) pos') (.app i x)
  | ext {Γ : Gam} {v : Str} {p ap pos pos' : Pos} {e : Expr} {i : Nat} {x : Ex} (h1 : Γ.N[i]? = some v) (h2 : visB Γ.sc v = true) (h3 : nodbg v = true) (h4 : CX Γ e x) (h5 : (ap.endLine == pos.line) = true) : CS Γ (.Expr (.Call (.Attribute (.Name v p) "extend" ap) [e] [] pos) pos') (.ext i x)
  | doc {Γ : Gam} {x : Str} {j : Nat} {pos pos' : Pos} : CS Γ (.Expr (.Constant (.str x) j pos) pos') .pass
  | ex {Γ : Gam} {e : Expr} {pos : Pos} {x : Ex} (h1 : CX Γ e x) (h2 : lcB e = false) : CS Γ (.Expr e pos) (.ex x)
  | ret {Γ : Gam} {e : Expr} {pos : Pos} {x : Ex} (h1 : CX Γ e x) : CS Γ (.Return (some e) pos) (.ret x)
  | ret0 {Γ : Gam} {pos : Pos} : CS Γ (.Return none pos) .ret0
  | ite {Γ : Gam} {c : Expr} {a b : List Stmt} {pos : Pos} {t : Tt} {x y : Sms} (h1 : CT Γ c t) (h2 : CSs Γ a x) (h3 : CSs Γ b y) : CS Γ (.If c a b pos) (.ite t x y)
  | wh {Γ : Gam} {c : Expr} {a : List Stmt} {pos : Pos} {t : Tt} {x : Sms} (h1 : CT Γ c t) (h2 : CSs Γ a x) : CS Γ (.While c a [] pos) (.wh t x)
  | for {Γ : Gam} {tg it : Expr} {a : List Stmt} {pos : Pos} {g : Tg} {w : It} {x : Sms} (h1 : CG Γ tg g) (h2 : CI Γ tg it w) (h3 : CSs Γ a x) : CS Γ (.For tg it a [] pos) (.for g w x)
  | brk {Γ : Gam} {pos : Pos} : CS Γ (.Break pos) .brk
  | cnt {Γ : Gam} {pos : Pos} : CS Γ (.Continue pos) .cnt
  | pass {Γ : Gam} {pos : Pos} : CS Γ (.Pass pos) .pass
  | never {Γ : Gam} {s : Stmt} : CS Γ s .never
inductive CSs : Gam → List Stmt → Sms → Prop
  | nil {Γ : Gam} : CSs Γ [] .nil
  | cons {Γ : Gam} {s : Stmt} {r : List Stmt} {x : Sm} {xs : Sms} (h1 : CS Γ s x) (h2 : CSs Γ r xs) : CSs Γ (s :: r) (.cons x xs)
end
/-! ## what a statement's end says -/
def ResR (K : PySem.W.Frag) (e : Env) (σ : St) (e' : Env) (σ' : St) (H M' H' : Hp) (v : V) (r : Bool × D) : Prop :=
  if r.1 = true then ∃ a, v = .ref a ∧ (Owns e σ a ∨ H a = none) ∧ ¬ Owns e' σ' a ∧ Own K M' H' a r.2 else Rep K M' v r.2
def Post (K : PySem.W.Frag) (De : Ends) (e : Env) (σ : St) (M H : Hp) : Fl → Env → Prop := fun fl e' => match fl with
  | .nx => ∀ σ' M' H', Vd K M' e' σ' H' → Stp e σ M H e' σ' M' H' → De.nx σ' H'
  | .bk => ∀ σ' M' H', Vd K M' e' σ' H' → Stp e σ M H e' σ' M' H' → De.bk σ' H'
  | .ct => ∀ σ' M' H', Vd K M' e' σ' H' → Stp e σ M H e' σ' M' H' → De.ct σ' H'
  | .rt fr d => ∀ v σ' M' H', Vd K M' e' σ' H' → Stp e σ M H e' σ' M' H' → ResR K e σ e' σ' H M' H' v (fr, d) → De.rt v H'
def tS (K : PySem.W.Frag) (f : Env → Ans Fl) : TS := fun De σ H => ∃ M e, Vd K M e σ H ∧ (f e).wp (Post K De e σ M H)
section
variable {K : PySem.W.Frag} {De : Ends} {e e1 e2 : Env} {σ σ1 σ2 : St} {M M1 M2 H H1 H2 : Hp}
theorem ResR.back {v : V} {r : Bool × D} (h : ResR K e1 σ1 e2 σ2 H1 M2 H2 v r) (s : Stp e σ M H e1 σ1 M1 H1) : ResR K e σ e2 σ2 H M2 H2 v r := by
  unfold ResR at h ⊢
  split at h
  · rename_i q
    rw [if_pos q]
    obtain ⟨a, rfl, ha, no, o⟩ := h
    refine ⟨a, rfl, ?_, no, o⟩
    rcases ha with ha | ha
    · exact s.own a ha
    · right
      cases z : H a with
      | none => rfl
      | some u => obtain ⟨o', h'⟩ := s.there a u z; rw [ha] at h'; cases h'
  · rename_i q
    rw [if_neg q]
    exact h
theorem Res.toR {v : V} {r : Bool × D} (h : Res K e2 σ H M2 H2 v r) : ResR K e σ e2 σ H M2 H2 v r := by
  unfold Res at h
  unfold ResR
  split at h
  · rename_i q
    rw [if_pos q]
    obtain ⟨a, rfl, ha, no, o⟩ := h
    exact ⟨a, rfl, .inr ha, no, o⟩
  · rename_i q
    rw [if_neg q]
    exact h
/-- from an earlier start -/
theorem Post.from (s : Stp e σ M H e1 σ1 M1 H1) {fl : Fl} (h : Post K De e σ M H fl e2) : Post K De e1 σ1 M1 H1 fl e2 := by
  cases fl with
  | nx => exact fun σ' M' H' D' S' => h σ' M' H' D' (s.trans S')
  | bk => exact fun σ' M' H' D' S' => h σ' M' H' D' (s.trans S')
  | ct => exact fun σ' M' H' D' S' => h σ' M' H' D' (s.trans S')
  | rt fr d => exact fun v σ' M' H' D' S' r => h v σ' M' H' D' (s.trans S') (r.back s)
/-- forgotten -/
theorem Vd.drop (D0 : Vd K M e σ H) (i : Nat) : Vd K M (setB e i none) σ H := by
  have back : ∀ j c, OwnAt (setB e i none) σ j c → OwnAt e σ j c := fun j c ⟨b, q1, q2, q3⟩ => by
    by_cases hj : j = i
    · subst hj
      by_cases hl : j < e.length
      · rw [getB_setB_same hl] at q1; cases q1
      · rw [getB_none_of_le (by rw [setB_length]; omega)] at q1; cases q1
    · rw [getB_setB_ne hj] at q1
      exact ⟨b, q1, q2, q3⟩
  refine ⟨D0.same, by rw [setB_length]; exact D0.len, fun j b hb => ?_, fun j k a hj hk => D0.inj j k a (back j a hj) (back k a hk)⟩
  by_cases hj : j = i
  · subst hj
    by_cases hl : j < e.length
    · rw [getB_setB_same hl] at hb; cases hb
    · rw [getB_none_of_le (by rw [setB_length]; omega)] at hb; cases hb
  · rw [getB_setB_ne hj] at hb
    exact D0.slot j b hb
theorem Stp.drop (i : Nat) : Stp e σ M H (setB e i none) σ M H := by
  have back : ∀ j b, getB (setB e i none) j = some b → getB e j = some b := fun j b q1 => by
    by_cases hj : j = i
    · subst hj
      by_cases hl : j < e.length
      · rw [getB_setB_same hl] at q1; cases q1
      · rw [getB_none_of_le (by rw [setB_length]; omega)] at q1; cases q1
    · rw [getB_setB_ne hj] at q1
      exact q1
  exact ⟨fun _ _ h => h, fun _ _ h _ => h, fun _ _ h n => (by rw [h] at n; cases n), fun _ ⟨j, b, h1, h2, h3⟩ => .inl ⟨j, b, back j b h1, h2, h3⟩, fun _ o h => ⟨o, h⟩, fun j d h => ⟨⟨d, back j _ h⟩, rfl⟩⟩
end
section
variable {X : Cx}
theorem _root_.L2.PS.imp {s : Stmt} {t t' : TS} (p : PS X s t) (h : ∀ D σ H, t' D σ H → t D σ H) : PS X s t' := ⟨fun pins s σ H D I q => p.run pins s σ H D I (h D σ H q)⟩
theorem _root_.L2.PSs.imp {s : List Stmt} {t t' : TS} (p : PSs X s t) (h : ∀ D σ H, t' D σ H → t D σ H) : PSs X s t' := ⟨fun pins s σ H D I q => p.run pins s σ H D I (h D σ H q)⟩
end
section
variable {T : List Fn} {P : Nat → List B → CA} {Γ : Gam} {X : Cx} {m : Nat}
theorem sw_not {e : Expr} {t : Option Expr} {l : Nat} {env : PySem.Env} (h : lcB e = false) : swapsWith e t l env = pure false := by
  cases e <;> first | rfl | (simp [lcB] at h)
theorem CG.one {tg : Expr} {t : Tg} (h : CG Γ tg t) (env : PySem.Env) : (assignEach [tg] env).map (·.2) = [assign tg env] := by
  cases h <;> rfl
theorem asg_imp {K : PySem.W.Frag} {t : Tg} {x : Ex} {De : Ends} {σ : St} {H : Hp} (h : tS K (es1 T P m (.asg t x)) De σ H) : tAsg (tE K (ev T P x)) (tG K t) De σ H := by
  obtain ⟨M, e, D0, w⟩ := h
  simp only [es1] at w
  obtain ⟨r, e1, hx, w1⟩ := Ans.wp_bind w
  refine ⟨M, e, D0, r, e1, hx, fun v M1 H1 D1 S1 r1 => ?_⟩
  split at w1
  · rename_i e2 ha
    have w2 := val_wp w1
    exact ⟨M, e, σ, H, M1, e1, r, e2, D1, S1, r1, ha, fun σ' D2 S2 _ => w2 σ' M1 H1 D2 S2⟩
  · exact (stuck_wp w1).elim
theorem s_asg (C : Cok T P Γ X) {tg e : Expr} {pos : Pos} {t : Tg} {x : Ex} (h1 : CG Γ tg t) (h2 : CX Γ e x) (h3 : lcB e = false) (h4 : (pairB tg && pairB e) = false) : PS X (.Assign [tg] e pos) (tS X.K (es1 T P m (.asg t x))) := by
  refine (ps_asg (okX h2 X C) (pg_tg C h1) (sw_not h3) ?_ (h1.one _)).imp fun D σ H h => asg_imp h
  unfold swappedStores
  cases tg <;> first | rfl | (cases e <;> first | rfl | (simp [pairB] at h4))
theorem gname_of {K : PySem.W.Frag} {i : Nat} {v : V} {σ : St} {H : Hp} {Q : St → Hp → Prop} (hi : i < σ.length) (h : tG K (.nm i) v σ H Q) : gName i v σ H Q := by
  obtain ⟨M0, e0, σ0, H0, M, e, ⟨fr, d⟩, e', D0, S0, rs, ha, q⟩ := h
  simp only [asgT] at ha
  cases ha
  have hi : i < e.length := by rw [D0.len]; exact hi
  cases fr with
  | false =>
    have rs := Res.rep rs
    exact q _ (D0.put (b := .sh d) rs (fun z => by cases z) hi) (S0.put (b := .sh d) (fun z => by cases z) (fun _ z => by cases z) hi D0.len) (fun j hj => by
      rw [List.getElem?_set_ne]; intro z; exact hj (by simp [Tg.slots, z]))
  | true =>
    obtain ⟨a, rfl, h3, h4, h5⟩ : ∃ a, v = .ref a ∧ H0 a = none ∧ ¬ Owns e σ a ∧ Own K M H a d := rs
    exact q _ (D0.put (b := .ow d) ⟨a, rfl, h5⟩ (fun _ c ec => by cases ec; exact h4) hi) (S0.put (b := .ow d) (fun _ c ec => by cases ec; exact .inr h3) (fun _ z => by cases z) hi D0.len) (fun j hj => by
      rw [List.getElem?_set_ne]; intro z; exact hj (by simp [Tg.slots, z]))
theorem s_lc (C : Cok T P Γ X) {y : Str} {py : Pos} {elt tg iter : Expr} {ifs : List Expr} {scope : Scope} {pos spos : Pos} {i : Nat} {x : Ex} (h1 : Γ.N[i]? = some y) (h2 : CX Γ (.ListComp elt [⟨tg, iter, ifs, 0⟩] scope pos) x)
      (h3 : lcSwaps Γ scope pos y py = true) : PS X (.Assign [.Name y py] (.ListComp elt [⟨tg, iter, ifs, 0⟩] scope pos) spos) (tS X.K (es1 T P m (.asg (.nm i) x))) := by
  unfold lcSwaps at h3
  simp only [Bool.and_eq_true, Bool.not_eq_true'] at h3
  obtain ⟨⟨⟨k1, k2⟩, k3⟩, k4⟩ := h3
  have f1 : X.env.scope.kind = .function := by
    rw [C.sc]
    split at k1
    · assumption
    · cases k1
  have f2 : X.env.scope.names.lookup y = some .local := by
    rw [C.sc]
    split at k2
    · assumption
    · cases k2
  cases h2 with
  | @comp _ _ _ _ _ _ _ own x t it c b1 b2 b3 b4 b5 b6 =>
    have ok : BlkOk X.N X.env.scope scope own := by rw [C.N, C.sc]; exact blkOk_by b1
    have pe' : ∀ (s : Shared) (H : Hp) (A : Addr) (cl : List (Str × Addr)) (fp : List Addr), PE (X.blk s H scope (compEnvC scope cl A X.env) fp) elt (tE X.K fun e => (ev T P x e).bind fun r e1 => .val (false, r.2) e1) := fun s H A cl fp => pe_set (okX b5 _ (C.blk _ s H A cl fp))
    have pt' : ∀ (s : Shared) (H : Hp) (A : Addr) (cl : List (Str × Addr)) (fp : List Addr), PTs (X.blk s H scope (compEnvC scope cl A X.env) fp) ifs (tT X.K (evt T P c)) := fun s H A cl fp => okTs b4 _ (C.blk _ s H A cl fp)
    have pg' : ∀ (s : Shared) (H : Hp) (A : Addr) (cl : List (Str × Addr)) (fp : List Addr), PG (X.blk s H scope (compEnvC scope cl A X.env) fp) tg (tG X.K t) := fun s H A cl fp => pg_tg (C.blk _ s H A cl fp) b3
    have P0 := ps_setLc (spos := spos) C.calm (by rw [C.N]; exact C.nd) (by rw [C.N]; exact h1) f2 (sw_true f1 f2 k3 k4) (okI b2 X C) ok pg' pt' pe' (fold_plain b2 _)
    refine ⟨fun pins s σ H De I q => P0.run pins s σ H De I ?_⟩
    have q := asg_imp q
    have hi : i < σ.length := by rw [I.len, C.N]; exact (List.getElem?_eq_some_iff.mp h1).1
    refine lc_imp b6 ?_
    obtain ⟨M, e, D0, w⟩ := q
    exact ⟨M, e, D0, w.imp fun r e1 q v M1 H1 D1 S1 r1 => gname_of hi (q v M1 H1 D1 S1 r1)⟩
/-! ### own lists, changed -/
theorem onOwn_ok {e e' : Env} {i : Nat} {f : D → Option D} (h : onOwn e i f = some e') : ∃ b b', getB e i = some b ∧ b.own = true ∧ f b.dat = some b'.dat ∧ e' = setB e i (some b') ∧ b'.own = true ∧ ∀ d, b' = .io d → ∃ d0, b = .io d0 := by
  unfold onOwn at h
  split at h
  · rename_i d hb
    split at h
    · rename_i d' hd
      cases h
      exact ⟨.ow d, .ow d', hb, rfl, hd, rfl, rfl, fun _ z => by cases z⟩
    · cases h
  · rename_i d hb
    split at h
    · rename_i d' hd
      cases h
      exact ⟨.io d, .io d', hb, rfl, hd, rfl, rfl, fun _ _ => ⟨_, rfl⟩⟩
    · cases h
  · cases h
/-- what is at the i-th name's own list -/
theorem own_list {K : PySem.W.Frag} {M H : Hp} {e : Env} {σ : St} (D0 : Vd K M e σ H) {i : Nat} {b : B} {xs : List D} (hb : getB e i = some b) (ho : b.own = true) (hd : b.dat = .lst xs) : ∃ a vs, σ[i]? = some (some (.ref a)) ∧ M a = none ∧ H a = some (.lst vs) ∧ Reps K M vs xs := by
  obtain ⟨v, z1, z2⟩ := D0.slot i b hb
  have : ∃ a, v = .ref a ∧ Own K M H a (.lst xs) := by
    cases b with
    | sh _ => cases ho
    | ow d => obtain ⟨a, e, o⟩ := z2; have hd : d = .lst xs := hd; subst hd; exact ⟨a, e, o⟩
    | io d => obtain ⟨a, e, o⟩ := z2; have hd : d = .lst xs := hd; subst hd; exact ⟨a, e, o⟩
  obtain ⟨a, rfl, o⟩ := this
  cases o with
  | lst h1 h2 h3 => exact ⟨a, _, z1, h1, h2, h3⟩
theorem pk_slot {K : PySem.W.Frag} {M H : Hp} {e : Env} {σ : St} (D0 : Vd K M e σ H) {i : Nat} {d : D} (h : pk e (.sl i) = some d) : ∃ v, σ[i]? = some (some v) ∧ Top K M H v d := by
  have h' := h
  simp only [pk] at h
  split at h
  · rename_i b hb
    obtain ⟨v, z1, z2⟩ := D0.slot i b hb
    exact ⟨v, z1, D0.peek (o := .sl i) z1 h'⟩
  · cases h
theorem plainS_of {k : Expr} (h : plainI k = true) {o : Expr} {pos : Pos} (env : PySem.Env) : ∀ v, assign (.Subscript o k pos) env v = (do
      let ov ← holding [v] (eval o env)
      let iv ← holding [v, ov] (eval k env)
      standAt pos
      holding [v, ov, iv] (setItem ov iv v)
      release [v, ov, iv] []) := by
  intro v
  cases k <;> first | rfl | (simp [plainI] at h)
theorem sw_sub {e a b : Expr} {p : Pos} {l : Nat} {env : PySem.Env} : swapsWith e (some (.Subscript a b p)) l env = pure false := by
  cases e <;> rfl
theorem s_setx (C : Cok T P Γ X) {v : Str} {p p' pos : Pos} {k e : Expr} {i : Nat} {kx x : Ex} (h1 : Γ.N[i]? = some v) (h2 : visB Γ.sc v = true) (h3 : nodbg v = true) (h4 : CX Γ k kx) (h5 : plainI k = true) (h6 : CX Γ e x) :
    PS X (.Assign [.Subscript (.Name v p) k p'] e pos) (tS X.K (es1 T P m (.setx i kx x))) := by
  obtain ⟨d1, d2⟩ := nodbg_of h3
  have pv := pe_var (i := i) (pos := p) (by rw [C.N]; exact h1) (visB_vis C h2) d1 d2
  refine (ps_asg (pe_set (okX h6 X C)) (pg_sub pv (pe_opd C h4 (okX h4 X C)) set_list (plainS_of h5 _)) (sw_sub (a := .Name v p) (b := k) (p := p') (l := pos.line) (env := X.env)) rfl rfl).imp fun De σ H ⟨M, e, D0, w⟩ => ?_
  simp only [es1] at w
  obtain ⟨r, e1, hx, w1⟩ := Ans.wp_bind w
  refine ⟨M, e, D0, (false, r.2), e1, by show (ev T P x e).bind _ = _; rw [hx]; rfl, fun u M1 H1 D1 S1 r1 => ?_⟩
  have r1 := Res.rep r1
  split at w1
  · rename_i hp1
    obtain ⟨w0, z1, _⟩ := pk_slot D1 hp1
    obtain ⟨o, e2, hk, w2⟩ := Ans.wp_bind w1
    refine ⟨w0, z1, M1, e1, D1, o, e2, hk, fun kv M2 H2 D2 S2 r2 => ?_⟩
    split at w2
    · rename_i dk hpk
      split at w2
      · rename_i e3 hown
        have w3 := val_wp w2
        obtain ⟨b, b', hb, ho, hf, rfl, ho', hio⟩ := onOwn_ok hown
        unfold putAt at hf
        split at hf
        · rename_i xs j hd
          split at hf
          · rename_i q hq
            have hf : D.lst (xs.set q r.2) = b'.dat := Option.some.inj hf
            obtain ⟨a, vs, y1, y2, y3, y4⟩ := own_list D2 hb ho hd
            rw [z1] at y1
            obtain rfl : w0 = .ref a := by injection y1 with y1; injection y1
            have kv' : kv = .int j := (D2.peek r2 hpk).int
            subst kv'
            refine ⟨a, vs, j, q, rfl, rfl, y3, by rw [y4.length]; exact atN_ix hq, ?_⟩
            have ow : Own X.K M2 (upd H2 a (.lst (vs.set q u))) a b'.dat := by
              rw [← hf]
              exact .lst y2 upd_same (y4.set q (r1.mono S2.same))
            exact w3 _ M2 _ (D2.change hb ho z1 ho' ow) ((S1.trans S2).trans (Stp.change hb ho z1 hio ⟨_, y3⟩))
          · cases hf
        · cases hf
      · exact (stuck_wp w2).elim
    · exact (stuck_wp w2).elim
  · exact (stuck_wp w1).elim
theorem s_app (C : Cok T P Γ X) {v : Str} {p ap pos pos' : Pos} {e : Expr} {i : Nat} {x : Ex} (h1 : Γ.N[i]? = some v) (h2 : visB Γ.sc v = true) (h3 : nodbg v = true) (h4 : CX Γ e x) (h5 : (ap.endLine == pos.line) = true) :
    PS X (.Expr (.Call (.Attribute (.Name v p) "append" ap) [e] [] pos) pos') (tS X.K (es1 T P m (.app i x))) := by
  obtain ⟨d1, d2⟩ := nodbg_of h3
  have pv := pe_var (i := i) (pos := p) (by rw [C.N]; exact h1) (visB_vis C h2) d1 d2
  have pm := pe_bm (apos := ap) (cpos := pos) PySem.F.plainAttrs_list PySem.F.slot_list_append PySem.F.type_list_append mt_append pv (pa_one h4 (pe_set (okX h4 X C))) (by rfl) (by rw [star1 h4]; rfl) h5 (star1 h4 _) (by rfl)
  refine (ps_expr pm rfl).imp fun De σ H ⟨M, e, D0, w⟩ => ?_
  simp only [es1] at w
  split at w
  · rename_i xs0 hp
    obtain ⟨w0, z1, tp⟩ := pk_slot D0 hp
    obtain ⟨a0, vs0, rfl, hH0, _⟩ := tp.lst D0.same
    obtain ⟨r, e1, hx, w1⟩ := Ans.wp_bind w
    refine ⟨.ref a0, z1, .inl ⟨rfl, vs0, SqL.of hH0⟩, M, e, D0, (false, r.2), e1, by show (ev T P x e).bind _ = _; rw [hx]; rfl, fun u M1 H1 D1 S1 r1 => ?_⟩
    have r1 := Res.rep r1
    split at w1
    · rename_i e2 hown
      have w3 := val_wp w1
      obtain ⟨b, b', hb, ho, hf, rfl, ho', hio⟩ := onOwn_ok hown
      unfold addD at hf
      split at hf
      · rename_i xs hd
        split at hf
        · rename_i hl
          have hf : D.lst (xs ++ [r.2]) = b'.dat := Option.some.inj hf
          obtain ⟨a, vs, y1, y2, y3, y4⟩ := own_list D1 hb ho hd
          rw [z1] at y1
          obtain rfl : a0 = a := by injection y1 with y1; injection y1 with y1; injection y1
          refine ⟨a0, vs, u, rfl, rfl, y3, by rw [y4.length]; exact Nat.lt_of_lt_of_le hl (fit_le (Nat.le_refl _)), ?_⟩
          have ow : Own X.K M1 (upd H1 a0 (.lst (vs ++ [u]))) a0 b'.dat := by
            rw [← hf]
            exact .lst y2 upd_same (y4.append (.cons r1 .nil))
          exact w3 _ M1 _ (D1.change hb ho z1 ho' ow) (S1.trans (Stp.change hb ho z1 hio ⟨_, y3⟩))
        · cases hf
      · cases hf
    · exact (stuck_wp w1).elim
  · exact (stuck_wp w).elim
theorem s_ext (C : Cok T P Γ X) {v : Str} {p ap pos pos' : Pos} {e : Expr} {i : Nat} {x : Ex} (h1 : Γ.N[i]? = some v) (h2 : visB Γ.sc v = true) (h3 : nodbg v = true) (h4 : CX Γ e x) (h5 : (ap.endLine == pos.line) = true) :
    PS X (.Expr (.Call (.Attribute (.Name v p) "extend" ap) [e] [] pos) pos') (tS X.K (es1 T P m (.ext i x))) := by
  obtain ⟨d1, d2⟩ := nodbg_of h3
  have pv := pe_var (i := i) (pos := p) (by rw [C.N]; exact h1) (visB_vis C h2) d1 d2
  have pm := pe_bm (apos := ap) (cpos := pos) PySem.F.plainAttrs_list PySem.F.slot_list_extend PySem.F.type_list_extend mt_extend pv (pa_one h4 (pe_opd C h4 (okX h4 X C))) (by rfl) (by rw [star1 h4]; rfl) h5 (star1 h4 _) (by rfl)
  refine (ps_expr pm rfl).imp fun De σ H ⟨M, e, D0, w⟩ => ?_
  simp only [es1] at w
  split at w
  · rename_i xs0 hp
    obtain ⟨w0, z1, tp⟩ := pk_slot D0 hp
    obtain ⟨a0, vs0, rfl, hH0, _⟩ := tp.lst D0.same
    obtain ⟨o, e1, hx, w1⟩ := Ans.wp_bind w
    refine ⟨.ref a0, z1, .inl ⟨rfl, vs0, SqL.of hH0⟩, M, e, D0, o, e1, hx, fun u M1 H1 D1 S1 r1 => ?_⟩
    split at w1
    · rename_i d hpo
      split at w1
      · rename_i e2 hown
        have w3 := val_wp w1
        obtain ⟨b, b', hb, ho, hf, rfl, ho', hio⟩ := onOwn_ok hown
        unfold extD at hf
        split at hf
        · rename_i xs hd
          split at hf
          · rename_i ys
            split at hf
            · rename_i hl
              have hf : D.lst (xs ++ ys) = b'.dat := Option.some.inj hf
              obtain ⟨a, vs, y1, y2, y3, y4⟩ := own_list D1 hb ho hd
              rw [z1] at y1
              obtain rfl : a0 = a := by injection y1 with y1; injection y1 with y1; injection y1
              obtain ⟨c, us, rfl, hc, ru⟩ := (D1.peek r1 hpo).lst D1.same
              refine ⟨a0, c, vs, us, rfl, rfl, y3, hc, by rw [y4.length, ru.length]; exact fit_le hl, ?_⟩
              have ow : Own X.K M1 (upd H1 a0 (.lst (vs ++ us))) a0 b'.dat := by
                rw [← hf]
                exact .lst y2 upd_same (y4.append ru)
              exact w3 _ M1 _ (D1.change hb ho z1 ho' ow) (S1.trans (Stp.change hb ho z1 hio ⟨_, y3⟩))
            · cases hf
          · cases hf
        · cases hf
      · exact (stuck_wp w1).elim
    · exact (stuck_wp w1).elim
  · exact (stuck_wp w).elim
end
end L2.Eng
namespace L2.Eng
open PySem PySem.Spec PyProof.Rows
section
variable {T : List Fn} {P : Nat → List B → CA} {Γ : Gam} {X : Cx} {m : Nat}
def rA (K : PySem.W.Frag) (f : D → D → Option D) : R2 := fun x y H Q => ∃ M dx dy r, Same M H ∧ Top K M H x dx ∧ Top K M H y dy ∧ f dx dy = some r ∧ ∀ v, Rep K M v r → Q v H
theorem opr_aug (o : Operator) : OpR X (inplaceOp o) (rA X.K (augD o)) := by
  intro pins s σ H x y v u Q I rx ry h
  obtain ⟨M, dx, dy, r, sm, tx, ty, hf, q⟩ := h
  unfold augD at hf
  split at hf
  · cases hf; exact iop_add pins s σ H x y v u Q I rx ry ⟨_, _, tx.int, ty.int, q _ (.int _)⟩
  · split at hf
    · rename_i hc
      cases hf; exact iop_add_str pins s σ H x y v u Q I rx ry ⟨_, _, tx.str, ty.str, fit_le hc, q _ (.str _)⟩
    · cases hf
  · cases hf; exact iop_sub pins s σ H x y v u Q I rx ry ⟨_, _, tx.int, ty.int, q _ (.int _)⟩
  · split at hf
    · rename_i hc
      cases hf; exact iop_mul pins s σ H x y v u Q I rx ry ⟨_, _, tx.int, ty.int, hc, q _ (.int _)⟩
    · cases hf
  · split at hf
    · rename_i hc
      cases hf; exact iop_mod pins s σ H x y v u Q I rx ry ⟨_, _, tx.int, ty.int, hc, q _ (.int _)⟩
    · cases hf
  · split at hf
    · rename_i hc
      cases hf; exact iop_fdiv pins s σ H x y v u Q I rx ry ⟨_, _, tx.int, ty.int, hc, q _ (.int _)⟩
    · cases hf
  · split at hf
    · rename_i hc
      cases hf; exact iop_shl pins s σ H x y v u Q I rx ry ⟨_, _, tx.int, ty.int, hc, q _ (.int _)⟩
    · cases hf
  · split at hf
    · rename_i hc
      cases hf; exact iop_shr pins s σ H x y v u Q I rx ry ⟨_, _, tx.int, ty.int, hc, q _ (.int _)⟩
    · cases hf
  · cases hf; exact iop_and pins s σ H x y v u Q I rx ry ⟨_, _, tx.int, ty.int, q _ (.int _)⟩
  · cases hf; exact iop_or pins s σ H x y v u Q I rx ry ⟨_, _, tx.int, ty.int, q _ (.int _)⟩
  · cases hf; exact iop_xor pins s σ H x y v u Q I rx ry ⟨_, _, tx.int, ty.int, q _ (.int _)⟩
  · cases hf
/-- a number or a text -/
theorem aug_flat {o : Operator} {a b r : D} (h : augD o a b = some r) : (∀ {K : PySem.W.Frag} {M H M' H' : Hp} {v : V}, Top K M H v a → Top K M' H' v a) := by
  intro K M H M' H' v t
  have ha : (∃ i, a = .int i) ∨ ∃ s, a = .str s := by
    unfold augD at h
    split at h <;> first | exact .inl ⟨_, rfl⟩ | exact .inr ⟨_, rfl⟩ | cases h
  rcases ha with ⟨i, rfl⟩ | ⟨s, rfl⟩
  · rw [t.int]; exact .inl (.int _)
  · rw [t.str]; exact .inl (.str _)
theorem s_aug (C : Cok T P Γ X) {v : Str} {p pos : Pos} {o : Operator} {e : Expr} {i : Nat} {x : Ex} (h1 : Γ.N[i]? = some v) (h2 : locB Γ v = true) (h3 : CX Γ e x) : PS X (.AugAssign (.Name v p) o e pos) (tS X.K (es1 T P m (.aug i o x))) := by
  obtain ⟨l1, l2⟩ := locB_loc C h2
  refine (ps_aug (ti := rA X.K (augD o)) (by rw [C.N]; exact C.nd) (by rw [C.N]; exact h1) l1 (pe_opd C h3 (okX h3 X C)) (fun pins s σ H x y v u Q I rx ry q => opr_aug o pins s σ H x y v u Q I rx ry q) l2).imp fun De σ H ⟨M, e, D0, w⟩ => ?_
  simp only [es1] at w
  split at w
  · rename_i a hp
    obtain ⟨w0, z1, tp⟩ := pk_slot D0 hp
    obtain ⟨y, e1, hx, w1⟩ := Ans.wp_bind w
    refine ⟨w0, z1, M, e, D0, y, e1, hx, fun u M1 H1 D1 S1 r1 => ?_⟩
    split at w1
    · rename_i b hpb
      split at w1
      · rename_i r hr
        have w2 := val_wp w1
        refine ⟨M1, a, b, r, D1.same, aug_flat hr tp, D1.peek r1 hpb, hr, fun z rz => ?_⟩
        have hi : i < e1.length := by
          have h0 := (List.getElem?_eq_some_iff.mp z1).1
          rw [D1.len]; exact h0
        exact w2 _ M1 H1 (D1.put (b := .sh r) rz (fun z => by cases z) hi) (S1.put (b := .sh r) (fun z => by cases z) (fun _ z => by cases z) hi D1.len)
      · exact (stuck_wp w1).elim
    · exact (stuck_wp w1).elim
  · exact (stuck_wp w).elim
theorem swap_par {x y : Str} {px py pt pt2 : Pos} {a b : Expr} {xs : Exs} {kt k2 : Nat} {env : PySem.Env} (c : CXs Γ [a, b] xs) (hk : env.scope.kind = .function) (hx : env.scope.names.lookup x = some .local) (hy : env.scope.names.lookup y = some .local)
    (hl : (px.line == py.line) = true) (h9 : [a, b].all (foldedForSure 8) = false) (h10 : [a, b].all (constantsAlone 8) = false) (h11 : (x == y) = false) :
    swappedStores [.Tuple [.Name x px, .Name y py] kt pt] (.Tuple [a, b] k2 pt2) env = pure (some [x, y]) := by
  have kx : env.kindOf x = some .local := hx
  have ky : env.kindOf y = some .local := hy
  have hb : env.blockKind = .function := by unfold Env.blockKind; rw [hk]; rfl
  have hl' : py.line = px.line := (beq_iff_eq.mp hl).symm
  have hs : ([a, b].any fun | .Starred .. => true | _ => false) = false := by
    cases c with
    | cons c1 c2 =>
      cases c2 with
      | cons c2 c3 =>
        cases c1 <;> cases c2 <;> rfl
  have hne : (Option.some NameKind.local == some NameKind.local) = true := by decide
  have hed : ([x, y].eraseDups).length = 2 := by
    have : [x, y].eraseDups = [x, y] := by
      rw [List.eraseDups_cons]
      have : (y == x) = false := by
        cases q : (y == x) with
        | false => rfl
        | true => rw [eq_of_beq q] at h11; simp at h11
      simp [this, List.eraseDups_cons]
    rw [this]; rfl
  unfold swappedStores
  simp only [Expr.pos, List.length_cons, List.length_nil, List.head?_cons, Option.map_some, Option.getD_some, List.filterMap_cons, List.filterMap_nil, kx, ky, hl', hb, hs, h9, h10, hne, beq_self_eq_true, Bool.and_self, if_true]
  simp [hed]
  intro h
  exfalso
  cases c with
  | cons c1 c2 =>
    cases c2 with
    | cons c2 c3 => cases c1 <;> cases c2 <;> simp at h
theorem s_par (C : Cok T P Γ X) {x y : Str} {a b : Expr} {px py pt pt2 pos : Pos} {kt k2 : Nat} {i j : Nat} {xs : Exs} (h1 : Γ.N[i]? = some x) (h2 : Γ.N[j]? = some y) (h3 : (i == j) = false) (h4 : (match Γ.sc.names.lookup x with | some .local => true | _ => false) = true) (h5 : (match Γ.sc.names.lookup y with | some .local => true | _ => false) = true)
      (h6 : CXs Γ [a, b] xs) (h7 : (match Γ.sc.kind with | .function => true | _ => false) = true) (h8 : (px.line == py.line) = true) (h9 : [a, b].all (foldedForSure 8) = false) (h10 : [a, b].all (constantsAlone 8) = false) (h11 : (x == y) = false) :
      PS X (.Assign [.Tuple [.Name x px, .Name y py] kt pt] (.Tuple [a, b] k2 pt2) pos) (tS X.K (es1 T P m (.par [i, j] xs))) := by
  have f1 : X.env.scope.kind = .function := by
    rw [C.sc]
    split at h7
    · assumption
    · cases h7
  have f2 : X.env.scope.names.lookup x = some .local := by
    rw [C.sc]
    split at h4
    · assumption
    · cases h4
  have f3 : X.env.scope.names.lookup y = some .local := by
    rw [C.sc]
    split at h5
    · assumption
    · cases h5
  have P0 := ps_par (k2 := k2) (kt := kt) (pt := pt) (pt2 := pt2) (px := px) (py := py) (pos := pos) C.calm (by rw [C.N]; exact C.nd) (by rw [C.N]; exact h1) (by rw [C.N]; exact h2) (by intro z; simp [z] at h3) f2 f3 (okXs h6 X C) (swap_par h6 f1 f2 f3 h8 h9 h10 h11)
  refine ⟨fun pins s σ H De I q => P0.run pins s σ H De I ?_⟩
  obtain ⟨M, e, D0, w⟩ := q
  have hi : i < e.length := by rw [D0.len, I.len, C.N]; exact (List.getElem?_eq_some_iff.mp h1).1
  have hj : j < e.length := by rw [D0.len, I.len, C.N]; exact (List.getElem?_eq_some_iff.mp h2).1
  simp only [es1] at w
  obtain ⟨ops, e1, hx, w1⟩ := Ans.wp_bind w
  refine ⟨M, e, D0, ops, e1, hx, fun vs M1 H1 D1 S1 r1 => ?_⟩
  split at w1
  · rename_i ds e2 ht
    split at w1
    · rename_i e3 ha
      have w2 := val_wp w1
      obtain ⟨M2, D2, S2, r2⟩ := D1.takes r1 ht
      have le : e2.length = e.length := by rw [D2.len, D0.len]
      obtain ⟨hl, σ', hσ, D3, S3, _⟩ := asgN_ok D2 (S1.trans S2) r2 (fun k hk => by
        rw [le]
        rcases List.mem_cons.mp hk with rfl | hk
        · exact hi
        · rcases List.mem_cons.mp hk with rfl | hk
          · exact hj
          · cases hk) ha
      have : ∃ v w, vs = [v, w] := by
        match vs, hl with
        | [v, w], _ => exact ⟨v, w, rfl⟩
      obtain ⟨v, w, rfl⟩ := this
      refine ⟨v, w, rfl, ?_⟩
      have e4 : σ' = (σ.set i (some v)).set j (some w) := hσ
      rw [← e4]
      exact w2 σ' M2 H1 D3 S3
    · exact (stuck_wp w1).elim
  · exact (stuck_wp w1).elim
theorem s_ex {e : Expr} {pos : Pos} {x : Ex} (p : PE X e (tE X.K (ev T P x))) (h2 : lcB e = false) : PS X (.Expr e pos) (tS X.K (es1 T P m (.ex x))) := by
  refine (ps_expr p (sw_not h2)).imp fun De σ H ⟨M, e, D0, w⟩ => ?_
  simp only [es1] at w
  obtain ⟨r, e1, hx, w1⟩ := Ans.wp_bind w
  have w2 := val_wp w1
  exact ⟨M, e, D0, r, e1, hx, fun v M1 H1 D1 S1 _ => w2 σ M1 H1 D1 S1⟩
theorem s_doc {x : Str} {j : Nat} {pos pos' : Pos} : PS X (.Expr (.Constant (.str x) j pos) pos') (tS X.K (es1 T P m .pass)) := by
  refine ps_doc.imp fun De σ H ⟨M, e, D0, w⟩ => ?_
  simp only [es1] at w
  exact val_wp w σ M H D0 Stp.refl
theorem s_pass {pos : Pos} : PS X (.Pass pos) (tS X.K (es1 T P m .pass)) := by
  refine ps_pass.imp fun De σ H ⟨M, e, D0, w⟩ => ?_
  simp only [es1] at w
  exact val_wp w σ M H D0 Stp.refl
theorem s_brk {pos : Pos} : PS X (.Break pos) (tS X.K (es1 T P m .brk)) := by
  refine ps_break.imp fun De σ H ⟨M, e, D0, w⟩ => ?_
  simp only [es1] at w
  exact val_wp w σ M H D0 Stp.refl
theorem s_cnt {pos : Pos} : PS X (.Continue pos) (tS X.K (es1 T P m .cnt)) := by
  refine ps_continue.imp fun De σ H ⟨M, e, D0, w⟩ => ?_
  simp only [es1] at w
  exact val_wp w σ M H D0 Stp.refl
theorem s_never {s : Stmt} : PS X s (tS X.K (es1 T P m .never)) := by
  refine ps_never.imp fun De σ H ⟨M, e, D0, w⟩ => ?_
  simp only [es1] at w
  exact (stuck_wp w).elim
theorem s_ret0 {pos : Pos} : PS X (.Return none pos) (tS X.K (es1 T P m .ret0)) := by
  refine ps_retN.imp fun De σ H ⟨M, e, D0, w⟩ => ?_
  simp only [es1] at w
  exact val_wp w .non σ M H D0 Stp.refl (Res.toR (Res.still .non))
theorem s_ret (C : Cok T P Γ X) {e : Expr} {pos : Pos} {x : Ex} (c : CX Γ e x) : PS X (.Return (some e) pos) (tS X.K (es1 T P m (.ret x))) := by
  by_cases hx : ∃ i, x = .var i
  · obtain ⟨i, rfl⟩ := hx
    cases c with
    | one _ h2 => exact absurd rfl (h2 i)
    | var h1 h2 h3 =>
      obtain ⟨d1, d2⟩ := nodbg_of h3
      refine (ps_ret (pe_var (i := i) (by rw [C.N]; exact h1) (visB_vis C h2) d1 d2)).imp fun De σ H ⟨M, e, D0, w⟩ => ?_
      simp only [es1] at w
      split at w
      · rename_i d hb
        have w := val_wp w
        obtain ⟨v, z1, a, rfl, o⟩ := D0.slot i _ hb
        refine ⟨.ref a, z1, w (.ref a) σ M H (D0.drop i) (Stp.drop i) ?_⟩
        unfold ResR
        rw [if_pos rfl]
        refine ⟨a, rfl, .inl ⟨i, .ow d, hb, rfl, z1⟩, fun ⟨j, b, h1, h2, h3⟩ => ?_, o⟩
        by_cases hj : j = i
        · subst hj
          rw [getB_setB_same (getB_lt hb)] at h1; cases h1
        · rw [getB_setB_ne hj] at h1
          exact hj (D0.inj j i a ⟨b, h1, h2, h3⟩ ⟨.ow d, hb, rfl, z1⟩)
      · rename_i d hb
        have w := val_wp w
        obtain ⟨v, z1, r⟩ := D0.slot i _ hb
        exact ⟨v, z1, w v σ M H D0 Stp.refl (Res.toR (Res.still r))⟩
      · exact (stuck_wp w).elim
  · refine (ps_ret (okX c X C)).imp fun De σ H ⟨M, e, D0, w⟩ => ⟨M, e, D0, ?_⟩
    have e1 : es1 T P m (.ret x) e = (ev T P x e).bind fun r e1 => .val (.rt r.1 r.2) e1 := by
      cases x <;> first | rfl | exact absurd ⟨_, rfl⟩ hx
    rw [e1] at w
    refine (Ans.wp_bind w).imp fun r e2 w2 v M' H' D1 S1 rs => ?_
    exact val_wp w2 v σ M' H' D1 S1 (Res.toR rs)
theorem s_ite {c : Expr} {a b : List Stmt} {pos : Pos} {t : Tt} {x y : Sms} (pc : PT X c (tT X.K (evt T P t))) (pa : PSs X a (tS X.K (es T P m x))) (pb : PSs X b (tS X.K (es T P m y))) : PS X (.If c a b pos) (tS X.K (es1 T P m (.ite t x y))) := by
  refine (ps_if pc pa pb).imp fun De σ H ⟨M, e, D0, w⟩ => ?_
  simp only [es1] at w
  obtain ⟨k, e1, hx, w1⟩ := Ans.wp_bind w
  refine ⟨M, e, D0, k, e1, hx, fun M1 H1 D1 S1 => ?_⟩
  cases k with
  | true =>
    rw [if_pos rfl] at w1 ⊢
    exact ⟨M1, e1, D1, w1.imp fun fl e2 q => q.from S1⟩
  | false =>
    rw [if_neg (by simp)] at w1 ⊢
    exact ⟨M1, e1, D1, w1.imp fun fl e2 q => q.from S1⟩
theorem ss_nil : PSs X [] (tS X.K (es T P m .nil)) := by
  refine pss_nil.imp fun De σ H ⟨M, e, D0, w⟩ => ?_
  simp only [es] at w
  exact val_wp w σ M H D0 Stp.refl
theorem ss_cons {s : Stmt} {r : List Stmt} {x : Sm} {xs : Sms} (p : PS X s (tS X.K (es1 T P m x))) (q : PSs X r (tS X.K (es T P m xs))) : PSs X (s :: r) (tS X.K (es T P m (.cons x xs))) := by
  refine (pss_cons p q).imp fun De σ H ⟨M, e, D0, w⟩ => ?_
  simp only [es] at w
  refine ⟨M, e, D0, (Ans.wp_bind w).imp fun fl e1 w1 => ?_⟩
  cases fl with
  | nx => exact fun σ' M' H' D1 S1 => ⟨M', e1, D1, w1.imp fun fl e2 z => z.from S1⟩
  | bk =>
    have w2 := val_wp w1
    exact w2
  | ct =>
    have w2 := val_wp w1
    exact w2
  | rt f d =>
    have w2 := val_wp w1
    exact w2
/-! ### loops -/
theorem s_wh {c : Expr} {a : List Stmt} {pos : Pos} {t : Tt} {x : Sms} (hp : PassesOwn (model X.prog X.w) X.A X.env X.xe) (pc : PT X c (tT X.K (evt T P t))) (pa : PSs X a (tS X.K (es T P m x))) : PS X (.While c a [] pos) (tS X.K (es1 T P m (.wh t x))) := by
  refine (ps_while hp pc pa).imp fun De σ H ⟨M, e, D0, w⟩ => ?_
  simp only [es1] at w
  refine ⟨fun n σ2 H2 => ∃ M2 e2, Vd X.K M2 e2 σ2 H2 ∧ Stp e σ M H e2 σ2 M2 H2 ∧ (whN (evt T P t) (es T P m x) n e2).wp (Post X.K De e σ M H), ⟨m, M, e, D0, Stp.refl, w⟩, fun n σ2 H2 ⟨M2, e2, D2, S2, w2⟩ => ?_⟩
  cases n with
  | zero => exact (stuck_wp w2).elim
  | succ n =>
    simp only [whN] at w2
    obtain ⟨k, e3, hc, w3⟩ := Ans.wp_bind w2
    refine ⟨M2, e2, D2, k, e3, hc, fun M3 H3 D3 S3 => ?_⟩
    cases k with
    | false =>
      rw [if_neg (by simp)] at w3 ⊢
      exact val_wp w3 σ2 M3 H3 D3 (S2.trans S3)
    | true =>
      rw [if_pos rfl] at w3 ⊢
      refine ⟨_, fun σ' H' z => ⟨n, Nat.lt_succ_self n, z⟩, M3, e3, D3, (Ans.wp_bind w3).imp fun fl e4 w4 => ?_⟩
      cases fl with
      | nx => exact fun σ' M' H' D4 S4 => ⟨M', e4, D4, (S2.trans S3).trans S4, w4⟩
      | ct => exact fun σ' M' H' D4 S4 => ⟨M', e4, D4, (S2.trans S3).trans S4, w4⟩
      | bk =>
        have w4 := val_wp w4
        exact fun σ' M' H' D4 S4 => w4 σ' M' H' D4 ((S2.trans S3).trans S4)
      | rt fr d =>
        have w4 := val_wp w4
        exact Post.from (De := { De with nx := _, ct := _, bk := De.nx }) (S2.trans S3) w4
theorem s_for (C : Cok T P Γ X) {tg it : Expr} {a : List Stmt} {pos : Pos} {g : Tg} {w : It} {x : Sms} (hp : PassesOwn (model X.prog X.w) X.A X.env X.xe) (h1 : CG Γ tg g) (h2 : CI Γ tg it w) (pa : PSs X a (tS X.K (es T P m x))) :
    PS X (.For tg it a [] pos) (tS X.K (es1 T P m (.for g w x))) := by
  refine (ps_for hp C.calm (okI h2 X C) (pg_tg C h1) pa (fold_plain h2 _)).imp fun De σ H ⟨M, e, D0, wp⟩ => ?_
  simp only [es1] at wp
  obtain ⟨items, e1, hit, w1⟩ := Ans.wp_bind wp
  refine ⟨M, e, D0, items, e1, hit, fun J M1 H1 D1 S1 wk => ?_⟩
  generalize hf : (fun d e2 => match asgT g false d e2 with
        | some e3 => es T P m x e3
        | none => Ans.stuck) = f at w1
  refine for_it wk (fun i σ2 H2 => ∃ M2 e2, Vd X.K M2 e2 σ2 H2 ∧ Stp e1 σ M1 H1 e2 σ2 M2 H2 ∧ (forN f (items.drop i) e2).wp (Post X.K De e σ M H)) ⟨M1, e1, D1, Stp.refl, by simpa using w1⟩ (fun i σ2 H2 _ ⟨M2, e2, D2, S2, _⟩ => S2.same.trans D2.same) (fun i v σ2 H2 H' hi ⟨M2, e2, D2, S2, w2⟩ ⟨d, hd, y⟩ => ?_) (fun σ2 H2 ⟨M2, e2, D2, S2, w2⟩ => ?_)
  · obtain ⟨M3, pu, rv⟩ := y M2 S2.same D2.same
    have hdrop : items.drop i = d :: items.drop (i + 1) := by
      rw [List.drop_eq_getElem_cons hi]
      have := List.getElem?_eq_getElem hi
      rw [hd] at this
      rw [← Option.some.inj this]
    rw [hdrop] at w2
    simp only [forN] at w2
    obtain ⟨fl, e4, h4, w3⟩ := Ans.wp_bind w2
    rw [← hf] at h4
    simp only at h4
    split at h4
    · rename_i e3 ha
      have D3 := pu.vd D2
      have S3 := S2.trans (pu.stp (e := e2) (σ := σ2))
      refine ⟨M1, e1, σ, H1, M3, e2, (false, d), e3, D3, S3, Res.still rv, ha, fun σ3 D4 S4 _ => ⟨M3, e3, D4, fl, e4, h4, ?_⟩⟩
      cases fl with
      | nx => exact fun σ' M' H' D5 S5 => ⟨M', e4, D5, S4.trans S5, w3⟩
      | ct => exact fun σ' M' H' D5 S5 => ⟨M', e4, D5, S4.trans S5, w3⟩
      | bk =>
        have w3 := val_wp w3
        exact fun σ' M' H' D5 S5 => w3 σ' M' H' D5 (S1.trans (S4.trans S5))
      | rt fr d =>
        have w3 := val_wp w3
        exact Post.from (De := { De with nx := _, ct := _, bk := De.nx }) (S1.trans S4) w3
    · cases h4
  · rw [List.drop_length] at w2
    simp only [forN] at w2
    exact val_wp w2 σ2 M2 H2 D2 (S1.trans S2)
mutual
theorem okS : ∀ {s : Stmt} {x : Sm}, CS Γ s x → ∀ X, Cok T P Γ X → PassesOwn (model X.prog X.w) X.A X.env X.xe → PS X s (tS X.K (es1 T P m x))
  | _, _, .asg h1 h2 h3 h4, X, C, hp => s_asg C h1 h2 h3 h4
  | _, _, .lc h1 h2 h3, X, C, hp => s_lc C h1 h2 h3
  | _, _, .setx h1 h2 h3 h4 h5 h6, X, C, hp => s_setx C h1 h2 h3 h4 h5 h6
  | _, _, .aug h1 h2 h3, X, C, hp => s_aug C h1 h2 h3
  | _, _, .par h1 h2 h3 h4 h5 h6 h7 h8 h9 h10 h11, X, C, hp => s_par C h1 h2 h3 h4 h5 h6 h7 h8 h9 h10 h11
  | _, _, .app h1 h2 h3 h4 h5, X, C, hp => s_app C h1 h2 h3 h4 h5
  | _, _, .ext h1 h2 h3 h4 h5, X, C, hp => s_ext C h1 h2 h3 h4 h5
  | _, _, .doc, X, C, hp => s_doc
  | _, _, .ex h1 h2, X, C, hp => s_ex (okX h1 X C) h2
  | _, _, .ret h1, X, C, hp => s_ret C h1
  | _, _, .ret0, X, C, hp => s_ret0
  | _, _, .ite h1 h2 h3, X, C, hp => s_ite (okT h1 X C).1 (okSs h2 X C hp) (okSs h3 X C hp)
  | _, _, .wh h1 h2, X, C, hp => s_wh hp (okT h1 X C).1 (okSs h2 X C hp)
  | _, _, .for h1 h2 h3, X, C, hp => s_for C hp h1 h2 (okSs h3 X C hp)
  | _, _, .brk, X, C, hp => s_brk
  | _, _, .cnt, X, C, hp => s_cnt
  | _, _, .pass, X, C, hp => s_pass
  | _, _, .never, X, C, hp => s_never
termination_by s => sizeOf s
theorem okSs : ∀ {s : List Stmt} {x : Sms}, CSs Γ s x → ∀ X, Cok T P Γ X → PassesOwn (model X.prog X.w) X.A X.env X.xe → PSs X s (tS X.K (es T P m x))
  | _, _, .nil, X, C, hp => ss_nil
  | _, _, .cons h1 h2, X, C, hp => ss_cons (okS h1 X C hp) (okSs h2 X C hp)
termination_by s => sizeOf s
end
end
end L2.Eng
namespace L2.Eng
open PySem PySem.Spec PyProof.Rows
/-! ## a def keeps its promise -/
section
variable {K : PySem.W.Frag}
theorem getB_append : ∀ (a b : Env) (i : Nat), getB (a ++ b) i = if i < a.length then getB a i else getB b (i - a.length)
  | [], b, i => by simp
  | x :: a, b, 0 => by simp [getB]
  | x :: a, b, i + 1 => by
    simp only [List.cons_append, getB, List.length_cons]
    rw [getB_append a b i]
    by_cases h : i < a.length
    · rw [if_pos h, if_pos (by omega)]
    · rw [if_neg h, if_neg (by omega)]
      congr 1
      omega
theorem getB_nones : ∀ (n i : Nat), getB (List.replicate n none) i = none
  | 0, i => rfl
  | n + 1, 0 => rfl
  | n + 1, i + 1 => by simpa [List.replicate_succ, getB] using getB_nones n i
theorem getB_pad (bs : List B) (n i : Nat) : getB (bs.map some ++ List.replicate n none) i = getB (bs.map some) i := by
  rw [getB_append]
  split
  · rfl
  · rename_i h
    rw [getB_nones, getB_none_of_le (by omega)]
theorem pad_at {vs : List V} {n i : Nat} {x : V} : (vs.map some ++ List.replicate n none)[i]? = some (some x) ↔ (vs.map some)[i]? = some (some x) := by
  by_cases h : i < (vs.map some).length
  · rw [List.getElem?_append_left h]
  · rw [List.getElem?_append_right (by omega), List.getElem?_eq_none (l := vs.map some) (by omega)]
    constructor
    · intro z
      rw [List.getElem?_replicate] at z
      split at z
      · cases z
      · cases z
    · intro z; cases z
theorem ownAt_pad {bs : List B} {vs : List V} {n k : Nat} {i : Nat} {a : Addr} : OwnAt (bs.map some ++ List.replicate n none) (vs.map some ++ List.replicate k none) i a ↔ OwnAt (bs.map some) (vs.map some) i a := by
  unfold OwnAt
  rw [getB_pad]
  constructor
  · rintro ⟨b, h1, h2, h3⟩; exact ⟨b, h1, h2, pad_at.mp h3⟩
  · rintro ⟨b, h1, h2, h3⟩; exact ⟨b, h1, h2, pad_at.mpr h3⟩
theorem owns_pad {bs : List B} {vs : List V} {n k : Nat} {a : Addr} : Owns (bs.map some ++ List.replicate n none) (vs.map some ++ List.replicate k none) a ↔ Owns (bs.map some) (vs.map some) a := by
  unfold Owns
  constructor
  · rintro ⟨i, h⟩; exact ⟨i, ownAt_pad.mp h⟩
  · rintro ⟨i, h⟩; exact ⟨i, ownAt_pad.mpr h⟩
theorem Vd.pad {bs : List B} {vs : List V} {M H : Hp} (D0 : Vd K M (bs.map some) (vs.map some) H) (n : Nat) : Vd K M (bs.map some ++ List.replicate n none) (vs.map some ++ List.replicate n none) H := by
  refine ⟨D0.same, by simp only [List.length_append, List.length_replicate, D0.len], fun i b hb => ?_, fun i j a hi hj => D0.inj i j a (ownAt_pad.mp hi) (ownAt_pad.mp hj)⟩
  rw [getB_pad] at hb
  obtain ⟨v, h1, h2⟩ := D0.slot i b hb
  exact ⟨v, pad_at.mpr h1, h2⟩
/-- what outsOf says, place by place -/
theorem outs_at : ∀ {bs : List B} {e : Env} {outs : List B}, outsOf bs e = some outs → outs.length = bs.length ∧ ∀ i b, bs[i]? = some b → (∃ d, b = .sh d ∧ outs[i]? = some (.sh d)) ∨ ∃ d d', b = .io d ∧ getB e i = some (.io d') ∧ outs[i]? = some (.io d')
  | [], _, outs, h => by
    simp only [outsOf, Option.some.injEq] at h
    subst h
    exact ⟨rfl, fun i b hb => by simp at hb⟩
  | b :: bs, [], outs, h => by simp [outsOf] at h
  | b :: bs, x :: e, outs, h => by
    simp only [outsOf] at h
    cases q : outsOf bs e with
    | none => rw [q] at h; cases h
    | some r =>
      rw [q] at h
      obtain ⟨l, ih⟩ := outs_at q
      cases b with
      | sh d =>
        have h : some (.sh d :: r) = some outs := h
        cases h
        refine ⟨by simp [l], fun i b hb => ?_⟩
        cases i with
        | zero => simp at hb; subst hb; exact .inl ⟨d, rfl, rfl⟩
        | succ i => simpa [getB] using ih i b (by simpa using hb)
      | ow d => simp at h
      | io d =>
        cases x with
        | none => simp at h
        | some y =>
          cases y with
          | sh _ => simp at h
          | ow _ => simp at h
          | io d' =>
            have h : some (.io d' :: r) = some outs := h
            cases h
            refine ⟨by simp [l], fun i b hb => ?_⟩
            cases i with
            | zero => simp at hb; subst hb; exact .inr ⟨d, d', rfl, rfl, rfl⟩
            | succ i => simpa [getB] using ih i b (by simpa using hb)
/-- back at the caller's side -/
theorem outs_ok {bs outs : List B} {vs : List V} {n k : Nat} {e' : Env} {σ' : St} {M H M' H' : Hp} (D0 : Vd K M (bs.map some) (vs.map some) H) (D1 : Vd K M' e' σ' H') (S : Stp (bs.map some ++ List.replicate n none) (vs.map some ++ List.replicate n none) M H e' σ' M' H')
    (ho : outsOf bs e' = some outs) : Vd K M' (outs.map some) (vs.map some) H' ∧ Stp (bs.map some) (vs.map some) M H (outs.map some) (vs.map some) M' H' ∧ (∀ a, Owns (bs.map some) (vs.map some) a → Owns e' σ' a) ∧ ∀ a, Owns (outs.map some) (vs.map some) a → Owns e' σ' a := by
  obtain ⟨hl, at_⟩ := outs_at ho
  have lb : bs.length = vs.length := by have := D0.len; simpa using this
  -- a lent thing is at its place still
  have io : ∀ i d', getB e' i = some (.io d') → σ'[i]? = (vs.map some ++ List.replicate n none)[i]? := fun i d' h => (S.io i d' h).2
  have at' : ∀ i b, getB (outs.map some) i = some b → (∃ d, b = .sh d ∧ getB (bs.map some) i = some (.sh d)) ∨ ∃ d d', b = .io d' ∧ getB (bs.map some) i = some (.io d) ∧ getB e' i = some (.io d') := fun i b h => by
    rw [getB_map] at h
    have hi : i < bs.length := by rw [← hl]; exact (List.getElem?_eq_some_iff.mp h).1
    rcases at_ i bs[i] (List.getElem?_eq_getElem hi) with ⟨d, h1, h2⟩ | ⟨d, d', h1, h2, h3⟩
    · rw [h] at h2
      exact .inl ⟨d, Option.some.inj h2, by rw [getB_map, List.getElem?_eq_getElem hi, h1]⟩
    · rw [h] at h3
      exact .inr ⟨d, d', Option.some.inj h3, by rw [getB_map, List.getElem?_eq_getElem hi, h1], h2⟩
  have own : ∀ i a, OwnAt (outs.map some) (vs.map some) i a → OwnAt e' σ' i a := fun i a ⟨b, h1, h2, h3⟩ => by
    rcases at' i b h1 with ⟨d, rfl, _⟩ | ⟨d, d', rfl, _, q⟩
    · cases h2
    · exact ⟨.io d', q, rfl, by rw [io i d' q]; exact pad_at.mpr h3⟩
  have own0 : ∀ a, Owns (bs.map some) (vs.map some) a → Owns e' σ' a := fun a ⟨i, b, h1, h2, h3⟩ => by
    rw [getB_map] at h1
    rcases at_ i b h1 with ⟨d, rfl, _⟩ | ⟨d, d', rfl, q, _⟩
    · cases h2
    · exact ⟨i, .io d', q, rfl, by rw [io i d' q]; exact pad_at.mpr h3⟩
  refine ⟨⟨D1.same, by simp [hl, lb], fun i b hb => ?_, fun i j a hi hj => D1.inj i j a (own i a hi) (own j a hj)⟩, ⟨S.same, fun b o h no => S.keep b o h fun w => no (owns_pad.mp w), fun b o h no => (S.new b o h no).imp id owns_pad.mp, fun b ⟨i, w⟩ => (S.own b ⟨i, own i b w⟩).imp owns_pad.mp id, S.there, fun i d hi => ?_⟩, own0, fun a ⟨i, w⟩ => ⟨i, own i a w⟩⟩
  · rcases at' i b hb with ⟨d, rfl, q⟩ | ⟨d, d', rfl, _, q⟩
    · obtain ⟨v, h1, h2⟩ := D0.slot i _ q
      exact ⟨v, h1, Rep.mono S.same h2⟩
    · obtain ⟨v, h1, h2⟩ := D1.slot i _ q
      rw [io i d' q] at h1
      exact ⟨v, pad_at.mp h1, h2⟩
  · rcases at' i _ hi with ⟨d, z, _⟩ | ⟨d, d', _, q, _⟩
    · cases z
    · exact ⟨⟨d, q⟩, rfl⟩
end
/-- a def of the program, and its code -/
structure Rec where
  name : Str
  st : Stmt
  N : List Str
  ps : List Str
  fn : Fn
/-- the context of all defs -/
def Rec.gam (r : Rec) (fns : List (Str × Nat)) : Gam := ⟨r.N, defScope r.st, fun _ => true, fns⟩
structure Rec.Ok (fns : List (Str × Nat)) (r : Rec) : Prop where
  sc : FnScope r.N r.ps (defScope r.st)
  code : CSs (r.gam fns) (defBody r.st) r.fn.body
  np : r.fn.np = r.ps.length
  ns : r.fn.ns = r.N.length
  io : r.fn.io.length = r.fn.np
structure Here (K : PySem.W.Frag) (mg : Str → Option Value) (r : Rec) (fa : Addr) (fd : FuncData) : Prop where
  fn : Fun K r.name r.name r.st fa fd
  mg : mg r.name = some (.ref fa)
  binds : Binds K fd r.ps []
section
variable {P0 : Program} {w : World} {K : PySem.W.Frag} {mg : Str → Option Value} {base : Heap} {m : Nat}
theorem fn_ok {fns : List (Str × Nat)} {rs : List Rec} (ok : ∀ r ∈ rs, r.Ok fns) (hb : ∀ x ∈ bltNames, mg x = none) (hf : ∀ x f, fns.lookup x = some f → ∃ r fa fd, rs[f]? = some r ∧ r.name = x ∧ Here K mg r fa fd) :
    ∀ (n f : Nat) (r : Rec) (fa : Addr) (fd : FuncData), rs[f]? = some r → Here K mg r fa fd → FnOk P0 w K mg base CX0 n fa fd r.ps (SpF K (callF (rs.map Rec.fn) m n) f r.fn.np)
  | 0, f, r, fa, fd, hr, h => by
    have no : ∀ vs H Q E, ¬ SpF K (callF (rs.map Rec.fn) m 0) f r.fn.np vs H Q E := fun vs H Q E ⟨_, M, bs, fr, d, outs, _, h, _⟩ => by
      simp [callF] at h
    exact ⟨fun vs H Q E h => absurd h (no vs H Q E), fun A outer s H args us vs Q E _ _ _ _ h => absurd h (no vs H Q E)⟩
  | n + 1, f, r, fa, fd, hr, h => by
    have R : r.Ok fns := ok r (List.mem_of_getElem? hr)
    refine h.fn.ok R.sc (fun vs H Q E q => by rw [q.1, R.np]) (fun cdv A outer s H vs Q E hroom hsp => ?_)
    obtain ⟨hl, M, bs, fr, d, outs, D0, hc, q⟩ := hsp
    refine ⟨tS K (es (rs.map Rec.fn) (callF (rs.map Rec.fn) m n) m r.fn.body), ?_, ?_⟩
    · refine okSs R.code (cxOf CX0 P0 w K mg base r.N r.name (defScope r.st) fa cdv A outer s H E).nox ?_ PassesOwn.never
      refine ⟨rfl, rfl, rfl, rfl, R.sc.nd, ⟨n, hroom⟩, hb, fun x g hx => ?_⟩
      obtain ⟨r', fa', fd', h1, h2, h3⟩ := hf x g hx
      have R' : r'.Ok fns := ok r' (List.mem_of_getElem? h1)
      refine ⟨r'.fn, fa', fd', r'.ps, n, by rw [List.getElem?_map, h1]; rfl, R'.io, R'.np.symm, fn_ok ok hb hf n g r' fa' fd' h1 h3, hroom, by rw [← h2]; exact h3.mg, h3.fn.kp, h3.binds⟩
    · have hT : (rs.map Rec.fn)[f]? = some r.fn := by rw [List.getElem?_map, hr]; rfl
      simp only [callF, hT] at hc
      split at hc
      case isFalse => cases hc
      rename_i hbl
      have hst : start r.N vs = vs.map some ++ List.replicate (r.fn.ns - r.fn.np) none := by
        unfold start; rw [R.ns, hl]
      rw [hst]
      have DP := D0.pad (r.fn.ns - r.fn.np)
      refine ⟨M, _, DP, ?_⟩
      split at hc
      · rename_i fr' d' e' he
        split at hc
        · rename_i outs' ho
          injection hc with c1 c2 c3
          subst c1; subst c2; subst c3
          refine ⟨_, e', he, fun v σ' M' H' D1 S1 rr => ?_⟩
          obtain ⟨DO, SO, o0, o1⟩ := outs_ok (k := 0) D0 D1 S1 ho
          refine q v M' H' DO SO ?_
          unfold ResR at rr
          unfold Res
          split at rr
          · rename_i z
            rw [if_pos z]
            obtain ⟨a, rfl, ha, no, o⟩ := rr
            refine ⟨a, rfl, ?_, fun w => no (o1 a w), o⟩
            rcases ha with ha | ha
            · exact absurd (o0 a (owns_pad.mp ha)) no
            · exact ha
          · rename_i z
            rw [if_neg z]
            exact rr
        · cases hc
      · rename_i e' he
        split at hc
        · rename_i outs' ho
          injection hc with c1 c2 c3
          subst c1; subst c2; subst c3
          refine ⟨_, e', he, fun σ' M' H' D1 S1 => ?_⟩
          obtain ⟨DO, SO, o0, o1⟩ := outs_ok (k := 0) D0 D1 S1 ho
          exact q .non M' H' DO SO (Res.still .non)
        · cases hc
      · cases hc
end
end L2.Eng
namespace L2.Eng
open PySem PySem.Spec PyProof.Rows
/-! ## a checker of code against text -/
def chk (b : Bool) : Option (PLift (b = true)) := match b with
  | true => some ⟨rfl⟩
  | false => none
def chn (b : Bool) : Option (PLift (b = false)) := match b with
  | true => none
  | false => some ⟨rfl⟩
def kEq {α : Type} [BEq α] [LawfulBEq α] (a b : α) : Option (PLift (a = b)) := if h : (a == b) = true then some ⟨eq_of_beq h⟩ else none
def kSlot (Γ : Gam) (i : Nat) (x : Str) : Option (PLift (Γ.N[i]? = some x)) := match Γ.N[i]? with
  | some y => (kEq y x).map fun h => ⟨congrArg some h.down⟩
  | none => none
def Operator.code : Operator → Nat
  | .Add => 0 | .Sub => 1 | .Mult => 2 | .MatMult => 3 | .Div => 4 | .Mod => 5 | .Pow => 6 | .LShift => 7 | .RShift => 8 | .BitOr => 9 | .BitXor => 10 | .BitAnd => 11 | .FloorDiv => 12
def kOp (a b : Operator) : Option (PLift (a = b)) := if h : Operator.code a = Operator.code b then some ⟨by cases a <;> cases b <;> first | rfl | (exact absurd h (by decide))⟩ else none
def kUn (a b : UnaryOp) : Option (PLift (a = b)) := match a, b with
  | .USub, .USub => some ⟨rfl⟩
  | .Invert, .Invert => some ⟨rfl⟩
  | _, _ => none
def CmpOp.code : CmpOp → Nat
  | .Eq => 0 | .NotEq => 1 | .Lt => 2 | .LtE => 3 | .Gt => 4 | .GtE => 5 | .Is => 6 | .IsNot => 7 | .In => 8 | .NotIn => 9
def kCo (a b : CmpOp) : Option (PLift (a = b)) := if h : CmpOp.code a = CmpOp.code b then some ⟨by cases a <;> cases b <;> first | rfl | (exact absurd h (by decide))⟩ else none
def kGs (Γ : Gam) : (es : List Expr) → (is : List Nat) → Option (PLift (CGs Γ es is))
  | [], [] => some ⟨.nil⟩
  | .Name x pos :: es, i :: is => (kSlot Γ i x).bind fun h1 => (chk (locB Γ x)).bind fun h2 => (kGs Γ es is).map fun h3 => ⟨.cons h1.down h2.down h3.down⟩
  | _, _ => none
def kG (Γ : Gam) : (e : Expr) → (t : Tg) → Option (PLift (CG Γ e t))
  | .Name x pos, .nm i => (kSlot Γ i x).bind fun h1 => (chk (locB Γ x)).map fun h2 => ⟨.nm h1.down h2.down⟩
  | .Tuple es k pos, .tp is => (kGs Γ es is).map fun h => ⟨.tp h.down⟩
  | _, _ => none
def kNoVar : (x : Ex) → Option (PLift (∀ i, x ≠ .var i))
  | .var _ => none
  | .cst _ => some ⟨fun _ z => by cases z⟩
  | .tup _ => some ⟨fun _ z => by cases z⟩
  | .lst _ => some ⟨fun _ z => by cases z⟩
  | .bin .. => some ⟨fun _ z => by cases z⟩
  | .un .. => some ⟨fun _ z => by cases z⟩
  | .nt .. => some ⟨fun _ z => by cases z⟩
  | .cmp .. => some ⟨fun _ z => by cases z⟩
  | .cmp2 .. => some ⟨fun _ z => by cases z⟩
  | .and .. => some ⟨fun _ z => by cases z⟩
  | .or .. => some ⟨fun _ z => by cases z⟩
  | .ife .. => some ⟨fun _ z => by cases z⟩
  | .ix .. => some ⟨fun _ z => by cases z⟩
  | .sl .. => some ⟨fun _ z => by cases z⟩
  | .rev .. => some ⟨fun _ z => by cases z⟩
  | .call .. => some ⟨fun _ z => by cases z⟩
  | .prim .. => some ⟨fun _ z => by cases z⟩
  | .comp .. => some ⟨fun _ z => by cases z⟩
  | .pop .. => some ⟨fun _ z => by cases z⟩
/-- a comprehension's own names and their places -/
def ownOf (N : List Str) (scope : Scope) : List (Str × Nat) := scope.names.filterMap fun (x, k) => match k with
  | .local => some (x, N.findIdx (· == x))
  | .cell => some (x, N.findIdx (· == x))
  | _ => none
mutual
def kX : Nat → (Γ : Gam) → (e : Expr) → (x : Ex) → Option (PLift (CX Γ e x))
  | 0, _, _, _ => none
  | n + 1, Γ, .Name x pos, .var i => (kSlot Γ i x).bind fun h1 => (chk (visB Γ.sc x)).bind fun h2 => (chk (nodbg x)).map fun h3 => ⟨.var h1.down h2.down h3.down⟩
  | n + 1, Γ, .Name x pos, .cst (.ty t) => (kEq (Str.ofString t) x).bind fun h => (chk (tyNames.contains t)).bind fun h1 => (chk (gloB Γ.sc t)).map fun h2 => ⟨h.down ▸ .bty h1.down h2.down⟩
  | n + 1, Γ, .Constant (.int i) j pos, .cst (.int k) => (kEq i k).map fun (h : PLift (i = k)) => ⟨h.down ▸ .int⟩
  | n + 1, Γ, .Constant (.bool i) j pos, .cst (.bl k) => (kEq i k).map fun (h : PLift (i = k)) => ⟨h.down ▸ .bl⟩
  | n + 1, Γ, .Constant .none j pos, .cst .non => some ⟨.non⟩
  | n + 1, Γ, .Constant (.str i) j pos, .cst (.str k) => (kEq i k).map fun (h : PLift (i = k)) => ⟨h.down ▸ .str⟩
  | n + 1, Γ, .Tuple es k pos, .tup xs => (kXs n Γ es xs).map fun h => ⟨.tup h.down⟩
  | n + 1, Γ, .List es pos, .lst xs => (kXs n Γ es xs).map fun h => ⟨.lst h.down⟩
  | n + 1, Γ, .BinOp a o b pos, .bin o' x y => (kOp o o').bind fun h => (kX n Γ a x).bind fun h1 => (kX n Γ b y).map fun h2 => ⟨h.down ▸ .bin h1.down h2.down⟩
  | n + 1, Γ, .UnaryOp o a pos, .un o' x => (kUn o o').bind fun h => (kX n Γ a x).map fun h1 => ⟨h.down ▸ .un h1.down⟩
  | n + 1, Γ, .UnaryOp .Not a pos, .nt x => (kX n Γ a x).map fun h1 => ⟨.nt h1.down⟩
  | n + 1, Γ, .Compare a [o] [b] pos, .cmp o' x y => (kCo o o').bind fun h => (kX n Γ a x).bind fun h1 => (kX n Γ b y).bind fun h2 => (chn (behindInMarks o b)).map fun h3 => ⟨h.down ▸ .cmp h1.down h2.down h3.down⟩
  | n + 1, Γ, .Compare a [o, p] [b, c] pos, .cmp2 o' p' x y z => (kCo o o').bind fun h => (kCo p p').bind fun h' => (kX n Γ a x).bind fun h1 => (kX n Γ b y).bind fun h2 => (kX n Γ c z).bind fun h3 => (chn (behindInMarks p c)).map fun h4 => ⟨h.down ▸ h'.down ▸ .cmp2 h1.down h2.down h3.down h4.down⟩
  | n + 1, Γ, .BoolOp o [a] pos, x => (kX n Γ a x).bind fun h1 => (kNoVar x).map fun h2 => ⟨.one h1.down h2.down⟩
  | n + 1, Γ, .BoolOp .And (a :: b :: r) pos, .and x y => (kX n Γ a x).bind fun h1 => (kX n Γ (.BoolOp .And (b :: r) pos) y).map fun h2 => ⟨.and h1.down h2.down⟩
  | n + 1, Γ, .BoolOp .Or (a :: b :: r) pos, .or x y => (kX n Γ a x).bind fun h1 => (kX n Γ (.BoolOp .Or (b :: r) pos) y).map fun h2 => ⟨.or h1.down h2.down⟩
  | n + 1, Γ, .IfExp c a b pos, .ife t x y => (kT n Γ c t).bind fun h1 => (kX n Γ a x).bind fun h2 => (kX n Γ b y).map fun h3 => ⟨.ife h1.down h2.down h3.down⟩
  | n + 1, Γ, .Subscript a b pos, .ix x y => (kX n Γ a x).bind fun h1 => (kX n Γ b y).bind fun h2 => (chk (plainI b)).map fun h3 => ⟨.ix h1.down h2.down h3.down⟩
  | n + 1, Γ, .Subscript a (.Slice lo hi none p2) pos, .sl x l h => (kX n Γ a x).bind fun h1 => (kO n Γ lo l).bind fun h2 => (kO n Γ hi h).map fun h3 => ⟨.sl h1.down h2.down h3.down⟩
  | n + 1, Γ, .Subscript a (.Slice none none (some (.UnaryOp .USub (.Constant (.int i) k p1) p2)) p3) pos, .rev x => (kEq i 1).bind fun h => (kX n Γ a x).map fun h1 => ⟨by obtain ⟨h⟩ := h; subst h; exact .rev h1.down⟩
  | n + 1, Γ, .Call (.Name f p) (e :: es) [] pos, .call i xs => (match Γ.fns.lookup f with
    | some j => (kEq j i).map fun (h' : PLift (j = i)) => ⟨congrArg some h'.down⟩
    | none => none : Option (PLift (Γ.fns.lookup f = some i))).bind fun h1 => (chk (gloB Γ.sc f)).bind fun h2 => (chk (nodbg f)).bind fun h3 => (kXs n Γ (e :: es) xs).map fun h4 => ⟨.call h1.down h2.down h3.down h4.down⟩
  | n + 1, Γ, .Call (.Name f p) (e :: es) [] pos, .prim q xs => (kEq (Str.ofString q.name) f).bind fun h => (chk (gloB Γ.sc q.name)).bind fun h2 => (kXs n Γ (e :: es) xs).map fun h4 => ⟨h.down ▸ .prim h2.down h4.down⟩
  | n + 1, Γ, .ListComp elt [⟨tg, iter, ifs, 0⟩] scope pos, .comp x t it c own => (kEq ((ownOf Γ.N scope).map (·.2)) own).bind fun h => (chk (blkC Γ.N Γ.sc scope (ownOf Γ.N scope))).bind fun h1 => (kI n Γ tg iter it).bind fun h2 => (kG (Γ.blk scope) tg t).bind fun h3 => (kTs n (Γ.blk scope) ifs c).bind fun h4 => (kX n (Γ.blk scope) elt x).bind fun h5 =>
      (chk (t.slots.all ((ownOf Γ.N scope).map (·.2)).contains)).map fun h6 => ⟨h.down ▸ .comp h1.down h2.down h3.down h4.down h5.down h6.down⟩
  | n + 1, Γ, .Call (.Attribute (.Name x p) a ap) [] [] pos, .pop i => (kEq (Str.ofString "pop") a).bind fun h => (kSlot Γ i x).bind fun h1 => (chk (visB Γ.sc x)).bind fun h2 => (chk (nodbg x)).bind fun h3 => (chk (ap.endLine == pos.line)).map fun h4 => ⟨h.down ▸ .pop h1.down h2.down h3.down h4.down⟩
  | _, _, _, _ => none
def kXs : Nat → (Γ : Gam) → (e : List Expr) → (x : Exs) → Option (PLift (CXs Γ e x))
  | 0, _, _, _ => none
  | n + 1, Γ, [], .nil => some ⟨.nil⟩
  | n + 1, Γ, e :: es, .cons x xs => (kX n Γ e x).bind fun h1 => (kXs n Γ es xs).map fun h2 => ⟨.cons h1.down h2.down⟩
  | _, _, _, _ => none
def kO : Nat → (Γ : Gam) → (e : Option Expr) → (x : Exo) → Option (PLift (CXo Γ e x))
  | 0, _, _, _ => none
  | n + 1, Γ, none, .no => some ⟨.no⟩
  | n + 1, Γ, some e, .yes x => (kX n Γ e x).map fun h1 => ⟨.yes h1.down⟩
  | _, _, _, _ => none
def kT : Nat → (Γ : Gam) → (e : Expr) → (x : Tt) → Option (PLift (CT Γ e x))
  | 0, _, _, _ => none
  | n + 1, Γ, .BoolOp o [a] pos, x => (kT n Γ a x).map fun h1 => ⟨.one h1.down⟩
  | n + 1, Γ, .BoolOp .And (a :: b :: r) pos, .and x y => (kT n Γ a x).bind fun h1 => (kT n Γ (.BoolOp .And (b :: r) pos) y).map fun h2 => ⟨.and h1.down h2.down⟩
  | n + 1, Γ, .BoolOp .Or (a :: b :: r) pos, .or x y => (kT n Γ a x).bind fun h1 => (kT n Γ (.BoolOp .Or (b :: r) pos) y).map fun h2 => ⟨.or h1.down h2.down⟩
  | n + 1, Γ, .UnaryOp .Not a pos, .nt x => (kT n Γ a x).map fun h1 => ⟨.nt h1.down⟩
  | n + 1, Γ, .Compare a [o] [b] pos, .e (.cmp o' x y) => (kCo o o').bind fun h => (kX n Γ a x).bind fun h1 => (kX n Γ b y).bind fun h2 => (chn (behindInMarks o b)).map fun h3 => ⟨h.down ▸ .cmp h1.down h2.down h3.down⟩
  | n + 1, Γ, .Compare a [o, p] [b, c] pos, .e (.cmp2 o' p' x y z) => (kCo o o').bind fun h => (kCo p p').bind fun h' => (kX n Γ a x).bind fun h1 => (kX n Γ b y).bind fun h2 => (kX n Γ c z).bind fun h3 => (chn (behindInMarks p c)).map fun h4 => ⟨h.down ▸ h'.down ▸ .cmp2 h1.down h2.down h3.down h4.down⟩
  | n + 1, Γ, a, .e x => (kX n Γ a x).bind fun h1 => (chk (plainT a)).map fun h2 => ⟨.e h1.down h2.down⟩
  | _, _, _, _ => none
def kTs : Nat → (Γ : Gam) → (e : List Expr) → (x : Tt) → Option (PLift (CTs Γ e x))
  | 0, _, _, _ => none
  | n + 1, Γ, [], .tru => some ⟨.nil⟩
  | n + 1, Γ, [a], x => (kT n Γ a x).map fun h1 => ⟨.one h1.down⟩
  | _, _, _, _ => none
def kI : Nat → (Γ : Gam) → (tg e : Expr) → (x : It) → Option (PLift (CI Γ tg e x))
  | 0, _, _, _, _ => none
  | n + 1, Γ, tg, e, .seq x => (kX n Γ e x).map fun h1 => ⟨.seq h1.down⟩
  | n + 1, Γ, tg, .Call (.Name f p) [a] [] pos, .rng x => (kEq (Str.ofString "range") f).bind fun h => (chk (gloB Γ.sc "range")).bind fun h0 => (kX n Γ a x).map fun h1 => ⟨h.down ▸ .rng h0.down h1.down⟩
  | n + 1, Γ, tg, .Call (.Name f p) [a, b] [] pos, .rng2 x y => (kEq (Str.ofString "range") f).bind fun h => (chk (gloB Γ.sc "range")).bind fun h0 => (kX n Γ a x).bind fun h1 => (kX n Γ b y).map fun h2 => ⟨h.down ▸ .rng2 h0.down h1.down h2.down⟩
  | n + 1, Γ, .Tuple elts kk tpos, .Call (.Name f p) [a] [] pos, .enum x => (kEq (Str.ofString "enumerate") f).bind fun h => (chk (gloB Γ.sc "enumerate")).bind fun h0 => (kX n Γ a x).map fun h1 => ⟨h.down ▸ .enum h0.down h1.down⟩
  | _, _, _, _, _ => none
end
def locT (Γ : Gam) (x : Str) : Bool := match Γ.sc.names.lookup x with | some .local => true | _ => false
def kLoc (Γ : Gam) (x : Str) : Option (PLift ((match Γ.sc.names.lookup x with | some .local => true | _ => false) = true)) := chk (match Γ.sc.names.lookup x with | some .local => true | _ => false)
def kFun (Γ : Gam) : Option (PLift ((match Γ.sc.kind with | .function => true | _ => false) = true)) := chk (match Γ.sc.kind with | .function => true | _ => false)
mutual
def kS : Nat → (Γ : Gam) → (s : Stmt) → (x : Sm) → Option (PLift (CS Γ s x))
  | 0, _, _, _ => none
  | n + 1, Γ, .Assign [tg] e pos, .asg t x => match tg, e, t with
    | .Name y py, .ListComp elt [⟨tg1, iter, ifs, 0⟩] scope lpos, .nm i => ((kSlot Γ i y).bind fun h1 => (kX n Γ (.ListComp elt [⟨tg1, iter, ifs, 0⟩] scope lpos) x).bind fun h2 => (chk (lcSwaps Γ scope lpos y py)).map fun h3 => ⟨.lc h1.down h2.down h3.down⟩)
    | tg, e, t => (kG Γ tg t).bind fun h1 => (kX n Γ e x).bind fun h2 => (chn (lcB e)).bind fun h3 => (chn (pairB tg && pairB e)).map fun h4 => ⟨.asg h1.down h2.down h3.down h4.down⟩
  | n + 1, Γ, .Assign [.Subscript (.Name v p) k p'] e pos, .setx i kx x => (kSlot Γ i v).bind fun h1 => (chk (visB Γ.sc v)).bind fun h2 => (chk (nodbg v)).bind fun h3 => (kX n Γ k kx).bind fun h4 => (chk (plainI k)).bind fun h5 => (kX n Γ e x).map fun h6 => ⟨.setx h1.down h2.down h3.down h4.down h5.down h6.down⟩
  | n + 1, Γ, .AugAssign (.Name v p) o e pos, .aug i o' x => (kOp o o').bind fun h => (kSlot Γ i v).bind fun h1 => (chk (locB Γ v)).bind fun h2 => (kX n Γ e x).map fun h3 => ⟨h.down ▸ .aug h1.down h2.down h3.down⟩
  | n + 1, Γ, .Assign [.Tuple [.Name x px, .Name y py] kt pt] (.Tuple [a, b] k2 pt2) pos, .par [i, j] xs => (kSlot Γ i x).bind fun h1 => (kSlot Γ j y).bind fun h2 => (chn (i == j)).bind fun h3 => (kLoc Γ x).bind fun h4 => (kLoc Γ y).bind fun h5 => (kXs n Γ [a, b] xs).bind fun h6 => (kFun Γ).bind fun h7 => (chk (px.line == py.line)).bind fun h8 =>
      (chn ([a, b].all (foldedForSure 8))).bind fun h9 => (chn ([a, b].all (constantsAlone 8))).bind fun h10 => (chn (x == y)).map fun h11 => ⟨.par h1.down h2.down h3.down h4.down h5.down h6.down h7.down h8.down h9.down h10.down h11.down⟩
  | n + 1, Γ, .Expr (.Call (.Attribute (.Name v p) a ap) [e] [] pos) pos', .app i x => (kEq (Str.ofString "append") a).bind fun (h : PLift (Str.ofString "append" = a)) => (kSlot Γ i v).bind fun h1 => (chk (visB Γ.sc v)).bind fun h2 => (chk (nodbg v)).bind fun h3 => (kX n Γ e x).bind fun h4 => (chk (ap.endLine == pos.line)).map fun h5 => ⟨h.down ▸ .app h1.down h2.down h3.down h4.down h5.down⟩
  | n + 1, Γ, .Expr (.Call (.Attribute (.Name v p) a ap) [e] [] pos) pos', .ext i x => (kEq (Str.ofString "extend") a).bind fun (h : PLift (Str.ofString "extend" = a)) => (kSlot Γ i v).bind fun h1 => (chk (visB Γ.sc v)).bind fun h2 => (chk (nodbg v)).bind fun h3 => (kX n Γ e x).bind fun h4 => (chk (ap.endLine == pos.line)).map fun h5 => ⟨h.down ▸ .ext h1.down h2.down h3.down h4.down h5.down⟩
  | n + 1, Γ, .Expr (.Constant (.str x) j pos) pos', .pass => some ⟨.doc⟩
  | n + 1, Γ, .Expr e pos, .ex x => (kX n Γ e x).bind fun h1 => (chn (lcB e)).map fun h2 => ⟨.ex h1.down h2.down⟩
  | n + 1, Γ, .Return (some e) pos, .ret x => (kX n Γ e x).map fun h1 => ⟨.ret h1.down⟩
  | n + 1, Γ, .Return none pos, .ret0 => some ⟨.ret0⟩
  | n + 1, Γ, .If c a b pos, .ite t x y => (kT n Γ c t).bind fun h1 => (kSs n Γ a x).bind fun h2 => (kSs n Γ b y).map fun h3 => ⟨.ite h1.down h2.down h3.down⟩
  | n + 1, Γ, .While c a [] pos, .wh t x => (kT n Γ c t).bind fun h1 => (kSs n Γ a x).map fun h2 => ⟨.wh h1.down h2.down⟩
  | n + 1, Γ, .For tg it a [] pos, .for g w x => (kG Γ tg g).bind fun h1 => (kI n Γ tg it w).bind fun h2 => (kSs n Γ a x).map fun h3 => ⟨.for h1.down h2.down h3.down⟩
  | n + 1, Γ, .Break pos, .brk => some ⟨.brk⟩
  | n + 1, Γ, .Continue pos, .cnt => some ⟨.cnt⟩
  | n + 1, Γ, .Pass pos, .pass => some ⟨.pass⟩
  | n + 1, Γ, _, .never => some ⟨.never⟩
  | _, _, _, _ => none
def kSs : Nat → (Γ : Gam) → (s : List Stmt) → (x : Sms) → Option (PLift (CSs Γ s x))
  | 0, _, _, _ => none
  | n + 1, Γ, [], .nil => some ⟨.nil⟩
  | n + 1, Γ, s :: r, .cons x xs => (kS n Γ s x).bind fun h1 => (kSs n Γ r xs).map fun h2 => ⟨.cons h1.down h2.down⟩
  | _, _, _, _ => none
end
theorem css_of {n : Nat} {Γ : Gam} {s : List Stmt} {x : Sms} (h : (kSs n Γ s x).isSome = true) : CSs Γ s x := ((kSs n Γ s x).get h).down
/-- the plain side of a def -/
def Rec.plain (r : Rec) : Bool := (match (defScope r.st).kind with | .function => true | _ => false) && !(defScope r.st).isCoroutine && !(defScope r.st).isGenerator && decide r.N.Nodup && (r.N.take r.ps.length == r.ps)
  && r.ps.all (fun x => match (defScope r.st).names.lookup x with | some .local => true | some .cell => true | _ => false) && (defScope r.st).names.all (fun y => match y.2 with | .free => false | _ => true)
  && decide (r.fn.np = r.ps.length) && decide (r.fn.ns = r.N.length) && decide (r.fn.io.length = r.fn.np)
theorem Rec.ok_of {n : Nat} {fns : List (Str × Nat)} {r : Rec} (h1 : r.plain = true) (h2 : (kSs n (r.gam fns) (defBody r.st) r.fn.body).isSome = true) : r.Ok fns := by
  unfold Rec.plain at h1
  simp only [Bool.and_eq_true, decide_eq_true_eq, Bool.not_eq_true'] at h1
  obtain ⟨⟨⟨⟨⟨⟨⟨⟨⟨a1, a2⟩, a3⟩, a4⟩, a5⟩, a6⟩, a7⟩, a8⟩, a9⟩, a10⟩ := h1
  refine ⟨⟨?_, a2, a3, a4, eq_of_beq a5, fun x hx => ?_, fun y hy z => ?_⟩, css_of h2, a8, a9, a10⟩
  · split at a1
    · assumption
    · cases a1
  · have := List.all_eq_true.mp a6 x hx
    split at this
    · exact .inl (by assumption)
    · exact .inr (by assumption)
    · cases this
  · have := List.all_eq_true.mp a7 y hy
    rw [z] at this
    cases this
end L2.Eng
namespace L2.Eng
open PySem PySem.Spec PyProof.Rows
/-! ## the end of a law -/
structure HereK (K : PySem.W.Frag) (x : Str) (st : Stmt) (ps : List Str) : Prop where
  ex : ∃ fa fd, Fun K x x st fa fd ∧ PySem.W.nsIn K mainGlobals x = some (some (.ref fa)) ∧ Binds K fd ps []
theorem here_mk {K : PySem.W.Frag} {x : Str} {st : Stmt} {ps : List Str} {f : Addr} {oc : Value} {od an : Option Addr} {osl : Array (Option Value)} {kV doc pm cdv ct : Value} (a : PySem.W.nsIn K mainGlobals x = some (some (.ref f)))
    (l : K.lookup f = some ⟨oc, od, .func (PySem.W.fnOf x x (defArgs st) (defBody st) (defScope st) .none kV doc pm an cdv ct), osl⟩) (c : PySem.W.codeIn K cdv x = true) (k : PySem.W.keepIn K (.ref f) = true)
    (b : ∀ (kV doc pm : Value) (an : Option Addr) (cdv ct : Value) (us : List Value), us.length = ps.length → bindArgs (PySem.W.fnOf x x (defArgs st) (defBody st) (defScope st) .none kV doc pm an cdv ct) ⟨us, []⟩ = pure (ps.zip us)) : HereK K x st ps :=
  ⟨f, _, fun_mk l c k, a, (fun_mk l c k).binds b⟩
def spLaw (K : PySem.W.Frag) : Sp := fun vs H Q _ => ∃ (a : Addr) (ns : List Int), vs = [.ref a] ∧ SqL K H a (ns.map V.int) ∧ ns.length ≤ 63 ∧ ∀ H', Q (.bl true) H'
theorem reps_ints (K : PySem.W.Frag) (M : Hp) : ∀ ns : List Int, Reps K M (ns.map V.int) (ns.map D.int)
  | [] => .nil
  | n :: ns => .cons (.int n) (reps_ints K M ns)
section
variable {P0 : Program} {w : World} {K : PySem.W.Frag} {mg : Str → Option Value} {base : Heap}
theorem law_ok {fns : List (Str × Nat)} {rs : List Rec} (ok : ∀ r ∈ rs, r.Ok fns) (hb : ∀ x ∈ bltNames, mg x = none) (hf : ∀ x f, fns.lookup x = some f → ∃ r fa fd, rs[f]? = some r ∧ r.name = x ∧ Here K mg r fa fd)
    {n f : Nat} {r : Rec} {fa : Addr} {fd : FuncData} (hr : rs[f]? = some r) (h : Here K mg r fa fd) (hnp : r.fn.np = 1)
    (main : ∀ ns : List Int, ns.length ≤ 63 → ∃ m fr outs, callF (rs.map Rec.fn) m n f [.sh (.scr (ns.map .int))] = .ret fr (.bl true) outs) : FnOk P0 w K mg base CX0 n fa fd r.ps (spLaw K) := by
  have key : ∀ vs H Q E, spLaw K vs H Q E → ∃ m, SpF K (callF (rs.map Rec.fn) m n) f r.fn.np vs H Q E := fun vs H Q E ⟨a, ns, hv, hS, hl, q⟩ => by
    subst hv
    obtain ⟨m, fr, outs, hm⟩ := main ns hl
    refine ⟨m, by rw [hnp]; rfl, H, _, fr, .bl true, outs, ⟨Same.refl H, rfl, fun i b hb => ?_, fun i j x hi hj => ?_⟩, hm, fun v M' H' D1 S1 rs => ?_⟩
    · cases i with
      | zero =>
        simp only [List.map_cons, List.map_nil, getB, Option.some.injEq] at hb
        subst hb
        exact ⟨.ref a, rfl, Rep.scr hS (reps_ints K H ns)⟩
      | succ i => simp [getB] at hb
    · obtain ⟨b, h1, h2, _⟩ := hi
      cases i with
      | zero =>
        simp only [List.map_cons, List.map_nil, getB, Option.some.injEq] at h1
        subst h1
        cases h2
      | succ i => simp [getB] at h1
    · obtain ⟨M2, _, _, r2⟩ := D1.settle rs
      cases r2
      exact q H'
  refine ⟨fun vs H Q E q => ?_, fun A outer s H args us vs Q E hr1 he hb1 hv hs => ?_⟩
  · obtain ⟨m, z⟩ := key vs H Q E q
    exact (fn_ok (P0 := P0) (w := w) (base := base) ok hb hf n f r fa fd hr h).len vs H Q E z
  · obtain ⟨m, z⟩ := key vs H Q E hs
    exact (fn_ok (P0 := P0) (w := w) (base := base) ok hb hf n f r fa fd hr h).run A outer s H args us vs Q E hr1 he hb1 hv z
theorem all_mk {l : PySem.W.OpenLaw} {h : Heap} {fa : Addr} (X : K.In h) (G : h.Ns mainGlobals mg) (hfa : mg "law" = some (.ref fa)) {fns : List (Str × Nat)} {rs : List Rec} {n f : Nat} {r : Rec}
    (ok : ∀ r ∈ rs, r.Ok fns) (here : ∀ r ∈ rs, HereK K r.name r.st r.ps) (hfns : (fns.all fun p => (rs[p.2]?.map Rec.name) == some p.1) = true) (hr : rs[f]? = some r) (hn : r.name = "law") (hps : r.ps = [("script" : Str)]) (hnp : r.fn.np = 1)
    (hb : ∀ x ∈ bltNames, PySem.W.nsIn K mainGlobals x = some none)
    (main : ∀ ns : List Int, ns.length ≤ 63 → ∃ m fr outs, callF (rs.map Rec.fn) m n f [.sh (.scr (ns.map .int))] = .ret fr (.bl true) outs)
    (hbind : ∀ (fd : FuncData), Binds K fd ["script"] [] → (∃ (kV doc pm : Value) (an : Option Addr) (cdv ct : Value), fd = PySem.W.fnOf r.name r.name (defArgs r.st) (defBody r.st) (defScope r.st) .none kV doc pm an cdv ct) → ∀ (s : Shared) (v : Value), BindsTo s fd ⟨[v], []⟩ [("script", v)]) :
    ∃ fd : FuncData, (∀ (s : Shared) (v : Value), BindsTo s fd ⟨[v], []⟩ [("script", v)]) ∧ ∀ base : Heap, K.In base → base.Ns mainGlobals mg → FnOk l.prog w K mg base CX0 n fa fd ["script"] (spLaw K) := by
  have mk : ∀ r ∈ rs, ∃ fa fd, Here K mg r fa fd := fun r hr => by
    obtain ⟨fa, fd, h1, h2, h3⟩ := (here r hr).ex
    exact ⟨fa, fd, h1, PySem.W.mg_of X G h2, h3⟩
  obtain ⟨fa', fd, h⟩ := mk r (List.mem_of_getElem? hr)
  have e : fa' = fa := by
    have := h.mg
    rw [hn, hfa] at this
    injection this with this
    injection this with this
    exact this.symm
  subst e
  refine ⟨fd, hbind fd (by rw [← hps]; exact h.binds) ?_, fun base _ _ => ?_⟩
  · obtain ⟨oc, od, kV, doc, pm, an, cdv, ct, osl, e, _, _⟩ := h.fn.ex
    exact ⟨kV, doc, pm, an, cdv, ct, e⟩
  · rw [← hps]
    refine law_ok ok (fun x hx => PySem.W.mg_none_of X G (hb x hx)) (fun x g hx => ?_) hr h hnp main
    have hm := PySem.mem_of_lookup hx
    have := eq_of_beq (List.all_eq_true.mp hfns (x, g) hm)
    cases q : rs[g]? with
    | none => rw [q] at this; cases this
    | some r' =>
      rw [q] at this
      obtain ⟨fa, fd, h'⟩ := mk r' (List.mem_of_getElem? q)
      exact ⟨r', fa, fd, rfl, Option.some.inj this, h'⟩
end
theorem walk {l : PySem.W.OpenLaw} {q : Program} {loose : List Str} {XP : (Str → Option Value) → Heap → Prop} {YP : World → Heap → Prop} {d : DefRec} {K : Params → PySem.W.Frag} {k : Nat} (hk : Room k callerA) (hn : l.most = some 63) (hdf : d.params.defaults = [])
    (hY : ∀ (w : World) (h : Heap), YP w h → (K w.params).In h)
    (F : ∀ (w : World) (mg : Str → Option Value) (fa : Addr) (h : Heap), (K w.params).In h → h.Ns mainGlobals mg → mg d.name = some (.ref fa) →
      ∃ fd : FuncData, (∀ (s : Shared) (u : Value), BindsTo s fd ⟨[u], []⟩ [("script", u)]) ∧ ∀ base : Heap, (K w.params).In base → base.Ns mainGlobals mg → FnOk l.prog w (K w.params) mg base CX0 k fa fd ["script"] (spLaw (K w.params))) :
    PySem.W.WalkO q loose XP YP l.row.toRowW d [] (fun f vs => PySem.call f vs) :=
  L2.walk_of (n := 63) (k := k) (x := "script") (CX := fun _ => CX0) (sp := fun w => spLaw (K w.params)) hn (by decide) hdf hk hY F (fun _ _ a ns hl _ hS => ⟨a, ns, rfl, hS, hl, fun _ => rfl⟩) fun _ _ _ _ _ z => z
theorem room200 : Room 200 callerA := ⟨rfl, by decide, by decide⟩
end L2.Eng
namespace L2.Eng
open PySem PySem.Spec PyProof.Rows L2
/-! ## plain tools -/
theorem atN_nat {n k : Nat} (h : k < n) : atN n (k : Int) = some k := by
  unfold atN
  rw [if_pos (by omega), if_pos (by omega)]
  simp
theorem atN_int {n : Nat} {k : Int} (h0 : 0 ≤ k) (h : k < n) : atN n k = some k.toNat := by
  unfold atN
  rw [if_pos h0, if_pos h]
theorem bind_some {α β : Type} (a : α) (e : Env) (f : α → Env → Ans β) : (Ans.val a e).bind f = f a e := rfl
theorem compN_pure {f : D → Env → Ans (Option D)} {g : D → Option D} {e : Env} : ∀ {ds : List D}, (∀ d ∈ ds, f d e = .val (g d) e) → compN f ds e = .val (ds.filterMap g) e
  | [], _ => rfl
  | d :: ds, h => by
    simp only [compN, h d (by simp), Ans.bind, compN_pure (ds := ds) fun d hd => h d (by simp [hd])]
    rw [List.filterMap_cons]
    cases g d <;> rfl
/-- a comprehension whose turns change what is around -/
theorem compN_inv {f : D → Env → Ans (Option D)} (I : Env → Prop) (R : D → Prop) : ∀ {ds : List D} {e : Env}, I e → (∀ d ∈ ds, ∀ e, I e → ∃ r e', f d e = .val (some r) e' ∧ I e' ∧ R r) → ∃ rs e', compN f ds e = .val rs e' ∧ I e' ∧ rs.length = ds.length ∧ ∀ r ∈ rs, R r
  | [], e, hi, _ => ⟨[], e, rfl, hi, rfl, by simp⟩
  | d :: ds, e, hi, h => by
    obtain ⟨r, e1, h1, h2, h3⟩ := h d (by simp) e hi
    obtain ⟨rs, e2, q1, q2, q3, q4⟩ := compN_inv I R (ds := ds) h2 fun d hd => h d (by simp [hd])
    refine ⟨r :: rs, e2, ?_, q2, by simp [q3], fun x hx => ?_⟩
    · simp only [compN, h1, Ans.bind, q1, putO]
    · rcases List.mem_cons.mp hx with rfl | hx
      · exact h3
      · exact q4 x hx
/-- a for that runs through -/
theorem forN_inv {f : D → Env → Ans Fl} (I : Nat → Env → Prop) : ∀ {ds : List D} {k : Nat} {e : Env}, I k e → (∀ i d, ds[i]? = some d → ∀ e, I (k + i) e → ∃ e', (f d e = .val .nx e' ∨ f d e = .val .ct e') ∧ I (k + i + 1) e') → ∃ e', forN f ds e = .val .nx e' ∧ I (k + ds.length) e'
  | [], k, e, hi, _ => ⟨e, rfl, hi⟩
  | d :: ds, k, e, hi, h => by
    obtain ⟨e1, h1, h2⟩ := h 0 d rfl e hi
    obtain ⟨e2, q1, q2⟩ := forN_inv I (ds := ds) (k := k + 1) (e := e1) h2 fun i d hd e hi => by
      have := h (i + 1) d (by simpa using hd) e (by rw [show k + (i + 1) = k + 1 + i by omega]; exact hi)
      rw [show k + (i + 1) + 1 = k + 1 + i + 1 by omega] at this
      exact this
    refine ⟨e2, ?_, by rw [show k + (d :: ds).length = k + 1 + ds.length by simp; omega]; exact q2⟩
    rcases h1 with h1 | h1 <;> simp only [forN, h1, Ans.bind, q1]
theorem cut_to {xs : List D} {k : Int} (h0 : 0 ≤ k) : cutD xs none (some k) = xs.take k.toNat := by
  unfold cutD HT.sIx
  simp only [List.drop_zero, Nat.sub_zero]
  rw [if_neg (by omega)]
  by_cases h : k.toNat ≤ xs.length
  · rw [Nat.min_eq_left h]
  · rw [Nat.min_eq_right (by omega), List.take_of_length_le (Nat.le_refl _), List.take_of_length_le (by omega)]
theorem cut_from {xs : List D} {k : Int} (h0 : 0 ≤ k) : cutD xs (some k) none = xs.drop k.toNat := by
  unfold cutD HT.sIx
  simp only
  rw [if_neg (by omega)]
  by_cases h : k.toNat ≤ xs.length
  · rw [Nat.min_eq_left h, List.take_of_length_le (by rw [List.length_drop]; omega)]
  · rw [Nat.min_eq_right (by omega), List.drop_of_length_le (Nat.le_refl _), List.drop_of_length_le (by omega)]; simp
theorem band_nat (a b : Nat) : Builtin.bitAnd (a : Int) (b : Int) = ((a &&& b : Nat) : Int) := by
  rw [PyProof.Rows.bitAnd_pp (by omega) (by omega)]; simp
theorem bor_nat (a b : Nat) : Builtin.bitOr (a : Int) (b : Int) = ((a ||| b : Nat) : Int) := by
  rw [Bits.bitOr_pp (by omega) (by omega)]; simp
theorem bxor_nat (a b : Nat) : Builtin.bitXor (a : Int) (b : Int) = ((a ^^^ b : Nat) : Int) := by
  rw [Bits.bitXor_pp (by omega) (by omega)]; simp
/-! ## the draws -/
/-- a state of the draws -/
def Dr (d : D) : Prop := ∃ (cells : List Int) (a b c : Int), d = .lst [.lst (cells.map D.int), .int a, .int b, .int c] ∧ 0 ≤ a ∧ 0 ≤ b ∧ 0 ≤ c ∧ c < 2147483647
def F_draws : Fn := ⟨1, 1, [false],
    (.cons (.ret (.lst (.cons (.prim .list (.cons (.var 0) .nil)) (.cons (.cst (.int 0)) (.cons (.cst (.int 0)) (.cons (.cst (.int 1)) .nil))))))
    .nil)⟩
def F_draw : Fn := ⟨2, 4, [true, false],
    (.cons (.ite (.and (.e (.cmp .Eq (.ix (.var 0) (.cst (.int 2))) (.cst (.int 0)))) (.e (.cmp .Lt (.ix (.var 0) (.cst (.int 1))) (.prim .len (.cons (.ix (.var 0) (.cst (.int 0))) .nil))))) (.cons (.asg (.nm 2) (.ix (.ix (.var 0) (.cst (.int 0))) (.ix (.var 0) (.cst (.int 1)))))
    (.cons (.setx 0 (.cst (.int 1)) (.bin .Add (.ix (.var 0) (.cst (.int 1))) (.cst (.int 1))))
    (.cons (.ite (.e (.cmp .GtE (.var 2) (.bin .Pow (.cst (.int 10)) (.cst (.int 18))))) (.cons (.setx 0 (.cst (.int 2)) (.var 2))
    .nil) .nil)
    (.cons (.setx 0 (.cst (.int 3)) (.bin .Mod (.prim .int (.cons (.bin .Add (.bin .Add (.bin .Mult (.ix (.var 0) (.cst (.int 3))) (.cst (.int 48271))) (.var 2)) (.cst (.int 13))) .nil)) (.cst (.int 2147483647))))
    .nil)))) .nil)
    (.cons (.ite (.e (.cmp .Gt (.ix (.var 0) (.cst (.int 2))) (.cst (.int 0)))) (.cons (.asg (.nm 3) (.bin .Mod (.prim .int (.cons (.ix (.var 0) (.cst (.int 2))) .nil)) (.var 1)))
    (.cons (.setx 0 (.cst (.int 2)) (.bin .FloorDiv (.ix (.var 0) (.cst (.int 2))) (.var 1)))
    (.cons (.ret (.var 3))
    .nil))) .nil)
    (.cons (.setx 0 (.cst (.int 3)) (.bin .Mod (.prim .int (.cons (.bin .Add (.bin .Mult (.ix (.var 0) (.cst (.int 3))) (.cst (.int 69621))) (.cst (.int 7))) .nil)) (.cst (.int 2147483629))))
    (.cons (.ret (.bin .Mod (.prim .int (.cons (.bin .FloorDiv (.ix (.var 0) (.cst (.int 3))) (.cst (.int 11))) .nil)) (.var 1)))
    .nil))))⟩
section
variable {T : List Fn} {m : Nat}
theorem draws_ok {i N : Nat} (hT : T[i]? = some F_draws) (hN : 1 ≤ N) (xs : List Int) : ∃ s, callF T m N i [.sh (.scr (xs.map D.int))] = .ret true s [.sh (.scr (xs.map D.int))] ∧ Dr s := by
  obtain ⟨n, rfl⟩ : ∃ n, N = n + 1 := ⟨N - 1, by omega⟩
  refine ⟨.lst [.lst (xs.map D.int), .int 0, .int 0, .int 1], ?_, xs, 0, 0, 1, rfl, by omega, by omega, by omega, by omega⟩
  simp only [callF, hT, F_draws, List.length_cons, List.length_nil]
  simp [es, es1, ev, evs, evx, evt, evi, opd, Ans.bind, opt, getB, setB, pk, tk, pks, tks, B.dat, primD, outsOf, fitL, maxLen]
/-- the second half -/
theorem draw_end {P : Nat → List B → CA} {cells : List Int} {a b c limit : Int} {x : Option B} (ha : 0 ≤ a) (hb : 0 ≤ b) (hc0 : 0 ≤ c) (hc1 : c < 2147483647) (h0 : 0 < limit) (h1 : limit < 1073741824) :
    ∃ v s' x' y', es T P m (.cons (.ite (.e (.cmp .Gt (.ix (.var 0) (.cst (.int 2))) (.cst (.int 0)))) (.cons (.asg (.nm 3) (.bin .Mod (.prim .int (.cons (.ix (.var 0) (.cst (.int 2))) .nil)) (.var 1)))
    (.cons (.setx 0 (.cst (.int 2)) (.bin .FloorDiv (.ix (.var 0) (.cst (.int 2))) (.var 1)))
    (.cons (.ret (.var 3))
    .nil))) .nil)
    (.cons (.setx 0 (.cst (.int 3)) (.bin .Mod (.prim .int (.cons (.bin .Add (.bin .Mult (.ix (.var 0) (.cst (.int 3))) (.cst (.int 69621))) (.cst (.int 7))) .nil)) (.cst (.int 2147483629))))
    (.cons (.ret (.bin .Mod (.prim .int (.cons (.bin .FloorDiv (.ix (.var 0) (.cst (.int 3))) (.cst (.int 11))) .nil)) (.var 1)))
    .nil))) [some (.io (.lst [.lst (cells.map D.int), .int a, .int b, .int c])), some (.sh (.int limit)), x, none] = .val (.rt false (.int v)) [some (.io s'), some (.sh (.int limit)), x', y'] ∧ Dr s' ∧ 0 ≤ v ∧ v < limit := by
  by_cases hb0 : 0 < b
  · refine ⟨b % limit, .lst [.lst (cells.map D.int), .int a, .int (b / limit), .int c], x, some (.sh (.int (b % limit))), ?_, ⟨cells, a, b / limit, c, rfl, ha, Int.ediv_nonneg hb (by omega), hc0, hc1⟩, Int.emod_nonneg _ (by omega), Int.emod_lt_of_pos _ h0⟩
    simp [es, es1, ev, evs, evx, evt, evi, opd, Ans.bind, opt, getB, setB, pk, tk, pks, tks, B.dat, primD, outsOf, fitL, ixD, cmpD, D.ok, deepest, atN, truth, D.eq, binD, putAt, onOwn, asgT, hb0, h0, h1]
  · have h3 : c * 69621 < 2 ^ 64 := by omega
    refine ⟨(c * 69621 + 7) % 2147483629 / 11 % limit, .lst [.lst (cells.map D.int), .int a, .int b, .int ((c * 69621 + 7) % 2147483629)], x, none, ?_, ⟨cells, a, b, _, rfl, ha, hb, Int.emod_nonneg _ (by omega), Int.lt_of_lt_of_le (Int.emod_lt_of_pos _ (by omega)) (by omega)⟩, Int.emod_nonneg _ (by omega), Int.emod_lt_of_pos _ h0⟩
    simp [es, es1, ev, evs, evx, evt, evi, opd, Ans.bind, opt, getB, setB, pk, tk, pks, tks, B.dat, primD, outsOf, fitL, ixD, cmpD, D.ok, deepest, atN, truth, D.eq, binD, putAt, onOwn, asgT, hb0, h0, h1]
theorem es_cons {P : Nat → List B → CA} {s : Sm} {r : Sms} {e e1 : Env} (h : es1 T P m s e = .val .nx e1) : es T P m (.cons s r) e = es T P m r e1 := by
  simp only [es, h, Ans.bind]
/-- a call by its body -/
theorem callF_of {n f : Nat} {fn : Fn} {bs outs : List B} {fr : Bool} {d : D} {e : Env} (hT : T[f]? = some fn) (hl : bs.length = fn.np) (h : es T (callF T m n) m fn.body (bs.map some ++ List.replicate (fn.ns - fn.np) none) = .val (.rt fr d) e) (ho : outsOf bs e = some outs) : callF T m (n + 1) f bs = .ret fr d outs := by
  simp only [callF, hT, if_pos hl, h, ho]
theorem draw_ok {i N : Nat} (hT : T[i]? = some F_draw) (hN : 1 ≤ N) {s : D} {limit : Int} (h : Dr s) (h0 : 0 < limit) (h1 : limit < 1073741824) :
    ∃ v s', callF T m N i [.io s, .sh (.int limit)] = .ret false (.int v) [.io s', .sh (.int limit)] ∧ Dr s' ∧ 0 ≤ v ∧ v < limit := by
  obtain ⟨n, rfl⟩ : ∃ n, N = n + 1 := ⟨N - 1, by omega⟩
  obtain ⟨cells, a, b, c, rfl, ha, hb, hc0, hc1⟩ := h
  have e10 : (10 : Int) ^ (18 : Int).toNat = 1000000000000000000 := by decide
  by_cases hk : b = 0 ∧ a < cells.length
  · obtain ⟨rfl, hl⟩ := hk
    have hlt : a.toNat < cells.length := by omega
    have hat : atN cells.length a = some a.toNat := atN_int ha hl
    have hb' : 0 ≤ (if 1000000000000000000 ≤ cells[a.toNat] then cells[a.toNat] else 0) := by split <;> omega
    obtain ⟨v, s', x', y', he, hd, hv⟩ := draw_end (T := T) (m := m) (P := callF T m n) (cells := cells) (a := a + 1) (b := if 1000000000000000000 ≤ cells[a.toNat] then cells[a.toNat] else 0) (c := (c * 48271 + cells[a.toNat] + 13) % 2147483647) (limit := limit) (x := some (.sh (.int cells[a.toNat]))) (by omega) hb' (Int.emod_nonneg _ (by omega)) (Int.emod_lt_of_pos _ (by omega)) h0 h1
    refine ⟨v, s', ?_, hd, hv⟩
    refine callF_of hT rfl (e := [some (.io s'), some (.sh (.int limit)), x', y']) ?_ rfl
    refine (es_cons ?_).trans he
    by_cases hbig : 1000000000000000000 ≤ cells[a.toNat]
    · simp [es, es1, ev, evs, evx, evt, evi, opd, Ans.bind, opt, getB, setB, pk, tk, pks, tks, B.dat, primD, outsOf, fitL, ixD, cmpD, D.ok, deepest, atN, truth, D.eq, binD, putAt, onOwn, asgT, hl, ha, hlt, e10, hbig, List.getElem?_map, hc0, hc1, F_draw]
    · simp [es, es1, ev, evs, evx, evt, evi, opd, Ans.bind, opt, getB, setB, pk, tk, pks, tks, B.dat, primD, outsOf, fitL, ixD, cmpD, D.ok, deepest, atN, truth, D.eq, binD, putAt, onOwn, asgT, hl, ha, hlt, e10, hbig, List.getElem?_map, hc0, hc1, F_draw]
  · obtain ⟨v, s', x', y', he, hd, hv⟩ := draw_end (T := T) (m := m) (P := callF T m n) (cells := cells) (a := a) (b := b) (c := c) (limit := limit) (x := none) ha hb hc0 hc1 h0 h1
    refine ⟨v, s', ?_, hd, hv⟩
    refine callF_of hT rfl (e := [some (.io s'), some (.sh (.int limit)), x', y']) ?_ rfl
    refine (es_cons ?_).trans he
    by_cases hb0 : b = 0
    · have hl : ¬ a < cells.length := fun w => hk ⟨hb0, w⟩
      simp [es, es1, ev, evs, evx, evt, evi, opd, Ans.bind, opt, getB, setB, pk, tk, pks, tks, B.dat, primD, outsOf, fitL, ixD, cmpD, D.ok, deepest, atN, truth, D.eq, binD, putAt, onOwn, asgT, hl, hb0, F_draw]
    · simp [es, es1, ev, evs, evx, evt, evi, opd, Ans.bind, opt, getB, setB, pk, tk, pks, tks, B.dat, primD, outsOf, fitL, ixD, cmpD, D.ok, deepest, atN, truth, D.eq, binD, putAt, onOwn, asgT, hb0, F_draw]
def F_mixed (iD : Nat) : Fn := ⟨2, 5, [true, false],
    (.cons (.asg (.nm 2) (.lst .nil))
    (.cons (.for (.nm 3) (.seq (.var 1)) (.cons (.asg (.nm 4) (.call iD (.cons (.var 0) (.cons (.bin .Add (.prim .len (.cons (.var 2) .nil)) (.cst (.int 1))) .nil))))
    (.cons (.asg (.nm 2) (.bin .Add (.bin .Add (.sl (.var 2) .no (.yes (.var 4))) (.lst (.cons (.var 3) .nil))) (.sl (.var 2) (.yes (.var 4)) .no)))
    .nil)))
    (.cons (.ret (.var 2))
    .nil)))⟩
theorem mixed_ok {i iD N : Nat} (hT : T[i]? = some (F_mixed iD)) (hD : T[iD]? = some F_draw) (hN : 2 ≤ N) {s : D} (hs : Dr s) (rows : List D) (hl : rows.length < 1000000) :
    ∃ told s', callF T m N i [.io s, .sh (.lst rows)] = .ret true (.lst told) [.io s', .sh (.lst rows)] ∧ Dr s' ∧ told.Perm rows := by
  obtain ⟨n, rfl⟩ : ∃ n, N = n + 1 := ⟨N - 1, by omega⟩
  have main := forN_inv (f := fun d e2 => match asgT (.nm 3) false d e2 with
        | some e3 => es T (callF T m n) m (.cons (.asg (.nm 4) (.call iD (.cons (.var 0) (.cons (.bin .Add (.prim .len (.cons (.var 2) .nil)) (.cst (.int 1))) .nil))))
    (.cons (.asg (.nm 2) (.bin .Add (.bin .Add (.sl (.var 2) .no (.yes (.var 4))) (.lst (.cons (.var 3) .nil))) (.sl (.var 2) (.yes (.var 4)) .no)))
    .nil)) e3
        | none => .stuck) (ds := rows) (k := 0) (e := [some (.io s), some (.sh (.lst rows)), some (.ow (.lst [])), none, none])
    (fun k e => ∃ s' told x y, e = [some (.io s'), some (.sh (.lst rows)), some (.ow (.lst told)), x, y] ∧ Dr s' ∧ told.Perm (rows.take k)) ⟨s, [], none, none, rfl, hs, by simp⟩ (fun j d hd e ⟨s', told, x, y, he, hs', hp⟩ => by
      subst he
      have hj : j < rows.length := (List.getElem?_eq_some_iff.mp hd).1
      have hlen : told.length = j := by rw [hp.length_eq, List.length_take, Nat.zero_add]; omega
      obtain ⟨v, s2, hc, h1, h2, h3⟩ := draw_ok (m := m) hD (N := n) (by omega) hs' (limit := (told.length : Int) + 1) (by omega) (by omega)
      refine ⟨[some (.io s2), some (.sh (.lst rows)), some (.ow (.lst (told.take v.toNat ++ [d] ++ told.drop v.toNat))), some (.sh d), some (.sh (.int v))], .inl ?_, s2, _, _, _, rfl, h1, ?_⟩
      · have hlim : told.length ≤ 16777216 := by omega
        have e2 : (told.take v.toNat).length + 1 + (told.drop v.toNat).length ≤ 16777216 := by
          rw [List.length_take, List.length_drop]; omega
        have e3 : (told.take v.toNat).length + 1 ≤ 16777216 := by
          rw [List.length_take]; omega
        simp only [List.length_take, List.length_drop] at e2 e3
        simp [es, es1, ev, evs, evx, evt, evi, opd, Ans.bind, opt, getB, setB, pk, tk, pks, tks, B.dat, primD, fitL, ixD, binD, putAt, onOwn, asgT, doCall, hD, F_draw, hc, callArgs, backIn, frzIn, slotsOf, okSlots, endD, slD, cut_to, cut_from, h2, maxLen, e2, e3]
      · have hp2 : (told.take v.toNat ++ [d] ++ told.drop v.toNat).Perm (d :: told) := by
          rw [List.append_assoc]
          refine (List.perm_append_comm (l₁ := told.take v.toNat)).trans ?_
          simp only [List.singleton_append, List.cons_append]
          refine List.Perm.cons d ?_
          refine (List.perm_append_comm).trans ?_
          rw [List.nil_append, List.take_append_drop]
        refine hp2.trans ?_
        have e4 : rows.take (0 + j + 1) = rows.take (0 + j) ++ [d] := by
          rw [Nat.zero_add, List.take_succ, hd]; rfl
        rw [e4]
        exact (List.Perm.cons d hp).trans (List.perm_append_comm (l₁ := [d])))
  obtain ⟨e', h1, s', told, x, y, rfl, hs', hp⟩ := main
  rw [Nat.zero_add, List.take_length] at hp
  refine ⟨told, s', ?_, hs', hp⟩
  refine callF_of hT rfl (e := [some (.io s'), some (.sh (.lst rows)), none, x, y]) ?_ rfl
  show es T (callF T m n) m (F_mixed iD).body [some (.io s), some (.sh (.lst rows)), none, none, none] = _
  unfold F_mixed
  refine (es_cons (e1 := [some (.io s), some (.sh (.lst rows)), some (.ow (.lst [])), none, none]) (by simp [es1, ev, evs, Ans.bind, tks, fitL, asgT, setB])).trans ?_
  refine (es_cons (e1 := [some (.io s'), some (.sh (.lst rows)), some (.ow (.lst told)), x, y]) ?_).trans ?_
  · simp only [es1, evi, ev, tk, getB, Ans.bind, opt, itemsD]
    exact h1
  · simp [es, es1, getB, setB, Ans.bind]
theorem outs_sh : ∀ {ds : List D} {e : Env}, ds.length ≤ e.length → outsOf (ds.map B.sh) e = some (ds.map B.sh)
  | [], _, _ => rfl
  | d :: ds, [], h => by simp at h
  | d :: ds, x :: e, h => by
    simp only [List.map_cons, outsOf, outs_sh (ds := ds) (e := e) (by simpa using h)]
/-- a call that lends nothing -/
theorem callF_sh {n f : Nat} {fn : Fn} {ds : List D} {fr : Bool} {d : D} (hT : T[f]? = some fn) (hl : ds.length = fn.np) (h : ∃ e, es T (callF T m n) m fn.body ((ds.map B.sh).map some ++ List.replicate (fn.ns - fn.np) none) = .val (.rt fr d) e ∧ ds.length ≤ e.length) : callF T m (n + 1) f (ds.map B.sh) = .ret fr d (ds.map B.sh) := by
  obtain ⟨e, h1, h2⟩ := h
  exact callF_of hT (by simpa using hl) h1 (outs_sh h2)
theorem evi_rng {P : Nat → List B → CA} {x : Ex} {e e1 : Env} {f : Bool} {n : Int} (h : ev T P x e = .val (f, .int n) e1) (h0 : 0 ≤ n) (h1 : n < 2 ^ 62) : evi T P (.rng x) e = .val (rangeD 0 n.toNat) e1 := by
  show (ev T P x e).bind _ = _
  rw [h]
  show (if _ then _ else _) = _
  rw [if_pos ⟨by omega, h1⟩]
theorem evi_rngN {P : Nat → List B → CA} {x : Ex} {e e1 : Env} {f : Bool} {n : Nat} (h : ev T P x e = .val (f, .int (n : Nat)) e1) (h1 : n ≤ maxLen) : evi T P (.rng x) e = .val (rangeD 0 n) e1 := by
  have := evi_rng h (by omega) (by have : maxLen < 2 ^ 62 := by decide
                                   omega)
  rw [this, Int.toNat_natCast]
/-- a turn of a for, of a comprehension -/
def turnF (T : List Fn) (P : Nat → List B → CA) (m : Nat) (t : Tg) (b : Sms) (d : D) (e : Env) : Ans Fl := match asgT t false d e with
  | some e3 => es T P m b e3
  | none => .stuck
def turnC (T : List Fn) (P : Nat → List B → CA) (x : Ex) (t : Tg) (c : Tt) (own : List Nat) (d : D) (e2 : Env) : Ans (Option D) := match asgT t false d (wipeB own e2) with
  | none => .stuck
  | some e3 => (evt T P c e3).bind fun k e4 => if k then (ev T P x e4).bind fun r e5 => .val (some r.2) (backB e2 own e5) else .val none (backB e2 own e4)
theorem ev_comp {P : Nat → List B → CA} {x : Ex} {t : Tg} {it : It} {c : Tt} {own : List Nat} {e e1 e2 : Env} {items ds : List D} (hit : evi T P it e = .val items e1) (hst : stillB e1 own = true)
    (hc : compN (turnC T P x t c own) items e1 = .val ds e2) (hf : ds.length ≤ maxLen) : ev T P (.comp x t it c own) e = .val (true, .lst ds) e2 := by
  show (evi T P it e).bind _ = _
  rw [hit]
  show (if stillB e1 own = true then _ else _) = _
  rw [if_pos hst]
  refine (congrArg (fun z : Ans (List D) => z.bind fun ds e2 => if fitL ds.length = true then Ans.val (true, D.lst ds) e2 else .stuck) hc).trans ?_
  show (if fitL ds.length = true then _ else _) = _
  rw [if_pos (by simpa [fitL] using hf)]
/-- a comprehension that changes nothing around -/
theorem ev_comp_pure {P : Nat → List B → CA} {x : Ex} {t : Tg} {it : It} {c : Tt} {own : List Nat} {e e1 : Env} {items : List D} (g : D → Option D) (hit : evi T P it e = .val items e1) (hst : stillB e1 own = true)
    (hc : ∀ d ∈ items, turnC T P x t c own d e1 = .val (g d) e1) (hf : (items.filterMap g).length ≤ maxLen) : ev T P (.comp x t it c own) e = .val (true, .lst (items.filterMap g)) e1 :=
  ev_comp hit hst (compN_pure hc) hf
theorem es1_asg {P : Nat → List B → CA} {t : Tg} {x : Ex} {e e1 e2 : Env} {r : Bool × D} (h : ev T P x e = .val r e1) (ha : asgT t r.1 r.2 e1 = some e2) : es1 T P m (.asg t x) e = .val .nx e2 := by
  simp only [es1, h, Ans.bind, ha]
theorem es1_for {P : Nat → List B → CA} {t : Tg} {it : It} {b : Sms} {e e1 e2 : Env} {items : List D} {fl : Fl} (hit : evi T P it e = .val items e1) (h : forN (turnF T P m t b) items e1 = .val fl e2) : es1 T P m (.for t it b) e = .val fl e2 := by
  show (evi T P it e).bind _ = _
  rw [hit]
  exact h
/-! cubes: what is cared for, and the levels -/
def cubeD (c : Nat × Nat) : D := .tup [.int (c.1 : Nat), .int (c.2 : Nat)]
def F_cube (iD : Nat) : Fn := ⟨2, 5, [true, false],
    (.cons (.asg (.nm 2) (.ix (.lst (.cons (.cst (.int 0)) (.cons (.cst (.int 1)) (.cons (.cst (.int 2)) (.cons (.var 1) (.cons (.call iD (.cons (.var 0) (.cons (.bin .Add (.var 1) (.cst (.int 1))) .nil))) .nil)))))) (.call iD (.cons (.var 0) (.cons (.cst (.int 5)) .nil)))))
    (.cons (.asg (.nm 3) (.cst (.int 0)))
    (.cons (.for (.nm 4) (.rng (.var 2)) (.cons (.asg (.nm 3) (.bin .BitOr (.var 3) (.bin .LShift (.cst (.int 1)) (.call iD (.cons (.var 0) (.cons (.var 1) .nil))))))
    .nil))
    (.cons (.ret (.tup (.cons (.var 3) (.cons (.bin .BitAnd (.var 3) (.call iD (.cons (.var 0) (.cons (.bin .LShift (.cst (.int 1)) (.var 1)) .nil)))) .nil))))
    .nil))))⟩
/-- a cube over n wires -/
def Cu (n : Nat) (c : Nat × Nat) : Prop := c.1 < 2 ^ n ∧ c.1 &&& c.2 = c.2
theorem pow_i {k : Int} (h : 0 ≤ k) : (2 : Int) ^ k.toNat = ((2 ^ k.toNat : Nat) : Int) := by
  rw [Int.natCast_pow]; rfl
theorem shl1 {k : Int} (h0 : 0 ≤ k) (h1 : k ≤ 1000000) : binD .LShift (.int 1) (.int k) = some (false, .int ((2 ^ k.toNat : Nat) : Int)) := by
  simp only [binD]
  rw [if_pos ⟨h0, h1, by decide⟩, pow_i h0, Int.one_mul]
theorem or_lt {a b n : Nat} (ha : a < 2 ^ n) (hb : b < 2 ^ n) : a ||| b < 2 ^ n := Nat.or_lt_two_pow ha hb
theorem range_get {lo : Int} {n i : Nat} {d : D} (h : (rangeD lo n)[i]? = some d) : d = .int (lo + i) ∧ i < n := by
  unfold rangeD at h
  rw [List.getElem?_map] at h
  cases q : (List.range n)[i]? with
  | none => rw [q] at h; cases h
  | some j =>
    rw [q] at h
    obtain ⟨h1, h2⟩ := List.getElem?_eq_some_iff.mp q
    simp at h1 h2
    subst h2
    simp at h
    exact ⟨h.symm, h1⟩
theorem cube_ok {i iD N : Nat} (hT : T[i]? = some (F_cube iD)) (hD : T[iD]? = some F_draw) (hN : 2 ≤ N) {s : D} (hs : Dr s) {w : Nat} (hw : 1 ≤ w) (hw2 : w ≤ 29) :
    ∃ c s', callF T m N i [.io s, .sh (.int (w : Nat))] = .ret false (cubeD c) [.io s', .sh (.int (w : Nat))] ∧ Dr s' ∧ Cu w c := by
  obtain ⟨n, rfl⟩ : ∃ n, N = n + 1 := ⟨N - 1, by omega⟩
  obtain ⟨v, s1, c1, d1, v0, v1⟩ := draw_ok (m := m) hD (N := n) (by omega) hs (limit := (w : Int) + 1) (by omega) (by omega)
  obtain ⟨u, s2, c2, d2, u0, u1⟩ := draw_ok (m := m) hD (N := n) (by omega) d1 (limit := 5) (by omega) (by omega)
  obtain ⟨many, hm0, hm1, hmany⟩ : ∃ many : Int, 0 ≤ many ∧ many ≤ 29 ∧ ixD (.lst [.int 0, .int 1, .int 2, .int (w : Nat), .int v]) (.int u) = some (.int many) := by
    rcases (by omega : u = 0 ∨ u = 1 ∨ u = 2 ∨ u = 3 ∨ u = 4) with rfl | rfl | rfl | rfl | rfl
    · exact ⟨0, by omega, by omega, rfl⟩
    · exact ⟨1, by omega, by omega, rfl⟩
    · exact ⟨2, by omega, by omega, rfl⟩
    · exact ⟨w, by omega, by omega, rfl⟩
    · exact ⟨v, by omega, by omega, rfl⟩
  have main := forN_inv (f := fun d e2 => match asgT (.nm 4) false d e2 with
        | some e3 => es T (callF T m n) m (.cons (.asg (.nm 3) (.bin .BitOr (.var 3) (.bin .LShift (.cst (.int 1)) (.call iD (.cons (.var 0) (.cons (.var 1) .nil)))))) .nil) e3
        | none => .stuck) (ds := rangeD 0 many.toNat) (k := 0) (e := [some (.io s2), some (.sh (.int (w : Nat))), some (.sh (.int many)), some (.sh (.int 0)), none])
    (fun k e => ∃ s' x, ∃ care : Nat, e = [some (.io s'), some (.sh (.int (w : Nat))), some (.sh (.int many)), some (.sh (.int (care : Nat))), x] ∧ Dr s' ∧ care < 2 ^ w) ⟨s2, none, 0, rfl, d2, Nat.two_pow_pos w⟩ (fun j d hd e ⟨s', x, care, he, hs', hc⟩ => by
      subst he
      obtain ⟨r, s3, c3, d3, r0, r1⟩ := draw_ok (m := m) hD (N := n) (by omega) hs' (limit := (w : Int)) (by omega) (by omega)
      refine ⟨[some (.io s3), some (.sh (.int (w : Nat))), some (.sh (.int many)), some (.sh (.int ((care ||| 2 ^ r.toNat : Nat) : Int))), some (.sh d)], .inl ?_, s3, _, _, rfl, d3, or_lt hc (Nat.pow_lt_pow_right (by omega) (by omega))⟩
      have hsl := shl1 r0 (by omega : r ≤ 1000000)
      have hor := bor_nat care (2 ^ r.toNat)
      generalize 2 ^ r.toNat = p at hsl hor ⊢
      simp [es, es1, ev, evs, opd, Ans.bind, opt, getB, setB, pk, tk, pks, tks, B.dat, hsl, asgT, doCall, hD, F_draw, c3, callArgs, backIn, frzIn, slotsOf, okSlots]
      simp [binD, hor, setB])
  obtain ⟨e', h1, s3, x, care, rfl, d3, hc⟩ := main
  obtain ⟨r, s4, c4, d4, r0, r1⟩ := draw_ok (m := m) hD (N := n) (by omega) d3 (limit := ((2 ^ w : Nat) : Int)) (by have := Nat.two_pow_pos w; omega) (by have : 2 ^ w ≤ 2 ^ 29 := Nat.pow_le_pow_right (by omega) hw2; omega)
  have hsw := shl1 (k := (w : Int)) (by omega) (by omega)
  rw [Int.toNat_natCast] at hsw
  refine ⟨(care, care &&& r.toNat), s4, ?_, d4, hc, by rw [← Nat.and_assoc, Nat.and_self]⟩
  refine callF_of hT rfl (e := [some (.io s4), some (.sh (.int (w : Nat))), some (.sh (.int many)), some (.sh (.int (care : Nat))), x]) ?_ rfl
  show es T (callF T m n) m (F_cube iD).body [some (.io s), some (.sh (.int (w : Nat))), none, none, none] = _
  unfold F_cube
  refine (es_cons (e1 := [some (.io s2), some (.sh (.int (w : Nat))), some (.sh (.int many)), none, none]) ?_).trans ?_
  · simp [es1, ev, evs, opd, Ans.bind, opt, getB, setB, pk, tk, pks, tks, B.dat, asgT, doCall, hD, F_draw, c1, c2, callArgs, backIn, frzIn, slotsOf, okSlots, binD, fitL, maxLen, hmany]
  refine (es_cons (e1 := [some (.io s2), some (.sh (.int (w : Nat))), some (.sh (.int many)), some (.sh (.int 0)), none]) (by simp [es1, ev, Ans.bind, asgT, setB])).trans ?_
  refine (es_cons (e1 := [some (.io s3), some (.sh (.int (w : Nat))), some (.sh (.int many)), some (.sh (.int (care : Nat))), x]) ?_).trans ?_
  · simp only [es1, evi, ev, tk, getB, Ans.bind]
    rw [if_pos ⟨by omega, by omega⟩]
    exact h1
  · have hr : ((r.toNat : Nat) : Int) = r := by omega
    have hb := band_nat care r.toNat
    rw [hr] at hb
    generalize 2 ^ w = p at hsw c4
    simp [es, es1, ev, evs, opd, Ans.bind, opt, getB, setB, pk, tk, pks, tks, B.dat, hsw, asgT, doCall, hD, F_draw, c4, callArgs, backIn, frzIn, slotsOf, okSlots, fitL, maxLen]
    simp [binD, hb, cubeD, es, tks, tk, getB, fitL, maxLen]
end
end L2.Eng
namespace L2.Eng
open PySem PySem.Spec PyProof.Rows
namespace Lk01
def top (i : Nat) : Stmt := PySem.Challenge.pw_unhurried_k01_differences_of_covers.main.body.getD i (.Pass ⟨0, 0, 0, 0⟩)
def fnT : List (Str × Nat) := [("meet", 0), ("lies_in", 1), ("literals", 2), ("size_of", 3), ("wires_of", 4), ("lowered", 5), ("split", 6), ("minus", 7), ("cover_minus", 8), ("apart", 9), ("opposite", 10), ("count", 11), ("trimmed", 12), ("_law_draws", 13), ("_law_draw", 14), ("_law_same", 15), ("_law_mixed", 16), ("_law_has", 17), ("_law_in", 18), ("_law_cube", 19), ("_law_cover", 20), ("_law_states", 21), ("_law_bits", 22), ("_law_split", 23), ("_law_minus", 24), ("_law_part", 25), ("_law_trimmed", 26), ("_law_once", 27), ("law", 28)]
def f_meet : Fn := ⟨2, 2, [false, false],
    (.cons (.ite (.e (.cmp .NotEq (.bin .BitAnd (.bin .BitAnd (.bin .BitXor (.ix (.var 0) (.cst (.int 1))) (.ix (.var 1) (.cst (.int 1)))) (.ix (.var 0) (.cst (.int 0)))) (.ix (.var 1) (.cst (.int 0)))) (.cst (.int 0)))) (.cons (.ret (.cst .non))
    .nil) .nil)
    (.cons (.ret (.tup (.cons (.bin .BitOr (.ix (.var 0) (.cst (.int 0))) (.ix (.var 1) (.cst (.int 0)))) (.cons (.bin .BitOr (.ix (.var 0) (.cst (.int 1))) (.ix (.var 1) (.cst (.int 1)))) .nil))))
    .nil))⟩
def r_meet : Rec := ⟨"meet", top 1, ["a", "b"], ["a", "b"], f_meet⟩
def f_lies_in : Fn := ⟨2, 2, [false, false],
    (.cons (.ret (.and (.cmp .Eq (.bin .BitAnd (.ix (.var 1) (.cst (.int 0))) (.ix (.var 0) (.cst (.int 0)))) (.ix (.var 1) (.cst (.int 0)))) (.cmp .Eq (.bin .BitAnd (.ix (.var 0) (.cst (.int 1))) (.ix (.var 1) (.cst (.int 0)))) (.ix (.var 1) (.cst (.int 1))))))
    .nil)⟩
def r_lies_in : Rec := ⟨"lies_in", top 2, ["a", "b"], ["a", "b"], f_lies_in⟩
def f_literals : Fn := ⟨1, 1, [false],
    (.cons (.ret (.prim .len (.cons (.call 4 (.cons (.ix (.var 0) (.cst (.int 0))) .nil)) .nil)))
    .nil)⟩
def r_literals : Rec := ⟨"literals", top 3, ["cube"], ["cube"], f_literals⟩
def f_size_of : Fn := ⟨2, 2, [false, false],
    (.cons (.ret (.bin .LShift (.cst (.int 1)) (.bin .Sub (.var 1) (.call 2 (.cons (.var 0) .nil)))))
    .nil)⟩
def r_size_of : Rec := ⟨"size_of", top 4, ["cube", "n"], ["cube", "n"], f_size_of⟩
def f_wires_of : Fn := ⟨1, 3, [false],
    (.cons (.asg (.nm 1) (.lst .nil))
    (.cons (.asg (.nm 2) (.cst (.int 0)))
    (.cons (.wh (.e (.cmp .Gt (.bin .RShift (.var 0) (.var 2)) (.cst (.int 0)))) (.cons (.ite (.e (.cmp .Eq (.bin .BitAnd (.bin .RShift (.var 0) (.var 2)) (.cst (.int 1))) (.cst (.int 1)))) (.cons (.app 1 (.var 2))
    .nil) .nil)
    (.cons (.aug 2 .Add (.cst (.int 1)))
    .nil)))
    (.cons (.ret (.var 1))
    .nil))))⟩
def r_wires_of : Rec := ⟨"wires_of", top 5, ["mask", "told", "wire"], ["mask"], f_wires_of⟩
def f_lowered : Fn := ⟨3, 3, [false, false, false],
    (.cons (.ret (.tup (.cons (.bin .BitOr (.ix (.var 0) (.cst (.int 0))) (.bin .LShift (.cst (.int 1)) (.var 1))) (.cons (.bin .BitOr (.ix (.var 0) (.cst (.int 1))) (.bin .LShift (.var 2) (.var 1))) .nil))))
    .nil)⟩
def r_lowered : Rec := ⟨"lowered", top 6, ["cube", "wire", "level"], ["cube", "wire", "level"], f_lowered⟩
def f_split : Fn := ⟨2, 6, [false, false],
    (.cons (.ite (.e (.cmp .Is (.call 0 (.cons (.var 0) (.cons (.var 1) .nil))) (.cst .non))) (.cons (.ret (.lst (.cons (.var 0) .nil)))
    .nil) .nil)
    (.cons (.asg (.nm 2) (.lst .nil))
    (.cons (.asg (.nm 3) (.var 0))
    (.cons (.for (.nm 4) (.seq (.call 4 (.cons (.bin .BitAnd (.ix (.var 1) (.cst (.int 0))) (.un .Invert (.ix (.var 0) (.cst (.int 0))))) .nil))) (.cons (.asg (.nm 5) (.bin .BitAnd (.bin .RShift (.ix (.var 1) (.cst (.int 1))) (.var 4)) (.cst (.int 1))))
    (.cons (.app 2 (.call 5 (.cons (.var 3) (.cons (.var 4) (.cons (.bin .Sub (.cst (.int 1)) (.var 5)) .nil)))))
    (.cons (.asg (.nm 3) (.call 5 (.cons (.var 3) (.cons (.var 4) (.cons (.var 5) .nil)))))
    .nil))))
    (.cons (.ret (.var 2))
    .nil)))))⟩
def r_split : Rec := ⟨"split", top 8, ["piece", "other", "told", "held", "wire", "level"], ["piece", "other"], f_split⟩
def f_minus : Fn := ⟨2, 6, [false, false],
    (.cons (.asg (.nm 2) (.lst (.cons (.var 0) .nil)))
    (.cons (.for (.nm 3) (.seq (.var 1)) (.cons (.asg (.nm 4) (.lst .nil))
    (.cons (.for (.nm 5) (.seq (.var 2)) (.cons (.ext 4 (.call 6 (.cons (.var 5) (.cons (.var 3) .nil))))
    .nil))
    (.cons (.asg (.nm 2) (.var 4))
    .nil))))
    (.cons (.ret (.prim .tuple (.cons (.var 2) .nil)))
    .nil)))⟩
def r_minus : Rec := ⟨"minus", top 9, ["cube", "cover", "pieces", "other", "left", "piece"], ["cube", "cover"], f_minus⟩
def f_cover_minus : Fn := ⟨2, 4, [false, false],
    (.cons (.asg (.nm 2) (.tup .nil))
    (.cons (.for (.nm 3) (.seq (.var 0)) (.cons (.asg (.nm 2) (.bin .Add (.var 2) (.call 7 (.cons (.var 3) (.cons (.var 1) .nil)))))
    .nil))
    (.cons (.ret (.var 2))
    .nil)))⟩
def r_cover_minus : Rec := ⟨"cover_minus", top 10, ["cover", "other", "told", "cube"], ["cover", "other"], f_cover_minus⟩
def f_apart : Fn := ⟨1, 4, [false],
    (.cons (.asg (.nm 1) (.tup .nil))
    (.cons (.for (.tp [2, 3]) (.enum (.var 0)) (.cons (.asg (.nm 1) (.bin .Add (.var 1) (.call 7 (.cons (.var 3) (.cons (.sl (.var 0) .no (.yes (.var 2))) .nil)))))
    .nil))
    (.cons (.ret (.var 1))
    .nil)))⟩
def r_apart : Rec := ⟨"apart", top 11, ["cover", "told", "at", "cube"], ["cover"], f_apart⟩
def f_opposite : Fn := ⟨1, 1, [false],
    (.cons (.ret (.call 7 (.cons (.tup (.cons (.cst (.int 0)) (.cons (.cst (.int 0)) .nil))) (.cons (.var 0) .nil))))
    .nil)⟩
def r_opposite : Rec := ⟨"opposite", top 12, ["cover"], ["cover"], f_opposite⟩
def f_count : Fn := ⟨2, 4, [false, false],
    (.cons (.ret (.prim .sum (.cons (.comp (.call 3 (.cons (.var 3) (.cons (.var 1) .nil))) (.nm 3) (.seq (.call 9 (.cons (.var 0) .nil))) .tru [2, 3]) .nil)))
    .nil)⟩
def r_count : Rec := ⟨"count", top 13, ["cover", "n", ".0", "cube"], ["cover", "n"], f_count⟩
def f_trimmed : Fn := ⟨1, 8, [false],
    (.cons (.asg (.nm 1) (.lst .nil))
    (.cons (.for (.tp [2, 3]) (.enum (.var 0)) (.cons (.asg (.nm 4) (.comp (.var 7) (.nm 7) (.seq (.sl (.var 0) .no (.yes (.var 2)))) (.e (.call 1 (.cons (.var 3) (.cons (.var 7) .nil)))) [6, 7]))
    (.cons (.asg (.nm 5) (.comp (.var 7) (.nm 7) (.seq (.sl (.var 0) (.yes (.bin .Add (.var 2) (.cst (.int 1)))) .no)) (.and (.e (.cmp .NotEq (.var 7) (.var 3))) (.e (.call 1 (.cons (.var 3) (.cons (.var 7) .nil))))) [6, 7]))
    (.cons (.ite (.e (.cmp .Eq (.bin .Add (.prim .len (.cons (.var 4) .nil)) (.prim .len (.cons (.var 5) .nil))) (.cst (.int 0)))) (.cons (.app 1 (.var 3))
    .nil) .nil)
    .nil))))
    (.cons (.ret (.prim .tuple (.cons (.var 1) .nil)))
    .nil)))⟩
def r_trimmed : Rec := ⟨"trimmed", top 14, ["cover", "told", "at", "cube", "ahead", "behind", ".0", "other"], ["cover"], f_trimmed⟩
def f__law_draws : Fn := ⟨1, 1, [false],
    (.cons (.ret (.lst (.cons (.prim .list (.cons (.var 0) .nil)) (.cons (.cst (.int 0)) (.cons (.cst (.int 0)) (.cons (.cst (.int 1)) .nil))))))
    .nil)⟩
def r__law_draws : Rec := ⟨"_law_draws", top 16, ["script"], ["script"], f__law_draws⟩
def f__law_draw : Fn := ⟨2, 4, [true, false],
    (.cons (.ite (.and (.e (.cmp .Eq (.ix (.var 0) (.cst (.int 2))) (.cst (.int 0)))) (.e (.cmp .Lt (.ix (.var 0) (.cst (.int 1))) (.prim .len (.cons (.ix (.var 0) (.cst (.int 0))) .nil))))) (.cons (.asg (.nm 2) (.ix (.ix (.var 0) (.cst (.int 0))) (.ix (.var 0) (.cst (.int 1)))))
    (.cons (.setx 0 (.cst (.int 1)) (.bin .Add (.ix (.var 0) (.cst (.int 1))) (.cst (.int 1))))
    (.cons (.ite (.e (.cmp .GtE (.var 2) (.bin .Pow (.cst (.int 10)) (.cst (.int 18))))) (.cons (.setx 0 (.cst (.int 2)) (.var 2))
    .nil) .nil)
    (.cons (.setx 0 (.cst (.int 3)) (.bin .Mod (.prim .int (.cons (.bin .Add (.bin .Add (.bin .Mult (.ix (.var 0) (.cst (.int 3))) (.cst (.int 48271))) (.var 2)) (.cst (.int 13))) .nil)) (.cst (.int 2147483647))))
    .nil)))) .nil)
    (.cons (.ite (.e (.cmp .Gt (.ix (.var 0) (.cst (.int 2))) (.cst (.int 0)))) (.cons (.asg (.nm 3) (.bin .Mod (.prim .int (.cons (.ix (.var 0) (.cst (.int 2))) .nil)) (.var 1)))
    (.cons (.setx 0 (.cst (.int 2)) (.bin .FloorDiv (.ix (.var 0) (.cst (.int 2))) (.var 1)))
    (.cons (.ret (.var 3))
    .nil))) .nil)
    (.cons (.setx 0 (.cst (.int 3)) (.bin .Mod (.prim .int (.cons (.bin .Add (.bin .Mult (.ix (.var 0) (.cst (.int 3))) (.cst (.int 69621))) (.cst (.int 7))) .nil)) (.cst (.int 2147483629))))
    (.cons (.ret (.bin .Mod (.prim .int (.cons (.bin .FloorDiv (.ix (.var 0) (.cst (.int 3))) (.cst (.int 11))) .nil)) (.var 1)))
    .nil))))⟩
def r__law_draw : Rec := ⟨"_law_draw", top 17, ["draws", "limit", "cell", "value"], ["draws", "limit"], f__law_draw⟩
def f__law_same : Fn := ⟨2, 3, [false, false],
    (.cons (.ite (.or (.e (.prim .isi (.cons (.var 1) (.cons (.cst (.ty "tuple")) .nil)))) (.e (.prim .isi (.cons (.var 1) (.cons (.cst (.ty "list")) .nil))))) (.cons (.ite (.and (.e (.prim .isi (.cons (.var 1) (.cons (.cst (.ty "tuple")) .nil)))) (.nt (.e (.prim .isi (.cons (.var 0) (.cons (.cst (.ty "tuple")) .nil)))))) (.cons (.ret (.cst (.bl false)))
    .nil) .nil)
    (.cons (.ite (.and (.e (.prim .isi (.cons (.var 1) (.cons (.cst (.ty "list")) .nil)))) (.nt (.e (.prim .isi (.cons (.var 0) (.cons (.cst (.ty "list")) .nil)))))) (.cons (.ret (.cst (.bl false)))
    .nil) .nil)
    (.cons (.ite (.e (.cmp .NotEq (.prim .len (.cons (.var 0) .nil)) (.prim .len (.cons (.var 1) .nil)))) (.cons (.ret (.cst (.bl false)))
    .nil) .nil)
    (.cons (.for (.nm 2) (.rng (.prim .len (.cons (.var 1) .nil))) (.cons (.ite (.nt (.e (.call 15 (.cons (.ix (.var 0) (.var 2)) (.cons (.ix (.var 1) (.var 2)) .nil))))) (.cons (.ret (.cst (.bl false)))
    .nil) .nil)
    .nil))
    (.cons (.ret (.cst (.bl true)))
    .nil))))) .nil)
    (.cons (.ite (.e (.prim .isi (.cons (.var 1) (.cons (.cst (.ty "str")) .nil)))) (.cons (.ret (.and (.prim .isi (.cons (.var 0) (.cons (.cst (.ty "str")) .nil))) (.cmp .Eq (.var 0) (.var 1))))
    .nil) .nil)
    (.cons (.ite (.e (.cmp .Is (.var 1) (.cst .non))) (.cons (.ret (.cmp .Is (.var 0) (.cst .non)))
    .nil) .nil)
    (.cons (.ite (.or (.e (.prim .isi (.cons (.var 1) (.cons (.cst (.ty "bool")) .nil)))) (.e (.prim .isi (.cons (.var 0) (.cons (.cst (.ty "bool")) .nil))))) (.cons (.ret (.and (.prim .isi (.cons (.var 1) (.cons (.cst (.ty "bool")) .nil))) (.and (.prim .isi (.cons (.var 0) (.cons (.cst (.ty "bool")) .nil))) (.cmp .Eq (.var 0) (.var 1)))))
    .nil) .nil)
    (.cons (.ret (.and (.prim .isi (.cons (.var 0) (.cons (.cst (.ty "int")) .nil))) (.and (.prim .isi (.cons (.var 1) (.cons (.cst (.ty "int")) .nil))) (.cmp .Eq (.var 0) (.var 1)))))
    .nil)))))⟩
def r__law_same : Rec := ⟨"_law_same", top 19, ["actual", "expected", "k"], ["actual", "expected"], f__law_same⟩
def f__law_mixed : Fn := ⟨2, 5, [true, false],
    (.cons (.asg (.nm 2) (.lst .nil))
    (.cons (.for (.nm 3) (.seq (.var 1)) (.cons (.asg (.nm 4) (.call 14 (.cons (.var 0) (.cons (.bin .Add (.prim .len (.cons (.var 2) .nil)) (.cst (.int 1))) .nil))))
    (.cons (.asg (.nm 2) (.bin .Add (.bin .Add (.sl (.var 2) .no (.yes (.var 4))) (.lst (.cons (.var 3) .nil))) (.sl (.var 2) (.yes (.var 4)) .no)))
    .nil)))
    (.cons (.ret (.var 2))
    .nil)))⟩
def r__law_mixed : Rec := ⟨"_law_mixed", top 20, ["draws", "rows", "told", "row", "at"], ["draws", "rows"], f__law_mixed⟩
def f__law_has : Fn := ⟨2, 2, [false, false],
    (.cons (.ret (.cmp .Eq (.bin .BitAnd (.var 0) (.ix (.var 1) (.cst (.int 0)))) (.ix (.var 1) (.cst (.int 1)))))
    .nil)⟩
def r__law_has : Rec := ⟨"_law_has", top 21, ["x", "cube"], ["x", "cube"], f__law_has⟩
def f__law_in : Fn := ⟨2, 4, [false, false],
    (.cons (.ret (.cmp .Gt (.prim .len (.cons (.comp (.var 3) (.nm 3) (.seq (.var 1)) (.e (.call 17 (.cons (.var 0) (.cons (.var 3) .nil)))) [2, 3]) .nil)) (.cst (.int 0))))
    .nil)⟩
def r__law_in : Rec := ⟨"_law_in", top 22, ["x", "cover", ".0", "cube"], ["x", "cover"], f__law_in⟩
def f__law_cube : Fn := ⟨2, 5, [true, false],
    (.cons (.asg (.nm 2) (.ix (.lst (.cons (.cst (.int 0)) (.cons (.cst (.int 1)) (.cons (.cst (.int 2)) (.cons (.var 1) (.cons (.call 14 (.cons (.var 0) (.cons (.bin .Add (.var 1) (.cst (.int 1))) .nil))) .nil)))))) (.call 14 (.cons (.var 0) (.cons (.cst (.int 5)) .nil)))))
    (.cons (.asg (.nm 3) (.cst (.int 0)))
    (.cons (.for (.nm 4) (.rng (.var 2)) (.cons (.asg (.nm 3) (.bin .BitOr (.var 3) (.bin .LShift (.cst (.int 1)) (.call 14 (.cons (.var 0) (.cons (.var 1) .nil))))))
    .nil))
    (.cons (.ret (.tup (.cons (.var 3) (.cons (.bin .BitAnd (.var 3) (.call 14 (.cons (.var 0) (.cons (.bin .LShift (.cst (.int 1)) (.var 1)) .nil)))) .nil))))
    .nil))))⟩
def r__law_cube : Rec := ⟨"_law_cube", top 23, ["draws", "n", "many", "care", "k"], ["draws", "n"], f__law_cube⟩
def f__law_cover : Fn := ⟨3, 5, [true, false, false],
    (.cons (.ret (.prim .tuple (.cons (.comp (.call 19 (.cons (.var 0) (.cons (.var 1) .nil))) (.nm 4) (.rng (.call 14 (.cons (.var 0) (.cons (.bin .Add (.var 2) (.cst (.int 1))) .nil)))) .tru [3, 4]) .nil)))
    .nil)⟩
def r__law_cover : Rec := ⟨"_law_cover", top 24, ["draws", "n", "most", ".0", "k"], ["draws", "n", "most"], f__law_cover⟩
def f__law_states : Fn := ⟨2, 4, [false, false],
    (.cons (.ret (.comp (.var 3) (.nm 3) (.rng (.bin .LShift (.cst (.int 1)) (.var 1))) (.e (.call 18 (.cons (.var 3) (.cons (.var 0) .nil)))) [2, 3]))
    .nil)⟩
def r__law_states : Rec := ⟨"_law_states", top 25, ["cover", "n", ".0", "x"], ["cover", "n"], f__law_states⟩
def f__law_bits : Fn := ⟨1, 3, [false],
    (.cons (.asg (.nm 1) (.lst .nil))
    (.cons (.asg (.nm 2) (.cst (.int 0)))
    (.cons (.wh (.e (.cmp .Gt (.bin .RShift (.var 0) (.var 2)) (.cst (.int 0)))) (.cons (.ite (.e (.cmp .Eq (.bin .BitAnd (.bin .RShift (.var 0) (.var 2)) (.cst (.int 1))) (.cst (.int 1)))) (.cons (.app 1 (.var 2))
    .nil) .nil)
    (.cons (.asg (.nm 2) (.bin .Add (.var 2) (.cst (.int 1))))
    .nil)))
    (.cons (.ret (.var 1))
    .nil))))⟩
def r__law_bits : Rec := ⟨"_law_bits", top 26, ["mask", "told", "wire"], ["mask"], f__law_bits⟩
def f__law_split : Fn := ⟨2, 6, [false, false],
    (.cons (.ite (.e (.cmp .NotEq (.bin .BitAnd (.bin .BitAnd (.bin .BitXor (.ix (.var 0) (.cst (.int 1))) (.ix (.var 1) (.cst (.int 1)))) (.ix (.var 0) (.cst (.int 0)))) (.ix (.var 1) (.cst (.int 0)))) (.cst (.int 0)))) (.cons (.ret (.lst (.cons (.var 0) .nil)))
    .nil) .nil)
    (.cons (.asg (.nm 2) (.lst .nil))
    (.cons (.asg (.nm 3) (.var 0))
    (.cons (.for (.nm 4) (.seq (.call 22 (.cons (.bin .BitAnd (.ix (.var 1) (.cst (.int 0))) (.un .Invert (.ix (.var 0) (.cst (.int 0))))) .nil))) (.cons (.asg (.nm 5) (.bin .LShift (.cst (.int 1)) (.var 4)))
    (.cons (.app 2 (.tup (.cons (.bin .BitOr (.ix (.var 3) (.cst (.int 0))) (.var 5)) (.cons (.bin .BitOr (.ix (.var 3) (.cst (.int 1))) (.bin .BitAnd (.var 5) (.un .Invert (.ix (.var 1) (.cst (.int 1)))))) .nil))))
    (.cons (.asg (.nm 3) (.tup (.cons (.bin .BitOr (.ix (.var 3) (.cst (.int 0))) (.var 5)) (.cons (.bin .BitOr (.ix (.var 3) (.cst (.int 1))) (.bin .BitAnd (.var 5) (.ix (.var 1) (.cst (.int 1))))) .nil))))
    .nil))))
    (.cons (.ret (.var 2))
    .nil)))))⟩
def r__law_split : Rec := ⟨"_law_split", top 27, ["piece", "other", "told", "held", "wire", "bit"], ["piece", "other"], f__law_split⟩
def f__law_minus : Fn := ⟨2, 6, [false, false],
    (.cons (.asg (.nm 2) (.lst (.cons (.var 0) .nil)))
    (.cons (.for (.nm 3) (.seq (.var 1)) (.cons (.asg (.nm 4) (.lst .nil))
    (.cons (.for (.nm 5) (.seq (.var 2)) (.cons (.asg (.nm 4) (.bin .Add (.var 4) (.call 23 (.cons (.var 5) (.cons (.var 3) .nil)))))
    .nil))
    (.cons (.asg (.nm 2) (.var 4))
    .nil))))
    (.cons (.ret (.prim .tuple (.cons (.var 2) .nil)))
    .nil)))⟩
def r__law_minus : Rec := ⟨"_law_minus", top 28, ["cube", "cover", "pieces", "other", "after", "piece"], ["cube", "cover"], f__law_minus⟩
def f__law_part : Fn := ⟨2, 2, [false, false],
    (.cons (.ret (.and (.cmp .Eq (.bin .BitAnd (.ix (.var 1) (.cst (.int 0))) (.ix (.var 0) (.cst (.int 0)))) (.ix (.var 1) (.cst (.int 0)))) (.cmp .Eq (.bin .BitAnd (.ix (.var 0) (.cst (.int 1))) (.ix (.var 1) (.cst (.int 0)))) (.ix (.var 1) (.cst (.int 1))))))
    .nil)⟩
def r__law_part : Rec := ⟨"_law_part", top 29, ["a", "b"], ["a", "b"], f__law_part⟩
def f__law_trimmed : Fn := ⟨1, 6, [false],
    (.cons (.asg (.nm 1) (.lst .nil))
    (.cons (.for (.nm 2) (.rng (.prim .len (.cons (.var 0) .nil))) (.cons (.asg (.nm 3) (.comp (.var 5) (.nm 5) (.rng (.prim .len (.cons (.var 0) .nil))) (.and (.e (.call 25 (.cons (.ix (.var 0) (.var 2)) (.cons (.ix (.var 0) (.var 5)) .nil)))) (.or (.e (.cmp .NotEq (.ix (.var 0) (.var 5)) (.ix (.var 0) (.var 2)))) (.e (.cmp .Lt (.var 5) (.var 2))))) [4, 5]))
    (.cons (.ite (.e (.cmp .Eq (.prim .len (.cons (.var 3) .nil)) (.cst (.int 0)))) (.cons (.app 1 (.ix (.var 0) (.var 2)))
    .nil) .nil)
    .nil)))
    (.cons (.ret (.prim .tuple (.cons (.var 1) .nil)))
    .nil)))⟩
def r__law_trimmed : Rec := ⟨"_law_trimmed", top 30, ["cover", "told", "k", "lost", ".0", "j"], ["cover"], f__law_trimmed⟩
def f__law_once : Fn := ⟨3, 6, [false, false, false],
    (.cons (.for (.nm 3) (.rng (.bin .LShift (.cst (.int 1)) (.var 2))) (.cons (.ite (.e (.cmp .NotEq (.prim .len (.cons (.comp (.var 5) (.nm 5) (.seq (.var 0)) (.e (.call 17 (.cons (.var 3) (.cons (.var 5) .nil)))) [4, 5]) .nil)) (.prim .int (.cons (.cmp .In (.var 3) (.var 1)) .nil)))) (.cons (.ret (.cst (.bl false)))
    .nil) .nil)
    .nil))
    (.cons (.ret (.cst (.bl true)))
    .nil))⟩
def r__law_once : Rec := ⟨"_law_once", top 31, ["cover", "due", "n", "x", ".0", "cube"], ["cover", "due", "n"], f__law_once⟩
def f_law : Fn := ⟨1, 18, [false],
    (.cons (.asg (.nm 1) (.call 13 (.cons (.var 0) .nil)))
    (.cons (.for (.nm 2) (.rng (.cst (.int 3))) (.cons (.asg (.nm 3) (.bin .Add (.cst (.int 1)) (.call 14 (.cons (.var 1) (.cons (.cst (.int 6)) .nil)))))
    (.cons (.asg (.nm 4) (.call 20 (.cons (.var 1) (.cons (.var 3) (.cons (.cst (.int 6)) .nil)))))
    (.cons (.asg (.nm 5) (.call 20 (.cons (.var 1) (.cons (.var 3) (.cons (.cst (.int 5)) .nil)))))
    (.cons (.ite (.and (.e (.cmp .Eq (.call 14 (.cons (.var 1) (.cons (.cst (.int 2)) .nil))) (.cst (.int 0)))) (.e (.cmp .Gt (.prim .len (.cons (.var 4) .nil)) (.cst (.int 0))))) (.cons (.asg (.nm 6) (.call 14 (.cons (.var 1) (.cons (.prim .len (.cons (.var 4) .nil)) .nil))))
    (.cons (.asg (.nm 7) (.bin .LShift (.cst (.int 1)) (.call 14 (.cons (.var 1) (.cons (.var 3) .nil)))))
    (.cons (.asg (.nm 8) (.tup (.cons (.bin .BitAnd (.ix (.ix (.var 4) (.var 6)) (.cst (.int 0))) (.un .Invert (.var 7))) (.cons (.bin .BitAnd (.ix (.ix (.var 4) (.var 6)) (.cst (.int 1))) (.un .Invert (.var 7))) .nil))))
    (.cons (.asg (.nm 4) (.prim .tuple (.cons (.call 16 (.cons (.var 1) (.cons (.bin .Add (.prim .list (.cons (.var 4) .nil)) (.lst (.cons (.ix (.var 4) (.var 6)) (.cons (.var 8) .nil)))) .nil))) .nil)))
    .nil)))) .nil)
    (.cons (.asg (.nm 9) (.call 19 (.cons (.var 1) (.cons (.var 3) .nil))))
    (.cons (.asg (.nm 10) (.call 21 (.cons (.var 4) (.cons (.var 3) .nil))))
    (.cons (.asg (.nm 11) (.call 21 (.cons (.var 5) (.cons (.var 3) .nil))))
    (.cons (.for (.nm 12) (.seq (.sl (.var 4) .no (.yes (.cst (.int 3))))) (.cons (.ite (.nt (.e (.call 15 (.cons (.call 6 (.cons (.var 9) (.cons (.var 12) .nil))) (.cons (.call 23 (.cons (.var 9) (.cons (.var 12) .nil))) .nil))))) (.cons (.ret (.cst (.bl false)))
    .nil) .nil)
    .nil))
    (.cons (.asg (.nm 13) (.call 7 (.cons (.var 9) (.cons (.var 4) .nil))))
    (.cons (.ite (.nt (.e (.call 15 (.cons (.var 13) (.cons (.call 24 (.cons (.var 9) (.cons (.var 4) .nil))) .nil))))) (.cons (.ret (.cst (.bl false)))
    .nil) .nil)
    (.cons (.ite (.nt (.e (.call 27 (.cons (.var 13) (.cons (.comp (.var 17) (.nm 17) (.seq (.call 21 (.cons (.tup (.cons (.var 9) .nil)) (.cons (.var 3) .nil)))) (.e (.cmp .NotIn (.var 17) (.var 10))) [16, 17]) (.cons (.var 3) .nil)))))) (.cons (.ret (.cst (.bl false)))
    .nil) .nil)
    (.cons (.asg (.nm 14) (.tup .nil))
    (.cons (.for (.nm 12) (.seq (.var 4)) (.cons (.asg (.nm 14) (.bin .Add (.var 14) (.call 24 (.cons (.var 12) (.cons (.var 5) .nil)))))
    .nil))
    (.cons (.ite (.nt (.e (.call 15 (.cons (.call 8 (.cons (.var 4) (.cons (.var 5) .nil))) (.cons (.var 14) .nil))))) (.cons (.ret (.cst (.bl false)))
    .nil) .nil)
    (.cons (.ite (.e (.cmp .NotEq (.call 21 (.cons (.var 14) (.cons (.var 3) .nil))) (.comp (.var 17) (.nm 17) (.seq (.var 10)) (.e (.cmp .NotIn (.var 17) (.var 11))) [16, 17]))) (.cons (.ret (.cst (.bl false)))
    .nil) .nil)
    (.cons (.asg (.nm 14) (.tup .nil))
    (.cons (.for (.nm 15) (.rng (.prim .len (.cons (.var 4) .nil))) (.cons (.asg (.nm 14) (.bin .Add (.var 14) (.call 24 (.cons (.ix (.var 4) (.var 15)) (.cons (.sl (.var 4) .no (.yes (.var 15))) .nil)))))
    .nil))
    (.cons (.ite (.or (.nt (.e (.call 15 (.cons (.call 9 (.cons (.var 4) .nil)) (.cons (.var 14) .nil))))) (.nt (.e (.call 27 (.cons (.var 14) (.cons (.var 10) (.cons (.var 3) .nil))))))) (.cons (.ret (.cst (.bl false)))
    .nil) .nil)
    (.cons (.asg (.nm 13) (.call 10 (.cons (.var 4) .nil)))
    (.cons (.ite (.or (.nt (.e (.call 15 (.cons (.var 13) (.cons (.call 24 (.cons (.tup (.cons (.cst (.int 0)) (.cons (.cst (.int 0)) .nil))) (.cons (.var 4) .nil))) .nil))))) (.nt (.e (.call 15 (.cons (.call 12 (.cons (.var 4) .nil)) (.cons (.call 26 (.cons (.var 4) .nil)) .nil)))))) (.cons (.ret (.cst (.bl false)))
    .nil) .nil)
    (.cons (.ite (.or (.nt (.e (.call 15 (.cons (.call 11 (.cons (.var 4) (.cons (.var 3) .nil))) (.cons (.prim .len (.cons (.var 10) .nil)) .nil))))) (.nt (.e (.call 15 (.cons (.call 11 (.cons (.bin .Add (.var 13) (.var 4)) (.cons (.var 3) .nil))) (.cons (.bin .LShift (.cst (.int 1)) (.var 3)) .nil)))))) (.cons (.ret (.cst (.bl false)))
    .nil) .nil)
    .nil))))))))))))))))))))))
    (.cons (.ret (.cst (.bl true)))
    .nil)))⟩
def r_law : Rec := ⟨"law", top 32, ["script", "draws", "turn", "n", "cover", "other", "at", "bit", "less", "cube", "here", "there", "one", "told", "due", "k", ".0", "x"], ["script"], f_law⟩
def recs : List Rec := [r_meet, r_lies_in, r_literals, r_size_of, r_wires_of, r_lowered, r_split, r_minus, r_cover_minus, r_apart, r_opposite, r_count, r_trimmed, r__law_draws, r__law_draw, r__law_same, r__law_mixed, r__law_has, r__law_in, r__law_cube, r__law_cover, r__law_states, r__law_bits, r__law_split, r__law_minus, r__law_part, r__law_trimmed, r__law_once, r_law]
theorem ok_meet : r_meet.Ok fnT := Rec.ok_of (n := 200) (by decide +kernel) (by decide +kernel)
theorem ok_lies_in : r_lies_in.Ok fnT := Rec.ok_of (n := 200) (by decide +kernel) (by decide +kernel)
theorem ok_literals : r_literals.Ok fnT := Rec.ok_of (n := 200) (by decide +kernel) (by decide +kernel)
theorem ok_size_of : r_size_of.Ok fnT := Rec.ok_of (n := 200) (by decide +kernel) (by decide +kernel)
theorem ok_wires_of : r_wires_of.Ok fnT := Rec.ok_of (n := 200) (by decide +kernel) (by decide +kernel)
theorem ok_lowered : r_lowered.Ok fnT := Rec.ok_of (n := 200) (by decide +kernel) (by decide +kernel)
theorem ok_split : r_split.Ok fnT := Rec.ok_of (n := 200) (by decide +kernel) (by decide +kernel)
theorem ok_minus : r_minus.Ok fnT := Rec.ok_of (n := 200) (by decide +kernel) (by decide +kernel)
theorem ok_cover_minus : r_cover_minus.Ok fnT := Rec.ok_of (n := 200) (by decide +kernel) (by decide +kernel)
theorem ok_apart : r_apart.Ok fnT := Rec.ok_of (n := 200) (by decide +kernel) (by decide +kernel)
theorem ok_opposite : r_opposite.Ok fnT := Rec.ok_of (n := 200) (by decide +kernel) (by decide +kernel)
theorem ok_count : r_count.Ok fnT := Rec.ok_of (n := 200) (by decide +kernel) (by decide +kernel)
theorem ok_trimmed : r_trimmed.Ok fnT := Rec.ok_of (n := 200) (by decide +kernel) (by decide +kernel)
theorem ok__law_draws : r__law_draws.Ok fnT := Rec.ok_of (n := 200) (by decide +kernel) (by decide +kernel)
theorem ok__law_draw : r__law_draw.Ok fnT := Rec.ok_of (n := 200) (by decide +kernel) (by decide +kernel)
theorem ok__law_same : r__law_same.Ok fnT := Rec.ok_of (n := 200) (by decide +kernel) (by decide +kernel)
theorem ok__law_mixed : r__law_mixed.Ok fnT := Rec.ok_of (n := 200) (by decide +kernel) (by decide +kernel)
theorem ok__law_has : r__law_has.Ok fnT := Rec.ok_of (n := 200) (by decide +kernel) (by decide +kernel)
theorem ok__law_in : r__law_in.Ok fnT := Rec.ok_of (n := 200) (by decide +kernel) (by decide +kernel)
theorem ok__law_cube : r__law_cube.Ok fnT := Rec.ok_of (n := 200) (by decide +kernel) (by decide +kernel)
theorem ok__law_cover : r__law_cover.Ok fnT := Rec.ok_of (n := 200) (by decide +kernel) (by decide +kernel)
theorem ok__law_states : r__law_states.Ok fnT := Rec.ok_of (n := 200) (by decide +kernel) (by decide +kernel)
theorem ok__law_bits : r__law_bits.Ok fnT := Rec.ok_of (n := 200) (by decide +kernel) (by decide +kernel)
theorem ok__law_split : r__law_split.Ok fnT := Rec.ok_of (n := 200) (by decide +kernel) (by decide +kernel)
theorem ok__law_minus : r__law_minus.Ok fnT := Rec.ok_of (n := 200) (by decide +kernel) (by decide +kernel)
theorem ok__law_part : r__law_part.Ok fnT := Rec.ok_of (n := 200) (by decide +kernel) (by decide +kernel)
theorem ok__law_trimmed : r__law_trimmed.Ok fnT := Rec.ok_of (n := 200) (by decide +kernel) (by decide +kernel)
theorem ok__law_once : r__law_once.Ok fnT := Rec.ok_of (n := 200) (by decide +kernel) (by decide +kernel)
theorem ok_law : r_law.Ok fnT := Rec.ok_of (n := 200) (by decide +kernel) (by decide +kernel)
end Lk01
end L2.Eng
namespace L2.Eng
open PySem PySem.Spec PyProof.Rows L2
/-! ## cubes, states, wires: what all laws of the first half share -/
def natD (k : Nat) : D := .int (k : Nat)
def coverD (cs : List (Nat × Nat)) : D := .tup (cs.map cubeD)
theorem range_nat (n : Nat) : rangeD 0 n = (List.range n).map natD := by
  unfold rangeD natD
  simp
theorem nat_beq (a b : Nat) : ((a : Int) == (b : Int)) = (a == b) := by
  rw [Bool.eq_iff_iff, beq_iff_eq, beq_iff_eq]; omega
theorem bor2 (u v : Nat) : binD .BitOr (.int (u : Nat)) (.int (v : Nat)) = some (false, .int ((u ||| v : Nat) : Int)) := by simp only [binD, bor_nat]
theorem band2 (u v : Nat) : binD .BitAnd (.int (u : Nat)) (.int (v : Nat)) = some (false, .int ((u &&& v : Nat) : Int)) := by simp only [binD, band_nat]
theorem bxor2 (u v : Nat) : binD .BitXor (.int (u : Nat)) (.int (v : Nat)) = some (false, .int ((u ^^^ v : Nat) : Int)) := by simp only [binD, bxor_nat]
theorem cu0 (c : Nat × Nat) : ixD (cubeD c) (.int 0) = some (.int (c.1 : Nat)) := rfl
theorem cu1 (c : Nat × Nat) : ixD (cubeD c) (.int 1) = some (.int (c.2 : Nat)) := rfl
theorem ceq (u v : Nat) : cmpD .Eq (.int (u : Nat)) (.int (v : Nat)) = some (u == v) := by
  simp only [cmpD, D.ok, D.eq, Bool.and_true, if_true, nat_beq]
theorem cne (u v : Nat) : cmpD .NotEq (.int (u : Nat)) (.int (v : Nat)) = some (!(u == v)) := by
  simp only [cmpD, D.ok, D.eq, Bool.and_true, if_true, nat_beq]
theorem eq0 (u : Nat) : cmpD .Eq (.int (u : Nat)) (.int 0) = some (u == 0) := ceq u 0
theorem ne0 (u : Nat) : cmpD .NotEq (.int (u : Nat)) (.int 0) = some (!(u == 0)) := cne u 0
theorem eq1 (u : Nat) : cmpD .Eq (.int (u : Nat)) (.int 1) = some (u == 1) := ceq u 1
theorem gt0 (u : Nat) : cmpD .Gt (.int (u : Nat)) (.int 0) = some (decide (0 < u)) := by
  simp only [cmpD]
  congr 1
  rw [Bool.eq_iff_iff, decide_eq_true_eq, decide_eq_true_eq]; omega
theorem testBit_div (a i : Nat) : (a / 2 ^ i % 2 == 1) = a.testBit i := by
  rw [Nat.testBit_eq_decide_div_mod_eq]
  by_cases h : a / 2 ^ i % 2 = 1 <;> simp [h]
theorem shr_nat (a : Nat) {j : Int} (h : 0 ≤ j) : binD .RShift (.int (a : Nat)) (.int j) = some (false, .int ((a / 2 ^ j.toNat : Nat) : Int)) := by
  simp only [binD]
  rw [if_pos h, pow_i h, Int.natCast_ediv]
theorem shrN (a j : Nat) : binD .RShift (.int (a : Nat)) (.int (j : Nat)) = some (false, .int ((a / 2 ^ j : Nat) : Int)) := by
  rw [shr_nat a (by omega), Int.toNat_natCast]
theorem shlN {j : Nat} (h : j ≤ 1000) : binD .LShift (.int 1) (.int (j : Nat)) = some (false, .int ((2 ^ j : Nat) : Int)) := by
  rw [shl1 (by omega) (by omega), Int.toNat_natCast]
theorem and1 (a : Nat) : binD .BitAnd (.int (a : Nat)) (.int 1) = some (false, .int ((a % 2 : Nat) : Int)) := by
  simp only [binD]
  have := band_nat a 1
  rw [Nat.and_one_is_mod] at this
  simp only [Int.natCast_one] at this
  rw [this]
theorem addN (u v : Nat) : binD .Add (.int (u : Nat)) (.int (v : Nat)) = some (false, .int ((u + v : Nat) : Int)) := by
  simp only [binD, Int.natCast_add]
theorem addN1 (u : Nat) : binD .Add (.int (u : Nat)) (.int 1) = some (false, .int ((u + 1 : Nat) : Int)) := addN u 1
theorem lenL (xs : List D) : primD .len [.lst xs] = some (false, .int (xs.length : Nat)) := rfl
theorem lenT (xs : List D) : primD .len [.tup xs] = some (false, .int (xs.length : Nat)) := rfl
theorem lenC (cs : List (Nat × Nat)) : primD .len [coverD cs] = some (false, .int (cs.length : Nat)) := by
  simp only [coverD, lenT, List.length_map]
/-- x with the bits of y taken out -/
def nd (x y : Nat) : Nat := x ^^^ (x &&& y)
theorem nd_bit (x y i : Nat) : (nd x y).testBit i = (x.testBit i && !y.testBit i) := by
  unfold nd
  rw [Nat.testBit_xor, Nat.testBit_and]
  cases x.testBit i <;> cases y.testBit i <;> rfl
theorem nd_int (x y : Nat) : Builtin.bitAnd (x : Int) (Builtin.bitNot (y : Int)) = ((nd x y : Nat) : Int) := by
  rw [bitAnd_not, band_nat]
  unfold nd
  have h := bxor_nat x (x &&& y)
  rw [bitXor_and, band_nat, ← Nat.and_assoc, Nat.and_self] at h
  omega
theorem bnd (x y : Nat) : binD .BitAnd (.int (x : Nat)) (.int (Builtin.bitNot (y : Int))) = some (false, .int ((nd x y : Nat) : Int)) := by
  simp only [binD, nd_int]
theorem inv (y : Nat) : unD .Invert (.int (y : Nat)) = some (.int (Builtin.bitNot (y : Int))) := rfl
section
variable {T : List Fn} {m : Nat}
theorem compN_enc {α : Type} {f : D → Env → Ans (Option D)} (enc : α → D) (h : α → Option D) {e : Env} : ∀ {cs : List α}, (∀ c ∈ cs, f (enc c) e = .val (h c) e) → compN f (cs.map enc) e = .val (cs.filterMap h) e
  | [], _ => rfl
  | c :: cs, hc => by
    simp only [List.map_cons, compN, hc c (by simp), Ans.bind, compN_enc enc h (cs := cs) fun c hd => hc c (by simp [hd])]
    rw [List.filterMap_cons]
    cases h c <;> rfl
theorem ev_comp_enc {α : Type} {P : Nat → List B → CA} {x : Ex} {t : Tg} {it : It} {c : Tt} {own : List Nat} {e e1 : Env} {cs : List α} (enc : α → D) (h : α → Option D) (hit : evi T P it e = .val (cs.map enc) e1) (hst : stillB e1 own = true)
    (hc : ∀ d ∈ cs, turnC T P x t c own (enc d) e1 = .val (h d) e1) (hf : (cs.filterMap h).length ≤ maxLen) : ev T P (.comp x t it c own) e = .val (true, .lst (cs.filterMap h)) e1 :=
  ev_comp hit hst (compN_enc enc h hc) hf
theorem fm_filter {α : Type} (enc : α → D) (p : α → Bool) (cs : List α) : cs.filterMap (fun c => if p c then some (enc c) else none) = (cs.filter p).map enc := by
  induction cs with
  | nil => rfl
  | cons c cs ih =>
    rw [List.filterMap_cons, List.filter_cons]
    cases p c <;> simp [ih]
theorem es_rt {P : Nat → List B → CA} {s : Sm} {r : Sms} {e e1 : Env} {f : Bool} {d : D} (h : es1 T P m s e = .val (.rt f d) e1) : es T P m (.cons s r) e = .val (.rt f d) e1 := by
  simp only [es, h, Ans.bind]
theorem es1_itT {P : Nat → List B → CA} {c : Tt} {a b : Sms} {e e1 e2 : Env} {fl : Fl} (hc : evt T P c e = .val true e1) (h : es T P m a e1 = .val fl e2) : es1 T P m (.ite c a b) e = .val fl e2 := by
  simp only [es1, hc, Ans.bind, if_true, h]
theorem es1_itF {P : Nat → List B → CA} {c : Tt} {a b : Sms} {e e1 e2 : Env} {fl : Fl} (hc : evt T P c e = .val false e1) (h : es T P m b e1 = .val fl e2) : es1 T P m (.ite c a b) e = .val fl e2 := by
  simp only [es1, hc, Ans.bind, Bool.false_eq_true, if_false, h]
theorem opd_ev {P : Nat → List B → CA} {x : Ex} {e e1 : Env} {r : Bool × D} (hx : ∀ i, x ≠ .var i) (h : ev T P x e = .val r e1) : opd x (ev T P x) e = .val (.v r.2) e1 := by
  have e2 : opd x (ev T P x) e = (ev T P x e).bind fun r e1 => .val (.v r.2) e1 := by
    cases x <;> first | rfl | exact absurd rfl (hx _)
  rw [e2, h]
  rfl
theorem ev_prim1 {P : Nat → List B → CA} {p : Prim} {x : Ex} {e e1 : Env} {r r2 : Bool × D} (hx : ∀ i, x ≠ .var i) (h : ev T P x e = .val r e1) (hp : primD p [r.2] = some r2) : ev T P (.prim p (.cons x .nil)) e = .val r2 e1 := by
  simp only [ev, evs, opd_ev hx h, Ans.bind, pks, pk, hp, opt]
theorem ev_cmp_l {P : Nat → List B → CA} {o : CmpOp} {a b : Ex} {e e1 e2 : Env} {r : Bool × D} {ob : Op} {db : D} {c : Bool} (ha : ∀ i, a ≠ .var i) (h : ev T P a e = .val r e1) (hb : opd b (ev T P b) e1 = .val ob e2) (hk : pk e2 ob = some db) (hc : cmpD o r.2 db = some c) : ev T P (.cmp o a b) e = .val (false, .bl c) e2 := by
  have hx : pk e2 (.v r.2) = some r.2 := rfl
  simp only [ev, opd_ev ha h, Ans.bind, hb, hx, hk, hc, opt]
theorem opd_cst {P : Nat → List B → CA} {d : D} {e : Env} : opd (.cst d) (ev T P (.cst d)) e = .val (.v d) e := rfl
theorem es1_ret {P : Nat → List B → CA} {x : Ex} {e e1 : Env} {r : Bool × D} (hx : ∀ i, x ≠ .var i) (h : ev T P x e = .val r e1) : es1 T P m (.ret x) e = .val (.rt r.1 r.2) e1 := by
  have e2 : es1 T P m (.ret x) e = (ev T P x e).bind fun r e1 => .val (.rt r.1 r.2) e1 := by
    cases x <;> first | rfl | exact absurd rfl (hx _)
  rw [e2, h]
  rfl
theorem es_ret {P : Nat → List B → CA} {x : Ex} {r : Sms} {e e1 : Env} {f : Bool} {d : D} (h : es1 T P m (.ret x) e = .val (.rt f d) e1) : es T P m (.cons (.ret x) r) e = .val (.rt f d) e1 := by
  simp only [es, h, Ans.bind]
def hasB (x : Nat) (c : Nat × Nat) : Bool := x &&& c.1 == c.2
def F_has : Fn := ⟨2, 2, [false, false],
    (.cons (.ret (.cmp .Eq (.bin .BitAnd (.var 0) (.ix (.var 1) (.cst (.int 0)))) (.ix (.var 1) (.cst (.int 1)))))
    .nil)⟩
theorem has_ok {i N : Nat} (hT : T[i]? = some F_has) (hN : 1 ≤ N) (x : Nat) (c : Nat × Nat) : callF T m N i [.sh (natD x), .sh (cubeD c)] = .ret false (.bl (hasB x c)) [.sh (natD x), .sh (cubeD c)] := by
  obtain ⟨n, rfl⟩ : ∃ n, N = n + 1 := ⟨N - 1, by omega⟩
  refine callF_of hT rfl (e := [some (.sh (natD x)), some (.sh (cubeD c))]) ?_ rfl
  simp [F_has, natD, es, es1, ev, evs, opd, Ans.bind, opt, getB, setB, pk, tk, pks, tks, B.dat, cu0, cu1, band2, ceq, hasB]
def F_in (iH : Nat) : Fn := ⟨2, 4, [false, false],
    (.cons (.ret (.cmp .Gt (.prim .len (.cons (.comp (.var 3) (.nm 3) (.seq (.var 1)) (.e (.call iH (.cons (.var 0) (.cons (.var 3) .nil)))) [2, 3]) .nil)) (.cst (.int 0))))
    .nil)⟩
theorem filter_any {α : Type} (p : α → Bool) (cs : List α) : decide (0 < (cs.filter p).length) = cs.any p := by
  rw [Bool.eq_iff_iff, decide_eq_true_eq, List.any_eq_true, List.length_pos_iff_exists_mem]
  constructor
  · rintro ⟨c, hc⟩
    rw [List.mem_filter] at hc
    exact ⟨c, hc.1, hc.2⟩
  · rintro ⟨c, h1, h2⟩
    exact ⟨c, List.mem_filter.mpr ⟨h1, h2⟩⟩
theorem in_ok {i iH N : Nat} (hT : T[i]? = some (F_in iH)) (hH : T[iH]? = some F_has) (hN : 2 ≤ N) (x : Nat) (cs : List (Nat × Nat)) (hl : cs.length ≤ 1000000) :
    callF T m N i [.sh (natD x), .sh (coverD cs)] = .ret false (.bl (cs.any (hasB x))) [.sh (natD x), .sh (coverD cs)] := by
  obtain ⟨n, rfl⟩ : ∃ n, N = n + 1 := ⟨N - 1, by omega⟩
  refine callF_of hT rfl (e := [some (.sh (natD x)), some (.sh (coverD cs)), none, none]) ?_ rfl
  have hc := ev_comp_enc (T := T) (P := callF T m n) (x := .var 3) (t := .nm 3) (it := .seq (.var 1)) (c := .e (.call iH (.cons (.var 0) (.cons (.var 3) .nil)))) (own := [2, 3]) (e := [some (.sh (natD x)), some (.sh (coverD cs)), none, none]) (e1 := [some (.sh (natD x)), some (.sh (coverD cs)), none, none]) (cs := cs)
    cubeD (fun c => if hasB x c then some (cubeD c) else none) (by simp [evi, ev, tk, getB, Ans.bind, opt, itemsD, coverD]) (by simp [stillB, getB]) (fun c hc => by
      have hh := has_ok (m := m) (N := n) hH (by omega) x c
      cases hb : hasB x c <;> rw [hb] at hh <;>
        simp [turnC, asgT, wipeB, backB, setB, getB, evt, ev, evs, opd, Ans.bind, opt, tk, pk, pks, B.dat, doCall, hH, F_has, callArgs, hh, D.flat, truth]) (by rw [fm_filter]; have := List.length_filter_le (hasB x) cs; simp [maxLen]; omega)
  rw [fm_filter] at hc
  have hlen := lenL ((cs.filter (hasB x)).map cubeD)
  rw [List.length_map] at hlen
  have hg := gt0 (cs.filter (hasB x)).length
  rw [filter_any] at hg
  generalize (cs.filter (hasB x)).length = q at hlen hg
  generalize (.lst ((cs.filter (hasB x)).map cubeD) : D) = z at hc hlen
  exact es_ret (es1_ret (by intro _ z; cases z) (ev_cmp_l (by intro _ z; cases z) (ev_prim1 (by intro _ z; cases z) hc hlen) opd_cst rfl hg))
def F_states (iI : Nat) : Fn := ⟨2, 4, [false, false],
    (.cons (.ret (.comp (.var 3) (.nm 3) (.rng (.bin .LShift (.cst (.int 1)) (.var 1))) (.e (.call iI (.cons (.var 3) (.cons (.var 0) .nil)))) [2, 3]))
    .nil)⟩
def statesL (n : Nat) (cs : List (Nat × Nat)) : List Nat := (List.range (2 ^ n)).filter fun x => cs.any (hasB x)
theorem states_ok {i iI iH N : Nat} (hT : T[i]? = some (F_states iI)) (hI : T[iI]? = some (F_in iH)) (hH : T[iH]? = some F_has) (hN : 3 ≤ N) (cs : List (Nat × Nat)) (hl : cs.length ≤ 1000000) {w : Nat} (hw : w ≤ 20) :
    callF T m N i [.sh (coverD cs), .sh (natD w)] = .ret true (.lst ((statesL w cs).map natD)) [.sh (coverD cs), .sh (natD w)] := by
  obtain ⟨n, rfl⟩ : ∃ n, N = n + 1 := ⟨N - 1, by omega⟩
  refine callF_of hT rfl (e := [some (.sh (coverD cs)), some (.sh (natD w)), none, none]) ?_ rfl
  have hp : 2 ^ w ≤ 2 ^ 20 := Nat.pow_le_pow_right (by omega) hw
  have hs := shlN (j := w) (by omega)
  have hit : evi T (callF T m n) (.rng (.bin .LShift (.cst (.int 1)) (.var 1))) [some (.sh (coverD cs)), some (.sh (natD w)), none, none] = .val ((List.range (2 ^ w)).map natD) [some (.sh (coverD cs)), some (.sh (natD w)), none, none] := by
    rw [← range_nat]
    refine evi_rngN (f := false) ?_ (by simp only [maxLen]; omega)
    generalize 2 ^ w = p at hs
    simp [ev, opd, Ans.bind, getB, pk, B.dat, natD, hs, opt]
  have hc := ev_comp_enc (T := T) (P := callF T m n) (x := .var 3) (t := .nm 3) (it := .rng (.bin .LShift (.cst (.int 1)) (.var 1))) (c := .e (.call iI (.cons (.var 3) (.cons (.var 0) .nil)))) (own := [2, 3]) (e := [some (.sh (coverD cs)), some (.sh (natD w)), none, none]) (e1 := [some (.sh (coverD cs)), some (.sh (natD w)), none, none]) (cs := List.range (2 ^ w))
    natD (fun x => if cs.any (hasB x) then some (natD x) else none) hit (by simp [stillB, getB]) (fun x hx => by
      have hh := in_ok (m := m) (N := n) hI hH (by omega) x cs hl
      cases hb : cs.any (hasB x) <;> rw [hb] at hh <;>
        simp [turnC, asgT, wipeB, backB, setB, getB, evt, ev, evs, opd, Ans.bind, opt, tk, pk, pks, B.dat, doCall, hI, F_in, callArgs, hh, D.flat, truth]) (by rw [fm_filter]; have := List.length_filter_le (fun x => cs.any (hasB x)) (List.range (2 ^ w)); simp only [List.length_map, maxLen]; rw [List.length_range] at this; omega)
  rw [fm_filter] at hc
  exact es_ret (es1_ret (by intro _ z; cases z) hc)
/-! wires of a mask -/
def bitsL (n a : Nat) : List Nat := (List.range n).filter a.testBit
theorem bits_grow {a w n : Nat} (h : a < 2 ^ w) (hn : w ≤ n) : bitsL n a = bitsL w a := by
  obtain ⟨k, rfl⟩ : ∃ k, n = w + k := ⟨n - w, by omega⟩
  clear hn
  induction k with
  | zero => rfl
  | succ k ih =>
    have : bitsL (w + (k + 1)) a = bitsL (w + k) a := by
      unfold bitsL
      rw [← Nat.add_assoc, List.range_succ, List.filter_append]
      have : a.testBit (w + k) = false := Nat.testBit_lt_two_pow (Nat.lt_of_lt_of_le h (Nat.pow_le_pow_right (by omega) (by omega)))
      simp [this]
    rw [this, ih]
theorem bits_len (n a : Nat) : (bitsL n a).length ≤ n := by
  unfold bitsL
  exact Nat.le_trans (List.length_filter_le ..) (by simp)
def wiCond : Tt := .e (.cmp .Gt (.bin .RShift (.var 0) (.var 2)) (.cst (.int 0)))
def wiIf : Sm := .ite (.e (.cmp .Eq (.bin .BitAnd (.bin .RShift (.var 0) (.var 2)) (.cst (.int 1))) (.cst (.int 1)))) (.cons (.app 1 (.var 2)) .nil) .nil
theorem wi_if {P : Nat → List B → CA} (a w : Nat) (told : List Nat) (hl : told.length ≤ 1000) : es1 T P m wiIf [some (.sh (natD a)), some (.ow (.lst (told.map natD))), some (.sh (natD w))] =
    .val .nx [some (.sh (natD a)), some (.ow (.lst ((if a.testBit w then told ++ [w] else told).map natD))), some (.sh (natD w))] := by
  have hs := shrN a w
  have h1 := and1 (a / 2 ^ w)
  have h2 := eq1 (a / 2 ^ w % 2)
  rw [testBit_div] at h2
  have hlt : told.length < 16777216 := by omega
  generalize a / 2 ^ w = q at hs h1 h2
  generalize q % 2 = u at h1 h2
  cases hb : a.testBit w <;> rw [hb] at h2 <;>
    simp [wiIf, natD, es, es1, ev, evt, opd, Ans.bind, opt, getB, setB, pk, tk, B.dat, hs, h1, h2, truth, onOwn, addD, maxLen, hlt]
theorem wi_loop {P : Nat → List B → CA} {b : Sms} {a n : Nat} (ha : a < 2 ^ n) (hn : n ≤ 900) (step : ∀ (told : List Nat) (w : Nat), told.length ≤ 1000 → es T P m b [some (.sh (natD a)), some (.ow (.lst (told.map natD))), some (.sh (natD w))] = .val .nx [some (.sh (natD a)), some (.ow (.lst ((if a.testBit w then told ++ [w] else told).map natD))), some (.sh (natD (w + 1)))]) :
    ∀ (f w : Nat), w ≤ n → n - w < f → ∃ w', whN (evt T P wiCond) (es T P m b) f [some (.sh (natD a)), some (.ow (.lst ((bitsL w a).map natD))), some (.sh (natD w))] = .val .nx [some (.sh (natD a)), some (.ow (.lst ((bitsL n a).map natD))), some (.sh (natD w'))]
  | 0, _, _, h => by omega
  | f + 1, w, hw, hf => by
    have hc : evt T P wiCond [some (.sh (natD a)), some (.ow (.lst ((bitsL w a).map natD))), some (.sh (natD w))] = .val (decide (0 < a / 2 ^ w)) [some (.sh (natD a)), some (.ow (.lst ((bitsL w a).map natD))), some (.sh (natD w))] := by
      have hs := shrN a w
      have h1 := gt0 (a / 2 ^ w)
      generalize a / 2 ^ w = q at hs h1 ⊢
      simp [wiCond, natD, evt, ev, opd, Ans.bind, opt, getB, pk, B.dat, hs, h1, truth]
    simp only [whN, hc, Ans.bind]
    by_cases hq : 0 < a / 2 ^ w
    · have hwn : w < n := by
        refine Nat.lt_of_le_of_ne hw fun z => ?_
        subst z
        rw [Nat.div_eq_of_lt ha] at hq
        omega
      rw [decide_eq_true hq, if_pos rfl, step _ _ (Nat.le_trans (bits_len w a) (by omega))]
      have e1 : (if a.testBit w then bitsL w a ++ [w] else bitsL w a) = bitsL (w + 1) a := by
        unfold bitsL
        rw [List.range_succ, List.filter_append]
        cases hb : a.testBit w <;> simp [hb]
      rw [e1]
      exact wi_loop ha hn step f (w + 1) (by omega) (by omega)
    · rw [decide_eq_false hq]
      have ha0 : a < 2 ^ w := by
        have h0 : a / 2 ^ w = 0 := Nat.eq_zero_of_not_pos hq
        have hp := Nat.two_pow_pos w
        rcases Nat.div_eq_zero_iff.mp h0 with h | h
        · omega
        · exact h
      exact ⟨w, by rw [bits_grow ha0 hw]; rfl⟩
def F_bits (last : Sm) : Fn := ⟨1, 3, [false],
    (.cons (.asg (.nm 1) (.lst .nil))
    (.cons (.asg (.nm 2) (.cst (.int 0)))
    (.cons (.wh wiCond (.cons wiIf (.cons last .nil)))
    (.cons (.ret (.var 1))
    .nil))))⟩
theorem bits_gen {last : Sm} (hlast : ∀ (P : Nat → List B → CA) (a w : Nat) (b : Option B), es1 T P m last [some (.sh (natD a)), b, some (.sh (natD w))] = .val .nx [some (.sh (natD a)), b, some (.sh (natD (w + 1)))]) {i N : Nat} (hT : T[i]? = some (F_bits last)) (hN : 1 ≤ N) (hm : 1000 ≤ m) {a n : Nat} (ha : a < 2 ^ n) (hn : n ≤ 900) :
    callF T m N i [.sh (natD a)] = .ret true (.lst ((bitsL n a).map natD)) [.sh (natD a)] := by
  obtain ⟨k, rfl⟩ : ∃ k, N = k + 1 := ⟨N - 1, by omega⟩
  obtain ⟨w', hw⟩ := wi_loop (T := T) (m := m) (P := callF T m k) (b := .cons wiIf (.cons last .nil)) ha hn (fun told w hl => (es_cons (wi_if a w told hl)).trans ((es_cons (hlast _ a w _)).trans rfl)) m 0 (by omega) (by omega)
  refine callF_of hT rfl (e := [some (.sh (natD a)), none, some (.sh (natD w'))]) ?_ rfl
  show es T (callF T m k) m (F_bits last).body [some (.sh (natD a)), none, none] = _
  unfold F_bits
  refine (es_cons (e1 := [some (.sh (natD a)), some (.ow (.lst [])), none]) (by simp [es1, ev, evs, Ans.bind, tks, fitL, asgT, setB])).trans ?_
  refine (es_cons (e1 := [some (.sh (natD a)), some (.ow (.lst [])), some (.sh (natD 0))]) (by simp [es1, ev, Ans.bind, asgT, setB, natD])).trans ?_
  refine (es_cons (e1 := [some (.sh (natD a)), some (.ow (.lst ((bitsL n a).map natD))), some (.sh (natD w'))]) ?_).trans ?_
  · simp only [es1]
    exact hw
  · simp [es, es1, getB, setB, Ans.bind]
def lastAsg : Sm := .asg (.nm 2) (.bin .Add (.var 2) (.cst (.int 1)))
def lastAug : Sm := .aug 2 .Add (.cst (.int 1))
theorem last_asg (P : Nat → List B → CA) (a w : Nat) (b : Option B) : es1 T P m lastAsg [some (.sh (natD a)), b, some (.sh (natD w))] = .val .nx [some (.sh (natD a)), b, some (.sh (natD (w + 1)))] := by
  simp [lastAsg, natD, es1, ev, opd, Ans.bind, opt, getB, setB, pk, B.dat, binD, asgT]
theorem last_aug (P : Nat → List B → CA) (a w : Nat) (b : Option B) : es1 T P m lastAug [some (.sh (natD a)), b, some (.sh (natD w))] = .val .nx [some (.sh (natD a)), b, some (.sh (natD (w + 1)))] := by
  simp [lastAug, natD, es1, ev, opd, Ans.bind, opt, getB, setB, pk, B.dat, augD, asgT]
/-! what is the same -/
def saLoop (iS : Nat) : Sms := .cons (.ite (.nt (.e (.call iS (.cons (.ix (.var 0) (.var 2)) (.cons (.ix (.var 1) (.var 2)) .nil))))) (.cons (.ret (.cst (.bl false)))
    .nil) .nil)
    .nil
def F_same (iS : Nat) : Fn := ⟨2, 3, [false, false],
    (.cons (.ite (.or (.e (.prim .isi (.cons (.var 1) (.cons (.cst (.ty "tuple")) .nil)))) (.e (.prim .isi (.cons (.var 1) (.cons (.cst (.ty "list")) .nil))))) (.cons (.ite (.and (.e (.prim .isi (.cons (.var 1) (.cons (.cst (.ty "tuple")) .nil)))) (.nt (.e (.prim .isi (.cons (.var 0) (.cons (.cst (.ty "tuple")) .nil)))))) (.cons (.ret (.cst (.bl false)))
    .nil) .nil)
    (.cons (.ite (.and (.e (.prim .isi (.cons (.var 1) (.cons (.cst (.ty "list")) .nil)))) (.nt (.e (.prim .isi (.cons (.var 0) (.cons (.cst (.ty "list")) .nil)))))) (.cons (.ret (.cst (.bl false)))
    .nil) .nil)
    (.cons (.ite (.e (.cmp .NotEq (.prim .len (.cons (.var 0) .nil)) (.prim .len (.cons (.var 1) .nil)))) (.cons (.ret (.cst (.bl false)))
    .nil) .nil)
    (.cons (.for (.nm 2) (.rng (.prim .len (.cons (.var 1) .nil))) (saLoop iS))
    (.cons (.ret (.cst (.bl true)))
    .nil))))) .nil)
    (.cons (.ite (.e (.prim .isi (.cons (.var 1) (.cons (.cst (.ty "str")) .nil)))) (.cons (.ret (.and (.prim .isi (.cons (.var 0) (.cons (.cst (.ty "str")) .nil))) (.cmp .Eq (.var 0) (.var 1))))
    .nil) .nil)
    (.cons (.ite (.e (.cmp .Is (.var 1) (.cst .non))) (.cons (.ret (.cmp .Is (.var 0) (.cst .non)))
    .nil) .nil)
    (.cons (.ite (.or (.e (.prim .isi (.cons (.var 1) (.cons (.cst (.ty "bool")) .nil)))) (.e (.prim .isi (.cons (.var 0) (.cons (.cst (.ty "bool")) .nil))))) (.cons (.ret (.and (.prim .isi (.cons (.var 1) (.cons (.cst (.ty "bool")) .nil))) (.and (.prim .isi (.cons (.var 0) (.cons (.cst (.ty "bool")) .nil))) (.cmp .Eq (.var 0) (.var 1)))))
    .nil) .nil)
    (.cons (.ret (.and (.prim .isi (.cons (.var 0) (.cons (.cst (.ty "int")) .nil))) (.and (.prim .isi (.cons (.var 1) (.cons (.cst (.ty "int")) .nil))) (.cmp .Eq (.var 0) (.var 1)))))
    .nil)))))⟩
def Same (T : List Fn) (m i N : Nat) (d : D) : Prop := callF T m N i [.sh d, .sh d] = .ret false (.bl true) [.sh d, .sh d]
theorem same_int {i N : Nat} (hT : T[i]? = some (F_same i)) (hN : 1 ≤ N) (j : Int) : Same T m i N (.int j) := by
  obtain ⟨n, rfl⟩ : ∃ n, N = n + 1 := ⟨N - 1, by omega⟩
  refine callF_of hT rfl (e := [some (.sh (.int j)), some (.sh (.int j)), none]) ?_ rfl
  simp [F_same, es, es1, ev, evs, evt, opd, Ans.bind, opt, getB, setB, pk, tk, pks, tks, B.dat, primD, tyOf, isiD, truth, cmpD, isNone, D.ok, D.eq]
theorem same_bl {i N : Nat} (hT : T[i]? = some (F_same i)) (hN : 1 ≤ N) (j : Bool) : Same T m i N (.bl j) := by
  obtain ⟨n, rfl⟩ : ∃ n, N = n + 1 := ⟨N - 1, by omega⟩
  refine callF_of hT rfl (e := [some (.sh (.bl j)), some (.sh (.bl j)), none]) ?_ rfl
  simp [F_same, es, es1, ev, evs, evt, opd, Ans.bind, opt, getB, setB, pk, tk, pks, tks, B.dat, primD, tyOf, isiD, truth, cmpD, isNone, D.ok, D.eq]
theorem same_loop {i n : Nat} (hT : T[i]? = some (F_same i)) {b : D} {xs : List D} (hb : b = .tup xs ∨ b = .lst xs) (h : ∀ x ∈ xs, Same T m i n x) : ∀ (ds : List D) (x2 : Option B), (∀ d ∈ ds, ∃ j : Nat, d = natD j ∧ j < xs.length) → ∃ y, forN (turnF T (callF T m n) m (.nm 2) (saLoop i)) ds [some (.sh b), some (.sh b), x2] = .val .nx [some (.sh b), some (.sh b), y]
  | [], x2, _ => ⟨x2, rfl⟩
  | d :: ds, x2, hd => by
    obtain ⟨j, rfl, hj⟩ := hd d (by simp)
    have hx := h xs[j] (List.getElem_mem hj)
    have hat : atN xs.length (j : Int) = some j := atN_nat hj
    have hix : ixD b (natD j) = some xs[j] := by
      rcases hb with e | e <;> rw [e] <;> simp [ixD, natD, hat, List.getElem?_eq_getElem hj]
    generalize xs[j] = z at hx hix
    unfold Same at hx
    have step : turnF T (callF T m n) m (.nm 2) (saLoop i) (natD j) [some (.sh b), some (.sh b), x2] = .val .nx [some (.sh b), some (.sh b), some (.sh (natD j))] := by
      simp [turnF, saLoop, es, es1, ev, evs, evt, opd, Ans.bind, opt, getB, setB, pk, pks, B.dat, asgT, doCall, hT, F_same, callArgs, hx, D.flat, truth, hix]
    obtain ⟨y, hy⟩ := same_loop hT hb h ds (some (.sh (natD j))) fun d hd2 => hd d (by simp [hd2])
    refine ⟨y, ?_⟩
    simp only [forN, step, Ans.bind]
    exact hy
theorem same_seq {i N : Nat} (hT : T[i]? = some (F_same i)) {b : D} {xs : List D} (hb : b = .tup xs ∨ b = .lst xs) (hl : xs.length ≤ 1000000) (h : ∀ x ∈ xs, Same T m i N x) : Same T m i (N + 1) b := by
  obtain ⟨y, hy⟩ := same_loop hT hb h ((List.range xs.length).map natD) none (fun d hd => by
    rw [List.mem_map] at hd
    obtain ⟨j, hj, rfl⟩ := hd
    exact ⟨j, rfl, by simpa using hj⟩)
  have hlen : primD .len [b] = some (false, .int (xs.length : Nat)) := by rcases hb with e | e <;> rw [e] <;> rfl
  have hit : evi T (callF T m N) (.rng (.prim .len (.cons (.var 1) .nil))) [some (.sh b), some (.sh b), none] = .val ((List.range xs.length).map natD) [some (.sh b), some (.sh b), none] := by
    rw [← range_nat]
    exact evi_rngN (f := false) (by simp only [ev, evs, opd, getB, Ans.bind, pks, pk, B.dat, hlen, opt]) (by simp only [maxLen]; omega)
  have hfor := es1_for hit hy
  have hne : cmpD .NotEq (.int (xs.length : Nat)) (.int (xs.length : Nat)) = some false := by rw [cne]; simp
  refine callF_of hT rfl (e := [some (.sh b), some (.sh b), y]) ?_ rfl
  show es T (callF T m N) m (F_same i).body [some (.sh b), some (.sh b), none] = _
  have inner : es T (callF T m N) m (.cons (.for (.nm 2) (.rng (.prim .len (.cons (.var 1) .nil))) (saLoop i)) (.cons (.ret (.cst (.bl true))) .nil)) [some (.sh b), some (.sh b), none] = .val (.rt false (.bl true)) [some (.sh b), some (.sh b), y] := (es_cons hfor).trans (by simp [es, es1, ev, Ans.bind])
  unfold F_same
  refine es_rt ?_
  refine es1_itT (e1 := [some (.sh b), some (.sh b), none]) ?_ ?_
  · rcases hb with e | e <;> subst e <;> simp [evt, ev, evs, opd, Ans.bind, opt, getB, pk, pks, B.dat, primD, tyOf, isiD, truth]
  refine (es_cons (e1 := [some (.sh b), some (.sh b), none]) ?_).trans ?_
  · rcases hb with e | e <;> subst e <;> simp [es, es1, evt, ev, evs, opd, Ans.bind, opt, getB, pk, pks, B.dat, primD, tyOf, isiD, truth]
  refine (es_cons (e1 := [some (.sh b), some (.sh b), none]) ?_).trans ?_
  · rcases hb with e | e <;> subst e <;> simp [es, es1, evt, ev, evs, opd, Ans.bind, opt, getB, pk, pks, B.dat, primD, tyOf, isiD, truth]
  refine (es_cons (e1 := [some (.sh b), some (.sh b), none]) ?_).trans inner
  generalize (xs.length : Int) = q at hlen hne
  simp [es, es1, evt, ev, evs, opd, Ans.bind, opt, getB, pk, pks, B.dat, hlen, hne, truth]
theorem same_cube {i N : Nat} (hT : T[i]? = some (F_same i)) (hN : 2 ≤ N) (c : Nat × Nat) : Same T m i N (cubeD c) := by
  obtain ⟨n, rfl⟩ : ∃ n, N = n + 1 := ⟨N - 1, by omega⟩
  refine same_seq hT (.inl rfl) (by simp) fun x hx => ?_
  simp at hx
  rcases hx with rfl | rfl <;> exact same_int hT (by omega) _
theorem same_cover {i N : Nat} (hT : T[i]? = some (F_same i)) (hN : 3 ≤ N) {cs : List (Nat × Nat)} (hl : cs.length ≤ 1000000) : Same T m i N (coverD cs) := by
  obtain ⟨n, rfl⟩ : ∃ n, N = n + 1 := ⟨N - 1, by omega⟩
  refine same_seq hT (.inl rfl) (by simpa using hl) fun x hx => ?_
  rw [List.mem_map] at hx
  obtain ⟨c, _, rfl⟩ := hx
  exact same_cube hT (by omega) c
theorem same_cubes {i N : Nat} (hT : T[i]? = some (F_same i)) (hN : 3 ≤ N) {cs : List (Nat × Nat)} (hl : cs.length ≤ 1000000) : Same T m i N (.lst (cs.map cubeD)) := by
  obtain ⟨n, rfl⟩ : ∃ n, N = n + 1 := ⟨N - 1, by omega⟩
  refine same_seq hT (.inr rfl) (by simpa using hl) fun x hx => ?_
  rw [List.mem_map] at hx
  obtain ⟨c, _, rfl⟩ := hx
  exact same_cube hT (by omega) c
/-! covers drawn -/
def F_cover (iC iD : Nat) : Fn := ⟨3, 5, [true, false, false],
    (.cons (.ret (.prim .tuple (.cons (.comp (.call iC (.cons (.var 0) (.cons (.var 1) .nil))) (.nm 4) (.rng (.call iD (.cons (.var 0) (.cons (.bin .Add (.var 2) (.cst (.int 1))) .nil)))) .tru [3, 4]) .nil)))
    .nil)⟩
theorem cover_ok {i iC iD N : Nat} (hT : T[i]? = some (F_cover iC iD)) (hC : T[iC]? = some (F_cube iD)) (hD : T[iD]? = some F_draw) (hN : 3 ≤ N) {s : D} (hs : Dr s) {w most : Nat} (hw : 1 ≤ w) (hw2 : w ≤ 29) (hm : most ≤ 1000) :
    ∃ (cs : List (Nat × Nat)) (s' : D), callF T m N i [.io s, .sh (natD w), .sh (natD most)] = .ret false (coverD cs) [.io s', .sh (natD w), .sh (natD most)] ∧ Dr s' ∧ (∀ c ∈ cs, Cu w c) ∧ cs.length ≤ most := by
  obtain ⟨n, rfl⟩ : ∃ n, N = n + 1 := ⟨N - 1, by omega⟩
  obtain ⟨v, s1, c1, d1, v0, v1⟩ := draw_ok (m := m) hD (N := n) (by omega) hs (limit := (most : Int) + 1) (by omega) (by omega)
  have hit : evi T (callF T m n) (.rng (.call iD (.cons (.var 0) (.cons (.bin .Add (.var 2) (.cst (.int 1))) .nil)))) [some (.io s), some (.sh (natD w)), some (.sh (natD most)), none, none] = .val (rangeD 0 v.toNat) [some (.io s1), some (.sh (natD w)), some (.sh (natD most)), none, none] := by
    refine evi_rng (f := false) ?_ v0 (by omega)
    have hadd : binD .Add (natD most) (.int 1) = some (false, .int ((most : Int) + 1)) := rfl
    simp [ev, evs, opd, Ans.bind, getB, setB, pk, tk, B.dat, opt, hadd, doCall, hD, F_draw, c1, callArgs, backIn, frzIn, slotsOf, okSlots]
  obtain ⟨rs, e', h1, ⟨s', rfl, hs'⟩, h3, h4⟩ := compN_inv (f := turnC T (callF T m n) (.call iC (.cons (.var 0) (.cons (.var 1) .nil))) (.nm 4) .tru [3, 4]) (fun e => ∃ s', e = [some (.io s'), some (.sh (natD w)), some (.sh (natD most)), none, none] ∧ Dr s') (fun d => ∃ c, d = cubeD c ∧ Cu w c) (ds := rangeD 0 v.toNat) (e := [some (.io s1), some (.sh (natD w)), some (.sh (natD most)), none, none]) ⟨s1, rfl, d1⟩ (fun d hd e ⟨s2, he, d2⟩ => by
    subst he
    obtain ⟨c, s3, c3, d3, hc⟩ := cube_ok (m := m) hC hD (N := n) (by omega) d2 hw hw2
    refine ⟨cubeD c, [some (.io s3), some (.sh (natD w)), some (.sh (natD most)), none, none], ?_, ⟨s3, rfl, d3⟩, c, rfl, hc⟩
    have c3 : callF T m n iC [.io s2, .sh (natD w)] = .ret false (cubeD c) [.io s3, .sh (natD w)] := c3
    simp [turnC, asgT, wipeB, backB, setB, getB, evt, ev, evs, opd, Ans.bind, opt, tk, pk, pks, B.dat, doCall, hC, F_cube, callArgs, backIn, frzIn, slotsOf, okSlots, c3])
  have hrs : ∃ cs : List (Nat × Nat), rs = cs.map cubeD ∧ (∀ c ∈ cs, Cu w c) := by
    clear h1 h3
    induction rs with
    | nil => exact ⟨[], rfl, by simp⟩
    | cons r rs ih =>
      obtain ⟨c, rfl, hc⟩ := h4 r (by simp)
      obtain ⟨cs, rfl, hcs⟩ := ih fun d hd => h4 d (by simp [hd])
      exact ⟨c :: cs, rfl, fun x hx => by
        rcases List.mem_cons.mp hx with rfl | hx
        · exact hc
        · exact hcs x hx⟩
  obtain ⟨cs, rfl, hcs⟩ := hrs
  have hlr : (rangeD 0 v.toNat).length = v.toNat := by simp [rangeD]
  rw [hlr, List.length_map] at h3
  have hst : stillB [some (.io s1), some (.sh (natD w)), some (.sh (natD most)), none, none] [3, 4] = true := by simp [stillB, getB]
  have hc := ev_comp hit hst h1 (by rw [List.length_map, h3]; simp only [maxLen]; omega)
  refine ⟨cs, s', callF_of hT rfl (e := [some (.io s'), some (.sh (natD w)), some (.sh (natD most)), none, none]) ?_ rfl, hs', hcs, by omega⟩
  exact es_ret (es1_ret (r := (false, coverD cs)) (by intro _ z; cases z) (ev_prim1 (by intro _ z; cases z) hc rfl))
end
end L2.Eng
namespace L2.Eng
open PySem PySem.Spec PyProof.Rows L2
/-! ## cubes in plain numbers -/
theorem sub_bit {c : Nat × Nat} (h : c.1 &&& c.2 = c.2) (i : Nat) : c.2.testBit i = true → c.1.testBit i = true := fun hi => by
  rw [← h, Nat.testBit_and] at hi
  simp at hi
  exact hi.1
theorem has_iff {c : Nat × Nat} (h : c.1 &&& c.2 = c.2) (x : Nat) : hasB x c = true ↔ ∀ i, c.1.testBit i = true → x.testBit i = c.2.testBit i := by
  unfold hasB
  rw [beq_iff_eq]
  constructor
  · intro e i hi
    rw [← e, Nat.testBit_and, hi, Bool.and_true]
  · intro e
    refine Nat.eq_of_testBit_eq fun i => ?_
    rw [Nat.testBit_and]
    cases hi : c.1.testBit i with
    | true => rw [e i hi, Bool.and_true]
    | false =>
      rw [Bool.and_false]
      cases h2 : c.2.testBit i with
      | false => rfl
      | true => rw [sub_bit h i h2] at hi; cases hi
def lowB (c : Nat × Nat) (w : Nat) (b : Bool) : Nat × Nat := (c.1 ||| 2 ^ w, c.2 ||| (if b then 2 ^ w else 0))
theorem two_bit (b : Bool) (w i : Nat) : (if b then 2 ^ w else 0 : Nat).testBit i = (b && decide (w = i)) := by
  cases b <;> simp [Nat.testBit_two_pow]
theorem low_sub {c : Nat × Nat} (h : c.1 &&& c.2 = c.2) (w : Nat) (b : Bool) : (lowB c w b).1 &&& (lowB c w b).2 = (lowB c w b).2 := by
  refine Nat.eq_of_testBit_eq fun i => ?_
  simp only [lowB, Nat.testBit_and, Nat.testBit_or, two_bit, Nat.testBit_two_pow]
  have := sub_bit h i
  cases h1 : c.1.testBit i <;> cases h2 : c.2.testBit i <;> cases b <;> simp [h1, h2] at this ⊢
theorem low_has {c : Nat × Nat} (h : c.1 &&& c.2 = c.2) {w : Nat} (hw : c.1.testBit w = false) (b : Bool) (x : Nat) : hasB x (lowB c w b) = (hasB x c && (x.testBit w == b)) := by
  rw [Bool.eq_iff_iff, Bool.and_eq_true, has_iff (low_sub h w b), has_iff h, beq_iff_eq]
  have hw2 : c.2.testBit w = false := by
    cases h2 : c.2.testBit w with
    | false => rfl
    | true => rw [sub_bit h w h2] at hw; cases hw
  constructor
  · intro e
    refine ⟨fun i hi => ?_, ?_⟩
    · have := e i (by simp [lowB, Nat.testBit_or, hi])
      rw [this]
      simp only [lowB, Nat.testBit_or, two_bit]
      have : w ≠ i := fun z => by rw [z, hi] at hw; cases hw
      simp [this]
    · have := e w (by simp [lowB, Nat.testBit_or, Nat.testBit_two_pow])
      rw [this]
      simp [lowB, Nat.testBit_or, two_bit, hw2]
  · rintro ⟨e, ew⟩ i hi
    simp only [lowB, Nat.testBit_or, two_bit, Nat.testBit_two_pow, Bool.or_eq_true, decide_eq_true_eq] at hi ⊢
    by_cases z : w = i
    · subst z
      rw [ew, hw2]; simp
    · have hi : c.1.testBit i = true := by
        rcases hi with hi | hi
        · exact hi
        · exact absurd hi z
      rw [e i hi]; simp [z]
theorem low_cu {n : Nat} {c : Nat × Nat} (h : Cu n c) {w : Nat} (hw : w < n) (b : Bool) : Cu n (lowB c w b) :=
  ⟨or_lt h.1 (Nat.pow_lt_pow_right (by omega) hw), low_sub h.2 w b⟩
def splitL (o : Nat × Nat) : List Nat → Nat × Nat → List (Nat × Nat)
  | [], _ => []
  | w :: ws, c => lowB c w (!o.2.testBit w) :: splitL o ws (lowB c w (o.2.testBit w))
def cnt (x : Nat) (L : List (Nat × Nat)) : Nat := L.countP (hasB x)
theorem cnt_nil (x : Nat) : cnt x [] = 0 := rfl
theorem cnt_cons (x : Nat) (c : Nat × Nat) (L : List (Nat × Nat)) : cnt x (c :: L) = (if hasB x c then 1 else 0) + cnt x L := by
  unfold cnt
  rw [List.countP_cons]; omega
theorem cnt_app (x : Nat) (L M : List (Nat × Nat)) : cnt x (L ++ M) = cnt x L + cnt x M := List.countP_append
theorem low_free {c : Nat × Nat} {w v : Nat} (b : Bool) (h : c.1.testBit v = false) (hv : w ≠ v) : (lowB c w b).1.testBit v = false := by
  simp [lowB, Nat.testBit_or, Nat.testBit_two_pow, h, hv]
theorem splitL_cnt (o : Nat × Nat) (x : Nat) : ∀ (ws : List Nat) (c : Nat × Nat), c.1 &&& c.2 = c.2 → ws.Nodup → (∀ w ∈ ws, c.1.testBit w = false) → cnt x (splitL o ws c) = if hasB x c && ws.any (fun w => x.testBit w != o.2.testBit w) then 1 else 0
  | [], c, _, _, _ => by simp [splitL, cnt_nil]
  | w :: ws, c, h, hn, hf => by
    have hw := hf w (by simp)
    rw [List.nodup_cons] at hn
    have ih := splitL_cnt o x ws (lowB c w (o.2.testBit w)) (low_sub h _ _) hn.2 (fun v hv => low_free _ (hf v (by simp [hv])) (fun z => hn.1 (by rw [z]; exact hv)))
    rw [splitL, cnt_cons, ih, low_has h hw, low_has h hw, List.any_cons]
    cases hasB x c <;> cases x.testBit w <;> cases o.2.testBit w <;> simp
theorem splitL_cu {n : Nat} (o : Nat × Nat) : ∀ (ws : List Nat) (c : Nat × Nat), Cu n c → (∀ w ∈ ws, w < n) → ∀ d ∈ splitL o ws c, Cu n d
  | [], c, _, _, d, hd => by simp [splitL] at hd
  | w :: ws, c, h, hw, d, hd => by
    rw [splitL, List.mem_cons] at hd
    rcases hd with rfl | hd
    · exact low_cu h (hw w (by simp)) _
    · exact splitL_cu o ws _ (low_cu h (hw w (by simp)) _) (fun v hv => hw v (by simp [hv])) d hd
def clash (p o : Nat × Nat) : Nat := ((p.2 ^^^ o.2) &&& p.1) &&& o.1
def splitC (n : Nat) (p o : Nat × Nat) : List (Nat × Nat) := if clash p o = 0 then splitL o (bitsL n (nd o.1 p.1)) p else [p]
theorem bits_mem {n a w : Nat} : w ∈ bitsL n a ↔ w < n ∧ a.testBit w = true := by
  unfold bitsL
  rw [List.mem_filter, List.mem_range]
theorem bits_nodup (n a : Nat) : (bitsL n a).Nodup := List.Pairwise.filter _ List.nodup_range
theorem splitC_cu {n : Nat} {p o : Nat × Nat} (hp : Cu n p) : ∀ d ∈ splitC n p o, Cu n d := by
  intro d hd
  unfold splitC at hd
  split at hd
  · exact splitL_cu o _ p hp (fun w hw => (bits_mem.mp hw).1) d hd
  · simp at hd; subst hd; exact hp
theorem splitC_cnt {n : Nat} {p o : Nat × Nat} (hp : Cu n p) (ho : Cu n o) (x : Nat) : cnt x (splitC n p o) = if hasB x p && !hasB x o then 1 else 0 := by
  unfold splitC
  split
  · rename_i hc
    rw [splitL_cnt o x _ p hp.2 (bits_nodup _ _) (fun w hw => by
      have := (bits_mem.mp hw).2
      rw [nd_bit] at this
      simp at this
      exact this.2)]
    have key : hasB x p = true → ((bitsL n (nd o.1 p.1)).any (fun w => x.testBit w != o.2.testBit w) = true ↔ ¬ hasB x o = true) := fun hx => by
      rw [List.any_eq_true, has_iff ho.2]
      rw [has_iff hp.2] at hx
      constructor
      · rintro ⟨w, hw, hne⟩ e
        have h1 := (bits_mem.mp hw).2
        rw [nd_bit] at h1
        simp at h1
        rw [e w h1.1] at hne
        simp at hne
      · intro e
        rw [Classical.not_forall] at e
        obtain ⟨w, e⟩ := e
        rw [Classical.not_imp] at e
        obtain ⟨ho1, hne⟩ := e
        have hp1 : p.1.testBit w = false := by
          cases hpw : p.1.testBit w with
          | false => rfl
          | true =>
            exfalso
            have h0 : (clash p o).testBit w = false := by rw [hc]; simp
            unfold clash at h0
            simp only [Nat.testBit_and, Nat.testBit_xor, hpw, ho1, Bool.and_true] at h0
            have := hx w hpw
            rw [this] at hne
            cases hA : p.2.testBit w <;> cases hB : o.2.testBit w <;> simp [hA, hB] at h0 hne
        have hwn : w < n := by
          by_cases z : w < n
          · exact z
          · rw [Nat.testBit_lt_two_pow (Nat.lt_of_lt_of_le ho.1 (Nat.pow_le_pow_right (by omega) (by omega)))] at ho1
            cases ho1
        exact ⟨w, bits_mem.mpr ⟨hwn, by rw [nd_bit, ho1, hp1]; rfl⟩, by simpa using hne⟩
    cases hx : hasB x p with
    | false => simp
    | true =>
      have := key hx
      cases hq : hasB x o <;> rw [hq] at this <;> simp at this ⊢
      · obtain ⟨w, h1, h2⟩ := this
        exact ⟨w, h1, h2⟩
      · exact this
  · rename_i hc
    rw [cnt_cons, cnt_nil]
    cases hx : hasB x p with
    | false => simp
    | true =>
      have : hasB x o = false := by
        cases hq : hasB x o with
        | false => rfl
        | true =>
          exfalso
          rw [has_iff hp.2] at hx
          rw [has_iff ho.2] at hq
          apply hc
          refine Nat.eq_of_testBit_eq fun i => ?_
          unfold clash
          simp only [Nat.testBit_and, Nat.testBit_xor, Nat.zero_testBit]
          cases h1 : p.1.testBit i with
          | false => simp
          | true => cases h2 : o.1.testBit i with
            | false => simp
            | true => rw [← hx i h1, ← hq i h2]; simp
      simp [this]
/-! what is left of a cube -/
def minusL (n : Nat) (ps cover : List (Nat × Nat)) : List (Nat × Nat) := cover.foldl (fun ps o => ps.flatMap fun p => splitC n p o) ps
theorem flat_cu {n : Nat} {ps : List (Nat × Nat)} (h : ∀ p ∈ ps, Cu n p) (o : Nat × Nat) : ∀ d ∈ ps.flatMap (fun p => splitC n p o), Cu n d := fun d hd => by
  rw [List.mem_flatMap] at hd
  obtain ⟨p, hp, hd⟩ := hd
  exact splitC_cu (h p hp) d hd
theorem flat_cnt {n : Nat} {o : Nat × Nat} (ho : Cu n o) (x : Nat) : ∀ {ps : List (Nat × Nat)}, (∀ p ∈ ps, Cu n p) → cnt x (ps.flatMap fun p => splitC n p o) = if hasB x o then 0 else cnt x ps
  | [], _ => by simp [cnt_nil]
  | p :: ps, h => by
    rw [List.flatMap_cons, cnt_app, splitC_cnt (h p (by simp)) ho, flat_cnt ho x (ps := ps) (fun q hq => h q (by simp [hq])), cnt_cons]
    cases hasB x o <;> cases hasB x p <;> simp
theorem minus_cu {n : Nat} : ∀ {cover ps : List (Nat × Nat)}, (∀ p ∈ ps, Cu n p) → ∀ d ∈ minusL n ps cover, Cu n d
  | [], ps, h, d, hd => h d hd
  | o :: cover, ps, h, d, hd => minus_cu (cover := cover) (flat_cu h o) d hd
theorem minus_cnt {n : Nat} (x : Nat) : ∀ {cover ps : List (Nat × Nat)}, (∀ p ∈ ps, Cu n p) → (∀ o ∈ cover, Cu n o) → cnt x (minusL n ps cover) = if cover.any (hasB x) then 0 else cnt x ps
  | [], ps, h, _ => by simp [minusL]
  | o :: cover, ps, h, ho => by
    have := minus_cnt x (cover := cover) (flat_cu h o) fun q hq => ho q (by simp [hq])
    show cnt x (minusL n (ps.flatMap fun p => splitC n p o) cover) = _
    rw [this, flat_cnt (ho o (by simp)) x h, List.any_cons]
    cases hasB x o with
    | false => simp only [Bool.false_or, Bool.false_eq_true, if_false]
    | true => simp
/-- how many states lie in a cube -/
def sizeN (n : Nat) (c : Nat × Nat) : Nat := (List.range (2 ^ n)).countP fun x => hasB x c
theorem double (N : Nat) : ∀ L : List (Nat × Nat), ((List.range N).map fun x => cnt x L).sum = (L.map fun c => (List.range N).countP fun x => hasB x c).sum
  | [] => by
    simp only [cnt_nil, List.map_nil, List.sum_nil]
    induction (List.range N) with
    | nil => rfl
    | cons a r ih => simpa using ih
  | c :: L => by
    rw [List.map_cons, List.sum_cons, ← double N L]
    induction (List.range N) with
    | nil => rfl
    | cons a r ih =>
      rw [List.map_cons, List.sum_cons, List.map_cons, List.sum_cons, List.countP_cons, ih, cnt_cons]
      split <;> omega
theorem half {n : Nat} {c : Nat × Nat} (h : Cu (n + 1) c) : sizeN (n + 1) c = if c.1.testBit n then sizeN n (c.1 % 2 ^ n, c.2 % 2 ^ n) else 2 * sizeN n (c.1 % 2 ^ n, c.2 % 2 ^ n) := by
  have hd : Cu n (c.1 % 2 ^ n, c.2 % 2 ^ n) := by
    refine ⟨Nat.mod_lt _ (Nat.two_pow_pos n), Nat.eq_of_testBit_eq fun i => ?_⟩
    simp only [Nat.testBit_and, Nat.testBit_mod_two_pow]
    have := sub_bit h.2 i
    cases h1 : c.1.testBit i <;> cases h2 : c.2.testBit i <;> simp [h1, h2] at this ⊢
  have lo : ∀ x, x < 2 ^ n → hasB x c = (hasB x (c.1 % 2 ^ n, c.2 % 2 ^ n) && (!c.1.testBit n || !c.2.testBit n)) := fun x hx => by
    rw [Bool.eq_iff_iff, Bool.and_eq_true, has_iff h.2, has_iff hd.2]
    have hxn : x.testBit n = false := Nat.testBit_lt_two_pow hx
    constructor
    · intro e
      refine ⟨fun i hi => ?_, ?_⟩
      · rw [Nat.testBit_mod_two_pow] at hi
        simp only [Bool.and_eq_true, decide_eq_true_eq] at hi
        rw [e i hi.2, Nat.testBit_mod_two_pow]; simp [hi.1]
      · cases hb : c.1.testBit n with
        | false => rfl
        | true => rw [← e n hb, hxn]; rfl
    · rintro ⟨e, en⟩ i hi
      by_cases hin : i < n
      · have := e i (by rw [Nat.testBit_mod_two_pow]; simp [hin, hi])
        rw [this, Nat.testBit_mod_two_pow]; simp [hin]
      · have hi2 : i = n := by
          by_cases z : i < n + 1
          · omega
          · rw [Nat.testBit_lt_two_pow (Nat.lt_of_lt_of_le h.1 (Nat.pow_le_pow_right (by omega) (by omega)))] at hi
            cases hi
        subst hi2
        rw [hi] at en
        simp at en
        rw [hxn, en]
  have hi : ∀ x, x < 2 ^ n → hasB (2 ^ n + x) c = (hasB x (c.1 % 2 ^ n, c.2 % 2 ^ n) && (!c.1.testBit n || c.2.testBit n)) := fun x hx => by
    have bl : ∀ i, i < n → (2 ^ n + x).testBit i = x.testBit i := fun i hi => Nat.testBit_two_pow_add_gt hi x
    have bn : (2 ^ n + x).testBit n = true := by rw [Nat.testBit_two_pow_add_eq, Nat.testBit_lt_two_pow hx]; rfl
    rw [Bool.eq_iff_iff, Bool.and_eq_true, has_iff h.2, has_iff hd.2]
    constructor
    · intro e
      refine ⟨fun i hi => ?_, ?_⟩
      · rw [Nat.testBit_mod_two_pow] at hi
        simp only [Bool.and_eq_true, decide_eq_true_eq] at hi
        rw [← bl i hi.1, e i hi.2, Nat.testBit_mod_two_pow]; simp [hi.1]
      · cases hb : c.1.testBit n with
        | false => rfl
        | true => rw [← e n hb, bn]; rfl
    · rintro ⟨e, en⟩ i hi
      by_cases hin : i < n
      · have := e i (by rw [Nat.testBit_mod_two_pow]; simp [hin, hi])
        rw [bl i hin, this, Nat.testBit_mod_two_pow]; simp [hin]
      · have hi2 : i = n := by
          by_cases z : i < n + 1
          · omega
          · rw [Nat.testBit_lt_two_pow (Nat.lt_of_lt_of_le h.1 (Nat.pow_le_pow_right (by omega) (by omega)))] at hi
            cases hi
        subst hi2
        rw [hi] at en
        simp at en
        rw [bn, en]
  unfold sizeN
  have e1 : 2 ^ (n + 1) = 2 ^ n + 2 ^ n := by rw [Nat.pow_succ]; omega
  rw [e1, List.range_add, List.countP_append, List.countP_map]
  have c1 : (List.range (2 ^ n)).countP (fun x => hasB x c) = (List.range (2 ^ n)).countP (fun x => hasB x (c.1 % 2 ^ n, c.2 % 2 ^ n) && (!c.1.testBit n || !c.2.testBit n)) := List.countP_congr fun x hx => by rw [lo x (List.mem_range.mp hx)]
  have c2 : (List.range (2 ^ n)).countP ((fun x => hasB x c) ∘ fun x => 2 ^ n + x) = (List.range (2 ^ n)).countP (fun x => hasB x (c.1 % 2 ^ n, c.2 % 2 ^ n) && (!c.1.testBit n || c.2.testBit n)) := List.countP_congr fun x hx => by
    show (hasB (2 ^ n + x) c = true ↔ _)
    rw [hi x (List.mem_range.mp hx)]
  rw [c1, c2]
  have z : (List.range (2 ^ n)).countP (fun _ => false) = 0 := by rw [List.countP_eq_zero]; simp
  cases c.1.testBit n <;> cases c.2.testBit n <;> simp <;> omega
end L2.Eng
namespace L2.Eng
open PySem PySem.Spec PyProof.Rows L2
theorem size_pow : ∀ (n : Nat) (c : Nat × Nat), Cu n c → sizeN n c = 2 ^ (n - (bitsL n c.1).length)
  | 0, c, h => by
    have h1 : c.1 = 0 := by have := h.1; simp at this; exact this
    have h2 : c.2 = 0 := by have := h.2; rw [h1] at this; simpa using this.symm
    simp [sizeN, bitsL, hasB, h2, List.range_succ]
  | n + 1, c, h => by
    have hd : Cu n (c.1 % 2 ^ n, c.2 % 2 ^ n) := by
      refine ⟨Nat.mod_lt _ (Nat.two_pow_pos n), Nat.eq_of_testBit_eq fun i => ?_⟩
      simp only [Nat.testBit_and, Nat.testBit_mod_two_pow]
      have := sub_bit h.2 i
      cases h1 : c.1.testBit i <;> cases h2 : c.2.testBit i <;> simp [h1, h2] at this ⊢
    have hb : bitsL n (c.1 % 2 ^ n) = bitsL n c.1 := by
      unfold bitsL
      refine List.filter_congr fun i hi => ?_
      rw [List.mem_range] at hi
      rw [Nat.testBit_mod_two_pow]
      simp [hi]
    have hs : bitsL (n + 1) c.1 = bitsL n c.1 ++ (if c.1.testBit n then [n] else []) := by
      unfold bitsL
      rw [List.range_succ, List.filter_append]
      cases hq : c.1.testBit n <;> simp [hq]
    have hl := bits_len n c.1
    rw [half h, size_pow n _ hd, hb, hs]
    cases c.1.testBit n with
    | true => simp
    | false =>
      simp only [Bool.false_eq_true, if_false, List.append_nil]
      rw [show n + 1 - (bitsL n c.1).length = (n - (bitsL n c.1).length) + 1 by omega, Nat.pow_succ]
      omega
theorem sum_le {α : Type} (f : α → Nat) (K : Nat) : ∀ l : List α, (∀ x ∈ l, f x ≤ K) → (l.map f).sum ≤ K * l.length
  | [], _ => by simp
  | a :: l, h => by
    have h1 := h a (by simp)
    have h2 := sum_le f K l fun x hx => h x (by simp [hx])
    simp only [List.map_cons, List.sum_cons, List.length_cons]
    rw [Nat.mul_succ]; omega
theorem le_sum {α : Type} (f : α → Nat) : ∀ l : List α, (∀ x ∈ l, 1 ≤ f x) → l.length ≤ (l.map f).sum
  | [], _ => by simp
  | a :: l, h => by
    have h1 := h a (by simp)
    have h2 := le_sum f l fun x hx => h x (by simp [hx])
    simp only [List.map_cons, List.sum_cons, List.length_cons]; omega
theorem len_le {n : Nat} (K : Nat) {L : List (Nat × Nat)} (h : ∀ c ∈ L, Cu n c) (hc : ∀ x, cnt x L ≤ K) : L.length ≤ K * 2 ^ n := by
  have e := double (2 ^ n) L
  have h1 := sum_le (fun x => cnt x L) K (List.range (2 ^ n)) fun x _ => hc x
  have h2 := le_sum (fun c => (List.range (2 ^ n)).countP fun x => hasB x c) L fun c hcm => by
    show 1 ≤ sizeN n c
    rw [size_pow n c (h c hcm)]
    exact Nat.one_le_two_pow
  rw [List.length_range] at h1
  omega
theorem any_cnt (x : Nat) (L : List (Nat × Nat)) : L.any (hasB x) = decide (0 < cnt x L) := by
  unfold cnt
  rw [Bool.eq_iff_iff, decide_eq_true_eq, List.countP_pos_iff, List.any_eq_true]
theorem cnt_flat (x : Nat) (f : Nat × Nat → List (Nat × Nat)) (q : Bool) : ∀ L : List (Nat × Nat), (∀ c ∈ L, cnt x (f c) = if q then 0 else if hasB x c then 1 else 0) → cnt x (L.flatMap f) = if q then 0 else cnt x L
  | [], _ => by simp [cnt_nil]
  | c :: L, h => by
    rw [List.flatMap_cons, cnt_app, h c (by simp), cnt_flat x f q L fun d hd => h d (by simp [hd]), cnt_cons]
    cases q <;> simp
theorem minus1_cnt {n : Nat} (x : Nat) {c : Nat × Nat} (hc : Cu n c) {cover : List (Nat × Nat)} (ho : ∀ o ∈ cover, Cu n o) : cnt x (minusL n [c] cover) = if cover.any (hasB x) then 0 else if hasB x c then 1 else 0 := by
  rw [minus_cnt x (by simpa using hc) ho, cnt_cons, cnt_nil, Nat.add_zero]
def coverMinus (n : Nat) (cover other : List (Nat × Nat)) : List (Nat × Nat) := cover.flatMap fun c => minusL n [c] other
theorem cm_cnt {n : Nat} (x : Nat) {cover other : List (Nat × Nat)} (hc : ∀ c ∈ cover, Cu n c) (ho : ∀ o ∈ other, Cu n o) : cnt x (coverMinus n cover other) = if other.any (hasB x) then 0 else cnt x cover :=
  cnt_flat x _ _ cover fun c hcm => minus1_cnt x (hc c hcm) ho
theorem cm_cu {n : Nat} {cover other : List (Nat × Nat)} (hc : ∀ c ∈ cover, Cu n c) : ∀ d ∈ coverMinus n cover other, Cu n d := fun d hd => by
  unfold coverMinus at hd
  rw [List.mem_flatMap] at hd
  obtain ⟨c, h1, h2⟩ := hd
  exact minus_cu (ps := [c]) (by simpa using hc c h1) d h2
def apartG (n : Nat) : List (Nat × Nat) → List (Nat × Nat) → List (Nat × Nat)
  | _, [] => []
  | pre, c :: r => minusL n [c] pre ++ apartG n (pre ++ [c]) r
theorem apartG_cnt {n : Nat} (x : Nat) : ∀ (r pre : List (Nat × Nat)), (∀ c ∈ pre, Cu n c) → (∀ c ∈ r, Cu n c) → cnt x (apartG n pre r) = if pre.any (hasB x) then 0 else if r.any (hasB x) then 1 else 0
  | [], pre, _, _ => by simp [apartG, cnt_nil]
  | c :: r, pre, hp, hr => by
    have ih := apartG_cnt x r (pre ++ [c]) (fun d hd => by
      rcases List.mem_append.mp hd with h | h
      · exact hp d h
      · simp at h; subst h; exact hr d (by simp)) fun d hd => hr d (by simp [hd])
    rw [apartG, cnt_app, ih, minus1_cnt x (hr c (by simp)) hp, List.any_append, List.any_cons, List.any_cons, List.any_nil, Bool.or_false]
    generalize r.any (hasB x) = u
    generalize pre.any (hasB x) = v
    generalize hasB x c = w
    cases u <;> cases v <;> cases w <;> rfl
theorem apartG_cu {n : Nat} : ∀ (r pre : List (Nat × Nat)), (∀ c ∈ r, Cu n c) → ∀ d ∈ apartG n pre r, Cu n d
  | [], _, _, d, hd => by simp [apartG] at hd
  | c :: r, pre, hr, d, hd => by
    rw [apartG, List.mem_append] at hd
    rcases hd with h | h
    · exact minus_cu (ps := [c]) (by simpa using hr c (by simp)) d h
    · exact apartG_cu r _ (fun d hd => hr d (by simp [hd])) d h
theorem apartG_app (n : Nat) : ∀ (a b pre : List (Nat × Nat)), apartG n pre (a ++ b) = apartG n pre a ++ apartG n (pre ++ a) b
  | [], b, pre => by simp [apartG]
  | c :: a, b, pre => by
    rw [List.cons_append, apartG, apartG, apartG_app n a b (pre ++ [c]), List.append_assoc, List.append_assoc]
    rfl
/-- the states of a cover, counted -/
theorem count_states {n : Nat} {L : List (Nat × Nat)} (h : ∀ c ∈ L, Cu n c) {S : List (Nat × Nat)} (hc : ∀ x, cnt x L = if S.any (hasB x) then 1 else 0) : (L.map fun c => 2 ^ (n - (bitsL n c.1).length)).sum = (statesL n S).length := by
  have e := double (2 ^ n) L
  have e1 : (L.map fun c => 2 ^ (n - (bitsL n c.1).length)).sum = (L.map fun c => (List.range (2 ^ n)).countP fun x => hasB x c).sum := by
    congr 1
    refine List.map_congr_left fun c hcm => ?_
    exact (size_pow n c (h c hcm)).symm
  rw [e1, ← e]
  unfold statesL
  rw [← List.countP_eq_length_filter]
  induction List.range (2 ^ n) with
  | nil => rfl
  | cons x r ih =>
    rw [List.map_cons, List.sum_cons, List.countP_cons, ih, hc x]
    cases S.any (hasB x) <;> simp <;> omega
end L2.Eng
namespace L2.Eng.Lk01
open PySem PySem.Spec PyProof.Rows L2 L2.Eng
def T : List Fn := recs.map Rec.fn
theorem T0 : T[0]? = some f_meet := rfl
theorem T1 : T[1]? = some f_lies_in := rfl
theorem T2 : T[2]? = some f_literals := rfl
theorem T3 : T[3]? = some f_size_of := rfl
theorem T4 : T[4]? = some (F_bits lastAug) := rfl
theorem T5 : T[5]? = some f_lowered := rfl
theorem T6 : T[6]? = some f_split := rfl
theorem T7 : T[7]? = some f_minus := rfl
theorem T8 : T[8]? = some f_cover_minus := rfl
theorem T9 : T[9]? = some f_apart := rfl
theorem T10 : T[10]? = some f_opposite := rfl
theorem T11 : T[11]? = some f_count := rfl
theorem T12 : T[12]? = some f_trimmed := rfl
theorem T13 : T[13]? = some F_draws := rfl
theorem T14 : T[14]? = some F_draw := rfl
theorem T15 : T[15]? = some (F_same 15) := rfl
theorem T16 : T[16]? = some (F_mixed 14) := rfl
theorem T17 : T[17]? = some F_has := rfl
theorem T18 : T[18]? = some (F_in 17) := rfl
theorem T19 : T[19]? = some (F_cube 14) := rfl
theorem T20 : T[20]? = some (F_cover 19 14) := rfl
theorem T21 : T[21]? = some (F_states 18) := rfl
theorem T22 : T[22]? = some (F_bits lastAsg) := rfl
theorem T23 : T[23]? = some f__law_split := rfl
theorem T24 : T[24]? = some f__law_minus := rfl
theorem T25 : T[25]? = some f__law_part := rfl
theorem T26 : T[26]? = some f__law_trimmed := rfl
theorem T27 : T[27]? = some f__law_once := rfl
theorem T28 : T[28]? = some f_law := rfl
variable {m : Nat}
def meetD (p o : Nat × Nat) : D := if clash p o = 0 then cubeD (p.1 ||| o.1, p.2 ||| o.2) else .non
theorem meet_ok {N : Nat} (hN : 1 ≤ N) (p o : Nat × Nat) : callF T m N 0 [.sh (cubeD p), .sh (cubeD o)] = .ret false (meetD p o) [.sh (cubeD p), .sh (cubeD o)] := by
  obtain ⟨n, rfl⟩ : ∃ n, N = n + 1 := ⟨N - 1, by omega⟩
  refine callF_of T0 rfl (e := [some (.sh (cubeD p)), some (.sh (cubeD o))]) ?_ rfl
  have hne := ne0 (clash p o)
  have h1 : binD .BitAnd (.int ((p.2 ^^^ o.2) &&& p.1 : Nat)) (.int (o.1 : Nat)) = some (false, .int ((clash p o : Nat) : Int)) := band2 _ _
  by_cases hc : clash p o = 0
  · have hm : meetD p o = .tup [.int ((p.1 ||| o.1 : Nat) : Int), .int ((p.2 ||| o.2 : Nat) : Int)] := by unfold meetD; rw [if_pos hc]; rfl
    rw [hm]
    rw [hc] at hne h1
    simp only [beq_self_eq_true, Bool.not_true, Int.natCast_zero] at hne h1
    simp [f_meet, es, es1, ev, evs, evt, opd, Ans.bind, opt, getB, setB, pk, tk, pks, tks, B.dat, cu0, cu1, bxor2, band2 (p.2 ^^^ o.2) p.1, h1, hne, truth, bor2, fitL, maxLen]
  · have hm : meetD p o = .non := by unfold meetD; rw [if_neg hc]
    rw [hm]
    have hb : (clash p o == 0) = false := beq_eq_false_iff_ne.mpr hc
    rw [hb] at hne
    generalize clash p o = q at hne h1
    simp [f_meet, es, es1, ev, evs, evt, opd, Ans.bind, opt, getB, setB, pk, tk, pks, tks, B.dat, cu0, cu1, bxor2, band2 (p.2 ^^^ o.2) p.1, h1, hne, truth]
theorem lowered_ok {N : Nat} (hN : 1 ≤ N) (c : Nat × Nat) (w : Nat) (hw : w ≤ 1000) (b : Bool) : callF T m N 5 [.sh (cubeD c), .sh (natD w), .sh (natD (if b then 1 else 0))] = .ret false (cubeD (lowB c w b)) [.sh (cubeD c), .sh (natD w), .sh (natD (if b then 1 else 0))] := by
  obtain ⟨n, rfl⟩ : ∃ n, N = n + 1 := ⟨N - 1, by omega⟩
  refine callF_of T5 rfl (e := [some (.sh (cubeD c)), some (.sh (natD w)), some (.sh (natD (if b then 1 else 0)))]) ?_ rfl
  have h1 := shlN hw
  have h2 : binD .LShift (natD (if b then 1 else 0)) (natD w) = some (false, natD (if b then 2 ^ w else 0)) := by
    cases b with
    | true => exact h1
    | false =>
      simp only [natD, binD]
      rw [if_pos ⟨by omega, by omega, by decide⟩]
      simp
  have h3 : binD .LShift (.int 1) (natD w) = some (false, natD (2 ^ w)) := h1
  have h4 : ∀ a b : Nat, binD .BitOr (.int (a : Nat)) (natD b) = some (false, natD (a ||| b)) := fun a b => bor2 a b
  have h5 : cubeD (lowB c w b) = .tup [natD (c.1 ||| 2 ^ w), natD (c.2 ||| if b then 2 ^ w else 0)] := rfl
  rw [h5]
  generalize natD (if b then 1 else 0) = l at h2 ⊢
  generalize (if b then 2 ^ w else 0 : Nat) = q at h2 ⊢
  generalize (2 ^ w : Nat) = r at h3 ⊢
  simp [f_lowered, es, es1, ev, evs, opd, Ans.bind, opt, getB, setB, pk, tk, pks, tks, B.dat, cu0, cu1, h2, h3, h4, fitL, maxLen]
/-! ### a cube cut by another, both ways -/
def spBody : Sms := match f_split.body with
  | .cons _ (.cons _ (.cons _ (.cons (.for _ _ b) _))) => b
  | _ => .nil
def lsBody : Sms := match f__law_split.body with
  | .cons _ (.cons _ (.cons _ (.cons (.for _ _ b) _))) => b
  | _ => .nil
theorem sp_loop {n : Nat} (hn : 1 ≤ n) {p o : Nat × Nat} : ∀ (ws : List Nat) (c : Nat × Nat) (told : List (Nat × Nat)) (x4 x5 : Option B), (∀ w ∈ ws, w ≤ 100) → told.length + ws.length ≤ 1000000 →
    ∃ c' y4 y5, forN (turnF T (callF T m n) m (.nm 4) spBody) (ws.map natD) [some (.sh (cubeD p)), some (.sh (cubeD o)), some (.ow (.lst (told.map cubeD))), some (.sh (cubeD c)), x4, x5] =
      .val .nx [some (.sh (cubeD p)), some (.sh (cubeD o)), some (.ow (.lst ((told ++ splitL o ws c).map cubeD))), some (.sh (cubeD c')), y4, y5]
  | [], c, told, x4, x5, _, _ => ⟨c, x4, x5, by simp [forN, splitL]⟩
  | w :: ws, c, told, x4, x5, hw, hl => by
    have hw1 := hw w (by simp)
    have hs := shrN o.2 w
    have h1 := and1 (o.2 / 2 ^ w)
    have hu : o.2 / 2 ^ w % 2 = if o.2.testBit w then 1 else 0 := by
      have := testBit_div o.2 w
      rcases Nat.mod_two_eq_zero_or_one (o.2 / 2 ^ w) with h | h <;> rw [h] at this ⊢ <;> rw [← this] <;> rfl
    rw [hu] at h1
    have hsub : binD .Sub (.int 1) (natD (if o.2.testBit w then 1 else 0)) = some (false, natD (if (!o.2.testBit w) then 1 else 0)) := by
      cases o.2.testBit w <;> rfl
    have l1 := lowered_ok (m := m) hn c w (by omega) (!o.2.testBit w)
    have l2 := lowered_ok (m := m) hn c w (by omega) (o.2.testBit w)
    have h1 : binD .BitAnd (.int ((o.2 / 2 ^ w : Nat) : Int)) (.int 1) = some (false, natD (if o.2.testBit w then 1 else 0)) := h1
    have hs : binD .RShift (.int (o.2 : Nat)) (natD w) = some (false, .int ((o.2 / 2 ^ w : Nat) : Int)) := hs
    have hlt : told.length < 16777216 := by simp at hl; omega
    have step : turnF T (callF T m n) m (.nm 4) spBody (natD w) [some (.sh (cubeD p)), some (.sh (cubeD o)), some (.ow (.lst (told.map cubeD))), some (.sh (cubeD c)), x4, x5] =
      .val .nx [some (.sh (cubeD p)), some (.sh (cubeD o)), some (.ow (.lst ((told ++ [lowB c w (!o.2.testBit w)]).map cubeD))), some (.sh (cubeD (lowB c w (o.2.testBit w)))), some (.sh (natD w)), some (.sh (natD (if o.2.testBit w then 1 else 0)))] := by
      have hfl : ∀ c : Nat × Nat, (cubeD c).flat = false := fun _ => rfl
      generalize natD (if o.2.testBit w then 1 else 0) = la at h1 hsub l2 ⊢
      generalize natD (if (!o.2.testBit w) then 1 else 0) = lb at hsub l1
      generalize o.2 / 2 ^ w = q at hs h1
      generalize lowB c w (!o.2.testBit w) = r1 at l1 ⊢
      generalize lowB c w (o.2.testBit w) = r2 at l2 ⊢
      simp [turnF, spBody, f_split, asgT, setB, es, es1, ev, evs, opd, Ans.bind, opt, getB, pk, pks, tk, B.dat, cu1, hs, h1, hsub, doCall, T5, f_lowered, callArgs, l1, l2, hfl, frzIn, onOwn, addD, maxLen, hlt]
    obtain ⟨c', y4, y5, hr⟩ := sp_loop hn ws (lowB c w (o.2.testBit w)) (told ++ [lowB c w (!o.2.testBit w)]) (some (.sh (natD w))) (some (.sh (natD (if o.2.testBit w then 1 else 0)))) (fun v hv => hw v (by simp [hv])) (by simp at hl ⊢; omega)
    refine ⟨c', y4, y5, ?_⟩
    rw [List.map_cons]
    simp only [forN, step, Ans.bind]
    rw [hr, splitL, List.append_assoc]
    rfl
end L2.Eng.Lk01
namespace L2.Eng.Lk01
open PySem PySem.Spec PyProof.Rows L2 L2.Eng
variable {m : Nat}
theorem splitL_len (o : Nat × Nat) : ∀ (ws : List Nat) (c : Nat × Nat), (splitL o ws c).length = ws.length
  | [], _ => rfl
  | w :: ws, c => by simp [splitL, splitL_len o ws]
theorem split_ok {N : Nat} (hN : 3 ≤ N) (hm : 1000 ≤ m) {w : Nat} (hw : w ≤ 100) (p o : Nat × Nat) (hp : p.1 < 2 ^ w) (ho : o.1 < 2 ^ w) : callF T m N 6 [.sh (cubeD p), .sh (cubeD o)] = .ret true (.lst ((splitC w p o).map cubeD)) [.sh (cubeD p), .sh (cubeD o)] := by
  obtain ⟨n, rfl⟩ : ∃ n, N = n + 1 := ⟨N - 1, by omega⟩
  have hmt := meet_ok (m := m) (N := n) (by omega) p o
  by_cases hc : clash p o = 0
  · have hd : meetD p o = cubeD (p.1 ||| o.1, p.2 ||| o.2) := by unfold meetD; rw [if_pos hc]
    rw [hd] at hmt
    have hsp : splitC w p o = splitL o (bitsL w (nd o.1 p.1)) p := by unfold splitC; rw [if_pos hc]
    rw [hsp]
    have hnd : nd o.1 p.1 < 2 ^ w := by
      unfold nd
      exact Nat.xor_lt_two_pow ho (Nat.lt_of_le_of_lt Nat.and_le_left ho)
    have hwi := bits_gen (T := T) (m := m) last_aug T4 (N := n) (by omega) hm hnd (by omega)
    obtain ⟨c', y4, y5, hl⟩ := sp_loop (m := m) (n := n) (by omega) (p := p) (o := o) (bitsL w (nd o.1 p.1)) p [] none none (fun v hv => by have := (bits_mem.mp hv).1; omega) (by have := bits_len w (nd o.1 p.1); simp; omega)
    have hnda := bnd o.1 p.1
    have hinv := inv p.1
    generalize Builtin.bitNot (p.1 : Int) = np at hnda hinv
    have hnda : binD .BitAnd (.int (o.1 : Nat)) (.int np) = some (false, natD (nd o.1 p.1)) := hnda
    have hit : evi T (callF T m n) (.seq (.call 4 (.cons (.bin .BitAnd (.ix (.var 1) (.cst (.int 0))) (.un .Invert (.ix (.var 0) (.cst (.int 0))))) .nil))) [some (.sh (cubeD p)), some (.sh (cubeD o)), some (.ow (.lst [])), some (.sh (cubeD p)), none, none] = .val ((bitsL w (nd o.1 p.1)).map natD) [some (.sh (cubeD p)), some (.sh (cubeD o)), some (.ow (.lst [])), some (.sh (cubeD p)), none, none] := by
      generalize (bitsL w (nd o.1 p.1)) = bl at hwi ⊢
      generalize natD (nd o.1 p.1) = mk at hwi hnda
      simp [evi, ev, evs, opd, Ans.bind, opt, getB, pk, tk, B.dat, cu0, hinv, hnda, doCall, T4, F_bits, callArgs, hwi, D.flat, frzIn, itemsD]
    refine callF_of T6 rfl (e := [some (.sh (cubeD p)), some (.sh (cubeD o)), none, some (.sh (cubeD c')), y4, y5]) ?_ rfl
    show es T (callF T m n) m f_split.body [some (.sh (cubeD p)), some (.sh (cubeD o)), none, none, none, none] = _
    unfold f_split
    have hfl : ∀ c : Nat × Nat, (cubeD c).flat = false := fun _ => rfl
    refine (es_cons (e1 := [some (.sh (cubeD p)), some (.sh (cubeD o)), none, none, none, none]) ?_).trans ?_
    · have hnon : cmpD .Is (cubeD (p.1 ||| o.1, p.2 ||| o.2)) .non = some false := rfl
      generalize cubeD (p.1 ||| o.1, p.2 ||| o.2) = r at hmt hnon
      by_cases hr : r.flat = true
      · simp [es, es1, evt, ev, evs, opd, Ans.bind, opt, getB, pk, tk, B.dat, doCall, T0, f_meet, callArgs, hmt, hr, hnon, truth]
      · simp [es, es1, evt, ev, evs, opd, Ans.bind, opt, getB, pk, tk, B.dat, doCall, T0, f_meet, callArgs, hmt, hr, hnon, truth, frzIn]
    refine (es_cons (e1 := [some (.sh (cubeD p)), some (.sh (cubeD o)), some (.ow (.lst [])), none, none, none]) (by simp [es1, ev, evs, Ans.bind, tks, fitL, asgT, setB])).trans ?_
    refine (es_cons (e1 := [some (.sh (cubeD p)), some (.sh (cubeD o)), some (.ow (.lst [])), some (.sh (cubeD p)), none, none]) (by simp [es1, ev, Ans.bind, tk, getB, asgT, setB])).trans ?_
    refine (es_cons (es1_for hit hl)).trans ?_
    simp [es, es1, getB, setB, Ans.bind]
  · have hd : meetD p o = .non := by unfold meetD; rw [if_neg hc]
    rw [hd] at hmt
    have hsp : splitC w p o = [p] := by unfold splitC; rw [if_neg hc]
    rw [hsp]
    refine callF_of T6 rfl (e := [some (.sh (cubeD p)), some (.sh (cubeD o)), none, none, none, none]) ?_ rfl
    simp [f_split, es, es1, evt, ev, evs, opd, Ans.bind, opt, getB, pk, tk, tks, B.dat, doCall, T0, f_meet, callArgs, hmt, D.flat, truth, cmpD, isNone, fitL, maxLen]
theorem ls_loop {n : Nat} {p o : Nat × Nat} : ∀ (ws : List Nat) (c : Nat × Nat) (told : List (Nat × Nat)) (x4 x5 : Option B), (∀ w ∈ ws, w ≤ 100) → told.length + ws.length ≤ 1000000 →
    ∃ c' y4 y5, forN (turnF T (callF T m n) m (.nm 4) lsBody) (ws.map natD) [some (.sh (cubeD p)), some (.sh (cubeD o)), some (.ow (.lst (told.map cubeD))), some (.sh (cubeD c)), x4, x5] =
      .val .nx [some (.sh (cubeD p)), some (.sh (cubeD o)), some (.ow (.lst ((told ++ splitL o ws c).map cubeD))), some (.sh (cubeD c')), y4, y5]
  | [], c, told, x4, x5, _, _ => ⟨c, x4, x5, by simp [forN, splitL]⟩
  | w :: ws, c, told, x4, x5, hw, hl => by
    have hw1 := hw w (by simp)
    have hsl := shlN (j := w) (by omega)
    have hsl : binD .LShift (.int 1) (natD w) = some (false, .int ((2 ^ w : Nat) : Int)) := hsl
    have hinv := inv o.2
    have hb1 := bnd (2 ^ w) o.2
    have hb2 := band2 (2 ^ w) o.2
    have e1 : nd (2 ^ w) o.2 = if (!o.2.testBit w) then 2 ^ w else 0 := Nat.eq_of_testBit_eq fun i => by
      rw [nd_bit, two_bit, Nat.testBit_two_pow]
      by_cases z : w = i
      · subst z; simp
      · simp [z]
    have e2 : 2 ^ w &&& o.2 = if o.2.testBit w then 2 ^ w else 0 := Nat.eq_of_testBit_eq fun i => by
      rw [Nat.testBit_and, two_bit, Nat.testBit_two_pow]
      by_cases z : w = i
      · subst z; simp
      · simp [z]
    rw [e1] at hb1
    rw [e2] at hb2
    have hlt : told.length < 16777216 := by simp at hl; omega
    have step : turnF T (callF T m n) m (.nm 4) lsBody (natD w) [some (.sh (cubeD p)), some (.sh (cubeD o)), some (.ow (.lst (told.map cubeD))), some (.sh (cubeD c)), x4, x5] =
      .val .nx [some (.sh (cubeD p)), some (.sh (cubeD o)), some (.ow (.lst ((told ++ [lowB c w (!o.2.testBit w)]).map cubeD))), some (.sh (cubeD (lowB c w (o.2.testBit w)))), some (.sh (natD w)), some (.sh (.int ((2 ^ w : Nat) : Int)))] := by
      have c1 : cubeD (lowB c w (!o.2.testBit w)) = .tup [.int ((c.1 ||| 2 ^ w : Nat) : Int), .int ((c.2 ||| (if (!o.2.testBit w) then 2 ^ w else 0) : Nat) : Int)] := rfl
      have c2 : cubeD (lowB c w (o.2.testBit w)) = .tup [.int ((c.1 ||| 2 ^ w : Nat) : Int), .int ((c.2 ||| (if o.2.testBit w then 2 ^ w else 0) : Nat) : Int)] := rfl
      rw [List.map_append, List.map_cons, List.map_nil, c1, c2]
      generalize Builtin.bitNot (o.2 : Int) = no at hinv hb1
      generalize (if (!o.2.testBit w) then 2 ^ w else 0 : Nat) = a at hb1 ⊢
      generalize (if o.2.testBit w then 2 ^ w else 0 : Nat) = b at hb2 ⊢
      generalize (2 ^ w : Nat) = q at hsl hb1 hb2 ⊢
      simp [turnF, lsBody, f__law_split, asgT, setB, es, es1, ev, evs, opd, Ans.bind, opt, getB, pk, pks, tk, tks, B.dat, cu0, cu1, hsl, hinv, hb1, hb2, bor2, onOwn, addD, maxLen, hlt, fitL]
    obtain ⟨c', y4, y5, hr⟩ := ls_loop (n := n) ws (lowB c w (o.2.testBit w)) (told ++ [lowB c w (!o.2.testBit w)]) (some (.sh (natD w))) (some (.sh (.int ((2 ^ w : Nat) : Int)))) (fun v hv => hw v (by simp [hv])) (by simp at hl ⊢; omega)
    refine ⟨c', y4, y5, ?_⟩
    rw [List.map_cons]
    simp only [forN, step, Ans.bind]
    rw [hr, splitL, List.append_assoc]
    rfl
theorem lsplit_ok {N : Nat} (hN : 3 ≤ N) (hm : 1000 ≤ m) {w : Nat} (hw : w ≤ 100) (p o : Nat × Nat) (hp : p.1 < 2 ^ w) (ho : o.1 < 2 ^ w) : callF T m N 23 [.sh (cubeD p), .sh (cubeD o)] = .ret true (.lst ((splitC w p o).map cubeD)) [.sh (cubeD p), .sh (cubeD o)] := by
  obtain ⟨n, rfl⟩ : ∃ n, N = n + 1 := ⟨N - 1, by omega⟩
  have hne := ne0 (clash p o)
  have hcl : binD .BitAnd (.int ((p.2 ^^^ o.2) &&& p.1 : Nat)) (.int (o.1 : Nat)) = some (false, .int ((clash p o : Nat) : Int)) := band2 _ _
  by_cases hc : clash p o = 0
  · have hsp : splitC w p o = splitL o (bitsL w (nd o.1 p.1)) p := by unfold splitC; rw [if_pos hc]
    rw [hsp]
    have hnd : nd o.1 p.1 < 2 ^ w := by
      unfold nd
      exact Nat.xor_lt_two_pow ho (Nat.lt_of_le_of_lt Nat.and_le_left ho)
    have hwi := bits_gen (T := T) (m := m) last_asg T22 (N := n) (by omega) hm hnd (by omega)
    obtain ⟨c', y4, y5, hl⟩ := ls_loop (m := m) (n := n) (p := p) (o := o) (bitsL w (nd o.1 p.1)) p [] none none (fun v hv => by have := (bits_mem.mp hv).1; omega) (by have := bits_len w (nd o.1 p.1); simp; omega)
    have hnda := bnd o.1 p.1
    have hinv := inv p.1
    generalize Builtin.bitNot (p.1 : Int) = np at hnda hinv
    have hnda : binD .BitAnd (.int (o.1 : Nat)) (.int np) = some (false, natD (nd o.1 p.1)) := hnda
    have hit : evi T (callF T m n) (.seq (.call 22 (.cons (.bin .BitAnd (.ix (.var 1) (.cst (.int 0))) (.un .Invert (.ix (.var 0) (.cst (.int 0))))) .nil))) [some (.sh (cubeD p)), some (.sh (cubeD o)), some (.ow (.lst [])), some (.sh (cubeD p)), none, none] = .val ((bitsL w (nd o.1 p.1)).map natD) [some (.sh (cubeD p)), some (.sh (cubeD o)), some (.ow (.lst [])), some (.sh (cubeD p)), none, none] := by
      generalize (bitsL w (nd o.1 p.1)) = bl at hwi ⊢
      generalize natD (nd o.1 p.1) = mk at hwi hnda
      simp [evi, ev, evs, opd, Ans.bind, opt, getB, pk, tk, B.dat, cu0, hinv, hnda, doCall, T22, F_bits, callArgs, hwi, D.flat, frzIn, itemsD]
    refine callF_of T23 rfl (e := [some (.sh (cubeD p)), some (.sh (cubeD o)), none, some (.sh (cubeD c')), y4, y5]) ?_ rfl
    show es T (callF T m n) m f__law_split.body [some (.sh (cubeD p)), some (.sh (cubeD o)), none, none, none, none] = _
    unfold f__law_split
    rw [hc] at hne hcl
    simp only [beq_self_eq_true, Bool.not_true, Int.natCast_zero] at hne hcl
    refine (es_cons (e1 := [some (.sh (cubeD p)), some (.sh (cubeD o)), none, none, none, none]) ?_).trans ?_
    · simp [es, es1, evt, ev, evs, opd, Ans.bind, opt, getB, pk, tk, B.dat, cu0, cu1, bxor2, band2 (p.2 ^^^ o.2) p.1, hcl, hne, truth]
    refine (es_cons (e1 := [some (.sh (cubeD p)), some (.sh (cubeD o)), some (.ow (.lst [])), none, none, none]) (by simp [es1, ev, evs, Ans.bind, tks, fitL, asgT, setB])).trans ?_
    refine (es_cons (e1 := [some (.sh (cubeD p)), some (.sh (cubeD o)), some (.ow (.lst [])), some (.sh (cubeD p)), none, none]) (by simp [es1, ev, Ans.bind, tk, getB, asgT, setB])).trans ?_
    refine (es_cons (es1_for hit hl)).trans ?_
    simp [es, es1, getB, setB, Ans.bind]
  · have hsp : splitC w p o = [p] := by unfold splitC; rw [if_neg hc]
    rw [hsp]
    have hb : (clash p o == 0) = false := beq_eq_false_iff_ne.mpr hc
    rw [hb] at hne
    refine callF_of T23 rfl (e := [some (.sh (cubeD p)), some (.sh (cubeD o)), none, none, none, none]) ?_ rfl
    generalize clash p o = q at hne hcl
    simp [f__law_split, es, es1, evt, ev, evs, opd, Ans.bind, opt, getB, pk, tk, tks, B.dat, cu0, cu1, bxor2, band2 (p.2 ^^^ o.2) p.1, hcl, hne, truth, fitL, maxLen]
end L2.Eng.Lk01
namespace L2.Eng.Lk01
open PySem PySem.Spec PyProof.Rows L2 L2.Eng
variable {m : Nat}
def mi1 : Sms := match f_minus.body with
  | .cons _ (.cons (.for _ _ (.cons _ (.cons (.for _ _ b) _))) _) => b
  | _ => .nil
def mi2 : Sms := match f_minus.body with
  | .cons _ (.cons (.for _ _ b) _) => b
  | _ => .nil
def lm1 : Sms := match f__law_minus.body with
  | .cons _ (.cons (.for _ _ (.cons _ (.cons (.for _ _ b) _))) _) => b
  | _ => .nil
def lm2 : Sms := match f__law_minus.body with
  | .cons _ (.cons (.for _ _ b) _) => b
  | _ => .nil
theorem mi_inner {n : Nat} (hn : 3 ≤ n) (hm : 1000 ≤ m) {w : Nat} (hw : w ≤ 100) {o : Nat × Nat} (ho : o.1 < 2 ^ w) {b0 b1 b2 : Option B} : ∀ (qs left : List (Nat × Nat)) (x5 : Option B), (∀ q ∈ qs, q.1 < 2 ^ w) → (left ++ qs.flatMap fun p => splitC w p o).length ≤ 1000000 →
    ∃ y5, forN (turnF T (callF T m n) m (.nm 5) mi1) (qs.map cubeD) [b0, b1, b2, some (.sh (cubeD o)), some (.ow (.lst (left.map cubeD))), x5] =
      .val .nx [b0, b1, b2, some (.sh (cubeD o)), some (.ow (.lst ((left ++ qs.flatMap fun p => splitC w p o).map cubeD))), y5]
  | [], left, x5, _, _ => ⟨x5, by simp [forN]⟩
  | q :: qs, left, x5, hq, hl => by
    have hs := split_ok (m := m) hn hm hw q o (hq q (by simp)) ho
    have hlt : left.length + (splitC w q o).length ≤ 16777216 := by simp at hl; omega
    have step : turnF T (callF T m n) m (.nm 5) mi1 (cubeD q) [b0, b1, b2, some (.sh (cubeD o)), some (.ow (.lst (left.map cubeD))), x5] = .val .nx [b0, b1, b2, some (.sh (cubeD o)), some (.ow (.lst ((left ++ splitC w q o).map cubeD))), some (.sh (cubeD q))] := by
      generalize splitC w q o = r at hs hlt ⊢
      simp [turnF, mi1, f_minus, asgT, setB, es, es1, ev, evs, opd, Ans.bind, opt, getB, pk, tk, B.dat, doCall, T6, f_split, callArgs, hs, D.flat, frzIn, onOwn, extD, maxLen, hlt]
    obtain ⟨y5, hr⟩ := mi_inner hn hm hw ho (b0 := b0) (b1 := b1) (b2 := b2) qs (left ++ splitC w q o) (some (.sh (cubeD q))) (fun p hp => hq p (by simp [hp])) (by simpa [List.append_assoc] using hl)
    refine ⟨y5, ?_⟩
    rw [List.map_cons]
    simp only [forN, step, Ans.bind]
    rw [hr, List.flatMap_cons, List.append_assoc]
theorem lm_inner {n : Nat} (hn : 3 ≤ n) (hm : 1000 ≤ m) {w : Nat} (hw : w ≤ 100) {o : Nat × Nat} (ho : o.1 < 2 ^ w) {b0 b1 b2 : Option B} : ∀ (qs left : List (Nat × Nat)) (x5 : Option B), (∀ q ∈ qs, q.1 < 2 ^ w) → (left ++ qs.flatMap fun p => splitC w p o).length ≤ 1000000 →
    ∃ y5, forN (turnF T (callF T m n) m (.nm 5) lm1) (qs.map cubeD) [b0, b1, b2, some (.sh (cubeD o)), some (.ow (.lst (left.map cubeD))), x5] =
      .val .nx [b0, b1, b2, some (.sh (cubeD o)), some (.ow (.lst ((left ++ qs.flatMap fun p => splitC w p o).map cubeD))), y5]
  | [], left, x5, _, _ => ⟨x5, by simp [forN]⟩
  | q :: qs, left, x5, hq, hl => by
    have hs := lsplit_ok (m := m) hn hm hw q o (hq q (by simp)) ho
    have hlt : left.length + (splitC w q o).length ≤ 16777216 := by simp at hl; omega
    have hcat : binD .Add (.lst (left.map cubeD)) (.lst ((splitC w q o).map cubeD)) = some (true, .lst ((left ++ splitC w q o).map cubeD)) := by
      simp only [binD]
      rw [if_pos (by simpa [maxLen] using hlt), List.map_append]
    have step : turnF T (callF T m n) m (.nm 5) lm1 (cubeD q) [b0, b1, b2, some (.sh (cubeD o)), some (.ow (.lst (left.map cubeD))), x5] = .val .nx [b0, b1, b2, some (.sh (cubeD o)), some (.ow (.lst ((left ++ splitC w q o).map cubeD))), some (.sh (cubeD q))] := by
      generalize (.lst ((left ++ splitC w q o).map cubeD) : D) = z at hcat ⊢
      generalize splitC w q o = r at hs hcat
      simp [turnF, lm1, f__law_minus, asgT, setB, es, es1, ev, evs, opd, Ans.bind, opt, getB, pk, tk, B.dat, doCall, T23, f__law_split, callArgs, hs, D.flat, frzIn, hcat]
    obtain ⟨y5, hr⟩ := lm_inner hn hm hw ho (b0 := b0) (b1 := b1) (b2 := b2) qs (left ++ splitC w q o) (some (.sh (cubeD q))) (fun p hp => hq p (by simp [hp])) (by simpa [List.append_assoc] using hl)
    refine ⟨y5, ?_⟩
    rw [List.map_cons]
    simp only [forN, step, Ans.bind]
    rw [hr, List.flatMap_cons, List.append_assoc]
def isLst (b : B) (xs : List D) : Prop := b = .ow (.lst xs) ∨ b = .sh (.lst xs)
/-- one more cube taken away: the turn, given its inner loop -/
theorem mi_turn {n : Nat} {b1 b2 : Sms} {w : Nat} (hb : b2 = .cons (.asg (.nm 4) (.lst .nil)) (.cons (.for (.nm 5) (.seq (.var 2)) b1) (.cons (.asg (.nm 2) (.var 4)) .nil)))
    (inner : ∀ {b0 b1' b2' : Option B} {o : Nat × Nat}, o.1 < 2 ^ w → ∀ (qs left : List (Nat × Nat)) (x5 : Option B), (∀ q ∈ qs, q.1 < 2 ^ w) → (left ++ qs.flatMap fun p => splitC w p o).length ≤ 1000000 →
      ∃ y5, forN (turnF T (callF T m n) m (.nm 5) b1) (qs.map cubeD) [b0, b1', b2', some (.sh (cubeD o)), some (.ow (.lst (left.map cubeD))), x5] = .val .nx [b0, b1', b2', some (.sh (cubeD o)), some (.ow (.lst ((left ++ qs.flatMap fun p => splitC w p o).map cubeD))), y5])
    {c0 b1' : Option B} {o : Nat × Nat} (ho : o.1 < 2 ^ w) {ps : List (Nat × Nat)} (hp : ∀ q ∈ ps, q.1 < 2 ^ w) (hl : (ps.flatMap fun p => splitC w p o).length ≤ 1000000) {b : B} (hbl : isLst b (ps.map cubeD)) {x3 x4 x5 : Option B} :
    ∃ y4 y5, turnF T (callF T m n) m (.nm 3) b2 (cubeD o) [c0, b1', some b, x3, x4, x5] = .val .nx [c0, b1', some (.sh (.lst ((ps.flatMap fun p => splitC w p o).map cubeD))), some (.sh (cubeD o)), y4, y5] := by
  obtain ⟨y5, hi⟩ := inner (b0 := c0) (b1' := b1') (b2' := some (.sh (.lst (ps.map cubeD)))) ho ps [] x5 hp (by simpa using hl)
  have hit : evi T (callF T m n) (.seq (.var 2)) [c0, b1', some b, some (.sh (cubeD o)), some (.ow (.lst [])), x5] = .val (ps.map cubeD) [c0, b1', some (.sh (.lst (ps.map cubeD))), some (.sh (cubeD o)), some (.ow (.lst [])), x5] := by
    rcases hbl with e | e <;> subst e <;> simp [evi, ev, tk, getB, setB, Ans.bind, opt, itemsD]
  refine ⟨some (.sh (.lst ((ps.flatMap fun p => splitC w p o).map cubeD))), y5, ?_⟩
  subst hb
  show es T (callF T m n) m _ [c0, b1', some b, some (.sh (cubeD o)), x4, x5] = _
  refine (es_cons (e1 := [c0, b1', some b, some (.sh (cubeD o)), some (.ow (.lst [])), x5]) (by simp [es1, ev, evs, Ans.bind, tks, fitL, asgT, setB])).trans ?_
  refine (es_cons (es1_for hit hi)).trans ?_
  simp [es, es1, ev, tk, getB, setB, Ans.bind, asgT]
theorem mi_outer {n : Nat} {b1 b2 : Sms} {w : Nat} (hb : b2 = .cons (.asg (.nm 4) (.lst .nil)) (.cons (.for (.nm 5) (.seq (.var 2)) b1) (.cons (.asg (.nm 2) (.var 4)) .nil)))
    (inner : ∀ {b0 b1' b2' : Option B} {o : Nat × Nat}, o.1 < 2 ^ w → ∀ (qs left : List (Nat × Nat)) (x5 : Option B), (∀ q ∈ qs, q.1 < 2 ^ w) → (left ++ qs.flatMap fun p => splitC w p o).length ≤ 1000000 →
      ∃ y5, forN (turnF T (callF T m n) m (.nm 5) b1) (qs.map cubeD) [b0, b1', b2', some (.sh (cubeD o)), some (.ow (.lst (left.map cubeD))), x5] = .val .nx [b0, b1', b2', some (.sh (cubeD o)), some (.ow (.lst ((left ++ qs.flatMap fun p => splitC w p o).map cubeD))), y5])
    (hw : w ≤ 15) {c0 b1' : Option B} : ∀ (cover ps : List (Nat × Nat)) (b : B) (x3 x4 x5 : Option B), (∀ q ∈ cover, Cu w q) → (∀ q ∈ ps, Cu w q) → (∀ x, cnt x ps ≤ 1) → isLst b (ps.map cubeD) →
      ∃ b' y3 y4 y5, forN (turnF T (callF T m n) m (.nm 3) b2) (cover.map cubeD) [c0, b1', some b, x3, x4, x5] = .val .nx [c0, b1', some b', y3, y4, y5] ∧ isLst b' ((minusL w ps cover).map cubeD)
  | [], ps, b, x3, x4, x5, _, _, _, hbl => ⟨b, x3, x4, x5, rfl, hbl⟩
  | o :: cover, ps, b, x3, x4, x5, hc, hp, h1, hbl => by
    have ho := hc o (by simp)
    have hcu := flat_cu hp o
    have hcn : ∀ x, cnt x (ps.flatMap fun p => splitC w p o) ≤ 1 := fun x => by
      rw [flat_cnt ho x hp]
      have := h1 x
      split <;> omega
    have hlen := len_le 1 hcu hcn
    have h15 : 2 ^ w ≤ 2 ^ 15 := Nat.pow_le_pow_right (by omega) hw
    obtain ⟨y4, y5, ht⟩ := mi_turn (m := m) (n := n) hb inner (c0 := c0) (b1' := b1') ho.1 (fun q hq => (hp q hq).1) (by omega) hbl (x3 := x3) (x4 := x4) (x5 := x5)
    obtain ⟨b', z3, z4, z5, hr, hb'⟩ := mi_outer hb inner hw (c0 := c0) (b1' := b1') cover _ _ (some (.sh (cubeD o))) y4 y5 (fun q hq => hc q (by simp [hq])) hcu hcn (.inr rfl)
    refine ⟨b', z3, z4, z5, ?_, hb'⟩
    rw [List.map_cons]
    simp only [forN, ht, Ans.bind]
    exact hr
theorem minus_fin {n : Nat} {P : Nat → List B → CA} {c0 b1' : Option B} {b' : B} {xs : List D} {y3 y4 y5 : Option B} (h : isLst b' xs) : es T P m (.cons (.ret (.prim .tuple (.cons (.var 2) .nil))) .nil) [c0, b1', some b', y3, y4, y5] = .val (.rt false (.tup xs)) [c0, b1', some b', y3, y4, y5] := by
  rcases h with e | e <;> subst e <;> simp [es, es1, ev, evs, opd, Ans.bind, opt, getB, pk, pks, B.dat, primD]
theorem minus_ok {N : Nat} (hN : 4 ≤ N) (hm : 1000 ≤ m) {w : Nat} (hw : w ≤ 15) {c : Nat × Nat} (hc : Cu w c) {cs : List (Nat × Nat)} (hcs : ∀ q ∈ cs, Cu w q) : callF T m N 7 [.sh (cubeD c), .sh (coverD cs)] = .ret false (coverD (minusL w [c] cs)) [.sh (cubeD c), .sh (coverD cs)] := by
  obtain ⟨n, rfl⟩ : ∃ n, N = n + 1 := ⟨N - 1, by omega⟩
  obtain ⟨b', y3, y4, y5, hf, hb'⟩ := mi_outer (m := m) (n := n) (b1 := mi1) (b2 := mi2) (w := w) rfl (fun {b0 b1' b2' o} ho qs left x5 => mi_inner (by omega) hm (by omega) ho qs left x5) hw (c0 := some (.sh (cubeD c))) (b1' := some (.sh (coverD cs))) cs [c] (.ow (.lst ([c].map cubeD))) none none none hcs (by simpa using hc) (fun x => by rw [cnt_cons, cnt_nil]; split <;> omega) (.inl rfl)
  refine callF_of T7 rfl (e := [some (.sh (cubeD c)), some (.sh (coverD cs)), some b', y3, y4, y5]) ?_ rfl
  show es T (callF T m n) m f_minus.body [some (.sh (cubeD c)), some (.sh (coverD cs)), none, none, none, none] = _
  refine (es_cons (e1 := [some (.sh (cubeD c)), some (.sh (coverD cs)), some (.ow (.lst ([c].map cubeD))), none, none, none]) (by simp [es1, ev, evs, opd, Ans.bind, tks, tk, getB, fitL, maxLen, asgT, setB])).trans ?_
  refine (es_cons (es1_for (by simp [evi, ev, tk, getB, Ans.bind, opt, itemsD, coverD]) hf)).trans ?_
  exact minus_fin (n := n) hb'
theorem lminus_ok {N : Nat} (hN : 4 ≤ N) (hm : 1000 ≤ m) {w : Nat} (hw : w ≤ 15) {c : Nat × Nat} (hc : Cu w c) {cs : List (Nat × Nat)} (hcs : ∀ q ∈ cs, Cu w q) : callF T m N 24 [.sh (cubeD c), .sh (coverD cs)] = .ret false (coverD (minusL w [c] cs)) [.sh (cubeD c), .sh (coverD cs)] := by
  obtain ⟨n, rfl⟩ : ∃ n, N = n + 1 := ⟨N - 1, by omega⟩
  obtain ⟨b', y3, y4, y5, hf, hb'⟩ := mi_outer (m := m) (n := n) (b1 := lm1) (b2 := lm2) (w := w) rfl (fun {b0 b1' b2' o} ho qs left x5 => lm_inner (by omega) hm (by omega) ho qs left x5) hw (c0 := some (.sh (cubeD c))) (b1' := some (.sh (coverD cs))) cs [c] (.ow (.lst ([c].map cubeD))) none none none hcs (by simpa using hc) (fun x => by rw [cnt_cons, cnt_nil]; split <;> omega) (.inl rfl)
  refine callF_of T24 rfl (e := [some (.sh (cubeD c)), some (.sh (coverD cs)), some b', y3, y4, y5]) ?_ rfl
  show es T (callF T m n) m f__law_minus.body [some (.sh (cubeD c)), some (.sh (coverD cs)), none, none, none, none] = _
  refine (es_cons (e1 := [some (.sh (cubeD c)), some (.sh (coverD cs)), some (.ow (.lst ([c].map cubeD))), none, none, none]) (by simp [es1, ev, evs, opd, Ans.bind, tks, tk, getB, fitL, maxLen, asgT, setB])).trans ?_
  refine (es_cons (es1_for (by simp [evi, ev, tk, getB, Ans.bind, opt, itemsD, coverD]) hf)).trans ?_
  exact minus_fin (n := n) hb'
end L2.Eng.Lk01
namespace L2.Eng.Lk01
open PySem PySem.Spec PyProof.Rows L2 L2.Eng
variable {m : Nat}
theorem addC {a b : List (Nat × Nat)} (h : (a ++ b).length ≤ 1000000) : binD .Add (coverD a) (coverD b) = some (false, coverD (a ++ b)) := by
  simp only [coverD, binD]
  rw [if_pos (by simp at h; simp [maxLen]; omega), List.map_append]
/-! covers cut by covers -/
def cmBody : Sms := match f_cover_minus.body with
  | .cons _ (.cons (.for _ _ b) _) => b
  | _ => .nil
theorem cm_loop {n : Nat} (hn : 4 ≤ n) (hm : 1000 ≤ m) {w : Nat} (hw : w ≤ 15) {other : List (Nat × Nat)} (ho : ∀ q ∈ other, Cu w q) {b0 : Option B} : ∀ (cs told : List (Nat × Nat)) (x3 : Option B), (∀ q ∈ cs, Cu w q) → (told ++ coverMinus w cs other).length ≤ 1000000 →
    ∃ y3, forN (turnF T (callF T m n) m (.nm 3) cmBody) (cs.map cubeD) [b0, some (.sh (coverD other)), some (.sh (coverD told)), x3] = .val .nx [b0, some (.sh (coverD other)), some (.sh (coverD (told ++ coverMinus w cs other))), y3]
  | [], told, x3, _, _ => ⟨x3, by simp [forN, coverMinus]⟩
  | c :: cs, told, x3, hc, hl => by
    have hs := minus_ok (m := m) hn hm hw (hc c (by simp)) ho
    have e1 : coverMinus w (c :: cs) other = minusL w [c] other ++ coverMinus w cs other := by simp [coverMinus]
    rw [e1] at hl ⊢
    have hcat := addC (a := told) (b := minusL w [c] other) (by simp at hl ⊢; omega)
    have step : turnF T (callF T m n) m (.nm 3) cmBody (cubeD c) [b0, some (.sh (coverD other)), some (.sh (coverD told)), x3] = .val .nx [b0, some (.sh (coverD other)), some (.sh (coverD (told ++ minusL w [c] other))), some (.sh (cubeD c))] := by
      have hfl : ∀ l, (coverD l).flat = false := fun _ => rfl
      simp [turnF, cmBody, f_cover_minus, asgT, setB, es, es1, ev, evs, opd, Ans.bind, opt, getB, pk, tk, B.dat, doCall, T7, f_minus, callArgs, hs, hfl, frzIn, hcat]
    obtain ⟨y3, hr⟩ := cm_loop hn hm hw ho (b0 := b0) cs (told ++ minusL w [c] other) (some (.sh (cubeD c))) (fun q hq => hc q (by simp [hq])) (by simpa [List.append_assoc] using hl)
    refine ⟨y3, ?_⟩
    rw [List.map_cons]
    simp only [forN, step, Ans.bind]
    rw [hr, List.append_assoc]
theorem cm_ok {N : Nat} (hN : 5 ≤ N) (hm : 1000 ≤ m) {w : Nat} (hw : w ≤ 15) {cs other : List (Nat × Nat)} (hc : ∀ q ∈ cs, Cu w q) (ho : ∀ q ∈ other, Cu w q) (hl : (coverMinus w cs other).length ≤ 1000000) :
    callF T m N 8 [.sh (coverD cs), .sh (coverD other)] = .ret false (coverD (coverMinus w cs other)) [.sh (coverD cs), .sh (coverD other)] := by
  obtain ⟨n, rfl⟩ : ∃ n, N = n + 1 := ⟨N - 1, by omega⟩
  obtain ⟨y3, hf⟩ := cm_loop (m := m) (n := n) (by omega) hm hw ho (b0 := some (.sh (coverD cs))) cs [] none hc (by simpa using hl)
  refine callF_of T8 rfl (e := [some (.sh (coverD cs)), some (.sh (coverD other)), some (.sh (coverD (coverMinus w cs other))), y3]) ?_ rfl
  show es T (callF T m n) m f_cover_minus.body [some (.sh (coverD cs)), some (.sh (coverD other)), none, none] = _
  refine (es_cons (e1 := [some (.sh (coverD cs)), some (.sh (coverD other)), some (.sh (coverD [])), none]) (by simp [es1, ev, evs, Ans.bind, tks, fitL, asgT, setB, coverD])).trans ?_
  refine (es_cons (es1_for (by simp [evi, ev, tk, getB, Ans.bind, opt, itemsD, coverD]) hf)).trans ?_
  simp [es, es1, getB, Ans.bind]
/-! pieces of a cover that have no state twice -/
def apBody : Sms := match f_apart.body with
  | .cons _ (.cons (.for _ _ b) _) => b
  | _ => .nil
theorem ap_loop {n : Nat} (hn : 4 ≤ n) (hm : 1000 ≤ m) {w : Nat} (hw : w ≤ 15) : ∀ (r pre told : List (Nat × Nat)) (x2 x3 : Option B), (∀ q ∈ pre ++ r, Cu w q) → (told ++ apartG w pre r).length ≤ 1000000 →
    ∃ y2 y3, forN (turnF T (callF T m n) m (.tp [2, 3]) apBody) (enumD pre.length (r.map cubeD)) [some (.sh (coverD (pre ++ r))), some (.sh (coverD told)), x2, x3] = .val .nx [some (.sh (coverD (pre ++ r))), some (.sh (coverD (told ++ apartG w pre r))), y2, y3]
  | [], pre, told, x2, x3, _, _ => ⟨x2, x3, by simp [forN, apartG, enumD]⟩
  | c :: r, pre, told, x2, x3, hc, hl => by
    have hpre : ∀ q ∈ pre, Cu w q := fun q hq => hc q (by simp [hq])
    have hs := minus_ok (m := m) hn hm hw (hc c (by simp)) hpre
    rw [apartG] at hl ⊢
    have hcat := addC (a := told) (b := minusL w [c] pre) (by simp at hl ⊢; omega)
    have hsl : slD (coverD (pre ++ c :: r)) none (some (pre.length : Int)) = some (false, coverD pre) := by
      simp only [slD, coverD, cut_to (show (0 : Int) ≤ (pre.length : Nat) by omega), Int.toNat_natCast]
      rw [← List.map_take, List.take_left']
      rfl
    have step : turnF T (callF T m n) m (.tp [2, 3]) apBody (.tup [.int (pre.length : Nat), cubeD c]) [some (.sh (coverD (pre ++ c :: r))), some (.sh (coverD told)), x2, x3] = .val .nx [some (.sh (coverD (pre ++ c :: r))), some (.sh (coverD (told ++ minusL w [c] pre))), some (.sh (.int (pre.length : Nat))), some (.sh (cubeD c))] := by
      have hfl : ∀ l, (coverD l).flat = false := fun _ => rfl
      simp [turnF, apBody, f_apart, asgT, asgN, setB, es, es1, ev, evs, evx, opd, Ans.bind, opt, getB, pk, tk, B.dat, endD, hsl, doCall, T7, f_minus, callArgs, hs, hfl, frzIn, hcat]
    obtain ⟨y2, y3, hr⟩ := ap_loop hn hm hw r (pre ++ [c]) (told ++ minusL w [c] pre) (some (.sh (.int (pre.length : Nat)))) (some (.sh (cubeD c))) (fun q hq => hc q (by simpa [List.append_assoc] using hq)) (by simpa [List.append_assoc] using hl)
    refine ⟨y2, y3, ?_⟩
    rw [List.map_cons, enumD]
    simp only [forN, step, Ans.bind]
    rw [List.length_append, List.length_singleton, List.append_assoc, List.singleton_append, List.append_assoc] at hr
    exact hr
theorem apart_ok {N : Nat} (hN : 5 ≤ N) (hm : 1000 ≤ m) {w : Nat} (hw : w ≤ 15) {cs : List (Nat × Nat)} (hc : ∀ q ∈ cs, Cu w q) (hl : (apartG w [] cs).length ≤ 1000000) :
    callF T m N 9 [.sh (coverD cs)] = .ret false (coverD (apartG w [] cs)) [.sh (coverD cs)] := by
  obtain ⟨n, rfl⟩ : ∃ n, N = n + 1 := ⟨N - 1, by omega⟩
  obtain ⟨y2, y3, hf⟩ := ap_loop (m := m) (n := n) (by omega) hm hw cs [] [] none none (by simpa using hc) (by simpa using hl)
  refine callF_of T9 rfl (e := [some (.sh (coverD cs)), some (.sh (coverD (apartG w [] cs))), y2, y3]) ?_ rfl
  show es T (callF T m n) m f_apart.body [some (.sh (coverD cs)), none, none, none] = _
  refine (es_cons (e1 := [some (.sh (coverD cs)), some (.sh (coverD [])), none, none]) (by simp [es1, ev, evs, Ans.bind, tks, fitL, asgT, setB, coverD])).trans ?_
  refine (es_cons (es1_for (by simp [evi, ev, tk, getB, Ans.bind, opt, seqD, coverD]) hf)).trans ?_
  simp [es, es1, getB, Ans.bind]
theorem zero_cu (w : Nat) : Cu w (0, 0) := ⟨Nat.two_pow_pos w, rfl⟩
theorem opposite_ok {N : Nat} (hN : 5 ≤ N) (hm : 1000 ≤ m) {w : Nat} (hw : w ≤ 15) {cs : List (Nat × Nat)} (hc : ∀ q ∈ cs, Cu w q) :
    callF T m N 10 [.sh (coverD cs)] = .ret false (coverD (minusL w [(0, 0)] cs)) [.sh (coverD cs)] := by
  obtain ⟨n, rfl⟩ : ∃ n, N = n + 1 := ⟨N - 1, by omega⟩
  have hs := minus_ok (m := m) (N := n) (by omega) hm hw (zero_cu w) hc
  have hz : (.tup [.int 0, .int 0] : D) = cubeD (0, 0) := rfl
  have hfl : ∀ l, (coverD l).flat = false := fun _ => rfl
  refine callF_of T10 rfl (e := [some (.sh (coverD cs))]) ?_ rfl
  simp [f_opposite, es, es1, ev, evs, opd, Ans.bind, opt, getB, pk, tk, tks, B.dat, fitL, maxLen, hz, doCall, T7, f_minus, callArgs, hs, hfl, frzIn]
/-! sizes -/
theorem literals_ok {N : Nat} (hN : 2 ≤ N) (hm : 1000 ≤ m) {w : Nat} (hw : w ≤ 100) {c : Nat × Nat} (hc : c.1 < 2 ^ w) : callF T m N 2 [.sh (cubeD c)] = .ret false (natD (bitsL w c.1).length) [.sh (cubeD c)] := by
  obtain ⟨n, rfl⟩ : ∃ n, N = n + 1 := ⟨N - 1, by omega⟩
  have hs := bits_gen (T := T) (m := m) last_aug T4 (N := n) (by omega) hm hc (by omega)
  refine callF_of T2 rfl (e := [some (.sh (cubeD c))]) ?_ rfl
  have hlen := lenL ((bitsL w c.1).map natD)
  rw [List.length_map] at hlen
  have hlen : primD .len [.lst ((bitsL w c.1).map natD)] = some (false, natD (bitsL w c.1).length) := hlen
  have hc0 : ixD (cubeD c) (.int 0) = some (natD c.1) := rfl
  generalize natD (bitsL w c.1).length = q at hlen ⊢
  generalize natD c.1 = k at hc0 hs
  simp [f_literals, es, es1, ev, evs, opd, Ans.bind, opt, getB, pk, pks, B.dat, hc0, doCall, T4, F_bits, callArgs, hs, D.flat, frzIn, hlen]
  simp [tk, hlen, pks, pk]
theorem size_ok {N : Nat} (hN : 3 ≤ N) (hm : 1000 ≤ m) {w : Nat} (hw : w ≤ 100) {c : Nat × Nat} (hc : c.1 < 2 ^ w) : callF T m N 3 [.sh (cubeD c), .sh (natD w)] = .ret false (natD (2 ^ (w - (bitsL w c.1).length))) [.sh (cubeD c), .sh (natD w)] := by
  obtain ⟨n, rfl⟩ : ∃ n, N = n + 1 := ⟨N - 1, by omega⟩
  have hs := literals_ok (m := m) (N := n) (by omega) hm hw hc
  have hb := bits_len w c.1
  refine callF_of T3 rfl (e := [some (.sh (cubeD c)), some (.sh (natD w))]) ?_ rfl
  have hsub : binD .Sub (natD w) (natD (bitsL w c.1).length) = some (false, natD (w - (bitsL w c.1).length)) := by
    simp only [natD, binD]
    congr 3
    omega
  have hsl : binD .LShift (.int 1) (natD (w - (bitsL w c.1).length)) = some (false, natD (2 ^ (w - (bitsL w c.1).length))) := shlN (by omega)
  generalize natD (2 ^ (w - (bitsL w c.1).length)) = r at hsl ⊢
  generalize natD (w - (bitsL w c.1).length) = q at hsl hsub
  have hfl : (natD (bitsL w c.1).length).flat = true := rfl
  generalize natD (bitsL w c.1).length = k at hs hsub hfl
  simp [f_size_of, es, es1, ev, evs, opd, Ans.bind, opt, getB, pk, pks, B.dat, doCall, T2, f_literals, callArgs, hs, hfl, hsub, hsl]
end L2.Eng.Lk01
namespace L2.Eng.Lk01
open PySem PySem.Spec PyProof.Rows L2 L2.Eng
variable {m : Nat}
theorem ints_nat : ∀ L : List Nat, intsOf (L.map natD) = some (L.map fun (k : Nat) => (k : Int))
  | [] => rfl
  | k :: L => by
    have := ints_nat L
    simp only [List.map_cons]
    show (match intsOf (L.map natD) with | some is => some ((k : Int) :: is) | none => none) = _
    rw [this]
theorem sum_nat : ∀ L : List Nat, (L.map fun (k : Nat) => (k : Int)).sum = ((L.sum : Nat) : Int)
  | [] => rfl
  | k :: L => by simp only [List.map_cons, List.sum_cons, sum_nat L, Int.natCast_add]
theorem fm_some {α β : Type} (f : α → β) (L : List α) : L.filterMap (fun c => some (f c)) = L.map f := by
  induction L with
  | nil => rfl
  | cons c L ih => rw [List.filterMap_cons, ih]; rfl
theorem items_c (l : List (Nat × Nat)) : itemsD (coverD l) = some (l.map cubeD) := rfl
def countN (w : Nat) (cs : List (Nat × Nat)) : Nat := ((apartG w [] cs).map fun c => 2 ^ (w - (bitsL w c.1).length)).sum
theorem count_ok {N : Nat} (hN : 6 ≤ N) (hm : 1000 ≤ m) {w : Nat} (hw : w ≤ 15) {cs : List (Nat × Nat)} (hc : ∀ q ∈ cs, Cu w q) (hl : (apartG w [] cs).length ≤ 1000000) :
    callF T m N 11 [.sh (coverD cs), .sh (natD w)] = .ret false (natD (countN w cs)) [.sh (coverD cs), .sh (natD w)] := by
  obtain ⟨n, rfl⟩ : ∃ n, N = n + 1 := ⟨N - 1, by omega⟩
  have ha := apart_ok (m := m) (N := n) (by omega) hm hw hc hl
  have hcu := apartG_cu (n := w) cs [] hc
  have hfl : ∀ l, (coverD l).flat = false := fun _ => rfl
  have hev := ev_comp_enc (T := T) (P := callF T m n) (x := .call 3 (.cons (.var 3) (.cons (.var 1) .nil))) (t := .nm 3) (it := .seq (.call 9 (.cons (.var 0) .nil))) (c := .tru) (own := [2, 3]) (e := [some (.sh (coverD cs)), some (.sh (natD w)), none, none]) (e1 := [some (.sh (coverD cs)), some (.sh (natD w)), none, none]) (cs := apartG w [] cs) cubeD (fun c => some (natD (2 ^ (w - (bitsL w c.1).length))))
    (by
      generalize apartG w [] cs = L at ha
      simp [evi, ev, evs, opd, Ans.bind, opt, getB, pk, tk, B.dat, doCall, T9, f_apart, callArgs, ha, hfl, frzIn, items_c])
    (by simp [stillB, getB]) (fun c hcm => by
      have hs := size_ok (m := m) (N := n) (by omega) hm (w := w) (by omega) (hcu c hcm).1
      generalize (2 ^ (w - (bitsL w c.1).length)) = q at hs ⊢
      have hq : (natD q).flat = true := rfl
      simp [turnC, asgT, wipeB, backB, setB, getB, evt, ev, evs, opd, Ans.bind, opt, tk, pk, pks, B.dat, doCall, T3, f_size_of, callArgs, hs, hq]) (by rw [fm_some, List.length_map]; simp only [maxLen]; omega)
  rw [fm_some] at hev
  have hsum : primD .sum [.lst ((apartG w [] cs).map fun c => natD (2 ^ (w - (bitsL w c.1).length)))] = some (false, natD (countN w cs)) := by
    have e1 : (apartG w [] cs).map (fun c => natD (2 ^ (w - (bitsL w c.1).length))) = ((apartG w [] cs).map fun c => 2 ^ (w - (bitsL w c.1).length)).map natD := by rw [List.map_map]; rfl
    rw [e1]
    simp only [primD, ints_nat, sum_nat]
    rfl
  refine callF_of T11 rfl (e := [some (.sh (coverD cs)), some (.sh (natD w)), none, none]) ?_ rfl
  exact es_ret (es1_ret (by intro _ z; cases z) (ev_prim1 (by intro _ z; cases z) hev hsum))
/-! in a list of states -/
theorem oks_nat (L : List Nat) (k : Nat) : D.ok.oks (L.map natD) k = true := by
  induction L with
  | nil => rfl
  | cons a L ih => simp only [List.map_cons, D.ok.oks, ih, natD, D.ok, Bool.and_self]
theorem in_nat (x : Nat) (L : List Nat) : inD (natD x) (L.map natD) = L.contains x := by
  induction L with
  | nil => rfl
  | cons a L ih =>
    unfold inD at ih ⊢
    rw [List.map_cons, List.any_cons, ih, List.contains_cons]
    simp only [natD, D.eq, nat_beq]
    rw [Bool.beq_comm]
theorem cin (x : Nat) (L : List Nat) : cmpD .In (natD x) (.lst (L.map natD)) = some (L.contains x) := by
  have h := in_nat x L
  have h2 := oks_nat L deepest
  have h3 : (natD x).ok deepest = true := rfl
  simp only [cmpD, h3, h2, h, Bool.and_self, if_true]
theorem cnin (x : Nat) (L : List Nat) : cmpD .NotIn (natD x) (.lst (L.map natD)) = some (!L.contains x) := by
  have h := in_nat x L
  have h2 := oks_nat L deepest
  have h3 : (natD x).ok deepest = true := rfl
  simp only [cmpD, h3, h2, h, Bool.and_self, if_true]
def onLoop : Sms := match f__law_once.body with
  | .cons (.for _ _ b) _ => b
  | _ => .nil
theorem once_loop {n : Nat} (hn : 2 ≤ n) {L : List (Nat × Nat)} (hL : L.length ≤ 1000000) {S : List Nat} {b2 : Option B} : ∀ (xs : List Nat) (x3 : Option B), (∀ x ∈ xs, cnt x L = if S.contains x then 1 else 0) →
    ∃ y3, forN (turnF T (callF T m n) m (.nm 3) onLoop) (xs.map natD) [some (.sh (coverD L)), some (.sh (.lst (S.map natD))), b2, x3, none, none] = .val .nx [some (.sh (coverD L)), some (.sh (.lst (S.map natD))), b2, y3, none, none]
  | [], x3, _ => ⟨x3, rfl⟩
  | x :: xs, x3, h => by
    have hev := ev_comp_enc (T := T) (P := callF T m n) (x := .var 5) (t := .nm 5) (it := .seq (.var 0)) (c := .e (.call 17 (.cons (.var 3) (.cons (.var 5) .nil)))) (own := [4, 5]) (e := [some (.sh (coverD L)), some (.sh (.lst (S.map natD))), b2, some (.sh (natD x)), none, none]) (e1 := [some (.sh (coverD L)), some (.sh (.lst (S.map natD))), b2, some (.sh (natD x)), none, none]) (cs := L)
      cubeD (fun c => if hasB x c then some (cubeD c) else none) (by simp [evi, ev, tk, getB, Ans.bind, opt, itemsD, coverD]) (by simp [stillB, getB]) (fun c hc => by
        have hh := has_ok (m := m) (N := n) T17 (by omega) x c
        cases hb : hasB x c <;> rw [hb] at hh <;>
          simp [turnC, asgT, wipeB, backB, setB, getB, evt, ev, evs, opd, Ans.bind, opt, tk, pk, pks, B.dat, doCall, T17, F_has, callArgs, hh, D.flat, truth]) (by rw [fm_filter]; have := List.length_filter_le (hasB x) L; simp [maxLen]; omega)
    rw [fm_filter] at hev
    have hlen := lenL ((L.filter (hasB x)).map cubeD)
    rw [List.length_map, ← List.countP_eq_length_filter] at hlen
    have hx := h x (by simp)
    unfold cnt at hx
    rw [hx] at hlen
    have h1 := ev_prim1 (by intro _ z; cases z) hev hlen
    have hin := cin x S
    have hpi : primD .int [.bl (S.contains x)] = some (false, natD (if S.contains x then 1 else 0)) := by cases S.contains x <;> rfl
    have hne : cmpD .NotEq (natD (if S.contains x then 1 else 0)) (natD (if S.contains x then 1 else 0)) = some false := by
      have := cne (if S.contains x then 1 else 0) (if S.contains x then 1 else 0)
      simp only [beq_self_eq_true, Bool.not_true] at this
      exact this
    have h2 : opd (.prim .int (.cons (.cmp .In (.var 3) (.var 1)) .nil)) (ev T (callF T m n) (.prim .int (.cons (.cmp .In (.var 3) (.var 1)) .nil))) [some (.sh (coverD L)), some (.sh (.lst (S.map natD))), b2, some (.sh (natD x)), none, none] = .val (.v (natD (if S.contains x then 1 else 0))) [some (.sh (coverD L)), some (.sh (.lst (S.map natD))), b2, some (.sh (natD x)), none, none] := by
      generalize natD (if S.contains x then 1 else 0) = q at hpi ⊢
      generalize S.contains x = b at hpi hin
      generalize S.map natD = z at hin ⊢
      simp [opd, ev, evs, Ans.bind, opt, getB, pk, pks, B.dat, hin, hpi]
    have h3 := ev_cmp_l (T := T) (o := .NotEq) (by intro _ z; cases z) h1 h2 rfl hne
    have step : turnF T (callF T m n) m (.nm 3) onLoop (natD x) [some (.sh (coverD L)), some (.sh (.lst (S.map natD))), b2, x3, none, none] = .val .nx [some (.sh (coverD L)), some (.sh (.lst (S.map natD))), b2, some (.sh (natD x)), none, none] := by
      show es T (callF T m n) m onLoop [some (.sh (coverD L)), some (.sh (.lst (S.map natD))), b2, some (.sh (natD x)), none, none] = _
      refine (es_cons (es1_itF (e2 := [some (.sh (coverD L)), some (.sh (.lst (S.map natD))), b2, some (.sh (natD x)), none, none]) (fl := .nx) (e1 := [some (.sh (coverD L)), some (.sh (.lst (S.map natD))), b2, some (.sh (natD x)), none, none]) ?_ rfl)).trans rfl
      simp only [evt, opd_ev (by intro _ z; cases z) h3, Ans.bind, pk, truth, opt]
    obtain ⟨y3, hr⟩ := once_loop hn hL (S := S) (b2 := b2) xs (some (.sh (natD x))) fun y hy => h y (by simp [hy])
    refine ⟨y3, ?_⟩
    rw [List.map_cons]
    simp only [forN, step, Ans.bind]
    exact hr
theorem once_ok {N : Nat} (hN : 3 ≤ N) {w : Nat} (hw : w ≤ 15) {L : List (Nat × Nat)} (hL : L.length ≤ 1000000) {S : List Nat} (h : ∀ x, x < 2 ^ w → cnt x L = if S.contains x then 1 else 0) :
    callF T m N 27 [.sh (coverD L), .sh (.lst (S.map natD)), .sh (natD w)] = .ret false (.bl true) [.sh (coverD L), .sh (.lst (S.map natD)), .sh (natD w)] := by
  obtain ⟨n, rfl⟩ : ∃ n, N = n + 1 := ⟨N - 1, by omega⟩
  obtain ⟨y3, hf⟩ := once_loop (m := m) (n := n) (by omega) hL (S := S) (b2 := some (.sh (natD w))) (List.range (2 ^ w)) none fun x hx => h x (List.mem_range.mp hx)
  have hp : 2 ^ w ≤ 2 ^ 15 := Nat.pow_le_pow_right (by omega) hw
  have hs : binD .LShift (.int 1) (natD w) = some (false, .int ((2 ^ w : Nat) : Int)) := shlN (j := w) (by omega)
  have hit : evi T (callF T m n) (.rng (.bin .LShift (.cst (.int 1)) (.var 2))) [some (.sh (coverD L)), some (.sh (.lst (S.map natD))), some (.sh (natD w)), none, none, none] = .val ((List.range (2 ^ w)).map natD) [some (.sh (coverD L)), some (.sh (.lst (S.map natD))), some (.sh (natD w)), none, none, none] := by
    rw [← range_nat]
    refine evi_rngN (f := false) ?_ (by simp only [maxLen]; omega)
    generalize 2 ^ w = p at hs
    simp [ev, opd, Ans.bind, getB, pk, B.dat, hs, opt]
  refine callF_of T27 rfl (e := [some (.sh (coverD L)), some (.sh (.lst (S.map natD))), some (.sh (natD w)), y3, none, none]) ?_ rfl
  show es T (callF T m n) m f__law_once.body [some (.sh (coverD L)), some (.sh (.lst (S.map natD))), some (.sh (natD w)), none, none, none] = _
  refine (es_cons (es1_for hit hf)).trans ?_
  simp [es, es1, ev, Ans.bind]
end L2.Eng.Lk01
namespace L2.Eng.Lk01
open PySem PySem.Spec PyProof.Rows L2 L2.Eng
variable {m : Nat}
def lies (a b : Nat × Nat) : Bool := (b.1 &&& a.1 == b.1) && (a.2 &&& b.1 == b.2)
theorem T25' : T[25]? = some f_lies_in := rfl
theorem lies_ok {i N : Nat} (hT : T[i]? = some f_lies_in) (hN : 1 ≤ N) (a b : Nat × Nat) : callF T m N i [.sh (cubeD a), .sh (cubeD b)] = .ret false (.bl (lies a b)) [.sh (cubeD a), .sh (cubeD b)] := by
  obtain ⟨n, rfl⟩ : ∃ n, N = n + 1 := ⟨N - 1, by omega⟩
  refine callF_of hT rfl (e := [some (.sh (cubeD a)), some (.sh (cubeD b))]) ?_ rfl
  cases h : (b.1 &&& a.1 == b.1) <;>
    simp [f_lies_in, es, es1, ev, evs, opd, Ans.bind, opt, getB, pk, B.dat, cu0, cu1, band2, ceq, lies, h]
theorem cube_eq (a b : Nat × Nat) : D.eq (cubeD a) (cubeD b) = (a == b) := by
  simp only [cubeD, D.eq, D.eqs, nat_beq, Bool.and_true]
  rfl
theorem cube_ne (a b : Nat × Nat) : cmpD .NotEq (cubeD a) (cubeD b) = some (!(a == b)) := by
  have h : ∀ c : Nat × Nat, (cubeD c).ok deepest = true := fun _ => rfl
  simp only [cmpD, h, cube_eq, Bool.and_self, if_true]
def okT (pre : List (Nat × Nat)) (c : Nat × Nat) (r : List (Nat × Nat)) : Bool := !(pre.any (lies c)) && !(r.any fun o => !(o == c) && lies c o)
def trimG : List (Nat × Nat) → List (Nat × Nat) → List (Nat × Nat)
  | _, [] => []
  | pre, c :: r => (if okT pre c r then [c] else []) ++ trimG (pre ++ [c]) r
theorem trimG_len : ∀ (r pre : List (Nat × Nat)), (trimG pre r).length ≤ r.length
  | [], _ => by simp [trimG]
  | c :: r, pre => by
    have := trimG_len r (pre ++ [c])
    rw [trimG, List.length_append, List.length_cons]
    split <;> simp <;> omega
def trBody : Sms := match f_trimmed.body with
  | .cons _ (.cons (.for _ _ b) _) => b
  | _ => .nil
theorem flt0 {α : Type} (p : α → Bool) (l : List α) : ((l.filter p).length == 0) = !l.any p := by
  have := filter_any p l
  cases h : l.any p with
  | true =>
    rw [h, decide_eq_true_eq] at this
    have h2 : (l.filter p).length ≠ 0 := by omega
    simp [h2]
  | false =>
    rw [h, decide_eq_false_iff_not] at this
    have h2 : (l.filter p).length = 0 := by omega
    simp [h2]
theorem tr_loop {n : Nat} (hn : 1 ≤ n) : ∀ (r pre told : List (Nat × Nat)) (x2 x3 x4 x5 : Option B), (pre ++ r).length ≤ 100000 → told.length ≤ pre.length →
    ∃ y2 y3 y4 y5, forN (turnF T (callF T m n) m (.tp [2, 3]) trBody) (enumD pre.length (r.map cubeD)) [some (.sh (coverD (pre ++ r))), some (.ow (.lst (told.map cubeD))), x2, x3, x4, x5, none, none] = .val .nx [some (.sh (coverD (pre ++ r))), some (.ow (.lst ((told ++ trimG pre r).map cubeD))), y2, y3, y4, y5, none, none]
  | [], pre, told, x2, x3, x4, x5, _, _ => ⟨x2, x3, x4, x5, by simp [forN, trimG, enumD]⟩
  | c :: r, pre, told, x2, x3, x4, x5, hl, ht => by
    have hpl : pre.length ≤ 100000 := by simp at hl; omega
    have hsl : slD (coverD (pre ++ c :: r)) none (some (pre.length : Int)) = some (false, coverD pre) := by
      simp only [slD, coverD, cut_to (show (0 : Int) ≤ (pre.length : Nat) by omega), Int.toNat_natCast]
      rw [← List.map_take, List.take_left']
      rfl
    have hsl2 : slD (coverD (pre ++ c :: r)) (some ((pre.length + 1 : Nat) : Int)) none = some (false, coverD r) := by
      simp only [slD, coverD, cut_from (show (0 : Int) ≤ ((pre.length + 1 : Nat) : Int) by omega), Int.toNat_natCast]
      rw [← List.map_drop, ← List.drop_drop, List.drop_left']
      · rfl
      · rfl
    have h1 := ev_comp_enc (T := T) (P := callF T m n) (x := .var 7) (t := .nm 7) (it := .seq (.sl (.var 0) .no (.yes (.var 2)))) (c := .e (.call 1 (.cons (.var 3) (.cons (.var 7) .nil)))) (own := [6, 7]) (e := [some (.sh (coverD (pre ++ c :: r))), some (.ow (.lst (told.map cubeD))), some (.sh (.int (pre.length : Nat))), some (.sh (cubeD c)), x4, x5, none, none]) (e1 := [some (.sh (coverD (pre ++ c :: r))), some (.ow (.lst (told.map cubeD))), some (.sh (.int (pre.length : Nat))), some (.sh (cubeD c)), x4, x5, none, none]) (cs := pre)
      cubeD (fun o => if lies c o then some (cubeD o) else none) (by simp [evi, ev, evx, opd, pk, B.dat, tk, getB, Ans.bind, opt, endD, hsl, items_c]) (by simp [stillB, getB]) (fun o ho => by
        have hh := lies_ok (m := m) (N := n) T1 hn c o
        cases hb : lies c o <;> rw [hb] at hh <;>
          simp [turnC, asgT, wipeB, backB, setB, getB, evt, ev, evs, opd, Ans.bind, opt, tk, pk, pks, B.dat, doCall, T1, f_lies_in, callArgs, hh, D.flat, truth]) (by rw [fm_filter]; have := List.length_filter_le (lies c) pre; simp [maxLen]; omega)
    rw [fm_filter] at h1
    have h2 := ev_comp_enc (T := T) (P := callF T m n) (x := .var 7) (t := .nm 7) (it := .seq (.sl (.var 0) (.yes (.bin .Add (.var 2) (.cst (.int 1)))) .no)) (c := .and (.e (.cmp .NotEq (.var 7) (.var 3))) (.e (.call 1 (.cons (.var 3) (.cons (.var 7) .nil))))) (own := [6, 7]) (e := [some (.sh (coverD (pre ++ c :: r))), some (.ow (.lst (told.map cubeD))), some (.sh (.int (pre.length : Nat))), some (.sh (cubeD c)), some (.ow (.lst ((pre.filter (lies c)).map cubeD))), x5, none, none]) (e1 := [some (.sh (coverD (pre ++ c :: r))), some (.ow (.lst (told.map cubeD))), some (.sh (.int (pre.length : Nat))), some (.sh (cubeD c)), some (.ow (.lst ((pre.filter (lies c)).map cubeD))), x5, none, none]) (cs := r)
      cubeD (fun o => if (!(o == c) && lies c o) then some (cubeD o) else none) (by
        have ha := addN1 pre.length
        generalize pre.length + 1 = k at ha hsl2
        simp [evi, ev, evx, opd, pk, B.dat, tk, getB, Ans.bind, opt, endD, ha, hsl2, items_c]) (by simp [stillB, getB]) (fun o ho => by
        have hh := lies_ok (m := m) (N := n) T1 hn c o
        have hne := cube_ne o c
        cases hb : lies c o <;> rw [hb] at hh <;> cases he : (o == c) <;> rw [he] at hne <;>
          simp [turnC, asgT, wipeB, backB, setB, getB, evt, ev, evs, opd, Ans.bind, opt, tk, pk, pks, B.dat, doCall, T1, f_lies_in, callArgs, hh, D.flat, truth, hne]) (by rw [fm_filter]; have := List.length_filter_le (fun o => !(o == c) && lies c o) r; simp at hl; simp [maxLen]; omega)
    rw [fm_filter] at h2
    have hl1 := lenL ((pre.filter (lies c)).map cubeD)
    have hl2 := lenL ((r.filter fun o => !(o == c) && lies c o).map cubeD)
    rw [List.length_map] at hl1 hl2
    have hadd := addN (pre.filter (lies c)).length (r.filter fun o => !(o == c) && lies c o).length
    have hz := eq0 ((pre.filter (lies c)).length + (r.filter fun o => !(o == c) && lies c o).length)
    have hq : (((pre.filter (lies c)).length + (r.filter fun o => !(o == c) && lies c o).length) == 0) = okT pre c r := by
      have f1 := flt0 (lies c) pre
      have f2 := flt0 (fun o => !(o == c) && lies c o) r
      unfold okT
      rw [← f1, ← f2, Bool.eq_iff_iff, Bool.and_eq_true, beq_iff_eq, beq_iff_eq, beq_iff_eq]
      omega
    rw [hq] at hz
    have hlt : told.length < 16777216 := by omega
    have step : turnF T (callF T m n) m (.tp [2, 3]) trBody (.tup [.int (pre.length : Nat), cubeD c]) [some (.sh (coverD (pre ++ c :: r))), some (.ow (.lst (told.map cubeD))), x2, x3, x4, x5, none, none] = .val .nx [some (.sh (coverD (pre ++ c :: r))), some (.ow (.lst ((told ++ (if okT pre c r then [c] else [])).map cubeD))), some (.sh (.int (pre.length : Nat))), some (.sh (cubeD c)), some (.ow (.lst ((pre.filter (lies c)).map cubeD))), some (.ow (.lst ((r.filter fun o => !(o == c) && lies c o).map cubeD))), none, none] := by
      show es T (callF T m n) m trBody [some (.sh (coverD (pre ++ c :: r))), some (.ow (.lst (told.map cubeD))), some (.sh (.int (pre.length : Nat))), some (.sh (cubeD c)), x4, x5, none, none] = _
      refine (es_cons (es1_asg h1 rfl)).trans ?_
      refine (es_cons (es1_asg h2 rfl)).trans ?_
      generalize (pre.filter (lies c)).length + (r.filter fun o => !(o == c) && lies c o).length = q at hadd hz
      generalize (pre.filter (lies c)).length = q1 at hl1 hadd
      generalize (r.filter fun o => !(o == c) && lies c o).length = q2 at hl2 hadd
      generalize (.lst ((pre.filter (lies c)).map cubeD) : D) = z1 at hl1 ⊢
      generalize (.lst ((r.filter fun o => !(o == c) && lies c o).map cubeD) : D) = z2 at hl2 ⊢
      cases ho : okT pre c r <;> rw [ho] at hz <;>
        simp [setB, es, es1, evt, ev, evs, opd, Ans.bind, opt, getB, pk, pks, tk, B.dat, hl1, hl2, hadd, hz, truth, onOwn, addD, maxLen, hlt]
    obtain ⟨y2, y3, y4, y5, hr⟩ := tr_loop hn r (pre ++ [c]) (told ++ (if okT pre c r then [c] else [])) (some (.sh (.int (pre.length : Nat)))) (some (.sh (cubeD c))) (some (.ow (.lst ((pre.filter (lies c)).map cubeD)))) (some (.ow (.lst ((r.filter fun o => !(o == c) && lies c o).map cubeD)))) (by simpa [List.append_assoc] using hl) (by simp only [List.length_append, List.length_singleton]; split <;> simp <;> omega)
    refine ⟨y2, y3, y4, y5, ?_⟩
    rw [List.map_cons, enumD]
    simp only [forN, step, Ans.bind]
    rw [List.length_append, List.length_singleton, List.append_assoc, List.singleton_append, List.append_assoc] at hr
    exact hr
theorem trimmed_ok {N : Nat} (hN : 2 ≤ N) {cs : List (Nat × Nat)} (hl : cs.length ≤ 100000) : callF T m N 12 [.sh (coverD cs)] = .ret false (coverD (trimG [] cs)) [.sh (coverD cs)] := by
  obtain ⟨n, rfl⟩ : ∃ n, N = n + 1 := ⟨N - 1, by omega⟩
  obtain ⟨y2, y3, y4, y5, hf⟩ := tr_loop (m := m) (n := n) (by omega) cs [] [] none none none none (by simpa using hl) (by simp)
  refine callF_of T12 rfl (e := [some (.sh (coverD cs)), some (.ow (.lst ((trimG [] cs).map cubeD))), y2, y3, y4, y5, none, none]) ?_ rfl
  show es T (callF T m n) m f_trimmed.body [some (.sh (coverD cs)), none, none, none, none, none, none, none] = _
  refine (es_cons (e1 := [some (.sh (coverD cs)), some (.ow (.lst [])), none, none, none, none, none, none]) (by simp [es1, ev, evs, Ans.bind, tks, fitL, asgT, setB])).trans ?_
  refine (es_cons (es1_for (by simp [evi, ev, tk, getB, Ans.bind, opt, seqD, coverD]) hf)).trans ?_
  simp [es, es1, ev, evs, opd, opt, pk, pks, B.dat, getB, Ans.bind, primD, coverD]
end L2.Eng.Lk01
namespace L2.Eng.Lk01
open PySem PySem.Spec PyProof.Rows L2 L2.Eng
variable {m : Nat}
theorem forN_cons {f : D → Env → Ans Fl} {d : D} {ds : List D} {e e1 : Env} (h : f d e = .val .nx e1) : forN f (d :: ds) e = forN f ds e1 := by
  simp only [forN, h, Ans.bind]
def ltBody : Sms := match f__law_trimmed.body with
  | .cons _ (.cons (.for _ _ b) _) => b
  | _ => .nil
def lostB (all : List (Nat × Nat)) (k : Nat) (c : Nat × Nat) (j : Nat) : Bool := match all[j]? with
  | some o => lies c o && (!(o == c) || decide (j < k))
  | none => false
theorem lost_ok (pre : List (Nat × Nat)) (c : Nat × Nat) (r : List (Nat × Nat)) : (List.range (pre ++ c :: r).length).any (lostB (pre ++ c :: r) pre.length c) = !okT pre c r := by
  rw [Bool.eq_iff_iff]
  unfold okT
  rw [← Bool.not_or, Bool.not_not, List.any_eq_true, Bool.or_eq_true, List.any_eq_true, List.any_eq_true]
  constructor
  · rintro ⟨j, hj, h⟩
    rw [List.mem_range] at hj
    unfold lostB at h
    rw [List.getElem?_eq_getElem hj] at h
    simp only [Bool.and_eq_true, Bool.or_eq_true, decide_eq_true_eq] at h
    by_cases h1 : j < pre.length
    · rw [List.getElem_append_left h1] at h
      exact .inl ⟨pre[j], List.getElem_mem h1, h.1⟩
    · rw [List.getElem_append_right (by omega)] at h
      obtain ⟨h2, h3⟩ := h
      have h3 := h3.resolve_right h1
      by_cases h4 : j - pre.length = 0
      · simp [h4] at h3
      · obtain ⟨q, hq⟩ : ∃ q, j - pre.length = q + 1 := ⟨j - pre.length - 1, by omega⟩
        simp only [hq, List.getElem_cons_succ] at h2 h3
        exact .inr ⟨r[q]'(by simp at hj; omega), List.getElem_mem _, by rw [h2, h3]; rfl⟩
  · rintro (⟨o, ho, h⟩ | ⟨o, ho, h⟩)
    · obtain ⟨j, hj, rfl⟩ := List.getElem_of_mem ho
      refine ⟨j, List.mem_range.mpr (by simp; omega), ?_⟩
      unfold lostB
      rw [List.getElem?_append_left hj, List.getElem?_eq_getElem hj]
      simp [h, hj]
    · obtain ⟨q, hq, rfl⟩ := List.getElem_of_mem ho
      rw [Bool.and_eq_true] at h
      refine ⟨pre.length + (q + 1), List.mem_range.mpr (by simp; omega), ?_⟩
      unfold lostB
      rw [List.getElem?_append_right (by omega), Nat.add_sub_cancel_left, List.getElem?_cons_succ, List.getElem?_eq_getElem hq]
      simp only [Bool.and_eq_true, Bool.or_eq_true]
      exact ⟨h.2, .inl h.1⟩
theorem ixC {all : List (Nat × Nat)} {j : Nat} (h : j < all.length) : ixD (coverD all) (natD j) = some (cubeD all[j]) := by
  have : atN (all.map cubeD).length ((j : Nat) : Int) = some j := atN_nat (by simpa using h)
  simp only [ixD, coverD, natD, this, Option.bind_some, List.getElem?_map, List.getElem?_eq_getElem h, Option.map_some]
theorem clt (u v : Nat) : cmpD .Lt (natD u) (natD v) = some (decide (u < v)) := by
  simp only [natD, cmpD]
  congr 1
  rw [Bool.eq_iff_iff, decide_eq_true_eq, decide_eq_true_eq]; omega
theorem lt_loop {n : Nat} (hn : 1 ≤ n) : ∀ (r pre told : List (Nat × Nat)) (x2 x3 : Option B), (pre ++ r).length ≤ 100000 → told.length ≤ pre.length →
    ∃ y2 y3, forN (turnF T (callF T m n) m (.nm 2) ltBody) ((List.range' pre.length r.length).map natD) [some (.sh (coverD (pre ++ r))), some (.ow (.lst (told.map cubeD))), x2, x3, none, none] = .val .nx [some (.sh (coverD (pre ++ r))), some (.ow (.lst ((told ++ trimG pre r).map cubeD))), y2, y3, none, none]
  | [], pre, told, x2, x3, _, _ => ⟨x2, x3, by simp [forN, trimG]⟩
  | c :: r, pre, told, x2, x3, hl, ht => by
    generalize hall : pre ++ c :: r = all at hl ⊢
    have hkl : pre.length < all.length := by rw [← hall]; simp
    have hk : all[pre.length] = c := by simp [← hall]
    have hik := ixC (all := all) hkl
    rw [hk] at hik
    have hlost := lost_ok pre c r
    rw [hall] at hlost
    have h1 := ev_comp_enc (T := T) (P := callF T m n) (x := .var 5) (t := .nm 5) (it := .rng (.prim .len (.cons (.var 0) .nil))) (c := .and (.e (.call 25 (.cons (.ix (.var 0) (.var 2)) (.cons (.ix (.var 0) (.var 5)) .nil)))) (.or (.e (.cmp .NotEq (.ix (.var 0) (.var 5)) (.ix (.var 0) (.var 2)))) (.e (.cmp .Lt (.var 5) (.var 2))))) (own := [4, 5]) (e := [some (.sh (coverD all)), some (.ow (.lst (told.map cubeD))), some (.sh (natD pre.length)), x3, none, none]) (e1 := [some (.sh (coverD all)), some (.ow (.lst (told.map cubeD))), some (.sh (natD pre.length)), x3, none, none]) (cs := List.range all.length)
      natD (fun j => if lostB all pre.length c j then some (natD j) else none) (by
        have hlen := lenC all
        rw [← range_nat]
        exact evi_rngN (f := false) (by simp only [ev, evs, opd, getB, Ans.bind, pks, pk, B.dat, hlen, opt]) (by simp only [maxLen]; omega)) (by simp [stillB, getB]) (fun j hj => by
        rw [List.mem_range] at hj
        have hij := ixC (all := all) hj
        have hlb : lostB all pre.length c j = (lies c all[j] && (!(all[j] == c) || decide (j < pre.length))) := by
          unfold lostB
          rw [List.getElem?_eq_getElem hj]
        rw [hlb]
        generalize all[j] = o at hij
        have hh := lies_ok (m := m) (N := n) T25' hn c o
        have hne := cube_ne o c
        have hc := clt j pre.length
        generalize natD pre.length = dk at hik hc ⊢
        generalize natD j = dj at hij hc ⊢
        cases hb : lies c o <;> rw [hb] at hh <;> cases he : (o == c) <;> rw [he] at hne <;> cases hd : decide (j < pre.length) <;> rw [hd] at hc <;>
          simp [turnC, asgT, wipeB, backB, setB, getB, evt, ev, evs, opd, Ans.bind, opt, tk, pk, pks, B.dat, doCall, T25', f_lies_in, callArgs, hik, hij, hh, D.flat, truth, hne, hc]) (by rw [fm_filter]; have := List.length_filter_le (lostB all pre.length c) (List.range all.length); simp only [List.length_map, maxLen]; rw [List.length_range] at this; omega)
    rw [fm_filter] at h1
    have hl1 := lenL (((List.range all.length).filter (lostB all pre.length c)).map natD)
    rw [List.length_map] at hl1
    have hz := eq0 ((List.range all.length).filter (lostB all pre.length c)).length
    rw [flt0, hlost, Bool.not_not] at hz
    have hlt : told.length < 16777216 := by omega
    have step : turnF T (callF T m n) m (.nm 2) ltBody (natD pre.length) [some (.sh (coverD all)), some (.ow (.lst (told.map cubeD))), x2, x3, none, none] = .val .nx [some (.sh (coverD all)), some (.ow (.lst ((told ++ (if okT pre c r then [c] else [])).map cubeD))), some (.sh (natD pre.length)), some (.ow (.lst (((List.range all.length).filter (lostB all pre.length c)).map natD))), none, none] := by
      show es T (callF T m n) m ltBody [some (.sh (coverD all)), some (.ow (.lst (told.map cubeD))), some (.sh (natD pre.length)), x3, none, none] = _
      refine (es_cons (es1_asg h1 rfl)).trans ?_
      generalize ((List.range all.length).filter (lostB all pre.length c)).length = q1 at hl1 hz
      generalize (.lst (((List.range all.length).filter (lostB all pre.length c)).map natD) : D) = z1 at hl1 ⊢
      generalize natD pre.length = dk at hik ⊢
      cases ho : okT pre c r <;> rw [ho] at hz <;>
        simp [setB, es, es1, evt, ev, evs, opd, Ans.bind, opt, getB, pk, pks, tk, B.dat, hl1, hz, hik, truth, onOwn, addD, maxLen, hlt]
    have e2 : all = (pre ++ [c]) ++ r := by rw [← hall]; simp
    obtain ⟨y2, y3, hr⟩ := lt_loop hn r (pre ++ [c]) (told ++ (if okT pre c r then [c] else [])) (some (.sh (natD pre.length))) (some (.ow (.lst (((List.range all.length).filter (lostB all pre.length c)).map natD)))) (by rw [← e2]; exact hl) (by simp only [List.length_append, List.length_singleton]; split <;> simp <;> omega)
    refine ⟨y2, y3, ?_⟩
    have e3 : (List.range' pre.length (c :: r).length).map natD = natD pre.length :: (List.range' (pre.length + 1) r.length).map natD := by
      rw [List.length_cons, List.range'_succ, List.map_cons]
    rw [e3]
    rw [← e2, List.length_append, List.length_singleton, List.append_assoc] at hr
    exact (forN_cons step).trans hr
theorem ltrim_ok {N : Nat} (hN : 2 ≤ N) {cs : List (Nat × Nat)} (hl : cs.length ≤ 100000) : callF T m N 26 [.sh (coverD cs)] = .ret false (coverD (trimG [] cs)) [.sh (coverD cs)] := by
  obtain ⟨n, rfl⟩ : ∃ n, N = n + 1 := ⟨N - 1, by omega⟩
  obtain ⟨y2, y3, hf⟩ := lt_loop (m := m) (n := n) (by omega) cs [] [] none none (by simpa using hl) (by simp)
  have hlen := lenC cs
  have hit : evi T (callF T m n) (.rng (.prim .len (.cons (.var 0) .nil))) [some (.sh (coverD cs)), some (.ow (.lst [])), none, none, none, none] = .val ((List.range' 0 cs.length).map natD) [some (.sh (coverD cs)), some (.ow (.lst [])), none, none, none, none] := by
    rw [← List.range_eq_range', ← range_nat]
    exact evi_rngN (f := false) (by simp only [ev, evs, opd, getB, Ans.bind, pks, pk, B.dat, hlen, opt]) (by simp only [maxLen]; omega)
  refine callF_of T26 rfl (e := [some (.sh (coverD cs)), some (.ow (.lst ((trimG [] cs).map cubeD))), y2, y3, none, none]) ?_ rfl
  show es T (callF T m n) m f__law_trimmed.body [some (.sh (coverD cs)), none, none, none, none, none] = _
  refine (es_cons (e1 := [some (.sh (coverD cs)), some (.ow (.lst [])), none, none, none, none]) (by simp [es1, ev, evs, Ans.bind, tks, fitL, asgT, setB])).trans ?_
  refine (es_cons (es1_for hit hf)).trans ?_
  simp [es, es1, ev, evs, opd, opt, pk, pks, B.dat, getB, Ans.bind, primD, coverD]
end L2.Eng.Lk01
namespace L2.Eng.Lk01
open PySem PySem.Spec PyProof.Rows L2 L2.Eng
variable {m : Nat}
theorem evs_cons {P : Nat → List B → CA} {a : Ex} {r : Exs} {e e1 e2 : Env} {o : Op} {os : List Op} (h : opd a (ev T P a) e = .val o e1) (h2 : evs T P r e1 = .val os e2) : evs T P (.cons a r) e = .val (o :: os) e2 := by
  simp only [evs, h, h2, Ans.bind]
theorem ev_call {P : Nat → List B → CA} {f : Nat} {es : Exs} {e e1 : Env} {ops : List Op} {fn : Fn} {bs outs : List B} {fr : Bool} {d : D} (h : evs T P es e = .val ops e1) (hT : T[f]? = some fn) (hio : fn.io.all (!·) = true) (ha : callArgs e1 fn.io ops = some bs) (hP : P f bs = .ret fr d outs) (hf : d.flat = true) : ev T P (.call f es) e = .val (false, d) e1 := by
  simp only [ev, h, Ans.bind, doCall, hT, hio, if_true, ha, hP, hf]
theorem hflC (l : List (Nat × Nat)) : (coverD l).flat = false := rfl
theorem hflc (c : Nat × Nat) : (cubeD c).flat = false := rfl
abbrev En (sc s x2 n c4 c5 x6 x7 x8 c9 c10 c11 x12 x13 x14 x15 : Option B) : Env := [sc, s, x2, n, c4, c5, x6, x7, x8, c9, c10, c11, x12, x13, x14, x15, none, none]
def twBody : Sms := match f_law.body with
  | .cons _ (.cons (.for _ _ b) _) => b
  | _ => .nil
def one8 : Sms := .cons (.ite (.nt (.e (.call 15 (.cons (.call 6 (.cons (.var 9) (.cons (.var 12) .nil))) (.cons (.call 23 (.cons (.var 9) (.cons (.var 12) .nil))) .nil))))) (.cons (.ret (.cst (.bl false))) .nil) .nil) .nil
section
variable {sc s x2 x3 x4 x5 x6 x7 x8 x9 x10 x11 x13 x14 x15 : Option B}
theorem loop8 {n : Nat} (hn : 10 ≤ n) (hm : 1000 ≤ m) {w : Nat} (hw : w ≤ 15) {c : Nat × Nat} (hc : Cu w c) : ∀ (cs : List (Nat × Nat)) (x12 : Option B), (∀ q ∈ cs, Cu w q) →
    ∃ y12, forN (turnF T (callF T m n) m (.nm 12) one8) (cs.map cubeD) (En sc s x2 x3 x4 x5 x6 x7 x8 (some (.sh (cubeD c))) x10 x11 x12 x13 x14 x15) = .val .nx (En sc s x2 x3 x4 x5 x6 x7 x8 (some (.sh (cubeD c))) x10 x11 y12 x13 x14 x15)
  | [], x12, _ => ⟨x12, rfl⟩
  | o :: cs, x12, h => by
    have ho := h o (by simp)
    have h1 := split_ok (m := m) (N := n) (by omega) hm (w := w) (by omega) c o hc.1 ho.1
    have h2 := lsplit_ok (m := m) (N := n) (by omega) hm (w := w) (by omega) c o hc.1 ho.1
    have hcu := splitC_cu (o := o) hc
    have hl := len_le 1 hcu (fun x => by rw [splitC_cnt hc ho]; split <;> omega)
    have h15 : 2 ^ w ≤ 2 ^ 15 := Nat.pow_le_pow_right (by omega) hw
    have h3 := same_cubes (m := m) T15 (N := n) (by omega) (cs := splitC w c o) (by omega)
    unfold Same at h3
    have step : turnF T (callF T m n) m (.nm 12) one8 (cubeD o) (En sc s x2 x3 x4 x5 x6 x7 x8 (some (.sh (cubeD c))) x10 x11 x12 x13 x14 x15) = .val .nx (En sc s x2 x3 x4 x5 x6 x7 x8 (some (.sh (cubeD c))) x10 x11 (some (.sh (cubeD o))) x13 x14 x15) := by
      generalize (splitC w c o).map cubeD = z at h1 h2 h3
      simp [turnF, one8, asgT, setB, es, es1, evt, ev, evs, opd, Ans.bind, opt, getB, pk, tk, B.dat, doCall, T6, f_split, T23, f__law_split, T15, F_same, callArgs, h1, h2, h3, D.flat, frzIn, truth]
    obtain ⟨y, hr⟩ := loop8 hn hm hw hc cs (some (.sh (cubeD o))) fun q hq => h q (by simp [hq])
    exact ⟨y, (forN_cons step).trans hr⟩
def one13 : Sms := .cons (.asg (.nm 14) (.bin .Add (.var 14) (.call 24 (.cons (.var 12) (.cons (.var 5) .nil))))) .nil
theorem loop13 {n : Nat} (hn : 10 ≤ n) (hm : 1000 ≤ m) {w : Nat} (hw : w ≤ 15) {other : List (Nat × Nat)} (ho : ∀ q ∈ other, Cu w q) : ∀ (cs told : List (Nat × Nat)) (x12 : Option B), (∀ q ∈ cs, Cu w q) → (told ++ coverMinus w cs other).length ≤ 1000000 →
    ∃ y12, forN (turnF T (callF T m n) m (.nm 12) one13) (cs.map cubeD) (En sc s x2 x3 x4 (some (.sh (coverD other))) x6 x7 x8 x9 x10 x11 x12 x13 (some (.sh (coverD told))) x15) = .val .nx (En sc s x2 x3 x4 (some (.sh (coverD other))) x6 x7 x8 x9 x10 x11 y12 x13 (some (.sh (coverD (told ++ coverMinus w cs other)))) x15)
  | [], told, x12, _, _ => ⟨x12, by simp [forN, coverMinus]⟩
  | c :: cs, told, x12, hc, hl => by
    have hs := lminus_ok (m := m) (N := n) (by omega) hm hw (hc c (by simp)) ho
    have e1 : coverMinus w (c :: cs) other = minusL w [c] other ++ coverMinus w cs other := by simp [coverMinus]
    rw [e1] at hl ⊢
    have hcat := addC (a := told) (b := minusL w [c] other) (by simp at hl ⊢; omega)
    have step : turnF T (callF T m n) m (.nm 12) one13 (cubeD c) (En sc s x2 x3 x4 (some (.sh (coverD other))) x6 x7 x8 x9 x10 x11 x12 x13 (some (.sh (coverD told))) x15) = .val .nx (En sc s x2 x3 x4 (some (.sh (coverD other))) x6 x7 x8 x9 x10 x11 (some (.sh (cubeD c))) x13 (some (.sh (coverD (told ++ minusL w [c] other)))) x15) := by
      simp [turnF, one13, asgT, setB, es, es1, ev, evs, opd, Ans.bind, opt, getB, pk, tk, B.dat, doCall, T24, f__law_minus, callArgs, hs, hflC, frzIn, hcat]
    obtain ⟨y, hr⟩ := loop13 hn hm hw ho cs (told ++ minusL w [c] other) (some (.sh (cubeD c))) (fun q hq => hc q (by simp [hq])) (by simpa [List.append_assoc] using hl)
    refine ⟨y, ?_⟩
    rw [List.append_assoc] at hr
    exact (forN_cons step).trans hr
def one17 : Sms := .cons (.asg (.nm 14) (.bin .Add (.var 14) (.call 24 (.cons (.ix (.var 4) (.var 15)) (.cons (.sl (.var 4) .no (.yes (.var 15))) .nil))))) .nil
theorem loop17 {n : Nat} (hn : 10 ≤ n) (hm : 1000 ≤ m) {w : Nat} (hw : w ≤ 15) {x12 : Option B} : ∀ (r pre told : List (Nat × Nat)) (x15 : Option B), (∀ q ∈ pre ++ r, Cu w q) → (told ++ apartG w pre r).length ≤ 1000000 →
    ∃ y15, forN (turnF T (callF T m n) m (.nm 15) one17) ((List.range' pre.length r.length).map natD) (En sc s x2 x3 (some (.sh (coverD (pre ++ r)))) x5 x6 x7 x8 x9 x10 x11 x12 x13 (some (.sh (coverD told))) x15) = .val .nx (En sc s x2 x3 (some (.sh (coverD (pre ++ r)))) x5 x6 x7 x8 x9 x10 x11 x12 x13 (some (.sh (coverD (told ++ apartG w pre r)))) y15)
  | [], pre, told, x15, _, _ => ⟨x15, by simp [forN, apartG]⟩
  | c :: r, pre, told, x15, hc, hl => by
    have hpre : ∀ q ∈ pre, Cu w q := fun q hq => hc q (by simp [hq])
    have hs := lminus_ok (m := m) (N := n) (by omega) hm hw (hc c (by simp)) hpre
    rw [apartG] at hl ⊢
    have hcat := addC (a := told) (b := minusL w [c] pre) (by simp at hl ⊢; omega)
    have hsl : slD (coverD (pre ++ c :: r)) none (some (pre.length : Int)) = some (false, coverD pre) := by
      simp only [slD, coverD, cut_to (show (0 : Int) ≤ (pre.length : Nat) by omega), Int.toNat_natCast]
      rw [← List.map_take, List.take_left']
      rfl
    have hkl : pre.length < (pre ++ c :: r).length := by simp
    have hik := ixC hkl
    have hk : (pre ++ c :: r)[pre.length] = c := by simp
    rw [hk] at hik
    have hend : endD (some (natD pre.length)) = some (some (pre.length : Int)) := rfl
    have hen : endD none = some none := rfl
    have e2 : pre ++ c :: r = (pre ++ [c]) ++ r := by simp
    have step : turnF T (callF T m n) m (.nm 15) one17 (natD pre.length) (En sc s x2 x3 (some (.sh (coverD (pre ++ c :: r)))) x5 x6 x7 x8 x9 x10 x11 x12 x13 (some (.sh (coverD told))) x15) = .val .nx (En sc s x2 x3 (some (.sh (coverD (pre ++ c :: r)))) x5 x6 x7 x8 x9 x10 x11 x12 x13 (some (.sh (coverD (told ++ minusL w [c] pre)))) (some (.sh (natD pre.length)))) := by
      generalize coverD (pre ++ c :: r) = all at hsl hik ⊢
      generalize (pre.length : Int) = q at hsl hend
      generalize natD pre.length = dk at hik hend ⊢
      simp [turnF, one17, asgT, setB, es, es1, ev, evs, evx, opd, Ans.bind, opt, getB, pk, tk, B.dat, hik, hend, hen, hsl, doCall, T24, f__law_minus, callArgs, hs, hflC, frzIn, hcat]
    obtain ⟨y, hr⟩ := loop17 hn hm hw (x12 := x12) r (pre ++ [c]) (told ++ minusL w [c] pre) (some (.sh (natD pre.length))) (by rw [← e2]; exact hc) (by simpa [List.append_assoc] using hl)
    refine ⟨y, ?_⟩
    have e3 : (List.range' pre.length (c :: r).length).map natD = natD pre.length :: (List.range' (pre.length + 1) r.length).map natD := by
      rw [List.length_cons, List.range'_succ, List.map_cons]
    rw [e3]
    rw [← e2, List.length_append, List.length_singleton, List.append_assoc] at hr
    exact (forN_cons step).trans hr
end
end L2.Eng.Lk01
namespace L2.Eng.Lk01
open PySem PySem.Spec PyProof.Rows L2 L2.Eng
variable {m : Nat}
section
variable {sc x2 x3 x4 x5 x6 x7 x8 x9 x10 x11 x12 x13 x14 x15 : Option B}
def wi2 : Sm := .ite (.and (.e (.cmp .Eq (.call 14 (.cons (.var 1) (.cons (.cst (.int 2)) .nil))) (.cst (.int 0)))) (.e (.cmp .Gt (.prim .len (.cons (.var 4) .nil)) (.cst (.int 0))))) (.cons (.asg (.nm 6) (.call 14 (.cons (.var 1) (.cons (.prim .len (.cons (.var 4) .nil)) .nil))))
    (.cons (.asg (.nm 7) (.bin .LShift (.cst (.int 1)) (.call 14 (.cons (.var 1) (.cons (.var 3) .nil)))))
    (.cons (.asg (.nm 8) (.tup (.cons (.bin .BitAnd (.ix (.ix (.var 4) (.var 6)) (.cst (.int 0))) (.un .Invert (.var 7))) (.cons (.bin .BitAnd (.ix (.ix (.var 4) (.var 6)) (.cst (.int 1))) (.un .Invert (.var 7))) .nil))))
    (.cons (.asg (.nm 4) (.prim .tuple (.cons (.call 16 (.cons (.var 1) (.cons (.bin .Add (.prim .list (.cons (.var 4) .nil)) (.lst (.cons (.ix (.var 4) (.var 6)) (.cons (.var 8) .nil)))) .nil))) .nil)))
    .nil)))) .nil
theorem nd_cu {w : Nat} {c : Nat × Nat} (h : Cu w c) (b : Nat) : Cu w (nd c.1 b, nd c.2 b) := by
  refine ⟨?_, Nat.eq_of_testBit_eq fun i => ?_⟩
  · show nd c.1 b < 2 ^ w
    unfold nd
    exact Nat.xor_lt_two_pow h.1 (Nat.lt_of_le_of_lt Nat.and_le_left h.1)
  · rw [Nat.testBit_and, nd_bit, nd_bit]
    have := sub_bit h.2 i
    cases h1 : c.1.testBit i <;> cases h2 : c.2.testBit i <;> simp [h1, h2] at this ⊢
theorem cubes_perm {ds : List D} {cs : List (Nat × Nat)} (h : ds.Perm (cs.map cubeD)) : ∃ cs' : List (Nat × Nat), ds = cs'.map cubeD ∧ ∀ c ∈ cs', c ∈ cs := by
  have hm : ∀ d ∈ ds, ∃ c ∈ cs, d = cubeD c := fun d hd => by
    have := h.mem_iff.mp hd
    rw [List.mem_map] at this
    obtain ⟨c, h1, e⟩ := this
    exact ⟨c, h1, e.symm⟩
  clear h
  induction ds with
  | nil => exact ⟨[], rfl, by simp⟩
  | cons d ds ih =>
    obtain ⟨c, hc, rfl⟩ := hm d (by simp)
    obtain ⟨cs', rfl, h2⟩ := ih fun d hd => hm d (by simp [hd])
    exact ⟨c :: cs', rfl, fun x hx => by
      rcases List.mem_cons.mp hx with rfl | hx
      · exact hc
      · exact h2 x hx⟩
theorem widen {n : Nat} (hn : 10 ≤ n) {s : D} (hs : Dr s) {w : Nat} (hw1 : 1 ≤ w) (hw : w ≤ 15) {cs : List (Nat × Nat)} (hc : ∀ q ∈ cs, Cu w q) (hl : cs.length ≤ 100) :
    ∃ (s' : D) (cs' : List (Nat × Nat)) (y6 y7 y8 : Option B), es1 T (callF T m n) m wi2 (En sc (some (.ow s)) x2 (some (.sh (natD w))) (some (.sh (coverD cs))) x5 x6 x7 x8 x9 x10 x11 x12 x13 x14 x15) = .val .nx (En sc (some (.ow s')) x2 (some (.sh (natD w))) (some (.sh (coverD cs'))) x5 y6 y7 y8 x9 x10 x11 x12 x13 x14 x15) ∧ Dr s' ∧ (∀ q ∈ cs', Cu w q) ∧ cs'.length ≤ cs.length + 2 := by
  obtain ⟨v, s1, c1, d1, v0, v1⟩ := draw_ok (m := m) T14 (N := n) (by omega) hs (limit := 2) (by omega) (by omega)
  have hlen := lenC cs
  have hgt := gt0 cs.length
  by_cases hv : v = 0
  · subst hv
    have h00 : cmpD .Eq (.int 0) (.int 0) = some true := by simp [cmpD, D.ok, D.eq]
    by_cases hp : 0 < cs.length
    · rw [decide_eq_true hp] at hgt
      obtain ⟨a, s2, c2, d2, a0, a1⟩ := draw_ok (m := m) T14 (N := n) (by omega) d1 (limit := (cs.length : Int)) (by omega) (by omega)
      obtain ⟨b, s3, c3, d3, b0, b1⟩ := draw_ok (m := m) T14 (N := n) (by omega) d2 (limit := (w : Int)) (by omega) (by omega)
      obtain ⟨k, rfl⟩ : ∃ k : Nat, a = (k : Int) := ⟨a.toNat, by omega⟩
      obtain ⟨j, rfl⟩ : ∃ j : Nat, b = (j : Int) := ⟨b.toNat, by omega⟩
      have hk : k < cs.length := by omega
      have hix := ixC hk
      have hcm := hc _ (List.getElem_mem hk)
      have hmem := List.getElem_mem hk
      generalize cs[k] = c at hix hcm hmem
      have hsl := shlN (j := j) (by omega)
      have hinv := inv (2 ^ j)
      have hb1 := bnd c.1 (2 ^ j)
      have hb2 := bnd c.2 (2 ^ j)
      have hcat : binD .Add (.lst (cs.map cubeD)) (.lst [cubeD c, cubeD (nd c.1 (2 ^ j), nd c.2 (2 ^ j))]) = some (true, .lst ((cs ++ [c, (nd c.1 (2 ^ j), nd c.2 (2 ^ j))]).map cubeD)) := by
        simp only [binD]
        rw [if_pos (by simp [maxLen]; omega)]
        simp
      obtain ⟨told, s4, c4, d4, hperm⟩ := mixed_ok (m := m) T16 T14 (N := n) (by omega) d3 ((cs ++ [c, (nd c.1 (2 ^ j), nd c.2 (2 ^ j))]).map cubeD) (by simp; omega)
      obtain ⟨cs', rfl, hcs'⟩ := cubes_perm hperm
      have hle := hperm.length_eq
      have hless : (.tup [.int ((nd c.1 (2 ^ j) : Nat) : Int), .int ((nd c.2 (2 ^ j) : Nat) : Int)] : D) = cubeD (nd c.1 (2 ^ j), nd c.2 (2 ^ j)) := rfl
      refine ⟨s4, cs', some (.sh (natD k)), some (.sh (natD (2 ^ j))), some (.sh (cubeD (nd c.1 (2 ^ j), nd c.2 (2 ^ j)))), ?_, d4, fun q hq => ?_, ?_⟩
      · have hlist : primD .list [coverD cs] = some (true, .lst (cs.map cubeD)) := rfl
        have htup : primD .tuple [.lst (cs'.map cubeD)] = some (false, coverD cs') := rfl
        have c2 : callF T m n 14 [.io s1, .sh (.int (cs.length : Nat))] = .ret false (natD k) [.io s2, .sh (.int (cs.length : Nat))] := c2
        have c3 : callF T m n 14 [.io s2, .sh (natD w)] = .ret false (natD j) [.io s3, .sh (natD w)] := c3
        have hsl : binD .LShift (.int 1) (natD j) = some (false, natD (2 ^ j)) := hsl
        have hinv : unD .Invert (natD (2 ^ j)) = some (.int (Builtin.bitNot ((2 ^ j : Nat) : Int))) := hinv
        generalize (.lst ((cs ++ [c, (nd c.1 (2 ^ j), nd c.2 (2 ^ j))]).map cubeD) : D) = all at hcat c4
        generalize cubeD (nd c.1 (2 ^ j), nd c.2 (2 ^ j)) = less at hless hcat ⊢
        generalize nd c.1 (2 ^ j) = n1 at hb1 hless
        generalize nd c.2 (2 ^ j) = n2 at hb2 hless
        generalize natD (2 ^ j) = bit at hsl hinv ⊢
        generalize Builtin.bitNot ((2 ^ j : Nat) : Int) = nb at hinv hb1 hb2
        generalize natD j = dj at c3 hsl
        generalize (.lst (cs.map cubeD) : D) = lcs at hlist hcat
        generalize coverD cs = ccs at hlist hlen hix ⊢
        generalize natD k = dk at c2 hix ⊢
        generalize (.lst (cs'.map cubeD) : D) = l2 at htup c4
        generalize coverD cs' = ccs' at htup ⊢
        generalize (cs.length : Int) = cl at hlen hgt c2
        simp [wi2, es, es1, evt, ev, evs, opd, Ans.bind, opt, getB, setB, pk, pks, tk, tks, B.dat, doCall, T14, F_draw, c1, h00, truth, hlen, hgt, c2, c3, hsl, hix, cu0, cu1, hinv, hb1, hb2, fitL, maxLen, hless, hlist, hcat, T16, F_mixed, c4, htup, callArgs, backIn, frzIn, slotsOf, okSlots, asgT]
      · have := hcs' q hq
        rcases List.mem_append.mp this with h | h
        · exact hc q h
        · simp at h
          rcases h with rfl | rfl
          · exact hcm
          · exact nd_cu hcm _
      · simp at hle; omega
    · have hgt0 : cmpD .Gt (.int (cs.length : Nat)) (.int 0) = some false := by rw [hgt, decide_eq_false hp]
      refine ⟨s1, cs, x6, x7, x8, ?_, d1, hc, by omega⟩
      generalize (cs.length : Int) = cl at hlen hgt0
      generalize coverD cs = ccs at hlen ⊢
      simp [wi2, es, es1, evt, ev, evs, opd, Ans.bind, opt, getB, setB, pk, pks, tk, tks, B.dat, doCall, T14, F_draw, c1, h00, truth, hlen, hgt0, callArgs, backIn, frzIn, slotsOf, okSlots]
  · have h00 : cmpD .Eq (.int v) (.int 0) = some false := by simp [cmpD, D.ok, D.eq, hv]
    refine ⟨s1, cs, x6, x7, x8, ?_, d1, hc, by omega⟩
    simp [wi2, es, es1, evt, ev, evs, opd, Ans.bind, opt, getB, setB, pk, pks, tk, tks, B.dat, doCall, T14, F_draw, c1, h00, truth, callArgs, backIn, frzIn, slotsOf, okSlots]
end
end L2.Eng.Lk01
namespace L2.Eng.Lk01
open PySem PySem.Spec PyProof.Rows L2 L2.Eng
variable {m : Nat}
/-! what the law says of the numbers -/
theorem st_mem {w x : Nat} {cs : List (Nat × Nat)} (hx : x < 2 ^ w) : (statesL w cs).contains x = cs.any (hasB x) := by
  rw [Bool.eq_iff_iff, List.contains_iff_mem]
  unfold statesL
  rw [List.mem_filter, List.mem_range]
  exact ⟨fun h => h.2, fun h => ⟨hx, h⟩⟩
def left11 (w : Nat) (c : Nat × Nat) (cs : List (Nat × Nat)) : List Nat := (statesL w [c]).filter fun x => !(statesL w cs).contains x
theorem law11 {w : Nat} {c : Nat × Nat} (hc : Cu w c) {cs : List (Nat × Nat)} (hcs : ∀ q ∈ cs, Cu w q) (x : Nat) (hx : x < 2 ^ w) : cnt x (minusL w [c] cs) = if (left11 w c cs).contains x then 1 else 0 := by
  rw [minus1_cnt x hc hcs]
  have : (left11 w c cs).contains x = (hasB x c && !cs.any (hasB x)) := by
    rw [Bool.eq_iff_iff, List.contains_iff_mem]
    unfold left11
    rw [List.mem_filter, st_mem hx, ← List.contains_iff_mem, st_mem hx]
    simp
  rw [this]
  cases cs.any (hasB x) <;> cases hasB x c <;> rfl
theorem law15 {w : Nat} {cs other : List (Nat × Nat)} (hc : ∀ q ∈ cs, Cu w q) (ho : ∀ q ∈ other, Cu w q) : (statesL w cs).filter (fun x => !(statesL w other).contains x) = statesL w (coverMinus w cs other) := by
  unfold statesL
  rw [List.filter_filter]
  refine List.filter_congr fun x hx => ?_
  have hx := List.mem_range.mp hx
  rw [show (List.filter (fun x => other.any (hasB x)) (List.range (2 ^ w))).contains x = other.any (hasB x) from st_mem hx]
  rw [any_cnt x (coverMinus w cs other), cm_cnt x hc ho, any_cnt x cs]
  cases other.any (hasB x) <;> simp
theorem law18 {w : Nat} {cs : List (Nat × Nat)} (hc : ∀ q ∈ cs, Cu w q) (x : Nat) (hx : x < 2 ^ w) : cnt x (apartG w [] cs) = if (statesL w cs).contains x then 1 else 0 := by
  rw [apartG_cnt x cs [] (by simp) hc, st_mem hx]
  simp
theorem ap_cnt {w : Nat} {cs : List (Nat × Nat)} (hc : ∀ q ∈ cs, Cu w q) (x : Nat) : cnt x (apartG w [] cs) = if cs.any (hasB x) then 1 else 0 := by
  rw [apartG_cnt x cs [] (by simp) hc]
  simp
theorem ap_len {w : Nat} {cs : List (Nat × Nat)} (hc : ∀ q ∈ cs, Cu w q) : (apartG w [] cs).length ≤ 2 ^ w := by
  have := len_le 1 (apartG_cu (n := w) cs [] hc) (fun x => by rw [ap_cnt hc]; split <;> omega)
  omega
theorem mi_len {w : Nat} {c : Nat × Nat} (hc : Cu w c) {cs : List (Nat × Nat)} (hcs : ∀ q ∈ cs, Cu w q) : (minusL w [c] cs).length ≤ 2 ^ w := by
  have := len_le 1 (minus_cu (n := w) (cover := cs) (ps := [c]) (by simpa using hc)) (fun x => by rw [minus1_cnt x hc hcs]; split <;> (try split) <;> omega)
  omega
theorem cm_len {w : Nat} {cs other : List (Nat × Nat)} (hc : ∀ q ∈ cs, Cu w q) (ho : ∀ q ∈ other, Cu w q) : (coverMinus w cs other).length ≤ cs.length * 2 ^ w :=
  len_le cs.length (cm_cu hc) (fun x => by
    rw [cm_cnt x hc ho]
    have : cnt x cs ≤ cs.length := List.countP_le_length
    split <;> omega)
theorem law21 {w : Nat} {cs : List (Nat × Nat)} (hc : ∀ q ∈ cs, Cu w q) : countN w cs = (statesL w cs).length := count_states (apartG_cu (n := w) cs [] hc) (fun x => ap_cnt hc x)
theorem all_cu {w : Nat} {cs : List (Nat × Nat)} (hc : ∀ q ∈ cs, Cu w q) : ∀ q ∈ minusL w [(0, 0)] cs ++ cs, Cu w q := fun q hq => by
  rcases List.mem_append.mp hq with h | h
  · exact minus_cu (n := w) (cover := cs) (ps := [(0, 0)]) (by simpa using zero_cu w) q h
  · exact hc q h
theorem law21b {w : Nat} {cs : List (Nat × Nat)} (hc : ∀ q ∈ cs, Cu w q) : countN w (minusL w [(0, 0)] cs ++ cs) = 2 ^ w := by
  rw [law21 (all_cu hc)]
  unfold statesL
  rw [List.filter_eq_self.mpr, List.length_range]
  intro x _
  rw [List.any_append, any_cnt x (minusL w [(0, 0)] cs), minus1_cnt x (zero_cu w) hc]
  have : hasB x (0, 0) = true := by simp [hasB]
  rw [this]
  cases cs.any (hasB x) <;> simp
theorem nat_eqs : ∀ L : List Nat, D.eqs (L.map natD) (L.map natD) = true
  | [] => rfl
  | k :: L => by simp [D.eqs, D.eq, natD]; exact nat_eqs L
theorem cneL (L : List Nat) : cmpD .NotEq (.lst (L.map natD)) (.lst (L.map natD)) = some false := by
  have h : (D.lst (L.map natD)).ok deepest = true := oks_nat L 59
  simp only [cmpD, h, D.eq, nat_eqs, Bool.and_self, if_true, Bool.not_true]
/-- in a comprehension: those that are not among the others -/
theorem notin_comp {P : Nat → List B → CA} {it : It} {i : Nat} {e e1 : Env} {L O : List Nat} {b : B} (hl : e1.length = 18) (hit : evi T P it e = .val (L.map natD) e1) (h16 : getB e1 16 = none) (h17 : getB e1 17 = none) (hi : i < 16) (hb : getB e1 i = some b) (hbd : b.dat = .lst (O.map natD)) (hL : L.length ≤ 1000000) :
    ev T P (.comp (.var 17) (.nm 17) it (.e (.cmp .NotIn (.var 17) (.var i))) [16, 17]) e = .val (true, .lst ((L.filter fun x => !O.contains x).map natD)) e1 := by
  have h := ev_comp_enc (T := T) (P := P) (x := .var 17) (t := .nm 17) (it := it) (c := .e (.cmp .NotIn (.var 17) (.var i))) (own := [16, 17]) (e := e) (e1 := e1) (cs := L) natD (fun x => if (!O.contains x) then some (natD x) else none) hit (by simp [stillB, h16, h17]) (fun x hx => by
    have hc := cnin x O
    have g17 : ∀ v : Option B, getB (setB (wipeB [16, 17] e1) 17 v) 17 = v := fun v => getB_setB_same (by rw [wipeB_length, hl]; omega)
    have gi : ∀ v : Option B, getB (setB (wipeB [16, 17] e1) 17 v) i = some b := fun v => by
      rw [getB_setB_ne (by omega), getB_wipe]
      rw [if_neg (by simp; omega)]
      exact hb
    have hback : ∀ v : Option B, backB e1 [16, 17] (setB (wipeB [16, 17] e1) 17 v) = e1 := fun v => by
      have hle : e1.length = (setB (wipeB [16, 17] e1) 17 v).length := by rw [setB_length, wipeB_length]
      have : ∀ a b : Env, a.length = b.length → (∀ j, getB a j = getB b j) → a = b := by
        intro a
        induction a with
        | nil => intro b h _; cases b with | nil => rfl | cons _ _ => simp at h
        | cons x a ih =>
          intro b h g
          cases b with
          | nil => simp at h
          | cons y b =>
            have := g 0
            simp only [getB] at this
            rw [this, ih b (by simpa using h) fun j => by have := g (j + 1); simpa [getB] using this]
      refine this _ _ (by rw [backB_length, ← hle]) fun j => ?_
      rw [getB_back e1 _ _ j hle]
      split
      · rfl
      · rename_i hj
        simp at hj
        rw [getB_setB_ne (by omega), getB_wipe, if_neg (by simp; omega)]
    generalize (!O.contains x) = q at hc
    cases q <;> simp [turnC, asgT, evt, ev, opd, g17, gi, pk, B.dat, hbd] <;> simp only [B.dat] at hbd <;> simp [Ans.bind, opt, hbd, hc, truth, hback, g17, gi, tk, pk, B.dat]) (by rw [fm_filter, List.length_map]; have := List.length_filter_le (fun x => !O.contains x) L; simp only [maxLen]; omega)
  rw [fm_filter] at h
  exact h
end L2.Eng.Lk01
namespace L2.Eng.Lk01
open PySem PySem.Spec PyProof.Rows L2 L2.Eng
variable {m : Nat}
theorem isbl {n i : Nat} {X : D} (h : Same T m 15 n X) : callF T m n 15 [.sh X, .sh X] = .ret false (.bl true) [.sh X, .sh X] := h
section
variable {sc x2 x3 x4 x5 x6 x7 x8 x9 x10 x11 x12 x13 x14 x15 : Option B}
theorem turn_ok {n : Nat} (hn : 20 ≤ n) (hm : 1000 ≤ m) {s : D} (hs : Dr s) :
    ∃ (s' : D) (y3 y4 y5 y6 y7 y8 y9 y10 y11 y12 y13 y14 y15 : Option B), es T (callF T m n) m twBody (En sc (some (.ow s)) x2 x3 x4 x5 x6 x7 x8 x9 x10 x11 x12 x13 x14 x15) = .val .nx (En sc (some (.ow s')) x2 y3 y4 y5 y6 y7 y8 y9 y10 y11 y12 y13 y14 y15) ∧ Dr s' := by
  obtain ⟨v1, s1, c1, d1, v10, v11⟩ := draw_ok (m := m) T14 (N := n) (by omega) hs (limit := 6) (by omega) (by omega)
  obtain ⟨w, hw⟩ : ∃ w : Nat, 1 + v1 = (w : Int) := ⟨(1 + v1).toNat, by omega⟩
  have hw1 : 1 ≤ w := by omega
  have hw2 : w ≤ 6 := by omega
  have h64 : 2 ^ w ≤ 2 ^ 6 := Nat.pow_le_pow_right (by omega) hw2
  have hadd : binD .Add (.int 1) (.int v1) = some (false, natD w) := by simp only [binD, hw, natD]
  obtain ⟨cs0, s2, c2, d2, hcs0, hl0⟩ := cover_ok (m := m) T20 T19 T14 (N := n) (by omega) d1 (w := w) (most := 6) hw1 (by omega) (by omega)
  obtain ⟨other, s3, c3, d3, hot, hlo⟩ := cover_ok (m := m) T20 T19 T14 (N := n) (by omega) d2 (w := w) (most := 5) hw1 (by omega) (by omega)
  have c2 : callF T m n 20 [.io s1, .sh (natD w), .sh (.int 6)] = .ret false (coverD cs0) [.io s2, .sh (natD w), .sh (.int 6)] := c2
  have c3 : callF T m n 20 [.io s2, .sh (natD w), .sh (.int 5)] = .ret false (coverD other) [.io s3, .sh (natD w), .sh (.int 5)] := c3
  have st1 : es1 T (callF T m n) m (.asg (.nm 3) (.bin .Add (.cst (.int 1)) (.call 14 (.cons (.var 1) (.cons (.cst (.int 6)) .nil))))) (En sc (some (.ow s)) x2 x3 x4 x5 x6 x7 x8 x9 x10 x11 x12 x13 x14 x15) = .val .nx (En sc (some (.ow s1)) x2 (some (.sh (natD w))) x4 x5 x6 x7 x8 x9 x10 x11 x12 x13 x14 x15) := by
    simp [es1, ev, evs, opd, Ans.bind, opt, getB, setB, pk, tk, pks, tks, B.dat, doCall, T14, F_draw, c1, callArgs, backIn, frzIn, slotsOf, okSlots, asgT, hadd]
  have st2 : es1 T (callF T m n) m (.asg (.nm 4) (.call 20 (.cons (.var 1) (.cons (.var 3) (.cons (.cst (.int 6)) .nil))))) (En sc (some (.ow s1)) x2 (some (.sh (natD w))) x4 x5 x6 x7 x8 x9 x10 x11 x12 x13 x14 x15) = .val .nx (En sc (some (.ow s2)) x2 (some (.sh (natD w))) (some (.sh (coverD cs0))) x5 x6 x7 x8 x9 x10 x11 x12 x13 x14 x15) := by
    simp [es1, ev, evs, opd, Ans.bind, opt, getB, setB, pk, tk, pks, tks, B.dat, doCall, T20, F_cover, c2, callArgs, backIn, frzIn, slotsOf, okSlots, asgT]
  have st3 : es1 T (callF T m n) m (.asg (.nm 5) (.call 20 (.cons (.var 1) (.cons (.var 3) (.cons (.cst (.int 5)) .nil))))) (En sc (some (.ow s2)) x2 (some (.sh (natD w))) (some (.sh (coverD cs0))) x5 x6 x7 x8 x9 x10 x11 x12 x13 x14 x15) = .val .nx (En sc (some (.ow s3)) x2 (some (.sh (natD w))) (some (.sh (coverD cs0))) (some (.sh (coverD other))) x6 x7 x8 x9 x10 x11 x12 x13 x14 x15) := by
    simp [es1, ev, evs, opd, Ans.bind, opt, getB, setB, pk, tk, pks, tks, B.dat, doCall, T20, F_cover, c3, callArgs, backIn, frzIn, slotsOf, okSlots, asgT]
  obtain ⟨s4, cs, y6, y7, y8, st4, d4, hcs, hl⟩ := widen (m := m) (n := n) (by omega) d3 hw1 (by omega) hcs0 (by omega) (sc := sc) (x2 := x2) (x5 := some (.sh (coverD other))) (x6 := x6) (x7 := x7) (x8 := x8) (x9 := x9) (x10 := x10) (x11 := x11) (x12 := x12) (x13 := x13) (x14 := x14) (x15 := x15)
  obtain ⟨c, s5, c5, d5, hc⟩ := cube_ok (m := m) T19 T14 (N := n) (by omega) d4 hw1 (by omega)
  have c5 : callF T m n 19 [.io s4, .sh (natD w)] = .ret false (cubeD c) [.io s5, .sh (natD w)] := c5
  have st5 : es1 T (callF T m n) m (.asg (.nm 9) (.call 19 (.cons (.var 1) (.cons (.var 3) .nil)))) (En sc (some (.ow s4)) x2 (some (.sh (natD w))) (some (.sh (coverD cs))) (some (.sh (coverD other))) y6 y7 y8 x9 x10 x11 x12 x13 x14 x15) = .val .nx (En sc (some (.ow s5)) x2 (some (.sh (natD w))) (some (.sh (coverD cs))) (some (.sh (coverD other))) y6 y7 y8 (some (.sh (cubeD c))) x10 x11 x12 x13 x14 x15) := by
    simp [es1, ev, evs, opd, Ans.bind, opt, getB, setB, pk, tk, pks, tks, B.dat, doCall, T19, F_cube, c5, callArgs, backIn, frzIn, slotsOf, okSlots, asgT]
  have q6 := states_ok (m := m) (N := n) T21 T18 T17 (by omega) cs (by omega) (w := w) (by omega)
  have q7 := states_ok (m := m) (N := n) T21 T18 T17 (by omega) other (by omega) (w := w) (by omega)
  have slen : ∀ l, (statesL w l).length ≤ 2 ^ w := fun l => by unfold statesL; exact Nat.le_trans (List.length_filter_le ..) (by simp)
  have st6 : es1 T (callF T m n) m (.asg (.nm 10) (.call 21 (.cons (.var 4) (.cons (.var 3) .nil)))) (En sc (some (.ow s5)) x2 (some (.sh (natD w))) (some (.sh (coverD cs))) (some (.sh (coverD other))) y6 y7 y8 (some (.sh (cubeD c))) x10 x11 x12 x13 x14 x15) = .val .nx (En sc (some (.ow s5)) x2 (some (.sh (natD w))) (some (.sh (coverD cs))) (some (.sh (coverD other))) y6 y7 y8 (some (.sh (cubeD c))) (some (.ow (.lst ((statesL w cs).map natD)))) x11 x12 x13 x14 x15) := by
    generalize (statesL w cs).map natD = z at q6 ⊢
    simp [es1, ev, evs, opd, Ans.bind, opt, getB, setB, pk, tk, B.dat, doCall, T21, F_states, q6, callArgs, D.flat, frzIn, asgT]
  have st7 : es1 T (callF T m n) m (.asg (.nm 11) (.call 21 (.cons (.var 5) (.cons (.var 3) .nil)))) (En sc (some (.ow s5)) x2 (some (.sh (natD w))) (some (.sh (coverD cs))) (some (.sh (coverD other))) y6 y7 y8 (some (.sh (cubeD c))) (some (.ow (.lst ((statesL w cs).map natD)))) x11 x12 x13 x14 x15) = .val .nx (En sc (some (.ow s5)) x2 (some (.sh (natD w))) (some (.sh (coverD cs))) (some (.sh (coverD other))) y6 y7 y8 (some (.sh (cubeD c))) (some (.ow (.lst ((statesL w cs).map natD)))) (some (.ow (.lst ((statesL w other).map natD)))) x12 x13 x14 x15) := by
    generalize (statesL w other).map natD = z at q7 ⊢
    generalize (statesL w cs).map natD = z2
    simp [es1, ev, evs, opd, Ans.bind, opt, getB, setB, pk, tk, B.dat, doCall, T21, F_states, q7, callArgs, D.flat, frzIn, asgT]
  -- cube by cube
  have hsl3 : slD (coverD cs) none (some 3) = some (false, coverD (cs.take 3)) := by
    simp only [slD, coverD, cut_to (show (0 : Int) ≤ 3 by omega), List.map_take]
    rfl
  obtain ⟨y12, f8⟩ := loop8 (m := m) (n := n) (by omega) hm (w := w) (by omega) hc (cs.take 3) x12 (fun q hq => hcs q (List.mem_of_mem_take hq)) (sc := sc) (s := some (.ow s5)) (x2 := x2) (x3 := some (.sh (natD w))) (x4 := some (.sh (coverD cs))) (x5 := some (.sh (coverD other))) (x6 := y6) (x7 := y7) (x8 := y8) (x10 := some (.ow (.lst ((statesL w cs).map natD)))) (x11 := some (.ow (.lst ((statesL w other).map natD)))) (x13 := x13) (x14 := x14) (x15 := x15)
  have i8 : evi T (callF T m n) (.seq (.sl (.var 4) .no (.yes (.cst (.int 3))))) (En sc (some (.ow s5)) x2 (some (.sh (natD w))) (some (.sh (coverD cs))) (some (.sh (coverD other))) y6 y7 y8 (some (.sh (cubeD c))) (some (.ow (.lst ((statesL w cs).map natD)))) (some (.ow (.lst ((statesL w other).map natD)))) x12 x13 x14 x15) = .val ((cs.take 3).map cubeD) (En sc (some (.ow s5)) x2 (some (.sh (natD w))) (some (.sh (coverD cs))) (some (.sh (coverD other))) y6 y7 y8 (some (.sh (cubeD c))) (some (.ow (.lst ((statesL w cs).map natD)))) (some (.ow (.lst ((statesL w other).map natD)))) x12 x13 x14 x15) := by
    generalize cs.take 3 = z at hsl3 ⊢
    simp [evi, ev, evx, opd, Ans.bind, opt, getB, pk, B.dat, endD, hsl3, items_c]
  have st8 := es1_for i8 f8
  -- what is left of the cube
  have q9 := minus_ok (m := m) (N := n) (by omega) hm (w := w) (by omega) hc hcs
  have q9' := lminus_ok (m := m) (N := n) (by omega) hm (w := w) (by omega) hc hcs
  have l9 := mi_len hc hcs
  have st9 : es1 T (callF T m n) m (.asg (.nm 13) (.call 7 (.cons (.var 9) (.cons (.var 4) .nil)))) (En sc (some (.ow s5)) x2 (some (.sh (natD w))) (some (.sh (coverD cs))) (some (.sh (coverD other))) y6 y7 y8 (some (.sh (cubeD c))) (some (.ow (.lst ((statesL w cs).map natD)))) (some (.ow (.lst ((statesL w other).map natD)))) y12 x13 x14 x15) = .val .nx (En sc (some (.ow s5)) x2 (some (.sh (natD w))) (some (.sh (coverD cs))) (some (.sh (coverD other))) y6 y7 y8 (some (.sh (cubeD c))) (some (.ow (.lst ((statesL w cs).map natD)))) (some (.ow (.lst ((statesL w other).map natD)))) y12 (some (.sh (coverD (minusL w [c] cs)))) x14 x15) := by
    simp [es1, ev, evs, opd, Ans.bind, opt, getB, setB, pk, tk, B.dat, doCall, T7, f_minus, q9, callArgs, hflC, frzIn, asgT]
  have a10 := isbl (i := 0) (same_cover (m := m) T15 (N := n) (by omega) (cs := minusL w [c] cs) (by omega))
  have st10 : es1 T (callF T m n) m (.ite (.nt (.e (.call 15 (.cons (.var 13) (.cons (.call 24 (.cons (.var 9) (.cons (.var 4) .nil))) .nil))))) (.cons (.ret (.cst (.bl false))) .nil) .nil) (En sc (some (.ow s5)) x2 (some (.sh (natD w))) (some (.sh (coverD cs))) (some (.sh (coverD other))) y6 y7 y8 (some (.sh (cubeD c))) (some (.ow (.lst ((statesL w cs).map natD)))) (some (.ow (.lst ((statesL w other).map natD)))) y12 (some (.sh (coverD (minusL w [c] cs)))) x14 x15) = .val .nx (En sc (some (.ow s5)) x2 (some (.sh (natD w))) (some (.sh (coverD cs))) (some (.sh (coverD other))) y6 y7 y8 (some (.sh (cubeD c))) (some (.ow (.lst ((statesL w cs).map natD)))) (some (.ow (.lst ((statesL w other).map natD)))) y12 (some (.sh (coverD (minusL w [c] cs)))) x14 x15) := by
    simp [es, es1, evt, ev, evs, opd, Ans.bind, opt, getB, setB, pk, tk, B.dat, doCall, T24, f__law_minus, q9', T15, F_same, a10, callArgs, hflC, D.flat, frzIn, truth]
  -- each state of it once
  have l11 : (left11 w c cs).length ≤ 1000 := Nat.le_trans (List.length_filter_le ..) (by have := slen [c]; omega)
  have q11 := states_ok (m := m) (N := n) T21 T18 T17 (by omega) [c] (by simp) (w := w) (by omega)
  have i11 : evi T (callF T m n) (.seq (.call 21 (.cons (.tup (.cons (.var 9) .nil)) (.cons (.var 3) .nil)))) (En sc (some (.ow s5)) x2 (some (.sh (natD w))) (some (.sh (coverD cs))) (some (.sh (coverD other))) y6 y7 y8 (some (.sh (cubeD c))) (some (.ow (.lst ((statesL w cs).map natD)))) (some (.ow (.lst ((statesL w other).map natD)))) y12 (some (.sh (coverD (minusL w [c] cs)))) x14 x15) = .val ((statesL w [c]).map natD) (En sc (some (.ow s5)) x2 (some (.sh (natD w))) (some (.sh (coverD cs))) (some (.sh (coverD other))) y6 y7 y8 (some (.sh (cubeD c))) (some (.ow (.lst ((statesL w cs).map natD)))) (some (.ow (.lst ((statesL w other).map natD)))) y12 (some (.sh (coverD (minusL w [c] cs)))) x14 x15) := by
    have hz : (.tup [cubeD c] : D) = coverD [c] := rfl
    generalize (statesL w [c]).map natD = z at q11 ⊢
    generalize (statesL w cs).map natD = z2
    generalize (statesL w other).map natD = z3
    simp [evi, ev, evs, opd, Ans.bind, opt, getB, setB, pk, tk, tks, B.dat, fitL, maxLen, hz, doCall, T21, F_states, q11, callArgs, D.flat, frzIn, itemsD]
  have e11 := notin_comp (i := 10) (O := statesL w cs) (b := .ow (.lst ((statesL w cs).map natD))) rfl i11 rfl rfl (by omega) rfl rfl (by have := slen [c]; omega)
  have o11 := once_ok (m := m) (N := n) (by omega) (w := w) (by omega) (L := minusL w [c] cs) (by omega) (S := left11 w c cs) (fun x hx => law11 hc hcs x hx)
  have v11' : ev T (callF T m n) (.call 27 (.cons (.var 13) (.cons (.comp (.var 17) (.nm 17) (.seq (.call 21 (.cons (.tup (.cons (.var 9) .nil)) (.cons (.var 3) .nil)))) (.e (.cmp .NotIn (.var 17) (.var 10))) [16, 17]) (.cons (.var 3) .nil)))) (En sc (some (.ow s5)) x2 (some (.sh (natD w))) (some (.sh (coverD cs))) (some (.sh (coverD other))) y6 y7 y8 (some (.sh (cubeD c))) (some (.ow (.lst ((statesL w cs).map natD)))) (some (.ow (.lst ((statesL w other).map natD)))) y12 (some (.sh (coverD (minusL w [c] cs)))) x14 x15) = .val (false, .bl true) (En sc (some (.ow s5)) x2 (some (.sh (natD w))) (some (.sh (coverD cs))) (some (.sh (coverD other))) y6 y7 y8 (some (.sh (cubeD c))) (some (.ow (.lst ((statesL w cs).map natD)))) (some (.ow (.lst ((statesL w other).map natD)))) y12 (some (.sh (coverD (minusL w [c] cs)))) x14 x15) :=
    ev_call (evs_cons (o := .sl 13) rfl (evs_cons (opd_ev (by intro _ z; cases z) e11) (evs_cons (o := .sl 3) rfl rfl))) T27 rfl rfl o11 rfl
  have st11 : es1 T (callF T m n) m (.ite (.nt (.e (.call 27 (.cons (.var 13) (.cons (.comp (.var 17) (.nm 17) (.seq (.call 21 (.cons (.tup (.cons (.var 9) .nil)) (.cons (.var 3) .nil)))) (.e (.cmp .NotIn (.var 17) (.var 10))) [16, 17]) (.cons (.var 3) .nil)))))) (.cons (.ret (.cst (.bl false))) .nil) .nil) (En sc (some (.ow s5)) x2 (some (.sh (natD w))) (some (.sh (coverD cs))) (some (.sh (coverD other))) y6 y7 y8 (some (.sh (cubeD c))) (some (.ow (.lst ((statesL w cs).map natD)))) (some (.ow (.lst ((statesL w other).map natD)))) y12 (some (.sh (coverD (minusL w [c] cs)))) x14 x15) = .val .nx (En sc (some (.ow s5)) x2 (some (.sh (natD w))) (some (.sh (coverD cs))) (some (.sh (coverD other))) y6 y7 y8 (some (.sh (cubeD c))) (some (.ow (.lst ((statesL w cs).map natD)))) (some (.ow (.lst ((statesL w other).map natD)))) y12 (some (.sh (coverD (minusL w [c] cs)))) x14 x15) :=
    es1_itF (e1 := (En sc (some (.ow s5)) x2 (some (.sh (natD w))) (some (.sh (coverD cs))) (some (.sh (coverD other))) y6 y7 y8 (some (.sh (cubeD c))) (some (.ow (.lst ((statesL w cs).map natD)))) (some (.ow (.lst ((statesL w other).map natD)))) y12 (some (.sh (coverD (minusL w [c] cs)))) x14 x15)) (by simp only [evt, opd_ev (by intro _ z; cases z) v11', Ans.bind, pk, truth, opt, Bool.not_true]) rfl
  -- the cover cut
  have st12 : es1 T (callF T m n) m (.asg (.nm 14) (.tup .nil)) (En sc (some (.ow s5)) x2 (some (.sh (natD w))) (some (.sh (coverD cs))) (some (.sh (coverD other))) y6 y7 y8 (some (.sh (cubeD c))) (some (.ow (.lst ((statesL w cs).map natD)))) (some (.ow (.lst ((statesL w other).map natD)))) y12 (some (.sh (coverD (minusL w [c] cs)))) x14 x15) = .val .nx (En sc (some (.ow s5)) x2 (some (.sh (natD w))) (some (.sh (coverD cs))) (some (.sh (coverD other))) y6 y7 y8 (some (.sh (cubeD c))) (some (.ow (.lst ((statesL w cs).map natD)))) (some (.ow (.lst ((statesL w other).map natD)))) y12 (some (.sh (coverD (minusL w [c] cs)))) (some (.sh (coverD []))) x15) := by
    simp [es1, ev, evs, Ans.bind, tks, fitL, maxLen, asgT, setB, coverD]
  have l13 := cm_len hcs hot
  have l13' : (coverMinus w cs other).length ≤ 8 * 64 := Nat.le_trans l13 (Nat.mul_le_mul (by omega) (by omega))
  obtain ⟨z12, f13⟩ := loop13 (m := m) (n := n) (by omega) hm (w := w) (by omega) hot cs [] y12 hcs (by simp; omega) (sc := sc) (s := some (.ow s5)) (x2 := x2) (x3 := some (.sh (natD w))) (x4 := some (.sh (coverD cs))) (x6 := y6) (x7 := y7) (x8 := y8) (x9 := some (.sh (cubeD c))) (x10 := (some (.ow (.lst ((statesL w cs).map natD))))) (x11 := some (.ow (.lst ((statesL w other).map natD)))) (x13 := some (.sh (coverD (minusL w [c] cs)))) (x15 := x15)
  rw [List.nil_append] at f13
  have st13 := es1_for (T := T) (P := callF T m n) (m := m) (t := .nm 12) (it := .seq (.var 4)) (b := one13) (e := (En sc (some (.ow s5)) x2 (some (.sh (natD w))) (some (.sh (coverD cs))) (some (.sh (coverD other))) y6 y7 y8 (some (.sh (cubeD c))) (some (.ow (.lst ((statesL w cs).map natD)))) (some (.ow (.lst ((statesL w other).map natD)))) y12 (some (.sh (coverD (minusL w [c] cs)))) (some (.sh (coverD []))) x15)) (by simp only [evi, ev, tk, getB, Ans.bind, opt, items_c]) f13
  have q14 := cm_ok (m := m) (N := n) (by omega) hm (w := w) (by omega) hcs hot (by omega)
  have a14 := isbl (i := 0) (same_cover (m := m) T15 (N := n) (by omega) (cs := coverMinus w cs other) (by omega))
  have st14 : es1 T (callF T m n) m (.ite (.nt (.e (.call 15 (.cons (.call 8 (.cons (.var 4) (.cons (.var 5) .nil))) (.cons (.var 14) .nil))))) (.cons (.ret (.cst (.bl false))) .nil) .nil) (En sc (some (.ow s5)) x2 (some (.sh (natD w))) (some (.sh (coverD cs))) (some (.sh (coverD other))) y6 y7 y8 (some (.sh (cubeD c))) (some (.ow (.lst ((statesL w cs).map natD)))) (some (.ow (.lst ((statesL w other).map natD)))) z12 (some (.sh (coverD (minusL w [c] cs)))) (some (.sh (coverD (coverMinus w cs other)))) x15) = .val .nx (En sc (some (.ow s5)) x2 (some (.sh (natD w))) (some (.sh (coverD cs))) (some (.sh (coverD other))) y6 y7 y8 (some (.sh (cubeD c))) (some (.ow (.lst ((statesL w cs).map natD)))) (some (.ow (.lst ((statesL w other).map natD)))) z12 (some (.sh (coverD (minusL w [c] cs)))) (some (.sh (coverD (coverMinus w cs other)))) x15) := by
    simp [es, es1, evt, ev, evs, opd, Ans.bind, opt, getB, setB, pk, pks, tk, tks, B.dat, doCall, callArgs, frzIn, truth, T8, f_cover_minus, q14, T15, F_same, a14, hflC, D.flat]
  -- its states
  have q15 := states_ok (m := m) (N := n) T21 T18 T17 (by omega) (coverMinus w cs other) (by omega) (w := w) (by omega)
  have a15 : ev T (callF T m n) (.call 21 (.cons (.var 14) (.cons (.var 3) .nil))) (En sc (some (.ow s5)) x2 (some (.sh (natD w))) (some (.sh (coverD cs))) (some (.sh (coverD other))) y6 y7 y8 (some (.sh (cubeD c))) (some (.ow (.lst ((statesL w cs).map natD)))) (some (.ow (.lst ((statesL w other).map natD)))) z12 (some (.sh (coverD (minusL w [c] cs)))) (some (.sh (coverD (coverMinus w cs other)))) x15) = .val (true, .lst ((statesL w (coverMinus w cs other)).map natD)) (En sc (some (.ow s5)) x2 (some (.sh (natD w))) (some (.sh (coverD cs))) (some (.sh (coverD other))) y6 y7 y8 (some (.sh (cubeD c))) (some (.ow (.lst ((statesL w cs).map natD)))) (some (.ow (.lst ((statesL w other).map natD)))) z12 (some (.sh (coverD (minusL w [c] cs)))) (some (.sh (coverD (coverMinus w cs other)))) x15) := by
    generalize (statesL w (coverMinus w cs other)).map natD = z at q15 ⊢
    generalize (statesL w cs).map natD = z2
    generalize (statesL w other).map natD = z3
    simp [es, es1, evt, ev, evs, opd, Ans.bind, opt, getB, setB, pk, pks, tk, tks, B.dat, doCall, callArgs, frzIn, truth, T21, F_states, q15, D.flat]
  have i15 : evi T (callF T m n) (.seq (.var 10)) (En sc (some (.ow s5)) x2 (some (.sh (natD w))) (some (.sh (coverD cs))) (some (.sh (coverD other))) y6 y7 y8 (some (.sh (cubeD c))) (some (.ow (.lst ((statesL w cs).map natD)))) (some (.ow (.lst ((statesL w other).map natD)))) z12 (some (.sh (coverD (minusL w [c] cs)))) (some (.sh (coverD (coverMinus w cs other)))) x15) = .val ((statesL w cs).map natD) (En sc (some (.ow s5)) x2 (some (.sh (natD w))) (some (.sh (coverD cs))) (some (.sh (coverD other))) y6 y7 y8 (some (.sh (cubeD c))) (some (.sh (.lst ((statesL w cs).map natD)))) (some (.ow (.lst ((statesL w other).map natD)))) z12 (some (.sh (coverD (minusL w [c] cs)))) (some (.sh (coverD (coverMinus w cs other)))) x15) := by
    simp only [evi, ev, tk, getB, setB, Ans.bind, opt, itemsD]
  have e15 := notin_comp (i := 11) (O := statesL w other) (b := .ow (.lst ((statesL w other).map natD))) rfl i15 rfl rfl (by omega) rfl rfl (by have := slen cs; omega)
  rw [law15 hcs hot] at e15
  have v15 := ev_cmp_l (T := T) (o := .NotEq) (by intro _ z; cases z) a15 (opd_ev (by intro _ z; cases z) e15) rfl (cneL _)
  have st15 : es1 T (callF T m n) m (.ite (.e (.cmp .NotEq (.call 21 (.cons (.var 14) (.cons (.var 3) .nil))) (.comp (.var 17) (.nm 17) (.seq (.var 10)) (.e (.cmp .NotIn (.var 17) (.var 11))) [16, 17]))) (.cons (.ret (.cst (.bl false))) .nil) .nil) (En sc (some (.ow s5)) x2 (some (.sh (natD w))) (some (.sh (coverD cs))) (some (.sh (coverD other))) y6 y7 y8 (some (.sh (cubeD c))) (some (.ow (.lst ((statesL w cs).map natD)))) (some (.ow (.lst ((statesL w other).map natD)))) z12 (some (.sh (coverD (minusL w [c] cs)))) (some (.sh (coverD (coverMinus w cs other)))) x15) = .val .nx (En sc (some (.ow s5)) x2 (some (.sh (natD w))) (some (.sh (coverD cs))) (some (.sh (coverD other))) y6 y7 y8 (some (.sh (cubeD c))) (some (.sh (.lst ((statesL w cs).map natD)))) (some (.ow (.lst ((statesL w other).map natD)))) z12 (some (.sh (coverD (minusL w [c] cs)))) (some (.sh (coverD (coverMinus w cs other)))) x15) :=
    es1_itF (e1 := (En sc (some (.ow s5)) x2 (some (.sh (natD w))) (some (.sh (coverD cs))) (some (.sh (coverD other))) y6 y7 y8 (some (.sh (cubeD c))) (some (.sh (.lst ((statesL w cs).map natD)))) (some (.ow (.lst ((statesL w other).map natD)))) z12 (some (.sh (coverD (minusL w [c] cs)))) (some (.sh (coverD (coverMinus w cs other)))) x15)) (by simp only [evt, opd_ev (by intro _ z; cases z) v15, Ans.bind, pk, truth, opt]) rfl
  have st16 : es1 T (callF T m n) m (.asg (.nm 14) (.tup .nil)) (En sc (some (.ow s5)) x2 (some (.sh (natD w))) (some (.sh (coverD cs))) (some (.sh (coverD other))) y6 y7 y8 (some (.sh (cubeD c))) (some (.sh (.lst ((statesL w cs).map natD)))) (some (.ow (.lst ((statesL w other).map natD)))) z12 (some (.sh (coverD (minusL w [c] cs)))) (some (.sh (coverD (coverMinus w cs other)))) x15) = .val .nx (En sc (some (.ow s5)) x2 (some (.sh (natD w))) (some (.sh (coverD cs))) (some (.sh (coverD other))) y6 y7 y8 (some (.sh (cubeD c))) (some (.sh (.lst ((statesL w cs).map natD)))) (some (.ow (.lst ((statesL w other).map natD)))) z12 (some (.sh (coverD (minusL w [c] cs)))) (some (.sh (coverD []))) x15) := by
    simp [es1, ev, evs, Ans.bind, tks, fitL, maxLen, asgT, setB, coverD]
  -- apart
  have l17 := ap_len hcs
  obtain ⟨z15, f17⟩ := loop17 (m := m) (n := n) (by omega) hm (w := w) (by omega) (x12 := z12) cs [] [] x15 (by simpa using hcs) (by simp; omega) (sc := sc) (s := some (.ow s5)) (x2 := x2) (x3 := some (.sh (natD w))) (x5 := some (.sh (coverD other))) (x6 := y6) (x7 := y7) (x8 := y8) (x9 := some (.sh (cubeD c))) (x10 := (some (.sh (.lst ((statesL w cs).map natD))))) (x11 := some (.ow (.lst ((statesL w other).map natD)))) (x13 := some (.sh (coverD (minusL w [c] cs))))
  rw [List.nil_append, List.nil_append] at f17
  have hlenc := lenC cs
  have i17 : evi T (callF T m n) (.rng (.prim .len (.cons (.var 4) .nil))) (En sc (some (.ow s5)) x2 (some (.sh (natD w))) (some (.sh (coverD cs))) (some (.sh (coverD other))) y6 y7 y8 (some (.sh (cubeD c))) (some (.sh (.lst ((statesL w cs).map natD)))) (some (.ow (.lst ((statesL w other).map natD)))) z12 (some (.sh (coverD (minusL w [c] cs)))) (some (.sh (coverD []))) x15) = .val ((List.range' ([] : List (Nat × Nat)).length cs.length).map natD) (En sc (some (.ow s5)) x2 (some (.sh (natD w))) (some (.sh (coverD cs))) (some (.sh (coverD other))) y6 y7 y8 (some (.sh (cubeD c))) (some (.sh (.lst ((statesL w cs).map natD)))) (some (.ow (.lst ((statesL w other).map natD)))) z12 (some (.sh (coverD (minusL w [c] cs)))) (some (.sh (coverD []))) x15) := by
    rw [List.length_nil, ← List.range_eq_range', ← range_nat]
    exact evi_rngN (f := false) (by simp only [ev, evs, opd, getB, Ans.bind, pks, pk, B.dat, hlenc, opt]) (by simp only [maxLen]; omega)
  have st17 := es1_for i17 f17
  have q18 := apart_ok (m := m) (N := n) (by omega) hm (w := w) (by omega) hcs (by omega)
  have a18 := isbl (i := 0) (same_cover (m := m) T15 (N := n) (by omega) (cs := apartG w [] cs) (by omega))
  have o18 := once_ok (m := m) (N := n) (by omega) (w := w) (by omega) (L := apartG w [] cs) (by omega) (S := statesL w cs) (fun x hx => law18 hcs x hx)
  have st18 : es1 T (callF T m n) m (.ite (.or (.nt (.e (.call 15 (.cons (.call 9 (.cons (.var 4) .nil)) (.cons (.var 14) .nil))))) (.nt (.e (.call 27 (.cons (.var 14) (.cons (.var 10) (.cons (.var 3) .nil))))))) (.cons (.ret (.cst (.bl false))) .nil) .nil) (En sc (some (.ow s5)) x2 (some (.sh (natD w))) (some (.sh (coverD cs))) (some (.sh (coverD other))) y6 y7 y8 (some (.sh (cubeD c))) (some (.sh (.lst ((statesL w cs).map natD)))) (some (.ow (.lst ((statesL w other).map natD)))) z12 (some (.sh (coverD (minusL w [c] cs)))) (some (.sh (coverD (apartG w [] cs)))) z15) = .val .nx (En sc (some (.ow s5)) x2 (some (.sh (natD w))) (some (.sh (coverD cs))) (some (.sh (coverD other))) y6 y7 y8 (some (.sh (cubeD c))) (some (.sh (.lst ((statesL w cs).map natD)))) (some (.ow (.lst ((statesL w other).map natD)))) z12 (some (.sh (coverD (minusL w [c] cs)))) (some (.sh (coverD (apartG w [] cs)))) z15) := by
    generalize (statesL w cs).map natD = z2 at o18 ⊢
    generalize (statesL w other).map natD = z3
    simp [es, es1, evt, ev, evs, opd, Ans.bind, opt, getB, setB, pk, pks, tk, tks, B.dat, doCall, callArgs, frzIn, truth, T9, f_apart, q18, T15, F_same, a18, T27, f__law_once, o18, hflC, D.flat]
  -- what no cube has
  have hz0 := zero_cu w
  have q19 := opposite_ok (m := m) (N := n) (by omega) hm (w := w) (by omega) hcs
  have st19 : es1 T (callF T m n) m (.asg (.nm 13) (.call 10 (.cons (.var 4) .nil))) (En sc (some (.ow s5)) x2 (some (.sh (natD w))) (some (.sh (coverD cs))) (some (.sh (coverD other))) y6 y7 y8 (some (.sh (cubeD c))) (some (.sh (.lst ((statesL w cs).map natD)))) (some (.ow (.lst ((statesL w other).map natD)))) z12 (some (.sh (coverD (minusL w [c] cs)))) (some (.sh (coverD (apartG w [] cs)))) z15) = .val .nx (En sc (some (.ow s5)) x2 (some (.sh (natD w))) (some (.sh (coverD cs))) (some (.sh (coverD other))) y6 y7 y8 (some (.sh (cubeD c))) (some (.sh (.lst ((statesL w cs).map natD)))) (some (.ow (.lst ((statesL w other).map natD)))) z12 (some (.sh (coverD (minusL w [(0, 0)] cs)))) (some (.sh (coverD (apartG w [] cs)))) z15) := by
    simp [es1, ev, evs, opd, Ans.bind, opt, getB, setB, pk, tk, B.dat, doCall, T10, f_opposite, q19, callArgs, hflC, frzIn, asgT]
  have q20 := lminus_ok (m := m) (N := n) (by omega) hm (w := w) (by omega) hz0 hcs
  have l20 := mi_len hz0 hcs
  have a20 := isbl (i := 0) (same_cover (m := m) T15 (N := n) (by omega) (cs := (minusL w [(0, 0)] cs)) (by omega))
  have t1 := trimmed_ok (m := m) (N := n) (by omega) (cs := cs) (by omega)
  have t2 := ltrim_ok (m := m) (N := n) (by omega) (cs := cs) (by omega)
  have tl := trimG_len cs []
  have a20' := isbl (i := 0) (same_cover (m := m) T15 (N := n) (by omega) (cs := trimG [] cs) (by omega))
  have hzz : (.tup [.int 0, .int 0] : D) = cubeD (0, 0) := rfl
  have st20 : es1 T (callF T m n) m (.ite (.or (.nt (.e (.call 15 (.cons (.var 13) (.cons (.call 24 (.cons (.tup (.cons (.cst (.int 0)) (.cons (.cst (.int 0)) .nil))) (.cons (.var 4) .nil))) .nil))))) (.nt (.e (.call 15 (.cons (.call 12 (.cons (.var 4) .nil)) (.cons (.call 26 (.cons (.var 4) .nil)) .nil)))))) (.cons (.ret (.cst (.bl false))) .nil) .nil) (En sc (some (.ow s5)) x2 (some (.sh (natD w))) (some (.sh (coverD cs))) (some (.sh (coverD other))) y6 y7 y8 (some (.sh (cubeD c))) (some (.sh (.lst ((statesL w cs).map natD)))) (some (.ow (.lst ((statesL w other).map natD)))) z12 (some (.sh (coverD (minusL w [(0, 0)] cs)))) (some (.sh (coverD (apartG w [] cs)))) z15) = .val .nx (En sc (some (.ow s5)) x2 (some (.sh (natD w))) (some (.sh (coverD cs))) (some (.sh (coverD other))) y6 y7 y8 (some (.sh (cubeD c))) (some (.sh (.lst ((statesL w cs).map natD)))) (some (.ow (.lst ((statesL w other).map natD)))) z12 (some (.sh (coverD (minusL w [(0, 0)] cs)))) (some (.sh (coverD (apartG w [] cs)))) z15) := by
    simp [es, es1, evt, ev, evs, opd, Ans.bind, opt, getB, setB, pk, pks, tk, tks, B.dat, doCall, callArgs, frzIn, truth, fitL, maxLen, hzz, T24, f__law_minus, q20, T15, F_same, a20, T12, f_trimmed, t1, T26, f__law_trimmed, t2, a20', hflC, D.flat]
  -- counts
  have hallc := all_cu hcs
  have q21 := count_ok (m := m) (N := n) (by omega) hm (w := w) (by omega) hcs (by omega)
  have lall := ap_len hallc
  have q21b := count_ok (m := m) (N := n) (by omega) hm (w := w) (by omega) hallc (by omega)
  rw [law21 hcs] at q21
  rw [law21b hcs] at q21b
  have hcat := addC (a := (minusL w [(0, 0)] cs)) (b := cs) (by rw [List.length_append]; omega)
  have a21 := isbl (i := 0) (same_int (m := m) T15 (N := n) (by omega) ((statesL w cs).length : Nat))
  have a21 : callF T m n 15 [.sh (natD (statesL w cs).length), .sh (natD (statesL w cs).length)] = .ret false (.bl true) [.sh (natD (statesL w cs).length), .sh (natD (statesL w cs).length)] := a21
  have a21b := isbl (i := 0) (same_int (m := m) T15 (N := n) (by omega) ((2 ^ w : Nat) : Int))
  have a21b : callF T m n 15 [.sh (natD (2 ^ w)), .sh (natD (2 ^ w))] = .ret false (.bl true) [.sh (natD (2 ^ w)), .sh (natD (2 ^ w))] := a21b
  have hlen10 := lenL ((statesL w cs).map natD)
  rw [List.length_map] at hlen10
  have hlen10 : primD .len [.lst ((statesL w cs).map natD)] = some (false, natD (statesL w cs).length) := hlen10
  have hshl : binD .LShift (.int 1) (natD w) = some (false, natD (2 ^ w)) := shlN (by omega)
  have fl1 : (natD (statesL w cs).length).flat = true := rfl
  have fl2 : (natD (2 ^ w)).flat = true := rfl
  have st21 : es1 T (callF T m n) m (.ite (.or (.nt (.e (.call 15 (.cons (.call 11 (.cons (.var 4) (.cons (.var 3) .nil))) (.cons (.prim .len (.cons (.var 10) .nil)) .nil))))) (.nt (.e (.call 15 (.cons (.call 11 (.cons (.bin .Add (.var 13) (.var 4)) (.cons (.var 3) .nil))) (.cons (.bin .LShift (.cst (.int 1)) (.var 3)) .nil)))))) (.cons (.ret (.cst (.bl false))) .nil) .nil) (En sc (some (.ow s5)) x2 (some (.sh (natD w))) (some (.sh (coverD cs))) (some (.sh (coverD other))) y6 y7 y8 (some (.sh (cubeD c))) (some (.sh (.lst ((statesL w cs).map natD)))) (some (.ow (.lst ((statesL w other).map natD)))) z12 (some (.sh (coverD (minusL w [(0, 0)] cs)))) (some (.sh (coverD (apartG w [] cs)))) z15) = .val .nx (En sc (some (.ow s5)) x2 (some (.sh (natD w))) (some (.sh (coverD cs))) (some (.sh (coverD other))) y6 y7 y8 (some (.sh (cubeD c))) (some (.sh (.lst ((statesL w cs).map natD)))) (some (.ow (.lst ((statesL w other).map natD)))) z12 (some (.sh (coverD (minusL w [(0, 0)] cs)))) (some (.sh (coverD (apartG w [] cs)))) z15) := by
    generalize natD (2 ^ w) = p at q21b a21b hshl fl2
    generalize natD (statesL w cs).length = q at q21 a21 hlen10 fl1
    generalize coverD ((minusL w [(0, 0)] cs) ++ cs) = al at hcat q21b
    generalize (statesL w cs).map natD = z2 at hlen10 ⊢
    generalize (statesL w other).map natD = z3
    simp [es, es1, evt, ev, evs, opd, Ans.bind, opt, getB, setB, pk, pks, tk, tks, B.dat, doCall, callArgs, frzIn, truth, T11, f_count, q21, hlen10, T15, F_same, a21, hcat, q21b, hshl, a21b, fl1, fl2, D.flat]
  refine ⟨s5, some (.sh (natD w)), some (.sh (coverD cs)), some (.sh (coverD other)), y6, y7, y8, some (.sh (cubeD c)), some (.sh (.lst ((statesL w cs).map natD))), some (.ow (.lst ((statesL w other).map natD))), z12, some (.sh (coverD (minusL w [(0, 0)] cs))), some (.sh (coverD (apartG w [] cs))), z15, ?_, d5⟩
  exact (es_cons st1).trans <| (es_cons st2).trans <| (es_cons st3).trans <| (es_cons st4).trans <| (es_cons st5).trans <| (es_cons st6).trans <| (es_cons st7).trans <| (es_cons st8).trans <| (es_cons st9).trans <| (es_cons st10).trans <| (es_cons st11).trans <| (es_cons st12).trans <| (es_cons st13).trans <| (es_cons st14).trans <| (es_cons st15).trans <| (es_cons st16).trans <| (es_cons st17).trans <| (es_cons st18).trans <| (es_cons st19).trans <| (es_cons st20).trans <| (es_cons st21).trans <| rfl
end
end L2.Eng.Lk01
namespace L2.Eng.Lk01
open PySem PySem.Spec PyProof.Rows L2 L2.Eng
theorem main (ns : List Int) : ∃ fr outs, callF T 1000 200 28 [.sh (.scr (ns.map .int))] = .ret fr (.bl true) outs := by
  obtain ⟨s0, c0, d0⟩ := draws_ok (m := 1000) T13 (N := 199) (by omega) ns
  generalize (.scr (ns.map D.int) : D) = sc at c0
  have loop := forN_inv (f := turnF T (callF T 1000 199) 1000 (.nm 2) twBody) (ds := rangeD 0 3) (k := 0) (e := En (some (.sh sc)) (some (.ow s0)) none none none none none none none none none none none none none none)
    (fun _ e => ∃ (s : D) (x2 x3 x4 x5 x6 x7 x8 x9 x10 x11 x12 x13 x14 x15 : Option B), e = En (some (.sh sc)) (some (.ow s)) x2 x3 x4 x5 x6 x7 x8 x9 x10 x11 x12 x13 x14 x15 ∧ Dr s)
    ⟨s0, none, none, none, none, none, none, none, none, none, none, none, none, none, none, rfl, d0⟩ (fun j d hd e ⟨s, x2, x3, x4, x5, x6, x7, x8, x9, x10, x11, x12, x13, x14, x15, he, hs⟩ => by
      subst he
      obtain ⟨s', y3, y4, y5, y6, y7, y8, y9, y10, y11, y12, y13, y14, y15, q, hs'⟩ := turn_ok (m := 1000) (n := 199) (by omega) (by omega) hs (sc := some (.sh sc)) (x2 := some (.sh d)) (x3 := x3) (x4 := x4) (x5 := x5) (x6 := x6) (x7 := x7) (x8 := x8) (x9 := x9) (x10 := x10) (x11 := x11) (x12 := x12) (x13 := x13) (x14 := x14) (x15 := x15)
      exact ⟨_, .inl q, s', _, y3, y4, y5, y6, y7, y8, y9, y10, y11, y12, y13, y14, y15, rfl, hs'⟩)
  obtain ⟨e1, q1, s, x2, x3, x4, x5, x6, x7, x8, x9, x10, x11, x12, x13, x14, x15, rfl, hs⟩ := loop
  refine ⟨false, _, callF_of (n := 199) T28 rfl (fr := false) (e := En (some (.sh sc)) (some (.ow s)) x2 x3 x4 x5 x6 x7 x8 x9 x10 x11 x12 x13 x14 x15) ?_ rfl⟩
  show es T (callF T 1000 199) 1000 f_law.body (En (some (.sh sc)) none none none none none none none none none none none none none none none) = _
  unfold f_law
  refine (es_cons (e1 := En (some (.sh sc)) (some (.ow s0)) none none none none none none none none none none none none none none) ?_).trans ?_
  · obtain ⟨cells, a, b, c, rfl, _⟩ := d0
    simp [es1, ev, evs, opd, Ans.bind, getB, setB, pk, tk, B.dat, doCall, T13, F_draws, callArgs, c0, frzIn, asgT, D.flat]
  refine (es_cons (es1_for (evi_rngN (f := false) (n := 3) rfl (by simp [maxLen])) q1)).trans ?_
  simp [es, es1, ev, Ans.bind]
theorem main_m (ns : List Int) (_ : ns.length ≤ 63) : ∃ m fr outs, callF (recs.map Rec.fn) m 200 28 [.sh (.scr (ns.map .int))] = .ret fr (.bl true) outs := by
  obtain ⟨fr, outs, h⟩ := main ns
  exact ⟨1000, fr, outs, h⟩
end L2.Eng.Lk01
namespace L2.Eng.Lk01
open PySem L2 L2.Eng
theorem oks : ∀ r ∈ recs, r.Ok fnT := (List.forall_mem_cons.mpr ⟨ok_meet, (List.forall_mem_cons.mpr ⟨ok_lies_in, (List.forall_mem_cons.mpr ⟨ok_literals, (List.forall_mem_cons.mpr ⟨ok_size_of, (List.forall_mem_cons.mpr ⟨ok_wires_of, (List.forall_mem_cons.mpr ⟨ok_lowered, (List.forall_mem_cons.mpr ⟨ok_split, (List.forall_mem_cons.mpr ⟨ok_minus, (List.forall_mem_cons.mpr ⟨ok_cover_minus, (List.forall_mem_cons.mpr ⟨ok_apart, (List.forall_mem_cons.mpr ⟨ok_opposite, (List.forall_mem_cons.mpr ⟨ok_count, (List.forall_mem_cons.mpr ⟨ok_trimmed, (List.forall_mem_cons.mpr ⟨ok__law_draws, (List.forall_mem_cons.mpr ⟨ok__law_draw, (List.forall_mem_cons.mpr ⟨ok__law_same, (List.forall_mem_cons.mpr ⟨ok__law_mixed, (List.forall_mem_cons.mpr ⟨ok__law_has, (List.forall_mem_cons.mpr ⟨ok__law_in, (List.forall_mem_cons.mpr ⟨ok__law_cube, (List.forall_mem_cons.mpr ⟨ok__law_cover, (List.forall_mem_cons.mpr ⟨ok__law_states, (List.forall_mem_cons.mpr ⟨ok__law_bits, (List.forall_mem_cons.mpr ⟨ok__law_split, (List.forall_mem_cons.mpr ⟨ok__law_minus, (List.forall_mem_cons.mpr ⟨ok__law_part, (List.forall_mem_cons.mpr ⟨ok__law_trimmed, (List.forall_mem_cons.mpr ⟨ok__law_once, (List.forall_mem_cons.mpr ⟨ok_law, (fun _ h => absurd h (List.not_mem_nil))⟩)⟩)⟩)⟩)⟩)⟩)⟩)⟩)⟩)⟩)⟩)⟩)⟩)⟩)⟩)⟩)⟩)⟩)⟩)⟩)⟩)⟩)⟩)⟩)⟩)⟩)⟩)⟩)⟩)
end L2.Eng.Lk01
open PySem PySem.W PyProof.Rows
set_option maxRecDepth 100000 in
set_option maxHeartbeats 0 in
theorem PySem.Challenge.cw_unhurried_k01_differences_of_covers_holds : PySem.Challenge.rw_unhurried_k01_differences_of_covers.Holds := by
  w_on; o_law; k_head; (case hw => w_witness2)
  k_fill
  refine L2.Eng.walk (l := PySem.Challenge.rw_unhurried_k01_differences_of_covers) L2.Eng.room200 rfl rfl (fun w h Y => PySem.W.kIn_of Y) ?F
  case F =>
    intro w mg fa h KX G hmg
    refine L2.Eng.all_mk (rs := L2.Eng.Lk01.recs) (fns := L2.Eng.Lk01.fnT) (r := L2.Eng.Lk01.r_law) (f := 28) KX G hmg L2.Eng.Lk01.oks ?here (by decide +kernel) rfl rfl rfl rfl ?blt L2.Eng.Lk01.main_m (fun fd _ he s v => by obtain ⟨_, _, _, _, _, _, e⟩ := he; subst e; exact .of_eq rfl)
    case here =>
      refine List.forall_mem_cons.mpr ⟨?_, ?_⟩
      · refine' L2.Eng.here_mk (x := "meet") (st := L2.Eng.Lk01.top 1) (ps := ["a", "b"]) ?a ?l ?c ?k (fun _ _ _ _ _ _ us hl => match us, hl with | [_, _], _ => rfl)
        (case a => k_is); (case l => k_is); (case c => k_is); (case k => k_is)
      refine List.forall_mem_cons.mpr ⟨?_, ?_⟩
      · refine' L2.Eng.here_mk (x := "lies_in") (st := L2.Eng.Lk01.top 2) (ps := ["a", "b"]) ?a ?l ?c ?k (fun _ _ _ _ _ _ us hl => match us, hl with | [_, _], _ => rfl)
        (case a => k_is); (case l => k_is); (case c => k_is); (case k => k_is)
      refine List.forall_mem_cons.mpr ⟨?_, ?_⟩
      · refine' L2.Eng.here_mk (x := "literals") (st := L2.Eng.Lk01.top 3) (ps := ["cube"]) ?a ?l ?c ?k (fun _ _ _ _ _ _ us hl => match us, hl with | [_], _ => rfl)
        (case a => k_is); (case l => k_is); (case c => k_is); (case k => k_is)
      refine List.forall_mem_cons.mpr ⟨?_, ?_⟩
      · refine' L2.Eng.here_mk (x := "size_of") (st := L2.Eng.Lk01.top 4) (ps := ["cube", "n"]) ?a ?l ?c ?k (fun _ _ _ _ _ _ us hl => match us, hl with | [_, _], _ => rfl)
        (case a => k_is); (case l => k_is); (case c => k_is); (case k => k_is)
      refine List.forall_mem_cons.mpr ⟨?_, ?_⟩
      · refine' L2.Eng.here_mk (x := "wires_of") (st := L2.Eng.Lk01.top 5) (ps := ["mask"]) ?a ?l ?c ?k (fun _ _ _ _ _ _ us hl => match us, hl with | [_], _ => rfl)
        (case a => k_is); (case l => k_is); (case c => k_is); (case k => k_is)
      refine List.forall_mem_cons.mpr ⟨?_, ?_⟩
      · refine' L2.Eng.here_mk (x := "lowered") (st := L2.Eng.Lk01.top 6) (ps := ["cube", "wire", "level"]) ?a ?l ?c ?k (fun _ _ _ _ _ _ us hl => match us, hl with | [_, _, _], _ => rfl)
        (case a => k_is); (case l => k_is); (case c => k_is); (case k => k_is)
      refine List.forall_mem_cons.mpr ⟨?_, ?_⟩
      · refine' L2.Eng.here_mk (x := "split") (st := L2.Eng.Lk01.top 8) (ps := ["piece", "other"]) ?a ?l ?c ?k (fun _ _ _ _ _ _ us hl => match us, hl with | [_, _], _ => rfl)
        (case a => k_is); (case l => k_is); (case c => k_is); (case k => k_is)
      refine List.forall_mem_cons.mpr ⟨?_, ?_⟩
      · refine' L2.Eng.here_mk (x := "minus") (st := L2.Eng.Lk01.top 9) (ps := ["cube", "cover"]) ?a ?l ?c ?k (fun _ _ _ _ _ _ us hl => match us, hl with | [_, _], _ => rfl)
        (case a => k_is); (case l => k_is); (case c => k_is); (case k => k_is)
      refine List.forall_mem_cons.mpr ⟨?_, ?_⟩
      · refine' L2.Eng.here_mk (x := "cover_minus") (st := L2.Eng.Lk01.top 10) (ps := ["cover", "other"]) ?a ?l ?c ?k (fun _ _ _ _ _ _ us hl => match us, hl with | [_, _], _ => rfl)
        (case a => k_is); (case l => k_is); (case c => k_is); (case k => k_is)
      refine List.forall_mem_cons.mpr ⟨?_, ?_⟩
      · refine' L2.Eng.here_mk (x := "apart") (st := L2.Eng.Lk01.top 11) (ps := ["cover"]) ?a ?l ?c ?k (fun _ _ _ _ _ _ us hl => match us, hl with | [_], _ => rfl)
        (case a => k_is); (case l => k_is); (case c => k_is); (case k => k_is)
      refine List.forall_mem_cons.mpr ⟨?_, ?_⟩
      · refine' L2.Eng.here_mk (x := "opposite") (st := L2.Eng.Lk01.top 12) (ps := ["cover"]) ?a ?l ?c ?k (fun _ _ _ _ _ _ us hl => match us, hl with | [_], _ => rfl)
        (case a => k_is); (case l => k_is); (case c => k_is); (case k => k_is)
      refine List.forall_mem_cons.mpr ⟨?_, ?_⟩
      · refine' L2.Eng.here_mk (x := "count") (st := L2.Eng.Lk01.top 13) (ps := ["cover", "n"]) ?a ?l ?c ?k (fun _ _ _ _ _ _ us hl => match us, hl with | [_, _], _ => rfl)
        (case a => k_is); (case l => k_is); (case c => k_is); (case k => k_is)
      refine List.forall_mem_cons.mpr ⟨?_, ?_⟩
      · refine' L2.Eng.here_mk (x := "trimmed") (st := L2.Eng.Lk01.top 14) (ps := ["cover"]) ?a ?l ?c ?k (fun _ _ _ _ _ _ us hl => match us, hl with | [_], _ => rfl)
        (case a => k_is); (case l => k_is); (case c => k_is); (case k => k_is)
      refine List.forall_mem_cons.mpr ⟨?_, ?_⟩
      · refine' L2.Eng.here_mk (x := "_law_draws") (st := L2.Eng.Lk01.top 16) (ps := ["script"]) ?a ?l ?c ?k (fun _ _ _ _ _ _ us hl => match us, hl with | [_], _ => rfl)
        (case a => k_is); (case l => k_is); (case c => k_is); (case k => k_is)
      refine List.forall_mem_cons.mpr ⟨?_, ?_⟩
      · refine' L2.Eng.here_mk (x := "_law_draw") (st := L2.Eng.Lk01.top 17) (ps := ["draws", "limit"]) ?a ?l ?c ?k (fun _ _ _ _ _ _ us hl => match us, hl with | [_, _], _ => rfl)
        (case a => k_is); (case l => k_is); (case c => k_is); (case k => k_is)
      refine List.forall_mem_cons.mpr ⟨?_, ?_⟩
      · refine' L2.Eng.here_mk (x := "_law_same") (st := L2.Eng.Lk01.top 19) (ps := ["actual", "expected"]) ?a ?l ?c ?k (fun _ _ _ _ _ _ us hl => match us, hl with | [_, _], _ => rfl)
        (case a => k_is); (case l => k_is); (case c => k_is); (case k => k_is)
      refine List.forall_mem_cons.mpr ⟨?_, ?_⟩
      · refine' L2.Eng.here_mk (x := "_law_mixed") (st := L2.Eng.Lk01.top 20) (ps := ["draws", "rows"]) ?a ?l ?c ?k (fun _ _ _ _ _ _ us hl => match us, hl with | [_, _], _ => rfl)
        (case a => k_is); (case l => k_is); (case c => k_is); (case k => k_is)
      refine List.forall_mem_cons.mpr ⟨?_, ?_⟩
      · refine' L2.Eng.here_mk (x := "_law_has") (st := L2.Eng.Lk01.top 21) (ps := ["x", "cube"]) ?a ?l ?c ?k (fun _ _ _ _ _ _ us hl => match us, hl with | [_, _], _ => rfl)
        (case a => k_is); (case l => k_is); (case c => k_is); (case k => k_is)
      refine List.forall_mem_cons.mpr ⟨?_, ?_⟩
      · refine' L2.Eng.here_mk (x := "_law_in") (st := L2.Eng.Lk01.top 22) (ps := ["x", "cover"]) ?a ?l ?c ?k (fun _ _ _ _ _ _ us hl => match us, hl with | [_, _], _ => rfl)
        (case a => k_is); (case l => k_is); (case c => k_is); (case k => k_is)
      refine List.forall_mem_cons.mpr ⟨?_, ?_⟩
      · refine' L2.Eng.here_mk (x := "_law_cube") (st := L2.Eng.Lk01.top 23) (ps := ["draws", "n"]) ?a ?l ?c ?k (fun _ _ _ _ _ _ us hl => match us, hl with | [_, _], _ => rfl)
        (case a => k_is); (case l => k_is); (case c => k_is); (case k => k_is)
      refine List.forall_mem_cons.mpr ⟨?_, ?_⟩
      · refine' L2.Eng.here_mk (x := "_law_cover") (st := L2.Eng.Lk01.top 24) (ps := ["draws", "n", "most"]) ?a ?l ?c ?k (fun _ _ _ _ _ _ us hl => match us, hl with | [_, _, _], _ => rfl)
        (case a => k_is); (case l => k_is); (case c => k_is); (case k => k_is)
      refine List.forall_mem_cons.mpr ⟨?_, ?_⟩
      · refine' L2.Eng.here_mk (x := "_law_states") (st := L2.Eng.Lk01.top 25) (ps := ["cover", "n"]) ?a ?l ?c ?k (fun _ _ _ _ _ _ us hl => match us, hl with | [_, _], _ => rfl)
        (case a => k_is); (case l => k_is); (case c => k_is); (case k => k_is)
      refine List.forall_mem_cons.mpr ⟨?_, ?_⟩
      · refine' L2.Eng.here_mk (x := "_law_bits") (st := L2.Eng.Lk01.top 26) (ps := ["mask"]) ?a ?l ?c ?k (fun _ _ _ _ _ _ us hl => match us, hl with | [_], _ => rfl)
        (case a => k_is); (case l => k_is); (case c => k_is); (case k => k_is)
      refine List.forall_mem_cons.mpr ⟨?_, ?_⟩
      · refine' L2.Eng.here_mk (x := "_law_split") (st := L2.Eng.Lk01.top 27) (ps := ["piece", "other"]) ?a ?l ?c ?k (fun _ _ _ _ _ _ us hl => match us, hl with | [_, _], _ => rfl)
        (case a => k_is); (case l => k_is); (case c => k_is); (case k => k_is)
      refine List.forall_mem_cons.mpr ⟨?_, ?_⟩
      · refine' L2.Eng.here_mk (x := "_law_minus") (st := L2.Eng.Lk01.top 28) (ps := ["cube", "cover"]) ?a ?l ?c ?k (fun _ _ _ _ _ _ us hl => match us, hl with | [_, _], _ => rfl)
        (case a => k_is); (case l => k_is); (case c => k_is); (case k => k_is)
      refine List.forall_mem_cons.mpr ⟨?_, ?_⟩
      · refine' L2.Eng.here_mk (x := "_law_part") (st := L2.Eng.Lk01.top 29) (ps := ["a", "b"]) ?a ?l ?c ?k (fun _ _ _ _ _ _ us hl => match us, hl with | [_, _], _ => rfl)
        (case a => k_is); (case l => k_is); (case c => k_is); (case k => k_is)
      refine List.forall_mem_cons.mpr ⟨?_, ?_⟩
      · refine' L2.Eng.here_mk (x := "_law_trimmed") (st := L2.Eng.Lk01.top 30) (ps := ["cover"]) ?a ?l ?c ?k (fun _ _ _ _ _ _ us hl => match us, hl with | [_], _ => rfl)
        (case a => k_is); (case l => k_is); (case c => k_is); (case k => k_is)
      refine List.forall_mem_cons.mpr ⟨?_, ?_⟩
      · refine' L2.Eng.here_mk (x := "_law_once") (st := L2.Eng.Lk01.top 31) (ps := ["cover", "due", "n"]) ?a ?l ?c ?k (fun _ _ _ _ _ _ us hl => match us, hl with | [_, _, _], _ => rfl)
        (case a => k_is); (case l => k_is); (case c => k_is); (case k => k_is)
      refine List.forall_mem_cons.mpr ⟨?_, ?_⟩
      · refine' L2.Eng.here_mk (x := "law") (st := L2.Eng.Lk01.top 32) (ps := ["script"]) ?a ?l ?c ?k (fun _ _ _ _ _ _ us hl => match us, hl with | [_], _ => rfl)
        (case a => k_is); (case l => k_is); (case c => k_is); (case k => k_is)
      exact fun _ h => absurd h List.not_mem_nil
    case blt =>
      refine List.forall_mem_cons.mpr ⟨?_, ?_⟩
      · show PySem.W.nsIn _ mainGlobals (PySem.Str.ofString "len") = _; k_is
      refine List.forall_mem_cons.mpr ⟨?_, ?_⟩
      · show PySem.W.nsIn _ mainGlobals (PySem.Str.ofString "list") = _; k_is
      refine List.forall_mem_cons.mpr ⟨?_, ?_⟩
      · show PySem.W.nsIn _ mainGlobals (PySem.Str.ofString "tuple") = _; k_is
      refine List.forall_mem_cons.mpr ⟨?_, ?_⟩
      · show PySem.W.nsIn _ mainGlobals (PySem.Str.ofString "sum") = _; k_is
      refine List.forall_mem_cons.mpr ⟨?_, ?_⟩
      · show PySem.W.nsIn _ mainGlobals (PySem.Str.ofString "all") = _; k_is
      refine List.forall_mem_cons.mpr ⟨?_, ?_⟩
      · show PySem.W.nsIn _ mainGlobals (PySem.Str.ofString "any") = _; k_is
      refine List.forall_mem_cons.mpr ⟨?_, ?_⟩
      · show PySem.W.nsIn _ mainGlobals (PySem.Str.ofString "int") = _; k_is
      refine List.forall_mem_cons.mpr ⟨?_, ?_⟩
      · show PySem.W.nsIn _ mainGlobals (PySem.Str.ofString "abs") = _; k_is
      refine List.forall_mem_cons.mpr ⟨?_, ?_⟩
      · show PySem.W.nsIn _ mainGlobals (PySem.Str.ofString "isinstance") = _; k_is
      refine List.forall_mem_cons.mpr ⟨?_, ?_⟩
      · show PySem.W.nsIn _ mainGlobals (PySem.Str.ofString "range") = _; k_is
      refine List.forall_mem_cons.mpr ⟨?_, ?_⟩
      · show PySem.W.nsIn _ mainGlobals (PySem.Str.ofString "enumerate") = _; k_is
      refine List.forall_mem_cons.mpr ⟨?_, ?_⟩
      · show PySem.W.nsIn _ mainGlobals (PySem.Str.ofString "zip") = _; k_is
      refine List.forall_mem_cons.mpr ⟨?_, ?_⟩
      · show PySem.W.nsIn _ mainGlobals (PySem.Str.ofString "bool") = _; k_is
      refine List.forall_mem_cons.mpr ⟨?_, ?_⟩
      · show PySem.W.nsIn _ mainGlobals (PySem.Str.ofString "str") = _; k_is
      refine List.forall_mem_cons.mpr ⟨?_, ?_⟩
      · show PySem.W.nsIn _ mainGlobals (PySem.Str.ofString "sorted") = _; k_is
      refine List.forall_mem_cons.mpr ⟨?_, ?_⟩
      · show PySem.W.nsIn _ mainGlobals (PySem.Str.ofString "set") = _; k_is
      refine List.forall_mem_cons.mpr ⟨?_, ?_⟩
      · show PySem.W.nsIn _ mainGlobals (PySem.Str.ofString "dict") = _; k_is
      refine List.forall_mem_cons.mpr ⟨?_, ?_⟩
      · show PySem.W.nsIn _ mainGlobals (PySem.Str.ofString "min") = _; k_is
      refine List.forall_mem_cons.mpr ⟨?_, ?_⟩
      · show PySem.W.nsIn _ mainGlobals (PySem.Str.ofString "max") = _; k_is
      exact fun _ h => absurd h List.not_mem_nil

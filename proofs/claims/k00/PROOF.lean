import PyProof.Rows.All
import Wide.All
import OpenK.AllK
import Wide.FinOn
import HandS.Text
import HandS.List
import HandS.Base
import HandS.Call
import HandS.Comp
import HandS.Iter
import HandS.Exc
import HandS.Slots
import HandS.Words
import HandS.More
import HandS.ExcOwn
import HandS.Star
import HandS.Flow
import HandS.TryMany
import HandS.ExcValue
import HandS.ExcInit
import HandS.Defaults
import HandS.TupMul
import PyProof.StrBlock2
import HandS.Deep
import KE.LtData
import KE.DataCmp
import HandS.CallSlots
import HandS.WordsExc
import HandS.Conv
import HandS.IsInst
import HandS.ExcIs
import HandS.SlotsOwn
import KE.SortData
import PyProof.TupleOfStr
import PyProof.ListStr
import HandS.Zip
import HandS.TryOnly
import HandS.TupAny
import HandS.ExcField
import KE.KExcIs
import HandS.Style
import HandS.Head0
import HandS.Head1
import HandS.Head2
import HandS.HeadEnd
import HandS.HeadHook1
import HandS.HeadHook2
import HandS.HeadHook3
import HandS.HeadHook4
import KE.KStateDown
import PySem.Challenge.RW_fusetrees_k00_errors
set_option Elab.async false
set_option linter.all false
set_option autoImplicit false
set_option maxRecDepth 100000
set_option maxHeartbeats 0
namespace FT
open PySem PySem.Spec PyProof.Rows

/-- values -/
inductive D where
  | non | bl (b : Bool) | int (i : Int) | str (s : Str)
  | tup (xs : List D) | lst (xs : List D)
  | dic (ks vs : List D)
  | ins (c : Nat) (vs : List D)
  | exc (c : Nat) (vs : List D)
  deriving Inhabited

/-- what a name may hold: a value, or a mutable cell -/
inductive W where
  | d (x : D) | ref (n : Nat)
  deriving Inhabited

inductive Cell where
  | lst (lk : Nat) (xs : List D)
  | dic (lk : Nat) (ks vs : List D)
  | ins (c : Nat) (fs : List (Option D))
  deriving Inhabited

abbrev S := List Cell
abbrev Env := List (Option W)

inductive R (α : Type) where
  | ok (a : α) (s : S) | err (c : Nat) (vs : List D) (s : S) | stuck
def R.bind {α β : Type} (r : R α) (f : α → S → R β) : R β := match r with
  | .ok a s => f a s
  | .err c v s => .err c v s
  | .stuck => .stuck
@[simp] theorem R.bind_ok {α β : Type} (a : α) (s : S) (f : α → S → R β) : (R.ok a s).bind f = f a s := Eq.trans rfl rfl
@[simp] theorem R.bind_err {α β : Type} (c : Nat) (v : List D) (s : S) (f : α → S → R β) : (R.err c v s).bind f = .err c v s := Eq.trans rfl rfl
@[simp] theorem R.bind_stuck {α β : Type} (f : α → S → R β) : (R.stuck : R α).bind f = .stuck := Eq.trans rfl rfl
/-- where nothing may be raised -/
def R.calm {α : Type} (r : R α) : R α := match r with
  | .ok a s => .ok a s
  | _ => .stuck
theorem R.calm_bind {α β : Type} (r : R α) (f : α → S → R β) : (r.bind f).calm = r.calm.bind fun a s => (f a s).calm := by cases r <;> rfl
@[simp] theorem R.calm_ok {α : Type} (a : α) (s : S) : (R.ok a s).calm = .ok a s := Eq.trans rfl rfl
def R.of {α : Type} (o : Option α) (s : S) : R α := match o with
  | some a => .ok a s
  | none => .stuck
@[simp] theorem R.of_some {α : Type} (a : α) (s : S) : R.of (some a) s = .ok a s := Eq.trans rfl rfl
@[simp] theorem R.of_none {α : Type} (s : S) : R.of (none : Option α) s = .stuck := Eq.trans rfl rfl

/-- a statement's end -/
inductive RS where
  | nx (env : Env) (s : S) | rt (w : W) (s : S) | br (env : Env) (s : S) | ct (env : Env) (s : S)
  | err (c : Nat) (vs : List D) (env : Env) (s : S) | stuck
def R.then {α : Type} (r : R α) (env : Env) (f : α → S → RS) : RS := match r with
  | .ok a s => f a s
  | .err c v s => .err c v env s
  | .stuck => .stuck
@[simp] theorem R.then_ok {α : Type} (a : α) (s : S) (env : Env) (f : α → S → RS) : (R.ok a s).then env f = f a s := Eq.trans rfl rfl
@[simp] theorem R.then_err {α : Type} (c : Nat) (v : List D) (s : S) (env : Env) (f : α → S → RS) : (R.err c v s : R α).then env f = .err c v env s := Eq.trans rfl rfl
@[simp] theorem R.then_stuck {α : Type} (env : Env) (f : α → S → RS) : (R.stuck : R α).then env f = .stuck := Eq.trans rfl rfl
def RS.seq (r : RS) (f : Env → S → RS) : RS := match r with
  | .nx env s => f env s
  | r => r
@[simp] theorem RS.seq_nx (env : Env) (s : S) (f : Env → S → RS) : (RS.nx env s).seq f = f env s := Eq.trans rfl rfl
@[simp] theorem RS.seq_rt (w : W) (s : S) (f : Env → S → RS) : (RS.rt w s).seq f = .rt w s := Eq.trans rfl rfl

mutual
inductive E where
  | var (i : Nat)
  | c (d : D)
  | tup (es : Es) | lst (m : Bool) (es : Es)
  | bin (o : Operator) (a b : E)
  | rep (m : Bool) (es : Es) (k : E) | catm (a b : E)
  | neg (a : E) | not (a : E)
  | bop (o : BoolOp) (es : Es)
  | orv (a b : E)
  | cmp (o : CmpOp) (a b : E)
  | chain (a : E) (o1 : CmpOp) (b : E) (o2 : CmpOp) (c : E)
  | ite (c a b : E)
  | call (f : Nat) (es : Es)
  | callk (f : Nat) (es : Es) (ks : List Nat) (kes : Es) (perm : List Nat)
  | smeth (c m : Nat) (es : Es)
  | mk (c : Nat) (es : Es) (kes : Es) (perm : List Nat)
  | bi (f : Nat) (es : Es)
  | isi (a : E) (tys : List (Bool × Nat))
  | meth (m : Nat) (o : E) (es : Es)
  | attr (o : E) (f : Nat)
  | idx (o i : E)
  | slice (o : E) (lo hi : Es)
  | comp (m : Bool) (elt : E) (tg : T) (it : I) (cond : Es) (own : List Nat)
  | srtset (a : E)
  | lstof (m : Bool) (a : E)
  | mdic
inductive Es where
  | nil | cons (e : E) (es : Es) | star (e : E) (es : Es)
inductive T where
  | name (i : Nat) | tup (ts : Ts)
inductive Ts where
  | nil | cons (t : T) (ts : Ts)
inductive I where
  | e (x : E) | range1 (a : E) | range2 (a b : E) | enum (x : E) | enum2 (x : E) (k : E) | zip (x y : E)
inductive Sm where
  | exp (e : E) | asg (i : Nat) (e : E) | par (is : List Nat) (es : Es) | unp (t : T) (e : E)
  | seti (o i e : E) | seta (o : E) (f : Nat) (e : E)
  | aug (i : Nat) (o : Operator) (e : E)
  | ret (e : E) | retn | pass | brk
  | ife (c : E) (a b : Sms) | for_ (tg : T) (it : I) (b : Sms) | whl (c : E) (b : Sms)
  | raise (c : Nat) (es : Es) (kes : Es) (perm : List Nat)
  | tryk (b : Sms) (hs : List (Nat × Nat × Nat))
  | never
inductive Sms where
  | nil | cons (s : Sm) (ss : Sms)
end

structure Fn where
  ps : Nat
  slots : Nat
  dfl : List D
  keep : Bool
  body : Sms

/-- what an attribute of a class is -/
inductive AK where
  | fld (i : Nat) | prop (f : Nat)
structure Cls where
  /-- 0: own instances, 1: errors -/
  isExc : Bool
  /-- errors: whether the one field is the argument (else it is ()) -/
  arg : Bool
  fields : Nat
  init : Nat
  /-- __init__'s defaults -/
  dfl : List D
  attr : Nat → Option AK
  meth : Nat → Option Nat
  /-- the classes of the text above it, itself first -/
  sups : List Nat
  /-- the built-in classes above it -/
  blt : List Nat

structure Prog where
  fn : Nat → Option Fn
  cls : Nat → Option Cls

def strEq (a b : Str) : Bool := a.cps.toList == b.cps.toList
mutual
def D.eqv : D → D → Bool
  | .non, .non => true
  | .bl a, .bl b => a == b
  | .bl a, .int j => (if a then 1 else 0) == j
  | .int i, .bl b => i == (if b then 1 else 0)
  | .int i, .int j => i == j
  | .str x, .str y => strEq x y
  | .lst xs, .lst ys => D.eqvL xs ys
  | .tup xs, .tup ys => D.eqvL xs ys
  | _, _ => false
def D.eqvL : List D → List D → Bool
  | [], [] => true
  | x :: xs, y :: ys => D.eqv x y && D.eqvL xs ys
  | _, _ => false
end
mutual
/-- plain data, n deep -/
def D.pl : D → Nat → Bool
  | .non, _ | .bl _, _ | .int _, _ | .str _, _ => true
  | .tup xs, n + 1 => D.plL xs n
  | .lst xs, n + 1 => D.plL xs n
  | _, _ => false
def D.plL : List D → Nat → Bool
  | [], _ => true
  | x :: xs, n => D.pl x n && D.plL xs n
end
def DEEP : Nat := 60
abbrev D.plain (d : D) : Bool := D.pl d DEEP
abbrev D.plainL (xs : List D) : Bool := D.plL xs DEEP
def strLt (a b : Str) : Bool := decide (a.cps.toList < b.cps.toList)
mutual
/-- of one form -/
def D.alike : D → D → Bool
  | .non, .non => true
  | .bl _, .bl _ => true
  | .int _, .int _ => true
  | .str _, .str _ => true
  | .tup xs, .tup ys => D.alikeL xs ys
  | .lst xs, .lst ys => D.alikeL xs ys
  | _, _ => false
def D.alikeL : List D → List D → Bool
  | x :: xs, y :: ys => D.alike x y && D.alikeL xs ys
  | [], _ => true
  | _ :: _, [] => true
end
mutual
/-- < of data of one form -/
def D.ltB : D → D → Bool
  | .bl a, .bl b => !a && b
  | .int i, .int j => decide (i < j)
  | .str a, .str b => strLt a b
  | .tup xs, .tup ys => D.ltBL xs ys
  | .lst xs, .lst ys => D.ltBL xs ys
  | _, _ => false
def D.ltBL : List D → List D → Bool
  | [], [] => false
  | [], _ :: _ => true
  | _ :: _, [] => false
  | x :: xs, y :: ys => if D.eqv x y then D.ltBL xs ys else D.ltB x y
end
def D.isNon : D → Bool
  | .non => true
  | _ => false
/-- two values that < may be asked of -/
def D.cmpOk (x y : D) : Bool := D.plain x && D.plain y && D.alike x y && !D.isNon x

def LIM : Nat := 16777216
def items (w : W) (s : S) : Option (List D) := match w with
  | .d (.tup xs) => some xs
  | .d (.lst xs) => some xs
  | .d (.dic ks _) => some ks
  | .d (.str x) => some (x.cps.toList.map fun c => .str ⟨#[c]⟩)
  | .ref n => match s[n]? with
    | some (.lst _ xs) => some xs
    | some (.dic _ ks _) => some ks
    | _ => none
  | _ => none
/-- a list's or a tuple's items -/
def seqOf (w : W) (s : S) : Option (List D) := match w with
  | .d (.tup xs) => some xs
  | .d (.lst xs) => some xs
  | .ref n => match s[n]? with
    | some (.lst _ xs) => some xs
    | _ => none
  | _ => none
/-- a value with the cell's content in its place -/
def val (w : W) (s : S) : Option D := match w with
  | .d x => some x
  | .ref n => match s[n]? with
    | some (.lst _ xs) => some (.lst xs)
    | some (.dic _ ks vs) => some (.dic ks vs)
    | _ => none
def truthy (w : W) (s : S) : Option Bool := match val w s with
  | some .non => some false
  | some (.bl b) => some b
  | some (.int i) => some (i != 0)
  | some (.str x) => if x.length ≤ LIM then some (!x.cps.toList.isEmpty) else none
  | some (.tup xs) => some (!xs.isEmpty)
  | some (.lst xs) => some (!xs.isEmpty)
  | some (.dic ks _) => some (!ks.isEmpty)
  | _ => none
/-- the data of some words -/
def pures : List W → Option (List D)
  | [] => some []
  | .d x :: ws => (pures ws).map (x :: ·)
  | .ref _ :: _ => none

def two64 : Int := 18446744073709551616
def okMul (i j : Int) : Bool := (decide (-two64 < i) && decide (i < two64)) || (decide (-two64 < j) && decide (j < two64))
def strRep (x : Str) (n : Nat) : Str := ⟨(List.replicate n x.cps.toList).flatten.toArray⟩
def binop (o : Operator) (a b : W) (s : S) : Option W := match o, a, b with
  | .Add, .d (.int i), .d (.int j) => some (.d (.int (i + j)))
  | .Sub, .d (.int i), .d (.int j) => some (.d (.int (i - j)))
  | .Mult, .d (.int i), .d (.int j) => if okMul i j then some (.d (.int (i * j))) else none
  | .FloorDiv, .d (.int i), .d (.int j) => if j ≠ 0 ∧ j.natAbs < 1073741824 then some (.d (.int (i.fdiv j))) else none
  | .Mod, .d (.int i), .d (.int j) => if j ≠ 0 then some (.d (.int (i.fmod j))) else none
  | .Pow, .d (.int i), .d (.int j) => if 0 ≤ j ∧ j ≤ 1000000 ∧ i.natAbs < 18446744073709551616 then some (.d (.int (i ^ j.toNat))) else none
  | .Add, .d (.str x), .d (.str y) => if x.length + y.length ≤ LIM then some (.d (.str (x ++ y))) else none
  | .Add, .d (.tup xs), .d (.tup ys) => if xs.length + ys.length ≤ LIM then some (.d (.tup (xs ++ ys))) else none
  | .Mult, .d (.str x), .d (.int k) => if 1 ≤ k ∧ k ≤ 1000000 ∧ x.length * k.toNat ≤ LIM then some (.d (.str (strRep x k.toNat))) else none
  | .Mult, .d (.tup xs), .d (.int k) => if xs.isEmpty = false ∧ 2 ≤ k ∧ k ≤ 1000 ∧ xs.length ≤ 1000 then some (.d (.tup (List.replicate k.toNat xs).flatten)) else none
  | .Add, a, b => match val a s, val b s with
    | some (.lst xs), some (.lst ys) => if xs.length + ys.length ≤ LIM then some (.d (.lst (xs ++ ys))) else none
    | _, _ => none
  | _, _, _ => none
def isIn (x : D) (xs : List D) : Bool := xs.any fun z => D.eqv z x
/-- comparisons, but those of own classes -/
def cmpop (o : CmpOp) (a b : W) (s : S) : Option Bool := match o with
  | .Eq => match val a s, val b s with
    | some x, some y => if D.plain x && D.plain y then some (D.eqv x y) else none
    | _, _ => none
  | .NotEq => match val a s, val b s with
    | some x, some y => if D.plain x && D.plain y then some (!D.eqv x y) else none
    | _, _ => none
  | .Is => match b with
    | .d .non => some (match a with | .d .non => true | _ => false)
    | _ => none
  | .IsNot => match b with
    | .d .non => some (match a with | .d .non => false | _ => true)
    | _ => none
  | .Lt => match val a s, val b s with
    | some x, some y => if D.cmpOk x y then some (D.ltB x y) else none
    | _, _ => none
  | .Gt => match val a s, val b s with
    | some x, some y => if D.cmpOk x y then some (D.ltB y x) else none
    | _, _ => none
  | .LtE => match val a s, val b s with
    | some x, some y => if D.cmpOk x y then some (!D.ltB y x) else none
    | _, _ => none
  | .GtE => match val a s, val b s with
    | some x, some y => if D.cmpOk x y then some (!D.ltB x y) else none
    | _, _ => none
  | .In => match a, val b s with
    | .d x, some (.lst xs) => if D.plain x && D.plain (.lst xs) then some (isIn x xs) else none
    | .d x, some (.tup xs) => if D.plain x && D.plain (.tup xs) then some (isIn x xs) else none
    | .d (.str x), some (.str z) => match x.cps.toList with
      | [c] => some (decide (c ∈ z.cps.toList))
      | _ => none
    | _, _ => none
  | .NotIn => match a, val b s with
    | .d x, some (.lst xs) => if D.plain x && D.plain (.lst xs) then some (!isIn x xs) else none
    | .d x, some (.tup xs) => if D.plain x && D.plain (.tup xs) then some (!isIn x xs) else none
    | .d (.str x), some (.str z) => match x.cps.toList with
      | [c] => some (!decide (c ∈ z.cps.toList))
      | _ => none
    | _, _ => none

/-- stable sorting by < (insertion, kept simple) -/
def ins1 (x : D) : List D → List D
  | [] => [x]
  | y :: ys => if D.ltB y x then y :: ins1 x ys else x :: y :: ys
def sortD : List D → List D
  | [] => []
  | x :: xs => ins1 x (sortD xs)
/-- all of one form -/
def ltOk (xs : List D) : Bool := xs.all fun x => D.plain x && !D.isNon x && xs.all fun y => D.alike x y
def isTupNE : D → Bool
  | .tup (_ :: _) => true
  | _ => false
def notTup : D → Bool
  | .tup _ => false
  | _ => true
def sortOk (xs : List D) : Bool := ltOk xs && (xs.all isTupNE || xs.all notTup) && decide (xs.length ≤ LIM)
def index (o i : W) (s : S) : Option D := match i with
  | .d (.int i) => match val o s with
    | some (.lst xs) => L2.atI xs i
    | some (.tup xs) => L2.atI xs i
    | some (.str x) => if x.length ≤ LIM then (L2.atI x.cps.toList i).map fun c => .str ⟨#[c]⟩ else none
    | _ => none
  | _ => none
def cut {α : Type} (xs : List α) (lo hi : Option Int) : List α := (xs.drop (HT.sIx xs.length 0 lo)).take (HT.sIx xs.length xs.length hi - HT.sIx xs.length 0 lo)
def cutD (d : D) (lo hi : Option Int) : Option D := match d with
  | .lst xs => some (.lst (cut xs lo hi))
  | .tup xs => some (.tup (cut xs lo hi))
  | .str x => if x.length ≤ LIM then some (.str ⟨(cut x.cps.toList lo hi).toArray⟩) else none
  | _ => none
def sliceOf (o : W) (lo hi : Option Int) (s : S) : Option D := (val o s).bind fun d => cutD d lo hi

def intL : List D → Option (List Int)
  | [] => some []
  | .int i :: r => (intL r).map (i :: ·)
  | _ :: _ => none
def bools : List D → Option (List Bool)
  | [] => some []
  | .bl i :: r => (bools r).map (i :: ·)
  | _ :: _ => none
def minI : Int → List Int → Int
  | m, [] => m
  | m, x :: xs => minI (if x < m then x else m) xs
def maxI : Int → List Int → Int
  | m, [] => m
  | m, x :: xs => maxI (if x > m then x else m) xs
def lenW (w : W) (s : S) : Option Nat := match val w s with
  | some (.tup xs) => some xs.length
  | some (.lst xs) => some xs.length
  | some (.dic ks _) => some ks.length
  | some (.str x) => if x.length ≤ LIM then some x.length else none
  | _ => none
def listOf (w : W) (s : S) : Option (List D) := match val w s with
  | some (.lst xs) => some xs
  | _ => none
def hdMin : List Int → Option D
  | [] => none
  | n :: r => some (.int (minI n r))
def hdMax : List Int → Option D
  | [] => none
  | n :: r => some (.int (maxI n r))
def chars (x : Str) : List D := x.cps.toList.map fun c => .str ⟨#[c]⟩
/-- the items of a list, a tuple, a text -/
def seqC (w : W) (s : S) : Option (List D) := match w with
  | .d (.str x) => if x.length ≤ LIM then some (chars x) else none
  | w => seqOf w s
def bi1 (f : Nat) (w : W) (s : S) : Option D := match f with
  | 0 => match w with
    | .d (.int i) => some (.int (if i < 0 then -i else i))
    | _ => none
  | 1 => ((listOf w s).bind bools).map fun bs => .bl (bs.all id)
  | 2 => ((listOf w s).bind bools).map fun bs => .bl (bs.any id)
  | 3 => (lenW w s).map fun n => .int n
  | 4 => match w with
    | .d (.int i) => some (.int i)
    | .d (.bl b) => some (.int (if b then 1 else 0))
    | .d (.str x) => if x.length ≤ 640 then (PySem.intText? x).map .int else none
    | _ => none
  | 5 => match w with
    | .d (.int i) => if i.natAbs < 2 ^ 1900 then some (.str (toString i : String)) else none
    | _ => none
  | 6 => (seqC w s).map .tup
  | 7 => ((listOf w s).bind intL).bind hdMin
  | 8 => ((listOf w s).bind intL).bind hdMax
  | 9 => ((listOf w s).bind intL).map fun ns => .int ns.sum
  | 10 => (listOf w s).bind fun ds => if sortOk ds then some (.lst (sortD ds)) else none
  | _ => none
def bi2 (f : Nat) (w z : W) : Option D := match f, w, z with
  | 7, .d (.int i), .d (.int j) => some (.int (if j < i then j else i))
  | 8, .d (.int i), .d (.int j) => some (.int (if j > i then j else i))
  | _, _, _ => none
def builtin (f : Nat) (ws : List W) (s : S) : Option D := match ws with
  | [w] => bi1 f w s
  | [w, z] => bi2 f w z
  | _ => none

def put (s : S) (n : Nat) (c : Cell) : S := s.set n c
def strL : List D → Option (List Str)
  | [] => some []
  | .str i :: r => (strL r).map (i :: ·)
  | _ :: _ => none
def joinLen (sep : Str) : List Str → Nat
  | [] => 0
  | x :: xs => x.length + sep.length + joinLen sep xs
/-- values and the new state -/
def method (m : Nat) (o : W) (ws : List W) (s : S) : Option (D × S) := match m, o, ws with
  | 0, .ref n, [.d x] => match s[n]? with
    | some (.lst 0 xs) => if xs.length < LIM then some (.non, put s n (.lst 0 (xs ++ [x]))) else none
    | _ => none
  | 2, .ref n, [] => match s[n]? with
    | some (.lst 0 xs) => match xs.getLast? with
      | some y => some (y, put s n (.lst 0 xs.dropLast))
      | none => none
    | _ => none
  | 2, .ref n, [.d (.int i)] => match s[n]? with
    | some (.lst 0 xs) => if -9223372036854775808 ≤ i ∧ i < 9223372036854775808 then (match L2.ixN xs.length i with
      | some k => match xs[k]? with
        | some y => some (y, put s n (.lst 0 (xs.eraseIdx k)))
        | none => none
      | none => none) else none
    | _ => none
  | 3, .d (.str x), [w] => match (seqOf w s).bind strL with
    | some ys => if joinLen x ys ≤ LIM then some (.str (Str.join x ys), s) else none
    | none => none
  | 4, .d (.str x), [.d (.str y)] => if y.length ≠ 0 ∧ x.length + 2 ≤ LIM ∧ y.cps.toList.all (· < 256) = true then some (.lst ((TL.spl y.cps.toList 0 [] x.cps.toList).map fun z => .str ⟨z.toArray⟩), s) else none
  | _, _, _ => none

def FUEL : Nat := 1000000000000000000
/-- what is walked -/
inductive Src where
  | val (xs : List D) | cell (n : Nat) | enum (k : Int) (x : Src) | zip (x y : Src)
def enumD (k : Int) : List D → List D
  | [] => []
  | x :: xs => .tup [.int k, x] :: enumD (k + 1) xs
def Src.get : Src → S → Option (List D)
  | .val xs, _ => some xs
  | .cell n, s => match s[n]? with
    | some (.lst _ xs) => some xs
    | _ => none
  | .enum k x, s => (x.get s).map (enumD k)
  | .zip x y, s => match x.get s, y.get s with
    | some xs, some ys => some (List.zipWith (fun a b => .tup [a, b]) xs ys)
    | _, _ => none
/-- a list, as what is walked -/
def srcL (w : W) (s : S) : Option Src := match w with
  | .d (.lst xs) => some (.val xs)
  | .ref n => match s[n]? with
    | some (.lst _ _) => some (.cell n)
    | _ => none
  | _ => none
def srcT : W → Option Src
  | .d (.tup xs) => some (.val xs)
  | _ => none
/-- two lists, or two tuples -/
def srcZ (a b : W) (s : S) : Option Src := match srcL a s, srcL b s with
  | some x, some y => some (.zip x y)
  | _, _ => match srcT a, srcT b with
    | some x, some y => some (.zip x y)
    | _, _ => none
/-- a list, a tuple, a text -/
def srcOfE (w : W) (s : S) : Option Src := match w with
  | .d (.str x) => some (.val (x.cps.toList.map fun c => .str ⟨#[c]⟩))
  | .d (.tup xs) => some (.val xs)
  | w => srcL w s

def wipeE (env : Env) : List Nat → Env
  | [] => env
  | v :: vs => (wipeE env vs).set v none

mutual
/-- a value into a target -/
def asgT : T → D → Env → Option Env
  | .name i, x, env => some (env.set i (some (.d x)))
  | .tup ts, .tup xs, env => asgTs ts xs env
  | .tup ts, .lst xs, env => asgTs ts xs env
  | .tup _, _, _ => none
def asgTs : Ts → List D → Env → Option Env
  | .nil, [], env => some env
  | .cons t ts, x :: xs, env => (asgT t x env).bind fun env => asgTs ts xs env
  | _, _, _ => none
end

/-- the turns of a comprehension: turn i on -/
def compGo (x : Src) (f : D → S → R (Option D)) : Nat → Nat → S → R (List D)
  | 0, _, _ => .stuck
  | n + 1, i, s => match x.get s with
    | none => .stuck
    | some ds => match ds[i]? with
      | none => .ok [] s
      | some d => (f d s).bind fun y s => (compGo x f n (i + 1) s).bind fun ys s => .ok (match y with | some y => y :: ys | none => ys) s
/-- the turns of a for: turn i on -/
def forGo (x : Src) (f : D → Env → S → RS) : Nat → Nat → Env → S → RS
  | 0, _, _, _ => .stuck
  | n + 1, i, env, s => match x.get s with
    | none => .stuck
    | some ds => match ds[i]? with
      | none => .nx env s
      | some d => match f d env s with
        | .nx env s => forGo x f n (i + 1) env s
        | .ct env s => forGo x f n (i + 1) env s
        | .br env s => .nx env s
        | r => r
def whileGo : Nat → (Env → S → R Bool) → (Env → S → RS) → Env → S → RS
  | 0, _, _, _, _ => .stuck
  | n + 1, c, f, env, s => match c env s with
    | .ok true s => (match f env s with
      | .nx env s => whileGo n c f env s
      | .ct env s => whileGo n c f env s
      | .br env s => .nx env s
      | r => r)
    | .ok false s => .nx env s
    | .err e v s => .err e v env s
    | .stuck => .stuck

/-- a new list: a value, or a cell -/
def newL (m : Bool) (xs : List D) (s : S) : R W := if xs.length ≤ LIM then (if m then .ok (.ref s.length) (s ++ [.lst 0 xs]) else .ok (.d (.lst xs)) s) else .stuck

def classOf (w : W) (s : S) : Option Nat := match w with
  | .d (.ins c _) => some c
  | .d (.exc c _) => some c
  | .ref n => match s[n]? with
    | some (.ins c _) => some c
    | _ => none
  | _ => none
def fieldAt (w : W) (i : Nat) (s : S) : Option D := match w with
  | .d (.ins _ vs) => vs[i]?
  | .d (.exc _ vs) => vs[i]?
  | .ref n => match s[n]? with
    | some (.ins _ fs) => (fs[i]?).bind id
    | _ => none
  | _ => none
abbrev CallF := Nat → List W → S → R W
def isExcW : W → Bool
  | .d (.exc _ _) => true
  | _ => false
def attrOf (P : Prog) (call : CallF) (o : W) (f : Nat) (s : S) : R W := match (classOf o s).bind P.cls with
  | some C => if C.isExc == isExcW o then (match C.attr f with
    | some (.fld i) => R.of ((fieldAt o i s).map W.d) s
    | some (.prop g) => if C.isExc then .stuck else (call g [o] s).calm
    | none => .stuck) else .stuck
  | none => .stuck
/-- a special method of an own class -/
def own (P : Prog) (w : W) (m : Nat) (s : S) : Option Nat := match w with
  | .d (.ins c _) => (P.cls c).bind fun C => C.meth m
  | _ => none
def builtinC (P : Prog) (call : CallF) (f : Nat) (ws : List W) (s : S) : R W := match f, ws with
  | 3, [w] => match own P w 0 s with
    | some g => call g [w] s
    | none => R.of ((builtin f ws s).map W.d) s
  | _, _ => R.of ((builtin f ws s).map W.d) s
def cmpC (P : Prog) (call : CallF) (o : CmpOp) (a b : W) (s : S) : R W := match o with
  | .Eq => match own P a 3 s with
    | some g => (call g [a, b] s).calm
    | none => R.of ((cmpop o a b s).map fun k => W.d (.bl k)) s
  | .NotEq => match own P a 3 s with
    | some g => (call g [a, b] s).calm.bind fun w s => match w with
      | .d (.bl k) => .ok (.d (.bl (!k))) s
      | _ => .stuck
    | none => R.of ((cmpop o a b s).map fun k => W.d (.bl k)) s
  | .In => match own P b 1 s with
    | some g => (call g [b, a] s).calm
    | none => R.of ((cmpop o a b s).map fun k => W.d (.bl k)) s
  | .NotIn => match own P b 1 s with
    | some g => (call g [b, a] s).calm.bind fun w s => match w with
      | .d (.bl k) => .ok (.d (.bl (!k))) s
      | _ => .stuck
    | none => R.of ((cmpop o a b s).map fun k => W.d (.bl k)) s
  | o => R.of ((cmpop o a b s).map fun k => W.d (.bl k)) s
def indexC (P : Prog) (call : CallF) (o i : W) (s : S) : R W := match own P o 2 s with
  | some g => call g [o, i] s
  | none => R.of ((index o i s).map W.d) s
def isBlt (t : Nat) (x : D) : Bool := match t, x with
  | 0, .int _ => true
  | 0, .bl _ => true
  | 1, .bl _ => true
  | 2, .str _ => true
  | 3, .lst _ => true
  | 4, .tup _ => true
  | _, _ => false
def isOne (P : Prog) (w : W) (t : Bool × Nat) (s : S) : Option Bool := match classOf w s with
  | some c => match P.cls c with
    | some C => if C.isExc == isExcW w then some (if t.1 then C.sups.contains t.2 else C.blt.contains t.2) else none
    | none => none
  | none => match val w s with
    | some x => some (!t.1 && isBlt t.2 x)
    | none => none
def isAny (P : Prog) (w : W) (s : S) : List (Bool × Nat) → Option Bool
  | [] => some false
  | t :: ts => match isOne P w t s, isAny P w s ts with
    | some a, some b => some (a || b)
    | _, _ => none
def mtOk (m : Nat) : Bool := m == 0 || m == 2 || m == 3 || m == 4
/-- of the type whose method it is -/
def recvOk (m : Nat) (w : W) (s : S) : Bool := match w with
  | .ref n => (m == 0 || m == 2) && (match s[n]? with
    | some (.lst _ _) => true
    | _ => false)
  | .d (.str _) => m == 3 || m == 4
  | _ => false
def pick {α : Type} (xs : List α) : List Nat → Option (List α)
  | [] => some []
  | i :: is => match xs[i]?, pick xs is with
    | some x, some ys => some (x :: ys)
    | _, _ => none
/-- an error's fields -/
def excD (C : Cls) (xs : List D) : Option (List D) := if C.arg then (match xs with | [x] => some [x] | _ => none) else (match xs with | [] => some [.tup []] | _ => none)
/-- a class called: what is handed to its __init__ -/
def mkArgs (P : Prog) (c : Nat) (ws : List W) (perm : List Nat) : Option (List W) := match P.cls c with
  | some C => pick (ws ++ C.dfl.map W.d) perm
  | none => none
/-- the clause that takes an error: (class, the clause's name, where it goes) -/
def catchH (P : Prog) (c : Nat) : List (Nat × Nat × Nat) → Option (Option (Nat × Nat))
  | [] => some none
  | (k, i, j) :: r => match P.cls c with
    | some C => if C.isExc then (if C.sups.contains k then some (some (i, j)) else catchH P c r) else none
    | none => none
def uniqD : List D → List D
  | [] => []
  | x :: xs => if isIn x xs then uniqD xs else x :: uniqD xs

mutual
def evE (P : Prog) (call : CallF) : E → Env → S → R W
  | .var i, env, s => match env[i]? with
    | some (some w) => .ok w s
    | _ => .stuck
  | .c d, _, s => .ok (.d d) s
  | .tup es, env, s => (evEs P call es env s).bind fun ws s => match pures ws with
    | some xs => if xs.length ≤ LIM then .ok (.d (.tup xs)) s else .stuck
    | none => .stuck
  | .lst m es, env, s => (evEs P call es env s).bind fun ws s => match pures ws with
    | some xs => newL m xs s
    | none => .stuck
  | .bin o a b, env, s => (evE P call a env s).bind fun x s => (evE P call b env s).bind fun y s => R.of (binop o x y s) s
  | .rep m es k, env, s => (evEs P call es env s).bind fun ws s => match pures ws with
    | some xs => if xs.length ≤ LIM then (evE P call k env s).bind fun z s => (match z with
      | .d (.int i) => if -9223372036854775808 ≤ i ∧ i < 9223372036854775808 ∧ xs.length * i.toNat ≤ LIM then newL m (List.replicate i.toNat xs).flatten s else .stuck
      | _ => .stuck) else .stuck
    | none => .stuck
  | .catm a b, env, s => (evE P call a env s).bind fun x s => (evE P call b env s).bind fun y s => match val x s, val y s with
    | some (.lst xs), some (.lst ys) => if xs.length + ys.length ≤ LIM then newL true (xs ++ ys) s else .stuck
    | _, _ => .stuck
  | .neg a, env, s => (evE P call a env s).bind fun x s => match x with
    | .d (.int i) => .ok (.d (.int (-i))) s
    | _ => .stuck
  | .not a, env, s => (evE P call a env s).bind fun x s => R.of ((truthy x s).map fun k => .d (.bl (!k))) s
  | .bop o es, env, s => evBop P call o es env s
  | .orv a b, env, s => (evE P call a env s).bind fun x s => match truthy x s with
    | some true => .ok x s
    | some false => evE P call b env s
    | none => .stuck
  | .cmp o a b, env, s => (evE P call a env s).bind fun x s => (evE P call b env s).bind fun y s => cmpC P call o x y s
  | .chain a o1 b o2 c, env, s => (evE P call a env s).bind fun x s => (evE P call b env s).bind fun y s =>
    (R.of (cmpop o1 x y s) s).bind fun k s => if k then (evE P call c env s).bind fun z s => R.of ((cmpop o2 y z s).map fun k => .d (.bl k)) s else .ok (.d (.bl false)) s
  | .ite c a b, env, s => (evE P call c env s).bind fun x s => match truthy x s with
    | some true => evE P call a env s
    | some false => evE P call b env s
    | none => .stuck
  | .call f es, env, s => (evEs P call es env s).bind fun ws s => call f ws s
  | .callk f es _ kes perm, env, s => (evEs P call es env s).bind fun ws s => (evEs P call kes env s).bind fun zs s => match pick (ws ++ zs) perm with
    | some us => call f us s
    | none => .stuck
  | .smeth _ m es, env, s => (evEs P call es env s).bind fun ws s => call m ws s
  | .mk c es kes perm, env, s => (evEs P call es env s).bind fun ws s => (evEs P call kes env s).bind fun zs s => match mkArgs P c (ws ++ zs) perm with
    | some us => call c us s
    | none => .stuck
  | .bi f es, env, s => (evEs P call es env s).bind fun ws s => builtinC P call f ws s
  | .isi a tys, env, s => (evE P call a env s).bind fun w s => R.of ((isAny P w s tys).map fun k => .d (.bl k)) s
  | .meth m o es, env, s => (evE P call o env s).bind fun w s => if mtOk m then (if recvOk m w s then (evEs P call es env s).bind fun ws s => (match method m w ws s with
      | some (x, s) => .ok (.d x) s
      | none => .stuck) else .stuck)
    else match (classOf w s).bind P.cls with
      | some C => if C.isExc || isExcW w then .stuck else (match C.meth m with
        | some g => (evEs P call es env s).bind fun ws s => call g (w :: ws) s
        | none => .stuck)
      | none => .stuck
  | .attr o f, env, s => (evE P call o env s).bind fun w s => attrOf P call w f s
  | .idx o i, env, s => (evE P call o env s).bind fun x s => (evE P call i env s).bind fun y s => indexC P call x y s
  | .slice o lo hi, env, s => (evE P call o env s).bind fun x s => (evPart P call lo env s).bind fun y s => (evPart P call hi env s).bind fun z s => R.of ((sliceOf x y z s).map W.d) s
  | .comp m elt tg it cond own, env, s => (evI P call it env s).bind fun r s =>
    (compGo r (fun x s => match asgT tg x (wipeE env own) with
      | none => .stuck
      | some env2 => (evCond P call cond env2 s).bind fun k s => if k then (evE P call elt env2 s).bind fun w s => (match w with
        | .d y => .ok (some y) s
        | .ref _ => .stuck) else .ok none s) FUEL 0 s).calm.bind fun ys s => newL m ys s
  | .srtset a, env, s => (evE P call a env s).bind fun w s => match seqOf w s with
    | some xs => if D.plainL xs && ltOk xs then .ok (.d (.lst (sortD (uniqD xs)))) s else .stuck
    | none => .stuck
  | .lstof m a, env, s => (evE P call a env s).bind fun w s => match seqC w s with
    | some xs => newL m xs s
    | none => .stuck
  | .mdic, _, s => .ok (.ref s.length) (s ++ [.dic 0 [] []])
def evEs (P : Prog) (call : CallF) : Es → Env → S → R (List W)
  | .nil, _, s => .ok [] s
  | .cons e es, env, s => (evE P call e env s).bind fun w s => (evEs P call es env s).bind fun ws s => .ok (w :: ws) s
  | .star e es, env, s => (evE P call e env s).bind fun w s => match seqOf w s with
    | some xs => (evEs P call es env s).bind fun ws s => .ok (xs.map W.d ++ ws) s
    | none => .stuck
/-- and, or: all but the last a bool -/
def evBop (P : Prog) (call : CallF) (o : BoolOp) : Es → Env → S → R W
  | .nil, _, _ => .stuck
  | .cons e .nil, env, s => evE P call e env s
  | .cons e es, env, s => (evE P call e env s).bind fun w s => match w with
    | .d (.bl k) => if k == (o == .And) then evBop P call o es env s else .ok (.d (.bl k)) s
    | _ => .stuck
  | .star _ _, _, _ => .stuck
/-- a part of a slice -/
def evPart (P : Prog) (call : CallF) : Es → Env → S → R (Option Int)
  | .nil, _, s => .ok none s
  | .cons e _, env, s => (evE P call e env s).bind fun w s => match w with
    | .d (.int i) => .ok (some i) s
    | _ => .stuck
  | .star _ _, _, _ => .stuck
def evCond (P : Prog) (call : CallF) : Es → Env → S → R Bool
  | .nil, _, s => .ok true s
  | .cons e _, env, s => (evE P call e env s).bind fun w s => R.of (truthy w s) s
  | .star _ _, _, _ => .stuck
/-- what a for or a comprehension walks -/
def evI (P : Prog) (call : CallF) : I → Env → S → R Src
  | .e x, env, s => (evE P call x env s).bind fun w s => R.of (srcOfE w s) s
  | .range1 a, env, s => (evE P call a env s).bind fun w s => match w with
    | .d (.int j) => if -4611686018427387904 ≤ j ∧ j < 4611686018427387904 then .ok (.val ((List.range j.toNat).map fun (i : Nat) => D.int i)) s else .stuck
    | _ => .stuck
  | .range2 a b, env, s => (evE P call a env s).bind fun w s => (evE P call b env s).bind fun z s => match w, z with
    | .d (.int i), .d (.int j) => if (-4611686018427387904 ≤ i ∧ i < 4611686018427387904 ∧ -4611686018427387904 ≤ j ∧ j < 4611686018427387904) then .ok (.val ((List.range (j - i).toNat).map fun (n : Nat) => D.int (i + n))) s else .stuck
    | _, _ => .stuck
  | .enum x, env, s => (evE P call x env s).bind fun w s => R.of ((srcL w s).map (.enum 0)) s
  | .enum2 _ _, _, _ => .stuck
  | .zip x y, env, s => (evE P call x env s).bind fun w s => (evE P call y env s).bind fun z s => R.of (srcZ w z s) s
end

def setAll (env : Env) : List Nat → List W → Option Env
  | [], [] => some env
  | i :: is, w :: ws => setAll (env.set i (some w)) is ws
  | _, _ => none
/-- o[i] = v -/
def setIt (o i : W) (v : D) (s : S) : Option S := match o, i with
  | .ref n, .d k => match s[n]? with
    | some (.lst 0 xs) => (match k with
      | .int i => if -9223372036854775808 ≤ i ∧ i < 9223372036854775808 then (match L2.ixN xs.length i with
        | some k => some (s.set n (.lst 0 (xs.set k v)))
        | none => none) else none
      | _ => none)
    | _ => none
  | _, _ => none
/-- o.f = v -/
def setAt (P : Prog) (o : W) (f : Nat) (v : D) (s : S) : Option S := match o with
  | .ref n => match s[n]? with
    | some (.ins c fs) => (match (P.cls c).bind fun C => C.attr f with
      | some (.fld i) => if i < fs.length then some (s.set n (.ins c (fs.set i (some v)))) else none
      | _ => none)
    | _ => none
  | _ => none
mutual
def evS (P : Prog) (call : CallF) : Sm → Env → S → RS
  | .exp e, env, s => (evE P call e env s).then env fun _ s => .nx env s
  | .asg i e, env, s => (evE P call e env s).then env fun w s => .nx (env.set i (some w)) s
  | .par is es, env, s => (evEs P call es env s).then env fun ws s => match setAll env is ws with
    | some env => .nx env s
    | none => .stuck
  | .unp t e, env, s => (evE P call e env s).then env fun w s => match w with
    | .d x => (match asgT t x env with
      | some env => .nx env s
      | none => .stuck)
    | .ref _ => .stuck
  | .seti o i e, env, s => (evE P call e env s).then env fun v s => (evE P call o env s).then env fun w s => (evE P call i env s).then env fun k s => match v with
    | .d v => (match setIt w k v s with
      | some s => .nx env s
      | none => .stuck)
    | .ref _ => .stuck
  | .seta o f e, env, s => (evE P call e env s).then env fun v s => (evE P call o env s).then env fun w s => match v with
    | .d v => (match setAt P w f v s with
      | some s => .nx env s
      | none => .stuck)
    | .ref _ => .stuck
  | .aug i o e, env, s => match env[i]? with
    | some (some w) => (evE P call e env s).then env fun v s => (R.of (binop o w v s) s).then env fun z s => .nx (env.set i (some z)) s
    | _ => .stuck
  | .ret e, env, s => (evE P call e env s).then env fun w s => .rt w s
  | .retn, _, s => .rt (.d .non) s
  | .pass, env, s => .nx env s
  | .brk, env, s => .br env s
  | .ife c a b, env, s => (evE P call c env s).then env fun w s => match truthy w s with
    | some true => evSs P call a env s
    | some false => evSs P call b env s
    | none => .stuck
  | .for_ tg it b, env, s => (evI P call it env s).then env fun r s =>
    forGo r (fun x env s => match asgT tg x env with
      | none => .stuck
      | some env => evSs P call b env s) FUEL 0 env s
  | .whl c b, env, s => whileGo FUEL (fun env s => (evE P call c env s).bind fun w s => R.of (truthy w s) s) (fun env s => evSs P call b env s) env s
  | .raise c es kes perm, env, s => ((evEs P call es env s).bind fun ws s => (evEs P call kes env s).bind fun zs s => match mkArgs P c (ws ++ zs) perm with
    | some us => call c us s
    | none => .stuck).then env fun w s => match w with
    | .d (.exc c vs) => .err c vs env s
    | _ => .stuck
  | .tryk b hs, env, s => match evSs P call b env s with
    | .err c vs env s => (match catchH P c hs with
      | some (some (i, j)) => .nx ((env.set j (some (.d (.exc c vs)))).set i none) s
      | some none => .err c vs env s
      | none => .stuck)
    | r => r
  | .never, _, _ => .stuck
def evSs (P : Prog) (call : CallF) : Sms → Env → S → RS
  | .nil, env, s => .nx env s
  | .cons st ss, env, s => (evS P call st env s).seq fun env s => evSs P call ss env s
end

/-- a def's end: what it made goes, but for what it hands back -/
def leave (keep : Bool) (n : Nat) (r : RS) : R W := match r with
  | .nx _ s => .ok (.d .non) (if keep then s else s.take n)
  | .rt w s => if keep then .ok w s else (match w with
    | .d x => .ok (.d x) (s.take n)
    | .ref k => if k < n then .stuck else (match s[k]? with
      | some (.lst _ xs) => .ok (.d (.lst xs)) (s.take n)
      | _ => .stuck))
  | .err c vs _ s => .err c vs (if keep then s else s.take n)
  | _ => .stuck
def allSome : List (Option D) → Option (List D)
  | [] => some []
  | some x :: r => (allSome r).map (x :: ·)
  | none :: _ => none
/-- an instance that __init__ has filled, told as a value -/
def made (c n : Nat) (r : R W) : R W := r.bind fun _ s => match s[n]? with
  | some (.ins _ fs) => (match allSome fs with
    | some vs => .ok (.d (.ins c vs)) (s.take n)
    | none => .stuck)
  | _ => .stuck
def callN (P : Prog) : Nat → CallF
  | 0 => fun _ _ _ => .stuck
  | n + 1 => fun f ws s => match P.fn f with
    | some F => if ws.length ≤ F.ps ∧ F.ps - ws.length ≤ F.dfl.length then
        (let us := ws ++ (F.dfl.drop (F.dfl.length - (F.ps - ws.length))).map W.d
         leave F.keep s.length (evSs P (callN P n) F.body (us.map some ++ List.replicate (F.slots - F.ps) none) s)) else .stuck
    | none => match P.cls f with
      | some C => if C.isExc then (match pures ws with
          | some xs => (match excD C xs with
            | some ys => .ok (.d (.exc f ys)) s
            | none => .stuck)
          | none => .stuck)
        else made f s.length (callN P n C.init (.ref s.length :: ws) (s ++ [.ins f (List.replicate C.fields none)]))
      | none => .stuck
end FT

namespace FT
open PySem PySem.Spec PyProof.Rows L2 SlX

/-- the cells' addresses, and further ones that may be written -/
structure Et where
  κ : List Addr
  φ : List Addr
instance : Membership Addr Et := ⟨fun η a => a ∈ η.κ ∨ a ∈ η.φ⟩
theorem Et.mem {η : Et} {a : Addr} : a ∈ η ↔ a ∈ η.κ ∨ a ∈ η.φ := Iff.rfl
def Et.more (η : Et) (p : Addr) : Et := ⟨η.κ ++ [p], η.φ⟩
theorem Et.mem_more {η : Et} {a p : Addr} : a ∈ η.more p ↔ a ∈ η ∨ a = p := by
  show (a ∈ η.κ ++ [p] ∨ a ∈ η.φ) ↔ (a ∈ η.κ ∨ a ∈ η.φ) ∨ a = p
  rw [List.mem_append, List.mem_singleton]
  constructor
  · rintro ((h | h) | h)
    · exact .inl (.inl h)
    · exact .inr h
    · exact .inl (.inr h)
  · rintro ((h | h) | h)
    · exact .inl (.inl h)
    · exact .inr h
    · exact .inl (.inr h)
/-- where the text's classes stand -/
structure GG where
  P : Prog
  K : PySem.W.Frag
  clsA : Nat → Option Addr
  fldN : Nat → List Str

def WrL (K : PySem.W.Frag) (a : Addr) (xs : List V) : Prop := ∃ (o : Obj) (its : Array Value) (n : Nat), K.lookup a = some o ∧ o.cls = .type "list" ∧ o.dict = none ∧ o.data = .seq its n ∧ its.size ≤ sizeLine ∧ Vals xs its.toList
def WrT (K : PySem.W.Frag) (a : Addr) (xs : List V) : Prop := ∃ (o : Obj) (its : Array Value) (n : Nat), K.lookup a = some o ∧ o.cls = .type "tuple" ∧ o.data = .seq its n ∧ its.size ≤ sizeLine ∧ Vals xs its.toList
def FzL (K : PySem.W.Frag) (H : Hp) (η : Et) (a : Addr) (xs : List V) : Prop := (Rd H a (.lst xs) ∧ a ∉ η) ∨ WrL K a xs
def FzT (K : PySem.W.Frag) (H : Hp) (η : Et) (a : Addr) (xs : List V) : Prop := (Rd H a (.tup xs) ∧ a ∉ η) ∨ WrT K a xs
theorem FzL.seq {K : PySem.W.Frag} {H : Hp} {η : Et} {a : Addr} {xs : List V} (h : FzL K H η a xs) : SqL K H a xs := h.elim (fun x => .inl x.1) .inr
theorem FzT.seq {K : PySem.W.Frag} {H : Hp} {η : Et} {a : Addr} {xs : List V} (h : FzT K H η a xs) : SqT K H a xs := h.elim (fun x => .inl x.1) .inr

/-- an exception that was caught, by its object -/
def ExP (a C d : Addr) (h : Heap) : Prop := ∃ oe vs, h.get? a = some oe ∧ oe.cls = .ref C ∧ oe.dict = some d ∧ oe.data = .fields vs
abbrev ExO (a C d : Addr) : HO := .ext (ExP a C d)

mutual
inductive RD (G : GG) (H : Hp) (η : Et) : D → V → Prop
  | non : RD G H η .non .non
  | bl (b : Bool) : RD G H η (.bl b) (.bl b)
  | int (i : Int) : RD G H η (.int i) (.int i)
  | str (x : Str) (h : PyData.strOk x = true) : RD G H η (.str x) (.str x)
  | tup {a : Addr} {vs : List V} {ds : List D} : FzT G.K H η a vs → RDs G H η ds vs → RD G H η (.tup ds) (.ref a)
  | lst {a : Addr} {vs : List V} {ds : List D} : FzL G.K H η a vs → RDs G H η ds vs → RD G H η (.lst ds) (.ref a)
  | exc {c : Nat} {C a d : Addr} {vs : List V} {ds : List D} : G.clsA c = some C → H a = some (ExO a C d) → a ∉ η → H d = some (.xd ((G.fldN c).zip vs)) → d ∉ η → (G.fldN c).length = vs.length → RDs G H η ds vs → RD G H η (.exc c ds) (.ref a)
  | ins {c : Nat} {C a dx : Addr} {vs : List V} {ds : List D} : G.clsA c = some C → H a = some (SlO a C dx (vs.map some)) → a ∉ η → H dx = some (.xd []) → dx ∉ η → RDs G H η ds vs → RD G H η (.ins c ds) (.ref a)
inductive RDs (G : GG) (H : Hp) (η : Et) : List D → List V → Prop
  | nil : RDs G H η [] []
  | cons {d : D} {ds : List D} {v : V} {vs : List V} : RD G H η d v → RDs G H η ds vs → RDs G H η (d :: ds) (v :: vs)
end

/-- what is no cell stays, and does not become one -/
def Le (H : Hp) (η : Et) (H' : Hp) (η' : Et) : Prop := ∀ a o, H a = some o → a ∉ η → H' a = some o ∧ a ∉ η'
theorem Le.refl (H : Hp) (η : Et) : Le H η H η := fun _ _ h n => ⟨h, n⟩
theorem Le.trans {H H1 H2 : Hp} {η η1 η2 : Et} (a : Le H η H1 η1) (b : Le H1 η1 H2 η2) : Le H η H2 η2 := fun c o h n => b c o (a c o h n).1 (a c o h n).2
theorem Le.fzL {K : PySem.W.Frag} {H H' : Hp} {η η' : Et} {a : Addr} {xs : List V} (l : Le H η H' η') (h : FzL K H η a xs) : FzL K H' η' a xs := by
  rcases h with ⟨h | ⟨o, h⟩, n⟩ | h
  · exact .inl ⟨.inl (l _ _ h n).1, (l _ _ h n).2⟩
  · exact .inl ⟨.inr ⟨o, (l _ _ h n).1⟩, (l _ _ h n).2⟩
  · exact .inr h
theorem Le.fzT {K : PySem.W.Frag} {H H' : Hp} {η η' : Et} {a : Addr} {xs : List V} (l : Le H η H' η') (h : FzT K H η a xs) : FzT K H' η' a xs := by
  rcases h with ⟨h | ⟨o, h⟩, n⟩ | h
  · exact .inl ⟨.inl (l _ _ h n).1, (l _ _ h n).2⟩
  · exact .inl ⟨.inr ⟨o, (l _ _ h n).1⟩, (l _ _ h n).2⟩
  · exact .inr h
section
variable {G : GG} {H H' : Hp} {η η' : Et}
mutual
theorem RD.mono (l : Le H η H' η') : ∀ {d : D} {v : V}, RD G H η d v → RD G H' η' d v
  | _, _, .non => .non
  | _, _, .bl b => .bl b
  | _, _, .int i => .int i
  | _, _, .str x h => .str x h
  | _, _, .tup h r => .tup (l.fzT h) (RDs.mono l r)
  | _, _, .lst h r => .lst (l.fzL h) (RDs.mono l r)
  | _, _, .exc c h n hd nd e r => .exc c (l _ _ h n).1 (l _ _ h n).2 (l _ _ hd nd).1 (l _ _ hd nd).2 e (RDs.mono l r)
  | _, _, .ins c h n hd nd r => .ins c (l _ _ h n).1 (l _ _ h n).2 (l _ _ hd nd).1 (l _ _ hd nd).2 (RDs.mono l r)
theorem RDs.mono (l : Le H η H' η') : ∀ {ds : List D} {vs : List V}, RDs G H η ds vs → RDs G H' η' ds vs
  | _, _, .nil => .nil
  | _, _, .cons h r => .cons (RD.mono l h) (RDs.mono l r)
end
theorem RDs.length : ∀ {ds : List D} {vs : List V}, RDs G H η ds vs → ds.length = vs.length
  | _, _, .nil => rfl
  | _, _, .cons _ r => congrArg (· + 1) (RDs.length r)
theorem RDs.append : ∀ {ds es : List D} {vs ws : List V}, RDs G H η ds vs → RDs G H η es ws → RDs G H η (ds ++ es) (vs ++ ws)
  | _, _, _, _, .nil, q => q
  | _, _, _, _, .cons h r, q => .cons h (RDs.append r q)
theorem RDs.get : ∀ {ds : List D} {vs : List V} {i : Nat} {d : D}, RDs G H η ds vs → ds[i]? = some d → ∃ v, vs[i]? = some v ∧ RD G H η d v
  | _, _, _, _, .nil, e => by simp at e
  | _, _, 0, _, .cons h _, e => by simp at e; subst e; exact ⟨_, rfl, h⟩
  | _, _, i + 1, _, .cons _ r, e => by
    obtain ⟨v, h1, h2⟩ := RDs.get (i := i) r (by simpa using e)
    exact ⟨v, by simpa using h1, h2⟩
theorem RDs.get' : ∀ {ds : List D} {vs : List V} {i : Nat} {v : V}, RDs G H η ds vs → vs[i]? = some v → ∃ d, ds[i]? = some d ∧ RD G H η d v
  | _, _, _, _, .nil, e => by simp at e
  | _, _, 0, _, .cons h _, e => by simp at e; subst e; exact ⟨_, rfl, h⟩
  | _, _, i + 1, _, .cons _ r, e => by
    obtain ⟨v, h1, h2⟩ := RDs.get' (i := i) r (by simpa using e)
    exact ⟨v, by simpa using h1, h2⟩
theorem RDs.set {d : D} {v : V} (h : RD G H η d v) : ∀ {ds : List D} {vs : List V} (i : Nat), RDs G H η ds vs → RDs G H η (ds.set i d) (vs.set i v)
  | _, _, _, .nil => .nil
  | _, _, 0, .cons _ r => .cons h r
  | _, _, i + 1, .cons q r => .cons q (RDs.set h i r)
theorem RDs.take : ∀ {ds : List D} {vs : List V} (n : Nat), RDs G H η ds vs → RDs G H η (ds.take n) (vs.take n)
  | _, _, 0, _ => by simp; exact .nil
  | _, _, n + 1, .nil => .nil
  | _, _, n + 1, .cons h r => .cons h (RDs.take n r)
theorem RDs.drop : ∀ {ds : List D} {vs : List V} (n : Nat), RDs G H η ds vs → RDs G H η (ds.drop n) (vs.drop n)
  | _, _, 0, r => by simpa using r
  | _, _, n + 1, .nil => .nil
  | _, _, n + 1, .cons _ r => by simpa using RDs.drop n r
theorem RDs.dropLast : ∀ {ds : List D} {vs : List V}, RDs G H η ds vs → RDs G H η ds.dropLast vs.dropLast := fun {ds vs} r => by
  rw [List.dropLast_eq_take, List.dropLast_eq_take, r.length]
  exact r.take _
theorem RDs.eraseIdx : ∀ {ds : List D} {vs : List V} (i : Nat), RDs G H η ds vs → RDs G H η (ds.eraseIdx i) (vs.eraseIdx i)
  | _, _, _, .nil => by simp; exact .nil
  | _, _, 0, .cons _ r => r
  | _, _, i + 1, .cons q r => .cons q (RDs.eraseIdx i r)

/-- a word -/
def RW (G : GG) (H : Hp) (η : Et) : W → V → Prop
  | .d x, v => RD G H η x v
  | .ref n, v => ∃ a, η.κ[n]? = some a ∧ v = .ref a
inductive RWs (G : GG) (H : Hp) (η : Et) : List W → List V → Prop
  | nil : RWs G H η [] []
  | cons {d : W} {ds : List W} {v : V} {vs : List V} : RW G H η d v → RWs G H η ds vs → RWs G H η (d :: ds) (v :: vs)
theorem RWs.length : ∀ {ds : List W} {vs : List V}, RWs G H η ds vs → ds.length = vs.length
  | _, _, .nil => rfl
  | _, _, .cons _ r => congrArg (· + 1) (RWs.length r)
theorem RWs.append : ∀ {ds es : List W} {vs ws : List V}, RWs G H η ds vs → RWs G H η es ws → RWs G H η (ds ++ es) (vs ++ ws)
  | _, _, _, _, .nil, q => q
  | _, _, _, _, .cons h r, q => .cons h (RWs.append r q)
/-- a step on: what is no cell stays; the cells so far stay cells -/
structure Step0 (H : Hp) (η : Et) (H' : Hp) (η' : Et) : Prop where
  le : Le H η H' η'
  pre : η.κ <+: η'.κ
theorem Step0.refl (H : Hp) (η : Et) : Step0 H η H η := ⟨Le.refl _ _, List.prefix_rfl⟩
theorem Step0.trans {H1 H2 : Hp} {η1 η2 : Et} (a : Step0 H η H1 η1) (b : Step0 H1 η1 H2 η2) : Step0 H η H2 η2 := ⟨a.le.trans b.le, a.pre.trans b.pre⟩
theorem Step0.at (l : Step0 H η H' η') {n : Nat} {a : Addr} (h : η.κ[n]? = some a) : η'.κ[n]? = some a := by
  obtain ⟨t, e⟩ := l.pre
  have hn : n < η.κ.length := (List.getElem?_eq_some_iff.mp h).1
  rw [← e, List.getElem?_append_left hn]; exact h
theorem RW.mono0 (l : Step0 H η H' η') : ∀ {w : W} {v : V}, RW G H η w v → RW G H' η' w v
  | .d _, _, h => RD.mono l.le h
  | .ref _, _, ⟨a, h, e⟩ => ⟨a, l.at h, e⟩
theorem RWs.mono0 (l : Step0 H η H' η') : ∀ {ws : List W} {vs : List V}, RWs G H η ws vs → RWs G H' η' ws vs
  | _, _, .nil => .nil
  | _, _, .cons h r => .cons (RW.mono0 l h) (RWs.mono0 l r)
/-- .. and what else may be written is let alone -/
structure Step (H : Hp) (η : Et) (H' : Hp) (η' : Et) : Prop extends Step0 H η H' η' where
  phi : η'.φ = η.φ
  kp : ∀ a ∈ η.φ, H' a = H a
theorem Step.refl (H : Hp) (η : Et) : Step H η H η := ⟨Step0.refl _ _, rfl, fun _ _ => rfl⟩
theorem Step.trans {H1 H2 : Hp} {η1 η2 : Et} (a : Step H η H1 η1) (b : Step H1 η1 H2 η2) : Step H η H2 η2 := ⟨a.toStep0.trans b.toStep0, b.phi.trans a.phi, fun c hc => (b.kp c (by rw [a.phi]; exact hc)).trans (a.kp c hc)⟩
theorem Step.at (l : Step H η H' η') {n : Nat} {a : Addr} (h : η.κ[n]? = some a) : η'.κ[n]? = some a := l.toStep0.at h
theorem RW.mono (l : Step H η H' η') {w : W} {v : V} (h : RW G H η w v) : RW G H' η' w v := RW.mono0 l.toStep0 h
theorem RWs.mono (l : Step H η H' η') {ws : List W} {vs : List V} (h : RWs G H η ws vs) : RWs G H' η' ws vs := RWs.mono0 l.toStep0 h

/-- a cell's content -/
def CellOk (G : GG) (H : Hp) (η : Et) (a : Addr) : Cell → Prop
  | .lst _ xs => ∃ vs, H a = some (.lst vs) ∧ RDs G H η xs vs
  | .dic _ ks vs => False
  | .ins c fs => ∃ C dx vs, G.clsA c = some C ∧ Slt H a C dx vs ∧ dx ∉ η ∧ dx ≠ a ∧ (∃ u, H dx = some u) ∧ ∀ (i : Nat) d, fs[i]? = some (some d) → ∃ v, vs[i]? = some (some v) ∧ RD G H η d v
structure AbsS (G : GG) (H : Hp) (η : Et) (s : S) : Prop where
  len : η.κ.length = s.length
  nd : η.κ.Nodup
  at' : ∀ (i : Nat) a c, η.κ[i]? = some a → s[i]? = some c → CellOk G H η a c
  fb : ∀ a ∈ η.φ, ∃ o, H a = some o
  dj : ∀ a ∈ η.φ, a ∉ η.κ
theorem CellOk.some {a : Addr} {c : Cell} (h : CellOk G H η a c) : ∃ o, H a = some o := by
  cases c with
  | lst k xs => obtain ⟨vs, e, _⟩ := h; exact ⟨_, e⟩
  | dic => exact h.elim
  | ins c fs =>
    obtain ⟨C, dx, vs, _, e, _⟩ := h
    rcases e with e | e
    · exact ⟨_, e.1⟩
    · exact ⟨_, e.1⟩
theorem AbsS.cell {s : S} (h : AbsS G H η s) {n : Nat} {c : Cell} (e : s[n]? = some c) : ∃ a, η.κ[n]? = some a ∧ CellOk G H η a c := by
  have hn : n < s.length := (List.getElem?_eq_some_iff.mp e).1
  have hn' : n < η.κ.length := by rw [h.len]; exact hn
  exact ⟨η.κ[n], by simp [hn'], h.at' n _ c (by simp [hn']) e⟩
theorem AbsS.some {s : S} (h : AbsS G H η s) {a : Addr} (ha : a ∈ η) : ∃ o, H a = some o := by
  rcases ha with ha | ha
  case inr => exact h.fb a ha
  obtain ⟨n, hn, e⟩ := List.getElem_of_mem ha
  have hs : n < s.length := by rw [← h.len]; exact hn
  exact (h.at' n a s[n] (by simp [hn, e]) (by simp [hs])).some
theorem AbsS.fresh {s : S} (h : AbsS G H η s) {p : Addr} (hp : H p = none) : p ∉ η := fun hm => by
  obtain ⟨o, e⟩ := h.some hm
  rw [hp] at e; cases e

/-- a new object that is no cell -/
theorem Step.laid {p : Addr} {o : HO} (hp : H p = none) (hη : p ∉ η) : Step H η (upd H p o) η := ⟨⟨fun a u e n => ⟨by rw [upd_ne (ne_of_none e hp)]; exact e, n⟩, List.prefix_rfl⟩, rfl, fun a ha => upd_ne fun z => hη (.inr (z ▸ ha))⟩
theorem CellOk.laid {s : S} {a p : Addr} {o : HO} {c : Cell} (h : CellOk G H η a c) (hp : H p = none) (hη : p ∉ η) (ha : a ∈ η) : CellOk G (upd H p o) η a c := by
  have st : Step H η (upd H p o) η := Step.laid hp hη
  have ne : a ≠ p := fun z => hη (z ▸ ha)
  cases c with
  | lst k xs => obtain ⟨vs, e, r⟩ := h; exact ⟨vs, by rw [upd_ne ne]; exact e, r.mono st.le⟩
  | dic => exact h.elim
  | ins c fs =>
    obtain ⟨C, dx, vs, e, sl, n1, n2, ⟨u, hu⟩, q⟩ := h
    have nd : p ≠ dx := fun z => by
      subst z
      rw [hp] at hu; cases hu
    refine ⟨C, dx, vs, e, ?_, n1, n2, ⟨u, by rw [upd_ne nd.symm]; exact hu⟩, fun i d e => let ⟨v, e1, r⟩ := q i d e; ⟨v, e1, r.mono st.le⟩⟩
    rcases sl with sl | sl
    · exact .inl ⟨by rw [upd_ne ne]; exact sl.1, sl.2⟩
    · exact .inr ⟨by rw [upd_ne ne]; exact sl.1, by rw [upd_ne nd.symm]; exact sl.2⟩
theorem Le.more {p : Addr} {o : HO} (hp : H p = none) : Le H η (upd H p o) (η.more p) := fun a o e n => ⟨by rw [upd_ne (ne_of_none e hp)]; exact e, fun z => (Et.mem_more.mp z).elim n (ne_of_none e hp)⟩
theorem CellOk.laid2 {a p : Addr} {o : HO} {c : Cell} (h : CellOk G H η a c) (hp : H p = none) (hη : p ∉ η) (ha : a ∈ η) : CellOk G (upd H p o) (η.more p) a c := by
  have le : Le H η (upd H p o) (η.more p) := Le.more hp
  have ne : a ≠ p := fun z => hη (z ▸ ha)
  cases c with
  | lst k xs => obtain ⟨vs, e, r⟩ := h; exact ⟨vs, by rw [upd_ne ne]; exact e, r.mono le⟩
  | dic => exact h.elim
  | ins c fs =>
    obtain ⟨C, dx, vs, e, sl, n1, n2, ⟨u, hu⟩, q⟩ := h
    have nd : p ≠ dx := fun z => by
      subst z
      rw [hp] at hu; cases hu
    refine ⟨C, dx, vs, e, ?_, fun z => (Et.mem_more.mp z).elim n1 fun z => nd z.symm, n2, ⟨u, by rw [upd_ne nd.symm]; exact hu⟩, fun i d e => let ⟨v, e1, r⟩ := q i d e; ⟨v, e1, r.mono le⟩⟩
    rcases sl with sl | sl
    · exact .inl ⟨by rw [upd_ne ne]; exact sl.1, sl.2⟩
    · exact .inr ⟨by rw [upd_ne ne]; exact sl.1, by rw [upd_ne nd.symm]; exact sl.2⟩
theorem AbsS.laid {s : S} {p : Addr} {o : HO} (h : AbsS G H η s) (hp : H p = none) : AbsS G (upd H p o) η s :=
  ⟨h.len, h.nd, fun i a c e1 e2 => (h.at' i a c e1 e2).laid (s := s) hp (h.fresh hp) (.inl (List.mem_of_getElem? e1)), fun a ha => let ⟨o, e⟩ := h.fb a ha; ⟨o, by rw [upd_ne (ne_of_none e hp)]; exact e⟩, h.dj⟩
end
end FT

namespace FT
open PySem PySem.Spec PyProof.Rows L2 SlX
theorem R.bind_assoc {α β γ : Type} (r : R α) (f : α → S → R β) (g : β → S → R γ) : (r.bind f).bind g = r.bind fun a s => (f a s).bind g := by
  cases r <;> rfl

def ErrOk (G : GG) (H : Hp) (η : Et) (c : Nat) (ds : List D) (cls : Value) (d : Option Addr) : Prop :=
  ∃ C dA vs, G.clsA c = some C ∧ cls = .ref C ∧ d = some dA ∧ H dA = some (.xd ((G.fldN c).zip vs)) ∧ dA ∉ η ∧ (G.fldN c).length = vs.length ∧ RDs G H η ds vs
abbrev WH := Value → Option Addr → Hp → Prop
def Post {α β : Type} (G : GG) (W : WH) (Rl : Hp → Et → α → β → Prop) (H : Hp) (η : Et) (r : R α) (Q : β → Hp → Prop) : Prop := match r with
  | .ok a s' => ∀ b H' η', Step H η H' η' → AbsS G H' η' s' → Rl H' η' a b → Q b H'
  | .err c ds s' => ∀ cls d H' η', Step H η H' η' → AbsS G H' η' s' → ErrOk G H' η' c ds cls d → W cls d H'
  | .stuck => False
section
variable {α β γ δ : Type} {G : GG} {W : WH} {Rl : Hp → Et → α → β → Prop} {Rm : Hp → Et → γ → δ → Prop} {H H' : Hp} {η η' : Et}
theorem Post.step {r : R α} {Q : β → Hp → Prop} (h : Post G W Rl H η r Q) (st : Step H η H' η') : Post G W Rl H' η' r Q := by
  cases r with
  | ok a s => exact fun b H2 η2 st2 ab rl => h b H2 η2 (st.trans st2) ab rl
  | err c ds s => exact fun cls d H2 η2 st2 ab er => h cls d H2 η2 (st.trans st2) ab er
  | stuck => exact h
theorem Post.mono {r : R α} {Q Q' : β → Hp → Prop} (h : Post G W Rl H η r Q) (q : ∀ b H', Q b H' → Q' b H') : Post G W Rl H η r Q' := by
  cases r with
  | ok a s => exact fun b H2 η2 st2 ab rl => q _ _ (h b H2 η2 st2 ab rl)
  | err c ds s => exact h
  | stuck => exact h
/-- a run and what follows it -/
theorem Post.bind {r : R α} {f : α → S → R γ} {Q : δ → Hp → Prop} (h : Post G W Rm H η (r.bind f) Q) :
    Post G W Rl H η r (fun b H' => ∃ η' a s', Step H η H' η' ∧ AbsS G H' η' s' ∧ Rl H' η' a b ∧ Post G W Rm H' η' (f a s') Q) := by
  cases r with
  | ok a s => exact fun b H2 η2 st ab rl => ⟨η2, a, s, st, ab, rl, Post.step (h : Post G W Rm H η (f a s) Q) st⟩
  | err c ds s => exact h
  | stuck => exact h
theorem Post.ok {a : α} {s : S} {Q : β → Hp → Prop} {b : β} (h : Post G W Rl H η (.ok a s) Q) (ab : AbsS G H η s) (rl : Rl H η a b) : Q b H := h b H η (Step.refl _ _) ab rl
theorem Post.of {o : Option α} {s : S} {Q : β → Hp → Prop} (h : Post G W Rl H η (R.of o s) Q) : ∃ a, o = some a ∧ Post G W Rl H η (.ok a s) Q := by
  cases o with
  | none => exact h.elim
  | some a => exact ⟨a, rfl, h⟩
theorem Post.calm {r : R α} {Q : β → Hp → Prop} (h : Post G W Rl H η r.calm Q) : Post G (fun _ _ _ => False) Rl H η r Q := by
  cases r with
  | ok a s => exact h
  | err c ds s => exact h.elim
  | stuck => exact h
end

/-- the slots -/
structure AbsV (G : GG) (H : Hp) (η : Et) (env : Env) (σ : L2.St) : Prop where
  len : env.length = σ.length
  at' : ∀ (i : Nat) w, env[i]? = some (some w) → ∃ v, σ[i]? = some (some v) ∧ RW G H η w v
section
variable {G : GG} {H H' : Hp} {η η' : Et} {env : Env} {σ : L2.St}
theorem AbsV.mono0 (h : AbsV G H η env σ) (st : Step0 H η H' η') : AbsV G H' η' env σ := ⟨h.len, fun i w e => let ⟨v, e1, r⟩ := h.at' i w e; ⟨v, e1, r.mono0 st⟩⟩
theorem AbsV.mono (h : AbsV G H η env σ) (st : Step H η H' η') : AbsV G H' η' env σ := h.mono0 st.toStep0
theorem AbsV.set (h : AbsV G H η env σ) {i : Nat} {w : W} {v : V} (r : RW G H η w v) : AbsV G H η (env.set i (some w)) (σ.set i (some v)) := by
  refine ⟨by simp [h.len], fun j z e => ?_⟩
  by_cases hj : i = j
  · subst hj
    have hl : i < env.length := by
      have := (List.getElem?_eq_some_iff.mp e).1
      simpa using this
    rw [List.getElem?_set_self hl] at e
    cases e
    exact ⟨v, by rw [List.getElem?_set_self (by rw [← h.len]; exact hl)], r⟩
  · rw [List.getElem?_set_ne hj] at e
    obtain ⟨u, e1, q⟩ := h.at' j z e
    exact ⟨u, by rw [List.getElem?_set_ne hj]; exact e1, q⟩
theorem AbsV.unset (h : AbsV G H η env σ) (i : Nat) : AbsV G H η (env.set i none) (σ.set i none) := by
  refine ⟨by simp [h.len], fun j z e => ?_⟩
  by_cases hj : i = j
  · subst hj
    have hl : i < env.length := by
      have := (List.getElem?_eq_some_iff.mp e).1
      simpa using this
    rw [List.getElem?_set_self hl] at e
    cases e
  · rw [List.getElem?_set_ne hj] at e
    obtain ⟨u, e1, q⟩ := h.at' j z e
    exact ⟨u, by rw [List.getElem?_set_ne hj]; exact e1, q⟩
theorem AbsV.wipe (h : AbsV G H η env σ) : ∀ own : List Nat, AbsV G H η (wipeE env own) (wipe σ own)
  | [] => h
  | v :: vs => by
    unfold wipeE L2.wipe
    exact (AbsV.wipe h vs).unset v
end

/-- the readings -/
def tE (G : GG) (W : WX) (call : CallF) (e : E) : TE := fun σ H Q => ∃ η env s, AbsV G H η env σ ∧ AbsS G H η s ∧ Post G (fun c d => W c d σ) (RW G) H η (evE G.P call e env s) Q
def tEs (G : GG) (W : WX) (call : CallF) (es : Es) : TA := fun σ H Q => ∃ η env s, AbsV G H η env σ ∧ AbsS G H η s ∧ Post G (fun c d => W c d σ) (RWs G) H η (evEs G.P call es env s) Q
def rBool : Hp → Et → W → Bool → Prop := fun _ _ w b => w = .d (.bl b)
/-- a test -/
def evTst (P : Prog) (call : CallF) (e : E) (env : Env) (s : S) : R Bool := (evE P call e env s).bind fun w s => R.of (truthy w s) s
def tB (G : GG) (W : WX) (call : CallF) (e : E) : TT := fun σ H Q => ∃ η env s, AbsV G H η env σ ∧ AbsS G H η s ∧ Post G (fun c d => W c d σ) (fun _ _ (a b : Bool) => a = b) H η (evTst G.P call e env s) Q
section
variable {X : Cx} {e : Expr} {st : Stmt} {sts : List Stmt} {es : List Expr}
theorem PE_imp {t t' : TE} (h : PE X e t) (i : ∀ σ H Q, t' σ H Q → t σ H Q) : PE X e t' := ⟨fun pins s σ H Q I q => h.run pins s σ H Q I (i _ _ _ q)⟩
theorem PT_imp {t t' : TT} (h : PT X e t) (i : ∀ σ H Q, t' σ H Q → t σ H Q) : PT X e t' := ⟨fun pins s σ H Q I q => h.run pins s σ H Q I (i _ _ _ q)⟩
theorem PW_imp {t t' : TT} (h : PW X e t) (i : ∀ σ H Q, t' σ H Q → t σ H Q) : PW X e t' := ⟨fun wh pins s σ H Q I q => h.run wh pins s σ H Q I (i _ _ _ q)⟩
theorem PA_imp {t t' : TA} (h : PA X es t) (i : ∀ σ H Q, t' σ H Q → t σ H Q) : PA X es t' := ⟨fun pos pins s σ H Q I q => h.run pos pins s σ H Q I (i _ _ _ q)⟩
theorem PS_imp {t t' : TS} (h : PS X st t) (i : ∀ D σ H, t' D σ H → t D σ H) : PS X st t' := ⟨fun pins s σ H D I q => h.run pins s σ H D I (i _ _ _ q)⟩
theorem PSs_imp {t t' : TS} (h : PSs X sts t) (i : ∀ D σ H, t' D σ H → t D σ H) : PSs X sts t' := ⟨fun pins s σ H D I q => h.run pins s σ H D I (i _ _ _ q)⟩
/-- a reading is monotone in what is wanted -/
theorem PE_at {t : TE} (h : PE X e t) : PE X e t := h
end
end FT

namespace FT
open PySem PySem.Spec PyProof.Rows L2 SlX
/-- an object that stands and was not told so far is told -/
theorem inv_track {X : Cx} {pins : List (Addr × Obj)} {σ : L2.St} {H : Hp} {s : Shared} {a : Addr} {φ : Heap → Prop} (I : Inv X pins σ H s) (na : H a = none) (n0 : X.s_0.heap.get? a = none) (nL : a ≠ X.env.locals) (nC : ∀ x c, X.env.cells.lookup x = some c → c ≠ a) (nP : ∀ p ∈ X.pn ++ pins, p.1 ≠ a)
    (ok : ObjOk X.prog X.w (upd H a (.ext φ)) s.heap a (.ext φ)) : Inv X pins σ (upd H a (.ext φ)) s := by
  have ne0 : ∀ b o, X.s_0.heap.get? b = some o → b ≠ a := fun b o e z => by rw [z, n0] at e; cases e
  have neH : ∀ b u, H b = some u → b ≠ a := fun b u e z => by rw [z, na] at e; cases e
  refine ⟨I.ok, I.os, I.bare, ⟨I.base.keep, I.base.slot, fun b o e n hq => ?_, I.base.there, fun b xs e => ?_, fun b o u e => ?_, fun b ps e => ?_⟩, I.loc, I.cell, ?_, fun x c e => ?_, fun p hp => ?_, HOk.laidN I.hok (fun _ _ q => q) na ok, I.len⟩
  · rw [upd_ne (ne0 b o e)]; exact I.base.free b o e n hq
  · have q := I.base.tups b xs e
    rw [upd_ne (neH b _ q)]; exact q
  · have q := I.base.frzs b o u e
    rw [upd_ne (neH b _ q)]; exact q
  · obtain ⟨m, q⟩ := I.base.tbls b ps e
    exact ⟨m, by rw [upd_ne (neH b _ q)]; exact q⟩
  · rw [upd_ne (Ne.symm nL)]; exact I.free
  · rw [upd_ne (nC x c e)]; exact I.freeC x c e
  · obtain ⟨e, n, ne, nf, d⟩ := I.pin p hp
    exact ⟨e, by rw [upd_ne (nP p hp)]; exact n, ne, nf, d⟩
/-- an exception's object -/
def trk (a : Addr) (cls : Value) (d : Option Addr) : HO := .ext fun h => ∃ oe vs, h.get? a = some oe ∧ oe.cls = cls ∧ oe.dict = d ∧ oe.data = .fields vs
abbrev Hdl : Type := Value × Nat × (Addr → Value → Option Addr → TS)
/-- what the clauses wish of an exception of the body, one after the other -/
def wTrk (K : PySem.W.Frag) (Wout : WX) (D : Ends) : List Hdl → WX
  | [] => Wout
  | (c, i, ts) :: r => fun cls d σ H => ∃ b, PySem.W.exmOne K cls c = some b ∧ (b = true → ∀ a, H a = none → ts a cls d { nx := fun σ' H' => H' a = none → D.nx (σ'.set i none) (upd H' a (trk a cls d)), rt := fun _ _ => False, bk := fun _ _ => False, ct := fun _ _ => False } (σ.set i (some (.ref a))) H) ∧
    (b = false → wTrk K Wout D r cls d σ H)
inductive HdlOk (X : Cx) : List ExceptHandler → List Hdl → Prop
  | nil : HdlOk X [] []
  | cons {x n : Str} {c : Value} {i : Nat} {ts : Addr → Value → Option Addr → TS} {b₀ : Stmt} {suite : List Stmt} {np pos' : Pos} {hds : List ExceptHandler} {l : List Hdl} (hc : Names X x c) (hi : X.N[i]? = some n) (hln : X.env.kindOf n = some .local)
      (hsu : ∀ (a : Addr) (oe : Obj) (cls : Value) (d : Option Addr) (pn : List (Addr × Obj)), Zc cls d oe → (∃ vs, oe.data = .fields vs) → PSs (X.suite a ((a, oe) :: pn)) (b₀ :: suite) (ts a cls d)) (r : HdlOk X hds l) :
      HdlOk X (.ExceptHandler (some (.Name x np)) (some n) (b₀ :: suite) pos' :: hds) ((c, i, ts) :: l)
section
variable {X : Cx} {body : List Stmt} {h₀ : ExceptHandler} {hds : List ExceptHandler} {l : List Hdl} {pos : Pos} {tb : WX → TS} {Wout : WX}
theorem ps_try_trk (hs : X.stack = X.env :: X.outer) (hf : X.env.frame = some X.env.locals) (hN : X.N.Nodup) (tk : Takes X Wout) (hx : X.ex = [])
    (hb : ∀ (W : WX) (pn : List (Addr × Obj)) (xe : Value → Shared → Prop), Takes (X.tr pn xe) W → PassesOwn (model X.prog X.w) X.A X.env xe → PSs (X.tr pn xe) body (tb W))
    (hh : HdlOk X (h₀ :: hds) l) : PS X (.Try body (h₀ :: hds) [] [] pos) (fun D σ H => tb (wTrk X.K Wout D l) D σ H) := by
  refine ⟨fun pins s σ H D I h => ?_⟩
  have ok := I.ok
  have hfr : X.A.frames = some (X.env :: X.outer) := by rw [ok.frames, hs]
  refine wpAny_Try_except ?_
  refine wpAny_mono ((hb (wTrk X.K Wout D l) (X.pn ++ pins) (fun e s₁ => wpAny (model X.prog X.w) X.A (noteFrame e X.env) (fun _ s₂ => wpAny (model X.prog X.w) X.A (setFlight e none) (fun _ s₃ =>
    wpAny (model X.prog X.w) X.A (handleBy e X.env (h₀ :: hds)) (SP X pins D) X.xe s₃) X.xe s₂) X.xe s₁) (fun u s' xx => ?_) PassesOwn.looking).run [] s σ H D (I.toTry _) h) (fun f s1 hsp => ?_) (fun e s1 he => he)
  · obtain ⟨a, B, sI, pins', σ', H', cls, d, rfl, J', nb, up, sky, na, os, ag, w⟩ := xx
    have J : Inv X pins σ' H' sI := J'.ofTry ok
    have sky' : Sky B (X.env :: X.outer) a (Zc cls d) X.env.locals s'.heap := by rw [← hs]; exact sky
    show wpAny (model X.prog X.w) X.A (noteFrame (.ref a) X.env) _ _ _
    refine Sky.land Zc.steady hfr hf sky' fun h3 fl3 up3 => ?_
    have J3 : Inv X pins σ' H' { s' with heap := h3 } := J.landed nb fl3.1 (up.trans up3) os ag
    obtain ⟨oe3, vs3, he3, hz3, hd3⟩ := fl3.there
    have notFr : ∀ {h : Heap} {o : Obj} {vs : Array Value}, h.FunFrames B (X.env :: X.outer) → h.get? a = some o → o.data = .fields vs → a ∉ frs (X.env :: X.outer) := fun {h o vs} ff e dd hm => by
      obtain ⟨_, o', e', hnf⟩ := ff.mem hm
      rw [e] at e'; cases e'
      exact hnf _ dd
    have nfr := notFr fl3.2.2.1 he3 hd3
    have nL : a ≠ X.env.locals := fun z => nfr (List.mem_filterMap.mpr ⟨X.env, List.mem_cons_self, by rw [hf, z]⟩)
    have nF : a ∉ X.fs := fun hm => by
      obtain ⟨e, he, q⟩ := List.mem_filterMap.mp hm
      exact nfr (List.mem_filterMap.mpr ⟨e, List.mem_cons_of_mem _ he, q⟩)
    have S3 := J3.suite he3 hd3 na nL nF
    -- the exception was not there at the frame's beginning
    have hsa : sI.heap.get? a = none := by
      cases e : sI.heap.get? a with
      | none => rfl
      | some o =>
        have q := nb a o e (by rw [hs]; exact nfr)
        rw [fl3.2.1] at q
        cases q
    have n0 : X.s_0.heap.get? a = none := by
      cases e : X.s_0.heap.get? a with
      | none => rfl
      | some o =>
        obtain ⟨o', q⟩ := J.base.there a o e (by rw [hx]; exact fun z => nomatch z)
        rw [hsa] at q
        cases q
    have nC : ∀ x c, X.env.cells.lookup x = some c → c ≠ a := fun x c e z => by
      obtain ⟨v, o, ho, _⟩ := J.cell x c e
      rw [z, hsa] at ho
      cases ho
    have nP : ∀ p ∈ X.pn ++ pins, p.1 ≠ a := fun p hp z => by
      obtain ⟨e, _⟩ := J.pin p hp
      rw [z, hsa] at e
      cases e
    have go : ∀ {hds' : List ExceptHandler} {l' : List Hdl}, HdlOk X hds' l' → wTrk X.K Wout D l' cls d σ' H' →
        wpAny (model X.prog X.w) X.A (handleBy (.ref a) X.env hds') (SP X pins D) X.xe { s' with heap := h3 } := by
      intro hds' l' hk
      induction hk with
      | nil =>
        intro w
        refine wpAny_handleBy_nil ?_
        obtain ⟨k1, k2, k3, oe, vs, T, oT, ts', he, hz, hd, h1, hr⟩ := id fl3
        unfold PySem.passOn
        refine wpAny_bind (wpAny_field he hd h1 ?_)
        rw [if_neg (show ¬ ((Value.ref T == Value.none) = true) from by simp)]
        have fin : wpAny (model X.prog X.w) X.A (setFlight (.ref a) X.env.frame) (fun _ s4 => wpAny (model X.prog X.w) X.A (throw (.ref a) : Sem Flow) (SP X pins D) X.xe s4) X.xe { s' with heap := h3 } := by
          rw [hf]
          refine HandSPX.setFlight_upZ fl3 fun h4 hh4 up4 => wpAny_throw (tk _ _ ?_)
          exact ⟨a, B, sI, pins, σ', H', cls, d, rfl, J, nb, (up.trans up3).trans up4, .inr (.inr (by rw [hs]; exact hh4)), na, os, ag, w⟩
        first
          | exact wpAny_bind (wpAny_pure (wpAny_bind fin))
          | exact wpAny_bind fin
      | @cons x n c i ts b₀ suite np pos' hds2 l2 hc hi hln hsu r ih =>
        intro w
        obtain ⟨b, hb1, hyes, hno⟩ := w
        have hloc : Loc X.env.scope n := .inl hln
        refine wpAny_handleBy_cons (codeAny_handlers_test ?_) (by intro q; cases q)
        have LT : PySem.W.Looks (model X.prog X.w) h3 (typeOf (.ref a)) cls := fun A Q E s k q => wpAny_typeOf_ref (k _ _ he3) (by rw [hz3.1]; exact q)
        have LM := PySem.W.exm_one (M := model X.prog X.w) (J3.kIn) LT hb1
        have test : ∀ {Q : Value → Shared → Prop} {E : Value → Shared → Prop}, Q c { s' with heap := h3 } → wpAny (model X.prog X.w) (X.A.mark (some (.ref a))) (eval (.Name x np) X.env) Q E { s' with heap := h3 } := fun {Q E} q => by
          obtain ⟨hg, hdbg, hm | ⟨hm, hv, hnn⟩⟩ := hc
          · exact ld_glob (X := X.suite a ((a, oe3) :: (X.pn ++ pins))) S3 hg hm q hdbg
          · exact ld_blt (X := X.suite a ((a, oe3) :: (X.pn ++ pins))) S3 hg hm hv q hnn hdbg
        refine test (LM.here ?_)
        cases b with
        | true =>
          refine codeAny_handlers_suite_as ?_
          refine HandSPX.lands_againZ fl3 fun h4 fl4 up4 => ?_
          have J4 : Inv X pins σ' H' { s' with heap := h4 } := J.landed nb fl4.1 ((up.trans up3).trans up4) os ag
          obtain ⟨oe4, vs4, he4, hz4, hd4⟩ := fl4.there
          have S4 := J4.suite he4 hd4 na nL nF
          refine store_ok (X := X.suite a ((a, oe4) :: (X.pn ++ pins))) (v := .ref a) S4 hN hi hloc rfl (fun s5 S5 => ?_) (.inr hln)
          refine wpAny_mono ((hsu a oe4 cls d (X.pn ++ pins) hz4 ⟨_, hd4⟩).run [] s5 _ H' _ S5 (hyes rfl a na)) (fun f s6 hsp => ?_) (fun _ _ z => False.elim z)
          cases f with
          | next =>
            obtain ⟨σ6, H6, S6, q6⟩ := hsp
            obtain ⟨he6, hn6, _, _, _⟩ := S6.pin (a, oe4) (by simp)
            have T6 : Inv X pins σ6 (upd H6 a (trk a cls d)) s6 := inv_track (S6.unsuite ok) hn6 n0 nL nC nP
              ⟨⟨oe4, vs4, he6, hz4.1, hz4.2, hd4⟩, ⟨oe4, he6⟩, fun h1 h2 z k => by
                obtain ⟨o, v, e1, e2⟩ := z
                exact ⟨o, v, k _ e1, e2⟩⟩
            exact gone_ok T6 hN hi hln fun s7 J7 => ⟨_, _, J7, q6 hn6⟩
          | brk =>
            obtain ⟨_, _, _, q6⟩ := hsp
            exact q6.elim
          | cont =>
            obtain ⟨_, _, _, q6⟩ := hsp
            exact q6.elim
          | ret u =>
            obtain ⟨_, _, _, _, _, q6⟩ := hsp
            exact q6.elim
        | false =>
          show wpAny _ X.A (handleBy (.ref a) X.env hds2) _ _ _
          exact ih (hno rfl)
    exact go hh w
  · cases f with
    | next =>
      obtain ⟨σ', H', J', q⟩ := hsp
      exact wpAny_execs_nil ⟨σ', H', J'.ofTry ok, q⟩
    | brk =>
      obtain ⟨σ', H', J', q⟩ := hsp
      exact ⟨σ', H', J'.ofTry ok, q⟩
    | cont =>
      obtain ⟨σ', H', J', q⟩ := hsp
      exact ⟨σ', H', J'.ofTry ok, q⟩
    | ret u =>
      obtain ⟨v, σ', H', J', r, q⟩ := hsp
      exact ⟨v, σ', H', J'.ofTry ok, r, q⟩
end
end FT

namespace PySem
namespace OEXK
open PySem.W PySem.Calls PyProof.Rows PySem.HandSPX
section
variable {M : Model} {A : Around} {E : Value → Shared → Prop} {h : Heap} {g : Array GenState} {d : Drawn} {t : Nat} {os : OsState}
variable {nm q : Str} {C N : Addr} {bs bm bmB : List Value} {hdct : Bool} {sn : List Str} {sub : List Value} {ab : Bool} {col : Option Bool} {dd : Option Addr} {k0 k1 k2 k3 k5 : Option Value} {B newId initId : String}
theorem check_newK (F : ExcBaseFacts B newId initId bmB) (hT : ∀ X : String, bm.contains (.type X) = bmB.contains (.type X)) {rest : List Value} {kw : List (Str × Value)} {Q : Unit → Shared → Prop}
    (hC : h.get? C = some (excClassObj nm q C N bs bm hdct sn sub ab col dd k0 k1 k2 k3 k5 newId)) (hq : Q () ⟨h, g, d, t, os⟩) : wpAny M A (checkBuiltinCall newId ⟨.ref C :: rest, kw⟩) Q E ⟨h, g, d, t, os⟩ := by
  have hcont : (Value.ref C :: bm).contains (.type B) = true := by rw [List.contains_cons, hT, F.hasB, Bool.or_true]
  have hstar := F.noStar
  simp only [checkBuiltinCall, F.newKind, F.newSplit, F.newRow]
  repeat (first | refine wpAny_loadPart_at hC ?_ | (refine wpAny_isSubtype_exc hC ?_; rw [hcont]) | refine wpAny_staticBase_exc hC ?_ | refine wpAny_madeBy_exc hC ?_ | simp only [bne_self_eq_false, Bool.false_eq_true, if_false] | wp_step)
  exact hq
end
section
variable {prog : Program} {w : World} {A : Around} {E : Value → Shared → Prop} {R : Result → Shared → Prop} {h : Heap} {g : Array GenState} {d : Drawn} {t : Nat} {os : OsState}
variable {nm q : Str} {C N : Addr} {bs bm bmB : List Value} {hdct : Bool} {sn : List Str} {sub : List Value} {ab : Bool} {col : Option Bool} {dd : Option Addr} {k0 k1 k2 k3 k5 : Option Value} {B newId initId : String}
theorem newK (F : ExcBaseFacts B newId initId bmB) (hT : ∀ X : String, bm.contains (.type X) = bmB.contains (.type X)) {rest : List Value} {kw : List (Str × Value)}
    (hC : h.get? C = some (excClassObj nm q C N bs bm hdct sn sub ab col dd k0 k1 k2 k3 k5 newId))
    (hq : R (.ok (.ret (.ref (h.objs.size + 1)))) ⟨(h.push { cls := .type "tuple", data := .seq rest.toArray }).push
      { cls := .ref C, data := .fields #[.ref h.objs.size, .none, .none, .none, .bool false, .none] }, g, d, t, os⟩) (hrest : rest.length ≤ sizeLine) :
    codeAny (model prog w) A (.builtin newId ⟨.ref C :: rest, kw⟩) R ⟨h, g, d, t, os⟩ := by
  have hends := F.ends
  have hcB : (Value.ref C :: bm).contains (.type B) = true := by rw [List.contains_cons, hT, F.hasB, Bool.or_true]
  have hcA : (Value.ref C :: bm).contains (.type "AttributeError") = false := by rw [List.contains_cons, hT, F.noAttr]; rfl
  have hcN : (Value.ref C :: bm).contains (.type "NameError") = false := by rw [List.contains_cons, hT, F.noName]; rfl
  refine codeAny_builtinAt F.entry ?_
  unfold Builtin.«BaseException.__new__»
  refine wpAt_bind ?_
  show wpAt _ _ _ (stack >>= _) _ _ _
  refine wpAt_bind (wpAt_stack fun p below => wpAt_of_wpAny ?_)
  wp_walk
  refine wpAt_of_wpAny ?_
  rw [F.owner]
  repeat (first | with_reducible refine wpAny_madeHere_exc F.canon hC ?_ | with_reducible refine wpAny_loadPart_at hC ?_ | (with_reducible refine wpAny_isSubtype_exc hC ?_; first | rw [hcB] | rw [hcA] | rw [hcN]) | wp_step)
  show R _ _
  rw [Heap.size_push]
  exact hq
theorem type_callK (F : ExcBaseFacts B newId initId bmB) (hT : ∀ X : String, bm.contains (.type X) = bmB.contains (.type X)) {rest : List Value} {kw : List (Str × Value)} {fI : Addr} {Q : Fin → Shared → Prop}
    (hC : h.get? C = some (excClassObj nm q C N bs bm hdct sn sub ab col dd k0 k1 k2 k3 k5 newId))
    (hi : W.Looks (model prog w) h (typeLookup (.ref C) "__init__") (some (.ref fI))) (hb : ∀ self, W.Looks (model prog w) h (bindSpecial (.ref fI) self) (.ref fI, [self])) (hrest : rest.length ≤ sizeLine)
    (hq : codeAny (model prog w) A (.call (.ref fI) ⟨.ref (h.objs.size + 1) :: rest, kw⟩)
      (fun r s' => match r with | .ok (.ret v) => v = .none ∧ Q (.done (.ret (.ref (h.objs.size + 1)))) s' | .ok _ => False | .error e => E e s')
      ⟨(h.push (W.kdv_tup rest)).push (excO C h.objs.size), g, d, t, os⟩) :
    wpAny (model prog w) A (Builtin.«type.__call__» ⟨.ref C :: rest, kw⟩) Q E ⟨h, g, d, t, os⟩ := by
  repeat (first | with_reducible refine wpAny_loadPart_at hC ?_ | with_reducible refine wpAny_madeBy_exc hC ?_ | wp_step)
  refine codeAny_call_builtin_code (Code.quiet_builtin _ F.quiet) (check_newK F hT hC ?_)
  refine newK F hT hC ?_ hrest
  show wpAny _ _ _ _ _ _
  have k : ∀ b o, h.get? b = some o → ((h.push (W.kdv_tup rest)).push (excO C h.objs.size)).get? b = some o := fun b o e => Heap.get?_push_of_some _ (Heap.get?_push_of_some _ e)
  have hC₁ := k _ _ hC
  have hget : ((h.push (W.kdv_tup rest)).push (excO C h.objs.size)).get? (h.objs.size + 1) = some (excO C h.objs.size) := by heap_get
  have hcC : (Value.ref C :: bm).contains (.ref C) = true := by simp
  have i1 := hi.keeps k
  have b1 := (hb (.ref (h.objs.size + 1))).keeps k
  unfold isInstance
  repeat (first | with_reducible refine wpAny_loadPart_at hget ?_ | (with_reducible refine wpAny_isSubtype_exc hC₁ ?_; rw [hcC]) | wp_step)
  show wpAny _ _ (typeLookup (.ref C) _) _ _ _
  refine i1.at ?_
  refine wpAny_holding (wpAny_bind (b1.at ?_))
  refine wpAny_bind (wpAny_call (codeAny_mono hq fun r s' z => ?_))
  rcases r with e | (v | _ | _ | _) <;> first | exact z | exact z.elim | skip
  obtain ⟨rfl, z⟩ := z
  first
    | exact wpAny_pure (wpAny_pure z)
    | (wp_walk; exact z)
theorem call_K (F : ExcBaseFacts B newId initId bmB) (hT : ∀ X : String, bm.contains (.type X) = bmB.contains (.type X)) {rest : List Value} {kw : List (Str × Value)} {fI : Addr}
    (hC : h.get? C = some (excClassObj nm q C N bs bm hdct sn sub ab col dd k0 k1 k2 k3 k5 newId))
    (hi : W.Looks (model prog w) h (typeLookup (.ref C) "__init__") (some (.ref fI))) (hb : ∀ self, W.Looks (model prog w) h (bindSpecial (.ref fI) self) (.ref fI, [self])) (hrest : rest.length ≤ sizeLine)
    (hq : codeAny (model prog w) (A.under (.builtin "type.__call__" ⟨.ref C :: rest, kw⟩)) (.call (.ref fI) ⟨.ref (h.objs.size + 1) :: rest, kw⟩) (W.InitBack (h.objs.size + 1) R)
      ⟨(h.push (W.kdv_tup rest)).push (excO C h.objs.size), g, d, t, os⟩) :
    codeAny (model prog w) A (.call (.ref C) ⟨rest, kw⟩) R ⟨h, g, d, t, os⟩ := by
  have f1 := tc_lookup
  have f2 := tc_bind (.ref C)
  have hTy : (⟨h, g, d, t, os⟩ : Shared).TypeIs (.ref C) "type" := ⟨_, hC, rfl⟩
  refine codeAny_of_tree ?_
  show wpAny _ _ (callAny (.ref C) _) _ _ _
  repeat (any_goals (first | assumption | with_reducible refine wpAny_loadPart_at hC ?_ | wp_step))
  refine ⟨rfl, ?_⟩
  refine codeAny_call_builtin_at (Code.quiet_builtin _ (by decide +kernel)) entry_typeCall (wpAny_check_type_call_sub hC (type_callK F hT hC hi hb hrest ?_))
  refine codeAny_mono hq fun r s' z => ?_
  rcases r with e | (v | _ | _ | _) <;> exact z
end
end OEXK
end PySem
namespace FT
open PySem PySem.Spec PyProof.Rows L2 SlX
section
variable {X : Cx} {pins : List (Addr × Obj)} {σ : L2.St}
/-- the end of C(..): the exception stands as a value -/
theorem mk_endV {H1 H2 : Hp} {hp hp2 h2 : Heap} {g1 g2 : Array GenState} {d1 d2 : Drawn} {t1 t2 : Nat} {os1 os2 : OsState} {a C d : Addr} {fs : List (Str × V)} (I1 : Inv X pins σ H1 ⟨hp, g1, d1, t1, os1⟩)
    (ha : hp.objs.size ≤ a) (k : ∀ b o, hp.get? b = some o → hp2.get? b = some o) (un : Un (frs X.stack) [] (upd H1 a (exo a C none)) H2 hp2 h2) (hok : HOk X.prog X.w H2 h2) (ho : os2 = os1) (hb : AllBare g2)
    (ea : H2 a = some (exo a C (some d))) (ed : H2 d = some (exd d fs)) (hd1 : H1 d = none) : Inv X pins σ (upd (upd H2 a (trk a (.ref C) (some d))) d (.xd fs)) ⟨h2, g2, d2, t2, os2⟩ := by
  obtain ⟨t0, hoe⟩ := exo_at hok ea
  obtain ⟨mA, hns, rel⟩ := exd_at hok ed
  have hn : H1 a = none := I1.hok.fresh ha
  have hda : d ≠ a := fun z => by
    obtain ⟨o, es, ep, e1, e2, _⟩ := hns
    rw [z, hoe] at e1
    have z2 := Option.some.inj e1
    subst z2
    cases e2
  have nha : ∀ {b : Addr} {o : Obj}, hp.get? b = some o → b ≠ a := fun {b o} z => Nat.ne_of_lt (Nat.lt_of_lt_of_le (Heap.lt_size z) ha)
  have up : ∀ {b : Addr}, b ≠ a → H1 b = none → upd H1 a (exo a C none) b = none := fun {b} hb n => by rw [upd_ne hb]; exact n
  have nd : ∀ {b : Addr} {o : Obj}, hp.get? b = some o → H1 b = none → b ≠ d := fun {b o} z n e => by
    have y := un.free b o (k b o z) (up (nha z) n) (by simp)
    rw [e, ed] at y
    cases y
  have U : Un (frs X.stack) [] H1 (upd (upd H2 a (trk a (.ref C) (some d))) d (.xd fs)) hp h2 := {
    keep := fun b o z n hf hx => un.keep b o (k b o z) (up (nha z) n) hf hx
    slot := fun b o z n hf hx => un.slot b o (k b o z) (up (nha z) n) hf hx
    free := fun b o z n hx => by
      rw [upd_ne (nd z n), upd_ne (nha z)]
      exact un.free b o (k b o z) (up (nha z) n) hx
    there := fun b o z hx => un.there b o (k b o z) hx
    tups := fun b xs z => by
      rw [upd_ne (ne_of_none z hd1), upd_ne (ne_of_none z hn)]
      exact un.tups b xs (by rw [upd_ne (ne_of_none z hn)]; exact z)
    frzs := fun b o v z => by
      rw [upd_ne (ne_of_none z hd1), upd_ne (ne_of_none z hn)]
      exact un.frzs b o v (by rw [upd_ne (ne_of_none z hn)]; exact z)
    tbls := fun b ps z => by
      rw [upd_ne (ne_of_none z hd1), upd_ne (ne_of_none z hn)]
      exact un.tbls b ps (by rw [upd_ne (ne_of_none z hn)]; exact z) }
  refine I1.call' (s' := ⟨h2, g2, d2, t2, os2⟩) (ch := []) ho U (fun b o z => ?_) hb (fun b z => absurd z (by simp))
  by_cases hbd : b = d
  · subst hbd
    rw [upd_same] at z
    cases z
    exact ⟨mA, hns, rel⟩
  · rw [upd_ne hbd] at z
    by_cases hba : b = a
    · subst hba
      rw [upd_same] at z
      cases z
      exact ⟨⟨_, _, hoe, rfl, rfl, rfl⟩, ⟨_, hoe⟩, fun h3 h4 y q => by
        obtain ⟨o', v', e1, e2⟩ := y
        exact ⟨o', v', q _ e1, e2⟩⟩
    · rw [upd_ne hba] at z
      exact (hok b o z).stay (fun c v hc y => y)
        (fun c hc => by rw [upd_ne (at_ne ed hc exd_own), upd_ne (at_ne ea hc exo_own)]; exact hc) (fun c xs hc => by rw [upd_ne (at_ne ed hc exd_tup), upd_ne (at_ne ea hc exo_tup)]; exact hc)
/-- C(.., k = v): its __init__ runs -/
theorem run_oex0 {k n : Nat} {C fI : Addr} {fd : FuncData} {ps ks : List Str} {sp : Sp} {g : List Value → List Value → List Value} {gV : List V → List V → List V} {H1 : Hp} {s1 : Shared} {us ws : List Value} {vs zs : List V} {Φ : Value → Shared → Prop} {P2 : Addr → Hp → Prop}
    (T : OexC X.K C) (iC : PySem.W.findIn X.K (.ref C) "__init__" = some (some (.ref fI))) (tI : PySem.W.typeIn X.K (.ref fI) = some (.type "function")) (F1 : FnOk X.prog X.w X.K X.mg X.base (L2.CX X.prog X.w) k fI fd ps sp) (hr : Room (k + 1) X.A) (hb : KBn X.K fd ps (n + 1) ks g gV)
    (I1 : Inv X pins σ H1 s1) (r1 : Vals vs us) (rz : Vals zs ws) (l1 : vs.length = n) (l2 : zs.length = ks.length) (hus : us.length ≤ sizeLine)
    (hq : ∀ a, H1 a = none → sp (gV (.ref a :: vs) zs) (upd H1 a (exo a C none)) (fun v H2 => v = .non ∧ P2 a H2) (fun _ _ _ => False))
    (fin : ∀ a H2 (hp2 : Heap) (s2 : Shared), s1.heap.objs.size ≤ a → (∀ b o, s1.heap.get? b = some o → hp2.get? b = some o) → Un (frs X.stack) [] (upd H1 a (exo a C none)) H2 hp2 s2.heap → HOk X.prog X.w H2 s2.heap → s2.os = s1.os → AllBare s2.gens → P2 a H2 → Φ (.ref a) s2) :
    wpAny (model X.prog X.w) X.A (call (.ref C) us (ks.zip ws)) Φ X.xe s1 := by
  obtain ⟨nm, q, N, bs, bm, sn, sub, ab, col, dd, k0, k1, k2, k3, k5, hC, hbm⟩ := T.cls
  obtain ⟨hp, gs, dr, tk, os⟩ := s1
  have hsz : hp.objs.size ≤ hp.objs.size + 1 := Nat.le_succ _
  have hn : H1 (hp.objs.size + 1) = none := I1.hok.fresh hsz
  have hq := hq (hp.objs.size + 1) hn
  have kk : ∀ b o, hp.get? b = some o → ((hp.push (PySem.W.kdv_tup us)).push (PySem.HandSPX.excO C hp.objs.size)).get? b = some o := fun b o e => Heap.get?_push_of_some _ (Heap.get?_push_of_some _ e)
  have hget : ((hp.push (PySem.W.kdv_tup us)).push (PySem.HandSPX.excO C hp.objs.size)).get? (hp.objs.size + 1) = some (PySem.HandSPX.excO C hp.objs.size) := by heap_get
  have I2 : Inv X pins σ (upd H1 (hp.objs.size + 1) (exo (hp.objs.size + 1) C none)) ⟨(hp.push (PySem.W.kdv_tup us)).push (PySem.HandSPX.excO C hp.objs.size), gs, dr, tk, os⟩ :=
    I1.laid (t' := tk) (a := hp.objs.size + 1) (o := exo (hp.objs.size + 1) C none) (h' := (hp.push (PySem.W.kdv_tup us)).push (PySem.HandSPX.excO C hp.objs.size)) kk hsz (exo_ok hget)
  have r3 : Vals (V.ref (hp.objs.size + 1) :: vs) (Value.ref (hp.objs.size + 1) :: us) := .cons rfl r1
  have r2 := hb.rel r3 rz
  have e1 : (Value.ref (hp.objs.size + 1) :: us).length = n + 1 := r3.length.symm.trans (congrArg Nat.succ l1)
  have e2 : ws.length = ks.length := rz.length.symm.trans l2
  refine wpAny_call (PySem.OEXK.call_K F.excBase_ValueError (fun Y => PySem.HandSPX.refsVE_contains Y bm hbm) (I1.kIn _ _ hC) (PySem.W.looks_findIn I1.kIn iC) (fun self => PySem.W.bind_fn I1.kIn self tI) hus
    (codeAny_mono (F1.run _ X.stack _ _ ⟨Value.ref (hp.objs.size + 1) :: us, ks.zip ws⟩ (g (Value.ref (hp.objs.size + 1) :: us) ws) _ _ (fun _ _ _ => False) (hr.make C us (ks.zip ws)) (I2.env0.make C us (ks.zip ws)) (hb.to _ (Value.ref (hp.objs.size + 1) :: us) ws I2.kIn e1 e2) r2 hq) fun r s' hq' => ?_))
  cases r with
  | error er =>
    obtain ⟨_, _, _, _, _, _, _, _, _, _, _, _, z⟩ := hq'
    exact z.elim
  | ok fl =>
    cases fl with
    | ret u =>
      obtain ⟨v, H2, os2, bare2, un2, hok2, rv, ev, p2⟩ := hq'
      subst ev
      obtain ⟨h2, g2, d2, t2, os'⟩ := s'
      exact ⟨rv, fin _ _ _ _ hsz kk un2 hok2 os2 bare2 p2⟩
    | next => exact False.elim hq'
    | brk => exact False.elim hq'
    | cont => exact False.elim hq'
end
def initB (A : Bool) (f : Str) : List Stmt → Bool
  | [.Assign [.Attribute (.Name y _) g _] (.Name h _) _] => A && y == ("self" : Str) && g == f && h == f && !(f == ("__debug__" : Str)) && !(f == ("__classdict__" : Str)) && !(f == ("self" : Str))
  | [.Assign [.Attribute (.Name y _) g _] (.Tuple [] _ _) _] => !A && y == ("self" : Str) && g == f
  | _ => false
def initPs (A : Bool) (f : Str) : List Str := if A then ["self", f] else ["self"]
def MkA (A : Bool) (us : List V) (H : Hp) (x : V) (H2 : Hp) : Prop := if A then us = [x] ∧ H2 = H else us = [] ∧ ∃ t, H t = none ∧ H2 = upd H t (.tup []) ∧ x = .ref t
def spI (K : PySem.W.Frag) (A : Bool) (f : Str) : Sp := fun vs H Q E => ∃ a C us, vs = .ref a :: us ∧ OexC K C ∧ PySem.W.findIn K (.ref C) f = some none ∧ H a = some (exo a C none) ∧ vs.length = (initPs A f).length ∧
  ∀ d H2 x, MkA A us H x H2 → H2 d = none → d ≠ a → Q .non (upd (upd H2 d (exd d [(f, x)])) a (exo a C (some d)))
theorem init_ok {P : Program} {w : World} {K : PySem.W.Frag} {mg : Str → Option Value} {base : Heap} {x qual : Str} {params : Arguments} {body : List Stmt} {scope : Scope} {fI : Addr} {fd : FuncData} {A : Bool} {f : Str} (F : FunD K x qual params body scope [] [] fI fd) (S : FnScope (initPs A f) (initPs A f) scope) (hb : initB A f body = true) :
    FnOk P w K mg base (L2.CX P w) 1 fI fd (initPs A f) (spI K A f) := by
  refine F.ok S (fun vs H Q E ⟨a, C, us, e, _, _, _, hl, _⟩ => hl) fun cdv A' outer s H vs Q E hr h => ?_
  obtain ⟨a, C, us, rfl, hO, hno, ha, hl, k⟩ := h
  unfold initB at hb
  split at hb
  · rename_i y p1 g p2 h' p3 p4
    simp only [Bool.and_eq_true, beq_iff_eq, Bool.not_eq_true', beq_eq_false_iff_ne, ne_eq] at hb
    obtain ⟨⟨⟨⟨⟨⟨hA, rfl⟩, rfl⟩, rfl⟩, h5⟩, h6⟩, h7⟩ := hb
    subst hA
    have vis : ∀ z ∈ initPs true h', Vis scope z := fun z hz => (S.par z hz).elim .inl fun q => .inr (.inl q)
    match us, hl with
    | [u], _ =>
      refine ⟨_, pss_one (ps_ost (pe_var (i := 0) rfl (vis _ (by simp [initPs])) (by decide) (by decide)) (pe_var (i := 1) rfl (vis _ (by simp [initPs])) (by simpa using h5) (by simpa using h6))), ?_⟩
      exact ⟨u, rfl, .ref a, rfl, a, C, rfl, hO, hno, .inl ⟨ha, fun dx n1 n2 => k dx H u ⟨rfl, rfl⟩ n1 n2⟩⟩
  · rename_i y p1 g p2 kk p3 p4
    simp only [Bool.and_eq_true, beq_iff_eq, Bool.not_eq_true'] at hb
    obtain ⟨⟨hA, rfl⟩, rfl⟩ := hb
    subst hA
    have vis : ∀ z ∈ initPs false g, Vis scope z := fun z hz => (S.par z hz).elim .inl fun q => .inr (.inl q)
    match us, hl with
    | [], _ =>
      refine ⟨_, pss_one (ps_ost (pe_var (i := 0) rfl (vis _ (by simp [initPs])) (by decide) (by decide)) (pe_tup pa_nil)), ?_⟩
      refine ⟨by simp, fun t ht => ⟨.ref a, rfl, a, C, rfl, hO, hno, .inl ⟨?_, fun dx n1 n2 => k dx _ (.ref t) ⟨rfl, t, ht, rfl, rfl⟩ n1 n2⟩⟩⟩
      rw [upd_ne (ne_of_none ha ht)]
      exact ha
  · cases hb
end FT

namespace FT
open PySem PySem.Spec PyProof.Rows L2 SlX

section
variable {G : GG} {H H' : Hp} {η η' : Et} {s : S} {X : Cx}
theorem RW.ints {a : W} {x : V} {i : Int} (r : RW G H η a x) (e : a = .d (.int i)) : x = .int i := by
  subst e
  have r : RD G H η (.int i) x := r
  cases r; rfl
theorem RW.strs {a : W} {x : V} {i : Str} (r : RW G H η a x) (e : a = .d (.str i)) : x = .str i := by
  subst e
  have r : RD G H η (.str i) x := r
  cases r; rfl
theorem RW.strsOk {a : W} {x : V} {i : Str} (r : RW G H η a x) (e : a = .d (.str i)) : PyData.strOk i = true := by
  subst e
  have r : RD G H η (.str i) x := r
  cases r; assumption
theorem strOk_iff {x : Str} : PyData.strOk x = true ↔ ∀ c ∈ x.cps.toList, c < 0x110000 := by
  unfold PyData.strOk
  rw [Array.all_eq_true']
  simp
theorem strOk_append {x y : Str} (hx : PyData.strOk x = true) (hy : PyData.strOk y = true) : PyData.strOk (x ++ y) = true := by
  rw [strOk_iff] at *
  intro c hc
  have e : (x ++ y).cps.toList = x.cps.toList ++ y.cps.toList := TL.tl_append x y
  rw [e] at hc
  rcases List.mem_append.mp hc with h | h
  · exact hx c h
  · exact hy c h
theorem RD.list {ds : List D} {x : V} (r : RD G H η (.lst ds) x) : ∃ p vs, x = .ref p ∧ SqL G.K H p vs ∧ RDs G H η ds vs := by
  cases r with
  | lst h q => exact ⟨_, _, rfl, h.seq, q⟩
theorem RD.tuple {ds : List D} {x : V} (r : RD G H η (.tup ds) x) : ∃ p vs, x = .ref p ∧ SqT G.K H p vs ∧ RDs G H η ds vs ∧ FzT G.K H η p vs := by
  cases r with
  | tup h q => exact ⟨_, _, rfl, h.seq, q, h⟩
theorem RW.list {a : W} {x : V} {ds : List D} (ab : AbsS G H η s) (r : RW G H η a x) (e : val a s = some (.lst ds)) : ∃ p vs, x = .ref p ∧ SqL G.K H p vs ∧ RDs G H η ds vs := by
  cases a with
  | d z => cases e; exact RD.list r
  | ref n =>
    obtain ⟨p, hp, rfl⟩ := r
    simp only [val] at e
    split at e
    · rename_i k xs hc
      cases e
      obtain ⟨vs, h1, h2⟩ := ab.at' n p _ hp hc
      exact ⟨p, vs, rfl, .of h1, h2⟩
    · cases e
    · cases e
theorem RW.tuple {a : W} {x : V} {ds : List D} (r : RW G H η a x) (e : val a s = some (.tup ds)) : ∃ p vs, x = .ref p ∧ SqT G.K H p vs ∧ RDs G H η ds vs ∧ FzT G.K H η p vs := by
  cases a with
  | d z => cases e; exact RD.tuple r
  | ref n =>
    simp only [val] at e
    split at e <;> cases e
/-- a new list or tuple, as a value -/
theorem new_lst {p : Addr} {vs : List V} {ds : List D} (ab : AbsS G H η s) (hp : H p = none) (r : RDs G H η ds vs) : Step H η (upd H p (.lst vs)) η ∧ AbsS G (upd H p (.lst vs)) η s ∧ RD G (upd H p (.lst vs)) η (.lst ds) (.ref p) := by
  have hn := ab.fresh hp
  have st : Step H η (upd H p (.lst vs)) η := Step.laid hp hn
  exact ⟨st, ab.laid hp, .lst (.inl ⟨.inl upd_same, hn⟩) (r.mono st.le)⟩
theorem new_tup {p : Addr} {vs : List V} {ds : List D} (ab : AbsS G H η s) (hp : H p = none) (r : RDs G H η ds vs) : Step H η (upd H p (.tup vs)) η ∧ AbsS G (upd H p (.tup vs)) η s ∧ RD G (upd H p (.tup vs)) η (.tup ds) (.ref p) := by
  have hn := ab.fresh hp
  have st : Step H η (upd H p (.tup vs)) η := Step.laid hp hn
  exact ⟨st, ab.laid hp, .tup (.inl ⟨.inl upd_same, hn⟩) (r.mono st.le)⟩

/-- xs + ys, any two lists that are read -/
theorem op_catL : OpR X (binaryOp .Add) (fun x y H Q => ∃ l b xs zs, x = .ref l ∧ y = .ref b ∧ SqL X.K H l xs ∧ SqL X.K H b zs ∧ xs.length + zs.length ≤ sizeLine ∧ ∀ p, H p = none → Q (.ref p) (upd H p (.lst (xs ++ zs)))) := by
  intro pins s σ H x y v u Q I rx ry h
  obtain ⟨l, b, xs, zs, rfl, rfl, hH, hB, hz, q⟩ := h
  cases rx
  cases ry
  obtain ⟨its, r, ⟨⟨cls, dd, data, sl⟩, n, ho, hc, _, hd⟩, z⟩ := I.list hH
  obtain ⟨its2, r2, ⟨⟨cls2, dd2, data2, sl2⟩, n2, ho2, hc2, _, hd2⟩, z2⟩ := I.list hB
  simp only at hc hd hc2 hd2
  subst hc hd hc2 hd2
  have e : its.toArray ++ its2.toArray = (its ++ its2).toArray := by simp
  have l1 := r.length
  have l2 := r2.length
  refine concat_meets ⟨_, ho, rfl⟩ ⟨_, ho2, rfl⟩ noFill_list_add seq_list_add PySem.F.slot_list_add PySem.F.entry_list_add (PySem.F.args_list_add_2 _ _) (list_addW l b its.toArray its2.toArray n n2 dd dd2 sl sl2 (by simp only [List.size_toArray]; omega)) ⟨ho, ho2, ?_⟩
  rw [e]
  exact ⟨.ref _, _, I.lnew (t' := s.toks) (r.append r2) (by rw [List.length_append]; omega), rfl, q _ I.fresh⟩

/-- () + t is t -/
theorem op_catT0 : OpR X (binaryOp .Add) (fun x y H Q => ∃ l b zs, x = .ref l ∧ y = .ref b ∧ SqT X.K H l [] ∧ SqT X.K H b zs ∧ Q (.ref b) H) := by
  intro pins s σ H x y v u Q I rx ry h
  obtain ⟨l, b, zs, rfl, rfl, hH, hB, q⟩ := h
  cases rx
  cases ry
  obtain ⟨its, r, ⟨⟨cls, dd, data, sl⟩, ho, hc, n, hd⟩, z⟩ := I.tuple hH
  obtain ⟨its2, r2, ⟨⟨cls2, dd2, data2, sl2⟩, ho2, hc2, n2, hd2⟩, z2⟩ := I.tuple hB
  simp only at hc hd hc2 hd2
  subst hc hd hc2 hd2
  cases r
  exact concat_meets ⟨_, ho, rfl⟩ ⟨_, ho2, rfl⟩ noFill_tuple_add seq_tuple_add PySem.F.slot_tuple_add PySem.F.entry_tuple_add (PySem.F.args_tuple_add_2 _ _)
      (tuple_addW0 l b #[] its2.toArray n n2 dd dd2 sl sl2 rfl) ⟨ho, ho2, ⟨.ref b, H, I, rfl, q⟩⟩

/-- what an operator is to give -/
def rBin (G : GG) (o : Operator) : R2 := fun x y H Q => ∃ η s a b w, AbsS G H η s ∧ RW G H η a x ∧ RW G H η b y ∧ binop o a b s = some w ∧ ∀ v H' η', Step H η H' η' → AbsS G H' η' s → RW G H' η' w v → Q v H'
theorem okMul_C {i j : Int} (h : okMul i j = true) : CMul i j := by
  unfold okMul two64 at h
  simp only [Bool.or_eq_true, Bool.and_eq_true, decide_eq_true_eq] at h
  unfold CMul
  rcases h with h | h
  · exact .inl ⟨by omega, by omega⟩
  · exact .inr ⟨by omega, by omega⟩
theorem lim_eq : LIM = sizeLine := by rw [sizeLine_eq]; rfl
theorem strMul_ok {x : Str} {n : Int} (h1 : 1 ≤ n) (h2 : n ≤ 1000000) (h3 : x.length * n.toNat ≤ LIM) : PySem.MulOk x n := by
  refine ⟨by simp; omega, fun _ _ => ?_, fun _ _ => ?_⟩
  · have e : ((x.length * n.toNat : Nat) : Int) = (x.length : Int) * n := by
      rw [Int.natCast_mul, Int.toNat_of_nonneg (by omega)]
    have h4 : (x.length : Int) * n ≤ 2 ^ 63 - 1 := by
      rw [← e]
      have : (LIM : Nat) ≤ 2 ^ 63 - 1 := by decide
      omega
    have := Int.le_ediv_of_mul_le (by omega : 0 < n) h4
    omega
  · unfold PySem.Builtin.Str.tooLong
    rw [← lim_eq]
    exact decide_eq_false (by omega)
theorem strMul_eq {x : Str} {n : Int} (h1 : 1 ≤ n) : Txt.mul x n = strRep x n.toNat := by
  unfold Txt.mul strRep
  rw [if_neg (by omega)]
  have rep1 : ∀ (m : Nat) (acc : Array Nat), (List.replicate m x.cps).foldl (· ++ ·) acc = acc ++ (List.replicate m x.cps.toList).flatten.toArray := fun m => by
    induction m with
    | zero => intro acc; simp
    | succ m ih =>
      intro acc
      rw [List.replicate_succ, List.foldl_cons, ih, List.replicate_succ, List.flatten_cons]
      rw [Array.append_assoc]
      congr 1
      apply Array.toList_inj.mp
      simp
  split
  · rename_i h
    rw [Bool.or_eq_true] at h
    rcases h with h | h
    · have : n = 1 := by simpa using h
      subst this
      simp
    · have h0 : x.cps.toList = [] := by
        have : x.cps.size = 0 := beq_iff_eq.mp h
        rw [← List.length_eq_zero_iff, Array.length_toList]; exact this
      have hx : x = ⟨#[]⟩ := by
        cases x with
        | mk c => congr 1; exact Array.toList_inj.mp (by rw [h0])
      rw [hx]
      simp
  · rw [rep1]
    simp
theorem RDs.rep {ds : List D} {vs : List V} (r : RDs G H η ds vs) : ∀ n : Nat, RDs G H η (List.replicate n ds).flatten (List.replicate n vs).flatten
  | 0 => .nil
  | n + 1 => by
    rw [List.replicate_succ, List.replicate_succ, List.flatten_cons, List.flatten_cons]
    exact r.append (r.rep n)
theorem or_bin (hK : X.K = G.K) (o : Operator) : OpR X (binaryOp o) (rBin G o) := by
  intro pins s σ H x y v u Q I rx ry h
  obtain ⟨η, sE, a, b, w, ab, ra, rb, e, k⟩ := h
  have fin : ∀ {i : Int}, w = .d (.int i) → Q (.int i) H := fun {i} z => k _ H η (Step.refl _ _) ab (by rw [z]; exact .int i)
  unfold binop at e
  split at e
  · -- int + int
    cases e
    rw [ra.ints rfl] at rx; rw [rb.ints rfl] at ry
    exact op_add pins s σ H _ _ v u Q I rx ry ⟨_, _, rfl, rfl, fin rfl⟩
  · cases e
    rw [ra.ints rfl] at rx; rw [rb.ints rfl] at ry
    exact op_sub pins s σ H _ _ v u Q I rx ry ⟨_, _, rfl, rfl, fin rfl⟩
  · split at e
    · rename_i hm
      cases e
      rw [ra.ints rfl] at rx; rw [rb.ints rfl] at ry
      exact op_mul pins s σ H _ _ v u Q I rx ry ⟨_, _, rfl, rfl, okMul_C hm, fin rfl⟩
    · cases e
  · split at e
    · rename_i hm
      cases e
      rw [ra.ints rfl] at rx; rw [rb.ints rfl] at ry
      exact op_fdivN pins s σ H _ _ v u Q I rx ry ⟨_, _, rfl, rfl, hm, fin rfl⟩
    · cases e
  · split at e
    · rename_i hm
      cases e
      rw [ra.ints rfl] at rx; rw [rb.ints rfl] at ry
      exact op_modN pins s σ H _ _ v u Q I rx ry ⟨_, _, rfl, rfl, hm, fin rfl⟩
    · cases e
  · split at e
    · rename_i hm
      cases e
      rw [ra.ints rfl] at rx; rw [rb.ints rfl] at ry
      exact op_pow pins s σ H _ _ v u Q I rx ry ⟨_, _, rfl, rfl, ⟨hm.1, hm.2.1, hm.2.2⟩, fin rfl⟩
    · cases e
  · -- str + str
    split at e
    · rename_i hm
      cases e
      rw [ra.strs rfl] at rx; rw [rb.strs rfl] at ry
      exact op_add_str pins s σ H _ _ v u Q I rx ry ⟨_, _, rfl, rfl, by rw [← lim_eq]; exact hm, k _ H η (Step.refl _ _) ab (.str _ (strOk_append (ra.strsOk rfl) (rb.strsOk rfl)))⟩
    · cases e
  · -- tuple + tuple
    rename_i xs ys
    split at e
    · rename_i hm
      cases e
      obtain ⟨p, vs, rfl, hq, hr, hf⟩ := RD.tuple ra
      obtain ⟨p2, vs2, rfl, hq2, hr2, hf2⟩ := RD.tuple rb
      have l1 := hr.length
      have l2 := hr2.length
      by_cases hx : vs = []
      · subst hx
        refine op_catT0 pins s σ H _ _ v u Q I rx ry ⟨_, _, _, rfl, rfl, hK ▸ hq, hK ▸ hq2, k _ H η (Step.refl _ _) ab ?_⟩
        have z2 : xs = [] := by cases hr with | nil => rfl
        rw [z2, List.nil_append]
        exact .tup hf2 hr2
      · refine op_catT pins s σ H _ _ v u Q I rx ry ⟨_, _, _, _, rfl, rfl, hK ▸ hq, hK ▸ hq2, hx, by rw [← l1, ← l2, ← lim_eq]; exact hm, fun z => ?_, fun z p hp => ?_⟩
        · have z2 : ys = [] := by cases hr2 with | nil => rfl | cons => cases z
          refine k _ H η (Step.refl _ _) ab (.tup hf ?_)
          rw [z2, List.append_nil]; exact hr
        · obtain ⟨st, ab', rd⟩ := new_tup ab hp (hr.append hr2)
          exact k _ _ _ st ab' rd
    · cases e
  · -- text * int
    rename_i x1 n1
    split at e
    · rename_i hm
      cases e
      rw [rb.ints rfl] at ry
      have hs := ra.strs rfl
      rw [hs] at rx
      obtain ⟨t, rfl⟩ := rx
      obtain ⟨t2, rfl⟩ := ry
      obtain ⟨g1, g2, g3⟩ := hm
      have hs' : PyData.strOk x1 = true := ra.strsOk rfl
      refine PySem.SB.mul (strMul_ok g1 g2 g3) fun t' kk => ?_
      rw [strMul_eq g1]
      exact ⟨.str (strRep x1 n1.toNat), H, I.tok kk, ⟨t', rfl⟩, k _ H η (Step.refl _ _) ab (.str _ (strOk_iff.mpr fun c hc => strOk_iff.mp hs' _ (by
        have hc : c ∈ (List.replicate n1.toNat x1.cps.toList).flatten := by simpa [strRep] using hc
        obtain ⟨l, hl, hcl⟩ := List.mem_flatten.mp hc
        rw [List.eq_of_mem_replicate hl] at hcl
        exact hcl)))⟩
    · cases e
  · -- tuple * int
    rename_i xs n1
    split at e
    · rename_i hm
      cases e
      obtain ⟨p, vs, rfl, hq, hr, hf⟩ := RD.tuple ra
      rw [rb.ints rfl] at ry
      obtain ⟨g0, g1, g2, g3⟩ := hm
      refine op_repT pins s σ H _ _ v u Q I rx ry ⟨_, _, _, rfl, rfl, hK ▸ hq, ?_, g1, g2, by rw [← hr.length]; exact g3, fun p hp => ?_⟩
      · intro z
        subst z
        cases hr
        cases g0
      · obtain ⟨st, ab', rd⟩ := new_tup ab hp (hr.rep n1.toNat)
        exact k _ _ _ st ab' rd
    · cases e
  · -- list + list
    split at e
    · rename_i xs ys hx hy
      split at e
      · rename_i hm
        cases e
        obtain ⟨p, vs, rfl, hq, hr⟩ := RW.list ab ra hx
        obtain ⟨p2, vs2, rfl, hq2, hr2⟩ := RW.list ab rb hy
        have l1 := hr.length
        have l2 := hr2.length
        refine op_catL pins s σ H _ _ v u Q I rx ry ⟨_, _, _, _, rfl, rfl, hK ▸ hq, hK ▸ hq2, by rw [← l1, ← l2, ← lim_eq]; exact hm, fun p hp => ?_⟩
        obtain ⟨st, ab', rd⟩ := new_lst ab hp (hr.append hr2)
        exact k _ _ _ st ab' rd
      · cases e
    · cases e
  · cases e
end
end FT

namespace FT
open PySem PySem.Spec PyProof.Rows L2 SlX

mutual
def D.py : D → PyData
  | .non => .none
  | .bl b => .bool b
  | .int i => .int i
  | .str x => .str x
  | .tup xs => .tuple (D.pyL xs)
  | .lst xs => .list (D.pyL xs)
  | _ => .dict []
def D.pyL : List D → List PyData
  | [] => []
  | x :: xs => D.py x :: D.pyL xs
end
theorem pyL_map : ∀ xs : List D, D.pyL xs = xs.map D.py
  | [] => rfl
  | x :: xs => by rw [D.pyL, List.map_cons, pyL_map xs]
theorem strEq_iff (x y : Str) : strEq x y = (x == y) := PyProof.Rows.toList_beq x y
mutual
theorem eqv_py : ∀ (x y : D) (n m : Nat), D.pl x n = true → D.pl y m = true → PyData.eqv (D.py x) (D.py y) = D.eqv x y
  | x, y, n, m, hx, hy => by
    cases x <;> cases y <;> first
      | (simp only [D.py, PyData.eqv, D.eqv]; done)
      | (simp only [D.py, PyData.eqv, D.eqv, strEq_iff]; done)
      | (cases n with
          | zero => simp [D.pl] at hx
          | succ n => cases m with
            | zero => simp [D.pl] at hy
            | succ m => simp only [D.py, PyData.eqv, D.eqv]; exact eqvL_py _ _ n m (by simpa [D.pl] using hx) (by simpa [D.pl] using hy))
      | (simp [D.pl] at hx; done)
      | (simp [D.pl] at hy; done)
theorem eqvL_py : ∀ (xs ys : List D) (n m : Nat), D.plL xs n = true → D.plL ys m = true → PyData.eqvAll (D.pyL xs) (D.pyL ys) = D.eqvL xs ys
  | [], [], _, _, _, _ => by simp [D.pyL, PyData.eqvAll, D.eqvL]
  | [], _ :: _, _, _, _, _ => by simp [D.pyL, PyData.eqvAll, D.eqvL]
  | _ :: _, [], _, _, _, _ => by simp [D.pyL, PyData.eqvAll, D.eqvL]
  | x :: xs, y :: ys, n, m, hx, hy => by
    simp only [D.plL, Bool.and_eq_true] at hx hy
    simp only [D.pyL, PyData.eqvAll, D.eqvL]
    rw [eqv_py x y n m hx.1 hy.1, eqvL_py xs ys n m hx.2 hy.2]
end
mutual
theorem depth_py : ∀ (x : D) (n : Nat), D.pl x n = true → (D.py x).depth ≤ n
  | x, n, h => by
    cases x <;> first
      | (simp [D.py, PyData.depth]; done)
      | (cases n with
          | zero => simp [D.pl] at h
          | succ n =>
            simp only [D.py, PyData.depth]
            have := depthL_py _ n (by simpa [D.pl] using h)
            omega)
      | (simp [D.pl] at h; done)
theorem depthL_py : ∀ (xs : List D) (n : Nat), D.plL xs n = true → PyData.depthAll (D.pyL xs) ≤ n
  | [], _, _ => by simp [D.pyL, PyData.depthAll]
  | x :: xs, n, h => by
    simp only [D.plL, Bool.and_eq_true] at h
    simp only [D.pyL, PyData.depthAll]
    have h1 := depth_py x n h.1
    have h2 := depthL_py xs n h.2
    omega
end
section
variable {G : GG} {H H' : Hp} {η η' : Et} {s : S} {X : Cx}
mutual
theorem RD.dp : ∀ {d : D} {v : V} {n : Nat}, RD G H η d v → D.pl d n = true → Dp G.K H v (D.py d) ∧ (D.py d).canLay0 = true
  | _, _, _, .non, _ => ⟨.non, rfl⟩
  | _, _, _, .bl b, _ => ⟨.bl b, rfl⟩
  | _, _, _, .int i, _ => ⟨.int i, rfl⟩
  | _, _, _, .str x hx, _ => ⟨.str x, by simp only [D.py, PyData.canLay0]; exact hx⟩
  | _, _, n + 1, .tup h r, p => by
    have q := RDs.dp r (n := n) (by simpa [D.pl] using p)
    simp only [D.py, PyData.canLay0]
    exact ⟨.tup h.seq q.1, q.2⟩
  | _, _, n + 1, .lst h r, p => by
    have q := RDs.dp r (n := n) (by simpa [D.pl] using p)
    simp only [D.py, PyData.canLay0]
    exact ⟨.lst h.seq q.1, q.2⟩
  | _, _, 0, .tup h r, p => by simp [D.pl] at p
  | _, _, 0, .lst h r, p => by simp [D.pl] at p
  | _, _, _, .exc _ _ _ _ _ _ _, p => by simp [D.pl] at p
  | _, _, _, .ins _ _ _ _ _ _, p => by simp [D.pl] at p
theorem RDs.dp : ∀ {ds : List D} {vs : List V} {n : Nat}, RDs G H η ds vs → D.plL ds n = true → DpAll G.K H vs (D.pyL ds) ∧ PyData.canLayAll0 (D.pyL ds) = true
  | _, _, _, .nil, _ => ⟨.nil, rfl⟩
  | _, _, n, .cons h r, p => by
    simp only [D.plL, Bool.and_eq_true] at p
    have q1 := RD.dp h p.1
    have q2 := RDs.dp r p.2
    simp only [D.pyL, PyData.canLayAll0, q1.2, q2.2, Bool.and_self, and_true]
    exact .cons q1.1 q2.1
end
theorem RW.dpv {a : W} {x : V} {d : D} (ab : AbsS G H η s) (r : RW G H η a x) (e : val a s = some d) (p : D.plain d = true) : Dp G.K H x (D.py d) ∧ SeqAt.shaped (D.py d) = true := by
  have fin : ∀ {v : V}, Dp G.K H v (D.py d) ∧ (D.py d).canLay0 = true → Dp G.K H v (D.py d) ∧ SeqAt.shaped (D.py d) = true := fun {v} q => by
    refine ⟨q.1, ?_⟩
    unfold SeqAt.shaped
    rw [q.2, Bool.true_and]
    have := depth_py d _ p
    exact decide_eq_true (Nat.le_trans this (by decide))
  cases a with
  | d z => cases e; exact fin (RD.dp r p)
  | ref n =>
    simp only [val] at e
    obtain ⟨a, ha, rfl⟩ := r
    split at e
    · rename_i hc
      cases e
      obtain ⟨vs, h1, h2⟩ := ab.at' n a _ ha hc
      refine fin ?_
      have q := RDs.dp h2 (n := 59) (by simpa [D.pl, D.plain, DEEP] using p)
      simp only [D.py, PyData.canLay0]
      exact ⟨.lst (.of h1) q.1, q.2⟩
    · cases e
      simp [D.pl] at p
    · cases e
mutual
theorem alike_py : ∀ (x y : D), D.alike x y = true → PySem.W.alike (D.py x) (D.py y) = true
  | x, y, h => by
    cases x <;> cases y <;> first
      | (simp [D.alike] at h; done)
      | (simp [D.py, PySem.W.alike]; done)
      | (simp only [D.py, PySem.W.alike]; exact alikeL_py _ _ (by simpa [D.alike] using h))
theorem alikeL_py : ∀ (xs ys : List D), D.alikeL xs ys = true → PySem.W.alikeAll (D.pyL xs) (D.pyL ys) = true
  | [], _, _ => by simp [D.pyL, PySem.W.alikeAll]
  | _ :: _, [], _ => by simp [D.pyL, PySem.W.alikeAll]
  | x :: xs, y :: ys, h => by
    simp only [D.alikeL, Bool.and_eq_true] at h
    simp only [D.pyL, PySem.W.alikeAll, alike_py x y h.1, alikeL_py xs ys h.2, Bool.and_self]
end
mutual
theorem lt_py : ∀ (x y : D) (n m : Nat), D.pl x n = true → D.pl y m = true → D.alike x y = true → D.isNon x = false → PySem.W.dataLt (D.py x) (D.py y) = D.ltB x y
  | .bl a, .bl b, _, _, _, _, _, _ => by
    rw [D.py, D.py, PySem.W.dataLt_bool, D.ltB]
    cases a <;> cases b <;> rfl
  | .int i, .int j, _, _, _, _, _, _ => by rw [D.py, D.py, PySem.W.dataLt_int, D.ltB]
  | .str a, .str b, _, _, _, _, _, _ => by rw [D.py, D.py, PySem.W.dataLt_str, D.ltB]; rfl
  | .tup xs, .tup ys, n + 1, m + 1, hx, hy, h, _ => by
    rw [D.py, D.py, PySem.W.dataLt_tuple, D.ltB]
    exact ltL_py xs ys n m (by simpa [D.pl] using hx) (by simpa [D.pl] using hy) (by simpa [D.alike] using h)
  | .lst xs, .lst ys, n + 1, m + 1, hx, hy, h, _ => by
    rw [D.py, D.py, PySem.W.dataLt_list, D.ltB]
    exact ltL_py xs ys n m (by simpa [D.pl] using hx) (by simpa [D.pl] using hy) (by simpa [D.alike] using h)
  | .non, _, _, _, _, _, _, h => by simp [D.isNon] at h
  | .tup xs, .tup ys, 0, _, hx, _, _, _ => by simp [D.pl] at hx
  | .tup xs, .tup ys, _ + 1, 0, _, hy, _, _ => by simp [D.pl] at hy
  | .lst xs, .lst ys, 0, _, hx, _, _, _ => by simp [D.pl] at hx
  | .lst xs, .lst ys, _ + 1, 0, _, hy, _, _ => by simp [D.pl] at hy
  | .dic _ _, _, _, _, hx, _, _, _ => by simp [D.pl] at hx
  | .ins _ _, _, _, _, hx, _, _, _ => by simp [D.pl] at hx
  | .exc _ _, _, _, _, hx, _, _, _ => by simp [D.pl] at hx
  | .bl _, .non, _, _, _, _, h, _ | .bl _, .int _, _, _, _, _, h, _ | .bl _, .str _, _, _, _, _, h, _ | .bl _, .tup _, _, _, _, _, h, _ | .bl _, .lst _, _, _, _, _, h, _ | .bl _, .dic _ _, _, _, _, _, h, _ | .bl _, .ins _ _, _, _, _, _, h, _ | .bl _, .exc _ _, _, _, _, _, h, _ => by simp [D.alike] at h
  | .int _, .non, _, _, _, _, h, _ | .int _, .bl _, _, _, _, _, h, _ | .int _, .str _, _, _, _, _, h, _ | .int _, .tup _, _, _, _, _, h, _ | .int _, .lst _, _, _, _, _, h, _ | .int _, .dic _ _, _, _, _, _, h, _ | .int _, .ins _ _, _, _, _, _, h, _ | .int _, .exc _ _, _, _, _, _, h, _ => by simp [D.alike] at h
  | .str _, .non, _, _, _, _, h, _ | .str _, .bl _, _, _, _, _, h, _ | .str _, .int _, _, _, _, _, h, _ | .str _, .tup _, _, _, _, _, h, _ | .str _, .lst _, _, _, _, _, h, _ | .str _, .dic _ _, _, _, _, _, h, _ | .str _, .ins _ _, _, _, _, _, h, _ | .str _, .exc _ _, _, _, _, _, h, _ => by simp [D.alike] at h
  | .tup _, .non, _, _, _, _, h, _ | .tup _, .bl _, _, _, _, _, h, _ | .tup _, .int _, _, _, _, _, h, _ | .tup _, .str _, _, _, _, _, h, _ | .tup _, .lst _, _, _, _, _, h, _ | .tup _, .dic _ _, _, _, _, _, h, _ | .tup _, .ins _ _, _, _, _, _, h, _ | .tup _, .exc _ _, _, _, _, _, h, _ => by simp [D.alike] at h
  | .lst _, .non, _, _, _, _, h, _ | .lst _, .bl _, _, _, _, _, h, _ | .lst _, .int _, _, _, _, _, h, _ | .lst _, .str _, _, _, _, _, h, _ | .lst _, .tup _, _, _, _, _, h, _ | .lst _, .dic _ _, _, _, _, _, h, _ | .lst _, .ins _ _, _, _, _, _, h, _ | .lst _, .exc _ _, _, _, _, _, h, _ => by simp [D.alike] at h
theorem ltL_py : ∀ (xs ys : List D) (n m : Nat), D.plL xs n = true → D.plL ys m = true → D.alikeL xs ys = true → PyProof.Rows.lexLt PyProof.Rows.itemOrd (PySem.W.keyToksAll (D.pyL xs)) (PySem.W.keyToksAll (D.pyL ys)) = D.ltBL xs ys
  | [], [], _, _, _, _, _ => by (simp [D.pyL, PySem.W.keyToksAll, D.ltBL, PyProof.Rows.lexLt]; rfl)
  | [], y :: ys, _, _, _, _, _ => by
    rw [D.pyL, D.pyL, PySem.W.toks_all_cons, D.ltBL]
    simp only [PySem.W.keyToksAll]
    rw [lex_diff (O := PyProof.Rows.itemOrd) (by simp)]
    rfl
  | x :: xs, [], _, _, _, _, _ => by
    rw [D.pyL, D.pyL, PySem.W.toks_all_cons, D.ltBL]
    simp only [PySem.W.keyToksAll]
    rw [lex_diff (O := PyProof.Rows.itemOrd) (by simp)]
    rfl
  | x :: xs, y :: ys, n, m, hx, hy, h => by
    simp only [D.plL, Bool.and_eq_true] at hx hy
    simp only [D.alikeL, Bool.and_eq_true] at h
    rw [D.pyL, D.pyL, D.ltBL]
    have ee := eqv_py x y n m hx.1 hy.1
    cases e : D.eqv x y with
    | true => rw [PySem.W.dataLt_all_yes (alike_py x y h.1) (ee.trans e), if_pos rfl]; exact ltL_py xs ys n m hx.2 hy.2 h.2
    | false =>
      rw [PySem.W.dataLt_all_no (alike_py x y h.1) (ee.trans e), if_neg (by simp)]
      refine lt_py x y n m hx.1 hy.1 h.1 ?_
      cases x <;> first | rfl | (cases y <;> first | (simp [D.eqv] at e; done) | (simp [D.alike] at h; done))
end
/-- what a comparison is to give -/
def rCmp (G : GG) (o : CmpOp) : R2 := fun x y H Q => ∃ η s a b k, AbsS G H η s ∧ RW G H η a x ∧ RW G H η b y ∧ cmpop o a b s = some k ∧ Q (.bl k) H
theorem RW.reads {a : W} {x : V} {u : Value} {pins : List (Addr × Obj)} {σ : L2.St} {sh : Shared} {d : D} (hK : X.K = G.K) (I : Inv X pins σ H sh) (ab : AbsS G H η s) (r : RW G H η a x) (ru : RelV x u) (e : val a s = some d) (p : D.plain d = true) :
    ∃ as, Reads sh.heap u (D.py d) as ∧ SeqAt.shaped (D.py d) = true := by
  obtain ⟨h1, h2⟩ := r.dpv ab e p
  rw [← hK] at h1
  obtain ⟨as, q⟩ := Dp.reads I _ _ u h1 ru
  exact ⟨as, q, h2⟩
theorem isIn_py {x : D} {xs : List D} (hx : D.plain x = true) (hs : D.plL xs 59 = true) : ((D.pyL xs).any fun z => PyData.eqv z (D.py x)) = isIn x xs := by
  unfold isIn
  induction xs with
  | nil => simp [D.pyL]
  | cons y ys ih =>
    simp only [D.plL, Bool.and_eq_true] at hs
    rw [D.pyL, List.any_cons, List.any_cons, ih hs.2, eqv_py y x 59 DEEP hs.1 hx]
theorem lt_room {A : Around} {d e : PyData} (h : SeqAt.shaped d = true) (hu : A.units + 65 < cLine) : A.units + min d.depth e.depth < cLine := by
  have h1 := SeqAt.depth_of_shaped h
  have h2 : min d.depth e.depth ≤ d.depth := Nat.min_le_left _ _
  omega
theorem non_py {x : D} (h : D.isNon x = false) (n : Nat) (p : D.pl x n = true) : D.py x ≠ .none := by
  cases x <;> first | (simp [D.isNon] at h; done) | (intro z; simp [D.py] at z)
theorem cmpOk_of {x y : D} (h : D.cmpOk x y = true) : D.plain x = true ∧ D.plain y = true ∧ D.alike x y = true ∧ D.isNon x = false := by
  unfold D.cmpOk at h
  simp only [Bool.and_eq_true, Bool.not_eq_true'] at h
  exact ⟨h.1.1.1, h.1.1.2, h.1.2, h.2⟩
mutual
theorem alike_symm : ∀ (x y : D), D.alike x y = D.alike y x
  | x, y => by
    cases x <;> cases y <;> first
      | (simp [D.alike]; done)
      | (simp only [D.alike]; exact alikeL_symm _ _)
theorem alikeL_symm : ∀ (xs ys : List D), D.alikeL xs ys = D.alikeL ys xs
  | [], [] => rfl
  | [], _ :: _ => by simp [D.alikeL]
  | _ :: _, [] => by simp [D.alikeL]
  | x :: xs, y :: ys => by simp only [D.alikeL]; rw [alike_symm x y, alikeL_symm xs ys]
end
theorem isNon_alike {x y : D} (h : D.alike x y = true) (e : D.isNon x = false) : D.isNon y = false := by
  cases x <;> cases y <;> first | rfl | (simp [D.alike] at h; done) | (simp [D.isNon] at e; done)
theorem or_cmp (hK : X.K = G.K) (hu : X.A.units + 65 < cLine) (o : CmpOp) : OpR X (compareOp o) (rCmp G o) := by
  intro pins s σ H x y v u Q I rx ry h
  obtain ⟨η, sE, a, b, k, ab, ra, rb, e, q⟩ := h
  have fin : ∀ {k'}, k' = k → EP X pins σ Q (.bool k') s := fun {k'} z => ⟨.bl k, H, I, by rw [z]; rfl, q⟩
  cases o with
  | Eq =>
    simp only [cmpop] at e
    split at e
    · rename_i d d' h1 h2
      split at e
      · rename_i hp
        rw [Bool.and_eq_true] at hp
        cases e
        obtain ⟨as, r1, s1⟩ := ra.reads hK I ab rx h1 hp.1
        obtain ⟨bs, r2, s2⟩ := rb.reads hK I ab ry h2 hp.2
        exact SeqAt.compareEq_shaped r1 r2 s1 s2 (by omega) (fin (eqv_py _ _ _ _ hp.1 hp.2))
      · cases e
    · cases e
  | NotEq =>
    simp only [cmpop] at e
    split at e
    · rename_i d d' h1 h2
      split at e
      · rename_i hp
        rw [Bool.and_eq_true] at hp
        cases e
        obtain ⟨as, r1, s1⟩ := ra.reads hK I ab rx h1 hp.1
        obtain ⟨bs, r2, s2⟩ := rb.reads hK I ab ry h2 hp.2
        exact SeqAt.compareNe_shaped r1 r2 s1 s2 (by omega) (fin (by rw [eqv_py _ _ _ _ hp.1 hp.2]))
      · cases e
    · cases e
  | Lt =>
    simp only [cmpop] at e
    split at e
    · rename_i d d' h1 h2
      split at e
      · rename_i hp
        obtain ⟨p1, p2, p3, p4⟩ := cmpOk_of hp
        cases e
        obtain ⟨as, r1, s1⟩ := ra.reads hK I ab rx h1 p1
        obtain ⟨bs, r2, s2⟩ := rb.reads hK I ab ry h2 p2
        exact PySem.W.lt_data r1 r2 (alike_py _ _ p3) (non_py p4 _ p1) (lt_room s1 hu) (fin (lt_py _ _ _ _ p1 p2 p3 p4))
      · cases e
    · cases e
  | Gt =>
    simp only [cmpop] at e
    split at e
    · rename_i d d' h1 h2
      split at e
      · rename_i hp
        obtain ⟨p1, p2, p3, p4⟩ := cmpOk_of hp
        cases e
        obtain ⟨as, r1, s1⟩ := ra.reads hK I ab rx h1 p1
        obtain ⟨bs, r2, s2⟩ := rb.reads hK I ab ry h2 p2
        exact PySem.W.gt_data r1 r2 (alike_py _ _ p3) (non_py p4 _ p1) (lt_room s1 hu) (fin (lt_py _ _ _ _ p2 p1 (by rw [alike_symm]; exact p3) (isNon_alike p3 p4)))
      · cases e
    · cases e
  | LtE =>
    simp only [cmpop] at e
    split at e
    · rename_i d d' h1 h2
      split at e
      · rename_i hp
        obtain ⟨p1, p2, p3, p4⟩ := cmpOk_of hp
        cases e
        obtain ⟨as, r1, s1⟩ := ra.reads hK I ab rx h1 p1
        obtain ⟨bs, r2, s2⟩ := rb.reads hK I ab ry h2 p2
        exact PySem.W.le_data r1 r2 (alike_py _ _ p3) (non_py p4 _ p1) (lt_room s1 hu) (fin (by rw [lt_py _ _ _ _ p2 p1 (by rw [alike_symm]; exact p3) (isNon_alike p3 p4)]))
      · cases e
    · cases e
  | GtE =>
    simp only [cmpop] at e
    split at e
    · rename_i d d' h1 h2
      split at e
      · rename_i hp
        obtain ⟨p1, p2, p3, p4⟩ := cmpOk_of hp
        cases e
        obtain ⟨as, r1, s1⟩ := ra.reads hK I ab rx h1 p1
        obtain ⟨bs, r2, s2⟩ := rb.reads hK I ab ry h2 p2
        exact PySem.W.ge_data r1 r2 (alike_py _ _ p3) (non_py p4 _ p1) (lt_room s1 hu) (fin (by rw [lt_py _ _ _ _ p1 p2 p3 p4]))
      · cases e
    · cases e
  | Is =>
    simp only [cmpop] at e
    split at e
    · have rb : RD G H η .non y := rb
      cases rb
      refine op_isN pins s σ H x _ v u Q I rx ry ⟨rfl, ?_⟩
      have : decide (x = V.non) = k := by
        cases e
        split
        · have ra : RD G H η .non x := ra
          cases ra; rfl
        · rename_i hn
          refine decide_eq_false fun z => ?_
          subst z
          cases a with
          | d z => have ra : RD G H η z .non := ra; cases ra; exact hn rfl
          | ref n => obtain ⟨_, _, z⟩ := ra; cases z
      rw [this]; exact q
    · cases e
  | IsNot =>
    simp only [cmpop] at e
    split at e
    · have rb : RD G H η .non y := rb
      cases rb
      refine op_notN pins s σ H x _ v u Q I rx ry ⟨rfl, ?_⟩
      have : (!decide (x = V.non)) = k := by
        cases e
        split
        · have ra : RD G H η .non x := ra
          cases ra; rfl
        · rename_i hn
          rw [Bool.not_eq_true']
          refine decide_eq_false fun z => ?_
          subst z
          cases a with
          | d z => have ra : RD G H η z .non := ra; cases ra; exact hn rfl
          | ref n => obtain ⟨_, _, z⟩ := ra; cases z
      rw [this]; exact q
    · cases e
  | In =>
    simp only [cmpop] at e
    split at e
    · rename_i d xs h2
      split at e
      · rename_i hp
        rw [Bool.and_eq_true] at hp
        cases e
        obtain ⟨as, r1, s1⟩ := ra.reads hK I ab rx (d := d) rfl hp.1
        obtain ⟨bs, r2, s2⟩ := rb.reads hK I ab ry h2 hp.2
        rw [D.py] at r2 s2
        exact SeqAt.in_list_reads r2 r1 (SeqAt.canLay_of_shaped s2) (SeqAt.canLay_of_shaped s1) (room_in_shaped s1 hu) (fin (isIn_py hp.1 (by simpa [D.plain, D.pl, DEEP] using hp.2)))
      · cases e
    · rename_i d xs h2
      split at e
      · rename_i hp
        rw [Bool.and_eq_true] at hp
        cases e
        obtain ⟨as, r1, s1⟩ := ra.reads hK I ab rx (d := d) rfl hp.1
        obtain ⟨bs, r2, s2⟩ := rb.reads hK I ab ry h2 hp.2
        rw [D.py] at r2 s2
        exact SeqAt.in_tuple_reads r2 r1 (SeqAt.canLay_of_shaped s2) (SeqAt.canLay_of_shaped s1) (room_in_shaped s1 hu) (fin (isIn_py hp.1 (by simpa [D.plain, D.pl, DEEP] using hp.2)))
      · cases e
    · rename_i x0 z h2
      split at e
      · rename_i c hc
        cases e
        have hb : b = .d (.str z) := by
          cases b with
          | d z' => simp only [val] at h2; cases h2; rfl
          | ref n => simp only [val] at h2; split at h2 <;> cases h2
        have ex : x0 = ⟨#[c]⟩ := TL.ext_tl (by show x0.cps.toList = _; rw [hc])
        subst ex
        rw [ra.strs rfl] at rx; rw [rb.strs hb] at ry
        exact op_in_sign pins s σ H _ _ v u Q I rx ry ⟨_, _, rfl, rfl, q⟩
      · cases e
    · cases e
  | NotIn =>
    simp only [cmpop] at e
    split at e
    · rename_i d xs h2
      split at e
      · rename_i hp
        rw [Bool.and_eq_true] at hp
        cases e
        obtain ⟨as, r1, s1⟩ := ra.reads hK I ab rx (d := d) rfl hp.1
        obtain ⟨bs, r2, s2⟩ := rb.reads hK I ab ry h2 hp.2
        rw [D.py] at r2 s2
        exact SeqAt.notIn_list_reads r2 r1 (SeqAt.canLay_of_shaped s2) (SeqAt.canLay_of_shaped s1) (room_in_shaped s1 hu) (fin (by rw [isIn_py hp.1 (by simpa [D.plain, D.pl, DEEP] using hp.2)]))
      · cases e
    · rename_i d xs h2
      split at e
      · rename_i hp
        rw [Bool.and_eq_true] at hp
        cases e
        obtain ⟨as, r1, s1⟩ := ra.reads hK I ab rx (d := d) rfl hp.1
        obtain ⟨bs, r2, s2⟩ := rb.reads hK I ab ry h2 hp.2
        rw [D.py] at r2 s2
        exact SeqAt.notIn_tuple_reads r2 r1 (SeqAt.canLay_of_shaped s2) (SeqAt.canLay_of_shaped s1) (room_in_shaped s1 hu) (fin (by rw [isIn_py hp.1 (by simpa [D.plain, D.pl, DEEP] using hp.2)]))
      · cases e
    · rename_i x0 z h2
      split at e
      · rename_i c hc
        cases e
        have hb : b = .d (.str z) := by
          cases b with
          | d z' => simp only [val] at h2; cases h2; rfl
          | ref n => simp only [val] at h2; split at h2 <;> cases h2
        have ex : x0 = ⟨#[c]⟩ := TL.ext_tl (by show x0.cps.toList = _; rw [hc])
        subst ex
        rw [ra.strs rfl] at rx; rw [rb.strs hb] at ry
        exact op_notIn_sign pins s σ H _ _ v u Q I rx ry ⟨_, _, rfl, rfl, q⟩
      · cases e
    · cases e
end
end FT

namespace FT
open PySem PySem.Spec PyProof.Rows L2 SlX

/-- the names' table -/
structure Nm where
  kn : Nat → Bool
  nm : Nat → Str
  atn : Nat → Str
  isc : Nat → Bool
  mtn : Nat → Str
  kw : Nat → List (Nat × List Str × List Nat)
  gc : List (Str × D)
  /-- how the classes are called: places, names, which argument goes where -/
  ck : Nat → List (Nat × List Str × List Nat)
  /-- the classes that a clause may name -/
  hk : Nat → Bool

def bltName : Nat → Str
  | 0 => "abs" | 1 => "all" | 2 => "any" | 3 => "len" | 4 => "int" | 5 => "str" | 6 => "tuple" | 7 => "min" | 8 => "max" | 9 => "sum" | 10 => "sorted"
  | 11 => "isinstance" | 12 => "range" | 13 => "enumerate" | 14 => "zip" | 15 => "list" | 16 => "set" | _ => "bool"
def bltIsTy : Nat → Bool
  | 4 | 5 | 6 | 15 | 16 | 17 => true
  | _ => false
/-- built-in types in isinstance -/
def tyName : Nat → Str
  | 0 => "int" | 1 => "bool" | 2 => "str" | 3 => "list" | 4 => "tuple" | 5 => "ValueError" | _ => "LookupError"
def mtName : Nat → Str
  | 0 => "append" | 1 => "extend" | 2 => "pop" | 3 => "join" | 4 => "split" | _ => "get"

def tgIn (vs : List Nat) : T → Bool
  | .name i => vs.contains i
  | .tup ts => tgsIn vs ts
where tgsIn (vs : List Nat) : Ts → Bool
  | .nil => true
  | .cons t ts => tgIn vs t && tgsIn vs ts
def visB (sc : Scope) (x : Str) : Bool := match sc.names.lookup x with
  | some .local => true
  | some .cell => true
  | some .free => true
  | _ => false
def locB (sc : Scope) (x : Str) : Bool := match sc.names.lookup x with
  | some .local => true
  | some .cell => true
  | _ => false
def glB (sc : Scope) (x : Str) : Bool := match sc.names.lookup x with
  | some .globalImplicit => !(x == ("__debug__" : Str))
  | _ => false
def notStar : Expr → Bool
  | .Starred .. => false
  | _ => true
def notComp : Expr → Bool
  | .ListComp .. | .SetComp .. | .DictComp .. => false
  | _ => true
def notSet : Expr → Bool
  | .Set .. => false
  | _ => true
/-- no call of super -/
def notSuper : Expr → Bool
  | .Call (.Name id _) [] [] _ => !(id == ("super" : Str))
  | _ => true
def isNilEs : Es → Bool
  | .nil => true
  | _ => false

mutual
/-- the same, sign by sign -/
def D.same : D → D → Bool
  | .non, .non => true
  | .bl a, .bl b => a == b
  | .int i, .int j => i == j
  | .str x, .str y => x == y
  | .tup xs, .tup ys => D.sameL xs ys
  | _, _ => false
def D.sameL : List D → List D → Bool
  | [], [] => true
  | x :: xs, y :: ys => D.same x y && D.sameL xs ys
  | _, _ => false
end
mutual
theorem D.same_eq : ∀ (x y : D), D.same x y = true → x = y
  | x, y, h => by
    cases x <;> cases y <;> first
      | rfl
      | (simp only [D.same] at h; have := eq_of_beq h; rw [this])
      | (simp only [D.same] at h; rw [D.sameL_eq _ _ h])
      | (simp [D.same] at h; done)
theorem D.sameL_eq : ∀ (xs ys : List D), D.sameL xs ys = true → xs = ys
  | [], [], _ => rfl
  | [], _ :: _, h => by simp [D.sameL] at h
  | _ :: _, [], h => by simp [D.sameL] at h
  | x :: xs, y :: ys, h => by
    simp only [D.sameL, Bool.and_eq_true] at h
    rw [D.same_eq x y h.1, D.sameL_eq xs ys h.2]
end
def okC : D → Const → Bool
  | .non, .none => true
  | .bl b, .bool c => b == c
  | .int i, .int j => i == j
  | .str x, .str y => x == y && PyData.strOk x
  | _, _ => false

mutual
def okT (N : List Str) (sc : Scope) (fn : Str → Bool) : T → Expr → Bool
  | .name i, x => match x with
    | .Name y _ => decide (N[i]? = some y) && locB sc y && (fn y || decide (sc.names.lookup y = some .local))
    | _ => false
  | .tup ts, x => match x with
    | .Tuple ys _ _ => okTs N sc fn ts ys
    | _ => false
def okTs (N : List Str) (sc : Scope) (fn : Str → Bool) : Ts → List Expr → Bool
  | .nil, xs => match xs with
    | [] => true
    | _ => false
  | .cons t ts, xs => match xs with
    | x :: xs => notStar x && okT N sc fn t x && okTs N sc fn ts xs
    | _ => false
end

/-- comparisons that no own class answers -/
def pureCmp : CmpOp → Bool
  | .Lt | .LtE | .Gt | .GtE | .Is | .IsNot => true
  | _ => false
def isTup : Expr → Bool
  | .Tuple .. => true
  | _ => false
/-- no call without arguments (it might be super) -/
def okBase : Expr → Bool
  | .Call (.Name ..) [] [] _ => false
  | _ => true
def notSlice : Expr → Bool
  | .Slice .. => false
  | _ => true
def ownN (N : List Str) (own : List Nat) : List (Str × Nat) := own.filterMap fun i => (N[i]?).map fun x => (x, i)
def kwNames : List Keyword → List Str
  | [] => []
  | ⟨some x, _, _⟩ :: r => x :: kwNames r
  | ⟨none, _, _⟩ :: r => kwNames r
def okTy1 (M : Nm) (sc : Scope) (t : Bool × Nat) (x : Expr) : Bool := match x with
  | .Name y _ => glB sc y && notStar x && (if t.1 then M.isc t.2 && y == M.nm t.2 else decide (t.2 ≤ 6) && y == tyName t.2)
  | _ => false
def okTys (M : Nm) (sc : Scope) : List (Bool × Nat) → List Expr → Bool
  | [], [] => true
  | t :: ts, x :: xs => okTy1 M sc t x && okTys M sc ts xs
  | _, _ => false
def okTy (M : Nm) (sc : Scope) (ts : List (Bool × Nat)) (x : Expr) : Bool := match x with
  | .Tuple xs _ _ => (!ts.isEmpty && decide (ts.length < 100)) && okTys M sc ts xs
  | _ => okTys M sc ts [x]
mutual
def okE (M : Nm) (N : List Str) (sc : Scope) : E → Expr → Bool
  | .var i, x => match x with
    | .Name y _ => decide (N[i]? = some y) && visB sc y && !(y == ("__debug__" : Str)) && !(y == ("__classdict__" : Str))
    | _ => false
  | .c d, x => match x with
    | .Constant k _ _ => okC d k
    | .Name y _ => glB sc y && M.gc.any fun p => p.1 == y && D.same p.2 d
    | _ => false
  | .tup es, x => match x with
    | .Tuple xs _ _ => okEs M N sc es xs
    | _ => false
  | .lst _ es, x => match x with
    | .List xs _ => okEs M N sc es xs
    | _ => false
  | .bin o a b, x => match x with
    | .BinOp y o' z _ => decide (o = o') && okE M N sc a y && okE M N sc b z
    | _ => false
  | .rep _ es k, x => match x with
    | .BinOp (.List xs _) .Mult y _ => okEs M N sc es xs && okE M N sc k y
    | _ => false
  | .catm a b, x => match x with
    | .BinOp y .Add z _ => okE M N sc a y && okE M N sc b z
    | _ => false
  | .neg a, x => match x with
    | .UnaryOp .USub y _ => okE M N sc a y
    | _ => false
  | .not a, x => match x with
    | .UnaryOp .Not y _ => okE M N sc a y
    | _ => false
  | .bop o es, x => match x with
    | .BoolOp o' xs _ => decide (o = o') && !isNilEs es && xs.all notStar && okEs M N sc es xs
    | _ => false
  | .orv a b, x => match x with
    | .BoolOp .Or [y, z] _ => okE M N sc a y && okE M N sc b z
    | _ => false
  | .cmp o a b, x => match x with
    | .Compare y [o'] [z] _ => decide (o = o') && notSet z && okE M N sc a y && okE M N sc b z
    | _ => false
  | .chain a o1 b o2 c, x => match x with
    | .Compare y [p1, p2] [z, w] _ => decide (o1 = p1) && decide (o2 = p2) && pureCmp o1 && pureCmp o2 && notSet z && notSet w && okE M N sc a y && okE M N sc b z && okE M N sc c w
    | _ => false
  | .ite c a b, x => match x with
    | .IfExp y z w _ => okE M N sc c y && okE M N sc a z && okE M N sc b w
    | _ => false
  | .call f es, x => match x with
    | .Call (.Name y _) xs [] _ => M.kn f && y == M.nm f && glB sc y && xs.all notStar && okEs M N sc es xs
    | _ => false
  | .callk f es _ kes perm, x => match x with
    | .Call (.Name y _) xs kws _ => !kws.isEmpty && y == M.nm f && glB sc y && xs.all notStar && okEs M N sc es xs && okKs M N sc kes kws && decide ((xs.length, kwNames kws, perm) ∈ M.kw f)
    | _ => false
  | .smeth c m es, x => false
  | .mk c es kes perm, x => match x with
    | .Call (.Name y _) xs kws _ => y == M.nm c && glB sc y && xs.all notStar && okEs M N sc es xs && okKs M N sc kes kws && decide ((xs.length, kwNames kws, perm) ∈ M.ck c) && decide (xs.length < 100)
    | _ => false
  | .bi f es, x => match x with
    | .Call (.Name y _) xs [] _ => y == bltName f && glB sc y && decide (f ≤ 10) && !xs.isEmpty && xs.all notStar && okEs M N sc es xs
    | _ => false
  | .isi a tys, x => match x with
    | .Call (.Name y _) [z, w] [] _ => y == ("isinstance" : Str) && glB sc y && notStar z && notStar w && okE M N sc a z && okTy M sc tys w
    | _ => false
  | .meth m o es, x => match x with
    | .Call (.Attribute z nm ap) xs [] cp => nm == (if mtOk m then mtName m else M.mtn m) && (mtOk m || decide (100 ≤ m)) && okBase z && ap.endLine == cp.line && okE M N sc o z && okEs M N sc es xs && xs.all notStar && decide (xs.length < 29)
    | _ => false
  | .attr o f, x => match x with
    | .Attribute z nm _ => okBase z && nm == M.atn f && okE M N sc o z
    | _ => false
  | .idx o i, x => match x with
    | .Subscript y z _ => notSlice z && okE M N sc o y && okE M N sc i z
    | _ => false
  | .slice o lo hi, x => match x with
    | .Subscript y (.Slice l h none _) _ => okE M N sc o y && okO M N sc lo l && okO M N sc hi h
    | _ => false
  | .comp m elt tg it cond own, x => match x with
    | .ListComp e1 [⟨tg1, it1, ifs, 0⟩] scope _ => decide ((ownN N own).map (·.2) = own) && blkC N sc scope (ownN N own) && tgIn own tg && okI M N sc tg1 it it1 && okT N (relS scope sc) (fun y => scope.names.lookup y == some .cell) tg tg1 && okC1 M N (relS scope sc) cond ifs && okE M N (relS scope sc) elt e1
    | _ => false
  | .srtset a, x => false
  | .lstof m a, x => match x with
    | .Call (.Name y _) [z] [] _ => y == ("list" : Str) && glB sc y && notStar z && okE M N sc a z
    | _ => false
  | .mdic, x => false
def okKs (M : Nm) (N : List Str) (sc : Scope) : Es → List Keyword → Bool
  | .nil, xs => match xs with
    | [] => true
    | _ => false
  | .cons e es, xs => match xs with
    | ⟨some _, x, _⟩ :: xs => okE M N sc e x && okKs M N sc es xs
    | _ => false
  | .star _ _, _ => false
def okO (M : Nm) (N : List Str) (sc : Scope) : Es → Option Expr → Bool
  | .nil, x => match x with
    | none => true
    | _ => false
  | .cons e es, x => match x with
    | some x => isNilEs es && okE M N sc e x
    | _ => false
  | .star _ _, _ => false
def okC1 (M : Nm) (N : List Str) (sc : Scope) : Es → List Expr → Bool
  | .nil, x => match x with
    | [] => true
    | _ => false
  | .cons e es, x => match x with
    | [x] => isNilEs es && okE M N sc e x
    | _ => false
  | .star _ _, _ => false
def okEs (M : Nm) (N : List Str) (sc : Scope) : Es → List Expr → Bool
  | .nil, xs => match xs with
    | [] => true
    | _ => false
  | .cons e es, xs => match xs with
    | x :: xs => notStar x && okE M N sc e x && okEs M N sc es xs
    | _ => false
  | .star e es, xs => match xs with
    | .Starred x _ :: xs => okE M N sc e x && okEs M N sc es xs
    | _ => false
def okI (M : Nm) (N : List Str) (sc : Scope) (tg : Expr) : I → Expr → Bool
  | .e a, x => notSet x && okE M N sc a x
  | .range1 a, x => match x with
    | .Call (.Name y _) [z] [] _ => y == ("range" : Str) && glB sc y && notStar z && okE M N sc a z
    | _ => false
  | .range2 a b, x => match x with
    | .Call (.Name y _) [z, w] [] _ => y == ("range" : Str) && glB sc y && notStar z && notStar w && okE M N sc a z && okE M N sc b w
    | _ => false
  | .enum a, x => match x with
    | .Call (.Name y _) [z] [] _ => isTup tg && y == ("enumerate" : Str) && glB sc y && notStar z && okE M N sc a z
    | _ => false
  | .enum2 _ _, _ => false
  | .zip a b, x => match x with
    | .Call (.Name y _) [z, w] [] _ => isTup tg && y == ("zip" : Str) && glB sc y && notStar z && notStar w && okE M N sc a z && okE M N sc b w
    | _ => false
end

def tyStr : Nat → String
  | 0 => "int" | 1 => "bool" | 2 => "str" | 3 => "list" | 4 => "tuple" | 5 => "ValueError" | _ => "LookupError"
def tyKinds : List String := ["NoneType", "bool", "int", "str", "list", "tuple"]
/-- what the text's classes say -/
structure KT (G : GG) (M : Nm) : Prop where
  exc : ∀ c C A, G.P.cls c = some C → C.isExc = true → G.clsA c = some A → ExcC G.K A
  ins : ∀ c C A, G.P.cls c = some C → C.isExc = false → G.clsA c = some A → SCls G.K A ∧ SIsi G.K A
  oneB : ∀ T ∈ tyKinds, ∀ c A, G.clsA c = some A → PySem.W.kitOne G.K (.type T) (.ref A) = some false
  oneE : ∀ c C A t, G.P.cls c = some C → G.clsA c = some A → t ≤ 6 → PySem.W.kitOne G.K (.ref A) (.type (tyStr t)) = some (C.blt.contains t)
  oneC : ∀ c C A d B, G.P.cls c = some C → G.clsA c = some A → G.clsA d = some B → PySem.W.kitOne G.K (.ref A) (.ref B) = some (C.sups.contains d)
  fldE : ∀ c C A f i, G.P.cls c = some C → C.isExc = true → G.clsA c = some A → C.attr f = some (.fld i) → (G.fldN c)[i]? = some (M.atn f) ∧ (G.fldN c).Nodup ∧ PySem.W.findIn G.K (.ref A) (M.atn f) = some none
  fldI : ∀ c C A f i, G.P.cls c = some C → C.isExc = false → G.clsA c = some A → C.attr f = some (.fld i) → ∃ p, Slot1 G.K A (M.atn f) p i

/-- what a callee promises -/
def spF (G : GG) (n f : Nat) : Sp := fun vs H Q E => ∃ η s ws, AbsS G H η s ∧ RWs G H η ws vs ∧ Post G (fun c d H => E c d H) (RW G) H η (callN G.P n f ws s) Q
/-- the room a call of n wants -/
def lvl (n : Nat) : Nat := 2 * n

/-- what must be known of a class of errors that is called so -/
structure MkD (G : GG) (K : PySem.W.Frag) (c : Nat) (q : Nat × List Str × List Nat) (A : Addr) (F : Addr → FuncData → List Str → Sp → Prop) : Prop where
  fnc : G.P.fn c = none
  clsA : G.clsA c = some A
  ox : OexC K A
  ex : ∃ (C : Cls) (fI : Addr) (fd : FuncData) (f : Str) (g : List Value → List Value → List Value) (gV : List V → List V → List V), G.P.cls c = some C ∧ C.isExc = true ∧ C.dfl = [] ∧ PySem.W.findIn K (.ref A) "__init__" = some (some (.ref fI)) ∧ PySem.W.typeIn K (.ref fI) = some (.type "function") ∧
    F fI fd (initPs C.arg f) (spI K C.arg f) ∧ KBn K fd (initPs C.arg f) (q.1 + 1) q.2.1 g gV ∧ G.fldN c = [f] ∧ PySem.W.findIn K (.ref A) f = some none ∧
    ∀ (a : V) (vs zs us : List V), vs.length = q.1 → zs.length = q.2.1.length → pick (vs ++ zs) q.2.2 = some us → gV (a :: vs) zs = a :: us
theorem MkD.imp {G : GG} {K : PySem.W.Frag} {c : Nat} {q : Nat × List Str × List Nat} {A : Addr} {F F' : Addr → FuncData → List Str → Sp → Prop} (h : MkD G K c q A F) (i : ∀ a b c d, F a b c d → F' a b c d) : MkD G K c q A F' :=
  ⟨h.fnc, h.clsA, h.ox, let ⟨C, fI, fd, f, g, gV, h1, h2, h3, h4, h5, h6, h7⟩ := h.ex; ⟨C, fI, fd, f, g, gV, h1, h2, h3, h4, h5, i _ _ _ _ h6, h7⟩⟩
/-- a body's context -/
structure Ctx (G : GG) (M : Nm) (n : Nat) (N : List Str) (sc : Scope) (W : WX) (X : Cx) : Prop where
  K : X.K = G.K
  N' : X.N = N
  nd : N.Nodup
  calm : X.calm = true
  sc' : X.env.scope = sc
  blt : ∀ f, X.mg (bltName f) = none
  ty : ∀ f, X.mg (tyName f) = none
  room : Room (lvl n + 1) X.A
  tk : Takes X W
  own : ∀ w m s, FT.own G.P w m s = none
  cls : ∀ c, M.isc c = true → ∃ A, G.clsA c = some A ∧ X.mg (M.nm c) = some (.ref A)
  kt : KT G M
  props : ∀ c Cl A f g, G.P.cls c = some Cl → Cl.isExc = false → G.clsA c = some A → Cl.attr f = some (.prop g) → ∃ p ga, PySem.W.findIn X.K (.ref A) (M.atn f) = some (some (.ref p)) ∧ PySem.W.specialIn X.K (.ref p) "__get__" = some (some (.builtin "property.__get__")) ∧
    PySem.W.takesIn X.K (.ref p) = some true ∧ (∃ rest, PySem.W.recIn X.K p "property" = some (.ref ga :: rest)) ∧ FnR X.prog X.w X.K X.mg X.base (L2.CX X.prog X.w) (lvl n) ga (spF G n g)
  mths : ∀ c Cl A m g, G.P.cls c = some Cl → Cl.isExc = false → G.clsA c = some A → Cl.meth m = some g → 100 ≤ m → ∃ ga, Meth X.K A (M.mtn m) ga ∧ FnR X.prog X.w X.K X.mg X.base (L2.CX X.prog X.w) (lvl n) ga (spF G n g)
  kws : ∀ f q, q ∈ M.kw f → ∃ a fd ps g gV, X.mg (M.nm f) = some (.ref a) ∧ PySem.W.keepIn X.K (.ref a) = true ∧ FnOk X.prog X.w X.K X.mg X.base (L2.CX X.prog X.w) (lvl n) a fd ps (spF G n f) ∧ KBn X.K fd ps q.1 q.2.1 g gV ∧
    ∀ vs zs us : List V, vs.length = q.1 → zs.length = q.2.1.length → pick (vs ++ zs) q.2.2 = some us → gV vs zs = us
  gcs : ∀ y d, (y, d) ∈ M.gc → ∃ v u, X.mg y = some u ∧ RelV v u ∧ ∀ H η, RD G H η d v
  cks : ∀ c q, q ∈ M.ck c → ∃ A, X.mg (M.nm c) = some (.ref A) ∧ PySem.W.keepIn X.K (.ref A) = true ∧ MkD G X.K c q A fun fI fd ps sp => FnOk X.prog X.w X.K X.mg X.base (L2.CX X.prog X.w) 1 fI fd ps sp
  hks : ∀ k, M.hk k = true → ∃ B, X.mg (M.nm k) = some (.ref B) ∧ ∀ c C A, G.P.cls c = some C → C.isExc = true → G.clsA c = some A → PySem.W.exmOne G.K (.ref A) (.ref B) = some (C.sups.contains k)
  fns : ∀ f, M.kn f = true → ∃ a, X.mg (M.nm f) = some (.ref a) ∧ PySem.W.keepIn X.K (.ref a) = true ∧ FnR X.prog X.w X.K X.mg X.base (L2.CX X.prog X.w) (lvl n) a (spF G n f)

section
variable {X : Cx} {es : List Expr} {e : Expr} {env : Env}
theorem star_cons {env : PySem.Env} (h : notStar e = true) : starEach (e :: es) env = (false, eval e env) :: starEach es env := by
  cases e <;> first | rfl | (simp [notStar] at h)
theorem star_none {env : PySem.Env} {pos : Pos} : ∀ {es : List Expr}, es.all notStar = true → (backTo pos (starEach es env)).any (·.1) = false
  | [], _ => rfl
  | e :: es, h => by
    rw [List.all_cons, Bool.and_eq_true] at h
    rw [star_cons h.1]
    have := star_none (env := env) (pos := pos) h.2
    simp only [backTo, List.map_cons, List.any_cons, Bool.false_or] at this ⊢
    exact this
theorem gl_of {sc : Scope} {x : Str} (hs : X.env.scope = sc) (h : glB sc x = true) : L2.Gl X x ∧ (x == ("__debug__" : Str)) = false := by
  unfold glB at h
  split at h
  · rename_i e
    refine ⟨?_, by simpa using h⟩
    show X.env.scope.names.lookup x = _
    rw [hs]; exact e
  · cases h
theorem vis_of {sc : Scope} {x : Str} (hs : X.env.scope = sc) (h : visB sc x = true) : Vis X.env.scope x := by
  unfold visB at h
  rw [hs]
  split at h
  · exact .inl (by assumption)
  · exact .inr (.inl (by assumption))
  · exact .inr (.inr (by assumption))
  · cases h
theorem loc_of {sc : Scope} {x : Str} (hs : X.env.scope = sc) (h : locB sc x = true) : Loc X.env.scope x := by
  unfold locB at h
  rw [hs]
  split at h
  · exact .inl (by assumption)
  · exact .inr (by assumption)
  · cases h

/-- the callee runs -/
theorem run_F {CX : CXT} {k : Nat} {f : Addr} {sp : Sp} {E : XK} {pins : List (Addr × Obj)} {σ : L2.St} {H : Hp} {s : Shared} {us : List Value} {vs : List V} {Q : VK} (F : FnR X.prog X.w X.K X.mg X.base CX k f sp) (hr : Room k X.A) (hx : PassesAt CX X σ E)
    (I : Inv X pins σ H s) (r : Vals vs us) (h : sp vs H Q E) : wpAny (model X.prog X.w) X.A (call (.ref f) us) (EP X pins σ Q) X.xe s := by
  refine wpAny_call (codeAny_mono (F X.A X.stack s H us vs Q E hr I.env0 r h) fun r s' hq => ?_)
  cases r with
  | error e => exact hx pins H s e s' I hq
  | ok fl =>
    cases fl with
    | ret u => exact I.after hq
    | next => exact False.elim hq
    | brk => exact False.elim hq
    | cont => exact False.elim hq
/-- .. with keywords -/
theorem run_FK {CX : CXT} {k n : Nat} {f : Addr} {fd : FuncData} {ps ks : List Str} {sp : Sp} {E : XK} {g : List Value → List Value → List Value} {gV : List V → List V → List V} {pins : List (Addr × Obj)} {σ : L2.St} {H : Hp} {s : Shared} {us ws : List Value} {vs zs : List V} {Q : VK} (F : FnOk X.prog X.w X.K X.mg X.base CX k f fd ps sp) (hr : Room k X.A) (hb : KBn X.K fd ps n ks g gV) (hx : PassesAt CX X σ E)
    (I : Inv X pins σ H s) (r : Vals vs us) (rz : Vals zs ws) (l1 : vs.length = n) (l2 : zs.length = ks.length) (h : sp (gV vs zs) H Q E) : wpAny (model X.prog X.w) X.A (call (.ref f) us (ks.zip ws)) (EP X pins σ Q) X.xe s := by
  have r2 := hb.rel r rz
  refine wpAny_call (codeAny_mono (F.run X.A X.stack s H ⟨us, ks.zip ws⟩ (g us ws) (gV vs zs) Q E hr I.env0 (hb.to s us ws I.kIn (by rw [← r.length]; exact l1) (by rw [← rz.length]; exact l2)) r2 h) fun r s' hq => ?_)
  cases r with
  | error e => exact hx pins H s e s' I hq
  | ok fl =>
    cases fl with
    | ret u => exact I.after hq
    | next => exact False.elim hq
    | brk => exact False.elim hq
    | cont => exact False.elim hq
/-- f(..), f a def of the text: what it lets out is wished for at the slots -/
theorem pe_callF {CX : CXT} {k : Nat} {f : Addr} {sp : Sp} {E : L2.St → XK} {x : Str} {p pos : Pos} {t : TA} (F : FnR X.prog X.w X.K X.mg X.base CX k f sp) (hr : Room k X.A) (hg : L2.Gl X x) (hm : X.mg x = some (.ref f)) (hk : PySem.W.keepIn X.K (.ref f) = true)
    (hx : ∀ σ, PassesAt CX X σ (E σ)) (ha : PA X (e :: es) t) (hdb : (x == ("__debug__" : Str)) = false) (hst : (e :: es).all notStar = true) : PE X (.Call (.Name x p) (e :: es) [] pos) (fun σ H Q => t σ H fun vs H1 => sp vs H1 Q (E σ)) := by
  refine ⟨fun pins s σ H Q I h => ?_⟩
  refine wpAny_Call_Name_kw (ld_glob I hg hm ?_ hdb)
  rw [List.all_cons, Bool.and_eq_true] at hst
  exact PySem.W.callWith_K (h₀ := X.base) I.ok.mod.kin hk (thn (ha.run pos pins s σ H _ I h) fun us s1 ⟨vs, H1, I1, r, q⟩ => ⟨I1.kIn, run_F F hr (hx σ) I1 r q⟩) (star_cons hst.1) (star_none hst.2)
theorem pe_callF0 {CX : CXT} {k : Nat} {f : Addr} {sp : Sp} {E : L2.St → XK} {x : Str} {p pos : Pos} (F : FnR X.prog X.w X.K X.mg X.base CX k f sp) (hr : Room k X.A) (hg : L2.Gl X x) (hm : X.mg x = some (.ref f)) (hk : PySem.W.keepIn X.K (.ref f) = true)
    (hx : ∀ σ, PassesAt CX X σ (E σ)) (hdb : (x == ("__debug__" : Str)) = false) : PE X (.Call (.Name x p) [] [] pos) (fun σ H Q => sp [] H Q (E σ)) := by
  refine ⟨fun pins s σ H Q I h => ?_⟩
  refine wpAny_Call_Name_kw (ld_glob I hg hm ?_ hdb)
  exact PySem.W.callWith_K0 I.kIn hk (run_F (us := []) F hr (hx σ) I .nil h)
end
end FT

namespace FT
open PySem PySem.Spec PyProof.Rows L2 SlX

theorem strEq_eq {a b : Str} (h : strEq a b = true) : a = b := by
  unfold strEq at h
  have : a.cps.toList = b.cps.toList := by simpa using h
  exact Str.ext' (Array.toList_inj.mp this)
mutual
theorem eqv_eq : ∀ (x y : D) (n m : Nat), D.pl x n = true → D.pl y m = true → D.alike x y = true → D.eqv x y = true → x = y
  | .non, .non, _, _, _, _, _, _ => rfl
  | .bl a, .bl b, _, _, _, _, _, h => by simp [D.eqv] at h; rw [h]
  | .int a, .int b, _, _, _, _, _, h => by simp [D.eqv] at h; rw [h]
  | .str a, .str b, _, _, _, _, _, h => by rw [strEq_eq (a := a) (b := b) (by simpa [D.eqv] using h)]
  | .tup xs, .tup ys, n + 1, m + 1, h1, h2, h3, h => by
    rw [D.pl] at h1 h2
    rw [D.alike] at h3
    rw [D.eqv] at h
    rw [eqvL_eq xs ys n m h1 h2 h3 h]
  | .lst xs, .lst ys, n + 1, m + 1, h1, h2, h3, h => by
    rw [D.pl] at h1 h2
    rw [D.alike] at h3
    rw [D.eqv] at h
    rw [eqvL_eq xs ys n m h1 h2 h3 h]
  | .tup xs, .tup ys, 0, _, h1, _, _, _ => by simp [D.pl] at h1
  | .tup xs, .tup ys, n + 1, 0, _, h1, _, _ => by simp [D.pl] at h1
  | .lst xs, .lst ys, 0, _, h1, _, _, _ => by simp [D.pl] at h1
  | .lst xs, .lst ys, n + 1, 0, _, h1, _, _ => by simp [D.pl] at h1
  | .dic .., _, n, _, h1, _, _, _ => by simp [D.pl] at h1
  | .ins .., _, n, _, h1, _, _, _ => by simp [D.pl] at h1
  | .exc .., _, n, _, h1, _, _, _ => by simp [D.pl] at h1
  | .non, .bl _, _, _, _, _, h, _ => by simp [D.alike] at h
  | .non, .int _, _, _, _, _, h, _ => by simp [D.alike] at h
  | .non, .str _, _, _, _, _, h, _ => by simp [D.alike] at h
  | .non, .tup _, _, _, _, _, h, _ => by simp [D.alike] at h
  | .non, .lst _, _, _, _, _, h, _ => by simp [D.alike] at h
  | .non, .dic .., _, _, _, _, h, _ => by simp [D.alike] at h
  | .non, .ins .., _, _, _, _, h, _ => by simp [D.alike] at h
  | .non, .exc .., _, _, _, _, h, _ => by simp [D.alike] at h
  | .bl _, .non, _, _, _, _, h, _ => by simp [D.alike] at h
  | .bl _, .int _, _, _, _, _, h, _ => by simp [D.alike] at h
  | .bl _, .str _, _, _, _, _, h, _ => by simp [D.alike] at h
  | .bl _, .tup _, _, _, _, _, h, _ => by simp [D.alike] at h
  | .bl _, .lst _, _, _, _, _, h, _ => by simp [D.alike] at h
  | .bl _, .dic .., _, _, _, _, h, _ => by simp [D.alike] at h
  | .bl _, .ins .., _, _, _, _, h, _ => by simp [D.alike] at h
  | .bl _, .exc .., _, _, _, _, h, _ => by simp [D.alike] at h
  | .int _, .non, _, _, _, _, h, _ => by simp [D.alike] at h
  | .int _, .bl _, _, _, _, _, h, _ => by simp [D.alike] at h
  | .int _, .str _, _, _, _, _, h, _ => by simp [D.alike] at h
  | .int _, .tup _, _, _, _, _, h, _ => by simp [D.alike] at h
  | .int _, .lst _, _, _, _, _, h, _ => by simp [D.alike] at h
  | .int _, .dic .., _, _, _, _, h, _ => by simp [D.alike] at h
  | .int _, .ins .., _, _, _, _, h, _ => by simp [D.alike] at h
  | .int _, .exc .., _, _, _, _, h, _ => by simp [D.alike] at h
  | .str _, .non, _, _, _, _, h, _ => by simp [D.alike] at h
  | .str _, .bl _, _, _, _, _, h, _ => by simp [D.alike] at h
  | .str _, .int _, _, _, _, _, h, _ => by simp [D.alike] at h
  | .str _, .tup _, _, _, _, _, h, _ => by simp [D.alike] at h
  | .str _, .lst _, _, _, _, _, h, _ => by simp [D.alike] at h
  | .str _, .dic .., _, _, _, _, h, _ => by simp [D.alike] at h
  | .str _, .ins .., _, _, _, _, h, _ => by simp [D.alike] at h
  | .str _, .exc .., _, _, _, _, h, _ => by simp [D.alike] at h
  | .tup _, .non, _, _, _, _, h, _ => by simp [D.alike] at h
  | .tup _, .bl _, _, _, _, _, h, _ => by simp [D.alike] at h
  | .tup _, .int _, _, _, _, _, h, _ => by simp [D.alike] at h
  | .tup _, .str _, _, _, _, _, h, _ => by simp [D.alike] at h
  | .tup _, .lst _, _, _, _, _, h, _ => by simp [D.alike] at h
  | .tup _, .dic .., _, _, _, _, h, _ => by simp [D.alike] at h
  | .tup _, .ins .., _, _, _, _, h, _ => by simp [D.alike] at h
  | .tup _, .exc .., _, _, _, _, h, _ => by simp [D.alike] at h
  | .lst _, .non, _, _, _, _, h, _ => by simp [D.alike] at h
  | .lst _, .bl _, _, _, _, _, h, _ => by simp [D.alike] at h
  | .lst _, .int _, _, _, _, _, h, _ => by simp [D.alike] at h
  | .lst _, .str _, _, _, _, _, h, _ => by simp [D.alike] at h
  | .lst _, .tup _, _, _, _, _, h, _ => by simp [D.alike] at h
  | .lst _, .dic .., _, _, _, _, h, _ => by simp [D.alike] at h
  | .lst _, .ins .., _, _, _, _, h, _ => by simp [D.alike] at h
  | .lst _, .exc .., _, _, _, _, h, _ => by simp [D.alike] at h
theorem eqvL_eq : ∀ (xs ys : List D) (n m : Nat), D.plL xs n = true → D.plL ys m = true → D.alikeL xs ys = true → D.eqvL xs ys = true → xs = ys
  | [], [], _, _, _, _, _, _ => rfl
  | x :: xs, y :: ys, n, m, h1, h2, h3, h => by
    rw [D.plL, Bool.and_eq_true] at h1 h2
    rw [D.alikeL, Bool.and_eq_true] at h3
    rw [D.eqvL, Bool.and_eq_true] at h
    rw [eqv_eq x y n m h1.1 h2.1 h3.1 h.1, eqvL_eq xs ys n m h1.2 h2.2 h3.2 h.2]
  | [], _ :: _, _, _, _, _, _, h => by simp [D.eqvL] at h
  | _ :: _, [], _, _, _, _, _, h => by simp [D.eqvL] at h
end
mutual
theorem eqv_refl : ∀ (x : D) (n : Nat), D.pl x n = true → D.eqv x x = true
  | .tup xs, n + 1, h => by rw [D.pl] at h; rw [D.eqv]; exact eqvL_refl xs n h
  | .lst xs, n + 1, h => by rw [D.pl] at h; rw [D.eqv]; exact eqvL_refl xs n h
  | .non, _, _ => rfl
  | .bl _, _, _ => by simp [D.eqv]
  | .int _, _, _ => by simp [D.eqv]
  | .str _, _, _ => by simp [D.eqv, strEq]
  | .tup _, 0, h => by simp [D.pl] at h
  | .lst _, 0, h => by simp [D.pl] at h
  | .dic .., _, h => by simp [D.pl] at h
  | .ins .., _, h => by simp [D.pl] at h
  | .exc .., _, h => by simp [D.pl] at h
theorem eqvL_refl : ∀ (xs : List D) (n : Nat), D.plL xs n = true → D.eqvL xs xs = true
  | [], _, _ => rfl
  | x :: xs, n, h => by
    rw [D.plL, Bool.and_eq_true] at h
    rw [D.eqvL, eqv_refl x n h.1, eqvL_refl xs n h.2]; rfl
end
theorem strEq_symm (a b : Str) : strEq a b = strEq b a := by
  unfold strEq
  exact Bool.beq_comm
mutual
theorem eqv_symm : ∀ (x y : D), D.eqv x y = D.eqv y x
  | .tup xs, .tup ys => by rw [D.eqv, D.eqv]; exact eqvL_symm xs ys
  | .lst xs, .lst ys => by rw [D.eqv, D.eqv]; exact eqvL_symm xs ys
  | .bl a, .bl b => by simp only [D.eqv]; exact Bool.beq_comm
  | .int a, .int b => by simp only [D.eqv]; exact Bool.beq_comm
  | .bl a, .int b => by simp only [D.eqv]; exact Bool.beq_comm
  | .int a, .bl b => by simp only [D.eqv]; exact Bool.beq_comm
  | .str a, .str b => by simp only [D.eqv]; exact strEq_symm a b
  | x, y => by
    cases x <;> cases y <;> first
      | (simp only [D.eqv]; done)
      | (simp only [D.eqv]; exact Bool.beq_comm)
      | (simp only [D.eqv]; exact strEq_symm _ _)
      | (rename_i xs ys; rw [D.eqv, D.eqv]; exact eqvL_symm xs ys)
theorem eqvL_symm : ∀ (xs ys : List D), D.eqvL xs ys = D.eqvL ys xs
  | [], [] => rfl
  | [], _ :: _ => by simp [D.eqvL]
  | _ :: _, [] => by simp [D.eqvL]
  | x :: xs, y :: ys => by rw [D.eqvL, D.eqvL, eqv_symm x y, eqvL_symm xs ys]
end
theorem str_conn (a b : Str) : strLt a b = true ∨ a = b ∨ strLt b a = true := by
  unfold strLt
  by_cases h1 : a.cps.toList < b.cps.toList
  · exact .inl (decide_eq_true h1)
  · by_cases h2 : b.cps.toList < a.cps.toList
    · exact .inr (.inr (decide_eq_true h2))
    · exact .inr (.inl (Str.ext' (Array.toList_inj.mp (List.le_antisymm (List.not_lt.mp h2) (List.not_lt.mp h1)))))
mutual
theorem lt_conn : ∀ (x y : D) (n m : Nat), D.pl x n = true → D.pl y m = true → D.alike x y = true → D.ltB x y = true ∨ x = y ∨ D.ltB y x = true
  | .tup xs, .tup ys, n + 1, m + 1, h1, h2, h3 => by
    rw [D.pl] at h1 h2
    rw [D.alike] at h3
    rw [D.ltB, D.ltB]
    rcases ltL_conn xs ys n m h1 h2 h3 with h | h | h
    · exact .inl h
    · exact .inr (.inl (by rw [h]))
    · exact .inr (.inr h)
  | .lst xs, .lst ys, n + 1, m + 1, h1, h2, h3 => by
    rw [D.pl] at h1 h2
    rw [D.alike] at h3
    rw [D.ltB, D.ltB]
    rcases ltL_conn xs ys n m h1 h2 h3 with h | h | h
    · exact .inl h
    · exact .inr (.inl (by rw [h]))
    · exact .inr (.inr h)
  | .tup xs, .tup ys, 0, _, h1, _, _ => by simp [D.pl] at h1
  | .tup xs, .tup ys, n + 1, 0, _, h1, _ => by simp [D.pl] at h1
  | .lst xs, .lst ys, 0, _, h1, _, _ => by simp [D.pl] at h1
  | .lst xs, .lst ys, n + 1, 0, _, h1, _ => by simp [D.pl] at h1
  | .non, .non, _, _, _, _, _ => .inr (.inl rfl)
  | .bl a, .bl b, _, _, _, _, _ => by cases a <;> cases b <;> simp [D.ltB]
  | .int a, .int b, _, _, _, _, _ => by
    simp only [D.ltB, decide_eq_true_eq, D.int.injEq]
    omega
  | .str a, .str b, _, _, _, _, _ => by
    rw [D.ltB, D.ltB]
    rcases str_conn a b with h | h | h
    · exact .inl h
    · exact .inr (.inl (by rw [h]))
    · exact .inr (.inr h)
  | x, y, n, m, h1, h2, h3 => by
    cases x <;> cases y <;> first
      | (simp [D.alike] at h3; done)
      | (simp [D.pl] at h1; done)
      | exact .inr (.inl rfl)
      | (rename_i a b; cases a <;> cases b <;> simp [D.ltB]; done)
      | (simp only [D.ltB, decide_eq_true_eq, D.int.injEq]; omega)
      | (rename_i a b; rw [D.ltB, D.ltB]; exact (str_conn a b).imp id (Or.imp (fun h => by rw [h]) id))
      | (cases n <;> cases m <;> first
        | (simp [D.pl] at h1; done)
        | (simp [D.pl] at h2; done)
        | (rename_i xs ys n m
           rw [D.pl] at h1 h2
           rw [D.alike] at h3
           rw [D.ltB, D.ltB]
           exact (ltL_conn xs ys n m h1 h2 h3).imp id (Or.imp (fun h => by rw [h]) id)))
theorem ltL_conn : ∀ (xs ys : List D) (n m : Nat), D.plL xs n = true → D.plL ys m = true → D.alikeL xs ys = true → D.ltBL xs ys = true ∨ xs = ys ∨ D.ltBL ys xs = true
  | [], [], _, _, _, _, _ => .inr (.inl rfl)
  | [], _ :: _, _, _, _, _, _ => .inl (by simp [D.ltBL])
  | _ :: _, [], _, _, _, _, _ => .inr (.inr (by simp [D.ltBL]))
  | x :: xs, y :: ys, n, m, h1, h2, h3 => by
    rw [D.plL, Bool.and_eq_true] at h1 h2
    rw [D.alikeL, Bool.and_eq_true] at h3
    rw [D.ltBL, D.ltBL]
    have sy : D.eqv y x = D.eqv x y := eqv_symm y x
    rw [sy]
    by_cases e : D.eqv x y = true
    · rw [if_pos e, if_pos e]
      have ex := eqv_eq x y n m h1.1 h2.1 h3.1 e
      rcases ltL_conn xs ys n m h1.2 h2.2 h3.2 with h | h | h
      · exact .inl h
      · exact .inr (.inl (by rw [h, ex]))
      · exact .inr (.inr h)
    · rw [if_neg e, if_neg e]
      rcases lt_conn x y n m h1.1 h2.1 h3.1 with h | h | h
      · exact .inl h
      · exact absurd (h ▸ eqv_refl x n h1.1) e
      · exact .inr (.inr h)
end
theorem str_asymm {a b : Str} (h : strLt a b = true) : strLt b a = false := by
  unfold strLt at *
  have h : a.cps.toList < b.cps.toList := of_decide_eq_true h
  exact decide_eq_false (List.lt_asymm h)
theorem str_trans {a b c : Str} (h : strLt a b = true) (h2 : strLt b c = true) : strLt a c = true := by
  unfold strLt at *
  exact decide_eq_true (List.lt_trans (of_decide_eq_true h) (of_decide_eq_true h2))
mutual
theorem lt_asymm : ∀ (x y : D), D.ltB x y = true → D.ltB y x = false
  | .tup xs, .tup ys, h => by rw [D.ltB] at h ⊢; exact ltL_asymm xs ys h
  | .lst xs, .lst ys, h => by rw [D.ltB] at h ⊢; exact ltL_asymm xs ys h
  | .bl a, .bl b, h => by cases a <;> cases b <;> simp [D.ltB] at h ⊢
  | .int a, .int b, h => by simp [D.ltB] at h ⊢; omega
  | .str a, .str b, h => by rw [D.ltB] at h ⊢; exact str_asymm h
  | x, y, h => by
    cases x <;> cases y <;> first
      | (simp [D.ltB] at h; done)
      | (simp [D.ltB]; done)
      | (simp [D.ltB] at h ⊢; omega)
      | (rw [D.ltB] at h ⊢; exact str_asymm h)
      | (rename_i a b; cases a <;> cases b <;> simp [D.ltB] at h ⊢; done)
      | (rename_i xs ys; rw [D.ltB] at h ⊢; exact ltL_asymm xs ys h)
theorem ltL_asymm : ∀ (xs ys : List D), D.ltBL xs ys = true → D.ltBL ys xs = false
  | [], [], h => by simp [D.ltBL] at h
  | [], _ :: _, _ => by simp [D.ltBL]
  | _ :: _, [], h => by simp [D.ltBL] at h
  | x :: xs, y :: ys, h => by
    rw [D.ltBL] at h ⊢
    rw [eqv_symm y x]
    by_cases e : D.eqv x y = true
    · rw [if_pos e] at h ⊢; exact ltL_asymm xs ys h
    · rw [if_neg e] at h ⊢; exact lt_asymm x y h
end
mutual
/-- what is equal is not less -/
theorem eqv_lt : ∀ (x y : D), D.eqv x y = true → D.ltB x y = false
  | .tup xs, .tup ys, h => by rw [D.eqv] at h; rw [D.ltB]; exact eqvL_lt xs ys h
  | .lst xs, .lst ys, h => by rw [D.eqv] at h; rw [D.ltB]; exact eqvL_lt xs ys h
  | x, y, h => by
    cases x <;> cases y <;> first
      | (simp [D.ltB]; done)
      | (simp [D.eqv] at h; done)
      | (simp [D.ltB, D.eqv] at h ⊢; omega)
      | (rename_i a b; cases a <;> cases b <;> simp [D.ltB, D.eqv] at h ⊢; done)
      | (rename_i a b; rw [D.eqv] at h; have := strEq_eq h; subst this; rw [D.ltB]; unfold strLt; exact decide_eq_false (List.lt_irrefl _))
      | (rename_i xs ys; rw [D.eqv] at h; rw [D.ltB]; exact eqvL_lt xs ys h)
theorem eqvL_lt : ∀ (xs ys : List D), D.eqvL xs ys = true → D.ltBL xs ys = false
  | [], [], _ => rfl
  | [], _ :: _, h => by simp [D.eqvL] at h
  | _ :: _, [], h => by simp [D.eqvL] at h
  | x :: xs, y :: ys, h => by
    rw [D.eqvL, Bool.and_eq_true] at h
    rw [D.ltBL, if_pos h.1]
    exact eqvL_lt xs ys h.2
end
mutual
theorem lt_trans' : ∀ (x y z : D) (n m k : Nat), D.pl x n = true → D.pl y m = true → D.pl z k = true → D.alike x y = true → D.alike y z = true → D.ltB x y = true → D.ltB y z = true → D.ltB x z = true
  | .tup xs, .tup ys, .tup zs, n + 1, m + 1, k + 1, h1, h2, h3, h4, h5, h6, h7 => by
    rw [D.pl] at h1 h2 h3
    rw [D.alike] at h4 h5
    rw [D.ltB] at h6 h7 ⊢
    exact ltL_trans xs ys zs n m k h1 h2 h3 h4 h5 h6 h7
  | .lst xs, .lst ys, .lst zs, n + 1, m + 1, k + 1, h1, h2, h3, h4, h5, h6, h7 => by
    rw [D.pl] at h1 h2 h3
    rw [D.alike] at h4 h5
    rw [D.ltB] at h6 h7 ⊢
    exact ltL_trans xs ys zs n m k h1 h2 h3 h4 h5 h6 h7
  | .int a, .int b, .int c, _, _, _, _, _, _, _, _, h6, h7 => by simp [D.ltB] at h6 h7 ⊢; omega
  | .str a, .str b, .str c, _, _, _, _, _, _, _, _, h6, h7 => by rw [D.ltB] at h6 h7 ⊢; exact str_trans h6 h7
  | .bl a, .bl b, .bl c, _, _, _, _, _, _, _, _, h6, h7 => by cases a <;> cases b <;> cases c <;> simp [D.ltB] at h6 h7 ⊢
  | x, y, z, n, m, k, h1, h2, h3, h4, h5, h6, h7 => by
    cases x <;> cases y <;> first
      | (simp [D.ltB] at h6; done)
      | (cases z <;> first
        | (simp [D.ltB] at h7; done)
        | (simp [D.ltB] at h6 h7 ⊢; omega)
        | (rw [D.ltB] at h6 h7 ⊢; exact str_trans h6 h7)
        | (exfalso; simp [D.ltB] at h6 h7; rw [h6.2] at h7; exact absurd h7.1 (by simp))
        | (cases n <;> cases m <;> cases k <;> first
          | (simp [D.pl] at h1; done)
          | (simp [D.pl] at h2; done)
          | (simp [D.pl] at h3; done)
          | (rename_i xs ys zs n m k
             rw [D.pl] at h1 h2 h3
             rw [D.alike] at h4 h5
             rw [D.ltB] at h6 h7 ⊢
             exact ltL_trans xs ys zs n m k h1 h2 h3 h4 h5 h6 h7)
          | (rename_i a b c; cases a <;> cases b <;> cases c <;> simp [D.ltB] at h6 h7 ⊢; done)))
theorem ltL_trans : ∀ (xs ys zs : List D) (n m k : Nat), D.plL xs n = true → D.plL ys m = true → D.plL zs k = true → D.alikeL xs ys = true → D.alikeL ys zs = true → D.ltBL xs ys = true → D.ltBL ys zs = true → D.ltBL xs zs = true
  | [], _, _ :: _, _, _, _, _, _, _, _, _, _, _ => by simp [D.ltBL]
  | _, [], [], _, _, _, _, _, _, _, _, _, h => by simp [D.ltBL] at h
  | _, _ :: _, [], _, _, _, _, _, _, _, _, _, h => by simp [D.ltBL] at h
  | _ :: _, [], _, _, _, _, _, _, _, _, _, h, _ => by simp [D.ltBL] at h
  | x :: xs, y :: ys, z :: zs, n, m, k, h1, h2, h3, h4, h5, h6, h7 => by
    rw [D.plL, Bool.and_eq_true] at h1 h2 h3
    rw [D.alikeL, Bool.and_eq_true] at h4 h5
    rw [D.ltBL] at h6 h7 ⊢
    by_cases e1 : D.eqv x y = true
    · have ex := eqv_eq x y n m h1.1 h2.1 h4.1 e1
      subst ex
      rw [if_pos e1] at h6
      by_cases e2 : D.eqv x z = true
      · rw [if_pos e2] at h7 ⊢
        exact ltL_trans xs ys zs n m k h1.2 h2.2 h3.2 h4.2 h5.2 h6 h7
      · rw [if_neg e2] at h7 ⊢
        exact h7
    · rw [if_neg e1] at h6
      by_cases e2 : D.eqv y z = true
      · have ex := eqv_eq y z m k h2.1 h3.1 h5.1 e2
        subst ex
        rw [if_neg e1]
        exact h6
      · rw [if_neg e2] at h7
        have q := lt_trans' x y z n m k h1.1 h2.1 h3.1 h4.1 h5.1 h6 h7
        by_cases e3 : D.eqv x z = true
        · have q2 := eqv_lt x z e3
          rw [q2] at q; cases q
        · rw [if_neg e3]; exact q
end

def OrdD (xs : List D) : Prop := ∀ x ∈ xs, D.plain x = true ∧ D.isNon x = false ∧ ∀ y ∈ xs, D.alike x y = true
theorem ltOk_iff {xs : List D} (h : ltOk xs = true) : OrdD xs := by
  unfold ltOk at h
  intro x hx
  have q := List.all_eq_true.mp h x hx
  simp only [Bool.and_eq_true, Bool.not_eq_true', List.all_eq_true] at q
  exact ⟨q.1.1, q.1.2, q.2⟩
theorem le_trans' {xs : List D} (o : OrdD xs) {x y z : D} (hx : x ∈ xs) (hy : y ∈ xs) (hz : z ∈ xs) (h1 : D.ltB y x = false) (h2 : D.ltB z y = false) : D.ltB z x = false := by
  cases h : D.ltB z x with
  | false => rfl
  | true =>
    rcases lt_conn z y _ _ (o z hz).1 (o y hy).1 ((o z hz).2.2 y hy) with q | q | q
    · rw [h2] at q; cases q
    · rw [q, h1] at h; cases h
    · have := lt_trans' y z x _ _ _ (o y hy).1 (o z hz).1 (o x hx).1 ((o y hy).2.2 z hz) ((o z hz).2.2 x hx) q h
      rw [h1] at this; cases this
theorem ins1_perm (x : D) : ∀ ys : List D, (ins1 x ys).Perm (x :: ys)
  | [] => List.Perm.refl _
  | y :: ys => by
    unfold ins1
    split
    · exact ((ins1_perm x ys).cons y).trans (List.Perm.swap x y ys)
    · exact List.Perm.refl _
theorem sortD_perm : ∀ xs : List D, (sortD xs).Perm xs
  | [] => List.Perm.refl _
  | x :: xs => (ins1_perm x _).trans ((sortD_perm xs).cons x)
theorem ins1_sorted {xs : List D} (o : OrdD xs) (x : D) (hx : x ∈ xs) : ∀ ys : List D, (∀ y ∈ ys, y ∈ xs) → ys.Pairwise (fun a b => D.ltB b a = false) → (ins1 x ys).Pairwise (fun a b => D.ltB b a = false)
  | [], _, _ => by simp [ins1]
  | y :: ys, hy, hs => by
    rw [List.pairwise_cons] at hs
    unfold ins1
    split
    · rename_i h
      rw [List.pairwise_cons]
      refine ⟨fun z hz => ?_, ins1_sorted o x hx ys (fun z hz => hy z (List.mem_cons_of_mem _ hz)) hs.2⟩
      rcases List.mem_cons.mp ((ins1_perm x ys).mem_iff.mp hz) with e | e
      · subst e; exact lt_asymm _ _ h
      · exact hs.1 z e
    · rename_i h
      have h : D.ltB y x = false := by simpa using h
      rw [List.pairwise_cons, List.pairwise_cons]
      refine ⟨fun z hz => ?_, hs⟩
      rcases List.mem_cons.mp hz with e | e
      · subst e; exact h
      · exact le_trans' o hx (hy y List.mem_cons_self) (hy z (List.mem_cons_of_mem _ e)) h (hs.1 z e)
theorem sortD_sorted {xs : List D} (o : OrdD xs) : ∀ ys : List D, (∀ y ∈ ys, y ∈ xs) → (sortD ys).Pairwise (fun a b => D.ltB b a = false)
  | [], _ => .nil
  | y :: ys, h => ins1_sorted o y (h y List.mem_cons_self) _ (fun z hz => h z (List.mem_cons_of_mem _ ((sortD_perm ys).mem_iff.mp hz))) (sortD_sorted o ys fun z hz => h z (List.mem_cons_of_mem _ hz))
theorem sort_uniq {xs ys : List D} (o : OrdD xs) (hp : ys.Perm xs) (hs : ys.Pairwise (fun a b => D.ltB b a = false)) : ys = sortD xs := by
  refine List.Perm.eq_of_pairwise (le := fun a b => D.ltB b a = false) (fun a b ha hb h1 h2 => ?_) hs (sortD_sorted o xs fun _ h => h) (hp.trans (sortD_perm xs).symm)
  have ha := hp.mem_iff.mp ha
  have hb := (sortD_perm xs).mem_iff.mp hb
  rcases lt_conn a b _ _ (o a ha).1 (o b hb).1 ((o a ha).2.2 b hb) with q | q | q
  · rw [h2] at q; cases q
  · exact q
  · rw [h1] at q; cases q
section
variable {G : GG} {H : Hp} {η : Et} {s : S} {X : Cx}
/-- values with what they tell -/
inductive Prs (G : GG) (H : Hp) (η : Et) : List (D × V) → List D → List V → Prop
  | nil : Prs G H η [] [] []
  | cons {d : D} {v : V} {ps : List (D × V)} {ds : List D} {vs : List V} : RD G H η d v → Prs G H η ps ds vs → Prs G H η ((d, v) :: ps) (d :: ds) (v :: vs)
theorem RDs.prs : ∀ {ds : List D} {vs : List V}, RDs G H η ds vs → ∃ ps, Prs G H η ps ds vs
  | _, _, .nil => ⟨[], .nil⟩
  | _, _, .cons h r => let ⟨ps, q⟩ := RDs.prs r; ⟨_, .cons h q⟩
theorem Prs.fst : ∀ {ps : List (D × V)} {ds : List D} {vs : List V}, Prs G H η ps ds vs → ps.map (·.1) = ds ∧ ps.map (·.2) = vs ∧ ∀ p ∈ ps, RD G H η p.1 p.2
  | _, _, _, .nil => ⟨rfl, rfl, fun _ h => by cases h⟩
  | _, _, _, .cons h r => by
    obtain ⟨a, b, c⟩ := r.fst
    exact ⟨by rw [List.map_cons, a], by rw [List.map_cons, b], fun p hp => (List.mem_cons.mp hp).elim (fun e => by rw [e]; exact h) (c p)⟩
theorem prs_rds : ∀ ps : List (D × V), (∀ p ∈ ps, RD G H η p.1 p.2) → RDs G H η (ps.map (·.1)) (ps.map (·.2))
  | [], _ => .nil
  | p :: ps, h => .cons (h p List.mem_cons_self) (prs_rds ps fun q hq => h q (List.mem_cons_of_mem _ hq))
open PySem.W in
theorem each_of {ps : List (D × V)} : ∀ {qs : List {p : D × V // p ∈ ps}} {us : List Value}, Vals (qs.map (·.1.2)) us → EachIs (fun v (b : {p : D × V // p ∈ ps}) => RelV b.1.2 v) us qs
  | [], _, .nil => .nil
  | q :: qs, _, .cons r t => .cons r (each_of t)
open PySem.W in
theorem of_each {ps : List (D × V)} : ∀ {qs : List {p : D × V // p ∈ ps}} {us : List Value}, EachIs (fun v (b : {p : D × V // p ∈ ps}) => RelV b.1.2 v) us qs → Vals (qs.map (·.1.2)) us
  | _, _, .nil => .nil
  | _, _, .cons r t => .cons r (of_each t)
def rSrt (G : GG) : List V → Hp → VK → Prop := fun xs H Q => ∃ η s x p vs ds, xs = [x] ∧ x = .ref p ∧ AbsS G H η s ∧ SqL G.K H p vs ∧ RDs G H η ds vs ∧ sortOk ds = true ∧ ∀ v H' η', Step H η H' η' → AbsS G H' η' s → RD G H' η' (.lst (sortD ds)) v → Q v H'
theorem srt_g (hK : X.K = G.K) (hu : X.A.units + 70 < cLine) : CallR X (.builtin "sorted") (rSrt G) := by
  intro pins sh σ H xs us Q I r h
  obtain ⟨η, s, x, p, vs, ds, rfl, rfl, ab, hs, hr, hok, k⟩ := h
  obtain ⟨its, rv, hl, hz⟩ := I.list (hK ▸ hs)
  rw [Vals.ref1 r]
  unfold sortOk at hok
  simp only [Bool.and_eq_true, decide_eq_true_eq, Bool.or_eq_true] at hok
  obtain ⟨⟨h1, h2⟩, h3⟩ := hok
  have o := ltOk_iff h1
  obtain ⟨ps, hp⟩ := hr.prs
  obtain ⟨e1, e2, e3⟩ := hp.fst
  have mem : ∀ b : {p : D × V // p ∈ ps}, b.1.1 ∈ ds := fun b => by rw [← e1]; exact List.mem_map_of_mem b.2
  have ev : Vals (ps.attach.map (·.1.2)) its := by
    have : ps.attach.map (·.1.2) = vs := by
      rw [← e2]
      conv => rhs; rw [← List.attach_map_subtype_val ps]
      rw [List.map_map]; rfl
    rw [this]; exact rv
  have er : PySem.W.EachIs (fun v (b : {p : D × V // p ∈ ps}) => ∃ as, Reads sh.heap v (D.py b.1.1) as) its ps.attach :=
    (each_of ev).mono fun v b rb => by
      obtain ⟨q1, q2⟩ := (e3 b.1 b.2).dp (o _ (mem b)).1
      rw [← hK] at q1
      obtain ⟨as, q⟩ := Dp.reads I _ _ v q1 rb
      exact ⟨as, q⟩
  have hal : PySem.W.AllAlike (ps.attach.map fun b => D.py b.1.1) := fun d hd d' hd' => by
    obtain ⟨b, _, rfl⟩ := List.mem_map.mp hd
    obtain ⟨b', _, rfl⟩ := List.mem_map.mp hd'
    exact alike_py _ _ ((o _ (mem b)).2.2 _ (mem b'))
  have hsr : PySem.W.Sortable (ps.attach.map fun b => D.py b.1.1) := by
    rcases h2 with h2 | h2
    · refine .inl fun d hd => ?_
      obtain ⟨b, _, rfl⟩ := List.mem_map.mp hd
      have q := List.all_eq_true.mp h2 _ (mem b)
      unfold isTupNE at q
      split at q
      · rename_i x r hb
        rw [hb]
        exact ⟨_, _, rfl⟩
      · cases q
    · refine .inr fun d hd => ?_
      obtain ⟨b, _, rfl⟩ := List.mem_map.mp hd
      have q := List.all_eq_true.mp h2 _ (mem b)
      refine ⟨non_py (o _ (mem b)).2.1 _ (o _ (mem b)).1, fun xs z => ?_⟩
      cases hb : b.1.1 with
      | tup ys => rw [hb] at q; cases q
      | _ => rw [hb] at z; simp [D.py] at z
  have hlen : ps.attach.length = ds.length := by rw [List.length_attach, ← e1, List.length_map]
  refine PySem.W.sorted_data (enc := fun b => D.py b.1.1) hl.isList (each_of ev) er hal hsr (by rw [hlen, ← lim_eq]; exact h3) (fun b _ => ?_) fun out ho eo => ?_
  · have h4 := (o _ (mem b)).1
    have h5 : SeqAt.shaped (D.py b.1.1) = true := by
      exact ((show RW G H η (.d b.1.1) b.1.2 from e3 b.1 b.2).dpv (s := s) ab rfl h4).2
    have h6 := SeqAt.depth_of_shaped h5
    omega
  · obtain ⟨ep, he'⟩ := PyProof.Rows.sortedAll_at sh.heap its out.toArray
    generalize hq : (ps.attach.mergeSort (PySem.W.dataLe false fun b => D.py b.1.1)) = qs at eo ho
    have perm : qs.Perm ps.attach := by rw [← hq]; exact List.mergeSort_perm _ _
    have rv2 := of_each eo
    have rds : RDs G H η (qs.map (·.1.1)) (qs.map (·.1.2)) := by
      have := prs_rds (G := G) (H := H) (η := η) (qs.map (·.1)) (fun p hp => by
        obtain ⟨b, _, rfl⟩ := List.mem_map.mp hp
        exact e3 b.1 b.2)
      rw [List.map_map, List.map_map] at this
      exact this
    have hds : qs.map (·.1.1) = sortD ds := by
      refine sort_uniq o ?_ ?_
      · have q := perm.map (fun b : {p : D × V // p ∈ ps} => b.1.1)
        have : ps.attach.map (fun b => b.1.1) = ds := by
          rw [← e1]
          conv => rhs; rw [← List.attach_map_subtype_val ps]
          rw [List.map_map]; rfl
        rw [this] at q
        exact q
      · rw [List.pairwise_map, ← hq]
        have lte : ∀ a b : {p : D × V // p ∈ ps}, PySem.W.dataLe false (fun b : {p : D × V // p ∈ ps} => D.py b.1.1) a b = !D.ltB b.1.1 a.1.1 := fun a b => by
          rw [PySem.W.dataLe_eq]
          show (!PySem.W.dataLt _ _) = _
          rw [lt_py _ _ _ _ (o _ (mem b)).1 (o _ (mem a)).1 ((o _ (mem b)).2.2 _ (mem a)) (o _ (mem b)).2.1]
        refine (List.pairwise_mergeSort (fun a b c h1 h2 => ?_) (fun a b => ?_) ps.attach).imp fun {a b} h => ?_
        · rw [lte] at h1 h2 ⊢
          have h1 : D.ltB b.1.1 a.1.1 = false := by simpa using h1
          have h2 : D.ltB c.1.1 b.1.1 = false := by simpa using h2
          rw [le_trans' o (mem a) (mem b) (mem c) h1 h2]; rfl
        · rw [lte, lte]
          cases h : D.ltB b.1.1 a.1.1 with
          | false => rfl
          | true => rw [lt_asymm _ _ h]; rfl
        · rw [lte] at h
          simpa using h
    have hz2 : (qs.map (·.1.2)).length ≤ sizeLine := by
      rw [List.length_map, perm.length_eq, hlen, ← lim_eq]; exact h3
    have hp0 : H (sh.heap.objs.size + 1) = none := I.hok.fresh (Nat.le_succ _)
    obtain ⟨st, ab2, rd⟩ := new_lst ab hp0 rds
    rw [hds] at rd
    exact ⟨.ref _, upd H (sh.heap.objs.size + 1) (.lst (qs.map (·.1.2))), I.laid (t' := sh.toks) (fun _ _ => PyProof.Rows.sortedAll_old) (Nat.le_succ _) ⟨hz2, out, ep, rv2, he'⟩, rfl, k _ _ _ st ab2 rd⟩
end
end FT

namespace FT
open PySem PySem.Spec PyProof.Rows L2 SlX

section
variable {G : GG} {H H' : Hp} {η η' : Et} {s : S} {X : Cx}
/-- a list or a tuple -/
theorem RW.seq {a : W} {x : V} {ds : List D} (ab : AbsS G H η s) (r : RW G H η a x) (e : seqOf a s = some ds) : ∃ p vs, x = .ref p ∧ (SqL G.K H p vs ∨ SqT G.K H p vs) ∧ RDs G H η ds vs := by
  cases a with
  | d z =>
    have r : RD G H η z x := r
    cases r <;> simp only [seqOf] at e <;> first
      | (cases e; done)
      | (cases e; rename_i h q; exact ⟨_, _, rfl, .inr h.seq, q⟩)
      | (cases e; rename_i h q; exact ⟨_, _, rfl, .inl h.seq, q⟩)
  | ref n =>
    obtain ⟨p, hp, rfl⟩ := r
    simp only [seqOf] at e
    split at e
    · rename_i k xs hc
      cases e
      obtain ⟨vs, h1, h2⟩ := ab.at' n p _ hp hc
      exact ⟨p, vs, rfl, .inl (.of h1), h2⟩
    · cases e
theorem RDs.intL : ∀ {ds : List D} {vs : List V} {ns : List Int}, RDs G H η ds vs → intL ds = some ns → vs = ns.map V.int
  | _, _, _, .nil, e => by simp [FT.intL] at e; subst e; rfl
  | _, _, _, .cons (d := d) h r, e => by
    cases h <;> simp only [FT.intL] at e <;> first | (cases e; done) | skip
    cases q : FT.intL _ with
    | none => rw [q] at e; cases e
    | some ns =>
      rw [q] at e; cases e
      rw [RDs.intL r q]; rfl
theorem RDs.bools : ∀ {ds : List D} {vs : List V} {ns : List Bool}, RDs G H η ds vs → bools ds = some ns → vs = ns.map V.bl
  | _, _, _, .nil, e => by simp [FT.bools] at e; subst e; rfl
  | _, _, _, .cons (d := d) h r, e => by
    cases h <;> simp only [FT.bools] at e <;> first | (cases e; done) | skip
    cases q : FT.bools _ with
    | none => rw [q] at e; cases e
    | some ns =>
      rw [q] at e; cases e
      rw [RDs.bools r q]; rfl
theorem RWs.one {w : W} {xs : List V} (r : RWs G H η [w] xs) : ∃ x, xs = [x] ∧ RW G H η w x := by
  cases r with
  | cons h t => cases t; exact ⟨_, rfl, h⟩
theorem RWs.two {w z : W} {xs : List V} (r : RWs G H η [w, z] xs) : ∃ x y, xs = [x, y] ∧ RW G H η w x ∧ RW G H η z y := by
  cases r with
  | cons h t => cases t with | cons h2 t => cases t; exact ⟨_, _, rfl, h, h2⟩
theorem RW.len {a : W} {x : V} {n : Nat} (ab : AbsS G H η s) (r : RW G H η a x) (e : lenW a s = some n) : LenV G.K x H n := by
  unfold lenW at e
  split at e
  · rename_i xs h
    cases e
    obtain ⟨p, vs, rfl, h1, h2, _⟩ := RW.tuple r h
    exact .inr ⟨vs, h1, h2.length⟩
  · rename_i xs h
    cases e
    obtain ⟨p, vs, rfl, h1, h2⟩ := RW.list ab r h
    exact .inl ⟨vs, h1, h2.length⟩
  · rename_i ks vs h
    cases a with
    | d z => simp only [val] at h; cases h; cases (show RD G H η (.dic ks vs) x from r)
    | ref k =>
      obtain ⟨p, hp, rfl⟩ := r
      simp only [val] at h
      split at h
      · cases h
      · rename_i hc
        exact (ab.at' k p _ hp hc).elim
      · cases h
  · rename_i y h
    split at e
    · rename_i hl
      cases e
      cases a with
      | d z => simp only [val] at h; cases h; cases (show RD G H η (.str y) x from r); exact ⟨by rw [← lim_eq]; exact hl, rfl⟩
      | ref k => simp only [val] at h; split at h <;> cases h
    · cases e
  · cases e
theorem val_ref {n : Nat} {p : Addr} {d : D} (ab : AbsS G H η s) (hp : η.κ[n]? = some p) (e : val (.ref n) s = some d) : ∃ xs vs, d = .lst xs ∧ H p = some (.lst vs) ∧ RDs G H η xs vs := by
  simp only [val] at e
  split at e
  · rename_i k xs hc
    cases e
    obtain ⟨vs, h1, h2⟩ := ab.at' n p _ hp hc
    exact ⟨xs, vs, rfl, h1, h2⟩
  · rename_i hc
    exact (ab.at' n p _ hp hc).elim
  · cases e
theorem RW.tru {a : W} {x : V} {k : Bool} (ab : AbsS G H η s) (r : RW G H η a x) (e : truthy a s = some k) : TruV G.K x H k := by
  have data : ∀ {d : D}, val a s = some d → (∀ n, a ≠ .ref n) → RD G H η d x := fun {d} h hn => by
    cases a with
    | d z => simp only [val] at h; cases h; exact r
    | ref n => exact absurd rfl (hn n)
  unfold truthy at e
  cases a with
  | d z =>
    have r : RD G H η z x := r
    simp only [val] at e
    cases r with
    | non => cases e; rfl
    | bl b => cases e; rfl
    | int i => cases e; rfl
    | str y hy =>
      simp only at e
      split at e
      · rename_i hl
        cases e
        refine ⟨by rw [← lim_eq]; exact hl, ?_⟩
        have e1 : y.length = y.cps.toList.length := by simp [Str.length]
        rw [e1]
        cases y.cps.toList <;> simp <;> omega
      · cases e
    | tup h q => cases e; refine .inr (.inl ⟨_, h.seq, ?_⟩); cases q <;> rfl
    | lst h q => cases e; refine .inl ⟨_, h.seq, ?_⟩; cases q <;> rfl
    | exc => cases e
    | ins => cases e
  | ref n =>
    obtain ⟨p, hp, rfl⟩ := r
    cases hv : val (.ref n) s with
    | none => rw [hv] at e; cases e
    | some d =>
      obtain ⟨xs, vs, rfl, h1, h2⟩ := val_ref ab hp hv
      rw [hv] at e
      cases e
      exact .inl ⟨vs, .of h1, by cases h2 <;> rfl⟩

/-- what a built-in is to give -/
def rBi (G : GG) (f : Nat) : List V → Hp → VK → Prop := fun xs H Q => ∃ η s ws d, AbsS G H η s ∧ RWs G H η ws xs ∧ builtin f ws s = some d ∧ ∀ v H' η', Step H η H' η' → AbsS G H' η' s → RD G H' η' d v → Q v H'
def bltVal (f : Nat) : Value := if bltIsTy f then .type (match f with | 4 => "int" | 5 => "str" | 6 => "tuple" | _ => "list") else .builtin (match f with | 0 => "abs" | 1 => "all" | 2 => "any" | 3 => "len" | 7 => "min" | 8 => "max" | 9 => "sum" | _ => "sorted")
theorem strOk_of (x : String) : PyData.strOk (x : Str) = true := by
  show PyData.strOk (Str.ofString x) = true
  rw [Str.ofString_eq_toList, strOk_iff]
  intro c hc
  have hc : c ∈ x.toList.map Char.toNat := by simpa using hc
  obtain ⟨d, _, rfl⟩ := List.mem_map.mp hc
  have := d.valid
  rcases this with h | h
  · have : d.toNat < 0xd800 := h
    omega
  · exact h.2
theorem minI_mem : ∀ (m : Int) (ns : List Int), minI m ns ∈ m :: ns ∧ ∀ y ∈ m :: ns, minI m ns ≤ y
  | m, [] => by simp [minI]
  | m, x :: xs => by
    unfold minI
    split
    · rename_i h
      obtain ⟨h1, h2⟩ := minI_mem x xs
      refine ⟨List.mem_cons_of_mem _ h1, fun y hy => ?_⟩
      rcases List.mem_cons.mp hy with rfl | hy
      · exact Int.le_trans (h2 x List.mem_cons_self) (Int.le_of_lt h)
      · exact h2 y hy
    · rename_i h
      obtain ⟨h1, h2⟩ := minI_mem m xs
      refine ⟨?_, fun y hy => ?_⟩
      · rcases List.mem_cons.mp h1 with e | e
        · rw [e]; exact List.mem_cons_self
        · exact List.mem_cons_of_mem _ (List.mem_cons_of_mem _ e)
      · rcases List.mem_cons.mp hy with rfl | hy
        · exact h2 y List.mem_cons_self
        · rcases List.mem_cons.mp hy with rfl | hy
          · exact Int.le_trans (h2 m List.mem_cons_self) (by omega)
          · exact h2 y (List.mem_cons_of_mem _ hy)
theorem maxI_mem : ∀ (m : Int) (ns : List Int), maxI m ns ∈ m :: ns ∧ ∀ y ∈ m :: ns, y ≤ maxI m ns
  | m, [] => by simp [maxI]
  | m, x :: xs => by
    unfold maxI
    split
    · rename_i h
      obtain ⟨h1, h2⟩ := maxI_mem x xs
      refine ⟨List.mem_cons_of_mem _ h1, fun y hy => ?_⟩
      rcases List.mem_cons.mp hy with rfl | hy
      · exact Int.le_trans (Int.le_of_lt h) (h2 x List.mem_cons_self)
      · exact h2 y hy
    · rename_i h
      obtain ⟨h1, h2⟩ := maxI_mem m xs
      refine ⟨?_, fun y hy => ?_⟩
      · rcases List.mem_cons.mp h1 with e | e
        · rw [e]; exact List.mem_cons_self
        · exact List.mem_cons_of_mem _ (List.mem_cons_of_mem _ e)
      · rcases List.mem_cons.mp hy with rfl | hy
        · exact h2 y List.mem_cons_self
        · rcases List.mem_cons.mp hy with rfl | hy
          · exact Int.le_trans (by omega) (h2 m List.mem_cons_self)
          · exact h2 y (List.mem_cons_of_mem _ hy)
theorem RW.lists {a : W} {x : V} {ds : List D} (ab : AbsS G H η s) (r : RW G H η a x) (e : listOf a s = some ds) : ∃ p vs, x = .ref p ∧ SqL G.K H p vs ∧ RDs G H η ds vs := by
  unfold listOf at e
  split at e
  · rename_i h
    cases e
    exact RW.list ab r h
  · cases e
theorem seqC_cases {w : W} {ds : List D} (h : seqC w s = some ds) : (∃ y, w = .d (.str y) ∧ y.length ≤ LIM ∧ ds = chars y) ∨ seqOf w s = some ds := by
  unfold seqC at h
  split at h
  · split at h
    · rename_i y hy
      cases h
      exact .inl ⟨_, rfl, hy, rfl⟩
    · cases h
  · exact .inr h
def chV (y : Str) : List V := y.cps.toList.map fun c => .str ⟨#[c]⟩
theorem chars_rds {y : Str} (h : PyData.strOk y = true) : RDs G H η (chars y) (chV y) := by
  have key : ∀ l : List Nat, (∀ c ∈ l, c ∈ y.cps.toList) → RDs G H η (l.map fun c => D.str ⟨#[c]⟩) (l.map fun c => V.str ⟨#[c]⟩) := fun l => by
    induction l with
    | nil => exact fun _ => .nil
    | cons c l ih =>
      intro hm
      refine .cons (.str _ (strOk_iff.mpr fun c' hc => ?_)) (ih fun z hz => hm z (List.mem_cons_of_mem _ hz))
      have : c' = c := by simpa using hc
      subst this
      exact strOk_iff.mp h _ (hm _ List.mem_cons_self)
  exact key _ fun _ h => h
theorem chr_vals {y : Str} : ∀ {l : List Value} {cs : List Nat}, l.length = cs.length → (∀ (j : Nat) v, l[j]? = some v → ∃ c u, cs[j]? = some c ∧ v = .str ⟨#[c]⟩ u) → Vals (cs.map fun c => V.str ⟨#[c]⟩) l
  | [], [], _, _ => .nil
  | v :: l, c :: cs, hl, h => by
    obtain ⟨c', u, e1, rfl⟩ := h 0 v rfl
    cases e1
    exact .cons ⟨u, rfl⟩ (chr_vals (y := y) (by simpa using hl) fun j v hv => h (j + 1) v hv)
  | [], _ :: _, h, _ => by simp at h
  | _ :: _, [], h, _ => by simp at h
theorem call_tuple_chr (hc : X.calm = true) : CallR X (.type "tuple") (fun xs H Q => ∃ y, xs = [.str y] ∧ y.length ≤ LIM ∧ ∀ l, H l = none → Q (.ref l) (upd H l (.tup (chV y)))) := by
  intro pins sh σ H xs us Q I r h
  obtain ⟨y, rfl, hy, k⟩ := h
  obtain ⟨u, rfl, rx⟩ := vals1 r
  obtain ⟨t, rfl⟩ := rx
  have hz : y.cps.size ≤ sizeLine := by rw [← lim_eq]; exact hy
  refine call_tuple_str (I.ok.hd hc) y t (fun h' tk acc hk hacc => ?_) hz
  have I1 : Inv X pins σ H { sh with heap := h', toks := tk } := I.kept (t' := tk) hk
  have rv : Vals (chV y) acc.toList := chr_vals (y := y) (by rw [Array.length_toList, Array.length_toList]; exact hacc.1) fun j v hv => by
    obtain ⟨c, u, hc, rfl⟩ := hacc.2 j v (by simpa using hv)
    exact ⟨c, u, by simpa using hc, rfl⟩
  have I2 : Inv X pins σ (upd H h'.objs.size (.tup (chV y))) { sh with heap := h'.push { cls := .type "tuple", data := .seq acc }, toks := tk } :=
    I1.laid (t' := tk) (fun b o e => Heap.get?_push_of_some _ e) (Nat.le_refl _) (show ObjOk X.prog X.w _ _ _ (.tup (chV y)) from ⟨by unfold chV; rw [List.length_map, Array.length_toList]; exact hz, acc.toList, rv, by have := IsTup.new h' acc; simpa using this⟩)
  exact ⟨.ref h'.objs.size, _, I2, rfl, k _ (I1.hok.fresh (Nat.le_refl _))⟩
theorem call_list_chr (hc : X.calm = true) : CallR X (.type "list") (fun xs H Q => ∃ y, xs = [.str y] ∧ y.length ≤ LIM ∧ ∀ l, H l = none → Q (.ref l) (upd H l (.lst (chV y)))) := by
  intro pins sh σ H xs us Q I r h
  obtain ⟨y, rfl, hy, k⟩ := h
  obtain ⟨u, rfl, rx⟩ := vals1 r
  obtain ⟨t, rfl⟩ := rx
  have hz : y.cps.size ≤ sizeLine := by rw [← lim_eq]; exact hy
  refine call_list_str (I.ok.hd hc) y t (fun h' tk acc c' hk e hacc => ?_) hz
  have rv : Vals (chV y) acc.toList := chr_vals (y := y) (by rw [Array.length_toList, Array.length_toList]; exact hacc.1) fun j v hv => by
    obtain ⟨c, u, hc, rfl⟩ := hacc.2 j v (by simpa using hv)
    exact ⟨c, u, by simpa using hc, rfl⟩
  exact ⟨.ref sh.heap.objs.size, _, I.laid (t' := tk) hk (Nat.le_refl _) (show ObjOk X.prog X.w _ h' _ (.lst (chV y)) from ⟨by unfold chV; rw [List.length_map, Array.length_toList]; exact hz, acc.toList, c', rv, by simpa using e⟩), rfl, k _ (I.hok.fresh (Nat.le_refl _))⟩
theorem or_bi1 (hK : X.K = G.K) (hc : X.calm = true) (hu : X.A.units + 70 < cLine) (f : Nat) {pins : List (Addr × Obj)} {sh : Shared} {σ : L2.St} {x : V} {us : List Value} {Q : VK} {w : W} {d : D} (I : Inv X pins σ H sh) (r : Vals [x] us)
    (ab : AbsS G H η s) (rx : RW G H η w x) (e : bi1 f w s = some d) (k : ∀ v H' η', Step H η H' η' → AbsS G H' η' s → RD G H' η' d v → Q v H') :
    wpAny (model X.prog X.w) X.A (call (bltVal f) us) (EP X pins σ Q) X.xe sh := by
  have fin : ∀ {v : V}, RD G H η d v → Q v H := fun {v} z => k v H η (Step.refl _ _) ab z
  unfold bi1 at e
  split at e
  · split at e
    · cases e
      rw [rx.ints rfl] at r
      exact call_abs pins sh σ H _ us Q I r ⟨_, rfl, fin (.int _)⟩
    · cases e
  · cases hl : listOf w s with
    | none => rw [hl] at e; cases e
    | some ds =>
      rw [hl] at e
      cases hb : bools ds with
      | none => simp [hb] at e
      | some bs =>
        simp [hb] at e; subst e
        obtain ⟨p, vs, rfl, h1, h2⟩ := rx.lists ab hl
        rw [h2.bools hb] at h1
        exact cr_all hc pins sh σ H _ us Q I r ⟨p, bs, rfl, hK ▸ h1, fin (.bl _)⟩
  · cases hl : listOf w s with
    | none => rw [hl] at e; cases e
    | some ds =>
      rw [hl] at e
      cases hb : bools ds with
      | none => simp [hb] at e
      | some bs =>
        simp [hb] at e; subst e
        obtain ⟨p, vs, rfl, h1, h2⟩ := rx.lists ab hl
        rw [h2.bools hb] at h1
        exact cr_any hc pins sh σ H _ us Q I r ⟨p, bs, rfl, hK ▸ h1, fin (.bl _)⟩
  · cases hl : lenW w s with
    | none => rw [hl] at e; cases e
    | some n =>
      rw [hl] at e; cases e
      exact call_len pins sh σ H _ us Q I r ⟨_, n, rfl, hK ▸ rx.len ab hl, fin (.int _)⟩
  · split at e
    · cases e
      rw [rx.ints rfl] at r
      exact call_int1 pins sh σ H _ us Q I r (.inl ⟨_, rfl, fin (.int _)⟩)
    · cases e
      have rx : RD G H η (.bl _) x := rx
      cases rx
      exact call_int1 pins sh σ H _ us Q I r (.inr ⟨_, rfl, fin (.int _)⟩)
    · rename_i y
      split at e
      · rename_i hl
        cases hn : PySem.intText? y with
        | none => rw [hn] at e; cases e
        | some n =>
          rw [hn] at e; cases e
          rw [rx.strs rfl] at r
          exact call_int_str pins sh σ H _ us Q I r ⟨_, n, rfl, hn, hl, fin (.int _)⟩
      · cases e
    · cases e
  · split at e
    · rename_i i
      split at e
      · rename_i hl
        cases e
        rw [rx.ints rfl] at r
        refine call_str_int pins sh σ H _ us Q I r ⟨_, rfl, ?_, fin (.str _ (strOk_of _))⟩
        by_cases h0 : i.natAbs = 0
        · rw [h0]; decide
        · exact Nat.lt_of_lt_of_le ((Nat.log2_lt h0).mpr hl) (by omega : 1900 ≤ 1920)
      · cases e
    · cases e
  · cases hs : seqC w s with
    | none => rw [hs] at e; cases e
    | some ds =>
      rw [hs] at e; cases e
      have hq := seqC_cases hs
      clear hs
      rcases hq with ⟨y, rfl, hy, rfl⟩ | hs
      · have rx : RD G H η (.str y) x := rx
        cases rx with
        | str _ hok =>
          refine call_tuple_chr hc pins sh σ H _ us Q I r ⟨y, rfl, hy, fun l hl => ?_⟩
          obtain ⟨st, ab', rd⟩ := new_tup ab hl (chars_rds hok)
          exact k _ _ _ st ab' rd
      have aux : ∃ p vs, x = .ref p ∧ ((SqL G.K H p vs ∧ ∀ l, H l = none → Q (.ref l) (upd H l (.tup vs))) ∨ (SqT G.K H p vs ∧ Q (.ref p) H)) := by
        cases w with
        | d z =>
          have rx : RD G H η z x := rx
          cases rx <;> simp only [seqOf] at hs <;> first | (cases hs; done) | skip
          · rename_i h q
            cases hs
            exact ⟨_, _, rfl, .inr ⟨h.seq, fin (.tup h q)⟩⟩
          · rename_i h q
            cases hs
            refine ⟨_, _, rfl, .inl ⟨h.seq, fun l hl => ?_⟩⟩
            obtain ⟨st, ab', rd⟩ := new_tup ab hl q
            exact k _ _ _ st ab' rd
        | ref n =>
          obtain ⟨p, hp, rfl⟩ := rx
          simp only [seqOf] at hs
          split at hs
          · rename_i kk xs hc
            cases hs
            obtain ⟨vs, h1, h2⟩ := ab.at' n p _ hp hc
            refine ⟨p, vs, rfl, .inl ⟨.of h1, fun l hl => ?_⟩⟩
            obtain ⟨st, ab', rd⟩ := new_tup ab hl h2
            exact k _ _ _ st ab' rd
          · cases hs
      obtain ⟨p, vs, rfl, q⟩ := aux
      exact call_tuple_of pins sh σ H _ us Q I r ⟨p, vs, rfl, hK ▸ q⟩
  · cases hl : listOf w s with
    | none => rw [hl] at e; cases e
    | some ds =>
      rw [hl] at e
      cases hb : intL ds with
      | none => simp [hb] at e
      | some ns =>
        simp [hb] at e
        obtain ⟨p, vs, rfl, h1, h2⟩ := rx.lists ab hl
        rw [h2.intL hb] at h1
        cases ns with
        | nil => cases e
        | cons n ns =>
          cases e
          refine cr_min hc pins sh σ H _ us Q I r ⟨p, n :: ns, rfl, hK ▸ h1, by simp, fun m hm hle => ?_⟩
          obtain ⟨m1, m2⟩ := minI_mem n ns
          have : m = minI n ns := Int.le_antisymm (hle _ m1) (m2 _ hm)
          rw [this]; exact fin (.int _)
  · cases hl : listOf w s with
    | none => rw [hl] at e; cases e
    | some ds =>
      rw [hl] at e
      cases hb : intL ds with
      | none => simp [hb] at e
      | some ns =>
        simp [hb] at e
        obtain ⟨p, vs, rfl, h1, h2⟩ := rx.lists ab hl
        rw [h2.intL hb] at h1
        cases ns with
        | nil => cases e
        | cons n ns =>
          cases e
          refine cr_max hc pins sh σ H _ us Q I r ⟨p, n :: ns, rfl, hK ▸ h1, by simp, fun m hm hle => ?_⟩
          obtain ⟨m1, m2⟩ := maxI_mem n ns
          have : m = maxI n ns := Int.le_antisymm (m2 _ hm) (hle _ m1)
          rw [this]; exact fin (.int _)
  · cases hl : listOf w s with
    | none => rw [hl] at e; cases e
    | some ds =>
      rw [hl] at e
      cases hb : intL ds with
      | none => simp [hb] at e
      | some ns =>
        simp [hb] at e; subst e
        obtain ⟨p, vs, rfl, h1, h2⟩ := rx.lists ab hl
        rw [h2.intL hb] at h1
        exact cr_sum hc pins sh σ H _ us Q I r ⟨p, ns, rfl, hK ▸ h1, fin (.int _)⟩
  · cases hl : listOf w s with
    | none => rw [hl] at e; cases e
    | some ds =>
      rw [hl, Option.bind_some] at e
      split at e
      · rename_i hok
        cases e
        obtain ⟨p, vs, rfl, h1, h2⟩ := rx.lists ab hl
        exact srt_g hK hu pins sh σ H _ us Q I r ⟨η, s, _, p, vs, ds, rfl, rfl, ab, h1, h2, hok, k⟩
      · cases e
  · cases e
theorem or_bi (hK : X.K = G.K) (hc : X.calm = true) (hu : X.A.units + 70 < cLine) (f : Nat) : CallR X (bltVal f) (rBi G f) := by
  intro pins s σ H xs us Q I r h
  obtain ⟨η, sE, ws, d, ab, rw', e, k⟩ := h
  have fin : ∀ {v : V}, RD G H η d v → Q v H := fun {v} z => k v H η (Step.refl _ _) ab z
  unfold builtin at e
  split at e
  · obtain ⟨x, rfl, rx⟩ := rw'.one
    exact or_bi1 hK hc hu f I r ab rx e k
  · obtain ⟨x, y, rfl, rx, ry⟩ := rw'.two
    unfold bi2 at e
    split at e
    · cases e
      rw [rx.ints rfl, ry.ints rfl] at r
      exact call_min2 hc pins s σ H _ us Q I r ⟨_, _, rfl, fin (.int _)⟩
    · cases e
      rw [rx.ints rfl, ry.ints rfl] at r
      exact call_max2 hc pins s σ H _ us Q I r ⟨_, _, rfl, fin (.int _)⟩
    · cases e
  · cases e
end
end FT

namespace FT
open PySem PySem.Spec PyProof.Rows L2 SlX

section
variable {G : GG} {H H' : Hp} {η η' : Et} {s : S} {X : Cx}
def plainTst : Expr → Bool
  | .UnaryOp op _ _ => (match op with | .Not => false | _ => true)
  | .BoolOp .. => false
  | .IfExp .. => false
  | .Compare .. => false
  | _ => true
/-- a test by a value's truth -/
theorem isTrue_tst {e : Expr} {env : PySem.Env} (h : plainTst e = true) (whole : Sem Value) : isTrue e env whole = (do let v ← whole; standAt e.pos; holding [v] (PySem.truthy v)) := by
  cases e with
  | UnaryOp op x pos => cases op <;> first | rfl | (simp [plainTst] at h)
  | BoolOp => simp [plainTst] at h
  | IfExp => simp [plainTst] at h
  | Compare => simp [plainTst] at h
  | _ => rfl
/-- a test whose value is true or false by its truth -/
theorem pt_tst {G : GG} {W : WX} {call : CallF} {e : E} {x : Expr} (hK : X.K = G.K) (he : PE X x (tE G W call e)) (h : plainTst x = true) : PT X x (tB G W call e) := by
  refine PT_imp (pt_truth he (isTrue_tst h)) fun σ H Q q => ?_
  obtain ⟨η, env, s, av, ab, p⟩ := q
  refine ⟨η, env, s, av, ab, (Post.bind (Rl := RW G) p).mono fun b H' ⟨η', a, s', st, ab', rl, p'⟩ => ?_⟩
  obtain ⟨k, e1, p'⟩ := p'.of
  exact ⟨k, hK ▸ rl.tru ab' e1, p'.ok ab' rfl⟩
theorem pures_rds : ∀ {ws : List W} {vs : List V} {xs : List D}, RWs G H η ws vs → pures ws = some xs → RDs G H η xs vs
  | _, _, _, .nil, e => by cases e; exact .nil
  | .d x :: ws, _, _, .cons h r, e => by
    simp only [pures] at e
    cases q : pures ws with
    | none => rw [q] at e; cases e
    | some ys => rw [q] at e; cases e; exact .cons h (pures_rds r q)
  | .ref n :: ws, _, _, .cons h r, e => by cases e
/-- a new list: frozen, or a cell -/
theorem post_newL {W : WH} {m : Bool} {ds : List D} {vs : List V} {Q : VK} {p : Addr} (ab : AbsS G H η s) (hp : H p = none) (r : RDs G H η ds vs) (h : Post G W (RW G) H η (newL m ds s) Q) : Q (.ref p) (upd H p (.lst vs)) := by
  unfold newL at h
  split at h
  · split at h
    · have hn := ab.fresh hp
      have le : Le H η (upd H p (.lst vs)) (η.more p) := Le.more hp
      have st : Step H η (upd H p (.lst vs)) (η.more p) := ⟨⟨le, List.prefix_append _ _⟩, rfl, fun a ha => upd_ne fun z => hn (.inr (z ▸ ha))⟩
      refine h (.ref p) _ (η.more p) st ⟨by simp [Et.more, ab.len], ?_, fun i a c e1 e2 => ?_, fun a ha => let ⟨o, e⟩ := ab.fb a ha; ⟨o, by rw [upd_ne (ne_of_none e hp)]; exact e⟩, fun a ha hm => (List.mem_append.mp hm).elim (ab.dj a ha) fun z => hn (.inr ((List.mem_singleton.mp z) ▸ ha))⟩ ⟨p, by show (η.κ ++ [p])[s.length]? = _; rw [List.getElem?_append_right (by rw [ab.len]; exact Nat.le_refl _), ab.len]; simp, rfl⟩
      · show (η.κ ++ [p]).Nodup
        rw [List.nodup_append]
        exact ⟨ab.nd, by simp, fun a ha b hb => by rw [List.mem_singleton.mp hb]; exact fun z => hn (.inl (z ▸ ha))⟩
      · by_cases hi : i < s.length
        · have e1 : (η.κ ++ [p])[i]? = some a := e1
          rw [List.getElem?_append_left (by rw [ab.len]; exact hi)] at e1
          rw [List.getElem?_append_left hi] at e2
          exact (ab.at' i a c e1 e2).laid2 hp hn (.inl (List.mem_of_getElem? e1))
        · have hi' : i = s.length := by
            have := (List.getElem?_eq_some_iff.mp e2).1
            simp at this; omega
          subst hi'
          rw [List.getElem?_append_right (Nat.le_refl _)] at e2
          have e1 : (η.κ ++ [p])[s.length]? = some a := e1
          rw [List.getElem?_append_right (by rw [ab.len]; exact Nat.le_refl _), ab.len] at e1
          simp at e1 e2
          subst e1 e2
          exact ⟨vs, upd_same, r.mono le⟩
    · obtain ⟨st, ab', rd⟩ := new_lst ab hp r
      exact h _ _ _ st ab' rd
  · exact h.elim
end
end FT

namespace FT
open PySem PySem.Spec PyProof.Rows L2 SlX

/-- the iterator J walks what the evaluator walks -/
def RSrc (G : GG) (H : Hp) (η : Et) (src : Src) (J : It) : Prop := ∀ H' η' s', Step0 H η H' η' → AbsS G H' η' s' → ∀ ds, src.get s' = some ds →
  (∀ i d, ds[i]? = some d → J.go i H' ∧ ∀ x H2, J.yld i H' x H2 → Step H' η' H2 η' ∧ AbsS G H2 η' s' ∧ RD G H2 η' d x) ∧ ∀ i, ds[i]? = none → J.stop i H'
def tI (G : GG) (W : WX) (call : CallF) (it : I) : TI := fun σ H R => ∃ η env s, AbsV G H η env σ ∧ AbsS G H η s ∧ Post G (fun c d => W c d σ) (fun H' η' src J => RSrc G H' η' src J) H η (evI G.P call it env s) R

section
variable {G : GG} {H H' : Hp} {η η' : Et} {s : S} {X : Cx}
theorem RSrc.lst {w : W} {x : V} {src : Src} (r : RW G H η w x) (e : srcL w s = some src) (ab : AbsS G H η s) : ∃ a vs, x = .ref a ∧ SqL G.K H a vs ∧ (∀ H' η' s', Step0 H η H' η' → AbsS G H' η' s' → ∀ ds, src.get s' = some ds → ∃ vs, SqL G.K H' a vs ∧ RDs G H' η' ds vs) := by
  cases w with
  | d z =>
    cases z <;> simp only [srcL] at e <;> first | (cases e; done) | skip
    cases e
    have r : RD G H η (.lst _) x := r
    cases r with
    | lst h q => exact ⟨_, _, rfl, h.seq, fun H' η' s' st ab' ds e => by cases e; exact ⟨_, (st.le.fzL h).seq, q.mono st.le⟩⟩
  | ref n =>
    simp only [srcL] at e
    split at e
    · rename_i k0 xs0 hc0
      cases e
      obtain ⟨a, ha, rfl⟩ := r
      obtain ⟨vs0, g1, g2⟩ := ab.at' n a _ ha hc0
      refine ⟨a, vs0, rfl, .of g1, fun H' η' s' st ab' ds e => ?_⟩
      simp only [Src.get] at e
      split at e
      · rename_i k xs hc
        cases e
        obtain ⟨vs, h1, h2⟩ := ab'.at' n a _ (st.at ha) hc
        exact ⟨vs, .of h1, h2⟩
      · cases e
    · cases e
theorem RSrc.tup {w : W} {x : V} {src : Src} (r : RW G H η w x) (e : srcT w = some src) : ∃ a vs, x = .ref a ∧ SqT G.K H a vs ∧ (∀ H' η' s', Step0 H η H' η' → AbsS G H' η' s' → ∀ ds, src.get s' = some ds → SqT G.K H' a vs ∧ RDs G H' η' ds vs) := by
  cases w with
  | d z =>
    cases z <;> simp only [srcT] at e <;> first | (cases e; done) | skip
    cases e
    have r : RD G H η (.tup _) x := r
    cases r with
    | tup h q => exact ⟨_, _, rfl, h.seq, fun H' η' s' st ab' ds e => by cases e; exact ⟨(st.le.fzT h).seq, q.mono st.le⟩⟩
  | ref n => cases e
theorem RDs.none_iff {ds : List D} {vs : List V} {i : Nat} (r : RDs G H η ds vs) : ds[i]? = none ↔ vs[i]? = none := by
  rw [List.getElem?_eq_none_iff, List.getElem?_eq_none_iff, r.length]
/-- a list's walk -/
theorem walk_lst {a : Addr} {src : Src} (hK : X.K = G.K) {pins : List (Addr × Obj)} {σ : L2.St} {sh : Shared} (I : Inv X pins σ H sh) (core : ∀ H' η' s', Step0 H η H' η' → AbsS G H' η' s' → ∀ ds, src.get s' = some ds → ∃ vs, SqL G.K H' a vs ∧ RDs G H' η' ds vs) : RSrc G H η src (Itl X.K a) := by
  intro H' η' s' st ab ds e
  obtain ⟨vs, h1, h2⟩ := core H' η' s' st ab ds e
  rw [hK]
  refine ⟨fun i d hd => ?_, fun i hn => ⟨vs, h1, List.getElem?_eq_none_iff.mp (h2.none_iff.mp hn)⟩⟩
  obtain ⟨v, hv, rv⟩ := h2.get hd
  refine ⟨⟨vs, v, h1, hv⟩, fun x H2 hy => ?_⟩
  obtain ⟨e1, q⟩ := hy
  subst e1
  have := q vs h1
  rw [hv] at this
  cases this
  exact ⟨Step.refl _ _, ab, rv⟩
theorem walk_tup {a : Addr} {src : Src} {vs : List V} (hK : X.K = G.K) (core : ∀ H' η' s', Step0 H η H' η' → AbsS G H' η' s' → ∀ ds, src.get s' = some ds → SqT G.K H' a vs ∧ RDs G H' η' ds vs) : RSrc G H η src (Itt X.K a) := by
  intro H' η' s' st ab ds e
  obtain ⟨h1, h2⟩ := core H' η' s' st ab ds e
  rw [hK]
  refine ⟨fun i d hd => ?_, fun i hn => ⟨vs, h1, List.getElem?_eq_none_iff.mp (h2.none_iff.mp hn)⟩⟩
  obtain ⟨v, hv, rv⟩ := h2.get hd
  refine ⟨⟨vs, v, h1, hv⟩, fun x H2 hy => ?_⟩
  obtain ⟨e1, q⟩ := hy
  subst e1
  have := q vs h1
  rw [hv] at this
  cases this
  exact ⟨Step.refl _ _, ab, rv⟩
/-- pyIter of a word -/
theorem iter_at {tg : Expr} {w : W} {x : V} {v : Value} {src : Src} {pins : List (Addr × Obj)} {σ : L2.St} {sh : Shared} {R : It → Hp → Prop} (hK : X.K = G.K) (I : Inv X pins σ H sh) (rv : RelV x v) (r : RW G H η w x) (ab : AbsS G H η s) (e : srcOfE w s = some src)
    (h : ∀ J, RSrc G H η src J → R J H) : wpAny (model X.prog X.w) X.A (pyIter v) (PIE X pins σ tg R) X.xe sh := by
  have lstc : srcL w s = some src → wpAny (model X.prog X.w) X.A (pyIter v) (PIE X pins σ tg R) X.xe sh := fun e => by
    obtain ⟨a, vs, rfl, h1, core⟩ := RSrc.lst r e ab
    cases rv
    obtain ⟨its, rv, p, hz⟩ := I.list (hK ▸ h1)
    refine wpAny_pyIter_list p.isList ?_
    refine ⟨sh.heap.objs.size, [sh.heap.objs.size], _, _, H, rfl, I.kept (t' := sh.toks) fun b o e => Heap.get?_push_of_some _ e, turn_list a _, ⟨_, Heap.get?_push_size _ rfl, rfl, rfl⟩, fun b hb => ?_, h _ (walk_lst hK I core)⟩
    have e : b = sh.heap.objs.size := by simpa using hb
    subst e
    exact I.fpOk (Nat.le_refl _) (I.hok.fresh (Nat.le_refl _))
  cases w with
  | ref n => exact lstc e
  | d z =>
    cases z with
    | str y =>
      simp only [srcOfE] at e
      cases e
      have r : RD G H η (.str y) x := r
      cases r
      rename_i hy
      obtain ⟨t, rfl⟩ := rv
      have hy' := strOk_iff.mp hy
      have wk : RSrc G H η (.val (y.cps.toList.map fun c => .str ⟨#[c]⟩)) (Its y) := by
        intro H' η' s' st ab ds e
        cases e
        refine ⟨fun i d hd => ?_, fun i hn => ?_⟩
        · rw [List.getElem?_map] at hd
          cases hc : y.cps.toList[i]? with
          | none => rw [hc] at hd; cases hd
          | some c =>
            rw [hc] at hd; cases hd
            have hc' : y.cps[i]? = some c := by simpa using hc
            refine ⟨(Array.getElem?_eq_some_iff.mp hc').1, fun x H2 ⟨e1, c2, e2, e3⟩ => ?_⟩
            subst e1
            rw [hc'] at e2
            cases e2
            subst e3
            exact ⟨Step.refl _ _, ab, .str _ (strOk_iff.mpr fun c' hm => by
              have : c' = c := by simpa using hm
              subst this
              exact hy' _ (List.mem_of_getElem? hc))⟩
        · rw [List.getElem?_map] at hn
          cases hc : y.cps.toList[i]? with
          | none =>
            have := List.getElem?_eq_none_iff.mp hc
            show y.cps.size ≤ i
            simpa using this
          | some c => rw [hc] at hn; cases hn
      cases ha : y.cps.all (· < 128)
      · exact wpAny_pyIter_wide ha (pi_one (tk := sh.toks) I _ (turn_str _ y t "str_iterator" (.inr rfl)) ⟨_, Heap.get?_push_size _ rfl, rfl, rfl⟩ (h _ wk))
      · exact wpAny_pyIter_ascii ha (pi_one (tk := sh.toks) I _ (turn_str _ y t "str_ascii_iterator" (.inl rfl)) ⟨_, Heap.get?_push_size _ rfl, rfl, rfl⟩ (h _ wk))
    | tup ds =>
      simp only [srcOfE] at e
      obtain ⟨a, vs, rfl, h1, core⟩ := RSrc.tup (src := src) r e
      cases rv
      obtain ⟨its, rv, p, hz⟩ := I.tuple (hK ▸ h1)
      refine wpAny_pyIter_tuple (show sh.heap.IsTuple a its.toArray from p) ?_
      refine ⟨sh.heap.objs.size, [sh.heap.objs.size], _, _, H, rfl, I.kept (t' := sh.toks) fun b o e => Heap.get?_push_of_some _ e, turn_tuple a _, ⟨_, Heap.get?_push_size _ rfl, rfl, rfl⟩, fun b hb => ?_, h _ (walk_tup hK core)⟩
      have e : b = sh.heap.objs.size := by simpa using hb
      subst e
      exact I.fpOk (Nat.le_refl _) (I.hok.fresh (Nat.le_refl _))
    | lst ds => exact lstc e
    | non => cases e
    | bl => cases e
    | int => cases e
    | dic => cases e
    | ins => cases e
    | exc => cases e
theorem walk_range {lo : Int} {n : Nat} : RSrc G H η (.val ((List.range n).map fun (i : Nat) => D.int (lo + i))) (Itr lo n) := by
  intro H' η' s' st ab ds e
  cases e
  refine ⟨fun i d hd => ?_, fun i hn => ?_⟩
  · rw [List.getElem?_map] at hd
    by_cases hi : i < n
    · rw [List.getElem?_range hi] at hd
      cases hd
      refine ⟨hi, fun x H2 ⟨e1, e2⟩ => ?_⟩
      subst e1 e2
      exact ⟨Step.refl _ _, ab, .int _⟩
    · rw [List.getElem?_eq_none (by simpa using hi)] at hd
      cases hd
  · have := List.getElem?_eq_none_iff.mp hn
    show n ≤ i
    simpa using this
theorem enumD_get : ∀ (xs : List D) (k : Int) (i : Nat), (enumD k xs)[i]? = (xs[i]?).map fun x => .tup [.int (k + i), x]
  | [], k, i => by simp [enumD]
  | x :: xs, k, 0 => by simp [enumD]
  | x :: xs, k, i + 1 => by
    rw [enumD, List.getElem?_cons_succ, List.getElem?_cons_succ, enumD_get xs (k + 1) i]
    have e : k + 1 + (i : Int) = k + ((i + 1 : Nat) : Int) := by omega
    rw [e]
theorem walk_enum {a : Addr} {src : Src} (hK : X.K = G.K) (core : ∀ H' η' s', Step0 H η H' η' → AbsS G H' η' s' → ∀ ds, src.get s' = some ds → ∃ vs, SqL G.K H' a vs ∧ RDs G H' η' ds vs) : RSrc G H η (.enum 0 src) (Ite X.K a) := by
  intro H' η' s' st ab ds e
  simp only [Src.get] at e
  cases hg : src.get s' with
  | none => rw [hg] at e; cases e
  | some xs =>
    rw [hg] at e; cases e
    obtain ⟨vs, h1, h2⟩ := core H' η' s' st ab xs hg
    rw [hK]
    refine ⟨fun i d hd => ?_, fun i hn => ?_⟩
    · rw [enumD_get] at hd
      cases hx : xs[i]? with
      | none => rw [hx] at hd; cases hd
      | some y =>
        rw [hx] at hd; cases hd
        obtain ⟨v, hv, rv⟩ := h2.get hx
        refine ⟨⟨vs, v, h1, hv⟩, fun x H2 ⟨T, z, e1, e2, e3, q⟩ => ?_⟩
        subst e1 e3
        have := q vs h1
        rw [hv] at this
        cases this
        obtain ⟨st2, ab2, rd⟩ := new_tup ab e2 (.cons (.int (i : Nat)) (.cons rv .nil))
        refine ⟨st2, ab2, ?_⟩
        rw [Int.zero_add]
        exact rd
    · rw [enumD_get] at hn
      cases hx : xs[i]? with
      | none => exact ⟨vs, h1, List.getElem?_eq_none_iff.mp (h2.none_iff.mp hx)⟩
      | some y => rw [hx] at hn; cases hn
theorem zip_get : ∀ (xs ys : List D) (i : Nat), (List.zipWith (fun a b => D.tup [a, b]) xs ys)[i]? = match xs[i]?, ys[i]? with | some x, some y => some (.tup [x, y]) | _, _ => none := fun xs ys i => by
  rw [List.getElem?_zipWith]
  cases xs[i]? <;> cases ys[i]? <;> rfl
theorem walk_zipL {a b : Addr} {src src2 : Src} (hK : X.K = G.K) (core : ∀ H' η' s', Step0 H η H' η' → AbsS G H' η' s' → ∀ ds, src.get s' = some ds → ∃ vs, SqL G.K H' a vs ∧ RDs G H' η' ds vs)
    (core2 : ∀ H' η' s', Step0 H η H' η' → AbsS G H' η' s' → ∀ ds, src2.get s' = some ds → ∃ vs, SqL G.K H' b vs ∧ RDs G H' η' ds vs) : RSrc G H η (.zip src src2) (Itz X.K a b) := by
  intro H' η' s' st ab ds e
  simp only [Src.get] at e
  cases hg : src.get s' with
  | none => rw [hg] at e; cases e
  | some xs =>
    cases hg2 : src2.get s' with
    | none => rw [hg, hg2] at e; cases e
    | some ys =>
      rw [hg, hg2] at e; cases e
      obtain ⟨vs, h1, h2⟩ := core H' η' s' st ab xs hg
      obtain ⟨ws, g1, g2⟩ := core2 H' η' s' st ab ys hg2
      rw [hK]
      refine ⟨fun i d hd => ?_, fun i hn => ?_⟩
      · rw [zip_get] at hd
        split at hd
        · rename_i x y hx hy
          cases hd
          obtain ⟨v, hv, rv⟩ := h2.get hx
          obtain ⟨w, hw, rw'⟩ := g2.get hy
          refine ⟨⟨vs, ws, v, w, h1, g1, hv, hw⟩, fun x H2 ⟨T, z, z2, e1, e2, e3, q, q2⟩ => ?_⟩
          subst e1 e3
          have := q vs h1
          rw [hv] at this
          cases this
          have := q2 ws g1
          rw [hw] at this
          cases this
          exact new_tup ab e2 (.cons rv (.cons rw' .nil))
        · cases hd
      · refine ⟨vs, ws, h1, g1, ?_⟩
        rw [zip_get] at hn
        cases hx : xs[i]? with
        | none => exact .inl (List.getElem?_eq_none_iff.mp (h2.none_iff.mp hx))
        | some x =>
          cases hy : ys[i]? with
          | none => exact .inr (List.getElem?_eq_none_iff.mp (g2.none_iff.mp hy))
          | some y => rw [hx, hy] at hn; cases hn
theorem walk_zipT {a b : Addr} {src src2 : Src} {vs ws : List V} (hK : X.K = G.K) (core : ∀ H' η' s', Step0 H η H' η' → AbsS G H' η' s' → ∀ ds, src.get s' = some ds → SqT G.K H' a vs ∧ RDs G H' η' ds vs)
    (core2 : ∀ H' η' s', Step0 H η H' η' → AbsS G H' η' s' → ∀ ds, src2.get s' = some ds → SqT G.K H' b ws ∧ RDs G H' η' ds ws) : RSrc G H η (.zip src src2) (RZ.ItzT X.K a b) := by
  intro H' η' s' st ab ds e
  simp only [Src.get] at e
  cases hg : src.get s' with
  | none => rw [hg] at e; cases e
  | some xs =>
    cases hg2 : src2.get s' with
    | none => rw [hg, hg2] at e; cases e
    | some ys =>
      rw [hg, hg2] at e; cases e
      obtain ⟨h1, h2⟩ := core H' η' s' st ab xs hg
      obtain ⟨g1, g2⟩ := core2 H' η' s' st ab ys hg2
      rw [hK]
      refine ⟨fun i d hd => ?_, fun i hn => ?_⟩
      · rw [zip_get] at hd
        split at hd
        · rename_i x y hx hy
          cases hd
          obtain ⟨v, hv, rv⟩ := h2.get hx
          obtain ⟨w, hw, rw'⟩ := g2.get hy
          refine ⟨⟨vs, ws, v, w, h1, g1, hv, hw⟩, fun x H2 ⟨T, z, z2, e1, e2, e3, q, q2⟩ => ?_⟩
          subst e1 e3
          have := q vs h1
          rw [hv] at this
          cases this
          have := q2 ws g1
          rw [hw] at this
          cases this
          exact new_tup ab e2 (.cons rv (.cons rw' .nil))
        · cases hd
      · refine ⟨vs, ws, h1, g1, ?_⟩
        rw [zip_get] at hn
        cases hx : xs[i]? with
        | none => exact .inl (List.getElem?_eq_none_iff.mp (h2.none_iff.mp hx))
        | some x =>
          cases hy : ys[i]? with
          | none => exact .inr (List.getElem?_eq_none_iff.mp (g2.none_iff.mp hy))
          | some y => rw [hx, hy] at hn; cases hn
end

theorem wipe_put {σ : L2.St} {i : Nat} {x y : Option V} : ∀ vs : List Nat, (wipe (σ.set i x) vs).set i y = (wipe σ vs).set i y
  | [] => by unfold wipe; rw [List.set_set]
  | v :: vs => by
    unfold wipe
    by_cases h : v = i
    · subst h
      rw [List.set_set, List.set_set]; exact wipe_put vs
    · rw [List.set_comm _ _ h, wipe_put vs, List.set_comm _ _ (Ne.symm h)]
theorem wipe_set {σ : L2.St} {i : Nat} {x : Option V} : ∀ vs : List Nat, i ∈ vs → wipe (σ.set i x) vs = wipe σ vs
  | [], h => by cases h
  | v :: vs, h => by
    unfold wipe
    by_cases hv : v = i
    · subst hv; exact wipe_put vs
    · rcases List.mem_cons.mp h with e | e
      · exact absurd e.symm hv
      · rw [wipe_set vs e]
theorem wipe_wipe {σ : L2.St} (vs : List Nat) : ∀ ws : List Nat, (∀ i ∈ ws, i ∈ vs) → wipe (wipe σ ws) vs = wipe σ vs
  | [], _ => rfl
  | w :: ws, h => by
    have e : wipe σ (w :: ws) = (wipe σ ws).set w none := rfl
    rw [e, wipe_set vs (h w List.mem_cons_self), wipe_wipe vs ws fun i hi => h i (List.mem_cons_of_mem _ hi)]
def gT (G : GG) (t : T) : TG := fun v σ H Q => ∃ η env d env', AbsV G H η env σ ∧ RD G H η d v ∧ asgT t d env = some env' ∧ ∀ σ', AbsV G H η env' σ' → (∀ vs : List Nat, tgIn vs t = true → wipe σ' vs = wipe σ vs) → Q σ' H
def gTs (G : GG) (ts : Ts) : TGs := fun vs σ H Q => ∃ η env ds env', AbsV G H η env σ ∧ RDs G H η ds vs ∧ asgTs ts ds env = some env' ∧ ∀ σ', AbsV G H η env' σ' → (∀ vs : List Nat, tgIn.tgsIn vs ts = true → wipe σ' vs = wipe σ vs) → Q σ' H
section
variable {G : GG} {N : List Str} {sc : Scope} {fnB : Str → Bool} {X : Cx}
theorem PG_imp {x : Expr} {t t' : TG} (h : PG X x t) (i : ∀ v σ H Q, t' v σ H Q → t v σ H Q) : PG X x t' := ⟨fun pins s σ H v u Q I r q => h.run pins s σ H v u Q I r (i _ _ _ _ q)⟩
theorem PGs_imp {x : List Expr} {t t' : TGs} (h : PGs X x t) (i : ∀ v σ H Q, t' v σ H Q → t v σ H Q) : PGs X x t' := ⟨fun pins s σ H v u Q I r q => h.run pins s σ H v u Q I r (i _ _ _ _ q)⟩
theorem assign_cons {env : PySem.Env} {x : Expr} {xs : List Expr} (h : notStar x = true) : assignEach (x :: xs) env = (false, assign x env) :: assignEach xs env := by
  cases x <;> first | rfl | (simp [notStar] at h)
theorem tgs_len : ∀ (ts : Ts) (xs : List Expr) {env : PySem.Env}, okTs N sc fnB ts xs = true → ∀ {ds : List D} {e e' : Env}, asgTs ts ds e = some e' → (assignEach xs env).length = ds.length ∧ (assignEach xs env).findIdx? (·.1) = none
  | .nil, xs, env, h, ds, e, e', q => by
    cases xs with
    | nil => cases ds with
      | nil => exact ⟨rfl, rfl⟩
      | cons => simp [asgTs] at q
    | cons => simp [okTs] at h
  | .cons t ts, xs, env, h, ds, e, e', q => by
    cases xs with
    | nil => simp [okTs] at h
    | cons x xs =>
      have h : (notStar x && okT N sc fnB t x && okTs N sc fnB ts xs) = true := h
      simp only [Bool.and_eq_true] at h
      cases ds with
      | nil => simp [asgTs] at q
      | cons d ds =>
        simp only [asgTs] at q
        cases h1 : asgT t d e with
        | none => rw [h1] at q; cases q
        | some e1 =>
          rw [h1] at q
          obtain ⟨g1, g2⟩ := tgs_len ts xs (env := env) h.2 q
          rw [assign_cons h.1.1]
          refine ⟨by simp [g1], ?_⟩
          rw [List.findIdx?_cons, if_neg (by simp), g2]
          rfl
mutual
theorem sndTg (hK : X.K = G.K) (hN : X.N = N) (nd : N.Nodup) (hc : X.calm = true) (hs : X.env.scope = sc) (hf : ∀ y, fnB y = true → X.fn y = true) : ∀ (t : T) (x : Expr), okT N sc fnB t x = true → PG X x (gT G t)
  | .name i, x, h => by
    simp only [okT] at h
    split at h
    · rename_i y pos
      simp only [Bool.and_eq_true, decide_eq_true_eq, Bool.or_eq_true] at h
      obtain ⟨⟨h1, h2⟩, h3⟩ := h
      refine PG_imp (pg_name (i := i) (by rw [hN]; exact nd) (by rw [hN]; exact h1) (loc_of hs h2) (h3.imp (hf y) fun z => by rw [hs]; exact z)) fun v σ H Q q => ?_
      obtain ⟨η, env, d, env', av, r, e, k⟩ := q
      simp only [asgT] at e
      cases e
      refine k _ (av.set (w := .d d) r) fun vs hv => wipe_set vs ?_
      simpa [tgIn] using hv
    · cases h
  | .tup ts, x, h => by
    simp only [okT] at h
    split at h
    · rename_i ys kk pos
      refine ⟨fun pins s σ H v u Q I r q => ?_⟩
      obtain ⟨η, env, d, env', av, rd, e, k⟩ := q
      cases rd with
      | tup hz hr =>
        simp only [asgT] at e
        obtain ⟨g1, g2⟩ := tgs_len ts ys (env := X.env) h e
        exact (pg_tup hc (sndTgs hK hN nd hc hs hf ts ys h) rfl g2).run pins s σ H _ u Q I r ⟨_, _, rfl, hK ▸ hz.seq, by rw [← hr.length, g1], η, env, _, env', av, hr, e, fun σ' av' w => k σ' av' fun vs hv => w vs (by simpa [tgIn] using hv)⟩
      | lst hz hr =>
        simp only [asgT] at e
        obtain ⟨g1, g2⟩ := tgs_len ts ys (env := X.env) h e
        exact (pg_lst hc (sndTgs hK hN nd hc hs hf ts ys h) rfl g2).run pins s σ H _ u Q I r ⟨_, _, rfl, hK ▸ hz.seq, by rw [← hr.length, g1], η, env, _, env', av, hr, e, fun σ' av' w => k σ' av' fun vs hv => w vs (by simpa [tgIn] using hv)⟩
      | _ => simp [asgT] at e
    · cases h
theorem sndTgs (hK : X.K = G.K) (hN : X.N = N) (nd : N.Nodup) (hc : X.calm = true) (hs : X.env.scope = sc) (hf : ∀ y, fnB y = true → X.fn y = true) : ∀ (ts : Ts) (xs : List Expr), okTs N sc fnB ts xs = true → PGs X xs (gTs G ts)
  | .nil, xs, h => by
    cases xs with
    | cons => simp [okTs] at h
    | nil =>
      refine PGs_imp pgs_nil fun vs σ H Q q => ?_
      obtain ⟨η, env, ds, env', av, r, e, k⟩ := q
      cases ds with
      | cons => simp [asgTs] at e
      | nil =>
        cases r
        simp only [asgTs] at e
        cases e
        exact ⟨rfl, k σ av fun vs _ => rfl⟩
  | .cons t ts, xs, h => by
    cases xs with
    | nil => simp [okTs] at h
    | cons x xs =>
      have h : (notStar x && okT N sc fnB t x && okTs N sc fnB ts xs) = true := h
      simp only [Bool.and_eq_true] at h
      refine PGs_imp (pgs_cons (sndTg hK hN nd hc hs hf t x h.1.2) (sndTgs hK hN nd hc hs hf ts xs h.2) (by rw [assign_cons h.1.1]; rfl)) fun vs σ H Q q => ?_
      obtain ⟨η, env, ds, env', av, r, e, k⟩ := q
      cases ds with
      | nil => simp [asgTs] at e
      | cons d ds =>
        cases r with
        | cons r1 r2 =>
          simp only [asgTs] at e
          cases h1 : asgT t d env with
          | none => rw [h1] at e; cases e
          | some e1 =>
            rw [h1] at e
            refine ⟨_, _, rfl, η, env, d, e1, av, r1, h1, fun σ1 av1 w1 => ⟨η, e1, ds, env', av1, r2, e, fun σ2 av2 w2 => k σ2 av2 fun vs hv => ?_⟩⟩
            have hv : (tgIn vs t && tgIn.tgsIn vs ts) = true := hv
            rw [Bool.and_eq_true] at hv
            rw [w2 vs hv.2, w1 vs hv.1]
end
end
end FT

namespace FT
open PySem PySem.Spec PyProof.Rows L2 SlX

abbrev WF : WX := fun _ _ _ _ => False
/-- the names' block has a calm end: the rest of the run is asked at the anchor -/
theorem Post.anchor {α β γ δ : Type} {G : GG} {W : WH} {Rl : Hp → Et → α → β → Prop} {Rm : Hp → Et → γ → δ → Prop} {H1 H2 : Hp} {η1 η2 : Et} {r : R γ} {K : γ → S → R α} {Q : β → Hp → Prop} (h : Post G W Rl H1 η1 (r.calm.bind K) Q) :
    Post G (fun _ _ _ => False) Rm H2 η2 r (fun b H' => ∃ η' a s', Step H2 η2 H' η' ∧ AbsS G H' η' s' ∧ Rm H' η' a b ∧ Post G W Rl H1 η1 (K a s') Q) := by
  cases r with
  | ok a s => exact fun b H' η' st ab rl => ⟨η', a, s, st, ab, rl, h⟩
  | err c ds s => exact h.elim
  | stuck => exact h.elim
def tCond (G : GG) (W : WX) (call : CallF) (es : Es) : TT := fun σ H Q => ∃ η env s, AbsV G H η env σ ∧ AbsS G H η s ∧ Post G (fun c d => W c d σ) (fun _ _ (a b : Bool) => a = b) H η (evCond G.P call es env s) Q

section
variable {G : GG} {H H' : Hp} {η η' : Et} {s : S}
theorem cell_mono {a : Addr} {c : Cell} (h : CellOk G H η a c) (le : Le H η H' η') (k : H' a = H a) (hf : ∀ b, b ∉ η → (∃ o, H b = Option.some o) → H' b = H b ∧ b ∉ η') : CellOk G H' η' a c := by
  cases c with
  | lst k' xs => obtain ⟨vs, e, r⟩ := h; exact ⟨vs, by rw [k]; exact e, r.mono le⟩
  | dic => exact h.elim
  | ins c fs =>
    obtain ⟨C, dx, vs, e, sl, n1, n2, ⟨u, hu⟩, q⟩ := h
    obtain ⟨g1, g2⟩ := hf dx n1 ⟨u, hu⟩
    refine ⟨C, dx, vs, e, ?_, g2, n2, ⟨u, by rw [g1]; exact hu⟩, fun i d e => let ⟨v, e1, r⟩ := q i d e; ⟨v, e1, r.mono le⟩⟩
    rcases sl with sl | sl
    · exact .inl ⟨by rw [k]; exact sl.1, sl.2⟩
    · exact .inr ⟨by rw [k]; exact sl.1, by rw [g1]; exact sl.2⟩
/-- an address more that may be written -/
def Et.also (η : Et) (p : Addr) : Et := ⟨η.κ, η.φ ++ [p]⟩
theorem Et.mem_also {η : Et} {a p : Addr} : a ∈ η.also p ↔ a ∈ η ∨ a = p := by
  show (a ∈ η.κ ∨ a ∈ η.φ ++ [p]) ↔ (a ∈ η.κ ∨ a ∈ η.φ) ∨ a = p
  rw [List.mem_append, List.mem_singleton, or_assoc]
theorem Le.also {p : Addr} {o : HO} (hp : H p = none) : Le H η (upd H p o) (η.also p) := fun a o e n => ⟨by rw [upd_ne (ne_of_none e hp)]; exact e, fun z => (Et.mem_also.mp z).elim n (ne_of_none e hp)⟩
theorem AbsS.also {p : Addr} {o : HO} (ab : AbsS G H η s) (hp : H p = none) : AbsS G (upd H p o) (η.also p) s := by
  have hn := ab.fresh hp
  refine ⟨ab.len, ab.nd, fun i a c e1 e2 => ?_, fun a ha => ?_, fun a ha => ?_⟩
  · have ha : a ∈ η := .inl (List.mem_of_getElem? e1)
    refine cell_mono (ab.at' i a c e1 e2) (Le.also hp) (upd_ne fun z => hn (z ▸ ha)) fun b hb ⟨u, hu⟩ => ⟨upd_ne (ne_of_none hu hp), fun z => (Et.mem_also.mp z).elim hb (ne_of_none hu hp)⟩
  · rcases List.mem_append.mp ha with h | h
    · obtain ⟨u, e⟩ := ab.fb a h
      exact ⟨u, by rw [upd_ne (ne_of_none e hp)]; exact e⟩
    · rw [List.mem_singleton.mp h]; exact ⟨o, upd_same⟩
  · rcases List.mem_append.mp ha with h | h
    · exact ab.dj a h
    · rw [List.mem_singleton.mp h]; exact fun z => hn (.inl z)
/-- what may be written is written -/
theorem AbsS.put {p : Addr} {o : HO} (ab : AbsS G H η s) (hp : p ∈ η.φ) : AbsS G (upd H p o) η s := by
  have le : Le H η (upd H p o) η := fun a u e n => ⟨by rw [upd_ne fun z => n (.inr (by rw [z]; exact hp))]; exact e, n⟩
  refine ⟨ab.len, ab.nd, fun i a c e1 e2 => ?_, fun a ha => ?_, ab.dj⟩
  · exact cell_mono (ab.at' i a c e1 e2) le (upd_ne fun z => ab.dj p hp (by rw [← z]; exact List.mem_of_getElem? e1)) fun b hb _ => ⟨upd_ne fun z => hb (.inr (by rw [z]; exact hp)), hb⟩
  · by_cases z : a = p
    · rw [z]; exact ⟨o, upd_same⟩
    · obtain ⟨u, e⟩ := ab.fb a ha
      exact ⟨u, by rw [upd_ne z]; exact e⟩
theorem compGo_len {src : Src} {f : D → S → R (Option D)} {m : Bool} {W : WH} {Rl : Hp → Et → FT.W → V → Prop} {n i : Nat} {acc : List D} {Q : V → Hp → Prop} (h : Post G W Rl H η ((compGo src f n i s).calm.bind fun ys s => newL m (acc ++ ys) s) Q) : acc.length ≤ LIM := by
  cases hr : compGo src f n i s with
  | ok ys s' =>
    rw [hr] at h
    have h : Post G W Rl H η (newL m (acc ++ ys) s') Q := h
    unfold newL at h
    split at h
    · rename_i hl
      rw [List.length_append] at hl
      omega
    · exact h.elim
  | err => rw [hr] at h; exact h.elim
  | stuck => rw [hr] at h; exact h.elim

theorem comp_ok {W : WX} {call : CallF} {m : Bool} {elt : E} {tg : T} {it : I} {cond : Es} {own : List Nat} {σ : L2.St} {Q : VK} (ho : tgIn own tg = true) (q : tE G W call (.comp m elt tg it cond own) σ H Q) :
    tLc (tI G W call it) (gT G tg) (tCond G WF call cond) (tE G WF call elt) own σ H Q := by
  obtain ⟨η, env, s, av, ab, p⟩ := q
  simp only [evE] at p
  refine ⟨η, env, s, av, ab, (Post.bind (Rl := fun H' η' src J => RSrc G H' η' src J) p).mono fun J H1 ⟨η1, src, s1, st1, ab1, rs, p1⟩ => fun Dl hD => ?_⟩
  have av1 := av.mono st1
  have hn1 := ab1.fresh hD
  generalize hf : (fun (x : D) (s : S) => match asgT tg x (wipeE env own) with
      | none => (R.stuck : R (Option D))
      | some env2 => (evCond G.P call cond env2 s).bind fun k s => if k then (evE G.P call elt env2 s).bind fun w s => (match w with
        | .d y => .ok (some y) s
        | .ref _ => .stuck) else .ok none s) = f at p1
  refine ⟨fun i mm H2 => ∃ (η2 : Et) (s2 : S) (acc : List D) (vacc : List V), η2.φ = η1.φ ++ [Dl] ∧ Step0 H1 η1 H2 η2 ∧ (∀ a ∈ η1.φ, H2 a = H1 a) ∧ AbsS G H2 η2 s2 ∧ H2 Dl = some (.lst vacc) ∧ RDs G H2 η2 acc vacc ∧
      Post G (fun c d => W c d σ) (RW G) H1 η1 ((compGo src f mm i s2).calm.bind fun ys s => newL m (acc ++ ys) s) Q, ⟨FUEL, η1.also Dl, s1, [], [], rfl, ⟨Le.also hD, List.prefix_rfl⟩, fun a ha => upd_ne fun z => hn1 (.inr (z ▸ ha)), ab1.also hD, upd_same, .nil, p1⟩, ?_⟩
  rintro i mm H2 ⟨η2, s2, acc, vacc, hφ, st2, kp2, ab2, hDl, racc, p2⟩
  have hDφ : Dl ∈ η2.φ := by rw [hφ]; simp
  cases mm with
  | zero => exact p2.elim
  | succ mm =>
    rw [compGo] at p2
    cases hg : src.get s2 with
    | none => rw [hg] at p2; exact p2.elim
    | some ds =>
      obtain ⟨w1, w2⟩ := rs H2 η2 s2 st2 ab2 ds hg
      rw [hg] at p2
      simp only at p2
      cases hd : ds[i]? with
      | none =>
        refine .inl ⟨w2 i hd, ?_⟩
        rw [hd] at p2
        have p3 : Post G (fun c d => W c d σ) (RW G) H1 η1 (newL m acc s2) Q := by
          have : (acc ++ ([] : List D)) = acc := List.append_nil _
          simp only [R.calm_ok, R.bind_ok, this] at p2
          exact p2
        unfold newL at p3
        have hκ : Dl ∉ η2.κ := ab2.dj Dl hDφ
        have hφ1 : Dl ∉ η1.φ := fun z => hn1 (.inr z)
        split at p3
        · split at p3
          · -- a cell
            have mem : ∀ a, a ∈ (⟨η2.κ ++ [Dl], η1.φ⟩ : Et) ↔ a ∈ η2 := fun a => by
              show (a ∈ η2.κ ++ [Dl] ∨ a ∈ η1.φ) ↔ (a ∈ η2.κ ∨ a ∈ η2.φ)
              rw [hφ, List.mem_append, List.mem_append, List.mem_singleton]
              constructor
              · rintro ((h | h) | h)
                · exact .inl h
                · exact .inr (.inr h)
                · exact .inr (.inl h)
              · rintro (h | h | h)
                · exact .inl (.inl h)
                · exact .inr h
                · exact .inl (.inr h)
            have le : Le H2 η2 H2 ⟨η2.κ ++ [Dl], η1.φ⟩ := fun a o e n => ⟨e, fun z => n ((mem a).mp z)⟩
            refine p3 (.ref Dl) H2 ⟨η2.κ ++ [Dl], η1.φ⟩ ⟨⟨fun a o e n => ⟨(st2.le a o e n).1, fun z => (st2.le a o e n).2 ((mem a).mp z)⟩, st2.pre.trans (List.prefix_append _ _)⟩, rfl, kp2⟩ ⟨by simp [ab2.len], ?_, fun j a c e1 e2 => ?_, fun a ha => ?_, fun a ha hm => ?_⟩ ⟨Dl, by show (η2.κ ++ [Dl])[s2.length]? = _; rw [List.getElem?_append_right (by rw [ab2.len]; exact Nat.le_refl _), ab2.len]; simp, rfl⟩
            · show (η2.κ ++ [Dl]).Nodup
              rw [List.nodup_append]
              exact ⟨ab2.nd, by simp, fun a ha b hb => by rw [List.mem_singleton.mp hb]; exact fun z => hκ (z ▸ ha)⟩
            · have e1 : (η2.κ ++ [Dl])[j]? = some a := e1
              by_cases hj : j < s2.length
              · rw [List.getElem?_append_left (by rw [ab2.len]; exact hj)] at e1
                rw [List.getElem?_append_left hj] at e2
                exact cell_mono (ab2.at' j a c e1 e2) le rfl fun b hb _ => ⟨rfl, fun z => hb ((mem b).mp z)⟩
              · have hj' : j = s2.length := by
                  have := (List.getElem?_eq_some_iff.mp e2).1
                  simp at this; omega
                subst hj'
                rw [List.getElem?_append_right (Nat.le_refl _)] at e2
                rw [List.getElem?_append_right (by rw [ab2.len]; exact Nat.le_refl _), ab2.len] at e1
                simp at e1 e2
                subst e1 e2
                exact ⟨vacc, hDl, racc.mono le⟩
            · exact ab2.fb a (by rw [hφ]; exact List.mem_append_left _ ha)
            · rcases List.mem_append.mp hm with h | h
              · exact ab2.dj a (by rw [hφ]; exact List.mem_append_left _ ha) h
              · exact hφ1 ((List.mem_singleton.mp h) ▸ ha)
          · -- a value
            have sub : ∀ a, a ∈ (⟨η2.κ, η1.φ⟩ : Et) → a ∈ η2 := fun a h => h.elim .inl fun h => .inr (by rw [hφ]; exact List.mem_append_left _ h)
            have le : Le H2 η2 H2 ⟨η2.κ, η1.φ⟩ := fun a o e n => ⟨e, fun z => n (sub a z)⟩
            refine p3 (.ref Dl) H2 ⟨η2.κ, η1.φ⟩ ⟨⟨fun a o e n => ⟨(st2.le a o e n).1, fun z => (st2.le a o e n).2 (sub a z)⟩, st2.pre⟩, rfl, kp2⟩ ⟨ab2.len, ab2.nd, fun j a c e1 e2 => ?_, fun a ha => ?_, fun a ha hm => ?_⟩ ?_
            · exact cell_mono (ab2.at' j a c e1 e2) le rfl fun b hb _ => ⟨rfl, fun z => hb (sub b z)⟩
            · exact ab2.fb a (by rw [hφ]; exact List.mem_append_left _ ha)
            · exact ab2.dj a (by rw [hφ]; exact List.mem_append_left _ ha) hm
            · exact .lst (.inl ⟨.inl hDl, fun z => z.elim hκ hφ1⟩) (racc.mono le)
        · exact p3.elim
      | some d =>
        obtain ⟨go, yl⟩ := w1 i d hd
        refine .inr ⟨go, fun H' => ∃ m', m' < mm + 1 ∧ ∃ (η2 : Et) (s2 : S) (acc : List D) (vacc : List V), η2.φ = η1.φ ++ [Dl] ∧ Step0 H1 η1 H' η2 ∧ (∀ a ∈ η1.φ, H' a = H1 a) ∧ AbsS G H' η2 s2 ∧ H' Dl = some (.lst vacc) ∧ RDs G H' η2 acc vacc ∧
            Post G (fun c d => W c d σ) (RW G) H1 η1 ((compGo src f m' (i + 1) s2).calm.bind fun ys s => newL m (acc ++ ys) s) Q, fun H' h => h, fun x H3 hy => ?_⟩
        obtain ⟨st3, ab3, rd3⟩ := yl x H3 hy
        rw [hd] at p2
        simp only at p2
        have av3 := ((av1.mono0 st2).mono st3).wipe own
        rw [R.calm_bind, R.bind_assoc] at p2
        have he : f d s2 = (match asgT tg d (wipeE env own) with
            | none => (R.stuck : R (Option D))
            | some env2 => (evCond G.P call cond env2 s2).bind fun k s => if k then (evE G.P call elt env2 s).bind fun w s => (match w with
              | .d y => .ok (some y) s
              | .ref _ => .stuck) else .ok none s) := by rw [← hf]
        rw [he] at p2
        cases ht : asgT tg d (wipeE env own) with
        | none => rw [ht] at p2; exact p2.elim
        | some env2 =>
          rw [ht] at p2
          simp only at p2
          refine ⟨η2, wipeE env own, d, env2, av3, rd3, ht, fun σ' av' hw => ⟨(hw own ho).trans (wipe_wipe own own fun i h => h), ?_⟩⟩
          rw [R.calm_bind, R.bind_assoc] at p2
          refine ⟨η2, env2, s2, av', ab3, (Post.anchor (Rm := fun _ _ (a b : Bool) => a = b) p2).mono fun b H4 ⟨η4, k, s4, st4, ab4, ek, p4⟩ => ?_⟩
          subst ek
          have keep : ∀ {H5 : Hp} {η5 : Et}, Step H3 η2 H5 η5 → η5.φ = η1.φ ++ [Dl] ∧ Step0 H1 η1 H5 η5 ∧ (∀ a ∈ η1.φ, H5 a = H1 a) ∧ H5 Dl = some (.lst vacc) := fun {H5 η5} st5 => by
            have hDl3 : H3 Dl = some (.lst vacc) := by rw [st3.kp Dl hDφ]; exact hDl
            refine ⟨st5.phi.trans hφ, (st2.trans st3.toStep0).trans st5.toStep0, fun a ha => ?_, by rw [st5.kp Dl hDφ]; exact hDl3⟩
            have hm : a ∈ η2.φ := by rw [hφ]; exact List.mem_append_left _ ha
            rw [st5.kp a hm, st3.kp a hm, kp2 a ha]
          cases k with
          | false =>
            rw [if_neg (by simp)] at p4 ⊢
            obtain ⟨k1, k2, k3, k4⟩ := keep st4
            refine ⟨mm, Nat.lt_succ_self _, η4, s4, acc, vacc, k1, k2, k3, ab4, k4, (racc.mono st3.le).mono st4.le, ?_⟩
            simp only [R.calm_ok, R.bind_ok, R.calm_bind, R.bind_assoc] at p4
            exact p4
          | true =>
            rw [if_pos rfl] at p4 ⊢
            rw [R.calm_bind, R.bind_assoc] at p4
            refine ⟨η4, env2, s4, av'.mono st4, ab4, (Post.anchor (Rm := RW G) p4).mono fun y H5 ⟨η5, w, s5, st5, ab5, rw5, p5⟩ => ?_⟩
            obtain ⟨k1, k2, k3, k4⟩ := keep (st4.trans st5)
            cases w with
            | ref n => exact p5.elim
            | d z =>
              simp only [R.calm_ok, R.bind_ok, R.calm_bind, R.bind_assoc] at p5
              have p6 : Post G (fun c d => W c d σ) (RW G) H1 η1 ((compGo src f mm (i + 1) s5).calm.bind fun ys s => newL m ((acc ++ [z]) ++ ys) s) Q := by
                have e : ∀ ys : List D, (acc ++ [z]) ++ ys = acc ++ (z :: ys) := fun ys => by simp
                simp only [e]
                exact p5
              have hl := compGo_len p6
              have hra := ((racc.mono st3.le).mono st4.le).mono st5.le
              refine ⟨vacc, k4, ?_, mm, Nat.lt_succ_self _, η5, s5, acc ++ [z], vacc ++ [y], k1, ?_, fun a ha => ?_, ab5.put (by rw [k1]; simp), upd_same, ?_, p6⟩
              · rw [← lim_eq, ← hra.length]
                rw [List.length_append] at hl
                simp at hl
                omega
              · exact ⟨fun a o e n => ⟨by rw [upd_ne (ne_of_none e hD)]; exact (k2.le a o e n).1, (k2.le a o e n).2⟩, k2.pre⟩
              · rw [upd_ne fun z => hn1 (.inr (by rw [← z]; exact ha))]; exact k3 a ha
              · have le : Le H5 η5 (upd H5 Dl (.lst (vacc ++ [y]))) η5 := fun a u e n => ⟨by rw [upd_ne fun z => n (.inr (by rw [k1]; rw [z]; simp))]; exact e, n⟩
                exact (hra.append (.cons rw5 .nil)).mono le
end
end FT

namespace FT
open PySem PySem.Spec PyProof.Rows L2 SlX

section
variable {G : GG} {H H' : Hp} {η η' : Et} {s : S} {X : Cx}
/-- a tracked list is written -/
theorem AbsS.write {n k : Nat} {a : Addr} {xs : List D} {vs : List V} (ab : AbsS G H η s) (ha : η.κ[n]? = Option.some a) (r : RDs G H η xs vs) (hn : n < s.length) : Step H η (upd H a (.lst vs)) η ∧ AbsS G (upd H a (.lst vs)) η (s.set n (.lst k xs)) := by
  have hm : a ∈ η := .inl (List.mem_of_getElem? ha)
  have le : Le H η (upd H a (.lst vs)) η := fun b o e nb => ⟨by rw [upd_ne fun z => nb (by rw [z]; exact hm)]; exact e, nb⟩
  refine ⟨⟨⟨le, List.prefix_rfl⟩, rfl, fun b hb => upd_ne fun z => ab.dj b hb (by rw [z]; exact List.mem_of_getElem? ha)⟩, ⟨by rw [List.length_set]; exact ab.len, ab.nd, fun i b c e1 e2 => ?_, fun b hb => ?_, ab.dj⟩⟩
  · by_cases hi : i = n
    · subst hi
      rw [ha] at e1
      cases e1
      rw [List.getElem?_set_self hn] at e2
      cases e2
      exact ⟨vs, upd_same, r.mono le⟩
    · rw [List.getElem?_set_ne (Ne.symm hi)] at e2
      refine cell_mono (ab.at' i b c e1 e2) le (upd_ne fun z => hi ?_) fun x hx _ => ⟨upd_ne fun z => hx (by rw [z]; exact hm), hx⟩
      subst z
      exact ((List.getElem?_inj (by
        have := (List.getElem?_eq_some_iff.mp e1).1
        exact this) ab.nd).mp (e1.trans ha.symm))
  · by_cases z : b = a
    · rw [z]; exact ⟨_, upd_same⟩
    · obtain ⟨o, e⟩ := ab.fb b hb
      exact ⟨o, by rw [upd_ne z]; exact e⟩
theorem RDs.atI {ds : List D} {vs : List V} {i : Int} {d : D} (r : RDs G H η ds vs) (e : L2.atI ds i = some d) : ∃ v, L2.atI vs i = some v ∧ RD G H η d v := by
  unfold L2.atI at e ⊢
  rw [← r.length]
  cases h : L2.ixN ds.length i with
  | none => rw [h] at e; cases e
  | some j => rw [h] at e; exact r.get e
def rIxG (G : GG) : R2 := fun x y H Q => ∃ η s w z d, AbsS G H η s ∧ RW G H η w x ∧ RW G H η z y ∧ index w z s = some d ∧ ∀ v, RD G H η d v → Q v H
theorem chr_ok {x : Str} {c : Nat} (h : PyData.strOk x = true) (hc : c ∈ x.cps.toList) : PyData.strOk ⟨#[c]⟩ = true := strOk_iff.mpr fun c' hm => by
  have : c' = c := by simpa using hm
  subst this
  exact strOk_iff.mp h _ hc
theorem atI_mem {α : Type} {xs : List α} {i : Int} {v : α} (h : L2.atI xs i = some v) : v ∈ xs := by
  obtain ⟨j, _, e, _⟩ := L2.atI_get h
  exact List.mem_of_getElem? e
theorem ix_g (hK : X.K = G.K) : IxR X (rIxG G) := by
  intro value slice pins sh σ H x y v u Q I rx ry q hs
  obtain ⟨η, s, w, z, d, ab, rw, rz, e, k⟩ := q
  refine ix_seq value slice pins sh σ H x y v u Q I rx ry ?_ hs
  rw [hK]
  unfold index at e
  split at e
  · rename_i i
    have rz : RD G H η (.int i) y := rz
    cases rz
    split at e
    · rename_i xs hv
      cases w with
      | d w =>
        cases hv
        have rw : RD G H η (.lst xs) x := rw
        cases rw with
        | lst h r =>
          obtain ⟨v, e1, r1⟩ := r.atI e
          exact .inl ⟨_, _, _, v, rfl, rfl, h.seq, e1, k v r1⟩
      | ref n =>
        obtain ⟨p, hp, rfl⟩ := rw
        obtain ⟨ys, vs, e0, h1, r⟩ := val_ref ab hp hv
        cases e0
        obtain ⟨v, e1, r1⟩ := r.atI e
        exact .inl ⟨_, _, _, v, rfl, rfl, .of h1, e1, k v r1⟩
    · rename_i xs hv
      cases w with
      | d w =>
        cases hv
        have rw : RD G H η (.tup xs) x := rw
        cases rw with
        | tup h r =>
          obtain ⟨v, e1, r1⟩ := r.atI e
          exact .inr (.inl ⟨_, _, _, v, rfl, rfl, h.seq, e1, k v r1⟩)
      | ref n =>
        obtain ⟨p, hp, rfl⟩ := rw
        obtain ⟨ys, vs, e0, _⟩ := val_ref ab hp hv
        cases e0
    · rename_i xs hv
      split at e
      · rename_i hl
        cases w with
        | d w =>
          cases hv
          have rw : RD G H η (.str xs) x := rw
          cases rw with
          | str _ hx =>
            cases hc : L2.atI xs.cps.toList i with
            | none => rw [hc] at e; cases e
            | some c =>
              rw [hc] at e; cases e
              exact .inr (.inr ⟨_, _, c, rfl, rfl, by rw [← lim_eq]; exact hl, hc, k _ (.str _ (chr_ok hx (atI_mem hc)))⟩)
        | ref n =>
          obtain ⟨p, hp, rfl⟩ := rw
          obtain ⟨ys, vs, e0, _⟩ := val_ref ab hp hv
          cases e0
      · cases e
    · cases e
  · cases e
theorem RDs.cut {ds : List D} {vs : List V} (r : RDs G H η ds vs) (lo hi : Option Int) : RDs G H η (cut ds lo hi) (L2.cutV vs lo hi) := by
  unfold FT.cut L2.cutV
  rw [r.length]
  exact (r.drop _).take _
def rSlG (G : GG) : V → Option Int → Option Int → Hp → VK → Prop := fun x lo hi H Q => ∃ η s w z d, AbsS G H η s ∧ RW G H η w x ∧ val w s = some z ∧ cutD z lo hi = some d ∧ ∀ v H' η', Step H η H' η' → AbsS G H' η' s → RD G H' η' d v → Q v H'
theorem cut_sub {α : Type} {xs : List α} {lo hi : Option Int} {x : α} (h : x ∈ cut xs lo hi) : x ∈ xs := List.mem_of_mem_drop (List.mem_of_mem_take h)
theorem sl_g (hK : X.K = G.K) : SlR X (rSlG G) := by
  intro pins sh σ H x v vl vu lo hi sl Q I rx hs pl pu q
  obtain ⟨η, s, w, z, d, ab, rw, hv, e, k⟩ := q
  unfold cutD at e
  split at e
  · rename_i xs
    cases e
    have lc : ∀ {p : Addr} {vs : List V}, x = .ref p → SqL G.K H p vs → RDs G H η xs vs → rSlL X.K x lo hi H Q := fun ex h1 h2 => by
      refine ⟨_, _, ex, hK ▸ h1, fun q hq => ?_⟩
      obtain ⟨st, ab2, rd⟩ := new_lst ab hq (h2.cut lo hi)
      exact k _ _ _ st ab2 rd
    refine sl_list pins sh σ H x v vl vu lo hi sl Q I rx hs pl pu ?_
    cases w with
    | d w =>
      cases hv
      have rw : RD G H η (.lst xs) x := rw
      cases rw with
      | lst h r => exact lc rfl h.seq r
    | ref n =>
      obtain ⟨p, hp, ex⟩ := rw
      obtain ⟨ys, vs, e0, h1, r⟩ := val_ref ab hp hv
      cases e0
      exact lc ex (.of h1) r
  · rename_i xs
    cases e
    cases w with
    | ref n =>
      obtain ⟨p, hp, ex⟩ := rw
      obtain ⟨ys, vs, e0, _⟩ := val_ref ab hp hv
      cases e0
    | d w =>
      cases hv
      have rw : RD G H η (.tup xs) x := rw
      cases rw with
      | tup h r =>
        refine sl_tupA pins sh σ H _ v vl vu lo hi sl Q I rx hs pl pu ⟨_, _, rfl, hK ▸ h.seq, fun hw => ?_, fun hw q hq => ?_⟩
        · refine k _ _ _ (Step.refl _ _) ab (.tup h ?_)
          have : cut xs lo hi = xs := by
            unfold FT.cut
            rw [r.length, hw.1, hw.2, List.drop_zero, Nat.sub_zero, ← r.length, List.take_length]
          rw [this]; exact r
        · obtain ⟨st, ab2, rd⟩ := new_tup ab hq (r.cut lo hi)
          exact k _ _ _ st ab2 rd
  · rename_i xs
    split at e
    · rename_i hl
      cases e
      cases w with
      | ref n =>
        obtain ⟨p, hp, ex⟩ := rw
        obtain ⟨ys, vs, e0, _⟩ := val_ref ab hp hv
        cases e0
      | d w =>
        cases hv
        have rw : RD G H η (.str xs) x := rw
        cases rw with
        | str _ hx =>
          refine sl_str pins sh σ H _ v vl vu lo hi sl Q I rx hs pl pu ⟨_, rfl, by rw [← lim_eq]; exact hl, ?_⟩
          have : cutS xs lo hi = ⟨(cut xs.cps.toList lo hi).toArray⟩ := by
            unfold cutS FT.cut
            rw [Array.length_toList]
            rfl
          rw [this]
          exact k _ _ _ (Step.refl _ _) ab (.str _ (strOk_iff.mpr fun c hc => strOk_iff.mp hx _ (cut_sub (by simpa using hc))))
    · cases e
  · cases e

def mtT : Nat → String
  | 3 | 4 => "str"
  | _ => "list"
def mtId : Nat → String
  | 0 => "list.append" | 2 => "list.pop" | 3 => "str.join" | _ => "str.split"
def rMt (G : GG) (m : Nat) : V → List V → Hp → VK → Prop := fun x xs H Q => ∃ η s w ws d s', AbsS G H η s ∧ RW G H η w x ∧ RWs G H η ws xs ∧ method m w ws s = some (d, s') ∧ ∀ v H' η', Step H η H' η' → AbsS G H' η' s' → RD G H' η' d v → Q v H'
theorem RDs.strL : ∀ {ds : List D} {vs : List V} {ys : List Str}, RDs G H η ds vs → strL ds = some ys → vs = ys.map V.str ∧ ∀ y ∈ ys, PyData.strOk y = true
  | [], _, _, .nil, e => by cases e; exact ⟨rfl, fun _ h => by cases h⟩
  | d :: ds, _, _, .cons h r, e => by
    cases d with
    | str y =>
      simp only [FT.strL] at e
      cases q : FT.strL ds with
      | none => rw [q] at e; cases e
      | some ys =>
        rw [q] at e
        cases e
        obtain ⟨e1, e2⟩ := RDs.strL r q
        cases h with
        | str _ hy => exact ⟨by rw [e1]; rfl, fun z hz => (List.mem_cons.mp hz).elim (fun q => q ▸ hy) (e2 z)⟩
    | _ => cases e
theorem joinLen_eq (a : Str) : ∀ ys : List Str, joinLen a ys = (ys.map (·.length)).sum + ys.length * a.length
  | [] => by simp [joinLen]
  | y :: ys => by
    rw [joinLen, joinLen_eq a ys, List.map_cons, List.sum_cons, List.length_cons, Nat.succ_mul]
    omega
theorem join_ok {a : Str} (ha : PyData.strOk a = true) : ∀ {ys : List Str}, (∀ y ∈ ys, PyData.strOk y = true) → PyData.strOk (Str.join a ys) = true
  | [], _ => strOk_iff.mpr fun c hc => by cases hc
  | [y], h => h y List.mem_cons_self
  | y :: z :: ys, h => by
    have q := join_ok ha (ys := z :: ys) fun x hx => h x (List.mem_cons_of_mem _ hx)
    refine strOk_iff.mpr fun c hc => ?_
    have hc : c ∈ TL.tl ((y ++ a) ++ Str.join a (z :: ys)) := hc
    rw [TL.tl_append, TL.tl_append] at hc
    rcases List.mem_append.mp hc with hc | hc
    · rcases List.mem_append.mp hc with hc | hc
      · exact strOk_iff.mp (h y List.mem_cons_self) _ hc
      · exact strOk_iff.mp ha _ hc
    · exact strOk_iff.mp q _ hc
theorem spl_sub (sep : List Nat) : ∀ (skip : Nat) (cur w : List Nat) (z : List Nat), z ∈ TL.spl sep skip cur w → ∀ c ∈ z, c ∈ cur ∨ c ∈ w
  | 0, cur, [], z, h, c, hc => by
    simp only [TL.spl, List.mem_singleton] at h
    exact .inl (h ▸ hc)
  | k + 1, cur, [], z, h, c, hc => by
    simp only [TL.spl, List.mem_singleton] at h
    exact .inl (h ▸ hc)
  | 0, cur, d :: r, z, h, c, hc => by
    simp only [TL.spl] at h
    split at h
    · rcases List.mem_cons.mp h with e | e
      · exact .inl (e ▸ hc)
      · rcases spl_sub sep _ _ _ _ e c hc with q | q
        · cases q
        · exact .inr (List.mem_cons_of_mem _ q)
    · rcases spl_sub sep _ _ _ _ h c hc with q | q
      · rcases List.mem_append.mp q with q | q
        · exact .inl q
        · exact .inr (List.mem_singleton.mp q ▸ List.mem_cons_self)
      · exact .inr (List.mem_cons_of_mem _ q)
  | k + 1, cur, d :: r, z, h, c, hc => by
    simp only [TL.spl] at h
    exact (spl_sub sep k cur r z h c hc).imp id (List.mem_cons_of_mem _)
theorem mt_g (hK : X.K = G.K) (m : Nat) (hm : mtOk m = true) : MtR X (mtId m) (rMt G m) := by
  intro pins sh σ H x xs v us Q I rx rxs h
  obtain ⟨η, s, w, ws, d, s', ab, rw, rws, e, k⟩ := h
  unfold method at e
  split at e
  · -- append
    rename_i n z
    split at e
    · rename_i ys hc
      split at e
      · rename_i hl
        cases e
        obtain ⟨a, ha, rfl⟩ := rw
        obtain ⟨vs, h1, h2⟩ := ab.at' n a _ ha hc
        obtain ⟨y, rfl, ry⟩ := rws.one
        have ry : RD G H η z y := ry
        obtain ⟨st, ab2⟩ := ab.write (k := 0) ha (h2.append (.cons ry .nil)) (List.getElem?_eq_some_iff.mp hc).1
        exact mt_append pins sh σ H _ _ v us Q I rx rxs ⟨_, vs, y, rfl, rfl, h1, by rw [← h2.length, ← lim_eq]; exact hl, k _ _ _ st ab2 .non⟩
      · cases e
    · cases e
  · -- pop
    rename_i n
    split at e
    · rename_i ys hc
      split at e
      · rename_i y hy
        cases e
        obtain ⟨a, ha, rfl⟩ := rw
        obtain ⟨vs, h1, h2⟩ := ab.at' n a _ ha hc
        cases rws
        obtain ⟨st, ab2⟩ := ab.write (k := 0) ha h2.dropLast (List.getElem?_eq_some_iff.mp hc).1
        rw [List.getLast?_eq_getElem?] at hy
        obtain ⟨u, hu, ru⟩ := h2.get hy
        rw [h2.length] at hu
        exact mt_pop pins sh σ H _ _ v us Q I rx rxs ⟨_, vs, u, rfl, rfl, h1, hu, k _ _ _ st ab2 (ru.mono st.le)⟩
      · cases e
    · cases e
  · -- pop(i)
    rename_i n i
    split at e
    · rename_i ys hc
      split at e
      · rename_i hi
        split at e
        · rename_i j hj
          split at e
          · rename_i y hy
            cases e
            obtain ⟨a, ha, rfl⟩ := rw
            obtain ⟨vs, h1, h2⟩ := ab.at' n a _ ha hc
            obtain ⟨z, rfl, rz⟩ := rws.one
            have rz : RD G H η (.int i) z := rz
            cases rz
            obtain ⟨st, ab2⟩ := ab.write (k := 0) ha (h2.eraseIdx j) (List.getElem?_eq_some_iff.mp hc).1
            obtain ⟨u, hu, ru⟩ := h2.get hy
            obtain ⟨q1, _⟩ := L2.ixN_seq hj
            exact mt_popAt pins sh σ H _ _ v us Q I rx rxs ⟨_, vs, i, j, u, rfl, rfl, h1, hi.1, hi.2, by rw [← h2.length]; exact q1, hu, k _ _ _ st ab2 (ru.mono st.le)⟩
          · cases e
        · cases e
      · cases e
    · cases e
  · -- join
    rename_i a z
    split at e
    · rename_i ys hys
      split at e
      · rename_i hl
        cases e
        have rw : RD G H η (.str a) x := rw
        cases rw with
        | str _ ha =>
          obtain ⟨u, rfl, ru⟩ := rws.one
          cases hq : seqOf z s with
          | none => rw [hq] at hys; cases hys
          | some ds =>
            rw [hq] at hys
            obtain ⟨p, vs, rfl, hp, hr⟩ := ru.seq ab hq
            obtain ⟨e1, e2⟩ := hr.strL hys
            subst e1
            refine mt_join pins sh σ H _ _ v us Q I rx rxs ⟨a, p, ys, rfl, rfl, hK ▸ hp, ?_, ?_⟩
            · rw [← joinLen_eq]; exact hl
            · rw [TL.join_eq]
              exact k _ _ _ (Step.refl _ _) ab (.str _ (join_ok ha e2))
      · cases e
    · cases e
  · -- split
    rename_i a b
    split at e
    · rename_i hl
      cases e
      have rw : RD G H η (.str a) x := rw
      cases rw with
      | str _ ha =>
        obtain ⟨u, rfl, ru⟩ := rws.one
        have ru : RD G H η (.str b) u := ru
        cases ru with
        | str _ hb =>
          obtain ⟨l1, l2, l3⟩ := hl
          refine mt_split pins sh σ H _ _ v us Q I rx rxs ⟨a, b, rfl, rfl, by simpa using l1, by rw [← lim_eq]; exact l2, fun p hp => ?_⟩
          have hk : b.cps.all (· < 256) = true := by
            rw [← Array.all_toList]; exact l3
          have hne : TL.tl b ≠ [] := fun z => l1 (by
            have : b.cps.toList = [] := z
            show b.cps.size = 0
            rw [← Array.length_toList, this]; rfl)
          have e1 := TL.split_spl a b hne (TL.kind_ok (x := a) hk)
          have e2 : (TL.spl b.cps.toList 0 [] a.cps.toList).map (fun z => D.str ⟨z.toArray⟩) = (Txt.split a b).map D.str := by
            have : TL.spl b.cps.toList 0 [] a.cps.toList = (Txt.split a b).map TL.tl := e1.symm
            rw [this, List.map_map]
            rfl
          rw [e2] at k
          have rs : ∀ zs : List Str, (∀ z ∈ zs, PyData.strOk z = true) → RDs G H η (zs.map D.str) (zs.map V.str) := fun zs => by
            induction zs with
            | nil => exact fun _ => .nil
            | cons z zs ih => exact fun h => .cons (.str _ (h z List.mem_cons_self)) (ih fun y hy => h y (List.mem_cons_of_mem _ hy))
          have all : ∀ z ∈ Txt.split a b, PyData.strOk z = true := fun z hz => strOk_iff.mpr fun c hc => by
            have hz' : TL.tl z ∈ TL.spl b.cps.toList 0 [] a.cps.toList := by
              have : TL.spl b.cps.toList 0 [] a.cps.toList = (Txt.split a b).map TL.tl := e1.symm
              rw [this]; exact List.mem_map_of_mem hz
            have q := spl_sub _ _ _ _ _ hz' c hc
            exact strOk_iff.mp ha _ (q.resolve_left fun z => by cases z)
          obtain ⟨st, ab2, rd⟩ := new_lst ab hp (rs (Txt.split a b) all)
          exact k _ _ _ st ab2 rd
    · cases e
  · cases e
theorem ty_recv {m : Nat} {w : W} {x : V} (hK : X.K = G.K) (ab : AbsS G H η s) (r : RW G H η w x) (h : recvOk m w s = true) : tyV X.K (mtT m) x H := by
  unfold recvOk at h
  split at h
  · rename_i n
    rw [Bool.and_eq_true] at h
    obtain ⟨h0, h1⟩ := h
    split at h1
    · rename_i k xs hc
      obtain ⟨a, ha, rfl⟩ := r
      obtain ⟨vs, g1, _⟩ := ab.at' n a _ ha hc
      refine .inl ⟨?_, vs, .of g1⟩
      have : m = 0 ∨ m = 2 := by simpa using h0
      rcases this with e | e <;> subst e <;> rfl
    · cases h1
  · rename_i y
    have r : RD G H η (.str y) x := r
    cases r
    have : m = 3 ∨ m = 4 := by simpa using h
    rcases this with e | e <;> subst e <;> rfl
  · cases h
theorem mt_pa (m : Nat) : PlainAttrs (mtT m) := by
  unfold mtT
  split
  · exact F.plainAttrs_str
  · exact F.plainAttrs_str
  · exact F.plainAttrs_list
theorem mt_slot : ∀ m, mtOk m = true → Slot (mtT m) (mtName m) (mtId m) ∧ typeOf (.builtin (mtId m)) = pure (.type "method_descriptor")
  | 0, _ => ⟨F.slot_list_append, F.type_list_append⟩
  | 2, _ => ⟨F.slot_list_pop, F.type_list_pop⟩
  | 3, _ => ⟨F.slot_str_join, F.type_str_join⟩
  | 4, _ => ⟨F.slot_str_split, F.type_str_split⟩
  | 1, h => by simp [mtOk] at h
  | m + 5, h => by simp [mtOk] at h
end
end FT

namespace FT
open PySem PySem.Spec PyProof.Rows L2 SlX

section
variable {G : GG} {M : Nm} {H H' : Hp} {η η' : Et} {s : S} {X : Cx}
theorem exo_at {a C d : Addr} {fs : List (Str × V)} {pins : List (Addr × Obj)} {σ : L2.St} {sh : Shared} (I : Inv X pins σ H sh) (h1 : H a = some (ExO a C d)) (h2 : H d = some (.xd fs)) :
    ∃ oe od, PySem.W.InstAt sh.heap a oe C (some od) ∧ ∃ mA : Str → Option Value, (∀ n, PySem.W.lookIn n od = some (mA n)) ∧ ∀ n, RelO (fs.lookup n) (mA n) := by
  obtain ⟨⟨oe, vs, g1, g2, g3, g4⟩, _⟩ := (show ObjOk X.prog X.w H sh.heap a (ExO a C d) from I.hok a _ h1)
  have hx : ObjOk X.prog X.w H sh.heap d (.xd fs) := I.hok d _ h2
  obtain ⟨mA, hns, hr⟩ := hx
  obtain ⟨od, ho, hl⟩ := lookIn_ns hns
  exact ⟨oe, od, ⟨g1, g2, by unfold PySem.W.notCls; rw [g4] <;> rfl, by rw [g3]; exact ho⟩, mA, hl, hr⟩
theorem excC_cls {K : PySem.W.Frag} {A : Addr} (h : ExcC K A) : (PySem.W.clsIn K A).isSome = true := by
  obtain ⟨cd, hc, _⟩ := PySem.W.any_some h.hd
  rw [hc]; rfl
def isT (T : String) (i : Nat) : Bool := T == tyStr i || (T == "bool" && i == 0)
theorem kb_tab : (tyKinds.all fun T => (List.range 7).all fun i => kitB T (tyStr i) == some (isT T i)) = true := by decide +kernel
theorem kb_ty {T : String} {i : Nat} (hT : T ∈ tyKinds) (hi : i ≤ 6) : kitB T (tyStr i) = some (isT T i) := by
  have h := List.all_eq_true.mp (List.all_eq_true.mp kb_tab T hT) i (List.mem_range.mpr (by omega))
  exact beq_iff_eq.mp h
theorem six {Q : Nat → Prop} (h0 : Q 0) (h1 : Q 1) (h2 : Q 2) (h3 : Q 3) (h4 : Q 4) (h5 : Q 5) (h6 : Q 6) : ∀ i, i ≤ 6 → Q i := fun i hi => by
    match i, hi with
    | 0, _ => exact h0
    | 1, _ => exact h1
    | 2, _ => exact h2
    | 3, _ => exact h3
    | 4, _ => exact h4
    | 5, _ => exact h5
    | 6, _ => exact h6
    | i + 7, h => omega
/-- what isinstance asks of a value -/
def KitA (G : GG) (w : W) (s : S) (t : Value) : Prop := (∃ c C A, classOf w s = some c ∧ G.P.cls c = some C ∧ (C.isExc == isExcW w) = true ∧ G.clsA c = some A ∧ t = .ref A) ∨ (classOf w s = none ∧ ∃ T d, T ∈ tyKinds ∧ val w s = some d ∧ t = .type T ∧ ∀ i, i ≤ 6 → isT T i = isBlt i d)
theorem kitW {w : W} {x : V} {u : Value} {pins : List (Addr × Obj)} {σ : L2.St} {sh : Shared} {tys : List (Bool × Nat)} (T : KT G M) (hK : X.K = G.K) (I : Inv X pins σ H sh) (rx : RelV x u) (ab : AbsS G H η s) (r : RW G H η w x)
    (hv : classOf w s ≠ none ∨ val w s ≠ none) (hp : ∀ c, classOf w s = some c → ∃ C, G.P.cls c = some C ∧ (C.isExc == isExcW w) = true) :
    ∃ t P, PySem.W.KitX X.K u t P ∧ P sh.heap ∧ u ≠ .builtin "__main__.__loader__#opaque" ∧ KitA G w s t := by
  have kb : ∀ {t : Value} {d : D} {Tn : String}, TyX X.K H x t → t = .type Tn → Tn ∈ tyKinds → classOf w s = none → val w s = some d → (∀ i, i ≤ 6 → isT Tn i = isBlt i d) → ∃ t P, PySem.W.KitX X.K u t P ∧ P sh.heap ∧ u ≠ .builtin "__main__.__loader__#opaque" ∧ KitA G w s t := fun {t d Tn} ty et ht hn hd hb => by
    obtain ⟨P, Z, p, hne⟩ := kit_of I rx ty
    exact ⟨t, P, Z, p, hne, .inr ⟨hn, Tn, d, ht, hd, et, hb⟩⟩
  cases w with
  | ref n =>
    obtain ⟨a, ha, rfl⟩ := r
    cases hc : s[n]? with
    | none => simp [classOf, val, hc] at hv
    | some cl =>
      cases cl with
      | lst k xs =>
        obtain ⟨vs, h1, h2⟩ := ab.at' n a _ ha hc
        exact kb (.base (.lst h1)) rfl (by decide) (by simp [classOf, hc]) (d := .lst xs) (by simp [val, hc]) (six rfl rfl rfl rfl rfl rfl rfl)
      | dic k ks vs => exact (ab.at' n a _ ha hc).elim
      | ins c fs =>
        have hco : classOf (.ref n) s = some c := by simp [classOf, hc]
        obtain ⟨C, dx, vs, e1, sl, n1, n2, _, _⟩ := ab.at' n a _ ha hc
        obtain ⟨Cl, hCl, hE⟩ := hp c hco
        cases (show u = Value.ref a from rx)
        obtain ⟨_, od, _, J, _⟩ := slt_inst I sl
        have he : Cl.isExc = false := by simpa [isExcW] using hE
        obtain ⟨q1, q2⟩ := T.ins c Cl C hCl he e1
        rw [← hK] at q1 q2
        exact ⟨_, _, OwX.kitx_slt q1.ic (q1.get _) q2.ca q2.cn q2.ct q2.cm, J, (fun z => nomatch z), .inl ⟨c, Cl, C, hco, hCl, hE, e1, rfl⟩⟩
  | d z =>
    have r : RD G H η z x := r
    cases r with
    | non => exact kb (.base .non) rfl (by decide) rfl rfl (six rfl rfl rfl rfl rfl rfl rfl)
    | bl b => exact kb (.base (.bl b)) rfl (by decide) rfl rfl (six rfl rfl rfl rfl rfl rfl rfl)
    | int i => exact kb (.base (.int i)) rfl (by decide) rfl rfl (six rfl rfl rfl rfl rfl rfl rfl)
    | str y hy => exact kb (.base (.str y)) rfl (by decide) rfl rfl (six rfl rfl rfl rfl rfl rfl rfl)
    | tup h q =>
      rcases h with ⟨h | ⟨o, h⟩, hn⟩ | h
      · exact kb (.base (.tup h)) rfl (by decide) rfl rfl (six rfl rfl rfl rfl rfl rfl rfl)
      · exact kb (.fTuple h) rfl (by decide) rfl rfl (six rfl rfl rfl rfl rfl rfl rfl)
      · obtain ⟨o, its, m, h1, h2, h3, h4, h5⟩ := h
        exact kb (.kTuple (hK ▸ h1) h2) rfl (by decide) rfl rfl (six rfl rfl rfl rfl rfl rfl rfl)
    | lst h q =>
      rcases h with ⟨h | ⟨o, h⟩, hn⟩ | h
      · exact kb (.base (.lst h)) rfl (by decide) rfl rfl (six rfl rfl rfl rfl rfl rfl rfl)
      · exact kb (.base (.frz h)) rfl (by decide) rfl rfl (six rfl rfl rfl rfl rfl rfl rfl)
      · obtain ⟨o, its, m, h1, h2, h3, h4, h5, h6⟩ := h
        exact kb (.kList (hK ▸ h1) h2) rfl (by decide) rfl rfl (six rfl rfl rfl rfl rfl rfl rfl)
    | exc e1 e2 e3 e4 e5 e6 e7 =>
      rename_i c C a d vs ds
      obtain ⟨Cl, hCl, hE⟩ := hp c rfl
      cases (show u = Value.ref a from rx)
      have he : Cl.isExc = true := by simpa [isExcW] using hE
      have q := T.exc c Cl C hCl he e1
      rw [← hK] at q
      obtain ⟨oe, od, J, _⟩ := exo_at I e2 e4
      exact ⟨_, _, PySem.W.kitx_exc (excC_cls q) q.hg q.hk q.hs q.ha q.hn q.ht q.hm, J, (fun z => nomatch z), .inl ⟨c, Cl, C, rfl, hCl, hE, e1, rfl⟩⟩
    | ins e1 e2 e3 e4 e5 e6 =>
      rename_i c C a dx vs ds
      obtain ⟨Cl, hCl, hE⟩ := hp c rfl
      cases (show u = Value.ref a from rx)
      have he : Cl.isExc = false := by simpa [isExcW] using hE
      obtain ⟨_, od, _, J, _⟩ := slt_inst I (.inr ⟨e2, e4⟩)
      obtain ⟨q1, q2⟩ := T.ins c Cl C hCl he e1
      rw [← hK] at q1 q2
      exact ⟨_, _, OwX.kitx_slt q1.ic (q1.get _) q2.ca q2.cn q2.ct q2.cm, J, (fun z => nomatch z), .inl ⟨c, Cl, C, rfl, hCl, hE, e1, rfl⟩⟩
/-- a class in isinstance -/
inductive TyV (G : GG) : Bool × Nat → V → Value → Prop
  | own {c : Nat} {A : Addr} : G.clsA c = some A → TyV G (true, c) (.ref A) (.ref A)
  | blt {t : Nat} : t ≤ 6 → TyV G (false, t) (.ty (tyStr t)) (.type (tyStr t))
inductive TyVs (G : GG) : List (Bool × Nat) → List V → List Value → Prop
  | nil : TyVs G [] [] []
  | cons {t : Bool × Nat} {ts : List (Bool × Nat)} {v : V} {vs : List V} {u : Value} {us : List Value} : TyV G t v u → TyVs G ts vs us → TyVs G (t :: ts) (v :: vs) (u :: us)
theorem TyV.cls {t : Bool × Nat} {v : V} {u : Value} (h : TyV G t v u) : ClsV v u := by
  cases h with
  | own => exact .own _
  | blt => exact .ty _
theorem TyVs.cls : ∀ {ts : List (Bool × Nat)} {vs : List V} {us : List Value}, TyVs G ts vs us → Paired ClsV vs us
  | _, _, _, .nil => .nil
  | _, _, _, .cons h r => .cons h.cls r.cls
theorem one_ok {w : W} {t u : Value} {ty : Bool × Nat} {v : V} {b : Bool} (T : KT G M) (ka : KitA G w s t) (h : TyV G ty v u) (e : isOne G.P w ty s = some b) : PySem.W.kitOne G.K t u = some b := by
  unfold isOne at e
  rcases ka with ⟨c, C, A, h1, h2, h3, h4, rfl⟩ | ⟨h1, Tn, d, h2, h3, rfl, h5⟩
  · rw [h1] at e
    simp only [h2, h3, if_true] at e
    cases h with
    | own hc => rw [if_pos rfl] at e; cases e; exact T.oneC c C A _ _ h2 h4 hc
    | blt hc => rw [if_neg (by simp)] at e; cases e; exact T.oneE c C A _ h2 h4 hc
  · rw [h1] at e
    simp only [h3] at e
    cases h with
    | own hc => cases e; exact T.oneB Tn h2 _ _ hc
    | blt hc =>
      cases e
      rw [kit_ty (kb_ty h2 hc), h5 _ hc]
      rfl
theorem any_ok {w : W} {t : Value} (T : KT G M) (ka : KitA G w s t) : ∀ {ts : List (Bool × Nat)} {vs : List V} {us : List Value} {b : Bool}, TyVs G ts vs us → isAny G.P w s ts = some b → PySem.W.kitAny G.K t us = some b
  | _, _, _, b, .nil, e => by cases e; rfl
  | _, _, _, b, .cons h r, e => by
    simp only [isAny] at e
    split at e
    · rename_i b1 b2 h1 h2
      cases e
      exact kitAny_cons (one_ok T ka h h1) (fun z => by rw [any_ok T ka r h2, z]; rfl) (fun z => by rw [z]; rfl)
    · cases e
theorem isOne_dom {w : W} {t : Bool × Nat} {b : Bool} (e : isOne G.P w t s = some b) : (classOf w s ≠ none ∨ val w s ≠ none) ∧ ∀ c, classOf w s = some c → ∃ C, G.P.cls c = some C ∧ (C.isExc == isExcW w) = true := by
  unfold isOne at e
  split at e
  · rename_i c hc
    split at e
    · rename_i C hC
      split at e
      · rename_i hE
        exact ⟨.inl (by rw [hc]; simp), fun c' h => by rw [hc] at h; cases h; exact ⟨C, hC, hE⟩⟩
      · cases e
    · cases e
  · rename_i hc
    split at e
    · rename_i d hd
      exact ⟨.inr (by rw [hd]; simp), fun c' h => by rw [hc] at h; cases h⟩
    · cases e
/-- isinstance(x, c), isinstance(x, (c, ..)) -/
def rIsG (G : GG) (tys : List (Bool × Nat)) : List V → Hp → VK → Prop := fun xs H Q => ∃ η s w x c b, xs = [x, c] ∧ AbsS G H η s ∧ RW G H η w x ∧ isAny G.P w s tys = some b ∧ Q (.bl b) H ∧
  ((∃ t u, tys = [t] ∧ TyV G t c u) ∨ (tys ≠ [] ∧ ∃ tp cs us, c = .ref tp ∧ H tp = some (.tup cs) ∧ TyVs G tys cs us))
theorem isi_g (T : KT G M) (hK : X.K = G.K) (tys : List (Bool × Nat)) : CallR X (.builtin "isinstance") (rIsG G tys) := by
  intro pins sh σ H xs us Q I r h
  obtain ⟨η, s, w, x, c, b, rfl, ab, rw, e, q, h⟩ := h
  obtain ⟨u1, u2, rfl, r1, r2⟩ := vals2 r
  have dom : (classOf w s ≠ none ∨ val w s ≠ none) ∧ ∀ c, classOf w s = some c → ∃ C, G.P.cls c = some C ∧ (C.isExc == isExcW w) = true := by
    cases tys with
    | nil =>
      rcases h with ⟨t, u, ht, _⟩ | ⟨h, _⟩
      · cases ht
      · exact absurd rfl h
    | cons t ts =>
      simp only [isAny] at e
      split at e
      · rename_i h1 h2; exact isOne_dom h1
      · cases e
  obtain ⟨t, P, Z, p, hne, ka⟩ := kitW (tys := tys) T hK I r1 ab rw dom.1 dom.2
  rcases h with ⟨ty, u, rfl, hty⟩ | ⟨_, tp, cs, ws, rfl, hT, hty⟩
  · have e2 := hty.cls.eq r2
    subst e2
    simp only [isAny] at e
    split at e
    · rename_i b1 b2 h1 h2
      cases e
      cases h2
      rw [Bool.or_false] at q
      exact PySem.W.kia_one Z I.kIn p (by rw [hK]; exact one_ok T ka hty h1) hne fun tk => ⟨.bl b1, H, I.tok tk, rfl, q⟩
    · cases e
  · cases (show u2 = Value.ref tp from r2)
    obtain ⟨_, its, rv, o, h1, h2, n, h3⟩ := (show ObjOk X.prog X.w H sh.heap tp (.tup cs) from I.hok tp _ hT)
    have e3 := ClsV.all hty.cls rv
    subst e3
    obtain ⟨oc, od, dt, sl⟩ := o
    simp only at h2 h3
    subst h2 h3
    exact PySem.W.kia_tup Z I.kIn p h1 (by rw [hK]; exact any_ok T ka hty e) hne fun tk => ⟨.bl b, H, I.tok tk, rfl, q⟩
theorem lookup_zip {f : Str} {v : V} : ∀ {fs : List Str} {vs : List V} {i : Nat}, fs.Nodup → fs[i]? = some f → vs[i]? = some v → (fs.zip vs).lookup f = some v
  | [], _, i, _, h, _ => by simp at h
  | g :: fs, [], i, _, _, h => by simp at h
  | g :: fs, y :: vs, 0, _, h1, h2 => by
    simp at h1 h2
    subst h1 h2
    simp [List.lookup]
  | g :: fs, y :: vs, i + 1, nd, h1, h2 => by
    simp only [List.getElem?_cons_succ] at h1 h2
    rw [List.nodup_cons] at nd
    have : f ≠ g := fun z => nd.1 (z ▸ List.mem_of_getElem? h1)
    rw [List.zip_cons_cons, List.lookup_cons]
    have hb : (f == g) = false := by simpa using this
    rw [hb]
    exact lookup_zip nd.2 h1 h2
/-- e.f, a field -/
theorem fld_g {w : W} {x : V} {u : Value} {d : D} {pins : List (Addr × Obj)} {σ : L2.St} {sh : Shared} {Q : VK} {c i f : Nat} {C : Cls} {b : Bool} (T : KT G M) (hK : X.K = G.K) (I : Inv X pins σ H sh) (rx : RelV x u) (ab : AbsS G H η s) (r : RW G H η w x)
    (h1 : classOf w s = some c) (h2 : G.P.cls c = some C) (h3 : C.attr f = some (.fld i)) (hE : (C.isExc == isExcW w) = true) (h4 : fieldAt w i s = some d) (k : ∀ v, RD G H η d v → Q v H) : wpAny (model X.prog X.w) X.A (getAttr u (M.atn f) b) (EP X pins σ Q) X.xe sh := by
  cases w with
  | ref n =>
    obtain ⟨a, ha, rfl⟩ := r
    simp only [classOf] at h1
    split at h1
    · rename_i c' fs hc
      cases h1
      obtain ⟨A, dx, vs, e1, sl, n1, n2, _, hf⟩ := ab.at' n a _ ha hc
      cases (show u = Value.ref a from rx)
      have he : C.isExc = false := by simpa [isExcW] using hE
      obtain ⟨p, hp⟩ := T.fldI c C A f i h2 he e1 h3
      obtain ⟨q1, _⟩ := T.ins c C A h2 he e1
      simp only [fieldAt, hc] at h4
      have h5 : fs[i]? = some (some d) := by
        cases hz : fs[i]? with
        | none => rw [hz] at h4; cases h4
        | some y => rw [hz] at h4; cases h4; rfl
      obtain ⟨v, hv, rv⟩ := hf i d h5
      exact getslot_ok I sl (hK ▸ q1) (hK ▸ hp) hv fun u' s2 I2 ru => ⟨v, H, I2, ru, k v rv⟩
    · cases h1
  | d z =>
    have r : RD G H η z x := r
    cases r with
    | exc e1 e2 e3 e4 e5 e6 e7 =>
      rename_i c' A a dd vs ds
      cases h1
      cases (show u = Value.ref a from rx)
      have he : C.isExc = true := by simpa [isExcW] using hE
      obtain ⟨g1, g2, g3⟩ := T.fldE c C A f i h2 he e1 h3
      have q := T.exc c C A h2 he e1
      obtain ⟨oe, od, J, mA, hl, hr⟩ := exo_at I e2 e4
      obtain ⟨v, hv, rv⟩ := e7.get h4
      obtain ⟨u', hu, ru⟩ := RelO.some_of (v := v) (o := mA (M.atn f)) (by rw [← lookup_zip g2 g1 hv]; exact hr _)
      refine HandSPX.exc_get I.kIn J (hK ▸ q.hg) (hK ▸ q.hk) (hK ▸ q.hs) (PySem.W.findObj_own (hK ▸ q.hd) (hK ▸ g3) rfl (by rw [hl, hu])) (handed_of ru) ⟨v, H, I.tok _, ru, k v rv⟩
    | ins e1 e2 e3 e4 e5 e6 =>
      rename_i c' A a dx vs ds
      cases h1
      cases (show u = Value.ref a from rx)
      have he : C.isExc = false := by simpa [isExcW] using hE
      obtain ⟨p, hp⟩ := T.fldI c C A f i h2 he e1 h3
      obtain ⟨q1, _⟩ := T.ins c C A h2 he e1
      obtain ⟨v, hv, rv⟩ := e6.get h4
      exact getslot_ok I (.inr ⟨e2, e4⟩) (hK ▸ q1) (hK ▸ hp) (by rw [List.getElem?_map, hv]; rfl) fun u' s2 I2 ru => ⟨v, H, I2, ru, k v rv⟩
    | _ => cases h1
theorem slt_of {w : W} {x : V} {c : Nat} {C : Cls} (ab : AbsS G H η s) (r : RW G H η w x) (h1 : classOf w s = some c) (h2 : G.P.cls c = some C) (h3 : C.isExc = false) (hx : ∀ ds, w ≠ .d (.exc c ds)) :
    ∃ a A dx vs, x = .ref a ∧ G.clsA c = some A ∧ Slt H a A dx vs := by
  cases w with
  | ref n =>
    obtain ⟨a, ha, rfl⟩ := r
    simp only [classOf] at h1
    split at h1
    · rename_i c' fs hc
      cases h1
      obtain ⟨A, dx, vs, e1, sl, _⟩ := ab.at' n a _ ha hc
      exact ⟨a, A, dx, vs, rfl, e1, sl⟩
    · cases h1
  | d z =>
    have r : RD G H η z x := r
    cases r with
    | exc e1 e2 e3 e4 e5 e6 e7 => cases h1; exact absurd rfl (hx _)
    | ins e1 e2 e3 e4 e5 e6 => cases h1; exact ⟨_, _, _, _, rfl, e1, .inr ⟨e2, e4⟩⟩
    | _ => cases h1
end
end FT

namespace FT
open PySem PySem.Spec PyProof.Rows L2 SlX

section
variable {G : GG} {M : Nm} {n : Nat} {N : List Str}
theorem bop_tst {r : R FT.W} {W : WH} {H : Hp} {η : Et} {γ δ : Type} {Rm : Hp → Et → γ → δ → Prop} {f : FT.W → S → R γ} {Q : δ → Hp → Prop} (hf : ∀ w s, (∀ k, w ≠ .d (.bl k)) → f w s = .stuck)
    (h : Post G W Rm H η (r.bind f) Q) : Post G W (fun _ _ (a b : Bool) => a = b) H η (r.bind fun w s => R.of (FT.truthy w s) s) (fun k H' => ∃ η' s', Step H η H' η' ∧ AbsS G H' η' s' ∧ Post G W Rm H' η' (f (.d (.bl k)) s') Q) := by
  cases r with
  | err c ds s => exact h
  | stuck => exact h
  | ok w s =>
    have h : Post G W Rm H η (f w s) Q := h
    by_cases hw : ∃ k, w = .d (.bl k)
    · obtain ⟨k, rfl⟩ := hw
      intro b H' η' st ab e
      cases e
      exact ⟨η', s, st, ab, h.step st⟩
    · rw [hf w s fun k z => hw ⟨k, z⟩] at h
      exact h.elim
end

section
variable {G : GG} {M : Nm} {n : Nat} {N : List Str}
theorem ptp {sc : Scope} {W : WX} {X : Cx} {x : Expr} {e : E} {call : CallF} (C : Ctx G M n N sc W X) (h : plainTst x = true) (p : PE X x (tE G W call e)) : PE X x (tE G W call e) ∧ PT X x (tB G W call e) := ⟨p, pt_tst C.K p h⟩
theorem RDs.words {H : Hp} {η : Et} : ∀ {ds : List D} {vs : List V}, RDs G H η ds vs → RWs G H η (ds.map .d) vs
  | _, _, .nil => .nil
  | _, _, .cons h r => .cons h (RDs.words r)
theorem cmpC_own {P : Prog} {call : CallF} (h : ∀ w m s, own P w m s = none) (o : CmpOp) (a b : FT.W) (s : S) : cmpC P call o a b s = R.of ((cmpop o a b s).map fun k => FT.W.d (.bl k)) s := by
  unfold cmpC
  cases o <;> simp only [h]
theorem builtinC_own {P : Prog} {call : CallF} (h : ∀ w m s, own P w m s = none) (f : Nat) (ws : List FT.W) (s : S) : builtinC P call f ws s = R.of ((builtin f ws s).map FT.W.d) s := by
  unfold builtinC
  split
  · simp only [h]
  · rfl
/-- a test of what is always a bool -/
theorem tE_of_tB {W : WX} {call : CallF} {e : E} {σ : L2.St} {H : Hp} {Q : Bool → Hp → Prop} (hb : ∀ env s w s', evE G.P call e env s = .ok w s' → ∃ k, w = .d (.bl k)) (q : tB G W call e σ H Q) : tE G W call e σ H (fun x H' => ∃ k, x = .bl k ∧ Q k H') := by
  obtain ⟨η, env, s, av, ab, p⟩ := q
  refine ⟨η, env, s, av, ab, ?_⟩
  unfold evTst at p
  cases hr : evE G.P call e env s with
  | ok w s' =>
    obtain ⟨k, rfl⟩ := hb env s w s' hr
    rw [hr] at p
    intro b H' η' st ab' rl
    have rl : RD G H' η' (.bl k) b := rl
    cases rl
    exact ⟨k, rfl, p k H' η' st ab' rfl⟩
  | err c ds s' => rw [hr] at p; exact p
  | stuck => rw [hr] at p; exact p
theorem hv_bi : ∀ f, f ≤ 10 → bootBuiltins (bltName f) = some (bltVal f) ∧ bltName f ≠ "__name__"
  | 0, _ => by decide +kernel
  | 1, _ => by decide +kernel
  | 2, _ => by decide +kernel
  | 3, _ => by decide +kernel
  | 4, _ => by decide +kernel
  | 5, _ => by decide +kernel
  | 6, _ => by decide +kernel
  | 7, _ => by decide +kernel
  | 8, _ => by decide +kernel
  | 9, _ => by decide +kernel
  | 10, _ => by decide +kernel
theorem pe_bi {X : Cx} {sc : Scope} {W : WX} {e : Expr} {es : List Expr} {t : TA} {p pos : Pos} (C : Ctx G M n N sc W X) (f : Nat) (hf : f ≤ 10) (hg : L2.Gl X (bltName f)) (hdb : (bltName f == ("__debug__" : Str)) = false) (ha : PA X (e :: es) t)
    (he : starEach (e :: es) X.env = (false, eval e X.env) :: starEach es X.env) (hpl : (backTo pos (starEach es X.env)).any (·.1) = false) : PE X (.Call (.Name (bltName f) p) (e :: es) [] pos) (fun σ H Q => t σ H fun vs H1 => rBi G f vs H1 Q) := by
  refine ⟨fun pins s σ H Q I h => ?_⟩
  obtain ⟨hv, hn⟩ := hv_bi f hf
  refine wpAny_Call_Name_kw (ld_blt I hg (C.blt f) hv ?_ hn hdb)
  have hu : X.A.units + 70 < cLine := by have := C.room.un; omega
  have hc := or_bi (G := G) C.K C.calm hu f
  have q := thn (ha.run pos pins s σ H _ I h) fun us s1 ⟨vs, H1, I1, r1, q1⟩ => hc pins s1 σ H1 vs us Q I1 r1 q1
  unfold bltVal at q ⊢
  split
  · rw [if_pos (by assumption)] at q
    exact PyProof.Rows.callWith_type1 q he hpl
  · rw [if_neg (by assumption)] at q
    exact PyProof.Rows.callWith_builtin1 q he hpl
end
section
variable {G : GG} {M : Nm} {n : Nat} {N : List Str} {W : WX} {X : Cx} {sc : Scope}
theorem Ctx.blk (C : Ctx G M n N sc W X) (s : Shared) (H : Hp) (scope : Scope) (Cc : Addr) (cl : List (Str × Addr)) (fp : List Addr) : Ctx G M n N (relS scope sc) WF (X.blk s H scope (compEnvC scope cl Cc X.env) fp) where
  K := C.K
  N' := C.N'
  nd := C.nd
  calm := C.calm
  sc' := by rw [← C.sc']; rfl
  blt := C.blt
  ty := C.ty
  room := C.room
  tk := fun u s' ⟨_, _, _, _, _, _, _, _, _, _, _, _, _, _, _, _, w⟩ => w.elim
  own := C.own
  cls := C.cls
  kt := C.kt
  props := C.props
  mths := C.mths
  kws := C.kws
  gcs := C.gcs
  cks := C.cks
  hks := C.hks
  fns := C.fns
theorem PI_imp {tg x : Expr} {t t' : TI} (h : PI X tg x t) (i : ∀ σ H Q, t' σ H Q → t σ H Q) : PI X tg x t' := ⟨fun pins s σ H Q I q => h.run pins s σ H Q I (i _ _ _ q)⟩
theorem PTs_imp {x : List Expr} {t t' : TT} (h : PTs X x t) (i : ∀ σ H Q, t' σ H Q → t σ H Q) : PTs X x t' := ⟨fun pins s σ H Q I q => h.run pins s σ H Q I (i _ _ _ q)⟩
theorem PO_imp {x : Option Expr} {t t' : TO} (h : PO X x t) (i : ∀ σ H Q, t' σ H Q → t σ H Q) : PO X x t' := ⟨fun pins s σ H Q I q => h.run pins s σ H Q I (i _ _ _ q)⟩
theorem base_ok {z : Expr} {nm : Str} {env : PySem.Env} (h : okBase z = true) : attributeBase z nm env (eval z env) = eval z env := by
  unfold okBase at h
  split at h
  · cases h
  · rename_i hz
    unfold attributeBase
    split
    · exact (hz _ _ _ rfl).elim
    · rfl
theorem set_ok {z : Expr} {env : PySem.Env} (h : notSet z = true) : ∀ x, foldedSetIterable z env x = pure x := by
  intro x
  cases z <;> first | rfl | (simp [notSet] at h)
theorem star_all {env : PySem.Env} {pos : Pos} : ∀ {es : List Expr}, es.all notStar = true → (backTo pos (starEach es env)).all (fun x => !x.1) = true
  | [], _ => rfl
  | e :: es, h => by
    rw [List.all_cons, Bool.and_eq_true] at h
    rw [star_cons h.1]
    have := star_all (env := env) (pos := pos) h.2
    simp only [backTo, List.map_cons, List.all_cons, Bool.not_false, Bool.true_and] at this ⊢
    exact this
theorem ty_boot : ∀ t, t ≤ 6 → bootBuiltins (tyName t) = some (.type (tyStr t)) ∧ tyName t ≠ "__name__"
  | 0, _ => by decide +kernel
  | 1, _ => by decide +kernel
  | 2, _ => by decide +kernel
  | 3, _ => by decide +kernel
  | 4, _ => by decide +kernel
  | 5, _ => by decide +kernel
  | 6, _ => by decide +kernel
  | t + 7, h => by omega
theorem okTys_len : ∀ {ts : List (Bool × Nat)} {xs : List Expr}, okTys M sc ts xs = true → ts.length = xs.length
  | [], [], _ => rfl
  | t :: ts, x :: xs, h => by
    rw [okTys, Bool.and_eq_true] at h
    rw [List.length_cons, List.length_cons, okTys_len h.2]
  | [], x :: xs, h => by simp [okTys] at h
  | t :: ts, [], h => by simp [okTys] at h
theorem star_any {e : Expr} {env : PySem.Env} {pos : Pos} {es : List Expr} (h : es.all notStar = true) : (backTo pos ((false, eval e env) :: starEach es env)).any (·.1) = false := by
  have := star_none (env := env) (pos := pos) h
  simp only [backTo, List.map_cons, List.any_cons, Bool.false_or] at this ⊢
  exact this
theorem kes_len {P : Prog} {call : CallF} {env : Env} : ∀ {es : Es} {kws : List Keyword} {s s' : S} {ws : List FT.W}, okKs M N sc es kws = true → evEs P call es env s = .ok ws s' → ws.length = kws.length
  | .nil, xs, s, s', ws, h, e => by
    simp only [okKs] at h
    split at h
    · cases e; rfl
    · cases h
  | .star e0 es, xs, s, s', ws, h, e => by simp [okKs] at h
  | .cons e0 es, xs, s, s', ws, h, e => by
    simp only [okKs] at h
    split at h
    · rename_i y x p xs
      simp only [Bool.and_eq_true] at h
      simp only [evEs] at e
      cases h1 : evE P call e0 env s with
      | ok w s1 =>
        rw [h1, R.bind_ok] at e
        cases h2 : evEs P call es env s1 with
        | ok vs s2 =>
          rw [h2, R.bind_ok] at e
          cases e
          rw [List.length_cons, List.length_cons, kes_len h.2 h2]
        | err => rw [h2] at e; cases e
        | stuck => rw [h2] at e; cases e
      | err => rw [h1] at e; cases e
      | stuck => rw [h1] at e; cases e
    · cases h
theorem few_ok {es : List Expr} {env : PySem.Env} {cp : Pos} (h : es.all notStar = true) (h2 : es.length < 29) : ((backTo cp (starEach es env)).all (fun x => !x.1) && (backToKw cp (keywordEach [] env)).all (fun x => x.1.isSome)
      && decide (es.length + ([] : List Keyword).length + (if ([] : List Keyword).isEmpty then 0 else 1) < 30)) = true := by
  rw [star_all h]
  simp only [Bool.true_and]
  have : (backToKw cp (keywordEach [] env)).all (fun x => x.1.isSome) = true := rfl
  rw [this, Bool.true_and]
  simp only [List.isEmpty_nil, if_true, List.length_nil, Nat.add_zero, decide_eq_true_eq]
  omega
theorem own_call {o : Expr} {name : Str} {apos pos : Pos} {args : List Expr} {env : PySem.Env} (hbase : attributeBase o name env (eval o env) = eval o env)
    (hfew : ((backTo pos (starEach args env)).all (fun x => !x.1) && (backToKw pos (keywordEach [] env)).all (fun x => x.1.isSome)
      && decide (args.length + ([] : List Keyword).length + (if ([] : List Keyword).isEmpty then 0 else 1) < 30)) = true)
    (hline : (apos.endLine == pos.line) = true) : eval (.Call (.Attribute o name apos) args [] pos) env = (do
      let ov ← eval o env
      standAt apos.atName
      let (f, first) ← holding [ov] (getMethod ov name (do return (← importBound o env).getD true))
      callWith pos f first (backTo pos (starEach args env)) (backToKw pos (keywordEach [] env))) := by
  have hform : methodCallForm (args.length + ([] : List Keyword).length) (backTo pos (starEach args env)) (backToKw pos (keywordEach [] env)) = true := hfew
  have hpos : methodCallPos true o env apos pos = pure pos := by unfold methodCallPos; simp [hline]
  rw [arm_eval_Call, hbase]
  unfold methodCall
  rw [hform, hpos]
  rfl
theorem kw_some : ∀ {kws : List Keyword} {es : Es}, okKs M N sc es kws = true → ∀ {env : PySem.Env} {pos : Pos}, (backToKw pos (keywordEach kws env)).all (·.1.isSome) = true ∧ (backToKw pos (keywordEach kws env)).any (·.1.isNone) = false ∧ (backToKw pos (keywordEach kws env)).filterMap (·.1) = kwNames kws
  | [], _, _, env, pos => ⟨rfl, rfl, rfl⟩
  | ⟨nm, x, p⟩ :: r, es, h, env, pos => by
    cases es with
    | nil => simp [okKs] at h
    | star => simp [okKs] at h
    | cons e es =>
      cases nm with
      | none => simp [okKs] at h
      | some y =>
        have h : (okE M N sc e x && okKs M N sc es r) = true := by simpa only [okKs] using h
        rw [Bool.and_eq_true] at h
        obtain ⟨a, b, c⟩ := kw_some (kws := r) h.2 (env := env) (pos := pos)
        refine ⟨?_, ?_, ?_⟩
        · show (true && _) = true
          rw [Bool.true_and]; exact a
        · show (false || _) = false
          rw [Bool.false_or]; exact b
        · show y :: _ = y :: kwNames r
          rw [← c]; rfl
theorem kw_len : ∀ {kws : List Keyword} {es : Es}, okKs M N sc es kws = true → (kwNames kws).length = kws.length
  | [], _, _ => rfl
  | ⟨nm, x, p⟩ :: r, es, h => by
    cases es with
    | nil => simp [okKs] at h
    | star => simp [okKs] at h
    | cons e es =>
      cases nm with
      | none => simp [okKs] at h
      | some y =>
        have h : (okE M N sc e x && okKs M N sc es r) = true := by simpa only [okKs] using h
        rw [Bool.and_eq_true] at h
        show (kwNames r).length + 1 = r.length + 1
        rw [kw_len h.2]
theorem RWs.pick {H : Hp} {η : Et} {ws : List FT.W} {vs : List V} (r : RWs G H η ws vs) : ∀ {is : List Nat} {us : List FT.W}, FT.pick ws is = some us → ∃ xs, FT.pick vs is = some xs ∧ RWs G H η us xs
  | [], us, h => by cases h; exact ⟨[], rfl, .nil⟩
  | i :: is, us, h => by
    simp only [FT.pick] at h
    split at h
    · rename_i x ys h1 h2
      cases h
      obtain ⟨xs, e, r2⟩ := RWs.pick r h2
      have g : ∀ {ws : List FT.W} {vs : List V} {i : Nat} {x : FT.W}, RWs G H η ws vs → ws[i]? = some x → ∃ v, vs[i]? = some v ∧ RW G H η x v := fun {ws vs i x} r h => by
        induction r generalizing i with
        | nil => simp at h
        | cons a b ih =>
          cases i with
          | zero => simp at h; subst h; exact ⟨_, rfl, a⟩
          | succ i => exact ih (by simpa using h)
      obtain ⟨v, e1, r1⟩ := g r h1
      exact ⟨v :: xs, by simp only [FT.pick, e1, e], .cons r1 r2⟩
    · cases h
theorem evEs_len {P : Prog} {call : CallF} {env : Env} : ∀ {es : Es} {xs : List Expr} {s s' : S} {ws : List FT.W}, okEs M N sc es xs = true → xs.all notStar = true → evEs P call es env s = .ok ws s' → ws.length = xs.length
  | .nil, xs, s, s', ws, h, hn, e => by
    simp only [okEs] at h
    split at h
    · cases e; rfl
    · cases h
  | .star e0 es, xs, s, s', ws, h, hn, e => by
    simp only [okEs] at h
    split at h
    · simp [notStar] at hn
    · cases h
  | .cons e0 es, xs, s, s', ws, h, hn, e => by
    simp only [okEs] at h
    split at h
    · rename_i x xs
      simp only [Bool.and_eq_true] at h
      rw [List.all_cons, Bool.and_eq_true] at hn
      simp only [evEs] at e
      cases h1 : evE P call e0 env s with
      | ok w s1 =>
        rw [h1, R.bind_ok] at e
        cases h2 : evEs P call es env s1 with
        | ok vs s2 =>
          rw [h2, R.bind_ok] at e
          cases e
          rw [List.length_cons, List.length_cons, evEs_len h.2 hn.2 h2]
        | err => rw [h2] at e; cases e
        | stuck => rw [h2] at e; cases e
      | err => rw [h1] at e; cases e
      | stuck => rw [h1] at e; cases e
    · cases h
/-- a run that comes to its end hands on what it gives -/
theorem Post.ran {α β γ δ : Type} {Wh : WH} {Rl : Hp → Et → α → β → Prop} {Rm : Hp → Et → γ → δ → Prop} {H : Hp} {η : Et} {r : R α} {f : α → S → R γ} {Q : δ → Hp → Prop} (h : Post G Wh Rm H η (r.bind f) Q) :
    Post G Wh Rl H η r (fun b H' => ∃ η' a s', r = .ok a s' ∧ Step H η H' η' ∧ AbsS G H' η' s' ∧ Rl H' η' a b ∧ Post G Wh Rm H' η' (f a s') Q) := by
  cases r with
  | ok a s => exact fun b H2 η2 st ab rl => ⟨η2, a, s, rfl, st, ab, rl, Post.step (h : Post G Wh Rm H η (f a s) Q) st⟩
  | err c ds s => exact h
  | stuck => exact h
theorem PK_imp {kws : List Keyword} {t t' : TA} (h : PK X kws t) (i : ∀ σ H Q, t' σ H Q → t σ H Q) : PK X kws t' := ⟨fun pos pins s σ H Q I q => h.run pos pins s σ H Q I (i _ _ _ q)⟩
/-- a class by its name -/
theorem pe_cls (C : Ctx G M n N sc W X) {t : Bool × Nat} {x : Expr} (h : okTy1 M sc t x = true) : ∃ v u, TyV G t v u ∧ PE X x (tC v) ∧ notStar x = true := by
  unfold okTy1 at h
  split at h
  · rename_i y pos
    simp only [Bool.and_eq_true] at h
    obtain ⟨⟨h1, h0⟩, h2⟩ := h
    obtain ⟨hg, hdb⟩ := gl_of C.sc' h1
    obtain ⟨t1, t2⟩ := t
    cases t1 with
    | true =>
      simp only [if_true, Bool.and_eq_true, beq_iff_eq] at h2
      obtain ⟨h2, rfl⟩ := h2
      obtain ⟨A, e1, e2⟩ := C.cls _ h2
      exact ⟨.ref A, .ref A, .own e1, pe_glob hg e2 rfl hdb, h0⟩
    | false =>
      simp only [Bool.false_eq_true, if_false, Bool.and_eq_true, beq_iff_eq, decide_eq_true_eq] at h2
      obtain ⟨h2, rfl⟩ := h2
      obtain ⟨e1, e2⟩ := ty_boot t2 h2
      exact ⟨_, _, .blt h2, pe_bltn hg (C.ty _) e1 rfl e2 hdb, h0⟩
  · cases h
theorem pa_cls (C : Ctx G M n N sc W X) : ∀ {ts : List (Bool × Nat)} {xs : List Expr}, okTys M sc ts xs = true → ∃ vs us, TyVs G ts vs us ∧ PA X xs (fun _ H Q => Q vs H)
  | [], [], _ => ⟨[], [], .nil, pa_nil⟩
  | t :: ts, x :: xs, h => by
    rw [okTys, Bool.and_eq_true] at h
    obtain ⟨v, u, k, p, hs⟩ := pe_cls C h.1
    obtain ⟨vs, us, ks, ps⟩ := pa_cls C h.2
    exact ⟨v :: vs, u :: us, .cons k ks, PA_imp (pa_cons p ps (star_cons hs)) fun σ H Q q => q⟩
  | [], x :: xs, h => by simp [okTys] at h
  | t :: ts, [], h => by simp [okTys] at h
end
end FT

namespace FT
open PySem PySem.Spec PyProof.Rows L2 SlX
section
variable {G : GG} {M : Nm} {n : Nat} {N : List Str} {W : WX} {X : Cx} {sc : Scope}
/-- y(.., k = ..), y a name of the text: what is handed over is told; the call is left -/
theorem args_kw (C : Ctx G M n N sc W X) {es kes : Es} {xs : List Expr} {kws : List Keyword} {y : Str} {p0 pos : Pos} {A : Addr} (hg : L2.Gl X y) (hdb : (y == ("__debug__" : Str)) = false) (hm : X.mg y = some (.ref A)) (hk : PySem.W.keepIn X.K (.ref A) = true)
    (hs : xs.all notStar = true) (he : okEs M N sc es xs = true) (hke : okKs M N sc kes kws = true) (qs : PA X xs (tEs G W (callN G.P n) es)) (qk : PK X kws (tEs G W (callN G.P n) kes))
    {γ δ : Type} {Rm : Hp → Et → γ → δ → Prop} {Q : δ → Hp → Prop} {k : List FT.W → S → R γ} {Φ : Value → Shared → Prop} {pins : List (Addr × Obj)} {σ : L2.St} {H : Hp} {sh : Shared} {η : Et} {env : Env} {s : S}
    (I : Inv X pins σ H sh) (av : AbsV G H η env σ) (ab : AbsS G H η s)
    (p : Post G (fun c d => W c d σ) Rm H η ((evEs G.P (callN G.P n) es env s).bind fun ws s => (evEs G.P (callN G.P n) kes env s).bind fun zs s => k (ws ++ zs) s) Q)
    (fin : ∀ {sh2 : Shared} {H2 : Hp} {η2 : Et} {s2 : S} {us uz : List Value} {vs zs : List V} {ws : List FT.W}, Inv X pins σ H2 sh2 → AbsV G H2 η2 env σ → AbsS G H2 η2 s2 → Vals vs us → Vals zs uz → vs.length = xs.length → zs.length = (kwNames kws).length → RWs G H2 η2 ws (vs ++ zs) →
      Post G (fun c d => W c d σ) Rm H2 η2 (k ws s2) Q → wpAny (model X.prog X.w) X.A (call (.ref A) us ((kwNames kws).zip uz)) Φ X.xe sh2) :
    wpAny (model X.prog X.w) X.A (eval (.Call (.Name y p0) xs kws pos) X.env) Φ X.xe sh := by
  have hes : xs = [] → es = .nil := fun z => by
    subst z
    cases es with
    | nil => rfl
    | cons => simp [okEs] at he
    | star => simp [okEs] at he
  refine wpAny_Call_Name_kw (ld_glob I hg hm ?_ hdb)
  cases kws with
  | nil =>
    have hkes : kes = .nil := by
      cases kes with
      | nil => rfl
      | cons => simp [okKs] at hke
      | star => simp [okKs] at hke
    subst hkes
    have fin2 : ∀ {sh2 : Shared} {H2 : Hp} {η2 : Et} {s2 : S} {us : List Value} {vs : List V} {ws : List FT.W}, Inv X pins σ H2 sh2 → AbsV G H2 η2 env σ → AbsS G H2 η2 s2 → Vals vs us → vs.length = xs.length → RWs G H2 η2 ws vs →
        Post G (fun c d => W c d σ) Rm H2 η2 ((evEs G.P (callN G.P n) .nil env s2).bind fun zs s => k (ws ++ zs) s) Q → wpAny (model X.prog X.w) X.A (call (.ref A) us) Φ X.xe sh2 :=
      fun {sh2 H2 η2 s2 us vs ws} I2 av2 ab2 r1 l1 rw p2 => fin (uz := []) (zs := []) (ws := ws) I2 av2 ab2 r1 .nil l1 rfl (by rw [List.append_nil]; exact rw) (by
        simp only [evEs, R.bind_ok, List.append_nil] at p2; exact p2)
    cases xs with
    | nil =>
      obtain rfl := hes rfl
      exact PySem.W.callWith_K0 I.kIn hk (fin2 (us := []) (vs := []) (ws := []) I av ab .nil rfl .nil (by
        simpa only [evEs, R.bind_ok] using p))
    | cons e1 xs =>
      have hs' := hs
      rw [List.all_cons, Bool.and_eq_true] at hs'
      exact PySem.W.callWith_K (h₀ := X.base) I.ok.mod.kin hk (thn (qs.run pos pins sh σ H (fun vs H1 => ∃ η1 ws st1, AbsV G H1 η1 env σ ∧ AbsS G H1 η1 st1 ∧ RWs G H1 η1 ws vs ∧ ws.length = (e1 :: xs).length ∧ Post G (fun c d => W c d σ) Rm H1 η1 ((evEs G.P (callN G.P n) .nil env st1).bind fun zs s => k (ws ++ zs) s) Q)
        I ⟨η, env, s, av, ab, (Post.ran (Rl := RWs G) p).mono fun vs H1 ⟨η1, ws, st1, e1', stp, ab1, r1, p1⟩ => ⟨η1, ws, st1, av.mono stp, ab1, r1, evEs_len he hs e1', p1⟩⟩) fun us sh1 ⟨vs, H1, I1, r1, η1, ws, st1, av1, ab1, rw1, hl, p1⟩ => ⟨I1.kIn, fin2 I1 av1 ab1 r1 (rw1.length.symm.trans hl) rw1 p1⟩) (star_cons hs'.1) (star_none hs'.2)
  | cons kw1 kws =>
    obtain ⟨s1, s2, s3⟩ := kw_some hke (env := X.env) (pos := pos)
    have fin3 : ∀ {sh1 : Shared} {H1 : Hp} {η1 : Et} {st1 : S} {us : List Value} {vs : List V} {ws : List FT.W}, Inv X pins σ H1 sh1 → AbsV G H1 η1 env σ → AbsS G H1 η1 st1 → Vals vs us → RWs G H1 η1 ws vs → ws.length = xs.length →
          Post G (fun c d => W c d σ) Rm H1 η1 ((evEs G.P (callN G.P n) kes env st1).bind fun zs s => k (ws ++ zs) s) Q → wpAny (model X.prog X.w) X.A (evalAll ((backToKw pos (keywordEach (kw1 :: kws) X.env)).map (·.2))) (fun ks s₂ => X.K.In s₂.heap ∧ wpAny (model X.prog X.w) X.A (call (.ref A) ([] ++ us) (((backToKw pos (keywordEach (kw1 :: kws) X.env)).filterMap (·.1)).zip ks)) Φ X.xe s₂) X.xe sh1 :=
        fun {sh1 H1 η1 st1 us vs ws} I1 av1 ab1 r1 rw1 hl p1 => by
          refine thn (qk.run pos pins sh1 σ H1 (fun zs H2 => ∃ η2 ws2 s2, Step H1 η1 H2 η2 ∧ AbsS G H2 η2 s2 ∧ RWs G H2 η2 ws2 zs ∧ ws2.length = (kw1 :: kws).length ∧ Post G (fun c d => W c d σ) Rm H2 η2 (k (ws ++ ws2) s2) Q) I1 ⟨η1, env, st1, av1, ab1, (Post.ran (Rl := RWs G) p1).mono fun zs H2 ⟨η2, ws2, s2, e2, st2, ab2, r2, p2⟩ => ⟨η2, ws2, s2, st2, ab2, r2, kes_len hke e2, p2⟩⟩) fun wv sh2 ⟨zs, H2, I2, rz, η2, ws2, st2', stp, ab2, rw2, l2, p2⟩ => ⟨I2.kIn, ?_⟩
          rw [s3]
          exact fin I2 (av1.mono stp) ab2 r1 rz (by rw [← rw1.length]; exact hl) (by rw [← rw2.length, l2]; exact (kw_len hke).symm) ((rw1.mono stp).append rw2) p2
    cases xs with
    | nil =>
      refine PySem.W.callWith_KW0 (h₀ := X.base) I.ok.mod.kin hk s1 ?_ (by rw [s2]; rfl)
      obtain rfl := hes rfl
      exact fin3 I av ab .nil .nil rfl (by simpa only [evEs, R.bind_ok] using p)
    | cons e1 xs =>
      have hs' := hs
      rw [List.all_cons, Bool.and_eq_true] at hs'
      refine PySem.W.callWith_KW (h₀ := X.base) I.ok.mod.kin hk s1 (thn (qs.run pos pins sh σ H (fun vs H1 => ∃ η1 ws st1, AbsV G H1 η1 env σ ∧ AbsS G H1 η1 st1 ∧ RWs G H1 η1 ws vs ∧ ws.length = (e1 :: xs).length ∧ Post G (fun c d => W c d σ) Rm H1 η1 ((evEs G.P (callN G.P n) kes env st1).bind fun zs s => k (ws ++ zs) s) Q) I ⟨η, env, s, av, ab, (Post.ran (Rl := RWs G) p).mono fun vs H1 ⟨η1, ws, st1, e1', stp, ab1, r1, p1⟩ => ⟨η1, ws, st1, av.mono stp, ab1, r1, evEs_len he hs e1', p1⟩⟩) fun us sh1 ⟨vs, H1, I1, r1, η1, ws, st1, av1, ab1, rw1, hl, p1⟩ => fin3 I1 av1 ab1 r1 rw1 hl p1) (by rw [s2, Bool.or_false, star_cons hs'.1]; exact star_any hs'.2) (star_cons hs'.1)
/-- what the heap is when an error has been made: (1) it stands, (2) it is raised -/
theorem made_abs {H : Hp} {η : Et} {s : S} {A a d : Addr} {b : Bool} {us : List V} {ds : List D} {x : V} {Hx : Hp} (ab : AbsS G H η s) (na : H a = none) (r : RDs G H η ds us) (hA : MkA b us (upd H a (exo a A none)) x Hx) (hd : Hx d = none) (hda : d ≠ a) :
    ∃ H1, Step H η H1 η ∧ AbsS G H1 η s ∧ H1 a = none ∧ H1 d = none ∧ H d = none ∧ (∃ d0, RD G H1 η d0 x ∧ (b = true → ds = [d0]) ∧ (b = false → ds = [] ∧ d0 = .tup [])) ∧ ∀ c, c ≠ a → c ≠ d → Hx c = H1 c := by
  unfold MkA at hA
  cases b with
  | true =>
    rw [if_pos rfl] at hA
    obtain ⟨rfl, rfl⟩ := hA
    rw [upd_ne hda] at hd
    cases r with
    | cons r0 r' =>
      cases r'
      exact ⟨H, Step.refl _ _, ab, na, hd, hd, ⟨_, r0, fun _ => rfl, fun z => nomatch z⟩, fun c h1 h2 => upd_ne h1⟩
  | false =>
    rw [if_neg (by decide)] at hA
    obtain ⟨rfl, t, ht, rfl, rfl⟩ := hA
    cases r
    have hta : t ≠ a := fun z => by rw [z, upd_same] at ht; cases ht
    rw [upd_ne hta] at ht
    have hdt : d ≠ t := fun z => by rw [z, upd_same] at hd; cases hd
    rw [upd_ne hdt, upd_ne hda] at hd
    have nt := ab.fresh ht
    refine ⟨upd H t (.tup []), Step.laid ht nt, ab.laid ht, by rw [upd_ne (Ne.symm hta)]; exact na, by rw [upd_ne hdt]; exact hd, hd, ⟨.tup [], .tup (vs := []) (.inl ⟨.inl upd_same, nt⟩) .nil, (fun z => nomatch z), fun _ => ⟨rfl, rfl⟩⟩, fun c h1 h2 => ?_⟩
    by_cases h : c = t
    · rw [h, upd_same, upd_same]
    · rw [upd_ne h, upd_ne h, upd_ne h1]
end
end FT

namespace FT
open PySem PySem.Spec PyProof.Rows L2 SlX
theorem two_upd {H2 H1 : Hp} {a d : Addr} {o u : HO} (h : ∀ c, c ≠ a → c ≠ d → H2 c = H1 c) : upd (upd H2 a o) d u = upd (upd H1 a o) d u := by
  funext c
  by_cases hd : c = d
  · rw [hd, upd_same, upd_same]
  · rw [upd_ne hd, upd_ne hd]
    by_cases ha : c = a
    · rw [ha, upd_same, upd_same]
    · rw [upd_ne ha, upd_ne ha, h c ha hd]
theorem del_upd {H2 H1 : Hp} {a d : Addr} {u : HO} (n : H1 a = none) (h : ∀ c, c ≠ a → c ≠ d → H2 c = H1 c) : upd (del H2 a) d u = upd H1 d u := by
  funext c
  by_cases hd : c = d
  · rw [hd, upd_same, upd_same]
  · rw [upd_ne hd, upd_ne hd]
    by_cases ha : c = a
    · rw [ha, del_same, n]
    · rw [del_ne ha, h c ha hd]
theorem R.bind_pure {α : Type} (r : R α) : r.bind (fun a s => .ok a s) = r := by cases r <;> rfl
section
variable {G : GG} {M : Nm} {n : Nat} {N : List Str} {W : WX} {X : Cx} {sc : Scope}
def mkCall (G : GG) (n c : Nat) (perm : List Nat) (ws : List FT.W) (s : S) : R FT.W := match mkArgs G.P c ws perm with
  | some us => callN G.P n c us s
  | none => .stuck
theorem pures_rel {H : Hp} {η : Et} : ∀ {ws : List FT.W} {vs : List V} {ds : List D}, RWs G H η ws vs → pures ws = some ds → RDs G H η ds vs
  | _, _, ds, .nil, e => by
    have e : some [] = some ds := e
    cases e; exact .nil
  | .d x :: ws, v :: vs, ds, .cons h r, e => by
    have e : (pures ws).map (x :: ·) = some ds := e
    cases hp : pures ws with
    | none => rw [hp] at e; cases e
    | some xs =>
      rw [hp] at e
      cases e
      exact .cons h (pures_rel r hp)
  | .ref k :: ws, v :: vs, ds, .cons h r, e => by
    have e : (none : Option (List D)) = some ds := e
    cases e
theorem mk_run (C : Ctx G M n N sc W X) {c : Nat} {es kes : Es} {perm : List Nat} {x : Expr} (h : okE M N sc (.mk c es kes perm) x = true) (qs : ∀ xs, okEs M N sc es xs = true → PA X xs (tEs G W (callN G.P n) es)) (qk : ∀ kws, okKs M N sc kes kws = true → PK X kws (tEs G W (callN G.P n) kes))
    {γ δ : Type} {Rm : Hp → Et → γ → δ → Prop} {Q : δ → Hp → Prop} {g : FT.W → S → R γ} {Φ : Value → Shared → Prop} {pins : List (Addr × Obj)} {σ : L2.St} {H : Hp} {sh : Shared} {η : Et} {env : Env} {s : S}
    (I : Inv X pins σ H sh) (av : AbsV G H η env σ) (ab : AbsS G H η s)
    (p : Post G (fun c d => W c d σ) Rm H η ((evE G.P (callN G.P n) (.mk c es kes perm) env s).bind g) Q)
    (fin : ∀ {hp hp2 h2 : Heap} {g1 g2 : Array GenState} {d1 d2 : Drawn} {t1 t2 : Nat} {os1 os2 : OsState} {H1 H1' H2 : Hp} {η1 : Et} {s1 : S} {a d A : Addr} {f : Str} {y : V} {d0 : D}, Inv X pins σ H1 ⟨hp, g1, d1, t1, os1⟩ → G.clsA c = some A → OexC X.K A → G.fldN c = [f] → Step H1 η1 H1' η1 → AbsS G H1' η1 s1 → H1' a = none → H1' d = none → H1 d = none →
      d ≠ a → RD G H1' η1 d0 y → H2 a = some (exo a A (some d)) → H2 d = some (exd d [(f, y)]) → (∀ b, b ≠ a → b ≠ d → H2 b = H1' b) → hp.objs.size ≤ a → (∀ b o, hp.get? b = some o → hp2.get? b = some o) → Un (frs X.stack) [] (upd H1 a (exo a A none)) H2 hp2 h2 → HOk X.prog X.w H2 h2 → os2 = os1 → AllBare g2 →
      Post G (fun c d => W c d σ) Rm H1' η1 (g (.d (.exc c [d0])) s1) Q → Φ (.ref a) ⟨h2, g2, d2, t2, os2⟩) :
    wpAny (model X.prog X.w) X.A (eval x X.env) Φ X.xe sh := by
  simp only [okE] at h
  split at h
  case h_2 => cases h
  rename_i y p0 xs kws pos
  simp only [Bool.and_eq_true, beq_iff_eq, decide_eq_true_eq] at h
  obtain ⟨⟨⟨⟨⟨⟨h0, h1⟩, h2⟩, h3⟩, h4⟩, h5⟩, h6⟩ := h
  subst h0
  obtain ⟨hg, hdb⟩ := gl_of C.sc' h1
  obtain ⟨A, hm, hk, D⟩ := C.cks c _ h5
  obtain ⟨Cl, fI, fd, f, gp, gV, e1, e2, e3, iC, tI, F1, hb, e4, e5, hperm⟩ := D.ex
  have p' : Post G (fun c d => W c d σ) Rm H η ((evEs G.P (callN G.P n) es env s).bind fun ws s => (evEs G.P (callN G.P n) kes env s).bind fun zs s => (mkCall G n c perm (ws ++ zs) s).bind g) Q := by
    simp only [evE, R.bind_assoc] at p
    exact p
  refine args_kw (C := C) (k := fun ws s => (mkCall G n c perm ws s).bind g) hg hdb hm hk h2 h3 h4 (qs _ h3) (qk _ h4) I av ab p' fun {sh2 H2 η2 s2 us uz vs zs ws} I2 av2 ab2 r1 rz l1 l2 rw p2 => ?_
  have p2 : Post G (fun c d => W c d σ) Rm H2 η2 ((mkCall G n c perm ws s2).bind g) Q := p2
  unfold mkCall mkArgs at p2
  simp only [e1, e3, List.map_nil, List.append_nil] at p2
  cases hpk : FT.pick ws perm with
  | none => rw [hpk] at p2; exact p2.elim
  | some us2 =>
    rw [hpk] at p2
    obtain ⟨xs2, k1, k2⟩ := rw.pick hpk
    cases n with
    | zero => exact p2.elim
    | succ m =>
      simp only [callN, D.fnc, e1, e2, if_true] at p2
      cases hpu : pures us2 with
      | none => rw [hpu] at p2; exact p2.elim
      | some ds =>
        rw [hpu] at p2
        simp only at p2
        cases hex : excD Cl ds with
        | none => rw [hex] at p2; exact p2.elim
        | some ys =>
          rw [hex] at p2
          simp only [R.bind_ok] at p2
          have rd := pures_rel k2 hpu
          have hr : Room (1 + 1) X.A := C.room.mono (by unfold lvl; omega)
          have hgv : ∀ a : V, gV (a :: vs) zs = a :: xs2 := fun a => hperm a vs zs xs2 l1 l2 k1
          have hds : ds.length = (initPs Cl.arg f).length - 1 := by
            unfold excD at hex
            unfold initPs
            cases hA : Cl.arg with
            | true =>
              rw [hA] at hex
              simp only [if_true] at hex
              split at hex
              · rfl
              · cases hex
            | false =>
              rw [hA] at hex
              simp only [Bool.false_eq_true, if_false] at hex
              split at hex
              · rfl
              · cases hex
          have hps : (initPs Cl.arg f).length ≥ 1 := by unfold initPs; cases Cl.arg <;> simp
          refine run_oex0 (X := X) (n := xs.length) (P2 := fun a H3 => ∃ d Hx y, MkA Cl.arg xs2 (upd H2 a (exo a A none)) y Hx ∧ Hx d = none ∧ d ≠ a ∧ H3 = upd (upd Hx d (exd d [(f, y)])) a (exo a A (some d))) D.ox iC tI F1 hr hb I2 r1 rz l1 l2 (by
              rw [← Paired.length r1, l1, sizeLine_eq]
              omega) (fun a na => ?_) fun a H3 hp3 s3 hsz hkk un hok hos hbare hP => ?_
          · rw [hgv]
            refine ⟨a, A, xs2, rfl, D.ox, e5, upd_same, by rw [List.length_cons, ← rd.length, hds]; omega, fun d Hx y hA hd hda => ⟨rfl, d, Hx, y, hA, hd, hda, rfl⟩⟩
          · obtain ⟨d, Hx, y, hA, hd, hda, rfl⟩ := hP
            obtain ⟨hp1, g1, d1, t1, os1⟩ := sh2
            obtain ⟨h3, g3, d3, t3, os3⟩ := s3
            have na : H2 a = none := I2.hok.fresh hsz
            obtain ⟨H1', st, ab1, n1, n2, n3, ⟨d0, rd0, q1, q2⟩, heq⟩ := made_abs ab2 na rd hA hd hda
            have hys : ys = [d0] := by
              unfold excD at hex
              cases hA' : Cl.arg with
              | true =>
                rw [hA'] at hex
                rw [q1 hA'] at hex
                exact (Option.some.inj hex).symm
              | false =>
                rw [hA'] at hex
                obtain ⟨z1, z2⟩ := q2 hA'
                rw [z1] at hex
                rw [z2]
                exact (Option.some.inj hex).symm
            subst hys
            exact fin I2 D.clsA D.ox e4 st ab1 n1 n2 n3 hda rd0 upd_same (by rw [upd_ne hda, upd_same]) (fun b h1 h2 => by rw [upd_ne h1, upd_ne h2, heq b h1 h2]) hsz hkk un hok hos hbare (p2.step st)
/-- .. it stands -/
theorem mk_val (C : Ctx G M n N sc W X) {c : Nat} {es kes : Es} {perm : List Nat} {x : Expr} (h : okE M N sc (.mk c es kes perm) x = true) (qs : ∀ xs, okEs M N sc es xs = true → PA X xs (tEs G W (callN G.P n) es)) (qk : ∀ kws, okKs M N sc kes kws = true → PK X kws (tEs G W (callN G.P n) kes)) :
    PE X x (tE G W (callN G.P n) (.mk c es kes perm)) := by
  refine ⟨fun pins sh σ H Q I ⟨η, env, s, av, ab, p⟩ => ?_⟩
  rw [← R.bind_pure (evE G.P (callN G.P n) (.mk c es kes perm) env s)] at p
  refine mk_run C h qs qk I av ab p fun {hp hp2 h2 g1 g2 d1 d2 t1 t2 os1 os2 H1 H1' H2 η1 s1 a d A f y d0} I1 hc ox hf st ab1 n1 n2 n3 hda rd ea ed heq hsz hkk un hok hos hb p1 => ?_
  have J := mk_endV (d2 := d2) (t2 := t2) I1 hsz hkk un hok hos hb ea ed n3
  rw [two_upd heq] at J
  have f1 := ab1.fresh n1
  have ab2 := ab1.laid (o := trk a (.ref A) (some d)) n1
  have st2 : Step H1' η1 (upd H1' a (trk a (.ref A) (some d))) η1 := Step.laid n1 f1
  have n2' : (upd H1' a (trk a (.ref A) (some d))) d = none := by rw [upd_ne hda]; exact n2
  have f2 := ab2.fresh n2'
  have ab3 := ab2.laid (o := HO.xd [(f, y)]) n2'
  have st3 : Step (upd H1' a (trk a (.ref A) (some d))) η1 (upd (upd H1' a (trk a (.ref A) (some d))) d (.xd [(f, y)])) η1 := Step.laid n2' f2
  refine ⟨.ref a, _, J, rfl, p1 _ _ _ (st2.trans st3) ab3 ?_⟩
  show RD G _ η1 (.exc c [d0]) (.ref a)
  refine .exc (C := A) (d := d) (vs := [y]) hc (by rw [upd_ne (Ne.symm hda), upd_same]; rfl) f1 (by rw [upd_same, hf]; rfl) f2 (by rw [hf]; rfl) (.cons (rd.mono (st2.trans st3).le) .nil)
def exR : FT.W → S → R Unit := fun w s => match w with
  | .d (.exc c vs) => .err c vs s
  | _ => .stuck
/-- .. it is raised -/
theorem mk_raise (C : Ctx G M n N sc W X) (hcalm : X.calm = true) {c : Nat} {es kes : Es} {perm : List Nat} {x : Expr} {pos : Pos} (h : okE M N sc (.mk c es kes perm) x = true) (qs : ∀ xs, okEs M N sc es xs = true → PA X xs (tEs G W (callN G.P n) es)) (qk : ∀ kws, okKs M N sc kes kws = true → PK X kws (tEs G W (callN G.P n) kes)) :
    PS X (.Raise (some x) none pos) (fun _ σ H => ∃ η env s, AbsV G H η env σ ∧ AbsS G H η s ∧ Post G (fun c d => W c d σ) (fun _ _ (_ _ : Unit) => True) H η ((evE G.P (callN G.P n) (.mk c es kes perm) env s).bind exR) fun _ _ => False) := by
  refine PS_imp (ps_raise (t := fun σ H Q => (∀ c d H', W c d σ H' → Q c d H') ∧ ∃ η env s, AbsV G H η env σ ∧ AbsS G H η s ∧ Post G (fun c d => W c d σ) (fun _ _ (_ _ : Unit) => True) H η ((evE G.P (callN G.P n) (.mk c es kes perm) env s).bind exR) fun _ _ => False) hcalm C.tk ?_) fun D σ H q => ⟨fun _ _ _ z => z, q⟩
  intro pins sh σ H Q I ⟨hQ, η, env, s, av, ab, p⟩
  refine mk_run C h qs qk I av ab p fun {hp hp2 h2 g1 g2 d1 d2 t1 t2 os1 os2 H1 H1' H2 η1 s1 a d A f y d0} I1 hc ox hf st ab1 n1 n2 n3 hda rd ea ed heq hsz hkk un hok hos hb p1 => ?_
  refine mk_end (raises_own ox.exC ox.tyC) I1 hsz hkk un hok hos hb ea ed n3 (hQ _ _ _ ?_)
  rw [del_upd n1 heq]
  have f2 := ab1.fresh n2
  have st3 : Step H1' η1 (upd H1' d (.xd [(f, y)])) η1 := Step.laid n2 f2
  have p1 : Post G (fun c d => W c d σ) (fun _ _ (_ _ : Unit) => True) H1' η1 (.err c [d0] s1) _ := p1
  exact p1 _ _ _ η1 st3 (ab1.laid n2) ⟨A, d, [y], hc, rfl, rfl, by rw [upd_same, hf]; rfl, f2, by rw [hf]; rfl, .cons (rd.mono st3.le) .nil⟩
end
end FT

namespace FT
open PySem PySem.Spec PyProof.Rows L2 SlX

section
variable {G : GG} {M : Nm} {n : Nat} {N : List Str}
def evBopT (P : Prog) (call : CallF) (o : BoolOp) (es : Es) (env : Env) (s : S) : R Bool := (evBop P call o es env s).bind fun w s => R.of (truthy w s) s
def tBopE (G : GG) (W : WX) (call : CallF) (o : BoolOp) (es : Es) : TE := fun σ H Q => ∃ η env s, AbsV G H η env σ ∧ AbsS G H η s ∧ Post G (fun c d => W c d σ) (RW G) H η (evBop G.P call o es env s) Q
def tBopB (G : GG) (W : WX) (call : CallF) (o : BoolOp) (es : Es) : TT := fun σ H Q => ∃ η env s, AbsV G H η env σ ∧ AbsS G H η s ∧ Post G (fun c d => W c d σ) (fun _ _ (a b : Bool) => a = b) H η (evBopT G.P call o es env s) Q
theorem RW.bool {H : Hp} {η : Et} {k : Bool} {v : V} (r : RW G H η (.d (.bl k)) v) : v = .bl k := by
  have r : RD G H η (.bl k) v := r
  cases r; rfl
/-- what follows a bool -/
def contB (P : Prog) (call : CallF) (o : BoolOp) (es : Es) (env : Env) : FT.W → S → R FT.W := fun w s => match w with
  | .d (.bl k) => if k == (o == .And) then evBop P call o es env s else .ok (.d (.bl k)) s
  | _ => .stuck
theorem evBop_cons {P : Prog} {call : CallF} {o : BoolOp} {e e2 : E} {es : Es} {env : Env} {s : S} : evBop P call o (.cons e (.cons e2 es)) env s = (evE P call e env s).bind (contB P call o (.cons e2 es) env) := by
  rw [evBop]
  · rfl
  · intro z; cases z
theorem contB_stuck {P : Prog} {call : CallF} {o : BoolOp} {es : Es} {env : Env} (w : FT.W) (s : S) (h : ∀ k, w ≠ .d (.bl k)) : contB P call o es env w s = .stuck := by
  unfold contB
  split
  · exact absurd rfl (h _)
  · rfl
/-- an if-expression, tested -/
theorem pt_ifExp {X : Cx} {c a b : Expr} {pos : Pos} {tc ta tb : TT} (hc : PT X c tc) (ha : PT X a ta) (hb : PT X b tb) : PT X (.IfExp c a b pos) (fun σ H Q => tc σ H fun k H1 => if k = true then ta σ H1 Q else tb σ H1 Q) := by
  refine ⟨fun pins s σ H Q I h => ?_⟩
  show wpAny _ _ (do if ← isTrue c X.env (eval c X.env) then isTrue a X.env (eval a X.env) else isTrue b X.env (eval b X.env)) _ _ _
  refine wpAny_bind (thn (hc.run pins s σ H _ I h) fun d s1 ⟨H1, I1, q1⟩ => ?_)
  cases d with
  | true => exact ha.run pins s1 σ H1 Q I1 q1
  | false => exact hb.run pins s1 σ H1 Q I1 q1
mutual
theorem sndE : ∀ (e : E) (x : Expr) (sc : Scope) (W : WX) (X : Cx), Ctx G M n N sc W X → okE M N sc e x = true → PE X x (tE G W (callN G.P n) e) ∧ PT X x (tB G W (callN G.P n) e)
  | .var i, x, sc, W, X, C, h => by
    simp only [okE] at h
    split at h
    · rename_i y pos
      simp only [Bool.and_eq_true, decide_eq_true_eq, Bool.not_eq_true'] at h
      obtain ⟨⟨⟨h1, h2⟩, h3⟩, h4⟩ := h
      refine ptp C rfl ?_
      refine PE_imp (pe_var (i := i) (by rw [C.N']; exact h1) (vis_of C.sc' h2) h3 h4) fun σ H Q q => ?_
      obtain ⟨η, env, s, av, ab, p⟩ := q
      simp only [evE] at p
      split at p
      · rename_i w hw
        obtain ⟨v, e, r⟩ := av.at' i w hw
        exact ⟨v, e, p.ok ab r⟩
      · exact p.elim
    · cases h
  | .c d, x, sc, W, X, C, h => by
    simp only [okE] at h
    split at h
    · rename_i k kk pos
      unfold okC at h
      split at h
      · refine ptp C rfl ?_
        refine PE_imp pe_non fun σ H Q q => ?_
        obtain ⟨η, env, s, av, ab, p⟩ := q
        exact p.ok ab .non
      · rename_i b c
        have : b = c := by simpa using h
        subst this
        refine ptp C rfl ?_
        refine PE_imp pe_bl fun σ H Q q => ?_
        obtain ⟨η, env, s, av, ab, p⟩ := q
        exact p.ok ab (.bl _)
      · rename_i b c
        have : b = c := by simpa using h
        subst this
        refine ptp C rfl ?_
        refine PE_imp pe_int fun σ H Q q => ?_
        obtain ⟨η, env, s, av, ab, p⟩ := q
        exact p.ok ab (.int _)
      · rename_i b c
        rw [Bool.and_eq_true] at h
        have : b = c := by simpa using h.1
        subst this
        refine ptp C rfl ?_
        refine PE_imp pe_str fun σ H Q q => ?_
        obtain ⟨η, env, s, av, ab, p⟩ := q
        exact p.ok ab (.str _ h.2)
      · cases h
    · rename_i y pos
      rw [Bool.and_eq_true, List.any_eq_true] at h
      obtain ⟨h1, ⟨y', d'⟩, hm, h2⟩ := h
      rw [Bool.and_eq_true] at h2
      have e1 : y' = y := eq_of_beq h2.1
      have e2 : d' = d := D.same_eq _ _ h2.2
      subst e1 e2
      obtain ⟨hg, hdb⟩ := gl_of C.sc' h1
      obtain ⟨v, u, k1, k2, k3⟩ := C.gcs _ _ hm
      refine ptp C rfl ?_
      refine PE_imp (pe_glob hg k1 k2 hdb) fun σ H Q q => ?_
      obtain ⟨η, env, s, av, ab, p⟩ := q
      exact p.ok ab (k3 _ _)
    · cases h
  | .tup es, x, sc, W, X, C, h => by
    simp only [okE] at h
    split at h
    · refine ptp C rfl ?_
      refine PE_imp (pe_tup (sndEs es _ sc W X C h)) fun σ H Q q => ?_
      obtain ⟨η, env, s, av, ab, p⟩ := q
      refine ⟨η, env, s, av, ab, (Post.bind (Rl := RWs G) p).mono fun vs H' ⟨η', ws, s', st, ab', rl, p'⟩ => ?_⟩
      split at p'
      · rename_i xs hx
        have hr := pures_rds rl hx
        split at p'
        · rename_i hl
          refine ⟨by rw [← hr.length, ← lim_eq]; exact hl, fun q hq => ?_⟩
          obtain ⟨st2, ab2, rd⟩ := new_tup ab' hq hr
          exact p' _ _ _ st2 ab2 rd
        · exact p'.elim
      · exact p'.elim
    · cases h
  | .lst m es, x, sc, W, X, C, h => by
    simp only [okE] at h
    split at h
    · refine ptp C rfl ?_
      refine PE_imp (pe_lst (sndEs es _ sc W X C h)) fun σ H Q q => ?_
      obtain ⟨η, env, s, av, ab, p⟩ := q
      refine ⟨η, env, s, av, ab, (Post.bind (Rl := RWs G) p).mono fun vs H' ⟨η', ws, s', st, ab', rl, p'⟩ => ?_⟩
      split at p'
      · rename_i xs hx
        have hr := pures_rds rl hx
        have hl : xs.length ≤ LIM := by
          unfold newL at p'
          split at p'
          · assumption
          · exact p'.elim
        refine ⟨by rw [← hr.length, ← lim_eq]; exact hl, fun q hq => post_newL ab' hq hr p'⟩
      · exact p'.elim
    · cases h
  | .bin o a b, x, sc, W, X, C, h => by
    simp only [okE] at h
    split at h
    · rename_i y o' z pos
      simp only [Bool.and_eq_true, decide_eq_true_eq] at h
      obtain ⟨⟨h0, h1⟩, h2⟩ := h
      subst h0
      refine ptp C rfl ?_
      refine PE_imp (pe_op (or_bin C.K o) (sndE a y sc W X C h1).1 (sndE b z sc W X C h2).1) fun σ H Q q => ?_
      obtain ⟨η, env, s, av, ab, p⟩ := q
      refine ⟨η, env, s, av, ab, (Post.bind (Rl := RW G) p).mono fun v1 H1 ⟨η1, w1, s1, st1, ab1, r1, p1⟩ => ?_⟩
      refine ⟨η1, env, s1, av.mono st1, ab1, (Post.bind (Rl := RW G) p1).mono fun v2 H2 ⟨η2, w2, s2, st2, ab2, r2, p2⟩ => ?_⟩
      obtain ⟨w, e, p3⟩ := p2.of
      exact ⟨η2, s2, w1, w2, w, ab2, r1.mono st2, r2, e, p3⟩
    · cases h
  | .rep m es k, x, sc, W, X, C, h => by
    simp only [okE] at h
    split at h
    · rename_i xs lp y pos
      rw [Bool.and_eq_true] at h
      refine ptp C rfl ?_
      refine PE_imp (pe_op op_rep (pe_lst (sndEs es xs sc W X C h.1)) (sndE k y sc W X C h.2).1) fun σ H Q q => ?_
      obtain ⟨η, env, s, av, ab, p⟩ := q
      refine ⟨η, env, s, av, ab, (Post.bind (Rl := RWs G) p).mono fun vs H1 ⟨η1, ws, s1, st1, ab1, r1, p1⟩ => ?_⟩
      split at p1
      · rename_i ds hx
        have hr := pures_rds r1 hx
        split at p1
        · rename_i hl
          refine ⟨by rw [← hr.length, ← lim_eq]; exact hl, fun q hq => ?_⟩
          obtain ⟨st2, ab2, rd⟩ := new_lst ab1 hq hr
          have hn := ab1.fresh hq
          refine ⟨η1, env, s1, (av.mono st1).mono st2, ab2, (Post.bind (Rl := RW G) (p1.step st2)).mono fun v2 H2 ⟨η2, w2, s2, st3, ab3, r3, p3⟩ => ?_⟩
          split at p3
          · rename_i i
            split at p3
            · rename_i hi
              obtain ⟨i1, i2, i3⟩ := hi
              refine ⟨q, i, vs, rfl, r3.ints rfl, (st3.le q _ upd_same hn).1, i1, i2, by rw [← hr.length, ← lim_eq]; exact i3, fun l hl2 => ?_⟩
              exact post_newL ab3 hl2 (((hr.mono st2.le).mono st3.le).rep i.toNat) p3
            · exact p3.elim
          · exact p3.elim
        · exact p1.elim
      · exact p1.elim
    · cases h
  | .catm a b, x, sc, W, X, C, h => by
    simp only [okE] at h
    split at h
    · rename_i y z pos
      rw [Bool.and_eq_true] at h
      refine ptp C rfl ?_
      refine PE_imp (pe_op op_catL (sndE a y sc W X C h.1).1 (sndE b z sc W X C h.2).1) fun σ H Q q => ?_
      obtain ⟨η, env, s, av, ab, p⟩ := q
      refine ⟨η, env, s, av, ab, (Post.bind (Rl := RW G) p).mono fun v1 H1 ⟨η1, w1, s1, st1, ab1, r1, p1⟩ => ?_⟩
      refine ⟨η1, env, s1, av.mono st1, ab1, (Post.bind (Rl := RW G) p1).mono fun v2 H2 ⟨η2, w2, s2, st2, ab2, r2, p2⟩ => ?_⟩
      split at p2
      · rename_i xs ys hx hy
        split at p2
        · rename_i hm
          obtain ⟨q1, vs1, e1, hq1, hr1⟩ := RW.list ab2 (r1.mono st2) hx
          obtain ⟨q2, vs2, e2, hq2, hr2⟩ := RW.list ab2 r2 hy
          exact ⟨q1, q2, vs1, vs2, e1, e2, C.K ▸ hq1, C.K ▸ hq2, by rw [← hr1.length, ← hr2.length, ← lim_eq]; exact hm, fun l hl => post_newL ab2 hl (hr1.append hr2) p2⟩
        · exact p2.elim
      · exact p2.elim
    · cases h
  | .neg a, x, sc, W, X, C, h => by
    simp only [okE] at h
    split at h
    · rename_i y pos
      refine ptp C rfl ?_
      refine PE_imp (pe_un un_neg (sndE a y sc W X C h).1) fun σ H Q q => ?_
      obtain ⟨η, env, s, av, ab, p⟩ := q
      refine ⟨η, env, s, av, ab, (Post.bind (Rl := RW G) p).mono fun v1 H1 ⟨η1, w1, s1, st1, ab1, r1, p1⟩ => ?_⟩
      split at p1
      · exact ⟨_, r1.ints rfl, p1.ok ab1 (.int _)⟩
      · exact p1.elim
    · cases h
  | .not a, x, sc, W, X, C, h => by
    simp only [okE] at h
    split at h
    · rename_i y pos
      refine ⟨PE_imp (pe_notT (sndE a y sc W X C h).1) fun σ H Q q => ?_, PT_imp (pt_not (sndE a y sc W X C h).2) fun σ H Q q => ?_⟩
      · obtain ⟨η, env, s, av, ab, p⟩ := q
        refine ⟨η, env, s, av, ab, (Post.bind (Rl := RW G) p).mono fun v1 H1 ⟨η1, w1, s1, st1, ab1, r1, p1⟩ => ?_⟩
        obtain ⟨w, e, p3⟩ := p1.of
        cases ht : truthy w1 s1 with
        | none => rw [ht] at e; cases e
        | some k =>
          rw [ht] at e; cases e
          exact ⟨k, C.K ▸ r1.tru ab1 ht, p3.ok ab1 (.bl _)⟩
      · obtain ⟨η, env, s, av, ab, p⟩ := q
        have e1 : evTst G.P (callN G.P n) (.not a) env s = (evTst G.P (callN G.P n) a env s).bind fun k s => .ok (!k) s := by
          unfold evTst
          simp only [evE, R.bind_assoc]
          congr 1
          funext w s
          cases truthy w s <;> rfl
        rw [e1] at p
        exact ⟨η, env, s, av, ab, (Post.bind (Rl := fun _ _ (a b : Bool) => a = b) p).mono fun k H1 ⟨η1, k', s1, st1, ab1, r1, p1⟩ => by subst r1; exact p1.ok ab1 rfl⟩
    · cases h
  | .bop o es, x, sc, W, X, C, h => by
    simp only [okE] at h
    split at h
    · rename_i o' xs pos
      simp only [Bool.and_eq_true, decide_eq_true_eq, Bool.not_eq_true'] at h
      obtain ⟨⟨⟨h0, h1⟩, h2⟩, h3⟩ := h
      subst h0
      have q := sndBop o es xs pos sc W X C h1 h2 h3
      exact ⟨q.1, q.2.pt⟩
    · cases h
  | .orv a b, x, sc, W, X, C, h => by
    simp only [okE] at h
    split at h
    · rename_i y z pos
      simp only [Bool.and_eq_true] at h
      have qa := sndE a y sc W X C h.1
      have qb := sndE b z sc W X C h.2
      refine ⟨PE_imp (pe_orT qa.1 (pe_one qb.1)) fun σ H Q q => ?_, PT_imp (PW.pt (pw_or qa.2 (pw_or1 qb.2))) fun σ H Q q => ?_⟩
      · obtain ⟨η, env, s, av, ab, p⟩ := q
        refine ⟨η, env, s, av, ab, (Post.bind (Rl := RW G) p).mono fun v1 H1 ⟨η1, w1, s1, st1, ab1, r1, p1⟩ => ?_⟩
        split at p1
        · rename_i ht
          refine ⟨true, C.K ▸ r1.tru ab1 ht, ?_⟩
          rw [if_pos rfl]
          exact p1.ok ab1 r1
        · rename_i ht
          refine ⟨false, C.K ▸ r1.tru ab1 ht, ?_⟩
          rw [if_neg (by simp)]
          exact ⟨η1, env, s1, av.mono st1, ab1, p1⟩
        · exact p1.elim
      · obtain ⟨η, env, s, av, ab, p⟩ := q
        have e1 : evTst G.P (callN G.P n) (.orv a b) env s = (evTst G.P (callN G.P n) a env s).bind fun k s => if k = true then .ok true s else evTst G.P (callN G.P n) b env s := by
          unfold evTst
          simp only [evE, R.bind_assoc]
          congr 1
          funext w s
          cases ht : truthy w s with
          | none => rfl
          | some k => cases k <;> simp [ht]
        rw [e1] at p
        refine ⟨η, env, s, av, ab, (Post.bind (Rl := fun _ _ (a b : Bool) => a = b) p).mono fun k H1 ⟨η1, k', s1, st1, ab1, r1, p1⟩ => ?_⟩
        subst r1
        cases k' with
        | true => rw [if_pos rfl] at p1 ⊢; exact p1.ok ab1 rfl
        | false => rw [if_neg (by simp)] at p1 ⊢; exact ⟨η1, env, s1, av.mono st1, ab1, p1⟩
    · cases h
  | .cmp o a b, x, sc, W, X, C, h => by
    simp only [okE] at h
    split at h
    · rename_i y o' z pos
      simp only [Bool.and_eq_true, decide_eq_true_eq] at h
      obtain ⟨⟨⟨h0, h1⟩, h2⟩, h3⟩ := h
      subst h0
      have hm : behindInMarks o z = false := by
        cases z <;> first | rfl | (simp [notSet] at h1)
      have qa := sndE a y sc W X C h2
      have qb := sndE b z sc W X C h3
      have hu : X.A.units + 65 < cLine := by have := C.room.un; omega
      have ho := or_cmp (G := G) C.K hu o
      have core : ∀ {σ : L2.St} {H : Hp} {Q : VK}, tE G W (callN G.P n) (.cmp o a b) σ H Q → tOp (rCmp G o) (tE G W (callN G.P n) a) (tE G W (callN G.P n) b) σ H Q := fun {σ H Q} q => by
        obtain ⟨η, env, s, av, ab, p⟩ := q
        refine ⟨η, env, s, av, ab, (Post.bind (Rl := RW G) p).mono fun v1 H1 ⟨η1, w1, s1, st1, ab1, r1, p1⟩ => ?_⟩
        refine ⟨η1, env, s1, av.mono st1, ab1, (Post.bind (Rl := RW G) p1).mono fun v2 H2 ⟨η2, w2, s2, st2, ab2, r2, p2⟩ => ?_⟩
        rw [cmpC_own C.own] at p2
        obtain ⟨w, e, p3⟩ := p2.of
        cases hc : cmpop o w1 w2 s2 with
        | none => rw [hc] at e; cases e
        | some k =>
          rw [hc] at e; cases e
          exact ⟨η2, s2, w1, w2, k, ab2, r1.mono st2, r2, hc, p3.ok ab2 (.bl _)⟩
      refine ⟨PE_imp (pe_cmpR ho qa.1 qb.1 hm) fun σ H Q q => core q, PT_imp (pt_cmpR ho qa.1 qb.1 hm) fun σ H Q q => core (tE_of_tB (fun env s w s' e => ?_) q)⟩
      simp only [evE] at e
      cases h1 : evE G.P (callN G.P n) a env s with
      | ok w1 s1 =>
        rw [h1, R.bind_ok] at e
        cases h2 : evE G.P (callN G.P n) b env s1 with
        | ok w2 s2 =>
          rw [h2, R.bind_ok, cmpC_own C.own] at e
          cases h3 : cmpop o w1 w2 s2 with
          | none => rw [h3] at e; cases e
          | some k => rw [h3] at e; cases e; exact ⟨k, rfl⟩
        | err => rw [h2] at e; cases e
        | stuck => rw [h2] at e; cases e
      | err => rw [h1] at e; cases e
      | stuck => rw [h1] at e; cases e
    · cases h
  | .chain a o1 b o2 c, x, sc, W, X, C, h => by
    simp only [okE] at h
    split at h
    · rename_i y p1 p2 z w pos
      simp only [Bool.and_eq_true, decide_eq_true_eq] at h
      obtain ⟨⟨⟨⟨⟨⟨⟨⟨h0, h00⟩, _⟩, _⟩, h1⟩, h2⟩, h3⟩, h4⟩, h5⟩ := h
      subst h0
      subst h00
      have hm : lastMarks [o1, o2] [z, w] = false := by
        cases w <;> first | rfl | (simp [notSet] at h2)
      have qa := sndE a y sc W X C h3
      have qb := sndE b z sc W X C h4
      have qc := sndE c w sc W X C h5
      have hu : X.A.units + 65 < cLine := by have := C.room.un; omega
      have ho1 := or_cmp (G := G) C.K hu o1
      have ho2 := or_cmp (G := G) C.K hu o2
      have core : ∀ {σ : L2.St} {H : Hp} {Q : VK}, tE G W (callN G.P n) (.chain a o1 b o2 c) σ H Q → tChain (rCmp G o1) (rCmp G o2) (tE G W (callN G.P n) a) (tE G W (callN G.P n) b) (tE G W (callN G.P n) c) σ H Q := fun {σ H Q} q => by
        obtain ⟨η, env, s, av, ab, p⟩ := q
        refine ⟨η, env, s, av, ab, (Post.bind (Rl := RW G) p).mono fun v1 H1 ⟨η1, w1, s1, st1, ab1, r1, p1⟩ => ?_⟩
        refine ⟨η1, env, s1, av.mono st1, ab1, (Post.bind (Rl := RW G) p1).mono fun v2 H2 ⟨η2, w2, s2, st2, ab2, r2, p2⟩ => ?_⟩
        cases hc : cmpop o1 w1 w2 s2 with
        | none => rw [hc] at p2; exact p2.elim
        | some k =>
          rw [hc] at p2
          refine ⟨η2, s2, w1, w2, k, ab2, r1.mono st2, r2, hc, k, rfl, ?_⟩
          cases k with
          | false => rw [if_neg (by simp)]; exact Post.ok (Rl := RW G) p2 ab2 (.bl _)
          | true =>
            rw [if_pos rfl]
            refine ⟨η2, env, s2, (av.mono st1).mono st2, ab2, (Post.bind (Rl := RW G) p2).mono fun v3 H3 ⟨η3, w3, s3, st3, ab3, r3, p3⟩ => ?_⟩
            obtain ⟨w', e', p4⟩ := p3.of
            cases hc2 : cmpop o2 w2 w3 s3 with
            | none => rw [hc2] at e'; cases e'
            | some k2 =>
              rw [hc2] at e'; cases e'
              exact ⟨η3, s3, w2, w3, k2, ab3, r2.mono st3, r3, hc2, p4.ok ab3 (.bl _)⟩
      refine ⟨PE_imp (pe_chain ho1 ho2 qa.1 qb.1 qc.1 hm) fun σ H Q q => core q, PT_imp (pt_chain ho1 ho2 qa.1 qb.1 qc.1 hm) fun σ H Q q => core ?_⟩
      refine tE_of_tB (fun env s w s' e => ?_) q
      simp only [evE] at e
      cases g1 : evE G.P (callN G.P n) a env s with
      | ok w1 s1 =>
        rw [g1, R.bind_ok] at e
        cases g2 : evE G.P (callN G.P n) b env s1 with
        | ok w2 s2 =>
          rw [g2, R.bind_ok] at e
          cases g3 : cmpop o1 w1 w2 s2 with
          | none => rw [g3] at e; cases e
          | some k =>
            rw [g3, R.of_some, R.bind_ok] at e
            cases k with
            | false => cases e; exact ⟨_, rfl⟩
            | true =>
              rw [if_pos rfl] at e
              cases g4 : evE G.P (callN G.P n) c env s2 with
              | ok w3 s3 =>
                rw [g4, R.bind_ok] at e
                cases g5 : cmpop o2 w2 w3 s3 with
                | none => rw [g5] at e; cases e
                | some k => rw [g5] at e; cases e; exact ⟨k, rfl⟩
              | err => rw [g4] at e; cases e
              | stuck => rw [g4] at e; cases e
        | err => rw [g2] at e; cases e
        | stuck => rw [g2] at e; cases e
      | err => rw [g1] at e; cases e
      | stuck => rw [g1] at e; cases e
    · cases h
  | .ite c a b, x, sc, W, X, C, h => by
    simp only [okE] at h
    split at h
    · rename_i y z w pos
      simp only [Bool.and_eq_true] at h
      obtain ⟨⟨h1, h2⟩, h3⟩ := h
      have qc := sndE c y sc W X C h1
      have qa := sndE a z sc W X C h2
      have qb := sndE b w sc W X C h3
      have e0 : ∀ env s, evE G.P (callN G.P n) (.ite c a b) env s = (evTst G.P (callN G.P n) c env s).bind fun k s => if k = true then evE G.P (callN G.P n) a env s else evE G.P (callN G.P n) b env s := fun env s => by
        unfold evTst
        simp only [evE, R.bind_assoc]
        congr 1
        funext w1 s1
        cases truthy w1 s1 with
        | none => rfl
        | some k => cases k <;> rfl
      refine ⟨PE_imp (pe_ifExp qc.2 qa.1 qb.1) fun σ H Q q => ?_, PT_imp (pt_ifExp qc.2 qa.2 qb.2) fun σ H Q q => ?_⟩
      · obtain ⟨η, env, s, av, ab, p⟩ := q
        rw [e0] at p
        refine ⟨η, env, s, av, ab, (Post.bind (Rl := fun _ _ (a b : Bool) => a = b) p).mono fun k H1 ⟨η1, k', s1, st1, ab1, r1, p1⟩ => ?_⟩
        subst r1
        cases k' with
        | true => rw [if_pos rfl] at p1 ⊢; exact ⟨η1, env, s1, av.mono st1, ab1, p1⟩
        | false => rw [if_neg (by simp)] at p1 ⊢; exact ⟨η1, env, s1, av.mono st1, ab1, p1⟩
      · obtain ⟨η, env, s, av, ab, p⟩ := q
        unfold evTst at p
        rw [e0, R.bind_assoc] at p
        refine ⟨η, env, s, av, ab, (Post.bind (Rl := fun _ _ (a b : Bool) => a = b) p).mono fun k H1 ⟨η1, k', s1, st1, ab1, r1, p1⟩ => ?_⟩
        subst r1
        cases k' with
        | true => rw [if_pos rfl] at p1 ⊢; exact ⟨η1, env, s1, av.mono st1, ab1, p1⟩
        | false => rw [if_neg (by simp)] at p1 ⊢; exact ⟨η1, env, s1, av.mono st1, ab1, p1⟩
    · cases h
  | .call f es, x, sc, W, X, C, h => by
    simp only [okE] at h
    split at h
    · rename_i y p0 xs pos
      simp only [Bool.and_eq_true, beq_iff_eq] at h
      obtain ⟨⟨⟨⟨hf, h0⟩, h1⟩, h2⟩, h3⟩ := h
      subst h0
      obtain ⟨hg, hdb⟩ := gl_of C.sc' h1
      obtain ⟨a, hm, hk, F⟩ := C.fns f hf
      have hr : Room (lvl n) X.A := C.room.mono (Nat.le_succ _)
      have fin : ∀ {σ : L2.St} {H : Hp} {Q : VK} {ws : List FT.W} {vs : List V} {η : Et} {s : S}, AbsS G H η s → RWs G H η ws vs → Post G (fun c d => W c d σ) (RW G) H η (callN G.P n f ws s) Q → spF G n f vs H Q (WE W σ) := fun ab r p => ⟨_, _, _, ab, r, p⟩
      refine ptp C rfl ?_
      cases xs with
      | nil =>
        refine PE_imp (pe_callF0 (p := p0) (pos := pos) F hr hg hm hk (passAt C.tk) hdb) fun σ H Q q => ?_
        obtain ⟨η, env, s, av, ab, p⟩ := q
        cases es with
        | nil => exact fin ab .nil p
        | cons => simp [okEs] at h3
        | star => simp [okEs] at h3
      | cons e1 xs =>
        refine PE_imp (pe_callF (p := p0) (pos := pos) F hr hg hm hk (passAt C.tk) (sndEs es _ sc W X C h3) hdb h2) fun σ H Q q => ?_
        obtain ⟨η, env, s, av, ab, p⟩ := q
        exact ⟨η, env, s, av, ab, (Post.bind (Rl := RWs G) p).mono fun vs H1 ⟨η1, ws, s1, st1, ab1, r1, p1⟩ => fin ab1 r1 p1⟩
    · cases h
  | .bi f es, x, sc, W, X, C, h => by
    simp only [okE] at h
    split at h
    · rename_i y p0 xs pos
      simp only [Bool.and_eq_true, beq_iff_eq, decide_eq_true_eq, Bool.not_eq_true'] at h
      obtain ⟨⟨⟨⟨⟨h0, h1⟩, hf⟩, hn⟩, h2⟩, h3⟩ := h
      subst h0
      obtain ⟨hg, hdb⟩ := gl_of C.sc' h1
      refine ptp C rfl ?_
      cases xs with
      | nil => cases hn
      | cons e1 xs =>
        rw [List.all_cons, Bool.and_eq_true] at h2
        refine PE_imp (pe_bi (p := p0) (pos := pos) C f hf hg hdb (sndEs es _ sc W X C h3) (star_cons h2.1) (star_none h2.2)) fun σ H Q q => ?_
        obtain ⟨η, env, s, av, ab, p⟩ := q
        refine ⟨η, env, s, av, ab, (Post.bind (Rl := RWs G) p).mono fun vs H1 ⟨η1, ws, s1, st1, ab1, r1, p1⟩ => ?_⟩
        rw [builtinC_own C.own] at p1
        obtain ⟨w, e, p3⟩ := p1.of
        cases hc : builtin f ws s1 with
        | none => rw [hc] at e; cases e
        | some d =>
          rw [hc] at e; cases e
          exact ⟨η1, s1, ws, d, ab1, r1, hc, p3⟩
    · cases h
  | .callk f es ks kes perm, x, sc, W, X, C, h => by
    simp only [okE] at h
    split at h
    · rename_i y p0 xs kws pos
      simp only [Bool.and_eq_true, beq_iff_eq, decide_eq_true_eq] at h
      obtain ⟨⟨⟨⟨⟨⟨hke, h0⟩, h1⟩, h2⟩, h3⟩, h4⟩, h5⟩ := h
      subst h0
      obtain ⟨hg, hdb⟩ := gl_of C.sc' h1
      obtain ⟨a, fd, ps, g, gV, hm, hk, F, hb, hp⟩ := C.kws f _ h5
      have hr : Room (lvl n) X.A := C.room.mono (Nat.le_succ _)
      have qs := sndEs es xs sc W X C h3
      have qk := sndKs kes kws sc W X C h4
      refine ptp C rfl ⟨fun pins sh σ H Q I q => ?_⟩
      obtain ⟨s1, s2, s3⟩ := kw_some h4 (env := X.env) (pos := pos)
      refine wpAny_Call_Name_kw (ld_glob I hg hm ?_ hdb)
      obtain ⟨η, env, s, av, ab, p⟩ := q
      have fin : ∀ {sh1 : Shared} {H1 : Hp} {η1 : Et} {st1 : S} {us : List Value} {vs : List V} {ws : List FT.W}, Inv X pins σ H1 sh1 → AbsV G H1 η1 env σ → AbsS G H1 η1 st1 → Vals vs us → RWs G H1 η1 ws vs → ws.length = xs.length →
          Post G (fun c d => W c d σ) (RW G) H1 η1 ((evEs G.P (callN G.P n) kes env st1).bind fun zs s => match pick (ws ++ zs) perm with
            | some us => callN G.P n f us s
            | none => .stuck) Q → wpAny (model X.prog X.w) X.A (evalAll ((backToKw pos (keywordEach kws X.env)).map (·.2))) (fun ks s₂ => X.K.In s₂.heap ∧ wpAny (model X.prog X.w) X.A (call (.ref a) ([] ++ us) (((backToKw pos (keywordEach kws X.env)).filterMap (·.1)).zip ks)) (EP X pins σ Q) X.xe s₂) X.xe sh1 :=
        fun {sh1 H1 η1 st1 us vs ws} I1 av1 ab1 r1 rw1 hl p1 => by
          refine thn (qk.run pos pins sh1 σ H1 (fun zs H2 => ∃ η2 ws2 s2, Step H1 η1 H2 η2 ∧ AbsS G H2 η2 s2 ∧ RWs G H2 η2 ws2 zs ∧ ws2.length = kws.length ∧ Post G (fun c d => W c d σ) (RW G) H2 η2 (match pick (ws ++ ws2) perm with
            | some us => callN G.P n f us s2
            | none => .stuck) Q) I1 ⟨η1, env, st1, av1, ab1, (Post.ran (Rl := RWs G) p1).mono fun zs H2 ⟨η2, ws2, s2, e2, st2, ab2, r2, p2⟩ => ⟨η2, ws2, s2, st2, ab2, r2, kes_len h4 e2, p2⟩⟩) fun wv sh2 ⟨zs, H2, I2, rz, η2, ws2, st2', stp, ab2, rw2, l2, p2⟩ => ⟨I2.kIn, ?_⟩
          rw [s3]
          split at p2
          · rename_i us2 hpk
            obtain ⟨xs2, e2, r2⟩ := ((rw1.mono stp).append rw2).pick hpk
            refine run_FK F hr hb (passAt C.tk σ) I2 r1 rz (by rw [← rw1.length]; exact hl) (by rw [← rw2.length, l2]; exact (kw_len h4).symm) ?_
            rw [hp vs zs xs2 (by rw [← rw1.length]; exact hl) (by rw [← rw2.length, l2]; exact (kw_len h4).symm) e2]
            exact ⟨η2, st2', us2, ab2, r2, p2⟩
          · exact p2.elim
      cases xs with
      | nil =>
        refine PySem.W.callWith_KW0 (h₀ := X.base) I.ok.mod.kin hk s1 ?_ (by rw [s2]; rfl)
        have hes : es = .nil := by
          cases es with
          | nil => rfl
          | cons => simp [okEs] at h3
          | star => simp [okEs] at h3
        subst hes
        exact fin I av ab .nil .nil rfl p
      | cons e1 xs =>
        have hs := h2
        rw [List.all_cons, Bool.and_eq_true] at hs
        refine PySem.W.callWith_KW (h₀ := X.base) I.ok.mod.kin hk s1 (thn (qs.run pos pins sh σ H (fun vs H1 => ∃ η1 ws st1, AbsV G H1 η1 env σ ∧ AbsS G H1 η1 st1 ∧ RWs G H1 η1 ws vs ∧ ws.length = (e1 :: xs).length ∧ Post G (fun c d => W c d σ) (RW G) H1 η1 ((evEs G.P (callN G.P n) kes env st1).bind fun zs s => match pick (ws ++ zs) perm with
            | some us => callN G.P n f us s
            | none => .stuck) Q) I ⟨η, env, s, av, ab, (Post.ran (Rl := RWs G) p).mono fun vs H1 ⟨η1, ws, st1, e1', stp, ab1, r1, p1⟩ => ⟨η1, ws, st1, av.mono stp, ab1, r1, evEs_len h3 h2 e1', p1⟩⟩) fun us sh1 ⟨vs, H1, I1, r1, η1, ws, st1, av1, ab1, rw1, hl, p1⟩ => fin I1 av1 ab1 r1 rw1 hl p1) (by rw [s2, Bool.or_false, star_cons hs.1]; exact star_any hs.2) (star_cons hs.1)
    · cases h
  | .mk c es kes perm, x, sc, W, X, C, h => by
    have hp : plainTst x = true := by
      simp only [okE] at h
      split at h
      · rfl
      · cases h
    exact ptp C hp (mk_val C h (fun xs hx => sndEs es xs sc W X C hx) fun kws hx => sndKs kes kws sc W X C hx)
  | .smeth c m es, x, sc, W, X, C, h => by simp [okE] at h
  | .isi a tys, x, sc, W, X, C, h => by
    simp only [okE] at h
    split at h
    · rename_i y p0 z w pos
      simp only [Bool.and_eq_true, beq_iff_eq] at h
      obtain ⟨⟨⟨⟨⟨h0, h1⟩, h2⟩, h3⟩, h4⟩, h5⟩ := h
      subst h0
      obtain ⟨hg, hdb⟩ := gl_of C.sc' h1
      have hm : X.mg ("isinstance" : Str) = none := C.blt 11
      have qa := (sndE a z sc W X C h4).1
      refine ptp C rfl ?_
      have core : ∀ {tw : TE}, PE X w tw → (∀ {σ : L2.St} {H : Hp} {η : Et} {s : S} {wv : FT.W} {x : V} {b : Bool} {Q : VK}, AbsS G H η s → RW G H η wv x → isAny G.P wv s tys = some b → (∀ {H' : Hp} {η' : Et}, Step H η H' η' → AbsS G H' η' s → Q (.bl b) H') → tw σ H fun c H2 => rIsG G tys [x, c] H2 Q) →
          PE X (.Call (.Name ("isinstance" : Str) p0) [z, w] [] pos) (tE G W (callN G.P n) (.isi a tys)) := fun {tw} pw hw => by
        refine PE_imp (pe_callB (isi_g C.kt C.K tys) hg hm PyProof.Rows.boot_isinstance (pa_cons qa (pa_cons pw pa_nil (star_cons h3)) (star_cons h2)) (by decide) hdb (star_cons h2) (star_none (es := [w]) (by simp [h3]))) fun σ H Q q => ?_
        obtain ⟨η, env, s, av, ab, p⟩ := q
        refine ⟨η, env, s, av, ab, (Post.bind (Rl := RW G) p).mono fun v1 H1 ⟨η1, w1, s1, st1, ab1, r1, p1⟩ => ?_⟩
        obtain ⟨wd, e, p3⟩ := p1.of
        cases hc : isAny G.P w1 s1 tys with
        | none => rw [hc] at e; cases e
        | some b =>
          rw [hc] at e; cases e
          exact hw ab1 r1 hc fun st2 ab2 => p3 _ _ _ st2 ab2 (.bl b)
      unfold okTy at h5
      split at h5
      · rename_i xs kk tp
        rw [Bool.and_eq_true] at h5
        obtain ⟨vs, us, ks, ps⟩ := pa_cls C h5.2
        refine core (pe_tup ps) fun {σ H η s wv x b Q} ab r hb k => ?_
        have hl : vs.length = xs.length := by
          have : ∀ {ts : List (Bool × Nat)} {vs : List V} {us : List Value} {xs : List Expr}, TyVs G ts vs us → okTys M sc ts xs = true → vs.length = xs.length := fun {ts vs us xs} a b => by
            induction a generalizing xs with
            | nil => cases xs with
              | nil => rfl
              | cons => simp [okTys] at b
            | cons _ _ ih => cases xs with
              | nil => simp [okTys] at b
              | cons => rw [okTys, Bool.and_eq_true] at b; rw [List.length_cons, List.length_cons, ih b.2]
          exact this ks h5.2
        refine ⟨?_, fun q hq => ?_⟩
        · rw [hl, ← okTys_len h5.2]
          have h9 : tys.length < 100 := by simpa using (Bool.and_eq_true_iff.mp h5.1).2
          have : (100 : Nat) ≤ sizeLine := by decide +kernel
          omega
        · have st : Step H η (upd H q (.tup vs)) η := Step.laid hq (ab.fresh hq)
          have ab2 : AbsS G (upd H q (.tup vs)) η s := ab.laid hq
          refine ⟨η, s, wv, x, .ref q, b, rfl, ab2, r.mono st, hb, k st ab2, .inr ⟨?_, q, vs, us, rfl, upd_same, ks⟩⟩
          intro z
          rw [z] at h5
          simp at h5
      · rename_i hnt
        cases tys with
        | nil => simp [okTys] at h5
        | cons t ts => cases ts with
          | cons => simp [okTys] at h5
          | nil =>
            rw [okTys, Bool.and_eq_true] at h5
            obtain ⟨v, u, k, p, hs⟩ := pe_cls C h5.1
            exact core p fun {σ H η s wv x b Q} ab r hb kk => ⟨η, s, wv, x, v, b, rfl, ab, r, hb, kk (Step.refl _ _) ab, .inl ⟨t, u, rfl, k⟩⟩
    · cases h
  | .meth m o es, x, sc, W, X, C, h => by
    simp only [okE] at h
    split at h
    · rename_i z nm ap xs cp
      simp only [Bool.and_eq_true, beq_iff_eq, decide_eq_true_eq] at h
      obtain ⟨⟨⟨⟨⟨⟨⟨h1, hm⟩, h2⟩, h3⟩, h4⟩, h5⟩, h6⟩, h7⟩ := h
      subst h1
      have qo := (sndE o z sc W X C h4).1
      have qs := sndEs es xs sc W X C h5
      refine ptp C rfl ?_
      by_cases hmo : mtOk m = true
      case neg =>
        rw [if_neg hmo]
        have h100 : 100 ≤ m := by
          have e0 : mtOk m = false := by simpa using hmo
          rw [e0, Bool.false_or] at hm
          exact of_decide_eq_true hm
        have core : ∀ {σ : L2.St} {H : Hp} {Q : VK}, tE G W (callN G.P n) (.meth m o es) σ H Q → tE G W (callN G.P n) o σ H fun v H1 => ∃ a C0 dx vs ga g w, v = .ref a ∧ Slt H1 a C0 dx vs ∧ SCls X.K C0 ∧ Meth X.K C0 (M.mtn m) ga ∧ FnR X.prog X.w X.K X.mg X.base (L2.CX X.prog X.w) (lvl n) ga (spF G n g) ∧ tEs G W (callN G.P n) es σ H1 fun us H2 => spF G n g (v :: us) H2 Q (WE W σ) := fun {σ H Q} q => by
          obtain ⟨η, env, s, av, ab, p⟩ := q
          refine ⟨η, env, s, av, ab, (Post.bind (Rl := RW G) p).mono fun v1 H1 ⟨η1, w1, s1, st1, ab1, r1, p1⟩ => ?_⟩
          rw [if_neg hmo] at p1
          split at p1
          · rename_i Cl hCl
            rw [Option.bind_eq_some_iff] at hCl
            obtain ⟨c, hc1, hc2⟩ := hCl
            split at p1
            · exact p1.elim
            · rename_i hE
              have hE' : Cl.isExc = false ∧ isExcW w1 = false := by simpa using hE
              obtain ⟨hE, hX⟩ := hE'
              split at p1
              · rename_i g hg
                obtain ⟨a, A, dx, vs, e1, e2, e3⟩ := slt_of ab1 r1 hc1 hc2 hE fun ds z => by rw [z] at hX; cases hX
                obtain ⟨ga, k1, k2⟩ := C.mths c Cl A m g hc2 hE e2 hg h100
                refine ⟨a, A, dx, vs, ga, g, w1, e1, e3, C.K ▸ (C.kt.ins c Cl A hc2 hE e2).1, k1, k2, η1, env, s1, av.mono st1, ab1, (Post.bind (Rl := RWs G) p1).mono fun us H2 ⟨η2, ws, s2, st2, ab2, r2, p2⟩ => ?_⟩
                exact ⟨η2, s2, w1 :: ws, ab2, .cons (r1.mono st2) r2, p2⟩
              · exact p1.elim
          · exact p1.elim
        have hr : Room (lvl n) X.A := C.room.mono (Nat.le_succ _)
        refine ⟨fun pins sh σ H Q I q => ?_⟩
        refine PySem.W.methodCall_KW (pl := ?pl) (thn (qo.run pins sh σ H _ I (core q)) fun u s1 ⟨x, H1, I1, rx, a, C0, dx, vs, ga, g, w, ex, hsl, hcl, hme, F, q1⟩ => ?_) ?ht
        case ht => exact own_call (base_ok h2) (few_ok h6 h7) (by simpa using h3)
        subst ex
        obtain rfl : u = Value.ref a := rx
        refine getmethsl_ok I1 hsl hcl hme ?_
        cases xs with
        | nil =>
          obtain ⟨η2, env2, s2, av2, ab2, p2⟩ := q1
          have hes : es = .nil := by
            cases es with
            | nil => rfl
            | cons => simp [okEs] at h5
            | star => simp [okEs] at h5
          subst hes
          exact PySem.W.callWith_K0 (first := [.ref a]) I1.kIn hme.kp (run_F (us := [.ref a]) (vs := [.ref a]) F hr (passAt C.tk σ) I1 (.cons rfl .nil) (p2.ok ab2 .nil))
        | cons e1 xs =>
          have hs := h6
          rw [List.all_cons, Bool.and_eq_true] at hs
          refine PySem.W.callWith_K (first := [.ref a]) (h₀ := X.base) I1.ok.mod.kin hme.kp (thn (qs.run cp pins s1 σ H1 _ I1 q1) fun us s2 ⟨ws, H2, I2, r, q2⟩ => ⟨I2.kIn, ?_⟩) (star_cons hs.1) (star_none hs.2)
          exact run_F (us := .ref a :: us) (vs := .ref a :: ws) F hr (passAt C.tk σ) I2 (.cons rfl r) q2
      case pos =>
        rw [if_pos hmo]
        obtain ⟨sl, hty⟩ := mt_slot m hmo
        have fin : ∀ {σ : L2.St} {H : Hp} {Q : VK} {w : FT.W} {x : V} {η : Et} {env : Env} {s : S}, AbsV G H η env σ → AbsS G H η s → RW G H η w x → Post G (fun c d => W c d σ) (RW G) H η (if recvOk m w s then (evEs G.P (callN G.P n) es env s).bind fun ws s => (match method m w ws s with
              | some (x, s) => .ok (.d x) s
              | none => .stuck) else .stuck) Q → tyV X.K (mtT m) x H ∧ tEs G W (callN G.P n) es σ H fun xs H2 => rMt G m x xs H2 Q := fun {σ H Q w x η env s} av ab r p => by
          split at p
          · rename_i hrc
            refine ⟨ty_recv C.K ab r hrc, η, env, s, av, ab, (Post.bind (Rl := RWs G) p).mono fun vs H1 ⟨η1, ws, s1, st1, ab1, r1, p1⟩ => ?_⟩
            split at p1
            · rename_i d s2 hmt
              exact ⟨η1, s1, w, ws, d, s2, ab1, r.mono st1, r1, hmt, fun v H2 η2 st2 ab2 rd => p1 v H2 η2 st2 ab2 rd⟩
            · exact p1.elim
          · exact p.elim
        cases xs with
        | nil =>
          refine PE_imp (pe_bm0 (apos := ap) (cpos := cp) (mt_pa m) sl hty (mt_g C.K m hmo) qo (base_ok h2) (by simpa using h3)) fun σ H Q q => ?_
          obtain ⟨η, env, s, av, ab, p⟩ := q
          refine ⟨η, env, s, av, ab, (Post.bind (Rl := RW G) p).mono fun v1 H1 ⟨η1, w1, s1, st1, ab1, r1, p1⟩ => ?_⟩
          rw [if_pos hmo] at p1
          obtain ⟨g1, η2, env2, s2, av2, ab2, g2⟩ := fin (av.mono st1) ab1 r1 p1
          cases es with
          | nil => exact ⟨g1, g2.ok ab2 .nil⟩
          | cons => simp [okEs] at h5
          | star => simp [okEs] at h5
        | cons e1 xs =>
          have hs := h6
          rw [List.all_cons, Bool.and_eq_true] at hs
          refine PE_imp (pe_bm (apos := ap) (cpos := cp) (mt_pa m) sl hty (mt_g C.K m hmo) qo qs (base_ok h2) ?_ (by simpa using h3) (star_cons hs.1) (star_none hs.2)) fun σ H Q q => ?_
          · exact few_ok h6 h7
          · obtain ⟨η, env, s, av, ab, p⟩ := q
            refine ⟨η, env, s, av, ab, (Post.bind (Rl := RW G) p).mono fun v1 H1 ⟨η1, w1, s1, st1, ab1, r1, p1⟩ => ?_⟩
            rw [if_pos hmo] at p1
            exact fin (av.mono st1) ab1 r1 p1
    · cases h
  | .attr o f, x, sc, W, X, C, h => by
    simp only [okE] at h
    split at h
    · rename_i z nm pos
      simp only [Bool.and_eq_true, beq_iff_eq] at h
      obtain ⟨⟨h1, h2⟩, h3⟩ := h
      subst h2
      have qo := (sndE o z sc W X C h3).1
      refine ptp C rfl ⟨fun pins sh σ H Q I q => ?_⟩
      refine attr_of (base_ok h1) (thn (qo.run pins sh σ H (fun v H1 => ∃ η1 w1 s1, AbsS G H1 η1 s1 ∧ RW G H1 η1 w1 v ∧ Post G (fun c d => W c d σ) (RW G) H1 η1 (attrOf G.P (callN G.P n) w1 f s1) Q) I ?_) fun u s1 ⟨v, H1, I1, r1, η1, w1, s2, ab1, rw1, p1⟩ => ?_)
      · obtain ⟨η, env, s, av, ab, p⟩ := q
        exact ⟨η, env, s, av, ab, (Post.bind (Rl := RW G) p).mono fun v1 H1 ⟨η1, w1, s1, st1, ab1, r1, p1⟩ => ⟨η1, w1, s1, ab1, r1, p1⟩⟩
      · unfold attrOf at p1
        split at p1
        · rename_i Cl hCl
          split at p1
          · rename_i hE
            rw [Option.bind_eq_some_iff] at hCl
            obtain ⟨c, hc1, hc2⟩ := hCl
            split at p1
            · rename_i i hi
              obtain ⟨w', e, p3⟩ := p1.of
              cases hf : fieldAt w1 i s2 with
              | none => rw [hf] at e; cases e
              | some d =>
                rw [hf] at e; cases e
                exact fld_g C.kt C.K I1 r1 ab1 rw1 hc1 hc2 hi hE hf fun v' rv => p3.ok ab1 rv
            · rename_i g hi
              split at p1
              · exact p1.elim
              · rename_i hE2
                have hE2 : Cl.isExc = false := by simpa using hE2
                obtain ⟨a, A, dx, vs, e1, e2, e3⟩ := slt_of ab1 rw1 hc1 hc2 hE2 fun ds z => by rw [z, hE2] at hE; cases hE
                obtain ⟨p, ga, k1, k2, k3, k4, F⟩ := C.props c Cl A f g hc2 hE2 e2 hi
                subst e1
                obtain rfl : u = Value.ref a := r1
                exact getprop_sl (E := fun _ _ _ => False) I1 e3 (C.K ▸ (C.kt.ins c Cl A hc2 hE2 e2).1) k1 k2 k3 k4 F C.room (fun _ _ _ _ ⟨_, _, _, _, _, _, _, _, _, _, _, _, z⟩ => z) ⟨η1, s2, [w1], ab1, .cons rw1 .nil, p1.calm⟩
            · exact p1.elim
          · exact p1.elim
        · exact p1.elim
    · cases h
  | .idx o i, x, sc, W, X, C, h => by
    simp only [okE] at h
    split at h
    · rename_i y z pos
      simp only [Bool.and_eq_true] at h
      obtain ⟨⟨h1, h2⟩, h3⟩ := h
      refine ptp C rfl ?_
      refine PE_imp (pe_ix (ix_g C.K) (sndE o y sc W X C h2).1 (sndE i z sc W X C h3).1 (fun a b => by cases z <;> first | rfl | (simp [notSlice] at h1))) fun σ H Q q => ?_
      obtain ⟨η, env, s, av, ab, p⟩ := q
      refine ⟨η, env, s, av, ab, (Post.bind (Rl := RW G) p).mono fun v1 H1 ⟨η1, w1, s1, st1, ab1, r1, p1⟩ => ?_⟩
      refine ⟨η1, env, s1, av.mono st1, ab1, (Post.bind (Rl := RW G) p1).mono fun v2 H2 ⟨η2, w2, s2, st2, ab2, r2, p2⟩ => ?_⟩
      unfold indexC at p2
      rw [C.own] at p2
      obtain ⟨w, e, p3⟩ := p2.of
      cases hi : index w1 w2 s2 with
      | none => rw [hi] at e; cases e
      | some d => rw [hi] at e; cases e; exact ⟨η2, s2, w1, w2, d, ab2, r1.mono st2, r2, hi, fun v rv => p3.ok ab2 rv⟩
    · cases h
  | .slice o lo hi, x, sc, W, X, C, h => by
    simp only [okE] at h
    split at h
    · rename_i y l u p2 pos
      simp only [Bool.and_eq_true] at h
      obtain ⟨⟨h1, h2⟩, h3⟩ := h
      refine ptp C rfl ?_
      refine PE_imp (pe_slice (sl_g C.K) (sndE o y sc W X C h1).1 (sndO lo l sc W X C h2) (sndO hi u sc W X C h3)) fun σ H Q q => ?_
      obtain ⟨η, env, s, av, ab, p⟩ := q
      refine ⟨η, env, s, av, ab, (Post.bind (Rl := RW G) p).mono fun v1 H1 ⟨η1, w1, s1, st1, ab1, r1, p1⟩ => ?_⟩
      refine ⟨η1, env, s1, av.mono st1, ab1, (Post.bind (Rl := fun _ _ (a b : Option Int) => a = b) p1).mono fun v2 H2 ⟨η2, w2, s2, st2, ab2, r2, p2⟩ => ?_⟩
      refine ⟨η2, env, s2, (av.mono st1).mono st2, ab2, (Post.bind (Rl := fun _ _ (a b : Option Int) => a = b) p2).mono fun v3 H3 ⟨η3, w3, s3, st3, ab3, r3, p3⟩ => ?_⟩
      subst r2 r3
      obtain ⟨w, e, p4⟩ := p3.of
      unfold sliceOf at e
      cases hv : val w1 s3 with
      | none => rw [hv] at e; cases e
      | some z =>
        rw [hv, Option.bind_some] at e
        cases hd : cutD z w2 w3 with
        | none => rw [hd] at e; cases e
        | some d => rw [hd] at e; cases e; exact ⟨η3, s3, w1, z, d, ab3, (r1.mono st2).mono st3, hv, hd, fun v H4 η4 st4 ab4 rd => p4 v H4 η4 st4 ab4 rd⟩
    · cases h
  | .comp m elt tg it cond own, x, sc, W, X, C, h => by
    simp only [okE] at h
    split at h
    · rename_i e1 tg1 it1 ifs scope pos
      simp only [Bool.and_eq_true, decide_eq_true_eq] at h
      obtain ⟨⟨⟨⟨⟨⟨h1, h2⟩, h3⟩, h4⟩, h5⟩, h6⟩, h7⟩ := h
      refine ptp C rfl ?_
      have ok : BlkOk X.N X.env.scope scope (ownN N own) := by rw [C.N', C.sc']; exact blkOk_by h2
      have hset : notSet it1 = true := by
        cases it with
        | e a => simp only [okI, Bool.and_eq_true] at h4; exact h4.1
        | _ =>
          simp only [okI] at h4
          first
            | (split at h4
               · rfl
               · cases h4)
            | cases h4
      have q := pe_lc (pos := pos) C.calm (by rw [C.N']; exact C.nd) (sndI it it1 tg1 sc W X C h4) ok
        (fun s H Cc cl fp => sndTg (X := X.blk s H scope (compEnvC scope cl Cc X.env) fp) (G := G) (N := N) (sc := relS scope sc) (fnB := fun y => scope.names.lookup y == some .cell) C.K C.N' C.nd C.calm (by rw [← C.sc']; rfl) (fun y hy => hy) tg tg1 h5)
        (fun s H Cc cl fp => sndC cond ifs (relS scope sc) WF _ (C.blk s H scope Cc cl fp) h6)
        (fun s H Cc cl fp => (sndE elt e1 (relS scope sc) WF _ (C.blk s H scope Cc cl fp) h7).1) (set_ok hset)
      refine PE_imp q fun σ H Q q => ?_
      rw [h1]
      exact comp_ok h3 q
    · cases h
  | .srtset a, x, sc, W, X, C, h => by simp [okE] at h
  | .lstof m a, x, sc, W, X, C, h => by
    simp only [okE] at h
    split at h
    · rename_i y p0 z pos
      simp only [Bool.and_eq_true, beq_iff_eq] at h
      obtain ⟨⟨⟨h0, h1⟩, h2⟩, h3⟩ := h
      subst h0
      obtain ⟨hg, hdb⟩ := gl_of C.sc' h1
      refine ptp C rfl ?_
      refine PE_imp (pe_callTy (p := p0) (pos := pos) (call_list_of.or (call_list_chr C.calm)) hg (C.blt 15) boot_list (pa_cons (sndE a z sc W X C h3).1 pa_nil (star_cons h2)) (by decide) hdb (star_cons h2) rfl) fun σ H Q q => ?_
      obtain ⟨η, env, s, av, ab, p⟩ := q
      refine ⟨η, env, s, av, ab, (Post.bind (Rl := RW G) p).mono fun v1 H1 ⟨η1, w1, s1, st1, ab1, r1, p1⟩ => ?_⟩
      split at p1
      · rename_i xs hx
        rcases seqC_cases hx with ⟨y, rfl, hy, rfl⟩ | hx
        · have r1 : RD G H1 η1 (.str y) v1 := r1
          cases r1 with
          | str _ hok => exact .inr ⟨y, rfl, hy, fun l hl => post_newL ab1 hl (chars_rds hok) p1⟩
        · obtain ⟨q, vs, rfl, hq, hr⟩ := r1.seq ab1 hx
          exact .inl ⟨q, vs, rfl, C.K ▸ hq, fun l hl => post_newL ab1 hl hr p1⟩
      · exact p1.elim
    · cases h
  | .mdic, x, sc, W, X, C, h => by simp [okE] at h
theorem sndEs : ∀ (es : Es) (xs : List Expr) (sc : Scope) (W : WX) (X : Cx), Ctx G M n N sc W X → okEs M N sc es xs = true → PA X xs (tEs G W (callN G.P n) es)
  | .nil, xs, sc, W, X, C, h => by
    simp only [okEs] at h
    split at h
    · refine PA_imp pa_nil fun σ H Q q => ?_
      obtain ⟨η, env, s, av, ab, p⟩ := q
      exact p.ok ab .nil
    · cases h
  | .cons e es, xs, sc, W, X, C, h => by
    simp only [okEs] at h
    split at h
    · rename_i x xs
      simp only [Bool.and_eq_true] at h
      obtain ⟨⟨h0, h1⟩, h2⟩ := h
      refine PA_imp (pa_cons (sndE e x sc W X C h1).1 (sndEs es xs sc W X C h2) (star_cons h0)) fun σ H Q q => ?_
      obtain ⟨η, env, s, av, ab, p⟩ := q
      refine ⟨η, env, s, av, ab, (Post.bind (Rl := RW G) p).mono fun v1 H1 ⟨η1, w1, s1, st1, ab1, r1, p1⟩ => ?_⟩
      refine ⟨η1, env, s1, av.mono st1, ab1, (Post.bind (Rl := RWs G) p1).mono fun v2 H2 ⟨η2, w2, s2, st2, ab2, r2, p2⟩ => ?_⟩
      exact p2.ok ab2 (.cons (r1.mono st2) r2)
    · cases h
  | .star e es, xs, sc, W, X, C, h => by
    simp only [okEs] at h
    split at h
    · rename_i x pp xs
      simp only [Bool.and_eq_true] at h
      refine PA_imp (StX.pa_star (sndE e x sc W X C h.1).1 (sndEs es xs sc W X C h.2)) fun σ H Q q => ?_
      obtain ⟨η, env, s, av, ab, p⟩ := q
      refine ⟨η, env, s, av, ab, (Post.bind (Rl := RW G) p).mono fun v1 H1 ⟨η1, w1, s1, st1, ab1, r1, p1⟩ => ?_⟩
      split at p1
      · rename_i ds hs
        obtain ⟨p0, vs, rfl, hq, hr⟩ := r1.seq ab1 hs
        refine ⟨p0, vs, rfl, C.K ▸ hq.symm, η1, env, s1, av.mono st1, ab1, (Post.bind (Rl := RWs G) p1).mono fun v2 H2 ⟨η2, w2, s2, st2, ab2, r2, p2⟩ => ?_⟩
        exact p2.ok ab2 ((hr.mono st2.le).words.append r2)
      · exact p1.elim
    · cases h
theorem sndBop : ∀ (o : BoolOp) (es : Es) (xs : List Expr) (pos : Pos) (sc : Scope) (W : WX) (X : Cx), Ctx G M n N sc W X → isNilEs es = false → xs.all notStar = true → okEs M N sc es xs = true → PE X (.BoolOp o xs pos) (tBopE G W (callN G.P n) o es) ∧ PW X (.BoolOp o xs pos) (tBopB G W (callN G.P n) o es)
  | o, .nil, xs, pos, sc, W, X, C, h0, _, h => by cases h0
  | o, .star e es, xs, pos, sc, W, X, C, h0, hn, h => by
    simp only [okEs] at h
    split at h
    · simp [notStar] at hn
    · cases h
  | o, .cons e .nil, xs, pos, sc, W, X, C, h0, hn, h => by
    simp only [okEs] at h
    split at h
    · rename_i x xs
      simp only [Bool.and_eq_true] at h
      obtain ⟨⟨_, h1⟩, h2⟩ := h
      split at h2
      · have q := sndE e x sc W X C h1
        refine ⟨PE_imp (pe_one q.1) fun σ H Q q => q, ?_⟩
        cases o with
        | And => exact PW_imp (pw_and1 q.2) fun σ H Q q => q
        | Or => exact PW_imp (pw_or1 q.2) fun σ H Q q => q
      · cases h2
    · cases h
  | o, .cons e (.star e2 es), xs, pos, sc, W, X, C, h0, hn, h => by
    simp only [okEs] at h
    split at h
    · rename_i x xs
      simp only [Bool.and_eq_true] at h
      obtain ⟨_, h2⟩ := h
      split at h2
      · simp [notStar] at hn
      · cases h2
    · cases h
  | o, .cons e (.cons e2 es), xs, pos, sc, W, X, C, h0, hn, h => by
    cases xs with
    | nil => simp [okEs] at h
    | cons x xs =>
      have h : (notStar x && okE M N sc e x && okEs M N sc (.cons e2 es) xs) = true := h
      simp only [Bool.and_eq_true] at h
      obtain ⟨⟨_, h1⟩, h2⟩ := h
      rw [List.all_cons, Bool.and_eq_true] at hn
      have qe := sndE e x sc W X C h1
      have qs := sndBop o (.cons e2 es) xs pos sc W X C rfl hn.2 h2
      cases xs with
      | nil => simp [okEs] at h2
      | cons x2 xs =>
        have peq : ∀ {σ : L2.St} {H : Hp} {Q : VK}, tBopE G W (callN G.P n) o (.cons e (.cons e2 es)) σ H Q → tE G W (callN G.P n) e σ H fun v H1 => ∃ k, v = .bl k ∧ if k = (o == .And) then tBopE G W (callN G.P n) o (.cons e2 es) σ H1 Q else Q (.bl k) H1 := fun {σ H Q} q => by
          obtain ⟨η, env, s, av, ab, p⟩ := q
          rw [evBop_cons] at p
          refine ⟨η, env, s, av, ab, (Post.bind (Rl := RW G) p).mono fun v1 H1 ⟨η1, w1, s1, st1, ab1, r1, p1⟩ => ?_⟩
          unfold contB at p1
          split at p1
          · rename_i k
            refine ⟨k, r1.bool, ?_⟩
            split at p1
            · rename_i hk
              rw [if_pos (by simpa using hk)]
              exact ⟨η1, env, s1, av.mono st1, ab1, p1⟩
            · rename_i hk
              rw [if_neg (by simpa using hk)]
              exact p1.ok ab1 (.bl _)
          · exact p1.elim
        have ptq : ∀ {σ : L2.St} {H : Hp} {Q : Bool → Hp → Prop}, tBopB G W (callN G.P n) o (.cons e (.cons e2 es)) σ H Q → tB G W (callN G.P n) e σ H fun k H1 => if k = (o == .And) then tBopB G W (callN G.P n) o (.cons e2 es) σ H1 Q else Q k H1 := fun {σ H Q} q => by
          obtain ⟨η, env, s, av, ab, p⟩ := q
          unfold evBopT at p
          rw [evBop_cons, R.bind_assoc] at p
          refine ⟨η, env, s, av, ab, (bop_tst (fun w s hw => by rw [contB_stuck w s hw]; rfl) p).mono fun k H1 ⟨η1, s1, st1, ab1, p1⟩ => ?_⟩
          unfold contB at p1
          simp only at p1
          split at p1
          · rename_i hk
            rw [if_pos (by simpa using hk)]
            exact ⟨η1, env, s1, av.mono st1, ab1, p1⟩
          · rename_i hk
            rw [if_neg (by simpa using hk)]
            exact p1.ok ab1 rfl
        cases o with
        | And =>
          refine ⟨PE_imp (pe_and qe.1 qs.1) fun σ H Q q => ?_, PW_imp (pw_and qe.2 qs.2) fun σ H Q q => ?_⟩
          · obtain ⟨η, env, s, av, ab, p⟩ := peq q
            refine ⟨η, env, s, av, ab, p.mono fun v H1 ⟨k, e1, q1⟩ => ⟨k, e1, ?_⟩⟩
            cases k <;> simpa using q1
          · obtain ⟨η, env, s, av, ab, p⟩ := ptq q
            refine ⟨η, env, s, av, ab, p.mono fun k H1 q1 => ?_⟩
            cases k <;> simpa using q1
        | Or =>
          refine ⟨PE_imp (pe_or qe.1 qs.1) fun σ H Q q => ?_, PW_imp (pw_or qe.2 qs.2) fun σ H Q q => ?_⟩
          · obtain ⟨η, env, s, av, ab, p⟩ := peq q
            refine ⟨η, env, s, av, ab, p.mono fun v H1 ⟨k, e1, q1⟩ => ⟨k, e1, ?_⟩⟩
            cases k <;> simpa using q1
          · obtain ⟨η, env, s, av, ab, p⟩ := ptq q
            refine ⟨η, env, s, av, ab, p.mono fun k H1 q1 => ?_⟩
            cases k <;> simpa using q1
theorem sndKs : ∀ (es : Es) (kws : List Keyword) (sc : Scope) (W : WX) (X : Cx), Ctx G M n N sc W X → okKs M N sc es kws = true → PK X kws (tEs G W (callN G.P n) es)
  | .nil, kws, sc, W, X, C, h => by
    simp only [okKs] at h
    split at h
    · refine PK_imp pk_nil fun σ H Q q => ?_
      obtain ⟨η, env, s, av, ab, p⟩ := q
      exact p.ok ab .nil
    · cases h
  | .cons e es, kws, sc, W, X, C, h => by
    simp only [okKs] at h
    split at h
    · rename_i y x p xs
      rw [Bool.and_eq_true] at h
      refine PK_imp (pk_cons (sndE e x sc W X C h.1).1 (sndKs es xs sc W X C h.2)) fun σ H Q q => ?_
      obtain ⟨η, env, s, av, ab, p⟩ := q
      refine ⟨η, env, s, av, ab, (Post.bind (Rl := RW G) p).mono fun v1 H1 ⟨η1, w1, s1, st1, ab1, r1, p1⟩ => ?_⟩
      refine ⟨η1, env, s1, av.mono st1, ab1, (Post.bind (Rl := RWs G) p1).mono fun v2 H2 ⟨η2, w2, s2, st2, ab2, r2, p2⟩ => ?_⟩
      exact p2.ok ab2 (.cons (r1.mono st2) r2)
    · cases h
  | .star e es, kws, sc, W, X, C, h => by simp [okKs] at h
theorem sndO : ∀ (es : Es) (o : Option Expr) (sc : Scope) (W : WX) (X : Cx), Ctx G M n N sc W X → okO M N sc es o = true → PO X o (fun σ H Q => ∃ η env s, AbsV G H η env σ ∧ AbsS G H η s ∧ Post G (fun c d => W c d σ) (fun _ _ (a b : Option Int) => a = b) H η (evPart G.P (callN G.P n) es env s) Q)
  | .nil, o, sc, W, X, C, h => by
    simp only [okO] at h
    split at h
    · refine PO_imp po_none fun σ H Q q => ?_
      obtain ⟨η, env, s, av, ab, p⟩ := q
      exact p.ok ab rfl
    · cases h
  | .cons e es, o, sc, W, X, C, h => by
    simp only [okO] at h
    split at h
    · rename_i x
      rw [Bool.and_eq_true] at h
      refine PO_imp (po_some (sndE e x sc W X C h.2).1) fun σ H Q q => ?_
      obtain ⟨η, env, s, av, ab, p⟩ := q
      refine ⟨η, env, s, av, ab, (Post.bind (Rl := RW G) p).mono fun v1 H1 ⟨η1, w1, s1, st1, ab1, r1, p1⟩ => ?_⟩
      split at p1
      · exact ⟨_, r1.ints rfl, p1.ok ab1 rfl⟩
      · exact p1.elim
    · cases h
  | .star _ _, o, sc, W, X, C, h => by simp [okO] at h
theorem sndC : ∀ (es : Es) (xs : List Expr) (sc : Scope) (W : WX) (X : Cx), Ctx G M n N sc W X → okC1 M N sc es xs = true → PTs X xs (tCond G W (callN G.P n) es)
  | .nil, xs, sc, W, X, C, h => by
    simp only [okC1] at h
    split at h
    · refine PTs_imp pts_nil fun σ H Q q => ?_
      obtain ⟨η, env, s, av, ab, p⟩ := q
      exact p.ok ab rfl
    · cases h
  | .cons e es, xs, sc, W, X, C, h => by
    simp only [okC1] at h
    split at h
    · rename_i x
      rw [Bool.and_eq_true] at h
      exact PTs_imp (pts_one (sndE e x sc W X C h.2).2) fun σ H Q q => q
    · cases h
  | .star _ _, xs, sc, W, X, C, h => by simp [okC1] at h
theorem sndI : ∀ (it : I) (x tg : Expr) (sc : Scope) (W : WX) (X : Cx), Ctx G M n N sc W X → okI M N sc tg it x = true → PI X tg x (tI G W (callN G.P n) it)
  | .e a, x, tg, sc, W, X, C, h => by
    simp only [okI, Bool.and_eq_true] at h
    refine ⟨fun pins sh σ H R I q => ?_⟩
    refine thn ((sndE a x sc W X C h.2).1.run pins sh σ H (fun v H1 => ∃ η1 w1 s1 src, AbsS G H1 η1 s1 ∧ RW G H1 η1 w1 v ∧ srcOfE w1 s1 = some src ∧ ∀ J, RSrc G H1 η1 src J → R J H1) I ?_) fun v s1 ⟨y, H1, I1, r1, η1, w1, s2, src, ab1, rw1, e, k⟩ => iter_at C.K I1 r1 rw1 ab1 e k
    obtain ⟨η, env, s, av, ab, p⟩ := q
    refine ⟨η, env, s, av, ab, (Post.bind (Rl := RW G) p).mono fun v1 H1 ⟨η1, w1, s1, st1, ab1, r1, p1⟩ => ?_⟩
    obtain ⟨src, e, p2⟩ := p1.of
    exact ⟨η1, w1, s1, src, ab1, r1, e, fun J hJ => p2.ok ab1 hJ⟩
  | .range1 a, x, tg, sc, W, X, C, h => by
    simp only [okI] at h
    split at h
    · rename_i y p0 z pos
      simp only [Bool.and_eq_true, beq_iff_eq] at h
      obtain ⟨⟨⟨h0, h1⟩, h2⟩, h3⟩ := h
      subst h0
      obtain ⟨hg, hdb⟩ := gl_of C.sc' h1
      refine PI_imp (pi_range1 hg (C.blt 12) (pa_cons (sndE a z sc W X C h3).1 pa_nil (star_cons h2)) (star_cons h2)) fun σ H R q => ?_
      obtain ⟨η, env, s, av, ab, p⟩ := q
      refine ⟨η, env, s, av, ab, (Post.bind (Rl := RW G) p).mono fun v1 H1 ⟨η1, w1, s1, st1, ab1, r1, p1⟩ => ?_⟩
      split at p1
      · rename_i j
        split at p1
        · rename_i hj
          refine ⟨j, by rw [r1.ints rfl], hj.1, hj.2, p1.ok ab1 ?_⟩
          have := walk_range (G := G) (H := H1) (η := η1) (lo := 0) (n := j.toNat)
          simpa using this
        · exact p1.elim
      · exact p1.elim
    · cases h
  | .range2 a b, x, tg, sc, W, X, C, h => by
    simp only [okI] at h
    split at h
    · rename_i y p0 z w pos
      simp only [Bool.and_eq_true, beq_iff_eq] at h
      obtain ⟨⟨⟨⟨⟨h0, h1⟩, h2⟩, h2'⟩, h3⟩, h4⟩ := h
      subst h0
      obtain ⟨hg, hdb⟩ := gl_of C.sc' h1
      refine PI_imp (pi_range2 hg (C.blt 12) (pa_cons (sndE a z sc W X C h3).1 (pa_cons (sndE b w sc W X C h4).1 pa_nil (star_cons h2')) (star_cons h2)) (by rw [star_cons h2, star_cons h2']; rfl) (by rw [star_cons h2']; rfl)) fun σ H R q => ?_
      obtain ⟨η, env, s, av, ab, p⟩ := q
      refine ⟨η, env, s, av, ab, (Post.bind (Rl := RW G) p).mono fun v1 H1 ⟨η1, w1, s1, st1, ab1, r1, p1⟩ => ?_⟩
      refine ⟨η1, env, s1, av.mono st1, ab1, (Post.bind (Rl := RW G) p1).mono fun v2 H2 ⟨η2, w2, s2, st2, ab2, r2, p2⟩ => ?_⟩
      have key : ∃ i j, w1 = .d (.int i) ∧ w2 = .d (.int j) := by
        cases w1 with
        | ref => exact p2.elim
        | d z1 => cases w2 with
          | ref => cases z1 <;> exact p2.elim
          | d z2 => cases z1 <;> first | exact p2.elim | (cases z2 <;> first | exact p2.elim | exact ⟨_, _, rfl, rfl⟩)
      obtain ⟨i, j, rfl, rfl⟩ := key
      simp only at p2
      split at p2
      · rename_i hj
        exact ⟨i, j, by rw [(r1.mono st2).ints rfl, r2.ints rfl], hj, p2.ok ab2 walk_range⟩
      · exact p2.elim
    · cases h
  | .enum a, x, tg, sc, W, X, C, h => by
    simp only [okI] at h
    split at h
    · rename_i y p0 z pos
      simp only [Bool.and_eq_true, beq_iff_eq] at h
      obtain ⟨⟨⟨⟨hT, h0⟩, h1⟩, h2⟩, h3⟩ := h
      subst h0
      obtain ⟨hg, hdb⟩ := gl_of C.sc' h1
      unfold isTup at hT
      split at hT
      · refine PI_imp (pi_enum hg (C.blt 13) (pa_cons (sndE a z sc W X C h3).1 pa_nil (star_cons h2)) (star_cons h2)) fun σ H R q => ?_
        obtain ⟨η, env, s, av, ab, p⟩ := q
        refine ⟨η, env, s, av, ab, (Post.bind (Rl := RW G) p).mono fun v1 H1 ⟨η1, w1, s1, st1, ab1, r1, p1⟩ => ?_⟩
        obtain ⟨src, e, p2⟩ := p1.of
        cases hs : srcL w1 s1 with
        | none => rw [hs] at e; cases e
        | some src1 =>
          rw [hs] at e; cases e
          obtain ⟨q, vs, rfl, h4, core⟩ := RSrc.lst r1 hs ab1
          exact ⟨q, vs, rfl, C.K ▸ h4, p2.ok ab1 (walk_enum C.K core)⟩
      · cases hT
    · cases h
  | .enum2 _ _, x, tg, sc, W, X, C, h => by simp [okI] at h
  | .zip a b, x, tg, sc, W, X, C, h => by
    simp only [okI] at h
    split at h
    · rename_i y p0 z w pos
      simp only [Bool.and_eq_true, beq_iff_eq] at h
      obtain ⟨⟨⟨⟨⟨⟨hT, h0⟩, h1⟩, h2⟩, h2'⟩, h3⟩, h4⟩ := h
      subst h0
      obtain ⟨hg, hdb⟩ := gl_of C.sc' h1
      unfold isTup at hT
      split at hT
      · refine PI_imp (RZ.pi_zipA hg (C.blt 14) (pa_cons (sndE a z sc W X C h3).1 (pa_cons (sndE b w sc W X C h4).1 pa_nil (star_cons h2')) (star_cons h2)) (star_cons h2) (star_none (es := [w]) (by simp [h2']))) fun σ H R q => ?_
        obtain ⟨η, env, s, av, ab, p⟩ := q
        refine ⟨η, env, s, av, ab, (Post.bind (Rl := RW G) p).mono fun v1 H1 ⟨η1, w1, s1, st1, ab1, r1, p1⟩ => ?_⟩
        refine ⟨η1, env, s1, av.mono st1, ab1, (Post.bind (Rl := RW G) p1).mono fun v2 H2 ⟨η2, w2, s2, st2, ab2, r2, p2⟩ => ?_⟩
        obtain ⟨src, e, p3⟩ := p2.of
        have r1' := r1.mono st2
        unfold srcZ at e
        split at e
        · rename_i s3 s4 e3 e4
          cases e
          obtain ⟨a1, vs, rfl, g1, c1⟩ := RSrc.lst r1' e3 ab2
          obtain ⟨a2, us, rfl, g2, c2⟩ := RSrc.lst r2 e4 ab2
          exact ⟨a1, a2, vs, us, rfl, .inl ⟨C.K ▸ g1, C.K ▸ g2, p3.ok ab2 (walk_zipL C.K c1 c2)⟩⟩
        · split at e
          · rename_i s3 s4 e3 e4
            cases e
            obtain ⟨a1, vs, rfl, g1, c1⟩ := RSrc.tup r1' e3
            obtain ⟨a2, us, rfl, g2, c2⟩ := RSrc.tup r2 e4
            exact ⟨a1, a2, vs, us, rfl, .inr ⟨C.K ▸ g1, C.K ▸ g2, p3.ok ab2 (walk_zipT C.K c1 c2)⟩⟩
          · cases e
      · cases hT
    · cases h
end
end
end FT

namespace FT
open PySem PySem.Spec PyProof.Rows L2 SlX

/-- how a tuple of targets takes a tuple of values: none: not told; some none: by the tuple; some names: one by one -/
def swP (sc : Scope) (ts vs : List Expr) : Option (Option (List Str)) :=
  if !(ts.length == 2 || ts.length == 3) || vs.length != ts.length then some none
  else if vs.any (fun | .Starred .. => true | _ => false) then some none
  else
    let line := (ts.head?.map (·.pos.line)).getD 0
    let names := ts.filterMap fun
      | .Name id pos => if sc.names.lookup id == some .local && pos.line == line then some id else none
      | _ => none
    if names.length != ts.length || names.eraseDups.length != names.length then some none
    else if vs.all (foldedForSure 8) then some none
    else if vs.all (constantsAlone 8) then none
    else some (some names)
theorem sw_eq {env : PySem.Env} {sc : Scope} {ts vs : List Expr} {k k2 : Nat} {p p2 : Pos} {r : Option (List Str)} (hk : sc.kind = .function) (hs : env.scope = sc) (h : swP sc ts vs = some r) : swappedStores [.Tuple ts k p] (.Tuple vs k2 p2) env = pure r := by
  have hb : env.blockKind = .function := by unfold Env.blockKind; rw [hs, hk]; rfl
  have hn : ∀ id, env.kindOf id = sc.names.lookup id := fun id => by unfold Env.kindOf; rw [hs]
  unfold swappedStores
  unfold swP at h
  simp only [hb, hn, bne_self_eq_false, Bool.or_false] at h ⊢
  split at h
  · rename_i c
    cases h
    exact if_pos c
  · rename_i c
    refine (if_neg c).trans ?_
    split at h
    · rename_i c2
      cases h
      exact if_pos c2
    · rename_i c2
      refine (if_neg c2).trans ?_
      split at h
      · rename_i c3
        cases h
        exact if_pos c3
      · rename_i c3
        refine (if_neg c3).trans ?_
        split at h
        · rename_i c4
          cases h
          exact if_pos c4
        · rename_i c4
          refine (if_neg c4).trans ?_
          split at h
          · cases h
          · rename_i c5
            cases h
            exact if_neg c5

/-- what must be wished for at a statement's end -/
def PostS (G : GG) (W : WX) (H : Hp) (η : Et) (r : RS) (D : Ends) : Prop := match r with
  | .nx env s => ∀ σ' H' η', Step H η H' η' → AbsV G H' η' env σ' → AbsS G H' η' s → D.nx σ' H'
  | .br env s => ∀ σ' H' η', Step H η H' η' → AbsV G H' η' env σ' → AbsS G H' η' s → D.bk σ' H'
  | .ct env s => ∀ σ' H' η', Step H η H' η' → AbsV G H' η' env σ' → AbsS G H' η' s → D.ct σ' H'
  | .rt w s => ∀ v H' η', Step H η H' η' → AbsS G H' η' s → RW G H' η' w v → D.rt v H'
  | .err c ds env s => ∀ σ' cls d H' η', Step H η H' η' → AbsV G H' η' env σ' → AbsS G H' η' s → ErrOk G H' η' c ds cls d → W cls d σ' H'
  | .stuck => False
section
variable {G : GG} {W : WX} {H H' : Hp} {η η' : Et} {D D' : Ends} {σ : L2.St} {env : Env} {s : S}
theorem PostS.step {r : RS} (h : PostS G W H η r D) (st : Step H η H' η') : PostS G W H' η' r D := by
  cases r with
  | nx env s => exact fun σ' H2 η2 st2 av ab => h σ' H2 η2 (st.trans st2) av ab
  | br env s => exact fun σ' H2 η2 st2 av ab => h σ' H2 η2 (st.trans st2) av ab
  | ct env s => exact fun σ' H2 η2 st2 av ab => h σ' H2 η2 (st.trans st2) av ab
  | rt w s => exact fun v H2 η2 st2 ab rl => h v H2 η2 (st.trans st2) ab rl
  | err c ds env s => exact fun σ' cls d H2 η2 st2 av ab er => h σ' cls d H2 η2 (st.trans st2) av ab er
  | stuck => exact h
theorem PostS.then {α β : Type} {Rl : Hp → Et → α → β → Prop} {r : R α} {f : α → S → RS} (h : PostS G W H η (r.then env f) D) (av : AbsV G H η env σ) :
    Post G (fun c d => W c d σ) Rl H η r (fun b H' => ∃ η' a s', Step H η H' η' ∧ AbsS G H' η' s' ∧ Rl H' η' a b ∧ PostS G W H' η' (f a s') D) := by
  cases r with
  | ok a s => exact fun b H2 η2 st ab rl => ⟨η2, a, s, st, ab, rl, PostS.step (h : PostS G W H η (f a s) D) st⟩
  | err c ds s => exact fun cls d H2 η2 st ab er => h σ cls d H2 η2 st (av.mono st) ab er
  | stuck => exact h
theorem PostS.nx (h : PostS G W H η (.nx env s) D) (av : AbsV G H η env σ) (ab : AbsS G H η s) : D.nx σ H := h σ H η (Step.refl _ _) av ab
def tS (G : GG) (W : WX) (call : CallF) (sm : Sm) : TS := fun D σ H => ∃ η env s, AbsV G H η env σ ∧ AbsS G H η s ∧ PostS G W H η (evS G.P call sm env s) D
def tSs (G : GG) (W : WX) (call : CallF) (sm : Sms) : TS := fun D σ H => ∃ η env s, AbsV G H η env σ ∧ AbsS G H η s ∧ PostS G W H η (evSs G.P call sm env s) D
theorem PostS.seq {r : RS} {f : Env → S → RS} (h : PostS G W H η (r.seq f) D) : PostS G W H η r { D with nx := fun σ' H' => ∃ η' env s, Step H η H' η' ∧ AbsV G H' η' env σ' ∧ AbsS G H' η' s ∧ PostS G W H' η' (f env s) D } := by
  cases r with
  | nx env s => exact fun σ' H2 η2 st2 av ab => ⟨η2, env, s, st2, av, ab, PostS.step h st2⟩
  | br env s => exact h
  | ct env s => exact h
  | rt w s => exact h
  | err c ds env s => exact h
  | stuck => exact h
theorem PostS.loop {r : RS} {k : Env → S → RS} (h : PostS G W H η (match r with | .nx env s => k env s | .ct env s => k env s | .br env s => .nx env s | r => r) D) :
    PostS G W H η r { D with nx := fun σ' H' => ∃ η' env s, Step H η H' η' ∧ AbsV G H' η' env σ' ∧ AbsS G H' η' s ∧ PostS G W H' η' (k env s) D, ct := fun σ' H' => ∃ η' env s, Step H η H' η' ∧ AbsV G H' η' env σ' ∧ AbsS G H' η' s ∧ PostS G W H' η' (k env s) D, bk := D.nx } := by
  cases r with
  | nx env s => exact fun σ' H2 η2 st2 av ab => ⟨η2, env, s, st2, av, ab, PostS.step (r := k env s) h st2⟩
  | ct env s => exact fun σ' H2 η2 st2 av ab => ⟨η2, env, s, st2, av, ab, PostS.step (r := k env s) h st2⟩
  | br env s => exact h
  | rt w s => exact h
  | err c ds env s => exact h
  | stuck => exact h
theorem PostS.ends {r : RS} (h : PostS G W H η r D) (i1 : ∀ σ H, D.nx σ H → D'.nx σ H) (i2 : ∀ σ H, D.bk σ H → D'.bk σ H) (i3 : ∀ σ H, D.ct σ H → D'.ct σ H) (i4 : ∀ v H, D.rt v H → D'.rt v H) : PostS G W H η r D' := by
  cases r with
  | nx env s => exact fun σ' H2 η2 st2 av ab => i1 _ _ (h σ' H2 η2 st2 av ab)
  | br env s => exact fun σ' H2 η2 st2 av ab => i2 _ _ (h σ' H2 η2 st2 av ab)
  | ct env s => exact fun σ' H2 η2 st2 av ab => i3 _ _ (h σ' H2 η2 st2 av ab)
  | rt w s => exact fun v H2 η2 st2 ab rl => i4 _ _ (h v H2 η2 st2 ab rl)
  | err c ds env s => exact h
  | stuck => exact h
end

def okNames (N : List Str) (sc : Scope) : List Nat → List Expr → Bool
  | [], [] => true
  | i :: is, .Name y _ :: xs => decide (N[i]? = some y) && decide (sc.names.lookup y = some .local) && okNames N sc is xs
  | _, _ => false
def nmOf : List Expr → List Str
  | [] => []
  | .Name y _ :: xs => y :: nmOf xs
  | _ :: xs => nmOf xs
/-- a comprehension goes straight into the name -/
def swComp (sc : Scope) (y : Str) (py : Pos) : Expr → Option Bool
  | .ListComp _ _ scope p => some (decide (sc.names.lookup y = some .local) && py.line == p.line && !(scope.names.any fun (n, k) => n == y && (k == .local || k == .cell)))
  | .SetComp .. | .DictComp .. => none
  | _ => some false
def noSwap (sc : Scope) (t x : Expr) : Bool := match t, x with
  | .Tuple ts _ _, .Tuple vs _ _ => decide (swP sc ts vs = some none)
  | .List .., _ => false
  | _, _ => true
/-- except X as n: t = n -/
def okH (M : Nm) (N : List Str) (sc : Scope) (q : Nat × Nat × Nat) : ExceptHandler → Bool
  | .ExceptHandler (some (.Name x _)) (some y) [.Assign [.Name t _] (.Name z _) _] _ => M.hk q.1 && x == M.nm q.1 && glB sc x && decide (N[q.2.1]? = some y) && decide (sc.names.lookup y = some .local) && decide (N[q.2.2]? = some t) && locB sc t && z == y && !(y == ("__debug__" : Str)) && !(y == ("__classdict__" : Str)) && decide (q.2.1 ≠ q.2.2)
  | _ => false
def okHs (M : Nm) (N : List Str) (sc : Scope) : List (Nat × Nat × Nat) → List ExceptHandler → Bool
  | [], [] => true
  | q :: r, h :: hs => okH M N sc q h && okHs M N sc r hs
  | _, _ => false
mutual
def okS (M : Nm) (N : List Str) (sc : Scope) : Sm → Stmt → Bool
  | .exp e, x => match x with
    | .Expr y _ => notComp y && okE M N sc e y
    | _ => false
  | .asg i e, x => match x with
    | .Assign [.Name y py] z pos => decide (N[i]? = some y) && locB sc y && okE M N sc e z && (swComp sc y py z).isSome
    | _ => false
  | .par is es, x => match x with
    | .Assign [.Tuple ts _ _] (.Tuple vs _ _) _ => decide is.Nodup && okNames N sc is ts && decide (swP sc ts vs = some (some (nmOf ts))) && vs.all notStar && okEs M N sc es vs && (decide (ts.length = 2) || decide (ts.length = 3)) && decide (vs.length = ts.length)
    | _ => false
  | .unp t e, x => match x with
    | .Assign [tg] z _ => isTup tg && notComp z && noSwap sc tg z && okT N sc (fun _ => true) t tg && okE M N sc e z
    | _ => false
  | .seti o i e, x => match x with
    | .Assign [.Subscript y z _] v _ => notComp v && notSlice z && okE M N sc e v && okE M N sc o y && okE M N sc i z
    | _ => false
  | .seta o f e, x => match x with
    | .Assign [.Attribute y nm _] v _ => false
    | _ => false
  | .aug i o e, x => false
  | .ret e, x => match x with
    | .Return (some y) _ => okE M N sc e y
    | _ => false
  | .retn, x => match x with
    | .Return none _ => true
    | _ => false
  | .pass, x => match x with
    | .Pass _ => true
    | _ => false
  | .brk, x => match x with
    | .Break _ => true
    | _ => false
  | .ife c a b, x => match x with
    | .If y xs zs _ => okE M N sc c y && okSs M N sc a xs && okSs M N sc b zs
    | _ => false
  | .for_ tg it b, x => match x with
    | .For tgx itx xs [] _ => notSet itx && okI M N sc tgx it itx && okT N sc (fun _ => true) tg tgx && okSs M N sc b xs
    | _ => false
  | .whl c b, x => match x with
    | .While y xs [] _ => okE M N sc c y && okSs M N sc b xs
    | _ => false
  | .raise c es kes perm, x => match x with
    | .Raise (some y) none _ => okE M N sc (.mk c es kes perm) y
    | _ => false
  | .tryk b hs, x => match x with
    | .Try xs ys [] [] _ => !ys.isEmpty && okSs M N sc b xs && okHs M N sc hs ys
    | _ => false
  | .never, x => true
def okSs (M : Nm) (N : List Str) (sc : Scope) : Sms → List Stmt → Bool
  | .nil, x => match x with
    | [] => true
    | _ => false
  | .cons s ss, x => match x with
    | x :: xs => okS M N sc s x && okSs M N sc ss xs
    | _ => false
end

/-- a def's body -/
structure CtxS (G : GG) (M : Nm) (n : Nat) (N : List Str) (sc : Scope) (W : WX) (X : Cx) : Prop extends Ctx G M n N sc W X where
  kind : sc.kind = .function
  fnT : ∀ y, X.fn y = true
  po : PassesOwn (model X.prog X.w) X.A X.env X.xe
  exn : X.ex = []
  stk : X.stack = X.env :: X.outer
  frm : X.env.frame = some X.env.locals

section
variable {G : GG} {M : Nm} {n : Nat} {N : List Str}
theorem sw_none {z : Expr} {t : Option Expr} {l : Nat} {env : PySem.Env} (h : notComp z = true) : swapsWith z t l env = pure false := by
  cases z <;> first | rfl | (simp [notComp] at h)
theorem noSwap_ok {env : PySem.Env} {sc : Scope} {t z : Expr} (hk : sc.kind = .function) (hs : env.scope = sc) (h : noSwap sc t z = true) : swappedStores [t] z env = pure none := by
  unfold noSwap at h
  split at h
  · exact sw_eq hk hs (of_decide_eq_true h)
  · cases h
  · rename_i h1 h2
    unfold swappedStores
    split
    · rename_i ts vs hm
      split at hm
      · rename_i e1 e2
        cases e2
        exact (h2 _ _ _ _ _ _ rfl rfl).elim
      · rename_i e1 e2
        cases e2
        exact (h1 _ _ rfl).elim
      · cases hm
    · rfl
theorem tg_one {t : Expr} {env : PySem.Env} (h : isTup t = true) : (assignEach [t] env).map (·.2) = [assign t env] := by
  unfold isTup at h
  split at h
  · rfl
  · cases h
def rSetG (G : GG) : TSet := fun o i v H Q => ∃ η s w z d s', AbsS G H η s ∧ RW G H η w o ∧ RW G H η z i ∧ RD G H η d v ∧ setIt w z d s = some s' ∧ ∀ H' η', Step H η H' η' → AbsS G H' η' s' → Q H'
theorem set_g {X : Cx} : PSet X (rSetG G) := by
  intro pins sh σ H o i v ov iv u Q I ro ri rv h
  obtain ⟨η, s, w, z, d, s', ab, rw, rz, rd, e, k⟩ := h
  unfold setIt at e
  split at e
  · rename_i n q
    split at e
    · rename_i xs hc
      split at e
      · rename_i j
        split at e
        · rename_i hj
          split at e
          · rename_i m hm
            cases e
            obtain ⟨a, ha, rfl⟩ := rw
            obtain ⟨vs, h1, h2⟩ := ab.at' n a _ ha hc
            have rz : RD G H η (.int j) i := rz
            cases rz
            obtain ⟨st, ab2⟩ := ab.write (k := 0) ha (h2.set rd m) (List.getElem?_eq_some_iff.mp hc).1
            exact set_list pins sh σ H _ _ v ov iv u Q I ro ri rv ⟨a, vs, j, m, rfl, rfl, h1, by rw [← h2.length]; exact hm, k _ _ st ab2⟩
          · cases e
        · cases e
      · cases e
    · cases e
  · cases e
theorem RWs.three {H : Hp} {η : Et} {w z y : FT.W} {xs : List V} (r : RWs G H η [w, z, y] xs) : ∃ a b c, xs = [a, b, c] ∧ RW G H η w a ∧ RW G H η z b ∧ RW G H η y c := by
  cases r with
  | cons r1 r => cases r with
    | cons r2 r => cases r with
      | cons r3 r => cases r; exact ⟨_, _, _, rfl, r1, r2, r3⟩
theorem sw_comp {e1 : Expr} {gs : List Comprehension} {scope sc : Scope} {p py : Pos} {y : Str} {l : Nat} {env : PySem.Env} (hb : env.blockKind = .function) (hkn : env.kindOf y = sc.names.lookup y) :
    swapsWith (.ListComp e1 gs scope p) (some (.Name y py)) l env = pure (decide (sc.names.lookup y = some .local) && py.line == p.line && !(scope.names.any fun (n, k) => n == y && (k == .local || k == .cell))) := by
  have e : swapsWith (.ListComp e1 gs scope p) (some (.Name y py)) l env = pure (env.blockKind == .function && env.kindOf y == some .local && py.line == p.line && !(scope.names.any fun (n, k) => n == y && (k == .local || k == .cell))) := rfl
  rw [e, hb, hkn]
  congr 4
  rw [show (ScopeKind.function == ScopeKind.function) = true from rfl, Bool.true_and]
  by_cases h : sc.names.lookup y = some .local
  · rw [h]; rfl
  · rw [decide_eq_false h]; simpa using h
theorem it_set {M : Nm} {sc : Scope} {tg : Expr} {it : I} {x : Expr} (h : okI M N sc tg it x = true) : notSet x = true := by
  cases it with
  | e a => simp only [okI, Bool.and_eq_true] at h; exact h.1
  | _ =>
    simp only [okI] at h
    first
      | (split at h
         · rfl
         · cases h)
      | cases h
theorem names_cons {sc : Scope} {is : List Nat} {t : Expr} {ts : List Expr} (h : okNames N sc is (t :: ts) = true) : ∃ i y p, N[i]? = some y ∧ sc.names.lookup y = some .local ∧ ∃ is2, is = i :: is2 ∧ t = .Name y p ∧ okNames N sc is2 ts = true := by
  cases is with
  | nil => simp [okNames] at h
  | cons i is2 =>
    cases t with
    | Name y p =>
      simp only [okNames, Bool.and_eq_true, decide_eq_true_eq] at h
      exact ⟨i, y, p, h.1.1, h.1.2, is2, rfl, rfl, h.2⟩
    | _ => simp [okNames] at h
/-- the clause's words: t = n, n being what is caught -/
def tCl (i j : Nat) : Addr → Value → Option Addr → TS := fun a _ _ D σ H => ∃ σ0 : L2.St, σ = σ0.set i (some (.ref a)) ∧ D.nx (σ.set j (some (.ref a))) H
def hdlOf (X : Cx) (M : Nm) (q : Nat × Nat × Nat) (B : Addr) : Hdl := (.ref B, q.2.1, tCl q.2.1 q.2.2)
inductive HdlsOf (G : GG) (M : Nm) : List (Nat × Nat × Nat) → List Hdl → Prop
  | nil : HdlsOf G M [] []
  | cons {k i j : Nat} {r : List (Nat × Nat × Nat)} {B : Addr} {l : List Hdl} (hij : i ≠ j) (hB : ∀ c C A, G.P.cls c = some C → C.isExc = true → G.clsA c = some A → PySem.W.exmOne G.K (.ref A) (.ref B) = some (C.sups.contains k)) (t : HdlsOf G M r l) : HdlsOf G M ((k, i, j) :: r) ((.ref B, i, tCl i j) :: l)
theorem hdls_of {sc : Scope} {W : WX} {X : Cx} (C : CtxS G M n N sc W X) : ∀ {hs : List (Nat × Nat × Nat)} {ys : List ExceptHandler}, okHs M N sc hs ys = true → ∃ l, HdlsOf G M hs l ∧ HdlOk X ys l
  | [], [], _ => ⟨[], .nil, .nil⟩
  | [], _ :: _, h => by simp [okHs] at h
  | _ :: _, [], h => by simp [okHs] at h
  | (k, i, j) :: r, y :: ys, h => by
    simp only [okHs, Bool.and_eq_true] at h
    obtain ⟨h, hr⟩ := h
    obtain ⟨l, l1, l2⟩ := hdls_of C hr
    unfold okH at h
    split at h
    · rename_i x xp y t tp z zp ap hp
      simp only [Bool.and_eq_true, beq_iff_eq, decide_eq_true_eq, Bool.not_eq_true'] at h
      obtain ⟨⟨⟨⟨⟨⟨⟨⟨⟨⟨h1, h2⟩, h3⟩, h4⟩, h5⟩, h6⟩, h7⟩, h8⟩, h9⟩, h10⟩, h11⟩ := h
      subst h2 h8
      obtain ⟨B, hm, hB⟩ := C.hks k h1
      obtain ⟨hg, hdb⟩ := gl_of C.sc' h3
      have hN : X.N.Nodup := by rw [C.N']; exact C.nd
      have hi : X.N[i]? = some z := by rw [C.N']; exact h4
      have hj : X.N[j]? = some t := by rw [C.N']; exact h6
      have hk : X.env.kindOf z = some .local := by unfold Env.kindOf; rw [C.sc']; exact h5
      have hvis : Vis X.env.scope z := .inl (by rw [C.sc']; exact h5)
      refine ⟨_, .cons h11 hB l1, .cons ⟨hg, hdb, .inl hm⟩ hi hk (fun a oe cls d pn hz hv => ?_) l2⟩
      refine ⟨fun pins s σ H D I ⟨σ0, e, q⟩ => ?_⟩
      have hi0 : i < X.N.length := (List.getElem?_eq_some_iff.mp hi).1
      have hlen : σ.length = X.N.length := I.len
      have hl0 : i < σ0.length := by rw [e, List.length_set] at hlen; omega
      refine (pss_one (ps_set (X := X.suite a ((a, oe) :: pn)) (pos := ap) hN hj (loc_of C.sc' h7) (pe_var (pos := zp) hi hvis h9 h10) (sw_none rfl) (.inl (C.fnT t)))).run pins s σ H D I ?_
      exact ⟨.ref a, by rw [e, List.getElem?_set_self hl0], q⟩
    · cases h
/-- what the clauses wish is what stands behind them -/
theorem hdls_w {W : WX} {D : Ends} {c : Nat} {ds : List FT.D} {env : Env} {s : S} {σ : L2.St} {H : Hp} {η : Et} {cls : Value} {d : Option Addr} (av : AbsV G H η env σ) (ab : AbsS G H η s) (er : ErrOk G H η c ds cls d) :
    ∀ {hs : List (Nat × Nat × Nat)} {l : List Hdl}, HdlsOf G M hs l → PostS G W H η (match catchH G.P c hs with
      | some (some (i, j)) => .nx ((env.set j (some (.d (.exc c ds)))).set i none) s
      | some none => .err c ds env s
      | none => .stuck) D → wTrk G.K W D l cls d σ H
  | _, _, .nil, p => p σ cls d H η (Step.refl _ _) av ab er
  | _, _, @HdlsOf.cons _ _ k i j r B l hij hB t, p => by
    obtain ⟨A, dA, vs, e1, rfl, rfl, e4, e5, e6, e7⟩ := id er
    unfold catchH at p
    cases hC : G.P.cls c with
    | none => rw [hC] at p; exact p.elim
    | some C =>
      rw [hC] at p
      simp only at p
      cases hx : C.isExc with
      | false => rw [hx] at p; simp only [Bool.false_eq_true, if_false] at p; exact p.elim
      | true =>
        rw [hx] at p
        simp only [if_true] at p
        refine ⟨C.sups.contains k, hB c C A hC hx e1, fun hb a na => ?_, fun hb => ?_⟩
        · rw [if_pos hb] at p
          refine ⟨σ, rfl, fun _ => ?_⟩
          have fa := ab.fresh na
          have st : Step H η (upd H a (trk a (.ref A) (some dA))) η := Step.laid na fa
          have hda : dA ≠ a := fun z => by rw [z, na] at e4; cases e4
          have hv : RW G (upd H a (trk a (.ref A) (some dA))) η (.d (.exc c ds)) (.ref a) := .exc (C := A) (d := dA) (vs := vs) e1 (by rw [upd_same]; rfl) fa (by rw [upd_ne hda]; exact e4) e5 e6 (e7.mono st.le)
          refine p _ _ η st ?_ (ab.laid na)
          have := (((av.mono st).set (i := i) hv).set (i := j) hv).unset i
          rw [List.set_comm _ _ hij, List.set_set] at this
          exact this
        · rw [if_neg (by rw [hb]; decide)] at p
          exact hdls_w av ab er t p
mutual
theorem sndS : ∀ (st : Sm) (x : Stmt) (sc : Scope) (W : WX) (X : Cx), CtxS G M n N sc W X → okS M N sc st x = true → PS X x (tS G W (callN G.P n) st)
  | .exp e, x, sc, W, X, C, h => by
    simp only [okS] at h
    split at h
    · rename_i y pos
      rw [Bool.and_eq_true] at h
      refine PS_imp (ps_expr (sndE e y sc W X C.toCtx h.2).1 (sw_none h.1)) fun D σ H q => ?_
      obtain ⟨η, env, s, av, ab, p⟩ := q
      exact ⟨η, env, s, av, ab, (PostS.then (Rl := RW G) p av).mono fun v H1 ⟨η1, w, s1, st1, ab1, r1, p1⟩ => p1.nx (av.mono st1) ab1⟩
    · cases h
  | .asg i e, x, sc, W, X, C, h => by
    simp only [okS] at h
    split at h
    · rename_i y py z pos
      simp only [Bool.and_eq_true, decide_eq_true_eq] at h
      obtain ⟨⟨⟨h1, h2⟩, h3⟩, h4⟩ := h
      have core : ∀ {D : Ends} {σ : L2.St} {H : Hp}, tS G W (callN G.P n) (.asg i e) D σ H → tAsg (tE G W (callN G.P n) e) (gName i) D σ H := fun {D σ H} q => by
        obtain ⟨η, env, s, av, ab, p⟩ := q
        exact ⟨η, env, s, av, ab, (PostS.then (Rl := RW G) p av).mono fun v H1 ⟨η1, w, s1, st1, ab1, r1, p1⟩ => p1.nx ((av.mono st1).set r1) ab1⟩
      have hN : X.N.Nodup := by rw [C.N']; exact C.nd
      have hi : X.N[i]? = some y := by rw [C.N']; exact h1
      have hb : X.env.blockKind = .function := by unfold Env.blockKind; rw [C.sc', C.kind]; rfl
      have hkn : X.env.kindOf y = sc.names.lookup y := by unfold Env.kindOf; rw [C.sc']
      cases hz : swComp sc y py z with
      | none => rw [hz] at h4; cases h4
      | some b =>
        cases b with
        | false =>
          have hsw : swapsWith z (some (.Name y py)) pos.line X.env = pure false := by
            unfold swComp at hz
            split at hz
            · rename_i e1 gs scope p
              rw [sw_comp hb hkn]
              rw [Option.some.inj hz]
            · cases hz
            · cases hz
            · rename_i q1 q2 q3
              refine sw_none ?_
              cases z <;> first | rfl | exact (q1 _ _ _ _ rfl).elim | exact (q2 _ _ _ _ rfl).elim | exact (q3 _ _ _ _ _ rfl).elim
          exact PS_imp (ps_set hN hi (loc_of C.sc' h2) (sndE e z sc W X C.toCtx h3).1 hsw (.inl (C.fnT y))) fun D σ H q => core q
        | true =>
          unfold swComp at hz
          split at hz
          · rename_i e1 gs scope p
            have hsw : swapsWith (.ListComp e1 gs scope p) (some (.Name y py)) pos.line X.env = pure true := by
              rw [sw_comp hb hkn]
              rw [Option.some.inj hz]
            have hz := Option.some.inj hz
            simp only [Bool.and_eq_true, decide_eq_true_eq] at hz
            cases e with
            | comp m elt tg it cond own =>
              simp only [okE] at h3
              split at h3
              · rename_i q1 e2 tg1 it1 ifs scope2 pos2 heq
                cases heq
                simp only [Bool.and_eq_true, decide_eq_true_eq] at h3
                obtain ⟨⟨⟨⟨⟨⟨g1, g2⟩, g3⟩, g4⟩, g5⟩, g6⟩, g7⟩ := h3
                have ok : BlkOk X.N X.env.scope scope (ownN N own) := by rw [C.N', C.sc']; exact blkOk_by g2
                have q := ps_setLc (spos := pos) (py := py) C.calm hN hi (by rw [C.sc']; exact hz.1.1) hsw (sndI it it1 tg1 sc W X C.toCtx g4) ok
                  (fun s H Cc cl fp => sndTg (X := X.blk s H scope (compEnvC scope cl Cc X.env) fp) (G := G) (N := N) (sc := relS scope sc) (fnB := fun y => scope.names.lookup y == some .cell) C.K C.N' C.nd C.calm (by rw [← C.sc']; rfl) (fun y hy => hy) tg tg1 g5)
                  (fun s H Cc cl fp => sndC cond ifs (relS scope sc) WF _ (C.toCtx.blk s H scope Cc cl fp) g6)
                  (fun s H Cc cl fp => (sndE elt e1 (relS scope sc) WF _ (C.toCtx.blk s H scope Cc cl fp) g7).1) (set_ok (it_set g4))
                refine PS_imp q fun D σ H q => ?_
                rw [g1]
                exact comp_ok g3 (core q)
              · cases h3
            | _ =>
              simp only [okE] at h3
              first
                | cases h3
                | (split at h3 <;> first | cases h3 | (rename_i heq; cases heq))
          · cases hz
          · cases hz
          · cases hz
    · cases h
  | .par is es, x, sc, W, X, C, h => by
    simp only [okS] at h
    split at h
    · rename_i ts kt pt vs k2 pt2 pos
      simp only [Bool.and_eq_true, decide_eq_true_eq, Bool.or_eq_true] at h
      obtain ⟨⟨⟨⟨⟨⟨h1, h2⟩, h3⟩, h4⟩, h5⟩, h6⟩, h7⟩ := h
      have hN : X.N.Nodup := by rw [C.N']; exact C.nd
      have hw := sw_eq (env := X.env) (k := kt) (p := pt) (k2 := k2) (p2 := pt2) C.kind C.sc' h3
      have qs := sndEs es vs sc W X C.toCtx h5
      rcases h6 with h6 | h6
      · match ts, vs, is with
        | [t1, t2], [v1, v2], is => 
          obtain ⟨i, x1, p1, hi, l1, is2, rfl, rfl, h2a⟩ := names_cons h2
          obtain ⟨j, x2, p2, hj, l2, is3, rfl, rfl, h2b⟩ := names_cons h2a
          cases is3 with
          | cons => simp [okNames] at h2b
          | nil =>
            have hij : i ≠ j := by simpa using h1
            refine PS_imp (ps_par C.calm hN (by rw [C.N']; exact hi) (by rw [C.N']; exact hj) hij (by rw [C.sc']; exact l1) (by rw [C.sc']; exact l2) qs hw rfl) fun D σ H q => ?_
            obtain ⟨η, env, s, av, ab, p⟩ := q
            refine ⟨η, env, s, av, ab, (PostS.then (Rl := RWs G) p av).mono fun us H1 ⟨η1, ws, s1, st1, ab1, r1, p1⟩ => ?_⟩
            split at p1
            · rename_i env2 he
              match ws, he, r1 with
              | [w1, w2], he, r1 =>
                obtain ⟨u1, u2, rfl, r2, r3⟩ := r1.two
                cases he
                exact ⟨u1, u2, rfl, p1.nx (((av.mono st1).set r2).set r3) ab1⟩
            · exact p1.elim
      · match ts, vs, is with
        | [t1, t2, t3], [v1, v2, v3], is => 
          obtain ⟨i, x1, p1, hi, l1, is2, rfl, rfl, h2a⟩ := names_cons h2
          obtain ⟨j, x2, p2, hj, l2, is3, rfl, rfl, h2b⟩ := names_cons h2a
          obtain ⟨l, x3, p3, hl, l3, is4, rfl, rfl, h2c⟩ := names_cons h2b
          cases is4 with
          | cons => simp [okNames] at h2c
          | nil =>
            have hd : (i ≠ j ∧ i ≠ l) ∧ j ≠ l := by simpa [and_assoc] using h1
            refine PS_imp (ps_par3 C.calm hN (by rw [C.N']; exact hi) (by rw [C.N']; exact hj) (by rw [C.N']; exact hl) hd.1.1 hd.1.2 hd.2 (by rw [C.sc']; exact l1) (by rw [C.sc']; exact l2) (by rw [C.sc']; exact l3) qs hw rfl) fun D σ H q => ?_
            obtain ⟨η, env, s, av, ab, p⟩ := q
            refine ⟨η, env, s, av, ab, (PostS.then (Rl := RWs G) p av).mono fun us H1 ⟨η1, ws, s1, st1, ab1, r1, p1⟩ => ?_⟩
            split at p1
            · rename_i env2 he
              match ws, he, r1 with
              | [w1, w2, w3], he, r1 =>
                obtain ⟨u1, u2, u3, rfl, r2, r3, r4⟩ := r1.three
                cases he
                exact ⟨u1, u2, u3, rfl, p1.nx ((((av.mono st1).set r2).set r3).set r4) ab1⟩
            · exact p1.elim
    · cases h
  | .unp t e, x, sc, W, X, C, h => by
    simp only [okS] at h
    split at h
    · rename_i tg z pos
      simp only [Bool.and_eq_true] at h
      obtain ⟨⟨⟨⟨h1, h2⟩, h3⟩, h4⟩, h5⟩ := h
      refine PS_imp (ps_asg (sndE e z sc W X C.toCtx h5).1 (sndTg (G := G) C.K C.N' C.nd C.calm C.sc' (fun y _ => C.fnT y) t tg h4) (sw_none h2) (noSwap_ok C.kind C.sc' h3) (tg_one h1)) fun D σ H q => ?_
      obtain ⟨η, env, s, av, ab, p⟩ := q
      refine ⟨η, env, s, av, ab, (PostS.then (Rl := RW G) p av).mono fun v H1 ⟨η1, w, s1, st1, ab1, r1, p1⟩ => ?_⟩
      split at p1
      · rename_i d
        split at p1
        · rename_i env2 he
          exact ⟨η1, env, d, env2, av.mono st1, r1, he, fun σ' av' _ => p1.nx av' ab1⟩
        · exact p1.elim
      · exact p1.elim
    · cases h
  | .seti o i e, x, sc, W, X, C, h => by
    simp only [okS] at h
    split at h
    · rename_i y z p0 v pos
      simp only [Bool.and_eq_true] at h
      obtain ⟨⟨⟨⟨h1, h2⟩, h3⟩, h4⟩, h5⟩ := h
      refine PS_imp (ps_asg (sndE e v sc W X C.toCtx h3).1 (pg_sub (sndE o y sc W X C.toCtx h4).1 (sndE i z sc W X C.toCtx h5).1 (set_g (G := G)) (fun v => by cases z <;> first | rfl | (simp [notSlice] at h2))) (sw_none (t := some (.Subscript y z p0)) (l := pos.line) (env := X.env) h1) (by cases v <;> rfl) (by rfl)) fun D σ H q => ?_
      obtain ⟨η, env, s, av, ab, p⟩ := q
      refine ⟨η, env, s, av, ab, (PostS.then (Rl := RW G) p av).mono fun v1 H1 ⟨η1, w1, s1, st1, ab1, r1, p1⟩ => ?_⟩
      refine ⟨η1, env, s1, av.mono st1, ab1, (PostS.then (Rl := RW G) p1 (av.mono st1)).mono fun v2 H2 ⟨η2, w2, s2, st2, ab2, r2, p2⟩ => ?_⟩
      refine ⟨η2, env, s2, (av.mono st1).mono st2, ab2, (PostS.then (Rl := RW G) p2 ((av.mono st1).mono st2)).mono fun v3 H3 ⟨η3, w3, s3, st3, ab3, r3, p3⟩ => ?_⟩
      cases w1 with
      | ref => exact p3.elim
      | d d =>
        simp only at p3
        split at p3
        · rename_i s4 he
          refine ⟨η3, s3, w2, w3, d, s4, ab3, r2.mono st3, r3, (r1.mono st2).mono st3, he, fun H4 η4 st4 ab4 => ?_⟩
          exact p3 σ H4 η4 st4 ((((av.mono st1).mono st2).mono st3).mono st4) ab4
        · exact p3.elim
    · cases h
  | .seta o f e, x, sc, W, X, C, h => by
    simp only [okS] at h
    split at h <;> cases h
  | .aug i o e, x, sc, W, X, C, h => by simp [okS] at h
  | .ret e, x, sc, W, X, C, h => by
    simp only [okS] at h
    split at h
    · refine PS_imp (ps_ret (sndE e _ sc W X C.toCtx h).1) fun D σ H q => ?_
      obtain ⟨η, env, s, av, ab, p⟩ := q
      exact ⟨η, env, s, av, ab, (PostS.then (Rl := RW G) p av).mono fun v H1 ⟨η1, w, s1, st1, ab1, r1, p1⟩ => p1 v H1 η1 (Step.refl _ _) ab1 r1⟩
    · cases h
  | .retn, x, sc, W, X, C, h => by
    simp only [okS] at h
    split at h
    · refine PS_imp ps_retN fun D σ H q => ?_
      obtain ⟨η, env, s, av, ab, p⟩ := q
      exact p .non H η (Step.refl _ _) ab .non
    · cases h
  | .pass, x, sc, W, X, C, h => by
    simp only [okS] at h
    split at h
    · refine PS_imp ps_pass fun D σ H q => ?_
      obtain ⟨η, env, s, av, ab, p⟩ := q
      exact p.nx av ab
    · cases h
  | .brk, x, sc, W, X, C, h => by
    simp only [okS] at h
    split at h
    · refine PS_imp ps_break fun D σ H q => ?_
      obtain ⟨η, env, s, av, ab, p⟩ := q
      exact p σ H η (Step.refl _ _) av ab
    · cases h
  | .ife c a b, x, sc, W, X, C, h => by
    simp only [okS] at h
    split at h
    · rename_i y xs zs pos
      simp only [Bool.and_eq_true] at h
      obtain ⟨⟨h1, h2⟩, h3⟩ := h
      refine PS_imp (ps_if (sndE c y sc W X C.toCtx h1).2 (sndSs a xs sc W X C h2) (sndSs b zs sc W X C h3)) fun D σ H q => ?_
      obtain ⟨η, env, s, av, ab, p⟩ := q
      have e0 : evS G.P (callN G.P n) (.ife c a b) env s = (evTst G.P (callN G.P n) c env s).then env fun k s => if k = true then evSs G.P (callN G.P n) a env s else evSs G.P (callN G.P n) b env s := by
        unfold evTst
        rw [evS]
        cases evE G.P (callN G.P n) c env s with
        | ok w s1 =>
          simp only [R.then_ok, R.bind_ok]
          cases truthy w s1 with
          | none => rfl
          | some k => cases k <;> rfl
        | err => rfl
        | stuck => rfl
      rw [e0] at p
      refine ⟨η, env, s, av, ab, (PostS.then (Rl := fun _ _ (a b : Bool) => a = b) p av).mono fun k H1 ⟨η1, k', s1, st1, ab1, r1, p1⟩ => ?_⟩
      subst r1
      cases k' with
      | true => rw [if_pos rfl] at p1 ⊢; exact ⟨η1, env, s1, av.mono st1, ab1, p1⟩
      | false => rw [if_neg (by simp)] at p1 ⊢; exact ⟨η1, env, s1, av.mono st1, ab1, p1⟩
    · cases h
  | .for_ tg it b, x, sc, W, X, C, h => by
    simp only [okS] at h
    split at h
    · rename_i tgx itx xs pos
      simp only [Bool.and_eq_true] at h
      obtain ⟨⟨⟨h1, h2⟩, h3⟩, h4⟩ := h
      refine PS_imp (ps_for C.po C.calm (sndI it itx tgx sc W X C.toCtx h2) (sndTg (G := G) C.K C.N' C.nd C.calm C.sc' (fun y _ => C.fnT y) tg tgx h3) (sndSs b xs sc W X C h4) (set_ok h1)) fun D σ H q => ?_
      obtain ⟨η, env, s, av, ab, p⟩ := q
      rw [evS] at p
      refine ⟨η, env, s, av, ab, (PostS.then (Rl := fun H' η' src J => RSrc G H' η' src J) p av).mono fun J H1 ⟨η1, src, s1, st1, ab1, rs, p1⟩ => ?_⟩
      generalize hf : (fun (x : FT.D) (env : Env) (s : S) => match asgT tg x env with
        | none => RS.stuck
        | some env => evSs G.P (callN G.P n) b env s) = f at p1
      refine ⟨fun i m σ2 H2 => ∃ η2 env2 s2, Step H1 η1 H2 η2 ∧ AbsV G H2 η2 env2 σ2 ∧ AbsS G H2 η2 s2 ∧ PostS G W H2 η2 (forGo src f m i env2 s2) D, ⟨FUEL, η1, env, s1, Step.refl _ _, av.mono st1, ab1, p1⟩, ?_⟩
      rintro i m σ2 H2 ⟨η2, env2, s2, st2, av2, ab2, p2⟩
      cases m with
      | zero => exact p2.elim
      | succ m =>
        rw [forGo] at p2
        cases hg : src.get s2 with
        | none => rw [hg] at p2; exact p2.elim
        | some ds =>
          obtain ⟨w1, w2⟩ := rs H2 η2 s2 st2.toStep0 ab2 ds hg
          rw [hg] at p2
          simp only at p2
          cases hd : ds[i]? with
          | none =>
            rw [hd] at p2
            exact .inl ⟨w2 i hd, p2.nx av2 ab2⟩
          | some d =>
            obtain ⟨go, yl⟩ := w1 i d hd
            rw [hd] at p2
            simp only at p2
            refine .inr ⟨go, fun σ' H' => ∃ m', m' < m + 1 ∧ ∃ η2 env2 s2, Step H1 η1 H' η2 ∧ AbsV G H' η2 env2 σ' ∧ AbsS G H' η2 s2 ∧ PostS G W H' η2 (forGo src f m' (i + 1) env2 s2) D, fun σ' H' h => h, fun x H3 hy => ?_⟩
            obtain ⟨st3, ab3, rd3⟩ := yl x H3 hy
            have p3 := (PostS.loop (r := f d env2 s2) (k := fun env s => forGo src f m (i + 1) env s) p2).step st3
            have he : f d env2 s2 = (match asgT tg d env2 with
                | none => RS.stuck
                | some env => evSs G.P (callN G.P n) b env s2) := by rw [← hf]
            rw [he] at p3
            cases ht : asgT tg d env2 with
            | none => rw [ht] at p3; exact p3.elim
            | some env3 =>
              rw [ht] at p3
              refine ⟨η2, env2, d, env3, av2.mono st3, rd3, ht, fun σ' av' _ => ⟨η2, env3, s2, av', ab3, ?_⟩⟩
              refine p3.ends ?_ (fun _ _ h => h) ?_ (fun _ _ h => h)
              · rintro σ4 H4 ⟨η4, env4, s4, st4, av4, ab4, p4⟩
                exact ⟨m, Nat.lt_succ_self _, η4, env4, s4, st2.trans st4, av4, ab4, p4⟩
              · rintro σ4 H4 ⟨η4, env4, s4, st4, av4, ab4, p4⟩
                exact ⟨m, Nat.lt_succ_self _, η4, env4, s4, st2.trans st4, av4, ab4, p4⟩
    · cases h
  | .whl c b, x, sc, W, X, C, h => by
    simp only [okS] at h
    split at h
    · rename_i y xs pos
      simp only [Bool.and_eq_true] at h
      refine PS_imp (ps_while C.po (sndE c y sc W X C.toCtx h.1).2 (sndSs b xs sc W X C h.2)) fun D σ H q => ?_
      obtain ⟨η, env, s, av, ab, p⟩ := q
      rw [evS] at p
      refine ⟨fun m σ2 H2 => ∃ η2 env2 s2, AbsV G H2 η2 env2 σ2 ∧ AbsS G H2 η2 s2 ∧ PostS G W H2 η2 (whileGo m (fun env s => evTst G.P (callN G.P n) c env s) (fun env s => evSs G.P (callN G.P n) b env s) env2 s2) D, ⟨FUEL, η, env, s, av, ab, p⟩, ?_⟩
      rintro m σ2 H2 ⟨η2, env2, s2, av2, ab2, p2⟩
      cases m with
      | zero => exact p2.elim
      | succ m =>
        have e0 : whileGo (m + 1) (fun env s => evTst G.P (callN G.P n) c env s) (fun env s => evSs G.P (callN G.P n) b env s) env2 s2 = (evTst G.P (callN G.P n) c env2 s2).then env2 fun k s => if k = true then (match evSs G.P (callN G.P n) b env2 s with
            | .nx env s => whileGo m (fun env s => evTst G.P (callN G.P n) c env s) (fun env s => evSs G.P (callN G.P n) b env s) env s
            | .ct env s => whileGo m (fun env s => evTst G.P (callN G.P n) c env s) (fun env s => evSs G.P (callN G.P n) b env s) env s
            | .br env s => .nx env s
            | r => r) else .nx env2 s := by
          rw [whileGo]
          cases evTst G.P (callN G.P n) c env2 s2 with
          | ok k s => cases k <;> rfl
          | err => rfl
          | stuck => rfl
        rw [e0] at p2
        refine ⟨η2, env2, s2, av2, ab2, (PostS.then (Rl := fun _ _ (a b : Bool) => a = b) p2 av2).mono fun k H3 ⟨η3, k', s3, st3, ab3, r3, p3⟩ => ?_⟩
        subst r3
        cases k' with
        | false =>
          rw [if_neg (by simp)] at p3 ⊢
          exact p3.nx (av2.mono st3) ab3
        | true =>
          rw [if_pos rfl] at p3 ⊢
          refine ⟨fun σ' H' => ∃ m', m' < m + 1 ∧ ∃ η2 env2 s2, AbsV G H' η2 env2 σ' ∧ AbsS G H' η2 s2 ∧ PostS G W H' η2 (whileGo m' (fun env s => evTst G.P (callN G.P n) c env s) (fun env s => evSs G.P (callN G.P n) b env s) env2 s2) D, fun σ' H' h => h, η3, env2, s3, av2.mono st3, ab3, ?_⟩
          refine (PostS.loop p3).ends ?_ (fun _ _ h => h) ?_ (fun _ _ h => h)
          · rintro σ4 H4 ⟨η4, env4, s4, st4, av4, ab4, p4⟩
            exact ⟨m, Nat.lt_succ_self _, η4, env4, s4, av4, ab4, p4⟩
          · rintro σ4 H4 ⟨η4, env4, s4, st4, av4, ab4, p4⟩
            exact ⟨m, Nat.lt_succ_self _, η4, env4, s4, av4, ab4, p4⟩
    · cases h
  | .raise c es kes perm, x, sc, W, X, C, h => by
    simp only [okS] at h
    split at h
    · refine PS_imp (mk_raise C.toCtx C.calm h (fun xs hx => sndEs es xs sc W X C.toCtx hx) fun kws hx => sndKs kes kws sc W X C.toCtx hx) fun D σ H q => ?_
      obtain ⟨η, env, s, av, ab, p⟩ := q
      refine ⟨η, env, s, av, ab, ?_⟩
      have p : PostS G W H η ((evE G.P (callN G.P n) (.mk c es kes perm) env s).then env fun w s => match w with
        | .d (.exc c vs) => .err c vs env s
        | _ => .stuck) D := p
      cases hr : evE G.P (callN G.P n) (.mk c es kes perm) env s with
      | stuck => rw [hr] at p; exact p.elim
      | err c2 vs s2 =>
        rw [hr] at p
        exact fun cls d H' η' st ab' er => p σ cls d H' η' st (av.mono st) ab' er
      | ok w s2 =>
        rw [hr] at p
        simp only [R.then_ok] at p
        split at p
        · exact fun cls d H' η' st ab' er => p σ cls d H' η' st (av.mono st) ab' er
        · exact p.elim
    · cases h
  | .tryk b hs, x, sc, W, X, C, h => by
    simp only [okS] at h
    split at h
    · rename_i xs ys pos
      simp only [Bool.and_eq_true, Bool.not_eq_true'] at h
      obtain ⟨⟨h0, h1⟩, h2⟩ := h
      obtain ⟨l, l1, l2⟩ := hdls_of C h2
      cases ys with
      | nil => cases h0
      | cons y ys =>
        refine PS_imp (ps_try_trk (X := X) (Wout := W) (tb := fun W => tSs G W (callN G.P n) b) C.stk C.frm (by rw [C.N']; exact C.nd) C.tk C.exn (fun W' pn xe tk' po' => ?_) l2) fun D σ H q => ?_
        · exact sndSs b xs sc W' (X.tr pn xe) { K := C.K, N' := C.N', nd := C.nd, calm := C.calm, sc' := C.sc', blt := C.blt, ty := C.ty, room := C.room, tk := tk', own := C.own, cls := C.cls, kt := C.kt, props := C.props, mths := C.mths, kws := C.kws, gcs := C.gcs, cks := C.cks, hks := C.hks, fns := C.fns, kind := C.kind, fnT := C.fnT, po := po', exn := C.exn, stk := C.stk, frm := C.frm } h1
        · obtain ⟨η, env, s, av, ab, p⟩ := q
          refine ⟨η, env, s, av, ab, ?_⟩
          unfold evS at p
          cases hr : evSs G.P (callN G.P n) b env s with
          | err c ds env2 s2 =>
            rw [hr] at p
            intro σ' cls d H' η' st av' ab' er
            rw [C.K]
            exact hdls_w (M := M) av' ab' er l1 (p.step st)
          | nx env2 s2 => rw [hr] at p; exact p
          | br env2 s2 => rw [hr] at p; exact p
          | ct env2 s2 => rw [hr] at p; exact p
          | rt w s2 => rw [hr] at p; exact p
          | stuck => rw [hr] at p; exact p
    · cases h
  | .never, x, sc, W, X, C, h => PS_imp ps_never fun D σ H q => by
    obtain ⟨η, env, s, av, ab, p⟩ := q
    exact p.elim
theorem sndSs : ∀ (ss : Sms) (xs : List Stmt) (sc : Scope) (W : WX) (X : Cx), CtxS G M n N sc W X → okSs M N sc ss xs = true → PSs X xs (tSs G W (callN G.P n) ss)
  | .nil, xs, sc, W, X, C, h => by
    simp only [okSs] at h
    split at h
    · refine PSs_imp pss_nil fun D σ H q => ?_
      obtain ⟨η, env, s, av, ab, p⟩ := q
      exact p.nx av ab
    · cases h
  | .cons st ss, xs, sc, W, X, C, h => by
    simp only [okSs] at h
    split at h
    · rename_i x xs
      rw [Bool.and_eq_true] at h
      refine PSs_imp (pss_cons (sndS st x sc W X C h.1) (sndSs ss xs sc W X C h.2)) fun D σ H q => ?_
      obtain ⟨η, env, s, av, ab, p⟩ := q
      rw [evSs] at p
      refine ⟨η, env, s, av, ab, (PostS.seq p).ends ?_ (fun _ _ h => h) (fun _ _ h => h) (fun _ _ h => h)⟩
      rintro σ4 H4 ⟨η4, env4, s4, st4, av4, ab4, p4⟩
      exact ⟨η4, env4, s4, av4, ab4, p4⟩
    · cases h
end
end
end FT

namespace FT
open PySem PySem.Spec PyProof.Rows L2 SlX

/-- a def of the text, told by an Fn -/
structure FnDx (G : GG) (M : Nm) (f : Nat) (a : Addr) (fd : FuncData) (ps : List Str) : Prop where
  ex : ∃ (F : Fn) (x qual : Str) (params : Arguments) (body : List Stmt) (scope : Scope) (N : List Str), G.P.fn f = some F ∧ FunD G.K x qual params body scope [] [] a fd ∧ FnScope N ps scope ∧ okSs M N scope F.body body = true ∧ F.slots = N.length ∧ F.ps = ps.length ∧ F.dfl = []
/-- .. with all its arguments written -/
structure FnD (G : GG) (M : Nm) (f : Nat) (a : Addr) : Prop where
  ex : ∃ (fd : FuncData) (ps : List Str), FnDx G M f a fd ps ∧ Binds G.K fd ps []
/-- an own __init__ of an error -/
def InitD (K : PySem.W.Frag) (fI : Addr) (fd : FuncData) (ps : List Str) (sp : Sp) : Prop := ∃ (B : Bool) (f x qual : Str) (params : Arguments) (body : List Stmt) (scope : Scope), FunD K x qual params body scope [] [] fI fd ∧ FnScope (initPs B f) (initPs B f) scope ∧ initB B f body = true ∧ ps = initPs B f ∧ sp = spI K B f
/-- the text -/
structure Wd (G : GG) (M : Nm) (mg : Str → Option Value) : Prop where
  blt : ∀ f, mg (bltName f) = none
  ty : ∀ f, mg (tyName f) = none
  own : ∀ w m s, FT.own G.P w m s = none
  cls : ∀ c, M.isc c = true → ∃ A, G.clsA c = some A ∧ mg (M.nm c) = some (.ref A)
  kt : KT G M
  props : ∀ c Cl A f g, G.P.cls c = some Cl → Cl.isExc = false → G.clsA c = some A → Cl.attr f = some (.prop g) → ∃ p ga, PySem.W.findIn G.K (.ref A) (M.atn f) = some (some (.ref p)) ∧ PySem.W.specialIn G.K (.ref p) "__get__" = some (some (.builtin "property.__get__")) ∧
    PySem.W.takesIn G.K (.ref p) = some true ∧ (∃ rest, PySem.W.recIn G.K p "property" = some (.ref ga :: rest)) ∧ FnD G M g ga
  mths : ∀ c Cl A m g, G.P.cls c = some Cl → Cl.isExc = false → G.clsA c = some A → Cl.meth m = some g → 100 ≤ m → ∃ ga, Meth G.K A (M.mtn m) ga ∧ FnD G M g ga
  kws : ∀ f q, q ∈ M.kw f → ∃ a fd ps g gV, mg (M.nm f) = some (.ref a) ∧ PySem.W.keepIn G.K (.ref a) = true ∧ FnDx G M f a fd ps ∧ KBn G.K fd ps q.1 q.2.1 g gV ∧
    ∀ vs zs us : List V, vs.length = q.1 → zs.length = q.2.1.length → pick (vs ++ zs) q.2.2 = some us → gV vs zs = us
  gcs : ∀ y d, (y, d) ∈ M.gc → ∃ v u, mg y = some u ∧ RelV v u ∧ ∀ H η, RD G H η d v
  cks : ∀ c q, q ∈ M.ck c → ∃ A, mg (M.nm c) = some (.ref A) ∧ PySem.W.keepIn G.K (.ref A) = true ∧ MkD G G.K c q A (InitD G.K)
  hks : ∀ k, M.hk k = true → ∃ B, mg (M.nm k) = some (.ref B) ∧ ∀ c C A, G.P.cls c = some C → C.isExc = true → G.clsA c = some A → PySem.W.exmOne G.K (.ref A) (.ref B) = some (C.sups.contains k)
  fns : ∀ f, M.kn f = true → ∃ a, mg (M.nm f) = some (.ref a) ∧ PySem.W.keepIn G.K (.ref a) = true ∧ FnD G M f a

section
variable {G : GG} {M : Nm} {H H' : Hp} {η η' : Et} {s : S}
theorem RWs.start {N : List Str} : ∀ {ws : List FT.W} {vs : List V}, RWs G H η ws vs → ∀ (m : Nat) (i : Nat) (w : FT.W), (ws.map some ++ List.replicate m none)[i]? = some (some w) → ∃ v, (vs.map some ++ List.replicate m none)[i]? = some (some v) ∧ RW G H η w v
  | [], [], .nil, m, i, w, e => by
    rw [List.map_nil, List.nil_append] at e
    rw [List.getElem?_replicate] at e
    split at e <;> cases e
  | w0 :: ws, v0 :: vs, .cons h r, m, 0, w, e => by
    simp at e
    subst e
    exact ⟨v0, by simp, h⟩
  | w0 :: ws, v0 :: vs, .cons h r, m, i + 1, w, e => by
    have e : (ws.map some ++ List.replicate m none)[i]? = some (some w) := e
    obtain ⟨v, e1, r1⟩ := RWs.start (N := N) r m i w e
    exact ⟨v, e1, r1⟩
theorem AbsV.start {N : List Str} {ws : List FT.W} {vs : List V} (r : RWs G H η ws vs) (h : ws.length ≤ N.length) : AbsV G H η (ws.map some ++ List.replicate (N.length - ws.length) none) (L2.start N vs) := by
  have hl := r.length
  refine ⟨?_, fun i w e => ?_⟩
  · show _ = (vs.map some ++ List.replicate (N.length - vs.length) none).length
    simp only [List.length_append, List.length_map, List.length_replicate]
    rw [hl]
  · have q := RWs.start (N := N) r _ i w e
    rw [hl] at q
    exact q
/-- what was made goes -/
theorem abs_cut {n : Nat} (ab : AbsS G H' η' s) (st : Step H η H' η') (hn : η.κ.length = n) : Step H η H' η ∧ AbsS G H' η (s.take n) ∧ Le H' η' H' η := by
  obtain ⟨t, ht⟩ := st.pre
  have sub : ∀ a, a ∈ η → a ∈ η' := fun a h => h.elim (fun z => .inl (by rw [← ht]; exact List.mem_append_left _ z)) fun z => .inr (by rw [st.phi]; exact z)
  have le : Le H' η' H' η := fun a o e h => ⟨e, fun z => h (sub a z)⟩
  have hη : η'.κ.take n = η.κ := by rw [← ht, ← hn, List.take_left]
  refine ⟨⟨⟨fun a o e h => ⟨(st.le a o e h).1, h⟩, List.prefix_rfl⟩, rfl, st.kp⟩, ⟨?_, ?_, fun i a c e1 e2 => ?_, fun a ha => ab.fb a (by rw [st.phi]; exact ha), fun a ha h => ab.dj a (by rw [st.phi]; exact ha) (by rw [← ht]; exact List.mem_append_left _ h)⟩, le⟩
  · rw [List.length_take, ← ab.len, ← ht, List.length_append, hn]
    omega
  · have := ab.nd
    rw [← ht, List.nodup_append] at this
    exact this.1
  · have hi : i < n := by
      have := (List.getElem?_eq_some_iff.mp e1).1
      omega
    rw [List.getElem?_take_of_lt hi] at e2
    have e1' : η'.κ[i]? = some a := by rw [← ht, List.getElem?_append_left (by omega)]; exact e1
    exact cell_mono (ab.at' i a c e1' e2) le rfl fun b hb _ => ⟨rfl, fun z => hb (sub b z)⟩
/-- a def's end -/
theorem leave_ok {E : XK} {Q : VK} {r : RS} {keep : Bool} {W : WX} (hs : AbsS G H η s) (hW : ∀ c d σ H, E c d H → W c d σ H) (h : Post G (fun c d H => E c d H) (RW G) H η (leave keep s.length r) Q) : PostS G W H η r { nx := fun _ H' => Q .non H', rt := Q } := by
  have hn : η.κ.length = s.length := hs.len
  cases r with
  | nx env s2 =>
    intro σ' H2 η2 st av ab
    cases keep with
    | true => exact h .non H2 η2 st ab .non
    | false =>
      obtain ⟨k1, k2, k3⟩ := abs_cut ab st hn
      exact h .non H2 η k1 k2 .non
  | br env s2 => exact h.elim
  | ct env s2 => exact h.elim
  | stuck => exact h.elim
  | err c ds env s2 =>
    intro σ' cls d H2 η2 st av ab er
    refine hW _ _ _ _ ?_
    cases keep with
    | true => exact h cls d H2 η2 st ab er
    | false =>
      obtain ⟨k1, k2, k3⟩ := abs_cut ab st hn
      obtain ⟨C, dA, vs, e1, e2, e3, e4, e5, e6, e7⟩ := er
      exact h cls d H2 η k1 k2 ⟨C, dA, vs, e1, e2, e3, e4, (k3 _ _ e4 e5).2, e6, e7.mono k3⟩
  | rt w s2 =>
    intro v H2 η2 st ab rw
    cases keep with
    | true => exact h v H2 η2 st ab rw
    | false =>
      obtain ⟨k1, k2, k3⟩ := abs_cut ab st hn
      cases w with
      | d x =>
        have rw : RD G H2 η2 x v := rw
        exact h v H2 η k1 k2 (show RD G H2 η x v from rw.mono k3)
      | ref k =>
        have h : Post G (fun c d H => E c d H) (RW G) H η (if k < s.length then R.stuck else (match s2[k]? with
          | some (.lst _ xs) => .ok (.d (.lst xs)) (s2.take s.length)
          | _ => .stuck)) Q := h
        split at h
        · exact h.elim
        · rename_i hk
          split at h
          · rename_i lk xs hc
            obtain ⟨a, ha, rfl⟩ := rw
            obtain ⟨vs, g1, g2⟩ := ab.at' k a _ ha hc
            refine h _ H2 η k1 k2 (show RD G H2 η (.lst xs) (.ref a) from .lst (.inl ⟨.inl g1, ?_⟩) (g2.mono k3))
            obtain ⟨t, ht⟩ := st.pre
            rintro (z | z)
            · obtain ⟨j, hj, ej⟩ := List.getElem_of_mem z
              have e2 : η2.κ[j]? = some a := by rw [← ht, List.getElem?_append_left hj]; simp [hj, ej]
              have := (List.getElem?_inj (by have := (List.getElem?_eq_some_iff.mp e2).1; exact this) ab.nd).mp (e2.trans ha.symm)
              omega
            · exact ab.dj a (by rw [st.phi]; exact z) (List.mem_of_getElem? ha)
          · exact h.elim
end

/-- THE THEOREM: a def does what its Fn does -/
theorem fn_ok {G : GG} {M : Nm} {P : Program} {w : World} {mg : Str → Option Value} {base : Heap} (T : Wd G M mg) : ∀ (n : Nat) (f : Nat) (a : Addr) (fd : FuncData) (ps : List Str), FnDx G M f a fd ps → FnOk P w G.K mg base (L2.CX P w) (lvl n) a fd ps (spF G n f)
  | 0, f, a, fd, ps, D => ⟨fun vs H Q E ⟨η, st, ws, ab, rw, p⟩ => p.elim, fun A outer s H args us vs Q E hr e0 hb r ⟨η, st, ws, ab, rw, p⟩ => p.elim⟩
  | n + 1, f, a, fd, ps, D => by
    obtain ⟨F, x, qual, params, body, scope, N, h1, h2, h4, h5, h6, h7, h8⟩ := D.ex
    obtain ⟨oc, od, dV, kV, doc, pm, an, cdv, ct, osl, rfl, lk, hcd, _, _⟩ := h2.ex
    have ih := fn_ok (P := P) (w := w) (base := base) T n
    have ihr : ∀ f a, FnD G M f a → FnR P w G.K mg base (L2.CX P w) (lvl n) a (spF G n f) := fun f a D => by
      obtain ⟨fd, ps, d1, d2⟩ := D.ex
      exact (FnOk.raw (ih f a fd ps d1) d2 .nil).imp fun vs H Q E h => by rw [List.append_nil]; exact h
    have hlen : ∀ vs H Q E, spF G (n + 1) f vs H Q E → vs.length = ps.length := by
      rintro vs H Q E ⟨η, s, ws, ab, rw, p⟩
      rw [← rw.length]
      unfold callN at p
      simp only [h1, h8, List.length_nil] at p
      split at p
      · rename_i hc
        omega
      · exact p.elim
    have e : lvl (n + 1) = lvl n + 1 + 1 := by unfold lvl; omega
    rw [e]
    refine fn_of lk hcd h4 hlen fun A outer s H vs Q E hr hsp => ?_
    have hl := hlen vs H Q E hsp
    obtain ⟨η, s0, ws, ab, rw, p⟩ := hsp
    have hwl : ws.length = ps.length := rw.length.trans hl
    have hpl : ps.length ≤ N.length := by have := congrArg List.length h4.pre; rw [List.length_take] at this; omega
    have C : CtxS G M n N scope (fun cls d _ H => E cls d H) (cxOf (L2.CX P w) P w G.K mg base N qual scope a cdv A outer s H E) :=
      { K := rfl, N' := rfl, nd := h4.nd, calm := rfl, sc' := rfl, blt := T.blt, ty := T.ty, room := hr, tk := takes_of rfl rfl rfl rfl, own := T.own, cls := T.cls, kt := T.kt
        props := fun c Cl A f g e1 e2 e3 e4 => let ⟨p, ga, k1, k2, k3, k4, k5⟩ := T.props c Cl A f g e1 e2 e3 e4; ⟨p, ga, k1, k2, k3, k4, ihr g ga k5⟩
        mths := fun c Cl A m g e1 e2 e3 e4 e5 => let ⟨ga, k1, k2⟩ := T.mths c Cl A m g e1 e2 e3 e4 e5; ⟨ga, k1, ihr g ga k2⟩
        kws := fun f q hq => let ⟨a, fd, ps, g, gV, k1, k2, k3, k4, k5⟩ := T.kws f q hq; ⟨a, fd, ps, g, gV, k1, k2, ih f a fd ps k3, k4, k5⟩
        gcs := T.gcs
        cks := fun c q hq => let ⟨A, k1, k2, k3⟩ := T.cks c q hq; ⟨A, k1, k2, k3.imp fun fI fd ps sp ⟨B, f, x, qual, params, body, scope, z1, z2, z3, z4, z5⟩ => by subst z4 z5; exact init_ok z1 z2 z3⟩
        hks := T.hks
        fns := fun f hf => let ⟨a, k1, k2, k3⟩ := T.fns f hf; ⟨a, k1, k2, ihr f a k3⟩
        kind := h4.kind, fnT := fun _ => rfl, po := passes_of rfl, exn := rfl, stk := rfl, frm := rfl }
    refine ⟨_, sndSs F.body body _ _ _ C h5, η, _, s0, AbsV.start (N := N) rw (by omega), ab, ?_⟩
    refine leave_ok (keep := F.keep) ab (fun _ _ _ _ h => h) ?_
    unfold callN at p
    simp only [h1, h8, List.length_nil] at p
    rw [if_pos (by omega)] at p
    have e : F.ps - ws.length = 0 := by omega
    simp only [e, List.drop_nil, List.map_nil, List.append_nil, h6, h7] at p
    rw [hwl]
    exact p
theorem fn_all {G : GG} {M : Nm} {P : Program} {w : World} {mg : Str → Option Value} {base : Heap} (T : Wd G M mg) (n f : Nat) (a : Addr) (D : FnD G M f a) : FnR P w G.K mg base (L2.CX P w) (lvl n) a (spF G n f) := by
  obtain ⟨fd, ps, d1, d2⟩ := D.ex
  exact (FnOk.raw (fn_ok T n f a fd ps d1) d2 .nil).imp fun vs H Q E h => by rw [List.append_nil]; exact h
end FT

namespace FT
open PySem PySem.Spec PyProof.Rows L2 SlX
theorem pick_rel {vs : List V} {us : List Value} (r : Vals vs us) : ∀ {is : List Nat}, Vals ((pick vs is).getD []) ((pick us is).getD [])
  | is => by
    have key : ∀ is : List Nat, (pick vs is = none ∧ pick us is = none) ∨ ∃ xs ys, pick vs is = some xs ∧ pick us is = some ys ∧ Vals xs ys := fun is => by
      induction is with
      | nil => exact .inr ⟨[], [], rfl, rfl, .nil⟩
      | cons i is ih =>
        have g : ∀ {vs : List V} {us : List Value} (i : Nat), Vals vs us → (vs[i]? = none ∧ us[i]? = none) ∨ ∃ x y, vs[i]? = some x ∧ us[i]? = some y ∧ RelV x y := fun {vs us} i r => by
          induction r generalizing i with
          | nil => exact .inl ⟨by simp, by simp⟩
          | cons h t iht =>
            cases i with
            | zero => exact .inr ⟨_, _, rfl, rfl, h⟩
            | succ i => simpa using iht i
        rcases g i r with ⟨a, b⟩ | ⟨x, y, a, b, c⟩
        · exact .inl ⟨by simp [pick, a], by simp [pick, b]⟩
        · rcases ih with ⟨p, q⟩ | ⟨xs, ys, p, q, t⟩
          · exact .inl ⟨by simp [pick, p], by simp [pick, q]⟩
          · exact .inr ⟨x :: xs, y :: ys, by simp [pick, a, p], by simp [pick, b, q], .cons c t⟩
    rcases key is with ⟨p, q⟩ | ⟨xs, ys, p, q, t⟩
    · rw [p, q]; exact .nil
    · rw [p, q]; exact t
namespace Hd
/-- a class's j-th statement -/
def inCls (s : Stmt) (j : Nat) : Stmt := match s with
  | .ClassDef _ _ _ b _ _ _ _ _ _ _ => b.getD j (.Pass ⟨0, 0, 0, 0⟩)
  | _ => s
structure DE where
  F : Fn
  d : He.DefD
  ps : List Str
  N : List Str
def BindsP (d : He.DefD) (ps : List Str) : Prop := ∀ (kV doc pm : Value) (an : Option Addr) (cdv ct : Value) (us : List Value), us.length = ps.length →
  bindArgs (PySem.W.fnOf d.name d.qual d.params d.body d.scope .none kV doc pm an cdv ct) ⟨us, []⟩ = pure (ps.zip us)
def KBindsP (d : He.DefD) (ps : List Str) (n : Nat) (ks : List Str) (perm : List Nat) : Prop := ∀ (kV doc pm : Value) (an : Option Addr) (cdv ct : Value) (us ws : List Value), us.length = n → ws.length = ks.length →
  ∃ xs, pick (us ++ ws) perm = some xs ∧ bindArgs (PySem.W.fnOf d.name d.qual d.params d.body d.scope .none kV doc pm an cdv ct) ⟨us, ks.zip ws⟩ = pure (ps.zip xs)
def scopeB (N ps : List Str) (sc : Scope) : Bool := (match sc.kind with | .function => true | _ => false) && !sc.isCoroutine && !sc.isGenerator && decide N.Nodup && decide (N.take ps.length = ps) &&
  (ps.all fun x => match sc.names.lookup x with | some .local => true | some .cell => true | _ => false) && sc.names.all fun y => match y.2 with | .free => false | _ => true
theorem scopeB_ok {N ps : List Str} {sc : Scope} (h : scopeB N ps sc = true) : FnScope N ps sc := by
  unfold scopeB at h
  simp only [Bool.and_eq_true, Bool.not_eq_true', decide_eq_true_eq, List.all_eq_true] at h
  obtain ⟨⟨⟨⟨⟨⟨h1, h2⟩, h3⟩, h4⟩, h5⟩, h6⟩, h7⟩ := h
  refine ⟨?_, h2, h3, h4, h5, fun x hx => ?_, fun y hy e => ?_⟩
  · split at h1 <;> first | assumption | cases h1
  · have q := h6 x hx
    split at q
    · exact .inl (by assumption)
    · exact .inr (by assumption)
    · cases q
  · have q := h7 y hy
    rw [e] at q
    cases q
def DE.ok (M : Nm) (x : Str) (e : DE) : Bool := decide (e.d.at_ = (x, none)) && okSs M e.N e.d.scope e.F.body e.d.body && scopeB e.N e.ps e.d.scope && e.F.slots == e.N.length && e.F.ps == e.ps.length && e.F.dfl.isEmpty && e.d.dfl.isEmpty && e.d.kwd.isEmpty
/-- a constant of the text -/
def gcFa : Str × D → He.Fa
  | (x, .int i) => .int x i
  | (x, .str z) => .str x z
  | (x, _) => .free x
def gcB : Str × D → Bool
  | (_, .int _) => true
  | (_, .str z) => PyData.strOk z
  | _ => false
def bltNames : List Str := ["abs", "all", "any", "len", "int", "str", "tuple", "min", "max", "sum", "sorted", "isinstance", "range", "enumerate", "zip", "list", "set", "bool", "ValueError", "LookupError"]
def faOf (M : Nm) (es : List (Nat × DE)) (xs : List Nat) : List He.Fa := bltNames.map .free ++ (es.map (fun p => .glo (M.nm p.1)) ++ (M.gc.map gcFa ++ xs.map fun c => .glo (M.nm c)))
/-- a class of errors: whether it takes an argument, the classes above it, the built-in ones; its field's number -/
structure EC where
  arg : Bool
  sups : List Nat
  blt : List Nat
  k : Nat
def EC.C (e : EC) : Cls := { isExc := true, arg := e.arg, fields := 1, init := 0, dfl := [], attr := fun f => if f = e.k then some (.fld 0) else none, meth := fun _ => none, sups := e.sups, blt := e.blt }
def clsOf (l : List (Nat × EC)) (c : Nat) : Option Cls := (l.lookup c).map EC.C
theorem clsOf_some {l : List (Nat × EC)} {c : Nat} {C : Cls} (h : clsOf l c = some C) : ∃ e, l.lookup c = some e ∧ C = e.C := by
  unfold clsOf at h
  cases q : l.lookup c with
  | none => rw [q] at h; cases h
  | some e => rw [q] at h; cases h; exact ⟨e, rfl, rfl⟩
/-- .. and its text -/
structure CE where
  e : EC
  f : Str
  d : He.DefD
def clA (M : Nm) (K : PySem.W.Frag) (xs : List Nat) (c : Nat) : Option Addr := if xs.contains c then some (He.ga K (M.nm c)) else none
theorem clA_some {M : Nm} {K : PySem.W.Frag} {xs : List Nat} {c : Nat} {A : Addr} (h : clA M K xs c = some A) : c ∈ xs ∧ A = He.ga K (M.nm c) := by
  unfold clA at h
  split at h
  · rename_i q
    cases h
    exact ⟨by simpa using q, rfl⟩
  · cases h
def clF (cl : List (Nat × CE)) (c : Nat) : List Str := match cl.lookup c with
  | some e => [e.f]
  | none => []
/-- what is asked of the class at A -/
def oexB (K : PySem.W.Frag) (C : Addr) : Bool := (match K.lookup C with
  | some ⟨.type "type", _, .cls cd, sl⟩ => (match cd.mro, sl.toList with
    | .ref C' :: bm, [_, _, _, _, some (.builtin n), _] => C' == C && n == "ValueError.__new__" && !cd.hasDel && cd.hasDict && PySem.HandSPX.refsVE bm
    | _, _ => false)
  | _ => false) && (He.eqO (PySem.W.findIn K (.ref C) "__setattr__") (some (some (.builtin "object.__setattr__"))) && (decide (PySem.W.subIn K (.ref C) (.type "BaseException") = some true) && (decide (PySem.W.typeIn K (.ref C) = some (.type "type")) && PySem.W.keepIn K (.ref C))))
theorem oexB_ok {K : PySem.W.Frag} {C : Addr} (h : oexB K C = true) : OexC K C := by
  unfold oexB at h
  obtain ⟨q, h⟩ := He.ba h
  obtain ⟨h1, h⟩ := He.ba h
  obtain ⟨h2, h⟩ := He.ba h
  obtain ⟨h3, h4⟩ := He.ba h
  refine ⟨?_, He.eqO_ok h1, of_decide_eq_true h2, of_decide_eq_true h3, h4⟩
  split at q
  · rename_i dd cd sl ho
    split at q
    · rename_i C' bm k0 k1 k2 k3 n k5 hm hs
      simp only [Bool.and_eq_true, beq_iff_eq, Bool.not_eq_true'] at q
      obtain ⟨⟨⟨⟨rfl, rfl⟩, hdel⟩, hd⟩, hr⟩ := q
      obtain ⟨nm, bs, mro, ns, qn, hdc, sn, sub, ab, col, del⟩ := cd
      dsimp only at hm hdel hd
      subst hm hdel hd
      have hsl : sl = #[k0, k1, k2, k3, some (.builtin "ValueError.__new__"), k5] := by
        obtain ⟨l⟩ := sl
        simp only at hs
        rw [hs]
      subst hsl
      exact ⟨nm, qn, ns, bs, bm, sn, sub, ab, col, dd, k0, k1, k2, k3, k5, ho, hr⟩
    · cases q
  · cases q
def excB (K : PySem.W.Frag) (D : Addr) : Bool := He.eqO (PySem.W.findIn K (.ref D) "__getattribute__") (some (some (.builtin "BaseException.__getattribute__"))) && (He.eqO (PySem.W.findIn K (.ref D) "__getattr__") (some none) && (decide (PySem.W.subIn K (.ref D) (.type "BaseException") = some true) && (PySem.W.hasDictIn K D &&
  (He.eqO (PySem.W.findIn K (.ref D) "__class__") (some (some (.builtin "object.__class__"))) && (He.eqO (PySem.W.specialIn K (.builtin "object.__class__") "__get__") (some (some (.builtin "getset_descriptor.__get__"))) && (decide (PySem.W.takesIn K (.builtin "object.__class__") = some true) && decide (PySem.W.mroIn K D (.type "object") = some true)))))))
theorem excB_ok {K : PySem.W.Frag} {D : Addr} (h : excB K D = true) : ExcC K D := by
  unfold excB at h
  obtain ⟨h1, h⟩ := He.ba h
  obtain ⟨h2, h⟩ := He.ba h
  obtain ⟨h3, h⟩ := He.ba h
  obtain ⟨h4, h⟩ := He.ba h
  obtain ⟨h5, h⟩ := He.ba h
  obtain ⟨h6, h⟩ := He.ba h
  obtain ⟨h7, h8⟩ := He.ba h
  exact ⟨He.eqO_ok h1, He.eqO_ok h2, of_decide_eq_true h3, h4, He.eqO_ok h5, He.eqO_ok h6, of_decide_eq_true h7, of_decide_eq_true h8⟩
/-- one class of errors -/
def clsB (M : Nm) (K : PySem.W.Frag) (xs hs : List Nat) (p : Nat × CE) : Bool := oexB K (He.ga K (M.nm p.1)) && (excB K (He.ga K (M.nm p.1)) && (He.eqO (PySem.W.findIn K (.ref (He.ga K (M.nm p.1))) "__init__") (some (some (.ref (He.ma K (He.ga K (M.nm p.1)) "__init__")))) &&
  (decide (PySem.W.typeIn K (.ref (He.ma K (He.ga K (M.nm p.1)) "__init__")) = some (.type "function")) && (He.eqO (PySem.W.findIn K (.ref (He.ga K (M.nm p.1))) p.2.f) (some none) &&
  (((List.range 7).all fun t => decide (PySem.W.kitOne K (.ref (He.ga K (M.nm p.1))) (.type (tyStr t)) = some (p.2.e.blt.contains t))) && ((xs.all fun d => decide (PySem.W.kitOne K (.ref (He.ga K (M.nm p.1))) (.ref (He.ga K (M.nm d))) = some (p.2.e.sups.contains d))) &&
  (hs.all fun d => decide (PySem.W.exmOne K (.ref (He.ga K (M.nm p.1))) (.ref (He.ga K (M.nm d))) = some (p.2.e.sups.contains d)))))))))
def exB (M : Nm) (cl : List (Nat × CE)) (xs hs : List Nat) (K : PySem.W.Frag) : Bool := (cl.all fun p => clsB M K xs hs p) && (xs.all fun c => tyKinds.all fun T => decide (PySem.W.kitOne K (.type T) (.ref (He.ga K (M.nm c))) = some false))
structure ClsF (M : Nm) (K : PySem.W.Frag) (xs hs : List Nat) (c : Nat) (e : CE) (A fI : Addr) : Prop where
  ox : OexC K A
  ex : ExcC K A
  ini : PySem.W.findIn K (.ref A) "__init__" = some (some (.ref fI))
  ity : PySem.W.typeIn K (.ref fI) = some (.type "function")
  fno : PySem.W.findIn K (.ref A) e.f = some none
  oneE : ∀ t, t ≤ 6 → PySem.W.kitOne K (.ref A) (.type (tyStr t)) = some (e.e.blt.contains t)
  oneC : ∀ d ∈ xs, PySem.W.kitOne K (.ref A) (.ref (He.ga K (M.nm d))) = some (e.e.sups.contains d)
  exm : ∀ d ∈ hs, PySem.W.exmOne K (.ref A) (.ref (He.ga K (M.nm d))) = some (e.e.sups.contains d)
theorem clsB_ok {M : Nm} {K : PySem.W.Frag} {xs hs : List Nat} {p : Nat × CE} (h : clsB M K xs hs p = true) : ClsF M K xs hs p.1 p.2 (He.ga K (M.nm p.1)) (He.ma K (He.ga K (M.nm p.1)) "__init__") := by
  unfold clsB at h
  obtain ⟨h1, h⟩ := He.ba h
  obtain ⟨h2, h⟩ := He.ba h
  obtain ⟨h3, h⟩ := He.ba h
  obtain ⟨h4, h⟩ := He.ba h
  obtain ⟨h5, h⟩ := He.ba h
  obtain ⟨h6, h⟩ := He.ba h
  obtain ⟨h7, h8⟩ := He.ba h
  exact ⟨oexB_ok h1, excB_ok h2, He.eqO_ok h3, of_decide_eq_true h4, He.eqO_ok h5, fun t ht => of_decide_eq_true (List.all_eq_true.mp h6 t (List.mem_range.mpr (by omega))), fun d hd => of_decide_eq_true (List.all_eq_true.mp h7 d hd), fun d hd => of_decide_eq_true (List.all_eq_true.mp h8 d hd)⟩
theorem lookup_mem {α : Type} {a : Nat} {o : α} : ∀ {l : List (Nat × α)}, l.lookup a = some o → (a, o) ∈ l
  | [], h => by cases h
  | (b, u) :: r, h => by
    rw [List.lookup_cons] at h
    split at h
    · rename_i q
      have e : u = o := Option.some.inj h
      rw [eq_of_beq q, e]
      exact List.mem_cons_self
    · exact List.mem_cons_of_mem _ (lookup_mem h)
theorem kn_of {α β : Type} {es : List (Nat × α)} {l : List (Nat × β)} (e : es.map (·.1) = l.map (·.1)) {f : Nat} (h : (l.lookup f).isSome = true) : f ∈ es.map (·.1) := by
  obtain ⟨x, hx⟩ := Option.isSome_iff_exists.mp h
  rw [e]
  exact List.mem_map.mpr ⟨(f, x), lookup_mem hx, rfl⟩
theorem blt_mem : ∀ f, bltName f ∈ bltNames := fun f => by
  unfold bltName
  split <;> (unfold bltNames; simp)
theorem ty_mem : ∀ f, tyName f ∈ bltNames := fun f => by
  unfold tyName
  split <;> (unfold bltNames; simp)
section
variable {K : PySem.W.Frag} {h : Heap} {mg : Str → Option Value} {P : Prog} {M : Nm} {es : List (Nat × DE)}
theorem fnDx_of {G : GG} (hK : G.K = K) {e : DE} {x : Str} {f : Nat} (hP : G.P.fn f = some e.F) (ho : e.ok M x = true) {fd : FuncData} (hf : FunD K e.d.name e.d.qual e.d.params e.d.body e.d.scope (e.d.dvs K) (e.d.kws K) (He.fAd K e.d.at_) fd) :
    FnDx G M f (He.ga K x) fd e.ps := by
  unfold DE.ok at ho
  simp only [Bool.and_eq_true, decide_eq_true_eq, beq_iff_eq, List.isEmpty_iff] at ho
  obtain ⟨⟨⟨⟨⟨⟨⟨h1, h2⟩, h3⟩, h4⟩, h5⟩, h6⟩, h7⟩, h8⟩ := ho
  have e1 : e.d.dvs K = [] := by unfold He.DefD.dvs; rw [h7]; rfl
  have e2 : e.d.kws K = [] := by unfold He.DefD.kws; rw [h8]; rfl
  rw [e1, e2] at hf
  have e3 : He.fAd K e.d.at_ = He.ga K x := by rw [h1]; rfl
  rw [e3, ← hK] at hf
  subst hK
  exact ⟨⟨e.F, _, _, _, _, _, e.N, hP, hf, scopeB_ok h3, h2, h4, h5, h6⟩⟩
def AllB : List (Nat × DE) → Prop
  | [] => True
  | e :: r => BindsP e.2.d e.2.ps ∧ AllB r
theorem AllB.mem : ∀ {es : List (Nat × DE)}, AllB es → ∀ e ∈ es, BindsP e.2.d e.2.ps
  | [], _, e, he => by cases he
  | a :: r, h, e, he => by
    rcases List.mem_cons.mp he with z | z
    · rw [z]; exact h.1
    · exact AllB.mem h.2 e z
def AllF (P : Prog) : List (Nat × DE) → Prop
  | [] => True
  | e :: r => P.fn e.1 = some e.2.F ∧ AllF P r
theorem AllF.mem {P : Prog} : ∀ {es : List (Nat × DE)}, AllF P es → ∀ e ∈ es, P.fn e.1 = some e.2.F
  | [], _, e, he => by cases he
  | a :: r, h, e, he => by
    rcases List.mem_cons.mp he with z | z
    · rw [z]; exact h.1
    · exact AllF.mem h.2 e z
/-- a call of an own __init__ -/
def KInitP (d : He.DefD) (ps : List Str) (n : Nat) (ks : List Str) (perm : List Nat) : Prop := ∀ (kV doc pm : Value) (an : Option Addr) (cdv ct a : Value) (us ws : List Value), us.length = n → ws.length = ks.length →
  ∃ xs, pick (us ++ ws) perm = some xs ∧ bindArgs (PySem.W.fnOf d.name d.qual d.params d.body d.scope .none kV doc pm an cdv ct) ⟨a :: us, ks.zip ws⟩ = pure (ps.zip (a :: xs))
def CE.ok (M : Nm) (c : Nat) (e : CE) : Bool := decide (e.d.at_ = (M.nm c, some ("__init__" : Str))) && scopeB (initPs e.e.arg e.f) (initPs e.e.arg e.f) e.d.scope && initB e.e.arg e.f e.d.body && e.d.dfl.isEmpty && e.d.kwd.isEmpty && M.atn e.e.k == e.f
abbrev Kwl : Type := List (Nat × Nat × List Str × List Nat)
def AllK (es : List (Nat × DE)) : Kwl → Prop
  | [] => True
  | q :: r => (∃ e, es.lookup q.1 = some e ∧ KBindsP e.d e.ps q.2.1 q.2.2.1 q.2.2.2) ∧ AllK es r
def kwOf (l : Kwl) (f : Nat) : List (Nat × List Str × List Nat) := (l.filter fun q => q.1 == f).map (·.2)
theorem AllK.mem {es : List (Nat × DE)} : ∀ {l : Kwl}, AllK es l → ∀ f q, q ∈ kwOf l f → ∃ e, es.lookup f = some e ∧ KBindsP e.d e.ps q.1 q.2.1 q.2.2
  | l, h, f, q, hq => by
    unfold kwOf at hq
    obtain ⟨p, hp, rfl⟩ := List.mem_map.mp hq
    obtain ⟨h1, h2⟩ := List.mem_filter.mp hp
    have key : ∀ {l : Kwl}, AllK es l → p ∈ l → ∃ e, es.lookup p.1 = some e ∧ KBindsP e.d e.ps p.2.1 p.2.2.1 p.2.2.2 := fun {l} h hp => by
      induction l with
      | nil => cases hp
      | cons a r ih =>
        rcases List.mem_cons.mp hp with z | z
        · rw [z]; exact h.1
        · exact ih h.2 z
    have e : p.1 = f := eq_of_beq h2
    rw [← e]
    exact key h h1
def AllC (errs : List (Nat × EC)) (cl : List (Nat × CE)) : List Nat → Prop
  | [] => True
  | c :: r => ((∃ e, cl.lookup c = some e ∧ errs.lookup c = some e.e) ∨ errs.lookup c = none) ∧ AllC errs cl r
theorem AllC.mem {errs : List (Nat × EC)} {cl : List (Nat × CE)} : ∀ {xs : List Nat}, AllC errs cl xs → ∀ c ∈ xs, ∀ e', errs.lookup c = some e' → ∃ e, cl.lookup c = some e ∧ e' = e.e
  | [], _, c, hc, _, _ => by cases hc
  | a :: r, h, c, hc, e', he => by
    rcases List.mem_cons.mp hc with z | z
    · subst z
      rcases h.1 with ⟨e, h1, h2⟩ | h1
      · rw [h2] at he; cases he; exact ⟨e, h1, rfl⟩
      · rw [h1] at he; cases he
    · exact AllC.mem h.2 c z e' he
/-- the class calls -/
def AllI (P : Prog) (errs : List (Nat × EC)) (xs : List Nat) (cl : List (Nat × CE)) : Kwl → Prop
  | [] => True
  | q :: r => (∃ e, cl.lookup q.1 = some e ∧ errs.lookup q.1 = some e.e ∧ xs.contains q.1 = true ∧ P.fn q.1 = none ∧ KInitP e.d (initPs e.e.arg e.f) q.2.1 q.2.2.1 q.2.2.2) ∧ AllI P errs xs cl r
theorem AllI.mem {P : Prog} {errs : List (Nat × EC)} {xs : List Nat} {cl : List (Nat × CE)} : ∀ {l : Kwl}, AllI P errs xs cl l → ∀ c q, q ∈ kwOf l c → ∃ e, cl.lookup c = some e ∧ errs.lookup c = some e.e ∧ xs.contains c = true ∧ P.fn c = none ∧ KInitP e.d (initPs e.e.arg e.f) q.1 q.2.1 q.2.2
  | l, h, f, q, hq => by
    unfold kwOf at hq
    obtain ⟨p, hp, rfl⟩ := List.mem_map.mp hq
    obtain ⟨h1, h2⟩ := List.mem_filter.mp hp
    have key : ∀ {l : Kwl}, AllI P errs xs cl l → p ∈ l → ∃ e, cl.lookup p.1 = some e ∧ errs.lookup p.1 = some e.e ∧ xs.contains p.1 = true ∧ P.fn p.1 = none ∧ KInitP e.d (initPs e.e.arg e.f) p.2.1 p.2.2.1 p.2.2.2 := fun {l} h hp => by
      induction l with
      | nil => cases hp
      | cons a r ih =>
        rcases List.mem_cons.mp hp with z | z
        · rw [z]; exact h.1
        · exact ih h.2 z
    have e : p.1 = f := eq_of_beq h2
    rw [← e]
    exact key h h1
/-- the classes of a text: those of errors that are made; all that are named; those that are caught; how they are called -/
structure CT where
  errs : List (Nat × EC)
  cl : List (Nat × CE)
  xs : List Nat
  hs : List Nat
  ckl : Kwl
def CT.none : CT := ⟨[], [], [], [], []⟩
/-- what the text's defs must be, one by one -/
structure TabOk (P : Prog) (M : Nm) (es : List (Nat × DE)) (kwl : Kwl) (ct : CT) : Prop where
  cls : P.cls = clsOf ct.errs
  clo : (ct.cl.all fun p => p.2.ok M p.1) = true
  cla : AllC ct.errs ct.cl ct.xs
  isc : ∀ c, M.isc c = ct.xs.contains c
  hk : ∀ c, M.hk c = true → c ∈ ct.hs
  hsx : (ct.hs.all fun c => ct.xs.contains c) = true
  cke : M.ck = kwOf ct.ckl
  ck : AllI P ct.errs ct.xs ct.cl ct.ckl
  kn : ∀ f, M.kn f = true → f ∈ es.map (·.1)
  fn : AllF P es
  ok : (es.all fun p => p.2.ok M (M.nm p.1)) = true
  gc : M.gc.all gcB = true
  bi : AllB es
  kwe : M.kw = kwOf kwl
  kw : AllK es kwl
def fnL (es : List (Nat × DE)) (cl : List (Nat × CE)) : List He.DefD := es.map (·.2.d) ++ cl.map (·.2.d)
def GGof (P : Prog) (M : Nm) (K : PySem.W.Frag) (ct : CT) : GG := ⟨P, K, clA M K ct.xs, clF ct.cl⟩
theorem gl_of' {xs : List Nat} {cl : List (Nat × CE)} (X : K.In h) (Ns : h.Ns mainGlobals mg) (c : He.SaysD (faOf M es xs) (fnL es cl) K) (f : Nat) (e : DE) (hf : (f, e) ∈ es) : mg (M.nm f) = some (.ref (He.ga K (M.nm f))) :=
  He.glo_ok X Ns (He.SaysD.facts c (f := .glo (M.nm f)) (List.mem_append_right _ (List.mem_append_left _ (List.mem_map.mpr ⟨(f, e), hf, rfl⟩))))
theorem cl_of' {xs : List Nat} {cl : List (Nat × CE)} (X : K.In h) (Ns : h.Ns mainGlobals mg) (c : He.SaysD (faOf M es xs) (fnL es cl) K) (k : Nat) (hk : k ∈ xs) : mg (M.nm k) = some (.ref (He.ga K (M.nm k))) :=
  He.glo_ok X Ns (He.SaysD.facts c (f := .glo (M.nm k)) (List.mem_append_right _ (List.mem_append_right _ (List.mem_append_right _ (List.mem_map.mpr ⟨k, hk, rfl⟩)))))
theorem df_of {kwl : Kwl} {ct : CT} (T : TabOk P M es kwl ct) (X : K.In h) (Ns : h.Ns mainGlobals mg) (c : He.SaysD (faOf M es ct.xs) (fnL es ct.cl) K) (f : Nat) (e : DE) (hf : (f, e) ∈ es) :
    ∃ fd, FnDx (GGof P M K ct) M f (He.ga K (M.nm f)) fd e.ps ∧ FunD K e.d.name e.d.qual e.d.params e.d.body e.d.scope [] [] (He.ga K (M.nm f)) fd := by
  have ho : e.ok M (M.nm f) = true := by
    exact List.all_eq_true.mp T.ok (f, e) hf
  obtain ⟨fd, hd⟩ := He.SaysD.defs c (d := e.d) (List.mem_append_left _ (List.mem_map.mpr ⟨(f, e), hf, rfl⟩))
  refine ⟨fd, fnDx_of (G := GGof P M K ct) rfl (AllF.mem T.fn (f, e) hf) ho hd, ?_⟩
  unfold DE.ok at ho
  simp only [Bool.and_eq_true, decide_eq_true_eq, beq_iff_eq, List.isEmpty_iff] at ho
  obtain ⟨⟨⟨⟨⟨⟨⟨h1, h2⟩, h3⟩, h4⟩, h5⟩, h6⟩, h7⟩, h8⟩ := ho
  have e1 : e.d.dvs K = [] := by unfold He.DefD.dvs; rw [h7]; rfl
  have e2 : e.d.kws K = [] := by unfold He.DefD.kws; rw [h8]; rfl
  have e3 : He.fAd K e.d.at_ = He.ga K (M.nm f) := by rw [h1]; rfl
  rw [e1, e2, e3] at hd
  exact hd
theorem wd_of {kwl : Kwl} {ct : CT} (T : TabOk P M es kwl ct) (X : K.In h) (Ns : h.Ns mainGlobals mg) (c : He.SaysD (faOf M es ct.xs) (fnL es ct.cl) K) (hx : exB M ct.cl ct.xs ct.hs K = true) : Wd (GGof P M K ct) M mg := by
  have fr : ∀ x ∈ bltNames, mg x = none := fun x hx => He.free_ok X Ns (He.SaysD.facts c (f := .free x) (List.mem_append_left _ (List.mem_map_of_mem hx)))
  have gl := gl_of' X Ns c
  have cg := cl_of' X Ns c
  have df := df_of T X Ns c
  have sd := c
  obtain ⟨hx1, hx2⟩ := He.ba hx
  have noX : ∀ c C, P.cls c = some C → C.isExc = false → False := fun c C e1 e2 => by
    rw [T.cls] at e1
    obtain ⟨e, _, rfl⟩ := clsOf_some e1
    cases e2
  have fac : ∀ c C A, P.cls c = some C → clA M K ct.xs c = some A → ∃ e, ct.cl.lookup c = some e ∧ C = e.e.C ∧ ClsF M K ct.xs ct.hs c e A (He.ma K A "__init__") := fun c C A e1 e2 => by
    rw [T.cls] at e1
    obtain ⟨e', q1, rfl⟩ := clsOf_some e1
    obtain ⟨q2, rfl⟩ := clA_some e2
    obtain ⟨e, q3, rfl⟩ := T.cla.mem c q2 e' q1
    exact ⟨e, q3, rfl, clsB_ok (p := (c, e)) (List.all_eq_true.mp hx1 (c, e) (lookup_mem q3))⟩
  have fldn : ∀ c e, ct.cl.lookup c = some e → clF ct.cl c = [e.f] := fun c e q => by unfold clF; rw [q]
  have okc : ∀ c e, ct.cl.lookup c = some e → e.ok M c = true := fun c e q => List.all_eq_true.mp T.clo (c, e) (lookup_mem q)
  refine { blt := fun f => fr _ (blt_mem f), ty := fun f => fr _ (ty_mem f), own := fun w m s => ?_, cls := fun c hc => ?_, kt := ?_, props := fun c Cl A f g e h2 => (noX c Cl e h2).elim, mths := fun c Cl A f g e h2 => (noX c Cl e h2).elim, kws := fun f q hq => ?_, gcs := fun y d hy => ?_, cks := fun c q hq => ?_, hks := fun k hk => ?_, fns := fun f hf => ?_ }
  · unfold FT.own
    split
    · show (P.cls _).bind _ = none
      cases q : P.cls _ with
      | none => rfl
      | some C =>
        rw [T.cls] at q
        obtain ⟨e, _, rfl⟩ := clsOf_some q
        rfl
    · rfl
  · have hc2 : c ∈ ct.xs := by have := T.isc c; rw [hc] at this; simpa using this.symm
    exact ⟨He.ga K (M.nm c), by show clA M K ct.xs c = _; unfold clA; rw [if_pos (by simpa using hc2)], cg c hc2⟩
  · refine { exc := fun c C A e _ e2 => ?_, ins := fun c C A e h2 => (noX c C e h2).elim, oneB := fun Tn hT c A e => ?_, oneE := fun c C A t e e2 ht => ?_, oneC := fun c C A d B e e2 e3 => ?_, fldE := fun c C A f i e _ e2 e3 => ?_, fldI := fun c C A f i e h2 => (noX c C e h2).elim }
    · obtain ⟨e', _, _, F⟩ := fac c C A e e2
      exact F.ex
    · obtain ⟨q2, rfl⟩ := clA_some e
      exact of_decide_eq_true (List.all_eq_true.mp (List.all_eq_true.mp hx2 c q2) Tn hT)
    · obtain ⟨e', _, rfl, F⟩ := fac c C A e e2
      exact F.oneE t ht
    · obtain ⟨e', _, rfl, F⟩ := fac c C A e e2
      obtain ⟨q2, rfl⟩ := clA_some e3
      exact F.oneC d q2
    · obtain ⟨e', q, rfl, F⟩ := fac c C A e e2
      have ho := okc c e' q
      unfold CE.ok at ho
      simp only [Bool.and_eq_true, beq_iff_eq] at ho
      have e3 : (if f = e'.e.k then some (AK.fld 0) else none) = some (AK.fld i) := e3
      split at e3
      · rename_i hf
        cases e3
        show (clF ct.cl c)[0]? = _ ∧ (clF ct.cl c).Nodup ∧ _
        rw [fldn c e' q, hf, ho.2]
        exact ⟨rfl, by simp, F.fno⟩
      · cases e3
  · obtain ⟨e, he, hb⟩ := AllK.mem T.kw f q (T.kwe ▸ hq)
    obtain ⟨fd, d1, d2⟩ := df f e (lookup_mem he)
    refine ⟨_, fd, e.ps, fun us ws => (pick (us ++ ws) q.2.2).getD [], fun vs zs => (pick (vs ++ zs) q.2.2).getD [], gl f e (lookup_mem he), d2.kp, d1, ⟨fun s us ws X l1 l2 => ?_, fun r1 r2 => pick_rel (r1.append r2)⟩, fun vs zs us l1 l2 e => by simp only [e, Option.getD_some]⟩
    obtain ⟨oc, od, dV, kV, doc, pm, an, cdv, ct', osl, rfl, lk, hcd, hD, hK⟩ := d2.ex
    rcases hD with ⟨_, rfl⟩ | ⟨z, _⟩
    · obtain ⟨xs, e1, e2⟩ := hb kV doc pm an cdv ct' us ws l1 l2
      have e1' : (pick (us ++ ws) q.2.2).getD [] = xs := by rw [e1]; rfl
      simp only [e1']
      exact .of_eq e2
    · exact absurd rfl z
  · have hb := List.all_eq_true.mp T.gc (y, d) hy
    have hm : gcFa (y, d) ∈ faOf M es ct.xs := List.mem_append_right _ (List.mem_append_right _ (List.mem_append_left _ (List.mem_map_of_mem hy)))
    cases d with
    | int i =>
      obtain ⟨t, e⟩ := He.int_ok X Ns (He.SaysD.facts c (f := .int y i) hm)
      exact ⟨.int i, _, e, ⟨t, rfl⟩, fun _ _ => .int i⟩
    | str z =>
      obtain ⟨t, e⟩ := He.str_ok X Ns (He.SaysD.facts c (f := .str y z) hm)
      exact ⟨.str z, _, e, ⟨t, rfl⟩, fun _ _ => .str z hb⟩
    | _ => cases hb
  · obtain ⟨e, he, q1, q2, q3, hb⟩ := T.ck.mem c q (T.cke ▸ hq)
    have hc2 : c ∈ ct.xs := by simpa using q2
    have hcl : clA M K ct.xs c = some (He.ga K (M.nm c)) := by unfold clA; rw [if_pos q2]
    have hP : P.cls c = some e.e.C := by rw [T.cls]; unfold clsOf; rw [q1]; rfl
    obtain ⟨e', he', _, F⟩ := fac c _ _ hP hcl
    rw [he] at he'
    cases he'
    have ho := okc c e he
    unfold CE.ok at ho
    simp only [Bool.and_eq_true, decide_eq_true_eq, beq_iff_eq, List.isEmpty_iff] at ho
    obtain ⟨⟨⟨⟨⟨h1, h2⟩, h3⟩, h4⟩, h5⟩, h6⟩ := ho
    obtain ⟨fd, hd⟩ := He.SaysD.defs sd (d := e.d) (List.mem_append_right _ (List.mem_map.mpr ⟨(c, e), lookup_mem he, rfl⟩))
    have e1 : e.d.dvs K = [] := by unfold He.DefD.dvs; rw [h4]; rfl
    have e2 : e.d.kws K = [] := by unfold He.DefD.kws; rw [h5]; rfl
    have e3 : He.fAd K e.d.at_ = He.ma K (He.ga K (M.nm c)) "__init__" := by rw [h1]; rfl
    rw [e1, e2, e3] at hd
    refine ⟨_, cg c hc2, F.ox.kC, q3, hcl, F.ox, e.e.C, _, fd, e.f, fun us ws => (match us with
      | a :: us => a :: (pick (us ++ ws) q.2.2).getD []
      | [] => []), fun us ws => (match us with
      | a :: us => a :: (pick (us ++ ws) q.2.2).getD []
      | [] => []), hP, rfl, rfl, F.ini, F.ity, ⟨e.e.arg, e.f, _, _, _, _, _, hd, scopeB_ok h2, h3, rfl, rfl⟩, ⟨fun s us ws X l1 l2 => ?_, fun r1 r2 => ?_⟩, fldn c e he, F.fno, fun a vs zs us l1 l2 e => by simp only [e, Option.getD_some]⟩
    · obtain ⟨oc, od, dV, kV, doc, pm, an, cdv, ct', osl, rfl, lk, hcd, hD, hK⟩ := hd.ex
      rcases hD with ⟨_, rfl⟩ | ⟨z, _⟩
      · cases us with
        | nil => cases l1
        | cons a us =>
          obtain ⟨xs, e1, e2⟩ := hb kV doc pm an cdv ct' a us ws (Nat.succ.inj l1) l2
          have e1' : (pick (us ++ ws) q.2.2).getD [] = xs := by rw [e1]; rfl
          simp only [e1']
          exact .of_eq e2
      · exact absurd rfl z
    · cases r1 with
      | nil => exact .nil
      | cons h t => exact .cons h (pick_rel (show Vals _ _ from Vals.append t r2))
  · have hk2 := T.hk k hk
    have hkx : k ∈ ct.xs := by simpa using List.all_eq_true.mp T.hsx k hk2
    refine ⟨_, cg k hkx, fun c C A e1 _ e2 => ?_⟩
    obtain ⟨e', _, rfl, F⟩ := fac c C A e1 e2
    exact F.exm k hk2
  · obtain ⟨⟨f', e⟩, he, rfl⟩ := List.mem_map.mp (T.kn f hf)
    obtain ⟨fd, d1, d2⟩ := df f' e he
    exact ⟨_, gl f' e he, d2.kp, ⟨fd, e.ps, d1, d2.bindsN (AllB.mem T.bi (f', e) he)⟩⟩
/-- a law: its def is called with the script -/
theorem walk_E {l : PySem.W.OpenLaw} {n k : Nat} {q : Program} {loose : List Str} {XP : (Str → Option Value) → Heap → Prop} {YP : World → Heap → Prop} {d : DefRec} {CX : World → CXT} {x : Str}
    (hn : l.most = some n) (hn2 : n ≤ sizeLine) (hdf : d.params.defaults = []) (hr : Room k callerA)
    (F : ∀ (w : World) (mg : Str → Option Value) (fa : Addr) (h : Heap), YP w h → h.Ns mainGlobals mg → mg d.name = some (.ref fa) →
      ∃ (K : PySem.W.Frag) (fd : FuncData) (sp : Sp), K.In h ∧ (∀ (s : Shared) (u : Value), BindsTo s fd ⟨[u], []⟩ [(x, u)]) ∧
        (∀ (H : Hp) (a : Addr) (ns : List Int), ns.length ≤ n → Only H → SqL K H a (ns.map V.int) → sp [.ref a] H (fun v _ => v = .bl true) fun _ _ _ => False) ∧
        ∀ base : Heap, K.In base → base.Ns mainGlobals mg → FnOk l.prog w K mg base (CX w) k fa fd [x] sp)
    (hCX : ∀ (w : World) (H : Hp) (s : Shared) (e : Value) (s' : Shared), CX w [] H s (fun _ _ _ => False) e s' → False) :
    PySem.W.WalkO q loose XP YP l.row.toRowW d [] (fun f vs => PySem.call f vs) := by
  refine Att.attach_call hn hdf fun w s₀ s₁ mg mb fa o pm cd doc a vs ns G Y ho hd hcd hmg hobj hints hlen hg => ?_
  obtain ⟨K, fd, sp, KX, hb, hsp, hF⟩ := F w mg fa _ Y G.T.g hmg
  exact law_call KX G.T.g G.T.b G.T.builtins G.T.nolimit hg hobj hints (Nat.le_trans hlen hn2) hr hF hb (fun H hO hS => hsp H a ns hlen hO hS) fun H e s' => hCX w H s₁ e s'
theorem ints_rd {G : GG} {H : Hp} {η : Et} : ∀ ns : List Int, RDs G H η (ns.map .int) (ns.map V.int)
  | [] => .nil
  | n :: ns => .cons (.int n) (ints_rd ns)
theorem walk_ft {l : PySem.W.OpenLaw} {q : Program} {loose : List Str} {XP : (Str → Option Value) → Heap → Prop} {d : DefRec} {kwl : Kwl} {ct : CT} {n m li : Nat} {e : DE} {x : Str} (T : TabOk P M es kwl ct) (hn : l.most = some 63) (hdf : d.params.defaults = [])
    (he : es.lookup li = some e) (hx : e.ps = [x]) (hname : d.name = M.nm li) (hr : Room (lvl n) callerA)
    (main : ∀ ns : List Int, ns.length ≤ 63 → ∃ s', callN P n li [.d (.lst (ns.map .int))] [] = .ok (.d (.bl true)) s') :
    PySem.W.WalkO q loose XP (He.hookX m (faOf M es ct.xs) (fnL es ct.cl) [] [] (exB M ct.cl ct.xs ct.hs)).says l.row.toRowW d [] (fun f vs => PySem.call f vs) := by
  refine walk_E (x := x) (CX := fun w => L2.CX l.prog w) (k := lvl n) hn (by rw [sizeLine_eq]; decide) hdf hr (fun w mg fa h Y Ns hmg => ?_) fun w H s e s' z => ?_
  · obtain ⟨K, KX, c⟩ := Y
    have hmore := c.more
    have c := c.t.d
    have W := wd_of T KX Ns c hmore
    obtain ⟨fd, D, F⟩ := df_of T KX Ns c li e (lookup_mem he)
    have e1 : fa = He.ga K (M.nm li) := by
      have := gl_of' KX Ns c li e (lookup_mem he)
      rw [hname, this] at hmg
      cases hmg; rfl
    subst e1
    have hb := AllB.mem T.bi (li, e) (lookup_mem he)
    have D' := D
    rw [hx] at D' hb
    refine ⟨K, fd, spF (GGof P M K ct) n li, KX, fun s v => ?_, fun H a ns hl hO hS => ?_, fun base Kb Nb => ?_⟩
    · have := FunD.bindsA (ps := [x]) F (fun kV doc pm an cdv ct us hl => hb kV doc pm an cdv ct us hl) s [v] rfl
      exact this
    · obtain ⟨s', hm⟩ := main ns hl
      refine ⟨⟨[], []⟩, [], [.d (.lst (ns.map .int))], ⟨rfl, List.nodup_nil, fun i a c e _ => (nomatch (show ([] : List Addr)[i]? = some a from e)), fun a ha => (nomatch ha), fun a ha => (nomatch ha)⟩, .cons (show RD _ H _ (.lst _) _ from .lst ?_ (ints_rd ns)) .nil, ?_⟩
      · rcases hS with hS | hS
        · exact .inl ⟨hS, fun z => by rcases z with z | z <;> cases z⟩
        · exact .inr hS
      · show Post _ _ _ _ _ (callN P n li _ _) _
        rw [hm]
        intro b H' η' st ab rl
        have rl : RD _ H' η' (.bl true) b := rl
        cases rl
        rfl
    · exact fn_ok (mg := mg) (base := base) W n li _ fd [x] D'
  · obtain ⟨_, _, _, _, _, _, _, _, _, _, _, _, z⟩ := z
    exact z
end
end Hd
end FT

namespace U
open PySem FT
/-- 0 _law_take(_law_box_here, _law_size_so) 2:_law_kin_so 3:_law_once 4:_law_far 5:_law_again -/
def b_law_take : Sms := (.cons (.ife (.cmp .Gt (.idx (.var 0) (.c (.int 0))) (.c (.int 0))) (.cons (.asg 2 (.bin .Mod (.bi 4 (.cons (.idx (.var 0) (.c (.int 0))) .nil)) (.var 1))) (.cons (.seti (.var 0) (.c (.int 0)) (.bin .FloorDiv (.idx (.var 0) (.c (.int 0))) (.var 1))) (.cons (.ret (.var 2)) .nil))) .nil) (.cons (.seti (.var 0) (.c (.int 2)) (.bin .Add (.idx (.var 0) (.c (.int 2))) (.c (.int 1)))) (.cons (.asg 3 (.bin .Mod (.bi 4 (.cons (.bin .Mult (.bin .Add (.idx (.var 0) (.c (.int 1))) (.bin .Mult (.c (.int 48271)) (.idx (.var 0) (.c (.int 2))))) (.bin .Add (.c (.int 39373)) (.idx (.var 0) (.c (.int 2))))) .nil)) (.c (.int 2147483647)))) (.cons (.asg 4 (.bin .Add (.bin .Mod (.bi 4 (.cons (.var 3) .nil)) (.c (.int 40009))) (.c (.int 7)))) (.cons (.asg 5 (.bin .Mod (.bi 4 (.cons (.bin .Mult (.bin .Add (.bin .Add (.var 3) (.idx (.var 0) (.c (.int 2)))) (.bin .FloorDiv (.idx (.var 0) (.c (.int 1))) (.c (.int 1000003)))) (.var 4)) .nil)) (.c (.int 2147483629)))) (.cons (.ret (.bin .Mod (.bi 4 (.cons (.bin .FloorDiv (.bin .Mod (.bi 4 (.cons (.bin .Add (.bin .Mult (.var 5) (.c (.int 48271))) (.var 3)) .nil)) (.c (.int 2147483587))) (.c (.int 64))) .nil)) (.var 1))) .nil))))))
def f_law_take : Fn := { ps := 2, slots := 6, dfl := [], keep := false, body := b_law_take }
/-- 1 _law_cells(_law_script, _law_top_so) 2:_law_cells_so 3:_law_k 4:_law_cell 5:_law_at_so -/
def b_law_cells : Sms := (.cons (.asg 2 (.orv (.lstof true (.slice (.var 0) .nil (.cons (.var 1) .nil))) (.lst true (.cons (.c (.int 0)) .nil)))) (.cons (.for_ (.tup (.cons (.name 3) (.cons (.name 4) .nil))) (.enum (.slice (.var 0) (.cons (.var 1) .nil) (.cons (.c (.int 63)) .nil))) (.cons (.asg 5 (.bin .Mod (.bi 4 (.cons (.var 3) .nil)) (.var 1))) (.cons (.seti (.var 2) (.var 5) (.bin .Add (.idx (.var 2) (.var 5)) (.bin .Mult (.var 4) (.bin .Add (.var 3) (.c (.int 2)))))) .nil))) (.cons (.ret (.var 2)) .nil)))
def f_law_cells : Fn := { ps := 2, slots := 6, dfl := [], keep := false, body := b_law_cells }
/-- 2 _law_of(_law_box_here, _law_goods_so)  -/
def b_law_of : Sms := (.cons (.ret (.idx (.var 1) (.call 0 (.cons (.var 0) (.cons (.bi 3 (.cons (.var 1) .nil)) .nil))))) .nil)
def f_law_of : Fn := { ps := 2, slots := 2, dfl := [], keep := false, body := b_law_of }
/-- 3 _law_same(_law_got, _law_due) 2:_law_mine 3:_law_its -/
def b_law_same : Sms := (.cons (.ife (.isi (.var 1) [(false, 3), (false, 4)]) (.cons (.ife (.cmp .NotEq (.isi (.var 0) [(false, 3)]) (.isi (.var 1) [(false, 3)])) (.cons (.ret (.c (.bl false))) .nil) .nil) (.cons (.ife (.cmp .NotEq (.isi (.var 0) [(false, 4)]) (.isi (.var 1) [(false, 4)])) (.cons (.ret (.c (.bl false))) .nil) .nil) (.cons (.ret (.bop .And (.cons (.cmp .Eq (.bi 3 (.cons (.var 0) .nil)) (.bi 3 (.cons (.var 1) .nil))) (.cons (.bi 1 (.cons (.comp false (.call 3 (.cons (.var 2) (.cons (.var 3) .nil))) (.tup (.cons (.name 2) (.cons (.name 3) .nil))) (.zip (.var 0) (.var 1)) .nil [2, 3]) .nil)) .nil)))) .nil))) .nil) (.cons (.ife (.bop .Or (.cons (.cmp .Is (.var 1) (.c .non)) (.cons (.isi (.var 1) [(false, 1), (false, 2)]) .nil))) (.cons (.ret (.bop .And (.cons (.cmp .Eq (.var 0) (.var 1)) (.cons (.cmp .Eq (.isi (.var 0) [(false, 1)]) (.isi (.var 1) [(false, 1)])) (.cons (.cmp .Eq (.cmp .Is (.var 0) (.c .non)) (.cmp .Is (.var 1) (.c .non))) .nil))))) .nil) .nil) (.cons (.ret (.bop .And (.cons (.isi (.var 0) [(false, 0)]) (.cons (.not (.isi (.var 0) [(false, 1)])) (.cons (.cmp .Eq (.var 0) (.var 1)) .nil))))) .nil)))
def f_law_same : Fn := { ps := 2, slots := 4, dfl := [], keep := false, body := b_law_same }
/-- 4 is_name(value) 1:letter -/
def b_is_name : Sms := (.cons (.ife (.bop .Or (.cons (.not (.isi (.var 0) [(false, 2)])) (.cons (.not (.chain (.c (.int 1)) .LtE (.bi 3 (.cons (.var 0) .nil)) .LtE (.c (.int 8)))) .nil))) (.cons (.ret (.c (.bl false))) .nil) .nil) (.cons (.ret (.bi 1 (.cons (.comp false (.cmp .In (.var 1) (.c (.str ⟨#[97, 98, 99, 100, 101, 102, 103, 104, 105, 106, 107, 108, 109, 110, 111, 112, 113, 114, 115, 116, 117, 118, 119, 120, 121, 122]⟩))) (.name 1) (.e (.var 0)) .nil [1]) .nil))) .nil))
def f_is_name : Fn := { ps := 1, slots := 2, dfl := [], keep := false, body := b_is_name }
/-- 5 is_rising(row) 1:one 2:other -/
def b_is_rising : Sms := (.cons (.ret (.bi 1 (.cons (.comp false (.cmp .Lt (.var 1) (.var 2)) (.tup (.cons (.name 1) (.cons (.name 2) .nil))) (.zip (.var 0) (.slice (.var 0) (.cons (.c (.int 1)) .nil) .nil)) .nil [1, 2]) .nil))) .nil)
def f_is_rising : Fn := { ps := 1, slots := 3, dfl := [], keep := false, body := b_is_rising }
/-- 6 number_in(word) 1:sign -/
def b_number_in : Sms := (.cons (.ife (.bop .Or (.cons (.cmp .Eq (.var 0) (.c (.str ⟨#[]⟩))) (.cons (.not (.bi 1 (.cons (.comp false (.cmp .In (.var 1) (.c (.str ⟨#[48, 49, 50, 51, 52, 53, 54, 55, 56, 57]⟩))) (.name 1) (.e (.var 0)) .nil [1]) .nil))) (.cons (.bop .And (.cons (.cmp .Eq (.idx (.var 0) (.c (.int 0))) (.c (.str ⟨#[48]⟩))) (.cons (.cmp .NotEq (.var 0) (.c (.str ⟨#[48]⟩))) .nil))) .nil)))) (.cons (.ret (.c .non)) .nil) .nil) (.cons (.ret (.bi 4 (.cons (.var 0) .nil))) .nil))
def f_number_in : Fn := { ps := 1, slots := 2, dfl := [], keep := false, body := b_number_in }
/-- 7 set_text(some)  -/
def b_set_text : Sms := (.cons (.ret (.ite (.cmp .Gt (.bi 3 (.cons (.var 0) .nil)) (.c (.int 0))) (.meth 3 (.c (.str ⟨#[43]⟩)) (.cons (.var 0) .nil)) (.c (.str ⟨#[45]⟩)))) .nil)
def f_set_text : Fn := { ps := 1, slots := 1, dfl := [], keep := false, body := b_set_text }
/-- 8 fuse_text(fuse) 1:some 2:bears -/
def b_fuse_text : Sms := (.cons (.unp (.tup (.cons (.name 1) (.cons (.name 2) .nil))) (.var 0)) (.cons (.ret (.bin .Add (.bin .Add (.call 7 (.cons (.var 1) .nil)) (.c (.str ⟨#[32]⟩))) (.bi 5 (.cons (.var 2) .nil)))) .nil))
def f_fuse_text : Fn := { ps := 1, slots := 3, dfl := [], keep := false, body := b_fuse_text }
/-- 9 load_text(load) 1:number -/
def b_load_text : Sms := (.cons (.ret (.meth 3 (.c (.str ⟨#[32]⟩)) (.cons (.comp false (.bi 5 (.cons (.var 1) .nil)) (.name 1) (.e (.var 0)) .nil [1]) .nil))) .nil)
def f_load_text : Fn := { ps := 1, slots := 2, dfl := [], keep := false, body := b_load_text }
/-- 10 set_in(word) 1:some 2:name -/
def b_set_in : Sms := (.cons (.asg 1 (.ite (.cmp .NotEq (.var 0) (.c (.str ⟨#[45]⟩))) (.bi 6 (.cons (.meth 4 (.var 0) (.cons (.c (.str ⟨#[43]⟩)) .nil)) .nil)) (.tup .nil))) (.cons (.ret (.ite (.bop .And (.cons (.bi 1 (.cons (.comp false (.call 4 (.cons (.var 2) .nil)) (.name 2) (.e (.var 1)) .nil [2]) .nil)) (.cons (.call 5 (.cons (.var 1) .nil)) .nil))) (.var 1) (.c .non))) .nil))
def f_set_in : Fn := { ps := 1, slots := 3, dfl := [], keep := false, body := b_set_in }
/-- 11 fuse_in(piece) 1:words -/
def b_fuse_in : Sms := (.cons (.asg 1 (.meth 4 (.var 0) (.cons (.c (.str ⟨#[32]⟩)) .nil))) (.cons (.ife (.bop .Or (.cons (.cmp .NotEq (.bi 3 (.cons (.var 1) .nil)) (.c (.int 2))) (.cons (.cmp .In (.call 10 (.cons (.idx (.var 1) (.c (.int 0))) .nil)) (.tup (.cons (.c .non) (.cons (.tup .nil) .nil)))) (.cons (.cmp .Is (.call 6 (.cons (.idx (.var 1) (.c (.int 1))) .nil)) (.c .non)) .nil)))) (.cons (.ret (.c .non)) .nil) .nil) (.cons (.ret (.tup (.cons (.call 10 (.cons (.idx (.var 1) (.c (.int 0))) .nil)) (.cons (.call 6 (.cons (.idx (.var 1) (.c (.int 1))) .nil)) .nil)))) .nil)))
def f_fuse_in : Fn := { ps := 1, slots := 2, dfl := [], keep := false, body := b_fuse_in }
/-- 12 set_from(text) 1:some -/
def b_set_from : Sms := (.cons (.asg 1 (.call 10 (.cons (.var 0) .nil))) (.cons (.ife (.cmp .Is (.var 1) (.c .non)) (.cons (.raise 902 (.cons (.c (.int 0)) .nil) .nil [0]) .nil) .nil) (.cons (.ret (.var 1)) .nil)))
def f_set_from : Fn := { ps := 1, slots := 2, dfl := [], keep := false, body := b_set_from }
/-- 13 fuse_from(text) 1:fuse -/
def b_fuse_from : Sms := (.cons (.asg 1 (.call 11 (.cons (.var 0) .nil))) (.cons (.ife (.cmp .Is (.var 1) (.c .non)) (.cons (.raise 902 (.cons (.c (.int 0)) .nil) .nil [0]) .nil) .nil) (.cons (.ret (.var 1)) .nil)))
def f_fuse_from : Fn := { ps := 1, slots := 2, dfl := [], keep := false, body := b_fuse_from }
/-- 14 load_from(text) 1:found 2:place 3:word 4:number -/
def b_load_from : Sms := (.cons (.asg 1 (.lst true .nil)) (.cons (.for_ (.tup (.cons (.name 2) (.cons (.name 3) .nil))) (.enum (.meth 4 (.var 0) (.cons (.c (.str ⟨#[32]⟩)) .nil))) (.cons (.asg 4 (.call 6 (.cons (.var 3) .nil))) (.cons (.ife (.cmp .Is (.var 4) (.c .non)) (.cons (.raise 902 (.cons (.var 2) .nil) .nil [0]) .nil) .nil) (.cons (.exp (.meth 0 (.var 1) (.cons (.var 4) .nil))) .nil)))) (.cons (.ret (.bi 6 (.cons (.var 1) .nil))) .nil)))
def f_load_from : Fn := { ps := 1, slots := 5, dfl := [], keep := false, body := b_load_from }
/-- 15 _law_pick(_law_box_here, _law_goods_so, _law_count_so) 3:_law_pool_so 4:_law_found 5:_law_turn -/
def b_law_pick : Sms := (.cons (.par [3, 4] (.cons (.lstof true (.var 1)) (.cons (.lst true .nil) .nil))) (.cons (.for_ (.name 5) (.range1 (.bi 7 (.cons (.bi 4 (.cons (.var 2) .nil)) (.cons (.bi 3 (.cons (.var 3) .nil)) .nil)))) (.cons (.exp (.meth 0 (.var 4) (.cons (.meth 2 (.var 3) (.cons (.call 0 (.cons (.var 0) (.cons (.bi 3 (.cons (.var 3) .nil)) .nil))) .nil)) .nil))) .nil)) (.cons (.ret (.var 4)) .nil)))
def f_law_pick : Fn := { ps := 3, slots := 6, dfl := [], keep := false, body := b_law_pick }
/-- 16 _law_lists(_law_matter) 1:_law_bit -/
def b_law_lists : Sms := (.cons (.ret (.ite (.isi (.var 0) [(false, 3), (false, 4)]) (.comp false (.call 16 (.cons (.var 1) .nil)) (.name 1) (.e (.var 0)) .nil [1]) (.var 0))) .nil)
def f_law_lists : Fn := { ps := 1, slots := 2, dfl := [], keep := false, body := b_law_lists }
/-- 17 _law_sockets(_law_box_here) 1:_law_pools -/
def b_law_sockets : Sms := (.cons (.asg 1 (.lst false (.cons (.lst false (.cons (.c (.str ⟨#[97]⟩)) (.cons (.c (.str ⟨#[97, 98]⟩)) (.cons (.c (.str ⟨#[98]⟩)) (.cons (.c (.str ⟨#[120]⟩)) (.cons (.c (.str ⟨#[121]⟩)) .nil)))))) (.cons (.lst false (.cons (.c (.str ⟨#[102, 111, 114]⟩)) (.cons (.c (.str ⟨#[108, 97, 109, 112]⟩)) (.cons (.c (.str ⟨#[110, 111]⟩)) (.cons (.c (.str ⟨#[111, 102]⟩)) (.cons (.c (.str ⟨#[111, 118, 101, 110]⟩)) .nil)))))) .nil)))) (.cons (.asg 1 (.bin .Add (.var 1) (.lst false (.cons (.lst false (.cons (.c (.str ⟨#[97, 98, 99, 100, 101, 102, 103, 104]⟩)) (.cons (.c (.str ⟨#[97, 98, 99, 100, 101, 102, 103, 105]⟩)) (.cons (.c (.str ⟨#[99]⟩)) (.cons (.c (.str ⟨#[122]⟩)) (.cons (.c (.str ⟨#[122, 122]⟩)) .nil)))))) .nil)))) (.cons (.ret (.bi 6 (.cons (.bi 10 (.cons (.call 15 (.cons (.var 0) (.cons (.call 2 (.cons (.var 0) (.cons (.var 1) .nil))) (.cons (.bin .Add (.c (.int 1)) (.call 0 (.cons (.var 0) (.cons (.c (.int 5)) .nil)))) .nil)))) .nil)) .nil))) .nil)))
def f_law_sockets : Fn := { ps := 1, slots := 2, dfl := [], keep := false, body := b_law_sockets }
/-- 18 _law_number(_law_box_here)  -/
def b_law_number : Sms := (.cons (.ret (.call 2 (.cons (.var 0) (.cons (.lst false (.cons (.c (.int 0)) (.cons (.c (.int 1)) (.cons (.c (.int 2)) (.cons (.c (.int 3)) (.cons (.c (.int 5)) (.cons (.c (.int 9)) (.cons (.bin .Add (.bin .Pow (.c (.int 10)) (.c (.int 19))) (.call 0 (.cons (.var 0) (.cons (.c (.int 9)) .nil)))) .nil)))))))) .nil)))) .nil)
def f_law_number : Fn := { ps := 1, slots := 1, dfl := [], keep := false, body := b_law_number }
/-- 19 _law_nest(_law_box_here, _law_tags) 2:_law_found 3:_law_edge_so 4:_law_row_so 5:_law_cut_so -/
def b_law_nest : Sms := (.cons (.par [2, 3] (.cons (.lst true .nil) (.cons (.lst true (.cons (.call 15 (.cons (.var 0) (.cons (.lstof false (.var 1)) (.cons (.bi 3 (.cons (.var 1) .nil)) .nil)))) .nil)) .nil))) (.cons (.whl (.cmp .NotEq (.var 3) (.lst false .nil)) (.cons (.asg 4 (.meth 2 (.var 3) .nil)) (.cons (.ife (.cmp .Gt (.call 0 (.cons (.var 0) (.cons (.c (.int 3)) .nil))) (.c (.int 0))) (.cons (.exp (.meth 0 (.var 2) (.cons (.bi 6 (.cons (.bi 10 (.cons (.var 4) .nil)) .nil)) .nil))) .nil) .nil) (.cons (.ife (.cmp .Gt (.bi 3 (.cons (.var 4) .nil)) (.c (.int 1))) (.cons (.asg 5 (.bin .Add (.c (.int 1)) (.call 0 (.cons (.var 0) (.cons (.bin .Sub (.bi 3 (.cons (.var 4) .nil)) (.c (.int 1))) .nil))))) (.cons (.asg 3 (.catm (.var 3) (.lst false (.cons (.slice (.var 4) .nil (.cons (.var 5) .nil)) (.cons (.slice (.var 4) (.cons (.var 5) .nil) .nil) .nil))))) .nil)) .nil) .nil)))) (.cons (.ret (.var 2)) .nil)))
def f_law_nest : Fn := { ps := 2, slots := 6, dfl := [], keep := false, body := b_law_nest }
/-- 20 _law_fuses(_law_box_here, _law_tags) 2:_law_kin_so -/
def b_law_fuses : Sms := (.cons (.ret (.bi 6 (.cons (.bi 10 (.cons (.comp false (.tup (.cons (.var 2) (.cons (.call 18 (.cons (.var 0) .nil)) .nil))) (.name 2) (.e (.call 19 (.cons (.var 0) (.cons (.var 1) .nil)))) .nil [2]) .nil)) .nil))) .nil)
def f_law_fuses : Fn := { ps := 2, slots := 3, dfl := [], keep := false, body := b_law_fuses }
/-- 21 tupled(value) 1:part -/
def b_tupled : Sms := (.cons (.ret (.ite (.isi (.var 0) [(false, 3), (false, 4)]) (.bi 6 (.cons (.comp false (.call 21 (.cons (.var 1) .nil)) (.name 1) (.e (.var 0)) .nil [1]) .nil)) (.var 0))) .nil)
def f_tupled : Fn := { ps := 1, slots := 2, dfl := [], keep := false, body := b_tupled }
/-- 22 behind(some, sockets, load) 3:name 4:number -/
def b_behind : Sms := (.cons (.ret (.bi 9 (.cons (.comp false (.var 4) (.tup (.cons (.name 3) (.cons (.name 4) .nil))) (.zip (.var 1) (.var 2)) (.cons (.cmp .In (.var 3) (.var 0)) .nil) [3, 4]) .nil))) .nil)
def f_behind : Fn := { ps := 3, slots := 5, dfl := [], keep := false, body := b_behind }
/-- 23 lines_of(house, load) 2:some 3:bears -/
def b_lines_of : Sms := (.cons .never .nil)
def f_lines_of : Fn := { ps := 2, slots := 4, dfl := [], keep := false, body := b_lines_of }
/-- 24 is_within(some, other) 2:name -/
def b_is_within : Sms := (.cons (.ret (.bi 1 (.cons (.comp false (.cmp .In (.var 2) (.var 1)) (.name 2) (.e (.var 0)) .nil [2]) .nil))) .nil)
def f_is_within : Fn := { ps := 2, slots := 3, dfl := [], keep := false, body := b_is_within }
/-- 25 crosses(some, other) 2:shared 3:name -/
def b_crosses : Sms := (.cons (.asg 2 (.comp false (.var 3) (.name 3) (.e (.var 0)) (.cons (.cmp .In (.var 3) (.var 1)) .nil) [3])) (.cons (.ret (.bop .And (.cons (.cmp .Gt (.bi 3 (.cons (.var 2) .nil)) (.c (.int 0))) (.cons (.not (.call 24 (.cons (.var 0) (.cons (.var 1) .nil)))) (.cons (.not (.call 24 (.cons (.var 1) (.cons (.var 0) .nil)))) .nil))))) .nil))
def f_crosses : Fn := { ps := 2, slots := 4, dfl := [], keep := false, body := b_crosses }
/-- 26 goes_on(sockets, fuses, some) 3:own 4:bears -/
def b_goes_on : Sms := (.cons (.ret (.bop .And (.cons (.call 24 (.cons (.var 2) (.cons (.var 0) .nil))) (.cons (.not (.bi 2 (.cons (.comp false (.bop .Or (.cons (.cmp .GtE (.var 3) (.var 2)) (.cons (.call 25 (.cons (.var 2) (.cons (.var 3) .nil))) .nil))) (.tup (.cons (.name 3) (.cons (.name 4) .nil))) (.e (.var 1)) .nil [3, 4]) .nil))) .nil)))) .nil)
def f_goes_on : Fn := { ps := 3, slots := 5, dfl := [], keep := false, body := b_goes_on }
/-- 27 _wall(k)  -/
def b_wall : Sms := (.cons (.whl (.c (.bl true)) (.cons .pass .nil)) .nil)
def f_wall : Fn := { ps := 1, slots := 1, dfl := [], keep := false, body := b_wall }
/-- 28 set_of(some)  -/
def b_set_of : Sms := (.cons .never .nil)
def f_set_of : Fn := { ps := 1, slots := 1, dfl := [], keep := false, body := b_set_of }
/-- 29 check_sockets(one, other)  -/
def b_check_sockets : Sms := (.cons (.ife (.cmp .NotEq (.attr (.var 0) 8) (.attr (.var 1) 8)) (.cons (.raise 906 .nil .nil []) .nil) .nil) .nil)
def f_check_sockets : Fn := { ps := 2, slots := 2, dfl := [], keep := false, body := b_check_sockets }
/-- 30 check_some(house, some) 2:name -/
def b_check_some : Sms := (.cons (.for_ (.name 2) (.e (.var 1)) (.cons (.ife (.cmp .NotIn (.var 2) (.attr (.var 0) 8)) (.cons (.raise 904 (.cons (.var 2) .nil) .nil [0]) .nil) .nil) .nil)) .nil)
def f_check_some : Fn := { ps := 2, slots := 3, dfl := [], keep := false, body := b_check_some }
/-- 31 bare_sockets(house) 1:name 2:some 3:bears -/
def b_bare_sockets : Sms := (.cons (.ret (.bi 6 (.cons (.comp false (.var 1) (.name 1) (.e (.attr (.var 0) 8)) (.cons (.not (.bi 2 (.cons (.comp false (.cmp .In (.var 1) (.var 2)) (.tup (.cons (.name 2) (.cons (.name 3) .nil))) (.e (.attr (.var 0) 9)) .nil [2, 3]) .nil))) .nil) [1]) .nil))) .nil)
def f_bare_sockets : Fn := { ps := 1, slots := 4, dfl := [], keep := false, body := b_bare_sockets }
/-- 32 with_fuse(house, some, bears) 3:rest 4:fuse 5:wrong 6:place -/
def b_with_fuse : Sms := (.cons (.asg 3 (.comp false (.var 4) (.name 4) (.e (.attr (.var 0) 9)) (.cons (.cmp .NotEq (.idx (.var 4) (.c (.int 0))) (.call 21 (.cons (.var 1) .nil))) .nil) [4])) (.cons (.asg 5 (.comp false (.var 6) (.tup (.cons (.name 6) (.cons (.name 4) .nil))) (.enum (.attr (.var 0) 9)) (.cons (.call 25 (.cons (.var 1) (.cons (.idx (.var 4) (.c (.int 0))) .nil))) .nil) [6, 4])) (.cons (.ife (.cmp .Gt (.bi 3 (.cons (.var 5) .nil)) (.c (.int 0))) (.cons (.raise 901 (.cons (.idx (.var 5) (.c (.int 0))) .nil) .nil [0]) .nil) .nil) (.cons .never .nil))))
def f_with_fuse : Fn := { ps := 3, slots := 7, dfl := [], keep := false, body := b_with_fuse }
/-- 33 without_fuse(house, some) 2:fuse -/
def b_without_fuse : Sms := (.cons (.ife (.cmp .NotIn (.var 1) (.var 0)) (.cons (.raise 905 (.cons (.call 21 (.cons (.var 1) .nil)) .nil) .nil [0]) .nil) .nil) (.cons .never .nil))
def f_without_fuse : Fn := { ps := 2, slots := 3, dfl := [], keep := false, body := b_without_fuse }
/-- 34 check_load(house, load)  -/
def b_check_load : Sms := (.cons (.ife (.cmp .NotEq (.bi 3 (.cons (.var 1) .nil)) (.bi 3 (.cons (.attr (.var 0) 8) .nil))) (.cons (.raise 906 .nil .nil []) .nil) .nil) .nil)
def f_check_load : Fn := { ps := 2, slots := 2, dfl := [], keep := false, body := b_check_load }
/-- 35 load_of(house, pairs) 2:known 3:name 4:number -/
def b_load_of : Sms := (.cons .never (.cons (.exp (.call 30 (.cons (.var 0) (.cons (.comp false (.var 3) (.tup (.cons (.name 3) (.cons (.name 4) .nil))) (.e (.var 1)) .nil [3, 4]) .nil)))) (.cons (.ret (.bi 6 (.cons (.comp false (.meth 5 (.var 2) (.cons (.var 3) (.cons (.c (.int 0)) .nil))) (.name 3) (.e (.attr (.var 0) 8)) .nil [3]) .nil))) .nil)))
def f_load_of : Fn := { ps := 2, slots := 5, dfl := [], keep := false, body := b_load_of }
/-- 36 part_of(house, load, some) 3:name 4:number -/
def b_part_of : Sms := (.cons (.ret (.bi 9 (.cons (.comp false (.var 4) (.tup (.cons (.name 3) (.cons (.name 4) .nil))) (.zip (.attr (.var 0) 8) (.var 1)) (.cons (.cmp .In (.var 3) (.var 2)) .nil) [3, 4]) .nil))) .nil)
def f_part_of : Fn := { ps := 3, slots := 5, dfl := [], keep := false, body := b_part_of }
/-- 37 blown(house, load) 2:some 3:bears -/
def b_blown : Sms := (.cons (.exp (.call 34 (.cons (.var 0) (.cons (.var 1) .nil)))) (.cons (.ret (.bi 6 (.cons (.comp false (.var 2) (.tup (.cons (.name 2) (.cons (.name 3) .nil))) (.e (.attr (.var 0) 9)) (.cons (.cmp .Gt (.call 36 (.cons (.var 0) (.cons (.var 1) (.cons (.var 2) .nil)))) (.var 3)) .nil) [2, 3]) .nil))) .nil))
def f_blown : Fn := { ps := 2, slots := 4, dfl := [], keep := false, body := b_blown }
/-- 38 holds(house, load)  -/
def b_holds : Sms := (.cons (.ret (.cmp .Eq (.bi 3 (.cons (.call 37 (.cons (.var 0) (.cons (.var 1) .nil))) .nil)) (.c (.int 0)))) .nil)
def f_holds : Fn := { ps := 2, slots := 2, dfl := [], keep := false, body := b_holds }
/-- 39 is_more(some, other)  -/
def b_is_more : Sms := (.cons (.ret (.bop .And (.cons (.cmp .NotEq (.var 0) (.var 1)) (.cons (.call 24 (.cons (.var 1) (.cons (.var 0) .nil))) .nil)))) .nil)
def f_is_more : Fn := { ps := 2, slots := 2, dfl := [], keep := false, body := b_is_more }
/-- 40 parts_of(fuses, behind) 2:inside 3:fuse 4:other -/
def b_parts_of : Sms := (.cons (.asg 2 (.comp false (.var 3) (.name 3) (.e (.var 0)) (.cons (.bop .And (.cons (.call 24 (.cons (.idx (.var 3) (.c (.int 0))) (.cons (.var 1) .nil))) (.cons (.cmp .NotEq (.idx (.var 3) (.c (.int 0))) (.var 1)) .nil))) .nil) [3])) (.cons (.ret (.comp false (.var 3) (.name 3) (.e (.var 2)) (.cons (.not (.bi 2 (.cons (.comp false (.call 39 (.cons (.idx (.var 4) (.c (.int 0))) (.cons (.idx (.var 3) (.c (.int 0))) .nil))) (.name 4) (.e (.var 2)) .nil [4]) .nil))) .nil) [3])) .nil))
def f_parts_of : Fn := { ps := 2, slots := 5, dfl := [], keep := false, body := b_parts_of }
/-- 41 meets(one, other) 2:name -/
def b_meets : Sms := (.cons (.ret (.bi 2 (.cons (.comp false (.cmp .In (.var 2) (.var 1)) (.name 2) (.e (.var 0)) .nil [2]) .nil))) .nil)
def f_meets : Fn := { ps := 2, slots := 3, dfl := [], keep := false, body := b_meets }
/-- 42 cover_behind(fuses, behind, some) 3:wanted 4:name 5:found 6:part 7:inner 8:covered 9:fuse -/
def b_cover_behind : Sms := (.cons (.asg 3 (.comp false (.var 4) (.name 4) (.e (.var 2)) (.cons (.cmp .In (.var 4) (.var 1)) .nil) [4])) (.cons (.asg 5 (.lst true .nil)) (.cons (.for_ (.name 6) (.e (.call 40 (.cons (.var 0) (.cons (.var 1) .nil)))) (.cons (.ife (.call 41 (.cons (.idx (.var 6) (.c (.int 0))) (.cons (.var 3) .nil))) (.cons (.asg 7 (.call 42 (.cons (.var 0) (.cons (.idx (.var 6) (.c (.int 0))) (.cons (.var 3) .nil))))) (.cons (.exp (.meth 1 (.var 5) (.cons (.ite (.bop .And (.cons (.cmp .IsNot (.var 7) (.c .non)) (.cons (.cmp .Lt (.call 43 (.cons (.var 7) .nil)) (.idx (.var 6) (.c (.int 1)))) .nil))) (.var 7) (.lst false (.cons (.var 6) .nil))) .nil))) .nil)) .nil) .nil)) (.cons .never (.cons (.ret (.ite (.bi 1 (.cons (.comp false (.cmp .In (.var 4) (.var 8)) (.name 4) (.e (.var 3)) .nil [4]) .nil)) (.var 5) (.c .non))) .nil)))))
def f_cover_behind : Fn := { ps := 3, slots := 10, dfl := [], keep := false, body := b_cover_behind }
/-- 43 summed(fuses) 1:some 2:bears -/
def b_summed : Sms := (.cons (.ret (.bi 9 (.cons (.comp false (.var 2) (.tup (.cons (.name 1) (.cons (.name 2) .nil))) (.e (.var 0)) .nil [1, 2]) .nil))) .nil)
def f_summed : Fn := { ps := 1, slots := 3, dfl := [], keep := false, body := b_summed }
/-- 44 best_cover(house, some) 2:whole 3:fuse 4:inner -/
def b_best_cover : Sms := (.cons (.asg 2 (.comp false (.var 3) (.name 3) (.e (.attr (.var 0) 9)) (.cons (.cmp .Eq (.idx (.var 3) (.c (.int 0))) (.attr (.var 0) 8)) .nil) [3])) (.cons (.asg 4 (.call 42 (.cons (.attr (.var 0) 9) (.cons (.attr (.var 0) 8) (.cons (.var 1) .nil))))) (.cons (.ife (.bop .Or (.cons (.cmp .Eq (.bi 3 (.cons (.var 1) .nil)) (.c (.int 0))) (.cons (.cmp .Eq (.bi 3 (.cons (.var 2) .nil)) (.c (.int 0))) (.cons (.bop .And (.cons (.cmp .IsNot (.var 4) (.c .non)) (.cons (.cmp .LtE (.call 43 (.cons (.var 4) .nil)) (.idx (.idx (.var 2) (.c (.int 0))) (.c (.int 1)))) .nil))) .nil)))) (.cons (.ret (.var 4)) .nil) .nil) (.cons (.ret (.var 2)) .nil))))
def f_best_cover : Fn := { ps := 2, slots := 5, dfl := [], keep := false, body := b_best_cover }
/-- 45 bound(house, some) 2:found -/
def b_bound : Sms := (.cons (.exp (.call 30 (.cons (.var 0) (.cons (.var 1) .nil)))) (.cons (.asg 2 (.call 44 (.cons (.var 0) (.cons (.var 1) .nil)))) (.cons (.ret (.ite (.cmp .Is (.var 2) (.c .non)) (.c .non) (.call 43 (.cons (.var 2) .nil)))) .nil)))
def f_bound : Fn := { ps := 2, slots := 3, dfl := [], keep := false, body := b_bound }
/-- 46 units_on(house, load, some) 3:name 4:own -/
def b_units_on : Sms := (.cons (.ret (.bi 9 (.cons (.comp false (.var 4) (.tup (.cons (.name 3) (.cons (.name 4) .nil))) (.zip (.attr (.var 0) 8) (.var 1)) (.cons (.cmp .In (.var 3) (.var 2)) .nil) [3, 4]) .nil))) .nil)
def f_units_on : Fn := { ps := 3, slots := 5, dfl := [], keep := false, body := b_units_on }
/-- 47 space_at(house, load, name) 3:found 4:some 5:bears -/
def b_space_at : Sms := (.cons (.asg 3 (.comp false (.bin .Sub (.var 5) (.call 46 (.cons (.var 0) (.cons (.var 1) (.cons (.var 4) .nil))))) (.tup (.cons (.name 4) (.cons (.name 5) .nil))) (.e (.attr (.var 0) 9)) (.cons (.cmp .In (.var 2) (.var 4)) .nil) [4, 5])) (.cons (.ret (.ite (.cmp .Gt (.bi 3 (.cons (.var 3) .nil)) (.c (.int 0))) (.bi 7 (.cons (.var 3) .nil)) (.c .non))) .nil))
def f_space_at : Fn := { ps := 3, slots := 6, dfl := [], keep := false, body := b_space_at }
/-- 48 is_full(house, load) 2:name -/
def b_is_full : Sms := (.cons (.ret (.bop .And (.cons (.call 38 (.cons (.var 0) (.cons (.var 1) .nil))) (.cons (.bi 1 (.cons (.comp false (.cmp .Eq (.call 47 (.cons (.var 0) (.cons (.var 1) (.cons (.var 2) .nil)))) (.c (.int 0))) (.name 2) (.e (.attr (.var 0) 8)) .nil [2]) .nil)) .nil)))) .nil)
def f_is_full : Fn := { ps := 2, slots := 3, dfl := [], keep := false, body := b_is_full }
/-- 49 filled_by(house, load, order) 3:found 4:name 5:own -/
def b_filled_by : Sms := (.cons .never (.cons (.for_ (.name 4) (.e (.var 2)) (.cons (.seti (.var 3) (.var 4) (.bin .Add (.idx (.var 3) (.var 4)) (.call 47 (.cons (.var 0) (.cons (.comp false (.idx (.var 3) (.var 5)) (.name 5) (.e (.attr (.var 0) 8)) .nil [5]) (.cons (.var 4) .nil)))))) .nil)) (.cons (.ret (.bi 6 (.cons (.comp false (.idx (.var 3) (.var 4)) (.name 4) (.e (.attr (.var 0) 8)) .nil [4]) .nil))) .nil)))
def f_filled_by : Fn := { ps := 3, slots := 6, dfl := [], keep := false, body := b_filled_by }
/-- 50 full_sum(house)  -/
def b_full_sum : Sms := (.cons (.ret (.call 45 (.cons (.var 0) (.cons (.attr (.var 0) 8) .nil)))) .nil)
def f_full_sum : Fn := { ps := 1, slots := 1, dfl := [], keep := false, body := b_full_sum }
/-- 51 fewest_units(house, load, other) 3:mine 4:its -/
def b_fewest_units : Sms := (.cons (.ife (.bop .Or (.cons (.not (.call 48 (.cons (.var 0) (.cons (.var 1) .nil)))) (.cons (.not (.call 48 (.cons (.var 0) (.cons (.var 2) .nil)))) .nil))) (.cons (.ret (.c .non)) .nil) .nil) (.cons (.ret (.bi 9 (.cons (.comp false (.bi 8 (.cons (.c (.int 0)) (.cons (.bin .Sub (.var 3) (.var 4)) .nil))) (.tup (.cons (.name 3) (.cons (.name 4) .nil))) (.zip (.var 1) (.var 2)) .nil [3, 4]) .nil))) .nil))
def f_fewest_units : Fn := { ps := 3, slots := 5, dfl := [], keep := false, body := b_fewest_units }
/-- 52 dear_first(house, prices) 2:rows 3:name 4:price -/
def b_dear_first : Sms := (.cons (.asg 2 (.bi 10 (.cons (.comp false (.tup (.cons (.neg (.var 4)) (.cons (.var 3) .nil))) (.tup (.cons (.name 3) (.cons (.name 4) .nil))) (.zip (.attr (.var 0) 8) (.var 1)) (.cons (.cmp .Gt (.var 4) (.c (.int 0))) .nil) [3, 4]) .nil))) (.cons (.ret (.comp false (.var 3) (.tup (.cons (.name 4) (.cons (.name 3) .nil))) (.e (.var 2)) .nil [4, 3])) .nil))
def f_dear_first : Fn := { ps := 2, slots := 5, dfl := [], keep := false, body := b_dear_first }
/-- 53 a_best(house, prices) 2:nothing 3:order 4:name -/
def b_a_best : Sms := (.cons (.par [2, 3] (.cons (.bin .Mult (.tup (.cons (.c (.int 0)) .nil)) (.bi 3 (.cons (.attr (.var 0) 8) .nil))) (.cons (.call 52 (.cons (.var 0) (.cons (.var 1) .nil))) .nil))) (.cons (.ife (.bi 2 (.cons (.comp false (.cmp .Is (.call 47 (.cons (.var 0) (.cons (.var 2) (.cons (.var 4) .nil)))) (.c .non)) (.name 4) (.e (.var 3)) .nil [4]) .nil)) (.cons (.ret (.c .non)) .nil) .nil) (.cons (.ret (.call 49 (.cons (.var 0) (.cons (.var 2) (.cons (.var 3) .nil))))) .nil)))
def f_a_best : Fn := { ps := 2, slots := 5, dfl := [], keep := false, body := b_a_best }
/-- 54 worth_of(prices, load) 2:price 3:own -/
def b_worth_of : Sms := (.cons (.ret (.bi 9 (.cons (.comp false (.bin .Mult (.var 2) (.var 3)) (.tup (.cons (.name 2) (.cons (.name 3) .nil))) (.zip (.var 0) (.var 1)) .nil [2, 3]) .nil))) .nil)
def f_worth_of : Fn := { ps := 2, slots := 4, dfl := [], keep := false, body := b_worth_of }
/-- 55 best_worth(house, prices) 2:best -/
def b_best_worth : Sms := (.cons (.asg 2 (.call 53 (.cons (.var 0) (.cons (.var 1) .nil)))) (.cons (.ret (.ite (.cmp .Is (.var 2) (.c .non)) (.c .non) (.call 54 (.cons (.var 1) (.cons (.var 2) .nil))))) .nil))
def f_best_worth : Fn := { ps := 2, slots := 3, dfl := [], keep := false, body := b_best_worth }
/-- 56 is_barring(other, some, bears) 3:most -/
def b_is_barring : Sms := (.cons (.asg 3 (.call 45 (.cons (.var 0) (.cons (.var 1) .nil)))) (.cons (.ret (.bop .Or (.cons (.cmp .Is (.var 3) (.c .non)) (.cons (.cmp .Gt (.var 3) (.var 2)) .nil)))) .nil))
def f_is_barring : Fn := { ps := 3, slots := 4, dfl := [], keep := false, body := b_is_barring }
/-- 57 barring(one, other) 2:some 3:bears -/
def b_barring : Sms := (.cons (.exp (.call 29 (.cons (.var 0) (.cons (.var 1) .nil)))) (.cons (.ret (.bi 6 (.cons (.comp false (.var 2) (.tup (.cons (.name 2) (.cons (.name 3) .nil))) (.e (.attr (.var 0) 9)) (.cons (.call 56 (.cons (.var 1) (.cons (.var 2) (.cons (.var 3) .nil)))) .nil) [2, 3]) .nil))) .nil))
def f_barring : Fn := { ps := 2, slots := 4, dfl := [], keep := false, body := b_barring }
/-- 58 holds_all(one, other)  -/
def b_holds_all : Sms := (.cons (.ret (.cmp .Eq (.bi 3 (.cons (.call 57 (.cons (.var 0) (.cons (.var 1) .nil))) .nil)) (.c (.int 0)))) .nil)
def f_holds_all : Fn := { ps := 2, slots := 2, dfl := [], keep := false, body := b_holds_all }
/-- 59 all_sets(sockets) 1:found 2:name 3:some 4:many -/
def b_all_sets : Sms := (.cons (.asg 1 (.lst false (.cons (.tup .nil) .nil))) (.cons (.for_ (.name 2) (.e (.var 0)) (.cons (.asg 1 (.bin .Add (.var 1) (.comp false (.tup (.star (.var 3) (.cons (.var 2) .nil))) (.name 3) (.e (.var 1)) .nil [3]))) .nil)) (.cons (.ret (.comp false (.var 3) (.tup (.cons (.name 4) (.cons (.name 3) .nil))) (.e (.bi 10 (.cons (.comp false (.tup (.cons (.bi 3 (.cons (.var 3) .nil)) (.cons (.var 3) .nil))) (.name 3) (.e (.var 1)) .nil [3]) .nil))) .nil [4, 3])) .nil)))
def f_all_sets : Fn := { ps := 1, slots := 5, dfl := [], keep := false, body := b_all_sets }
/-- 60 both_bear(one, other, some) 3:near 4:far -/
def b_both_bear : Sms := (.cons (.par [3, 4] (.cons (.call 45 (.cons (.var 0) (.cons (.var 2) .nil))) (.cons (.call 45 (.cons (.var 1) (.cons (.var 2) .nil))) .nil))) (.cons (.ret (.ite (.bop .Or (.cons (.cmp .Is (.var 3) (.c .non)) (.cons (.cmp .Is (.var 4) (.c .non)) .nil))) (.c .non) (.bin .Add (.var 3) (.var 4)))) .nil))
def f_both_bear : Fn := { ps := 3, slots := 5, dfl := [], keep := false, body := b_both_bear }
/-- 61 is_barred(one, other, load, some) 4:most -/
def b_is_barred : Sms := (.cons (.asg 4 (.call 60 (.cons (.var 0) (.cons (.var 1) (.cons (.var 3) .nil))))) (.cons (.ret (.bop .And (.cons (.cmp .IsNot (.var 4) (.c .non)) (.cons (.cmp .Gt (.call 22 (.cons (.var 3) (.cons (.attr (.var 0) 8) (.cons (.var 2) .nil)))) (.var 4)) .nil)))) .nil))
def f_is_barred : Fn := { ps := 4, slots := 5, dfl := [], keep := false, body := b_is_barred }
/-- 62 check_sides(one, other, load)  -/
def b_check_sides : Sms := (.cons (.exp (.call 29 (.cons (.var 0) (.cons (.var 1) .nil)))) (.cons (.ife (.cmp .NotEq (.bi 3 (.cons (.var 2) .nil)) (.bi 3 (.cons (.attr (.var 0) 8) .nil))) (.cons (.raise 906 .nil .nil []) .nil) .nil) .nil))
def f_check_sides : Fn := { ps := 3, slots := 3, dfl := [], keep := false, body := b_check_sides }
/-- 63 set_against(one, other, load) 3:found 4:some -/
def b_set_against : Sms := (.cons (.exp (.call 62 (.cons (.var 0) (.cons (.var 1) (.cons (.var 2) .nil))))) (.cons (.asg 3 (.comp false (.var 4) (.name 4) (.e (.call 59 (.cons (.attr (.var 0) 8) .nil))) (.cons (.call 61 (.cons (.var 0) (.cons (.var 1) (.cons (.var 2) (.cons (.var 4) .nil))))) .nil) [4])) (.cons (.ret (.ite (.cmp .Gt (.bi 3 (.cons (.var 3) .nil)) (.c (.int 0))) (.idx (.var 3) (.c (.int 0))) (.c .non))) .nil)))
def f_set_against : Fn := { ps := 3, slots := 5, dfl := [], keep := false, body := b_set_against }
/-- 64 both_carry(one, other, load)  -/
def b_both_carry : Sms := (.cons (.ret (.cmp .Is (.call 63 (.cons (.var 0) (.cons (.var 1) (.cons (.var 2) .nil)))) (.c .non))) .nil)
def f_both_carry : Fn := { ps := 3, slots := 3, dfl := [], keep := false, body := b_both_carry }
/-- 65 strengthened(house, raises) 2:more 3:some 4:number 5:rows 6:own 7:bears 8:n -/
def b_strengthened : Sms := (.cons (.asg 2 (.call 21 (.cons (.var 1) .nil))) (.cons (.for_ (.tup (.cons (.name 3) (.cons (.name 4) .nil))) (.e (.var 2)) (.cons (.ife (.cmp .NotIn (.var 3) (.var 0)) (.cons (.raise 905 (.cons (.var 3) .nil) .nil [0]) .nil) .nil) .nil)) (.cons (.asg 5 (.comp false (.tup (.cons (.var 6) (.cons (.bin .Add (.var 7) (.bi 9 (.cons (.comp false (.var 8) (.tup (.cons (.name 3) (.cons (.name 8) .nil))) (.e (.var 2)) (.cons (.cmp .Eq (.var 3) (.var 6)) .nil) [3, 8]) .nil))) .nil))) (.tup (.cons (.name 6) (.cons (.name 7) .nil))) (.e (.attr (.var 0) 9)) .nil [6, 7])) (.cons .never .nil))))
def f_strengthened : Fn := { ps := 2, slots := 9, dfl := [], keep := false, body := b_strengthened }
/-- 66 joined_ways(one, other, most) 3:found 4:first 5:mine 6:second 7:its -/
def b_joined_ways : Sms := (.cons (.asg 3 (.rep true (.cons (.c (.int 0)) .nil) (.bi 7 (.cons (.bin .Add (.var 2) (.c (.int 1))) (.cons (.bin .Sub (.bin .Add (.bi 3 (.cons (.var 0) .nil)) (.bi 3 (.cons (.var 1) .nil))) (.c (.int 1))) .nil))))) (.cons (.for_ (.tup (.cons (.name 4) (.cons (.name 5) .nil))) (.enum (.var 0)) (.cons (.for_ (.tup (.cons (.name 6) (.cons (.name 7) .nil))) (.enum (.var 1)) (.cons (.ife (.cmp .Lt (.bin .Add (.var 4) (.var 6)) (.bi 3 (.cons (.var 3) .nil))) (.cons (.seti (.var 3) (.bin .Add (.var 4) (.var 6)) (.bin .Add (.idx (.var 3) (.bin .Add (.var 4) (.var 6))) (.bin .Mult (.var 5) (.var 7)))) .nil) .nil) .nil)) .nil)) (.cons (.ret (.var 3)) .nil)))
def f_joined_ways : Fn := { ps := 3, slots := 8, dfl := [], keep := false, body := b_joined_ways }
/-- 67 table(house) 1:groups 2:name 3:many 4:own 5:bears 6:found 7:some 8:ways 9:group -/
def b_table : Sms := (.cons (.asg 1 (.comp false (.tup (.cons (.tup (.cons (.var 2) .nil)) (.cons (.c .non) .nil))) (.name 2) (.e (.attr (.var 0) 8)) .nil [2])) (.cons (.for_ (.tup (.cons (.name 3) (.cons (.name 4) (.cons (.name 5) .nil)))) (.e (.bi 10 (.cons (.comp false (.tup (.cons (.bi 3 (.cons (.var 4) .nil)) (.cons (.var 4) (.cons (.var 5) .nil)))) (.tup (.cons (.name 4) (.cons (.name 5) .nil))) (.e (.attr (.var 0) 9)) .nil [4, 5]) .nil))) (.cons (.asg 6 (.lst false (.cons (.c (.int 1)) .nil))) (.cons (.for_ (.tup (.cons (.name 7) (.cons (.name 8) .nil))) (.e (.var 1)) (.cons (.ife (.call 24 (.cons (.var 7) (.cons (.var 4) .nil))) (.cons (.asg 6 (.call 66 (.cons (.var 6) (.cons (.ite (.cmp .Is (.var 8) (.c .non)) (.rep false (.cons (.c (.int 1)) .nil) (.bin .Add (.var 5) (.c (.int 1)))) (.var 8)) (.cons (.var 5) .nil))))) .nil) .nil) .nil)) (.cons (.asg 1 (.bin .Add (.comp false (.var 9) (.name 9) (.e (.var 1)) (.cons (.not (.call 24 (.cons (.idx (.var 9) (.c (.int 0))) (.cons (.var 4) .nil)))) .nil) [9]) (.lst false (.cons (.tup (.cons (.var 4) (.cons (.var 6) .nil))) .nil)))) .nil)))) (.cons (.asg 6 (.lst false (.cons (.c (.int 1)) .nil))) (.cons (.for_ (.tup (.cons (.name 7) (.cons (.name 8) .nil))) (.e (.var 1)) (.cons (.asg 6 (.call 66 (.cons (.var 6) (.cons (.var 8) (.cons (.bin .Add (.bi 3 (.cons (.var 6) .nil)) (.bi 3 (.cons (.var 8) .nil))) .nil))))) .nil)) (.cons (.ret (.var 6)) .nil)))))
def f_table : Fn := { ps := 1, slots := 10, dfl := [], keep := false, body := b_table }
/-- 68 sums(house)  -/
def b_sums : Sms := (.cons (.ret (.ite (.cmp .Gt (.bi 3 (.cons (.call 31 (.cons (.var 0) .nil)) .nil)) (.c (.int 0))) (.c .non) (.call 67 (.cons (.var 0) .nil)))) .nil)
def f_sums : Fn := { ps := 1, slots := 1, dfl := [], keep := false, body := b_sums }
/-- 69 check_site(site) 1:house -/
def b_check_site : Sms := (.cons (.for_ (.name 1) (.e (.var 0)) (.cons (.exp (.call 29 (.cons (.idx (.var 0) (.c (.int 0))) (.cons (.var 1) .nil)))) .nil)) .nil)
def f_check_site : Fn := { ps := 1, slots := 2, dfl := [], keep := false, body := b_check_site }
/-- 70 sets_within(names) 1:found 2:name 3:own 4:many -/
def b_sets_within : Sms := (.cons (.asg 1 (.lst false (.cons (.tup .nil) .nil))) (.cons (.for_ (.name 2) (.e (.var 0)) (.cons (.asg 1 (.bin .Add (.var 1) (.comp false (.tup (.star (.var 3) (.cons (.var 2) .nil))) (.name 3) (.e (.var 1)) .nil [3]))) .nil)) (.cons (.ret (.comp false (.var 3) (.tup (.cons (.name 4) (.cons (.name 3) .nil))) (.e (.bi 10 (.cons (.comp false (.tup (.cons (.bi 3 (.cons (.var 3) .nil)) (.cons (.var 3) .nil))) (.name 3) (.e (.var 1)) .nil [3]) .nil))) .nil [4, 3])) .nil)))
def f_sets_within : Fn := { ps := 1, slots := 5, dfl := [], keep := false, body := b_sets_within }
/-- 71 bound_of_all(site, some) 2:found 3:house 4:own -/
def b_bound_of_all : Sms := (.cons (.asg 2 (.comp false (.ite (.cmp .Gt (.bi 3 (.cons (.var 1) .nil)) (.c (.int 0))) (.call 45 (.cons (.var 3) (.cons (.var 1) .nil))) (.c (.int 0))) (.name 3) (.e (.var 0)) .nil [3])) (.cons (.ret (.ite (.bi 2 (.cons (.comp false (.cmp .Is (.var 4) (.c .non)) (.name 4) (.e (.var 2)) .nil [4]) .nil)) (.c .non) (.bi 9 (.cons (.var 2) .nil)))) .nil))
def f_bound_of_all : Fn := { ps := 2, slots := 5, dfl := [], keep := false, body := b_bound_of_all }
/-- 72 barred_by(site, sockets, load) 3:house_sets 4:some 5:most 6:own 7:name -/
def b_barred_by : Sms := (.cons (.asg 3 (.call 70 (.cons (.var 1) .nil))) (.cons (.for_ (.name 4) (.e (.var 3)) (.cons (.par [5, 6] (.cons (.call 71 (.cons (.var 0) (.cons (.var 4) .nil))) (.cons (.bi 9 (.cons (.comp false (.var 6) (.tup (.cons (.name 7) (.cons (.name 6) .nil))) (.zip (.var 1) (.var 2)) (.cons (.cmp .In (.var 7) (.var 4)) .nil) [7, 6]) .nil)) .nil))) (.cons (.ife (.bop .And (.cons (.cmp .IsNot (.var 5) (.c .non)) (.cons (.cmp .Gt (.var 6) (.var 5)) .nil))) (.cons (.ret (.var 4)) .nil) .nil) .nil))) (.cons (.ret (.c .non)) .nil)))
def f_barred_by : Fn := { ps := 3, slots := 8, dfl := [], keep := false, body := b_barred_by }
/-- 73 set_against_all(site, load)  -/
def b_set_against_all : Sms := (.cons (.exp (.call 69 (.cons (.var 0) .nil))) (.cons (.ret (.call 72 (.cons (.var 0) (.cons (.attr (.idx (.var 0) (.c (.int 0))) 8) (.cons (.var 1) .nil))))) .nil))
def f_set_against_all : Fn := { ps := 2, slots := 2, dfl := [], keep := false, body := b_set_against_all }
/-- 74 can_carry(site, load)  -/
def b_can_carry : Sms := (.cons (.ret (.cmp .Is (.call 73 (.cons (.var 0) (.cons (.var 1) .nil))) (.c .non))) .nil)
def f_can_carry : Fn := { ps := 2, slots := 2, dfl := [], keep := false, body := b_can_carry }
/-- 75 loads_in(text) 1:parts 2:part -/
def b_loads_in : Sms := (.cons (.asg 1 (.meth 4 (.var 0) (.cons (.c (.str ⟨#[32, 116, 111, 32]⟩)) .nil))) (.cons (.ret (.ite (.cmp .Eq (.bi 3 (.cons (.var 1) .nil)) (.bi 3 (.cons (.tup (.cons (.c (.str ⟨#[111, 110, 101]⟩)) (.cons (.c (.str ⟨#[111, 116, 104, 101, 114]⟩)) .nil))) .nil))) (.comp false (.call 14 (.cons (.var 2) .nil)) (.name 2) (.e (.var 1)) .nil [2]) (.c .non))) .nil))
def f_loads_in : Fn := { ps := 1, slots := 3, dfl := [], keep := false, body := b_loads_in }
/-- 76 some_in(sort, text) 2:some -/
def b_some_in : Sms := (.cons (.asg 2 (.call 12 (.cons (.var 1) .nil))) (.cons (.ret (.ite (.bop .And (.cons (.cmp .Eq (.var 0) (.c (.str ⟨#[115, 111, 109, 101]⟩))) (.cons (.cmp .Eq (.bi 3 (.cons (.var 2) .nil)) (.c (.int 0))) .nil))) (.c .non) (.var 2))) .nil))
def f_some_in : Fn := { ps := 2, slots := 3, dfl := [], keep := false, body := b_some_in }
/-- 77 value_in(sort, text)  -/
def b_value_in : Sms := (.cons (.ife (.cmp .Eq (.var 0) (.c (.str ⟨#[104, 111, 117, 115, 101]⟩))) (.cons .never .nil) .nil) (.cons (.ife (.cmp .In (.var 0) (.tup (.cons (.c (.str ⟨#[108, 111, 97, 100]⟩)) (.cons (.c (.str ⟨#[108, 111, 97, 100, 115]⟩)) .nil)))) (.cons (.ret (.ite (.cmp .Eq (.var 0) (.c (.str ⟨#[108, 111, 97, 100]⟩))) (.call 14 (.cons (.var 1) .nil)) (.call 75 (.cons (.var 1) .nil)))) .nil) .nil) (.cons (.ife (.cmp .In (.var 0) (.tup (.cons (.c (.str ⟨#[115, 111, 109, 101]⟩)) (.cons (.c (.str ⟨#[115, 101, 116]⟩)) .nil)))) (.cons (.ret (.call 76 (.cons (.var 0) (.cons (.var 1) .nil)))) .nil) .nil) (.cons (.ife (.cmp .Eq (.var 0) (.c (.str ⟨#[119, 111, 114, 100]⟩))) (.cons (.ret (.ite (.call 4 (.cons (.var 1) .nil)) (.var 1) (.c .non))) .nil) .nil) (.cons (.ret (.call 6 (.cons (.var 1) .nil))) .nil)))))
def f_value_in : Fn := { ps := 2, slots := 2, dfl := [], keep := false, body := b_value_in }
/-- 78 request_in(line) 1:word 2:sorts 3:parts 4:values 5:sort 6:part -/
def b_request_in : Sms := (.cons (.asg 1 (.idx (.meth 4 (.var 0) (.cons (.c (.str ⟨#[32]⟩)) .nil)) (.c (.int 0)))) (.cons .never (.cons .never (.cons .never (.cons (.ife (.cmp .NotEq (.bi 3 (.cons (.var 3) .nil)) (.bin .Add (.bi 3 (.cons (.var 2) .nil)) (.c (.int 1)))) (.cons (.ret (.c .non)) .nil) .nil) (.cons (.asg 4 (.comp false (.call 77 (.cons (.var 5) (.cons (.var 6) .nil))) (.tup (.cons (.name 5) (.cons (.name 6) .nil))) (.zip (.var 2) (.slice (.var 3) (.cons (.c (.int 1)) .nil) .nil)) .nil [5, 6])) (.cons (.ret (.ite (.cmp .In (.c .non) (.var 4)) (.c .non) (.tup (.cons (.var 1) (.cons (.var 4) .nil))))) .nil)))))))
def f_request_in : Fn := { ps := 1, slots := 7, dfl := [], keep := false, body := b_request_in }
/-- 79 line_in(number, line) 2:request -/
def b_line_in : Sms := (.cons .never (.cons (.ife (.cmp .Is (.var 2) (.c .non)) (.cons (.raise 903 (.cons (.var 0) .nil) .nil [0]) .nil) .nil) (.cons (.ret (.var 2)) .nil)))
def f_line_in : Fn := { ps := 2, slots := 3, dfl := [], keep := false, body := b_line_in }
/-- 80 done_on(board, word, values)  -/
def b_done_on : Sms := (.cons (.ife (.cmp .Eq (.var 1) (.c (.str ⟨#[104, 111, 117, 115, 101]⟩))) (.cons .never .nil) (.cons (.ife (.cmp .Eq (.var 1) (.c (.str ⟨#[100, 114, 111, 112]⟩))) (.cons .never .nil) (.cons (.ife (.cmp .Eq (.var 1) (.c (.str ⟨#[114, 101, 110, 97, 109, 101]⟩))) (.cons .never .nil) (.cons (.ife (.cmp .Eq (.var 1) (.c (.str ⟨#[102, 117, 115, 101]⟩))) (.cons .never .nil) (.cons (.ife (.cmp .Eq (.var 1) (.c (.str ⟨#[117, 110, 102, 117, 115, 101]⟩))) (.cons .never .nil) (.cons .never .nil)) .nil)) .nil)) .nil)) .nil)) (.cons (.ret (.c (.str ⟨#[100, 111, 110, 101]⟩))) .nil))
def f_done_on : Fn := { ps := 3, slots := 3, dfl := [], keep := false, body := b_done_on }
/-- 81 number_or_none(number)  -/
def b_number_or_none : Sms := (.cons (.ret (.ite (.cmp .Is (.var 0) (.c .non)) (.c (.str ⟨#[110, 111, 110, 101]⟩)) (.bi 5 (.cons (.var 0) .nil)))) .nil)
def f_number_or_none : Fn := { ps := 1, slots := 1, dfl := [], keep := false, body := b_number_or_none }
/-- 82 yes_or_no(is_so)  -/
def b_yes_or_no : Sms := (.cons (.ret (.ite (.var 0) (.c (.str ⟨#[121, 101, 115]⟩)) (.c (.str ⟨#[110, 111]⟩)))) .nil)
def f_yes_or_no : Fn := { ps := 1, slots := 1, dfl := [], keep := false, body := b_yes_or_no }
/-- 83 check_numbers(house, load)  -/
def b_check_numbers : Sms := (.cons (.ife (.cmp .NotEq (.bi 3 (.cons (.var 1) .nil)) (.bi 3 (.cons (.attr (.var 0) 8) .nil))) (.cons (.raise 906 .nil .nil []) .nil) .nil) .nil)
def f_check_numbers : Fn := { ps := 2, slots := 2, dfl := [], keep := false, body := b_check_numbers }
/-- 84 asked_of_one(house, word, values) 3:load -/
def b_asked_of_one : Sms := (.cons (.ife (.cmp .Eq (.var 1) (.c (.str ⟨#[116, 101, 120, 116]⟩))) (.cons (.ret (.attr (.var 0) 14)) .nil) .nil) (.cons (.ife (.cmp .Eq (.var 1) (.c (.str ⟨#[115, 117, 109]⟩))) (.cons (.ret (.call 81 (.cons (.call 50 (.cons (.var 0) .nil)) .nil))) .nil) .nil) (.cons (.ife (.cmp .Eq (.var 1) (.c (.str ⟨#[98, 111, 117, 110, 100]⟩))) (.cons (.ret (.call 81 (.cons (.call 45 (.cons (.var 0) (.cons (.idx (.var 2) (.c (.int 1))) .nil))) .nil))) .nil) .nil) (.cons (.ife (.cmp .Eq (.var 1) (.c (.str ⟨#[117, 110, 105, 116, 115]⟩))) (.cons (.for_ (.name 3) (.e (.idx (.var 2) (.c (.int 1)))) (.cons (.exp (.call 83 (.cons (.var 0) (.cons (.var 3) .nil)))) .nil)) (.cons (.ret (.call 81 (.cons (.call 51 (.cons (.var 0) (.cons (.idx (.idx (.var 2) (.c (.int 1))) (.c (.int 0))) (.cons (.idx (.idx (.var 2) (.c (.int 1))) (.c (.int 1))) .nil)))) .nil))) .nil)) .nil) (.cons (.exp (.call 83 (.cons (.var 0) (.cons (.idx (.var 2) (.c (.int 1))) .nil)))) (.cons (.ret (.ite (.cmp .Eq (.var 1) (.c (.str ⟨#[102, 117, 108, 108]⟩))) (.call 82 (.cons (.call 48 (.cons (.var 0) (.cons (.idx (.var 2) (.c (.int 1))) .nil))) .nil)) (.call 81 (.cons (.call 55 (.cons (.var 0) (.cons (.idx (.var 2) (.c (.int 1))) .nil))) .nil)))) .nil))))))
def f_asked_of_one : Fn := { ps := 3, slots := 4, dfl := [], keep := false, body := b_asked_of_one }
/-- 85 carried_by_all(board, load) 2:site 3:name -/
def b_carried_by_all : Sms := (.cons (.asg 2 (.comp false (.idx (.var 0) (.var 3)) (.name 3) (.e (.attr (.var 0) 12)) .nil [3])) (.cons (.ife (.cmp .Eq (.bi 3 (.cons (.var 2) .nil)) (.c (.int 0))) (.cons (.ret (.c (.str ⟨#[45]⟩))) .nil) .nil) (.cons (.exp (.call 83 (.cons (.idx (.var 2) (.c (.int 0))) (.cons (.var 1) .nil)))) (.cons (.ret (.call 82 (.cons (.call 74 (.cons (.var 2) (.cons (.var 1) .nil))) .nil))) .nil))))
def f_carried_by_all : Fn := { ps := 2, slots := 4, dfl := [], keep := false, body := b_carried_by_all }
/-- 86 asked_of_board(board, word, values) 3:house -/
def b_asked_of_board : Sms := (.cons (.ife (.cmp .Eq (.var 1) (.c (.str ⟨#[110, 97, 109, 101, 115]⟩))) (.cons (.ret (.ite (.cmp .Gt (.bi 3 (.cons (.var 0) .nil)) (.c (.int 0))) (.meth 3 (.c (.str ⟨#[32]⟩)) (.cons (.attr (.var 0) 12) .nil)) (.c (.str ⟨#[45]⟩)))) .nil) .nil) (.cons (.ife (.cmp .Eq (.var 1) (.c (.str ⟨#[99, 97, 114, 114, 121]⟩))) (.cons (.ret (.call 85 (.cons (.var 0) (.cons (.idx (.var 2) (.c (.int 0))) .nil)))) .nil) .nil) (.cons (.ife (.cmp .Eq (.var 1) (.c (.str ⟨#[97, 108, 108]⟩))) (.cons .never .nil) .nil) (.cons (.asg 3 (.idx (.var 0) (.idx (.var 2) (.c (.int 0))))) (.cons (.ife (.cmp .Eq (.var 1) (.c (.str ⟨#[104, 111, 108, 100, 115]⟩))) (.cons (.exp (.call 83 (.cons (.var 3) (.cons (.idx (.var 2) (.c (.int 1))) .nil)))) (.cons .never .nil)) .nil) (.cons (.ife (.cmp .Eq (.bi 3 (.cons (.attr (.idx (.var 0) (.idx (.var 2) (.c (.int 1)))) 8) .nil)) (.bi 3 (.cons (.attr (.var 3) 8) .nil))) (.cons (.exp (.call 83 (.cons (.var 3) (.cons (.idx (.var 2) (.c (.int 2))) .nil)))) .nil) .nil) (.cons .never .nil)))))))
def f_asked_of_board : Fn := { ps := 3, slots := 4, dfl := [], keep := false, body := b_asked_of_board }
/-- 87 reply_to(board, word, values)  -/
def b_reply_to : Sms := (.cons (.ife (.cmp .In (.var 1) (.c (.tup [(.str ⟨#[104, 111, 117, 115, 101]⟩), (.str ⟨#[100, 114, 111, 112]⟩), (.str ⟨#[114, 101, 110, 97, 109, 101]⟩), (.str ⟨#[102, 117, 115, 101]⟩), (.str ⟨#[117, 110, 102, 117, 115, 101]⟩), (.str ⟨#[117, 110, 100, 111]⟩)]))) (.cons (.ret (.call 80 (.cons (.var 0) (.cons (.var 1) (.cons (.var 2) .nil))))) .nil) .nil) (.cons (.ife (.cmp .In (.var 1) (.c (.tup [(.str ⟨#[116, 101, 120, 116]⟩), (.str ⟨#[102, 117, 108, 108]⟩), (.str ⟨#[117, 110, 105, 116, 115]⟩), (.str ⟨#[115, 117, 109]⟩), (.str ⟨#[98, 111, 117, 110, 100]⟩), (.str ⟨#[119, 111, 114, 116, 104]⟩)]))) (.cons (.ret (.call 84 (.cons (.idx (.var 0) (.idx (.var 2) (.c (.int 0)))) (.cons (.var 1) (.cons (.var 2) .nil))))) .nil) .nil) (.cons (.ret (.call 86 (.cons (.var 0) (.cons (.var 1) (.cons (.var 2) .nil))))) .nil)))
def f_reply_to : Fn := { ps := 3, slots := 3, dfl := [], keep := false, body := b_reply_to }
/-- 88 answer_to(board, word, values)  -/
def b_answer_to : Sms := (.cons .never .nil)
def f_answer_to : Fn := { ps := 3, slots := 3, dfl := [], keep := false, body := b_answer_to }
/-- 89 answers(text) 1:requests 2:number 3:line 4:board 5:word 6:values -/
def b_answers : Sms := (.cons (.ife (.cmp .Eq (.var 0) (.c (.str ⟨#[]⟩))) (.cons (.ret (.lst false .nil)) .nil) .nil) (.cons (.asg 1 (.comp false (.call 79 (.cons (.var 2) (.cons (.var 3) .nil))) (.tup (.cons (.name 2) (.cons (.name 3) .nil))) (.enum (.meth 4 (.var 0) (.cons (.c (.str ⟨#[10]⟩)) .nil))) .nil [2, 3])) (.cons .never (.cons (.ret (.comp false (.call 88 (.cons (.var 4) (.cons (.var 5) (.cons (.var 6) .nil)))) (.tup (.cons (.name 5) (.cons (.name 6) .nil))) (.e (.var 1)) .nil [5, 6])) .nil))))
def f_answers : Fn := { ps := 1, slots := 7, dfl := [], keep := false, body := b_answers }
/-- 90 subsets(some) 1:found 2:name 3:own -/
def b_subsets : Sms := (.cons (.asg 1 (.lst false (.cons (.tup .nil) .nil))) (.cons (.for_ (.name 2) (.e (.var 0)) (.cons (.asg 1 (.bin .Add (.var 1) (.comp false (.tup (.star (.var 3) (.cons (.var 2) .nil))) (.name 3) (.e (.var 1)) .nil [3]))) .nil)) (.cons (.ret (.slice (.var 1) (.cons (.c (.int 1)) .nil) .nil)) .nil)))
def f_subsets : Fn := { ps := 1, slots := 4, dfl := [], keep := false, body := b_subsets }
/-- 91 searched(house, bad, most, chosen) 4:open_rows 5:load 6:heavy 7:some 8:fine 9:own 10:found -/
def b_searched : Sms := (.cons (.asg 4 (.lst true .nil)) (.cons (.for_ (.name 5) (.e (.var 1)) (.cons (.asg 6 (.comp false (.var 7) (.name 7) (.e (.var 2)) (.cons (.cmp .Gt (.call 36 (.cons (.var 0) (.cons (.var 5) (.cons (.var 7) .nil)))) (.idx (.var 2) (.var 7))) .nil) [7])) (.cons (.ife (.not (.bi 2 (.cons (.comp false (.cmp .In (.var 7) (.var 3)) (.name 7) (.e (.var 6)) .nil [7]) .nil))) (.cons (.asg 8 (.comp false (.var 7) (.name 7) (.e (.var 6)) (.cons (.not (.bi 2 (.cons (.comp false (.call 25 (.cons (.var 7) (.cons (.var 9) .nil))) (.name 9) (.e (.var 3)) .nil [9]) .nil))) .nil) [7])) (.cons (.exp (.meth 0 (.var 4) (.cons (.tup (.cons (.bi 3 (.cons (.var 8) .nil)) (.cons (.var 8) .nil))) .nil))) .nil)) .nil) .nil))) (.cons (.ife (.cmp .Eq (.bi 3 (.cons (.var 4) .nil)) (.c (.int 0))) (.cons (.ret (.var 3)) .nil) .nil) (.cons (.for_ (.name 7) (.e (.idx (.bi 7 (.cons (.var 4) .nil)) (.c (.int 1)))) (.cons (.asg 10 (.call 91 (.cons (.var 0) (.cons (.var 1) (.cons (.var 2) (.cons (.tup (.star (.var 3) (.cons (.var 7) .nil))) .nil)))))) (.cons (.ife (.cmp .IsNot (.var 10) (.c .non)) (.cons (.ret (.var 10)) .nil) .nil) .nil))) (.cons (.ret (.c .non)) .nil)))))
def f_searched : Fn := { ps := 4, slots := 11, dfl := [], keep := false, body := b_searched }
/-- 92 found_fuses(house, trials) 2:good 3:bad 4:load 5:held 6:most 7:some 8:chosen -/
def b_found_fuses : Sms := (.cons (.par [2, 3] (.cons (.comp false (.var 4) (.tup (.cons (.name 4) (.cons (.name 5) .nil))) (.e (.var 1)) (.cons (.var 5) .nil) [4, 5]) (.cons (.comp false (.var 4) (.tup (.cons (.name 4) (.cons (.name 5) .nil))) (.e (.var 1)) (.cons (.not (.var 5)) .nil) [4, 5]) .nil))) (.cons .never (.cons (.asg 8 (.call 91 (.cons (.var 0) (.cons (.var 3) (.cons (.var 6) (.cons (.tup .nil) .nil)))))) (.cons (.ret (.ite (.cmp .Is (.var 8) (.c .non)) (.c .non) (.comp false (.tup (.cons (.var 7) (.cons (.idx (.var 6) (.var 7)) .nil))) (.name 7) (.e (.var 8)) .nil [7]))) .nil))))
def f_found_fuses : Fn := { ps := 2, slots := 9, dfl := [], keep := false, body := b_found_fuses }
/-- 93 plugged(house, plugs) 2:name 3:many 4:own -/
def b_plugged : Sms := (.cons (.exp (.call 30 (.cons (.var 0) (.cons (.comp false (.var 2) (.tup (.cons (.name 2) (.cons (.name 3) .nil))) (.e (.var 1)) .nil [2, 3]) .nil)))) (.cons (.ret (.bi 6 (.cons (.comp false (.bi 9 (.cons (.comp false (.var 3) (.tup (.cons (.name 4) (.cons (.name 3) .nil))) (.e (.var 1)) (.cons (.cmp .Eq (.var 4) (.var 2)) .nil) [4, 3]) .nil)) (.name 2) (.e (.attr (.var 0) 8)) .nil [2]) .nil))) .nil))
def f_plugged : Fn := { ps := 2, slots := 5, dfl := [], keep := false, body := b_plugged }
/-- 94 first_blown(house, plugs) 2:name 3:many 4:load 5:number 6:place 7:rooms 8:some 9:bears 10:least 11:left -/
def b_first_blown : Sms := (.cons (.exp (.call 30 (.cons (.var 0) (.cons (.comp false (.var 2) (.tup (.cons (.name 2) (.cons (.name 3) .nil))) (.e (.var 1)) .nil [2, 3]) .nil)))) (.cons (.par [4, 5] (.cons (.comp true (.c (.int 0)) (.name 2) (.e (.attr (.var 0) 8)) .nil [2]) (.cons (.c (.int 0)) .nil))) (.cons (.for_ (.tup (.cons (.name 2) (.cons (.name 3) .nil))) (.e (.var 1)) (.cons .never (.cons (.asg 7 (.comp false (.tup (.cons (.bin .Sub (.var 9) (.call 36 (.cons (.var 0) (.cons (.var 4) (.cons (.var 8) .nil))))) (.cons (.var 8) .nil))) (.tup (.cons (.name 8) (.cons (.name 9) .nil))) (.e (.attr (.var 0) 9)) (.cons (.cmp .In (.var 2) (.var 8)) .nil) [8, 9])) (.cons (.asg 10 (.bi 7 (.cons (.lst false (.cons (.var 3) (.star (.comp false (.var 11) (.tup (.cons (.name 11) (.cons (.name 8) .nil))) (.e (.var 7)) .nil [11, 8]) .nil))) .nil))) (.cons (.ife (.cmp .Lt (.var 10) (.var 3)) (.cons (.ret (.tup (.cons (.bin .Add (.var 5) (.var 10)) (.cons (.bi 6 (.cons (.comp false (.var 8) (.tup (.cons (.name 11) (.cons (.name 8) .nil))) (.e (.var 7)) (.cons (.cmp .Eq (.var 11) (.var 10)) .nil) [11, 8]) .nil)) .nil)))) .nil) .nil) (.cons .never (.cons .never .nil))))))) (.cons (.ret (.c .non)) .nil))))
def f_first_blown : Fn := { ps := 2, slots := 12, dfl := [], keep := false, body := b_first_blown }
/-- 95 _law_small(_law_box_here, _law_tags) 2:_law_found 3:_law_edge_so 4:_law_row_so 5:_law_cut_so -/
def b_law_small : Sms := (.cons (.par [2, 3] (.cons (.lst true (.cons (.tup (.cons (.var 1) (.cons (.bin .Add (.c (.int 2)) (.call 0 (.cons (.var 0) (.cons (.c (.int 4)) .nil)))) .nil))) .nil)) (.cons (.lst true (.cons (.call 15 (.cons (.var 0) (.cons (.lstof false (.var 1)) (.cons (.bi 3 (.cons (.var 1) .nil)) .nil)))) .nil)) .nil))) (.cons (.whl (.cmp .NotEq (.var 3) (.lst false .nil)) (.cons (.asg 4 (.meth 2 (.var 3) .nil)) (.cons (.ife (.bop .And (.cons (.cmp .Lt (.bi 3 (.cons (.var 4) .nil)) (.bi 3 (.cons (.var 1) .nil))) (.cons (.cmp .Gt (.call 0 (.cons (.var 0) (.cons (.c (.int 3)) .nil))) (.c (.int 0))) .nil))) (.cons (.exp (.meth 0 (.var 2) (.cons (.tup (.cons (.bi 6 (.cons (.bi 10 (.cons (.var 4) .nil)) .nil)) (.cons (.call 0 (.cons (.var 0) (.cons (.c (.int 4)) .nil))) .nil))) .nil))) .nil) .nil) (.cons (.ife (.cmp .Gt (.bi 3 (.cons (.var 4) .nil)) (.c (.int 1))) (.cons (.asg 5 (.bin .Add (.c (.int 1)) (.call 0 (.cons (.var 0) (.cons (.bin .Sub (.bi 3 (.cons (.var 4) .nil)) (.c (.int 1))) .nil))))) (.cons (.asg 3 (.catm (.var 3) (.lst false (.cons (.slice (.var 4) .nil (.cons (.var 5) .nil)) (.cons (.slice (.var 4) (.cons (.var 5) .nil) .nil) .nil))))) .nil)) .nil) .nil)))) (.cons (.ret (.bi 6 (.cons (.bi 10 (.cons (.var 2) .nil)) .nil))) .nil)))
def f_law_small : Fn := { ps := 2, slots := 6, dfl := [], keep := false, body := b_law_small }
/-- 96 all_bound(house)  -/
def b_all_bound : Sms := (.cons (.ret (.call 45 (.cons (.var 0) (.cons (.attr (.var 0) 8) .nil)))) .nil)
def f_all_bound : Fn := { ps := 1, slots := 1, dfl := [], keep := false, body := b_all_bound }
/-- 97 _law_much(_law_box_here, _law_high_so)  -/
def b_law_much : Sms := (.cons (.ife (.cmp .Lt (.var 1) (.bin .Pow (.c (.int 10)) (.c (.int 6)))) (.cons (.ret (.call 0 (.cons (.var 0) (.cons (.var 1) .nil)))) .nil) .nil) (.cons (.ret (.bin .Add (.bin .Mult (.call 0 (.cons (.var 0) (.cons (.c (.int 10)) .nil))) (.bin .FloorDiv (.var 1) (.c (.int 10)))) (.call 0 (.cons (.var 0) (.cons (.bin .Pow (.c (.int 10)) (.c (.int 6))) .nil))))) .nil))
def f_law_much : Fn := { ps := 2, slots := 2, dfl := [], keep := false, body := b_law_much }
/-- 98 _law_names(_law_box_here, _law_most_so) 2:_law_pool_so -/
def b_law_names : Sms := (.cons (.asg 2 (.lst false (.cons (.c (.str ⟨#[97]⟩)) (.cons (.c (.str ⟨#[98]⟩)) (.cons (.c (.str ⟨#[102, 97, 110]⟩)) (.cons (.c (.str ⟨#[108, 97, 109, 112]⟩)) (.cons (.c (.str ⟨#[111, 118, 101, 110]⟩)) (.cons (.c (.str ⟨#[116, 118]⟩)) (.cons (.c (.str ⟨#[120]⟩)) (.cons (.c (.str ⟨#[122, 122]⟩)) .nil)))))))))) (.cons (.ret (.bi 6 (.cons (.bi 10 (.cons (.call 15 (.cons (.var 0) (.cons (.var 2) (.cons (.bin .Add (.c (.int 1)) (.call 0 (.cons (.var 0) (.cons (.var 1) .nil)))) .nil)))) .nil)) .nil))) .nil))
def f_law_names : Fn := { ps := 2, slots := 3, dfl := [], keep := false, body := b_law_names }
/-- 99 _law_tree(_law_box_here, _law_some_so, _law_high_so) 3:_law_found 4:_law_k -/
def b_law_tree : Sms := (.cons (.asg 3 (.lst true .nil)) (.cons (.ife (.cmp .Gt (.call 0 (.cons (.var 0) (.cons (.c (.int 3)) .nil))) (.c (.int 0))) (.cons (.exp (.meth 0 (.var 3) (.cons (.tup (.cons (.bi 6 (.cons (.bi 10 (.cons (.var 1) .nil)) .nil)) (.cons (.call 97 (.cons (.var 0) (.cons (.var 2) .nil))) .nil))) .nil))) .nil) .nil) (.cons (.ife (.bop .And (.cons (.cmp .Gt (.bi 3 (.cons (.var 1) .nil)) (.c (.int 1))) (.cons (.cmp .Gt (.call 0 (.cons (.var 0) (.cons (.c (.int 6)) .nil))) (.c (.int 0))) .nil))) (.cons (.asg 4 (.bin .Add (.c (.int 1)) (.call 0 (.cons (.var 0) (.cons (.bin .Sub (.bi 3 (.cons (.var 1) .nil)) (.c (.int 1))) .nil))))) (.cons (.asg 3 (.catm (.bin .Add (.var 3) (.call 99 (.cons (.var 0) (.cons (.slice (.var 1) .nil (.cons (.var 4) .nil)) (.cons (.var 2) .nil))))) (.call 99 (.cons (.var 0) (.cons (.slice (.var 1) (.cons (.var 4) .nil) .nil) (.cons (.var 2) .nil)))))) .nil)) .nil) (.cons (.ret (.var 3)) .nil))))
def f_law_tree : Fn := { ps := 3, slots := 5, dfl := [], keep := false, body := b_law_tree }
/-- 100 _law_fuses(_law_box_here, _law_names_so, _law_high_so) 3:_law_found -/
def b_law_fuses_2 : Sms := (.cons (.asg 3 (.call 99 (.cons (.var 0) (.cons (.call 15 (.cons (.var 0) (.cons (.var 1) (.cons (.bi 3 (.cons (.var 1) .nil)) .nil)))) (.cons (.var 2) .nil))))) (.cons (.ret (.bi 6 (.cons (.call 15 (.cons (.var 0) (.cons (.var 3) (.cons (.bi 3 (.cons (.var 3) .nil)) .nil)))) .nil))) .nil))
def f_law_fuses_2 : Fn := { ps := 3, slots := 4, dfl := [], keep := false, body := b_law_fuses_2 }
/-- 101 _law_sets(_law_names_so) 1:_law_found 2:_law_own 3:_law_some_so -/
def b_law_sets : Sms := (.cons (.asg 1 (.lst false (.cons (.tup .nil) .nil))) (.cons (.for_ (.name 2) (.e (.var 0)) (.cons (.asg 1 (.bin .Add (.var 1) (.comp false (.bin .Add (.var 3) (.tup (.cons (.var 2) .nil))) (.name 3) (.e (.var 1)) .nil [3]))) .nil)) (.cons (.ret (.var 1)) .nil)))
def f_law_sets : Fn := { ps := 1, slots := 4, dfl := [], keep := false, body := b_law_sets }
/-- 102 _law_bound(_law_fuses_so, _law_some_so) 2:_law_top_so 3:_law_rows_so 4:_law_own 5:_law_row_so 6:_law_sum_so 7:_law_behind_so 8:_law_name_so -/
def b_law_bound : Sms := (.cons (.asg 2 (.ite (.cmp .Eq (.var 1) (.tup .nil)) (.c (.int 0)) (.c .non))) (.cons (.asg 3 (.lst false (.cons (.tup (.cons (.c (.int 0)) (.cons (.tup .nil) .nil))) .nil))) (.cons (.for_ (.name 4) (.e (.var 0)) (.cons (.asg 3 (.bin .Add (.var 3) (.comp false (.tup (.cons (.bin .Add (.idx (.var 5) (.c (.int 0))) (.idx (.var 4) (.c (.int 1)))) (.cons (.bin .Add (.idx (.var 5) (.c (.int 1))) (.idx (.var 4) (.c (.int 0)))) .nil))) (.name 5) (.e (.var 3)) .nil [5]))) .nil)) (.cons (.for_ (.tup (.cons (.name 6) (.cons (.name 7) .nil))) (.e (.var 3)) (.cons (.ife (.cmp .Eq (.comp false (.var 8) (.name 8) (.e (.var 1)) (.cons (.cmp .NotIn (.var 8) (.var 7)) .nil) [8]) (.lst false .nil)) (.cons (.asg 2 (.ite (.cmp .Is (.var 2) (.c .non)) (.var 6) (.bi 7 (.cons (.var 2) (.cons (.var 6) .nil))))) .nil) .nil) .nil)) (.cons (.ret (.var 2)) .nil)))))
def f_law_bound : Fn := { ps := 2, slots := 9, dfl := [], keep := false, body := b_law_bound }
/-- 103 is_number(value)  -/
def b_is_number : Sms := (.cons (.ret (.bop .And (.cons (.isi (.var 0) [(false, 0)]) (.cons (.not (.isi (.var 0) [(false, 1)])) .nil)))) .nil)
def f_is_number : Fn := { ps := 1, slots := 1, dfl := [], keep := false, body := b_is_number }
/-- 104 is_count(value)  -/
def b_is_count : Sms := (.cons (.ret (.bop .And (.cons (.call 103 (.cons (.var 0) .nil)) (.cons (.cmp .GtE (.var 0) (.c (.int 0))) .nil)))) .nil)
def f_is_count : Fn := { ps := 1, slots := 1, dfl := [], keep := false, body := b_is_count }
/-- 105 cover(house, some) 2:found -/
def b_cover : Sms := (.cons (.exp (.call 30 (.cons (.var 0) (.cons (.var 1) .nil)))) (.cons (.asg 2 (.call 44 (.cons (.var 0) (.cons (.var 1) .nil)))) (.cons (.ret (.ite (.cmp .Is (.var 2) (.c .non)) (.c .non) (.call 28 (.cons (.var 2) .nil)))) .nil)))
def f_cover : Fn := { ps := 2, slots := 3, dfl := [], keep := false, body := b_cover }
/-- 106 is_own_fuse(house, thing)  -/
def b_is_own_fuse : Sms := (.cons (.ret (.bop .And (.cons (.cmp .In (.var 1) (.attr (.var 0) 9)) (.cons (.call 104 (.cons (.idx (.var 1) (.c (.int 1))) .nil)) .nil)))) .nil)
def f_is_own_fuse : Fn := { ps := 2, slots := 2, dfl := [], keep := false, body := b_is_own_fuse }
/-- 107 is_cover(house, some, thing) 3:limit 4:fuse 5:one 6:other 7:covered 8:name -/
def b_is_cover : Sms := (.cons (.asg 3 (.call 45 (.cons (.var 0) (.cons (.var 1) .nil)))) (.cons (.ife (.bop .Or (.cons (.cmp .Is (.var 3) (.c .non)) (.cons (.not (.isi (.var 2) [(false, 4)])) (.cons (.not (.bi 1 (.cons (.comp false (.call 106 (.cons (.var 0) (.cons (.var 4) .nil))) (.name 4) (.e (.var 2)) .nil [4]) .nil))) .nil)))) (.cons (.ret (.c (.bl false))) .nil) .nil) (.cons (.ife (.not (.bi 1 (.cons (.comp false (.cmp .Lt (.var 5) (.var 6)) (.tup (.cons (.name 5) (.cons (.name 6) .nil))) (.zip (.var 2) (.slice (.var 2) (.cons (.c (.int 1)) .nil) .nil)) .nil [5, 6]) .nil))) (.cons (.ret (.c (.bl false))) .nil) .nil) (.cons .never (.cons (.ret (.bop .And (.cons (.cmp .Eq (.call 43 (.cons (.var 2) .nil)) (.var 3)) (.cons (.bi 1 (.cons (.comp false (.cmp .In (.var 8) (.var 7)) (.name 8) (.e (.var 1)) .nil [8]) .nil)) .nil)))) .nil)))))
def f_is_cover : Fn := { ps := 3, slots := 9, dfl := [], keep := false, body := b_is_cover }
/-- 108 room_of(house, load, name) 3:left 4:some 5:bears 6:own -/
def b_room_of : Sms := (.cons (.asg 3 (.comp false (.bin .Sub (.var 5) (.bi 9 (.cons (.comp false (.idx (.var 1) (.var 6)) (.name 6) (.e (.var 4)) .nil [6]) .nil))) (.tup (.cons (.name 4) (.cons (.name 5) .nil))) (.e (.attr (.var 0) 9)) (.cons (.cmp .In (.var 2) (.var 4)) .nil) [4, 5])) (.cons (.ret (.ite (.cmp .Gt (.bi 3 (.cons (.var 3) .nil)) (.c (.int 0))) (.bi 7 (.cons (.var 3) .nil)) (.c .non))) .nil))
def f_room_of : Fn := { ps := 3, slots := 7, dfl := [], keep := false, body := b_room_of }
/-- 109 bound_load(house, some) 2:load 3:name -/
def b_bound_load : Sms := (.cons (.ife (.cmp .Is (.call 45 (.cons (.var 0) (.cons (.var 1) .nil))) (.c .non)) (.cons (.ret (.c .non)) .nil) .nil) (.cons .never (.cons (.for_ (.name 3) (.e (.attr (.var 0) 8)) (.cons (.seti (.var 2) (.var 3) (.ite (.cmp .In (.var 3) (.var 1)) (.call 108 (.cons (.var 0) (.cons (.var 2) (.cons (.var 3) .nil)))) (.c (.int 0)))) .nil)) (.cons (.ret (.bi 6 (.cons (.comp false (.idx (.var 2) (.var 3)) (.name 3) (.e (.attr (.var 0) 8)) .nil [3]) .nil))) .nil))))
def f_bound_load : Fn := { ps := 2, slots := 4, dfl := [], keep := false, body := b_bound_load }
/-- 110 is_bound_load(house, some, thing) 3:limit 4:own 5:load 6:name 7:bears -/
def b_is_bound_load : Sms := (.cons (.asg 3 (.call 45 (.cons (.var 0) (.cons (.var 1) .nil)))) (.cons (.ife (.bop .Or (.cons (.not (.isi (.var 2) [(false, 4)])) (.cons (.cmp .NotEq (.bi 3 (.cons (.var 2) .nil)) (.bi 3 (.cons (.attr (.var 0) 8) .nil))) (.cons (.not (.bi 1 (.cons (.comp false (.call 104 (.cons (.var 4) .nil)) (.name 4) (.e (.var 2)) .nil [4]) .nil))) .nil)))) (.cons (.ret (.c (.bl false))) .nil) .nil) (.cons .never (.cons (.ife (.bi 2 (.cons (.comp false (.bop .And (.cons (.cmp .Gt (.idx (.var 5) (.var 6)) (.c (.int 0))) (.cons (.cmp .NotIn (.var 6) (.var 1)) .nil))) (.name 6) (.e (.attr (.var 0) 8)) .nil [6]) .nil)) (.cons (.ret (.c (.bl false))) .nil) .nil) (.cons (.ret (.bop .And (.cons (.cmp .Eq (.bi 9 (.cons (.var 2) .nil)) (.var 3)) (.cons (.bi 1 (.cons (.comp false (.cmp .LtE (.bi 9 (.cons (.comp false (.idx (.var 5) (.var 6)) (.name 6) (.e (.var 4)) .nil [6]) .nil)) (.var 7)) (.tup (.cons (.name 4) (.cons (.name 7) .nil))) (.e (.attr (.var 0) 9)) .nil [4, 7]) .nil)) .nil)))) .nil)))))
def f_is_bound_load : Fn := { ps := 3, slots := 8, dfl := [], keep := false, body := b_is_bound_load }
/-- 111 _law_holds(_law_names_so, _law_fuses_so, _law_load_so) 3:_law_own 4:_law_name_so 5:_law_much_so -/
def b_law_holds : Sms := (.cons (.for_ (.name 3) (.e (.var 1)) (.cons (.ife (.cmp .Gt (.bi 9 (.cons (.comp false (.var 5) (.tup (.cons (.name 4) (.cons (.name 5) .nil))) (.zip (.var 0) (.var 2)) (.cons (.cmp .In (.var 4) (.idx (.var 3) (.c (.int 0)))) .nil) [4, 5]) .nil)) (.idx (.var 3) (.c (.int 1)))) (.cons (.ret (.c (.bl false))) .nil) .nil) .nil)) (.cons (.ret (.c (.bl true))) .nil))
def f_law_holds : Fn := { ps := 3, slots := 6, dfl := [], keep := false, body := b_law_holds }
/-- 112 more_with(house, some, name) 3:near 4:far -/
def b_more_with : Sms := (.cons (.par [3, 4] (.cons (.call 45 (.cons (.var 0) (.cons (.var 1) .nil))) (.cons (.call 45 (.cons (.var 0) (.cons (.call 28 (.cons (.tup (.star (.var 1) (.cons (.var 2) .nil))) .nil)) .nil))) .nil))) (.cons (.ret (.ite (.cmp .Is (.var 4) (.c .non)) (.c .non) (.bin .Sub (.var 4) (.var 3)))) .nil))
def f_more_with : Fn := { ps := 3, slots := 5, dfl := [], keep := false, body := b_more_with }
/-- 113 closed(house, some) 2:limit 3:name -/
def b_closed : Sms := (.cons (.asg 2 (.call 45 (.cons (.var 0) (.cons (.var 1) .nil)))) (.cons (.ife (.cmp .Is (.var 2) (.c .non)) (.cons (.ret (.c .non)) .nil) .nil) (.cons (.ret (.bi 6 (.cons (.comp false (.var 3) (.name 3) (.e (.attr (.var 0) 8)) (.cons (.cmp .Eq (.call 45 (.cons (.var 0) (.cons (.call 28 (.cons (.tup (.star (.var 1) (.cons (.var 3) .nil))) .nil)) .nil))) (.var 2)) .nil) [3]) .nil))) .nil)))
def f_closed : Fn := { ps := 2, slots := 4, dfl := [], keep := false, body := b_closed }
/-- 114 fuse_of(house, some) 2:wanted 3:fuse -/
def b_fuse_of : Sms := (.cons (.asg 2 (.call 21 (.cons (.var 1) .nil))) (.cons (.for_ (.name 3) (.e (.attr (.var 0) 9)) (.cons (.ife (.cmp .Eq (.idx (.var 3) (.c (.int 0))) (.var 2)) (.cons (.ret (.var 3)) .nil) .nil) .nil)) (.cons (.raise 905 (.cons (.var 2) .nil) .nil [0]) .nil)))
def f_fuse_of : Fn := { ps := 2, slots := 4, dfl := [], keep := false, body := b_fuse_of }
/-- 115 borne(house, some)  -/
def b_borne : Sms := (.cons (.ret (.call 45 (.cons (.var 0) (.cons (.idx (.call 114 (.cons (.var 0) (.cons (.var 1) .nil))) (.c (.int 0))) .nil)))) .nil)
def f_borne : Fn := { ps := 2, slots := 2, dfl := [], keep := false, body := b_borne }
/-- 116 without_set(house, some) 2:fuse -/
def b_without_set : Sms := (.cons .never .nil)
def f_without_set : Fn := { ps := 2, slots := 3, dfl := [], keep := false, body := b_without_set }
/-- 117 is_idle(house, fuse) 2:limit -/
def b_is_idle : Sms := (.cons (.asg 2 (.call 45 (.cons (.call 116 (.cons (.var 0) (.cons (.idx (.var 1) (.c (.int 0))) .nil))) (.cons (.idx (.var 1) (.c (.int 0))) .nil)))) (.cons (.ret (.bop .And (.cons (.cmp .IsNot (.var 2) (.c .non)) (.cons (.cmp .LtE (.var 2) (.idx (.var 1) (.c (.int 1)))) .nil)))) .nil))
def f_is_idle : Fn := { ps := 2, slots := 3, dfl := [], keep := false, body := b_is_idle }
/-- 118 idle_fuses(house) 1:fuse -/
def b_idle_fuses : Sms := (.cons (.ret (.bi 6 (.cons (.comp false (.var 1) (.name 1) (.e (.attr (.var 0) 9)) (.cons (.call 117 (.cons (.var 0) (.cons (.var 1) .nil))) .nil) [1]) .nil))) .nil)
def f_idle_fuses : Fn := { ps := 1, slots := 2, dfl := [], keep := false, body := b_idle_fuses }
/-- 119 needed_load(house, some) 2:fuse 3:rest -/
def b_needed_load : Sms := (.cons (.asg 2 (.call 114 (.cons (.var 0) (.cons (.var 1) .nil)))) (.cons (.ife (.call 117 (.cons (.var 0) (.cons (.var 2) .nil))) (.cons (.ret (.c .non)) .nil) .nil) (.cons (.asg 3 (.call 116 (.cons (.var 0) (.cons (.idx (.var 2) (.c (.int 0))) .nil)))) (.cons (.ife (.cmp .IsNot (.call 45 (.cons (.var 3) (.cons (.idx (.var 2) (.c (.int 0))) .nil))) (.c .non)) (.cons (.ret (.call 109 (.cons (.var 3) (.cons (.idx (.var 2) (.c (.int 0))) .nil)))) .nil) .nil) (.cons .never .nil)))))
def f_needed_load : Fn := { ps := 2, slots := 4, dfl := [], keep := false, body := b_needed_load }
/-- 120 dead_sockets(house) 1:name -/
def b_dead_sockets : Sms := (.cons (.ret (.bi 6 (.cons (.comp false (.var 1) (.name 1) (.e (.attr (.var 0) 8)) (.cons (.cmp .Eq (.call 45 (.cons (.var 0) (.cons (.tup (.cons (.var 1) .nil)) .nil))) (.c (.int 0))) .nil) [1]) .nil))) .nil)
def f_dead_sockets : Fn := { ps := 1, slots := 2, dfl := [], keep := false, body := b_dead_sockets }
/-- 121 is_wanted(house, sets, some, dead) 4:limit 5:others 6:name 7:parts 8:own 9:bears -/
def b_is_wanted : Sms := (.cons (.asg 4 (.call 45 (.cons (.var 0) (.cons (.var 2) .nil)))) (.cons (.asg 5 (.comp false (.var 6) (.name 6) (.e (.attr (.var 0) 8)) (.cons (.bop .And (.cons (.cmp .NotIn (.var 6) (.var 2)) (.cons (.cmp .NotIn (.var 6) (.var 3)) .nil))) .nil) [6])) (.cons (.ife (.bi 2 (.cons (.comp false (.cmp .Eq (.call 45 (.cons (.var 0) (.cons (.call 28 (.cons (.tup (.star (.var 2) (.cons (.var 6) .nil))) .nil)) .nil))) (.var 4)) (.name 6) (.e (.var 5)) .nil [6]) .nil)) (.cons (.ret (.c (.bl false))) .nil) .nil) (.cons (.asg 7 (.call 40 (.cons (.comp false (.tup (.cons (.var 8) (.cons (.c (.int 0)) .nil))) (.name 8) (.e (.var 1)) .nil [8]) (.cons (.var 2) .nil)))) (.cons .never (.cons (.ret (.cmp .Lt (.var 4) (.bi 9 (.cons (.comp false (.call 45 (.cons (.var 0) (.cons (.var 8) .nil))) (.tup (.cons (.name 8) (.cons (.name 9) .nil))) (.e (.var 7)) .nil [8, 9]) .nil)))) .nil))))))
def f_is_wanted : Fn := { ps := 4, slots := 10, dfl := [], keep := false, body := b_is_wanted }
/-- 122 plain_house(house) 1:dead 2:cut 3:some 4:bears 5:name 6:sets 7:own 8:found -/
def b_plain_house : Sms := (.cons (.asg 1 (.call 120 (.cons (.var 0) .nil))) (.cons (.asg 2 (.comp false (.bi 6 (.cons (.comp false (.var 5) (.name 5) (.e (.var 3)) (.cons (.cmp .NotIn (.var 5) (.var 1)) .nil) [5]) .nil)) (.tup (.cons (.name 3) (.cons (.name 4) .nil))) (.e (.attr (.var 0) 9)) .nil [3, 4])) (.cons (.asg 6 (.comp false (.var 7) (.name 7) (.e (.call 28 (.cons (.var 2) .nil))) (.cons (.cmp .Gt (.bi 3 (.cons (.var 7) .nil)) (.c (.int 0))) .nil) [7])) (.cons (.asg 8 (.comp false (.tup (.cons (.var 7) (.cons (.call 45 (.cons (.var 0) (.cons (.var 7) .nil))) .nil))) (.name 7) (.e (.var 6)) (.cons (.call 121 (.cons (.var 0) (.cons (.var 6) (.cons (.var 7) (.cons (.var 1) .nil))))) .nil) [7])) (.cons .never .nil)))))
def f_plain_house : Fn := { ps := 1, slots := 9, dfl := [], keep := false, body := b_plain_house }
/-- 123 is_plain(house)  -/
def b_is_plain : Sms := (.cons (.ret (.cmp .Eq (.var 0) (.call 122 (.cons (.var 0) .nil)))) .nil)
def f_is_plain : Fn := { ps := 1, slots := 1, dfl := [], keep := false, body := b_is_plain }
/-- 124 alike(one, other)  -/
def b_alike : Sms := (.cons (.exp (.call 29 (.cons (.var 0) (.cons (.var 1) .nil)))) (.cons (.ret (.cmp .Eq (.call 122 (.cons (.var 0) .nil)) (.call 122 (.cons (.var 1) .nil)))) .nil))
def f_alike : Fn := { ps := 2, slots := 2, dfl := [], keep := false, body := b_alike }
/-- 125 all_sets(sockets) 1:found 2:name 3:some -/
def b_all_sets_joins : Sms := (.cons (.asg 1 (.lst true (.cons (.tup .nil) .nil))) (.cons (.for_ (.name 2) (.e (.var 0)) (.cons (.exp (.meth 1 (.var 1) (.cons (.comp false (.tup (.star (.var 3) (.cons (.var 2) .nil))) (.name 3) (.e (.var 1)) .nil [3]) .nil))) .nil)) (.cons (.ret (.var 1)) .nil)))
def f_all_sets_joins : Fn := { ps := 1, slots := 4, dfl := [], keep := false, body := b_all_sets_joins }
/-- 126 both_sums(one, other)  -/
def b_both_sums : Sms := (.cons (.ret (.ite (.bop .Or (.cons (.cmp .Is (.var 0) (.c .non)) (.cons (.cmp .Is (.var 1) (.c .non)) .nil))) (.c .non) (.bin .Add (.var 0) (.var 1)))) .nil)
def f_both_sums : Fn := { ps := 2, slots := 2, dfl := [], keep := false, body := b_both_sums }
/-- 127 house_of_bounds(sockets, bounds) 2:dead 3:name 4:live 5:found 6:some 7:one 8:other -/
def b_house_of_bounds : Sms := (.cons (.asg 2 (.bi 6 (.cons (.comp false (.var 3) (.name 3) (.e (.var 0)) (.cons (.cmp .Eq (.idx (.var 1) (.tup (.cons (.var 3) .nil))) (.c (.int 0))) .nil) [3]) .nil))) (.cons (.asg 4 (.bi 6 (.cons (.comp false (.var 3) (.name 3) (.e (.var 0)) (.cons (.cmp .NotIn (.var 3) (.var 2)) .nil) [3]) .nil))) (.cons (.asg 5 (.comp false (.tup (.cons (.var 6) (.cons (.idx (.var 1) (.var 6)) .nil))) (.name 6) (.e (.slice (.call 125 (.cons (.var 4) .nil)) (.cons (.c (.int 1)) .nil) .nil)) (.cons (.call 128 (.cons (.var 4) (.cons (.var 1) (.cons (.var 6) .nil)))) .nil) [6])) (.cons .never (.cons .never .nil)))))
def f_house_of_bounds : Fn := { ps := 2, slots := 9, dfl := [], keep := false, body := b_house_of_bounds }
/-- 128 is_apart(live, bounds, some) 3:limit 4:name 5:part 6:near 7:rest -/
def b_is_apart : Sms := (.cons (.asg 3 (.idx (.var 1) (.var 2))) (.cons (.ife (.bop .Or (.cons (.cmp .Is (.var 3) (.c .non)) (.cons (.bi 2 (.cons (.comp false (.cmp .Eq (.idx (.var 1) (.call 28 (.cons (.tup (.star (.var 2) (.cons (.var 4) .nil))) .nil))) (.var 3)) (.name 4) (.e (.var 0)) (.cons (.cmp .NotIn (.var 4) (.var 2)) .nil) [4]) .nil)) .nil))) (.cons (.ret (.c (.bl false))) .nil) .nil) (.cons (.for_ (.name 5) (.e (.call 125 (.cons (.slice (.var 2) (.cons (.c (.int 1)) .nil) .nil) .nil))) (.cons (.asg 6 (.tup (.cons (.idx (.var 2) (.c (.int 0))) (.star (.var 5) .nil)))) (.cons (.asg 7 (.bi 6 (.cons (.comp false (.var 4) (.name 4) (.e (.var 2)) (.cons (.cmp .NotIn (.var 4) (.var 6)) .nil) [4]) .nil))) (.cons (.ife (.bop .And (.cons (.cmp .Gt (.bi 3 (.cons (.var 7) .nil)) (.c (.int 0))) (.cons (.cmp .Eq (.call 126 (.cons (.idx (.var 1) (.var 6)) (.cons (.idx (.var 1) (.var 7)) .nil))) (.var 3)) .nil))) (.cons (.ret (.c (.bl false))) .nil) .nil) .nil)))) (.cons (.ret (.c (.bl true))) .nil))))
def f_is_apart : Fn := { ps := 3, slots := 8, dfl := [], keep := false, body := b_is_apart }
/-- 129 as_one(one, other) 2:bounds 3:some -/
def b_as_one : Sms := (.cons (.exp (.call 29 (.cons (.var 0) (.cons (.var 1) .nil)))) (.cons .never (.cons (.ret (.call 127 (.cons (.attr (.var 0) 8) (.cons (.var 2) .nil)))) .nil)))
def f_as_one : Fn := { ps := 2, slots := 4, dfl := [], keep := false, body := b_as_one }
/-- 130 least_sum(one, other) 2:own -/
def b_least_sum : Sms := (.cons .never .nil)
def f_least_sum : Fn := { ps := 2, slots := 3, dfl := [], keep := false, body := b_least_sum }
/-- 131 both_bound(one, other, some) 3:found 4:part 5:rest 6:name -/
def b_both_bound : Sms := (.cons (.asg 3 (.c .non)) (.cons (.for_ (.name 4) (.e (.call 125 (.cons (.var 2) .nil))) (.cons (.asg 5 (.bi 6 (.cons (.comp false (.var 6) (.name 6) (.e (.var 2)) (.cons (.cmp .NotIn (.var 6) (.var 4)) .nil) [6]) .nil))) (.cons (.asg 3 (.call 130 (.cons (.var 3) (.cons (.call 126 (.cons (.call 45 (.cons (.var 0) (.cons (.var 4) .nil))) (.cons (.call 45 (.cons (.var 1) (.cons (.var 5) .nil))) .nil))) .nil)))) .nil))) (.cons (.ret (.var 3)) .nil)))
def f_both_bound : Fn := { ps := 3, slots := 7, dfl := [], keep := false, body := b_both_bound }
/-- 132 both_at_once(one, other) 2:bounds 3:some 4:found -/
def b_both_at_once : Sms := (.cons (.exp (.call 29 (.cons (.var 0) (.cons (.var 1) .nil)))) (.cons .never (.cons (.asg 4 (.call 127 (.cons (.attr (.var 0) 8) (.cons (.var 2) .nil)))) (.cons (.ife (.bop .Or (.cons (.cmp .Is (.var 4) (.c .non)) (.cons (.not (.bop .And (.cons (.call 58 (.cons (.var 0) (.cons (.var 4) .nil))) (.cons (.call 58 (.cons (.var 1) (.cons (.var 4) .nil))) .nil)))) .nil))) (.cons (.ret (.c .non)) .nil) .nil) (.cons (.ret (.var 4)) .nil)))))
def f_both_at_once : Fn := { ps := 2, slots := 5, dfl := [], keep := false, body := b_both_at_once }
/-- 133 _law_loads(_law_names_so, _law_high_so) 2:_law_found 3:_law_name_so 4:_law_more 5:_law_own 6:_law_k -/
def b_law_loads : Sms := (.cons (.asg 2 (.lst false (.cons (.tup .nil) .nil))) (.cons (.for_ (.name 3) (.e (.var 0)) (.cons (.asg 4 (.lst false .nil)) (.cons (.for_ (.name 5) (.e (.var 2)) (.cons (.asg 4 (.bin .Add (.var 4) (.comp false (.bin .Add (.var 5) (.tup (.cons (.var 6) .nil))) (.name 6) (.range1 (.bin .Add (.var 1) (.c (.int 1)))) .nil [6]))) .nil)) (.cons (.asg 2 (.var 4)) .nil)))) (.cons (.ret (.var 2)) .nil)))
def f_law_loads : Fn := { ps := 2, slots := 7, dfl := [], keep := false, body := b_law_loads }
/-- 134 under_main(house, number)  -/
def b_under_main : Sms := (.cons .never .nil)
def f_under_main : Fn := { ps := 2, slots := 2, dfl := [], keep := false, body := b_under_main }
/-- 135 put_together(one, other) 2:name -/
def b_put_together : Sms := (.cons (.for_ (.name 2) (.e (.attr (.var 0) 8)) (.cons (.ife (.cmp .In (.var 2) (.attr (.var 1) 8)) (.cons (.raise 910 (.cons (.var 2) .nil) .nil [0]) .nil) .nil) .nil)) (.cons .never .nil))
def f_put_together : Fn := { ps := 2, slots := 3, dfl := [], keep := false, body := b_put_together }
/-- 136 scaled(house, number) 2:some 3:bears -/
def b_scaled : Sms := (.cons .never .nil)
def f_scaled : Fn := { ps := 2, slots := 4, dfl := [], keep := false, body := b_scaled }
/-- 137 is_between(one, other, third)  -/
def b_is_between : Sms := (.cons (.exp (.call 29 (.cons (.var 0) (.cons (.var 1) .nil)))) (.cons (.exp (.call 29 (.cons (.var 0) (.cons (.var 2) .nil)))) (.cons (.ret (.bop .And (.cons (.call 58 (.cons (.var 0) (.cons (.var 2) .nil))) (.cons (.call 58 (.cons (.var 2) (.cons (.var 1) .nil))) .nil)))) .nil)))
def f_is_between : Fn := { ps := 3, slots := 3, dfl := [], keep := false, body := b_is_between }
/-- 138 _law_people(_law_box_here, _law_many_so)  -/
def b_law_people : Sms := (.cons (.ret (.bi 10 (.cons (.call 15 (.cons (.var 0) (.cons (.lst false (.cons (.c (.str ⟨#[97, 110, 110]⟩)) (.cons (.c (.str ⟨#[98]⟩)) (.cons (.c (.str ⟨#[98, 111, 98]⟩)) (.cons (.c (.str ⟨#[99]⟩)) (.cons (.c (.str ⟨#[100]⟩)) (.cons (.c (.str ⟨#[101, 118, 101]⟩)) (.cons (.c (.str ⟨#[107]⟩)) (.cons (.c (.str ⟨#[122, 111, 101]⟩)) .nil))))))))) (.cons (.var 1) .nil)))) .nil))) .nil)
def f_law_people : Fn := { ps := 2, slots := 2, dfl := [], keep := false, body := b_law_people }
/-- 139 _law_deck(_law_box_here, _law_names_so, _law_many_so) 3:_law_high_so 4:_law_found 5:_law_turn 6:_law_way_so 7:_law_own 8:_law_k 9:_law_much_so -/
def b_law_deck : Sms := (.cons (.par [3, 4] (.cons (.call 2 (.cons (.var 0) (.cons (.lst false (.cons (.c (.int 3)) (.cons (.c (.int 5)) (.cons (.bin .Pow (.c (.int 10)) (.c (.int 28))) .nil)))) .nil))) (.cons (.lst true .nil) .nil))) (.cons (.for_ (.name 5) (.range1 (.var 2)) (.cons (.asg 6 (.call 0 (.cons (.var 0) (.cons (.c (.int 5)) .nil)))) (.cons (.asg 7 (.ite (.bop .And (.cons (.cmp .NotEq (.var 4) (.lst false .nil)) (.cons (.cmp .Gt (.var 6) (.c (.int 0))) .nil))) (.call 2 (.cons (.var 0) (.cons (.var 4) .nil))) (.call 100 (.cons (.var 0) (.cons (.var 1) (.cons (.var 3) .nil)))))) (.cons (.asg 8 (.call 0 (.cons (.var 0) (.cons (.bin .Add (.bi 3 (.cons (.var 7) .nil)) (.c (.int 1))) .nil)))) (.cons (.ife (.cmp .Eq (.var 6) (.c (.int 2))) (.cons (.asg 7 (.bin .Add (.slice (.var 7) .nil (.cons (.var 8) .nil)) (.slice (.var 7) (.cons (.bin .Add (.var 8) (.c (.int 1))) .nil) .nil))) .nil) .nil) (.cons (.ife (.bop .And (.cons (.cmp .Gt (.var 6) (.c (.int 2))) (.cons (.cmp .Lt (.var 8) (.bi 3 (.cons (.var 7) .nil))) .nil))) (.cons (.asg 9 (.bi 8 (.cons (.c (.int 0)) (.cons (.bin .Add (.idx (.idx (.var 7) (.var 8)) (.c (.int 1))) (.call 2 (.cons (.var 0) (.cons (.lst false (.cons (.neg (.c (.int 1))) (.cons (.c (.int 1)) .nil))) .nil)))) .nil)))) (.cons (.asg 7 (.bin .Add (.bin .Add (.slice (.var 7) .nil (.cons (.var 8) .nil)) (.tup (.cons (.tup (.cons (.idx (.idx (.var 7) (.var 8)) (.c (.int 0))) (.cons (.var 9) .nil))) .nil))) (.slice (.var 7) (.cons (.bin .Add (.var 8) (.c (.int 1))) .nil) .nil))) .nil)) .nil) (.cons (.exp (.meth 0 (.var 4) (.cons (.var 7) .nil))) .nil))))))) (.cons (.ret (.var 4)) .nil)))
def f_law_deck : Fn := { ps := 3, slots := 10, dfl := [], keep := false, body := b_law_deck }
/-- 140 _law_over(_law_mine, _law_its) 2:_law_own 3:_law_far -/
def b_law_over : Sms := (.cons (.for_ (.name 2) (.e (.var 0)) (.cons (.asg 3 (.call 102 (.cons (.var 1) (.cons (.idx (.var 2) (.c (.int 0))) .nil)))) (.cons (.ife (.bop .Or (.cons (.cmp .Is (.var 3) (.c .non)) (.cons (.cmp .Gt (.var 3) (.idx (.var 2) (.c (.int 1)))) .nil))) (.cons (.ret (.c (.bl false))) .nil) .nil) .nil))) (.cons (.ret (.c (.bl true))) .nil))
def f_law_over : Fn := { ps := 2, slots := 4, dfl := [], keep := false, body := b_law_over }
/-- 141 least_longest(some) 1:most 2:own -/
def b_least_longest : Sms := (.cons .never (.cons .never .nil))
def f_least_longest : Fn := { ps := 1, slots := 3, dfl := [], keep := false, body := b_least_longest }
/-- 142 _law_same(_law_got, _law_due_here) 2:_law_mine_so 3:_law_own -/
def b_law_same_2 : Sms := (.cons (.ife (.isi (.var 1) [(false, 3), (false, 4)]) (.cons (.ife (.bop .Or (.cons (.cmp .NotEq (.isi (.var 0) [(false, 3)]) (.isi (.var 1) [(false, 3)])) (.cons (.cmp .NotEq (.isi (.var 0) [(false, 4)]) (.isi (.var 1) [(false, 4)])) .nil))) (.cons (.ret (.c (.bl false))) .nil) .nil) (.cons (.ret (.bop .And (.cons (.cmp .Eq (.bi 3 (.cons (.var 0) .nil)) (.bi 3 (.cons (.var 1) .nil))) (.cons (.bi 1 (.cons (.comp false (.call 142 (.cons (.var 2) (.cons (.var 3) .nil))) (.tup (.cons (.name 2) (.cons (.name 3) .nil))) (.zip (.var 0) (.var 1)) .nil [2, 3]) .nil)) .nil)))) .nil)) .nil) (.cons (.ife (.bop .Or (.cons (.cmp .Is (.var 1) (.c .non)) (.cons (.isi (.var 1) [(false, 1), (false, 2)]) .nil))) (.cons (.ret (.bop .And (.cons (.cmp .Eq (.var 0) (.var 1)) (.cons (.cmp .Eq (.isi (.var 0) [(false, 1)]) (.isi (.var 1) [(false, 1)])) (.cons (.cmp .Eq (.cmp .Is (.var 0) (.c .non)) (.cmp .Is (.var 1) (.c .non))) .nil))))) .nil) .nil) (.cons (.ret (.bop .And (.cons (.isi (.var 0) [(false, 0)]) (.cons (.not (.isi (.var 0) [(false, 1)])) (.cons (.cmp .Eq (.var 0) (.var 1)) .nil))))) .nil)))
def f_law_same_2 : Fn := { ps := 2, slots := 4, dfl := [], keep := false, body := b_law_same_2 }
/-- 143 _law_names(_law_box_here, _law_many_so) 2:_law_pool_so -/
def b_law_names_2 : Sms := (.cons (.asg 2 (.lst false (.cons (.c (.str ⟨#[97]⟩)) (.cons (.c (.str ⟨#[97, 97]⟩)) (.cons (.c (.str ⟨#[98]⟩)) (.cons (.c (.str ⟨#[99]⟩)) (.cons (.c (.str ⟨#[108, 97, 109, 112]⟩)) (.cons (.c (.str ⟨#[111, 118, 101, 110]⟩)) (.cons (.c (.str ⟨#[116, 118]⟩)) (.cons (.c (.str ⟨#[120]⟩)) (.cons (.c (.str ⟨#[122]⟩)) (.cons (.c (.str ⟨#[97, 98, 99, 100, 101, 102, 103, 104]⟩)) (.cons (.c (.str ⟨#[100]⟩)) (.cons (.c (.str ⟨#[101]⟩)) .nil)))))))))))))) (.cons (.ret (.bi 6 (.cons (.bi 10 (.cons (.call 15 (.cons (.var 0) (.cons (.var 2) (.cons (.var 1) .nil)))) .nil)) .nil))) .nil))
def f_law_names_2 : Fn := { ps := 2, slots := 3, dfl := [], keep := false, body := b_law_names_2 }
/-- 144 _law_cross(_law_lot, _law_far) 2:_law_both_so 3:_law_own -/
def b_law_cross : Sms := (.cons (.asg 2 (.comp false (.var 3) (.name 3) (.e (.var 0)) (.cons (.cmp .In (.var 3) (.var 1)) .nil) [3])) (.cons (.ret (.bop .And (.cons (.cmp .NotEq (.var 2) (.lst false .nil)) (.cons (.cmp .NotEq (.var 2) (.lstof false (.var 0))) (.cons (.cmp .NotEq (.var 2) (.lstof false (.var 1))) .nil))))) .nil))
def f_law_cross : Fn := { ps := 2, slots := 4, dfl := [], keep := false, body := b_law_cross }
/-- 145 _law_fuses(_law_box_here, _law_sockets_so, _law_most_so, _law_top_so) 4:_law_found 5:_law_turn 6:_law_lot 7:_law_own -/
def b_law_fuses_3 : Sms := (.cons (.asg 4 (.lst true .nil)) (.cons (.for_ (.name 5) (.range1 (.call 0 (.cons (.var 0) (.cons (.bin .Add (.var 2) (.c (.int 1))) .nil)))) (.cons (.asg 6 (.bi 6 (.cons (.bi 10 (.cons (.call 15 (.cons (.var 0) (.cons (.var 1) (.cons (.bin .Add (.c (.int 1)) (.call 0 (.cons (.var 0) (.cons (.bi 3 (.cons (.var 1) .nil)) .nil)))) .nil)))) .nil)) .nil))) (.cons (.ife (.cmp .Eq (.comp false (.var 7) (.name 7) (.e (.var 4)) (.cons (.call 144 (.cons (.var 6) (.cons (.idx (.var 7) (.c (.int 0))) .nil))) .nil) [7]) (.lst false .nil)) (.cons (.exp (.meth 0 (.var 4) (.cons (.tup (.cons (.var 6) (.cons (.call 0 (.cons (.var 0) (.cons (.bin .Add (.var 3) (.c (.int 1))) .nil))) .nil))) .nil))) .nil) .nil) .nil))) (.cons (.ret (.bi 6 (.cons (.var 4) .nil))) .nil)))
def f_law_fuses_3 : Fn := { ps := 4, slots := 8, dfl := [], keep := false, body := b_law_fuses_3 }
/-- 146 _law_least(_law_fuses_so) 1:_law_book_so 2:_law_lot 3:_law_much -/
def b_law_least : Sms := (.cons .never (.cons (.for_ (.tup (.cons (.name 2) (.cons (.name 3) .nil))) (.e (.var 0)) (.cons (.seti (.var 1) (.var 2) (.bi 7 (.cons (.var 3) (.cons (.meth 5 (.var 1) (.cons (.var 2) (.cons (.var 3) .nil))) .nil)))) .nil)) (.cons (.ret (.bi 6 (.cons (.comp false (.tup (.cons (.var 2) (.cons (.idx (.var 1) (.var 2)) .nil))) (.name 2) (.e (.bi 10 (.cons (.var 1) .nil))) .nil [2]) .nil))) .nil)))
def f_law_least : Fn := { ps := 1, slots := 4, dfl := [], keep := false, body := b_law_least }
/-- 147 fuses_over(house, name) 2:found 3:some 4:bears 5:many -/
def b_fuses_over : Sms := (.cons (.exp (.call 30 (.cons (.var 0) (.cons (.tup (.cons (.var 1) .nil)) .nil)))) (.cons (.asg 2 (.comp false (.tup (.cons (.bi 3 (.cons (.var 3) .nil)) (.cons (.var 3) (.cons (.var 4) .nil)))) (.tup (.cons (.name 3) (.cons (.name 4) .nil))) (.e (.attr (.var 0) 9)) (.cons (.cmp .In (.var 1) (.var 3)) .nil) [3, 4])) (.cons (.ret (.bi 6 (.cons (.comp false (.tup (.cons (.var 3) (.cons (.var 4) .nil))) (.tup (.cons (.name 5) (.cons (.name 3) (.cons (.name 4) .nil)))) (.e (.bi 10 (.cons (.var 2) .nil))) .nil [5, 3, 4]) .nil))) .nil)))
def f_fuses_over : Fn := { ps := 2, slots := 6, dfl := [], keep := false, body := b_fuses_over }
/-- 148 next_over(house, some) 2:own 3:found 4:other 5:bears -/
def b_next_over : Sms := (.cons (.asg 2 (.call 21 (.cons (.var 1) .nil))) (.cons (.ife (.cmp .NotIn (.var 2) (.var 0)) (.cons (.raise 905 (.cons (.var 2) .nil) .nil [0]) .nil) .nil) (.cons (.asg 3 (.comp false (.tup (.cons (.bi 3 (.cons (.var 4) .nil)) (.cons (.var 4) .nil))) (.tup (.cons (.name 4) (.cons (.name 5) .nil))) (.e (.attr (.var 0) 9)) (.cons (.bop .And (.cons (.cmp .NotEq (.var 4) (.var 2)) (.cons (.call 24 (.cons (.var 2) (.cons (.var 4) .nil))) .nil))) .nil) [4, 5])) (.cons (.ret (.ite (.cmp .Gt (.bi 3 (.cons (.var 3) .nil)) (.c (.int 0))) (.idx (.bi 7 (.cons (.var 3) .nil)) (.c (.int 1))) (.c .non))) .nil))))
def f_next_over : Fn := { ps := 2, slots := 6, dfl := [], keep := false, body := b_next_over }
/-- 149 tops_among(sets) 1:some 2:other -/
def b_tops_among : Sms := (.cons (.ret (.bi 6 (.cons (.comp false (.var 1) (.name 1) (.e (.var 0)) (.cons (.not (.bi 2 (.cons (.comp false (.bop .And (.cons (.cmp .NotEq (.var 1) (.var 2)) (.cons (.call 24 (.cons (.var 1) (.cons (.var 2) .nil))) .nil))) (.name 2) (.e (.var 0)) .nil [2]) .nil))) .nil) [1]) .nil))) .nil)
def f_tops_among : Fn := { ps := 1, slots := 3, dfl := [], keep := false, body := b_tops_among }
/-- 150 next_under(house, some) 2:own 3:other 4:bears -/
def b_next_under : Sms := (.cons (.asg 2 (.call 21 (.cons (.var 1) .nil))) (.cons (.ife (.cmp .NotIn (.var 2) (.var 0)) (.cons (.raise 905 (.cons (.var 2) .nil) .nil [0]) .nil) .nil) (.cons (.ret (.call 149 (.cons (.comp false (.var 3) (.tup (.cons (.name 3) (.cons (.name 4) .nil))) (.e (.attr (.var 0) 9)) (.cons (.bop .And (.cons (.cmp .NotEq (.var 3) (.var 2)) (.cons (.call 24 (.cons (.var 3) (.cons (.var 2) .nil))) .nil))) .nil) [3, 4]) .nil))) .nil)))
def f_next_under : Fn := { ps := 2, slots := 5, dfl := [], keep := false, body := b_next_under }
/-- 151 top_fuses(house) 1:some 2:bears -/
def b_top_fuses : Sms := (.cons (.ret (.call 149 (.cons (.comp false (.var 1) (.tup (.cons (.name 1) (.cons (.name 2) .nil))) (.e (.attr (.var 0) 9)) .nil [1, 2]) .nil))) .nil)
def f_top_fuses : Fn := { ps := 1, slots := 3, dfl := [], keep := false, body := b_top_fuses }
/-- 152 only(house, some) 2:cut 3:own 4:bears 5:name 6:fuse -/
def b_only : Sms := (.cons (.exp (.call 30 (.cons (.var 0) (.cons (.var 1) .nil)))) (.cons (.asg 2 (.comp false (.tup (.cons (.bi 6 (.cons (.comp false (.var 5) (.name 5) (.e (.var 3)) (.cons (.cmp .In (.var 5) (.var 1)) .nil) [5]) .nil)) (.cons (.var 4) .nil))) (.tup (.cons (.name 3) (.cons (.name 4) .nil))) (.e (.attr (.var 0) 9)) .nil [3, 4])) (.cons .never .nil)))
def f_only : Fn := { ps := 2, slots := 7, dfl := [], keep := false, body := b_only }
/-- 153 is_set_against(one, other, load, thing)  -/
def b_is_set_against : Sms := (.cons (.exp (.call 62 (.cons (.var 0) (.cons (.var 1) (.cons (.var 2) .nil))))) (.cons (.ret (.bop .And (.cons (.cmp .In (.var 3) (.call 59 (.cons (.attr (.var 0) 8) .nil))) (.cons (.call 61 (.cons (.var 0) (.cons (.var 1) (.cons (.var 2) (.cons (.var 3) .nil))))) .nil)))) .nil))
def f_is_set_against : Fn := { ps := 4, slots := 4, dfl := [], keep := false, body := b_is_set_against }
/-- 154 _law_sum(_law_sockets_so, _law_load_so, _law_lot) 3:_law_k 4:_law_own -/
def b_law_sum : Sms := (.cons (.ret (.bi 9 (.cons (.comp false (.idx (.var 1) (.var 3)) (.tup (.cons (.name 3) (.cons (.name 4) .nil))) (.enum (.var 0)) (.cons (.cmp .In (.var 4) (.var 2)) .nil) [3, 4]) .nil))) .nil)
def f_law_sum : Fn := { ps := 3, slots := 5, dfl := [], keep := false, body := b_law_sum }
/-- 155 _law_held(_law_sockets_so, _law_fuses_so, _law_load_so) 3:_law_own -/
def b_law_held : Sms := (.cons (.ret (.cmp .Eq (.comp false (.var 3) (.name 3) (.e (.var 1)) (.cons (.cmp .Gt (.call 154 (.cons (.var 0) (.cons (.var 2) (.cons (.idx (.var 3) (.c (.int 0))) .nil)))) (.idx (.var 3) (.c (.int 1)))) .nil) [3]) (.lst false .nil))) .nil)
def f_law_held : Fn := { ps := 3, slots := 4, dfl := [], keep := false, body := b_law_held }
/-- 156 _law_sets(_law_sockets_so) 1:_law_found 2:_law_own 3:_law_far -/
def b_law_sets_2 : Sms := (.cons (.asg 1 (.lst false (.cons (.tup .nil) .nil))) (.cons (.for_ (.name 2) (.e (.var 0)) (.cons (.asg 1 (.bin .Add (.var 1) (.comp false (.bin .Add (.var 3) (.tup (.cons (.var 2) .nil))) (.name 3) (.e (.var 1)) .nil [3]))) .nil)) (.cons (.ret (.comp false (.idx (.var 2) (.c (.int 1))) (.name 2) (.e (.bi 10 (.cons (.comp false (.tup (.cons (.bi 3 (.cons (.var 2) .nil)) (.cons (.var 2) .nil))) (.name 2) (.e (.var 1)) .nil [2]) .nil))) .nil [2])) .nil)))
def f_law_sets_2 : Fn := { ps := 1, slots := 4, dfl := [], keep := false, body := b_law_sets_2 }
/-- 157 _law_bound(_law_fuses_so, _law_lot) 2:_law_rows_so 3:_law_own 4:_law_much 5:_law_whole 6:_law_here 7:_law_sums_so 8:_law_far -/
def b_law_bound_2 : Sms := (.cons (.asg 2 (.lst false (.cons (.tup (.cons (.c (.int 0)) (.cons (.tup .nil) .nil))) .nil))) (.cons (.for_ (.tup (.cons (.name 3) (.cons (.name 4) .nil))) (.e (.var 0)) (.cons (.asg 2 (.bin .Add (.var 2) (.comp false (.tup (.cons (.bin .Add (.var 5) (.var 4)) (.cons (.bin .Add (.var 6) (.var 3)) .nil))) (.tup (.cons (.name 5) (.cons (.name 6) .nil))) (.e (.var 2)) .nil [5, 6]))) .nil)) (.cons (.asg 7 (.comp false (.var 5) (.tup (.cons (.name 5) (.cons (.name 6) .nil))) (.e (.var 2)) (.cons (.cmp .Eq (.comp false (.var 8) (.name 8) (.e (.var 1)) (.cons (.cmp .NotIn (.var 8) (.var 6)) .nil) [8]) (.lst false .nil)) .nil) [5, 6])) (.cons (.ret (.ite (.cmp .NotEq (.var 7) (.lst false .nil)) (.bi 7 (.cons (.var 7) .nil)) (.c .non))) .nil))))
def f_law_bound_2 : Fn := { ps := 2, slots := 9, dfl := [], keep := false, body := b_law_bound_2 }
/-- 158 _law_two(_law_box_here, _law_many_so, _law_top_so) 3:_law_sockets_so -/
def b_law_two : Sms := (.cons (.asg 3 (.call 143 (.cons (.var 0) (.cons (.var 1) .nil)))) (.cons (.ret (.tup (.cons (.var 3) (.cons (.call 145 (.cons (.var 0) (.cons (.var 3) (.cons (.c (.int 5)) (.cons (.var 2) .nil))))) (.cons (.call 145 (.cons (.var 0) (.cons (.var 3) (.cons (.c (.int 5)) (.cons (.var 2) .nil))))) .nil))))) .nil))
def f_law_two : Fn := { ps := 3, slots := 4, dfl := [], keep := false, body := b_law_two }
/-- 159 _law_parts(_law_load_so) 1:_law_found 2:_law_much 3:_law_wider 4:_law_own 5:_law_k -/
def b_law_parts : Sms := (.cons (.asg 1 (.lst false (.cons (.tup .nil) .nil))) (.cons (.for_ (.name 2) (.e (.var 0)) (.cons (.asg 3 (.lst false .nil)) (.cons (.for_ (.name 4) (.e (.var 1)) (.cons (.asg 3 (.bin .Add (.var 3) (.comp false (.bin .Add (.var 4) (.tup (.cons (.var 5) .nil))) (.name 5) (.range1 (.bin .Add (.var 2) (.c (.int 1)))) .nil [5]))) .nil)) (.cons (.asg 1 (.var 3)) .nil)))) (.cons (.ret (.var 1)) .nil)))
def f_law_parts : Fn := { ps := 1, slots := 6, dfl := [], keep := false, body := b_law_parts }
/-- 160 _law_bars(_law_sockets_so, _law_near, _law_far, _law_load_so) 4:_law_found 5:_law_lot 6:_law_mine 7:_law_its -/
def b_law_bars : Sms := (.cons (.asg 4 (.lst true .nil)) (.cons (.for_ (.name 5) (.e (.call 156 (.cons (.var 0) .nil))) (.cons (.par [6, 7] (.cons (.call 157 (.cons (.var 1) (.cons (.var 5) .nil))) (.cons (.call 157 (.cons (.var 2) (.cons (.var 5) .nil))) .nil))) (.cons (.ife (.bop .And (.cons (.cmp .IsNot (.var 6) (.c .non)) (.cons (.cmp .IsNot (.var 7) (.c .non)) (.cons (.cmp .Gt (.call 154 (.cons (.var 0) (.cons (.var 3) (.cons (.var 5) .nil)))) (.bin .Add (.var 6) (.var 7))) .nil)))) (.cons (.exp (.meth 0 (.var 4) (.cons (.var 5) .nil))) .nil) .nil) .nil))) (.cons (.ret (.var 4)) .nil)))
def f_law_bars : Fn := { ps := 4, slots := 8, dfl := [], keep := false, body := b_law_bars }
/-- 161 net_of(one, other, load) 3:rooms 4:whole 5:side 6:house 7:some 8:bears 9:after 10:name 11:number 12:over -/
def b_net_of : Sms := (.cons .never (.cons (.for_ (.tup (.cons (.name 5) (.cons (.name 6) .nil))) (.enum (.tup (.cons (.var 0) (.cons (.var 1) .nil)))) (.cons (.seti (.var 3) (.tup (.cons (.tup (.cons (.var 5) (.cons (.tup .nil) .nil))) (.cons (.c (.tup [(.str ⟨#[111, 117, 116]⟩)])) .nil))) (.var 4)) (.cons (.for_ (.tup (.cons (.name 7) (.cons (.name 8) .nil))) (.e (.attr (.var 6) 9)) (.cons (.asg 9 (.call 148 (.cons (.var 6) (.cons (.var 7) .nil)))) (.cons (.seti (.var 3) (.tup (.cons (.tup (.cons (.var 5) (.cons (.var 7) .nil))) (.cons (.ite (.cmp .Is (.var 9) (.c .non)) (.c (.tup [(.str ⟨#[111, 117, 116]⟩)])) (.tup (.cons (.var 5) (.cons (.var 9) .nil)))) .nil))) (.var 8)) .nil))) (.cons (.for_ (.tup (.cons (.name 10) (.cons (.name 11) .nil))) (.zip (.attr (.var 6) 8) (.var 2)) (.cons (.asg 12 (.call 147 (.cons (.var 6) (.cons (.var 10) .nil)))) (.cons (.seti (.var 3) (.tup (.cons (.c (.tup [(.str ⟨#[105, 110]⟩)])) (.cons (.tup (.cons (.c (.str ⟨#[97, 116]⟩)) (.cons (.var 10) .nil))) .nil))) (.var 11)) (.cons (.seti (.var 3) (.tup (.cons (.tup (.cons (.c (.str ⟨#[97, 116]⟩)) (.cons (.var 10) .nil))) (.cons (.tup (.cons (.var 5) (.cons (.ite (.cmp .Gt (.bi 3 (.cons (.var 12) .nil)) (.c (.int 0))) (.idx (.idx (.var 12) (.c (.int 0))) (.c (.int 0))) (.tup .nil)) .nil))) .nil))) (.var 4)) .nil)))) .nil)))) (.cons (.ret (.var 3)) .nil)))
def f_net_of : Fn := { ps := 3, slots := 13, dfl := [], keep := false, body := b_net_of }
/-- 162 way_out(rooms) 1:came 2:fresh 3:later 4:here 5:there 6:steps 7:place -/
def b_way_out : Sms := (.cons .never (.cons (.whl (.cmp .Gt (.bi 3 (.cons (.var 2) .nil)) (.c (.int 0))) (.cons (.asg 3 (.lst true .nil)) (.cons (.for_ (.tup (.cons (.name 4) (.cons (.name 5) .nil))) (.e (.var 0)) (.cons (.ife (.bop .And (.cons (.cmp .In (.var 4) (.var 2)) (.cons (.cmp .NotIn (.var 5) (.var 1)) (.cons (.cmp .Gt (.idx (.var 0) (.tup (.cons (.var 4) (.cons (.var 5) .nil)))) (.c (.int 0))) .nil)))) (.cons (.seti (.var 1) (.var 5) (.var 4)) (.cons (.exp (.meth 0 (.var 3) (.cons (.var 5) .nil))) .nil)) .nil) .nil)) (.cons (.asg 2 (.var 3)) .nil)))) (.cons (.ife (.cmp .NotIn (.c (.tup [(.str ⟨#[111, 117, 116]⟩)])) (.var 1)) (.cons (.ret (.c .non)) .nil) .nil) (.cons (.par [6, 7] (.cons (.lst true .nil) (.cons (.c (.tup [(.str ⟨#[111, 117, 116]⟩)])) .nil))) (.cons (.whl (.cmp .NotEq (.var 7) (.c (.tup [(.str ⟨#[105, 110]⟩)]))) (.cons (.exp (.meth 0 (.var 6) (.cons (.tup (.cons (.idx (.var 1) (.var 7)) (.cons (.var 7) .nil))) .nil))) (.cons (.asg 7 (.idx (.var 1) (.var 7))) .nil))) (.cons (.ret (.var 6)) .nil))))))
def f_way_out : Fn := { ps := 1, slots := 8, dfl := [], keep := false, body := b_way_out }
/-- 163 parting(one, other, load) 3:rooms 4:steps 5:many 6:step 7:here 8:there 9:own 10:name 11:over 12:number -/
def b_parting : Sms := (.cons (.ife (.not (.call 64 (.cons (.var 0) (.cons (.var 1) (.cons (.var 2) .nil))))) (.cons (.ret (.c .non)) .nil) .nil) (.cons (.asg 3 (.call 161 (.cons (.var 0) (.cons (.var 1) (.cons (.var 2) .nil))))) (.cons (.asg 4 (.call 162 (.cons (.var 3) .nil))) (.cons (.whl (.cmp .IsNot (.var 4) (.c .non)) (.cons (.asg 5 (.bi 7 (.cons (.comp false (.idx (.var 3) (.var 6)) (.name 6) (.e (.var 4)) .nil [6]) .nil))) (.cons (.for_ (.tup (.cons (.name 7) (.cons (.name 8) .nil))) (.e (.var 4)) (.cons (.seti (.var 3) (.tup (.cons (.var 7) (.cons (.var 8) .nil))) (.bin .Sub (.idx (.var 3) (.tup (.cons (.var 7) (.cons (.var 8) .nil)))) (.var 5))) (.cons (.seti (.var 3) (.tup (.cons (.var 8) (.cons (.var 7) .nil))) (.bin .Add (.meth 5 (.var 3) (.cons (.tup (.cons (.var 8) (.cons (.var 7) .nil))) (.cons (.c (.int 0)) .nil))) (.var 5))) .nil))) (.cons (.asg 4 (.call 162 (.cons (.var 3) .nil))) .nil)))) (.cons (.asg 9 (.lst true .nil)) (.cons (.for_ (.name 10) (.e (.attr (.var 0) 8)) (.cons (.asg 11 (.call 147 (.cons (.var 0) (.cons (.var 10) .nil)))) (.cons (.exp (.meth 0 (.var 9) (.cons (.meth 5 (.var 3) (.cons (.tup (.cons (.tup (.cons (.c (.int 0)) (.cons (.ite (.cmp .Gt (.bi 3 (.cons (.var 11) .nil)) (.c (.int 0))) (.idx (.idx (.var 11) (.c (.int 0))) (.c (.int 0))) (.tup .nil)) .nil))) (.cons (.tup (.cons (.c (.str ⟨#[97, 116]⟩)) (.cons (.var 10) .nil))) .nil))) (.cons (.c (.int 0)) .nil))) .nil))) .nil))) (.cons (.ret (.tup (.cons (.bi 6 (.cons (.var 9) .nil)) (.cons (.bi 6 (.cons (.comp false (.bin .Sub (.var 12) (.var 5)) (.tup (.cons (.name 12) (.cons (.name 5) .nil))) (.zip (.var 2) (.var 9)) .nil [12, 5]) .nil)) .nil)))) .nil)))))))
def f_parting : Fn := { ps := 3, slots := 13, dfl := [], keep := false, body := b_parting }
/-- 164 is_part(house, thing) 2:own -/
def b_is_part : Sms := (.cons (.ife (.bop .Or (.cons (.not (.isi (.var 1) [(false, 4)])) (.cons (.cmp .NotEq (.bi 3 (.cons (.var 1) .nil)) (.bi 3 (.cons (.attr (.var 0) 8) .nil))) (.cons (.not (.bi 1 (.cons (.comp false (.call 104 (.cons (.var 2) .nil)) (.name 2) (.e (.var 1)) .nil [2]) .nil))) .nil)))) (.cons (.ret (.c (.bl false))) .nil) .nil) (.cons (.ret (.call 38 (.cons (.var 0) (.cons (.var 1) .nil)))) .nil))
def f_is_part : Fn := { ps := 2, slots := 3, dfl := [], keep := false, body := b_is_part }
/-- 165 is_parting(one, other, load, thing) 4:near 5:far 6:number -/
def b_is_parting : Sms := (.cons (.exp (.call 62 (.cons (.var 0) (.cons (.var 1) (.cons (.var 2) .nil))))) (.cons (.ife (.bop .Or (.cons (.not (.isi (.var 3) [(false, 4)])) (.cons (.cmp .NotEq (.bi 3 (.cons (.var 3) .nil)) (.c (.int 2))) (.cons (.not (.call 164 (.cons (.var 0) (.cons (.idx (.var 3) (.c (.int 0))) .nil)))) (.cons (.not (.call 164 (.cons (.var 1) (.cons (.idx (.var 3) (.c (.int 1))) .nil)))) .nil))))) (.cons (.ret (.c (.bl false))) .nil) .nil) (.cons .never .nil)))
def f_is_parting : Fn := { ps := 4, slots := 7, dfl := [], keep := false, body := b_is_parting }
/-- 166 together(one, other, some)  -/
def b_together : Sms := (.cons (.exp (.call 29 (.cons (.var 0) (.cons (.var 1) .nil)))) (.cons (.exp (.call 30 (.cons (.var 0) (.cons (.var 2) .nil)))) (.cons (.ret (.call 60 (.cons (.var 0) (.cons (.var 1) (.cons (.var 2) .nil))))) .nil)))
def f_together : Fn := { ps := 3, slots := 3, dfl := [], keep := false, body := b_together }
/-- 167 least_beside(sockets, load, bears) 3:rows 4:some 5:most 6:rest -/
def b_least_beside : Sms := (.cons .never (.cons (.ret (.bi 7 (.cons (.comp false (.bin .Add (.var 5) (.var 6)) (.tup (.cons (.name 5) (.cons (.name 6) .nil))) (.e (.var 3)) (.cons (.cmp .IsNot (.var 5) (.c .non)) .nil) [5, 6]) .nil))) .nil))
def f_least_beside : Fn := { ps := 3, slots := 7, dfl := [], keep := false, body := b_least_beside }
/-- 168 most_carried(one, other, load) 3:some -/
def b_most_carried : Sms := (.cons (.exp (.call 62 (.cons (.var 0) (.cons (.var 1) (.cons (.var 2) .nil))))) (.cons .never .nil))
def f_most_carried : Fn := { ps := 3, slots := 4, dfl := [], keep := false, body := b_most_carried }
/-- 169 room_together(one, other, load, name) 4:rooms 5:some 6:most -/
def b_room_together : Sms := (.cons (.exp (.call 62 (.cons (.var 0) (.cons (.var 1) (.cons (.var 2) .nil))))) (.cons (.exp (.call 30 (.cons (.var 0) (.cons (.tup (.cons (.var 3) .nil)) .nil)))) (.cons (.ife (.not (.call 64 (.cons (.var 0) (.cons (.var 1) (.cons (.var 2) .nil))))) (.cons (.ret (.c .non)) .nil) .nil) (.cons (.asg 4 (.lst true .nil)) (.cons (.for_ (.name 5) (.e (.call 59 (.cons (.attr (.var 0) 8) .nil))) (.cons (.asg 6 (.call 60 (.cons (.var 0) (.cons (.var 1) (.cons (.var 5) .nil))))) (.cons (.ife (.bop .And (.cons (.cmp .In (.var 3) (.var 5)) (.cons (.cmp .IsNot (.var 6) (.c .non)) .nil))) (.cons (.exp (.meth 0 (.var 4) (.cons (.bin .Sub (.var 6) (.call 22 (.cons (.var 5) (.cons (.attr (.var 0) 8) (.cons (.var 2) .nil))))) .nil))) .nil) .nil) .nil))) (.cons (.ret (.ite (.cmp .Gt (.bi 3 (.cons (.var 4) .nil)) (.c (.int 0))) (.bi 7 (.cons (.var 4) .nil)) (.c .non))) .nil))))))
def f_room_together : Fn := { ps := 4, slots := 7, dfl := [], keep := false, body := b_room_together }
/-- 170 most_on_one(one, other, load) 3:some -/
def b_most_on_one : Sms := (.cons (.ife (.not (.call 64 (.cons (.var 0) (.cons (.var 1) (.cons (.var 2) .nil))))) (.cons (.ret (.c .non)) .nil) .nil) (.cons .never .nil))
def f_most_on_one : Fn := { ps := 3, slots := 4, dfl := [], keep := false, body := b_most_on_one }
/-- 171 least_on_one(one, other, load) 3:some -/
def b_least_on_one : Sms := (.cons (.ife (.not (.call 64 (.cons (.var 0) (.cons (.var 1) (.cons (.var 2) .nil))))) (.cons (.ret (.c .non)) .nil) .nil) (.cons .never .nil))
def f_least_on_one : Fn := { ps := 3, slots := 4, dfl := [], keep := false, body := b_least_on_one }
/-- 172 compare(one, other)  -/
def b_compare : Sms := (.cons (.ife (.call 58 (.cons (.var 0) (.cons (.var 1) .nil))) (.cons (.ret (.ite (.call 58 (.cons (.var 1) (.cons (.var 0) .nil))) (.c (.str ⟨#[97, 108, 105, 107, 101]⟩)) (.c (.str ⟨#[109, 111, 114, 101]⟩)))) .nil) .nil) (.cons (.ret (.ite (.call 58 (.cons (.var 1) (.cons (.var 0) .nil))) (.c (.str ⟨#[108, 101, 115, 115]⟩)) (.c (.str ⟨#[97, 112, 97, 114, 116]⟩)))) .nil))
def f_compare : Fn := { ps := 2, slots := 2, dfl := [], keep := false, body := b_compare }
/-- 173 _law_same(_law_got, _law_due) 2:_law_mine 3:_law_its 4:_law_alike_so -/
def b_law_same_3 : Sms := (.cons (.ife (.isi (.var 1) [(false, 3), (false, 4)]) (.cons (.ife (.cmp .NotEq (.isi (.var 0) [(false, 3)]) (.isi (.var 1) [(false, 3)])) (.cons (.ret (.c (.bl false))) .nil) .nil) (.cons (.ife (.cmp .NotEq (.isi (.var 0) [(false, 4)]) (.isi (.var 1) [(false, 4)])) (.cons (.ret (.c (.bl false))) .nil) .nil) (.cons (.ret (.bop .And (.cons (.cmp .Eq (.bi 3 (.cons (.var 0) .nil)) (.bi 3 (.cons (.var 1) .nil))) (.cons (.bi 1 (.cons (.comp false (.call 173 (.cons (.var 2) (.cons (.var 3) .nil))) (.tup (.cons (.name 2) (.cons (.name 3) .nil))) (.zip (.var 0) (.var 1)) .nil [2, 3]) .nil)) .nil)))) .nil))) .nil) (.cons (.ife (.bop .Or (.cons (.cmp .Is (.var 1) (.c .non)) (.cons (.isi (.var 1) [(false, 1), (false, 2)]) .nil))) (.cons (.asg 4 (.bop .And (.cons (.cmp .Eq (.isi (.var 0) [(false, 1)]) (.isi (.var 1) [(false, 1)])) (.cons (.cmp .Eq (.cmp .Is (.var 0) (.c .non)) (.cmp .Is (.var 1) (.c .non))) .nil)))) (.cons (.ret (.bop .And (.cons (.var 4) (.cons (.cmp .Eq (.var 0) (.var 1)) .nil)))) .nil)) .nil) (.cons (.ret (.bop .And (.cons (.isi (.var 0) [(false, 0)]) (.cons (.not (.isi (.var 0) [(false, 1)])) (.cons (.cmp .Eq (.var 0) (.var 1)) .nil))))) .nil)))
def f_law_same_3 : Fn := { ps := 2, slots := 5, dfl := [], keep := false, body := b_law_same_3 }
/-- 174 _law_names(_law_box_here, _law_many_so)  -/
def b_law_names_3 : Sms := (.cons (.ret (.bi 6 (.cons (.bi 10 (.cons (.call 15 (.cons (.var 0) (.cons (.lst false (.cons (.c (.str ⟨#[108, 97, 109, 112]⟩)) (.cons (.c (.str ⟨#[111, 118, 101, 110]⟩)) (.cons (.c (.str ⟨#[116, 118]⟩)) (.cons (.c (.str ⟨#[102, 97, 110]⟩)) (.cons (.c (.str ⟨#[97]⟩)) (.cons (.c (.str ⟨#[98]⟩)) (.cons (.c (.str ⟨#[97, 98]⟩)) (.cons (.c (.str ⟨#[122, 122, 122, 122, 122, 122, 122, 122]⟩)) .nil))))))))) (.cons (.var 1) .nil)))) .nil)) .nil))) .nil)
def f_law_names_3 : Fn := { ps := 2, slots := 2, dfl := [], keep := false, body := b_law_names_3 }
/-- 175 _law_tree(_law_box_here, _law_part_so, _law_high) 3:_law_found 4:_law_mixed_so 5:_law_k 6:_law_part -/
def b_law_tree_2 : Sms := (.cons (.asg 3 (.ite (.cmp .Gt (.call 0 (.cons (.var 0) (.cons (.c (.int 3)) .nil))) (.c (.int 0))) (.lst false (.cons (.tup (.cons (.var 1) (.cons (.call 0 (.cons (.var 0) (.cons (.bin .Add (.var 2) (.c (.int 1))) .nil))) .nil))) .nil)) (.lst false .nil))) (.cons (.ife (.cmp .Gt (.bi 3 (.cons (.var 1) .nil)) (.c (.int 1))) (.cons (.par [4, 5] (.cons (.call 15 (.cons (.var 0) (.cons (.var 1) (.cons (.bi 3 (.cons (.var 1) .nil)) .nil)))) (.cons (.bin .Add (.c (.int 1)) (.call 0 (.cons (.var 0) (.cons (.bin .Sub (.bi 3 (.cons (.var 1) .nil)) (.c (.int 1))) .nil)))) .nil))) (.cons (.for_ (.name 6) (.e (.tup (.cons (.slice (.var 4) .nil (.cons (.var 5) .nil)) (.cons (.slice (.var 4) (.cons (.var 5) .nil) .nil) .nil)))) (.cons (.asg 3 (.bin .Add (.var 3) (.call 175 (.cons (.var 0) (.cons (.bi 6 (.cons (.bi 10 (.cons (.var 6) .nil)) .nil)) (.cons (.var 2) .nil)))))) .nil)) .nil)) .nil) (.cons (.ret (.var 3)) .nil)))
def f_law_tree_2 : Fn := { ps := 3, slots := 7, dfl := [], keep := false, body := b_law_tree_2 }
/-- 176 _law_home(_law_names_so, _law_fuses_so, _law_far) 3:_law_part_so 4:_law_bears_so -/
def b_law_home : Sms := (.cons .never .nil)
def f_law_home : Fn := { ps := 3, slots := 5, dfl := [], keep := false, body := b_law_home }
/-- 177 _law_behind(_law_names_so, _law_load_so, _law_part_so) 3:_law_tag 4:_law_own -/
def b_law_behind : Sms := (.cons (.ret (.bi 9 (.cons (.comp false (.var 4) (.tup (.cons (.name 3) (.cons (.name 4) .nil))) (.zip (.var 0) (.var 1)) (.cons (.cmp .In (.var 3) (.var 2)) .nil) [3, 4]) .nil))) .nil)
def f_law_behind : Fn := { ps := 3, slots := 5, dfl := [], keep := false, body := b_law_behind }
/-- 178 _law_blows(_law_names_so, _law_fuses_so, _law_load_so) 3:_law_rows_so 4:_law_own 5:_law_bears_so 6:_law_more_so -/
def b_law_blows : Sms := (.cons (.asg 3 (.comp false (.tup (.cons (.var 4) (.cons (.bin .Sub (.call 177 (.cons (.var 0) (.cons (.var 2) (.cons (.var 4) .nil)))) (.var 5)) .nil))) (.tup (.cons (.name 4) (.cons (.name 5) .nil))) (.e (.var 1)) .nil [4, 5])) (.cons (.ret (.bi 6 (.cons (.bi 10 (.cons (.comp false (.var 4) (.tup (.cons (.name 4) (.cons (.name 6) .nil))) (.e (.var 3)) (.cons (.cmp .Gt (.var 6) (.c (.int 0))) .nil) [4, 6]) .nil)) .nil))) .nil))
def f_law_blows : Fn := { ps := 3, slots := 7, dfl := [], keep := false, body := b_law_blows }
/-- 179 _law_loads(_law_tops_so) 1:_law_found 2:_law_roof_so 3:_law_later 4:_law_own 5:_law_k -/
def b_law_loads_2 : Sms := (.cons (.asg 1 (.lst false (.cons (.tup .nil) .nil))) (.cons (.for_ (.name 2) (.e (.var 0)) (.cons (.asg 3 (.lst false .nil)) (.cons (.for_ (.name 4) (.e (.var 1)) (.cons (.asg 3 (.bin .Add (.var 3) (.comp false (.bin .Add (.var 4) (.tup (.cons (.var 5) .nil))) (.name 5) (.range1 (.bin .Add (.var 2) (.c (.int 1)))) .nil [5]))) .nil)) (.cons (.asg 1 (.var 3)) .nil)))) (.cons (.ret (.var 1)) .nil)))
def f_law_loads_2 : Fn := { ps := 1, slots := 6, dfl := [], keep := false, body := b_law_loads_2 }
/-- 180 _law_two(_law_box_here, _law_high) 2:_law_names_so 3:_law_mine 4:_law_its 5:_law_part_so 6:_law_bears_so -/
def b_law_two_2 : Sms := (.cons (.asg 2 (.call 174 (.cons (.var 0) (.cons (.bin .Add (.c (.int 1)) (.call 0 (.cons (.var 0) (.cons (.c (.int 3)) .nil)))) .nil)))) (.cons (.asg 3 (.call 175 (.cons (.var 0) (.cons (.var 2) (.cons (.var 1) .nil))))) (.cons (.ife (.cmp .Eq (.call 0 (.cons (.var 0) (.cons (.c (.int 3)) .nil))) (.c (.int 0))) (.cons (.ret (.tup (.cons (.var 2) (.cons (.var 3) (.cons (.call 175 (.cons (.var 0) (.cons (.var 2) (.cons (.var 1) .nil)))) .nil))))) .nil) .nil) (.cons (.asg 4 (.comp false (.tup (.cons (.var 5) (.cons (.bi 8 (.cons (.c (.int 0)) (.cons (.bin .Add (.bin .Sub (.var 6) (.c (.int 1))) (.call 0 (.cons (.var 0) (.cons (.c (.int 3)) .nil)))) .nil))) .nil))) (.tup (.cons (.name 5) (.cons (.name 6) .nil))) (.e (.var 3)) (.cons (.cmp .Gt (.call 0 (.cons (.var 0) (.cons (.c (.int 5)) .nil))) (.c (.int 0))) .nil) [5, 6])) (.cons (.ret (.tup (.cons (.var 2) (.cons (.var 3) (.cons (.var 4) .nil))))) .nil)))))
def f_law_two_2 : Fn := { ps := 2, slots := 7, dfl := [], keep := false, body := b_law_two_2 }
/-- 181 is_load(house, thing) 2:own -/
def b_is_load : Sms := (.cons (.ret (.bop .And (.cons (.isi (.var 1) [(false, 4)]) (.cons (.cmp .Eq (.bi 3 (.cons (.var 1) .nil)) (.bi 3 (.cons (.attr (.var 0) 8) .nil))) (.cons (.bi 1 (.cons (.comp false (.call 104 (.cons (.var 2) .nil)) (.name 2) (.e (.var 1)) .nil [2]) .nil)) .nil))))) .nil)
def f_is_load : Fn := { ps := 2, slots := 3, dfl := [], keep := false, body := b_is_load }
/-- 182 load_over(other, some, bears) 3:free 4:name -/
def b_load_over : Sms := (.cons (.ife (.cmp .IsNot (.call 45 (.cons (.var 0) (.cons (.var 1) .nil))) (.c .non)) (.cons (.ret (.call 109 (.cons (.var 0) (.cons (.var 1) .nil)))) .nil) .nil) (.cons (.asg 3 (.idx (.comp false (.var 4) (.name 4) (.e (.var 1)) (.cons (.cmp .Is (.call 45 (.cons (.var 0) (.cons (.tup (.cons (.var 4) .nil)) .nil))) (.c .non)) .nil) [4]) (.c (.int 0)))) (.cons (.ret (.bi 6 (.cons (.comp false (.ite (.cmp .Eq (.var 4) (.var 3)) (.bin .Add (.var 2) (.c (.int 1))) (.c (.int 0))) (.name 4) (.e (.attr (.var 0) 8)) .nil [4]) .nil))) .nil)))
def f_load_over : Fn := { ps := 3, slots := 5, dfl := [], keep := false, body := b_load_over }
/-- 183 against(one, other) 2:some 3:bears -/
def b_against : Sms := (.cons (.exp (.call 29 (.cons (.var 0) (.cons (.var 1) .nil)))) (.cons (.for_ (.tup (.cons (.name 2) (.cons (.name 3) .nil))) (.e (.attr (.var 0) 9)) (.cons (.ife (.call 56 (.cons (.var 1) (.cons (.var 2) (.cons (.var 3) .nil)))) (.cons (.ret (.call 182 (.cons (.var 1) (.cons (.var 2) (.cons (.var 3) .nil))))) .nil) .nil) .nil)) (.cons (.ret (.c .non)) .nil)))
def f_against : Fn := { ps := 2, slots := 4, dfl := [], keep := false, body := b_against }
/-- 184 is_against(one, other, thing)  -/
def b_is_against : Sms := (.cons (.exp (.call 29 (.cons (.var 0) (.cons (.var 1) .nil)))) (.cons (.ret (.bop .And (.cons (.call 181 (.cons (.var 0) (.cons (.var 2) .nil))) (.cons (.call 38 (.cons (.var 1) (.cons (.var 2) .nil))) (.cons (.not (.call 38 (.cons (.var 0) (.cons (.var 2) .nil)))) .nil))))) .nil))
def f_is_against : Fn := { ps := 3, slots := 3, dfl := [], keep := false, body := b_is_against }
/-- 185 covers_for(one, other) 2:some 3:bears -/
def b_covers_for : Sms := (.cons (.ife (.not (.call 58 (.cons (.var 0) (.cons (.var 1) .nil)))) (.cons (.ret (.c .non)) .nil) .nil) (.cons (.ret (.bi 6 (.cons (.comp false (.tup (.cons (.var 2) (.cons (.call 105 (.cons (.var 1) (.cons (.var 2) .nil))) .nil))) (.tup (.cons (.name 2) (.cons (.name 3) .nil))) (.e (.attr (.var 0) 9)) .nil [2, 3]) .nil))) .nil))
def f_covers_for : Fn := { ps := 2, slots := 4, dfl := [], keep := false, body := b_covers_for }
/-- 186 shows(other, some, bears, fuses) 4:fuse 5:near 6:far 7:behind 8:own 9:most 10:name -/
def b_shows : Sms := (.cons (.ife (.bop .Or (.cons (.not (.isi (.var 3) [(false, 4)])) (.cons (.not (.bi 1 (.cons (.comp false (.call 106 (.cons (.var 0) (.cons (.var 4) .nil))) (.name 4) (.e (.var 3)) .nil [4]) .nil))) .nil))) (.cons (.ret (.c (.bl false))) .nil) .nil) (.cons (.ife (.not (.bi 1 (.cons (.comp false (.cmp .Lt (.var 5) (.var 6)) (.tup (.cons (.name 5) (.cons (.name 6) .nil))) (.zip (.var 3) (.slice (.var 3) (.cons (.c (.int 1)) .nil) .nil)) .nil [5, 6]) .nil))) (.cons (.ret (.c (.bl false))) .nil) .nil) (.cons .never (.cons (.ret (.bop .And (.cons (.bi 1 (.cons (.comp false (.cmp .In (.var 10) (.var 7)) (.name 10) (.e (.var 1)) .nil [10]) .nil)) (.cons (.cmp .LtE (.bi 9 (.cons (.comp false (.var 9) (.tup (.cons (.name 8) (.cons (.name 9) .nil))) (.e (.var 3)) .nil [8, 9]) .nil)) (.var 2)) .nil)))) .nil))))
def f_shows : Fn := { ps := 4, slots := 11, dfl := [], keep := false, body := b_shows }
/-- 187 is_covers_for(one, other, thing) 3:some 4:bears 5:row -/
def b_is_covers_for : Sms := (.cons (.exp (.call 29 (.cons (.var 0) (.cons (.var 1) .nil)))) (.cons (.ife (.bop .Or (.cons (.not (.isi (.var 2) [(false, 4)])) (.cons (.cmp .NotEq (.bi 3 (.cons (.var 2) .nil)) (.bi 3 (.cons (.attr (.var 0) 9) .nil))) .nil))) (.cons (.ret (.c (.bl false))) .nil) .nil) (.cons (.for_ (.tup (.cons (.tup (.cons (.name 3) (.cons (.name 4) .nil))) (.cons (.name 5) .nil))) (.zip (.attr (.var 0) 9) (.var 2)) (.cons (.ife (.bop .Or (.cons (.not (.isi (.var 5) [(false, 4)])) (.cons (.cmp .NotEq (.bi 3 (.cons (.var 5) .nil)) (.c (.int 2))) (.cons (.cmp .NotEq (.idx (.var 5) (.c (.int 0))) (.var 3)) (.cons (.not (.call 186 (.cons (.var 1) (.cons (.var 3) (.cons (.var 4) (.cons (.idx (.var 5) (.c (.int 1))) .nil)))))) .nil))))) (.cons (.ret (.c (.bl false))) .nil) .nil) .nil)) (.cons (.ret (.c (.bl true))) .nil))))
def f_is_covers_for : Fn := { ps := 3, slots := 6, dfl := [], keep := false, body := b_is_covers_for }
/-- 188 _law_bound(_law_names_so, _law_fuses_so, _law_part_so) 3:_law_best 4:_law_lots_so 5:_law_own 6:_law_bears_so 7:_law_tags 8:_law_much_so 9:_law_tag -/
def b_law_bound_3 : Sms := (.cons (.asg 3 (.c .non)) (.cons (.asg 4 (.lst false (.cons (.tup (.cons (.tup .nil) (.cons (.c (.int 0)) .nil))) .nil))) (.cons (.for_ (.tup (.cons (.name 5) (.cons (.name 6) .nil))) (.e (.var 1)) (.cons (.asg 4 (.bin .Add (.var 4) (.comp false (.tup (.cons (.bin .Add (.var 7) (.var 5)) (.cons (.bin .Add (.var 8) (.var 6)) .nil))) (.tup (.cons (.name 7) (.cons (.name 8) .nil))) (.e (.var 4)) .nil [7, 8]))) .nil)) (.cons (.for_ (.tup (.cons (.name 7) (.cons (.name 8) .nil))) (.e (.var 4)) (.cons (.ife (.bop .And (.cons (.cmp .Eq (.comp false (.var 9) (.name 9) (.e (.var 2)) (.cons (.cmp .NotIn (.var 9) (.var 7)) .nil) [9]) (.lst false .nil)) (.cons (.bop .Or (.cons (.cmp .Is (.var 3) (.c .non)) (.cons (.cmp .Lt (.var 8) (.var 3)) .nil))) .nil))) (.cons (.asg 3 (.var 8)) .nil) .nil) .nil)) (.cons (.ret (.var 3)) .nil)))))
def f_law_bound_3 : Fn := { ps := 3, slots := 10, dfl := [], keep := false, body := b_law_bound_3 }
/-- 189 divisor(one, other)  -/
def b_divisor : Sms := (.cons (.whl (.cmp .NotEq (.var 1) (.c (.int 0))) (.cons (.par [0, 1] (.cons (.var 1) (.cons (.bin .Mod (.var 0) (.var 1)) .nil))) .nil)) (.cons (.ret (.bi 0 (.cons (.var 0) .nil))) .nil))
def f_divisor : Fn := { ps := 2, slots := 2, dfl := [], keep := false, body := b_divisor }
/-- 190 fraction(top, bottom) 2:by -/
def b_fraction : Sms := (.cons (.asg 2 (.call 189 (.cons (.var 0) (.cons (.var 1) .nil)))) (.cons (.ret (.tup (.cons (.bin .FloorDiv (.var 0) (.var 2)) (.cons (.bin .FloorDiv (.var 1) (.var 2)) .nil)))) .nil))
def f_fraction : Fn := { ps := 2, slots := 3, dfl := [], keep := false, body := b_fraction }
/-- 191 most_excess(one, other) 2:rows 3:some 4:bears 5:most -/
def b_most_excess : Sms := (.cons (.exp (.call 29 (.cons (.var 0) (.cons (.var 1) .nil)))) (.cons (.asg 2 (.comp false (.tup (.cons (.call 45 (.cons (.var 1) (.cons (.var 3) .nil))) (.cons (.var 4) .nil))) (.tup (.cons (.name 3) (.cons (.name 4) .nil))) (.e (.attr (.var 0) 9)) .nil [3, 4])) (.cons (.ife (.cmp .In (.c .non) (.comp false (.var 5) (.tup (.cons (.name 5) (.cons (.name 4) .nil))) (.e (.var 2)) .nil [5, 4])) (.cons (.ret (.c .non)) .nil) .nil) (.cons (.ret (.bi 8 (.cons (.lst false (.cons (.c (.int 0)) (.star (.comp false (.bin .Sub (.var 5) (.var 4)) (.tup (.cons (.name 5) (.cons (.name 4) .nil))) (.e (.var 2)) .nil [5, 4]) .nil))) .nil))) .nil))))
def f_most_excess : Fn := { ps := 2, slots := 6, dfl := [], keep := false, body := b_most_excess }
/-- 192 least_factor(one, other) 2:found 3:some 4:bears 5:most -/
def b_least_factor : Sms := (.cons (.exp (.call 29 (.cons (.var 0) (.cons (.var 1) .nil)))) (.cons (.asg 2 (.tup (.cons (.c (.int 0)) (.cons (.c (.int 1)) .nil)))) (.cons (.for_ (.tup (.cons (.name 3) (.cons (.name 4) .nil))) (.e (.attr (.var 0) 9)) (.cons (.asg 5 (.call 45 (.cons (.var 1) (.cons (.var 3) .nil)))) (.cons (.ife (.bop .Or (.cons (.cmp .Is (.var 5) (.c .non)) (.cons (.bop .And (.cons (.cmp .Eq (.var 4) (.c (.int 0))) (.cons (.cmp .Gt (.var 5) (.c (.int 0))) .nil))) .nil))) (.cons (.ret (.c .non)) .nil) .nil) (.cons (.ife (.cmp .Gt (.bin .Mult (.var 5) (.idx (.var 2) (.c (.int 1)))) (.bin .Mult (.idx (.var 2) (.c (.int 0))) (.var 4))) (.cons (.asg 2 (.call 190 (.cons (.var 5) (.cons (.var 4) .nil)))) .nil) .nil) .nil)))) (.cons (.ret (.var 2)) .nil))))
def f_least_factor : Fn := { ps := 2, slots := 6, dfl := [], keep := false, body := b_least_factor }
/-- 193 _law_sums(_law_names_so, _law_plugs_so) 2:_law_tag 3:_law_own 4:_law_many -/
def b_law_sums : Sms := (.cons (.ret (.bi 6 (.cons (.comp false (.bi 9 (.cons (.comp false (.var 4) (.tup (.cons (.name 3) (.cons (.name 4) .nil))) (.e (.var 1)) (.cons (.cmp .Eq (.var 3) (.var 2)) .nil) [3, 4]) .nil)) (.name 2) (.e (.var 0)) .nil [2]) .nil))) .nil)
def f_law_sums : Fn := { ps := 2, slots := 5, dfl := [], keep := false, body := b_law_sums }
/-- 194 capped(house, load) 2:own 3:name 4:number -/
def b_capped : Sms := (.cons (.asg 2 (.comp false (.tup (.cons (.tup (.cons (.var 3) .nil)) (.cons (.var 4) .nil))) (.tup (.cons (.name 3) (.cons (.name 4) .nil))) (.zip (.attr (.var 0) 8) (.var 1)) .nil [3, 4])) (.cons .never .nil))
def f_capped : Fn := { ps := 2, slots := 5, dfl := [], keep := false, body := b_capped }
/-- 195 can_be_first(house, load, some) 3:own -/
def b_can_be_first : Sms := (.cons (.exp (.call 34 (.cons (.var 0) (.cons (.var 1) .nil)))) (.cons (.asg 3 (.call 21 (.cons (.var 2) .nil))) (.cons (.ife (.cmp .NotIn (.var 3) (.var 0)) (.cons (.raise 905 (.cons (.var 3) .nil) .nil [0]) .nil) .nil) (.cons (.ret (.bop .And (.cons (.cmp .Gt (.call 36 (.cons (.var 0) (.cons (.var 1) (.cons (.var 3) .nil)))) (.idx (.var 0) (.var 3))) (.cons (.cmp .Eq (.call 45 (.cons (.call 194 (.cons (.var 0) (.cons (.var 1) .nil))) (.cons (.var 3) .nil))) (.idx (.var 0) (.var 3))) .nil)))) .nil))))
def f_can_be_first : Fn := { ps := 3, slots := 4, dfl := [], keep := false, body := b_can_be_first }
/-- 196 first_ones(house, load) 2:some 3:bears -/
def b_first_ones : Sms := (.cons (.exp (.call 34 (.cons (.var 0) (.cons (.var 1) .nil)))) (.cons (.ret (.bi 6 (.cons (.comp false (.var 2) (.tup (.cons (.name 2) (.cons (.name 3) .nil))) (.e (.attr (.var 0) 9)) (.cons (.call 195 (.cons (.var 0) (.cons (.var 1) (.cons (.var 2) .nil)))) .nil) [2, 3]) .nil))) .nil))
def f_first_ones : Fn := { ps := 2, slots := 4, dfl := [], keep := false, body := b_first_ones }
/-- 197 _law_within(_law_names_so, _law_fuses_so, _law_load_so) 3:_law_own -/
def b_law_within : Sms := (.cons (.ret (.comp false (.var 3) (.name 3) (.e (.call 179 (.cons (.var 2) .nil))) (.cons (.cmp .Eq (.call 178 (.cons (.var 0) (.cons (.var 1) (.cons (.var 3) .nil)))) (.tup .nil)) .nil) [3])) .nil)
def f_law_within : Fn := { ps := 3, slots := 4, dfl := [], keep := false, body := b_law_within }
/-- 198 _law_firsts(_law_names_so, _law_fuses_so, _law_load_so) 3:_law_found 4:_law_own 5:_law_k 6:_law_part_so -/
def b_law_firsts : Sms := (.cons .never (.cons (.for_ (.name 4) (.e (.call 197 (.cons (.var 0) (.cons (.var 1) (.cons (.var 2) .nil))))) (.cons (.for_ (.name 5) (.range1 (.bi 3 (.cons (.var 0) .nil))) (.cons (.ife (.cmp .Lt (.idx (.var 4) (.var 5)) (.idx (.var 2) (.var 5))) (.cons (.for_ (.name 6) (.e (.call 178 (.cons (.var 0) (.cons (.var 1) (.cons (.bin .Add (.bin .Add (.slice (.var 4) .nil (.cons (.var 5) .nil)) (.tup (.cons (.bin .Add (.idx (.var 4) (.var 5)) (.c (.int 1))) .nil))) (.slice (.var 4) (.cons (.bin .Add (.var 5) (.c (.int 1))) .nil) .nil)) .nil))))) (.cons (.seti (.var 3) (.var 6) (.bin .Add (.meth 5 (.var 3) (.cons (.var 6) (.cons (.tup .nil) .nil))) (.tup (.cons (.bi 9 (.cons (.var 4) .nil)) .nil)))) .nil)) .nil) .nil) .nil)) .nil)) (.cons (.ret (.var 3)) .nil)))
def f_law_firsts : Fn := { ps := 3, slots := 7, dfl := [], keep := false, body := b_law_firsts }
/-- 199 _law_case(_law_box_here, _law_most_so) 2:_law_names_so 3:_law_fuses_so 4:_law_tag -/
def b_law_case : Sms := (.cons (.asg 2 (.call 174 (.cons (.var 0) (.cons (.bin .Add (.c (.int 1)) (.call 0 (.cons (.var 0) (.cons (.c (.int 3)) .nil)))) .nil)))) (.cons (.asg 3 (.call 175 (.cons (.var 0) (.cons (.var 2) (.cons (.call 2 (.cons (.var 0) (.cons (.lst false (.cons (.c (.int 2)) (.cons (.c (.int 4)) (.cons (.c (.int 6)) .nil)))) .nil))) .nil))))) (.cons (.ret (.tup (.cons (.var 2) (.cons (.var 3) (.cons (.bi 6 (.cons (.comp false (.call 0 (.cons (.var 0) (.cons (.bin .Add (.var 1) (.c (.int 1))) .nil))) (.name 4) (.e (.var 2)) .nil [4]) .nil)) .nil))))) .nil)))
def f_law_case : Fn := { ps := 2, slots := 5, dfl := [], keep := false, body := b_law_case }
/-- 200 order_for(house, load, some) 3:first 4:rest 5:name 6:many 7:mine 8:near 9:own -/
def b_order_for : Sms := (.cons (.ife (.not (.call 195 (.cons (.var 0) (.cons (.var 1) (.cons (.var 2) .nil))))) (.cons (.ret (.c .non)) .nil) .nil) (.cons (.asg 3 (.call 109 (.cons (.call 194 (.cons (.var 0) (.cons (.var 1) .nil))) (.cons (.call 21 (.cons (.var 2) .nil)) .nil)))) (.cons .never (.cons (.asg 8 (.bin .Add (.comp false (.var 9) (.name 9) (.e (.var 4)) (.cons (.cmp .In (.idx (.var 9) (.c (.int 0))) (.var 2)) .nil) [9]) (.comp false (.var 9) (.name 9) (.e (.var 4)) (.cons (.cmp .NotIn (.idx (.var 9) (.c (.int 0))) (.var 2)) .nil) [9]))) (.cons .never .nil)))))
def f_order_for : Fn := { ps := 3, slots := 10, dfl := [], keep := false, body := b_order_for }
/-- 201 is_plugs(house, thing) 2:own 3:rows 4:name 5:many -/
def b_is_plugs : Sms := (.cons (.ife (.bop .Or (.cons (.not (.isi (.var 1) [(false, 4)])) (.cons (.not (.bi 1 (.cons (.comp false (.bop .And (.cons (.isi (.var 2) [(false, 4)]) (.cons (.cmp .Eq (.bi 3 (.cons (.var 2) .nil)) (.c (.int 2))) .nil))) (.name 2) (.e (.var 1)) .nil [2]) .nil))) .nil))) (.cons (.ret (.c (.bl false))) .nil) .nil) (.cons (.asg 3 (.comp false (.bop .And (.cons (.call 4 (.cons (.var 4) .nil)) (.cons (.cmp .In (.var 4) (.attr (.var 0) 8)) (.cons (.call 103 (.cons (.var 5) .nil)) (.cons (.cmp .Gt (.var 5) (.c (.int 0))) .nil))))) (.tup (.cons (.name 4) (.cons (.name 5) .nil))) (.e (.var 1)) .nil [4, 5])) (.cons (.ret (.bi 1 (.cons (.var 3) .nil))) .nil)))
def f_is_plugs : Fn := { ps := 2, slots := 6, dfl := [], keep := false, body := b_is_plugs }
/-- 202 is_order_for(house, load, some, thing) 4:own 5:found -/
def b_is_order_for : Sms := (.cons (.exp (.call 34 (.cons (.var 0) (.cons (.var 1) .nil)))) (.cons (.asg 4 (.call 21 (.cons (.var 2) .nil))) (.cons (.ife (.cmp .NotIn (.var 4) (.var 0)) (.cons (.raise 905 (.cons (.var 4) .nil) .nil [0]) .nil) .nil) (.cons (.ife (.bop .Or (.cons (.not (.call 201 (.cons (.var 0) (.cons (.var 3) .nil)))) (.cons (.cmp .NotEq (.call 93 (.cons (.var 0) (.cons (.var 3) .nil))) (.call 21 (.cons (.var 1) .nil))) .nil))) (.cons (.ret (.c (.bl false))) .nil) .nil) (.cons (.asg 5 (.call 94 (.cons (.var 0) (.cons (.var 3) .nil)))) (.cons (.ret (.bop .And (.cons (.cmp .IsNot (.var 5) (.c .non)) (.cons (.cmp .In (.var 4) (.idx (.var 5) (.c (.int 1)))) .nil)))) .nil))))))
def f_is_order_for : Fn := { ps := 4, slots := 6, dfl := [], keep := false, body := b_is_order_for }
/-- 203 least_in(house, load) 2:found 3:some -/
def b_least_in : Sms := (.cons (.asg 2 (.comp false (.idx (.var 0) (.var 3)) (.name 3) (.e (.call 196 (.cons (.var 0) (.cons (.var 1) .nil)))) .nil [3])) (.cons (.ret (.ite (.cmp .Gt (.bi 3 (.cons (.var 2) .nil)) (.c (.int 0))) (.bi 7 (.cons (.var 2) .nil)) (.c .non))) .nil))
def f_least_in : Fn := { ps := 2, slots := 4, dfl := [], keep := false, body := b_least_in }
/-- 204 most_in(house, load)  -/
def b_most_in : Sms := (.cons (.ret (.ite (.call 38 (.cons (.var 0) (.cons (.var 1) .nil))) (.c .non) (.bi 9 (.cons (.call 205 (.cons (.var 0) (.cons (.var 1) .nil))) .nil)))) .nil)
def f_most_in : Fn := { ps := 2, slots := 2, dfl := [], keep := false, body := b_most_in }
/-- 205 kept(house, load)  -/
def b_kept : Sms := (.cons (.exp (.call 34 (.cons (.var 0) (.cons (.var 1) .nil)))) (.cons (.ret (.call 109 (.cons (.call 194 (.cons (.var 0) (.cons (.var 1) .nil))) (.cons (.attr (.var 0) 8) .nil)))) .nil))
def f_kept : Fn := { ps := 2, slots := 2, dfl := [], keep := false, body := b_kept }
/-- 206 is_kept(house, load, thing) 3:mine 4:number -/
def b_is_kept : Sms := (.cons (.exp (.call 34 (.cons (.var 0) (.cons (.var 1) .nil)))) (.cons (.ife (.bop .Or (.cons (.not (.call 181 (.cons (.var 0) (.cons (.var 2) .nil)))) (.cons (.bi 2 (.cons (.comp false (.cmp .Gt (.var 3) (.var 4)) (.tup (.cons (.name 3) (.cons (.name 4) .nil))) (.zip (.var 2) (.var 1)) .nil [3, 4]) .nil)) .nil))) (.cons (.ret (.c (.bl false))) .nil) .nil) (.cons (.ret (.bop .And (.cons (.cmp .Eq (.bi 3 (.cons (.call 37 (.cons (.var 0) (.cons (.var 2) .nil))) .nil)) (.c (.int 0))) (.cons (.cmp .Eq (.bi 9 (.cons (.var 2) .nil)) (.bi 9 (.cons (.call 205 (.cons (.var 0) (.cons (.var 1) .nil))) .nil))) .nil)))) .nil)))
def f_is_kept : Fn := { ps := 3, slots := 5, dfl := [], keep := false, body := b_is_kept }
/-- 207 fewest_out(house, load)  -/
def b_fewest_out : Sms := (.cons (.ret (.bin .Sub (.bi 9 (.cons (.var 1) .nil)) (.bi 9 (.cons (.call 205 (.cons (.var 0) (.cons (.var 1) .nil))) .nil)))) .nil)
def f_fewest_out : Fn := { ps := 2, slots := 2, dfl := [], keep := false, body := b_fewest_out }
/-- 208 needed_raises(house, load) 2:rows 3:some 4:bears 5:row -/
def b_needed_raises : Sms := (.cons (.exp (.call 34 (.cons (.var 0) (.cons (.var 1) .nil)))) (.cons (.asg 2 (.comp false (.tup (.cons (.var 3) (.cons (.bin .Sub (.call 36 (.cons (.var 0) (.cons (.var 1) (.cons (.var 3) .nil)))) (.var 4)) .nil))) (.tup (.cons (.name 3) (.cons (.name 4) .nil))) (.e (.attr (.var 0) 9)) .nil [3, 4])) (.cons (.ret (.bi 6 (.cons (.comp false (.var 5) (.name 5) (.e (.var 2)) (.cons (.cmp .Gt (.idx (.var 5) (.c (.int 1))) (.c (.int 0))) .nil) [5]) .nil))) .nil)))
def f_needed_raises : Fn := { ps := 2, slots := 6, dfl := [], keep := false, body := b_needed_raises }
/-- 209 cost_of(house, load, now, raising, leaving) 5:out 6:many 7:mine 8:price 9:more 10:some 11:bears -/
def b_cost_of : Sms := (.cons .never (.cons .never (.cons (.ret (.bin .Add (.var 5) (.bi 9 (.cons (.comp false (.bin .Mult (.meth 5 (.var 9) (.cons (.var 10) (.cons (.c (.int 0)) .nil))) (.var 8)) (.tup (.cons (.tup (.cons (.name 10) (.cons (.name 11) .nil))) (.cons (.name 8) .nil))) (.zip (.attr (.var 0) 9) (.var 3)) .nil [10, 11, 8]) .nil)))) .nil)))
def f_cost_of : Fn := { ps := 5, slots := 12, dfl := [], keep := false, body := b_cost_of }
/-- 210 best_out(house, now, raising, leaving) 4:over 5:found 6:place 7:name 8:near 9:some 10:bears 11:price 12:rows 13:saved 14:many -/
def b_best_out : Sms := (.cons .never (.cons (.asg 5 (.tup (.cons (.c (.int 0)) (.cons (.c (.int 0)) (.cons (.c (.int 0)) .nil))))) (.cons (.for_ (.tup (.cons (.name 6) (.cons (.name 7) .nil))) (.enum (.attr (.var 0) 8)) (.cons (.asg 8 (.comp false (.tup (.cons (.var 9) (.cons (.var 11) .nil))) (.tup (.cons (.tup (.cons (.name 9) (.cons (.name 10) .nil))) (.cons (.name 11) .nil))) (.zip (.attr (.var 0) 9) (.var 2)) (.cons (.cmp .In (.var 9) (.var 4)) .nil) [9, 10, 11])) (.cons (.asg 12 (.comp false (.tup (.cons (.idx (.var 4) (.var 9)) (.cons (.var 11) .nil))) (.tup (.cons (.name 9) (.cons (.name 11) .nil))) (.e (.var 8)) (.cons (.cmp .In (.var 7) (.var 9)) .nil) [9, 11])) (.cons (.asg 13 (.bin .Sub (.bi 9 (.cons (.comp false (.var 11) (.tup (.cons (.name 14) (.cons (.name 11) .nil))) (.e (.var 12)) .nil [14, 11]) .nil)) (.idx (.var 3) (.var 6)))) (.cons (.ife (.bop .And (.cons (.cmp .Gt (.idx (.var 1) (.var 6)) (.c (.int 0))) (.cons (.cmp .Gt (.var 13) (.idx (.var 5) (.c (.int 0)))) .nil))) (.cons (.asg 5 (.tup (.cons (.var 13) (.cons (.var 6) (.cons (.bi 7 (.cons (.lst false (.cons (.idx (.var 1) (.var 6)) (.star (.comp false (.var 14) (.tup (.cons (.name 14) (.cons (.name 11) .nil))) (.e (.var 12)) .nil [14, 11]) .nil))) .nil)) .nil))))) .nil) .nil) .nil))))) (.cons (.ret (.var 5)) .nil))))
def f_best_out : Fn := { ps := 4, slots := 15, dfl := [], keep := false, body := b_best_out }
/-- 211 cheapest(house, load, raising, leaving) 4:now 5:saved 6:place 7:many -/
def b_cheapest : Sms := (.cons (.exp (.call 34 (.cons (.var 0) (.cons (.var 1) .nil)))) (.cons (.asg 4 (.lstof true (.var 1))) (.cons (.unp (.tup (.cons (.name 5) (.cons (.name 6) (.cons (.name 7) .nil)))) (.call 210 (.cons (.var 0) (.cons (.var 4) (.cons (.var 2) (.cons (.var 3) .nil)))))) (.cons (.whl (.cmp .Gt (.var 5) (.c (.int 0))) (.cons .never (.cons (.unp (.tup (.cons (.name 5) (.cons (.name 6) (.cons (.name 7) .nil)))) (.call 210 (.cons (.var 0) (.cons (.var 4) (.cons (.var 2) (.cons (.var 3) .nil)))))) .nil))) (.cons (.ret (.tup (.cons (.bi 6 (.cons (.var 4) .nil)) (.cons (.call 208 (.cons (.var 0) (.cons (.var 4) .nil))) .nil)))) .nil)))))
def f_cheapest : Fn := { ps := 4, slots := 8, dfl := [], keep := false, body := b_cheapest }
/-- 212 least_cost(house, load, raising, leaving)  -/
def b_least_cost : Sms := (.cons (.ret (.call 209 (.cons (.var 0) (.cons (.var 1) (.cons (.idx (.call 211 (.cons (.var 0) (.cons (.var 1) (.cons (.var 2) (.cons (.var 3) .nil))))) (.c (.int 0))) (.cons (.var 2) (.cons (.var 3) .nil))))))) .nil)
def f_least_cost : Fn := { ps := 4, slots := 4, dfl := [], keep := false, body := b_least_cost }
/-- 213 is_raises(house, thing) 2:row 3:one 4:other -/
def b_is_raises : Sms := (.cons (.ife (.bop .Or (.cons (.not (.isi (.var 1) [(false, 4)])) (.cons (.not (.bi 1 (.cons (.comp false (.bop .And (.cons (.isi (.var 2) [(false, 4)]) (.cons (.cmp .Eq (.bi 3 (.cons (.var 2) .nil)) (.c (.int 2))) .nil))) (.name 2) (.e (.var 1)) .nil [2]) .nil))) .nil))) (.cons (.ret (.c (.bl false))) .nil) .nil) (.cons (.ife (.not (.bi 1 (.cons (.comp false (.bop .And (.cons (.isi (.idx (.var 2) (.c (.int 0))) [(false, 4)]) (.cons (.cmp .In (.idx (.var 2) (.c (.int 0))) (.var 0)) (.cons (.call 103 (.cons (.idx (.var 2) (.c (.int 1))) .nil)) (.cons (.cmp .Gt (.idx (.var 2) (.c (.int 1))) (.c (.int 0))) .nil))))) (.name 2) (.e (.var 1)) .nil [2]) .nil))) (.cons (.ret (.c (.bl false))) .nil) .nil) (.cons (.ret (.bi 1 (.cons (.comp false (.cmp .Lt (.idx (.var 3) (.c (.int 0))) (.idx (.var 4) (.c (.int 0)))) (.tup (.cons (.name 3) (.cons (.name 4) .nil))) (.zip (.var 1) (.slice (.var 1) (.cons (.c (.int 1)) .nil) .nil)) .nil [3, 4]) .nil))) .nil)))
def f_is_raises : Fn := { ps := 2, slots := 5, dfl := [], keep := false, body := b_is_raises }
/-- 214 is_cheapest(house, load, raising, leaving, thing) 5:now 6:raises 7:mine 8:many 9:prices 10:some 11:bears 12:price 13:spent 14:number -/
def b_is_cheapest : Sms := (.cons (.exp (.call 34 (.cons (.var 0) (.cons (.var 1) .nil)))) (.cons (.ife (.bop .Or (.cons (.not (.isi (.var 4) [(false, 4)])) (.cons (.cmp .NotEq (.bi 3 (.cons (.var 4) .nil)) (.c (.int 2))) (.cons (.not (.call 181 (.cons (.var 0) (.cons (.idx (.var 4) (.c (.int 0))) .nil)))) .nil)))) (.cons (.ret (.c (.bl false))) .nil) .nil) (.cons (.unp (.tup (.cons (.name 5) (.cons (.name 6) .nil))) (.var 4)) (.cons (.ife (.bop .Or (.cons (.bi 2 (.cons (.comp false (.cmp .Gt (.var 7) (.var 8)) (.tup (.cons (.name 7) (.cons (.name 8) .nil))) (.zip (.var 5) (.var 1)) .nil [7, 8]) .nil)) (.cons (.not (.call 213 (.cons (.var 0) (.cons (.var 6) .nil)))) .nil))) (.cons (.ret (.c (.bl false))) .nil) .nil) (.cons .never (.cons .never (.cons .never (.cons (.ret (.bop .And (.cons (.cmp .Eq (.bi 3 (.cons (.call 37 (.cons (.call 65 (.cons (.var 0) (.cons (.var 6) .nil))) (.cons (.var 5) .nil))) .nil)) (.c (.int 0))) (.cons (.cmp .Eq (.var 13) (.call 212 (.cons (.var 0) (.cons (.var 1) (.cons (.var 2) (.cons (.var 3) .nil)))))) .nil)))) .nil))))))))
def f_is_cheapest : Fn := { ps := 5, slots := 15, dfl := [], keep := false, body := b_is_cheapest }
/-- 215 other_bound(house, some, own, bears)  -/
def b_other_bound : Sms := (.cons (.ret (.call 45 (.cons (.call 32 (.cons (.var 0) (.cons (.var 2) (.cons (.var 3) .nil)))) (.cons (.var 1) .nil)))) .nil)
def f_other_bound : Fn := { ps := 4, slots := 4, dfl := [], keep := false, body := b_other_bound }
/-- 216 matters_more(house, some) 2:most 3:own 4:bears -/
def b_matters_more : Sms := (.cons (.exp (.call 30 (.cons (.var 0) (.cons (.var 1) .nil)))) (.cons (.asg 2 (.call 45 (.cons (.var 0) (.cons (.var 1) .nil)))) (.cons (.ret (.bi 6 (.cons (.comp false (.var 3) (.tup (.cons (.name 3) (.cons (.name 4) .nil))) (.e (.attr (.var 0) 9)) (.cons (.cmp .NotEq (.call 215 (.cons (.var 0) (.cons (.var 1) (.cons (.var 3) (.cons (.bin .Add (.var 4) (.c (.int 1))) .nil))))) (.var 2)) .nil) [3, 4]) .nil))) .nil)))
def f_matters_more : Fn := { ps := 2, slots := 5, dfl := [], keep := false, body := b_matters_more }
/-- 217 matters_less(house, some) 2:most 3:own 4:bears -/
def b_matters_less : Sms := (.cons (.exp (.call 30 (.cons (.var 0) (.cons (.var 1) .nil)))) (.cons (.asg 2 (.call 45 (.cons (.var 0) (.cons (.var 1) .nil)))) (.cons (.ret (.bi 6 (.cons (.comp false (.var 3) (.tup (.cons (.name 3) (.cons (.name 4) .nil))) (.e (.attr (.var 0) 9)) (.cons (.bop .And (.cons (.cmp .Gt (.var 4) (.c (.int 0))) (.cons (.cmp .NotEq (.call 215 (.cons (.var 0) (.cons (.var 1) (.cons (.var 3) (.cons (.bin .Sub (.var 4) (.c (.int 1))) .nil))))) (.var 2)) .nil))) .nil) [3, 4]) .nil))) .nil)))
def f_matters_less : Fn := { ps := 2, slots := 5, dfl := [], keep := false, body := b_matters_less }
/-- 218 has_full(house) 1:name 2:some 3:bears -/
def b_has_full : Sms := (.cons (.ret (.bi 1 (.cons (.comp false (.bi 2 (.cons (.comp false (.cmp .In (.var 1) (.var 2)) (.tup (.cons (.name 2) (.cons (.name 3) .nil))) (.e (.attr (.var 0) 9)) .nil [2, 3]) .nil)) (.name 1) (.e (.attr (.var 0) 8)) .nil [1]) .nil))) .nil)
def f_has_full : Fn := { ps := 1, slots := 4, dfl := [], keep := false, body := b_has_full }
/-- 219 filled(house, load)  -/
def b_filled : Sms := (.cons (.ret (.ite (.bop .And (.cons (.call 218 (.cons (.var 0) .nil)) (.cons (.call 38 (.cons (.var 0) (.cons (.var 1) .nil))) .nil))) (.call 49 (.cons (.var 0) (.cons (.var 1) (.cons (.attr (.var 0) 8) .nil)))) (.c .non))) .nil)
def f_filled : Fn := { ps := 2, slots := 2, dfl := [], keep := false, body := b_filled }
/-- 220 _law_names(_law_box_here, _law_many_so) 2:_law_rest_so 3:_law_found 4:_law_turn -/
def b_law_names_4 : Sms := (.cons (.asg 2 (.lst true (.cons (.c (.str ⟨#[97]⟩)) (.cons (.c (.str ⟨#[98]⟩)) (.cons (.c (.str ⟨#[97, 98]⟩)) (.cons (.c (.str ⟨#[98, 97]⟩)) (.cons (.c (.str ⟨#[108, 97, 109, 112]⟩)) (.cons (.c (.str ⟨#[97, 108, 108]⟩)) (.cons (.c (.str ⟨#[120]⟩)) (.cons (.c (.str ⟨#[116, 118]⟩)) (.cons (.c (.str ⟨#[122, 122]⟩)) (.cons (.c (.str ⟨#[97, 98, 99, 100, 101, 102, 103, 104]⟩)) (.cons (.c (.str ⟨#[121]⟩)) .nil))))))))))))) (.cons (.asg 3 (.lst true .nil)) (.cons (.for_ (.name 4) (.range1 (.var 1)) (.cons (.exp (.meth 0 (.var 3) (.cons (.meth 2 (.var 2) (.cons (.call 0 (.cons (.var 0) (.cons (.bi 3 (.cons (.var 2) .nil)) .nil))) .nil)) .nil))) .nil)) (.cons (.ret (.bi 6 (.cons (.var 3) .nil))) .nil))))
def f_law_names_4 : Fn := { ps := 2, slots := 5, dfl := [], keep := false, body := b_law_names_4 }
/-- 221 _law_fuses(_law_box_here, _law_names_so, _law_top_so, _law_sure_so) 4:_law_found 5:_law_edge_so 6:_law_some 7:_law_k -/
def b_law_fuses_4 : Sms := (.cons (.par [4, 5] (.cons (.lst true .nil) (.cons (.lst true (.cons (.bi 6 (.cons (.var 1) .nil)) .nil)) .nil))) (.cons (.whl (.cmp .NotEq (.var 5) (.lst false .nil)) (.cons (.asg 6 (.meth 2 (.var 5) .nil)) (.cons .never (.cons (.ife (.cmp .Gt (.bi 3 (.cons (.var 6) .nil)) (.c (.int 1))) (.cons (.asg 7 (.bin .Add (.c (.int 1)) (.call 0 (.cons (.var 0) (.cons (.bin .Sub (.bi 3 (.cons (.var 6) .nil)) (.c (.int 1))) .nil))))) (.cons (.asg 5 (.catm (.var 5) (.lst false (.cons (.slice (.var 6) .nil (.cons (.var 7) .nil)) (.cons (.slice (.var 6) (.cons (.var 7) .nil) .nil) .nil))))) .nil)) .nil) .nil)))) (.cons (.ret (.var 4)) .nil)))
def f_law_fuses_4 : Fn := { ps := 4, slots := 8, dfl := [], keep := false, body := b_law_fuses_4 }
/-- 222 _law_host(_law_names_so, _law_fuses_so)  -/
def b_law_host : Sms := (.cons .never .nil)
def f_law_host : Fn := { ps := 2, slots := 2, dfl := [], keep := false, body := b_law_host }
/-- 223 _law_sum(_law_names_so, _law_load_so, _law_some) 3:_law_tag_so 4:_law_own -/
def b_law_sum_2 : Sms := (.cons (.ret (.bi 9 (.cons (.comp false (.var 4) (.tup (.cons (.name 3) (.cons (.name 4) .nil))) (.zip (.bi 10 (.cons (.var 0) .nil)) (.var 1)) (.cons (.cmp .In (.var 3) (.var 2)) .nil) [3, 4]) .nil))) .nil)
def f_law_sum_2 : Fn := { ps := 3, slots := 5, dfl := [], keep := false, body := b_law_sum_2 }
/-- 224 _law_holds(_law_names_so, _law_fuses_so, _law_load_so) 3:_law_own -/
def b_law_holds_2 : Sms := (.cons (.ret (.cmp .Eq (.comp false (.var 3) (.name 3) (.e (.var 1)) (.cons (.cmp .Gt (.call 223 (.cons (.var 0) (.cons (.var 2) (.cons (.idx (.var 3) (.c (.int 0))) .nil)))) (.idx (.var 3) (.c (.int 1)))) .nil) [3]) (.lst false .nil))) .nil)
def f_law_holds_2 : Fn := { ps := 3, slots := 4, dfl := [], keep := false, body := b_law_holds_2 }
/-- 225 _law_held(_law_names_so, _law_fuses_so, _law_top_so) 3:_law_found 4:_law_k 5:_law_longer_so 6:_law_own 7:_law_many_so 8:_law_row_so -/
def b_law_held_2 : Sms := (.cons (.asg 3 (.lst false (.cons (.tup .nil) .nil))) (.cons (.for_ (.name 4) (.range1 (.bi 3 (.cons (.var 0) .nil))) (.cons (.asg 5 (.lst true .nil)) (.cons (.for_ (.name 6) (.e (.var 3)) (.cons (.for_ (.name 7) (.range1 (.bin .Add (.var 2) (.c (.int 1)))) (.cons (.asg 8 (.bin .Add (.var 6) (.tup (.cons (.var 7) .nil)))) (.cons (.ife (.call 224 (.cons (.var 0) (.cons (.var 1) (.cons (.bin .Add (.var 8) (.bin .Mult (.tup (.cons (.c (.int 0)) .nil)) (.bin .Sub (.bin .Sub (.bi 3 (.cons (.var 0) .nil)) (.var 4)) (.c (.int 1))))) .nil)))) (.cons (.exp (.meth 0 (.var 5) (.cons (.var 8) .nil))) .nil) .nil) .nil))) .nil)) (.cons (.asg 3 (.var 5)) .nil)))) (.cons (.ret (.var 3)) .nil)))
def f_law_held_2 : Fn := { ps := 3, slots := 9, dfl := [], keep := false, body := b_law_held_2 }
/-- 226 _law_more(_law_load_so, _law_k)  -/
def b_law_more : Sms := (.cons (.ret (.bin .Add (.bin .Add (.slice (.var 0) .nil (.cons (.var 1) .nil)) (.tup (.cons (.bin .Add (.idx (.var 0) (.var 1)) (.c (.int 1))) .nil))) (.slice (.var 0) (.cons (.bin .Add (.var 1) (.c (.int 1))) .nil) .nil))) .nil)
def f_law_more : Fn := { ps := 2, slots := 2, dfl := [], keep := false, body := b_law_more }
/-- 227 _law_is_full(_law_names_so, _law_fuses_so, _law_load_so) 3:_law_k -/
def b_law_is_full : Sms := (.cons (.ife (.not (.call 224 (.cons (.var 0) (.cons (.var 1) (.cons (.var 2) .nil))))) (.cons (.ret (.c (.bl false))) .nil) .nil) (.cons (.for_ (.name 3) (.range1 (.bi 3 (.cons (.var 2) .nil))) (.cons (.ife (.call 224 (.cons (.var 0) (.cons (.var 1) (.cons (.call 226 (.cons (.var 2) (.cons (.var 3) .nil))) .nil)))) (.cons (.ret (.c (.bl false))) .nil) .nil) .nil)) (.cons (.ret (.c (.bl true))) .nil)))
def f_law_is_full : Fn := { ps := 3, slots := 4, dfl := [], keep := false, body := b_law_is_full }
/-- 228 _law_trio()  -/
def b_law_trio : Sms := (.cons .never .nil)
def f_law_trio : Fn := { ps := 0, slots := 0, dfl := [], keep := false, body := b_law_trio }
/-- 229 lots_of(house) 1:some 2:bears -/
def b_lots_of : Sms := (.cons .never .nil)
def f_lots_of : Fn := { ps := 1, slots := 3, dfl := [], keep := false, body := b_lots_of }
/-- 230 moves(house, load, other) 3:left 4:found 5:name 6:mine 7:its 8:some 9:more 10:less 11:many -/
def b_moves : Sms := (.cons (.ife (.cmp .Is (.call 51 (.cons (.var 0) (.cons (.var 1) (.cons (.var 2) .nil)))) (.c .non)) (.cons (.ret (.c .non)) .nil) .nil) (.cons .never (.cons (.for_ (.name 8) (.e (.call 229 (.cons (.var 0) .nil))) (.cons (.par [9, 10] (.cons (.comp false (.var 5) (.name 5) (.e (.var 8)) (.cons (.cmp .Gt (.idx (.var 3) (.var 5)) (.c (.int 0))) .nil) [5]) (.cons (.comp false (.var 5) (.name 5) (.e (.var 8)) (.cons (.cmp .Lt (.idx (.var 3) (.var 5)) (.c (.int 0))) .nil) [5]) .nil))) (.cons (.whl (.bop .And (.cons (.cmp .Gt (.bi 3 (.cons (.var 9) .nil)) (.c (.int 0))) (.cons (.cmp .Gt (.bi 3 (.cons (.var 10) .nil)) (.c (.int 0))) .nil))) (.cons (.asg 11 (.bi 7 (.cons (.idx (.var 3) (.idx (.var 9) (.c (.int 0)))) (.cons (.neg (.idx (.var 3) (.idx (.var 10) (.c (.int 0))))) .nil)))) (.cons (.exp (.meth 0 (.var 4) (.cons (.tup (.cons (.idx (.var 9) (.c (.int 0))) (.cons (.idx (.var 10) (.c (.int 0))) (.cons (.var 11) .nil)))) .nil))) (.cons (.seti (.var 3) (.idx (.var 9) (.c (.int 0))) (.bin .Sub (.idx (.var 3) (.idx (.var 9) (.c (.int 0)))) (.var 11))) (.cons (.seti (.var 3) (.idx (.var 10) (.c (.int 0))) (.bin .Add (.idx (.var 3) (.idx (.var 10) (.c (.int 0)))) (.var 11))) (.cons (.par [9, 10] (.cons (.comp false (.var 5) (.name 5) (.e (.var 9)) (.cons (.cmp .Gt (.idx (.var 3) (.var 5)) (.c (.int 0))) .nil) [5]) (.cons (.comp false (.var 5) (.name 5) (.e (.var 10)) (.cons (.cmp .Lt (.idx (.var 3) (.var 5)) (.c (.int 0))) .nil) [5]) .nil))) .nil)))))) .nil))) (.cons (.ret (.bi 6 (.cons (.var 4) .nil))) .nil))))
def f_moves : Fn := { ps := 3, slots := 12, dfl := [], keep := false, body := b_moves }
/-- 231 is_move(house, thing) 2:name -/
def b_is_move : Sms := (.cons (.ife (.bop .Or (.cons (.not (.isi (.var 1) [(false, 4)])) (.cons (.cmp .NotEq (.bi 3 (.cons (.var 1) .nil)) (.c (.int 3))) (.cons (.not (.call 103 (.cons (.idx (.var 1) (.c (.int 2))) .nil))) (.cons (.cmp .Lt (.idx (.var 1) (.c (.int 2))) (.c (.int 1))) .nil))))) (.cons (.ret (.c (.bl false))) .nil) .nil) (.cons (.ret (.bop .And (.cons (.bi 1 (.cons (.comp false (.bop .And (.cons (.isi (.var 2) [(false, 2)]) (.cons (.cmp .In (.var 2) (.attr (.var 0) 8)) .nil))) (.name 2) (.e (.slice (.var 1) .nil (.cons (.c (.int 2)) .nil))) .nil [2]) .nil)) (.cons (.cmp .NotEq (.idx (.var 1) (.c (.int 0))) (.idx (.var 1) (.c (.int 1)))) .nil)))) .nil))
def f_is_move : Fn := { ps := 2, slots := 3, dfl := [], keep := false, body := b_is_move }
/-- 232 behind_move(house, load, move) 3:found 4:name -/
def b_behind_move : Sms := (.cons .never (.cons (.seti (.var 3) (.idx (.var 2) (.c (.int 0))) (.bin .Sub (.idx (.var 3) (.idx (.var 2) (.c (.int 0)))) (.idx (.var 2) (.c (.int 2))))) (.cons (.seti (.var 3) (.idx (.var 2) (.c (.int 1))) (.bin .Add (.idx (.var 3) (.idx (.var 2) (.c (.int 1)))) (.idx (.var 2) (.c (.int 2))))) (.cons (.ret (.bi 6 (.cons (.comp false (.idx (.var 3) (.var 4)) (.name 4) (.e (.attr (.var 0) 8)) .nil [4]) .nil))) .nil))))
def f_behind_move : Fn := { ps := 3, slots := 5, dfl := [], keep := false, body := b_behind_move }
/-- 233 is_moves(house, load, other, thing) 4:units 5:own 6:here 7:move -/
def b_is_moves : Sms := (.cons (.asg 4 (.call 51 (.cons (.var 0) (.cons (.var 1) (.cons (.var 2) .nil))))) (.cons (.ife (.bop .Or (.cons (.cmp .Is (.var 4) (.c .non)) (.cons (.not (.isi (.var 3) [(false, 4)])) (.cons (.not (.bi 1 (.cons (.comp false (.call 231 (.cons (.var 0) (.cons (.var 5) .nil))) (.name 5) (.e (.var 3)) .nil [5]) .nil))) .nil)))) (.cons (.ret (.c (.bl false))) .nil) .nil) (.cons (.asg 6 (.call 21 (.cons (.var 1) .nil))) (.cons (.for_ (.name 7) (.e (.var 3)) (.cons (.asg 6 (.call 232 (.cons (.var 0) (.cons (.var 6) (.cons (.var 7) .nil))))) (.cons (.ife (.bop .Or (.cons (.cmp .Lt (.bi 7 (.cons (.var 6) .nil)) (.c (.int 0))) (.cons (.not (.call 48 (.cons (.var 0) (.cons (.var 6) .nil)))) .nil))) (.cons (.ret (.c (.bl false))) .nil) .nil) .nil))) (.cons (.ret (.bop .And (.cons (.cmp .Eq (.var 6) (.call 21 (.cons (.var 2) .nil))) (.cons (.cmp .Eq (.bi 9 (.cons (.comp false (.idx (.var 7) (.c (.int 2))) (.name 7) (.e (.var 3)) .nil [7]) .nil)) (.var 4)) .nil)))) .nil)))))
def f_is_moves : Fn := { ps := 4, slots := 8, dfl := [], keep := false, body := b_is_moves }
/-- 234 _law_step(_law_names_so, _law_load_so, _law_move_so) 3:_law_found 4:_law_own -/
def b_law_step : Sms := (.cons .never (.cons (.seti (.var 3) (.idx (.var 2) (.c (.int 0))) (.bin .Sub (.idx (.var 3) (.idx (.var 2) (.c (.int 0)))) (.idx (.var 2) (.c (.int 2))))) (.cons (.seti (.var 3) (.idx (.var 2) (.c (.int 1))) (.bin .Add (.idx (.var 3) (.idx (.var 2) (.c (.int 1)))) (.idx (.var 2) (.c (.int 2))))) (.cons (.ret (.bi 6 (.cons (.comp false (.idx (.var 3) (.var 4)) (.name 4) (.e (.bi 10 (.cons (.var 0) .nil))) .nil [4]) .nil))) .nil))))
def f_law_step : Fn := { ps := 3, slots := 5, dfl := [], keep := false, body := b_law_step }
/-- 235 _law_walk(_law_names_so, _law_fuses_so, _law_load_so, _law_goal_so, _law_rows) 5:_law_here_so 6:_law_units_so 7:_law_own 8:_law_few_so 9:_law_mine 10:_law_its -/
def b_law_walk : Sms := (.cons (.par [5, 6] (.cons (.var 2) (.cons (.c (.int 0)) .nil))) (.cons (.for_ (.name 7) (.e (.var 4)) (.cons (.par [5, 6] (.cons (.call 234 (.cons (.var 0) (.cons (.var 5) (.cons (.var 7) .nil)))) (.cons (.bin .Add (.var 6) (.idx (.var 7) (.c (.int 2)))) .nil))) (.cons (.ife (.bop .Or (.cons (.cmp .Lt (.bi 7 (.cons (.var 5) .nil)) (.c (.int 0))) (.cons (.not (.call 227 (.cons (.var 0) (.cons (.var 1) (.cons (.var 5) .nil))))) .nil))) (.cons (.ret (.c (.bl false))) .nil) .nil) .nil))) (.cons (.asg 8 (.bi 9 (.cons (.comp false (.bi 8 (.cons (.c (.int 0)) (.cons (.bin .Sub (.var 9) (.var 10)) .nil))) (.tup (.cons (.name 9) (.cons (.name 10) .nil))) (.zip (.var 2) (.var 3)) .nil [9, 10]) .nil))) (.cons (.ret (.bop .And (.cons (.cmp .Eq (.var 5) (.var 3)) (.cons (.cmp .Eq (.var 6) (.var 8)) .nil)))) .nil))))
def f_law_walk : Fn := { ps := 5, slots := 11, dfl := [], keep := false, body := b_law_walk }
/-- 236 all_full(house) 1:found 2:whole 3:place 4:rest 5:wide 6:own 7:many 8:held -/
def b_all_full : Sms := (.cons (.ife (.not (.call 218 (.cons (.var 0) .nil))) (.cons (.ret (.lst false .nil)) .nil) .nil) (.cons (.par [1, 2] (.cons (.lst false (.cons (.tup .nil) .nil)) (.cons (.call 50 (.cons (.var 0) .nil)) .nil))) (.cons (.for_ (.name 3) (.range1 (.bi 3 (.cons (.attr (.var 0) 8) .nil))) (.cons (.asg 4 (.bin .Mult (.tup (.cons (.c (.int 0)) .nil)) (.bin .Sub (.bin .Sub (.bi 3 (.cons (.attr (.var 0) 8) .nil)) (.var 3)) (.c (.int 1))))) (.cons .never (.cons (.asg 8 (.comp false (.var 6) (.name 6) (.e (.var 5)) (.cons (.call 38 (.cons (.var 0) (.cons (.bin .Add (.var 6) (.var 4)) .nil))) .nil) [6])) (.cons (.asg 1 (.comp false (.var 6) (.name 6) (.e (.var 8)) (.cons (.cmp .Eq (.bi 9 (.cons (.call 49 (.cons (.var 0) (.cons (.bin .Add (.var 6) (.var 4)) (.cons (.slice (.attr (.var 0) 8) (.cons (.bin .Add (.var 3) (.c (.int 1))) .nil) .nil) .nil)))) .nil)) (.var 2)) .nil) [6])) .nil))))) (.cons (.ret (.var 1)) .nil))))
def f_all_full : Fn := { ps := 1, slots := 9, dfl := [], keep := false, body := b_all_full }
/-- 237 how_many_full(house)  -/
def b_how_many_full : Sms := (.cons (.ret (.bi 3 (.cons (.call 236 (.cons (.var 0) .nil)) .nil))) .nil)
def f_how_many_full : Fn := { ps := 1, slots := 1, dfl := [], keep := false, body := b_how_many_full }
/-- 238 nth_full(house, number) 2:found -/
def b_nth_full : Sms := (.cons (.asg 2 (.call 236 (.cons (.var 0) .nil))) (.cons (.ife (.not (.chain (.c (.int 0)) .LtE (.var 1) .Lt (.bi 3 (.cons (.var 2) .nil)))) (.cons (.raise 912 (.cons (.var 1) .nil) .nil [0]) .nil) .nil) (.cons (.ret (.idx (.var 2) (.var 1))) .nil)))
def f_nth_full : Fn := { ps := 2, slots := 3, dfl := [], keep := false, body := b_nth_full }
/-- 239 number_of_full(house, load)  -/
def b_number_of_full : Sms := (.cons .never .nil)
def f_number_of_full : Fn := { ps := 2, slots := 2, dfl := [], keep := false, body := b_number_of_full }
/-- 240 best_load(house, order)  -/
def b_best_load : Sms := (.cons (.ife (.bop .Or (.cons (.cmp .NotEq (.call 28 (.cons (.var 1) .nil)) (.attr (.var 0) 8)) (.cons (.cmp .NotEq (.bi 3 (.cons (.var 1) .nil)) (.bi 3 (.cons (.attr (.var 0) 8) .nil))) .nil))) (.cons (.raise 906 .nil .nil []) .nil) .nil) (.cons (.ret (.ite (.call 218 (.cons (.var 0) .nil)) (.call 49 (.cons (.var 0) (.cons (.bin .Mult (.tup (.cons (.c (.int 0)) .nil)) (.bi 3 (.cons (.attr (.var 0) 8) .nil))) (.cons (.var 1) .nil)))) (.c .non))) .nil))
def f_best_load : Fn := { ps := 2, slots := 2, dfl := [], keep := false, body := b_best_load }
/-- 241 is_best(house, prices, load)  -/
def b_is_best : Sms := (.cons (.ret (.bop .And (.cons (.call 38 (.cons (.var 0) (.cons (.var 2) .nil))) (.cons (.cmp .Eq (.call 54 (.cons (.var 1) (.cons (.var 2) .nil))) (.call 55 (.cons (.var 0) (.cons (.var 1) .nil)))) .nil)))) .nil)
def f_is_best : Fn := { ps := 3, slots := 3, dfl := [], keep := false, body := b_is_best }
/-- 242 _law_worth(_law_prices_so, _law_load_so) 2:_law_own 3:_law_far -/
def b_law_worth : Sms := (.cons (.ret (.bi 9 (.cons (.comp false (.bin .Mult (.var 2) (.var 3)) (.tup (.cons (.name 2) (.cons (.name 3) .nil))) (.zip (.var 0) (.var 1)) .nil [2, 3]) .nil))) .nil)
def f_law_worth : Fn := { ps := 2, slots := 4, dfl := [], keep := false, body := b_law_worth }
/-- 243 better_moves(house, prices, load) 3:rows 4:pairs 5:one 6:mine 7:many 8:other 9:its 10:much 11:pair -/
def b_better_moves : Sms := (.cons .never (.cons .never (.cons (.ret (.comp false (.var 11) (.name 11) (.e (.var 4)) (.cons (.call 38 (.cons (.var 0) (.cons (.call 232 (.cons (.var 0) (.cons (.var 2) (.cons (.tup (.star (.var 11) (.cons (.c (.int 1)) .nil))) .nil)))) .nil))) .nil) [11])) .nil)))
def f_better_moves : Fn := { ps := 3, slots := 12, dfl := [], keep := false, body := b_better_moves }
/-- 244 better_move(house, prices, load) 3:found -/
def b_better_move : Sms := (.cons (.asg 3 (.call 243 (.cons (.var 0) (.cons (.var 1) (.cons (.var 2) .nil))))) (.cons (.ret (.ite (.cmp .Gt (.bi 3 (.cons (.var 3) .nil)) (.c (.int 0))) (.idx (.var 3) (.c (.int 0))) (.c .non))) .nil))
def f_better_move : Fn := { ps := 3, slots := 4, dfl := [], keep := false, body := b_better_move }
/-- 245 is_better_move(house, prices, load, thing)  -/
def b_is_better_move : Sms := (.cons (.ret (.bop .And (.cons (.isi (.var 3) [(false, 4)]) (.cons (.cmp .In (.var 3) (.call 243 (.cons (.var 0) (.cons (.var 1) (.cons (.var 2) .nil))))) .nil)))) .nil)
def f_is_better_move : Fn := { ps := 4, slots := 4, dfl := [], keep := false, body := b_is_better_move }
/-- 246 greatest_carried(site, some)  -/
def b_greatest_carried : Sms := (.cons (.exp (.call 69 (.cons (.var 0) .nil))) (.cons (.exp (.call 30 (.cons (.idx (.var 0) (.c (.int 0))) (.cons (.var 1) .nil)))) (.cons (.ret (.call 71 (.cons (.var 0) (.cons (.var 1) .nil)))) .nil)))
def f_greatest_carried : Fn := { ps := 2, slots := 2, dfl := [], keep := false, body := b_greatest_carried }
/-- 247 _law_sets(_law_names_so) 1:_law_found 2:_law_own 3:_law_far 4:_law_many_so -/
def b_law_sets_3 : Sms := (.cons (.asg 1 (.lst false (.cons (.tup .nil) .nil))) (.cons (.for_ (.name 2) (.e (.bi 10 (.cons (.var 0) .nil))) (.cons (.asg 1 (.bin .Add (.var 1) (.comp false (.bin .Add (.var 3) (.tup (.cons (.var 2) .nil))) (.name 3) (.e (.var 1)) .nil [3]))) .nil)) (.cons (.ret (.comp false (.var 2) (.tup (.cons (.name 4) (.cons (.name 2) .nil))) (.e (.bi 10 (.cons (.comp false (.tup (.cons (.bi 3 (.cons (.var 2) .nil)) (.cons (.var 2) .nil))) (.name 2) (.e (.var 1)) .nil [2]) .nil))) .nil [4, 2])) .nil)))
def f_law_sets_3 : Fn := { ps := 1, slots := 5, dfl := [], keep := false, body := b_law_sets_3 }
/-- 248 _law_limit(_law_names_so, _law_fuses_so, _law_lot_so) 3:_law_found 4:_law_own 5:_law_near 6:_law_far 7:_law_load_so -/
def b_law_limit : Sms := (.cons .never (.cons (.for_ (.name 4) (.e (.var 2)) (.cons (.asg 5 (.comp false (.var 6) (.name 6) (.e (.var 1)) (.cons (.cmp .In (.var 4) (.idx (.var 6) (.c (.int 0)))) .nil) [6])) (.cons (.ife (.cmp .Eq (.var 5) (.lst false .nil)) (.cons (.ret (.c .non)) .nil) .nil) (.cons (.asg 7 (.comp false (.idx (.var 3) (.var 6)) (.name 6) (.e (.bi 10 (.cons (.var 0) .nil))) .nil [6])) (.cons (.seti (.var 3) (.var 4) (.bi 7 (.cons (.comp false (.bin .Sub (.idx (.var 6) (.c (.int 1))) (.call 223 (.cons (.var 0) (.cons (.var 7) (.cons (.idx (.var 6) (.c (.int 0))) .nil))))) (.name 6) (.e (.var 5)) .nil [6]) .nil))) .nil))))) (.cons .never .nil)))
def f_law_limit : Fn := { ps := 3, slots := 8, dfl := [], keep := false, body := b_law_limit }
/-- 249 _law_site(_law_box_here, _law_names_so, _law_many_so, _law_top_so) 4:_law_found 5:_law_turn 6:_law_rest_so 7:_law_order_so 8:_law_own -/
def b_law_site : Sms := (.cons (.asg 4 (.lst true .nil)) (.cons (.for_ (.name 5) (.range1 (.var 2)) (.cons (.par [6, 7] (.cons (.lstof true (.var 1)) (.cons (.lst true .nil) .nil))) (.cons (.for_ (.name 8) (.e (.var 1)) (.cons (.exp (.meth 0 (.var 7) (.cons (.meth 2 (.var 6) (.cons (.call 0 (.cons (.var 0) (.cons (.bi 3 (.cons (.var 6) .nil)) .nil))) .nil)) .nil))) .nil)) (.cons (.exp (.meth 0 (.var 4) (.cons (.call 221 (.cons (.var 0) (.cons (.var 7) (.cons (.var 3) (.cons (.cmp .Gt (.call 0 (.cons (.var 0) (.cons (.c (.int 3)) .nil))) (.c (.int 0))) .nil))))) .nil))) .nil)))) (.cons (.ret (.var 4)) .nil)))
def f_law_site : Fn := { ps := 4, slots := 9, dfl := [], keep := false, body := b_law_site }
/-- 250 _law_hosts(_law_names_so, _law_site_so) 2:_law_own -/
def b_law_hosts : Sms := (.cons (.ret (.bi 6 (.cons (.comp false (.call 222 (.cons (.var 0) (.cons (.var 2) .nil))) (.name 2) (.e (.var 1)) .nil [2]) .nil))) .nil)
def f_law_hosts : Fn := { ps := 2, slots := 3, dfl := [], keep := false, body := b_law_hosts }
/-- 251 _law_lost(_law_door) 1:_law_caught 2:error_so -/
def b_law_lost : Sms := (.cons (.asg 1 (.c .non)) (.cons (.tryk (.cons .never .nil) [(906, 2, 1)]) (.cons (.ret (.isi (.var 1) [(false, 5)])) .nil)))
def f_law_lost : Fn := { ps := 1, slots := 3, dfl := [], keep := false, body := b_law_lost }
/-- 252 least_of_both(one, other)  -/
def b_least_of_both : Sms := (.cons (.ret (.ite (.cmp .Is (.var 1) (.c .non)) (.var 0) (.bi 7 (.cons (.var 0) (.cons (.var 1) .nil))))) .nil)
def f_least_of_both : Fn := { ps := 2, slots := 2, dfl := [], keep := false, body := b_least_of_both }
/-- 253 first_share(site, load) 2:sockets 3:whole 4:tops 5:some 6:lows 7:found 8:place 9:name 10:later 11:much -/
def b_first_share : Sms := (.cons (.par [2, 3] (.cons (.attr (.idx (.var 0) (.c (.int 0))) 8) (.cons (.bi 9 (.cons (.var 1) .nil)) .nil))) (.cons .never (.cons .never (.cons (.asg 7 (.lst true .nil)) (.cons (.for_ (.tup (.cons (.name 8) (.cons (.name 9) .nil))) (.enum (.var 2)) (.cons (.asg 10 (.call 70 (.cons (.slice (.var 2) (.cons (.bin .Add (.var 8) (.c (.int 1))) .nil) .nil) .nil))) (.cons (.asg 11 (.bi 8 (.cons (.lst false (.cons (.c (.int 0)) (.star (.comp false (.bin .Sub (.idx (.var 6) (.bin .Add (.tup (.cons (.var 9) .nil)) (.var 5))) (.idx (.var 4) (.var 5))) (.name 5) (.e (.var 10)) .nil [5]) .nil))) .nil))) (.cons .never (.cons (.exp (.meth 0 (.var 7) (.cons (.var 11) .nil))) .nil))))) (.cons (.ret (.bi 6 (.cons (.var 7) .nil))) .nil))))))
def f_first_share : Fn := { ps := 2, slots := 12, dfl := [], keep := false, body := b_first_share }
/-- 254 parted(site, load) 2:left 3:found 4:place 5:mine 6:its -/
def b_parted : Sms := (.cons (.ife (.not (.call 74 (.cons (.var 0) (.cons (.var 1) .nil)))) (.cons (.ret (.c .non)) .nil) .nil) (.cons (.par [2, 3] (.cons (.call 21 (.cons (.var 1) .nil)) (.cons (.lst true .nil) .nil))) (.cons (.for_ (.name 4) (.range1 (.bin .Sub (.bi 3 (.cons (.var 0) .nil)) (.c (.int 1)))) (.cons (.exp (.meth 0 (.var 3) (.cons (.call 253 (.cons (.slice (.var 0) (.cons (.var 4) .nil) .nil) (.cons (.var 2) .nil))) .nil))) (.cons (.asg 2 (.bi 6 (.cons (.comp false (.bin .Sub (.var 5) (.var 6)) (.tup (.cons (.name 5) (.cons (.name 6) .nil))) (.zip (.var 2) (.idx (.var 3) (.neg (.c (.int 1))))) .nil [5, 6]) .nil))) .nil))) (.cons (.ret (.tup (.star (.var 3) (.cons (.var 2) .nil)))) .nil))))
def f_parted : Fn := { ps := 2, slots := 7, dfl := [], keep := false, body := b_parted }
/-- 255 is_parted(site, load, thing) 3:own 4:many 5:sums 6:place 7:house -/
def b_is_parted : Sms := (.cons (.exp (.call 69 (.cons (.var 0) .nil))) (.cons (.ife (.bop .Or (.cons (.not (.isi (.var 2) [(false, 4)])) (.cons (.cmp .NotEq (.bi 3 (.cons (.var 2) .nil)) (.bi 3 (.cons (.var 0) .nil))) .nil))) (.cons (.ret (.c (.bl false))) .nil) .nil) (.cons (.ife (.not (.bi 1 (.cons (.comp false (.bop .And (.cons (.isi (.var 3) [(false, 4)]) (.cons (.cmp .Eq (.bi 3 (.cons (.var 3) .nil)) (.bi 3 (.cons (.var 1) .nil))) .nil))) (.name 3) (.e (.var 2)) .nil [3]) .nil))) (.cons (.ret (.c (.bl false))) .nil) .nil) (.cons .never (.cons (.asg 5 (.bi 6 (.cons (.comp false (.bi 9 (.cons (.comp false (.idx (.var 3) (.var 6)) (.name 3) (.e (.var 2)) .nil [3]) .nil)) (.name 6) (.range1 (.bi 3 (.cons (.var 1) .nil))) .nil [6]) .nil))) (.cons (.ret (.bop .And (.cons (.cmp .Eq (.var 5) (.call 21 (.cons (.var 1) .nil))) (.cons (.bi 1 (.cons (.comp false (.call 38 (.cons (.var 7) (.cons (.var 3) .nil))) (.tup (.cons (.name 7) (.cons (.name 3) .nil))) (.zip (.var 0) (.var 2)) .nil [7, 3]) .nil)) .nil)))) .nil))))))
def f_is_parted : Fn := { ps := 3, slots := 8, dfl := [], keep := false, body := b_is_parted }
/-- 256 carried_without(site, places, load) 3:place -/
def b_carried_without : Sms := (.cons (.ret (.cmp .Is (.call 72 (.cons (.comp false (.idx (.var 0) (.var 3)) (.name 3) (.e (.var 1)) .nil [3]) (.cons (.attr (.idx (.var 0) (.c (.int 0))) 8) (.cons (.var 2) .nil)))) (.c .non))) .nil)
def f_carried_without : Fn := { ps := 3, slots := 4, dfl := [], keep := false, body := b_carried_without }
/-- 257 can_spare(site, load) 2:places 3:own 4:place -/
def b_can_spare : Sms := (.cons (.exp (.call 69 (.cons (.var 0) .nil))) (.cons .never (.cons (.ret (.bi 6 (.cons (.comp false (.var 3) (.name 3) (.e (.var 2)) (.cons (.call 256 (.cons (.var 0) (.cons (.comp false (.var 4) (.name 4) (.e (.var 2)) (.cons (.cmp .NotEq (.var 4) (.var 3)) .nil) [4]) (.cons (.var 1) .nil)))) .nil) [3]) .nil))) .nil)))
def f_can_spare : Fn := { ps := 2, slots := 5, dfl := [], keep := false, body := b_can_spare }
/-- 258 fewest_houses(site, load) 2:found 3:own -/
def b_fewest_houses : Sms := (.cons (.exp (.call 69 (.cons (.var 0) .nil))) (.cons .never (.cons (.ret (.ite (.cmp .Gt (.bi 3 (.cons (.var 2) .nil)) (.c (.int 0))) (.idx (.var 2) (.c (.int 0))) (.c .non))) .nil)))
def f_fewest_houses : Fn := { ps := 2, slots := 4, dfl := [], keep := false, body := b_fewest_houses }
/-- 259 sum_at(house, load, some)  -/
def b_sum_at : Sms := (.cons (.exp (.call 34 (.cons (.var 0) (.cons (.var 1) .nil)))) (.cons (.exp (.call 30 (.cons (.var 0) (.cons (.var 2) .nil)))) (.cons (.ret (.call 36 (.cons (.var 0) (.cons (.var 1) (.cons (.var 2) .nil))))) .nil)))
def f_sum_at : Fn := { ps := 3, slots := 3, dfl := [], keep := false, body := b_sum_at }
/-- 260 at_socket(house, load, name)  -/
def b_at_socket : Sms := (.cons (.ret (.call 259 (.cons (.var 0) (.cons (.var 1) (.cons (.tup (.cons (.var 2) .nil)) .nil))))) .nil)
def f_at_socket : Fn := { ps := 3, slots := 3, dfl := [], keep := false, body := b_at_socket }
/-- 261 _law_tags(_law_box_here, _law_many_so)  -/
def b_law_tags : Sms := (.cons (.ret (.bi 6 (.cons (.bi 10 (.cons (.call 15 (.cons (.var 0) (.cons (.lst false (.cons (.c (.str ⟨#[97]⟩)) (.cons (.c (.str ⟨#[97, 98]⟩)) (.cons (.c (.str ⟨#[98]⟩)) (.cons (.c (.str ⟨#[98, 97, 103]⟩)) (.cons (.c (.str ⟨#[102, 97, 110]⟩)) (.cons (.c (.str ⟨#[108, 97, 109, 112]⟩)) (.cons (.c (.str ⟨#[111, 118, 101, 110]⟩)) (.cons (.c (.str ⟨#[116, 118]⟩)) (.cons (.c (.str ⟨#[122, 122, 122, 122, 122, 122, 122, 122]⟩)) .nil)))))))))) (.cons (.var 1) .nil)))) .nil)) .nil))) .nil)
def f_law_tags : Fn := { ps := 2, slots := 2, dfl := [], keep := false, body := b_law_tags }
/-- 262 _law_fuses(_law_box_here, _law_goods_so, _law_sizes_so) 3:_law_lots 4:_law_found 5:_law_tag 6:_law_lot 7:_law_turn 8:_law_one 9:_law_two -/
def b_law_fuses_5 : Sms := (.cons (.par [3, 4] (.cons (.comp true (.tup (.cons (.var 5) .nil)) (.name 5) (.e (.var 1)) .nil [5]) (.cons (.lst true .nil) .nil))) (.cons (.for_ (.name 6) (.e (.var 3)) (.cons (.ife (.cmp .Eq (.call 0 (.cons (.var 0) (.cons (.c (.int 2)) .nil))) (.c (.int 0))) (.cons (.exp (.meth 0 (.var 4) (.cons (.tup (.cons (.var 6) (.cons (.bin .Add (.call 2 (.cons (.var 0) (.cons (.var 2) .nil))) (.call 0 (.cons (.var 0) (.cons (.c (.int 3)) .nil)))) .nil))) .nil))) .nil) .nil) .nil)) (.cons (.for_ (.name 7) (.range1 (.bi 3 (.cons (.var 1) .nil))) (.cons (.ife (.bop .And (.cons (.cmp .Gt (.bi 3 (.cons (.var 3) .nil)) (.c (.int 1))) (.cons (.cmp .Gt (.call 0 (.cons (.var 0) (.cons (.c (.int 4)) .nil))) (.c (.int 0))) .nil))) (.cons (.asg 8 (.meth 2 (.var 3) (.cons (.call 0 (.cons (.var 0) (.cons (.bi 3 (.cons (.var 3) .nil)) .nil))) .nil))) (.cons (.asg 9 (.meth 2 (.var 3) (.cons (.call 0 (.cons (.var 0) (.cons (.bi 3 (.cons (.var 3) .nil)) .nil))) .nil))) (.cons (.exp (.meth 0 (.var 3) (.cons (.bi 6 (.cons (.bi 10 (.cons (.bin .Add (.var 8) (.var 9)) .nil)) .nil)) .nil))) (.cons (.ife (.cmp .Gt (.call 0 (.cons (.var 0) (.cons (.c (.int 3)) .nil))) (.c (.int 0))) (.cons (.exp (.meth 0 (.var 4) (.cons (.tup (.cons (.idx (.var 3) (.neg (.c (.int 1)))) (.cons (.bin .Add (.call 2 (.cons (.var 0) (.cons (.var 2) .nil))) (.call 0 (.cons (.var 0) (.cons (.c (.int 3)) .nil)))) .nil))) .nil))) .nil) .nil) .nil)))) .nil) .nil)) (.cons (.ret (.bi 6 (.cons (.var 4) .nil))) .nil))))
def f_law_fuses_5 : Fn := { ps := 3, slots := 10, dfl := [], keep := false, body := b_law_fuses_5 }
/-- 263 _law_part(_law_goods_so, _law_load_so, _law_lot) 3:_law_tag 4:_law_much_so -/
def b_law_part : Sms := (.cons (.ret (.bi 9 (.cons (.comp false (.var 4) (.tup (.cons (.name 3) (.cons (.name 4) .nil))) (.zip (.var 0) (.var 1)) (.cons (.cmp .In (.var 3) (.var 2)) .nil) [3, 4]) .nil))) .nil)
def f_law_part : Fn := { ps := 3, slots := 5, dfl := [], keep := false, body := b_law_part }
/-- 264 _law_blown(_law_goods_so, _law_fuses_so, _law_load_so) 3:_law_lot 4:_law_bears_so -/
def b_law_blown : Sms := (.cons (.ret (.bi 6 (.cons (.bi 10 (.cons (.comp false (.var 3) (.tup (.cons (.name 3) (.cons (.name 4) .nil))) (.e (.var 1)) (.cons (.cmp .Gt (.call 263 (.cons (.var 0) (.cons (.var 2) (.cons (.var 3) .nil)))) (.var 4)) .nil) [3, 4]) .nil)) .nil))) .nil)
def f_law_blown : Fn := { ps := 3, slots := 5, dfl := [], keep := false, body := b_law_blown }
/-- 265 left_over(house, load) 2:some 3:bears -/
def b_left_over : Sms := (.cons (.ife (.not (.call 38 (.cons (.var 0) (.cons (.var 1) .nil)))) (.cons (.raise 908 .nil .nil []) .nil) .nil) (.cons .never .nil))
def f_left_over : Fn := { ps := 2, slots := 4, dfl := [], keep := false, body := b_left_over }
/-- 266 room(house, load, name) 3:found 4:some 5:bears -/
def b_room : Sms := (.cons (.asg 3 (.comp false (.var 5) (.tup (.cons (.name 4) (.cons (.name 5) .nil))) (.e (.call 147 (.cons (.call 265 (.cons (.var 0) (.cons (.var 1) .nil))) (.cons (.var 2) .nil)))) .nil [4, 5])) (.cons (.ret (.ite (.cmp .Gt (.bi 3 (.cons (.var 3) .nil)) (.c (.int 0))) (.bi 7 (.cons (.var 3) .nil)) (.c .non))) .nil))
def f_room : Fn := { ps := 3, slots := 6, dfl := [], keep := false, body := b_room }
/-- 267 summed(groups) 1:known 2:some 3:most -/
def b_summed_loads : Sms := (.cons (.asg 1 (.comp false (.var 3) (.tup (.cons (.name 2) (.cons (.name 3) .nil))) (.e (.var 0)) .nil [2, 3])) (.cons (.ret (.ite (.cmp .In (.c .non) (.var 1)) (.c .non) (.bi 9 (.cons (.var 1) .nil)))) .nil))
def f_summed_loads : Fn := { ps := 1, slots := 4, dfl := [], keep := false, body := b_summed_loads }
/-- 268 room_for(house, load, some) 3:left 4:groups 5:name 6:many 7:own 8:bears 9:most 10:group 11:rest -/
def b_room_for : Sms := (.cons (.asg 3 (.call 265 (.cons (.var 0) (.cons (.var 1) .nil)))) (.cons (.exp (.call 30 (.cons (.var 0) (.cons (.var 2) .nil)))) (.cons (.asg 4 (.comp false (.tup (.cons (.tup (.cons (.var 5) .nil)) (.cons (.ite (.cmp .In (.var 5) (.var 2)) (.c .non) (.c (.int 0))) .nil))) (.name 5) (.e (.attr (.var 0) 8)) .nil [5])) (.cons (.for_ (.tup (.cons (.name 6) (.cons (.name 7) (.cons (.name 8) .nil)))) (.e (.bi 10 (.cons (.comp false (.tup (.cons (.bi 3 (.cons (.var 7) .nil)) (.cons (.var 7) (.cons (.var 8) .nil)))) (.tup (.cons (.name 7) (.cons (.name 8) .nil))) (.e (.attr (.var 3) 9)) .nil [7, 8]) .nil))) (.cons (.asg 9 (.call 267 (.cons (.comp false (.var 10) (.name 10) (.e (.var 4)) (.cons (.call 24 (.cons (.idx (.var 10) (.c (.int 0))) (.cons (.var 7) .nil))) .nil) [10]) .nil))) (.cons (.asg 11 (.comp false (.var 10) (.name 10) (.e (.var 4)) (.cons (.not (.call 24 (.cons (.idx (.var 10) (.c (.int 0))) (.cons (.var 7) .nil)))) .nil) [10])) (.cons (.asg 4 (.lst false (.star (.var 11) (.cons (.tup (.cons (.var 7) (.cons (.ite (.cmp .Is (.var 9) (.c .non)) (.var 8) (.bi 7 (.cons (.var 8) (.cons (.var 9) .nil)))) .nil))) .nil)))) .nil)))) (.cons (.ret (.call 267 (.cons (.var 4) .nil))) .nil)))))
def f_room_for : Fn := { ps := 3, slots := 12, dfl := [], keep := false, body := b_room_for }
/-- 269 check_pair(one, other)  -/
def b_check_pair : Sms := (.cons (.ife (.cmp .NotEq (.bi 3 (.cons (.var 0) .nil)) (.bi 3 (.cons (.var 1) .nil))) (.cons (.raise 906 .nil .nil []) .nil) .nil) .nil)
def f_check_pair : Fn := { ps := 2, slots := 2, dfl := [], keep := false, body := b_check_pair }
/-- 270 added(one, other) 2:mine 3:its -/
def b_added : Sms := (.cons (.exp (.call 269 (.cons (.var 0) (.cons (.var 1) .nil)))) (.cons (.ret (.bi 6 (.cons (.comp false (.bin .Add (.var 2) (.var 3)) (.tup (.cons (.name 2) (.cons (.name 3) .nil))) (.zip (.var 0) (.var 1)) .nil [2, 3]) .nil))) .nil))
def f_added : Fn := { ps := 2, slots := 4, dfl := [], keep := false, body := b_added }
/-- 271 lesser(one, other) 2:mine 3:its -/
def b_lesser : Sms := (.cons (.exp (.call 269 (.cons (.var 0) (.cons (.var 1) .nil)))) (.cons (.ret (.bi 6 (.cons (.comp false (.bi 7 (.cons (.var 2) (.cons (.var 3) .nil))) (.tup (.cons (.name 2) (.cons (.name 3) .nil))) (.zip (.var 0) (.var 1)) .nil [2, 3]) .nil))) .nil))
def f_lesser : Fn := { ps := 2, slots := 4, dfl := [], keep := false, body := b_lesser }
/-- 272 is_below(one, other) 2:mine 3:its -/
def b_is_below : Sms := (.cons (.exp (.call 269 (.cons (.var 0) (.cons (.var 1) .nil)))) (.cons (.ret (.bi 1 (.cons (.comp false (.cmp .LtE (.var 2) (.var 3)) (.tup (.cons (.name 2) (.cons (.name 3) .nil))) (.zip (.var 0) (.var 1)) .nil [2, 3]) .nil))) .nil))
def f_is_below : Fn := { ps := 2, slots := 4, dfl := [], keep := false, body := b_is_below }
/-- 273 how_many_loads(house) 1:ways -/
def b_how_many_loads : Sms := (.cons (.asg 1 (.call 68 (.cons (.var 0) .nil))) (.cons (.ret (.ite (.cmp .Is (.var 1) (.c .non)) (.c .non) (.bi 9 (.cons (.var 1) .nil)))) .nil))
def f_how_many_loads : Fn := { ps := 1, slots := 2, dfl := [], keep := false, body := b_how_many_loads }
/-- 274 how_many_with(house, number) 2:ways -/
def b_how_many_with : Sms := (.cons (.asg 2 (.call 68 (.cons (.var 0) .nil))) (.cons (.ife (.cmp .Is (.var 2) (.c .non)) (.cons (.ret (.c .non)) .nil) .nil) (.cons (.ret (.ite (.chain (.c (.int 0)) .LtE (.var 1) .Lt (.bi 3 (.cons (.var 2) .nil))) (.idx (.var 2) (.var 1)) (.c (.int 0)))) .nil)))
def f_how_many_with : Fn := { ps := 2, slots := 3, dfl := [], keep := false, body := b_how_many_with }
/-- 275 _law_loads(_law_many_so, _law_top_so) 2:_law_found 3:_law_turn 4:_law_later 5:_law_own 6:_law_k -/
def b_law_loads_3 : Sms := (.cons (.asg 2 (.lst false (.cons (.tup .nil) .nil))) (.cons (.for_ (.name 3) (.range1 (.var 0)) (.cons (.asg 4 (.lst false .nil)) (.cons (.for_ (.name 5) (.e (.var 2)) (.cons (.asg 4 (.bin .Add (.var 4) (.comp false (.bin .Add (.var 5) (.tup (.cons (.var 6) .nil))) (.name 6) (.range1 (.bin .Add (.var 1) (.c (.int 1)))) .nil [6]))) .nil)) (.cons (.asg 2 (.var 4)) .nil)))) (.cons (.ret (.var 2)) .nil)))
def f_law_loads_3 : Fn := { ps := 2, slots := 7, dfl := [], keep := false, body := b_law_loads_3 }
/-- 276 least_over(house, name) 2:some 3:bears -/
def b_least_over : Sms := (.cons (.ret (.bi 7 (.cons (.comp false (.var 3) (.tup (.cons (.name 2) (.cons (.name 3) .nil))) (.e (.attr (.var 0) 9)) (.cons (.cmp .In (.var 1) (.var 2)) .nil) [2, 3]) .nil))) .nil)
def f_least_over : Fn := { ps := 2, slots := 4, dfl := [], keep := false, body := b_least_over }
/-- 277 ways_on(house, numbers) 2:head 3:rest 4:gone 5:some 6:bears 7:cut 8:name 9:fuse -/
def b_ways_on : Sms := (.cons (.par [2, 3] (.cons (.slice (.attr (.var 0) 8) .nil (.cons (.bi 3 (.cons (.var 1) .nil)) .nil)) (.cons (.slice (.attr (.var 0) 8) (.cons (.bi 3 (.cons (.var 1) .nil)) .nil) .nil) .nil))) (.cons (.asg 4 (.comp false (.tup (.cons (.var 5) (.cons (.bin .Sub (.var 6) (.call 36 (.cons (.var 0) (.cons (.var 1) (.cons (.var 5) .nil))))) .nil))) (.tup (.cons (.name 5) (.cons (.name 6) .nil))) (.e (.attr (.var 0) 9)) .nil [5, 6])) (.cons (.ife (.bi 2 (.cons (.comp false (.cmp .Lt (.var 6) (.c (.int 0))) (.tup (.cons (.name 5) (.cons (.name 6) .nil))) (.e (.var 4)) .nil [5, 6]) .nil)) (.cons (.ret (.c (.int 0))) .nil) .nil) (.cons (.ife (.cmp .Eq (.bi 3 (.cons (.var 3) .nil)) (.c (.int 0))) (.cons (.ret (.c (.int 1))) .nil) .nil) (.cons (.asg 7 (.comp false (.tup (.cons (.bi 6 (.cons (.comp false (.var 8) (.name 8) (.e (.var 5)) (.cons (.cmp .NotIn (.var 8) (.var 2)) .nil) [8]) .nil)) (.cons (.var 6) .nil))) (.tup (.cons (.name 5) (.cons (.name 6) .nil))) (.e (.var 4)) .nil [5, 6])) (.cons .never .nil))))))
def f_ways_on : Fn := { ps := 2, slots := 10, dfl := [], keep := false, body := b_ways_on }
/-- 278 nth_load(house, number) 2:whole 3:numbers 4:left 5:name 6:units 7:here -/
def b_nth_load : Sms := (.cons (.asg 2 (.call 273 (.cons (.var 0) .nil))) (.cons (.ife (.cmp .Is (.var 2) (.c .non)) (.cons (.ret (.c .non)) .nil) .nil) (.cons (.ife (.not (.chain (.c (.int 0)) .LtE (.var 1) .Lt (.var 2))) (.cons (.raise 912 (.cons (.var 1) .nil) .nil [0]) .nil) .nil) (.cons (.par [3, 4] (.cons (.lst true .nil) (.cons (.var 1) .nil))) (.cons (.for_ (.name 5) (.e (.attr (.var 0) 8)) (.cons (.for_ (.name 6) (.range1 (.bin .Add (.call 276 (.cons (.var 0) (.cons (.var 5) .nil))) (.c (.int 1)))) (.cons (.asg 7 (.call 277 (.cons (.var 0) (.cons (.lst false (.star (.var 3) (.cons (.var 6) .nil))) .nil)))) (.cons (.ife (.cmp .Lt (.var 4) (.var 7)) (.cons (.exp (.meth 0 (.var 3) (.cons (.var 6) .nil))) (.cons .brk .nil)) .nil) (.cons (.asg 4 (.bin .Sub (.var 4) (.var 7))) .nil)))) .nil)) (.cons (.ret (.bi 6 (.cons (.var 3) .nil))) .nil))))))
def f_nth_load : Fn := { ps := 2, slots := 8, dfl := [], keep := false, body := b_nth_load }
/-- 279 number_of_load(house, load) 2:found 3:row 4:place 5:units 6:less -/
def b_number_of_load : Sms := (.cons (.exp (.call 34 (.cons (.var 0) (.cons (.var 1) .nil)))) (.cons (.ife (.bop .Or (.cons (.cmp .Is (.call 68 (.cons (.var 0) .nil)) (.c .non)) (.cons (.not (.call 38 (.cons (.var 0) (.cons (.var 1) .nil)))) .nil))) (.cons (.ret (.c .non)) .nil) .nil) (.cons (.par [2, 3] (.cons (.c (.int 0)) (.cons (.lstof false (.var 1)) .nil))) (.cons (.for_ (.tup (.cons (.name 4) (.cons (.name 5) .nil))) (.enum (.var 3)) (.cons (.asg 2 (.bin .Add (.var 2) (.bi 9 (.cons (.comp false (.call 277 (.cons (.var 0) (.cons (.lst false (.star (.slice (.var 3) .nil (.cons (.var 4) .nil)) (.cons (.var 6) .nil))) .nil))) (.name 6) (.range1 (.var 5)) .nil [6]) .nil)))) .nil)) (.cons (.ret (.var 2)) .nil)))))
def f_number_of_load : Fn := { ps := 2, slots := 7, dfl := [], keep := false, body := b_number_of_load }
/-- 280 how_many_below(house, load) 2:singles 3:name 4:units -/
def b_how_many_below : Sms := (.cons (.exp (.call 34 (.cons (.var 0) (.cons (.var 1) .nil)))) (.cons (.asg 2 (.comp false (.tup (.cons (.tup (.cons (.var 3) .nil)) (.cons (.var 4) .nil))) (.tup (.cons (.name 3) (.cons (.name 4) .nil))) (.zip (.attr (.var 0) 8) (.var 1)) .nil [3, 4])) (.cons .never .nil)))
def f_how_many_below : Fn := { ps := 2, slots := 5, dfl := [], keep := false, body := b_how_many_below }
/-- 281 most_more(asker, load, place, top) 4:low 5:high 6:middle 7:tried -/
def b_most_more : Sms := (.cons (.par [4, 5] (.cons (.c (.int 0)) (.cons (.var 3) .nil))) (.cons (.whl (.cmp .Lt (.var 4) (.var 5)) (.cons (.asg 6 (.bin .FloorDiv (.bin .Add (.bin .Add (.var 4) (.var 5)) (.c (.int 1))) (.c (.int 2)))) (.cons (.asg 7 (.tup (.star (.slice (.var 1) .nil (.cons (.var 2) .nil)) (.cons (.var 6) (.star (.slice (.var 1) (.cons (.bin .Add (.var 2) (.c (.int 1))) .nil) .nil) .nil))))) (.cons .never .nil)))) (.cons (.ret (.var 4)) .nil)))
def f_most_more : Fn := { ps := 4, slots := 8, dfl := [], keep := false, body := b_most_more }
/-- 282 asked_bounds(sockets, most, asker) 3:loads 4:bounds 5:name 6:place 7:alone 8:some 9:more 10:joined 11:base -/
def b_asked_bounds : Sms := (.cons .never (.cons (.for_ (.tup (.cons (.name 6) (.cons (.name 5) .nil))) (.enum (.var 0)) (.cons (.asg 7 (.call 281 (.cons (.var 2) (.cons (.idx (.var 3) (.tup .nil)) (.cons (.var 6) (.cons (.bin .Add (.var 1) (.c (.int 1))) .nil)))))) (.cons (.for_ (.name 8) (.e (.ite (.cmp .LtE (.var 7) (.var 1)) (.lstof false (.var 3)) (.lst false .nil))) (.cons (.asg 9 (.call 281 (.cons (.var 2) (.cons (.idx (.var 3) (.var 8)) (.cons (.var 6) (.cons (.var 7) .nil)))))) (.cons (.par [10, 11] (.cons (.tup (.star (.var 8) (.cons (.var 5) .nil))) (.cons (.idx (.var 3) (.var 8)) .nil))) (.cons (.seti (.var 4) (.var 10) (.bin .Add (.idx (.var 4) (.var 8)) (.var 9))) (.cons (.seti (.var 3) (.var 10) (.tup (.star (.slice (.var 11) .nil (.cons (.var 6) .nil)) (.cons (.var 9) (.star (.slice (.var 11) (.cons (.bin .Add (.var 6) (.c (.int 1))) .nil) .nil) .nil))))) .nil))))) .nil))) (.cons (.ret (.var 4)) .nil)))
def f_asked_bounds : Fn := { ps := 3, slots := 12, dfl := [], keep := false, body := b_asked_bounds }
/-- 283 is_knot(bounds, some) 2:other 3:joined 4:rest 5:name -/
def b_is_knot : Sms := (.cons (.for_ (.name 2) (.e (.var 0)) (.cons (.asg 3 (.call 28 (.cons (.tup (.star (.var 1) (.star (.var 2) .nil))) .nil))) (.cons (.ife (.bop .And (.cons (.cmp .Eq (.bi 3 (.cons (.var 2) .nil)) (.c (.int 1))) (.cons (.cmp .NotEq (.var 3) (.var 1)) (.cons (.cmp .Eq (.idx (.var 0) (.var 3)) (.idx (.var 0) (.var 1))) .nil)))) (.cons (.ret (.c (.bl false))) .nil) .nil) (.cons (.asg 4 (.bi 6 (.cons (.comp false (.var 5) (.name 5) (.e (.var 1)) (.cons (.cmp .NotIn (.var 5) (.var 2)) .nil) [5]) .nil))) (.cons (.ife (.bop .And (.cons (.chain (.c (.int 0)) .Lt (.bi 3 (.cons (.var 2) .nil)) .Lt (.bi 3 (.cons (.var 1) .nil))) (.cons (.cmp .Eq (.var 3) (.var 1)) (.cons (.cmp .Eq (.bin .Add (.idx (.var 0) (.var 2)) (.idx (.var 0) (.var 4))) (.idx (.var 0) (.var 1))) .nil)))) (.cons (.ret (.c (.bl false))) .nil) .nil) .nil))))) (.cons (.ret (.cmp .Gt (.bi 3 (.cons (.var 1) .nil)) (.c (.int 0)))) .nil))
def f_is_knot : Fn := { ps := 2, slots := 6, dfl := [], keep := false, body := b_is_knot }
/-- 284 surveyed(sockets, most, asker) 3:names 4:bounds 5:empty 6:name 7:known 8:some 9:fuses -/
def b_surveyed : Sms := (.cons (.asg 3 (.call 28 (.cons (.var 0) .nil))) (.cons (.asg 4 (.call 282 (.cons (.var 3) (.cons (.var 1) (.cons (.var 2) .nil))))) (.cons (.asg 5 (.bi 6 (.cons (.comp false (.var 6) (.name 6) (.e (.var 3)) (.cons (.cmp .Eq (.meth 5 (.var 4) (.cons (.tup (.cons (.var 6) .nil)) (.cons (.c (.int 1)) .nil))) (.c (.int 0))) .nil) [6]) .nil))) (.cons .never (.cons (.asg 9 (.comp false (.tup (.cons (.var 8) (.cons (.idx (.var 7) (.var 8)) .nil))) (.name 8) (.e (.var 7)) (.cons (.call 283 (.cons (.var 7) (.cons (.var 8) .nil))) .nil) [8])) (.cons .never .nil))))))
def f_surveyed : Fn := { ps := 3, slots := 10, dfl := [], keep := false, body := b_surveyed }
/-- 285 _law_plain(_law_told_so) 1:_law_bit -/
def b_law_plain : Sms := (.cons (.ife (.isi (.var 0) [(true, 950)]) (.cons (.ret (.lst false (.cons (.c (.str ⟨#[104, 111, 117, 115, 101]⟩)) (.cons (.attr (.var 0) 9) .nil)))) .nil) .nil) (.cons (.ife (.isi (.var 0) [(false, 4)]) (.cons (.ret (.bi 6 (.cons (.comp false (.call 285 (.cons (.var 1) .nil)) (.name 1) (.e (.var 0)) .nil [1]) .nil))) .nil) .nil) (.cons (.ret (.ite (.isi (.var 0) [(false, 3)]) (.comp false (.call 285 (.cons (.var 1) .nil)) (.name 1) (.e (.var 0)) .nil [1]) (.var 0))) .nil)))
def f_law_plain : Fn := { ps := 1, slots := 2, dfl := [], keep := false, body := b_law_plain }
def ulist0 : List Fn := [f_law_take, f_law_cells, f_law_of, f_law_same, f_is_name, f_is_rising, f_number_in, f_set_text, f_fuse_text, f_load_text, f_set_in, f_fuse_in, f_set_from, f_fuse_from, f_load_from, f_law_pick, f_law_lists, f_law_sockets, f_law_number, f_law_nest, f_law_fuses, f_tupled, f_behind, f_lines_of, f_is_within, f_crosses, f_goes_on, f_wall, f_set_of, f_check_sockets, f_check_some, f_bare_sockets, f_with_fuse, f_without_fuse, f_check_load, f_load_of, f_part_of, f_blown, f_holds, f_is_more, f_parts_of, f_meets, f_cover_behind, f_summed, f_best_cover, f_bound, f_units_on, f_space_at, f_is_full, f_filled_by]
def ulist1 : List Fn := [f_full_sum, f_fewest_units, f_dear_first, f_a_best, f_worth_of, f_best_worth, f_is_barring, f_barring, f_holds_all, f_all_sets, f_both_bear, f_is_barred, f_check_sides, f_set_against, f_both_carry, f_strengthened, f_joined_ways, f_table, f_sums, f_check_site, f_sets_within, f_bound_of_all, f_barred_by, f_set_against_all, f_can_carry, f_loads_in, f_some_in, f_value_in, f_request_in, f_line_in, f_done_on, f_number_or_none, f_yes_or_no, f_check_numbers, f_asked_of_one, f_carried_by_all, f_asked_of_board, f_reply_to, f_answer_to, f_answers, f_subsets, f_searched, f_found_fuses, f_plugged, f_first_blown, f_law_small, f_all_bound, f_law_much, f_law_names, f_law_tree]
def ulist2 : List Fn := [f_law_fuses_2, f_law_sets, f_law_bound, f_is_number, f_is_count, f_cover, f_is_own_fuse, f_is_cover, f_room_of, f_bound_load, f_is_bound_load, f_law_holds, f_more_with, f_closed, f_fuse_of, f_borne, f_without_set, f_is_idle, f_idle_fuses, f_needed_load, f_dead_sockets, f_is_wanted, f_plain_house, f_is_plain, f_alike, f_all_sets_joins, f_both_sums, f_house_of_bounds, f_is_apart, f_as_one, f_least_sum, f_both_bound, f_both_at_once, f_law_loads, f_under_main, f_put_together, f_scaled, f_is_between, f_law_people, f_law_deck, f_law_over, f_least_longest, f_law_same_2, f_law_names_2, f_law_cross, f_law_fuses_3, f_law_least, f_fuses_over, f_next_over, f_tops_among]
def ulist3 : List Fn := [f_next_under, f_top_fuses, f_only, f_is_set_against, f_law_sum, f_law_held, f_law_sets_2, f_law_bound_2, f_law_two, f_law_parts, f_law_bars, f_net_of, f_way_out, f_parting, f_is_part, f_is_parting, f_together, f_least_beside, f_most_carried, f_room_together, f_most_on_one, f_least_on_one, f_compare, f_law_same_3, f_law_names_3, f_law_tree_2, f_law_home, f_law_behind, f_law_blows, f_law_loads_2, f_law_two_2, f_is_load, f_load_over, f_against, f_is_against, f_covers_for, f_shows, f_is_covers_for, f_law_bound_3, f_divisor, f_fraction, f_most_excess, f_least_factor, f_law_sums, f_capped, f_can_be_first, f_first_ones, f_law_within, f_law_firsts, f_law_case]
def ulist4 : List Fn := [f_order_for, f_is_plugs, f_is_order_for, f_least_in, f_most_in, f_kept, f_is_kept, f_fewest_out, f_needed_raises, f_cost_of, f_best_out, f_cheapest, f_least_cost, f_is_raises, f_is_cheapest, f_other_bound, f_matters_more, f_matters_less, f_has_full, f_filled, f_law_names_4, f_law_fuses_4, f_law_host, f_law_sum_2, f_law_holds_2, f_law_held_2, f_law_more, f_law_is_full, f_law_trio, f_lots_of, f_moves, f_is_move, f_behind_move, f_is_moves, f_law_step, f_law_walk, f_all_full, f_how_many_full, f_nth_full, f_number_of_full, f_best_load, f_is_best, f_law_worth, f_better_moves, f_better_move, f_is_better_move, f_greatest_carried, f_law_sets_3, f_law_limit, f_law_site]
def ulist5 : List Fn := [f_law_hosts, f_law_lost, f_least_of_both, f_first_share, f_parted, f_is_parted, f_carried_without, f_can_spare, f_fewest_houses, f_sum_at, f_at_socket, f_law_tags, f_law_fuses_5, f_law_part, f_law_blown, f_left_over, f_room, f_summed_loads, f_room_for, f_check_pair, f_added, f_lesser, f_is_below, f_how_many_loads, f_how_many_with, f_law_loads_3, f_least_over, f_ways_on, f_nth_load, f_number_of_load, f_how_many_below, f_most_more, f_asked_bounds, f_is_knot, f_surveyed, f_law_plain]
def ulist : List Fn := ulist0 ++ ulist1 ++ ulist2 ++ ulist3 ++ ulist4 ++ ulist5
def er_BadFuse : Hd.EC := ⟨true, [901, 900], [5], 0⟩
def er_BadText : Hd.EC := ⟨true, [902, 900], [5], 1⟩
def er_BadLine : Hd.EC := ⟨true, [903, 900], [5], 2⟩
def er_NoSocket : Hd.EC := ⟨true, [904, 900], [5], 3⟩
def er_NoFuse : Hd.EC := ⟨true, [905, 900], [5], 4⟩
def er_OtherSockets : Hd.EC := ⟨false, [906, 900], [5], 5⟩
def er_NoFit : Hd.EC := ⟨false, [907, 900], [5], 5⟩
def er_TooMuch : Hd.EC := ⟨false, [908, 900], [5], 5⟩
def er_NothingDone : Hd.EC := ⟨false, [909, 900], [5], 5⟩
def er_Known : Hd.EC := ⟨true, [910, 900], [5], 3⟩
def er_NoHouse : Hd.EC := ⟨true, [911, 900], [5], 3⟩
def er_NoNumber : Hd.EC := ⟨true, [912, 900], [5], 2⟩
def errs : List (Nat × Hd.EC) := [(901, er_BadFuse), (902, er_BadText), (903, er_BadLine), (904, er_NoSocket), (905, er_NoFuse), (906, er_OtherSockets), (907, er_NoFit), (908, er_TooMuch), (909, er_NothingDone), (910, er_Known), (911, er_NoHouse), (912, er_NoNumber)]
def atnU : Nat → Str
  | 0 => "place"
  | 1 => "piece"
  | 2 => "number"
  | 3 => "name"
  | 4 => "some"
  | 5 => "given"
  | 6 => "own_sockets"
  | 7 => "own_fuses"
  | 8 => "sockets"
  | 9 => "fuses"
  | 10 => "own_houses"
  | 11 => "own_trials"
  | 12 => "names"
  | 13 => "own_house"
  | 14 => "text"
  | 15 => "own_rows"
  | 16 => "load"
  | 17 => "own_past"
  | 18 => "house"
  | 19 => "own_first"
  | 20 => "own_holds"
  | 21 => "told"
  | 22 => "deeds"
  | 23 => "blows"
  | 24 => "trials"
  | _ => ""
/-- the shared functions stand in P -/
structure Ext (P : Prog) : Prop where
  fn : ∀ i, i < 1000 → P.fn i = ulist[i]?
  cls : P.cls = Hd.clsOf errs
end U


namespace FT
open PySem PySem.Spec PyProof.Rows
def W.sh (k : Nat) : W → W
  | .d x => .d x
  | .ref n => .ref (k + n)
def shE (k : Nat) (env : Env) : Env := env.map fun o => o.map (W.sh k)
def R.sh {α : Type} (t : S) (g : α → α) : R α → R α
  | .ok a s => .ok (g a) (t ++ s)
  | .err c vs s => .err c vs (t ++ s)
  | .stuck => .stuck
def RS.sh (t : S) : RS → RS
  | .nx env s => .nx (shE t.length env) (t ++ s)
  | .rt w s => .rt (w.sh t.length) (t ++ s)
  | .br env s => .br (shE t.length env) (t ++ s)
  | .ct env s => .ct (shE t.length env) (t ++ s)
  | .err c vs env s => .err c vs (shE t.length env) (t ++ s)
  | .stuck => .stuck
def Src.sh (k : Nat) : Src → Src
  | .val xs => .val xs
  | .cell n => .cell (k + n)
  | .enum i x => .enum i (x.sh k)
  | .zip x y => .zip (x.sh k) (y.sh k)
section
variable {t s : S} {P : Prog}
abbrev shW (t : S) (w : W) : W := w.sh t.length
abbrev shL (t : S) (ws : List W) : List W := ws.map (W.sh t.length)
theorem sh_at (n : Nat) : (t ++ s)[t.length + n]? = s[n]? := by
  rw [List.getElem?_append_right (Nat.le_add_right _ _), Nat.add_sub_cancel_left]
theorem sh_val (w : W) : val (w.sh t.length) (t ++ s) = val w s := by
  cases w with
  | d x => rfl
  | ref n => simp only [W.sh, val, sh_at]
theorem sh_seqOf (w : W) : seqOf (w.sh t.length) (t ++ s) = seqOf w s := by
  cases w with
  | d x => cases x <;> rfl
  | ref n => simp only [W.sh, seqOf, sh_at]
theorem sh_truthy (w : W) : truthy (w.sh t.length) (t ++ s) = truthy w s := by
  simp only [truthy, sh_val]
theorem sh_pures (ws : List W) : pures (ws.map (W.sh t.length)) = pures ws := by
  induction ws with
  | nil => rfl
  | cons w ws ih => cases w <;> simp [W.sh, pures, ih]
theorem binop_s (o : Operator) (x y : D) (s1 s2 : S) : binop o (.d x) (.d y) s1 = binop o (.d x) (.d y) s2 := by
  cases o <;> cases x <;> cases y <;> rfl
theorem binop_d {o : Operator} {a b w : W} {s : S} (h : binop o a b s = some w) : ∃ x, w = .d x := by
  unfold binop at h
  split at h <;> first
    | exact ⟨_, (Option.some.inj h).symm⟩
    | (split at h <;> first | exact ⟨_, (Option.some.inj h).symm⟩ | cases h | (split at h <;> first | exact ⟨_, (Option.some.inj h).symm⟩ | cases h))
    | cases h
theorem mapd {o : Option W} (h : ∀ w, o = some w → ∃ x, w = .d x) : o.map (W.sh t.length) = o := by
  cases o with
  | none => rfl
  | some w => obtain ⟨x, rfl⟩ := h w rfl; rfl
theorem sh_binop (o : Operator) (a b : W) : binop o (a.sh t.length) (b.sh t.length) (t ++ s) = binop o a b s := by
  cases a with
  | d x => cases b with
    | d y => exact binop_s o x y _ _
    | ref m => cases o <;> cases x <;> simp only [W.sh, binop, val, sh_at]
  | ref n => cases b with
    | d y => cases o <;> cases y <;> simp only [W.sh, binop, val, sh_at]
    | ref m => cases o <;> simp only [W.sh, binop, val, sh_at]
theorem sh_cmpop (o : CmpOp) (a b : W) : cmpop o (a.sh t.length) (b.sh t.length) (t ++ s) = cmpop o a b s := by
  cases o with
  | Is => cases a <;> cases b <;> first | rfl | (rename_i y; cases y <;> rfl) | (rename_i x y; cases y <;> rfl)
  | IsNot => cases a <;> cases b <;> first | rfl | (rename_i y; cases y <;> rfl) | (rename_i x y; cases y <;> rfl)
  | In => cases a with
    | d x => show cmpop .In (.d x) _ _ = _; simp only [cmpop, sh_val]
    | ref n => show cmpop .In (.ref _) _ _ = _; simp only [cmpop, sh_val]
  | NotIn => cases a with
    | d x => show cmpop .NotIn (.d x) _ _ = _; simp only [cmpop, sh_val]
    | ref n => show cmpop .NotIn (.ref _) _ _ = _; simp only [cmpop, sh_val]
  | _ => simp only [cmpop, sh_val]
theorem sh_index (o i : W) : index (o.sh t.length) (i.sh t.length) (t ++ s) = index o i s := by
  cases i with
  | ref n => rfl
  | d x =>
    show index _ (.d x) _ = _
    cases x <;> simp only [index, sh_val]
theorem sh_lenW (w : W) : lenW (w.sh t.length) (t ++ s) = lenW w s := by simp only [lenW, sh_val]
theorem sh_listOf (w : W) : listOf (w.sh t.length) (t ++ s) = listOf w s := by simp only [listOf, sh_val]
theorem sh_seqC (w : W) : seqC (w.sh t.length) (t ++ s) = seqC w s := by
  cases w with
  | d x => cases x <;> rfl
  | ref n => exact sh_seqOf (.ref n)
theorem sh_bi1 (f : Nat) (w : W) : bi1 f (w.sh t.length) (t ++ s) = bi1 f w s := by
  cases w with
  | d x =>
    show bi1 f (.d x) (t ++ s) = bi1 f (.d x) s
    unfold bi1
    simp only [listOf, lenW, val, seqC, seqOf]
    cases x <;> rfl
  | ref n =>
    have h1 := sh_listOf (t := t) (s := s) (.ref n)
    have h2 := sh_lenW (t := t) (s := s) (.ref n)
    have h3 := sh_seqC (t := t) (s := s) (.ref n)
    simp only [W.sh] at h1 h2 h3 ⊢
    unfold bi1
    simp only [h1, h2, h3]
theorem bi2_none1 (f : Nat) (w : W) (m : Nat) : bi2 f w (.ref m) = none := by
  unfold bi2; split <;> simp_all
theorem bi2_none2 (f : Nat) (w : W) (m : Nat) : bi2 f (.ref m) w = none := by
  unfold bi2; split <;> simp_all
theorem bi2_ref (f : Nat) (w z : W) : bi2 f (w.sh t.length) (z.sh t.length) = bi2 f w z := by
  cases w with
  | d x => cases z with
    | d y => rfl
    | ref m => simp only [W.sh, bi2_none1]
  | ref n => simp only [W.sh, bi2_none2]
theorem sh_builtin (f : Nat) (ws : List W) : builtin f (ws.map (W.sh t.length)) (t ++ s) = builtin f ws s := by
  match ws with
  | [] => rfl
  | [w] => exact sh_bi1 f w
  | [w, z] => exact bi2_ref f w z
  | _ :: _ :: _ :: _ => rfl
theorem sh_put (n : Nat) (c : Cell) : put (t ++ s) (t.length + n) c = t ++ put s n c := by
  unfold put
  rw [List.set_append_right _ _ (Nat.le_add_right _ _), Nat.add_sub_cancel_left]
theorem method_hi (m : Nat) (o : W) (ws : List W) (s : S) (h : m ≠ 0 ∧ m ≠ 2 ∧ m ≠ 3 ∧ m ≠ 4) : method m o ws s = none := by
  unfold method
  split <;> first | rfl | omega
theorem method_0 (o : W) (ws : List W) (s : S) : method 0 o ws s = match o, ws with
    | .ref n, [.d x] => (match s[n]? with
      | some (.lst 0 xs) => if xs.length < LIM then some (.non, put s n (.lst 0 (xs ++ [x]))) else none
      | _ => none)
    | _, _ => none := by
  cases o with
  | d x => simp [method]
  | ref n => match ws with
    | [] => simp [method]
    | [.d x] => rfl
    | [.ref x] => simp [method]
    | _ :: _ :: _ => simp [method]
theorem method_2 (o : W) (ws : List W) (s : S) : method 2 o ws s = match o, ws with
    | .ref n, [] => (match s[n]? with
      | some (.lst 0 xs) => (match xs.getLast? with
        | some y => some (y, put s n (.lst 0 xs.dropLast))
        | none => none)
      | _ => none)
    | .ref n, [.d (.int i)] => (match s[n]? with
      | some (.lst 0 xs) => if -9223372036854775808 ≤ i ∧ i < 9223372036854775808 then (match L2.ixN xs.length i with
        | some k => (match xs[k]? with
          | some y => some (y, put s n (.lst 0 (xs.eraseIdx k)))
          | none => none)
        | none => none) else none
      | _ => none)
    | _, _ => none := by
  cases o with
  | d x => simp [method]
  | ref n => match ws with
    | [] => rfl
    | [.d x] => cases x <;> first | rfl | simp [method]
    | [.ref x] => simp [method]
    | _ :: _ :: _ => simp [method]
theorem method_3 (o : W) (ws : List W) (s : S) : method 3 o ws s = match o, ws with
    | .d (.str x), [w] => (match (seqOf w s).bind strL with
      | some ys => if joinLen x ys ≤ LIM then some (.str (Str.join x ys), s) else none
      | none => none)
    | _, _ => none := by
  cases o with
  | d x => match ws with
    | [] => cases x <;> simp [method]
    | [w] => cases x <;> first | rfl | simp [method]
    | _ :: _ :: _ => cases x <;> simp [method]
  | ref n => simp [method]
theorem method_4 (o : W) (ws : List W) (s : S) : method 4 o ws s = match o, ws with
    | .d (.str x), [.d (.str y)] => if y.length ≠ 0 ∧ x.length + 2 ≤ LIM ∧ y.cps.toList.all (· < 256) = true then some (.lst ((TL.spl y.cps.toList 0 [] x.cps.toList).map fun z => .str ⟨z.toArray⟩), s) else none
    | _, _ => none := by
  cases o with
  | d x => match ws with
    | [] => cases x <;> simp [method]
    | [.d y] => cases x <;> cases y <;> first | rfl | simp [method]
    | [.ref y] => cases x <;> simp [method]
    | _ :: _ :: _ => cases x <;> simp [method]
  | ref n => simp [method]
theorem sh_method (m : Nat) (o : W) (ws : List W) : method m (o.sh t.length) (ws.map (W.sh t.length)) (t ++ s) = (method m o ws s).map fun q => (q.1, t ++ q.2) := by
  by_cases h0 : m = 0
  · subst h0
    rw [method_0, method_0]
    cases o with
    | d x => simp only [W.sh, Option.map_none]
    | ref n => match ws with
      | [] => rfl
      | [.d x] =>
        simp only [W.sh, List.map_cons, List.map_nil, sh_at, sh_put]
        split
        · split <;> rfl
        · rfl
      | [.ref x] => rfl
      | a :: b :: c => cases a <;> (try (rename_i z; cases z)) <;> simp [W.sh]
  by_cases h2 : m = 2
  · subst h2
    rw [method_2, method_2]
    cases o with
    | d x => simp only [W.sh, Option.map_none]
    | ref n => match ws with
      | [] =>
        simp only [W.sh, List.map_nil, sh_at, sh_put]
        split
        · split <;> rfl
        · rfl
      | [.d x] =>
        cases x <;> simp only [W.sh, List.map_cons, List.map_nil, sh_at, sh_put, Option.map_none]
        split
        · split
          · split
            · split <;> rfl
            · rfl
          · rfl
        · rfl
      | [.ref x] => rfl
      | a :: b :: c => cases a <;> (try (rename_i z; cases z)) <;> simp [W.sh]
  by_cases h3 : m = 3
  · subst h3
    rw [method_3, method_3]
    cases o with
    | ref n => rfl
    | d x => match ws with
      | [] => cases x <;> rfl
      | [w] =>
        cases x <;> simp only [W.sh, List.map_cons, List.map_nil, Option.map_none]
        have h1 := sh_seqOf (t := t) (s := s) w
        simp only [W.sh] at h1
        simp only [h1]
        split
        · split <;> rfl
        · rfl
      | a :: b :: c => cases x <;> cases a <;> (try (rename_i z; cases z)) <;> simp [W.sh]
  by_cases h4 : m = 4
  · subst h4
    rw [method_4, method_4]
    cases o with
    | ref n => rfl
    | d x => match ws with
      | [] => cases x <;> rfl
      | [.d y] =>
        cases x <;> cases y <;> simp only [W.sh, List.map_cons, List.map_nil, Option.map_none]
        split <;> rfl
      | [.ref y] => cases x <;> rfl
      | a :: b :: c => cases x <;> cases a <;> (try (rename_i z; cases z)) <;> simp [W.sh]
  rw [method_hi m _ _ _ ⟨h0, h2, h3, h4⟩, method_hi m _ _ _ ⟨h0, h2, h3, h4⟩]
  rfl
theorem sh_get : ∀ (x : Src), (x.sh t.length).get (t ++ s) = x.get s
  | .val xs => rfl
  | .cell n => by simp only [Src.sh, Src.get, sh_at]
  | .enum i x => by simp only [Src.sh, Src.get, sh_get x]
  | .zip x y => by simp only [Src.sh, Src.get, sh_get x, sh_get y]
theorem sh_srcL (w : W) : srcL (w.sh t.length) (t ++ s) = (srcL w s).map (Src.sh t.length) := by
  cases w with
  | d x => cases x <;> rfl
  | ref n => simp only [W.sh, srcL, sh_at]; split <;> rfl
theorem sh_srcT (w : W) : srcT (w.sh t.length) = (srcT w).map (Src.sh t.length) := by
  cases w with
  | d x => cases x <;> rfl
  | ref n => rfl
theorem sh_srcZ (a b : W) : srcZ (a.sh t.length) (b.sh t.length) (t ++ s) = (srcZ a b s).map (Src.sh t.length) := by
  simp only [srcZ, sh_srcL, sh_srcT]
  cases srcL a s <;> cases srcL b s <;> cases srcT a <;> cases srcT b <;> rfl
theorem sh_srcOfE (w : W) : srcOfE (w.sh t.length) (t ++ s) = (srcOfE w s).map (Src.sh t.length) := by
  cases w with
  | d x => cases x <;> rfl
  | ref n => exact sh_srcL (.ref n)
theorem shE_set (env : Env) (i : Nat) (w : W) : (shE t.length env).set i (some (w.sh t.length)) = shE t.length (env.set i (some w)) := by
  unfold shE; rw [List.map_set]; rfl
theorem shE_unset (env : Env) (i : Nat) : (shE t.length env).set i none = shE t.length (env.set i none) := by
  unfold shE; rw [List.map_set]; rfl
theorem sh_wipe (env : Env) : ∀ own : List Nat, wipeE (shE t.length env) own = shE t.length (wipeE env own)
  | [] => rfl
  | v :: vs => by rw [wipeE, wipeE, sh_wipe env vs, shE_unset]
mutual
theorem sh_asgT : ∀ (tg : T) (x : D) (env : Env), asgT tg x (shE t.length env) = (asgT tg x env).map (shE t.length)
  | .name i, x, env => by simp only [asgT, Option.map_some]; rw [← shE_set]; rfl
  | .tup ts, x, env => by cases x <;> simp only [asgT, Option.map_none] <;> exact sh_asgTs ts _ env
theorem sh_asgTs : ∀ (ts : Ts) (xs : List D) (env : Env), asgTs ts xs (shE t.length env) = (asgTs ts xs env).map (shE t.length)
  | .nil, [], env => rfl
  | .nil, _ :: _, env => rfl
  | .cons _ _, [], env => rfl
  | .cons tg ts, x :: xs, env => by
    simp only [asgTs, sh_asgT tg x env]
    cases asgT tg x env with
    | none => rfl
    | some e => simp only [Option.map_some, Option.bind_some]; exact sh_asgTs ts xs e
end
theorem R.sh_bind {α β : Type} (g : α → α) (g' : β → β) (r : R α) (f f' : α → S → R β) (h : ∀ a s, f' (g a) (t ++ s) = (f a s).sh t g') : (r.sh t g).bind f' = (r.bind f).sh t g' := by
  cases r with
  | ok a s => exact h a s
  | err => rfl
  | stuck => rfl
theorem R.sh_calm {α : Type} (g : α → α) (r : R α) : (r.sh t g).calm = r.calm.sh t g := by cases r <;> rfl
theorem R.sh_then {α : Type} (g : α → α) (r : R α) (env : Env) (f f' : α → S → RS) (h : ∀ a s, f' (g a) (t ++ s) = (f a s).sh t) : (r.sh t g).then (shE t.length env) f' = (r.then env f).sh t := by
  cases r with
  | ok a s => exact h a s
  | err => rfl
  | stuck => rfl
theorem RS.sh_seq (r : RS) (f f' : Env → S → RS) (h : ∀ env s, f' (shE t.length env) (t ++ s) = (f env s).sh t) : (r.sh t).seq f' = (r.seq f).sh t := by
  cases r with
  | nx env s => exact h env s
  | _ => rfl
theorem R.sh_of {α : Type} (g : α → α) (o : Option α) : R.of (o.map g) (t ++ s) = (R.of o s).sh t g := by cases o <;> rfl
theorem R.sh_of_id {α : Type} (o : Option α) : R.of o (t ++ s) = (R.of o s).sh t id := by cases o <;> rfl
theorem R.sh_ofD (o : Option D) : R.of (o.map W.d) (t ++ s) = (R.of (o.map W.d) s).sh t (W.sh t.length) := by cases o <;> rfl
theorem sh_compGo (x : Src) (f f' : D → S → R (Option D)) (h : ∀ d s, f' d (t ++ s) = (f d s).sh t id) : ∀ (n i : Nat) (s : S), compGo (x.sh t.length) f' n i (t ++ s) = (compGo x f n i s).sh t id
  | 0, i, s => rfl
  | n + 1, i, s => by
    simp only [compGo, sh_get]
    cases x.get s with
    | none => rfl
    | some ds =>
      simp only
      cases ds[i]? with
      | none => rfl
      | some d =>
        simp only
        rw [h]
        refine R.sh_bind id id _ _ _ fun y s => ?_
        rw [sh_compGo x f f' h n (i + 1) s]
        exact R.sh_bind id id _ _ _ fun ys s => rfl
theorem sh_forGo (x : Src) (f f' : D → Env → S → RS) (h : ∀ d env s, f' d (shE t.length env) (t ++ s) = (f d env s).sh t) : ∀ (n i : Nat) (env : Env) (s : S), forGo (x.sh t.length) f' n i (shE t.length env) (t ++ s) = (forGo x f n i env s).sh t
  | 0, i, env, s => rfl
  | n + 1, i, env, s => by
    simp only [forGo, sh_get]
    cases x.get s with
    | none => rfl
    | some ds =>
      simp only
      cases ds[i]? with
      | none => rfl
      | some d =>
        simp only
        rw [h]
        cases f d env s with
        | nx env s => exact sh_forGo x f f' h n (i + 1) env s
        | ct env s => exact sh_forGo x f f' h n (i + 1) env s
        | br env s => rfl
        | rt w s => rfl
        | err c vs env s => rfl
        | stuck => rfl
theorem sh_whileGo (c c' : Env → S → R Bool) (f f' : Env → S → RS) (hc : ∀ env s, c' (shE t.length env) (t ++ s) = (c env s).sh t id) (h : ∀ env s, f' (shE t.length env) (t ++ s) = (f env s).sh t) : ∀ (n : Nat) (env : Env) (s : S), whileGo n c' f' (shE t.length env) (t ++ s) = (whileGo n c f env s).sh t
  | 0, env, s => rfl
  | n + 1, env, s => by
    simp only [whileGo]
    rw [hc]
    cases c env s with
    | stuck => rfl
    | err => rfl
    | ok k s =>
      cases k with
      | false => rfl
      | true =>
        simp only [R.sh, id]
        rw [h]
        cases f env s with
        | nx env s => exact sh_whileGo c c' f f' hc h n env s
        | ct env s => exact sh_whileGo c c' f f' hc h n env s
        | br env s => rfl
        | rt w s => rfl
        | err c vs env s => rfl
        | stuck => rfl
theorem sh_newL (m : Bool) (xs : List D) : newL m xs (t ++ s) = (newL m xs s).sh t (W.sh t.length) := by
  unfold newL
  split
  · cases m with
    | true => simp only [if_true, R.sh, W.sh, List.length_append, List.append_assoc]
    | false => rfl
  · rfl
theorem sh_classOf (w : W) : classOf (w.sh t.length) (t ++ s) = classOf w s := by
  cases w with
  | d x => cases x <;> rfl
  | ref n => simp only [W.sh, classOf, sh_at]
theorem sh_fieldAt (w : W) (i : Nat) : fieldAt (w.sh t.length) i (t ++ s) = fieldAt w i s := by
  cases w with
  | d x => cases x <;> rfl
  | ref n => simp only [W.sh, fieldAt, sh_at]
theorem sh_isExcW (k : Nat) (w : W) : isExcW (w.sh k) = isExcW w := by cases w <;> rfl
def HC (t : S) (call : CallF) : Prop := ∀ f ws s, call f (ws.map (W.sh t.length)) (t ++ s) = (call f ws s).sh t (W.sh t.length)
variable {call : CallF}
theorem sh_own (w : W) (m : Nat) : own P (w.sh t.length) m (t ++ s) = own P w m s := by
  cases w with
  | d x => cases x <;> rfl
  | ref n => rfl
theorem sh_attrOf (hc : HC t call) (w : W) (f : Nat) : attrOf P call (w.sh t.length) f (t ++ s) = (attrOf P call w f s).sh t (W.sh t.length) := by
  unfold attrOf
  rw [sh_classOf, sh_isExcW]
  cases (classOf w s).bind P.cls with
  | none => rfl
  | some C =>
    simp only
    split
    · split
      · rw [sh_fieldAt]; exact R.sh_ofD _
      · split
        · rfl
        · rw [← R.sh_calm]; exact congrArg R.calm (hc _ [w] s)
      · rfl
    · rfl
theorem builtinC_many (f : Nat) (ws : List W) (s : S) (h : ∀ w, ws ≠ [w]) : builtinC P call f ws s = R.of ((builtin f ws s).map W.d) s := by
  unfold builtinC
  split
  · exact absurd rfl (h _)
  · rfl
theorem sh_builtinC (hc : HC t call) (f : Nat) (ws : List W) : builtinC P call f (ws.map (W.sh t.length)) (t ++ s) = (builtinC P call f ws s).sh t (W.sh t.length) := by
  have fin : R.of ((builtin f (ws.map (W.sh t.length)) (t ++ s)).map W.d) (t ++ s) = (R.of ((builtin f ws s).map W.d) s).sh t (W.sh t.length) := by
    rw [sh_builtin]; exact R.sh_ofD _
  match ws with
  | [] => rw [builtinC_many _ _ _ (by intro w h; cases h), builtinC_many _ _ _ (by intro w h; cases h)]; exact fin
  | [w] =>
    by_cases h : f = 3
    · subst h
      show (match own P (w.sh t.length) 0 (t ++ s) with | some g => call g [w.sh t.length] (t ++ s) | none => R.of ((builtin 3 [w.sh t.length] (t ++ s)).map W.d) (t ++ s)) = _
      rw [sh_own]
      show _ = (match own P w 0 s with | some g => call g [w] s | none => R.of ((builtin 3 [w] s).map W.d) s).sh t (W.sh t.length)
      cases own P w 0 s with
      | none => exact fin
      | some g => exact hc g [w] s
    · unfold builtinC
      split
      · rename_i e1 e2; exact absurd rfl h
      · split
        · exact absurd rfl h
        · exact fin
  | a :: b :: r =>
    rw [builtinC_many _ _ _ (by intro w h; cases h), builtinC_many _ _ _ (by intro w h; cases h)]
    exact fin
theorem sh_cmpC (hc : HC t call) (o : CmpOp) (a b : W) : cmpC P call o (a.sh t.length) (b.sh t.length) (t ++ s) = (cmpC P call o a b s).sh t (W.sh t.length) := by
  have fin : R.of ((cmpop o (a.sh t.length) (b.sh t.length) (t ++ s)).map fun k => W.d (.bl k)) (t ++ s) = (R.of ((cmpop o a b s).map fun k => W.d (.bl k)) s).sh t (W.sh t.length) := by
    rw [sh_cmpop]; cases cmpop o a b s <;> rfl
  have neg : ∀ r : R W, ((r.sh t (W.sh t.length)).calm.bind fun w s => match w with | .d (.bl k) => .ok (.d (.bl (!k))) s | _ => .stuck) = ((r.calm.bind fun w s => match w with | .d (.bl k) => R.ok (.d (.bl (!k))) s | _ => .stuck).sh t (W.sh t.length)) := fun r => by
    cases r with
    | ok w s => cases w with
      | d x => cases x <;> rfl
      | ref n => rfl
    | err => rfl
    | stuck => rfl
  cases o with
  | Eq =>
    simp only [cmpC, sh_own]
    cases own P a 3 s with
    | none => exact fin
    | some g => simp only; rw [← R.sh_calm]; exact congrArg R.calm (hc g [a, b] s)
  | NotEq =>
    simp only [cmpC, sh_own]
    cases own P a 3 s with
    | none => exact fin
    | some g => simp only; rw [show call g [a.sh t.length, b.sh t.length] (t ++ s) = _ from hc g [a, b] s]; exact neg _
  | In =>
    simp only [cmpC, sh_own]
    cases own P b 1 s with
    | none => exact fin
    | some g => simp only; rw [← R.sh_calm]; exact congrArg R.calm (hc g [b, a] s)
  | NotIn =>
    simp only [cmpC, sh_own]
    cases own P b 1 s with
    | none => exact fin
    | some g => simp only; rw [show call g [b.sh t.length, a.sh t.length] (t ++ s) = _ from hc g [b, a] s]; exact neg _
  | _ => exact fin
theorem sh_indexC (hc : HC t call) (o i : W) : indexC P call (o.sh t.length) (i.sh t.length) (t ++ s) = (indexC P call o i s).sh t (W.sh t.length) := by
  unfold indexC
  rw [sh_own]
  cases own P o 2 s with
  | none => simp only; rw [sh_index]; exact R.sh_ofD _
  | some g => exact hc g [o, i] s
theorem sh_isOne (w : W) (ty : Bool × Nat) : isOne P (w.sh t.length) ty (t ++ s) = isOne P w ty s := by
  simp only [isOne, sh_classOf, sh_isExcW, sh_val]
theorem sh_isAny (w : W) : ∀ ts : List (Bool × Nat), isAny P (w.sh t.length) (t ++ s) ts = isAny P w s ts
  | [] => rfl
  | x :: xs => by simp only [isAny, sh_isOne, sh_isAny w xs]
theorem sh_recvOk (m : Nat) (w : W) : recvOk m (w.sh t.length) (t ++ s) = recvOk m w s := by
  cases w with
  | d x => cases x <;> rfl
  | ref n => simp only [W.sh, recvOk, sh_at]
theorem sh_pick (ws : List W) : ∀ is : List Nat, pick (ws.map (W.sh t.length)) is = (pick ws is).map (List.map (W.sh t.length))
  | [] => rfl
  | i :: is => by
    simp only [pick, List.getElem?_map, sh_pick ws is]
    cases ws[i]? <;> cases pick ws is <;> rfl
theorem sh_mkArgs (c : Nat) (ws : List W) (perm : List Nat) : mkArgs P c (ws.map (W.sh t.length)) perm = (mkArgs P c ws perm).map (List.map (W.sh t.length)) := by
  unfold mkArgs
  cases P.cls c with
  | none => rfl
  | some C =>
    simp only
    rw [← sh_pick, List.map_append, List.map_map]
    rfl
theorem shE_get (env : Env) (i : Nat) : (shE t.length env)[i]? = (env[i]?).map fun o => o.map (W.sh t.length) := by unfold shE; rw [List.getElem?_map]
mutual
theorem sh_evE (hc : HC t call) : ∀ (e : E) (env : Env) (s : S), evE P call e (shE t.length env) (t ++ s) = (evE P call e env s).sh t (W.sh t.length)
  | .var i, env, s => by
    simp only [evE, shE_get]
    cases env[i]? with
    | none => rfl
    | some o => cases o <;> rfl
  | .c d, env, s => rfl
  | .tup es, env, s => by
    simp only [evE, sh_evEs hc es env s]
    refine R.sh_bind _ _ _ _ _ fun ws s => ?_
    simp only [sh_pures]
    split
    · split <;> rfl
    · rfl
  | .lst m es, env, s => by
    simp only [evE, sh_evEs hc es env s]
    refine R.sh_bind _ _ _ _ _ fun ws s => ?_
    simp only [sh_pures]
    split
    · exact sh_newL m _
    · rfl
  | .bin o a b, env, s => by
    simp only [evE, sh_evE hc a env s]
    refine R.sh_bind _ _ _ _ _ fun x s => ?_
    rw [sh_evE hc b env s]
    refine R.sh_bind _ _ _ _ _ fun y s => ?_
    rw [sh_binop, ← mapd (t := t) fun w h => binop_d h]
    exact (R.sh_of _ _).trans (by rw [mapd (t := t) fun w h => binop_d h])
  | .rep m es k, env, s => by
    simp only [evE, sh_evEs hc es env s]
    refine R.sh_bind _ _ _ _ _ fun ws s => ?_
    simp only [sh_pures]
    split
    · split
      · rw [sh_evE hc k env s]
        refine R.sh_bind _ _ _ _ _ fun z s => ?_
        cases z with
        | ref n => rfl
        | d x =>
          cases x <;> simp only [W.sh] <;> first | rfl | skip
          split
          · exact sh_newL m _
          · rfl
      · rfl
    · rfl
  | .catm a b, env, s => by
    simp only [evE, sh_evE hc a env s]
    refine R.sh_bind _ _ _ _ _ fun x s => ?_
    rw [sh_evE hc b env s]
    refine R.sh_bind _ _ _ _ _ fun y s => ?_
    simp only [sh_val]
    split
    · split
      · exact sh_newL true _
      · rfl
    · rfl
  | .neg a, env, s => by
    simp only [evE, sh_evE hc a env s]
    refine R.sh_bind _ _ _ _ _ fun x s => ?_
    cases x with
    | ref n => rfl
    | d x => cases x <;> rfl
  | .not a, env, s => by
    simp only [evE, sh_evE hc a env s]
    refine R.sh_bind _ _ _ _ _ fun x s => ?_
    rw [sh_truthy]
    cases truthy x s <;> rfl
  | .bop o es, env, s => by
    simp only [evE]
    exact sh_evBop hc o es env s
  | .orv a b, env, s => by
    simp only [evE, sh_evE hc a env s]
    refine R.sh_bind _ _ _ _ _ fun x s => ?_
    rw [sh_truthy]
    cases truthy x s with
    | none => rfl
    | some k => cases k with
      | true => rfl
      | false => exact sh_evE hc b env s
  | .cmp o a b, env, s => by
    simp only [evE, sh_evE hc a env s]
    refine R.sh_bind _ _ _ _ _ fun x s => ?_
    rw [sh_evE hc b env s]
    refine R.sh_bind _ _ _ _ _ fun y s => ?_
    exact sh_cmpC hc o x y
  | .chain a o1 b o2 c, env, s => by
    simp only [evE, sh_evE hc a env s]
    refine R.sh_bind _ _ _ _ _ fun x s => ?_
    rw [sh_evE hc b env s]
    refine R.sh_bind _ _ _ _ _ fun y s => ?_
    rw [sh_cmpop]
    cases cmpop o1 x y s with
    | none => rfl
    | some k => cases k with
      | false => rfl
      | true =>
        simp only [R.of_some, R.bind_ok, if_true]
        rw [sh_evE hc c env s]
        refine R.sh_bind _ _ _ _ _ fun z s => ?_
        rw [sh_cmpop]
        cases cmpop o2 y z s <;> rfl
  | .ite c a b, env, s => by
    simp only [evE, sh_evE hc c env s]
    refine R.sh_bind _ _ _ _ _ fun x s => ?_
    rw [sh_truthy]
    cases truthy x s with
    | none => rfl
    | some k => cases k with
      | true => exact sh_evE hc a env s
      | false => exact sh_evE hc b env s
  | .call f es, env, s => by
    simp only [evE, sh_evEs hc es env s]
    exact R.sh_bind _ _ _ _ _ fun ws s => hc f ws s
  | .callk f es ks kes perm, env, s => by
    simp only [evE, sh_evEs hc es env s]
    refine R.sh_bind _ _ _ _ _ fun ws s => ?_
    rw [sh_evEs hc kes env s]
    refine R.sh_bind _ _ _ _ _ fun zs s => ?_
    rw [← List.map_append, sh_pick]
    cases pick (ws ++ zs) perm with
    | none => rfl
    | some us => exact hc f us s
  | .smeth c m es, env, s => by
    simp only [evE, sh_evEs hc es env s]
    exact R.sh_bind _ _ _ _ _ fun ws s => hc m ws s
  | .mk c es kes perm, env, s => by
    simp only [evE, sh_evEs hc es env s]
    refine R.sh_bind _ _ _ _ _ fun ws s => ?_
    rw [sh_evEs hc kes env s]
    refine R.sh_bind _ _ _ _ _ fun zs s => ?_
    rw [← List.map_append, sh_mkArgs]
    cases mkArgs P c (ws ++ zs) perm with
    | none => rfl
    | some us => exact hc c us s
  | .bi f es, env, s => by
    simp only [evE, sh_evEs hc es env s]
    exact R.sh_bind _ _ _ _ _ fun ws s => sh_builtinC hc f ws
  | .isi a tys, env, s => by
    simp only [evE, sh_evE hc a env s]
    refine R.sh_bind _ _ _ _ _ fun x s => ?_
    rw [sh_isAny]
    cases isAny P x s tys <;> rfl
  | .meth m o es, env, s => by
    simp only [evE, sh_evE hc o env s]
    refine R.sh_bind _ _ _ _ _ fun w s => ?_
    split
    · rw [sh_recvOk]
      split
      · rw [sh_evEs hc es env s]
        refine R.sh_bind _ _ _ _ _ fun ws s => ?_
        rw [sh_method]
        cases method m w ws s <;> rfl
      · rfl
    · rw [sh_classOf]
      cases (classOf w s).bind P.cls with
      | none => rfl
      | some C =>
        simp only [sh_isExcW]
        split
        · rfl
        · split
          · rw [sh_evEs hc es env s]
            exact R.sh_bind _ _ _ _ _ fun ws s => hc _ (w :: ws) s
          · rfl
  | .attr o f, env, s => by
    simp only [evE, sh_evE hc o env s]
    exact R.sh_bind _ _ _ _ _ fun w s => sh_attrOf hc w f
  | .idx o i, env, s => by
    simp only [evE, sh_evE hc o env s]
    refine R.sh_bind _ _ _ _ _ fun x s => ?_
    rw [sh_evE hc i env s]
    exact R.sh_bind _ _ _ _ _ fun y s => sh_indexC hc x y
  | .slice o lo hi, env, s => by
    simp only [evE, sh_evE hc o env s]
    refine R.sh_bind _ _ _ _ _ fun x s => ?_
    rw [sh_evPart hc lo env s]
    refine R.sh_bind id _ _ _ _ fun y s => ?_
    rw [sh_evPart hc hi env s]
    refine R.sh_bind id _ _ _ _ fun z s => ?_
    simp only [sliceOf, sh_val, id]
    exact R.sh_ofD _
  | .comp m elt tg it cond own, env, s => by
    simp only [evE]
    rw [sh_evI hc it env s]
    refine R.sh_bind (Src.sh t.length) _ _ _ _ fun r s => ?_
    rw [sh_compGo r _ _ (fun x s => ?_), R.sh_calm]
    · exact R.sh_bind id _ _ _ _ fun ys s => sh_newL m ys
    · rw [sh_wipe, sh_asgT]
      cases asgT tg x (wipeE env own) with
      | none => rfl
      | some env2 =>
        simp only [Option.map_some]
        rw [sh_evCond hc cond env2 s]
        refine R.sh_bind id id _ _ _ fun k s => ?_
        cases k with
        | false => rfl
        | true =>
          simp only [id, if_true]
          rw [sh_evE hc elt env2 s]
          refine R.sh_bind _ id _ _ _ fun w s => ?_
          cases w <;> rfl
  | .srtset a, env, s => by
    simp only [evE, sh_evE hc a env s]
    refine R.sh_bind _ _ _ _ _ fun x s => ?_
    rw [sh_seqOf]
    split
    · split <;> rfl
    · rfl
  | .lstof m a, env, s => by
    simp only [evE, sh_evE hc a env s]
    refine R.sh_bind _ _ _ _ _ fun x s => ?_
    rw [sh_seqC]
    split
    · exact sh_newL m _
    · rfl
  | .mdic, env, s => by
    simp only [evE, R.sh, W.sh, List.length_append, List.append_assoc]
theorem sh_evEs (hc : HC t call) : ∀ (es : Es) (env : Env) (s : S), evEs P call es (shE t.length env) (t ++ s) = (evEs P call es env s).sh t (List.map (W.sh t.length))
  | .nil, env, s => rfl
  | .cons e es, env, s => by
    simp only [evEs, sh_evE hc e env s]
    refine R.sh_bind _ _ _ _ _ fun w s => ?_
    rw [sh_evEs hc es env s]
    exact R.sh_bind _ _ _ _ _ fun ws s => rfl
  | .star e es, env, s => by
    simp only [evEs, sh_evE hc e env s]
    refine R.sh_bind _ _ _ _ _ fun w s => ?_
    rw [sh_seqOf]
    split
    · rw [sh_evEs hc es env s]
      refine R.sh_bind _ _ _ _ _ fun ws s => ?_
      simp only [R.sh, List.map_append, List.map_map]
      rfl
    · rfl
theorem sh_evBop (hc : HC t call) (o : BoolOp) : ∀ (es : Es) (env : Env) (s : S), evBop P call o es (shE t.length env) (t ++ s) = (evBop P call o es env s).sh t (W.sh t.length)
  | .nil, env, s => rfl
  | .star _ _, env, s => rfl
  | .cons e .nil, env, s => by simp only [evBop]; exact sh_evE hc e env s
  | .cons e (.cons e2 es), env, s => by
    simp only [evBop, sh_evE hc e env s]
    refine R.sh_bind _ _ _ _ _ fun w s => ?_
    cases w with
    | ref n => rfl
    | d x =>
      cases x <;> simp only [W.sh] <;> first | rfl | skip
      split
      · exact sh_evBop hc o (.cons e2 es) env s
      · rfl
  | .cons e (.star e2 es), env, s => by
    simp only [evBop, sh_evE hc e env s]
    refine R.sh_bind _ _ _ _ _ fun w s => ?_
    cases w with
    | ref n => rfl
    | d x =>
      cases x <;> simp only [W.sh] <;> first | rfl | skip
      split
      · rfl
      · rfl
theorem sh_evPart (hc : HC t call) : ∀ (es : Es) (env : Env) (s : S), evPart P call es (shE t.length env) (t ++ s) = (evPart P call es env s).sh t id
  | .nil, env, s => rfl
  | .star _ _, env, s => rfl
  | .cons e es, env, s => by
    simp only [evPart, sh_evE hc e env s]
    refine R.sh_bind _ _ _ _ _ fun w s => ?_
    cases w with
    | ref n => rfl
    | d x => cases x <;> rfl
theorem sh_evCond (hc : HC t call) : ∀ (es : Es) (env : Env) (s : S), evCond P call es (shE t.length env) (t ++ s) = (evCond P call es env s).sh t id
  | .nil, env, s => rfl
  | .star _ _, env, s => rfl
  | .cons e es, env, s => by
    simp only [evCond, sh_evE hc e env s]
    refine R.sh_bind _ _ _ _ _ fun w s => ?_
    rw [sh_truthy]
    exact R.sh_of_id _
theorem sh_evI (hc : HC t call) : ∀ (it : I) (env : Env) (s : S), evI P call it (shE t.length env) (t ++ s) = (evI P call it env s).sh t (Src.sh t.length)
  | .e x, env, s => by
    simp only [evI, sh_evE hc x env s]
    refine R.sh_bind _ _ _ _ _ fun w s => ?_
    rw [sh_srcOfE]
    exact R.sh_of _ _
  | .range1 a, env, s => by
    simp only [evI, sh_evE hc a env s]
    refine R.sh_bind _ _ _ _ _ fun w s => ?_
    cases w with
    | ref n => rfl
    | d x =>
      cases x <;> simp only [W.sh] <;> first | rfl | skip
      split <;> rfl
  | .range2 a b, env, s => by
    simp only [evI, sh_evE hc a env s]
    refine R.sh_bind _ _ _ _ _ fun w s => ?_
    rw [sh_evE hc b env s]
    refine R.sh_bind _ _ _ _ _ fun z s => ?_
    cases w with
    | ref n => cases z <;> rfl
    | d x => cases z with
      | ref n => cases x <;> rfl
      | d y =>
        cases x <;> cases y <;> simp only [W.sh] <;> first | rfl | skip
        split <;> rfl
  | .enum x, env, s => by
    simp only [evI, sh_evE hc x env s]
    refine R.sh_bind _ _ _ _ _ fun w s => ?_
    rw [sh_srcL]
    cases srcL w s <;> rfl
  | .enum2 _ _, env, s => rfl
  | .zip x y, env, s => by
    simp only [evI, sh_evE hc x env s]
    refine R.sh_bind _ _ _ _ _ fun w s => ?_
    rw [sh_evE hc y env s]
    refine R.sh_bind _ _ _ _ _ fun z s => ?_
    rw [sh_srcZ]
    exact R.sh_of _ _
end
theorem sh_setAll : ∀ (is : List Nat) (ws : List W) (env : Env), setAll (shE t.length env) is (ws.map (W.sh t.length)) = (setAll env is ws).map (shE t.length)
  | [], [], env => rfl
  | [], _ :: _, env => rfl
  | _ :: _, [], env => rfl
  | i :: is, w :: ws, env => by
    simp only [setAll, List.map_cons, shE_set]
    exact sh_setAll is ws _
theorem sh_setIt (o i : W) (v : D) : setIt (o.sh t.length) (i.sh t.length) v (t ++ s) = (setIt o i v s).map (t ++ ·) := by
  cases o with
  | d x => rfl
  | ref n => cases i with
    | ref m => rfl
    | d k =>
      simp only [W.sh, setIt, sh_at]
      split
      · split
        · split
          · split
            · simp only [Option.map_some, List.set_append_right _ _ (Nat.le_add_right _ _), Nat.add_sub_cancel_left]
            · rfl
          · rfl
        · rfl
      · rfl
theorem sh_setAt (o : W) (f : Nat) (v : D) : setAt P (o.sh t.length) f v (t ++ s) = (setAt P o f v s).map (t ++ ·) := by
  cases o with
  | d x => rfl
  | ref n =>
    simp only [W.sh, setAt, sh_at]
    split
    · split
      · split
        · simp only [Option.map_some, List.set_append_right _ _ (Nat.le_add_right _ _), Nat.add_sub_cancel_left]
        · rfl
      · rfl
    · rfl
mutual
theorem sh_evS (hc : HC t call) : ∀ (st : Sm) (env : Env) (s : S), evS P call st (shE t.length env) (t ++ s) = (evS P call st env s).sh t
  | .exp e, env, s => by
    simp only [evS, sh_evE hc e env s]
    exact R.sh_then _ _ _ _ _ fun w s => rfl
  | .asg i e, env, s => by
    simp only [evS, sh_evE hc e env s]
    refine R.sh_then _ _ _ _ _ fun w s => ?_
    rw [shE_set]; rfl
  | .par is es, env, s => by
    simp only [evS, sh_evEs hc es env s]
    refine R.sh_then _ _ _ _ _ fun ws s => ?_
    rw [sh_setAll]
    cases setAll env is ws <;> rfl
  | .unp tg e, env, s => by
    simp only [evS, sh_evE hc e env s]
    refine R.sh_then _ _ _ _ _ fun w s => ?_
    cases w with
    | ref n => rfl
    | d x =>
      simp only [W.sh, sh_asgT]
      cases asgT tg x env <;> rfl
  | .seti o i e, env, s => by
    simp only [evS, sh_evE hc e env s]
    refine R.sh_then _ _ _ _ _ fun v s => ?_
    rw [sh_evE hc o env s]
    refine R.sh_then _ _ _ _ _ fun w s => ?_
    rw [sh_evE hc i env s]
    refine R.sh_then _ _ _ _ _ fun k s => ?_
    cases v with
    | ref n => rfl
    | d v =>
      simp only [sh_setIt, show W.sh t.length (.d v) = .d v from rfl]
      cases setIt w k v s <;> rfl
  | .seta o f e, env, s => by
    simp only [evS, sh_evE hc e env s]
    refine R.sh_then _ _ _ _ _ fun v s => ?_
    rw [sh_evE hc o env s]
    refine R.sh_then _ _ _ _ _ fun w s => ?_
    cases v with
    | ref n => rfl
    | d v =>
      simp only [sh_setAt, show W.sh t.length (.d v) = .d v from rfl]
      cases setAt P w f v s <;> rfl
  | .aug i o e, env, s => by
    simp only [evS, shE_get]
    cases env[i]? with
    | none => rfl
    | some ow => cases ow with
      | none => rfl
      | some w =>
        simp only [Option.map_some, sh_evE hc e env s]
        refine R.sh_then _ _ _ _ _ fun v s => ?_
        rw [sh_binop]
        cases hb : binop o w v s with
        | none => rfl
        | some z =>
          obtain ⟨x, rfl⟩ := binop_d hb
          simp only [R.of_some, R.then_ok]
          have := shE_set (t := t) env i (.d x)
          simp only [W.sh] at this
          rw [this]; rfl
  | .ret e, env, s => by
    simp only [evS, sh_evE hc e env s]
    exact R.sh_then _ _ _ _ _ fun w s => rfl
  | .retn, env, s => rfl
  | .pass, env, s => rfl
  | .brk, env, s => rfl
  | .ife c a b, env, s => by
    simp only [evS, sh_evE hc c env s]
    refine R.sh_then _ _ _ _ _ fun w s => ?_
    rw [sh_truthy]
    cases truthy w s with
    | none => rfl
    | some k => cases k with
      | true => exact sh_evSs hc a env s
      | false => exact sh_evSs hc b env s
  | .for_ tg it b, env, s => by
    simp only [evS, sh_evI hc it env s]
    refine R.sh_then _ _ _ _ _ fun r s => ?_
    refine sh_forGo r _ _ (fun x env s => ?_) _ _ _ _
    rw [sh_asgT]
    cases asgT tg x env with
    | none => rfl
    | some env => exact sh_evSs hc b env s
  | .whl c b, env, s => by
    simp only [evS]
    refine sh_whileGo _ _ _ _ (fun env s => ?_) (fun env s => sh_evSs hc b env s) _ _ _
    rw [sh_evE hc c env s]
    refine R.sh_bind _ _ _ _ _ fun w s => ?_
    rw [sh_truthy]
    exact R.sh_of_id _
  | .raise c es kes perm, env, s => by
    simp only [evS, sh_evEs hc es env s]
    rw [R.sh_bind (t := t) (List.map (W.sh t.length)) (W.sh t.length) (evEs P call es env s) (fun ws s => (evEs P call kes env s).bind fun zs s => match mkArgs P c (ws ++ zs) perm with
      | some us => call c us s
      | none => .stuck) _ fun ws s => ?_]
    · refine R.sh_then _ _ _ _ _ fun w s => ?_
      cases w with
      | ref n => rfl
      | d x => cases x <;> rfl
    · rw [sh_evEs hc kes env s]
      refine R.sh_bind _ _ _ _ _ fun zs s => ?_
      rw [← List.map_append, sh_mkArgs]
      cases mkArgs P c (ws ++ zs) perm with
      | none => rfl
      | some us => exact hc c us s
  | .tryk b hs, env, s => by
    simp only [evS, sh_evSs hc b env s]
    cases evSs P call b env s with
    | err c vs env s =>
      simp only [RS.sh]
      cases catchH P c hs with
      | none => rfl
      | some o => cases o with
        | none => rfl
        | some q =>
          simp only
          have := shE_set (t := t) env q.2 (.d (.exc c vs))
          simp only [W.sh] at this
          rw [this, shE_unset]
    | _ => rfl
  | .never, env, s => rfl
theorem sh_evSs (hc : HC t call) : ∀ (ss : Sms) (env : Env) (s : S), evSs P call ss (shE t.length env) (t ++ s) = (evSs P call ss env s).sh t
  | .nil, env, s => rfl
  | .cons st ss, env, s => by
    simp only [evSs, sh_evS hc st env s]
    exact RS.sh_seq _ _ _ fun env s => sh_evSs hc ss env s
end
theorem sh_take (n : Nat) : (t ++ s).take (t.length + n) = t ++ s.take n := by
  rw [List.take_append, List.take_of_length_le (Nat.le_add_right _ _), Nat.add_sub_cancel_left]
theorem sh_leave (keep : Bool) (n : Nat) (r : RS) : leave keep (t.length + n) (r.sh t) = (leave keep n r).sh t (W.sh t.length) := by
  cases r with
  | nx env s => cases keep <;> simp [RS.sh, leave, R.sh, W.sh, sh_take]
  | err c vs env s => cases keep <;> simp [RS.sh, leave, R.sh, W.sh, sh_take]
  | br => rfl
  | ct => rfl
  | stuck => rfl
  | rt w s =>
    cases keep with
    | true => rfl
    | false =>
      cases w with
      | d x => simp only [RS.sh, leave, W.sh, R.sh, sh_take, Bool.false_eq_true, if_false]
      | ref k =>
        simp only [RS.sh, leave, W.sh, Bool.false_eq_true, if_false, sh_at, sh_take]
        by_cases h : k < n
        · rw [if_pos h, if_pos (by omega)]; rfl
        · rw [if_neg h, if_neg (by omega)]
          split <;> rfl
theorem sh_callN : ∀ n : Nat, HC t (callN P n)
  | 0 => fun f ws s => rfl
  | n + 1 => fun f ws s => by
    have ih := sh_callN n
    simp only [callN, List.length_map, List.length_append]
    cases P.fn f with
    | some F =>
      simp only
      split
      · have e : shE t.length ((ws ++ (F.dfl.drop (F.dfl.length - (F.ps - ws.length))).map W.d).map some ++ List.replicate (F.slots - F.ps) none) = (ws.map (W.sh t.length) ++ (F.dfl.drop (F.dfl.length - (F.ps - ws.length))).map W.d).map some ++ List.replicate (F.slots - F.ps) none := by
          unfold shE
          simp only [List.map_append, List.map_map, List.map_replicate, Option.map_none]
          rfl
        rw [← e, sh_evSs ih F.body, sh_leave]
      · rfl
    | none =>
      simp only
      cases P.cls f with
      | none => rfl
      | some C =>
        simp only
        split
        · rw [sh_pures]
          cases pures ws with
          | none => rfl
          | some xs => simp only; split <;> rfl
        · have h1 := ih C.init (.ref s.length :: ws) (s ++ [.ins f (List.replicate C.fields none)])
          simp only [List.map_cons, W.sh, ← List.append_assoc] at h1
          unfold made
          rw [h1]
          refine R.sh_bind _ _ _ _ _ fun w s2 => ?_
          rw [sh_at]
          split
          · split
            · simp only [R.sh, sh_take, W.sh]
            · rfl
          · rfl
/-- what is run on nothing runs on anything -/
theorem callN_on {n f : Nat} {ds : List D} {x : D} {s1 : S} (h : callN P n f (ds.map .d) [] = .ok (.d x) s1) (s : S) : callN P n f (ds.map .d) s = .ok (.d x) (s ++ s1) := by
  have q := sh_callN (P := P) (t := s) n f (ds.map .d) []
  rw [h, List.append_nil, List.map_map] at q
  exact q
theorem callN_on1 {n f : Nat} {a x : D} {s1 : S} (h : callN P n f [.d a] [] = .ok (.d x) s1) (s : S) : callN P n f [.d a] s = .ok (.d x) (s ++ s1) := callN_on (ds := [a]) h s
theorem callN_on2 {n f : Nat} {a b x : D} {s1 : S} (h : callN P n f [.d a, .d b] [] = .ok (.d x) s1) (s : S) : callN P n f [.d a, .d b] s = .ok (.d x) (s ++ s1) := callN_on (ds := [a, b]) h s
end
end FT

namespace FT
open PySem PySem.Spec PyProof.Rows
def R.le {α : Type} (r r' : R α) : Prop := r = .stuck ∨ r = r'
def RS.le (r r' : RS) : Prop := r = .stuck ∨ r = r'
section
variable {α β : Type} {P : Prog} {call call' : CallF} {env : Env} {s : S}
theorem R.le_refl (r : R α) : r.le r := .inr rfl
theorem RS.le_refl (r : RS) : r.le r := .inr rfl
theorem R.le_bind {r r' : R α} {f f' : α → S → R β} (h : r.le r') (g : ∀ a s, (f a s).le (f' a s)) : (r.bind f).le (r'.bind f') := by
  rcases h with h | h
  · subst h; exact .inl rfl
  · subst h
    cases r with
    | ok a s => exact g a s
    | err => exact .inr rfl
    | stuck => exact .inl rfl
theorem R.le_calm {r r' : R α} (h : r.le r') : r.calm.le r'.calm := by
  rcases h with h | h
  · subst h; exact .inl rfl
  · subst h; exact .inr rfl
theorem R.le_then {r r' : R α} {f f' : α → S → RS} (h : r.le r') (g : ∀ a s, (f a s).le (f' a s)) : (r.then env f).le (r'.then env f') := by
  rcases h with h | h
  · subst h; exact .inl rfl
  · subst h
    cases r with
    | ok a s => exact g a s
    | err => exact .inr rfl
    | stuck => exact .inl rfl
theorem RS.le_seq {r r' : RS} {f f' : Env → S → RS} (h : r.le r') (g : ∀ a s, (f a s).le (f' a s)) : (r.seq f).le (r'.seq f') := by
  rcases h with h | h
  · subst h; exact .inl rfl
  · subst h
    cases r with
    | nx a s => exact g a s
    | _ => exact .inr rfl
theorem le_compGo {x : Src} {f f' : D → S → R (Option D)} (h : ∀ d s, (f d s).le (f' d s)) : ∀ (n i : Nat) (s : S), (compGo x f n i s).le (compGo x f' n i s)
  | 0, i, s => .inl rfl
  | n + 1, i, s => by
    simp only [compGo]
    cases x.get s with
    | none => exact .inl rfl
    | some ds =>
      simp only
      cases ds[i]? with
      | none => exact .inr rfl
      | some d => exact R.le_bind (h d s) fun y s => R.le_bind (le_compGo h n (i + 1) s) fun ys s => R.le_refl _
theorem le_forGo {x : Src} {f f' : D → Env → S → RS} (h : ∀ d env s, (f d env s).le (f' d env s)) : ∀ (n i : Nat) (env : Env) (s : S), (forGo x f n i env s).le (forGo x f' n i env s)
  | 0, i, env, s => .inl rfl
  | n + 1, i, env, s => by
    simp only [forGo]
    cases x.get s with
    | none => exact .inl rfl
    | some ds =>
      simp only
      cases ds[i]? with
      | none => exact .inr rfl
      | some d =>
        simp only
        rcases h d env s with e | e
        · rw [e]; exact .inl rfl
        · rw [← e]
          cases f d env s with
          | nx env s => exact le_forGo h n (i + 1) env s
          | ct env s => exact le_forGo h n (i + 1) env s
          | _ => exact .inr rfl
theorem le_whileGo {c c' : Env → S → R Bool} {f f' : Env → S → RS} (hc : ∀ env s, (c env s).le (c' env s)) (h : ∀ env s, (f env s).le (f' env s)) : ∀ (n : Nat) (env : Env) (s : S), (whileGo n c f env s).le (whileGo n c' f' env s)
  | 0, env, s => .inl rfl
  | n + 1, env, s => by
    simp only [whileGo]
    rcases hc env s with e | e
    · rw [e]; exact .inl rfl
    · rw [← e]
      cases c env s with
      | stuck => exact .inl rfl
      | err => exact .inr rfl
      | ok k s =>
        cases k with
        | false => exact .inr rfl
        | true =>
          simp only
          rcases h env s with e | e
          · rw [e]; exact .inl rfl
          · rw [← e]
            cases f env s with
            | nx env s => exact le_whileGo hc h n env s
            | ct env s => exact le_whileGo hc h n env s
            | _ => exact .inr rfl
abbrev LC (call call' : CallF) : Prop := ∀ f ws s, (call f ws s).le (call' f ws s)
theorem le_attrOf (hc : LC call call') (o : W) (f : Nat) : (attrOf P call o f s).le (attrOf P call' o f s) := by
  unfold attrOf
  split
  · split
    · split
      · exact R.le_refl _
      · split
        · exact R.le_refl _
        · exact R.le_calm (hc _ _ _)
      · exact R.le_refl _
    · exact R.le_refl _
  · exact R.le_refl _
theorem le_builtinC (hc : LC call call') (f : Nat) (ws : List W) : (builtinC P call f ws s).le (builtinC P call' f ws s) := by
  unfold builtinC
  split
  · split
    · exact hc _ _ _
    · exact R.le_refl _
  · exact R.le_refl _
theorem le_cmpC (hc : LC call call') (o : CmpOp) (a b : W) : (cmpC P call o a b s).le (cmpC P call' o a b s) := by
  unfold cmpC
  split
  · split
    · exact R.le_calm (hc _ _ _)
    · exact R.le_refl _
  · split
    · exact R.le_bind (R.le_calm (hc _ _ _)) fun _ _ => R.le_refl _
    · exact R.le_refl _
  · split
    · exact R.le_calm (hc _ _ _)
    · exact R.le_refl _
  · split
    · exact R.le_bind (R.le_calm (hc _ _ _)) fun _ _ => R.le_refl _
    · exact R.le_refl _
  · exact R.le_refl _
theorem le_indexC (hc : LC call call') (o i : W) : (indexC P call o i s).le (indexC P call' o i s) := by
  unfold indexC
  split
  · exact hc _ _ _
  · exact R.le_refl _
mutual
theorem le_evE (hc : LC call call') : ∀ (e : E) (env : Env) (s : S), (evE P call e env s).le (evE P call' e env s)
  | .var i, env, s => R.le_refl _
  | .c d, env, s => R.le_refl _
  | .tup es, env, s => by
    simp only [evE]
    exact R.le_bind (le_evEs hc es env s) fun _ _ => R.le_refl _
  | .lst m es, env, s => by
    simp only [evE]
    exact R.le_bind (le_evEs hc es env s) fun _ _ => R.le_refl _
  | .bin o a b, env, s => by
    simp only [evE]
    exact R.le_bind (le_evE hc a env s) fun _ s => R.le_bind (le_evE hc b env s) fun _ _ => R.le_refl _
  | .rep m es k, env, s => by
    simp only [evE]
    refine R.le_bind (le_evEs hc es env s) fun ws s => ?_
    split
    · split
      · exact R.le_bind (le_evE hc k env s) fun _ _ => R.le_refl _
      · exact R.le_refl _
    · exact R.le_refl _
  | .catm a b, env, s => by
    simp only [evE]
    exact R.le_bind (le_evE hc a env s) fun _ s => R.le_bind (le_evE hc b env s) fun _ _ => R.le_refl _
  | .neg a, env, s => by
    simp only [evE]
    exact R.le_bind (le_evE hc a env s) fun _ _ => R.le_refl _
  | .not a, env, s => by
    simp only [evE]
    exact R.le_bind (le_evE hc a env s) fun _ _ => R.le_refl _
  | .bop o es, env, s => by
    simp only [evE]
    exact le_evBop hc o es env s
  | .orv a b, env, s => by
    simp only [evE]
    refine R.le_bind (le_evE hc a env s) fun _ s => ?_
    split
    · exact R.le_refl _
    · exact le_evE hc b env s
    · exact R.le_refl _
  | .cmp o a b, env, s => by
    simp only [evE]
    exact R.le_bind (le_evE hc a env s) fun _ s => R.le_bind (le_evE hc b env s) fun _ _ => le_cmpC hc _ _ _
  | .chain a o1 b o2 c, env, s => by
    simp only [evE]
    refine R.le_bind (le_evE hc a env s) fun _ s => R.le_bind (le_evE hc b env s) fun _ s => R.le_bind (R.le_refl _) fun k s => ?_
    split
    · exact R.le_bind (le_evE hc c env s) fun _ _ => R.le_refl _
    · exact R.le_refl _
  | .ite c a b, env, s => by
    simp only [evE]
    refine R.le_bind (le_evE hc c env s) fun _ s => ?_
    split
    · exact le_evE hc a env s
    · exact le_evE hc b env s
    · exact R.le_refl _
  | .call f es, env, s => by
    simp only [evE]
    exact R.le_bind (le_evEs hc es env s) fun _ _ => hc _ _ _
  | .callk f es ks kes perm, env, s => by
    simp only [evE]
    refine R.le_bind (le_evEs hc es env s) fun _ s => R.le_bind (le_evEs hc kes env s) fun _ s => ?_
    split
    · exact hc _ _ _
    · exact R.le_refl _
  | .smeth c m es, env, s => by
    simp only [evE]
    exact R.le_bind (le_evEs hc es env s) fun _ _ => hc _ _ _
  | .mk c es kes perm, env, s => by
    simp only [evE]
    refine R.le_bind (le_evEs hc es env s) fun _ s => R.le_bind (le_evEs hc kes env s) fun _ s => ?_
    split
    · exact hc _ _ _
    · exact R.le_refl _
  | .bi f es, env, s => by
    simp only [evE]
    exact R.le_bind (le_evEs hc es env s) fun _ _ => le_builtinC hc _ _
  | .isi a tys, env, s => by
    simp only [evE]
    exact R.le_bind (le_evE hc a env s) fun _ _ => R.le_refl _
  | .meth m o es, env, s => by
    simp only [evE]
    refine R.le_bind (le_evE hc o env s) fun _ s => ?_
    split
    · split
      · exact R.le_bind (le_evEs hc es env s) fun _ _ => R.le_refl _
      · exact R.le_refl _
    · split
      · split
        · exact R.le_refl _
        · split
          · exact R.le_bind (le_evEs hc es env s) fun _ _ => hc _ _ _
          · exact R.le_refl _
      · exact R.le_refl _
  | .attr o f, env, s => by
    simp only [evE]
    exact R.le_bind (le_evE hc o env s) fun _ _ => le_attrOf hc _ _
  | .idx o i, env, s => by
    simp only [evE]
    exact R.le_bind (le_evE hc o env s) fun _ s => R.le_bind (le_evE hc i env s) fun _ _ => le_indexC hc _ _
  | .slice o lo hi, env, s => by
    simp only [evE]
    exact R.le_bind (le_evE hc o env s) fun _ s => R.le_bind (le_evPart hc lo env s) fun _ s => R.le_bind (le_evPart hc hi env s) fun _ _ => R.le_refl _
  | .comp m elt tg it cond own, env, s => by
    simp only [evE]
    refine R.le_bind (le_evI hc it env s) fun r s => R.le_bind (R.le_calm (le_compGo (fun x s => ?_) _ _ _)) fun _ _ => R.le_refl _
    split
    · exact R.le_refl _
    · refine R.le_bind (le_evCond hc cond _ s) fun k s => ?_
      split
      · exact R.le_bind (le_evE hc elt _ s) fun _ _ => R.le_refl _
      · exact R.le_refl _
  | .srtset a, env, s => by
    simp only [evE]
    exact R.le_bind (le_evE hc a env s) fun _ _ => R.le_refl _
  | .lstof m a, env, s => by
    simp only [evE]
    exact R.le_bind (le_evE hc a env s) fun _ _ => R.le_refl _
  | .mdic, env, s => R.le_refl _
theorem le_evEs (hc : LC call call') : ∀ (es : Es) (env : Env) (s : S), (evEs P call es env s).le (evEs P call' es env s)
  | .nil, env, s => R.le_refl _
  | .cons e es, env, s => by
    simp only [evEs]
    exact R.le_bind (le_evE hc e env s) fun _ s => R.le_bind (le_evEs hc es env s) fun _ _ => R.le_refl _
  | .star e es, env, s => by
    simp only [evEs]
    refine R.le_bind (le_evE hc e env s) fun _ s => ?_
    split
    · exact R.le_bind (le_evEs hc es env s) fun _ _ => R.le_refl _
    · exact R.le_refl _
theorem le_evBop (hc : LC call call') (o : BoolOp) : ∀ (es : Es) (env : Env) (s : S), (evBop P call o es env s).le (evBop P call' o es env s)
  | .nil, env, s => R.le_refl _
  | .star _ _, env, s => R.le_refl _
  | .cons e .nil, env, s => by simp only [evBop]; exact le_evE hc e env s
  | .cons e (.cons e2 es), env, s => by
    simp only [evBop]
    refine R.le_bind (le_evE hc e env s) fun w s => ?_
    split
    · split
      · exact le_evBop hc o (.cons e2 es) env s
      · exact R.le_refl _
    · exact R.le_refl _
  | .cons e (.star e2 es), env, s => by
    simp only [evBop]
    exact R.le_bind (le_evE hc e env s) fun w s => R.le_refl _
theorem le_evPart (hc : LC call call') : ∀ (es : Es) (env : Env) (s : S), (evPart P call es env s).le (evPart P call' es env s)
  | .nil, env, s => R.le_refl _
  | .star _ _, env, s => R.le_refl _
  | .cons e es, env, s => by
    simp only [evPart]
    exact R.le_bind (le_evE hc e env s) fun w s => R.le_refl _
theorem le_evCond (hc : LC call call') : ∀ (es : Es) (env : Env) (s : S), (evCond P call es env s).le (evCond P call' es env s)
  | .nil, env, s => R.le_refl _
  | .star _ _, env, s => R.le_refl _
  | .cons e es, env, s => by
    simp only [evCond]
    exact R.le_bind (le_evE hc e env s) fun w s => R.le_refl _
theorem le_evI (hc : LC call call') : ∀ (it : I) (env : Env) (s : S), (evI P call it env s).le (evI P call' it env s)
  | .e x, env, s => by
    simp only [evI]
    exact R.le_bind (le_evE hc x env s) fun w s => R.le_refl _
  | .range1 a, env, s => by
    simp only [evI]
    exact R.le_bind (le_evE hc a env s) fun w s => R.le_refl _
  | .range2 a b, env, s => by
    simp only [evI]
    exact R.le_bind (le_evE hc a env s) fun w s => R.le_bind (le_evE hc b env s) fun _ _ => R.le_refl _
  | .enum x, env, s => by
    simp only [evI]
    exact R.le_bind (le_evE hc x env s) fun w s => R.le_refl _
  | .enum2 _ _, env, s => R.le_refl _
  | .zip x y, env, s => by
    simp only [evI]
    exact R.le_bind (le_evE hc x env s) fun w s => R.le_bind (le_evE hc y env s) fun _ _ => R.le_refl _
end
mutual
theorem le_evS (hc : LC call call') : ∀ (st : Sm) (env : Env) (s : S), (evS P call st env s).le (evS P call' st env s)
  | .exp e, env, s => by
    simp only [evS]
    exact R.le_then (le_evE hc e env s) fun _ _ => RS.le_refl _
  | .asg i e, env, s => by
    simp only [evS]
    exact R.le_then (le_evE hc e env s) fun _ _ => RS.le_refl _
  | .par is es, env, s => by
    simp only [evS]
    exact R.le_then (le_evEs hc es env s) fun _ _ => RS.le_refl _
  | .unp tg e, env, s => by
    simp only [evS]
    exact R.le_then (le_evE hc e env s) fun _ _ => RS.le_refl _
  | .seti o i e, env, s => by
    simp only [evS]
    exact R.le_then (le_evE hc e env s) fun _ s => R.le_then (le_evE hc o env s) fun _ s => R.le_then (le_evE hc i env s) fun _ _ => RS.le_refl _
  | .seta o f e, env, s => by
    simp only [evS]
    exact R.le_then (le_evE hc e env s) fun _ s => R.le_then (le_evE hc o env s) fun _ s => RS.le_refl _
  | .aug i o e, env, s => by
    simp only [evS]
    split
    · exact R.le_then (le_evE hc e env s) fun _ s => RS.le_refl _
    · exact RS.le_refl _
  | .ret e, env, s => by
    simp only [evS]
    exact R.le_then (le_evE hc e env s) fun _ _ => RS.le_refl _
  | .retn, env, s => RS.le_refl _
  | .pass, env, s => RS.le_refl _
  | .brk, env, s => RS.le_refl _
  | .ife c a b, env, s => by
    simp only [evS]
    refine R.le_then (le_evE hc c env s) fun _ s => ?_
    split
    · exact le_evSs hc a env s
    · exact le_evSs hc b env s
    · exact RS.le_refl _
  | .for_ tg it b, env, s => by
    simp only [evS]
    refine R.le_then (le_evI hc it env s) fun r s => le_forGo (fun x env s => ?_) _ _ _ _
    split
    · exact RS.le_refl _
    · exact le_evSs hc b _ s
  | .whl c b, env, s => by
    simp only [evS]
    exact le_whileGo (fun env s => R.le_bind (le_evE hc c env s) fun _ _ => R.le_refl _) (fun env s => le_evSs hc b env s) _ _ _
  | .raise c es kes perm, env, s => by
    simp only [evS]
    refine R.le_then (R.le_bind (le_evEs hc es env s) fun _ s => R.le_bind (le_evEs hc kes env s) fun _ s => ?_) fun _ _ => RS.le_refl _
    split
    · exact hc _ _ _
    · exact R.le_refl _
  | .tryk b hs, env, s => by
    simp only [evS]
    rcases le_evSs hc b env s with e | e
    · rw [e]; exact .inl rfl
    · rw [e]; exact RS.le_refl _
  | .never, env, s => RS.le_refl _
theorem le_evSs (hc : LC call call') : ∀ (ss : Sms) (env : Env) (s : S), (evSs P call ss env s).le (evSs P call' ss env s)
  | .nil, env, s => RS.le_refl _
  | .cons st ss, env, s => by
    simp only [evSs]
    exact RS.le_seq (le_evS hc st env s) fun env s => le_evSs hc ss env s
end
theorem le_leave (keep : Bool) (n : Nat) {r r' : RS} (h : r.le r') : (leave keep n r).le (leave keep n r') := by
  rcases h with h | h
  · subst h; exact .inl rfl
  · subst h; exact .inr rfl
theorem callN_le1 (P : Prog) : ∀ n, LC (callN P n) (callN P (n + 1))
  | 0 => fun f ws s => .inl rfl
  | n + 1 => fun f ws s => by
    have ih := callN_le1 P n
    cases h : P.fn f with
    | some F =>
      rw [callN, callN]
      simp only [h]
      by_cases c : ws.length ≤ F.ps ∧ F.ps - ws.length ≤ F.dfl.length
      · rw [if_pos c, if_pos c]
        exact le_leave _ _ (le_evSs ih _ _ _)
      · rw [if_neg c, if_neg c]
        exact R.le_refl _
    | none =>
      rw [callN, callN]
      simp only [h]
      cases h2 : P.cls f with
      | none => exact R.le_refl _
      | some C =>
        simp only
        by_cases c : C.isExc = true
        · rw [if_pos c, if_pos c]
          exact R.le_refl _
        · rw [if_neg c, if_neg c]
          exact R.le_bind (ih _ _ _) fun _ _ => R.le_refl _
theorem callN_le (P : Prog) (n m : Nat) : LC (callN P n) (callN P (n + m)) := by
  induction m with
  | zero => exact fun f ws s => R.le_refl _
  | succ m ih =>
    intro f ws s
    rcases ih f ws s with e | e
    · exact .inl e
    · rw [e]; exact callN_le1 P (n + m) f ws s
theorem callN_ok_mono {n m f : Nat} {ws : List W} {w : W} {s' : S} (h : callN P n f ws s = .ok w s') (l : n ≤ m) : callN P m f ws s = .ok w s' := by
  obtain ⟨k, rfl⟩ := Nat.exists_eq_add_of_le l
  rcases callN_le P n k f ws s with e | e
  · rw [e] at h; cases h
  · rw [← e, h]
theorem callN_err_mono {n m f c : Nat} {ws : List W} {vs : List D} {s' : S} (h : callN P n f ws s = .err c vs s') (l : n ≤ m) : callN P m f ws s = .err c vs s' := by
  obtain ⟨k, rfl⟩ := Nat.exists_eq_add_of_le l
  rcases callN_le P n k f ws s with e | e
  · rw [e] at h; cases h
  · rw [← e, h]
end
end FT

namespace FT
open PySem PySem.Spec PyProof.Rows
section
variable {P : Prog} {call : CallF} {env : Env} {s : S}
@[simp] theorem x_var (i : Nat) : evE P call (.var i) env s = match env[i]? with | some (some w) => .ok w s | _ => .stuck := Eq.trans rfl rfl
@[simp] theorem x_c (d : D) : evE P call (.c d) env s = .ok (.d d) s := Eq.trans rfl rfl
@[simp] theorem x_tup (es : Es) : evE P call (.tup es) env s = (evEs P call es env s).bind fun ws s => match pures ws with
    | some xs => if xs.length ≤ LIM then .ok (.d (.tup xs)) s else .stuck
    | none => .stuck := by first | (rw [evE]; done) | (rw [evE]; rfl)
@[simp] theorem x_lst (m : Bool) (es : Es) : evE P call (.lst m es) env s = (evEs P call es env s).bind fun ws s => match pures ws with
    | some xs => newL m xs s
    | none => .stuck := by first | (rw [evE]; done) | (rw [evE]; rfl)
@[simp] theorem x_bin (o : Operator) (a b : E) : evE P call (.bin o a b) env s = (evE P call a env s).bind fun x s => (evE P call b env s).bind fun y s => R.of (binop o x y s) s := by first | (rw [evE]; done) | (rw [evE]; rfl)
@[simp] theorem x_neg (a : E) : evE P call (.neg a) env s = (evE P call a env s).bind fun x s => match x with
    | .d (.int i) => .ok (.d (.int (-i))) s
    | _ => .stuck := by first | (rw [evE]; done) | (rw [evE]; rfl)
@[simp] theorem x_not (a : E) : evE P call (.not a) env s = (evE P call a env s).bind fun x s => R.of ((truthy x s).map fun k => .d (.bl (!k))) s := by first | (rw [evE]; done) | (rw [evE]; rfl)
@[simp] theorem x_bop (o : BoolOp) (es : Es) : evE P call (.bop o es) env s = evBop P call o es env s := by first | (rw [evE]; done) | (rw [evE]; rfl)
@[simp] theorem x_orv (a b : E) : evE P call (.orv a b) env s = (evE P call a env s).bind fun x s => match truthy x s with
    | some true => .ok x s
    | some false => evE P call b env s
    | none => .stuck := by first | (rw [evE]; done) | (rw [evE]; rfl)
@[simp] theorem x_cmp (o : CmpOp) (a b : E) : evE P call (.cmp o a b) env s = (evE P call a env s).bind fun x s => (evE P call b env s).bind fun y s => cmpC P call o x y s := by first | (rw [evE]; done) | (rw [evE]; rfl)
@[simp] theorem x_chain (a : E) (o1 : CmpOp) (b : E) (o2 : CmpOp) (c : E) : evE P call (.chain a o1 b o2 c) env s = (evE P call a env s).bind fun x s => (evE P call b env s).bind fun y s =>
    (R.of (cmpop o1 x y s) s).bind fun k s => if k then (evE P call c env s).bind fun z s => R.of ((cmpop o2 y z s).map fun k => .d (.bl k)) s else .ok (.d (.bl false)) s := by first | (rw [evE]; done) | (rw [evE]; rfl)
@[simp] theorem x_ite (c a b : E) : evE P call (.ite c a b) env s = (evE P call c env s).bind fun x s => match truthy x s with
    | some true => evE P call a env s
    | some false => evE P call b env s
    | none => .stuck := by first | (rw [evE]; done) | (rw [evE]; rfl)
@[simp] theorem x_call (f : Nat) (es : Es) : evE P call (.call f es) env s = (evEs P call es env s).bind fun ws s => call f ws s := by first | (rw [evE]; done) | (rw [evE]; rfl)
@[simp] theorem x_callk (f : Nat) (es : Es) (ks : List Nat) (kes : Es) (perm : List Nat) : evE P call (.callk f es ks kes perm) env s = (evEs P call es env s).bind fun ws s => (evEs P call kes env s).bind fun zs s => match pick (ws ++ zs) perm with
    | some us => call f us s
    | none => .stuck := by first | (rw [evE]; done) | (rw [evE]; rfl)
@[simp] theorem x_bi (f : Nat) (es : Es) : evE P call (.bi f es) env s = (evEs P call es env s).bind fun ws s => builtinC P call f ws s := by first | (rw [evE]; done) | (rw [evE]; rfl)
@[simp] theorem x_isi (a : E) (tys : List (Bool × Nat)) : evE P call (.isi a tys) env s = (evE P call a env s).bind fun w s => R.of ((isAny P w s tys).map fun k => .d (.bl k)) s := by first | (rw [evE]; done) | (rw [evE]; rfl)
@[simp] theorem x_idx (o i : E) : evE P call (.idx o i) env s = (evE P call o env s).bind fun x s => (evE P call i env s).bind fun y s => indexC P call x y s := by first | (rw [evE]; done) | (rw [evE]; rfl)
@[simp] theorem x_slice (o : E) (lo hi : Es) : evE P call (.slice o lo hi) env s = (evE P call o env s).bind fun x s => (evPart P call lo env s).bind fun y s => (evPart P call hi env s).bind fun z s => R.of ((sliceOf x y z s).map W.d) s := by first | (rw [evE]; done) | (rw [evE]; rfl)
@[simp] theorem x_attr (o : E) (f : Nat) : evE P call (.attr o f) env s = (evE P call o env s).bind fun w s => attrOf P call w f s := by first | (rw [evE]; done) | (rw [evE]; rfl)
@[simp] theorem x_lstof (m : Bool) (a : E) : evE P call (.lstof m a) env s = (evE P call a env s).bind fun w s => match seqC w s with
    | some xs => newL m xs s
    | none => .stuck := by first | (rw [evE]; done) | (rw [evE]; rfl)
theorem x_meth (m : Nat) (o : E) (es : Es) (h : mtOk m = true) : evE P call (.meth m o es) env s = (evE P call o env s).bind fun w s => if recvOk m w s then (evEs P call es env s).bind fun ws s => (match method m w ws s with
      | some (x, s) => .ok (.d x) s
      | none => .stuck) else .stuck := by rw [evE]; simp only [h, if_true] <;> rfl
@[simp] theorem x_meth0 (o : E) (es : Es) : evE P call (.meth 0 o es) env s = (evE P call o env s).bind fun w s => if recvOk 0 w s then (evEs P call es env s).bind fun ws s => (match method 0 w ws s with
      | some (x, s) => .ok (.d x) s
      | none => .stuck) else .stuck := x_meth 0 o es rfl
@[simp] theorem x_meth2 (o : E) (es : Es) : evE P call (.meth 2 o es) env s = (evE P call o env s).bind fun w s => if recvOk 2 w s then (evEs P call es env s).bind fun ws s => (match method 2 w ws s with
      | some (x, s) => .ok (.d x) s
      | none => .stuck) else .stuck := x_meth 2 o es rfl
@[simp] theorem x_meth3 (o : E) (es : Es) : evE P call (.meth 3 o es) env s = (evE P call o env s).bind fun w s => if recvOk 3 w s then (evEs P call es env s).bind fun ws s => (match method 3 w ws s with
      | some (x, s) => .ok (.d x) s
      | none => .stuck) else .stuck := x_meth 3 o es rfl
@[simp] theorem x_meth4 (o : E) (es : Es) : evE P call (.meth 4 o es) env s = (evE P call o env s).bind fun w s => if recvOk 4 w s then (evEs P call es env s).bind fun ws s => (match method 4 w ws s with
      | some (x, s) => .ok (.d x) s
      | none => .stuck) else .stuck := x_meth 4 o es rfl
@[simp] theorem x_catm (a b : E) : evE P call (.catm a b) env s = (evE P call a env s).bind fun x s => (evE P call b env s).bind fun y s => match val x s, val y s with
    | some (.lst xs), some (.lst ys) => if xs.length + ys.length ≤ LIM then newL true (xs ++ ys) s else .stuck
    | _, _ => .stuck := by first | (rw [evE]; done) | (rw [evE]; rfl)
@[simp] theorem x_rep (m : Bool) (es : Es) (k : E) : evE P call (.rep m es k) env s = (evEs P call es env s).bind fun ws s => match pures ws with
    | some xs => if xs.length ≤ LIM then (evE P call k env s).bind fun z s => (match z with
      | .d (.int i) => if -9223372036854775808 ≤ i ∧ i < 9223372036854775808 ∧ xs.length * i.toNat ≤ LIM then newL m (List.replicate i.toNat xs).flatten s else .stuck
      | _ => .stuck) else .stuck
    | none => .stuck := by first | (rw [evE]; done) | (rw [evE]; rfl)
def compF (P : Prog) (call : CallF) (tg : T) (cond : Es) (elt : E) (env0 : Env) (x : D) (s : S) : R (Option D) := match asgT tg x env0 with
      | none => .stuck
      | some env2 => (evCond P call cond env2 s).bind fun k s => if k then (evE P call elt env2 s).bind fun w s => (match w with
        | .d y => .ok (some y) s
        | .ref _ => .stuck) else .ok none s
@[simp] theorem x_comp (m : Bool) (elt : E) (tg : T) (it : I) (cond : Es) (own : List Nat) : evE P call (.comp m elt tg it cond own) env s = (evI P call it env s).bind fun r s =>
    (compGo r (compF P call tg cond elt (wipeE env own)) FUEL 0 s).calm.bind fun ys s => newL m ys s := by first | (rw [evE]; done) | (rw [evE]; rfl)
@[simp] theorem xs_nil : evEs P call .nil env s = .ok [] s := Eq.trans rfl rfl
@[simp] theorem xs_cons (e : E) (es : Es) : evEs P call (.cons e es) env s = (evE P call e env s).bind fun w s => (evEs P call es env s).bind fun ws s => .ok (w :: ws) s := by first | (rw [evEs]; done) | (rw [evEs]; rfl)
@[simp] theorem xs_star (e : E) (es : Es) : evEs P call (.star e es) env s = (evE P call e env s).bind fun w s => match seqOf w s with
    | some xs => (evEs P call es env s).bind fun ws s => .ok (xs.map W.d ++ ws) s
    | none => .stuck := by first | (rw [evEs]; done) | (rw [evEs]; rfl)
@[simp] theorem xb_one (o : BoolOp) (e : E) : evBop P call o (.cons e .nil) env s = evE P call e env s := by first | (rw [evBop]; done) | (rw [evBop]; rfl)
def bopK (P : Prog) (call : CallF) (o : BoolOp) (es : Es) (env : Env) (w : W) (s : S) : R W := match w with
    | .d (.bl k) => if k == (o == .And) then evBop P call o es env s else .ok (.d (.bl k)) s
    | _ => .stuck
@[simp] theorem xb_cons (o : BoolOp) (e e2 : E) (es : Es) : evBop P call o (.cons e (.cons e2 es)) env s = (evE P call e env s).bind (bopK P call o (.cons e2 es) env) := by
  rw [evBop]; rfl; intro z; cases z
@[simp] theorem bopK_bl (o : BoolOp) (es : Es) (k : Bool) : bopK P call o es env (.d (.bl k)) s = if k == (o == .And) then evBop P call o es env s else .ok (.d (.bl k)) s := Eq.trans rfl rfl
@[simp] theorem xp_nil : evPart P call .nil env s = .ok none s := Eq.trans rfl rfl
@[simp] theorem xp_cons (e : E) (es : Es) : evPart P call (.cons e es) env s = (evE P call e env s).bind fun w s => match w with
    | .d (.int i) => .ok (some i) s
    | _ => .stuck := by first | (rw [evPart]; done) | (rw [evPart]; rfl)
@[simp] theorem xc_nil : evCond P call .nil env s = .ok true s := Eq.trans rfl rfl
@[simp] theorem xc_cons (e : E) (es : Es) : evCond P call (.cons e es) env s = (evE P call e env s).bind fun w s => R.of (truthy w s) s := by first | (rw [evCond]; done) | (rw [evCond]; rfl)
@[simp] theorem xi_e (x : E) : evI P call (.e x) env s = (evE P call x env s).bind fun w s => R.of (srcOfE w s) s := by first | (rw [evI]; done) | (rw [evI]; rfl)
@[simp] theorem xi_range1 (a : E) : evI P call (.range1 a) env s = (evE P call a env s).bind fun w s => match w with
    | .d (.int j) => if -4611686018427387904 ≤ j ∧ j < 4611686018427387904 then .ok (.val ((List.range j.toNat).map fun (i : Nat) => D.int i)) s else .stuck
    | _ => .stuck := by first | (rw [evI]; done) | (rw [evI]; rfl)
@[simp] theorem xi_enum (x : E) : evI P call (.enum x) env s = (evE P call x env s).bind fun w s => R.of ((srcL w s).map (.enum 0)) s := by first | (rw [evI]; done) | (rw [evI]; rfl)
@[simp] theorem xi_zip (x y : E) : evI P call (.zip x y) env s = (evE P call x env s).bind fun w s => (evE P call y env s).bind fun z s => R.of (srcZ w z s) s := by first | (rw [evI]; done) | (rw [evI]; rfl)
@[simp] theorem s_exp (e : E) : evS P call (.exp e) env s = (evE P call e env s).then env fun _ s => .nx env s := by first | (rw [evS]; done) | (rw [evS]; rfl)
@[simp] theorem s_asg (i : Nat) (e : E) : evS P call (.asg i e) env s = (evE P call e env s).then env fun w s => .nx (env.set i (some w)) s := by first | (rw [evS]; done) | (rw [evS]; rfl)
@[simp] theorem s_par (is : List Nat) (es : Es) : evS P call (.par is es) env s = (evEs P call es env s).then env fun ws s => match setAll env is ws with
    | some env => .nx env s
    | none => .stuck := by first | (rw [evS]; done) | (rw [evS]; rfl)
@[simp] theorem s_unp (t : T) (e : E) : evS P call (.unp t e) env s = (evE P call e env s).then env fun w s => match w with
    | .d x => (match asgT t x env with
      | some env => .nx env s
      | none => .stuck)
    | .ref _ => .stuck := by first | (rw [evS]; done) | (rw [evS]; rfl)
@[simp] theorem s_seti (o i e : E) : evS P call (.seti o i e) env s = (evE P call e env s).then env fun v s => (evE P call o env s).then env fun w s => (evE P call i env s).then env fun k s => match v with
    | .d v => (match setIt w k v s with
      | some s => .nx env s
      | none => .stuck)
    | .ref _ => .stuck := by first | (rw [evS]; done) | (rw [evS]; rfl)
@[simp] theorem s_ret (e : E) : evS P call (.ret e) env s = (evE P call e env s).then env fun w s => .rt w s := by first | (rw [evS]; done) | (rw [evS]; rfl)
@[simp] theorem s_retn : evS P call .retn env s = .rt (.d .non) s := Eq.trans rfl rfl
@[simp] theorem s_pass : evS P call .pass env s = .nx env s := Eq.trans rfl rfl
@[simp] theorem s_brk : evS P call .brk env s = .br env s := Eq.trans rfl rfl
@[simp] theorem s_ife (c : E) (a b : Sms) : evS P call (.ife c a b) env s = (evE P call c env s).then env fun w s => match truthy w s with
    | some true => evSs P call a env s
    | some false => evSs P call b env s
    | none => .stuck := by first | (rw [evS]; done) | (rw [evS]; rfl)
def forF (P : Prog) (call : CallF) (tg : T) (b : Sms) (x : D) (env : Env) (s : S) : RS := match asgT tg x env with
      | none => .stuck
      | some env => evSs P call b env s
@[simp] theorem s_for (tg : T) (it : I) (b : Sms) : evS P call (.for_ tg it b) env s = (evI P call it env s).then env fun r s => forGo r (forF P call tg b) FUEL 0 env s := by first | (rw [evS]; done) | (rw [evS]; rfl)
@[simp] theorem s_never : evS P call .never env s = .stuck := Eq.trans rfl rfl
@[simp] theorem ss_nil : evSs P call .nil env s = .nx env s := Eq.trans rfl rfl
@[simp] theorem ss_cons (st : Sm) (ss : Sms) : evSs P call (.cons st ss) env s = (evS P call st env s).seq fun env s => evSs P call ss env s := by first | (rw [evSs]; done) | (rw [evSs]; rfl)
@[simp] theorem RS.seq_stuck (f : Env → S → RS) : (RS.stuck).seq f = .stuck := Eq.trans rfl rfl
@[simp] theorem RS.seq_br (f : Env → S → RS) : (RS.br env s).seq f = .br env s := Eq.trans rfl rfl
@[simp] theorem RS.seq_err (c : Nat) (vs : List D) (f : Env → S → RS) : (RS.err c vs env s).seq f = .err c vs env s := Eq.trans rfl rfl
@[simp] theorem lim_val : LIM = 16777216 := Eq.trans rfl rfl
@[simp] theorem val_d (x : D) : val (.d x) s = some x := Eq.trans rfl rfl
@[simp] theorem truthy_non : FT.truthy (.d .non) s = some false := Eq.trans rfl rfl
@[simp] theorem truthy_bl (b : Bool) : FT.truthy (.d (.bl b)) s = some b := Eq.trans rfl rfl
@[simp] theorem truthy_int (b : Int) : FT.truthy (.d (.int b)) s = some (b != 0) := Eq.trans rfl rfl
@[simp] theorem truthy_tup (xs : List D) : FT.truthy (.d (.tup xs)) s = some (!xs.isEmpty) := Eq.trans rfl rfl
@[simp] theorem truthy_lst (xs : List D) : FT.truthy (.d (.lst xs)) s = some (!xs.isEmpty) := Eq.trans rfl rfl
@[simp] theorem pures_nil : pures [] = some [] := Eq.trans rfl rfl
@[simp] theorem pures_cons (x : D) (ws : List W) : pures (.d x :: ws) = (pures ws).map (x :: ·) := Eq.trans rfl rfl
@[simp] theorem asgT_name (i : Nat) (x : D) : asgT (.name i) x env = some (env.set i (some (.d x))) := Eq.trans rfl rfl
@[simp] theorem asgT_tup (ts : Ts) (xs : List D) : asgT (.tup ts) (.tup xs) env = asgTs ts xs env := Eq.trans rfl rfl
@[simp] theorem asgT_lst (ts : Ts) (xs : List D) : asgT (.tup ts) (.lst xs) env = asgTs ts xs env := Eq.trans rfl rfl
@[simp] theorem asgTs_nil : asgTs .nil [] env = some env := Eq.trans rfl rfl
@[simp] theorem asgTs_cons (t : T) (ts : Ts) (x : D) (xs : List D) : asgTs (.cons t ts) (x :: xs) env = (asgT t x env).bind fun env => asgTs ts xs env := Eq.trans rfl rfl
@[simp] theorem wipe_nil : wipeE env [] = env := Eq.trans rfl rfl
@[simp] theorem wipe_cons (v : Nat) (vs : List Nat) : wipeE env (v :: vs) = (wipeE env vs).set v none := Eq.trans rfl rfl
@[simp] theorem setAll_nil : setAll env [] [] = some env := Eq.trans rfl rfl
@[simp] theorem setAll_cons (i : Nat) (is : List Nat) (w : W) (ws : List W) : setAll env (i :: is) (w :: ws) = setAll (env.set i (some w)) is ws := Eq.trans rfl rfl
@[simp] theorem leave_d (n : Nat) (x : D) : leave false n (.rt (.d x) s) = .ok (.d x) (s.take n) := Eq.trans rfl rfl
@[simp] theorem leave_nx (n : Nat) : leave false n (.nx env s) = .ok (.d .non) (s.take n) := Eq.trans rfl rfl
@[simp] theorem own_none (w : W) (m : Nat) (h : ∀ c vs, w ≠ .d (.ins c vs)) : own P w m s = none := by
  unfold own
  split
  · exact absurd rfl (h _ _)
  · rfl
theorem callN_eq {f n : Nat} {F : Fn} (h : P.fn f = some F) {ws : List W} (hl : ws.length = F.ps) (hd : F.dfl = []) (s : S) :
    callN P (n + 1) f ws s = leave F.keep s.length (evSs P (callN P n) F.body (ws.map some ++ List.replicate (F.slots - F.ps) none) s) := by
  simp only [callN, h, hl, hd, Nat.le_refl, Nat.sub_self, List.length_nil, and_self, if_true, List.drop_nil, List.map_nil, List.append_nil]
end
theorem compGo_pure {xs : List D} {f : D → S → R (Option D)} {g : D → Option D} {s : S} (h : ∀ d ∈ xs, f d s = .ok (g d) s) : ∀ (n i : Nat), xs.length < n + i → i ≤ xs.length → compGo (.val xs) f n i s = .ok ((xs.drop i).filterMap g) s
  | 0, i, h1, h2 => by omega
  | n + 1, i, h1, h2 => by
    simp only [compGo, Src.get]
    by_cases hi : i < xs.length
    · rw [List.getElem?_eq_getElem hi]
      simp only
      rw [h _ (List.getElem_mem hi), R.bind_ok, compGo_pure h n (i + 1) (by omega) hi, R.bind_ok, List.drop_eq_getElem_cons hi, List.filterMap_cons]
      cases g xs[i] <;> rfl
    · rw [List.getElem?_eq_none (by omega), List.drop_of_length_le (by omega)]
      rfl
theorem comp_pure {xs : List D} {f : D → S → R (Option D)} {s : S} (g : D → Option D) (h : ∀ d ∈ xs, f d s = .ok (g d) s) (hl : xs.length ≤ LIM) : compGo (.val xs) f FUEL 0 s = .ok (xs.filterMap g) s := by
  have := compGo_pure h FUEL 0 (by unfold LIM at hl; unfold FUEL; omega) (Nat.zero_le _)
  simpa using this
theorem comp_map {xs : List D} {f : D → S → R (Option D)} {s : S} (g : D → D) (h : ∀ d ∈ xs, f d s = .ok (some (g d)) s) (hl : xs.length ≤ LIM) : compGo (.val xs) f FUEL 0 s = .ok (xs.map g) s := by
  rw [comp_pure (fun d => some (g d)) h hl]
  congr 1
  exact List.filterMap_eq_map (f := g) ▸ rfl
theorem forGo_src {x : Src} {xs : List D} (h : ∀ s, x.get s = some xs) {f : D → Env → S → RS} : ∀ (n i : Nat) (env : Env) (s : S), forGo x f n i env s = forGo (.val xs) f n i env s
  | 0, i, env, s => rfl
  | n + 1, i, env, s => by
    simp only [forGo, h, Src.get]
    cases xs[i]? with
    | none => rfl
    | some d =>
      simp only
      cases f d env s with
      | nx env s => exact forGo_src h n (i + 1) env s
      | ct env s => exact forGo_src h n (i + 1) env s
      | _ => rfl
theorem compGo_src {x : Src} {xs : List D} (h : ∀ s, x.get s = some xs) {f : D → S → R (Option D)} : ∀ (n i : Nat) (s : S), compGo x f n i s = compGo (.val xs) f n i s
  | 0, i, s => rfl
  | n + 1, i, s => by
    simp only [compGo, h, Src.get]
    cases xs[i]? with
    | none => rfl
    | some d =>
      simp only
      cases f d s with
      | ok y s => simp only [R.bind_ok]; rw [compGo_src h n (i + 1) s]
      | _ => rfl
theorem forGo_val {xs : List D} {f : D → Env → S → RS} (Inv : Nat → Env → S → Prop) (step : ∀ (i : Nat) (env : Env) (s : S) (h : i < xs.length), Inv i env s → ∃ env' s', f xs[i] env s = .nx env' s' ∧ Inv (i + 1) env' s') :
    ∀ (n i : Nat) (env : Env) (s : S), xs.length < n + i → i ≤ xs.length → Inv i env s → ∃ env' s', forGo (.val xs) f n i env s = .nx env' s' ∧ Inv xs.length env' s'
  | 0, i, env, s, h1, h2, hi => by omega
  | n + 1, i, env, s, h1, h2, hi => by
    simp only [forGo, Src.get]
    by_cases hl : i < xs.length
    · rw [List.getElem?_eq_getElem hl]
      obtain ⟨env', s', e, hi'⟩ := step i env s hl hi
      simp only
      rw [e]
      exact forGo_val Inv step n (i + 1) env' s' (by omega) hl hi'
    · have : i = xs.length := by omega
      subst this
      rw [List.getElem?_eq_none (Nat.le_refl _)]
      exact ⟨env, s, rfl, hi⟩
theorem for_val {xs : List D} {f : D → Env → S → RS} {env : Env} {s : S} (Inv : Nat → Env → S → Prop) (h0 : Inv 0 env s) (hl : xs.length ≤ LIM) (step : ∀ (i : Nat) (env : Env) (s : S) (h : i < xs.length), Inv i env s → ∃ env' s', f xs[i] env s = .nx env' s' ∧ Inv (i + 1) env' s') :
    ∃ env' s', forGo (.val xs) f FUEL 0 env s = .nx env' s' ∧ Inv xs.length env' s' := forGo_val Inv step FUEL 0 env s (by unfold LIM at hl; unfold FUEL; omega) (Nat.zero_le _) h0
theorem compGo_inv {xs : List D} {f : D → S → R (Option D)} (Inv : Nat → List D → S → Prop) (step : ∀ (i : Nat) (ys : List D) (s : S) (h : i < xs.length), Inv i ys s → ∃ y s', f xs[i] s = .ok (some y) s' ∧ Inv (i + 1) (ys ++ [y]) s') :
    ∀ (n i : Nat) (ys : List D) (s : S), xs.length < n + i → i ≤ xs.length → Inv i ys s → ∃ zs s', compGo (.val xs) f n i s = .ok zs s' ∧ Inv xs.length (ys ++ zs) s'
  | 0, i, ys, s, h1, h2, hi => by omega
  | n + 1, i, ys, s, h1, h2, hi => by
    simp only [compGo, Src.get]
    by_cases hl : i < xs.length
    · rw [List.getElem?_eq_getElem hl]
      obtain ⟨y, s', e, hi'⟩ := step i ys s hl hi
      simp only
      rw [e, R.bind_ok]
      obtain ⟨zs, s2, e2, h2⟩ := compGo_inv Inv step n (i + 1) (ys ++ [y]) s' (by omega) hl hi'
      rw [e2, R.bind_ok]
      exact ⟨y :: zs, s2, rfl, by simpa using h2⟩
    · have : i = xs.length := by omega
      subst this
      rw [List.getElem?_eq_none (Nat.le_refl _)]
      exact ⟨[], s, rfl, by simpa using hi⟩
theorem comp_inv {xs : List D} {f : D → S → R (Option D)} {s : S} (Inv : Nat → List D → S → Prop) (h0 : Inv 0 [] s) (hl : xs.length ≤ LIM) (step : ∀ (i : Nat) (ys : List D) (s : S) (h : i < xs.length), Inv i ys s → ∃ y s', f xs[i] s = .ok (some y) s' ∧ Inv (i + 1) (ys ++ [y]) s') :
    ∃ zs s', compGo (.val xs) f FUEL 0 s = .ok zs s' ∧ Inv xs.length zs s' := by
  obtain ⟨zs, s', e, h⟩ := compGo_inv Inv step FUEL 0 [] s (by unfold LIM at hl; unfold FUEL; omega) (Nat.zero_le _) h0
  exact ⟨zs, s', e, by simpa using h⟩
theorem FUEL_succ : FUEL = 999999999999999999 + 1 := rfl
theorem for_nil {f : D → Env → S → RS} {env : Env} {s : S} : forGo (.val []) f FUEL 0 env s = .nx env s := by rw [FUEL_succ]; rfl
theorem comp_nil {f : D → S → R (Option D)} {s : S} : compGo (.val []) f FUEL 0 s = .ok [] s := by rw [FUEL_succ]; rfl
@[simp] theorem get_val (xs : List D) (s : S) : (Src.val xs).get s = some xs := Eq.trans rfl rfl
@[simp] theorem get_enum (k : Int) (xs : List D) (s : S) : (Src.enum k (.val xs)).get s = some (enumD k xs) := Eq.trans rfl rfl
@[simp] theorem get_zip (xs ys : List D) (s : S) : (Src.zip (.val xs) (.val ys)).get s = some (List.zipWith (fun a b => .tup [a, b]) xs ys) := Eq.trans rfl rfl
@[simp] theorem forGo_enum (k : Int) (xs : List D) (f : D → Env → S → RS) (n i : Nat) (env : Env) (s : S) : forGo (.enum k (.val xs)) f n i env s = forGo (.val (enumD k xs)) f n i env s := forGo_src (fun _ => rfl) n i env s
@[simp] theorem forGo_zip (xs ys : List D) (f : D → Env → S → RS) (n i : Nat) (env : Env) (s : S) : forGo (.zip (.val xs) (.val ys)) f n i env s = forGo (.val (List.zipWith (fun a b => .tup [a, b]) xs ys)) f n i env s := forGo_src (fun _ => rfl) n i env s
@[simp] theorem compGo_enum (k : Int) (xs : List D) (f : D → S → R (Option D)) (n i : Nat) (s : S) : compGo (.enum k (.val xs)) f n i s = compGo (.val (enumD k xs)) f n i s := compGo_src (fun _ => rfl) n i s
@[simp] theorem compGo_zip (xs ys : List D) (f : D → S → R (Option D)) (n i : Nat) (s : S) : compGo (.zip (.val xs) (.val ys)) f n i s = compGo (.val (List.zipWith (fun a b => .tup [a, b]) xs ys)) f n i s := compGo_src (fun _ => rfl) n i s
/-- a while with a measure -/
theorem whileGo_ok {c : Env → S → R Bool} {f : Env → S → RS} (Inv : Nat → Env → S → Prop) (Q : Env → S → Prop)
    (step : ∀ (m : Nat) (env : Env) (s : S), Inv m env s → (∃ s', c env s = .ok false s' ∧ Q env s') ∨ ∃ s1 env' s' m', c env s = .ok true s1 ∧ f env s1 = .nx env' s' ∧ m' < m ∧ Inv m' env' s') :
    ∀ (n m : Nat) (env : Env) (s : S), m < n → Inv m env s → ∃ env' s', whileGo n c f env s = .nx env' s' ∧ Q env' s'
  | 0, m, env, s, hm, hi => by omega
  | n + 1, m, env, s, hm, hi => by
    rcases step m env s hi with ⟨s', e, q⟩ | ⟨s1, env', s', m', e1, e2, hlt, hi'⟩
    · exact ⟨env, s', by simp only [whileGo, e], q⟩
    · obtain ⟨env2, s2, e3, q⟩ := whileGo_ok Inv Q step n m' env' s' (by omega) hi'
      exact ⟨env2, s2, by simp only [whileGo, e1, e2, e3], q⟩
theorem while_ok {c : Env → S → R Bool} {f : Env → S → RS} {env : Env} {s : S} (Inv : Nat → Env → S → Prop) (Q : Env → S → Prop) (m : Nat) (hm : m < 1000000000) (h0 : Inv m env s)
    (step : ∀ (m : Nat) (env : Env) (s : S), Inv m env s → (∃ s', c env s = .ok false s' ∧ Q env s') ∨ ∃ s1 env' s' m', c env s = .ok true s1 ∧ f env s1 = .nx env' s' ∧ m' < m ∧ Inv m' env' s') :
    ∃ env' s', whileGo FUEL c f env s = .nx env' s' ∧ Q env' s' := whileGo_ok Inv Q step FUEL m env s (by unfold FUEL; omega) h0
def whlC (P : Prog) (call : CallF) (c : E) (env : Env) (s : S) : R Bool := (evE P call c env s).bind fun w s => R.of (truthy w s) s
def bodyF (P : Prog) (call : CallF) (b : Sms) (env : Env) (s : S) : RS := evSs P call b env s
@[simp] theorem s_whl {P : Prog} {call : CallF} {env : Env} {s : S} (c : E) (b : Sms) : evS P call (.whl c b) env s = whileGo FUEL (whlC P call c) (bodyF P call b) env s := by first | (rw [evS]; done) | (rw [evS]; rfl)
theorem for_res {xs : List D} {f : D → Env → S → RS} {env : Env} {s : S} {Q : Env → S → Prop} (Inv : Nat → Env → S → Prop) (h0 : Inv 0 env s) (hl : xs.length ≤ LIM) (step : ∀ (i : Nat) (env : Env) (s : S) (h : i < xs.length), Inv i env s → ∃ env' s', f xs[i] env s = .nx env' s' ∧ Inv (i + 1) env' s')
    (fin : ∀ env' s', Inv xs.length env' s' → Q env' s') : ∃ env' s', forGo (.val xs) f FUEL 0 env s = .nx env' s' ∧ Q env' s' := by
  obtain ⟨env', s', e, h⟩ := for_val Inv h0 hl step
  exact ⟨env', s', e, fin _ _ h⟩
theorem comp_res {xs : List D} {f : D → S → R (Option D)} {s : S} {Q : List D → S → Prop} (Inv : Nat → List D → S → Prop) (h0 : Inv 0 [] s) (hl : xs.length ≤ LIM) (step : ∀ (i : Nat) (ys : List D) (s : S) (h : i < xs.length), Inv i ys s → ∃ y s', f xs[i] s = .ok (some y) s' ∧ Inv (i + 1) (ys ++ [y]) s')
    (fin : ∀ zs s', Inv xs.length zs s' → Q zs s') : ∃ zs s', compGo (.val xs) f FUEL 0 s = .ok zs s' ∧ Q zs s' := by
  obtain ⟨zs, s', e, h⟩ := comp_inv Inv h0 hl step
  exact ⟨zs, s', e, fin _ _ h⟩
end FT

namespace FT
open PySem PySem.Spec PyProof.Rows
section
variable {P : Prog} {call : CallF} {s : S}
def notIns : D → Bool
  | .ins _ _ => false
  | _ => true
theorem own_d {x : D} (h : notIns x = true) (m : Nat) : own P (.d x) m s = none := by
  cases x <;> first | rfl | (simp [notIns] at h)
@[simp] theorem own_ref (n m : Nat) : own P (.ref n) m s = none := Eq.trans rfl rfl
@[simp] theorem plain_int (i : Int) (n : Nat) : D.pl (.int i) n = true := by cases n <;> rfl
@[simp] theorem plain_str (i : Str) (n : Nat) : D.pl (.str i) n = true := by cases n <;> rfl
@[simp] theorem plain_bl (i : Bool) (n : Nat) : D.pl (.bl i) n = true := by cases n <;> rfl
@[simp] theorem plain_non (n : Nat) : D.pl .non n = true := by cases n <;> rfl
@[simp] theorem pl_tup (xs : List D) (n : Nat) : D.pl (.tup xs) (n + 1) = D.plL xs n := by rw [D.pl]
@[simp] theorem pl_lst (xs : List D) (n : Nat) : D.pl (.lst xs) (n + 1) = D.plL xs n := by rw [D.pl]
theorem plL_all (xs : List D) (n : Nat) : D.plL xs n = xs.all fun x => D.pl x n := by
  induction xs with
  | nil => rw [D.plL]; rfl
  | cons x xs ih => rw [D.plL, ih]; rfl
theorem plain_tup (xs : List D) : D.plain (.tup xs) = D.plL xs 59 := by show D.pl (.tup xs) (59 + 1) = _; rw [pl_tup]
theorem plain_lst (xs : List D) : D.plain (.lst xs) = D.plL xs 59 := by show D.pl (.lst xs) (59 + 1) = _; rw [pl_lst]
@[simp] theorem cmp_lt (i j : Int) : cmpC P call .Lt (.d (.int i)) (.d (.int j)) s = .ok (.d (.bl (decide (i < j)))) s := by simp [cmpC, cmpop, D.cmpOk, D.alike, D.isNon, D.ltB]
@[simp] theorem cmp_gt (i j : Int) : cmpC P call .Gt (.d (.int i)) (.d (.int j)) s = .ok (.d (.bl (decide (j < i)))) s := by simp [cmpC, cmpop, D.cmpOk, D.alike, D.isNon, D.ltB]
@[simp] theorem cmp_le (i j : Int) : cmpC P call .LtE (.d (.int i)) (.d (.int j)) s = .ok (.d (.bl (decide (i ≤ j)))) s := by simp [cmpC, cmpop, D.cmpOk, D.alike, D.isNon, D.ltB, ← decide_not]
@[simp] theorem cmp_ge (i j : Int) : cmpC P call .GtE (.d (.int i)) (.d (.int j)) s = .ok (.d (.bl (decide (j ≤ i)))) s := by simp [cmpC, cmpop, D.cmpOk, D.alike, D.isNon, D.ltB, ← decide_not]
@[simp] theorem cmpop_le (i j : Int) : cmpop .LtE (.d (.int i)) (.d (.int j)) s = some (decide (i ≤ j)) := by simp [cmpop, D.cmpOk, D.alike, D.isNon, D.ltB, ← decide_not]
@[simp] theorem cmpop_lt (i j : Int) : cmpop .Lt (.d (.int i)) (.d (.int j)) s = some (decide (i < j)) := by simp [cmpop, D.cmpOk, D.alike, D.isNon, D.ltB]
theorem cmp_eq {x y : D} (hx : D.plain x = true) (hy : D.plain y = true) : cmpC P call .Eq (.d x) (.d y) s = .ok (.d (.bl (D.eqv x y))) s := by
  have h : notIns x = true := by cases x <;> first | rfl | (simp [D.pl] at hx)
  simp [cmpC, own_d h, cmpop, hx, hy]
theorem cmp_ne {x y : D} (hx : D.plain x = true) (hy : D.plain y = true) : cmpC P call .NotEq (.d x) (.d y) s = .ok (.d (.bl (!D.eqv x y))) s := by
  have h : notIns x = true := by cases x <;> first | rfl | (simp [D.pl] at hx)
  simp [cmpC, own_d h, cmpop, hx, hy]
@[simp] theorem cmp_eq_int (i j : Int) : cmpC P call .Eq (.d (.int i)) (.d (.int j)) s = .ok (.d (.bl (i == j))) s := cmp_eq (plain_int _ _) (plain_int _ _)
@[simp] theorem cmp_ne_int (i j : Int) : cmpC P call .NotEq (.d (.int i)) (.d (.int j)) s = .ok (.d (.bl (!(i == j)))) s := cmp_ne (plain_int _ _) (plain_int _ _)
@[simp] theorem cmp_eq_bl (i j : Bool) : cmpC P call .Eq (.d (.bl i)) (.d (.bl j)) s = .ok (.d (.bl (i == j))) s := cmp_eq (plain_bl _ _) (plain_bl _ _)
@[simp] theorem cmp_ne_bl (i j : Bool) : cmpC P call .NotEq (.d (.bl i)) (.d (.bl j)) s = .ok (.d (.bl (!(i == j)))) s := cmp_ne (plain_bl _ _) (plain_bl _ _)
def D.isN : D → Bool
  | .non => true
  | _ => false
@[simp] theorem cmp_is (x : D) : cmpC P call .Is (.d x) (.d .non) s = .ok (.d (.bl x.isN)) s := by cases x <;> rfl
@[simp] theorem cmp_isnot (x : D) : cmpC P call .IsNot (.d x) (.d .non) s = .ok (.d (.bl (!x.isN))) s := by cases x <;> rfl
@[simp] theorem bin_add (i j : Int) : binop .Add (.d (.int i)) (.d (.int j)) s = some (.d (.int (i + j))) := Eq.trans rfl rfl
@[simp] theorem bin_sub (i j : Int) : binop .Sub (.d (.int i)) (.d (.int j)) s = some (.d (.int (i - j))) := Eq.trans rfl rfl
theorem bin_mul {i j : Int} (h : (-18446744073709551616 < i ∧ i < 18446744073709551616) ∨ (-18446744073709551616 < j ∧ j < 18446744073709551616)) : binop .Mult (.d (.int i)) (.d (.int j)) s = some (.d (.int (i * j))) := by
  have : okMul i j = true := by
    unfold okMul
    rw [Bool.or_eq_true, Bool.and_eq_true, Bool.and_eq_true]
    rcases h with ⟨a, b⟩ | ⟨a, b⟩
    · exact .inl ⟨decide_eq_true a, decide_eq_true b⟩
    · exact .inr ⟨decide_eq_true a, decide_eq_true b⟩
  simp [binop, this]
theorem bin_fdiv {i j : Int} (h0 : 0 < j) (h1 : j < 1073741824) : binop .FloorDiv (.d (.int i)) (.d (.int j)) s = some (.d (.int (i / j))) := by
  have h : j ≠ 0 ∧ j.natAbs < 1073741824 := by omega
  simp only [binop]
  rw [if_pos h, Int.fdiv_eq_ediv_of_nonneg _ (by omega)]
theorem bin_mod {i j : Int} (h0 : 0 < j) : binop .Mod (.d (.int i)) (.d (.int j)) s = some (.d (.int (i % j))) := by
  simp only [binop]
  rw [if_pos (by omega), Int.fmod_eq_emod_of_nonneg _ (by omega)]
@[simp] theorem bin_lst {xs ys : List D} (h : xs.length + ys.length ≤ 16777216) : binop .Add (.d (.lst xs)) (.d (.lst ys)) s = some (.d (.lst (xs ++ ys))) := by simp [binop, h]
@[simp] theorem bin_tup {xs ys : List D} (h : xs.length + ys.length ≤ 16777216) : binop .Add (.d (.tup xs)) (.d (.tup ys)) s = some (.d (.tup (xs ++ ys))) := by simp [binop, h]
@[simp] theorem bin_str {x y : Str} (h : x.length + y.length ≤ 16777216) : binop .Add (.d (.str x)) (.d (.str y)) s = some (.d (.str (x ++ y))) := by simp [binop, h]
@[simp] theorem idx_lst (xs : List D) (i : Int) : indexC P call (.d (.lst xs)) (.d (.int i)) s = R.of ((L2.atI xs i).map W.d) s := Eq.trans rfl rfl
@[simp] theorem idx_tup (xs : List D) (i : Int) : indexC P call (.d (.tup xs)) (.d (.int i)) s = R.of ((L2.atI xs i).map W.d) s := Eq.trans rfl rfl
theorem idx_ref {n : Nat} {lk : Nat} {xs : List D} (h : s[n]? = some (.lst lk xs)) (i : Int) : indexC P call (.ref n) (.d (.int i)) s = R.of ((L2.atI xs i).map W.d) s := by
  simp [indexC, index, val, h]
@[simp] theorem atI_0 (x : D) (xs : List D) : L2.atI (x :: xs) 0 = some x := L2.atI_nat (j := 0) rfl
@[simp] theorem atI_1 (x y : D) (xs : List D) : L2.atI (x :: y :: xs) 1 = some y := L2.atI_nat (j := 1) rfl
@[simp] theorem atI_2 (x y z : D) (xs : List D) : L2.atI (x :: y :: z :: xs) 2 = some z := L2.atI_nat (j := 2) rfl
theorem atI_ok {xs : List D} {i : Nat} (h : i < xs.length) : L2.atI xs (i : Int) = some xs[i] := by simp [L2.atI, L2.ixN, h]
theorem atI_int {xs : List D} {i : Int} (h0 : 0 ≤ i) (h : i < xs.length) : L2.atI xs i = some (xs[i.toNat]'(by omega)) := by
  have q := atI_ok (xs := xs) (i := i.toNat) (by omega)
  rw [Int.toNat_of_nonneg h0] at q
  exact q
@[simp] theorem bi_int_int (i : Int) : builtinC P call 4 [.d (.int i)] s = .ok (.d (.int i)) s := Eq.trans rfl rfl
@[simp] theorem bi_int_bl (b : Bool) : builtinC P call 4 [.d (.bl b)] s = .ok (.d (.int (if b then 1 else 0))) s := Eq.trans rfl rfl
@[simp] theorem bi_len_lst (xs : List D) : builtinC P call 3 [.d (.lst xs)] s = .ok (.d (.int xs.length)) s := Eq.trans rfl rfl
@[simp] theorem bi_len_tup (xs : List D) : builtinC P call 3 [.d (.tup xs)] s = .ok (.d (.int xs.length)) s := Eq.trans rfl rfl
theorem bi_len_ref {n lk : Nat} {xs : List D} (h : s[n]? = some (.lst lk xs)) : builtinC P call 3 [.ref n] s = .ok (.d (.int xs.length)) s := by
  simp [builtinC, builtin, bi1, lenW, val, h]
theorem bi_len_str {x : Str} (h : x.length ≤ LIM) : builtinC P call 3 [.d (.str x)] s = .ok (.d (.int x.length)) s := by
  simp only [lim_val] at h
  simp [builtinC, own, builtin, bi1, lenW, val, h]
theorem bools_map {α : Type} (f : α → Bool) (xs : List α) : bools (xs.map fun x => .bl (f x)) = some (xs.map f) := by
  induction xs with
  | nil => rfl
  | cons x xs ih => simp [bools, ih]
theorem bi_all {α : Type} (f : α → Bool) (xs : List α) : builtinC P call 1 [.d (.lst (xs.map fun x => .bl (f x)))] s = .ok (.d (.bl (xs.all f))) s := by
  simp [builtinC, builtin, bi1, FT.listOf, bools_map, List.all_map]
theorem bi_any {α : Type} (f : α → Bool) (xs : List α) : builtinC P call 2 [.d (.lst (xs.map fun x => .bl (f x)))] s = .ok (.d (.bl (xs.any f))) s := by
  simp [builtinC, builtin, bi1, FT.listOf, bools_map, List.any_map]
theorem intL_map {α : Type} (f : α → Int) (xs : List α) : intL (xs.map fun x => .int (f x)) = some (xs.map f) := by
  induction xs with
  | nil => rfl
  | cons x xs ih => simp [intL, ih]
theorem bi_sum {α : Type} (f : α → Int) (xs : List α) : builtinC P call 9 [.d (.lst (xs.map fun x => .int (f x)))] s = .ok (.d (.int (xs.map f).sum)) s := by
  simp [builtinC, builtin, bi1, FT.listOf, intL_map]
@[simp] theorem bi_tuple_lst (xs : List D) : builtinC P call 6 [.d (.lst xs)] s = .ok (.d (.tup xs)) s := Eq.trans rfl rfl
@[simp] theorem bi_tuple_tup (xs : List D) : builtinC P call 6 [.d (.tup xs)] s = .ok (.d (.tup xs)) s := Eq.trans rfl rfl
theorem bi_tuple_ref {n lk : Nat} {xs : List D} (h : s[n]? = some (.lst lk xs)) : builtinC P call 6 [.ref n] s = .ok (.d (.tup xs)) s := by
  simp [builtinC, builtin, bi1, seqC, seqOf, h]
@[simp] theorem bi_min2 (i j : Int) : builtinC P call 7 [.d (.int i), .d (.int j)] s = .ok (.d (.int (min i j))) s := by
  have e : builtinC P call 7 [.d (.int i), .d (.int j)] s = .ok (.d (.int (if j < i then j else i))) s := rfl
  rw [e]; congr 3; split <;> omega
@[simp] theorem bi_max2 (i j : Int) : builtinC P call 8 [.d (.int i), .d (.int j)] s = .ok (.d (.int (max i j))) s := by
  have e : builtinC P call 8 [.d (.int i), .d (.int j)] s = .ok (.d (.int (if j > i then j else i))) s := rfl
  rw [e]; congr 3; split <;> omega
@[simp] theorem bi_abs (i : Int) : builtinC P call 0 [.d (.int i)] s = .ok (.d (.int (i.natAbs : Int))) s := by
  have e : builtinC P call 0 [.d (.int i)] s = .ok (.d (.int (if i < 0 then -i else i))) s := rfl
  rw [e]; congr 3; split <;> omega
theorem bi_sorted {xs : List D} (h : sortOk xs = true) : builtinC P call 10 [.d (.lst xs)] s = .ok (.d (.lst (sortD xs))) s := by
  simp [builtinC, builtin, bi1, FT.listOf, h]
@[simp] theorem newL_t {xs : List D} (h : xs.length ≤ 16777216) : newL true xs s = .ok (.ref s.length) (s ++ [.lst 0 xs]) := by simp [newL, h]
@[simp] theorem newL_f {xs : List D} (h : xs.length ≤ 16777216) : newL false xs s = .ok (.d (.lst xs)) s := by simp [newL, h]
theorem setIt_ok {n : Nat} {xs : List D} (h : s[n]? = some (.lst 0 xs)) {i : Int} (h0 : 0 ≤ i) (h1 : i < xs.length) (hx : xs.length ≤ 16777216) (v : D) : setIt (.ref n) (.d (.int i)) v s = some (s.set n (.lst 0 (xs.set i.toNat v))) := by
  have e : L2.ixN xs.length i = some i.toNat := by unfold L2.ixN; rw [if_pos h0, if_pos h1]
  simp only [setIt, h, e]
  rw [if_pos ⟨by omega, by omega⟩]
theorem meth_append {n : Nat} {xs : List D} (h : s[n]? = some (.lst 0 xs)) (hx : xs.length < 16777216) (v : D) : method 0 (.ref n) [.d v] s = some (.non, s.set n (.lst 0 (xs ++ [v]))) := by
  rw [method_0]; simp [h, hx, put]
theorem meth_pop0 {n : Nat} {xs : List D} {y : D} (h : s[n]? = some (.lst 0 (xs ++ [y]))) : method 2 (.ref n) [] s = some (y, s.set n (.lst 0 xs)) := by
  rw [method_2]; simp [h, put]
theorem meth_pop1 {n : Nat} {xs : List D} (h : s[n]? = some (.lst 0 xs)) {i : Int} (h0 : 0 ≤ i) (h1 : i < xs.length) (hx : xs.length ≤ 16777216) : method 2 (.ref n) [.d (.int i)] s = some (xs[i.toNat]'(by omega), s.set n (.lst 0 (xs.eraseIdx i.toNat))) := by
  have e : L2.ixN xs.length i = some i.toNat := by unfold L2.ixN; rw [if_pos h0, if_pos h1]
  rw [method_2]
  simp only [h, e]
  rw [if_pos ⟨by omega, by omega⟩, List.getElem?_eq_getElem (by omega)]
  rfl
@[simp] theorem recv_app {n lk : Nat} {xs : List D} (h : s[n]? = some (.lst lk xs)) : recvOk 0 (.ref n) s = true := by simp [recvOk, h]
@[simp] theorem recv_pop {n lk : Nat} {xs : List D} (h : s[n]? = some (.lst lk xs)) : recvOk 2 (.ref n) s = true := by simp [recvOk, h]
@[simp] theorem recv_join (x : Str) : recvOk 3 (.d (.str x)) s = true := Eq.trans rfl rfl
@[simp] theorem recv_split (x : Str) : recvOk 4 (.d (.str x)) s = true := Eq.trans rfl rfl
def cellL (s : S) (n : Nat) : Option (List D) := match s[n]? with
  | some (.lst 0 xs) => some xs
  | _ => none
theorem cellL_of {n : Nat} {xs : List D} (h : s[n]? = some (.lst 0 xs)) : cellL s n = some xs := by simp [cellL, h]
theorem cellL_at {n : Nat} {xs : List D} (h : cellL s n = some xs) : s[n]? = some (.lst 0 xs) := by
  unfold cellL at h
  split at h
  · rename_i e; rw [e]; cases h; rfl
  · cases h
@[simp] theorem cellL_set {n : Nat} {xs : List D} (h : n < s.length) : cellL (s.set n (.lst 0 xs)) n = some xs := cellL_of (by rw [List.getElem?_set_self h])
@[simp] theorem cellL_set_ne {n m : Nat} {c : Cell} (h : n ≠ m) : cellL (s.set n c) m = cellL s m := by unfold cellL; rw [List.getElem?_set_ne h]
@[simp] theorem cellL_app {n : Nat} {t : S} (h : n < s.length) : cellL (s ++ t) n = cellL s n := by unfold cellL; rw [List.getElem?_append_left h]
@[simp] theorem cellL_new {xs : List D} {t : S} : cellL (s ++ .lst 0 xs :: t) s.length = some xs := cellL_of (by simp)
@[simp] theorem cellL_new1 {c : Cell} {xs : List D} {t : S} : cellL (s ++ c :: .lst 0 xs :: t) (s.length + 1) = some xs := cellL_of (by simp)
@[simp] theorem cellL_new2 {c c2 : Cell} {xs : List D} {t : S} : cellL (s ++ c :: c2 :: .lst 0 xs :: t) (s.length + 2) = some xs := cellL_of (by simp)
theorem set_new {c d : Cell} {t : S} : (s ++ c :: t).set s.length d = s ++ d :: t := by simp
theorem set_new1 {c c1 d : Cell} {t : S} : (s ++ c :: c1 :: t).set (s.length + 1) d = s ++ c :: d :: t := by simp
theorem cell0 {L : Nat} {xs : List D} {t : S} (h : s.length = L) : cellL (s ++ .lst 0 xs :: t) L = some xs := by subst h; exact cellL_new
theorem cell1 {L : Nat} {c : Cell} {xs : List D} {t : S} (h : s.length = L) : cellL (s ++ c :: .lst 0 xs :: t) (L + 1) = some xs := by subst h; exact cellL_new1
theorem cell2 {L : Nat} {c c2 : Cell} {xs : List D} {t : S} (h : s.length = L) : cellL (s ++ c :: c2 :: .lst 0 xs :: t) (L + 2) = some xs := by subst h; exact cellL_new2
theorem put0 {L : Nat} {c d : Cell} {t : S} (h : s.length = L) : (s ++ c :: t).set L d = s ++ d :: t := by subst h; exact set_new
theorem put1 {L : Nat} {c c1 d : Cell} {t : S} (h : s.length = L) : (s ++ c :: c1 :: t).set (L + 1) d = s ++ c :: d :: t := by subst h; exact set_new1
theorem put2 {L : Nat} {c c1 c2 d : Cell} {t : S} (h : s.length = L) : (s ++ c :: c1 :: c2 :: t).set (L + 2) d = s ++ c :: c1 :: d :: t := by subst h; simp
theorem set_old {n : Nat} {d : Cell} {t : S} (h : n < s.length) : (s ++ t).set n d = s.set n d ++ t := by rw [List.set_append_left _ _ h]
theorem idx_cell {n : Nat} {xs : List D} (h : cellL s n = some xs) (i : Int) : indexC P call (.ref n) (.d (.int i)) s = R.of ((L2.atI xs i).map W.d) s := idx_ref (cellL_at h) i
theorem len_cell {n : Nat} {xs : List D} (h : cellL s n = some xs) : builtinC P call 3 [.ref n] s = .ok (.d (.int xs.length)) s := bi_len_ref (cellL_at h)
theorem tuple_cell {n : Nat} {xs : List D} (h : cellL s n = some xs) : builtinC P call 6 [.ref n] s = .ok (.d (.tup xs)) s := bi_tuple_ref (cellL_at h)
theorem set_cell {n : Nat} {xs : List D} (h : cellL s n = some xs) {i : Int} (h0 : 0 ≤ i) (h1 : i < xs.length) (hx : xs.length ≤ 16777216) (v : D) : setIt (.ref n) (.d (.int i)) v s = some (s.set n (.lst 0 (xs.set i.toNat v))) := setIt_ok (cellL_at h) h0 h1 hx v
theorem app_cell {n : Nat} {xs : List D} (h : cellL s n = some xs) (hx : xs.length < 16777216) (v : D) : method 0 (.ref n) [.d v] s = some (.non, s.set n (.lst 0 (xs ++ [v]))) := meth_append (cellL_at h) hx v
theorem pop_cell {n : Nat} {xs : List D} (h : cellL s n = some xs) {i : Int} (h0 : 0 ≤ i) (h1 : i < xs.length) (hx : xs.length ≤ 16777216) : method 2 (.ref n) [.d (.int i)] s = some (xs[i.toNat]'(by omega), s.set n (.lst 0 (xs.eraseIdx i.toNat))) := meth_pop1 (cellL_at h) h0 h1 hx
theorem pop0_cell {n : Nat} {xs : List D} {y : D} (h : cellL s n = some (xs ++ [y])) : method 2 (.ref n) [] s = some (y, s.set n (.lst 0 xs)) := meth_pop0 (cellL_at h)
theorem recv0_cell {n : Nat} {xs : List D} (h : cellL s n = some xs) : recvOk 0 (.ref n) s = true := recv_app (cellL_at h)
theorem recv2_cell {n : Nat} {xs : List D} (h : cellL s n = some xs) : recvOk 2 (.ref n) s = true := recv_pop (cellL_at h)
@[simp] theorem take_set_self (n : Nat) (c : Cell) : (s.set n c).take s.length = s.set n c := List.take_of_length_le (by simp)
@[simp] theorem seqC_tup (xs : List D) : seqC (.d (.tup xs)) s = some xs := Eq.trans rfl rfl
@[simp] theorem seqC_lst (xs : List D) : seqC (.d (.lst xs)) s = some xs := Eq.trans rfl rfl
theorem seqC_cell {n : Nat} {xs : List D} (h : cellL s n = some xs) : seqC (.ref n) s = some xs := by simp [seqC, seqOf, cellL_at h]
@[simp] theorem seqOf_tup (xs : List D) : seqOf (.d (.tup xs)) s = some xs := Eq.trans rfl rfl
@[simp] theorem seqOf_lst (xs : List D) : seqOf (.d (.lst xs)) s = some xs := Eq.trans rfl rfl
theorem seqOf_cell {n : Nat} {xs : List D} (h : cellL s n = some xs) : seqOf (.ref n) s = some xs := by simp [seqOf, cellL_at h]
@[simp] theorem srcOfE_tup (xs : List D) : srcOfE (.d (.tup xs)) s = some (.val xs) := Eq.trans rfl rfl
@[simp] theorem srcOfE_lst (xs : List D) : srcOfE (.d (.lst xs)) s = some (.val xs) := Eq.trans rfl rfl
@[simp] theorem srcL_lst (xs : List D) : srcL (.d (.lst xs)) s = some (.val xs) := Eq.trans rfl rfl
@[simp] theorem srcZ_tup (xs ys : List D) : srcZ (.d (.tup xs)) (.d (.tup ys)) s = some (.zip (.val xs) (.val ys)) := Eq.trans rfl rfl
@[simp] theorem srcZ_lst (xs ys : List D) : srcZ (.d (.lst xs)) (.d (.lst ys)) s = some (.zip (.val xs) (.val ys)) := Eq.trans rfl rfl
@[simp] theorem slice_lst (xs : List D) (lo hi : Option Int) : sliceOf (.d (.lst xs)) lo hi s = some (.lst (cut xs lo hi)) := Eq.trans rfl rfl
@[simp] theorem slice_tup (xs : List D) (lo hi : Option Int) : sliceOf (.d (.tup xs)) lo hi s = some (.tup (cut xs lo hi)) := Eq.trans rfl rfl
theorem slice_cell {n : Nat} {xs : List D} (h : cellL s n = some xs) (lo hi : Option Int) : sliceOf (.ref n) lo hi s = some (.lst (cut xs lo hi)) := by simp [sliceOf, val, cellL_at h, FT.cutD]
theorem truthy_cell {n : Nat} {xs : List D} (h : cellL s n = some xs) : FT.truthy (.ref n) s = some (!xs.isEmpty) := by simp [FT.truthy, val, cellL_at h]
theorem val_cell {n : Nat} {xs : List D} (h : cellL s n = some xs) : val (.ref n) s = some (.lst xs) := by simp [val, cellL_at h]
theorem leave_cell {n k : Nat} {xs : List D} (h : cellL s k = some xs) (hk : n ≤ k) : leave false n (.rt (.ref k) s) = .ok (.d (.lst xs)) (s.take n) := by
  simp only [leave, Bool.false_eq_true, if_false]
  rw [if_neg (by omega), cellL_at h]
end
theorem cut_take {α : Type} (xs : List α) {k : Int} (h : 0 ≤ k) : cut xs none (some k) = xs.take k.toNat := by
  have e : (if k < 0 then (k + (xs.length : Int)).toNat else min k.toNat xs.length) = min k.toNat xs.length := if_neg (by omega)
  simp only [cut, HT.sIx, e, Nat.sub_zero, List.drop_zero]
  rw [List.take_eq_take_iff]
  omega
theorem cut_drop {α : Type} (xs : List α) {k : Int} (h : 0 ≤ k) : cut xs (some k) none = xs.drop k.toNat := by
  have e : (if k < 0 then (k + (xs.length : Int)).toNat else min k.toNat xs.length) = min k.toNat xs.length := if_neg (by omega)
  simp only [cut, HT.sIx, e]
  rw [List.take_of_length_le (by simp)]
  by_cases hk : k.toNat ≤ xs.length
  · rw [Nat.min_eq_left hk]
  · rw [Nat.min_eq_right (by omega), List.drop_length, List.drop_of_length_le (by omega)]
theorem cut_mid {α : Type} (xs : List α) {j k : Int} (hj : 0 ≤ j) (h : 0 ≤ k) : cut xs (some j) (some k) = (xs.take k.toNat).drop j.toNat := by
  have e : (if k < 0 then (k + (xs.length : Int)).toNat else min k.toNat xs.length) = min k.toNat xs.length := if_neg (by omega)
  have e2 : (if j < 0 then (j + (xs.length : Int)).toNat else min j.toNat xs.length) = min j.toNat xs.length := if_neg (by omega)
  simp only [cut, HT.sIx, e, e2]
  apply List.ext_getElem?
  intro i
  simp only [List.getElem?_take, List.getElem?_drop]
  by_cases h1 : j.toNat ≤ xs.length
  · have e3 : min j.toNat xs.length = j.toNat := by omega
    rw [e3]
    by_cases h2 : j.toNat + i < min k.toNat xs.length
    · rw [if_pos (by omega), if_pos (by omega)]
    · rw [if_neg (by omega)]
      by_cases h3 : j.toNat + i < k.toNat
      · rw [if_pos h3, List.getElem?_eq_none (by omega)]
      · rw [if_neg h3]
  · have e3 : min j.toNat xs.length = xs.length := by omega
    rw [e3, if_neg (by omega)]
    split
    · rw [List.getElem?_eq_none (by omega)]
    · rfl
section
variable {P : Prog} {call : CallF} {s : S}
theorem cmp_cell_nil {n : Nat} {ws : List D} (h : cellL s n = some ws) (hp : D.plain (.lst ws) = true) : cmpC P call .NotEq (.ref n) (.d (.lst [])) s = .ok (.d (.bl (!ws.isEmpty))) s := by
  unfold cmpC
  simp only [own_ref, cmpop, val_cell h, val_d, hp, show D.plain (.lst []) = true from rfl, Bool.and_self, if_true]
  cases ws <;> rfl
end
end FT

namespace U
open PySem PySem.Spec PyProof.Rows FT
/-- a box, at most N draws old -/
def Bx (N : Nat) (c : Cell) : Prop := ∃ a b i : Int, c = .lst 0 [.int a, .int b, .int i] ∧ 0 ≤ a ∧ 0 ≤ b ∧ b < 4611686018427387904 ∧ 0 ≤ i ∧ i ≤ N
theorem Bx.mono {N M : Nat} {c : Cell} (h : Bx N c) (l : N ≤ M) : Bx M c := by
  obtain ⟨a, b, i, e, h1, h2, h3, h4, h5⟩ := h
  exact ⟨a, b, i, e, h1, h2, h3, h4, by omega⟩
def drawMax : Nat := 1000000000
theorem enumD_len (k : Int) (xs : List D) : (enumD k xs).length = xs.length := by
  induction xs generalizing k with
  | nil => rfl
  | cons x xs ih => simp [enumD, ih]
theorem enumD_at (xs : List D) : ∀ (k : Int) (i : Nat) (h : i < (enumD k xs).length), (enumD k xs)[i] = .tup [.int (k + i), xs[i]'(by rw [enumD_len] at h; exact h)] := by
  induction xs with
  | nil => intro k i h; simp [enumD] at h
  | cons x xs ih =>
    intro k i h
    cases i with
    | zero => simp [enumD]
    | succ i =>
      simp only [enumD, List.getElem_cons_succ]
      rw [ih]
      congr 3
      omega
section
variable {P : Prog} (hP : Ext P)
include hP
theorem take_ok {n N : Nat} {s : S} {k : Nat} {c : Cell} {z : Int} (hk : s[k]? = some c) (hb : Bx N c) (hN : N < drawMax) (h0 : 0 < z) (h1 : z < 1073741824) :
    ∃ v c', callN P (n + 1) 0 [.ref k, .d (.int z)] s = .ok (.d (.int v)) (s.set k c') ∧ Bx (N + 1) c' ∧ 0 ≤ v ∧ v < z := by
  obtain ⟨a, b, i, rfl, ha, hb0, hb1, hi0, hi1⟩ := hb
  have hkl : k < s.length := (List.getElem?_eq_some_iff.mp hk).1
  rw [callN_eq (F := f_law_take) (hP.fn 0 (by decide)) rfl rfl]
  have hc := cellL_of hk
  by_cases h : 0 < a
  · refine ⟨a % z, .lst 0 [.int (a / z), .int b, .int i], ?_, ⟨_, _, _, rfl, Int.ediv_nonneg ha (by omega), hb0, hb1, hi0, by omega⟩, Int.emod_nonneg _ (by omega), Int.emod_lt_of_pos _ h0⟩
    simp [f_law_take, b_law_take, idx_cell hc, h, bin_mod h0, bin_fdiv h0 h1, set_cell hc]
  · generalize ho : ((b + 48271 * (i + 1)) * (39373 + (i + 1))) % 2147483647 = once
    refine ⟨((((once + (i + 1) + b / 1000003) * (once % 40009 + 7)) % 2147483629 * 48271 + once) % 2147483587 / 64) % z, .lst 0 [.int a, .int b, .int (i + 1)], ?_, ⟨_, _, _, rfl, ha, hb0, hb1, by omega, by omega⟩, Int.emod_nonneg _ (by omega), Int.emod_lt_of_pos _ h0⟩
    have hc2 : cellL (s.set k (.lst 0 [.int a, .int b, .int (i + 1)])) k = some [.int a, .int b, .int (i + 1)] := cellL_set hkl
    unfold drawMax at hN
    have m1 : ∀ t : S, binop .Mult (.d (.int 48271)) (.d (.int (i + 1))) t = _ := fun t => bin_mul (.inl ⟨by decide, by decide⟩)
    have m2 : ∀ t : S, binop .Mult (.d (.int (b + 48271 * (i + 1)))) (.d (.int (39373 + (i + 1)))) t = _ := fun t => bin_mul (.inr ⟨by omega, by omega⟩)
    have m3 : ∀ (t : S) (x y : Int), binop .Mult (.d (.int x)) (.d (.int (y % 40009 + 7))) t = _ := fun t x y => bin_mul (.inr ⟨by omega, by omega⟩)
    have m4 : ∀ (t : S) (x : Int), binop .Mult (.d (.int x)) (.d (.int 48271)) t = _ := fun t x => bin_mul (.inr ⟨by decide, by decide⟩)
    simp [f_law_take, b_law_take, idx_cell hc, h, bin_mod h0, set_cell hc, idx_cell hc2, m1, m2, m3, m4, bin_mod (s := s.set k (.lst 0 [.int a, .int b, .int (i + 1)])) (j := 2147483647) (by decide), bin_mod (s := s.set k (.lst 0 [.int a, .int b, .int (i + 1)])) (j := 40009) (by decide), bin_mod (s := s.set k (.lst 0 [.int a, .int b, .int (i + 1)])) (j := 2147483629) (by decide), bin_mod (s := s.set k (.lst 0 [.int a, .int b, .int (i + 1)])) (j := 2147483587) (by decide), bin_fdiv (s := s.set k (.lst 0 [.int a, .int b, .int (i + 1)])) (j := 1000003) (by decide) (by decide), bin_fdiv (s := s.set k (.lst 0 [.int a, .int b, .int (i + 1)])) (j := 64) (by decide) (by decide), ho]
theorem cells_ok {n : Nat} {ns : List Int} (hl : ns.length ≤ 63) (s : S) : ∃ ms : List Int, callN P (n + 1) 1 [.d (.lst (ns.map .int)), .d (.int 3)] s = .ok (.d (.lst (ms.map .int))) s ∧ 1 ≤ ms.length ∧ ms.length ≤ 3 := by
  rw [callN_eq (F := f_law_cells) (hP.fn 1 (by decide)) rfl rfl]
  by_cases h0 : ns = []
  · subst h0
    refine ⟨[0], ?_, by simp, by simp⟩
    simp [f_law_cells, b_law_cells, cut_take, cut_mid, truthy_cell cellL_new, enumD, for_nil]
    rw [leave_cell (cellL_new1) (by omega)]
    simp
  · obtain ⟨ys, zs, e1, e2, h1, h3, hz, hz2⟩ : ∃ ys zs : List Int, (ns.map D.int).take 3 = ys.map .int ∧ ((ns.map D.int).take 63).drop 3 = zs.map .int ∧ 1 ≤ ys.length ∧ ys.length ≤ 3 ∧ (zs ≠ [] → ys.length = 3) ∧ zs.length ≤ 63 := by
      refine ⟨ns.take 3, (ns.take 63).drop 3, by simp [List.map_take], by simp [List.map_take, List.map_drop], ?_, ?_, fun h => ?_, ?_⟩
      · have : 0 < ns.length := by cases ns with | nil => exact absurd rfl h0 | cons => simp
        simp; omega
      · simp; omega
      · have : 0 < ((ns.take 63).drop 3).length := by cases he : (ns.take 63).drop 3 with | nil => exact absurd he h | cons => simp
        simp at this ⊢; omega
      · simp; omega
    have hy : (ys.map D.int).length ≤ 16777216 := by simp; omega
    have hyn : (ys.map D.int).isEmpty = false := by cases ys with | nil => simp at h1 | cons => rfl
    simp [f_law_cells, b_law_cells, cut_take, cut_mid, e1, e2, newL_t hy, truthy_cell cellL_new, hyn]
    have key := for_val (xs := enumD 0 (zs.map D.int)) (f := forF P (callN P n) (T.tup (Ts.cons (T.name 3) (Ts.cons (T.name 4) Ts.nil)))
              (Sms.cons (Sm.asg 5 (E.bin Operator.Mod (E.bi 4 (Es.cons (E.var 3) Es.nil)) (E.var 1)))
                (Sms.cons
                  (Sm.seti (E.var 2) (E.var 5)
                    (E.bin Operator.Add ((E.var 2).idx (E.var 5))
                      (E.bin Operator.Mult (E.var 4) (E.bin Operator.Add (E.var 3) (E.c (D.int 2))))))
                  Sms.nil))) (env := [some (W.d (D.lst (List.map D.int ns))), some (W.d (D.int 3)), some (W.ref (List.length s)), none, none, none]) (s := s ++ [.lst 0 (ys.map .int)])
      (fun i env t => ∃ (ms : List Int) (a b c : Option W), ms.length = ys.length ∧ env = [some (W.d (D.lst (List.map D.int ns))), some (W.d (D.int 3)), some (W.ref (List.length s)), a, b, c] ∧ t = s ++ [.lst 0 (ms.map .int)]) ⟨ys, none, none, none, rfl, rfl, rfl⟩ (by rw [enumD_len]; simp [LIM]; omega) fun i env t hi ⟨ms, a, b, c, hm, he, ht⟩ => by
        subst he ht
        rw [enumD_len] at hi
        simp at hi
        have hm3 : ms.length = 3 := by rw [hm]; exact hz (by intro z; subst z; simp at hi)
        rw [enumD_at]
        match ms, hm3 with
        | [x, y, z], _ =>
          have hc : cellL (s ++ [Cell.lst 0 [D.int x, .int y, .int z]]) s.length = some [.int x, .int y, .int z] := cellL_new
          have hi2 : (0 : Int) ≤ (i : Int) % 3 ∧ (i : Int) % 3 < 3 := ⟨Int.emod_nonneg _ (by decide), Int.emod_lt_of_pos _ (by decide)⟩
          have m1 : ∀ (t : S) (q : Int), binop .Mult (.d (.int q)) (.d (.int ((i : Int) + 2))) t = _ := fun t q => bin_mul (.inr ⟨by omega, by omega⟩)
          have hj : (i : Int) % 3 = 0 ∨ (i : Int) % 3 = 1 ∨ (i : Int) % 3 = 2 := by omega
          rcases hj with hj | hj | hj
          · refine ⟨[some (W.d (D.lst (List.map D.int ns))), some (W.d (D.int 3)), some (W.ref (List.length s)), some (W.d (D.int i)), some (W.d (D.int zs[i])), some (W.d (D.int 0))], s ++ [.lst 0 ([x + zs[i] * (i + 2), y, z].map .int)], ?_, [x + zs[i] * (i + 2), y, z], _, _, _, hm, rfl, rfl⟩
            simp [forF, bin_mod, idx_cell hc, m1, hj, set_cell hc]
          · refine ⟨[some (W.d (D.lst (List.map D.int ns))), some (W.d (D.int 3)), some (W.ref (List.length s)), some (W.d (D.int i)), some (W.d (D.int zs[i])), some (W.d (D.int 1))], s ++ [.lst 0 ([x, y + zs[i] * (i + 2), z].map .int)], ?_, [x, y + zs[i] * (i + 2), z], _, _, _, hm, rfl, rfl⟩
            simp [forF, bin_mod, idx_cell hc, m1, hj, set_cell hc]
          · refine ⟨[some (W.d (D.lst (List.map D.int ns))), some (W.d (D.int 3)), some (W.ref (List.length s)), some (W.d (D.int i)), some (W.d (D.int zs[i])), some (W.d (D.int 2))], s ++ [.lst 0 ([x, y, z + zs[i] * (i + 2)].map .int)], ?_, [x, y, z + zs[i] * (i + 2)], _, _, _, hm, rfl, rfl⟩
            simp [forF, bin_mod, idx_cell hc, m1, hj, set_cell hc]
    obtain ⟨env', s', e3, ms, a, b, c, hm, rfl, rfl⟩ := key
    refine ⟨ms, ?_, by omega, by omega⟩
    rw [e3]
    simp
    rw [leave_cell cellL_new (Nat.le_refl _)]
    simp
/-- a box out of the script's numbers; d: what this law adds -/
def b_box (d : Int) : Sms := (.cons (.asg 2 (.ite (.cmp .Lt (.var 1) (.bi 3 (.cons (.var 0) .nil))) (.idx (.var 0) (.var 1)) (.c (.int 0)))) (.cons (.ret (.lst true (.cons (.bin .Mult (.bi 0 (.cons (.var 2) .nil)) (.bi 4 (.cons (.cmp .GtE (.bi 0 (.cons (.var 2) .nil)) (.bin .Pow (.c (.int 10)) (.c (.int 18)))) .nil))) (.cons (.bin .Add (.bin .Add (.bin .Mod (.bi 4 (.cons (.var 2) .nil)) (.c (.int 2305843009213693951))) (.bin .Mult (.c (.int 39373)) (.var 1))) (.c (.int d))) (.cons (.c (.int 0)) .nil))))) .nil))
theorem box_ok {n f : Nat} {d : Int} {F : Fn} (hf : P.fn f = some F) (hF : F = { ps := 2, slots := 3, dfl := [], keep := true, body := b_box d }) (hd : 0 ≤ d ∧ d < 1000000) {ms : List Int} {i : Int} (h0 : 0 ≤ i) (h1 : i < ms.length) (h3 : ms.length ≤ 3) (s : S) :
    ∃ c, callN P (n + 1) f [.d (.lst (ms.map .int)), .d (.int i)] s = .ok (.ref s.length) (s ++ [c]) ∧ Bx 0 c := by
  subst hF
  rw [callN_eq hf rfl rfl]
  have hz : L2.atI (ms.map D.int) i = some (.int ms[i.toNat]) := by rw [atI_int h0 (by simpa using h1)]; simp
  generalize ms[i.toNat] = z at hz
  have hp : ∀ t : S, binop .Pow (.d (.int 10)) (.d (.int 18)) t = some (.d (.int 1000000000000000000)) := fun t => by simp [binop]
  have m1 : ∀ t : S, binop .Mult (.d (.int 39373)) (.d (.int i)) t = _ := fun t => bin_mul (.inl ⟨by omega, by omega⟩)
  obtain ⟨q, hq⟩ : ∃ q : Bool, ∀ t : S, cmpC P (callN P n) .GtE (.d (.int (z.natAbs : Int))) (.d (.int 1000000000000000000)) t = .ok (.d (.bl q)) t := ⟨_, fun t => cmp_ge _ _⟩
  have m2 : ∀ (t : S) (x : Int), binop .Mult (.d (.int x)) (.d (.int (if q = true then 1 else 0))) t = _ := fun t x => bin_mul (.inr (by split <;> exact ⟨by omega, by omega⟩))
  refine ⟨.lst 0 [.int ((z.natAbs : Int) * (if q = true then 1 else 0)), .int (z % 2305843009213693951 + 39373 * i + d), .int 0], ?_, _, _, _, rfl, ?_, ?_, ?_, Int.le_refl _, Int.le_refl _⟩
  · simp [b_box, h1, hz, hp, m1, m2, bin_mod, leave, hq, -cmp_ge]
  · exact Int.mul_nonneg (by omega) (by split <;> omega)
  · have := Int.emod_nonneg z (b := 2305843009213693951) (by omega)
    omega
  · have := Int.emod_lt_of_pos z (b := 2305843009213693951) (by omega)
    omega
/-- one of some goods -/
theorem of_ok {n N : Nat} {s : S} {k : Nat} {c : Cell} {xs : List D} (hk : s[k]? = some c) (hb : Bx N c) (hN : N < drawMax) (h0 : 0 < xs.length) (h1 : xs.length < 1073741824) :
    ∃ x c', callN P (n + 2) 2 [.ref k, .d (.lst xs)] s = .ok (.d x) (s.set k c') ∧ Bx (N + 1) c' ∧ x ∈ xs := by
  obtain ⟨v, c', e, hb', v0, v1⟩ := take_ok hP (n := n) (z := xs.length) hk hb hN (by omega) (by omega)
  rw [callN_eq (F := f_law_of) (hP.fn 2 (by decide)) rfl rfl]
  refine ⟨xs[v.toNat]'(by omega), c', ?_, hb', List.getElem_mem _⟩
  simp [f_law_of, b_law_of, e, atI_int v0 v1]
end
end U

namespace U
open PySem PySem.Spec PyProof.Rows FT
theorem erase_perm {α : Type} : ∀ {xs : List α} {i : Nat} (h : i < xs.length), (xs[i] :: xs.eraseIdx i).Perm xs
  | x :: xs, 0, h => by simp
  | x :: xs, i + 1, h => by
    simp only [List.getElem_cons_succ, List.eraseIdx_cons_succ]
    exact (List.Perm.swap _ _ _).trans ((erase_perm (xs := xs) (i := i) (by simpa using h)).cons x)
section
variable {P : Prog} (hP : Ext P)
include hP
/-- m of some goods, in a drawn order -/
theorem pick_ok {n N : Nat} {s : S} {k : Nat} {c : Cell} {xs : List D} {m : Int} (hk : s[k]? = some c) (hb : Bx N c) (hN : N + xs.length < drawMax) (h0 : 0 ≤ m) (h1 : xs.length < 1000000) :
    ∃ ys c', callN P (n + 2) 15 [.ref k, .d (.lst xs), .d (.int m)] s = .ok (.d (.lst ys)) (s.set k c') ∧ Bx (N + xs.length) c' ∧ ys.length = min m.toNat xs.length ∧ ∃ rest, (ys ++ rest).Perm xs := by
  rw [callN_eq (F := f_law_pick) (hP.fn 15 (by decide)) rfl rfl]
  have hkl : k < s.length := (List.getElem?_eq_some_iff.mp hk).1
  have hx : xs.length ≤ 16777216 := by omega
  have hm : min m.toNat xs.length < 4611686018427387904 := by omega
  have e0 : (-4611686018427387904 ≤ min m (xs.length : Int) ∧ min m (xs.length : Int) < 4611686018427387904) := by omega
  have e1 : (min m (xs.length : Int)).toNat = min m.toNat xs.length := by omega
  simp [f_law_pick, b_law_pick, newL_t hx, len_cell cellL_new, e0, e1]
  generalize hL : s.length = L
  have hkL : k < L := by omega
  have key := for_val (xs := (List.range (min m.toNat xs.length)).map fun (i : Nat) => D.int i) (f := forF P (callN P (n + 1)) (T.name 5)
                  (Sms.cons
                    (Sm.exp
                      (E.meth 0 (E.var 4)
                        (Es.cons
                          (E.meth 2 (E.var 3)
                            (Es.cons (E.call 0 (Es.cons (E.var 0) (Es.cons (E.bi 3 (Es.cons (E.var 3) Es.nil)) Es.nil)))
                              Es.nil))
                          Es.nil)))
                    Sms.nil)) (env := [some (W.ref k), some (W.d (D.lst xs)), some (W.d (D.int m)), some (W.ref L), some (W.ref (L + 1)), none]) (s := s ++ [Cell.lst 0 xs, Cell.lst 0 []])
    (fun i env t => ∃ (c1 : Cell) (pool found : List D) (a : Option W), Bx (N + i) c1 ∧ found.length = i ∧ (found ++ pool).Perm xs ∧ env = [some (W.ref k), some (W.d (D.lst xs)), some (W.d (D.int m)), some (W.ref L), some (W.ref (L + 1)), a] ∧ t = s.set k c1 ++ [Cell.lst 0 pool, Cell.lst 0 found])
    ⟨c, xs, [], none, hb, rfl, List.Perm.refl _, rfl, by rw [show s.set k c = s from by rw [List.getElem?_eq_some_iff] at hk; obtain ⟨_, e⟩ := hk; rw [← e]; simp]⟩ (by simp [LIM]; omega) fun i env t hi ⟨c1, pool, found, a, hb1, hf, hp, he, ht⟩ => by
      subst he ht
      simp at hi
      have hl1 : (s.set k c1).length = L := by simp [hL]
      have hpl : found.length + pool.length = xs.length := by rw [← List.length_append]; exact hp.length_eq
      have hc1 : (s.set k c1 ++ [Cell.lst 0 pool, Cell.lst 0 found])[k]? = some c1 := by rw [List.getElem?_append_left (by omega), List.getElem?_set_self hkl]
      have g1 : cellL (s.set k c1 ++ [Cell.lst 0 pool, Cell.lst 0 found]) L = some pool := cell0 hl1
      have g2 : cellL (s.set k c1 ++ [Cell.lst 0 pool, Cell.lst 0 found]) (L + 1) = some found := cell1 hl1
      obtain ⟨v, c2, e, hb2, v0, v1⟩ := take_ok hP (n := n) (z := pool.length) hc1 hb1 (by omega) (by omega) (by omega)
      have e3 : (s.set k c1 ++ [Cell.lst 0 pool, Cell.lst 0 found]).set k c2 = s.set k c2 ++ [Cell.lst 0 pool, Cell.lst 0 found] := by rw [List.set_append_left _ _ (by omega), List.set_set]
      rw [e3] at e
      have hl2 : (s.set k c2).length = L := by simp [hL]
      have g3 : cellL (s.set k c2 ++ [Cell.lst 0 pool, Cell.lst 0 found]) L = some pool := cell0 hl2
      have e4 : (s.set k c2 ++ [Cell.lst 0 pool, Cell.lst 0 found]).set L (Cell.lst 0 (pool.eraseIdx v.toNat)) = s.set k c2 ++ [Cell.lst 0 (pool.eraseIdx v.toNat), Cell.lst 0 found] := put0 hl2
      have g4 : cellL (s.set k c2 ++ [Cell.lst 0 (pool.eraseIdx v.toNat), Cell.lst 0 found]) (L + 1) = some found := cell1 hl2
      have e5 : (s.set k c2 ++ [Cell.lst 0 (pool.eraseIdx v.toNat), Cell.lst 0 found]).set (L + 1) (Cell.lst 0 (found ++ [pool[v.toNat]'(by omega)])) = s.set k c2 ++ [Cell.lst 0 (pool.eraseIdx v.toNat), Cell.lst 0 (found ++ [pool[v.toNat]'(by omega)])] := put1 hl2
      refine ⟨_, _, ?_, c2, pool.eraseIdx v.toNat, found ++ [pool[v.toNat]'(by omega)], some (.d (.int i)), hb2, by simp [hf], ?_, rfl, rfl⟩
      · simp [forF, recv0_cell g2, recv2_cell g1, len_cell g1, e, pop_cell g3 v0 v1 (by omega), e4, app_cell g4 (by omega), e5]
      · refine List.Perm.trans ?_ hp
        rw [List.append_assoc]
        refine List.Perm.append_left _ ?_
        exact erase_perm (by omega)
  obtain ⟨env', s', e3, c1, pool, found, a, hb1, hf, hp, rfl, rfl⟩ := key
  rw [e3]
  simp at hf hb1
  have hl1 : (s.set k c1).length = L := by simp [hL]
  refine ⟨found, c1, ?_, hb1.mono (by omega), hf, pool, hp⟩
  simp
  rw [leave_cell (cell1 hl1) (by omega)]
  simp
  rw [← hl1, List.take_left]
end
end U

namespace FT
open PySem PySem.Spec PyProof.Rows
def D.isStr : D → Bool
  | .str _ => true
  | _ => false
theorem isStr_of {x : D} (h : x.isStr = true) : ∃ z, x = .str z := by
  cases x <;> first | exact ⟨_, rfl⟩ | cases h
theorem str_ext {x y : Str} (h : x.cps.toList = y.cps.toList) : x = y := by
  cases x; cases y; simp at h; simp [h]
@[simp] theorem ltB_str (x y : Str) : D.ltB (.str x) (.str y) = decide (x.cps.toList < y.cps.toList) := rfl
theorem ltB_irr {x : D} (h : x.isStr = true) : D.ltB x x = false := by
  obtain ⟨z, rfl⟩ := isStr_of h
  simp [List.lt_irrefl]
theorem ltB_trans {x y z : D} (hx : x.isStr = true) (hy : y.isStr = true) (hz : z.isStr = true) (h1 : D.ltB x y = true) (h2 : D.ltB y z = true) : D.ltB x z = true := by
  obtain ⟨x, rfl⟩ := isStr_of hx
  obtain ⟨y, rfl⟩ := isStr_of hy
  obtain ⟨z, rfl⟩ := isStr_of hz
  simp at h1 h2 ⊢
  exact List.lt_trans h1 h2
theorem ltB_tri {x y : D} (hx : x.isStr = true) (hy : y.isStr = true) : x = y ∨ D.ltB x y = true ∨ D.ltB y x = true := by
  obtain ⟨x, rfl⟩ := isStr_of hx
  obtain ⟨y, rfl⟩ := isStr_of hy
  simp
  by_cases h : x = y
  · exact .inl h
  · refine .inr ?_
    by_cases h1 : x.cps.toList < y.cps.toList
    · exact .inl h1
    · by_cases h2 : y.cps.toList < x.cps.toList
      · exact .inr h2
      · exact absurd (str_ext (List.le_antisymm (List.not_lt.mp h2) (List.not_lt.mp h1))) h
theorem ltB_asymm {x y : D} (hx : x.isStr = true) (hy : y.isStr = true) (h : D.ltB x y = true) : D.ltB y x = false := by
  cases q : D.ltB y x with
  | false => rfl
  | true =>
    have := ltB_trans hx hy hx h q
    rw [ltB_irr hx] at this
    cases this
theorem o_insperm (x : D) : ∀ ys : List D, (ins1 x ys).Perm (x :: ys)
  | [] => List.Perm.refl _
  | y :: ys => by
    unfold ins1
    split
    · exact ((o_insperm x ys).cons y).trans (List.Perm.swap _ _ _)
    · exact List.Perm.refl _
theorem o_perm : ∀ xs : List D, (sortD xs).Perm xs
  | [] => List.Perm.refl _
  | x :: xs => by
    unfold sortD
    exact (o_insperm x _).trans ((o_perm xs).cons x)
theorem o_len (xs : List D) : (sortD xs).length = xs.length := (o_perm xs).length_eq
theorem o_mem {xs : List D} {x : D} : x ∈ sortD xs ↔ x ∈ xs := (o_perm xs).mem_iff
/-- strictly rising -/
def Rising (xs : List D) : Prop := xs.Pairwise fun x y => D.ltB x y = true
theorem ins1_rising {x : D} : ∀ {ys : List D}, (∀ y ∈ x :: ys, y.isStr = true) → Rising ys → x ∉ ys → Rising (ins1 x ys)
  | [], _, _, _ => by unfold ins1 Rising; simp
  | y :: ys, hs, hr, hx => by
    have hx1 := hs x (by simp)
    have hy1 := hs y (by simp)
    unfold Rising at hr
    rw [List.pairwise_cons] at hr
    unfold ins1
    split
    · rename_i hlt
      unfold Rising
      rw [List.pairwise_cons]
      refine ⟨fun z hz => ?_, ins1_rising (fun z hz => hs z (by rcases List.mem_cons.mp hz with e | e <;> simp [e])) hr.2 (fun hm => hx (by simp [hm]))⟩
      rcases List.mem_cons.mp ((o_insperm x ys).mem_iff.mp hz) with e | e
      · rw [e]; exact hlt
      · exact hr.1 z e
    · rename_i hlt
      have hxy : D.ltB x y = true := by
        rcases ltB_tri hx1 hy1 with e | e | e
        · exact absurd (by simp [e]) hx
        · exact e
        · exact absurd e hlt
      unfold Rising
      rw [List.pairwise_cons, List.pairwise_cons]
      refine ⟨fun z hz => ?_, hr.1, hr.2⟩
      rcases List.mem_cons.mp hz with e | e
      · rw [e]; exact hxy
      · exact ltB_trans hx1 hy1 (hs z (by simp [e])) hxy (hr.1 z e)
theorem sortD_rising : ∀ {xs : List D}, (∀ x ∈ xs, x.isStr = true) → xs.Nodup → Rising (sortD xs)
  | [], _, _ => by unfold sortD Rising; simp
  | x :: xs, hs, hn => by
    rw [List.nodup_cons] at hn
    unfold sortD
    refine ins1_rising (fun y hy => ?_) (sortD_rising (fun y hy => hs y (by simp [hy])) hn.2) (fun h => hn.1 (o_mem.mp h))
    rcases List.mem_cons.mp hy with e | e
    · rw [e]; exact hs x (by simp)
    · exact hs y (by simp [o_mem.mp e])
theorem rising_sub : ∀ {p l : List D}, (∀ x ∈ p, x.isStr = true) → Rising p → Rising l → (∀ x ∈ l, x ∈ p) → l.Sublist p
  | [], l, hs, hp, hl, h => by
    cases l with
    | nil => exact List.Sublist.refl _
    | cons b l => exact absurd (h b (by simp)) (by simp)
  | a :: p, [], hs, hp, hl, h => List.nil_sublist _
  | a :: p, b :: l, hs, hp, hl, h => by
    have hp' := List.pairwise_cons.mp hp
    have hl' := List.pairwise_cons.mp hl
    have sp : ∀ x ∈ p, x.isStr = true := fun x hx => hs x (by simp [hx])
    by_cases e : b = a
    · subst e
      refine List.Sublist.cons_cons _ (rising_sub sp hp'.2 hl'.2 fun x hx => ?_)
      rcases List.mem_cons.mp (h x (by simp [hx])) with e | e
      · have := hl'.1 x hx
        rw [e, ltB_irr (hs b (by simp))] at this
        cases this
      · exact e
    · have hb : b ∈ p := by
        rcases List.mem_cons.mp (h b (by simp)) with z | z
        · exact absurd z e
        · exact z
      refine List.Sublist.cons _ (rising_sub sp hp'.2 hl fun x hx => ?_)
      rcases List.mem_cons.mp (h x hx) with z | z
      · subst z
        have hab := hp'.1 b hb
        rcases List.mem_cons.mp hx with w | w
        · exact absurd w.symm e
        · have := ltB_asymm (hs x (by simp)) (sp b hb) hab
          rw [hl'.1 x w] at this
          cases this
      · exact z
/-- some of a rising pool, sorted, are a part of it -/
theorem sort_sub {p row rest : List D} (hs : p.all D.isStr = true) (hp : Rising p) (h : (row ++ rest).Perm p) : (sortD row).Sublist p := by
  have hs' : ∀ x ∈ p, x.isStr = true := List.all_eq_true.mp hs
  have hn : p.Nodup := by
    refine hp.imp_of_mem fun {a b} ha hb hab e => ?_
    subst e
    rw [ltB_irr (hs' a ha)] at hab
    cases hab
  have hr : ∀ x ∈ row, x ∈ p := fun x hx => h.mem_iff.mp (by simp [hx])
  have hnr : row.Nodup := (List.nodup_append.mp (h.symm.nodup hn)).1
  exact rising_sub hs' hp (sortD_rising (fun x hx => hs' x (hr x hx)) hnr) fun x hx => hr x (o_mem.mp hx)
/-- all parts of a list -/
def subs {α : Type} : List α → List (List α)
  | [] => [[]]
  | x :: xs => subs xs ++ (subs xs).map (x :: ·)
theorem mem_subs {α : Type} : ∀ {p l : List α}, l.Sublist p → l ∈ subs p
  | [], l, h => by simp at h; simp [h, subs]
  | x :: xs, l, h => by
    rw [subs, List.mem_append, List.mem_map]
    cases h with
    | cons _ h => exact .inl (mem_subs h)
    | cons_cons _ h => exact .inr ⟨_, mem_subs h, rfl⟩
theorem risingB {p : List D} (h : (p.zip (p.drop 1)).all (fun q => D.ltB q.1 q.2) = true) (hs : p.all D.isStr = true) : Rising p := by
  induction p with
  | nil => exact List.Pairwise.nil
  | cons a p ih =>
    cases p with
    | nil => simp [Rising]
    | cons b p =>
      simp only [List.drop_succ_cons, List.drop_zero, List.zip_cons_cons, List.all_cons, Bool.and_eq_true] at h hs
      have ih' := ih (by simpa using h.2) (by simp [hs])
      unfold Rising at ih' ⊢
      rw [List.pairwise_cons]
      refine ⟨fun z hz => ?_, ih'⟩
      rcases List.mem_cons.mp hz with e | e
      · rw [e]; exact h.1
      · exact ltB_trans hs.1 hs.2.1 (List.all_eq_true.mp hs.2.2 z e) h.1 ((List.pairwise_cons.mp ih').1 z e)
theorem sortOk_strs {xs : List D} (h : ∀ x ∈ xs, x.isStr = true) (hl : xs.length ≤ LIM) : sortOk xs = true := by
  unfold sortOk ltOk
  simp only [Bool.and_eq_true, List.all_eq_true, Bool.or_eq_true, decide_eq_true_eq, Bool.not_eq_true']
  refine ⟨⟨fun x hx => ?_, .inr fun x hx => ?_⟩, hl⟩
  · obtain ⟨z, rfl⟩ := isStr_of (h x hx)
    refine ⟨⟨rfl, rfl⟩, fun y hy => ?_⟩
    obtain ⟨u, rfl⟩ := isStr_of (h y hy)
    rfl
  · obtain ⟨z, rfl⟩ := isStr_of (h x hx)
    rfl
/-- a set and a number -/
def D.isFuse : D → Bool
  | .tup [.tup kin, .int _] => kin.all D.isStr
  | _ => false
theorem isFuse_of {x : D} (h : x.isFuse = true) : ∃ kin i, x = .tup [.tup kin, .int i] ∧ kin.all D.isStr = true := by
  unfold D.isFuse at h
  split at h
  · exact ⟨_, _, rfl, h⟩
  · cases h
theorem alikeL_strs : ∀ {xs ys : List D}, xs.all D.isStr = true → ys.all D.isStr = true → D.alikeL xs ys = true
  | [], _, _, _ => by simp [D.alikeL]
  | _ :: _, [], _, _ => by simp [D.alikeL]
  | x :: xs, y :: ys, hx, hy => by
    simp only [List.all_cons, Bool.and_eq_true] at hx hy
    obtain ⟨a, rfl⟩ := isStr_of hx.1
    obtain ⟨b, rfl⟩ := isStr_of hy.1
    simp only [D.alikeL, D.alike, Bool.true_and]
    exact alikeL_strs hx.2 hy.2
theorem plL_strs {xs : List D} (h : xs.all D.isStr = true) (n : Nat) : D.plL xs n = true := by
  rw [List.all_eq_true] at h
  induction xs with
  | nil => rw [D.plL]
  | cons x xs ih =>
    obtain ⟨z, rfl⟩ := isStr_of (h x (by simp))
    rw [D.plL, ih fun y hy => h y (by simp [hy])]
    cases n <;> rfl
theorem sortOk_fuses {xs : List D} (h : ∀ x ∈ xs, x.isFuse = true) (hl : xs.length ≤ LIM) : sortOk xs = true := by
  unfold sortOk ltOk
  simp only [Bool.and_eq_true, List.all_eq_true, Bool.or_eq_true, decide_eq_true_eq, Bool.not_eq_true']
  refine ⟨⟨fun x hx => ?_, .inl fun x hx => ?_⟩, hl⟩
  · obtain ⟨kin, i, rfl, hk⟩ := isFuse_of (h x hx)
    refine ⟨⟨?_, rfl⟩, fun y hy => ?_⟩
    · show D.pl (.tup [.tup kin, .int i]) (58 + 1 + 1) = true
      simp [D.pl, D.plL, plL_strs hk]
    · obtain ⟨kin', i', rfl, hk'⟩ := isFuse_of (h y hy)
      simp [D.alike, D.alikeL, alikeL_strs hk hk']
  · obtain ⟨kin, i, rfl, hk⟩ := isFuse_of (h x hx)
    rfl
end FT

namespace FT
open PySem PySem.Spec PyProof.Rows
section
variable {P : Prog}
theorem lift {n f : Nat} {ds : List D} {x : D} (h : callN P n f (ds.map .d) [] = .ok (.d x) []) {m : Nat} (l : n ≤ m) (s : S) : callN P m f (ds.map .d) s = .ok (.d x) s := by
  have := callN_on h s
  rw [List.append_nil] at this
  exact callN_ok_mono this l
theorem lift0 {n f : Nat} {x : D} (h : callN P n f [] [] = .ok (.d x) []) {m : Nat} (l : n ≤ m) (s : S) : callN P m f [] s = .ok (.d x) s := lift (ds := []) h l s
theorem lift1 {n f : Nat} {a x : D} (h : callN P n f [.d a] [] = .ok (.d x) []) {m : Nat} (l : n ≤ m) (s : S) : callN P m f [.d a] s = .ok (.d x) s := lift (ds := [a]) h l s
theorem lift2 {n f : Nat} {a b x : D} (h : callN P n f [.d a, .d b] [] = .ok (.d x) []) {m : Nat} (l : n ≤ m) (s : S) : callN P m f [.d a, .d b] s = .ok (.d x) s := lift (ds := [a, b]) h l s
end
def isTr : R FT.W → Bool
  | .ok (.d (.bl true)) [] => true
  | _ => false
theorem isTr_ok {r : R FT.W} (h : isTr r = true) : r = .ok (.d (.bl true)) [] := by
  unfold isTr at h
  split at h
  · rfl
  · cases h
mutual
def D.same2 : D → D → Bool
  | .non, .non => true
  | .bl a, .bl b => a == b
  | .int i, .int j => i == j
  | .str x, .str y => x.cps.toList == y.cps.toList
  | .tup xs, .tup ys => D.same2L xs ys
  | .lst xs, .lst ys => D.same2L xs ys
  | _, _ => false
def D.same2L : List D → List D → Bool
  | [], [] => true
  | x :: xs, y :: ys => D.same2 x y && D.same2L xs ys
  | _, _ => false
end
mutual
theorem D.same2_eq : ∀ (x y : D), D.same2 x y = true → x = y
  | x, y, h => by
    cases x <;> cases y <;> first
      | rfl
      | (simp only [D.same2] at h; exact congrArg D.str (str_ext (eq_of_beq h)))
      | (simp only [D.same2] at h; have := eq_of_beq h; rw [this])
      | (simp only [D.same2] at h; rw [D.same2L_eq _ _ h])
      | (simp [D.same2] at h; done)
theorem D.same2L_eq : ∀ (xs ys : List D), D.same2L xs ys = true → xs = ys
  | [], [], _ => rfl
  | [], _ :: _, h => by simp [D.same2L] at h
  | _ :: _, [], h => by simp [D.same2L] at h
  | x :: xs, y :: ys, h => by
    simp only [D.same2L, Bool.and_eq_true] at h
    rw [D.same2_eq x y h.1, D.same2L_eq xs ys h.2]
end
def isR (d : D) : R FT.W → Bool
  | .ok (.d x) [] => D.same2 x d
  | _ => false
theorem isR_ok {d : D} {r : R FT.W} (h : isR d r = true) : r = .ok (.d d) [] := by
  unfold isR at h
  split at h
  · rw [D.same2_eq _ _ h]
  · cases h
end FT
namespace U
open PySem PySem.Spec PyProof.Rows FT
section
variable {P : Prog} (hP : Ext P)
/-- lists no longer than the line, at every depth -/
def sized : D → Nat → Bool
  | .tup xs, n + 1 => decide (xs.length ≤ 16777216) && xs.all fun x => sized x n
  | .lst xs, n + 1 => decide (xs.length ≤ 16777216) && xs.all fun x => sized x n
  | .tup _, 0 => false
  | .lst _, 0 => false
  | .dic _ _, _ => false
  | .ins _ _, _ => false
  | .exc _ _, _ => false
  | _, _ => true
mutual
theorem eqv_refl : ∀ (x : D) (n : Nat), D.pl x n = true → D.eqv x x = true
  | x, n, h => by
    cases x with
    | non => rfl
    | bl b => simp [D.eqv]
    | int i => simp [D.eqv]
    | str z => simp [D.eqv, strEq]
    | tup xs => cases n with
      | zero => simp [D.pl] at h
      | succ n => simp only [D.eqv]; exact eqvL_refl xs n (by simpa [D.pl] using h)
    | lst xs => cases n with
      | zero => simp [D.pl] at h
      | succ n => simp only [D.eqv]; exact eqvL_refl xs n (by simpa [D.pl] using h)
    | dic => simp [D.pl] at h
    | ins => simp [D.pl] at h
    | exc => simp [D.pl] at h
theorem eqvL_refl : ∀ (xs : List D) (n : Nat), D.plL xs n = true → D.eqvL xs xs = true
  | [], _, _ => rfl
  | x :: xs, n, h => by
    simp only [D.plL, Bool.and_eq_true] at h
    simp only [D.eqvL, eqv_refl x n h.1, eqvL_refl xs n h.2, Bool.and_self]
end
theorem zip_self (xs : List D) : List.zipWith (fun a b => D.tup [a, b]) xs xs = xs.map fun x => .tup [x, x] := by
  induction xs with
  | nil => rfl
  | cons x xs ih => simp [ih]
include hP
theorem same_refl : ∀ (n : Nat) (x : D) (s : S), sized x n = true → callN P (n + 1) 3 [.d x, .d x] s = .ok (.d (.bl true)) s
  | n, x, s, h => by
    rw [callN_eq (F := f_law_same) (hP.fn 3 (by decide)) rfl rfl]
    cases x with
    | non => simp [f_law_same, b_law_same, isAny, isOne, classOf, isBlt, D.isN, cmp_eq, D.eqv]
    | bl b => simp [f_law_same, b_law_same, isAny, isOne, classOf, isBlt, D.isN, cmp_eq, D.eqv]
    | int i => simp [f_law_same, b_law_same, isAny, isOne, classOf, isBlt, D.isN, cmp_eq, D.eqv]
    | str z => simp [f_law_same, b_law_same, isAny, isOne, classOf, isBlt, D.isN, cmp_eq, D.eqv, strEq]
    | tup xs =>
      cases n with
      | zero => simp [sized] at h
      | succ n =>
        simp only [sized, Bool.and_eq_true, decide_eq_true_eq, List.all_eq_true] at h
        obtain ⟨hl, hx⟩ := h
        simp [f_law_same, b_law_same, isAny, isOne, classOf, isBlt, zip_self]
        rw [FT.comp_map (fun _ => D.bl true) (by
          intro d hd
          obtain ⟨x, hx', rfl⟩ := List.mem_map.mp hd
          simp [compF, same_refl n x s (hx x hx')]) (by simpa [LIM] using hl)]
        simp [hl]
        have := bi_all (P := P) (call := callN P (n + 1)) (s := s) (fun _ : D => true) (xs.map fun x => D.tup [x, x])
        simp at this
        simp [this]
    | lst xs =>
      cases n with
      | zero => simp [sized] at h
      | succ n =>
        simp only [sized, Bool.and_eq_true, decide_eq_true_eq, List.all_eq_true] at h
        obtain ⟨hl, hx⟩ := h
        simp [f_law_same, b_law_same, isAny, isOne, classOf, isBlt, zip_self]
        rw [FT.comp_map (fun _ => D.bl true) (by
          intro d hd
          obtain ⟨x, hx', rfl⟩ := List.mem_map.mp hd
          simp [compF, same_refl n x s (hx x hx')]) (by simpa [LIM] using hl)]
        simp [hl]
        have := bi_all (P := P) (call := callN P (n + 1)) (s := s) (fun _ : D => true) (xs.map fun x => D.tup [x, x])
        simp at this
        simp [this]
    | dic => cases n <;> simp [sized] at h
    | ins => cases n <;> simp [sized] at h
    | exc => cases n <;> simp [sized] at h
end
end U

namespace FT
open PySem PySem.Spec PyProof.Rows
def Sms.take : Nat → Sms → Sms
  | 0, _ => .nil
  | _, .nil => .nil
  | n + 1, .cons s ss => .cons s (Sms.take n ss)
def Sms.drop : Nat → Sms → Sms
  | 0, ss => ss
  | _, .nil => .nil
  | n + 1, .cons _ ss => Sms.drop n ss
theorem RS.seq_seq (r : RS) (f g : Env → S → RS) : (r.seq f).seq g = r.seq fun e s => (f e s).seq g := by cases r <;> rfl
theorem evSs_cut {P : Prog} {call : CallF} : ∀ (n : Nat) (ss : Sms) (env : Env) (s : S), evSs P call ss env s = (evSs P call (ss.take n) env s).seq fun env s => evSs P call (ss.drop n) env s
  | 0, ss, env, s => rfl
  | n + 1, .nil, env, s => rfl
  | n + 1, .cons st ss, env, s => by
    show (evS P call st env s).seq (fun env s => evSs P call ss env s) = ((evS P call st env s).seq fun env s => evSs P call (ss.take n) env s).seq fun env s => evSs P call (ss.drop n) env s
    rw [RS.seq_seq]
    congr 1
    funext env s
    exact evSs_cut n ss env s
/-- what is run on the last cells runs behind others -/
theorem evSs_on {P : Prog} {n : Nat} {ss : Sms} {env env' : Env} {s s' : S} (h : evSs P (callN P n) ss env s = .nx env' s') (t : S) : evSs P (callN P n) ss (shE t.length env) (t ++ s) = .nx (shE t.length env') (t ++ s') := by
  rw [sh_evSs (sh_callN (P := P) (t := t) n) ss env s, h]
  rfl
/-- a list of expressions, told on its own cells -/
theorem evEs_on {P : Prog} {n : Nat} {es : Es} {env : Env} {s s' : S} {ds : List D} (h : evEs P (callN P n) es env s = .ok (ds.map .d) s') (t : S) : evEs P (callN P n) es (shE t.length env) (t ++ s) = .ok (ds.map .d) (t ++ s') := by
  rw [sh_evEs (sh_callN (P := P) (t := t) n) es env s, h]
  show R.ok (List.map (W.sh t.length) (ds.map .d)) _ = _
  rw [List.map_map]
  rfl
/-- return f(..) -/
theorem ret_call {P : Prog} {n f : Nat} {es : Es} {env : Env} {s s' : S} {ds : List D} {w : W} {s2 : S} (h : evEs P (callN P n) es env s = .ok (ds.map .d) s') (h2 : callN P n f (ds.map .d) s' = .ok w s2) : evSs P (callN P n) (.cons (.ret (.call f es)) .nil) env s = .rt w s2 := by
  have e1 : evE P (callN P n) (.call f es) env s = (evEs P (callN P n) es env s).bind fun ws s => callN P n f ws s := by rw [evE]
  have e2 : evS P (callN P n) (.ret (.call f es)) env s = (evE P (callN P n) (.call f es) env s).then env fun w s => .rt w s := by rw [evS]
  show (evS P (callN P n) (.ret (.call f es)) env s).seq _ = _
  rw [e2, e1, h, R.bind_ok, h2]
  rfl
end FT

namespace K00
open PySem PySem.Spec PyProof.Rows L2 FT U
abbrev prog : PySem.Program := PySem.Challenge.pw_fusetrees_k00_errors
def top (i : Nat) : Stmt := prog.main.body.getD i (.Pass ⟨0, 0, 0, 0⟩)
/-- 1000 _law_box(_law_script, _law_k) 2:_law_cell -/
def b__law_box : Sms := (.cons (.asg 2 (.ite (.cmp .Lt (.var 1) (.bi 3 (.cons (.var 0) .nil))) (.idx (.var 0) (.var 1)) (.c (.int 0)))) (.cons (.ret (.lst true (.cons (.bin .Mult (.bi 0 (.cons (.var 2) .nil)) (.bi 4 (.cons (.cmp .GtE (.bi 0 (.cons (.var 2) .nil)) (.bin .Pow (.c (.int 10)) (.c (.int 18)))) .nil))) (.cons (.bin .Add (.bin .Add (.bin .Mod (.bi 4 (.cons (.var 2) .nil)) (.c (.int 2305843009213693951))) (.bin .Mult (.c (.int 39373)) (.var 1))) (.c (.int 81700))) (.cons (.c (.int 0)) .nil))))) .nil))
def f__law_box : Fn := { ps := 2, slots := 3, dfl := [], keep := true, body := b__law_box }
/-- 1001 _law_sorts(_law_caught) 1:_law_kinds_so -/
def b__law_sorts : Sms := (.cons (.asg 1 (.lst false (.cons (.isi (.var 0) [(true, 901)]) (.cons (.isi (.var 0) [(true, 902)]) (.cons (.isi (.var 0) [(true, 903)]) .nil))))) (.cons (.asg 1 (.bin .Add (.var 1) (.lst false (.cons (.isi (.var 0) [(true, 904)]) (.cons (.isi (.var 0) [(true, 905)]) .nil))))) (.cons (.asg 1 (.bin .Add (.var 1) (.lst false (.cons (.isi (.var 0) [(true, 906)]) .nil)))) (.cons (.asg 1 (.bin .Add (.var 1) (.lst false (.cons (.isi (.var 0) [(true, 909)]) (.cons (.isi (.var 0) [(true, 910)]) .nil))))) (.cons (.asg 1 (.bin .Add (.var 1) (.lst false (.cons (.isi (.var 0) [(true, 911)]) .nil)))) (.cons (.ret (.bin .Add (.var 1) (.lst false (.cons (.isi (.var 0) [(true, 907)]) (.cons (.isi (.var 0) [(true, 908)]) (.cons (.isi (.var 0) [(true, 912)]) .nil)))))) .nil))))))
def f__law_sorts : Fn := { ps := 1, slots := 2, dfl := [], keep := false, body := b__law_sorts }
/-- 1002 _law_right(_law_box_here) 1:_law_far 2:_law_tag 3:_law_kin_so 4:_law_every_so 5:_law_k 6:_law_own 7:_law_j 8:_law_got 9:_law_due -/
def b__law_right : Sms := (.cons (.par [1, 2] (.cons (.bin .Sub (.call 0 (.cons (.var 0) (.cons (.bin .Pow (.c (.int 10)) (.c (.int 9))) .nil))) (.bin .Mult (.c (.int 5)) (.bin .Pow (.c (.int 10)) (.c (.int 8))))) (.cons (.call 2 (.cons (.var 0) (.cons (.lst false (.cons (.c (.str ⟨#[97]⟩)) (.cons (.c (.str ⟨#[97, 110, 116, 115]⟩)) (.cons (.c (.str ⟨#[97, 98, 99, 100, 101, 102, 103, 104]⟩)) (.cons (.c (.str ⟨#[122, 122]⟩)) .nil))))) .nil))) .nil))) (.cons (.asg 3 (.tup (.cons (.var 2) (.cons (.c (.str ⟨#[122, 122, 122]⟩)) .nil)))) (.cons (.asg 4 (.lst false (.cons (.mk 901 (.cons (.var 1) .nil) .nil [0]) (.cons (.mk 902 (.cons (.var 1) .nil) .nil [0]) (.cons (.mk 903 (.cons (.var 1) .nil) .nil [0]) (.cons (.mk 904 (.cons (.var 2) .nil) .nil [0]) .nil)))))) (.cons (.asg 4 (.bin .Add (.var 4) (.lst false (.cons (.mk 905 (.cons (.var 3) .nil) .nil [0]) (.cons (.mk 906 .nil .nil []) (.cons (.mk 909 .nil .nil []) .nil)))))) (.cons (.asg 4 (.bin .Add (.var 4) (.lst false (.cons (.mk 910 (.cons (.var 2) .nil) .nil [0]) (.cons (.mk 911 (.cons (.var 2) .nil) .nil [0]) (.cons (.mk 907 .nil .nil []) (.cons (.mk 908 .nil .nil []) (.cons (.mk 912 (.cons (.var 1) .nil) .nil [0]) .nil)))))))) (.cons (.for_ (.tup (.cons (.name 5) (.cons (.name 6) .nil))) (.enum (.var 4)) (.cons (.ife (.not (.call 3 (.cons (.call 1001 (.cons (.var 6) .nil)) (.cons (.comp false (.cmp .Eq (.var 7) (.var 5)) (.name 7) (.range1 (.c (.int 12))) .nil [7]) .nil)))) (.cons (.ret (.c (.bl false))) .nil) .nil) (.cons (.ife (.bop .Or (.cons (.not (.isi (.var 6) [(true, 900)])) (.cons (.not (.isi (.var 6) [(false, 5)])) (.cons (.isi (.var 6) [(false, 6)]) .nil)))) (.cons (.ret (.c (.bl false))) .nil) .nil) .nil))) (.cons (.asg 8 (.lst true (.cons (.attr (.idx (.var 4) (.c (.int 0))) 0) (.cons (.attr (.idx (.var 4) (.c (.int 1))) 1) (.cons (.attr (.idx (.var 4) (.c (.int 2))) 2) (.cons (.attr (.idx (.var 4) (.c (.int 3))) 3) (.cons (.attr (.idx (.var 4) (.c (.int 4))) 4) .nil))))))) (.cons (.asg 8 (.catm (.var 8) (.lst false (.cons (.attr (.idx (.var 4) (.c (.int 7))) 3) (.cons (.attr (.idx (.var 4) (.c (.int 8))) 3) (.cons (.attr (.idx (.var 4) (.c (.int 11))) 2) .nil)))))) (.cons (.asg 9 (.lst false (.cons (.var 1) (.cons (.var 1) (.cons (.var 1) (.cons (.var 2) (.cons (.var 3) (.cons (.var 2) (.cons (.var 2) (.cons (.var 1) .nil)))))))))) (.cons (.asg 8 (.catm (.var 8) (.lst false (.cons (.attr (.mk 901 .nil (.cons (.var 1) .nil) [0]) 0) (.cons (.attr (.mk 902 .nil (.cons (.c (.int 7)) .nil) [0]) 1) .nil))))) (.cons (.asg 8 (.catm (.var 8) (.lst false (.cons (.attr (.mk 903 .nil (.cons (.neg (.c (.int 1))) .nil) [0]) 2) (.cons (.attr (.mk 904 .nil (.cons (.c (.str ⟨#[98]⟩)) .nil) [0]) 3) .nil))))) (.cons (.asg 9 (.bin .Add (.var 9) (.lst false (.cons (.var 1) (.cons (.c (.int 7)) (.cons (.neg (.c (.int 1))) (.cons (.c (.str ⟨#[98]⟩)) .nil))))))) (.cons (.asg 8 (.catm (.var 8) (.lst false (.cons (.attr (.mk 905 .nil (.cons (.var 3) .nil) [0]) 4) (.cons (.attr (.mk 910 .nil (.cons (.var 2) .nil) [0]) 3) .nil))))) (.cons (.exp (.meth 0 (.var 8) (.cons (.attr (.mk 911 .nil (.cons (.var 2) .nil) [0]) 3) .nil))) (.cons (.ret (.call 3 (.cons (.bin .Add (.var 8) (.lst false (.cons (.attr (.mk 912 .nil (.cons (.bin .Pow (.c (.int 10)) (.c (.int 30))) .nil) [0]) 2) .nil))) (.cons (.bin .Add (.var 9) (.lst false (.cons (.var 3) (.cons (.var 2) (.cons (.var 2) (.cons (.bin .Pow (.c (.int 10)) (.c (.int 30))) .nil)))))) .nil)))) .nil)))))))))))))))
def f__law_right : Fn := { ps := 1, slots := 10, dfl := [], keep := false, body := b__law_right }
/-- 1003 law(_law_script) 1:_law_cells_here 2:_law_k -/
def b_law : Sms := (.cons (.asg 1 (.call 1 (.cons (.var 0) (.cons (.c (.int 3)) .nil)))) (.cons (.ret (.bi 1 (.cons (.comp false (.call 1002 (.cons (.call 1000 (.cons (.var 1) (.cons (.var 2) .nil))) .nil)) (.name 2) (.range1 (.bi 3 (.cons (.var 1) .nil))) .nil [2]) .nil))) .nil))
def f_law : Fn := { ps := 1, slots := 3, dfl := [], keep := false, body := b_law }
def own : List Fn := [f__law_box, f__law_sorts, f__law_right, f_law]
def P : Prog := { fn := fun i => if i < 1000 then ulist[i]? else own[i - 1000]?, cls := Hd.clsOf errs }
theorem ext : Ext P := ⟨fun i h => if_pos h, rfl⟩
def nms : List (Nat × Str) := [(1000, "_law_box"), (0, "_law_take"), (1, "_law_cells"), (2, "_law_of"), (3, "_law_same"), (1001, "_law_sorts"), (1002, "_law_right"), (1003, "law")]
def kwl : Hd.Kwl := []
def xs : List Nat := [900, 901, 902, 903, 904, 905, 906, 907, 908, 909, 910, 911, 912]
def hs : List Nat := []
def ckl : Hd.Kwl := [(901, 1, [], [0]), (901, 0, ["place"], [0]), (902, 1, [], [0]), (902, 0, ["piece"], [0]), (903, 1, [], [0]), (903, 0, ["number"], [0]), (904, 1, [], [0]), (904, 0, ["name"], [0]), (905, 1, [], [0]), (905, 0, ["some"], [0]), (906, 0, [], []), (907, 0, [], []), (908, 0, [], []), (909, 0, [], []), (910, 1, [], [0]), (910, 0, ["name"], [0]), (911, 1, [], [0]), (911, 0, ["name"], [0]), (912, 1, [], [0]), (912, 0, ["number"], [0])]
def cnm : Nat → Str
  | 900 => "FuseError"
  | 901 => "BadFuse"
  | 902 => "BadText"
  | 903 => "BadLine"
  | 904 => "NoSocket"
  | 905 => "NoFuse"
  | 906 => "OtherSockets"
  | 907 => "NoFit"
  | 908 => "TooMuch"
  | 909 => "NothingDone"
  | 910 => "Known"
  | 911 => "NoHouse"
  | 912 => "NoNumber"
  | _ => ""
def M : Nm := {
  kn := fun i => (nms.lookup i).isSome, nm := fun i => (nms.lookup i).getD (cnm i), atn := atnU, isc := fun i => xs.contains i, mtn := fun _ => "",
  kw := Hd.kwOf kwl, ck := Hd.kwOf ckl, hk := fun i => hs.contains i,
  gc := [] }
def d__law_box : He.DefD := ⟨("_law_box", none), "_law_box", "_law_box", defArgs (top 15), defBody (top 15), defScope (top 15), [], []⟩
def e__law_box : Hd.DE := ⟨f__law_box, d__law_box, ["_law_script", "_law_k"], ["_law_script", "_law_k", "_law_cell"]⟩
def d_law_take : He.DefD := ⟨("_law_take", none), "_law_take", "_law_take", defArgs (top 16), defBody (top 16), defScope (top 16), [], []⟩
def e_law_take : Hd.DE := ⟨f_law_take, d_law_take, ["_law_box_here", "_law_size_so"], ["_law_box_here", "_law_size_so", "_law_kin_so", "_law_once", "_law_far", "_law_again"]⟩
def d_law_cells : He.DefD := ⟨("_law_cells", none), "_law_cells", "_law_cells", defArgs (top 17), defBody (top 17), defScope (top 17), [], []⟩
def e_law_cells : Hd.DE := ⟨f_law_cells, d_law_cells, ["_law_script", "_law_top_so"], ["_law_script", "_law_top_so", "_law_cells_so", "_law_k", "_law_cell", "_law_at_so"]⟩
def d_law_of : He.DefD := ⟨("_law_of", none), "_law_of", "_law_of", defArgs (top 18), defBody (top 18), defScope (top 18), [], []⟩
def e_law_of : Hd.DE := ⟨f_law_of, d_law_of, ["_law_box_here", "_law_goods_so"], ["_law_box_here", "_law_goods_so"]⟩
def d_law_same : He.DefD := ⟨("_law_same", none), "_law_same", "_law_same", defArgs (top 19), defBody (top 19), defScope (top 19), [], []⟩
def e_law_same : Hd.DE := ⟨f_law_same, d_law_same, ["_law_got", "_law_due"], ["_law_got", "_law_due", "_law_mine", "_law_its"]⟩
def d__law_sorts : He.DefD := ⟨("_law_sorts", none), "_law_sorts", "_law_sorts", defArgs (top 20), defBody (top 20), defScope (top 20), [], []⟩
def e__law_sorts : Hd.DE := ⟨f__law_sorts, d__law_sorts, ["_law_caught"], ["_law_caught", "_law_kinds_so"]⟩
def d__law_right : He.DefD := ⟨("_law_right", none), "_law_right", "_law_right", defArgs (top 21), defBody (top 21), defScope (top 21), [], []⟩
def e__law_right : Hd.DE := ⟨f__law_right, d__law_right, ["_law_box_here"], ["_law_box_here", "_law_far", "_law_tag", "_law_kin_so", "_law_every_so", "_law_k", "_law_own", "_law_j", "_law_got", "_law_due"]⟩
def d_law : He.DefD := ⟨("law", none), "law", "law", defArgs (top 22), defBody (top 22), defScope (top 22), [], []⟩
def e_law : Hd.DE := ⟨f_law, d_law, ["_law_script"], ["_law_script", "_law_cells_here", "_law_k"]⟩
def es : List (Nat × Hd.DE) := [(1000, e__law_box), (0, e_law_take), (1, e_law_cells), (2, e_law_of), (3, e_law_same), (1001, e__law_sorts), (1002, e__law_right), (1003, e_law)]
theorem bi__law_box : Hd.BindsP d__law_box ["_law_script", "_law_k"] := fun kV doc pm an cdv ct us hl => match us, hl with | [_, _], _ => rfl
theorem bi_law_take : Hd.BindsP d_law_take ["_law_box_here", "_law_size_so"] := fun kV doc pm an cdv ct us hl => match us, hl with | [_, _], _ => rfl
theorem bi_law_cells : Hd.BindsP d_law_cells ["_law_script", "_law_top_so"] := fun kV doc pm an cdv ct us hl => match us, hl with | [_, _], _ => rfl
theorem bi_law_of : Hd.BindsP d_law_of ["_law_box_here", "_law_goods_so"] := fun kV doc pm an cdv ct us hl => match us, hl with | [_, _], _ => rfl
theorem bi_law_same : Hd.BindsP d_law_same ["_law_got", "_law_due"] := fun kV doc pm an cdv ct us hl => match us, hl with | [_, _], _ => rfl
theorem bi__law_sorts : Hd.BindsP d__law_sorts ["_law_caught"] := fun kV doc pm an cdv ct us hl => match us, hl with | [_], _ => rfl
theorem bi__law_right : Hd.BindsP d__law_right ["_law_box_here"] := fun kV doc pm an cdv ct us hl => match us, hl with | [_], _ => rfl
theorem bi_law : Hd.BindsP d_law ["_law_script"] := fun kV doc pm an cdv ct us hl => match us, hl with | [_], _ => rfl
def ci_BadFuse : Stmt := Hd.inCls (top 2) 0
def c_BadFuse : Hd.CE := ⟨er_BadFuse, "place", ⟨("BadFuse", some "__init__"), "__init__", "BadFuse.__init__", defArgs ci_BadFuse, defBody ci_BadFuse, defScope ci_BadFuse, [], []⟩⟩
def ci_BadText : Stmt := Hd.inCls (top 3) 0
def c_BadText : Hd.CE := ⟨er_BadText, "piece", ⟨("BadText", some "__init__"), "__init__", "BadText.__init__", defArgs ci_BadText, defBody ci_BadText, defScope ci_BadText, [], []⟩⟩
def ci_BadLine : Stmt := Hd.inCls (top 4) 0
def c_BadLine : Hd.CE := ⟨er_BadLine, "number", ⟨("BadLine", some "__init__"), "__init__", "BadLine.__init__", defArgs ci_BadLine, defBody ci_BadLine, defScope ci_BadLine, [], []⟩⟩
def ci_NoSocket : Stmt := Hd.inCls (top 5) 0
def c_NoSocket : Hd.CE := ⟨er_NoSocket, "name", ⟨("NoSocket", some "__init__"), "__init__", "NoSocket.__init__", defArgs ci_NoSocket, defBody ci_NoSocket, defScope ci_NoSocket, [], []⟩⟩
def ci_NoFuse : Stmt := Hd.inCls (top 6) 0
def c_NoFuse : Hd.CE := ⟨er_NoFuse, "some", ⟨("NoFuse", some "__init__"), "__init__", "NoFuse.__init__", defArgs ci_NoFuse, defBody ci_NoFuse, defScope ci_NoFuse, [], []⟩⟩
def ci_OtherSockets : Stmt := Hd.inCls (top 7) 0
def c_OtherSockets : Hd.CE := ⟨er_OtherSockets, "given", ⟨("OtherSockets", some "__init__"), "__init__", "OtherSockets.__init__", defArgs ci_OtherSockets, defBody ci_OtherSockets, defScope ci_OtherSockets, [], []⟩⟩
def ci_NoFit : Stmt := Hd.inCls (top 8) 0
def c_NoFit : Hd.CE := ⟨er_NoFit, "given", ⟨("NoFit", some "__init__"), "__init__", "NoFit.__init__", defArgs ci_NoFit, defBody ci_NoFit, defScope ci_NoFit, [], []⟩⟩
def ci_TooMuch : Stmt := Hd.inCls (top 9) 0
def c_TooMuch : Hd.CE := ⟨er_TooMuch, "given", ⟨("TooMuch", some "__init__"), "__init__", "TooMuch.__init__", defArgs ci_TooMuch, defBody ci_TooMuch, defScope ci_TooMuch, [], []⟩⟩
def ci_NothingDone : Stmt := Hd.inCls (top 10) 0
def c_NothingDone : Hd.CE := ⟨er_NothingDone, "given", ⟨("NothingDone", some "__init__"), "__init__", "NothingDone.__init__", defArgs ci_NothingDone, defBody ci_NothingDone, defScope ci_NothingDone, [], []⟩⟩
def ci_Known : Stmt := Hd.inCls (top 11) 0
def c_Known : Hd.CE := ⟨er_Known, "name", ⟨("Known", some "__init__"), "__init__", "Known.__init__", defArgs ci_Known, defBody ci_Known, defScope ci_Known, [], []⟩⟩
def ci_NoHouse : Stmt := Hd.inCls (top 12) 0
def c_NoHouse : Hd.CE := ⟨er_NoHouse, "name", ⟨("NoHouse", some "__init__"), "__init__", "NoHouse.__init__", defArgs ci_NoHouse, defBody ci_NoHouse, defScope ci_NoHouse, [], []⟩⟩
def ci_NoNumber : Stmt := Hd.inCls (top 13) 0
def c_NoNumber : Hd.CE := ⟨er_NoNumber, "number", ⟨("NoNumber", some "__init__"), "__init__", "NoNumber.__init__", defArgs ci_NoNumber, defBody ci_NoNumber, defScope ci_NoNumber, [], []⟩⟩
def ct : Hd.CT := ⟨errs, [(901, c_BadFuse), (902, c_BadText), (903, c_BadLine), (904, c_NoSocket), (905, c_NoFuse), (906, c_OtherSockets), (907, c_NoFit), (908, c_TooMuch), (909, c_NothingDone), (910, c_Known), (911, c_NoHouse), (912, c_NoNumber)], xs, hs, ckl⟩
theorem ki_BadFuse_0 : Hd.KInitP c_BadFuse.d (initPs c_BadFuse.e.arg c_BadFuse.f) 1 [] [0] := fun kV doc pm an cdv ct a us ws h1 h2 => match us, ws, h1, h2 with | [u0], [], _, _ => ⟨_, rfl, rfl⟩
theorem ki_BadFuse_1 : Hd.KInitP c_BadFuse.d (initPs c_BadFuse.e.arg c_BadFuse.f) 0 ["place"] [0] := fun kV doc pm an cdv ct a us ws h1 h2 => match us, ws, h1, h2 with | [], [w0], _, _ => ⟨_, rfl, rfl⟩
theorem ki_BadText_0 : Hd.KInitP c_BadText.d (initPs c_BadText.e.arg c_BadText.f) 1 [] [0] := fun kV doc pm an cdv ct a us ws h1 h2 => match us, ws, h1, h2 with | [u0], [], _, _ => ⟨_, rfl, rfl⟩
theorem ki_BadText_1 : Hd.KInitP c_BadText.d (initPs c_BadText.e.arg c_BadText.f) 0 ["piece"] [0] := fun kV doc pm an cdv ct a us ws h1 h2 => match us, ws, h1, h2 with | [], [w0], _, _ => ⟨_, rfl, rfl⟩
theorem ki_BadLine_0 : Hd.KInitP c_BadLine.d (initPs c_BadLine.e.arg c_BadLine.f) 1 [] [0] := fun kV doc pm an cdv ct a us ws h1 h2 => match us, ws, h1, h2 with | [u0], [], _, _ => ⟨_, rfl, rfl⟩
theorem ki_BadLine_1 : Hd.KInitP c_BadLine.d (initPs c_BadLine.e.arg c_BadLine.f) 0 ["number"] [0] := fun kV doc pm an cdv ct a us ws h1 h2 => match us, ws, h1, h2 with | [], [w0], _, _ => ⟨_, rfl, rfl⟩
theorem ki_NoSocket_0 : Hd.KInitP c_NoSocket.d (initPs c_NoSocket.e.arg c_NoSocket.f) 1 [] [0] := fun kV doc pm an cdv ct a us ws h1 h2 => match us, ws, h1, h2 with | [u0], [], _, _ => ⟨_, rfl, rfl⟩
theorem ki_NoSocket_1 : Hd.KInitP c_NoSocket.d (initPs c_NoSocket.e.arg c_NoSocket.f) 0 ["name"] [0] := fun kV doc pm an cdv ct a us ws h1 h2 => match us, ws, h1, h2 with | [], [w0], _, _ => ⟨_, rfl, rfl⟩
theorem ki_NoFuse_0 : Hd.KInitP c_NoFuse.d (initPs c_NoFuse.e.arg c_NoFuse.f) 1 [] [0] := fun kV doc pm an cdv ct a us ws h1 h2 => match us, ws, h1, h2 with | [u0], [], _, _ => ⟨_, rfl, rfl⟩
theorem ki_NoFuse_1 : Hd.KInitP c_NoFuse.d (initPs c_NoFuse.e.arg c_NoFuse.f) 0 ["some"] [0] := fun kV doc pm an cdv ct a us ws h1 h2 => match us, ws, h1, h2 with | [], [w0], _, _ => ⟨_, rfl, rfl⟩
theorem ki_OtherSockets_0 : Hd.KInitP c_OtherSockets.d (initPs c_OtherSockets.e.arg c_OtherSockets.f) 0 [] [] := fun kV doc pm an cdv ct a us ws h1 h2 => match us, ws, h1, h2 with | [], [], _, _ => ⟨_, rfl, rfl⟩
theorem ki_NoFit_0 : Hd.KInitP c_NoFit.d (initPs c_NoFit.e.arg c_NoFit.f) 0 [] [] := fun kV doc pm an cdv ct a us ws h1 h2 => match us, ws, h1, h2 with | [], [], _, _ => ⟨_, rfl, rfl⟩
theorem ki_TooMuch_0 : Hd.KInitP c_TooMuch.d (initPs c_TooMuch.e.arg c_TooMuch.f) 0 [] [] := fun kV doc pm an cdv ct a us ws h1 h2 => match us, ws, h1, h2 with | [], [], _, _ => ⟨_, rfl, rfl⟩
theorem ki_NothingDone_0 : Hd.KInitP c_NothingDone.d (initPs c_NothingDone.e.arg c_NothingDone.f) 0 [] [] := fun kV doc pm an cdv ct a us ws h1 h2 => match us, ws, h1, h2 with | [], [], _, _ => ⟨_, rfl, rfl⟩
theorem ki_Known_0 : Hd.KInitP c_Known.d (initPs c_Known.e.arg c_Known.f) 1 [] [0] := fun kV doc pm an cdv ct a us ws h1 h2 => match us, ws, h1, h2 with | [u0], [], _, _ => ⟨_, rfl, rfl⟩
theorem ki_Known_1 : Hd.KInitP c_Known.d (initPs c_Known.e.arg c_Known.f) 0 ["name"] [0] := fun kV doc pm an cdv ct a us ws h1 h2 => match us, ws, h1, h2 with | [], [w0], _, _ => ⟨_, rfl, rfl⟩
theorem ki_NoHouse_0 : Hd.KInitP c_NoHouse.d (initPs c_NoHouse.e.arg c_NoHouse.f) 1 [] [0] := fun kV doc pm an cdv ct a us ws h1 h2 => match us, ws, h1, h2 with | [u0], [], _, _ => ⟨_, rfl, rfl⟩
theorem ki_NoHouse_1 : Hd.KInitP c_NoHouse.d (initPs c_NoHouse.e.arg c_NoHouse.f) 0 ["name"] [0] := fun kV doc pm an cdv ct a us ws h1 h2 => match us, ws, h1, h2 with | [], [w0], _, _ => ⟨_, rfl, rfl⟩
theorem ki_NoNumber_0 : Hd.KInitP c_NoNumber.d (initPs c_NoNumber.e.arg c_NoNumber.f) 1 [] [0] := fun kV doc pm an cdv ct a us ws h1 h2 => match us, ws, h1, h2 with | [u0], [], _, _ => ⟨_, rfl, rfl⟩
theorem ki_NoNumber_1 : Hd.KInitP c_NoNumber.d (initPs c_NoNumber.e.arg c_NoNumber.f) 0 ["number"] [0] := fun kV doc pm an cdv ct a us ws h1 h2 => match us, ws, h1, h2 with | [], [w0], _, _ => ⟨_, rfl, rfl⟩
theorem tab : Hd.TabOk P M es kwl ct where
  cls := rfl
  clo := by decide +kernel
  cla := ⟨.inr rfl, .inl ⟨_, rfl, rfl⟩, .inl ⟨_, rfl, rfl⟩, .inl ⟨_, rfl, rfl⟩, .inl ⟨_, rfl, rfl⟩, .inl ⟨_, rfl, rfl⟩, .inl ⟨_, rfl, rfl⟩, .inl ⟨_, rfl, rfl⟩, .inl ⟨_, rfl, rfl⟩, .inl ⟨_, rfl, rfl⟩, .inl ⟨_, rfl, rfl⟩, .inl ⟨_, rfl, rfl⟩, .inl ⟨_, rfl, rfl⟩, trivial⟩
  isc := fun _ => rfl
  hk := fun c h => List.contains_iff_mem.mp h
  hsx := by decide +kernel
  cke := rfl
  ck := ⟨⟨_, rfl, rfl, rfl, rfl, ki_BadFuse_0⟩, ⟨_, rfl, rfl, rfl, rfl, ki_BadFuse_1⟩, ⟨_, rfl, rfl, rfl, rfl, ki_BadText_0⟩, ⟨_, rfl, rfl, rfl, rfl, ki_BadText_1⟩, ⟨_, rfl, rfl, rfl, rfl, ki_BadLine_0⟩, ⟨_, rfl, rfl, rfl, rfl, ki_BadLine_1⟩, ⟨_, rfl, rfl, rfl, rfl, ki_NoSocket_0⟩, ⟨_, rfl, rfl, rfl, rfl, ki_NoSocket_1⟩, ⟨_, rfl, rfl, rfl, rfl, ki_NoFuse_0⟩, ⟨_, rfl, rfl, rfl, rfl, ki_NoFuse_1⟩, ⟨_, rfl, rfl, rfl, rfl, ki_OtherSockets_0⟩, ⟨_, rfl, rfl, rfl, rfl, ki_NoFit_0⟩, ⟨_, rfl, rfl, rfl, rfl, ki_TooMuch_0⟩, ⟨_, rfl, rfl, rfl, rfl, ki_NothingDone_0⟩, ⟨_, rfl, rfl, rfl, rfl, ki_Known_0⟩, ⟨_, rfl, rfl, rfl, rfl, ki_Known_1⟩, ⟨_, rfl, rfl, rfl, rfl, ki_NoHouse_0⟩, ⟨_, rfl, rfl, rfl, rfl, ki_NoHouse_1⟩, ⟨_, rfl, rfl, rfl, rfl, ki_NoNumber_0⟩, ⟨_, rfl, rfl, rfl, rfl, ki_NoNumber_1⟩, trivial⟩
  kn := fun f h => Hd.kn_of (l := nms) rfl h
  fn := ⟨rfl, rfl, rfl, rfl, rfl, rfl, rfl, rfl, trivial⟩
  ok := by decide +kernel
  gc := by decide +kernel
  bi := ⟨bi__law_box, bi_law_take, bi_law_cells, bi_law_of, bi_law_same, bi__law_sorts, bi__law_right, bi_law, trivial⟩
  kwe := rfl
  kw := trivial
end K00


namespace K00
open PySem PySem.Spec PyProof.Rows FT U
def fI (x : Int) : D := .int x
def kin (tag : Str) : D := .tup [.str tag, .str ⟨#[122, 122, 122]⟩]
def every (far : Int) (tag : Str) : List D := [.exc 901 [.int far], .exc 902 [.int far], .exc 903 [.int far], .exc 904 [.str tag], .exc 905 [kin tag], .exc 906 [.tup []], .exc 909 [.tup []], .exc 910 [.str tag], .exc 911 [.str tag], .exc 907 [.tup []], .exc 908 [.tup []], .exc 912 [.int far]]
def due8 (far : Int) (tag : Str) : List D := [.int far, .int far, .int far, .str tag, kin tag, .str tag, .str tag, .int far]
def due12 (far : Int) (tag : Str) : List D := due8 far tag ++ [.int far, .int 7, .int (-1), .str ⟨#[98]⟩]
def got15 (far : Int) (tag : Str) : List D := due12 far tag ++ [kin tag, .str tag, .str tag]
def env1 (far : Int) (tag : Str) : FT.Env := [some (.ref 0), some (.d (.int far)), some (.d (.str tag)), none, none, none, none, none, none, none]
def envF (far : Int) (tag : Str) : FT.Env := [some (.ref 0), some (.d (.int far)), some (.d (.str tag)), some (.d (kin tag)), some (.d (.lst (every far tag))), some (.d (.int 11)), some (.d (.exc 912 [.int far])), none, some (.ref 5), some (.d (.lst (due12 far tag)))]
def stF (c : Cell) (far : Int) (tag : Str) : FT.S := [c, .lst 0 ((due8 far tag).take 5), .lst 0 (due8 far tag), .lst 0 ((due12 far tag).take 10), .lst 0 (due12 far tag), .lst 0 (got15 far tag)]
theorem mid (c : Cell) (far : Int) (tag : Str) : evSs P (callN P 20) ((b__law_right.drop 1).take 13) (env1 far tag) [c] = .nx (envF far tag) (stF c far tag) := by
  kernel_rfl
end K00

namespace K00
open PySem PySem.Spec PyProof.Rows FT U
theorem all_true {call : CallF} {s : FT.S} (zs : List D) (h : ∀ z ∈ zs, z = .bl true) : builtinC P call 1 [.d (.lst zs)] s = .ok (.d (.bl true)) s := by
  have e : zs = zs.map fun _ => D.bl true := by
    conv => lhs; rw [← List.map_id zs]
    exact List.map_congr_left fun x hx => h x hx
  have := bi_all (P := P) (call := call) (s := s) (fun _ : D => true) zs
  rw [← e] at this
  rw [this]
  simp
/-- the draws -/
theorem draws {t : FT.S} {c : Cell} {N : Nat} (hb : Bx N c) (hN : N + 10 < drawMax) :
    ∃ (far : Int) (tag : Str) (c' : Cell), evSs P (callN P 20) (b__law_right.take 1) [some (.ref t.length), none, none, none, none, none, none, none, none, none] (t ++ [c]) = .nx (shE t.length (env1 far tag)) (t ++ [c']) ∧ Bx (N + 10) c' := by
  obtain ⟨v, c1, e1, hb1, v0, v1⟩ := take_ok ext (n := 19) (z := 1000000000) (k := t.length) (s := t ++ [c]) (by simp) hb (by omega) (by decide) (by decide)
  obtain ⟨x, c2, e2, hb2, hx⟩ := of_ok ext (n := 18) (k := t.length) (s := t ++ [c1]) (c := c1) (xs := [.str ⟨#[97]⟩, .str ⟨#[97, 110, 116, 115]⟩, .str ⟨#[97, 98, 99, 100, 101, 102, 103, 104]⟩, .str ⟨#[122, 122]⟩]) (by simp) hb1 (by omega) (by decide) (by decide)
  obtain ⟨tag, rfl⟩ : ∃ tag, x = .str tag := by
    simp only [List.mem_cons, List.not_mem_nil, or_false] at hx
    rcases hx with rfl | rfl | rfl | rfl <;> exact ⟨_, rfl⟩
  have hp : ∀ s : FT.S, binop .Pow (.d (.int 10)) (.d (.int 9)) s = some (.d (.int 1000000000)) := fun s => by simp [binop]
  have hp8 : ∀ s : FT.S, binop .Pow (.d (.int 10)) (.d (.int 8)) s = some (.d (.int 100000000)) := fun s => by simp [binop]
  have hm : ∀ s : FT.S, binop .Mult (.d (.int 5)) (.d (.int 100000000)) s = some (.d (.int 500000000)) := fun s => rfl
  have hs : ∀ s : FT.S, binop .Sub (.d (.int v)) (.d (.int 500000000)) s = some (.d (.int (v - 500000000))) := fun s => rfl
  refine ⟨v - 500000000, tag, c2, ?_, hb2.mono (by omega)⟩
  simp at e1 e2
  simp [b__law_right, Sms.take, hp, hp8, hm, hs, e1, e2, setAll, env1, shE, W.sh, pures, LIM, newL]
def lastEs : Es := (.cons (.bin .Add (.var 8) (.lst false (.cons (.attr (.mk 912 .nil (.cons (.bin .Pow (.c (.int 10)) (.c (.int 30))) .nil) [0]) 2) .nil))) (.cons (.bin .Add (.var 9) (.lst false (.cons (.var 3) (.cons (.var 2) (.cons (.var 2) (.cons (.bin .Pow (.c (.int 10)) (.c (.int 30))) .nil)))))) .nil))
theorem last (c : Cell) (far : Int) (tag : Str) : evEs P (callN P 20) lastEs (envF far tag) (stF c far tag) = .ok ([.lst (got15 far tag ++ [.int 1000000000000000000000000000000]), .lst (got15 far tag ++ [.int 1000000000000000000000000000000])].map FT.W.d) (stF c far tag) := by
  kernel_rfl
theorem right_ok {t : FT.S} {c : Cell} {N : Nat} (hb : Bx N c) (hN : N + 10 < drawMax) : ∃ c', callN P 21 1002 [.ref t.length] (t ++ [c]) = .ok (.d (.bl true)) (t ++ [c']) := by
  rw [callN_eq (F := f__law_right) rfl rfl rfl]
  obtain ⟨far, tag, c', e, hb'⟩ := draws (t := t) hb hN
  refine ⟨c', ?_⟩
  have e : evSs P (callN P 20) (b__law_right.take 1) ([FT.W.ref t.length].map some ++ List.replicate (f__law_right.slots - f__law_right.ps) none) (t ++ [c]) = _ := e
  have key : evSs P (callN P 20) f__law_right.body ([FT.W.ref t.length].map some ++ List.replicate (f__law_right.slots - f__law_right.ps) none) (t ++ [c]) = evSs P (callN P 20) ((b__law_right.drop 1).drop 13) (shE t.length (envF far tag)) (t ++ stF c' far tag) := by
    show evSs P (callN P 20) b__law_right _ _ = _
    rw [evSs_cut 1, e, RS.seq_nx, evSs_cut 13, evSs_on (mid c' far tag) t, RS.seq_nx]
  rw [key]
  have sm := same_refl ext 19 (.lst (got15 far tag ++ [.int 1000000000000000000000000000000])) (t ++ stF c' far tag) (by kernel_rfl)
  have r : evSs P (callN P 20) ((b__law_right.drop 1).drop 13) (shE t.length (envF far tag)) (t ++ stF c' far tag) = .rt (.d (.bl true)) (t ++ stF c' far tag) := ret_call (evEs_on (last c' far tag) t) sm
  rw [r]
  show R.ok _ _ = _
  congr 1
  show (t ++ stF c' far tag).take (t ++ [c]).length = _
  rw [List.length_append, List.take_append, List.take_of_length_le (Nat.le_add_right _ _), Nat.add_sub_cancel_left]
  rfl
theorem main (ns : List Int) (hl : ns.length ≤ 63) : ∃ s', callN P 40 1003 [.d (.lst (ns.map .int))] [] = .ok (.d (.bl true)) s' := by
  rw [callN_eq (F := f_law) rfl rfl rfl]
  obtain ⟨ms, e1, l1, l3⟩ := cells_ok ext (n := 38) hl []
  have hr : -4611686018427387904 ≤ (ms.length : Int) ∧ (ms.length : Int) < 4611686018427387904 := by omega
  simp [f_law, b_law, e1, hr]
  generalize hW2 : compGo _ _ FUEL 0 _ = w2
  have key2 : ∃ zs s', w2 = .ok zs s' ∧ zs.length ≤ 3 ∧ (∀ f ∈ zs, f = .bl true) := by
    rw [← hW2]
    refine comp_res (fun i zs t => zs.length = i ∧ (∀ f ∈ zs, f = .bl true)) ⟨rfl, by simp⟩ (by simp [LIM]; omega) (by
      rintro i zs t hi ⟨hzl, hz⟩
      simp at hi
      obtain ⟨c, e2, hb⟩ := box_ok (P := P) ext (n := 38) (f := 1000) (d := 81700) rfl rfl (by omega) (ms := ms) (i := i) (by omega) (by omega) l3 t
      obtain ⟨c4, e4⟩ := right_ok (t := t) (c := c) hb (by decide)
      have e4 := callN_ok_mono e4 (show 21 ≤ 39 by omega)
      refine ⟨.bl true, t ++ [c4], by simp [compF, e2, e4], by simp [hzl], fun f hf' => ?_⟩
      rcases List.mem_append.mp hf' with h | h
      · exact hz f h
      · simpa using h) (fun zs s' ⟨h2, h3⟩ => ⟨by simp at h2; omega, h3⟩)
  obtain ⟨zs, s', rfl, hzl, hz⟩ := key2
  have hz6 : zs.length ≤ 16777216 := by omega
  simp [hz6, all_true zs hz]
end K00

namespace K00
open PySem PySem.Spec PyProof.Rows L2 FT
abbrev Rr : PySem.W.OpenRow := PySem.W.OpenLaw.row PySem.Challenge.rw_fusetrees_k00_errors
def loose0 : List Str := ["FuseError", "BadFuse", "BadText", "BadLine", "NoSocket", "NoFuse", "OtherSockets", "NoFit", "TooMuch", "NothingDone", "Known", "NoHouse", "NoNumber", "_law_box", "_law_take", "_law_cells", "_law_of", "_law_same", "_law_sorts", "_law_right"]
def loose : List Str := loose0
def fa : List He.Fa := Hd.faOf M es ct.xs
def fn : List He.DefD := Hd.fnL es ct.cl
def ex : PySem.W.Frag → Bool := Hd.exB M ct.cl ct.xs ct.hs
abbrev hk : PySem.W.Hook := He.hookX 5 fa fn [] [] ex
def ob (s : PySem.W.SharedT) : He.AlX := He.obsX 5 fa fn [] [] ex (HandSHeadRun.getT s)
theorem ob_eq (s : PySem.W.SharedT) : ob s = hk.obs s.abs := He.obsX_eq (HandSHeadRun.getT_eq s)
theorem run (w : World) : HandSHeadRun.RunEq Rr (PySem.W.view Rr.prog [22]) hk ob 4000 loose w := by
  intro os
  kernel_rfl
end K00
open PySem PySem.W PySem.Calls PyProof.Rows in
theorem PySem.Challenge.cw_fusetrees_k00_errors_holds : PySem.Challenge.rw_fusetrees_k00_errors.Holds := by
  w_on; o_law
  refine HandSHeadRun.head_any (r := OpenLaw.row PySem.Challenge.rw_fusetrees_k00_errors) (q := view (OpenLaw.row PySem.Challenge.rw_fusetrees_k00_errors).prog [22]) (H := K00.hk) (ob := K00.ob) (M := 4000) (loose := K00.loose) (d := HandSHeadRun.topDef (OpenLaw.row PySem.Challenge.rw_fusetrees_k00_errors).prog 22) (kwd := []) K00.ob_eq
    (by kernel_rfl) (fun s => by kernel_rfl) K00.run (by kernel_rfl) (by kernel_rfl) (by kernel_rfl) (by rfl) (by first | assumption | decide +kernel) (by decide +kernel) ⟨rfl, rfl, rfl, rfl, rfl, by decide +kernel⟩ ?hw ?hc
  case hw => w_witness2
  case hc => exact FT.Hd.walk_ft (l := PySem.Challenge.rw_fusetrees_k00_errors) (n := 40) (li := 1003) (e := K00.e_law) (x := "_law_script") K00.tab rfl (by kernel_rfl) rfl rfl (by kernel_rfl) ⟨rfl, by decide +kernel, by decide +kernel⟩ K00.main



import PyProof.Rows.All
import Wide.All
import OpenK.AllK
import Wide.FinOn
import HandS.ForMost
import HandS.ForExc
import HandS.Star
import HandS.Property
import HandS.ClsMeth
import HandS.Wide
import HandS.TupAny
import HandS.TupMul
import KE.KOpsOwn
import HandS.IsInst
import HandS.RaiseMore
import HandS.Zip
import KE.GoesMore
import HandS.Small
import HandS.Walk
import HandS.Conv
import HandS.Style
import HandS.Ends
import PySem.Challenge.RW_roundsopen_k11_falls_sums_and_thinned_co
section
set_option Elab.async false
set_option linter.all false
/-! The interpreter over plain data: D (data), CE/CS (compact syntax), ev/ex. -/
namespace Rz
open PySem L2

inductive D where
  | non
  | bl (b : Bool)
  | int (i : Int)
  | str (s : Str)
  | tup (ds : List D)
  | lst (ds : List D)
  | ins (c : Nat) (ds : List D)
  | dct (ks : List Key) (ds : List D)
  | cls (c : Nat)
  | ty (n : String)
  | fn (f : Nat)
  | pen
  | opq (v : V)

inductive Slot where
  | none
  | fz (d : D)
  | own (ds : List D)
  | ownI (c : Nat) (ds : List D)

/-- names of built-ins that are called with values -/
inductive Bi where
  | len | abs | max | min | int | bool | str | repr | tuple | list | all | any | sum | sorted
  deriving DecidableEq

inductive Tn where
  | ty (n : String)
  | cl (c : Nat)
  deriving DecidableEq

/-- a loop's target: one name, or a tuple of names -/
inductive Tg where
  | one (i : Nat)
  | many (is : List Nat)
  deriving DecidableEq

mutual
inductive CE where
  | v (i : Nat)
  | k (d : D)
  | g (j : Nat)
  | bin (o : Operator) (a b : CE)
  | un (o : UnaryOp) (a : CE)
  | cmp (o : CmpOp) (a b : CE)
  | chain (o p : CmpOp) (a b c : CE)
  | and (a b : CE)
  | or (a b : CE)
  | tand (a b : CE)
  | tor (a b : CE)
  | not (a : CE)
  | ite (c a b : CE)
  | tup (es : CAs)
  | lst (es : CAs)
  | call (f : Nat) (es : CAs)
  | make (c : Nat) (es : CAs)
  | meth (o : CE) (m : Nat) (es : CAs)
  | smeth (c : Nat) (m : Nat) (es : CAs)
  | attr (o : CE) (m : Nat)
  | bi (b : Bi) (es : CAs)
  | isi (e : CE) (ts : List Tn)
  | ix (a b : CE)
  | sl (a : CE) (lo hi : CO)
  | nl (w : CW)
  | never
  | callO (o : CE) (es : CAs)
  | bx (b : Bi) (e : CE)
  | join (a b : CE)
  | split (a b : CE)
  | pix (a : CE) (k : D)
  | callK (o : CE) (es : CAs) (ks : List Str) (ws : CAs)
  | methK (o : CE) (m : Nat) (es : CAs) (ks : List Str) (ws : CAs)
  | smethK (c : Nat) (m : Nat) (es : CAs) (ks : List Str) (ws : CAs)
inductive CW where
  | lst (es : CAs)
  | of (e : CE)
  | add (a b : CE)
  | lc (elt : CE) (tg : Tg) (it : CI) (cs : CAs)
  | lr (a : CE)
inductive CO where
  | no
  | yes (e : CE)
inductive CAs where
  | nil
  | cons (star : Bool) (e : CE) (r : CAs)
inductive CI where
  | e (e : CE)
  | r1 (a : CE)
  | r2 (a b : CE)
  | rd (a b : CE)
  | en (a : CE)
  | zip (a b : CE)
end

/-- a value to store: frozen, or an owned new list -/
inductive CV where
  | f (e : CE)
  | w (w : CW)

mutual
inductive CS where
  | never
  | pass
  | expr (th : Bool) (e : CE)
  | ret (e : CE)
  | retN
  | set (i : Nat) (th : Bool) (e : CE)
  | own (i : Nat) (w : CW)
  | par2 (i j : Nat) (a b : CV)
  | unpack (is : List Nat) (e : CE)
  | aug (i : Nat) (o : Operator) (th : Bool) (e : CE)
  | ite (c : CE) (a b : CSs)
  | while (c : CE) (b : CSs)
  | for (tg : Tg) (it : CI) (b : CSs)
  | brk
  | cont
  | raise (c : Nat) (es : CAs)
  | append (i : Nat) (th : Bool) (e : CE)
  | pop (i : Nat)
  | setFld (k : Nat) (e : CE)
  | pset (i : Nat) (k : D) (e : CE)
  | par3 (i j l : Nat) (a b c : CE)
  | copy (j i : Nat)
inductive CSs where
  | nil
  | cons (s : CS) (r : CSs)
end

/-- an expression's outcome; a call's -/
inductive Out (S α : Type) where
  | ok (a : α) (τ : List Slot) (s : S)
  | exc (c : Nat) (fs : List D) (τ : List Slot) (s : S)
  | no
inductive CRes (S : Type) where
  | ok (d : D) (s : S)
  | exc (c : Nat) (fs : List D) (s : S)
  | no

/-- the pen's state: what is read and stored by a key -/
class Pen (S : Type) where
  get : D → S → Option D
  put : D → D → S → Option S

inductive Fl where
  | next
  | ret (d : D)
  | brk
  | cont

def Out.bind {S α β : Type} (x : Out S α) (f : α → List Slot → S → Out S β) : Out S β :=
  match x with
  | .ok a τ s => f a τ s
  | .exc c fs τ s => .exc c fs τ s
  | .no => .no
def Out.of {S α : Type} (o : Option α) (τ : List Slot) (s : S) : Out S α :=
  match o with
  | some a => .ok a τ s
  | none => .no
/-- no exception may come -/
def Out.nx {S α : Type} (x : Out S α) : Out S α :=
  match x with
  | .exc _ _ _ _ => .no
  | x => x
def CRes.out {S : Type} (x : CRes S) (τ : List Slot) : Out S D :=
  match x with
  | .ok d s => .ok d τ s
  | .exc c fs s => .exc c fs τ s
  | .no => .no

/-- what an attribute name means for a class -/
inductive At where
  | fld (k : Nat)
  | prop (f : Nat)
  | none

/-- the program's table (pure part) -/
structure Pt where
  /-- class, method's name: the function -/
  meth : Nat → Nat → Option Nat
  attr : Nat → Nat → At
  /-- class methods take the class first -/
  smeth : Nat → Nat → Option (Bool × Nat)
  sub : Nat → Nat → Bool
  /-- how many classes (no exceptions) there are -/
  ncl : Nat
  gl : Nat → D
  init : Nat → Option Nat
  /-- how many fields an exception class keeps; none: it is no exception class -/
  exc : Nat → Option Nat
  /-- a def's parameters, where it may be called by names -/
  kwn : Nat → List Str


/-! ### values -/
def bg (i : Int) : Bool := decide (i.natAbs < 2 ^ 8000)
def lim (n : Nat) : Bool := decide (n ≤ 100000)
/-- two great numbers, or a small one and any -/
def mulOk (i j : Int) : Bool := (bg i && bg j) || decide (i.natAbs < 2 ^ 64) || decide (j.natAbs < 2 ^ 64)
def binI : Operator → Int → Int → Option Int
  | .Add, i, j => some (i + j)
  | .Sub, i, j => some (i - j)
  | .Mult, i, j => bif mulOk i j then some (i * j) else none
  | .FloorDiv, i, j => bif decide (0 < j) && bg j then some (i / j) else none
  | .Mod, i, j => bif decide (0 < j) then some (i % j) else none
  | .Pow, i, j => bif decide (0 ≤ j) && decide (j ≤ 1000) && decide (i.natAbs < 2 ^ 64) then some (i ^ j.toNat) else none
  | _, _, _ => none
def repD (ds : List D) (k : Int) : Option (List D) :=
  bif decide (0 ≤ k) && decide (k ≤ 1000) && decide (ds.length ≤ 4000) then some (List.replicate k.toNat ds).flatten else none
def binD (o : Operator) (x y : D) : Option D :=
  match x, y with
  | .int i, .int j => (binI o i j).map .int
  | .str a, .str b => match o with
    | .Add => bif lim (a.length + b.length) then some (.str (a ++ b)) else none
    | _ => none
  | .lst a, .lst b => match o with
    | .Add => bif lim (a.length + b.length) then some (.lst (a ++ b)) else none
    | _ => none
  | .tup a, .tup b => match o with
    | .Add => bif lim (a.length + b.length) then some (.tup (a ++ b)) else none
    | _ => none
  | .lst a, .int k => match o with
    | .Mult => (repD a k).map .lst
    | _ => none
  | .tup a, .int k => match o with
    | .Mult => bif !a.isEmpty && decide (2 ≤ k) && decide (k ≤ 1000) && decide (a.length ≤ 1000) then some (.tup (List.replicate k.toNat a).flatten) else none
    | _ => none
  | _, _ => none
def D.scalar : D → Bool
  | .non => true
  | .bl _ => true
  | .int _ => true
  | .str _ => true
  | .cls _ => true
  | .ty _ => true
  | _ => false
mutual
/-- no list stands in it -/
def D.noL : D → Bool
  | .non => true
  | .bl _ => true
  | .int _ => true
  | .str _ => true
  | .cls _ => true
  | .ty _ => true
  | .tup ds => D.noLL ds
  | .ins _ ds => D.noLL ds
  | _ => false
def D.noLL : List D → Bool
  | [] => true
  | d :: r => D.noL d && D.noLL r
end
def Slot.noI : Slot → Bool
  | .ownI _ _ => false
  | _ => true
/-- flat values compared -/
def eqF : D → D → Bool
  | .non, .non => true
  | .bl a, .bl b => a == b
  | .bl a, .int b => (if a then 1 else 0) == b
  | .int a, .bl b => a == (if b then 1 else 0)
  | .int a, .int b => a == b
  | .str a, .str b => a == b
  | _, _ => false
mutual
/-- plain data: no instances in it -/
def D.plain : D → Bool
  | .non => true
  | .bl _ => true
  | .int _ => true
  | .str z => PyData.strOk z
  | .tup ds => D.plainL ds
  | .lst ds => D.plainL ds
  | _ => false
def D.plainL : List D → Bool
  | [] => true
  | d :: r => D.plain d && D.plainL r
end
mutual
def eqP : D → D → Bool
  | .tup a, y => match y with
    | .tup b => eqPL a b
    | _ => false
  | .lst a, y => match y with
    | .lst b => eqPL a b
    | _ => false
  | .non, y => eqF .non y
  | .bl b, y => eqF (.bl b) y
  | .int i, y => eqF (.int i) y
  | .str s, y => eqF (.str s) y
  | _, _ => false
def eqPL : List D → List D → Bool
  | [], l => match l with
    | [] => true
    | _ => false
  | d :: r, l => match l with
    | [] => false
    | e :: t => eqP d e && eqPL r t
end
mutual
def D.deep : D → Nat
  | .tup ds => D.deepL ds + 1
  | .lst ds => D.deepL ds + 1
  | _ => 0
def D.deepL : List D → Nat
  | [] => 0
  | d :: r => max (D.deep d) (D.deepL r)
end
def D.cmpOk (d : D) : Bool := d.plain && decide (d.deep ≤ 20)
def inF (x : D) (ds : List D) : Bool := ds.any fun y => eqF y x
def D.flat : D → Bool
  | .non => true
  | .bl _ => true
  | .int _ => true
  | .str _ => true
  | _ => false
def sx (n d : Nat) (o : Option Int) : Nat := HT.sIx n d o
def cutD {α : Type} (xs : List α) (lo hi : Option Int) : List α := (xs.drop (HT.sIx xs.length 0 lo)).take (HT.sIx xs.length xs.length hi - HT.sIx xs.length 0 lo)
def ixD (x y : D) : Option D :=
  match x, y with
  | .lst ds, .int i => atI ds i
  | .tup ds, .int i => atI ds i
  | .str z, .int i => bif lim z.length then (atI z.cps.toList i).map fun c => .str ⟨#[c]⟩ else none
  | _, _ => none
def slD (x : D) (lo hi : Option Int) : Option D :=
  match x with
  | .lst ds => some (.lst (cutD ds lo hi))
  | .tup ds => some (.tup (cutD ds lo hi))
  | .str z => bif lim z.length then some (.str (cutS z lo hi)) else none
  | _ => none
def allB : List D → Option (List Bool)
  | [] => some []
  | .bl b :: r => (allB r).map (b :: ·)
  | _ => none
def allI : List D → Option (List Int)
  | [] => some []
  | .int i :: r => (allI r).map (i :: ·)
  | _ => none
def allS : List D → Option (List Str)
  | [] => some []
  | .str i :: r => (allS r).map (i :: ·)
  | _ => none
mutual
def D.py : D → Option PyData
  | .non => some .none
  | .bl b => some (.bool b)
  | .int i => some (.int i)
  | .str s => some (.str s)
  | .tup ds => (D.pyL ds).map .tuple
  | .lst ds => (D.pyL ds).map .list
  | _ => none
def D.pyL : List D → Option (List PyData)
  | [] => some []
  | d :: r => match D.py d with
    | some p => (D.pyL r).map (p :: ·)
    | none => none
end
/-- repr of plain data -/
def reprD (d : D) : Option D :=
  bif d.plain && decide (d.deep ≤ 20) then match d.py with
    | some p => bif p.showable && lim p.shown.length then some (.str p.shown) else none
    | none => none
  else none
def biD (b : Bi) (xs : List D) : Option D :=
  match b, xs with
  | .len, [.lst ds] => some (.int ds.length)
  | .len, [.tup ds] => some (.int ds.length)
  | .len, [.str z] => bif lim z.length then some (.int z.length) else none
  | .len, [.dct ks _] => some (.int ks.length)
  | .abs, [.int i] => some (.int (if i < 0 then -i else i))
  | .max, [.int i, .int j] => some (.int (if j > i then j else i))
  | .min, [.int i, .int j] => some (.int (if j < i then j else i))
  | .int, [.int i] => some (.int i)
  | .int, [.bl b] => some (.int (if b then 1 else 0))
  | .bool, [.int i] => some (.bl (i != 0))
  | .bool, [.bl b] => some (.bl b)
  | .str, [.int i] => bif decide (i.natAbs.log2 < 1900) then some (.str (toString i)) else none
  | .str, [.str z] => some (.str z)
  | .tuple, [.tup ds] => some (.tup ds)
  | .tuple, [.lst ds] => some (.tup ds)
  | .list, [.tup ds] => some (.lst ds)
  | .list, [.lst ds] => some (.lst ds)
  | .all, [.lst ds] => (allB ds).map fun bs => .bl (bs.all id)
  | .any, [.lst ds] => (allB ds).map fun bs => .bl (bs.any id)
  | .sum, [.lst ds] => (allI ds).map fun ns => .int ns.sum
  | .repr, [.lst ds] => reprD (.lst ds)
  | .repr, [.tup ds] => reprD (.tup ds)
  | _, _ => none
/-- the name of a value's built-in type -/
def D.tn : D → Option String
  | .non => some "NoneType"
  | .bl _ => some "bool"
  | .int _ => some "int"
  | .str _ => some "str"
  | .tup _ => some "tuple"
  | .lst _ => some "list"
  | _ => none
/-- the built-in types that isinstance is asked of -/
def tyIs : List String := ["int", "bool", "str", "list", "tuple", "dict"]
def isiT (P : Pt) (d : D) : Tn → Option Bool
  | .ty n => match d with
    | .ins c _ => bif decide (c < P.ncl) && tyIs.contains n then some false else none
    | d => match d.tn with
      | some m => bif tyIs.contains n then some (m == n || (m == "bool" && n == "int")) else none
      | none => none
  | .cl c => bif decide (c < P.ncl) then match d with
      | .ins e _ => bif decide (e < P.ncl) then some (P.sub e c) else none
      | d => match d.tn with
        | some _ => some false
        | none => none
    else none
def isiAny (P : Pt) (d : D) : List Tn → Option Bool
  | [] => some false
  | t :: r => match isiT P d t with
    | some true => some true
    | some false => isiAny P d r
    | none => none

/-! ### the ids of special methods -/
def dun : Operator → Nat
  | .Add => 0 | .Sub => 2 | .Mult => 4 | .BitAnd => 6 | .BitOr => 8 | .BitXor => 10 | .Pow => 12 | .FloorDiv => 14 | .Mod => 16 | _ => 99
def mNeg : Nat := 20
def mInv : Nat := 21
def mEq : Nat := 22
def mBool : Nat := 23
def mCall : Nat := 24
def mIn : Nat := 25
def mItem : Nat := 26
def mLen : Nat := 27
def mLe : Nat := 28
def mLt : Nat := 29
def mGe : Nat := 30
def mGt : Nat := 31
def mStr : Nat := 32

def sameOrBt (c : Nat) (y : D) : Bool :=
  match y with
  | .ins e _ => c == e
  | y => y.tn.isSome
def declOk (o : Operator) (x : D) : Bool :=
  match x with
  | .int _ => match o with
    | .Add => true
    | .Sub => true
    | .Mult => true
    | _ => false
  | .str _ => true
  | .non => true
  | .tup _ => true
  | .lst _ => true
  | _ => false

section
variable {S : Type} [Pen S] (P : Pt) (call : Nat → List D → S → CRes S) (mk : Nat → List D → S → CRes S)

def callM (c m : Nat) (xs : List D) (τ : List Slot) (s : S) : Out S D :=
  match P.meth c m with
  | some f => (call f xs s).out τ
  | none => .no
def binV (o : Operator) (x y : D) (τ : List Slot) (s : S) : Out S D :=
  match x with
  | .ins c _ => bif sameOrBt c y then callM P call c (dun o) [x, y] τ s else .no
  | _ => match y with
    | .ins c _ => bif declOk o x then callM P call c (dun o + 1) [y, x] τ s else .no
    | _ => Out.of (binD o x y) τ s
def unV (o : UnaryOp) (x : D) (τ : List Slot) (s : S) : Out S D :=
  match o, x with
  | .USub, .int i => .ok (.int (-i)) τ s
  | .USub, .ins c _ => callM P call c mNeg [x] τ s
  | .Invert, .ins c _ => callM P call c mInv [x] τ s
  | _, _ => .no
def truV (x : D) (τ : List Slot) (s : S) : Out S Bool :=
  match x with
  | .non => .ok false τ s
  | .bl b => .ok b τ s
  | .int i => .ok (i != 0) τ s
  | .str z => bif lim z.length then .ok ((z.length : Int) != 0) τ s else .no
  | .tup ds => .ok (!ds.isEmpty) τ s
  | .lst ds => .ok (!ds.isEmpty) τ s
  | .ins c _ => match P.meth c mBool with
    | some f => match call f [x] s with
      | .ok (.bl b) s' => .ok b τ s'
      | .exc c fs s' => .exc c fs τ s'
      | _ => .no
    | none => .no
  | _ => .no
def cmpI : CmpOp → Int → Int → Option Bool
  | .Lt, i, j => some (decide (i < j))
  | .LtE, i, j => some (decide (i ≤ j))
  | .Gt, i, j => some (decide (j < i))
  | .GtE, i, j => some (decide (j ≤ i))
  | _, _, _ => none
def eqV' (x y : D) (τ : List Slot) (s : S) : Out S D :=
  match x, y with
  | .ins c _, _ => bif sameOrBt c y then callM P call c mEq [x, y] τ s else .no
  | .str a, .str b => .ok (.bl (a == b)) τ s
  | _, _ => bif x.cmpOk && y.cmpOk then .ok (.bl (eqP x y)) τ s else .no
def mCmp : CmpOp → Nat
  | .Lt => mLt | .LtE => mLe | .Gt => mGt | .GtE => mGe | _ => 99
def inVv (x y : D) (τ : List Slot) (s : S) : Out S D :=
  match y with
  | .lst ds => bif x.flat && ds.all D.flat then .ok (.bl (inF x ds)) τ s else .no
  | .tup ds => bif x.flat && ds.all D.flat then .ok (.bl (inF x ds)) τ s else .no
  | .str z => match x with
    | .str w => match w.cps.toList with
      | [c] => .ok (.bl (decide (c ∈ z.cps.toList))) τ s
      | _ => .no
    | _ => .no
  | .ins c _ => (callM P call c mIn [y, x] τ s).bind fun z τ s => match z with
    | .bl b => .ok (.bl b) τ s
    | _ => .no
  | _ => .no
def notD : D → Option D
  | .bl b => some (.bl (!b))
  | _ => none
def cmpV (o : CmpOp) (x y : D) (τ : List Slot) (s : S) : Out S D :=
  match o with
  | .Eq => eqV' P call x y τ s
  | .NotEq => (eqV' P call x y τ s).bind fun z τ s => Out.of (notD z) τ s
  | .Is => match y with
    | .non => match x with
      | .opq _ => .no
      | x => .ok (.bl (match x with | .non => true | _ => false)) τ s
    | _ => .no
  | .IsNot => match y with
    | .non => match x with
      | .opq _ => .no
      | x => .ok (.bl (!(match x with | .non => true | _ => false))) τ s
    | _ => .no
  | .In => inVv P call x y τ s
  | .NotIn => (inVv P call x y τ s).bind fun z τ s => Out.of (notD z) τ s
  | o => match x, y with
    | .int i, .int j => Out.of ((cmpI o i j).map .bl) τ s
    | .ins c _, _ => bif sameOrBt c y then callM P call c (mCmp o) [x, y] τ s else .no
    | _, _ => .no
def attrV (m : Nat) (x : D) (τ : List Slot) (s : S) : Out S D :=
  match x with
  | .ins c ds => match P.attr c m with
    | .fld k => match ds[k]? with
      | some d => .ok d τ s
      | none => .no
    | .prop f => match call f [x] s with
      | .ok d s' => .ok d τ s'
      | _ => .no
    | .none => .no
  | _ => .no
def ixV (x y : D) (τ : List Slot) (s : S) : Out S D :=
  match x with
  | .ins _ _ => .no
  | _ => Out.of (ixD x y) τ s
def starOf : D → Option (List D)
  | .lst ds => some ds
  | .tup ds => some ds
  | _ => none
def bindN : List Nat → List D → List Slot → Option (List Slot)
  | [], [], τ => some τ
  | i :: is, x :: xs, τ => bindN is xs (τ.set i (.fz x))
  | _, _, _ => none
def bindT (tg : Tg) (d : D) (τ : List Slot) : Option (List Slot) :=
  match tg with
  | .one i => some (τ.set i (.fz d))
  | .many is => match d with
    | .tup xs => bindN is xs τ
    | _ => none
def Tg.slots : Tg → List Nat
  | .one i => [i]
  | .many is => is
def wipeT (τ : List Slot) : List Nat → List Slot
  | [] => τ
  | i :: is => (wipeT τ is).set i .none
def Slot.back : Option Slot → Slot
  | some (.fz d) => .fz d
  | _ => .none
def backT (τ0 τ : List Slot) : List Nat → List Slot
  | [] => τ
  | i :: is => (backT τ0 τ is).set i (Slot.back τ0[i]?)
/-- the turns of a comprehension -/
def lcL (body : D → List Slot → S → Out S (Option D)) (is : List Nat) : List D → List D → List Slot → S → Out S (List D)
  | [], acc, τ, s => .ok acc τ s
  | d :: r, acc, τ, s => (body d (wipeT τ is) s).bind fun o τ s => match o with
    | some x => lcL body is r (acc ++ [x]) τ s
    | none => lcL body is r acc τ s
def rangeD (lo : Int) (n : Nat) : List D := (List.range n).map fun (i : Nat) => .int (lo + i)
def rangeDn (lo : Int) (n : Nat) : List D := (List.range n).map fun (i : Nat) => .int (lo - i)
def enumD (ds : List D) : List D := ds.zipIdx.map fun p => .tup [.int p.2, p.1]
def itemsV : D → Option (List D)
  | .lst ds => some ds
  | .tup ds => some ds
  | .str z => bif lim z.length then some (z.cps.toList.map fun c => .str ⟨#[c]⟩) else none
  | _ => none

/-- a built-in of one argument, the own method where the argument is an instance -/
def bxV (b : Bi) (x : D) (τ : List Slot) (s : S) : Out S D :=
  match b with
  | .bool => (truV P call x τ s).bind fun t τ s => .ok (.bl t) τ s
  | .str => match x with
    | .ins c _ => (callM P call c mStr [x] τ s).bind fun z τ s => match z with
      | .str t => .ok (.str t) τ s
      | _ => .no
    | _ => Out.of (biD .str [x]) τ s
  | _ => .no
/-- the parameters' values: ds by place, the rest by names -/
def arrD (ps : List Str) (ds : List D) (ks : List Str) (ws : List D) : Option (List D) :=
  bif decide (ps.drop ds.length = ks) && decide (ds.length ≤ ps.length) && decide (ks.length = ws.length) then some (ds ++ ws) else none
/-- one or two names, in any order -/
def arr2 (ps : List Str) (ds : List D) (ks : List Str) (ws : List D) : Option (List D) :=
  match ks, ws with
  | [k], [w] => bif decide (ps.drop ds.length = [k]) then some (ds ++ [w]) else none
  | [k, l], [w, u] => bif decide (ps.drop ds.length = [k, l]) then some (ds ++ [w, u]) else bif decide (ps.drop ds.length = [l, k]) then some (ds ++ [u, w]) else none
  | _, _ => none
def joinD (x y : D) : Option D :=
  match x, y with
  | .str sep, .lst ds => match allS ds with
    | some ss => bif lim ((ss.map (·.length)).sum + ss.length * sep.length) then some (.str (Txt.join sep ss)) else none
    | none => none
  | _, _ => none
def splitD (x y : D) : Option D :=
  match x, y with
  | .str a, .str b => bif lim (a.length + 2) && !(b.length == 0) then some (.lst ((Txt.split a b).map D.str)) else none
  | _, _ => none

mutual
def ev : CE → List Slot → S → Out S D
  | .v i, τ, s => match τ[i]? with
    | some (.fz d) => .ok d τ s
    | some (.own ds) => .ok (.lst ds) (τ.set i (.fz (.lst ds))) s
    | some (.ownI c ds) => .ok (.ins c ds) (τ.set i (.fz (.ins c ds))) s
    | _ => .no
  | .k d, τ, s => .ok d τ s
  | .g j, τ, s => .ok (P.gl j) τ s
  | .bin o a b, τ, s => (ev a τ s).bind fun x τ s => (ev b τ s).bind fun y τ s => binV P call o x y τ s
  | .un o a, τ, s => (ev a τ s).bind fun x τ s => unV P call o x τ s
  | .cmp o a b, τ, s => (ev a τ s).bind fun x τ s => (ev b τ s).bind fun y τ s => cmpV P call o x y τ s
  | .chain o p a b c, τ, s => (ev a τ s).bind fun x τ s => (ev b τ s).bind fun y τ s => (cmpV P call o x y τ s).bind fun z τ s => match z with
    | .bl t => bif t then (ev c τ s).bind fun w τ s => cmpV P call p y w τ s else .ok (.bl false) τ s
    | _ => .no
  | .and a b, τ, s => (ev a τ s).bind fun x τ s => (truV P call x τ s).bind fun t τ s => bif t then ev b τ s else .ok x τ s
  | .or a b, τ, s => (ev a τ s).bind fun x τ s => (truV P call x τ s).bind fun t τ s => bif t then .ok x τ s else ev b τ s
  | .tand a b, τ, s => (ev a τ s).bind fun x τ s => (truV P call x τ s).bind fun t τ s => bif t then (ev b τ s).bind fun y τ s => (truV P call y τ s).bind fun u τ s => .ok (.bl u) τ s else .ok (.bl false) τ s
  | .tor a b, τ, s => (ev a τ s).bind fun x τ s => (truV P call x τ s).bind fun t τ s => bif t then .ok (.bl true) τ s else (ev b τ s).bind fun y τ s => (truV P call y τ s).bind fun u τ s => .ok (.bl u) τ s
  | .not a, τ, s => (ev a τ s).bind fun x τ s => (truV P call x τ s).bind fun t τ s => .ok (.bl (!t)) τ s
  | .ite c a b, τ, s => (ev c τ s).bind fun x τ s => (truV P call x τ s).bind fun t τ s => bif t then ev a τ s else ev b τ s
  | .tup es, τ, s => (evA es τ s).bind fun ds τ s => bif lim ds.length then .ok (.tup ds) τ s else .no
  | .lst es, τ, s => (evA es τ s).bind fun ds τ s => bif lim ds.length then .ok (.lst ds) τ s else .no
  | .call f es, τ, s => (evA es τ s).bind fun ds τ s => (call f ds s).out τ
  | .make c es, τ, s => (evA es τ s).bind fun ds τ s => (mk c ds s).out τ
  | .meth o m es, τ, s => (ev o τ s).bind fun x τ s => match x with
    | .ins c _ => match P.meth c m with
      | some f => (evA es τ s).bind fun ds τ s => (call f (x :: ds) s).out τ
      | none => .no
    | _ => .no
  | .smeth c m es, τ, s => match P.smeth c m with
    | some (true, f) => (evA es τ s).bind fun ds τ s => (call f (.cls c :: ds) s).out τ
    | some (false, f) => (evA es τ s).bind fun ds τ s => (call f ds s).out τ
    | none => .no
  | .attr o m, τ, s => (ev o τ s).bind fun x τ s => attrV P call m x τ s
  | .bi b es, τ, s => (evA es τ s).bind fun ds τ s => Out.of (biD b ds) τ s
  | .isi e ts, τ, s => (ev e τ s).bind fun x τ s => Out.of ((isiAny P x ts).map .bl) τ s
  | .ix a b, τ, s => (ev a τ s).bind fun x τ s => (ev b τ s).bind fun y τ s => ixV x y τ s
  | .sl a lo hi, τ, s => (ev a τ s).bind fun x τ s => (evO lo τ s).bind fun l τ s => (evO hi τ s).bind fun h τ s => Out.of (slD x l h) τ s
  | .nl w, τ, s => (evW w τ s).bind fun ds τ s => .ok (.lst ds) τ s
  | .never, _, _ => .no
  | .callO o es, τ, s => (ev o τ s).bind fun x τ s => match x with
    | .ins c _ => match P.meth c mCall with
      | some f => (evA es τ s).bind fun ds τ s => (call f (x :: ds) s).out τ
      | none => .no
    | _ => .no
  | .bx b e, τ, s => (ev e τ s).bind fun x τ s => bxV P call b x τ s
  | .join a b, τ, s => (ev a τ s).bind fun x τ s => match x with
    | .str z => (ev b τ s).bind fun y τ s => Out.of (joinD (.str z) y) τ s
    | _ => .no
  | .split a b, τ, s => (ev a τ s).bind fun x τ s => match x with
    | .str z => (ev b τ s).bind fun y τ s => Out.of (splitD (.str z) y) τ s
    | _ => .no
  | .pix a k, τ, s => (ev a τ s).bind fun x τ s => match x with
    | .pen => Out.of (Pen.get k s) τ s
    | _ => .no
  | .callK o es ks ws, τ, s => (ev o τ s).bind fun x τ s => match x with
    | .ins c _ => match P.meth c mCall with
      | some f => (evA es τ s).bind fun ds τ s => (evA ws τ s).bind fun vs τ s => match arrD (P.kwn f) (x :: ds) ks vs with
        | some xs => (call f xs s).out τ
        | none => .no
      | none => .no
    | _ => .no
  | .methK o m es ks ws, τ, s => (ev o τ s).bind fun x τ s => match x with
    | .ins c _ => match P.meth c m with
      | some f => (evA es τ s).bind fun ds τ s => (evA ws τ s).bind fun vs τ s => match arr2 (P.kwn f) (x :: ds) ks vs with
        | some xs => (call f xs s).out τ
        | none => .no
      | none => .no
    | _ => .no
  | .smethK c m es ks ws, τ, s => match P.smeth c m with
    | some (false, f) => (evA es τ s).bind fun ds τ s => (evA ws τ s).bind fun vs τ s => match arr2 (P.kwn f) ds ks vs with
      | some xs => (call f xs s).out τ
      | none => .no
    | _ => .no
def evW : CW → List Slot → S → Out S (List D)
  | .lst es, τ, s => (evA es τ s).bind fun ds τ s => bif lim ds.length then .ok ds τ s else .no
  | .of e, τ, s => (ev e τ s).bind fun x τ s => Out.of (starOf x) τ s
  | .add a b, τ, s => (ev a τ s).bind fun x τ s => (ev b τ s).bind fun y τ s => match x, y with
    | .lst xs, .lst ys => bif lim (xs.length + ys.length) then .ok (xs ++ ys) τ s else .no
    | _, _ => .no
  | .lc elt tg it cs, τ, s => (evI it τ s).bind fun ds τ1 s => bif lim ds.length then
      (lcL (fun d τ s => match bindT tg d τ with
        | some τ => ((evC cs τ s).bind fun b τ s => bif b then (ev elt τ s).bind fun x τ s => .ok (some x) τ s else .ok none τ s).nx
        | none => .no) tg.slots ds [] τ1 s).bind fun acc τ2 s => .ok acc (backT τ1 τ2 tg.slots) s else .no
  | .lr a, τ, s => (ev a τ s).bind fun x τ s => match x with
    | .int n => bif lim n.natAbs then .ok (rangeD 0 n.toNat) τ s else .no
    | _ => .no
def evO : CO → List Slot → S → Out S (Option Int)
  | .no, τ, s => .ok none τ s
  | .yes e, τ, s => (ev e τ s).bind fun x τ s => match x with
    | .int i => .ok (some i) τ s
    | _ => .no
def evA : CAs → List Slot → S → Out S (List D)
  | .nil, τ, s => .ok [] τ s
  | .cons star e r, τ, s => (ev e τ s).bind fun x τ s => bif star then match starOf x with
      | some xs => (evA r τ s).bind fun ys τ s => .ok (xs ++ ys) τ s
      | none => .no
    else (evA r τ s).bind fun ys τ s => .ok (x :: ys) τ s
def evC : CAs → List Slot → S → Out S Bool
  | .nil, τ, s => .ok true τ s
  | .cons _ e r, τ, s => (ev e τ s).bind fun x τ s => (truV P call x τ s).bind fun t τ s => bif t then evC r τ s else .ok false τ s
def evI : CI → List Slot → S → Out S (List D)
  | .e e, τ, s => (ev e τ s).bind fun x τ s => Out.of (itemsV x) τ s
  | .r1 a, τ, s => (ev a τ s).bind fun x τ s => match x with
    | .int n => bif lim n.natAbs then .ok (rangeD 0 n.toNat) τ s else .no
    | _ => .no
  | .rd a b, τ, s => (ev a τ s).bind fun x τ s => (ev b τ s).bind fun y τ s => match x, y with
    | .int i, .int j => bif lim i.natAbs && lim j.natAbs then .ok (rangeDn i (i - j).toNat) τ s else .no
    | _, _ => .no
  | .r2 a b, τ, s => (ev a τ s).bind fun x τ s => (ev b τ s).bind fun y τ s => match x, y with
    | .int i, .int j => bif lim (j - i).toNat && lim i.natAbs && lim j.natAbs then .ok (rangeD i (j - i).toNat) τ s else .no
    | _, _ => .no
  | .en a, τ, s => (ev a τ s).bind fun x τ s => match starOf x with
    | some ds => .ok (enumD ds) τ s
    | none => .no
  | .zip a b, τ, s => (ev a τ s).bind fun x τ s => (ev b τ s).bind fun y τ s => match x, y with
    | .lst xs, .lst ys => .ok ((xs.zip ys).map fun p => .tup [p.1, p.2]) τ s
    | .tup xs, .tup ys => .ok ((xs.zip ys).map fun p => .tup [p.1, p.2]) τ s
    | _, _ => .no
end

def Slot.frz : Slot → Slot
  | .own ds => .fz (.lst ds)
  | .ownI c ds => .fz (.ins c ds)
  | x => x
/-- a statement's expression; th: what it freezes comes back, the value is a scalar -/
def evX (th : Bool) (e : CE) (τ : List Slot) (s : S) : Out S D :=
  match th with
  | false => ev P call mk e τ s
  | true => match ev P call mk e (τ.map Slot.frz) s with
    | .ok d _ s' => bif d.scalar || (d.noL && τ.all Slot.noI) then .ok d τ s' else .no
    | x => x
def evTs (e : CE) (τ : List Slot) (s : S) : Out S Bool :=
  match (ev P call mk e (τ.map Slot.frz) s).bind fun x τ s => truV P call x τ s with
  | .ok b _ s' => .ok b τ s'
  | x => x
def augV (o : Operator) (x y : D) (τ : List Slot) (s : S) : Out S D :=
  match x with
  | .int _ => match y with
    | .int _ => match o with
      | .Add => binV P call o x y τ s
      | .Sub => binV P call o x y τ s
      | .Mult => binV P call o x y τ s
      | _ => .no
    | _ => .no
  | .ins _ _ => binV P call o x y τ s
  | _ => .no
def evV : CV → List Slot → S → Out S Slot
  | .f e, τ, s => (ev P call mk e τ s).bind fun d τ s => .ok (.fz d) τ s
  | .w w, τ, s => (evW P call mk w τ s).bind fun ds τ s => .ok (.own ds) τ s

def whileL (c : List Slot → S → Out S Bool) (b : List Slot → S → Out S Fl) : Nat → List Slot → S → Out S Fl
  | 0, _, _ => .no
  | n + 1, τ, s => (c τ s).bind fun t τ s => bif t then (b τ s).bind fun f τ s => match f with
      | .next => whileL c b n τ s
      | .cont => whileL c b n τ s
      | .brk => .ok .next τ s
      | .ret d => .ok (.ret d) τ s
    else .ok .next τ s
def forL (b : D → List Slot → S → Out S Fl) : List D → List Slot → S → Out S Fl
  | [], τ, s => .ok .next τ s
  | d :: r, τ, s => (b d τ s).bind fun f τ s => match f with
      | .next => forL b r τ s
      | .cont => forL b r τ s
      | .brk => .ok .next τ s
      | .ret d => .ok (.ret d) τ s
def wfuel : Nat := 1000000

mutual
def ex : CS → List Slot → S → Out S Fl
  | .never, _, _ => .no
  | .pass, τ, s => .ok .next τ s
  | .expr th e, τ, s => (evX P call mk th e τ s).bind fun _ τ s => .ok .next τ s
  | .ret e, τ, s => (ev P call mk e τ s).bind fun d τ s => .ok (.ret d) τ s
  | .retN, τ, s => .ok (.ret .non) τ s
  | .set i th e, τ, s => (evX P call mk th e τ s).bind fun d τ s => .ok .next (τ.set i (.fz d)) s
  | .own i w, τ, s => (evW P call mk w τ s).bind fun ds τ s => .ok .next (τ.set i (.own ds)) s
  | .par2 i j a b, τ, s => (evV P call mk a τ s).bind fun x τ s => (evV P call mk b τ s).bind fun y τ s => bif i == j then .no else .ok .next ((τ.set i x).set j y) s
  | .unpack is e, τ, s => (ev P call mk e τ s).bind fun d τ s => match bindT (.many is) d τ with
    | some τ => .ok .next τ s
    | none => .no
  | .aug i o th e, τ, s => match τ[i]? with
    | some (.fz x) => (evX P call mk th e τ s).bind fun y τ s => (augV P call o x y τ s).bind fun z τ s => .ok .next (τ.set i (.fz z)) s
    | _ => .no
  | .ite c a b, τ, s => (evTs P call mk c τ s).bind fun t τ s => bif t then exs a τ s else exs b τ s
  | .while c b, τ, s => whileL (fun τ s => evTs P call mk c τ s) (fun τ s => exs b τ s) wfuel τ s
  | .for tg it b, τ, s => (evI P call mk it τ s).bind fun ds τ s => forL (fun d τ s => match bindT tg d τ with
      | some τ => exs b τ s
      | none => .no) ds τ s
  | .brk, τ, s => .ok .brk τ s
  | .cont, τ, s => .ok .cont τ s
  | .raise c es, τ, s => (evA P call mk es τ s).bind fun ds τ s => .exc c ds τ s
  | .append i th e, τ, s => match τ[i]? with
    | some (.own _) => (evX P call mk th e τ s).bind fun d τ s => match τ[i]? with
      | some (.own ds) => bif lim (ds.length + 1) then .ok .next (τ.set i (.own (ds ++ [d]))) s else .no
      | _ => .no
    | _ => .no
  | .pop i, τ, s => match τ[i]? with
    | some (.own ds) => bif ds.isEmpty then .no else .ok .next (τ.set i (.own ds.dropLast)) s
    | _ => .no
  | .setFld m e, τ, s => (ev P call mk e τ s).bind fun d τ s => match (τ[0]? : Option Slot) with
    | some (.ownI c ds) => match P.attr c m with
      | .fld k => bif ds.length == k then .ok .next (τ.set 0 (.ownI c (ds ++ [d]))) s else .no
      | _ => .no
    | _ => .no
  | .pset i k e, τ, s => (ev P call mk e τ s).bind fun d τ s => match τ[i]? with
    | some (.fz .pen) => match Pen.put k d s with
      | some s' => .ok .next τ s'
      | none => .no
    | _ => .no
  | .par3 i j l a b c, τ, s => (ev P call mk a τ s).bind fun x τ s => (ev P call mk b τ s).bind fun y τ s => (ev P call mk c τ s).bind fun z τ s => bif i == j || i == l || j == l then .no else .ok .next (((τ.set i (.fz x)).set j (.fz y)).set l (.fz z)) s
  | .copy j i, τ, s => match τ[i]? with
    | some (.own ds) => .ok .next (τ.set j (.fz (.lst ds))) s
    | _ => .no
def exs : CSs → List Slot → S → Out S Fl
  | .nil, τ, s => .ok .next τ s
  | .cons a r, τ, s => (ex a τ s).bind fun f τ s => match f with
    | .next => exs r τ s
    | f => .ok f τ s
end
end

/-- a def: how many positional parameters, whether *rest follows, the defaults of the last ones, how many slots, its body -/
structure Fn where
  np : Nat
  star : Bool
  dfl : List D
  ns : Nat
  body : CSs
/-- a def of the table: by its body, or by a given function -/
inductive FnD (S : Type) where
  | code (f : Fn)
  | ext (g : List D → S → CRes S)
  | none

def bindF (f : Fn) (ds : List D) : Option (List D) :=
  match f.star with
  | false => bif decide (ds.length ≤ f.np) && decide (f.np ≤ ds.length + f.dfl.length) then some (ds ++ f.dfl.drop (ds.length + f.dfl.length - f.np)) else none
  | true => bif decide (f.np ≤ ds.length) && lim ds.length then some (ds.take f.np ++ [.tup (ds.drop f.np)]) else none
def start' (n : Nat) (ds : List D) : List Slot := ds.map .fz ++ List.replicate (n - ds.length) .none
def runF {S : Type} [Pen S] (P : Pt) (call mk : Nat → List D → S → CRes S) (f : Fn) (ds : List D) (s : S) : CRes S :=
  match bindF f ds with
  | none => .no
  | some xs => match exs P call mk f.body (start' f.ns xs) s with
    | .ok .next _ s => .ok .non s
    | .ok (.ret d) _ s => .ok d s
    | .ok _ _ _ => .no
    | .exc c fs _ s => .exc c fs s
    | .no => .no
/-- the instance that a making leaves -/
def madeI {S : Type} (τ : List Slot) (s : S) : CRes S :=
  match (τ[0]? : Option Slot) with
  | some (.ownI c fs) => .ok (.ins c fs) s
  | _ => .no
/-- C(..): the instance is the def's first slot, owned -/
def runI {S : Type} [Pen S] (P : Pt) (call mk : Nat → List D → S → CRes S) (f : Fn) (c : Nat) (ds : List D) (s : S) : CRes S :=
  match bindF f (.non :: ds) with
  | some (_ :: xs) => match exs P call mk f.body (.ownI c [] :: start' (f.ns - 1) xs) s with
    | .ok .next τ s => madeI τ s
    | .ok (.ret .non) τ s => madeI τ s
    | .exc c fs _ s => .exc c fs s
    | _ => .no
  | _ => .no

/-- the program: its table, its defs -/
structure Prg (S : Type) extends Pt where
  fn : Nat → FnD S
mutual
def callN {S : Type} [Pen S] (G : Prg S) : Nat → Nat → List D → S → CRes S
  | 0, _, _, _ => .no
  | n + 1, f, ds, s => match G.fn f with
    | .code b => runF G.toPt (callN G n) (mkN G n) b ds s
    | .ext g => g ds s
    | .none => .no
def mkN {S : Type} [Pen S] (G : Prg S) : Nat → Nat → List D → S → CRes S
  | 0, _, _, _ => .no
  | n + 1, c, ds, s => match G.init c with
    | some f => match G.fn f with
      | .code b => runI G.toPt (callN G n) (mkN G n) b c ds s
      | _ => .no
    | none => .no
end
end Rz
end

section
set_option Elab.async false
set_option linter.all false
set_option maxHeartbeats 1000000
/-! Data represented in the abstract heap; the state's relation; readings. -/
namespace Rz
open PySem L2

structure Tb where
  K : PySem.W.Frag
  cA : Nat → Addr
  fld : Nat → List Str
  fA : Nat → Addr
  pen : Addr

abbrev Sub (F H : Hp) : Prop := ∀ a o, F a = some o → H a = some o
theorem Sub.refl (F : Hp) : Sub F F := fun _ _ h => h
theorem Sub.trans {F G H : Hp} (a : Sub F G) (b : Sub G H) : Sub F H := fun x o h => b x o (a x o h)
theorem Sub.new {H : Hp} {p : Addr} {o : HO} (h : H p = none) : Sub H (upd H p o) := fun a u e => by
  rw [upd_ne (ne_of_none e h)]; exact e
theorem Sub.none {F H : Hp} {a : Addr} (s : Sub F H) (h : H a = none) : F a = none := by
  cases e : F a with
  | none => rfl
  | some o => rw [s a o e] at h; cases h
theorem Sub.sqT {K : PySem.W.Frag} {F H : Hp} {a : Addr} {xs : List V} (s : Sub F H) (h : SqT K F a xs) : SqT K H a xs := by
  rcases h with (h | ⟨o, h⟩) | h
  · exact .inl (.inl (s _ _ h))
  · exact .inl (.inr ⟨o, s _ _ h⟩)
  · exact .inr h

mutual
def Rep (T : Tb) (F : Hp) : D → V → Prop
  | .non, v => v = .non
  | .bl b, v => v = .bl b
  | .int i, v => v = .int i
  | .str z, v => v = .str z
  | .tup ds, v => ∃ a vs, v = .ref a ∧ SqT T.K F a vs ∧ RepL T F ds vs
  | .lst ds, v => ∃ a vs, v = .ref a ∧ F a = some (.lst vs) ∧ RepL T F ds vs
  | .ins c ds, v => ∃ a dx vs, v = .ref a ∧ F a = some (.ins (T.cA c) dx ((T.fld c).zip vs)) ∧ ds.length ≤ (T.fld c).length ∧ RepL T F ds vs
  | .dct ks ds, v => ∃ a vs, v = .ref a ∧ F a = some (.dK (ks.zip vs)) ∧ ks.length = ds.length ∧ RepL T F ds vs
  | .cls c, v => v = .ref (T.cA c)
  | .ty n, v => v = .ty n
  | .fn f, v => v = .ref (T.fA f)
  | .pen, v => v = .ref T.pen
  | .opq u, v => v = u
def RepL (T : Tb) (F : Hp) : List D → List V → Prop
  | [], vs => vs = []
  | d :: ds, vs => ∃ v r, vs = v :: r ∧ Rep T F d v ∧ RepL T F ds r
end

mutual
theorem Rep.mono {T : Tb} {F F' : Hp} (s : Sub F F') : ∀ {d : D} {v : V}, Rep T F d v → Rep T F' d v
  | .non, _, h => h
  | .bl _, _, h => h
  | .int _, _, h => h
  | .str _, _, h => h
  | .tup ds, _, ⟨a, vs, e, q, r⟩ => ⟨a, vs, e, s.sqT q, RepL.mono s r⟩
  | .lst ds, _, ⟨a, vs, e, q, r⟩ => ⟨a, vs, e, s _ _ q, RepL.mono s r⟩
  | .ins c ds, _, ⟨a, dx, vs, e, q, l, r⟩ => ⟨a, dx, vs, e, s _ _ q, l, RepL.mono s r⟩
  | .dct ks ds, _, ⟨a, vs, e, q, l, r⟩ => ⟨a, vs, e, s _ _ q, l, RepL.mono s r⟩
  | .cls _, _, h => h
  | .ty _, _, h => h
  | .fn _, _, h => h
  | .pen, _, h => h
  | .opq _, _, h => h
theorem RepL.mono {T : Tb} {F F' : Hp} (s : Sub F F') : ∀ {ds : List D} {vs : List V}, RepL T F ds vs → RepL T F' ds vs
  | [], _, h => h
  | d :: ds, _, ⟨v, r, e, h, t⟩ => ⟨v, r, e, Rep.mono s h, RepL.mono s t⟩
end
section
variable {T : Tb} {F : Hp}
theorem RepL.length : ∀ {ds : List D} {vs : List V}, RepL T F ds vs → vs.length = ds.length
  | [], _, h => by cases h; rfl
  | d :: ds, _, ⟨v, r, e, _, t⟩ => by subst e; simp [RepL.length t]
theorem RepL.append : ∀ {ds es : List D} {vs ws : List V}, RepL T F ds vs → RepL T F es ws → RepL T F (ds ++ es) (vs ++ ws)
  | [], _, _, _, h, k => by cases h; exact k
  | d :: ds, _, _, _, ⟨v, r, e, h, t⟩, k => by subst e; exact ⟨v, _, rfl, h, RepL.append t k⟩
theorem RepL.get : ∀ {ds : List D} {vs : List V} {i : Nat} {d : D}, RepL T F ds vs → ds[i]? = some d → ∃ v, vs[i]? = some v ∧ Rep T F d v
  | [], _, _, _, _, e => by simp at e
  | x :: ds, _, 0, d, ⟨v, r, e, h, _⟩, q => by
    subst e
    simp at q; subst q
    exact ⟨v, rfl, h⟩
  | x :: ds, _, i + 1, d, ⟨v, r, e, _, t⟩, q => by
    subst e
    obtain ⟨w, h1, h2⟩ := RepL.get (i := i) t (by simpa using q)
    exact ⟨w, by simpa using h1, h2⟩
theorem RepL.take : ∀ {ds : List D} {vs : List V} (n : Nat), RepL T F ds vs → RepL T F (ds.take n) (vs.take n)
  | _, _, 0, _ => by simp [RepL]
  | [], _, _ + 1, h => by cases h; simp [RepL]
  | d :: ds, _, n + 1, ⟨v, r, e, h, t⟩ => by subst e; exact ⟨v, _, rfl, h, RepL.take n t⟩
theorem RepL.drop : ∀ {ds : List D} {vs : List V} (n : Nat), RepL T F ds vs → RepL T F (ds.drop n) (vs.drop n)
  | _, _, 0, h => h
  | [], _, _ + 1, h => by cases h; simp [RepL]
  | d :: ds, _, n + 1, ⟨v, r, e, h, t⟩ => by subst e; exact RepL.drop n t
theorem RepL.cons {d : D} {ds : List D} {v : V} {vs : List V} (h : Rep T F d v) (t : RepL T F ds vs) : RepL T F (d :: ds) (v :: vs) := ⟨v, vs, rfl, h, t⟩
theorem RepL.one {d : D} {v : V} (h : Rep T F d v) : RepL T F [d] [v] := ⟨v, [], rfl, h, rfl⟩
theorem RepL.two {d e : D} {v w : V} (h : Rep T F d v) (k : Rep T F e w) : RepL T F [d, e] [v, w] := ⟨v, [w], rfl, h, RepL.one k⟩
end

/-- the pen: its object by its state, what holds of the frozen part -/
structure Pn (S : Type) where
  obj : S → HO
  inv : Hp → S → Prop
  mono : ∀ F F' s, Sub F F' → inv F s → inv F' s
  mid : ∀ F F' F'' s s', Sub F F'' → inv F s → inv F' s' → inv F'' s'

/-- an object that a slot owns -/
def OwnO (T : Tb) (F : Hp) (ob : HO) : Slot → Prop
  | .own ds => ∃ vs, ob = .lst vs ∧ RepL T F ds vs
  | .ownI c ds => ∃ dx vs, ob = .ins (T.cA c) dx ((T.fld c).zip vs) ∧ ds.length ≤ (T.fld c).length ∧ RepL T F ds vs
  | _ => False
def Slot.isOwn : Slot → Bool
  | .own _ => true
  | .ownI _ _ => true
  | _ => false
/-- the frame: what stands outside, the instance that is being made -/
structure Fm where
  g : Hp
  slf : Addr
instance : CoeFun Fm (fun _ => Addr → Option HO) := ⟨Fm.g⟩
def Fm.upd (G : Fm) (p : Addr) (o : HO) : Fm := ⟨L2.upd G.g p o, G.slf⟩
theorem Fm.upd_same {G : Fm} {p : Addr} {o : HO} : (G.upd p o) p = some o := L2.upd_same
theorem Fm.upd_ne {G : Fm} {p a : Addr} {o : HO} (h : a ≠ p) : (G.upd p o) a = G a := L2.upd_ne h
def SlotOk (T : Tb) (G : Fm) (F H : Hp) (x : Option V) : Slot → Prop
  | .none => True
  | .fz d => ∃ v, x = some v ∧ Rep T F d v
  | .own ds => ∃ a ob, x = some (.ref a) ∧ H a = some ob ∧ F a = none ∧ G a = none ∧ a ≠ T.pen ∧ OwnO T F ob (.own ds)
  | .ownI c ds => ∃ a ob, x = some (.ref a) ∧ H a = some ob ∧ F a = none ∧ (G a = none ∧ a = G.slf) ∧ a ≠ T.pen ∧ OwnO T F ob (.ownI c ds)

structure SR {S : Type} (T : Tb) (pn : Pn S) (G : Fm) (F H : Hp) (σ : L2.St) (τ : List Slot) (s : S) : Prop where
  fh : Sub F H
  pen : H T.pen = some (pn.obj s)
  penF : F T.pen = none
  pinv : pn.inv F s
  gh : ∀ a o, G a = some o → H a = some o ∧ F a = none ∧ a ≠ T.pen
  len : σ.length = τ.length
  sl : ∀ i x, τ[i]? = some x → SlotOk T G F H (σ.getD i none) x
  ap : ∀ i j x y a, i ≠ j → τ[i]? = some x → τ[j]? = some y → x.isOwn = true → y.isOwn = true → σ.getD i none = some (.ref a) → σ.getD j none = some (.ref a) → False

theorem OwnO.mono {T : Tb} {F F' : Hp} {ob : HO} (s : Sub F F') : ∀ {x : Slot}, OwnO T F ob x → OwnO T F' ob x
  | .none, h => h
  | .fz _, h => h
  | .own _, ⟨vs, e, r⟩ => ⟨vs, e, r.mono s⟩
  | .ownI _ _, ⟨dx, vs, e, l, r⟩ => ⟨dx, vs, e, l, r.mono s⟩

section
variable {S : Type} [Pen S] {T : Tb} {pn : Pn S} {G : Fm} {F H : Hp} {σ : L2.St} {τ : List Slot} {s : S}
theorem SR.gfree (h : SR T pn G F H σ τ s) {p : Addr} (hp : H p = none) : G p = none := by
  cases e : G p with
  | none => rfl
  | some o => rw [(h.gh p o e).1] at hp; cases hp
/-- the heap grows, the frozen part grows by new objects alone -/
theorem SR.grow (h : SR T pn G F H σ τ s) {F' H' : Hp} (hF : Sub F F') (hH : Sub H H') (fh : Sub F' H') (new : ∀ a o, F' a = some o → F a = some o ∨ H a = none) : SR T pn G F' H' σ τ s := by
  have nF : ∀ {a : Addr} {o : HO}, H a = some o → F a = none → F' a = none := fun {a o} e n => by
    cases q : F' a with
    | none => rfl
    | some u =>
      rcases new a u q with z | z
      · rw [n] at z; cases z
      · rw [e] at z; cases z
  refine ⟨fh, hH _ _ h.pen, nF h.pen h.penF, pn.mono _ _ _ hF h.pinv, fun a o e => ?_, h.len, fun i x e => ?_, h.ap⟩
  · obtain ⟨a1, a2, a3⟩ := h.gh a o e
    exact ⟨hH _ _ a1, nF a1 a2, a3⟩
  · have q := h.sl i x e
    cases x with
    | none => trivial
    | fz d => obtain ⟨v, e1, r⟩ := q; exact ⟨v, e1, r.mono hF⟩
    | own ds => obtain ⟨a, ob, e1, e2, e3, e4, e5, o⟩ := q; exact ⟨a, ob, e1, hH _ _ e2, nF e2 e3, e4, e5, o.mono hF⟩
    | ownI c ds => obtain ⟨a, ob, e1, e2, e3, e4, e5, o⟩ := q; exact ⟨a, ob, e1, hH _ _ e2, nF e2 e3, e4, e5, o.mono hF⟩
/-- a new frozen object -/
theorem SR.new (h : SR T pn G F H σ τ s) {p : Addr} {o : HO} (hp : H p = none) : SR T pn G (upd F p o) (upd H p o) σ τ s := by
  have hF : F p = none := h.fh.none hp
  refine h.grow (Sub.new hF) (Sub.new hp) (fun a u e => ?_) fun a u e => ?_
  · by_cases z : a = p
    · subst z; rw [upd_same] at e ⊢; exact e
    · rw [upd_ne z] at e ⊢; exact h.fh a u e
  · by_cases z : a = p
    · subst z; exact .inr hp
    · rw [upd_ne z] at e; exact .inl e
/-- a new object, not frozen -/
theorem SR.newU (h : SR T pn G F H σ τ s) {p : Addr} {o : HO} (hp : H p = none) : SR T pn G F (upd H p o) σ τ s :=
  h.grow (Sub.refl F) (Sub.new hp) (h.fh.trans (Sub.new hp)) fun a o e => .inl e
end
end Rz
end

section
set_option autoImplicit false
set_option Elab.async false
set_option linter.all false
set_option maxHeartbeats 1000000
namespace Rz
open PySem L2

structure Cz (S : Type) where
  T : Tb
  pn : Pn S
  P : Pt
  call : Nat → List D → S → CRes S
  make : Nat → List D → S → CRes S

/-- an exception's own dict -/
def ExcOk (T : Tb) (F : Hp) (c : Nat) (fs : List D) (od : Option Addr) : Prop :=
  match od with
  | some d => ∃ vs, F d = some (.xd ((T.fld c).zip vs)) ∧ fs.length ≤ (T.fld c).length ∧ RepL T F fs vs
  | none => fs = []

section
variable {S : Type} [Pen S] {α β γ δ : Type}
/-- what follows an outcome -/
def Post (Z : Cz S) (G : Fm) (Rp : Hp → α → β → Prop) (F : Hp) (σ : L2.St) (Q : β → Hp → Prop) (W : WX) : Out S α → Prop
  | .ok a τ' s' => ∀ b H' F', Sub F F' → SR Z.T Z.pn G F' H' σ τ' s' → Rp F' a b → Q b H'
  | .exc c fs τ' s' => ∀ H' F' od, Sub F F' → SR Z.T Z.pn G F' H' σ τ' s' → ExcOk Z.T F' c fs od → W (.ref (Z.T.cA c)) od σ H'
  | .no => False
variable {Z : Cz S} {G : Fm} {F : Hp} {σ : L2.St} {W : WX} {x : Out S α}
theorem Post.mono {Rp : Hp → α → β → Prop} {Q : β → Hp → Prop} {F1 : Hp} (e : Sub F F1) (h : Post Z G Rp F σ Q W x) : Post Z G Rp F1 σ Q W x := by
  cases x with
  | ok a τ s => exact fun b H' F' k => h b H' F' (e.trans k)
  | exc c fs τ s => exact fun H' F' od k => h H' F' od (e.trans k)
  | no => exact h
theorem Post.bind {Rp : Hp → α → β → Prop} {Rp2 : Hp → γ → δ → Prop} {K : β → Hp → Prop} {Q : δ → Hp → Prop} {f : α → List Slot → S → Out S γ} (h : Post Z G Rp2 F σ Q W (x.bind f))
    (k : ∀ a b τ1 s1 F1 H1, Sub F F1 → SR Z.T Z.pn G F1 H1 σ τ1 s1 → Rp F1 a b → Post Z G Rp2 F1 σ Q W (f a τ1 s1) → K b H1) : Post Z G Rp F σ K W x := by
  cases x with
  | ok a τ s => exact fun b H' F' e q r => k a b τ s F' H' e q r (Post.mono e h)
  | exc c fs τ s => exact h
  | no => exact h
theorem Post.imp {Rp : Hp → α → β → Prop} {Q Q' : β → Hp → Prop} (h : Post Z G Rp F σ Q W x) (k : ∀ b H, Q b H → Q' b H) : Post Z G Rp F σ Q' W x := by
  cases x with
  | ok a τ s => exact fun b H' F' e q r => k _ _ (h b H' F' e q r)
  | exc c fs τ s => exact h
  | no => exact h
theorem Post.ok {Rp : Hp → α → β → Prop} {Q : β → Hp → Prop} {a : α} {b : β} {τ : List Slot} {s : S} {H : Hp} (h : Post Z G Rp F σ Q W (.ok a τ s)) (q : SR Z.T Z.pn G F H σ τ s) (r : Rp F a b) : Q b H := h b H F (Sub.refl F) q r
/-- an outcome of an option -/
theorem Post.of {Rp : Hp → α → β → Prop} {Q : β → Hp → Prop} {o : Option α} {τ : List Slot} {s : S} (h : Post Z G Rp F σ Q W (Out.of o τ s)) : ∃ a, o = some a ∧ Post Z G Rp F σ Q W (.ok a τ s) := by
  cases o with
  | none => exact h.elim
  | some a => exact ⟨a, rfl, h⟩
end

section
variable {S : Type} [Pen S] (Z : Cz S) (G : Fm) (W : WX)
abbrev RepV : Hp → D → V → Prop := Rep Z.T
abbrev RepVs : Hp → List D → List V → Prop := RepL Z.T
def EqR {α : Type} : Hp → α → α → Prop := fun _ a b => a = b
def tD (c : CE) : TE := fun σ H Q => ∃ F τ s, SR Z.T Z.pn G F H σ τ s ∧ Post Z G (Rep Z.T) F σ Q W (ev Z.P Z.call Z.make c τ s)
def tDA (c : CAs) : TA := fun σ H Q => ∃ F τ s, SR Z.T Z.pn G F H σ τ s ∧ Post Z G (RepL Z.T) F σ Q W (evA Z.P Z.call Z.make c τ s)
def tDT (c : CE) : TT := fun σ H Q => ∃ F τ s, SR Z.T Z.pn G F H σ τ s ∧ Post Z G EqR F σ Q W ((ev Z.P Z.call Z.make c τ s).bind fun x τ s => truV Z.P Z.call x τ s)
end

theorem _root_.L2.PE.imp {X : Cx} {e : Expr} {t t' : TE} (h : PE X e t) (k : ∀ σ H Q, t' σ H Q → t σ H Q) : PE X e t' := ⟨fun pins s σ H Q I q => h.run pins s σ H Q I (k σ H Q q)⟩
theorem _root_.L2.PT.imp {X : Cx} {e : Expr} {t t' : TT} (h : PT X e t) (k : ∀ σ H Q, t' σ H Q → t σ H Q) : PT X e t' := ⟨fun pins s σ H Q I q => h.run pins s σ H Q I (k σ H Q q)⟩
theorem _root_.L2.PA.imp {X : Cx} {e : List Expr} {t t' : TA} (h : PA X e t) (k : ∀ σ H Q, t' σ H Q → t σ H Q) : PA X e t' := ⟨fun p pins s σ H Q I q => h.run p pins s σ H Q I (k σ H Q q)⟩
theorem _root_.L2.PS.imp {X : Cx} {e : Stmt} {t t' : TS} (h : PS X e t) (k : ∀ D σ H, t' D σ H → t D σ H) : PS X e t' := ⟨fun pins s σ H D I q => h.run pins s σ H D I (k D σ H q)⟩
theorem _root_.L2.PSs.imp {X : Cx} {e : List Stmt} {t t' : TS} (h : PSs X e t) (k : ∀ D σ H, t' D σ H → t D σ H) : PSs X e t' := ⟨fun pins s σ H D I q => h.run pins s σ H D I (k D σ H q)⟩

section
variable {S : Type} [Pen S] {Z : Cz S} {G : Fm} {F H : Hp} {σ : L2.St} {τ : List Slot} {s : S} {W : WX}
theorem getD_of {i : Nat} {v : V} (h : σ.getD i none = some v) : σ[i]? = some (some v) := by
  rw [List.getD_eq_getElem?_getD] at h
  cases e : σ[i]? with
  | none => rw [e] at h; cases h
  | some o => rw [e] at h; exact congrArg some h
theorem SR.freeze {T : Tb} {pn : Pn S} (h : SR T pn G F H σ τ s) {i : Nat} {x : Slot} {a : Addr} {ob : HO} {d : D} (hx : τ[i]? = some x) (ho : x.isOwn = true) (ha : σ.getD i none = some (.ref a)) (hH : H a = some ob) (hF : F a = none) (hG : G a = none) (hp : a ≠ T.pen)
    (hd : Rep T (upd F a ob) d (.ref a)) : SR T pn G (upd F a ob) H σ (τ.set i (.fz d)) s := by
  have sF : Sub F (upd F a ob) := Sub.new hF
  have ilt : i < τ.length := (List.getElem?_eq_some_iff.mp hx).1
  refine ⟨fun b o e => ?_, h.pen, by rw [upd_ne (Ne.symm hp)]; exact h.penF, pn.mono _ _ _ sF h.pinv, fun b o e => ?_, by simpa using h.len, fun j y e => ?_, fun j k y z b hjk e1 e2 o1 o2 e3 e4 => ?_⟩
  · by_cases z : b = a
    · subst z; rw [upd_same] at e; cases e; exact hH
    · rw [upd_ne z] at e; exact h.fh b o e
  · obtain ⟨a1, a2, a3⟩ := h.gh b o e
    have nb : b ≠ a := fun z => by subst z; rw [hG] at e; cases e
    exact ⟨a1, by rw [upd_ne nb]; exact a2, a3⟩
  · by_cases hj : j = i
    · subst hj
      rw [List.getElem?_set_self ilt] at e
      cases e
      exact ⟨.ref a, ha, hd⟩
    · rw [List.getElem?_set_ne (Ne.symm hj)] at e
      have q := h.sl j y e
      cases y with
      | none => trivial
      | fz d => obtain ⟨v, e1, r⟩ := q; exact ⟨v, e1, r.mono sF⟩
      | own ds =>
        obtain ⟨b, ob', e1, e2, e3, e4, e5, o⟩ := q
        have nb : b ≠ a := fun z => h.ap j i _ x a hj e hx rfl ho (z ▸ e1) ha
        exact ⟨b, ob', e1, e2, by rw [upd_ne nb]; exact e3, e4, e5, o.mono sF⟩
      | ownI c ds =>
        obtain ⟨b, ob', e1, e2, e3, e4, e5, o⟩ := q
        have nb : b ≠ a := fun z => h.ap j i _ x a hj e hx rfl ho (z ▸ e1) ha
        exact ⟨b, ob', e1, e2, by rw [upd_ne nb]; exact e3, e4, e5, o.mono sF⟩
  · by_cases hj : j = i
    · subst hj; rw [List.getElem?_set_self ilt] at e1; cases e1; cases o1
    · by_cases hk : k = i
      · subst hk; rw [List.getElem?_set_self ilt] at e2; cases e2; cases o2
      · rw [List.getElem?_set_ne (Ne.symm hj)] at e1
        rw [List.getElem?_set_ne (Ne.symm hk)] at e2
        exact h.ap j k y z b hjk e1 e2 o1 o2 e3 e4

/-- a slot gets a frozen value -/
theorem SR.setF {T : Tb} {pn : Pn S} (h : SR T pn G F H σ τ s) (i : Nat) {d : D} {v : V} (r : Rep T F d v) : SR T pn G F H (σ.set i (some v)) (τ.set i (.fz d)) s := by
  refine ⟨h.fh, h.pen, h.penF, h.pinv, h.gh, by simpa using h.len, fun j y e => ?_, fun j k y z b hjk e1 e2 o1 o2 e3 e4 => ?_⟩
  · by_cases hj : j = i
    · subst hj
      have jlt : j < τ.length := by have := (List.getElem?_eq_some_iff.mp e).1; simpa using this
      rw [List.getElem?_set_self jlt] at e
      cases e
      refine ⟨v, ?_, r⟩
      rw [List.getD_eq_getElem?_getD, List.getElem?_set_self (by rw [h.len]; exact jlt)]; rfl
    · rw [List.getElem?_set_ne (Ne.symm hj)] at e
      have q := h.sl j y e
      rw [List.getD_eq_getElem?_getD] at q ⊢
      rw [List.getElem?_set_ne (Ne.symm hj)]
      exact q
  · have jlt : j < τ.length := by have := (List.getElem?_eq_some_iff.mp e1).1; simpa using this
    have klt : k < τ.length := by have := (List.getElem?_eq_some_iff.mp e2).1; simpa using this
    by_cases hj : j = i
    · subst hj; rw [List.getElem?_set_self jlt] at e1; cases e1; cases o1
    · by_cases hk : k = i
      · subst hk; rw [List.getElem?_set_self klt] at e2; cases e2; cases o2
      · rw [List.getElem?_set_ne (Ne.symm hj)] at e1
        rw [List.getElem?_set_ne (Ne.symm hk)] at e2
        rw [List.getD_eq_getElem?_getD, List.getElem?_set_ne (Ne.symm hj), ← List.getD_eq_getElem?_getD] at e3
        rw [List.getD_eq_getElem?_getD, List.getElem?_set_ne (Ne.symm hk), ← List.getD_eq_getElem?_getD] at e4
        exact h.ap j k y z b hjk e1 e2 o1 o2 e3 e4

variable {X : Cx}
/-! ### rules: names, constants -/
theorem de_v {i : Nat} {x : Str} {pos : Pos} (hp : PE X (.Name x pos) (tVar i)) : PE X (.Name x pos) (tD Z G W (.v i)) := hp.imp fun σ H Q => by
  rintro ⟨F, τ, s, q, h⟩
  simp only [ev] at h
  cases e : τ[i]? with
  | none => rw [e] at h; exact h.elim
  | some sl =>
    rw [e] at h
    have ok := q.sl i sl e
    cases sl with
    | none => exact h.elim
    | fz d =>
      obtain ⟨v, e1, r⟩ := ok
      exact ⟨v, getD_of e1, h.ok q r⟩
    | own ds =>
      obtain ⟨a, ob, e1, e2, e3, e4, e5, vs, rfl, r⟩ := ok
      have r' : Rep Z.T (upd F a (.lst vs)) (.lst ds) (.ref a) := ⟨a, vs, rfl, upd_same, r.mono (Sub.new e3)⟩
      exact ⟨.ref a, getD_of e1, h (.ref a) H (upd F a (.lst vs)) (Sub.new e3) (q.freeze e rfl e1 e2 e3 e4 e5 r') r'⟩
    | ownI c ds =>
      obtain ⟨a, ob, e1, e2, e3, e4, e5, dx, vs, rfl, l, r⟩ := ok
      have r' : Rep Z.T (upd F a (.ins (Z.T.cA c) dx ((Z.T.fld c).zip vs))) (.ins c ds) (.ref a) := ⟨a, dx, vs, rfl, upd_same, l, r.mono (Sub.new e3)⟩
      exact ⟨.ref a, getD_of e1, h (.ref a) H _ (Sub.new e3) (q.freeze e rfl e1 e2 e3 e4.1 e5 r') r'⟩
theorem de_k {d : D} {v : V} {e : Expr} (hp : PE X e (tC v)) (hr : ∀ F, Rep Z.T F d v) : PE X e (tD Z G W (.k d)) := hp.imp fun σ H Q => by
  rintro ⟨F, τ, s, q, h⟩
  exact h.ok q (hr F)
theorem de_g {j : Nat} {v : V} {e : Expr} (hp : PE X e (tC v)) (hr : ∀ F, Rep Z.T F (Z.P.gl j) v) : PE X e (tD Z G W (.g j)) := hp.imp fun σ H Q => by
  rintro ⟨F, τ, s, q, h⟩
  exact h.ok q (hr F)

/-! ### argument lists -/
theorem da_nil : PA X [] (tDA Z G W .nil) := pa_nil.imp fun σ H Q => by
  rintro ⟨F, τ, s, q, h⟩
  exact h.ok q rfl
theorem da_cons {e : Expr} {es : List Expr} {c : CE} {cs : CAs} (ha : PE X e (tD Z G W c)) (hr : PA X es (tDA Z G W cs)) (hs : starEach (e :: es) X.env = (false, eval e X.env) :: starEach es X.env) : PA X (e :: es) (tDA Z G W (.cons false c cs)) :=
  (pa_cons ha hr hs).imp fun σ H Q => by
    rintro ⟨F, τ, s, q, h⟩
    exact ⟨F, τ, s, q, h.bind fun x v τ1 s1 F1 H1 e1 q1 r1 h1 => ⟨F1, τ1, s1, q1, h1.bind fun xs vs τ2 s2 F2 H2 e2 q2 r2 h2 => h2.ok q2 ⟨v, vs, rfl, r1.mono e2, r2⟩⟩⟩

/-! ### tuples, lists -/
theorem lim_of {n : Nat} (h : lim n = true) : n ≤ 100000 := of_decide_eq_true h
theorem lim_size {n : Nat} (h : lim n = true) : n ≤ sizeLine := Nat.le_trans (lim_of h) (by rw [sizeLine_eq]; decide)
theorem Post.bif {α β : Type} {Rp : Hp → α → β → Prop} {Q : β → Hp → Prop} {b : Bool} {x : Out S α} (h : Post Z G Rp F σ Q W (bif b then x else .no)) : b = true ∧ Post Z G Rp F σ Q W x := by
  cases b with
  | true => exact ⟨rfl, h⟩
  | false => exact h.elim
theorem de_tup {es : List Expr} {cs : CAs} {k : Nat} {pos : Pos} (ha : PA X es (tDA Z G W cs)) : PE X (.Tuple es k pos) (tD Z G W (.tup cs)) := (pe_tup ha).imp fun σ H Q => by
  rintro ⟨F, τ, s, q, h⟩
  refine ⟨F, τ, s, q, h.bind fun xs vs τ1 s1 F1 H1 e1 q1 r1 h1 => ?_⟩
  obtain ⟨hl, h1⟩ := h1.bif
  refine ⟨by rw [r1.length]; exact lim_size hl, fun p hp => ?_⟩
  have hF := q1.fh.none hp
  exact h1 _ _ (upd F1 p (.tup vs)) (Sub.new hF) (q1.new hp) ⟨p, vs, rfl, SqT.of upd_same, r1.mono (Sub.new hF)⟩
theorem de_lst {es : List Expr} {cs : CAs} {pos : Pos} (ha : PA X es (tDA Z G W cs)) : PE X (.List es pos) (tD Z G W (.lst cs)) := (pe_lst ha).imp fun σ H Q => by
  rintro ⟨F, τ, s, q, h⟩
  refine ⟨F, τ, s, q, h.bind fun xs vs τ1 s1 F1 H1 e1 q1 r1 h1 => ?_⟩
  obtain ⟨hl, h1⟩ := h1.bif
  refine ⟨by rw [r1.length]; exact lim_size hl, fun p hp => ?_⟩
  have hF := q1.fh.none hp
  exact h1 _ _ (upd F1 p (.lst vs)) (Sub.new hF) (q1.new hp) ⟨p, vs, rfl, upd_same, r1.mono (Sub.new hF)⟩
end
end Rz
end

section
set_option autoImplicit false
set_option Elab.async false
set_option linter.all false
set_option maxHeartbeats 1000000
namespace Rz
open PySem L2

/-- the frame of a call: what stood outside stays, the frozen part grows -/
structure Fr {S : Type} (T : Tb) (pn : Pn S) (F H F' H' : Hp) (s' : S) : Prop where
  ff : Sub F F'
  fh : Sub F' H'
  pen : H' T.pen = some (pn.obj s')
  penF : F' T.pen = none
  pinv : pn.inv F' s'
  out : ∀ a o, H a = some o → F a = none → a ≠ T.pen → H' a = some o ∧ F' a = none

section
variable {S : Type} [Pen S] {Z : Cz S} {T : Tb} {pn : Pn S} {G : Fm} {F H F' H' : Hp} {σ : L2.St} {τ : List Slot} {s s' : S} {W : WX}
theorem SR.call (h : SR T pn G F H σ τ s) (k : Fr T pn F H F' H' s') : SR T pn G F' H' σ τ s' := by
  refine ⟨k.fh, k.pen, k.penF, k.pinv, fun a o e => ?_, h.len, fun i x e => ?_, h.ap⟩
  · obtain ⟨a1, a2, a3⟩ := h.gh a o e
    obtain ⟨b1, b2⟩ := k.out a o a1 a2 a3
    exact ⟨b1, b2, a3⟩
  · have q := h.sl i x e
    cases x with
    | none => trivial
    | fz d => obtain ⟨v, e1, r⟩ := q; exact ⟨v, e1, r.mono k.ff⟩
    | own ds =>
      obtain ⟨a, ob, e1, e2, e3, e4, e5, o⟩ := q
      obtain ⟨b1, b2⟩ := k.out a ob e2 e3 e5
      exact ⟨a, ob, e1, b1, b2, e4, e5, o.mono k.ff⟩
    | ownI c ds =>
      obtain ⟨a, ob, e1, e2, e3, e4, e5, o⟩ := q
      obtain ⟨b1, b2⟩ := k.out a ob e2 e3 e5
      exact ⟨a, ob, e1, b1, b2, e4, e5, o.mono k.ff⟩

/-- what follows a call -/
def PostC (Z : Cz S) (F H : Hp) (Q : VK) (E : XK) : CRes S → Prop
  | .ok d s' => ∀ v H' F', Fr Z.T Z.pn F H F' H' s' → Rep Z.T F' d v → Q v H'
  | .exc c fs s' => ∀ H' F' od, Fr Z.T Z.pn F H F' H' s' → ExcOk Z.T F' c fs od → E (.ref (Z.T.cA c)) od H'
  | .no => False
/-- the promise of a def of the table -/
def spF (Z : Cz S) (f : Nat) : Sp := fun vs H Q E => ∃ F ds s, Sub F H ∧ H Z.T.pen = some (Z.pn.obj s) ∧ F Z.T.pen = none ∧ Z.pn.inv F s ∧ RepL Z.T F ds vs ∧ PostC Z F H Q E (Z.call f ds s)
theorem Post.toC {Q : VK} {x : CRes S} (q : SR Z.T Z.pn G F H σ τ s) (h : Post Z G (Rep Z.T) F σ Q W (x.out τ)) : PostC Z F H Q (fun c d H' => W c d σ H') x := by
  cases x with
  | ok d s' => exact fun v H' F' k r => h v H' F' k.ff (q.call k) r
  | exc c fs s' => exact fun H' F' od k r => h H' F' od k.ff (q.call k) r
  | no => exact h
theorem spF_of {Q : VK} {f : Nat} {ds : List D} {vs : List V} (q : SR Z.T Z.pn G F H σ τ s) (r : RepL Z.T F ds vs) (h : Post Z G (Rep Z.T) F σ Q W ((Z.call f ds s).out τ)) : spF Z f vs H Q (fun c d H' => W c d σ H') :=
  ⟨F, ds, s, q.fh, q.pen, q.penF, q.pinv, r, h.toC q⟩

/-- arguments that are bound as values by place are -/
def ArgAs (K : PySem.W.Frag) (f : Addr) (ar : Args) (us : List Value) : Prop := ∀ oc od fd osl, K.lookup f = some ⟨oc, od, .func fd, osl⟩ → bindArgs fd ar = bindArgs fd ⟨us, []⟩
theorem ArgAs.rfl {K : PySem.W.Frag} {f : Addr} {us : List Value} : ArgAs K f ⟨us, []⟩ us := fun _ _ _ _ _ => Eq.refl _
/-- a def of the table, seen from a context -/
def FnRg (P : Program) (w : World) (K : PySem.W.Frag) (mg : Str → Option Value) (base : Heap) (CX : CXT) (k : Nat) (f : Addr) (sp : Sp) : Prop :=
  ∀ (A : Around) (outer : List Env) (sh : Shared) (H : Hp) (us : List Value) (vs : List V) (Q : VK) (E : XK), Room k A → A.guards = some [] → Env0 P w K mg base A outer sh H → Vals vs us → sp vs H Q E →
    ∀ ar : Args, ArgAs K f ar us → codeAny (model P w) A (.call (.ref f) ar) (CR CX outer P w H sh Q E) sh
def FnZ (Z : Cz S) (X : Cx) (f : Nat) : Prop := ∃ k, Room (k + 1) X.A ∧ X.A.guards = some [] ∧ FnRg X.prog X.w X.K X.mg X.base (CX X.prog X.w) k (Z.T.fA f) (spF Z f)

variable {X : Cx} {pins : List (Addr × Obj)} {sh : Shared}
theorem run_zk {f : Nat} {Q : VK} {us : List Value} {vs : List V} (F : FnZ Z X f) (tk : Takes X W) (I : Inv X pins σ H sh) (r : Vals vs us) (h : spF Z f vs H Q (fun c d H' => W c d σ H')) {ar : Args} (har : ArgAs X.K (Z.T.fA f) ar us) :
    codeAny (model X.prog X.w) X.A (.call (.ref (Z.T.fA f)) ar) (fun r s' => match r with | .ok (.ret v) => EP X pins σ Q v s' | .ok _ => False | .error e => X.xe e s') sh := by
  obtain ⟨k, hr, hg, F⟩ := F
  refine codeAny_mono (F X.A X.stack sh H us vs Q _ (hr.mono (Nat.le_succ k)) hg I.env0 r h ar har) fun r s' hq => ?_
  cases r with
  | error e => exact tk e s' (XE.of_call I (fun cls d H' z => z) hq)
  | ok fl =>
    cases fl with
    | ret u => exact I.after hq
    | next => exact False.elim hq
    | brk => exact False.elim hq
    | cont => exact False.elim hq
theorem run_z {f : Nat} {Q : VK} {us : List Value} {vs : List V} (F : FnZ Z X f) (tk : Takes X W) (I : Inv X pins σ H sh) (r : Vals vs us) (h : spF Z f vs H Q (fun c d H' => W c d σ H')) :
    codeAny (model X.prog X.w) X.A (.call (.ref (Z.T.fA f)) ⟨us, []⟩) (fun r s' => match r with | .ok (.ret v) => EP X pins σ Q v s' | .ok _ => False | .error e => X.xe e s') sh := run_zk F tk I r h ArgAs.rfl
theorem wp_call {M : Model} {A : Around} {E : Value → Shared → Prop} {Q : Value → Shared → Prop} {f : Value} {us : List Value} (h : codeAny M A (.call f ⟨us, []⟩) (fun r s' => match r with | .ok (.ret v) => Q v s' | .ok _ => False | .error e => E e s') sh) : wpAny M A (call f us) Q E sh := wpAny_call h

/-! ### argument lists in calls -/
def isStar : Expr → Bool
  | .Starred _ _ => true
  | _ => false
theorem starEach_plain {e : Expr} {es : List Expr} {env : Env} (h : isStar e = false) : starEach (e :: es) env = (false, eval e env) :: starEach es env := by
  cases e <;> first | rfl | cases h
theorem backTo_any {pos : Pos} {env : Env} : ∀ {es : List Expr}, (backTo pos (starEach es env)).any (·.1) = es.any isStar
  | [] => rfl
  | e :: es => by
    have ih := backTo_any (pos := pos) (env := env) (es := es)
    cases e <;> (show (_ || (backTo pos (starEach es env)).any (·.1)) = (_ || es.any isStar); rw [ih] <;> rfl)
theorem da_star {e : Expr} {es : List Expr} {c : CE} {cs : CAs} {p : Pos} (hK : X.K = Z.T.K) (ha : PE X e (tD Z G W c)) (hr : PA X es (tDA Z G W cs)) : PA X (.Starred e p :: es) (tDA Z G W (.cons true c cs)) :=
  (StX.pa_star ha hr rfl).imp fun σ H Q => by
    rintro ⟨F, τ, s, q, h⟩
    refine ⟨F, τ, s, q, h.bind fun x v τ1 s1 F1 H1 e1 q1 r1 h1 => ?_⟩
    have go : ∀ {xs : List D} {a : Addr} {vs : List V}, v = .ref a → (SqT X.K H1 a vs ∨ SqL X.K H1 a vs) → RepL Z.T F1 xs vs → starOf x = some xs → ∃ p zs, v = V.ref p ∧ (SqT X.K H1 p zs ∨ SqL X.K H1 p zs) ∧ tDA Z G W cs σ H1 fun ys H2 => Q (zs ++ ys) H2 := by
      intro xs a vs ev hs rl e
      simp only [cond_true, e] at h1
      exact ⟨a, vs, ev, hs, F1, τ1, s1, q1, h1.bind fun ys ws τ2 s2 F2 H2 e2 q2 r2 h2 => h2.ok q2 ((rl.mono e2).append r2)⟩
    cases x with
    | tup ds => obtain ⟨a, vs, ev, hs, rl⟩ := r1; exact go ev (.inl (by rw [hK]; exact q1.fh.sqT hs)) rl rfl
    | lst ds => obtain ⟨a, vs, ev, hs, rl⟩ := r1; exact go ev (.inr (SqL.of (q1.fh _ _ hs))) rl rfl
    | _ => exact h1.elim

/-- an argument list and its compact form -/
inductive ArgsZ (Z : Cz S) (G : Fm) (W : WX) (X : Cx) : List Expr → CAs → Prop
  | nil : ArgsZ Z G W X [] .nil
  | cons {e : Expr} {es : List Expr} {c : CE} {cs : CAs} : isStar e = false → PE X e (tD Z G W c) → ArgsZ Z G W X es cs → ArgsZ Z G W X (e :: es) (.cons false c cs)
  | star {e : Expr} {es : List Expr} {c : CE} {cs : CAs} {p : Pos} : PE X e (tD Z G W c) → ArgsZ Z G W X es cs → ArgsZ Z G W X (.Starred e p :: es) (.cons true c cs)
theorem ArgsZ.pa (hK : X.K = Z.T.K) : ∀ {es : List Expr} {cs : CAs}, ArgsZ Z G W X es cs → PA X es (tDA Z G W cs)
  | _, _, .nil => da_nil
  | _, _, .cons h he hr => da_cons he (ArgsZ.pa hK hr) (starEach_plain h)
  | _, _, .star he hr => da_star hK he (ArgsZ.pa hK hr)
/-- the shapes of argument lists that are served -/
def argsOk : List Expr → Bool
  | [] => true
  | e :: es => !isStar e || es.isEmpty
theorem callWith_z {f : Value} {first : List Value} {args : List Expr} {cs : CAs} {pos : Pos} {Qf : Value → Shared → Prop} {Kq : List V → Hp → Prop} (hK : X.K = Z.T.K) (hk : PySem.W.keepIn X.K f = true) (hs : argsOk args = true)
    (ha : ArgsZ Z G W X args cs) (I : Inv X pins σ H sh) (h : tDA Z G W cs σ H Kq)
    (k : ∀ us s1 vs H1, Inv X pins σ H1 s1 → Vals vs us → Kq vs H1 → wpAny (model X.prog X.w) X.A (call f (first ++ us)) Qf X.xe s1) :
    wpAny (model X.prog X.w) X.A (callWith pos f first (backTo pos (starEach args X.env)) []) Qf X.xe sh := by
  cases ha with
  | nil =>
    obtain ⟨F, τ, s, q, h⟩ := h
    exact PySem.W.callWith_K0 I.kIn hk (k [] sh [] H I .nil (h.ok q rfl))
  | @cons e es c cs hp he hr =>
    have pa := (ArgsZ.cons hp he hr).pa hK
    have go := thn (pa.run pos pins sh σ H Kq I h) fun us s1 ⟨vs, H1, I1, r, q⟩ => (⟨I1.kIn, k us s1 vs H1 I1 r q⟩ : X.K.In s1.heap ∧ wpAny (model X.prog X.w) X.A (call f (first ++ us)) Qf X.xe s1)
    cases hst : es.any isStar with
    | false => exact PySem.W.callWith_K (h₀ := X.base) I.ok.mod.kin hk go (starEach_plain hp) (by rw [backTo_any]; exact hst)
    | true => exact PySem.W.callWith_S2 (h₀ := X.base) I.ok.mod.kin hk go (starEach_plain hp) (by rw [backTo_any]; exact hst)
  | @star e es c cs p he hr =>
    cases hr with
    | nil =>
      refine PySem.W.callWith_S (h₀ := X.base) I.ok.mod.kin hk (thn (he.run pins sh σ H (fun v H1 => ∃ a vs, v = .ref a ∧ (SqT X.K H1 a vs ∨ SqL X.K H1 a vs) ∧ Kq vs H1) I ?_) fun v s1 ⟨y, H1, I1, ry, a, vs, ey, hxs, q⟩ => ?_) rfl
      · obtain ⟨F, τ, s, q, h⟩ := h
        refine ⟨F, τ, s, q, h.bind fun x v τ1 s1 F1 H1 e1 q1 r1 h1 => ?_⟩
        cases x with
        | tup ds =>
          obtain ⟨a, vs, ev, hs, rl⟩ := r1
          refine ⟨a, vs, ev, .inl (by rw [hK]; exact q1.fh.sqT hs), h1.ok q1 ?_⟩
          simpa using rl
        | lst ds =>
          obtain ⟨a, vs, ev, hs, rl⟩ := r1
          refine ⟨a, vs, ev, .inr (SqL.of (q1.fh _ _ hs)), h1.ok q1 ?_⟩
          simpa using rl
        | _ => exact h1.elim
      · subst ey
        obtain rfl : v = Value.ref a := ry
        exact StX.star_any I1 hxs fun us s2 I2 rv => ⟨I2.kIn, k us s2 vs H1 I2 rv q⟩
    | cons _ _ _ => cases hs
    | star _ _ => cases hs

/-- f(..), f a def of the module -/
theorem de_call {f : Nat} {x : Str} {args : List Expr} {cs : CAs} {p pos : Pos} (hK : X.K = Z.T.K) (F : FnZ Z X f) (hk : PySem.W.keepIn X.K (.ref (Z.T.fA f)) = true) (tk : Takes X W) (hg : Gl X x) (hm : X.mg x = some (.ref (Z.T.fA f))) (hs : argsOk args = true) (ha : ArgsZ Z G W X args cs) (hd : (x == ("__debug__" : Str)) = false) :
    PE X (.Call (.Name x p) args [] pos) (tD Z G W (.call f cs)) := by
  refine ⟨fun pins sh σ H Q I h => ?_⟩
  obtain ⟨F0, τ, s, q, h⟩ := h
  refine wpAny_Call_Name_kw (ld_glob I hg hm ?_ hd)
  refine callWith_z (first := []) hK hk hs ha I ⟨F0, τ, s, q, h.bind fun xs vs τ1 s1 F1 H1 e1 q1 r1 h1 => spF_of q1 r1 h1⟩ fun us s1 vs H1 I1 r hq => ?_
  exact wpAny_call (run_z F tk I1 r hq)
end
end Rz
end

section
set_option autoImplicit false
set_option Elab.async false
set_option linter.all false
set_option maxHeartbeats 1000000
namespace Rz
open PySem L2

theorem zip_lookup : ∀ {ns : List Str} {vs : List V} {k : Nat} {n : Str} {v : V}, ns.Nodup → ns[k]? = some n → vs[k]? = some v → (ns.zip vs).lookup n = some v
  | [], _, _, _, _, _, h, _ => by simp at h
  | _ :: _, [], _, _, _, _, _, h => by simp at h
  | a :: ns, w :: vs, 0, n, v, nd, h1, h2 => by
    simp at h1 h2; subst h1; subst h2
    simp [List.lookup]
  | a :: ns, w :: vs, k + 1, n, v, nd, h1, h2 => by
    have h1' : ns[k]? = some n := by simpa using h1
    have ne : (n == a) = false := by
      rw [beq_eq_false_iff_ne]
      rintro rfl
      exact (List.nodup_cons.mp nd).1 (List.mem_of_getElem? h1')
    rw [List.zip_cons_cons, List.lookup_cons, ne]
    exact zip_lookup (List.nodup_cons.mp nd).2 h1' (by simpa using h2)
theorem zip_lookup_none : ∀ {ns : List Str} {vs : List V} {n : Str}, n ∉ ns → (ns.zip vs).lookup n = none
  | [], _, _, _ => rfl
  | _ :: _, [], _, _ => rfl
  | a :: ns, w :: vs, n, h => by
    have ne : (n == a) = false := by
      rw [beq_eq_false_iff_ne]
      rintro rfl
      exact h List.mem_cons_self
    rw [List.zip_cons_cons, List.lookup_cons, ne]
    exact zip_lookup_none fun z => h (List.mem_cons_of_mem _ z)
theorem zip_put : ∀ {ns : List Str} {vs : List V} {f : Str} {v : V}, ns.Nodup → ns[vs.length]? = some f → putF f v (ns.zip vs) = ns.zip (vs ++ [v])
  | [], _, _, _, _, h => by simp at h
  | a :: ns, [], f, v, _, h => by
    simp at h; subst h
    simp [putF]
  | a :: ns, w :: vs, f, v, nd, h => by
    have h' : ns[vs.length]? = some f := by simpa using h
    have ne : ¬ a = f := by
      rintro rfl
      exact (List.nodup_cons.mp nd).1 (List.mem_of_getElem? h')
    show (if a = f then _ else (a, w) :: putF f v (ns.zip vs)) = _
    rw [if_neg ne, zip_put (List.nodup_cons.mp nd).2 h']
    rfl

section
variable {S : Type} [Pen S] {Z : Cz S} {G : Fm} {F H : Hp} {σ : L2.St} {τ : List Slot} {s : S} {W : WX} {X : Cx}
/-- what is told of a class of the table -/
structure ClsZ (T : Tb) (c : Nat) : Prop where
  cl : Cls T.K (T.cA c)
  nd : (T.fld c).Nodup
  few : (T.fld c).length < 900
structure MethZ (T : Tb) (c : Nat) (m : Str) (f : Nat) : Prop where
  ck : ClsZ T c
  mt : Meth T.K (T.cA c) m (T.fA f)
  no : m ∉ T.fld c
structure FldZ (T : Tb) (c : Nat) (m : Str) (k : Nat) : Prop where
  ck : ClsZ T c
  no : NoAttr T.K (T.cA c) m
  at_ : (T.fld c)[k]? = some m
structure PropZ (T : Tb) (c : Nat) (m : Str) (f : Nat) : Prop where
  k : ClsZ T c
  p : ∃ p, PropOf T.K (T.cA c) m p (T.fA f)

/-- an object whose attribute is asked: no super() -/
def baseOk : Expr → Bool
  | .Call (.Name x _) [] [] _ => x != "super"
  | _ => true
theorem base_of {o : Expr} {m : Str} {env : Env} {wh : Sem Value} (h : baseOk o = true) : attributeBase o m env wh = wh := by
  unfold attributeBase
  split
  · have h' : (_ != ("super" : Str)) = true := h
    simp only [h', Bool.true_or, if_true]
  · rfl

def methOk (args : List Expr) (apos pos : Pos) : Bool := !args.any isStar && decide (args.length < 30) && apos.endLine == pos.line
theorem meth_eval {o : Expr} {m : Str} {args : List Expr} {apos pos : Pos} {env : Env} (hb : baseOk o = true) (hm : methOk args apos pos = true) :
    eval (.Call (.Attribute o m apos) args [] pos) env = (do
      let ov ← eval o env
      standAt apos.atName
      let (f, first) ← holding [ov] (getMethod ov m (do return (← importBound o env).getD true))
      callWith pos f first (backTo pos (starEach args env)) (backToKw pos (keywordEach [] env))) := by
  unfold methOk at hm
  simp only [Bool.and_eq_true, Bool.not_eq_true', decide_eq_true_eq] at hm
  obtain ⟨⟨h1, h2⟩, h3⟩ := hm
  have hall : (backTo pos (starEach args env)).all (fun x => !x.1) = true := by
    rw [← backTo_any (pos := pos) (env := env)] at h1
    rw [List.all_eq_not_any_not]
    simpa using h1
  have hform : methodCallForm (args.length + ([] : List Keyword).length) (backTo pos (starEach args env)) (backToKw pos (keywordEach [] env)) = true := by
    show (_ && _ && decide (args.length + 0 + 0 < 30)) = true
    rw [hall]
    simp [backToKw, keywordEach, h2]
  rw [arm_eval_Call, base_of hb]
  unfold methodCall
  rw [hform]
  unfold methodCallPos
  rw [h3]
  simp only [Bool.not_true, Bool.or_true, if_true, pure_bind]
  rfl

theorem de_meth {o : Expr} {co : CE} {m : Str} {mid : Nat} {args : List Expr} {cs : CAs} {apos pos : Pos} (hK : X.K = Z.T.K) (FZ : ∀ f, FnZ Z X f) (MS : ∀ c f, Z.P.meth c mid = some f → MethZ Z.T c m f) (tk : Takes X W) (ho : PE X o (tD Z G W co))
    (ha : ArgsZ Z G W X args cs) (hb : baseOk o = true) (hm : methOk args apos pos = true) : PE X (.Call (.Attribute o m apos) args [] pos) (tD Z G W (.meth co mid cs)) := by
  have hs : argsOk args = true := by
    unfold methOk at hm
    simp only [Bool.and_eq_true, Bool.not_eq_true'] at hm
    cases args with
    | nil => rfl
    | cons e es =>
      have := hm.1.1
      rw [List.any_cons, Bool.or_eq_false_iff] at this
      simp [argsOk, this.1]
  refine ⟨fun pins sh σ H Q I h => ?_⟩
  obtain ⟨F0, τ, s, q, h⟩ := h
  refine PySem.W.methodCall_KW (thn (ho.run pins sh σ H (fun v H1 => ∃ a c dx vs f, v = .ref a ∧ H1 a = some (.ins (Z.T.cA c) dx ((Z.T.fld c).zip vs)) ∧ Z.P.meth c mid = some f ∧ tDA Z G W cs σ H1 fun ws H2 => spF Z f (V.ref a :: ws) H2 Q (fun c d H' => W c d σ H')) I ⟨F0, τ, s, q, h.bind fun x v τ1 s1 F1 H1 e1 q1 r1 h1 => ?_⟩) fun u s1 ⟨x, H1, I1, rx, a, c, dx, vs, f, ex, ea, em, h2⟩ => ?_) (meth_eval hb hm)
  · cases x with
    | ins c ds =>
      obtain ⟨a, dx, vs, ev, hF, hl, rl⟩ := id r1
      cases em : Z.P.meth c mid with
      | none => simp only [em] at h1; exact h1.elim
      | some f =>
        simp only [em] at h1
        subst ev
        exact ⟨a, c, dx, vs, f, rfl, q1.fh _ _ hF, em, F1, τ1, s1, q1, h1.bind fun ys ws τ2 s2 F2 H2 e2 q2 r2 h2 => spF_of q2 (RepL.cons (r1.mono e2) r2) h2⟩
    | _ => exact h1.elim
  · subst ex
    obtain rfl : u = Value.ref a := rx
    obtain ⟨ck, mk, nk⟩ := MS c f em
    refine getmeth_ok I1 ea (by rw [hK]; exact ck.cl) (by rw [hK]; exact mk) (zip_lookup_none nk) ?_
    refine callWith_z (first := [.ref a]) hK (by rw [hK]; exact mk.kp) hs ha I1 h2 fun us s2 ws H2 I2 r hq => ?_
    exact wpAny_call (run_z (us := .ref a :: us) (vs := .ref a :: ws) (FZ f) tk I2 (.cons rfl r) hq)

/-- a getter's call by a positional promise -/
theorem getprop_z {pins : List (Addr × Obj)} {sh : Shared} {Q : VK} {b : Bool} {a p dx : Addr} {c f : Nat} {fs : List (Str × V)} {m : Str} {E' : Value → Shared → Prop} (hK : X.K = Z.T.K) (FZ : FnZ Z X f) (I : Inv X pins σ H sh) (ea : H a = some (.ins (Z.T.cA c) dx fs)) (ck : ClsZ Z.T c) (hp : PropOf Z.T.K (Z.T.cA c) m p (Z.T.fA f))
    (h : spF Z f [.ref a] H Q fun _ _ _ => False) : wpAny (model X.prog X.w) X.A (getAttr (.ref a) m b) (EP X pins σ Q) E' sh := by
  rw [← hK] at hp
  obtain ⟨mA, O, _, _, _, _⟩ := ins_get I.hok ea
  obtain ⟨od, J, _⟩ := O.look
  obtain ⟨rest, hrec⟩ := hp.rec_
  have I1 := I.tok (sh.toks + 1)
  have cl : Cls X.K (Z.T.cA c) := by rw [hK]; exact ck.cl
  have hc : (PySem.W.clsIn X.K (Z.T.cA c)).isSome = true := by
    obtain ⟨cd, hc, _⟩ := PySem.W.any_some cl.hd
    rw [hc]; rfl
  obtain ⟨k, hr, hg, Fn⟩ := FZ
  refine PySem.W.get_bind I.kIn J (PySem.W.plainGet_of (cl.get m)).1 (PySem.W.findObj_data hc hp.at_ hp.get hp.tak) (PySem.W.plainGet_of (cl.get m)).2 (wpAny_call (PySem.W.prop_get (s := { sh with toks := sh.toks + 1 }) I.kIn hrec ?_))
  refine codeAny_mono (Fn X.A.in1 X.stack { sh with toks := sh.toks + 1 } H [.ref a] [.ref a] Q _ hr.in1 hg I1.env0.in1 (.cons rfl .nil) h _ ArgAs.rfl) fun r s' hq => ?_
  cases r with
  | error er =>
    obtain ⟨_, _, _, _, _, _, _, _, _, _, _, _, z⟩ := hq
    exact z.elim
  | ok fl =>
    cases fl with
    | ret u =>
      obtain ⟨v, H', I3, rv, q3⟩ := I1.after hq
      show wpAny _ _ (handedOut u) _ _ _
      rw [PySem.W.handedOut_of (handed_of rv)]
      exact wpAny_pure ⟨v, H', I3, rv, q3⟩
    | next => exact False.elim hq
    | brk => exact False.elim hq
    | cont => exact False.elim hq

theorem de_attr {o : Expr} {co : CE} {m : Str} {mid : Nat} {pos : Pos} (hK : X.K = Z.T.K) (FZ : ∀ f, FnZ Z X f) (FS : ∀ c k, Z.P.attr c mid = .fld k → FldZ Z.T c m k) (PR : ∀ c f, Z.P.attr c mid = .prop f → PropZ Z.T c m f)
    (ho : PE X o (tD Z G W co)) (hb : baseOk o = true) : PE X (.Attribute o m pos) (tD Z G W (.attr co mid)) := by
  refine ⟨fun pins sh σ H Q I h => ?_⟩
  obtain ⟨F0, τ, s, q, h⟩ := h
  refine attr_of (base_of hb) (thn (ho.run pins sh σ H (fun v H1 => ∃ a c dx vs, v = .ref a ∧ H1 a = some (.ins (Z.T.cA c) dx ((Z.T.fld c).zip vs)) ∧
      ((∃ k w, Z.P.attr c mid = .fld k ∧ vs[k]? = some w ∧ Q w H1) ∨ ∃ f, Z.P.attr c mid = .prop f ∧ spF Z f [.ref a] H1 Q fun _ _ _ => False)) I ⟨F0, τ, s, q, h.bind fun x v τ1 s1 F1 H1 e1 q1 r1 h1 => ?_⟩) fun u s1 ⟨x, H1, I1, rx, a, c, dx, vs, ex, ea, h2⟩ => ?_)
  · cases x with
    | ins c ds =>
      obtain ⟨a, dx, vs, ev, hF, hl, rl⟩ := id r1
      refine ⟨a, c, dx, vs, ev, q1.fh _ _ hF, ?_⟩
      simp only [attrV] at h1
      cases ea : Z.P.attr c mid with
      | none => rw [ea] at h1; exact h1.elim
      | fld k =>
        simp only [ea] at h1
        cases ek : ds[k]? with
        | none => rw [ek] at h1; exact h1.elim
        | some d =>
          rw [ek] at h1
          obtain ⟨w, hw, rw_⟩ := rl.get ek
          exact .inl ⟨k, w, rfl, hw, h1.ok q1 rw_⟩
      | prop f =>
        simp only [ea] at h1
        refine .inr ⟨f, rfl, ?_⟩
        subst ev
        refine ⟨F1, [.ins c ds], s1, q1.fh, q1.pen, q1.penF, q1.pinv, RepL.one r1, ?_⟩
        cases ec : Z.call f [.ins c ds] s1 with
        | ok d s' =>
          rw [ec] at h1
          exact fun v H' F' k r => h1 v H' F' k.ff (q1.call k) r
        | exc _ _ _ => rw [ec] at h1; exact h1.elim
        | no => rw [ec] at h1; exact h1.elim
    | _ => exact h1.elim
  · subst ex
    obtain rfl : u = Value.ref a := rx
    rcases h2 with ⟨k, w, ek, hw, hq⟩ | ⟨f, ef, hq⟩
    · obtain ⟨ck, no, at_⟩ := FS c k ek
      exact getattr_ok I1 ea (by rw [hK]; exact ck.cl) (by rw [hK]; exact no) (zip_lookup ck.nd at_ hw) fun u s2 I2 r => ⟨w, H1, I2, r, hq⟩
    · obtain ⟨ck, p, hp⟩ := PR c f ef
      exact getprop_z hK (FZ f) I1 ea ck hp hq
end
end Rz
end

section
set_option autoImplicit false
set_option Elab.async false
set_option linter.all false
set_option maxHeartbeats 1000000
namespace Rz
open PySem L2

/-- the frame of a making: the new instance apart -/
structure FrI {S : Type} (T : Tb) (pn : Pn S) (F H F' H' : Hp) (s' : S) (x : Addr) : Prop where
  ff : Sub F F'
  fh : Sub F' H'
  pen : H' T.pen = some (pn.obj s')
  penF : F' T.pen = none
  pinv : pn.inv F' s'
  out : ∀ a o, H a = some o → F a = none → a ≠ T.pen → a ≠ x → H' a = some o ∧ F' a = none

section
variable {S : Type} [Pen S] {Z : Cz S} {G : Fm} {F H F' H' : Hp} {σ : L2.St} {τ : List Slot} {s s' : S} {W : WX} {X : Cx}
def PostI (Z : Cz S) (F H : Hp) (Q : VK) (E : XK) (x : Addr) : CRes S → Prop
  | .ok d s' => ∀ H' F', FrI Z.T Z.pn F H F' H' s' x → Rep Z.T F' d (.ref x) → Q .non H'
  | .exc c fs s' => ∀ H' F' od, FrI Z.T Z.pn F H F' H' s' x → ExcOk Z.T F' c fs od → E (.ref (Z.T.cA c)) od H'
  | .no => False
/-- the promise of a class's __init__ at a new instance -/
def spI (Z : Cz S) (c : Nat) : Sp := fun vs H Q E => ∃ F ds s x dx ws, vs = .ref x :: ws ∧ H x = some (.ins (Z.T.cA c) dx []) ∧ F x = none ∧ x ≠ Z.T.pen ∧ Sub F H ∧ H Z.T.pen = some (Z.pn.obj s) ∧ F Z.T.pen = none ∧ Z.pn.inv F s ∧ RepL Z.T F ds ws ∧ PostI Z F H Q E x (Z.make c ds s)
def FnI (Z : Cz S) (X : Cx) (c : Nat) : Prop := ∃ k f, Room (k + 2) X.A ∧ X.A.guards = some [] ∧ FnRg X.prog X.w X.K X.mg X.base (CX X.prog X.w) k f (spI Z c) ∧ ((∃ ds s, Z.make c ds s ≠ .no) → Mk X.K (Z.T.cA c) f)

theorem make_guards {A : Around} {C : Addr} {us : List Value} {kw : List (Str × Value)} : (A.under (.builtin "type.__call__" ⟨.ref C :: us, kw⟩)).guards = A.guards := by
  simp [Around.under, Code.guards, Code.isGuard, guardIds, pushGuards]
theorem run_mk {pins : List (Addr × Obj)} {sh : Shared} {Q : VK} {us : List Value} {vs : List V} {C f : Addr} {k : Nat} {sp : Sp} (M : Mk X.K C f) (Fn : FnRg X.prog X.w X.K X.mg X.base (CX X.prog X.w) k f sp) (hr : Room (k + 1) X.A) (hg : X.A.guards = some []) (tk : Takes X W) (I : Inv X pins σ H sh) (r : Vals vs us)
    (h : ∀ x dx, H x = none → H dx = none → dx ≠ x → sp (.ref x :: vs) (upd (upd H dx (.own x)) x (.ins C dx [])) (fun v H2 => v = .non ∧ Q (.ref x) H2) (fun c d H' => W c d σ H')) :
    wpAny (model X.prog X.w) X.A (call (.ref C) us) (EP X pins σ Q) X.xe sh := by
  have hq := h (sh.heap.objs.size + 1) sh.heap.objs.size (I.hok.fresh (Nat.le_succ _)) (I.hok.fresh (Nat.le_refl _)) (Nat.ne_of_lt (Nat.lt_succ_self _))
  have I2 := Inv.made (C := C) I
  have r2 : Vals (V.ref (sh.heap.objs.size + 1) :: vs) (Value.ref (sh.heap.objs.size + 1) :: us) := .cons rfl r
  refine wpAny_call (make_map (f := f) I.kIn M.makes M.init (beq_iff_eq.mp M.fn) (codeAny_mono (Fn _ X.stack _ _ (Value.ref (sh.heap.objs.size + 1) :: us) _ _ _ (hr.make C us []) ((make_guards).trans hg) (I2.env0.make C us []) r2 hq _ ArgAs.rfl) fun r s' hq' => ?_))
  cases r with
  | error e => exact tk e s' (XE.of_call I2 (fun cls d H' z => z) hq')
  | ok fl =>
    cases fl with
    | ret u =>
      obtain ⟨v, H', I3, rv, ev, q3⟩ := I2.after hq'
      subst ev
      exact ⟨rv, ⟨V.ref (sh.heap.objs.size + 1), H', I3, rfl, q3⟩⟩
    | next => exact False.elim hq'
    | brk => exact False.elim hq'
    | cont => exact False.elim hq'

theorem FrI.fr {x dx : Addr} {o : HO} (hx : H x = none) (hd : H dx = none) (k : FrI Z.T Z.pn F (upd (upd H dx (.own x)) x o) F' H' s' x) : Fr Z.T Z.pn F H F' H' s' :=
  ⟨k.ff, k.fh, k.pen, k.penF, k.pinv, fun a u e n hp => k.out a u (by rw [upd_ne (ne_of_none e hx), upd_ne (ne_of_none e hd)]; exact e) n hp (ne_of_none e hx)⟩

theorem de_make {c : Nat} {x : Str} {args : List Expr} {cs : CAs} {p pos : Pos} (hK : X.K = Z.T.K) (FI : FnI Z X c) (tk : Takes X W) (hg : Gl X x) (hm : X.mg x = some (.ref (Z.T.cA c))) (hk : PySem.W.keepIn X.K (.ref (Z.T.cA c)) = true) (hs : argsOk args = true) (ha : ArgsZ Z G W X args cs) (hd : (x == ("__debug__" : Str)) = false) :
    PE X (.Call (.Name x p) args [] pos) (tD Z G W (.make c cs)) := by
  refine ⟨fun pins sh σ H Q I h => ?_⟩
  obtain ⟨F0, τ, s, q, h⟩ := h
  obtain ⟨k, f, hr, hgd, Fn, M⟩ := FI
  refine wpAny_Call_Name_kw (ld_glob I hg hm ?_ hd)
  refine callWith_z (first := []) (Kq := fun vs H1 => (∃ ds s, Z.make c ds s ≠ .no) ∧ ∀ x dx, H1 x = none → H1 dx = none → dx ≠ x → spI Z c (.ref x :: vs) (upd (upd H1 dx (.own x)) x (.ins (Z.T.cA c) dx [])) (fun v H2 => v = .non ∧ Q (.ref x) H2) (fun c d H' => W c d σ H')) hK hk hs ha I
    ⟨F0, τ, s, q, h.bind fun ds vs τ1 s1 F1 H1 e1 q1 r1 h1 => ⟨⟨ds, s1, fun z => by rw [z] at h1; exact h1⟩, fun x dx hx hdx hne => ?_⟩⟩ fun us s1 vs H1 I1 r ⟨hq0, hq⟩ => ?_
  · have hp : x ≠ Z.T.pen := fun z => by rw [z, q1.pen] at hx; cases hx
    have hp2 : dx ≠ Z.T.pen := fun z => by rw [z, q1.pen] at hdx; cases hdx
    refine ⟨F1, ds, s1, x, dx, vs, rfl, upd_same, q1.fh.none hx, hp, fun a o e => ?_, ?_, q1.penF, q1.pinv, r1, ?_⟩
    · have e' := q1.fh a o e
      rw [upd_ne (ne_of_none e' hx), upd_ne (ne_of_none e' hdx)]; exact e'
    · rw [upd_ne (Ne.symm hp), upd_ne (Ne.symm hp2)]; exact q1.pen
    · cases em : Z.make c ds s1 with
      | ok d s' =>
        rw [em] at h1
        exact fun H' F' kf r => ⟨rfl, h1 _ H' F' kf.ff (q1.call (kf.fr hx hdx)) r⟩
      | exc c' fs s' =>
        rw [em] at h1
        exact fun H' F' od kf r => h1 H' F' od kf.ff (q1.call (kf.fr hx hdx)) r
      | no => rw [em] at h1; exact h1
  · exact run_mk (M hq0) Fn (hr.mono (Nat.le_succ _)) hgd tk I1 r hq
end
end Rz
end

section
set_option autoImplicit false
set_option Elab.async false
set_option linter.all false
set_option maxHeartbeats 1000000
namespace Rz
open PySem L2

section
variable {S : Type} [Pen S] {Z : Cz S} {G : Fm} {F H : Hp} {σ : L2.St} {τ : List Slot} {s : S} {W : WX} {X : Cx} {pins : List (Addr × Obj)} {sh : Shared}

theorem small_cmul {i : Int} (h : i.natAbs < 2 ^ 64) : -(2 ^ 64) < i ∧ i < 2 ^ 64 := by
  have e : (2 : Int) ^ 64 = 18446744073709551616 := by decide
  have e2 : (2 : Nat) ^ 64 = 18446744073709551616 := by decide
  rw [e]; rw [e2] at h
  omega
theorem mulOk_ok {i j : Int} (h : mulOk i j = true) : IntMulOk i j := by
  simp only [mulOk, Bool.or_eq_true, Bool.and_eq_true, decide_eq_true_eq] at h
  rcases h with (h | h) | h
  · exact (wide_mul (of_decide_eq_true h.1) (of_decide_eq_true h.2) (by decide) (by decide) (by decide)).ok
  · exact CMul.ok (.inl (small_cmul h))
  · exact CMul.ok (.inr (small_cmul h))
theorem bg_lt {i : Int} (h : bg i = true) : i.natAbs < 2 ^ 8000 := of_decide_eq_true h
/-- the numbers' operators -/
theorem binI_z {o : Operator} {i j k : Int} {u w : Value} {Q : VK} (hI : Inv X pins σ H sh) (rx : RelV (.int i) u) (ry : RelV (.int j) w) (e : binI o i j = some k) (h : Q (.int k) H) : wpAny (model X.prog X.w) X.A (binaryOp o u w) (EP X pins σ Q) X.xe sh := by
  cases o <;> simp only [binI] at e
  case Add => cases e; exact op_add pins sh σ H _ _ u w Q hI rx ry ⟨i, j, rfl, rfl, h⟩
  case Sub => cases e; exact op_sub pins sh σ H _ _ u w Q hI rx ry ⟨i, j, rfl, rfl, h⟩
  case Mult =>
    cases hb : mulOk i j with
    | false => rw [hb] at e; cases e
    | true =>
      rw [hb] at e; cases e
      simp only [mulOk, Bool.or_eq_true, Bool.and_eq_true, decide_eq_true_eq] at hb
      rcases hb with (hb | hb) | hb
      · exact op_mulW pins sh σ H _ _ u w Q hI rx ry ⟨i, j, rfl, rfl, wide_mul (bg_lt hb.1) (bg_lt hb.2) (by decide) (by decide) (by decide), h⟩
      · exact op_mul pins sh σ H _ _ u w Q hI rx ry ⟨i, j, rfl, rfl, .inl (small_cmul hb), h⟩
      · exact op_mul pins sh σ H _ _ u w Q hI rx ry ⟨i, j, rfl, rfl, .inr (small_cmul hb), h⟩
  case Mod =>
    cases hb : decide (0 < j) with
    | false => rw [hb] at e; cases e
    | true =>
      rw [hb] at e; cases e
      exact op_mod pins sh σ H _ _ u w Q hI rx ry ⟨i, j, rfl, rfl, of_decide_eq_true hb, h⟩
  case Pow =>
    cases hb : decide (0 ≤ j) && decide (j ≤ 1000) && decide (i.natAbs < 2 ^ 64) with
    | false => rw [hb] at e; cases e
    | true =>
      rw [hb] at e; cases e
      simp only [Bool.and_eq_true, decide_eq_true_eq] at hb
      exact op_pow pins sh σ H _ _ u w Q hI rx ry ⟨i, j, rfl, rfl, ⟨hb.1.1, by omega, hb.2⟩, h⟩
  case FloorDiv =>
    cases hb : decide (0 < j) && bg j with
    | false => rw [hb] at e; cases e
    | true =>
      rw [hb] at e; cases e
      simp only [Bool.and_eq_true, decide_eq_true_eq] at hb
      exact op_fdivW pins sh σ H _ _ u w Q hI rx ry ⟨i, j, rfl, rfl, wide_div hb.1 (bg_lt hb.2) (by decide) (by decide), h⟩
  all_goals cases e

theorem RepL.flat_rep {T : Tb} {ds : List D} {vs : List V} (r : RepL T F ds vs) : ∀ n : Nat, RepL T F (List.replicate n ds).flatten (List.replicate n vs).flatten
  | 0 => rfl
  | n + 1 => by
    rw [List.replicate_succ, List.replicate_succ, List.flatten_cons, List.flatten_cons]
    exact r.append (RepL.flat_rep r n)

theorem repD_of {ds : List D} {k : Int} {es : List D} (h : repD ds k = some es) : 0 ≤ k ∧ k ≤ 1000 ∧ ds.length ≤ 4000 ∧ es = (List.replicate k.toNat ds).flatten := by
  unfold repD at h
  cases hb : decide (0 ≤ k) && decide (k ≤ 1000) && decide (ds.length ≤ 4000) with
  | false => rw [hb] at h; cases h
  | true =>
    rw [hb] at h
    simp only [Bool.and_eq_true, decide_eq_true_eq] at hb
    exact ⟨hb.1.1, hb.1.2, hb.2, (Option.some.inj h).symm⟩
theorem bif_some {α : Type} {b : Bool} {a c : α} (h : (bif b then some a else none) = some c) : b = true ∧ a = c := by
  cases b with
  | true => exact ⟨rfl, Option.some.inj h⟩
  | false => cases h
theorem map_some {α β : Type} {o : Option α} {f : α → β} {c : β} (h : o.map f = some c) : ∃ a, o = some a ∧ f a = c := Option.map_eq_some_iff.mp h

/-- the operators of plain values -/
theorem binD_z {o : Operator} {x y z : D} {v v' : V} {u w : Value} {Q : VK} (hK : X.K = Z.T.K) (hI : Inv X pins σ H sh) (rx : RelV v u) (ry : RelV v' w) (q : SR Z.T Z.pn G F H σ τ s) (r1 : Rep Z.T F x v) (r2 : Rep Z.T F y v') (e : binD o x y = some z)
    (h : Post Z G (Rep Z.T) F σ Q W (.ok z τ s)) : wpAny (model X.prog X.w) X.A (binaryOp o u w) (EP X pins σ Q) X.xe sh := by
  cases x with
  | int i =>
    cases r1
    cases y with
    | int j =>
      cases r2
      obtain ⟨k, ek, rfl⟩ := map_some e
      exact binI_z hI rx ry ek (h.ok q rfl)
    | _ => cases e
  | str a =>
    cases r1
    cases y with
    | str b =>
      cases r2
      cases o <;> simp only [binD] at e
      case Add =>
        obtain ⟨hl, rfl⟩ := bif_some e
        exact op_add_str pins sh σ H _ _ u w Q hI rx ry ⟨a, b, rfl, rfl, lim_size hl, h.ok q rfl⟩
      all_goals cases e
    | _ => cases e
  | lst a =>
    obtain ⟨p, vs, rfl, hF, rl⟩ := r1
    cases y with
    | lst b =>
      obtain ⟨p', vs', rfl, hF', rl'⟩ := r2
      cases o <;> simp only [binD] at e
      case Add =>
        obtain ⟨hl, rfl⟩ := bif_some e
        refine op_cat pins sh σ H _ _ u w Q hI rx ry ⟨p, p', vs, vs', rfl, rfl, q.fh _ _ hF, q.fh _ _ hF', by rw [rl.length, rl'.length]; exact lim_size hl, fun n hn => ?_⟩
        have nF := q.fh.none hn
        exact h _ _ _ (Sub.new nF) (q.new hn) ⟨n, _, rfl, upd_same, (rl.append rl').mono (Sub.new nF)⟩
      all_goals cases e
    | int k =>
      cases r2
      cases o <;> simp only [binD] at e
      case Mult =>
        obtain ⟨es, ee, rfl⟩ := map_some e
        obtain ⟨k0, k1, hl, rfl⟩ := repD_of ee
        refine op_rep pins sh σ H _ _ u w Q hI rx ry ⟨p, k, vs, rfl, rfl, q.fh _ _ hF, by omega, by omega, ?_, fun n hn => ?_⟩
        · rw [rl.length, sizeLine_eq]
          have h2 : k.toNat ≤ 1000 := by omega
          exact Nat.le_trans (Nat.mul_le_mul hl h2) (by decide)
        · have nF := q.fh.none hn
          exact h _ _ _ (Sub.new nF) (q.new hn) ⟨n, _, rfl, upd_same, (rl.flat_rep _).mono (Sub.new nF)⟩
      all_goals cases e
    | _ => cases e
  | tup a =>
    obtain ⟨p, vs, rfl, hF, rl⟩ := r1
    have hF' : SqT X.K H p vs := by rw [hK]; exact q.fh.sqT hF
    cases y with
    | tup b =>
      obtain ⟨p', vs', rfl, hG, rl'⟩ := r2
      have hG' : SqT X.K H p' vs' := by rw [hK]; exact q.fh.sqT hG
      cases o <;> simp only [binD] at e
      case Add =>
        obtain ⟨hl, rfl⟩ := bif_some e
        refine op_catA pins sh σ H _ _ u w Q hI rx ry ⟨p, p', vs, vs', rfl, rfl, hF', hG', by rw [rl.length, rl'.length]; exact lim_size hl, fun e1 => ?_, fun e1 e2 => ?_, fun e1 e2 n hn => ?_⟩
        · subst e1
          have : a = [] := List.length_eq_zero_iff.mp (by rw [← rl.length]; rfl)
          subst this
          exact h.ok q ⟨p', vs', rfl, hG, rl'⟩
        · subst e2
          have : b = [] := List.length_eq_zero_iff.mp (by rw [← rl'.length]; rfl)
          subst this
          exact h.ok q ⟨p, vs, rfl, hF, by rw [List.append_nil]; exact rl⟩
        · have nF := q.fh.none hn
          exact h _ _ _ (Sub.new nF) (q.new hn) ⟨n, _, rfl, SqT.of upd_same, (rl.append rl').mono (Sub.new nF)⟩
      all_goals cases e
    | int k =>
      cases r2
      cases o <;> simp only [binD] at e
      case Mult =>
        cases hb : !a.isEmpty && decide (2 ≤ k) && decide (k ≤ 1000) && decide (a.length ≤ 1000) with
        | false => rw [hb] at e; cases e
        | true =>
          rw [hb] at e; cases e
          simp only [Bool.and_eq_true, decide_eq_true_eq] at hb
          refine op_repT pins sh σ H _ _ u w Q hI rx ry ⟨p, k, vs, rfl, rfl, hF', ?_, hb.1.1.2, hb.1.2, by rw [rl.length]; exact hb.2, fun n hn => ?_⟩
          · rintro rfl
            have : a = [] := List.length_eq_zero_iff.mp (by rw [← rl.length]; rfl)
            subst this
            simp at hb
          · have nF := q.fh.none hn
            exact h _ _ _ (Sub.new nF) (q.new hn) ⟨n, _, rfl, SqT.of upd_same, (rl.flat_rep _).mono (Sub.new nF)⟩
      all_goals cases e
    | _ => cases e
  | _ => cases e
end
end Rz
end

section
set_option autoImplicit false
set_option Elab.async false
set_option linter.all false
set_option maxRecDepth 100000
set_option maxHeartbeats 2000000
namespace Rz
open PySem L2 PySem.W

/-! ### operators of own classes beside values of built-in types -/
section
variable {prog : Program} {w : World} {A : Around} {E : Value → Shared → Prop} {sh : Shared} {K : Frag} {x C f : Addr} {ox : Obj} {od : Option Obj} {T : String}

/-- the instance left, a value of a built-in type right -/
theorem own_left {op : Operator} {b : Value} {fo ro rc : Option Value} {Q : Value → Shared → Prop} (X : K.In sh.heap) (I : InstAt sh.heap x ox C od) (hb : Looks (model prog w) sh.heap (typeOf b) (.type T)) (hc : selfFirst K C = true)
    (hs : findIn K (.ref C) (PySem.dunder op.info.2) = some (some (.ref f))) (hf : isFn K (.ref f) = true) (hr : findIn K (.ref C) (dunderR op.info.2) = some rc) (hp : rc = none ∨ ∃ g : Addr, rc = some (.ref g))
    (h1 : findIn K (.type T) (PySem.dunder op.info.2) = some fo) (h2 : findIn K (.type T) (dunderR op.info.2) = some ro) (hsub : subIn K (.type T) (.ref C) = some false)
    (h : wpAny (model prog w) A (call (.ref f) [.ref x, b]) (CmpBack Q) E sh) : wpAny (model prog w) A (binaryOp op (.ref x) b) Q E sh := by
  obtain ⟨cd, rest, hcd, hm⟩ := ksp_first hc
  rcases hi : op.info with ⟨sym, nm'⟩
  rw [hi] at hs hr h1 h2
  dsimp only at hs hr h1 h2
  have one := ksp_try X I hs hf h
  obtain ⟨hh, g, d, tt, os⟩ := sh
  have L1 : Looks (model prog w) hh (typeOf (.ref x)) (.ref C) := I.type
  have L2' : Looks (model prog w) hh (typeOf b) (.type T) := hb
  have L3 : Looks (model prog w) hh (fillsNumberSlot (.ref C) nm') true := fills_K X hcd hm hs
  have L4 : Looks (model prog w) hh (fillsNumberSlot (.type T) nm') ((fo.isSome && !isSeqSlot fo) || (ro.isSome && !isSeqSlot ro)) := ksp_fillsT X h1 h2
  have L5 : Looks (model prog w) hh (isSubtype (.type T) (.ref C)) false := looks_subIn X hsub
  have L6 : Looks (model prog w) hh (numberSlotInPython (.ref C) nm') true := ksp_inPy X hs hr hp
  have L7 : Looks (model prog w) hh (numberSlotInPython (.type T) nm') false := Looks.of_pure rfl
  have L8 : Looks (model prog w) hh (typeLookup (.type T) (dunderR nm')) ro := looks_findIn X h2
  generalize ((fo.isSome && !isSeqSlot fo) || (ro.isSome && !isSeqSlot ro)) = right at L4
  have hne : (Value.ref C == Value.type T) = false := Bool.eq_false_iff.mpr fun q => by cases beq_iff_eq.mp q
  simp only [binaryOp, hi]
  refine wpAny_holding (wpAny_bind ?_)
  unfold binaryOp1
  refine wpAny_bind (L1.at (wpAny_bind (L2'.at (wpAny_bind (L3.at ?_)))))
  simp only [hne, Bool.false_eq_true, if_false]
  cases right with
  | false =>
    ksp_lk
    refine wpAny_mono one (fun r s' hr' => ?_) fun _ _ e => e
    obtain ⟨v, rfl, hq⟩ := hr'
    ksp_lk
    exact hq
  | true =>
    ksp_lk
    refine wpAny_mono one (fun r s' hr' => ?_) fun _ _ e => e
    obtain ⟨v, rfl, hq⟩ := hr'
    ksp_lk
    exact hq

/-- a value of a built-in type left (its own operator declines, or it has none), the instance right -/
theorem own_right {op : Operator} {a : Value} {fo ro : Option Value} {fC : Addr} {Q : Value → Shared → Prop} (X : K.In sh.heap) (I : InstAt sh.heap x ox C od) (ha : Looks (model prog w) sh.heap (typeOf a) (.type T)) (hc : selfFirst K C = true)
    (hs : findIn K (.ref C) (PySem.dunder op.info.2) = some (some (.ref fC))) (hr : findIn K (.ref C) (dunderR op.info.2) = some (some (.ref f))) (hf : isFn K (.ref f) = true)
    (h1 : findIn K (.type T) (PySem.dunder op.info.2) = some fo) (h2 : findIn K (.type T) (dunderR op.info.2) = some ro) (hsub : subIn K (.ref C) (.type T) = some false)
    (hd : ((fo.isSome && !isSeqSlot fo) || (ro.isSome && !isSeqSlot ro)) = true → Looks (model prog w) sh.heap (tryMethod a (PySem.dunder op.info.2) (.ref x)) none)
    (h : wpAny (model prog w) A (call (.ref f) [.ref x, a]) (CmpBack Q) E sh) : wpAny (model prog w) A (binaryOp op a (.ref x)) Q E sh := by
  obtain ⟨cd, rest, hcd, hm⟩ := ksp_first hc
  rcases hi : op.info with ⟨sym, nm'⟩
  rw [hi] at hs hr h1 h2 hd
  dsimp only at hs hr h1 h2 hd
  have one := ksp_try X I hr hf h
  obtain ⟨hh, g, d, tt, os⟩ := sh
  have L1 : Looks (model prog w) hh (typeOf (.ref x)) (.ref C) := I.type
  have L2' : Looks (model prog w) hh (typeOf a) (.type T) := ha
  have L3 : Looks (model prog w) hh (fillsNumberSlot (.ref C) nm') true := fills_K X hcd hm hs
  have L4 : Looks (model prog w) hh (fillsNumberSlot (.type T) nm') ((fo.isSome && !isSeqSlot fo) || (ro.isSome && !isSeqSlot ro)) := ksp_fillsT X h1 h2
  have L5 : Looks (model prog w) hh (isSubtype (.ref C) (.type T)) false := looks_subIn X hsub
  have L7 : Looks (model prog w) hh (numberSlotInPython (.type T) nm') false := Looks.of_pure rfl
  generalize ((fo.isSome && !isSeqSlot fo) || (ro.isSome && !isSeqSlot ro)) = left at L4 hd
  have hne : (Value.type T == Value.ref C) = false := Bool.eq_false_iff.mpr fun q => by cases beq_iff_eq.mp q
  simp only [binaryOp, hi]
  refine wpAny_holding (wpAny_bind ?_)
  unfold binaryOp1
  refine wpAny_bind (L2'.at (wpAny_bind (L1.at (wpAny_bind (L4.at ?_)))))
  simp only [hne, Bool.false_eq_true, if_false]
  cases left with
  | false =>
    ksp_lk
    refine wpAny_mono one (fun r s' hr' => ?_) fun _ _ e => e
    obtain ⟨v, rfl, hq⟩ := hr'
    ksp_lk
    exact hq
  | true =>
    have L9 := hd rfl
    ksp_lk
    refine L9.at ?_
    ksp_lk
    refine wpAny_mono one (fun r s' hr' => ?_) fun _ _ e => e
    obtain ⟨v, rfl, hq⟩ := hr'
    ksp_lk
    exact hq
end

/-! ### int declines an instance -/
section
variable {x C dx : Addr}
theorem int_add_ins (i : Int) (t : Tok) : Meets (Builtin.«int.__add__» ⟨[.int i t, .ref x], []⟩) (fun _ R s => s.heap.get? x = some (instObj C dx) ∧ R (.ok (.ret .notImplemented)) s) :=
  .of_wp fun prog w A R s h => by obtain ⟨hp, g, d, tk, os⟩ := s; obtain ⟨hl, h⟩ := h; wp_walk using wpAny_loadPart' hl, wpAny_load hl; exact ⟨_, rfl, h⟩
theorem int_mul_ins (i : Int) (t : Tok) : Meets (Builtin.«int.__mul__» ⟨[.int i t, .ref x], []⟩) (fun _ R s => s.heap.get? x = some (instObj C dx) ∧ R (.ok (.ret .notImplemented)) s) :=
  .of_wp fun prog w A R s h => by obtain ⟨hp, g, d, tk, os⟩ := s; obtain ⟨hl, h⟩ := h; wp_walk using wpAny_loadPart' hl, wpAny_load hl; exact ⟨_, rfl, h⟩
theorem int_sub_ins (i : Int) (t : Tok) : Meets (Builtin.«int.__sub__» ⟨[.int i t, .ref x], []⟩) (fun _ R s => s.heap.get? x = some (instObj C dx) ∧ R (.ok (.ret .notImplemented)) s) :=
  .of_wp fun prog w A R s h => by obtain ⟨hp, g, d, tk, os⟩ := s; obtain ⟨hl, h⟩ := h; wp_walk using wpAny_loadPart' hl, wpAny_load hl; exact ⟨_, rfl, h⟩
end
end Rz
end

section
set_option autoImplicit false
set_option Elab.async false
set_option linter.all false
set_option maxRecDepth 100000
set_option maxHeartbeats 2000000
namespace Rz
open PySem L2 PySem.W

/-- built-in types that stand beside an own operator -/
def tyNs : List String := ["int", "str", "NoneType", "tuple", "list", "bool"]
/-- types of the left that have no number slot for these operators -/
def tyNo : List String := ["str", "NoneType", "tuple", "list"]
structure OpL (T : Tb) (c : Nat) (o : Operator) (f : Nat) : Prop where
  ck : ClsZ T c
  sf : selfFirst T.K (T.cA c) = true
  at_ : findIn T.K (.ref (T.cA c)) (PySem.dunder o.info.2) = some (some (.ref (T.fA f)))
  fn : isFn T.K (.ref (T.fA f)) = true
  rc : ∃ rc, findIn T.K (.ref (T.cA c)) (dunderR o.info.2) = some rc ∧ (rc = none ∨ ∃ g : Addr, rc = some (.ref g))
  ty : ∀ n ∈ tyNs, ∃ fo ro, findIn T.K (.type n) (PySem.dunder o.info.2) = some fo ∧ findIn T.K (.type n) (dunderR o.info.2) = some ro ∧ subIn T.K (.type n) (.ref (T.cA c)) = some false
structure OpZR (T : Tb) (c : Nat) (o : Operator) (f : Nat) : Prop where
  ck : ClsZ T c
  sf : selfFirst T.K (T.cA c) = true
  lf : ∃ g : Addr, findIn T.K (.ref (T.cA c)) (PySem.dunder o.info.2) = some (some (.ref g))
  at_ : findIn T.K (.ref (T.cA c)) (dunderR o.info.2) = some (some (.ref (T.fA f)))
  fn : isFn T.K (.ref (T.fA f)) = true
  ty : ∀ n ∈ tyNs, ∃ fo ro, findIn T.K (.type n) (PySem.dunder o.info.2) = some fo ∧ findIn T.K (.type n) (dunderR o.info.2) = some ro ∧ subIn T.K (.ref (T.cA c)) (.type n) = some false ∧ (n ∈ tyNo → ((fo.isSome && !isSeqSlot fo) || (ro.isSome && !isSeqSlot ro)) = false)

section
variable {S : Type} [Pen S] {Z : Cz S} {G : Fm} {F H : Hp} {σ : L2.St} {τ : List Slot} {s : S} {W : WX} {X : Cx} {pins : List (Addr × Obj)} {sh : Shared}

theorem looks_tn {d : D} {n : String} {v : V} {u : Value} (hK : X.K = Z.T.K) (I : Inv X pins σ H sh) (q : SR Z.T Z.pn G F H σ τ s) (r : Rep Z.T F d v) (rv : RelV v u) (e : d.tn = some n) : Looks (model X.prog X.w) sh.heap (typeOf u) (.type n) := by
  cases d <;> simp only [D.tn] at e
  case non => cases e; cases r; cases rv; exact Looks.of_pure rfl
  case bl => cases e; cases r; cases rv; exact Looks.of_pure rfl
  case int => cases e; cases r; obtain ⟨t, rfl⟩ := rv; exact Looks.of_pure rfl
  case str => cases e; cases r; obtain ⟨t, rfl⟩ := rv; exact Looks.of_pure rfl
  case tup ds =>
    cases e
    obtain ⟨a, vs, rfl, hs, _⟩ := r
    cases rv
    have hs' : SqT X.K H a vs := by rw [hK]; exact q.fh.sqT hs
    obtain ⟨its, _, ⟨o, ho, hc, _⟩, _⟩ := I.tuple hs'
    exact fun A Q E s' k q' => wpAny_typeOf_ref (k _ _ ho) (by rw [hc]; exact q')
  case lst ds =>
    cases e
    obtain ⟨a, vs, rfl, hs, _⟩ := r
    cases rv
    obtain ⟨its, _, ⟨o, n, ho, hc, _⟩, _⟩ := I.list (SqL.of (K := X.K) (q.fh _ _ hs))
    exact fun A Q E s' k q' => wpAny_typeOf_ref (k _ _ ho) (by rw [hc]; exact q')
  all_goals cases e
theorem inst_z {c : Nat} {ds : List D} {v : V} {u : Value} (I : Inv X pins σ H sh) (q : SR Z.T Z.pn G F H σ τ s) (r : Rep Z.T F (.ins c ds) v) (rv : RelV v u) : ∃ a ox od dx, u = .ref a ∧ v = .ref a ∧ InstAt sh.heap a ox (Z.T.cA c) od ∧ ox = instObj (Z.T.cA c) dx := by
  obtain ⟨a, dx, vs, rfl, hF, _⟩ := r
  cases rv
  obtain ⟨mA, O, _⟩ := ins_get I.hok (q.fh _ _ hF)
  obtain ⟨od, J, _⟩ := O.look
  exact ⟨a, _, _, dx, rfl, rfl, J, rfl⟩
theorem not_ni {v : V} {u : Value} (r : RelV v u) : u ≠ .notImplemented := by
  intro z; subst z
  cases v <;> first | (obtain ⟨t, e⟩ := r; cases e; done) | (cases r; done)
theorem back_of {Q : Value → Shared → Prop} {Q' : VK} {u : Value} {s' : Shared} (h : EP X pins σ Q' u s') : CmpBack (EP X pins σ Q') u s' := by
  obtain ⟨v, H', I', r, q⟩ := id h
  cases u <;> first | exact h | exact absurd rfl (not_ni r)
/-- a method's call by what a table says -/
theorem callM_z {f : Nat} {xs : List D} {vs : List V} {us : List Value} {Q : VK} (FZ : ∀ f, FnZ Z X f) (tk : Takes X W) (I : Inv X pins σ H sh) (q : SR Z.T Z.pn G F H σ τ s) (r : RepL Z.T F xs vs) (rv : Vals vs us) (h : Post Z G (Rep Z.T) F σ Q W ((Z.call f xs s).out τ)) :
    wpAny (model X.prog X.w) X.A (call (.ref (Z.T.fA f)) us) (CmpBack (EP X pins σ Q)) X.xe sh :=
  thn (wpAny_call (run_z (FZ f) tk I rv (spF_of q r h))) fun u s' z => back_of (Q := fun _ _ => True) z
theorem callM_of {c m : Nat} {xs : List D} {Q : VK} (h : Post Z G (Rep Z.T) F σ Q W (callM Z.P Z.call c m xs τ s)) : ∃ f, Z.P.meth c m = some f ∧ Post Z G (Rep Z.T) F σ Q W ((Z.call f xs s).out τ) := by
  unfold callM at h
  cases e : Z.P.meth c m with
  | none => rw [e] at h; exact h.elim
  | some f => rw [e] at h; exact ⟨f, rfl, h⟩

theorem declines_int {o : Operator} {i : Int} {t : Tok} {a C dx : Addr} {od : Option Obj} (hd : declOk o (.int i) = true) (J : InstAt sh.heap a (instObj C dx) C od) : Looks (model X.prog X.w) sh.heap (tryMethod (.int i t) (PySem.dunder o.info.2) (.ref a)) none := by
  intro A Q E s' k h
  have hl := k _ _ J.at_
  have one : ∀ {nm id : String} {B : Builtin}, PySem.Slot "int" (PySem.dunder nm) id → entryFor table id = some B → PySem.argsOk id ⟨[.int i t, .ref a], []⟩ → Meets (B ⟨[.int i t, .ref a], []⟩) (fun _ R s => s.heap.get? a = some (instObj C dx) ∧ R (.ok (.ret .notImplemented)) s) →
      wpAny (model X.prog X.w) A (tryMethod (.int i t) (PySem.dunder nm) (.ref a)) Q E s' := fun sl en ar me =>
    wpAny_tryMethod_declines (typeIs_int s' i t) sl (call_meets sl (typeIs_int s' i t) en ar me ⟨hl, rfl, h⟩)
  cases o
  case Add => exact one (nm := "add") F.slot_int_add F.entry_int_add (F.args_int_add_2 _ _) (int_add_ins i t)
  case Sub => exact one (nm := "sub") F.slot_int_sub F.entry_int_sub (F.args_int_sub_2 _ _) (int_sub_ins i t)
  case Mult => exact one (nm := "mul") F.slot_int_mul F.entry_int_mul (F.args_int_mul_2 _ _) (int_mul_ins i t)
  all_goals cases hd

theorem binV_z {o : Operator} {x y : D} {v v' : V} {u w : Value} {Q : VK} (hK : X.K = Z.T.K) (FZ : ∀ f, FnZ Z X f) (OL : ∀ c f, Z.P.meth c (dun o) = some f → OpL Z.T c o f) (OR : ∀ c f, Z.P.meth c (dun o + 1) = some f → OpZR Z.T c o f) (tk : Takes X W) (I : Inv X pins σ H sh) (rx : RelV v u) (ry : RelV v' w) (q : SR Z.T Z.pn G F H σ τ s)
    (r1 : Rep Z.T F x v) (r2 : Rep Z.T F y v') (h : Post Z G (Rep Z.T) F σ Q W (binV Z.P Z.call o x y τ s)) : wpAny (model X.prog X.w) X.A (binaryOp o u w) (EP X pins σ Q) X.xe sh := by
  have left : ∀ {c : Nat} {ds : List D}, x = .ins c ds → wpAny (model X.prog X.w) X.A (binaryOp o u w) (EP X pins σ Q) X.xe sh := by
    rintro c ds rfl
    simp only [binV] at h
    obtain ⟨hy, h⟩ := h.bif
    obtain ⟨f, ef, h⟩ := callM_of h
    obtain ⟨ck, sf, at_, fn, ⟨rc, hrc, hrp⟩, ty⟩ := OL c f ef
    obtain ⟨a, ox, od, dx, rfl, rfl, J, _⟩ := inst_z I q r1 rx
    have go := callM_z FZ tk I q (RepL.two r1 r2) (.cons rx (.cons ry .nil)) h
    obtain ⟨m, fr⟩ := I.fr
    rw [← hK] at sf at_ fn hrc ty
    cases et : y.tn with
    | some n =>
      obtain ⟨fo, ro, t1, t2, t3⟩ := ty n (by cases y <;> simp only [D.tn] at et <;> cases et <;> decide)
      exact own_left I.kIn J (looks_tn hK I q r2 ry et) sf at_ fn hrc hrp t1 t2 t3 go
    | none =>
      obtain ⟨ds', rfl⟩ : ∃ ds', y = .ins c ds' := by
        cases y <;> simp only [sameOrBt, D.tn] at hy et <;> first | (cases hy; done) | (cases et; done) | exact ⟨_, by rw [beq_iff_eq.mp hy]⟩
      obtain ⟨a', ox', od', dx', rfl, rfl, J', _⟩ := inst_z I q r2 ry
      exact binop_K fr I.mod.kin J J'.type sf at_ fn go
  cases x with
  | ins c ds => exact left rfl
  | _ =>
    simp only [binV] at h
    cases y with
    | ins c ds =>
      obtain ⟨hy, h⟩ := h.bif
      obtain ⟨f, ef, h⟩ := callM_of h
      obtain ⟨ck, sf, ⟨g, lf⟩, at_, fn, ty⟩ := OR c f ef
      obtain ⟨a, ox, od, dx, rfl, rfl, J, rfl⟩ := inst_z I q r2 ry
      have go := callM_z FZ tk I q (RepL.two r2 r1) (.cons ry (.cons rx .nil)) h
      rw [← hK] at sf at_ fn ty lf
      have no : ∀ n, n ∈ tyNo → Looks (model X.prog X.w) sh.heap (typeOf u) (.type n) → wpAny (model X.prog X.w) X.A (binaryOp o u (.ref a)) (EP X pins σ Q) X.xe sh := fun n hn hl => by
        have hm : n ∈ tyNs := by
          simp only [tyNo, tyNs, List.mem_cons, List.not_mem_nil, or_false] at hn ⊢
          rcases hn with h | h | h | h <;> simp [h]
        obtain ⟨fo, ro, t1, t2, t3, t4⟩ := ty n hm
        exact own_right I.kIn J hl sf lf at_ fn t1 t2 t3 (fun z => by rw [t4 hn] at z; cases z) go
      first
        | (cases hy; done)
        | exact no _ (by decide) (looks_tn (n := "str") hK I q r1 rx rfl)
        | exact no _ (by decide) (looks_tn (n := "NoneType") hK I q r1 rx rfl)
        | exact no _ (by decide) (looks_tn (n := "tuple") hK I q r1 rx rfl)
        | exact no _ (by decide) (looks_tn (n := "list") hK I q r1 rx rfl)
        | (cases r1; obtain ⟨t, rfl⟩ := rx
           obtain ⟨fo, ro, t1, t2, t3, t4⟩ := ty "int" (by decide)
           exact own_right I.kIn J (Looks.of_pure rfl) sf lf at_ fn t1 t2 t3 (fun _ => declines_int hy J) go)
    | _ =>
      obtain ⟨z, ez, h⟩ := h.of
      exact binD_z hK I rx ry q r1 r2 ez h
end
end Rz
end

section
set_option autoImplicit false
set_option Elab.async false
set_option linter.all false
set_option maxRecDepth 100000
set_option maxHeartbeats 2000000
namespace Rz
open PySem L2 PySem.W

/-- the names of special methods, then the program's own -/
def nmOf (us : List Str) (m : Nat) : Str :=
  match m with
  | 0 => "__add__" | 1 => "__radd__" | 2 => "__sub__" | 3 => "__rsub__" | 4 => "__mul__" | 5 => "__rmul__" | 6 => "__and__" | 7 => "__rand__" | 8 => "__or__" | 9 => "__ror__" | 10 => "__xor__" | 11 => "__rxor__" | 12 => "__pow__" | 13 => "__rpow__"
  | 20 => "__neg__" | 21 => "__invert__" | 22 => "__eq__" | 23 => "__bool__" | 24 => "__call__" | 25 => "__contains__" | 26 => "__getitem__" | 27 => "__len__" | 28 => "__le__" | 29 => "__lt__" | 30 => "__ge__" | 31 => "__gt__" | 32 => "__str__"
  | m => us.getD (m - 40) "?"

section
variable {S : Type} [Pen S] {Z : Cz S} {G : Fm} {F H : Hp} {σ : L2.St} {τ : List Slot} {s : S} {W : WX} {X : Cx} {pins : List (Addr × Obj)} {sh : Shared}

theorem truV_z {x : D} {v : V} {u : Value} {Q : Bool → Hp → Prop} (hK : X.K = Z.T.K) (FZ : ∀ f, FnZ Z X f) (BS : ∀ c f, Z.P.meth c mBool = some f → MethZ Z.T c "__bool__" f) (tk : Takes X W) (I : Inv X pins σ H sh) (rx : RelV v u) (q : SR Z.T Z.pn G F H σ τ s) (r1 : Rep Z.T F x v)
    (h : Post Z G EqR F σ Q W (truV Z.P Z.call x τ s)) : wpAny (model X.prog X.w) X.A (truthy u) (TP X pins σ Q) X.xe sh := by
  cases x with
  | non => cases r1; exact tru_ok pins sh σ H _ u Q I rx ⟨false, rfl, h.ok q rfl⟩
  | bl b => cases r1; exact tru_ok pins sh σ H _ u Q I rx ⟨b, rfl, h.ok q rfl⟩
  | int i => cases r1; exact tru_ok pins sh σ H _ u Q I rx ⟨_, rfl, h.ok q rfl⟩
  | str z =>
    cases r1
    obtain ⟨hl, h⟩ := h.bif
    exact tru_ok pins sh σ H _ u Q I rx ⟨_, ⟨lim_size hl, rfl⟩, h.ok q rfl⟩
  | tup ds =>
    obtain ⟨a, vs, rfl, hs, rl⟩ := r1
    have e : ds.isEmpty = vs.isEmpty := by have := rl.length; cases ds <;> cases vs <;> simp at this ⊢
    refine tru_ok pins sh σ H _ u Q I rx ⟨_, .inr (.inl ⟨vs, by rw [hK]; exact q.fh.sqT hs, rfl⟩), ?_⟩
    rw [← e]; exact h.ok q rfl
  | lst ds =>
    obtain ⟨a, vs, rfl, hs, rl⟩ := r1
    have e : ds.isEmpty = vs.isEmpty := by have := rl.length; cases ds <;> cases vs <;> simp at this ⊢
    refine tru_ok pins sh σ H _ u Q I rx ⟨_, .inl ⟨vs, SqL.of (q.fh _ _ hs), rfl⟩, ?_⟩
    rw [← e]; exact h.ok q rfl
  | ins c ds =>
    simp only [truV] at h
    cases em : Z.P.meth c mBool with
    | none => rw [em] at h; exact h.elim
    | some f =>
      simp only [em] at h
      obtain ⟨ck, mt, _⟩ := BS c f em
      rw [← hK] at mt
      obtain ⟨a, ox, od, dx, rfl, rfl, J, _⟩ := inst_z I q r1 rx
      obtain ⟨m, fr⟩ := I.fr
      refine truthy_K fr I.mod.kin J mt.at_ mt.fn ?_
      refine thn (wpAny_call (run_z (FZ f) tk I (.cons (show RelV (.ref a) (.ref a) from rfl) .nil) (Q := fun v H' => ∃ b, v = .bl b ∧ Q b H') ⟨F, [.ins c ds], s, q.fh, q.pen, q.penF, q.pinv, RepL.one r1, ?_⟩)) fun r s' ⟨v, H', I', rv, b, eb, hq⟩ => ?_
      · cases ec : Z.call f [.ins c ds] s with
        | ok d s' =>
          rw [ec] at h
          intro v H' F' k r
          cases d with
          | bl b => cases r; exact ⟨b, rfl, h b H' F' k.ff (q.call k) rfl⟩
          | _ => exact h.elim
        | exc c' fs s' =>
          rw [ec] at h
          exact fun H' F' od k r => h H' F' od k.ff (q.call k) r
        | no => rw [ec] at h; exact h.elim
      · subst eb
        cases rv
        exact ⟨H', I', hq⟩
  | _ => exact h.elim

/-! ### tests -/
/-- an expression whose test is its value's truth -/
def plainTest : Expr → Bool
  | .BoolOp _ _ _ => false
  | .UnaryOp .Not _ _ => false
  | .Compare _ _ _ _ => false
  | .IfExp _ _ _ _ => false
  | .NamedExpr _ _ _ => false
  | _ => true
end
end Rz
end

section
set_option autoImplicit false
set_option Elab.async false
set_option linter.all false
set_option maxRecDepth 100000
set_option maxHeartbeats 2000000
namespace Rz
open PySem L2 PySem.W
section
variable {prog : Program} {w : World} {A : Around} {E : Value → Shared → Prop} {sh : Shared} {K : Frag} {x C f : Addr} {ox : Obj} {od : Option Obj} {b tb : Value}

theorem bind_ne (self : Value) : bindSpecial (.builtin "object.__ne__") self = pure (.builtin "object.__ne__", [self]) := F.slot_object_ne.bind self
/-- x != b by the class's __eq__ -/
theorem own_ne {Q : Value → Shared → Prop} (hu : A.units + 1 < cLine) (X : K.In sh.heap) (I : InstAt sh.heap x ox C od) (hb : Looks (model prog w) sh.heap (typeOf b) tb) (hn : notFirst K C tb = true)
    (hne : findIn K (.ref C) "__ne__" = some (some (.builtin "object.__ne__"))) (hs : findIn K (.ref C) "__eq__" = some (some (.ref f))) (hf : isFn K (.ref f) = true) (hob : subIn K (.ref C) (.type "object") = some true)
    (h : wpAny (model prog w) A.in1 (call (.ref f) [.ref x, b]) (fun v s' => ∃ r, v = .bool r ∧ Q (.bool (!r)) s') E sh) : wpAny (model prog w) A (richCompare .NotEq (.ref x) b) Q E sh := by
  have inner : wpAny (model prog w) A (call (.builtin "object.__ne__") [.ref x, b]) (fun v s' => ∃ r, v = .bool r ∧ Q v s') E sh := by
    have hi : Looks (model prog w) sh.heap (isInstance (.ref x) (.type "object")) true := I.type.andThen (looks_subIn X hob)
    refine wpAny_call (codeAny_call_builtin (by decide +kernel) F.entry_object_ne (check_slot (n := "__ne__") (by decide +kernel) (by decide +kernel) hi (F.args_object_ne_2 _ _) ?_))
    show wpAny (model prog w) A.in1 (Builtin.«object.__ne__» ⟨[.ref x, b], []⟩) _ _ sh
    have hsa : slotArgs "__ne__" 1 ⟨[.ref x, b], []⟩ = pure (.ref x, [b]) := rfl
    unfold Builtin.«object.__ne__»
    rw [hsa]
    refine wpAny_bind (wpAny_pure ?_)
    refine wpAny_bind (wpAny_cRoomFor (show A.in1.units < cLine from hu) ?_)
    refine wpAny_bind (ifBound_K X I hs hf (wpAny_mono h (fun v s' hv => ?_) fun _ _ e => e))
    obtain ⟨r, rfl, hq⟩ := hv
    exact wpAny_bind (wpAny_truthy_bool (show wpAny _ _ (ret (.bool (!r))) _ _ _ from wpAny_pure ⟨_, rfl, hq⟩))
  have one : wpAny (model prog w) A (tryCompare (.ref x) (cmpInfo .NotEq).2.1 b) (fun r s' => ∃ v, r = some v ∧ Q v s') E sh := by
    unfold tryCompare callSpecialIfBound? bindSpecialIfBound?
    refine wpAny_bind (wpAny_holding (wpAny_bind (wpAny_bind (wpAny_bind (I.type.here ((looks_findIn X hne).here ?_))))))
    refine wpAny_bind (wpAny_askSetting (wpAny_ite ?_))
    have fin : wpAny (model prog w) A (call (.builtin "object.__ne__") ([.ref x] ++ [b]) >>= fun v => pure (some v)) (fun r s' => wpAny (model prog w) A (match r with | some .notImplemented | none => pure none | some v => pure (some v)) (fun r s' => ∃ v, r = some v ∧ Q v s') E s') E sh := by
      refine wpAny_bind (wpAny_mono inner (fun v s' hv => wpAny_pure ?_) fun _ _ z => z)
      obtain ⟨r, rfl, hq⟩ := hv
      exact wpAny_pure ⟨_, rfl, hq⟩
    split
    · rw [bind_ne]
      exact wpAny_bind (wpAny_pure (wpAny_pure (by exact fin)))
    · rw [bind_ne]
      exact wpAny_tryCatch (wpAny_bind (wpAny_pure (wpAny_pure (by exact fin))))
  unfold richCompare
  simp only [oneThing_ref]
  refine wpAny_holding (wpAny_bind (wpAny_cRoomFor (by omega) ?_))
  refine wpAny_bind (I.type.here (wpAny_bind (hb.here ?_)))
  split
  · rename_i q
    have e : subIn K tb (.ref C) = some false := by
      rcases Bool.or_eq_true_iff.mp hn with e | e
      · rw [beq_iff_eq.mp e] at q; simp at q
      · exact beq_iff_eq.mp e
    refine wpAny_bind ((looks_subIn X e).here ?_)
    simp only [Bool.false_eq_true, if_false]
    refine wpAny_bind (wpAny_mono one (fun r s' z => ?_) fun _ _ e => e)
    obtain ⟨v, rfl, hq⟩ := z
    exact wpAny_pure hq
  · refine wpAny_bind (wpAny_pure ?_)
    simp only [Bool.false_eq_true, if_false]
    refine wpAny_bind (wpAny_mono one (fun r s' z => ?_) fun _ _ e => e)
    obtain ⟨v, rfl, hq⟩ := z
    exact wpAny_pure hq
end
end Rz
end

section
set_option autoImplicit false
set_option Elab.async false
set_option linter.all false
set_option maxRecDepth 100000
set_option maxHeartbeats 2000000
namespace Rz
open PySem L2 PySem.W

section
variable {S : Type} [Pen S] {Z : Cz S} {G : Fm} {F H : Hp} {σ : L2.St} {τ : List Slot} {s : S} {W : WX} {X : Cx} {pins : List (Addr × Obj)} {sh : Shared} {T : Tb} {K : Frag}

mutual
theorem rep_dp (hK : K = T.K) (sub : Sub F H) : ∀ (d : D) (v : V), d.plain = true → Rep T F d v → ∃ p, d.py = some p ∧ Dp K H v p ∧ p.canLay0 = true ∧ p.depth = d.deep
  | .non, v, _, r => by cases r; exact ⟨_, rfl, .non, rfl, rfl⟩
  | .bl b, v, _, r => by cases r; exact ⟨_, rfl, .bl b, rfl, rfl⟩
  | .int i, v, _, r => by cases r; exact ⟨_, rfl, .int i, rfl, rfl⟩
  | .str z, v, h, r => by cases r; exact ⟨_, rfl, .str z, by simpa [PyData.canLay0, D.plain] using h, rfl⟩
  | .tup ds, v, h, ⟨a, vs, e, hs, rl⟩ => by
    subst e
    obtain ⟨ps, e1, e2, e3, e4⟩ := rep_dps hK sub ds vs (by simpa [D.plain] using h) rl
    exact ⟨.tuple ps, by simp [D.py, e1], .tup (by rw [hK]; exact sub.sqT hs) e2, by simpa [PyData.canLay0] using e3, by simp [PyData.depth, D.deep, e4]⟩
  | .lst ds, v, h, ⟨a, vs, e, hs, rl⟩ => by
    subst e
    obtain ⟨ps, e1, e2, e3, e4⟩ := rep_dps hK sub ds vs (by simpa [D.plain] using h) rl
    exact ⟨.list ps, by simp [D.py, e1], .lst (SqL.of (sub _ _ hs)) e2, by simpa [PyData.canLay0] using e3, by simp [PyData.depth, D.deep, e4]⟩
  | .ins _ _, _, h, _ => by simp [D.plain] at h
  | .dct _ _, _, h, _ => by simp [D.plain] at h
  | .cls _, _, h, _ => by simp [D.plain] at h
  | .ty _, _, h, _ => by simp [D.plain] at h
  | .fn _, _, h, _ => by simp [D.plain] at h
  | .pen, _, h, _ => by simp [D.plain] at h
  | .opq _, _, h, _ => by simp [D.plain] at h
theorem rep_dps (hK : K = T.K) (sub : Sub F H) : ∀ (ds : List D) (vs : List V), D.plainL ds = true → RepL T F ds vs → ∃ ps, D.pyL ds = some ps ∧ DpAll K H vs ps ∧ PyData.canLayAll0 ps = true ∧ PyData.depthAll ps = D.deepL ds
  | [], vs, _, r => by cases r; exact ⟨[], rfl, .nil, rfl, rfl⟩
  | d :: ds, vs, h, ⟨v, r, e, h1, h2⟩ => by
    subst e
    simp only [D.plainL, Bool.and_eq_true] at h
    obtain ⟨p, a1, a2, a3, a4⟩ := rep_dp hK sub d v h.1 h1
    obtain ⟨ps, b1, b2, b3, b4⟩ := rep_dps hK sub ds r h.2 h2
    exact ⟨p :: ps, by simp [D.pyL, a1, b1], .cons a2 b2, by simp [PyData.canLayAll0, a3, b3], by simp [PyData.depthAll, D.deepL, a4, b4]⟩
end
mutual
theorem eqP_py : ∀ (x y : D) (p q : PyData), x.py = some p → y.py = some q → eqP x y = PyData.eqv p q
  | .non, y, p, q, hx, hy => by cases hx; cases y <;> simp only [D.py] at hy <;> first | (cases hy; done) | (cases hy; rfl) | (obtain ⟨_, _, rfl⟩ := map_some hy; rfl)
  | .bl b, y, p, q, hx, hy => by cases hx; cases y <;> simp only [D.py] at hy <;> first | (cases hy; done) | (cases hy; rfl) | (obtain ⟨_, _, rfl⟩ := map_some hy; rfl)
  | .int i, y, p, q, hx, hy => by cases hx; cases y <;> simp only [D.py] at hy <;> first | (cases hy; done) | (cases hy; rfl) | (obtain ⟨_, _, rfl⟩ := map_some hy; rfl)
  | .str z, y, p, q, hx, hy => by cases hx; cases y <;> simp only [D.py] at hy <;> first | (cases hy; done) | (cases hy; rfl) | (obtain ⟨_, _, rfl⟩ := map_some hy; rfl)
  | .tup ds, y, p, q, hx, hy => by
    simp only [D.py] at hx
    obtain ⟨ps, e1, rfl⟩ := map_some hx
    cases y <;> simp only [D.py] at hy <;> first
      | (cases hy; done)
      | (cases hy; rfl)
      | (obtain ⟨qs, e2, rfl⟩ := map_some hy; first | exact eqPL_py ds _ ps qs e1 e2 | rfl)
  | .lst ds, y, p, q, hx, hy => by
    simp only [D.py] at hx
    obtain ⟨ps, e1, rfl⟩ := map_some hx
    cases y <;> simp only [D.py] at hy <;> first
      | (cases hy; done)
      | (cases hy; rfl)
      | (obtain ⟨qs, e2, rfl⟩ := map_some hy; first | exact eqPL_py ds _ ps qs e1 e2 | rfl)
  | .ins _ _, _, _, _, hx, _ => by simp [D.py] at hx
  | .dct _ _, _, _, _, hx, _ => by simp [D.py] at hx
  | .cls _, _, _, _, hx, _ => by simp [D.py] at hx
  | .ty _, _, _, _, hx, _ => by simp [D.py] at hx
  | .fn _, _, _, _, hx, _ => by simp [D.py] at hx
  | .pen, _, _, _, hx, _ => by simp [D.py] at hx
  | .opq _, _, _, _, hx, _ => by simp [D.py] at hx
theorem eqPL_py : ∀ (xs ys : List D) (ps qs : List PyData), D.pyL xs = some ps → D.pyL ys = some qs → eqPL xs ys = PyData.eqvAll ps qs
  | [], [], ps, qs, h1, h2 => by cases h1; cases h2; rfl
  | [], y :: ys, ps, qs, h1, h2 => by
    cases h1
    simp only [D.pyL] at h2
    cases e : y.py with
    | none => rw [e] at h2; cases h2
    | some q =>
      rw [e] at h2
      obtain ⟨t, _, rfl⟩ := map_some h2
      rfl
  | x :: xs, [], ps, qs, h1, h2 => by
    cases h2
    simp only [D.pyL] at h1
    cases e : x.py with
    | none => rw [e] at h1; cases h1
    | some q =>
      rw [e] at h1
      obtain ⟨t, _, rfl⟩ := map_some h1
      rfl
  | x :: xs, y :: ys, ps, qs, h1, h2 => by
    simp only [D.pyL] at h1 h2
    cases e : x.py with
    | none => rw [e] at h1; cases h1
    | some p =>
      cases e' : y.py with
      | none => rw [e'] at h2; cases h2
      | some q =>
        rw [e] at h1; rw [e'] at h2
        obtain ⟨t, e3, rfl⟩ := map_some h1
        obtain ⟨t', e4, rfl⟩ := map_some h2
        show (eqP x y && eqPL xs ys) = (PyData.eqv p q && PyData.eqvAll t t')
        rw [eqP_py x y p q e e', eqPL_py xs ys t t' e3 e4]
end
theorem cmpOk_dp {d : D} {v : V} (hK : X.K = Z.T.K) (q : SR Z.T Z.pn G F H σ τ s) (r : Rep Z.T F d v) (h : d.cmpOk = true) : ∃ p, d.py = some p ∧ Dp X.K H v p ∧ SeqAt.shaped p = true := by
  simp only [D.cmpOk, Bool.and_eq_true, decide_eq_true_eq] at h
  obtain ⟨p, e1, e2, e3, e4⟩ := rep_dp hK q.fh d v h.1 r
  refine ⟨p, e1, e2, ?_⟩
  simp only [SeqAt.shaped, Bool.and_eq_true, decide_eq_true_eq]
  exact ⟨e3, by rw [e4]; omega⟩

theorem rel_tn (d : D) {n : String} (h : d.tn = some n) : n ∈ tyNs := by
  cases d <;> simp only [D.tn] at h <;> cases h <;> decide
/-- what is told of a class's comparisons -/
structure CmpZ (T : Tb) (c : Nat) : Prop where
  ty : ∀ n ∈ tyNs, subIn T.K (.type n) (.ref (T.cA c)) = some false
  ne : findIn T.K (.ref (T.cA c)) "__ne__" = some (some (.builtin "object.__ne__"))
  ob : subIn T.K (.ref (T.cA c)) (.type "object") = some true
/-- the other side of an own comparison: its type comes not first -/
theorem other_z {c : Nat} {y : D} {v : V} {u : Value} (hK : X.K = Z.T.K) (CZ : CmpZ Z.T c) (I : Inv X pins σ H sh) (q : SR Z.T Z.pn G F H σ τ s) (r : Rep Z.T F y v) (rv : RelV v u) (h : sameOrBt c y = true) : ∃ tb, Looks (model X.prog X.w) sh.heap (typeOf u) tb ∧ notFirst X.K (Z.T.cA c) tb = true := by
  cases et : y.tn with
  | some n =>
    refine ⟨.type n, looks_tn hK I q r rv et, ?_⟩
    unfold notFirst
    rw [hK, CZ.ty n (rel_tn y et)]
    simp
  | none =>
    obtain ⟨ds, rfl⟩ : ∃ ds', y = .ins c ds' := by
      cases y <;> simp only [sameOrBt, D.tn] at h et <;> first | (cases h; done) | (cases et; done) | exact ⟨_, by rw [beq_iff_eq.mp h]⟩
    obtain ⟨a, ox, od, dx, rfl, rfl, J, _⟩ := inst_z I q r rv
    exact ⟨_, J.type, by simp [notFirst]⟩

theorem eqV_z {x y : D} {v v' : V} {u w : Value} {Q : VK} (hK : X.K = Z.T.K) (FZ : ∀ f, FnZ Z X f) (hu : X.A.units + 64 < cLine) (MS : ∀ c f, Z.P.meth c mEq = some f → MethZ Z.T c "__eq__" f ∧ CmpZ Z.T c) (tk : Takes X W) (I : Inv X pins σ H sh) (rx : RelV v u) (ry : RelV v' w) (q : SR Z.T Z.pn G F H σ τ s)
    (r1 : Rep Z.T F x v) (r2 : Rep Z.T F y v') (h : Post Z G (Rep Z.T) F σ Q W (eqV' Z.P Z.call x y τ s)) : wpAny (model X.prog X.w) X.A (compareOp .Eq u w) (EP X pins σ Q) X.xe sh := by
  have own : ∀ c ds, x = .ins c ds → wpAny (model X.prog X.w) X.A (compareOp .Eq u w) (EP X pins σ Q) X.xe sh := by
    rintro c ds rfl
    simp only [eqV'] at h
    obtain ⟨hy, h⟩ := h.bif
    obtain ⟨f, ef, h⟩ := callM_of h
    obtain ⟨⟨ck, mt, _⟩, cz⟩ := MS c f ef
    obtain ⟨a, ox, od, dx, rfl, rfl, J, _⟩ := inst_z I q r1 rx
    obtain ⟨tb, lb, nf⟩ := other_z hK cz I q r2 ry hy
    obtain ⟨m, fr⟩ := I.fr
    rw [← hK] at mt
    exact cmp_K (op := .Eq) (by omega) fr I.mod.kin J lb nf mt.at_ mt.fn (callM_z FZ tk I q (RepL.two r1 r2) (.cons rx (.cons ry .nil)) h)
  have dat : Post Z G (Rep Z.T) F σ Q W (bif x.cmpOk && y.cmpOk then .ok (.bl (eqP x y)) τ s else .no) → wpAny (model X.prog X.w) X.A (compareOp .Eq u w) (EP X pins σ Q) X.xe sh := fun h => by
    obtain ⟨hb, h⟩ := h.bif
    rw [Bool.and_eq_true] at hb
    obtain ⟨p, e1, d1, s1⟩ := cmpOk_dp hK q r1 hb.1
    obtain ⟨p', e2, d2, s2⟩ := cmpOk_dp hK q r2 hb.2
    refine op_eqD hu pins sh σ H v v' u w Q I rx ry ⟨p, p', d1, d2, s1, s2, ?_⟩
    rw [← eqP_py x y p p' e1 e2]
    exact h.ok q rfl
  cases x with
  | ins c ds => exact own c ds rfl
  | str a =>
    cases y with
    | str b =>
      cases r1; cases r2
      refine op_eq pins sh σ H _ _ u w Q I rx ry ⟨rfl, ?_⟩
      rw [dec_str]
      exact h.ok q rfl
    | _ => exact dat h
  | _ => exact dat h
theorem neV_z {x y : D} {v v' : V} {u w : Value} {Q : VK} (hK : X.K = Z.T.K) (FZ : ∀ f, FnZ Z X f) (hu : X.A.units + 64 < cLine) (MS : ∀ c f, Z.P.meth c mEq = some f → MethZ Z.T c "__eq__" f ∧ CmpZ Z.T c) (tk : Takes X W) (I : Inv X pins σ H sh) (rx : RelV v u) (ry : RelV v' w) (q : SR Z.T Z.pn G F H σ τ s)
    (r1 : Rep Z.T F x v) (r2 : Rep Z.T F y v') (h : Post Z G (Rep Z.T) F σ Q W ((eqV' Z.P Z.call x y τ s).bind fun z τ s => Out.of (notD z) τ s)) : wpAny (model X.prog X.w) X.A (compareOp .NotEq u w) (EP X pins σ Q) X.xe sh := by
  have own : ∀ c ds, x = .ins c ds → wpAny (model X.prog X.w) X.A (compareOp .NotEq u w) (EP X pins σ Q) X.xe sh := by
    rintro c ds rfl
    simp only [eqV'] at h
    cases hy : sameOrBt c y with
    | false => rw [hy] at h; exact h.elim
    | true =>
      rw [hy] at h
      simp only [cond_true, callM] at h
      cases ef : Z.P.meth c mEq with
      | none => rw [ef] at h; exact h.elim
      | some f =>
        rw [ef] at h
        dsimp only at h
        obtain ⟨⟨ck, mt, _⟩, cz⟩ := MS c f ef
        obtain ⟨a, ox, od, dx, rfl, rfl, J, _⟩ := inst_z I q r1 rx
        obtain ⟨tb, lb, nf⟩ := other_z hK cz I q r2 ry hy
        obtain ⟨ty, ne, ob⟩ := cz
        rw [← hK] at mt ne ob
        refine own_ne (by omega) I.kIn J lb nf ne mt.at_ mt.fn ob ?_
        obtain ⟨k, hr, hg, Fn⟩ := FZ f
        refine wpAny_call (codeAny_mono (Fn X.A.in1 X.stack sh H [.ref a, w] [.ref a, v'] (fun v H' => ∃ b, v = .bl b ∧ Q (.bl (!b)) H') (fun c d H' => W c d σ H') hr.in1 hg I.env0.in1 (.cons rx (.cons ry .nil)) ⟨F, [.ins c ds, y], s, q.fh, q.pen, q.penF, q.pinv, RepL.two r1 r2, ?_⟩ _ ArgAs.rfl) fun r s' hq => ?_)
        · cases ec : Z.call f [.ins c ds, y] s with
          | ok d s' =>
            rw [ec] at h
            intro v H' F' k r
            cases d with
            | bl b => cases r; exact ⟨b, rfl, h (.bl (!b)) H' F' k.ff (q.call k) rfl⟩
            | _ => exact h.elim
          | exc c' fs s' =>
            rw [ec] at h
            exact fun H' F' od k r => h H' F' od k.ff (q.call k) r
          | no => rw [ec] at h; exact h.elim
        · cases r with
          | error e => exact tk e s' (XE.of_call I (fun cls d H' z => z) hq)
          | ok fl =>
            cases fl with
            | ret u' =>
              obtain ⟨v2, H', I', rv, b, eb, hq2⟩ := I.after hq
              subst eb
              cases rv
              exact ⟨b, rfl, .bl (!b), H', I', rfl, hq2⟩
            | next => exact False.elim hq
            | brk => exact False.elim hq
            | cont => exact False.elim hq
  have dat : Post Z G (Rep Z.T) F σ Q W ((bif x.cmpOk && y.cmpOk then (.ok (.bl (eqP x y)) τ s : Out S D) else .no).bind fun z τ s => Out.of (notD z) τ s) → wpAny (model X.prog X.w) X.A (compareOp .NotEq u w) (EP X pins σ Q) X.xe sh := fun h => by
    cases hb : x.cmpOk && y.cmpOk with
    | false => rw [hb] at h; exact h.elim
    | true =>
      rw [hb] at h
      rw [Bool.and_eq_true] at hb
      obtain ⟨p, e1, d1, s1⟩ := cmpOk_dp hK q r1 hb.1
      obtain ⟨p', e2, d2, s2⟩ := cmpOk_dp hK q r2 hb.2
      refine op_neD hu pins sh σ H v v' u w Q I rx ry ⟨p, p', d1, d2, s1, s2, ?_⟩
      rw [← eqP_py x y p p' e1 e2]
      exact h (.bl (!eqP x y)) H F (Sub.refl F) q rfl
  cases x with
  | ins c ds => exact own c ds rfl
  | str a =>
    cases y with
    | str b =>
      cases r1; cases r2
      refine op_ne pins sh σ H _ _ u w Q I rx ry ⟨rfl, ?_⟩
      rw [dec_str]
      exact h (.bl (!(a == b))) H F (Sub.refl F) q rfl
    | _ => exact dat h
  | _ => exact dat h
end
end Rz
end

section
set_option autoImplicit false
set_option Elab.async false
set_option linter.all false
set_option maxRecDepth 100000
set_option maxHeartbeats 2000000
namespace Rz
open PySem L2 PySem.W

/-- what isinstance asks of a class -/
structure OwnT (T : Tb) (c : Nat) : Prop where
  ck : ClsZ T c
  ha : findIn T.K (.ref (T.cA c)) "__class__" = some (some (.builtin "object.__class__"))
  hn : specialIn T.K (.builtin "object.__class__") "__get__" = some (some (.builtin "getset_descriptor.__get__"))
  ht : takesIn T.K (.builtin "object.__class__") = some true
  hm : mroIn T.K (T.cA c) (.type "object") = some true
  isC : ∀ m ∈ tyNs, kitOne T.K (.type m) (.ref (T.cA c)) = some false
  isO : ∀ n ∈ tyIs, kitOne T.K (.ref (T.cA c)) (.type n) = some false
/-- what holds of the program's table in a context -/
structure Sz {S : Type} (Z : Cz S) (us : List Str) (X : Cx) : Prop where
  hK : X.K = Z.T.K
  fz : ∀ f, FnZ Z X f
  fi : ∀ c, FnI Z X c
  hu : X.A.units + 64 < cLine
  meth : ∀ c m f, Z.P.meth c m = some f → MethZ Z.T c (nmOf us m) f
  opL : ∀ c o f, Z.P.meth c (dun o) = some f → OpL Z.T c o f
  opR : ∀ c o f, Z.P.meth c (dun o + 1) = some f → OpZR Z.T c o f
  cmp : ∀ c m f, Z.P.meth c m = some f → CmpZ Z.T c
  own : ∀ c, c < Z.P.ncl → OwnT Z.T c
  sub : ∀ c e, c < Z.P.ncl → e < Z.P.ncl → kitOne Z.T.K (.ref (Z.T.cA c)) (.ref (Z.T.cA e)) = some (Z.P.sub c e)
  fld : ∀ c m k, Z.P.attr c m = .fld k → FldZ Z.T c (nmOf us m) k
  prop : ∀ c m f, Z.P.attr c m = .prop f → PropZ Z.T c (nmOf us m) f

section
variable {S : Type} [Pen S] {Z : Cz S} {us : List Str} {G : Fm} {F H : Hp} {σ : L2.St} {τ : List Slot} {s : S} {W : WX} {X : Cx} {pins : List (Addr × Obj)} {sh : Shared}

theorem Sz.eqs (z : Sz Z us X) : ∀ c f, Z.P.meth c mEq = some f → MethZ Z.T c "__eq__" f ∧ CmpZ Z.T c := fun c f e => ⟨z.meth c mEq f e, z.cmp c mEq f e⟩
theorem Sz.bools (z : Sz Z us X) : ∀ c f, Z.P.meth c mBool = some f → MethZ Z.T c "__bool__" f := fun c f e => z.meth c mBool f e

theorem flat_v {d : D} {v : V} {T : Tb} (h : d.flat = true) (r : Rep T F d v) : flatV v = true := by
  cases d <;> simp only [D.flat] at h <;> first | (cases h; done) | (cases r; rfl)
theorem eqF_v {d e : D} {v w : V} {T : Tb} (h1 : d.flat = true) (h2 : e.flat = true) (r1 : Rep T F d v) (r2 : Rep T F e w) : eqV v w = eqF d e := by
  cases d <;> simp only [D.flat] at h1 <;> first | (cases h1; done) | skip
  all_goals
    cases e <;> simp only [D.flat] at h2 <;> first | (cases h2; done) | (cases r1; cases r2; rfl)
theorem inF_v {x : D} {v : V} {T : Tb} (hx : x.flat = true) (r : Rep T F x v) : ∀ {ds : List D} {vs : List V}, ds.all D.flat = true → RepL T F ds vs → vs.all flatV = true ∧ inV v vs = inF x ds
  | [], _, _, h => by cases h; exact ⟨rfl, rfl⟩
  | d :: ds, _, ha, ⟨w, t, e, h1, h2⟩ => by
    subst e
    rw [List.all_cons, Bool.and_eq_true] at ha
    obtain ⟨i1, i2⟩ := inF_v hx r ha.2 h2
    refine ⟨by rw [List.all_cons, flat_v ha.1 h1, i1]; rfl, ?_⟩
    unfold inV inF at i2 ⊢
    rw [List.any_cons, List.any_cons, i2, eqF_v ha.1 hx h1 r]
theorem one_sign {w : Str} {c : Nat} (h : w.cps.toList = [c]) : w = ⟨#[c]⟩ := by
  obtain ⟨a⟩ := w
  have : a = #[c] := by
    apply Array.ext'
    simpa using h
  rw [this]

theorem inV_z {x y : D} {v v' : V} {u w : Value} {Q : VK} (neg : Bool) (z : Sz Z us X) (tk : Takes X W) (I : Inv X pins σ H sh) (rx : RelV v u) (ry : RelV v' w) (q : SR Z.T Z.pn G F H σ τ s) (r1 : Rep Z.T F x v) (r2 : Rep Z.T F y v')
    (h : Post Z G (Rep Z.T) F σ (fun v H => ∀ b, v = .bl b → Q (.bl (if neg then !b else b)) H) W (inVv Z.P Z.call x y τ s)) : wpAny (model X.prog X.w) X.A (compareOp (if neg then .NotIn else .In) u w) (EP X pins σ Q) X.xe sh := by
  have seq : ∀ {ds : List D} {p : Addr} {vs : List V}, v' = .ref p → (SqL X.K H p vs ∨ SqT X.K H p vs) → RepL Z.T F ds vs → Post Z G (Rep Z.T) F σ (fun v H => ∀ b, v = .bl b → Q (.bl (if neg then !b else b)) H) W (bif x.flat && ds.all D.flat then .ok (.bl (inF x ds)) τ s else .no) →
      wpAny (model X.prog X.w) X.A (compareOp (if neg then .NotIn else .In) u w) (EP X pins σ Q) X.xe sh := by
    intro ds p vs e hs rl h
    obtain ⟨hb, h⟩ := h.bif
    rw [Bool.and_eq_true] at hb
    obtain ⟨i1, i2⟩ := inF_v hb.1 r1 hb.2 rl
    have hq := h.ok q (rfl : Rep Z.T F (.bl (inF x ds)) (.bl (inF x ds))) _ rfl
    cases neg with
    | false => exact op_in_seq pins sh σ H v v' u w Q I rx ry ⟨p, vs, e, hs, flat_v hb.1 r1, i1, by rw [i2]; exact hq⟩
    | true => exact op_notIn_seq pins sh σ H v v' u w Q I rx ry ⟨p, vs, e, hs, flat_v hb.1 r1, i1, by rw [i2]; exact hq⟩
  cases y with
  | lst ds => obtain ⟨p, vs, e, hs, rl⟩ := r2; exact seq e (.inl (SqL.of (q.fh _ _ hs))) rl h
  | tup ds => obtain ⟨p, vs, e, hs, rl⟩ := r2; exact seq e (.inr (by rw [z.hK]; exact q.fh.sqT hs)) rl h
  | str t =>
    cases x with
    | str a =>
      simp only [inVv] at h
      cases ec : a.cps.toList with
      | nil => rw [ec] at h; exact h.elim
      | cons c r =>
        cases r with
        | cons _ _ => rw [ec] at h; exact h.elim
        | nil =>
          rw [ec] at h
          cases r1; cases r2
          have hq := h.ok q (rfl : Rep Z.T F (.bl (decide (c ∈ t.cps.toList))) _) _ rfl
          cases neg with
          | false => exact op_in_sign pins sh σ H _ _ u w Q I rx ry ⟨c, t, by rw [one_sign ec], rfl, hq⟩
          | true => exact op_notIn_sign pins sh σ H _ _ u w Q I rx ry ⟨c, t, by rw [one_sign ec], rfl, hq⟩
    | _ => exact h.elim
  | ins c ds =>
    simp only [inVv, callM] at h
    cases ef : Z.P.meth c mIn with
    | none => rw [ef] at h; exact h.elim
    | some f =>
      rw [ef] at h
      dsimp only at h
      obtain ⟨ck, mt, _⟩ := z.meth c mIn f ef
      obtain ⟨a, ox, od, dx, rfl, rfl, J, _⟩ := inst_z I q r2 ry
      obtain ⟨m, fr⟩ := I.fr
      rw [← z.hK] at mt
      have go : wpAny (model X.prog X.w) X.A (call (.ref (Z.T.fA f)) [.ref a, u]) (EP X pins σ fun v H' => ∃ b, v = .bl b ∧ Q (.bl (if neg then !b else b)) H') X.xe sh := by
        refine wpAny_call (run_z (z.fz f) tk I (.cons ry (.cons rx .nil)) ⟨F, [.ins c ds, x], s, q.fh, q.pen, q.penF, q.pinv, RepL.two r2 r1, ?_⟩)
        cases ec : Z.call f [.ins c ds, x] s with
        | ok d s' =>
          rw [ec] at h
          intro v H' F' k r
          cases d with
          | bl b => cases r; exact ⟨b, rfl, h (.bl b) H' F' k.ff (q.call k) rfl b rfl⟩
          | _ => exact h.elim
        | exc c' fs s' =>
          rw [ec] at h
          exact fun H' F' od k r => h H' F' od k.ff (q.call k) r
        | no => rw [ec] at h; exact h.elim
      cases neg with
      | false =>
        refine in_K fr I.mod.kin J mt.at_ mt.fn (thn go fun r s' ⟨v, H', I', rv, b, eb, hq⟩ => ?_)
        subst eb; cases rv
        exact wpAny_truthy_bool ⟨.bl b, H', I', rfl, hq⟩
      | true =>
        refine notIn_K fr I.mod.kin J mt.at_ mt.fn (thn go fun r s' ⟨v, H', I', rv, b, eb, hq⟩ => ?_)
        subst eb; cases rv
        exact wpAny_truthy_bool ⟨.bl (!b), H', I', rfl, hq⟩
  | _ => exact h.elim

theorem isN_v {d : D} {v : V} {T : Tb} (r : Rep T F d v) (h : ∀ u, d ≠ .opq u) : decide (v = .non) = (match d with | .non => true | _ => false) := by
  cases d with
  | non => cases r; rfl
  | bl _ => cases r; rfl
  | int _ => cases r; rfl
  | str _ => cases r; rfl
  | tup _ => obtain ⟨a, vs, rfl, _⟩ := r; rfl
  | lst _ => obtain ⟨a, vs, rfl, _⟩ := r; rfl
  | ins _ _ => obtain ⟨a, dx, vs, rfl, _⟩ := r; rfl
  | dct _ _ => obtain ⟨a, vs, rfl, _⟩ := r; rfl
  | cls _ => cases r; rfl
  | ty _ => cases r; rfl
  | fn _ => cases r; rfl
  | pen => cases r; rfl
  | opq u => exact absurd rfl (h u)

theorem cmpV_z {o : CmpOp} {x y : D} {v v' : V} {u w : Value} {Q : VK} (z : Sz Z us X) (tk : Takes X W) (I : Inv X pins σ H sh) (rx : RelV v u) (ry : RelV v' w) (q : SR Z.T Z.pn G F H σ τ s) (r1 : Rep Z.T F x v) (r2 : Rep Z.T F y v')
    (h : Post Z G (Rep Z.T) F σ Q W (cmpV Z.P Z.call o x y τ s)) : wpAny (model X.prog X.w) X.A (compareOp o u w) (EP X pins σ Q) X.xe sh := by
  have ord : ∀ o, (o = .Lt ∨ o = .LtE ∨ o = .Gt ∨ o = .GtE) → Post Z G (Rep Z.T) F σ Q W (match x, y with
      | .int i, .int j => Out.of ((cmpI o i j).map .bl) τ s
      | .ins c _, _ => bif sameOrBt c y then callM Z.P Z.call c (mCmp o) [x, y] τ s else .no
      | _, _ => .no) → wpAny (model X.prog X.w) X.A (compareOp o u w) (EP X pins σ Q) X.xe sh := by
    intro o ho h
    cases x with
    | int i =>
      cases y with
      | int j =>
        cases r1; cases r2
        rcases ho with rfl | rfl | rfl | rfl
        · exact op_lt pins sh σ H _ _ u w Q I rx ry ⟨i, j, rfl, rfl, h.ok q rfl⟩
        · exact op_le pins sh σ H _ _ u w Q I rx ry ⟨i, j, rfl, rfl, h.ok q rfl⟩
        · exact op_gt pins sh σ H _ _ u w Q I rx ry ⟨i, j, rfl, rfl, h.ok q rfl⟩
        · exact op_ge pins sh σ H _ _ u w Q I rx ry ⟨i, j, rfl, rfl, h.ok q rfl⟩
      | _ => exact h.elim
    | ins c ds =>
      obtain ⟨hy, h⟩ := h.bif
      obtain ⟨f, ef, h⟩ := callM_of h
      have cz := z.cmp c _ f ef
      obtain ⟨ck, mt, _⟩ := z.meth c _ f ef
      obtain ⟨a, ox, od, dx, rfl, rfl, J, _⟩ := inst_z I q r1 rx
      obtain ⟨tb, lb, nf⟩ := other_z z.hK cz I q r2 ry hy
      obtain ⟨m, fr⟩ := I.fr
      have hu := z.hu
      rw [← z.hK] at mt
      have go := callM_z z.fz tk I q (RepL.two r1 r2) (.cons rx (.cons ry .nil)) h
      rcases ho with rfl | rfl | rfl | rfl
      · exact cmp_K (op := .Lt) (by omega) fr I.mod.kin J lb nf mt.at_ mt.fn go
      · exact cmp_K (op := .LtE) (by omega) fr I.mod.kin J lb nf mt.at_ mt.fn go
      · exact cmp_K (op := .Gt) (by omega) fr I.mod.kin J lb nf mt.at_ mt.fn go
      · exact cmp_K (op := .GtE) (by omega) fr I.mod.kin J lb nf mt.at_ mt.fn go
    | _ => exact h.elim
  cases o with
  | Eq => exact eqV_z z.hK z.fz z.hu z.eqs tk I rx ry q r1 r2 h
  | NotEq => exact neV_z z.hK z.fz z.hu z.eqs tk I rx ry q r1 r2 h
  | Lt => exact ord .Lt (.inl rfl) h
  | LtE => exact ord .LtE (.inr (.inl rfl)) h
  | Gt => exact ord .Gt (.inr (.inr (.inl rfl))) h
  | GtE => exact ord .GtE (.inr (.inr (.inr rfl))) h
  | Is =>
    cases y with
    | non =>
      cases r2
      cases x with
      | opq _ => exact h.elim
      | _ =>
        refine op_isN pins sh σ H v .non u w Q I rx ry ⟨rfl, ?_⟩
        rw [isN_v r1 (by intro u z; cases z)]
        exact h.ok q rfl
    | _ => exact h.elim
  | IsNot =>
    cases y with
    | non =>
      cases r2
      cases x with
      | opq _ => exact h.elim
      | _ =>
        refine op_notN pins sh σ H v .non u w Q I rx ry ⟨rfl, ?_⟩
        rw [isN_v r1 (by intro u z; cases z)]
        exact h.ok q rfl
    | _ => exact h.elim
  | In => exact inV_z false z tk I rx ry q r1 r2 (h.imp fun v H hq b e => by subst e; exact hq)
  | NotIn =>
    refine inV_z true z tk I rx ry q r1 r2 ?_
    simp only [cmpV] at h
    cases e : inVv Z.P Z.call x y τ s with
    | ok d τ' s' =>
      rw [e] at h
      intro v H' F' k qq r b eb
      cases d with
      | bl b' =>
        cases r
        cases eb
        exact h _ H' F' k qq rfl
      | _ => exact h.elim
    | exc c fs τ' s' => rw [e] at h; exact h
    | no => rw [e] at h; exact h.elim
end
end Rz
end

section
set_option autoImplicit false
set_option Elab.async false
set_option linter.all false
set_option maxRecDepth 100000
set_option maxHeartbeats 2000000
namespace Rz
open PySem L2 PySem.W PyProof.Rows

section
variable {S : Type} [Pen S] {Z : Cz S} {us : List Str} {G : Fm} {F H : Hp} {σ : L2.St} {τ : List Slot} {s : S} {W : WX} {X : Cx} {pins : List (Addr × Obj)} {sh : Shared}
variable {a b c e : Expr} {ca cb cc ce : CE} {pos : Pos}

/-! ### operators -/
theorem de_bin {o : Operator} (z : Sz Z us X) (tk : Takes X W) (ha : PE X a (tD Z G W ca)) (hb : PE X b (tD Z G W cb)) : PE X (.BinOp a o b pos) (tD Z G W (.bin o ca cb)) := by
  refine ⟨fun pins sh σ H Q I h => ?_⟩
  obtain ⟨F0, τ, s, q, h⟩ := h
  refine wpAny_BinOp (bin ha hb I (R := fun v v' H2 => ∃ F τ s x y, SR Z.T Z.pn G F H2 σ τ s ∧ Rep Z.T F x v ∧ Rep Z.T F y v' ∧ Post Z G (Rep Z.T) F σ Q W (binV Z.P Z.call o x y τ s))
    ⟨F0, τ, s, q, h.bind fun x v τ1 s1 F1 H1 e1 q1 r1 h1 => ⟨F1, τ1, s1, q1, h1.bind fun y v' τ2 s2 F2 H2 e2 q2 r2 h2 => ⟨F2, τ2, s2, x, y, q2, r1.mono e2, r2, h2⟩⟩⟩ fun u w s2 v v' H2 I2 rx ry hq => ?_)
  obtain ⟨F, τ, s, x, y, q, r1, r2, h⟩ := hq
  exact binV_z z.hK z.fz (fun c f => z.opL c o f) (fun c f => z.opR c o f) tk I2 rx ry q r1 r2 h
theorem unV_z {o : UnaryOp} {x : D} {v : V} {u : Value} {Q : VK} (z : Sz Z us X) (tk : Takes X W) (I : Inv X pins σ H sh) (rx : RelV v u) (q : SR Z.T Z.pn G F H σ τ s) (r1 : Rep Z.T F x v)
    (h : Post Z G (Rep Z.T) F σ Q W (unV Z.P Z.call o x τ s)) : wpAny (model X.prog X.w) X.A (unaryOp o u) (EP X pins σ Q) X.xe sh := by
  have own : ∀ {m : Nat} {c : Nat} {ds : List D}, x = .ins c ds → Post Z G (Rep Z.T) F σ Q W (callM Z.P Z.call c m [x] τ s) → (∀ {f a : Addr} {ox : Obj} {od : Option Obj}, u = .ref a → InstAt sh.heap a ox (Z.T.cA c) od → findIn X.K (.ref (Z.T.cA c)) (nmOf us m) = some (some (.ref f)) → isFn X.K (.ref f) = true →
      wpAny (model X.prog X.w) X.A (call (.ref f) [.ref a]) (EP X pins σ Q) X.xe sh → wpAny (model X.prog X.w) X.A (unaryOp o u) (EP X pins σ Q) X.xe sh) → wpAny (model X.prog X.w) X.A (unaryOp o u) (EP X pins σ Q) X.xe sh := by
    intro m c ds e h k
    subst e
    obtain ⟨f, ef, h⟩ := callM_of h
    obtain ⟨ck, mt, _⟩ := z.meth c m f ef
    obtain ⟨a, ox, od, dx, rfl, rfl, J, _⟩ := inst_z I q r1 rx
    rw [← z.hK] at mt
    exact k rfl J mt.at_ mt.fn (wpAny_call (run_z (z.fz f) tk I (.cons rx .nil) (spF_of q (RepL.one r1) h)))
  obtain ⟨m, fr⟩ := I.fr
  cases o with
  | USub =>
    cases x with
    | int i => cases r1; exact un_neg pins sh σ H _ u Q I rx ⟨i, rfl, h.ok q rfl⟩
    | ins c ds => exact own (m := mNeg) rfl h fun e J h1 h2 h3 => by subst e; exact ksp_neg fr I.mod.kin J h1 h2 h3
    | _ => exact h.elim
  | Invert =>
    cases x with
    | ins c ds => exact own (m := mInv) rfl h fun e J h1 h2 h3 => by subst e; exact ksp_inv fr I.mod.kin J h1 h2 h3
    | _ => exact h.elim
  | Not => cases x <;> exact h.elim
  | UAdd => cases x <;> exact h.elim
theorem de_un {o : UnaryOp} (z : Sz Z us X) (tk : Takes X W) (ha : PE X a (tD Z G W ca)) : PE X (.UnaryOp o a pos) (tD Z G W (.un o ca)) := by
  refine ⟨fun pins sh σ H Q I h => ?_⟩
  obtain ⟨F0, τ, s, q, h⟩ := h
  refine UnaryOp_ (thn (ha.run pins sh σ H (fun v H1 => ∃ F τ s x, SR Z.T Z.pn G F H1 σ τ s ∧ Rep Z.T F x v ∧ Post Z G (Rep Z.T) F σ Q W (unV Z.P Z.call o x τ s)) I
    ⟨F0, τ, s, q, h.bind fun x v τ1 s1 F1 H1 e1 q1 r1 h1 => ⟨F1, τ1, s1, x, q1, r1, h1⟩⟩) fun u s1 ⟨v, H1, I1, rx, F, τ, s, x, q, r1, h⟩ => ?_)
  exact unV_z z tk I1 rx q r1 h

/-! ### comparisons -/
theorem de_cmp {o : CmpOp} (z : Sz Z us X) (tk : Takes X W) (ha : PE X a (tD Z G W ca)) (hb : PE X b (tD Z G W cb)) (hm : behindInMarks o b = false) : PE X (.Compare a [o] [b] pos) (tD Z G W (.cmp o ca cb)) := by
  refine ⟨fun pins sh σ H Q I h => ?_⟩
  obtain ⟨F0, τ, s, q, h⟩ := h
  refine wpAny_Compare1 (bin ha hb I (R := fun v v' H2 => ∃ F τ s x y, SR Z.T Z.pn G F H2 σ τ s ∧ Rep Z.T F x v ∧ Rep Z.T F y v' ∧ Post Z G (Rep Z.T) F σ Q W (cmpV Z.P Z.call o x y τ s))
    ⟨F0, τ, s, q, h.bind fun x v τ1 s1 F1 H1 e1 q1 r1 h1 => ⟨F1, τ1, s1, q1, h1.bind fun y v' τ2 s2 F2 H2 e2 q2 r2 h2 => ⟨F2, τ2, s2, x, y, q2, r1.mono e2, r2, h2⟩⟩⟩ fun u w s2 v v' H2 I2 rx ry hq => ?_) hm
  obtain ⟨F, τ, s, x, y, q, r1, r2, h⟩ := hq
  exact cmpV_z z tk I2 rx ry q r1 r2 h
theorem post_tru {x : D} {v : V} {u : Value} {Q : Bool → Hp → Prop} (z : Sz Z us X) (tk : Takes X W) (I : Inv X pins σ H sh) (rx : RelV v u) (q : SR Z.T Z.pn G F H σ τ s) (r1 : Rep Z.T F x v)
    (h : Post Z G EqR F σ Q W (truV Z.P Z.call x τ s)) : wpAny (model X.prog X.w) X.A (truthy u) (TP X pins σ Q) X.xe sh := truV_z z.hK z.fz z.bools tk I rx q r1 h

/-- the outcome of a value, then its truth -/
def Tr (Z : Cz S) (G : Fm) (W : WX) (σ : L2.St) (Q : Bool → Hp → Prop) : VK := fun v H1 => ∃ F τ s x, SR Z.T Z.pn G F H1 σ τ s ∧ Rep Z.T F x v ∧ Post Z G EqR F σ Q W (truV Z.P Z.call x τ s)
theorem Post.tr {Q : Bool → Hp → Prop} {x : Out S D} (h : Post Z G EqR F σ Q W (x.bind fun x τ s => truV Z.P Z.call x τ s)) : Post Z G (Rep Z.T) F σ (Tr Z G W σ Q) W x :=
  h.bind fun x v τ1 s1 F1 H1 e1 q1 r1 h1 => ⟨F1, τ1, s1, x, q1, r1, h1⟩
theorem Tr.go {Q : Bool → Hp → Prop} {v : V} {u : Value} (z : Sz Z us X) (tk : Takes X W) (I : Inv X pins σ H sh) (rx : RelV v u) (h : Tr Z G W σ Q v H) : wpAny (model X.prog X.w) X.A (truthy u) (TP X pins σ Q) X.xe sh := by
  obtain ⟨F, τ, s, x, q, r1, h⟩ := h
  exact post_tru z tk I rx q r1 h

/-! ### tests -/
theorem dt_plain (z : Sz Z us X) (tk : Takes X W) (he : PE X e (tD Z G W ce)) (hp : plainTest e = true) : PT X e (tDT Z G W ce) := by
  refine ⟨fun pins sh σ H Q I h => ?_⟩
  obtain ⟨F0, τ, s, q, h⟩ := h
  refine isTrue_plain (thn (he.run pins sh σ H (Tr Z G W σ Q) I ⟨F0, τ, s, q, h.tr⟩) fun u s1 ⟨v, H1, I1, rx, hq⟩ => hq.go z tk I1 rx) ?_
  cases e <;> first | rfl | (cases hp; done) | skip
  rename_i op _ _
  cases op <;> first | rfl | (cases hp; done)
theorem dt_cmp {o : CmpOp} (z : Sz Z us X) (tk : Takes X W) (ha : PE X a (tD Z G W ca)) (hb : PE X b (tD Z G W cb)) (hm : behindInMarks o b = false) : PT X (.Compare a [o] [b] pos) (tDT Z G W (.cmp o ca cb)) := by
  refine ⟨fun pins sh σ H Q I h => ?_⟩
  obtain ⟨F0, τ, s, q, h⟩ := h
  have h' := h.tr
  refine wpAny_isTrue_Compare1 (bin ha hb I (R := fun v v' H2 => ∃ F τ s x y, SR Z.T Z.pn G F H2 σ τ s ∧ Rep Z.T F x v ∧ Rep Z.T F y v' ∧ Post Z G (Rep Z.T) F σ (Tr Z G W σ Q) W (cmpV Z.P Z.call o x y τ s))
    ⟨F0, τ, s, q, h'.bind fun x v τ1 s1 F1 H1 e1 q1 r1 h1 => ⟨F1, τ1, s1, q1, h1.bind fun y v' τ2 s2 F2 H2 e2 q2 r2 h2 => ⟨F2, τ2, s2, x, y, q2, r1.mono e2, r2, h2⟩⟩⟩ fun u w s2 v v' H2 I2 rx ry hq => ?_) hm
  obtain ⟨F, τ, s, x, y, q, r1, r2, h⟩ := hq
  exact thn (cmpV_z z tk I2 rx ry q r1 r2 h) fun u s3 ⟨v, H3, I3, rv, hq⟩ => hq.go z tk I3 rv
theorem Post.bl {Q : Bool → Hp → Prop} {Q' : Bool → Hp → Prop} {x : Out S Bool} {f : Bool → Bool} (h : Post Z G EqR F σ Q W ((x.bind fun t τ s => .ok (.bl (f t)) τ s).bind fun x τ s => truV Z.P Z.call x τ s)) (k : ∀ b H, Q (f b) H → Q' b H) : Post Z G EqR F σ Q' W x := by
  cases x with
  | ok t τ s =>
    rintro b H' F' e q rfl
    exact k _ _ (h _ H' F' e q rfl)
  | exc c fs τ s => exact h
  | no => exact h
theorem bind_assoc {α β γ : Type} (x : Out S α) (f : α → List Slot → S → Out S β) (g : β → List Slot → S → Out S γ) : (x.bind f).bind g = x.bind fun a τ s => (f a τ s).bind g := by
  cases x <;> rfl
theorem dt_not (ha : PT X a (tDT Z G W ca)) : PT X (.UnaryOp .Not a pos) (tDT Z G W (.not ca)) := (pt_not ha).imp fun σ H Q => by
  rintro ⟨F0, τ, s, q, h⟩
  refine ⟨F0, τ, s, q, ?_⟩
  simp only [ev] at h
  rw [← bind_assoc] at h
  exact h.bl (f := fun t => !t) fun b H hq => hq
theorem dt_and {rest : List Expr} (ha : PT X a (tDT Z G W ca)) (hb : PW X (.BoolOp .And (b :: rest) pos) (tDT Z G W cb)) : PW X (.BoolOp .And (a :: b :: rest) pos) (tDT Z G W (.tand ca cb)) := by
  have k : ∀ σ H Q, tDT Z G W (.tand ca cb) σ H Q → tAnd (tDT Z G W ca) (tDT Z G W cb) σ H Q := by
    rintro σ H Q ⟨F0, τ, s, q, h⟩
    refine ⟨F0, τ, s, q, ?_⟩
    simp only [ev] at h
    rw [← bind_assoc, bind_assoc] at h
    refine h.bind fun t t' τ1 s1 F1 H1 e1 q1 et h1 => ?_
    cases et
    cases t with
    | false => exact h1 false H1 F1 (Sub.refl _) q1 rfl
    | true =>
      refine ⟨F1, τ1, s1, q1, ?_⟩
      simp only [cond_true] at h1
      rw [← bind_assoc] at h1
      exact h1.bl (f := id) fun b H hq => hq
  exact ⟨fun wh pins sh σ H Q I h => (pw_and ha hb).run wh pins sh σ H Q I (k σ H Q h)⟩
theorem dt_or {rest : List Expr} (ha : PT X a (tDT Z G W ca)) (hb : PW X (.BoolOp .Or (b :: rest) pos) (tDT Z G W cb)) : PW X (.BoolOp .Or (a :: b :: rest) pos) (tDT Z G W (.tor ca cb)) := by
  have k : ∀ σ H Q, tDT Z G W (.tor ca cb) σ H Q → tOr (tDT Z G W ca) (tDT Z G W cb) σ H Q := by
    rintro σ H Q ⟨F0, τ, s, q, h⟩
    refine ⟨F0, τ, s, q, ?_⟩
    simp only [ev] at h
    rw [← bind_assoc, bind_assoc] at h
    refine h.bind fun t t' τ1 s1 F1 H1 e1 q1 et h1 => ?_
    cases et
    cases t with
    | true => exact h1 true H1 F1 (Sub.refl _) q1 rfl
    | false =>
      refine ⟨F1, τ1, s1, q1, ?_⟩
      simp only [cond_false] at h1
      rw [← bind_assoc] at h1
      exact h1.bl (f := id) fun b H hq => hq
  exact ⟨fun wh pins sh σ H Q I h => (pw_or ha hb).run wh pins sh σ H Q I (k σ H Q h)⟩

/-! ### values by truth -/
theorem de_not (z : Sz Z us X) (tk : Takes X W) (ha : PE X a (tD Z G W ca)) : PE X (.UnaryOp .Not a pos) (tD Z G W (.not ca)) := by
  refine ⟨fun pins sh σ H Q I h => ?_⟩
  obtain ⟨F0, τ, s, q, h⟩ := h
  refine UnaryOp_ (thn (ha.run pins sh σ H (Tr Z G W σ fun t H' => Q (.bl (!t)) H') I ⟨F0, τ, s, q, h.bind fun x v τ1 s1 F1 H1 e1 q1 r1 h1 => ⟨F1, τ1, s1, x, q1, r1, h1.bind fun t t' τ2 s2 F2 H2 e2 q2 et h2 => ?_⟩⟩) fun u s1 ⟨v, H1, I1, rx, hq⟩ => ?_)
  · cases et; exact h2.ok q2 rfl
  · exact not_of (thn (hq.go z tk I1 rx) fun t s2 ⟨H2, I2, q2⟩ => ⟨.bl (!t), H2, I2, rfl, q2⟩)
theorem de_and {rest : List Expr} (z : Sz Z us X) (tk : Takes X W) (ha : PE X a (tD Z G W ca)) (hb : PE X (.BoolOp .And (b :: rest) pos) (tD Z G W cb)) : PE X (.BoolOp .And (a :: b :: rest) pos) (tD Z G W (.and ca cb)) := by
  refine ⟨fun pins sh σ H Q I h => ?_⟩
  obtain ⟨F0, τ, s, q, h⟩ := h
  refine BoolOp_and (thn (ha.run pins sh σ H (fun v H1 => Tr Z G W σ (fun t H' => if t = true then tD Z G W cb σ H' Q else Q v H') v H1) I ⟨F0, τ, s, q, h.bind fun x v τ1 s1 F1 H1 e1 q1 r1 h1 => ⟨F1, τ1, s1, x, q1, r1, h1.bind fun t t' τ2 s2 F2 H2 e2 q2 et h2 => ?_⟩⟩) fun u s1 ⟨v, H1, I1, rx, hq⟩ => ?_)
  · cases et
    cases t with
    | true => exact ⟨F2, τ2, s2, q2, h2⟩
    | false => exact h2.ok q2 (r1.mono e2)
  · refine thn (hq.go z tk I1 rx) fun t s2 ⟨H2, I2, q2⟩ => ?_
    cases t with
    | true => exact hb.run pins s2 σ H2 Q I2 q2
    | false => exact ⟨v, H2, I2, rx, q2⟩
theorem de_or {rest : List Expr} (z : Sz Z us X) (tk : Takes X W) (ha : PE X a (tD Z G W ca)) (hb : PE X (.BoolOp .Or (b :: rest) pos) (tD Z G W cb)) : PE X (.BoolOp .Or (a :: b :: rest) pos) (tD Z G W (.or ca cb)) := by
  refine ⟨fun pins sh σ H Q I h => ?_⟩
  obtain ⟨F0, τ, s, q, h⟩ := h
  refine BoolOp_or (thn (ha.run pins sh σ H (fun v H1 => Tr Z G W σ (fun t H' => if t = true then Q v H' else tD Z G W cb σ H' Q) v H1) I ⟨F0, τ, s, q, h.bind fun x v τ1 s1 F1 H1 e1 q1 r1 h1 => ⟨F1, τ1, s1, x, q1, r1, h1.bind fun t t' τ2 s2 F2 H2 e2 q2 et h2 => ?_⟩⟩) fun u s1 ⟨v, H1, I1, rx, hq⟩ => ?_)
  · cases et
    cases t with
    | false => exact ⟨F2, τ2, s2, q2, h2⟩
    | true => exact h2.ok q2 (r1.mono e2)
  · refine thn (hq.go z tk I1 rx) fun t s2 ⟨H2, I2, q2⟩ => ?_
    cases t with
    | false => exact hb.run pins s2 σ H2 Q I2 q2
    | true => exact ⟨v, H2, I2, rx, q2⟩
theorem de_ite (hc : PT X c (tDT Z G W cc)) (ha : PE X a (tD Z G W ca)) (hb : PE X b (tD Z G W cb)) : PE X (.IfExp c a b pos) (tD Z G W (.ite cc ca cb)) := (pe_ifExp hc ha hb).imp fun σ H Q => by
  rintro ⟨F0, τ, s, q, h⟩
  refine ⟨F0, τ, s, q, ?_⟩
  simp only [ev] at h
  rw [← bind_assoc] at h
  refine h.bind fun t t' τ1 s1 F1 H1 e1 q1 et h1 => ?_
  cases et
  cases t with
  | true => exact ⟨F1, τ1, s1, q1, h1⟩
  | false => exact ⟨F1, τ1, s1, q1, h1⟩
end
end Rz
end

section
set_option autoImplicit false
set_option Elab.async false
set_option linter.all false
set_option maxRecDepth 100000
set_option maxHeartbeats 2000000
namespace Rz
open PySem L2 PySem.W PyProof.Rows

section
variable {S : Type} [Pen S] {Z : Cz S} {us : List Str} {G : Fm} {F H : Hp} {σ : L2.St} {τ : List Slot} {s : S} {W : WX} {X : Cx} {pins : List (Addr × Obj)} {sh : Shared}
variable {a b c e : Expr} {ca cb cc ce : CE} {pos : Pos}

theorem rep_bl {T : Tb} {x : D} {t : Bool} (r : Rep T F x (.bl t)) : x = .bl t ∨ x = .opq (.bl t) := by
  cases x with
  | bl b => left; cases r; rfl
  | opq u => right; cases r; rfl
  | tup _ => obtain ⟨_, _, z, _⟩ := r; cases z
  | lst _ => obtain ⟨_, _, z, _⟩ := r; cases z
  | ins _ _ => obtain ⟨_, _, _, z, _⟩ := r; cases z
  | dct _ _ => obtain ⟨_, _, z, _⟩ := r; cases z
  | _ => cases r
/-! ### a < b < c -/
theorem de_chain {o p : CmpOp} (z : Sz Z us X) (tk : Takes X W) (ha : PE X a (tD Z G W ca)) (hb : PE X b (tD Z G W cb)) (hc : PE X c (tD Z G W cc)) (hm : lastMarks [o, p] [b, c] = false) : PE X (.Compare a [o, p] [b, c] pos) (tD Z G W (.chain o p ca cb cc)) := by
  refine ⟨fun pins sh σ H Q I h => ?_⟩
  obtain ⟨F0, τ, s, q, h⟩ := h
  refine Compare_chain (thn (ha.run pins sh σ H (fun v H1 => tD Z G W cb σ H1 fun v' H2 => ∃ F τ s x y, SR Z.T Z.pn G F H2 σ τ s ∧ Rep Z.T F x v ∧ Rep Z.T F y v' ∧ Post Z G (Rep Z.T) F σ (fun w H3 => ∃ t, w = .bl t ∧ ∃ F τ s, SR Z.T Z.pn G F H3 σ τ s ∧ Rep Z.T F y v' ∧
      Post Z G (Rep Z.T) F σ Q W (bif t then (ev Z.P Z.call Z.make cc τ s).bind fun w τ s => cmpV Z.P Z.call p y w τ s else .ok (.bl false) τ s)) W (cmpV Z.P Z.call o x y τ s)) I
    ⟨F0, τ, s, q, h.bind fun x v τ1 s1 F1 H1 e1 q1 r1 h1 => ⟨F1, τ1, s1, q1, h1.bind fun y v' τ2 s2 F2 H2 e2 q2 r2 h2 => ⟨F2, τ2, s2, x, y, q2, r1.mono e2, r2, h2.bind fun zd w τ3 s3 F3 H3 e3 q3 r3 h3 => ?_⟩⟩⟩)
    fun u s1 ⟨v, H1, I1, rx, hq⟩ => chain_link (thn (hb.run pins s1 σ H1 _ I1 hq) fun u' s2 ⟨v', H2, I2, ry, F, τ, s, x, y, q, r1, r2, h⟩ => thn (cmpV_z z tk I2 rx ry q r1 r2 h) fun d s3 ⟨w, H3, I3, rw_, t, et, F, τ, s, q, r2, h⟩ => ?_)) hm
  · cases zd with
    | bl t => cases r3; exact ⟨t, rfl, F3, τ3, s3, q3, r2.mono e3, h3⟩
    | _ => exact h3.elim
  · subst et
    cases rw_
    refine wpAny_truthy_bool ?_
    cases t with
    | false => exact ite_ff ⟨.bl false, H3, I3, rfl, h.ok q rfl⟩
    | true =>
      refine ite_tt (chain_last (thn (hc.run pins s3 σ H3 (fun w H4 => ∃ F τ s y2, SR Z.T Z.pn G F H4 σ τ s ∧ Rep Z.T F y v' ∧ Rep Z.T F y2 w ∧ Post Z G (Rep Z.T) F σ Q W (cmpV Z.P Z.call p y y2 τ s)) I3
        ⟨F, τ, s, q, h.bind fun y2 w τ4 s4 F4 H4 e4 q4 r4 h4 => ⟨F4, τ4, s4, y2, q4, r2.mono e4, r4, h4⟩⟩) fun w' s4 ⟨w, H4, I4, r4, F, τ, s, y2, q, r2, r3, h⟩ => ?_))
      exact cmpV_z z tk I4 ry r4 q r2 r3 h
theorem dt_chain {o p : CmpOp} (z : Sz Z us X) (tk : Takes X W) (ha : PE X a (tD Z G W ca)) (hb : PE X b (tD Z G W cb)) (hc : PE X c (tD Z G W cc)) (hm : lastMarks [o, p] [b, c] = false) : PT X (.Compare a [o, p] [b, c] pos) (tDT Z G W (.chain o p ca cb cc)) := by
  refine ⟨fun pins sh σ H Q I h => ?_⟩
  obtain ⟨F0, τ, s, q, h⟩ := h
  have h := h.tr
  refine isTrue_chain (thn (ha.run pins sh σ H (fun v H1 => tD Z G W cb σ H1 fun v' H2 => ∃ F τ s x y, SR Z.T Z.pn G F H2 σ τ s ∧ Rep Z.T F x v ∧ Rep Z.T F y v' ∧ Post Z G (Rep Z.T) F σ (fun w H3 => ∃ t, w = .bl t ∧ ∃ F τ s, SR Z.T Z.pn G F H3 σ τ s ∧ Rep Z.T F y v' ∧
      Post Z G (Rep Z.T) F σ (Tr Z G W σ Q) W (bif t then (ev Z.P Z.call Z.make cc τ s).bind fun w τ s => cmpV Z.P Z.call p y w τ s else .ok (.bl false) τ s)) W (cmpV Z.P Z.call o x y τ s)) I
    ⟨F0, τ, s, q, h.bind fun x v τ1 s1 F1 H1 e1 q1 r1 h1 => ⟨F1, τ1, s1, q1, h1.bind fun y v' τ2 s2 F2 H2 e2 q2 r2 h2 => ⟨F2, τ2, s2, x, y, q2, r1.mono e2, r2, h2.bind fun zd w τ3 s3 F3 H3 e3 q3 r3 h3 => ?_⟩⟩⟩)
    fun u s1 ⟨v, H1, I1, rx, hq⟩ => test_link (thn (hb.run pins s1 σ H1 _ I1 hq) fun u' s2 ⟨v', H2, I2, ry, F, τ, s, x, y, q, r1, r2, h⟩ => thn (cmpV_z z tk I2 rx ry q r1 r2 h) fun d s3 ⟨w, H3, I3, rw_, t, et, F, τ, s, q, r2, h⟩ => ?_)) hm
  · cases zd with
    | bl t => cases r3; exact ⟨t, rfl, F3, τ3, s3, q3, r2.mono e3, h3⟩
    | _ => exact h3.elim
  · subst et
    cases rw_
    refine wpAny_truthy_bool ?_
    cases t with
    | false =>
      obtain ⟨F, τ, s, x, q, r, h⟩ := h.ok q (rfl : Rep Z.T F (.bl false) (.bl false))
      rcases rep_bl r with rfl | rfl
      · exact ite_ff ⟨H3, I3, h.ok q rfl⟩
      · exact h.elim
    | true =>
      refine ite_tt (test_last (thn (hc.run pins s3 σ H3 (fun w H4 => ∃ F τ s y2, SR Z.T Z.pn G F H4 σ τ s ∧ Rep Z.T F y v' ∧ Rep Z.T F y2 w ∧ Post Z G (Rep Z.T) F σ (Tr Z G W σ Q) W (cmpV Z.P Z.call p y y2 τ s)) I3
        ⟨F, τ, s, q, h.bind fun y2 w τ4 s4 F4 H4 e4 q4 r4 h4 => ⟨F4, τ4, s4, y2, q4, r2.mono e4, r4, h4⟩⟩) fun w' s4 ⟨w, H4, I4, r4, F, τ, s, y2, q, r2, r3, h⟩ => ?_))
      exact thn (cmpV_z z tk I4 ry r4 q r2 r3 h) fun d s5 ⟨w, H5, I5, r5, hq⟩ => hq.go z tk I5 r5

/-! ### items and slices -/
theorem RepL.atI {T : Tb} {ds : List D} {vs : List V} {i : Int} {d : D} (r : RepL T F ds vs) (h : L2.atI ds i = some d) : ∃ v, L2.atI vs i = some v ∧ Rep T F d v := by
  unfold L2.atI at h ⊢
  rw [r.length]
  cases e : ixN ds.length i with
  | none => rw [e] at h; cases h
  | some j => rw [e] at h; exact r.get h
def ixOk : Expr → Bool
  | .Slice _ _ _ _ => false
  | _ => true
theorem plainIx_of {b : Expr} (h : ixOk b = true) : PlainIx b := by
  intro o i
  cases b <;> first | rfl | cases h
theorem de_ix (z : Sz Z us X) (ha : PE X a (tD Z G W ca)) (hb : PE X b (tD Z G W cb)) (hs : ixOk b = true) : PE X (.Subscript a b pos) (tD Z G W (.ix ca cb)) :=
  (pe_ix ((ix_list.or ix_tup).or ix_str) ha hb (plainIx_of hs)).imp fun σ H Q => by
    rintro ⟨F0, τ, s, q, h⟩
    refine ⟨F0, τ, s, q, h.bind fun x v τ1 s1 F1 H1 e1 q1 r1 h1 => ⟨F1, τ1, s1, q1, h1.bind fun y v' τ2 s2 F2 H2 e2 q2 r2 h2 => ?_⟩⟩
    have r1 := r1.mono e2
    cases x with
    | lst ds =>
      simp only [ixV] at h2
      obtain ⟨d, ed, h3⟩ := h2.of
      clear h2
      cases y with
      | int i =>
        cases r2
        obtain ⟨p, vs, rfl, hF, rl⟩ := r1
        obtain ⟨w, hw, rw_⟩ := rl.atI ed
        exact .inl (.inl ⟨p, vs, i, w, rfl, rfl, SqL.of (q2.fh _ _ hF), hw, h3.ok q2 rw_⟩)
      | _ => cases ed
    | tup ds =>
      simp only [ixV] at h2
      obtain ⟨d, ed, h3⟩ := h2.of
      clear h2
      cases y with
      | int i =>
        cases r2
        obtain ⟨p, vs, rfl, hF, rl⟩ := r1
        obtain ⟨w, hw, rw_⟩ := rl.atI ed
        exact .inl (.inr ⟨p, vs, i, w, rfl, rfl, by rw [z.hK]; exact q2.fh.sqT hF, hw, h3.ok q2 rw_⟩)
      | _ => cases ed
    | str t =>
      simp only [ixV] at h2
      obtain ⟨d, ed, h3⟩ := h2.of
      clear h2
      cases y with
      | int i =>
        cases r1; cases r2
        simp only [ixD] at ed
        cases hl : lim t.length with
        | false => rw [hl] at ed; cases ed
        | true =>
          rw [hl] at ed
          obtain ⟨cd, ec, rfl⟩ := map_some ed
          exact .inr ⟨t, i, cd, rfl, rfl, lim_size hl, ec, h3.ok q2 rfl⟩
      | _ => cases ed
    | ins c ds => exact h2.elim
    | _ =>
      simp only [ixV] at h2
      obtain ⟨d, ed, h2⟩ := h2.of
      cases ed

inductive PartZ (Z : Cz S) (G : Fm) (W : WX) (X : Cx) : Option Expr → CO → Prop
  | no : PartZ Z G W X none .no
  | yes {e : Expr} {c : CE} : PE X e (tD Z G W c) → PartZ Z G W X (some e) (.yes c)
def tDO (Z : Cz S) (G : Fm) (W : WX) (c : CO) : TO := fun σ H Q => ∃ F τ s, SR Z.T Z.pn G F H σ τ s ∧ Post Z G EqR F σ Q W (evO Z.P Z.call Z.make c τ s)
theorem _root_.L2.PO.imp {X : Cx} {e : Option Expr} {t t' : TO} (h : PO X e t) (k : ∀ σ H Q, t' σ H Q → t σ H Q) : PO X e t' := ⟨fun pins s σ H Q I q => h.run pins s σ H Q I (k σ H Q q)⟩
theorem PartZ.po {o : Option Expr} {c : CO} (h : PartZ Z G W X o c) : PO X o (tDO Z G W c) := by
  cases h with
  | no => exact po_none.imp fun σ H Q ⟨F0, τ, s, q, h⟩ => h.ok q rfl
  | yes he =>
    refine (po_some he).imp fun σ H Q => ?_
    rintro ⟨F0, τ, s, q, h⟩
    refine ⟨F0, τ, s, q, h.bind fun x v τ1 s1 F1 H1 e1 q1 r1 h1 => ?_⟩
    cases x with
    | int i => cases r1; exact ⟨i, rfl, h1.ok q1 rfl⟩
    | _ => exact h1.elim
theorem RepL.cut {T : Tb} {ds : List D} {vs : List V} {lo hi : Option Int} (r : RepL T F ds vs) : RepL T F (cutD ds lo hi) (cutV vs lo hi) := by
  unfold cutD cutV
  rw [r.length]
  exact (r.drop _).take _
theorem cut_whole {α : Type} {xs : List α} {lo hi : Option Int} (h : HT.sIx xs.length 0 lo = 0 ∧ HT.sIx xs.length xs.length hi = xs.length) : cutD xs lo hi = xs := by
  unfold cutD
  rw [h.1, h.2]
  simp
theorem de_sl {lo hi : Option Expr} {cl ch : CO} {p2 : Pos} (z : Sz Z us X) (ha : PE X a (tD Z G W ca)) (hl : PartZ Z G W X lo cl) (hh : PartZ Z G W X hi ch) : PE X (.Subscript a (.Slice lo hi none p2) pos) (tD Z G W (.sl ca cl ch)) :=
  (pe_slice ((sl_list.or sl_tupA).or sl_str) ha hl.po hh.po).imp fun σ H Q => by
    rintro ⟨F0, τ, s, q, h⟩
    refine ⟨F0, τ, s, q, h.bind fun x v τ1 s1 F1 H1 e1 q1 r1 h1 => ⟨F1, τ1, s1, q1, h1.bind fun l l' τ2 s2 F2 H2 e2 q2 el h2 => ⟨F2, τ2, s2, q2, h2.bind fun u u' τ3 s3 F3 H3 e3 q3 eu h3 => ?_⟩⟩⟩
    cases el
    cases eu
    have r1 := r1.mono (e2.trans e3)
    obtain ⟨d, ed, h3⟩ := h3.of
    cases x with
    | lst ds =>
      cases ed
      obtain ⟨p, vs, rfl, hF, rl⟩ := r1
      refine .inl (.inl ⟨p, vs, rfl, SqL.of (q3.fh _ _ hF), fun n hn => ?_⟩)
      have nF := q3.fh.none hn
      exact h3 _ _ _ (Sub.new nF) (q3.new hn) ⟨n, _, rfl, upd_same, rl.cut.mono (Sub.new nF)⟩
    | tup ds =>
      cases ed
      obtain ⟨p, vs, rfl, hF, rl⟩ := r1
      refine .inl (.inr ⟨p, vs, rfl, by rw [z.hK]; exact q3.fh.sqT hF, fun hw => ?_, fun _ n hn => ?_⟩)
      · rw [rl.length] at hw
        exact h3.ok q3 ⟨p, vs, rfl, hF, by rw [cut_whole hw]; exact rl⟩
      · have nF := q3.fh.none hn
        exact h3 _ _ _ (Sub.new nF) (q3.new hn) ⟨n, _, rfl, SqT.of upd_same, rl.cut.mono (Sub.new nF)⟩
    | str t =>
      cases r1
      simp only [slD] at ed
      obtain ⟨hl, rfl⟩ := bif_some ed
      exact .inr ⟨t, rfl, lim_size hl, h3.ok q3 rfl⟩
    | _ => cases ed
end
end Rz
end

section
set_option autoImplicit false
set_option Elab.async false
set_option linter.all false
set_option maxRecDepth 100000
set_option maxHeartbeats 2000000
namespace Rz
open PySem L2 PySem.W PyProof.Rows

/-- a class that isinstance is asked of: its value in the layer, in the model -/
def Tn.v (T : Tb) : Tn → V
  | .ty n => .ty n
  | .cl c => .ref (T.cA c)
def Tn.u (T : Tb) : Tn → Value
  | .ty n => .type n
  | .cl c => .ref (T.cA c)
theorem Tn.rel (T : Tb) (t : Tn) : ClsV (t.v T) (t.u T) := by
  cases t with
  | ty n => exact .ty n
  | cl c => exact .own _
theorem Tn.rels (T : Tb) : ∀ ts : List Tn, Paired ClsV (ts.map (Tn.v T)) (ts.map (Tn.u T))
  | [] => .nil
  | t :: ts => .cons (t.rel T) (Tn.rels T ts)
theorem kit_all : ∀ m ∈ tyNs, ∀ n ∈ tyIs, kitB m n = some (m == n || (m == "bool" && n == "int")) := by decide +kernel

section
variable {S : Type} [Pen S] {Z : Cz S} {us : List Str} {G : Fm} {F H : Hp} {σ : L2.St} {τ : List Slot} {s : S} {W : WX} {X : Cx} {pins : List (Addr × Obj)} {sh : Shared}
variable {a b c e : Expr} {ca cb cc ce : CE} {pos : Pos}

theorem tyx_tn {d : D} {n : String} {v : V} (z : Sz Z us X) (q : SR Z.T Z.pn G F H σ τ s) (r : Rep Z.T F d v) (e : d.tn = some n) : TyX X.K H v (.type n) := by
  cases d <;> simp only [D.tn] at e
  case non => cases e; cases r; exact .base .non
  case bl => cases e; cases r; exact .base (.bl _)
  case int => cases e; cases r; exact .base (.int _)
  case str => cases e; cases r; exact .base (.str _)
  case tup ds =>
    cases e
    obtain ⟨a, vs, rfl, hs, _⟩ := r
    rcases q.fh.sqT hs with (h | ⟨o, h⟩) | ⟨o, its, n, h, hc, _⟩
    · exact .base (.tup h)
    · exact .fTuple h
    · exact .kTuple (by rw [z.hK]; exact h) hc
  case lst ds =>
    cases e
    obtain ⟨a, vs, rfl, hs, _⟩ := r
    exact .base (.lst (q.fh _ _ hs))
  all_goals cases e
/-- a value's type, and what isinstance answers -/
theorem isi_z {d : D} {v : V} (z : Sz Z us X) (q : SR Z.T Z.pn G F H σ τ s) (r : Rep Z.T F d v) : ∀ {ts : List Tn} {b : Bool}, isiAny Z.P d ts = some b → ts ≠ [] → ∃ t, TyX X.K H v t ∧ kitAny X.K t (ts.map (Tn.u Z.T)) = some b := by
  have one : ∀ {t : Tn} {b : Bool}, isiT Z.P d t = some b → ∃ m, TyX X.K H v m ∧ ((∃ n, d.tn = some n ∧ m = .type n) ∨ ∃ c ds, d = .ins c ds ∧ m = .ref (Z.T.cA c)) := by
    intro t b h
    cases ed : d.tn with
    | some n => exact ⟨_, tyx_tn z q r ed, .inl ⟨n, rfl, rfl⟩⟩
    | none =>
      cases d with
      | ins c ds =>
        have hc : c < Z.P.ncl := by
          cases t with
          | ty n =>
            simp only [isiT] at h
            have := (bif_some h).1
            rw [Bool.and_eq_true] at this
            exact of_decide_eq_true this.1
          | cl e =>
            simp only [isiT] at h
            cases hb : decide (e < Z.P.ncl) with
            | false => rw [hb] at h; cases h
            | true => rw [hb] at h; exact of_decide_eq_true (bif_some h).1
        obtain ⟨ck, ha, hn, ht, hm, _, _⟩ := z.own c hc
        obtain ⟨a, dx, vs, rfl, hF, _⟩ := r
        rw [← z.hK] at ha hn ht hm
        exact ⟨_, .base (.ins (q.fh _ _ hF) (by rw [z.hK]; exact ck.cl) ha hn ht hm), .inr ⟨c, ds, rfl, rfl⟩⟩
      | _ => cases t <;> simp [isiT, D.tn] at h ed
  have kit : ∀ {t : Tn} {b : Bool} {m : Value}, isiT Z.P d t = some b → ((∃ n, d.tn = some n ∧ m = .type n) ∨ ∃ c ds, d = .ins c ds ∧ m = .ref (Z.T.cA c)) → kitOne X.K m (t.u Z.T) = some b := by
    intro t b m h hm
    rcases hm with ⟨n, en, rfl⟩ | ⟨c, ds, rfl, rfl⟩
    · have hn := rel_tn d en
      cases t with
      | ty k =>
        have h' : (bif tyIs.contains k then some (n == k || (n == "bool" && k == "int")) else none) = some b := by
          cases d <;> simp only [D.tn] at en <;> first | (cases en; done) | (cases en; exact h)
        obtain ⟨hk, rfl⟩ := bif_some h'
        exact kit_ty (kit_all n hn k (by simpa using hk))
      | cl e =>
        simp only [isiT] at h
        cases hb : decide (e < Z.P.ncl) with
        | false => rw [hb] at h; cases h
        | true =>
          rw [hb] at h
          have h' : some false = some b := by
            cases d <;> simp only [D.tn] at en <;> first | (cases en; done) | (cases en; exact h)
          cases h'
          rw [z.hK]
          exact (z.own e (of_decide_eq_true hb)).isC n hn
    · cases t with
      | ty k =>
        obtain ⟨hk, rfl⟩ := bif_some h
        rw [Bool.and_eq_true] at hk
        rw [z.hK]
        exact (z.own c (of_decide_eq_true hk.1)).isO k (by simpa using hk.2)
      | cl e =>
        simp only [isiT] at h
        cases hb : decide (e < Z.P.ncl) with
        | false => rw [hb] at h; cases h
        | true =>
          rw [hb] at h
          obtain ⟨hc, rfl⟩ := bif_some h
          rw [z.hK]
          exact z.sub c e (of_decide_eq_true hc) (of_decide_eq_true hb)
  intro ts b h hne
  have typ : ∃ m, TyX X.K H v m ∧ ((∃ n, d.tn = some n ∧ m = .type n) ∨ ∃ c ds, d = .ins c ds ∧ m = .ref (Z.T.cA c)) := by
    cases ts with
    | nil => exact absurd rfl hne
    | cons t r =>
      simp only [isiAny] at h
      cases e : isiT Z.P d t with
      | none => rw [e] at h; cases h
      | some b' => exact one e
  obtain ⟨m, tm, hm⟩ := typ
  refine ⟨m, tm, ?_⟩
  clear hne
  induction ts generalizing b with
  | nil => cases h; rfl
  | cons t r ih =>
    simp only [isiAny] at h
    show kitAny X.K m (t.u Z.T :: r.map (Tn.u Z.T)) = some b
    unfold kitAny
    cases e : isiT Z.P d t with
    | none => rw [e] at h; cases h
    | some b' =>
      rw [e] at h
      rw [kit e hm]
      cases b' with
      | true => cases h; rfl
      | false => exact ih h
theorem kitOne_of {t u : Value} {b : Bool} {K : Frag} (h : kitAny K t [u] = some b) : kitOne K t u = some b := by
  unfold kitAny at h
  cases e : kitOne K t u with
  | none => rw [e] at h; cases h
  | some b' =>
    rw [e] at h
    cases b' with
    | true => exact h
    | false => exact h
theorem de_isi {x : Expr} {t : Tn} {p pos : Pos} (z : Sz Z us X) (hg : Gl X "isinstance") (hm : X.mg "isinstance" = none) (he : PE X e (tD Z G W ce)) (hx : PE X x (tC (t.v Z.T))) (hs1 : isStar e = false) (hs2 : isStar x = false) :
    PE X (.Call (.Name "isinstance" p) [e, x] [] pos) (tD Z G W (.isi ce [t])) :=
  (pe_callB call_isi hg hm (by decide +kernel) (pa_cons he (pa_cons hx pa_nil (starEach_plain hs2)) (starEach_plain hs1)) (by decide) (by decide) (starEach_plain hs1) (by rw [backTo_any]; simp [hs2])).imp fun σ H Q => by
    rintro ⟨F0, τ, s, q, h⟩
    refine ⟨F0, τ, s, q, h.bind fun d v τ1 s1 F1 H1 e1 q1 r1 h1 => ?_⟩
    obtain ⟨d2, ed, h1⟩ := h1.of
    obtain ⟨b, eb, rfl⟩ := map_some ed
    obtain ⟨tv, tt, kk⟩ := isi_z z q1 r1 eb (by simp)
    exact ⟨v, _, tv, _, b, rfl, t.rel Z.T, tt, kitOne_of kk, h1.ok q1 rfl⟩
/-- names of classes, for a tuple of them -/
inductive TnsZ (X : Cx) (T : Tb) : List Expr → List Tn → Prop
  | nil : TnsZ X T [] []
  | cons {x : Expr} {xs : List Expr} {t : Tn} {ts : List Tn} : isStar x = false → PE X x (tC (t.v T)) → TnsZ X T xs ts → TnsZ X T (x :: xs) (t :: ts)
theorem TnsZ.pa {T : Tb} : ∀ {xs : List Expr} {ts : List Tn}, TnsZ X T xs ts → PA X xs (fun _ H Q => Q (ts.map (Tn.v T)) H)
  | _, _, .nil => pa_nil.imp fun _ _ _ h => h
  | _, _, .cons hs hx hr => (pa_cons hx (TnsZ.pa hr) (starEach_plain hs)).imp fun _ _ _ h => h
theorem de_isiT {xs : List Expr} {ts : List Tn} {k : Nat} {p pos tpos : Pos} (z : Sz Z us X) (hg : Gl X "isinstance") (hm : X.mg "isinstance" = none) (he : PE X e (tD Z G W ce)) (hx : TnsZ X Z.T xs ts) (hs1 : isStar e = false) (hn : ts ≠ []) (hl : ts.length ≤ 100) :
    PE X (.Call (.Name "isinstance" p) [e, .Tuple xs k tpos] [] pos) (tD Z G W (.isi ce ts)) :=
  (pe_callB call_isiT hg hm (by decide +kernel) (pa_cons he (pa_cons (pe_tup hx.pa) pa_nil) (starEach_plain hs1)) (by decide) (by decide) (starEach_plain hs1) (by rw [backTo_any]; rfl)).imp fun σ H Q => by
    rintro ⟨F0, τ, s, q, h⟩
    refine ⟨F0, τ, s, q, h.bind fun d v τ1 s1 F1 H1 e1 q1 r1 h1 => ?_⟩
    obtain ⟨d2, ed, h1⟩ := h1.of
    obtain ⟨b, eb, rfl⟩ := map_some ed
    refine ⟨by rw [List.length_map, sizeLine_eq]; omega, fun n hn' => ?_⟩
    have q2 := q1.newU (o := .tup (ts.map (Tn.v Z.T))) hn'
    obtain ⟨tv, tt, kk⟩ := isi_z z q2 r1 eb hn
    exact ⟨v, n, _, tv, _, b, rfl, upd_same, Tn.rels Z.T ts, tt, kk, h1 (.bl b) _ F1 (Sub.refl _) q2 rfl⟩
end
end Rz
end

section
set_option autoImplicit false
set_option Elab.async false
set_option linter.all false
set_option maxRecDepth 100000
set_option maxHeartbeats 2000000
namespace Rz
open PySem L2 PySem.W PyProof.Rows

def Bi.nm : Bi → Str
  | .len => "len" | .abs => "abs" | .max => "max" | .min => "min" | .int => "int" | .bool => "bool" | .str => "str" | .repr => "repr" | .tuple => "tuple" | .list => "list" | .all => "all" | .any => "any" | .sum => "sum" | .sorted => "sorted"
def Bi.u : Bi → Value
  | .len => .builtin "len" | .abs => .builtin "abs" | .max => .builtin "max" | .min => .builtin "min" | .int => .type "int" | .bool => .type "bool" | .str => .type "str" | .repr => .builtin "repr" | .tuple => .type "tuple" | .list => .type "list" | .all => .builtin "all" | .any => .builtin "any" | .sum => .builtin "sum" | .sorted => .builtin "sorted"
theorem Bi.boot : ∀ b : Bi, bootBuiltins b.nm = some b.u := by intro b; cases b <;> decide +kernel
theorem Bi.notName : ∀ b : Bi, b.nm ≠ "__name__" := by intro b; cases b <;> decide +kernel
theorem Bi.notDebug : ∀ b : Bi, (b.nm == ("__debug__" : Str)) = false := by intro b; cases b <;> decide +kernel

mutual
theorem hasDict_of : ∀ p : PyData, p.canLay0 = true → p.hasDict = false
  | .none, _ => rfl
  | .bool _, _ => rfl
  | .int _, _ => rfl
  | .str _, _ => rfl
  | .list xs, h => by simp only [PyData.hasDict]; exact hasDictAll_of xs (by simpa [PyData.canLay0] using h)
  | .tuple xs, h => by simp only [PyData.hasDict]; exact hasDictAll_of xs (by simpa [PyData.canLay0] using h)
  | .dict _, h => by simp [PyData.canLay0] at h
theorem hasDictAll_of : ∀ ps : List PyData, PyData.canLayAll0 ps = true → PyData.hasDictAll ps = false
  | [], _ => rfl
  | p :: ps, h => by
    simp only [PyData.canLayAll0, Bool.and_eq_true] at h
    simp only [PyData.hasDictAll, hasDict_of p h.1, hasDictAll_of ps h.2, Bool.or_self]
end
section
variable {S : Type} [Pen S] {Z : Cz S} {us : List Str} {G : Fm} {F H : Hp} {σ : L2.St} {τ : List Slot} {s : S} {W : WX} {X : Cx} {pins : List (Addr × Obj)} {sh : Shared}
variable {a b c e : Expr} {ca cb cc ce : CE} {pos : Pos}

theorem RepL.inv1 {T : Tb} {d : D} {vs : List V} (r : RepL T F [d] vs) : ∃ v, vs = [v] ∧ Rep T F d v := by
  obtain ⟨v, t, e, h, h2⟩ := r
  cases h2
  exact ⟨v, e, h⟩
theorem RepL.inv2 {T : Tb} {d d' : D} {vs : List V} (r : RepL T F [d, d'] vs) : ∃ v v', vs = [v, v'] ∧ Rep T F d v ∧ Rep T F d' v' := by
  obtain ⟨v, t, e, h, h2⟩ := r
  obtain ⟨v', rfl, h3⟩ := h2.inv1
  exact ⟨v, v', e, h, h3⟩
theorem allB_v {T : Tb} : ∀ {ds : List D} {bs : List Bool} {vs : List V}, allB ds = some bs → RepL T F ds vs → vs = bs.map V.bl
  | [], bs, vs, h, r => by cases h; cases r; rfl
  | d :: ds, bs, vs, h, ⟨v, t, e, h1, h2⟩ => by
    cases d with
    | bl b =>
      obtain ⟨cs, ec, rfl⟩ := map_some h
      cases h1
      rw [e, allB_v ec h2]; rfl
    | _ => cases h
theorem allI_v {T : Tb} : ∀ {ds : List D} {bs : List Int} {vs : List V}, allI ds = some bs → RepL T F ds vs → vs = bs.map V.int
  | [], bs, vs, h, r => by cases h; cases r; rfl
  | d :: ds, bs, vs, h, ⟨v, t, e, h1, h2⟩ => by
    cases d with
    | int b =>
      obtain ⟨cs, ec, rfl⟩ := map_some h
      cases h1
      rw [e, allI_v ec h2]; rfl
    | _ => cases h

theorem reprD_z {d z' : D} {v : V} {w : Value} {Q : VK} (z : Sz Z us X) (hg : X.A.guards = some []) (hr : ∃ ds, d = .lst ds ∨ d = .tup ds) (I : Inv X pins σ H sh) (q : SR Z.T Z.pn G F H σ τ s) (r : Rep Z.T F d v) (rv : RelV v w) (e : reprD d = some z') (h : Post Z G (Rep Z.T) F σ Q W (.ok z' τ s)) :
    wpAny (model X.prog X.w) X.A (call (.builtin "repr") [w]) (EP X pins σ Q) X.xe sh := by
  unfold reprD at e
  cases hb : d.plain && decide (d.deep ≤ 20) with
  | false => rw [hb] at e; cases e
  | true =>
    rw [hb] at e
    rw [Bool.and_eq_true, decide_eq_true_eq] at hb
    obtain ⟨p, e1, e2, e3, e4⟩ := rep_dp (K := X.K) z.hK q.fh d v hb.1 r
    rw [e1] at e
    obtain ⟨hl, rfl⟩ := bif_some e
    rw [Bool.and_eq_true] at hl
    obtain ⟨as, rd⟩ := Dp.reads I p v w e2 rv
    have nd : p.hasDict = false := by
      have := e3
      clear rd e e1 e2 e4 h hl
      exact hasDict_of p this
    obtain ⟨ad, rfl⟩ : ∃ ad, w = .ref ad := by
      obtain ⟨ds, rfl | rfl⟩ := hr
      · obtain ⟨ad, _, rfl, _⟩ := r; exact ⟨ad, rv⟩
      · obtain ⟨ad, _, rfl, _⟩ := r; exact ⟨ad, rv⟩
    have hu := z.hu
    refine repr_of_reads' (h₀ := sh.heap) rd hl.1 (fun z => by rw [nd] at z; cases z) hg (by rw [e4]; omega) (fun b o e => e) (fun h' u tk hk => ?_) (lim_size hl.2)
    exact ⟨.str p.shown, H, I.kept hk, ⟨u, rfl⟩, h.ok q rfl⟩

theorem biD_z {b : Bi} {xs : List D} {d : D} {vs : List V} {ws : List Value} {Q : VK} (z : Sz Z us X) (hc : X.calm = true) (hg : X.A.guards = some []) (I : Inv X pins σ H sh) (q : SR Z.T Z.pn G F H σ τ s) (r : RepL Z.T F xs vs) (rv : Vals vs ws) (e : biD b xs = some d) (h : Post Z G (Rep Z.T) F σ Q W (.ok d τ s)) :
    wpAny (model X.prog X.w) X.A (call b.u ws) (EP X pins σ Q) X.xe sh := by
  have sqT : ∀ {p : Addr} {vs : List V}, SqT Z.T.K F p vs → SqT X.K H p vs := fun h => by rw [z.hK]; exact q.fh.sqT h
  have sqL : ∀ {p : Addr} {vs : List V}, F p = some (.lst vs) → SqL X.K H p vs := fun h => SqL.of (q.fh _ _ h)
  unfold biD at e
  split at e
  · -- len of a list
    obtain ⟨v, rfl, p, vs', rfl, hF, rl⟩ := r.inv1
    cases e
    exact call_len_seq pins sh σ H _ ws Q I rv ⟨p, vs', rfl, .inl (sqL hF), by rw [rl.length]; exact h.ok q rfl⟩
  · obtain ⟨v, rfl, p, vs', rfl, hF, rl⟩ := r.inv1
    cases e
    exact call_len_seq pins sh σ H _ ws Q I rv ⟨p, vs', rfl, .inr (sqT hF), by rw [rl.length]; exact h.ok q rfl⟩
  · obtain ⟨v, rfl, hv⟩ := r.inv1
    cases hv
    obtain ⟨hl, rfl⟩ := bif_some e
    exact call_len_str pins sh σ H _ ws Q I rv ⟨_, rfl, lim_size hl, h.ok q rfl⟩
  · obtain ⟨v, rfl, p, vs', rfl, hF, hl, rl⟩ := r.inv1
    cases e
    refine call_lenD pins sh σ H _ ws Q I rv ⟨p, _, rfl, q.fh _ _ hF, ?_⟩
    rw [List.length_zip, rl.length, ← hl, Nat.min_self]
    exact h.ok q rfl
  · obtain ⟨v, rfl, hv⟩ := r.inv1
    cases hv; cases e
    exact call_abs pins sh σ H _ ws Q I rv ⟨_, rfl, h.ok q rfl⟩
  · obtain ⟨v, v', rfl, hv, hv'⟩ := r.inv2
    cases hv; cases hv'; cases e
    exact call_max2 hc pins sh σ H _ ws Q I rv ⟨_, _, rfl, h.ok q rfl⟩
  · obtain ⟨v, v', rfl, hv, hv'⟩ := r.inv2
    cases hv; cases hv'; cases e
    exact call_min2 hc pins sh σ H _ ws Q I rv ⟨_, _, rfl, h.ok q rfl⟩
  · obtain ⟨v, rfl, hv⟩ := r.inv1
    cases hv; cases e
    exact call_int1 pins sh σ H _ ws Q I rv (.inl ⟨_, rfl, h.ok q rfl⟩)
  · obtain ⟨v, rfl, hv⟩ := r.inv1
    cases hv; cases e
    exact call_int1 pins sh σ H _ ws Q I rv (.inr ⟨_, rfl, h.ok q rfl⟩)
  · obtain ⟨v, rfl, hv⟩ := r.inv1
    cases hv; cases e
    exact call_bool1 pins sh σ H _ ws Q I rv (.inl ⟨_, rfl, h.ok q rfl⟩)
  · obtain ⟨v, rfl, hv⟩ := r.inv1
    cases hv; cases e
    exact call_bool1 pins sh σ H _ ws Q I rv (.inr ⟨_, rfl, h.ok q rfl⟩)
  · obtain ⟨v, rfl, hv⟩ := r.inv1
    cases hv
    obtain ⟨hl, rfl⟩ := bif_some e
    have hl' := of_decide_eq_true hl
    exact call_str_int pins sh σ H _ ws Q I rv ⟨_, rfl, by omega, h.ok q rfl⟩
  · obtain ⟨v, rfl, hv⟩ := r.inv1
    cases hv; cases e
    exact SkE.call_str_str pins sh σ H _ ws Q I rv ⟨_, rfl, h.ok q rfl⟩
  · obtain ⟨v, rfl, p, vs', rfl, hF, rl⟩ := r.inv1
    cases e
    exact call_tuple_of pins sh σ H _ ws Q I rv ⟨p, vs', rfl, .inr ⟨sqT hF, h.ok q ⟨p, vs', rfl, hF, rl⟩⟩⟩
  · obtain ⟨v, rfl, p, vs', rfl, hF, rl⟩ := r.inv1
    cases e
    refine call_tuple_of pins sh σ H _ ws Q I rv ⟨p, vs', rfl, .inl ⟨sqL hF, fun n hn => ?_⟩⟩
    have nF := q.fh.none hn
    exact h _ _ _ (Sub.new nF) (q.new hn) ⟨n, _, rfl, SqT.of upd_same, rl.mono (Sub.new nF)⟩
  · obtain ⟨v, rfl, p, vs', rfl, hF, rl⟩ := r.inv1
    cases e
    refine call_list_of pins sh σ H _ ws Q I rv ⟨p, vs', rfl, .inr (sqT hF), fun n hn => ?_⟩
    have nF := q.fh.none hn
    exact h _ _ _ (Sub.new nF) (q.new hn) ⟨n, _, rfl, upd_same, rl.mono (Sub.new nF)⟩
  · obtain ⟨v, rfl, p, vs', rfl, hF, rl⟩ := r.inv1
    cases e
    refine call_list_of pins sh σ H _ ws Q I rv ⟨p, vs', rfl, .inl (sqL hF), fun n hn => ?_⟩
    have nF := q.fh.none hn
    exact h _ _ _ (Sub.new nF) (q.new hn) ⟨n, _, rfl, upd_same, rl.mono (Sub.new nF)⟩
  · obtain ⟨v, rfl, p, vs', rfl, hF, rl⟩ := r.inv1
    obtain ⟨bs, eb, rfl⟩ := map_some e
    exact cr_all hc pins sh σ H _ ws Q I rv ⟨p, bs, rfl, by rw [← allB_v eb rl]; exact sqL hF, h.ok q rfl⟩
  · obtain ⟨v, rfl, p, vs', rfl, hF, rl⟩ := r.inv1
    obtain ⟨bs, eb, rfl⟩ := map_some e
    exact cr_any hc pins sh σ H _ ws Q I rv ⟨p, bs, rfl, by rw [← allB_v eb rl]; exact sqL hF, h.ok q rfl⟩
  · obtain ⟨v, rfl, p, vs', rfl, hF, rl⟩ := r.inv1
    obtain ⟨bs, eb, rfl⟩ := map_some e
    exact cr_sum hc pins sh σ H _ ws Q I rv ⟨p, bs, rfl, by rw [← allI_v eb rl]; exact sqL hF, h.ok q rfl⟩
  · obtain ⟨v, rfl, hv⟩ := r.inv1
    cases rv with
    | cons r1 r2 => cases r2; exact reprD_z z hg ⟨_, .inl rfl⟩ I q hv r1 e h
  · obtain ⟨v, rfl, hv⟩ := r.inv1
    cases rv with
    | cons r1 r2 => cases r2; exact reprD_z z hg ⟨_, .inr rfl⟩ I q hv r1 e h
  · cases e

theorem de_bi {bi : Bi} {x : Str} {es : List Expr} {cs : CAs} {p : Pos} (z : Sz Z us X) (hc : X.calm = true) (hx : bi.nm = x) (hg : Gl X x) (hm : X.mg x = none) (hne : es ≠ []) (ha : ArgsZ Z G W X es cs) (hs : es.any isStar = false) :
    PE X (.Call (.Name x p) es [] pos) (tD Z G W (.bi bi cs)) := by
  subst hx
  cases es with
  | nil => exact absurd rfl hne
  | cons e es =>
    rw [List.any_cons, Bool.or_eq_false_iff] at hs
    refine ⟨fun pins sh σ H Q I h => ?_⟩
    obtain ⟨F0, τ, s, q, h⟩ := h
    refine wpAny_Call_Name_kw (ld_blt I hg hm bi.boot ?_ bi.notName bi.notDebug)
    have run := (ha.pa z.hK).run pos pins sh σ H (fun vs H1 => ∃ F τ s ds d, SR Z.T Z.pn G F H1 σ τ s ∧ RepL Z.T F ds vs ∧ biD bi ds = some d ∧ Post Z G (Rep Z.T) F σ Q W (.ok d τ s)) I
      ⟨F0, τ, s, q, h.bind fun ds vs τ1 s1 F1 H1 e1 q1 r1 h1 => by obtain ⟨d, ed, h1⟩ := h1.of; exact ⟨F1, τ1, s1, ds, d, q1, r1, ed, h1⟩⟩
    obtain ⟨_, _, hgd, _⟩ := z.fz 0
    have go : ∀ ws s1, AP X pins σ (fun vs H1 => ∃ F τ s ds d, SR Z.T Z.pn G F H1 σ τ s ∧ RepL Z.T F ds vs ∧ biD bi ds = some d ∧ Post Z G (Rep Z.T) F σ Q W (.ok d τ s)) ws s1 → wpAny (model X.prog X.w) X.A (call bi.u ws) (EP X pins σ Q) X.xe s1 := by
      rintro ws s1 ⟨vs, H1, I1, rv, F, τ, s, ds, d, q, r, ed, h⟩
      exact biD_z z hc hgd I1 q r rv ed h
    have st := starEach_plain (es := es) (env := X.env) hs.1
    have an : (backTo pos (starEach es X.env)).any (·.1) = false := by rw [backTo_any]; exact hs.2
    cases bi with
    | len => exact callWith_builtin1 (thn run go) st an
    | abs => exact callWith_builtin1 (thn run go) st an
    | max => exact callWith_builtin1 (thn run go) st an
    | min => exact callWith_builtin1 (thn run go) st an
    | repr => exact callWith_builtin1 (thn run go) st an
    | all => exact callWith_builtin1 (thn run go) st an
    | any => exact callWith_builtin1 (thn run go) st an
    | sum => exact callWith_builtin1 (thn run go) st an
    | sorted => exact callWith_builtin1 (thn run go) st an
    | int => exact callWith_type1 (thn run go) st an
    | bool => exact callWith_type1 (thn run go) st an
    | str => exact callWith_type1 (thn run go) st an
    | tuple => exact callWith_type1 (thn run go) st an
    | list => exact callWith_type1 (thn run go) st an
end
end Rz
end

section
set_option autoImplicit false
set_option Elab.async false
set_option linter.all false
set_option maxHeartbeats 1000000
set_option maxRecDepth 100000
namespace Rz
open PySem PySem.Spec PyProof.Rows L2

/-! ### enumerate of a tuple -/
theorem meets_enumB {v : Value} {o : Obj} {H : Heap → Prop} (B : Begins v o H) :
    Meets (Builtin.«enumerate.__new__» ⟨[.type "enumerate", v], []⟩) (fun _ R s => H s.heap ∧
      R (.ok (.ret (.ref (s.heap.push o).objs.size))) { s with heap := (s.heap.push o).push { cls := .type "enumerate", data := .fields #[.none, .bool false, .ref s.heap.objs.size, rawInt 0, .none, .none] } }) :=
  .of_wp fun prog w A R s h => by
    obtain ⟨hp, g, d, tk, os⟩ := s; obtain ⟨h1, h⟩ := h
    have hsub := sub_enumerate
    have q1 : ∀ {A' : Around} {E : Value → Shared → Prop} {Q : Value → Shared → Prop}, Q (.ref hp.objs.size) ⟨hp.push o, g, d, tk, os⟩ → wpAny (model prog w) A' (pyIter v) Q E ⟨hp, g, d, tk, os⟩ :=
      fun q => B.iter prog w _ _ ⟨hp, g, d, tk, os⟩ _ h1 q
    wp_walk using q1
    refine wpAny_stack_any fun st => wpAny_pure ?_
    split
    · rename_i c _ _ _ _ _
      cases (c == Value.type "enumerate")
      · wp_walk using q1
        exact ⟨_, rfl, h⟩
      · wp_walk using q1
        exact ⟨_, rfl, h⟩
    · wp_walk using q1
      exact ⟨_, rfl, h⟩
section
variable {prog : Program} {w : World} {A : Around} {E : Value → Shared → Prop} {s : Shared}
theorem call_enumB {v : Value} {o : Obj} {H : Heap → Prop} {Q : Value → Shared → Prop} (B : Begins v o H) (h1 : H s.heap)
    (h : ∀ h', IsEnum h' (s.heap.objs.size + 1) s.heap.objs.size 0 .none → h'.get? s.heap.objs.size = some o → h'.objs.size = s.heap.objs.size + 2 →
      (∀ b o, s.heap.get? b = some o → h'.get? b = some o) → Q (.ref (s.heap.objs.size + 1)) { s with heap := h' }) :
    wpAny (model prog w) A (call (.type "enumerate") [v]) Q E s := by
  refine callType_new F.called_enumerate (by decide) (F.typeCall_enumerate_1 _) (F.newCall_enumerate_1 _) (fun obj => F.args_object_init_2 obj _) F.entry_enumerate_new
    (meets_enumB B) ⟨h1, ?_⟩
  have hz : (s.heap.push o).objs.size = s.heap.objs.size + 1 := Heap.size_push ..
  show _ ∧ _
  rw [hz]
  have he : IsEnum ((s.heap.push o).push { cls := .type "enumerate", data := .fields #[.none, .bool false, .ref s.heap.objs.size, rawInt 0, .none, .none] }) (s.heap.objs.size + 1) s.heap.objs.size 0 .none := by
    have := Heap.get?_push_size (s.heap.push o) (o := { cls := .type "enumerate", data := .fields #[.none, .bool false, .ref s.heap.objs.size, rawInt 0, .none, .none] }) rfl
    rw [hz] at this; exact this
  refine ⟨⟨_, he, rfl⟩, h _ he (Heap.get?_push_of_some _ (Heap.get?_push_size _ B.free)) (by rw [Heap.size_push, hz]) fun b o x => Heap.get?_push_of_some _ (Heap.get?_push_of_some _ x)⟩
end

def IteT (K : PySem.W.Frag) (a : Addr) : It :=
  ⟨fun i H => ∃ (xs : List V) (x : V), SqT K H a xs ∧ xs[i]? = some x, fun i H v H' => ∃ T x, v = .ref T ∧ H T = none ∧ H' = upd H T (.tup [.int (i : Nat), x]) ∧ ∀ xs, SqT K H a xs → xs[i]? = some x, fun i H => ∃ xs : List V, SqT K H a xs ∧ xs.length ≤ i⟩
theorem turn_enumT {P : Program} {w : World} {K : PySem.W.Frag} {elts : List Expr} {kk : Nat} {tpos : Pos} (a e it : Addr) (hea : e ≠ a) (hia : a ≠ it) :
    Turn P w K (.Tuple elts kk tpos) (IteT K a) [e, it] e (fun i h => (∃ old, IsEnum h e it ((i : Nat) : Int) old) ∧ h.IsTupleIter it a i ∧ e ≠ it) where
  mem := by simp
  obj := fun i h st b hb => by
    obtain ⟨⟨old, he⟩, ⟨o, ho, hc, hd⟩, _⟩ := st
    have e' : b = e ∨ b = it := by simpa using hb
    rcases e' with z | z
    · rw [z]; exact ⟨_, he, fun v q => nomatch q⟩
    · rw [z]; exact ⟨o, ho, fun v q => by rw [hd] at q; cases q⟩
  keep := fun i h h' st k => let ⟨⟨old, he⟩, hi, hne⟩ := st; ⟨⟨old, k e (by simp) _ he⟩, hi.at fun o q => k it (by simp) o q, hne⟩
  item := by
    intro X hP hw hK hc i pins s σ H E I hf st hg
    subst hP hw hK
    obtain ⟨⟨old, he⟩, hit, hne⟩ := st
    obtain ⟨xs, x, hq, hx⟩ := hg
    obtain ⟨its, rv, p, hz⟩ := I.tuple hq
    obtain ⟨u, hu, ru⟩ := rv.get hx
    have hel : e < s.heap.objs.size := Heap.lt_size he
    have hil : it < s.heap.objs.size := by obtain ⟨_, q, _⟩ := hit; exact Heap.lt_size q
    have hlt : i < its.toArray.size := by
      obtain ⟨z, _⟩ := List.getElem?_eq_some_iff.mp hu
      simpa using z
    have p2 : s.heap.IsTuple a its.toArray := p
    refine wpAny_pyNext_enum_itemD (Draws.tuple (prog := X.prog) (w := X.w) (A := X.A.in1) (I.ok.hd hc) it a hia its.toArray) he ⟨hit, p2⟩ hlt hne (by simp [hne, hea]) fun y h' tk hy ho st' hT hsz hk => ?_
    have ey : y = u := by
      have : its.toArray[i]? = some u := by simpa using hu
      rw [this] at hy; exact (Option.some.inj hy).symm
    subst ey
    refine ⟨_, rfl, wpAny_letOwnedTupleGo_enum (s := { s with heap := h', toks := tk + 1 }) ho fun h'' he' sb => ?_⟩
    have hT2 : h''.get? s.heap.objs.size = some { cls := .type "tuple", data := .seq #[.int i tk, y] } := (sb.2 _ (Nat.ne_of_gt hel)).trans hT
    have new : ObjOk X.prog X.w (upd H s.heap.objs.size (.tup [.int (i : Nat), x])) h'' s.heap.objs.size (.tup [.int (i : Nat), x]) :=
      ⟨by show 2 ≤ sizeLine; decide, [.int i tk, y], .cons ⟨_, rfl⟩ (.cons ru .nil), ⟨_, hT2, rfl, _, rfl⟩⟩
    have I1 : Inv X pins σ (upd H s.heap.objs.size (.tup [.int (i : Nat), x])) { s with heap := h'', toks := tk + 1 } :=
      I.turnedNew (ch := [e, it]) (fun b ob hb q => (sb.2 b (fun z => hb (by simp [z]))).trans (hk b ob (fun z => hb (by simp [z])) (fun z => hb (by simp [z])) q)) hf (Nat.le_refl _) new
    refine ⟨.ref s.heap.objs.size, _, I1, rfl, ⟨_, x, rfl, I.hok.fresh (Nat.le_refl _), rfl, fun ys hy => by rw [I.tuple_inj hy hq]; exact hx⟩, ⟨⟨y, ?_⟩, st'.1.at fun o q => (sb.2 it (Ne.symm hne)).trans q, hne⟩, fun b hb => ?_⟩
    · have e1 : ((i + 1 : Nat) : Int) = (i : Int) + 1 := by omega
      rw [e1]; exact he'
    · have hb' : b < s.heap.objs.size := by
        have e' : b = e ∨ b = it := by simpa using hb
        rcases e' with z | z
        · rw [z]; exact hel
        · rw [z]; exact hil
      rw [upd_ne (Nat.ne_of_lt hb')]
      exact (hf b hb).1
  done := by
    intro X hP hw hK hc i pins s σ H E I hf st hg
    subst hP hw hK
    obtain ⟨⟨old, he⟩, hit, hne⟩ := st
    obtain ⟨xs, hq, hx⟩ := hg
    obtain ⟨its, rv, p, hz⟩ := I.tuple hq
    obtain ⟨f0, f1, f2, f3, f4, f5⟩ := hf it (by simp)
    have hl := rv.length
    have p2 : s.heap.IsTuple a its.toArray := p
    have hT : s.TypeIs (.ref e) "enumerate" := ⟨_, he, rfl⟩
    unfold pyNext
    refine wpAny_bind (wpAny_attempt (wpAny_callSpecial?_slot (name := Str.ofString "__next__") hT F.slot_enumerate_next
      (wpAny_call_entry F.slot_enumerate_next hT F.entry_enumerate_next ?_ (F.args_enumerate_next_1 _))))
    show wpAny _ _ (field (.ref e) 2 >>= _) _ _ _
    refine wpAny_bind (wpAny_field he rfl (x := .ref it) rfl ?_)
    refine wpAny_bind (wpAny_nextOf_tuple_end (I.ok.hd hc) hit p2 (by simp; omega) fun h' x he' hx' => ?_)
    obtain ⟨o, ho, hcc⟩ := hx'
    refine wpAny_bind (wpAny_isInstance (T := "StopIteration") (b := true) ⟨o, ho, hcc⟩ isSubtype_stop ?_)
    exact wpAny_pure ⟨rfl, I.turned (t' := s.toks) (fun b o hb q => he' b o hb q) f0 f1 f3 f4 f5⟩
  self := fun A i s Q E st h => let ⟨⟨_, he⟩, _⟩ := st; wpAny_pyIter_enum he h
def iEnumA (K : PySem.W.Frag) (ta : TA) : TI := fun σ H R => ta σ H fun vs H1 => ∃ a xs, vs = [.ref a] ∧ ((SqL K H1 a xs ∧ R (Ite K a) H1) ∨ (SqT K H1 a xs ∧ R (IteT K a) H1))
theorem pi_enumA {X : Cx} {e : Expr} {ta : TA} {p pos tpos : Pos} {elts : List Expr} {kk : Nat} (hg : Gl X "enumerate") (hm : X.mg "enumerate" = none) (ha : PA X [e] ta) (hs : starEach [e] X.env = [(false, eval e X.env)]) :
    PI X (.Tuple elts kk tpos) (.Call (.Name "enumerate" p) [e] [] pos) (iEnumA X.K ta) := by
  refine ⟨fun pins s σ H R I h => ?_⟩
  refine Call_ (ld_blt I hg hm boot_enumerate (PyProof.Rows.callWith_type1 (thn (ha.run pos pins s σ H _ I h) fun us s1 ⟨vs, H1, I1, r1, q1⟩ => ?_) hs rfl))
  obtain ⟨a, xs, ex, q1⟩ := q1
  subst ex
  cases r1 with
  | cons r rr =>
    cases rr
    cases r
    have fresh : ∀ b ∈ [s1.heap.objs.size + 1, s1.heap.objs.size], FpOk X pins H1 b := fun b hb => by
      have e' : b = s1.heap.objs.size + 1 ∨ b = s1.heap.objs.size := by simpa using hb
      have hle : s1.heap.objs.size ≤ b := by
        rcases e' with z | z
        · rw [z]; exact Nat.le_add_right _ _
        · rw [z]; exact Nat.le_refl _
      exact I1.fpOk hle (I1.hok.fresh hle)
    rcases q1 with ⟨hq, q⟩ | ⟨hq, q⟩
    · obtain ⟨its, rv, p', hz⟩ := I1.list hq
      refine call_enumerate_list p'.isList fun h' he hit hsz hk => wpAny_pyIter_enum he ?_
      have I2 : Inv X pins σ H1 { s1 with heap := h' } := I1.kept (t' := s1.toks) hk
      exact ⟨s1.heap.objs.size + 1, [s1.heap.objs.size + 1, s1.heap.objs.size], _, _, H1, rfl, I2, turn_enum a (s1.heap.objs.size + 1) s1.heap.objs.size, ⟨⟨.none, he⟩, hit, Nat.succ_ne_self _⟩, fresh, q⟩
    · obtain ⟨its, rv, p', hz⟩ := I1.tuple hq
      have p2 : s1.heap.IsTuple a its.toArray := p'
      have hal : a < s1.heap.objs.size := by obtain ⟨o, ho, _⟩ := id p2; exact Heap.lt_size ho
      refine call_enumB (begins_tuple a its.toArray) p2 fun h' he hit hsz hk => wpAny_pyIter_enum he ?_
      have I2 : Inv X pins σ H1 { s1 with heap := h' } := I1.kept (t' := s1.toks) hk
      exact ⟨s1.heap.objs.size + 1, [s1.heap.objs.size + 1, s1.heap.objs.size], _, _, H1, rfl, I2, turn_enumT a (s1.heap.objs.size + 1) s1.heap.objs.size (Nat.ne_of_gt (Nat.lt_succ_of_lt hal)) (Nat.ne_of_lt hal), ⟨⟨.none, he⟩, ⟨_, hit, rfl, rfl⟩, Nat.succ_ne_self _⟩, fresh, q⟩
end Rz
end

section
set_option autoImplicit false
set_option Elab.async false
set_option linter.all false
set_option maxHeartbeats 1000000
set_option maxRecDepth 100000
namespace Rz
open PySem PySem.Spec PySem.W PyProof.Rows L2

section
variable {S : Type} [Pen S] {Z : Cz S} {us : List Str} {G : Fm} {F H : Hp} {σ : L2.St} {τ : List Slot} {s : S} {W : WX} {X : Cx} {pins : List (Addr × Obj)} {sh : Shared}
variable {a b c e : Expr} {ca cb cc ce : CE} {pos : Pos}
theorem Room.in2 {k : Nat} {A : Around} (r : Room (k + 1) A) : Room k A.in1.in1 := ⟨r.hd, by have := r.dp; show A.depth + 3 * k + 5 < _; omega, by have := r.un; show A.units + 1 + 1 + 16 * k + 200 < _; omega⟩
theorem env0_in {P : Program} {w : World} {K : Frag} {mg : Str → Option Value} {base : Heap} {A A' : Around} {outer : List Env} {s : Shared} {H : Hp} (e : Env0 P w K mg base A outer s H) (h : A'.frames = A.frames) : Env0 P w K mg base A' outer s H :=
  ⟨h.trans e.frames, e.mod, e.bs, e.bsz, e.funs, e.frf, e.hok, e.bare⟩
/-- a def of the table run a little deeper -/
theorem run_zA {A' : Around} {f : Nat} {Q : VK} {ws : List Value} {vs : List V} (F : FnZ Z X f) (hA : ∀ k, Room (k + 1) X.A → Room k A') (hg : A'.guards = X.A.guards) (hf : A'.frames = X.A.frames) (tk : Takes X W) (I : Inv X pins σ H sh) (r : Vals vs ws) (h : spF Z f vs H Q (fun c d H' => W c d σ H')) :
    codeAny (model X.prog X.w) A' (.call (.ref (Z.T.fA f)) ⟨ws, []⟩) (fun r s' => match r with | .ok (.ret v) => EP X pins σ Q v s' | .ok _ => False | .error e => X.xe e s') sh := by
  obtain ⟨k, hr, hg0, F⟩ := F
  refine codeAny_mono (F A' X.stack sh H ws vs Q _ (hA k hr) (hg.trans hg0) (env0_in I.env0 hf) r h _ ArgAs.rfl) fun r s' hq => ?_
  cases r with
  | error e => exact tk e s' (XE.of_call I (fun cls d H' z => z) hq)
  | ok fl =>
    cases fl with
    | ret u => exact I.after hq
    | next => exact False.elim hq
    | brk => exact False.elim hq
    | cont => exact False.elim hq

/-! ### an instance called -/
theorem de_callO {fe : Expr} {co : CE} {es : List Expr} {cs : CAs} (z : Sz Z us X) (hfi : ∀ c f, Z.P.meth c mCall = some f → fnIn Z.T.K (Z.T.fA f) = true) (tk : Takes X W) (hf : PE X fe (tD Z G W co)) (hne : es ≠ []) (ha : ArgsZ Z G W X es cs) (hs : es.any isStar = false)
    (ht : eval (.Call fe es [] pos) X.env = (do callWith pos (← eval fe X.env) [] (backTo pos (starEach es X.env)) (backToKw pos (keywordEach [] X.env)))) : PE X (.Call fe es [] pos) (tD Z G W (.callO co cs)) := by
  cases es with
  | nil => exact absurd rfl hne
  | cons e es =>
    rw [List.any_cons, Bool.or_eq_false_iff] at hs
    refine ⟨fun pins sh σ H Q I h => ?_⟩
    obtain ⟨F0, τ, s, q, h⟩ := h
    simp only [ev] at h
    refine Call_ (thn (hf.run pins sh σ H (fun v H1 => ∃ F τ s c ds f, SR Z.T Z.pn G F H1 σ τ s ∧ Rep Z.T F (.ins c ds) v ∧ Z.P.meth c mCall = some f ∧ Post Z G (Rep Z.T) F σ Q W ((evA Z.P Z.call Z.make cs τ s).bind fun xs τ s => (Z.call f (.ins c ds :: xs) s).out τ)) I
      ⟨F0, τ, s, q, h.bind fun x v τ1 s1 F1 H1 e1 q1 r1 h1 => ?_⟩) fun u s1 ⟨v, H1, I1, rx, F1, τ1, s1', c, ds, f, q1, r1, ef, h1⟩ => ?_) ht
    · cases x with
      | ins c ds =>
        simp only at h1
        cases ef : Z.P.meth c mCall with
        | none => rw [ef] at h1; exact h1.elim
        | some f => rw [ef] at h1; exact ⟨F1, τ1, s1, c, ds, f, q1, r1, ef, h1⟩
      | _ => exact h1.elim
    · obtain ⟨p, dx, vs0, rfl, hF, hl, rl⟩ := r1
      obtain rfl : u = Value.ref p := rx
      have run := (ha.pa z.hK).run pos pins s1 σ H1 (fun vs H2 => ∃ F2, F2 p = some (.ins (Z.T.cA c) dx ((Z.T.fld c).zip vs0)) ∧ Sub F2 H2 ∧ spF Z f (.ref p :: vs) H2 Q (fun c d H' => W c d σ H')) I1
        ⟨F1, τ1, s1', q1, h1.bind fun xs vs τ2 s2 F2 H2 e2 q2 r2 h2 => ⟨F2, e2 _ _ hF, q2.fh, spF_of q2 (RepL.cons (d := .ins c ds) ⟨p, dx, vs0, rfl, e2 _ _ hF, hl, rl.mono e2⟩ r2) h2⟩⟩
      refine StX.callO_with (thn run fun ws s2 ⟨vs, H2, I2, rv, F2, hF2, fh, hq⟩ => ?_) (starEach_plain hs.1) (by rw [backTo_any]; exact hs.2)
      obtain ⟨ox, od, J, hd⟩ := StX.insC_at (C := Z.T.cA c) I2 (.inr ⟨dx, _, fh _ _ hF2⟩)
      refine ⟨⟨_, ox, od, J, hd⟩, ?_⟩
      obtain ⟨ck, mt, _⟩ := z.meth c mCall f ef
      rw [← z.hK] at mt
      have hfi' := hfi c f ef
      rw [← z.hK] at hfi'
      exact wpAny_call (kco_code I2.kIn J hd mt.at_ mt.fn hfi' (run_z (us := .ref p :: ws) (vs := .ref p :: vs) (z.fz f) tk I2 (.cons rfl rv) hq))

/-! ### bool(x), str(x) -/
theorem call_bool_truthy {prog : Program} {w : World} {A : Around} {E : Value → Shared → Prop} {s : Shared} {v : Value} {Q : Value → Shared → Prop} (h : wpAny (model prog w) A.in1.in1 (truthy v) (fun b s1 => Q (.bool b) s1) E s) : wpAny (model prog w) A (call (.type "bool") [v]) Q E s := by
  refine callType_codes (T := "bool") (Bi := Builtin.«object.__init__») (Q₁ := fun r s₁ => ∃ b, r = .bool b ∧ Q r s₁) PySem.F.called_bool (PySem.F.typeCall_bool_1 _) PySem.F.entry_object_init ?_ ?_
  · refine codeAny_of_tree ?_
    show wpAny _ A.in1.in1 (do checkBuiltinCall "bool.__new__" ⟨[.type "bool", v], []⟩; again (.builtin "bool.__new__" ⟨[.type "bool", v], []⟩)) _ _ s
    refine wpAny_bind (wpAny_of_eq (PySem.F.newCall_bool_1 _) (wpAny_pure ⟨plainId_quiet (by decide +kernel) _, codeAny_builtin PySem.F.entry_bool_new ?_⟩))
    rw [Around.under_plainId (by decide +kernel) _]
    obtain ⟨hp, g, d, tk, os⟩ := s
    have f1 := PySem.F.conv_sub_bool
    repeat (any_goals (first | assumption | (with_reducible refine wpAny_mono h ?_ ?_) | wp_step))
    · exact fun a s q => wpAny_pure ⟨a, rfl, q⟩
    · exact fun e s z => z
  · rintro obj s₁ ⟨b, rfl, hq⟩
    exact ⟨rfl, PySem.F.args_object_init_2 _ _, object_init_meets PySem.F.called_bool.init.lookup PySem.F.called_bool.made (by decide) prog w A.in1 _ s₁ ⟨rfl, rfl, hq⟩⟩
theorem inv_at {A' : Around} (I : Inv X pins σ H sh) (hh : A'.handled = X.A.handled) (hf : A'.frames = X.A.frames) : Inv { X with A := A' } pins σ H sh := by
  obtain ⟨ok, os, bare, base, loc, cell, free, freeC, pin, hok, len⟩ := I
  obtain ⟨o1, o2, o3, o4, o5, o6, o7, o8, o9, o10, o11, o12, o13, o14, o15, o16, o17, o18⟩ := ok
  exact ⟨⟨o1, o2, o3, o4, o5, o6, o7, o8, fun e => hh.trans (o9 e), hf.trans o10, o11, o12, o13, o14, o15, o16, o17, o18⟩, os, bare, base, loc, cell, free, freeC, pin, hok, len⟩
theorem truV_zA {A' : Around} {x : D} {v : V} {u : Value} {Q : Bool → Hp → Prop} (z : Sz Z us X) (hA : ∀ k, Room (k + 1) X.A → Room k A') (hg : A'.guards = X.A.guards) (hh : A'.handled = X.A.handled) (hf : A'.frames = X.A.frames) (tk : Takes X W) (I : Inv X pins σ H sh) (rx : RelV v u) (q : SR Z.T Z.pn G F H σ τ s) (r1 : Rep Z.T F x v)
    (h : Post Z G EqR F σ Q W (truV Z.P Z.call x τ s)) : wpAny (model X.prog X.w) A' (truthy u) (TP X pins σ Q) X.xe sh := by
  have I' := inv_at I hh hf
  have hK := z.hK
  have back : ∀ {b : Bool} {s' : Shared}, TP { X with A := A' } pins σ Q b s' → TP X pins σ Q b s' := fun {b s'} ⟨H', J, q⟩ => ⟨H', inv_at (X := { X with A := A' }) (A' := X.A) J hh.symm hf.symm, q⟩
  have tru : ∀ {k : Bool}, TruV X.K v H k → Q k H → wpAny (model X.prog X.w) A' (truthy u) (TP X pins σ Q) X.xe sh := fun {k} t qk => wpAny_mono (tru_ok (X := { X with A := A' }) pins sh σ H v u Q I' rx ⟨k, t, qk⟩) (fun b s' w => back w) fun _ _ w => w
  cases x with
  | non => cases r1; exact tru (k := false) rfl (h.ok q rfl)
  | bl b => cases r1; exact tru (k := b) rfl (h.ok q rfl)
  | int i => cases r1; exact tru rfl (h.ok q rfl)
  | str z =>
    cases r1
    obtain ⟨hl, h⟩ := h.bif
    exact tru ⟨lim_size hl, rfl⟩ (h.ok q rfl)
  | tup ds =>
    obtain ⟨a, vs, rfl, hs, rl⟩ := r1
    have e : ds.isEmpty = vs.isEmpty := by have := rl.length; cases ds <;> cases vs <;> simp at this ⊢
    refine tru (.inr (.inl ⟨vs, by rw [hK]; exact q.fh.sqT hs, rfl⟩)) ?_
    rw [← e]; exact h.ok q rfl
  | lst ds =>
    obtain ⟨a, vs, rfl, hs, rl⟩ := r1
    have e : ds.isEmpty = vs.isEmpty := by have := rl.length; cases ds <;> cases vs <;> simp at this ⊢
    refine tru (.inl ⟨vs, SqL.of (q.fh _ _ hs), rfl⟩) ?_
    rw [← e]; exact h.ok q rfl
  | ins c ds =>
    simp only [truV] at h
    cases em : Z.P.meth c mBool with
    | none => rw [em] at h; exact h.elim
    | some f =>
      simp only [em] at h
      obtain ⟨ck, mt, _⟩ := z.bools c f em
      rw [← hK] at mt
      obtain ⟨a, ox, od, dx, rfl, rfl, J, _⟩ := inst_z I q r1 rx
      obtain ⟨m, fr⟩ := I.fr
      refine truthy_K fr I.mod.kin J mt.at_ mt.fn ?_
      refine thn (wpAny_call (run_zA (z.fz f) hA hg hf tk I (.cons (show RelV (.ref a) (.ref a) from rfl) .nil) (Q := fun v H' => ∃ b, v = .bl b ∧ Q b H') ⟨F, [.ins c ds], s, q.fh, q.pen, q.penF, q.pinv, RepL.one r1, ?_⟩)) fun r s' ⟨v, H', I', rv, b, eb, hq⟩ => ?_
      · cases ec : Z.call f [.ins c ds] s with
        | ok d s' =>
          rw [ec] at h
          intro v H' F' k r
          cases d with
          | bl b => cases r; exact ⟨b, rfl, h b H' F' k.ff (q.call k) rfl⟩
          | _ => exact h.elim
        | exc c' fs s' =>
          rw [ec] at h
          exact fun H' F' od k r => h H' F' od k.ff (q.call k) r
        | no => rw [ec] at h; exact h.elim
      · subst eb
        cases rv
        exact ⟨H', I', hq⟩
  | _ => exact h.elim
theorem Post.toBool {x : Out S Bool} {Q : VK} (h : Post Z G (Rep Z.T) F σ Q W (x.bind fun t τ s => .ok (.bl t) τ s)) : Post Z G EqR F σ (fun b H => Q (.bl b) H) W x := h.bind fun t b τ1 s1 F1 H1 e1 q1 r1 h1 => by
  cases r1
  exact h1.ok q1 rfl
/-- bool(x) -/
theorem bool_z {x : D} {v : V} {u : Value} {Q : VK} (z : Sz Z us X) (tk : Takes X W) (I : Inv X pins σ H sh) (rx : RelV v u) (q : SR Z.T Z.pn G F H σ τ s) (r1 : Rep Z.T F x v) (h : Post Z G (Rep Z.T) F σ Q W (bxV Z.P Z.call .bool x τ s)) :
    wpAny (model X.prog X.w) X.A (call (.type "bool") [u]) (EP X pins σ Q) X.xe sh := by
  refine call_bool_truthy (wpAny_mono (truV_zA z (fun k r => Room.in2 r) rfl rfl rfl tk I rx q r1 (Post.toBool h)) (fun b s' ⟨H', J, hq⟩ => ⟨.bl b, H', J, rfl, hq⟩) fun _ _ w => w)
/-- str(x) -/
theorem str_z {x : D} {v : V} {u : Value} {Q : VK} (z : Sz Z us X) (hc : X.calm = true) (tk : Takes X W) (I : Inv X pins σ H sh) (rx : RelV v u) (q : SR Z.T Z.pn G F H σ τ s) (r1 : Rep Z.T F x v) (h : Post Z G (Rep Z.T) F σ Q W (bxV Z.P Z.call .str x τ s)) :
    wpAny (model X.prog X.w) X.A (call (.type "str") [u]) (EP X pins σ Q) X.xe sh := by
  obtain ⟨_, hr, hgd, _⟩ := z.fz 0
  cases x with
  | ins c ds =>
    simp only [bxV, callM] at h
    cases em : Z.P.meth c mStr with
    | none => rw [em] at h; exact h.elim
    | some f =>
      simp only [em] at h
      obtain ⟨ck, mt, _⟩ := z.meth c mStr f em
      rw [← z.hK] at mt
      obtain ⟨a, ox, od, dx, rfl, rfl, J, _⟩ := inst_z I q r1 rx
      refine kso_call (by have := hr.un; show X.A.units + 1 + 1 < _; omega) I.kIn J mt.at_ mt.fn ?_
      refine thn (wpAny_call (run_zA (z.fz f) (fun k r => Room.in2 r) rfl rfl tk I (.cons (show RelV (.ref a) (.ref a) from rfl) .nil) (Q := fun v H' => ∃ b, v = .str b ∧ Q (.str b) H') ⟨F, [.ins c ds], s, q.fh, q.pen, q.penF, q.pinv, RepL.one r1, ?_⟩)) fun r s' ⟨v, H', I', rv, b, eb, hq⟩ => ?_
      · cases ec : Z.call f [.ins c ds] s with
        | ok d s' =>
          rw [ec] at h
          intro v H' F' k r
          cases d with
          | str b => cases r; exact ⟨b, rfl, h (.str b) H' F' k.ff (q.call k) rfl⟩
          | _ => exact h.elim
        | exc c' fs s' =>
          rw [ec] at h
          exact fun H' F' od k r => h H' F' od k.ff (q.call k) r
        | no => rw [ec] at h; exact h.elim
      · subst eb
        obtain ⟨t, rfl⟩ := rv
        exact ⟨.str b, H', I', ⟨t, rfl⟩, hq⟩
  | _ =>
    simp only [bxV] at h
    obtain ⟨d, ed, h⟩ := h.of
    exact biD_z (b := .str) z hc hgd I q (RepL.one r1) (.cons rx .nil) ed h

theorem de_bx {bi : Bi} {x : Str} {p : Pos} (z : Sz Z us X) (hc : X.calm = true) (tk : Takes X W) (hx : bi.nm = x) (hb : bi = .bool ∨ bi = .str) (hg : Gl X x) (hm : X.mg x = none) (he : PE X e (tD Z G W ce)) (hs : isStar e = false) : PE X (.Call (.Name x p) [e] [] pos) (tD Z G W (.bx bi ce)) := by
  subst hx
  refine ⟨fun pins sh σ H Q I h => ?_⟩
  obtain ⟨F0, τ, s, q, h⟩ := h
  simp only [ev] at h
  refine wpAny_Call_Name_kw (ld_blt I hg hm bi.boot ?_ bi.notName bi.notDebug)
  have run := (da_cons he da_nil (starEach_plain hs)).run pos pins sh σ H (fun vs H1 => ∃ F τ s x v, SR Z.T Z.pn G F H1 σ τ s ∧ vs = [v] ∧ Rep Z.T F x v ∧ Post Z G (Rep Z.T) F σ Q W (bxV Z.P Z.call bi x τ s)) I
    ⟨F0, τ, s, q, by
      simp only [evA]
      cases hx : ev Z.P Z.call Z.make ce τ s with
      | no => rw [hx] at h; exact h.elim
      | exc k fs τ1 s1 => rw [hx] at h; exact h
      | ok x τ1 s1 =>
        rw [hx] at h
        intro vs H1 F1 e1 q1 r1
        have h1 := Post.mono e1 h
        obtain ⟨v, r, rfl, rx, rr⟩ := r1
        cases rr
        exact ⟨F1, τ1, s1, x, v, q1, rfl, rx, h1⟩⟩
  rcases hb with rfl | rfl
  · refine callWith_type1 (thn run ?_) (starEach_plain hs) rfl
    rintro ws s1 ⟨vs, H1, I1, rv, F, τ, s, x, v, q, rfl, r, h⟩
    cases rv with
    | cons r1 r2 => cases r2; exact bool_z z tk I1 r1 q r h
  · refine callWith_type1 (thn run ?_) (starEach_plain hs) rfl
    rintro ws s1 ⟨vs, H1, I1, rv, F, τ, s, x, v, q, rfl, r, h⟩
    cases rv with
    | cons r1 r2 => cases r2; exact str_z z hc tk I1 r1 q r h
theorem allS_v {T : Tb} {F : Hp} : ∀ {ds : List D} {ss : List Str} {vs : List V}, allS ds = some ss → RepL T F ds vs → vs = ss.map V.str
  | [], ss, vs, e, r => by cases e; exact r
  | d :: ds, ss, vs, e, r => by
    obtain ⟨v, w, rfl, r1, r2⟩ := r
    cases d <;> simp only [allS] at e <;> first | (cases e; done) | skip
    obtain ⟨ts, et, rfl⟩ := map_some e
    cases r1
    rw [List.map_cons, allS_v et r2]
theorem strs_rep {T : Tb} {F : Hp} : ∀ {ss : List Str}, RepL T F (ss.map D.str) (ss.map V.str)
  | [] => rfl
  | s :: ss => ⟨.str s, _, rfl, rfl, strs_rep⟩
/-- sep.join(list) -/
theorem de_join {ap : Pos} (hK : X.K = Z.T.K) (ha : PE X a (tD Z G W ca)) (hb : PE X b (tD Z G W cb)) (hs : isStar b = false) (hbase : baseOk a = true) (hline : (ap.endLine == pos.line) = true) : PE X (.Call (.Attribute a "join" ap) [b] [] pos) (tD Z G W (.join ca cb)) :=
  (pe_join ha hb (starEach_plain hs) (base_of hbase) hline).imp fun σ H Q => by
    rintro ⟨F, τ, s, q, h⟩
    simp only [ev] at h
    refine ⟨F, τ, s, q, h.bind fun x v τ1 s1 F1 H1 e1 q1 r1 h1 => ?_⟩
    cases x with
    | str sep =>
      cases r1
      refine ⟨⟨sep, rfl⟩, F1, τ1, s1, q1, h1.bind fun y w τ2 s2 F2 H2 e2 q2 r2 h2 => ?_⟩
      obtain ⟨d, ed, h2⟩ := h2.of
      cases y with
      | lst ds =>
        simp only [joinD] at ed
        cases es : allS ds with
        | none => rw [es] at ed; cases ed
        | some ss =>
          rw [es] at ed
          obtain ⟨hl, rfl⟩ := bif_some ed
          obtain ⟨p, vs, rfl, hF, rl⟩ := r2
          have ev := allS_v es rl
          subst ev
          exact ⟨sep, p, ss, rfl, rfl, .inl (SqL.of (q2.fh _ _ hF)), by have := lim_of hl; omega, h2.ok q2 rfl⟩
      | _ => cases ed
    | _ => exact h1.elim
/-- text.split(sep) -/
theorem de_split {ap : Pos} (ha : PE X a (tD Z G W ca)) (hb : PE X b (tD Z G W cb)) (hs : isStar b = false) (hbase : baseOk a = true) (hline : (ap.endLine == pos.line) = true) : PE X (.Call (.Attribute a "split" ap) [b] [] pos) (tD Z G W (.split ca cb)) :=
  (pe_split ha hb (starEach_plain hs) (base_of hbase) hline).imp fun σ H Q => by
    rintro ⟨F, τ, s, q, h⟩
    simp only [ev] at h
    refine ⟨F, τ, s, q, h.bind fun x v τ1 s1 F1 H1 e1 q1 r1 h1 => ?_⟩
    cases x with
    | str t =>
      cases r1
      refine ⟨⟨t, rfl⟩, F1, τ1, s1, q1, h1.bind fun y w τ2 s2 F2 H2 e2 q2 r2 h2 => ?_⟩
      obtain ⟨d, ed, h2⟩ := h2.of
      cases y with
      | str sep =>
        cases r2
        simp only [splitD] at ed
        obtain ⟨hl, rfl⟩ := bif_some ed
        rw [Bool.and_eq_true, Bool.not_eq_true'] at hl
        refine ⟨t, sep, rfl, rfl, hl.2, lim_size hl.1, fun p hp => ?_⟩
        have hF := q2.fh.none hp
        exact h2 _ _ (upd F2 p _) (Sub.new hF) (q2.new hp) ⟨p, _, rfl, upd_same, strs_rep⟩
      | _ => cases ed
    | _ => exact h1.elim
end
end Rz
end

section
set_option autoImplicit false
set_option Elab.async false
set_option linter.all false
set_option maxHeartbeats 1000000
set_option maxRecDepth 100000
namespace Rz
open PySem PySem.Spec PySem.W PyProof.Rows L2

/-- plain parameters -/
structure PlainFd (fd : FuncData) (ps : List Str) : Prop where
  h1 : fd.params.posonlyargs = []
  h2 : fd.params.kwonlyargs = []
  h3 : fd.params.vararg = none
  h4 : fd.params.kwarg = none
  h5 : fd.defaults = .none
  nm : fd.params.args.map (·.arg) = ps
  nd : ps.Nodup
theorem lookup_zip_some {ps : List Str} {us : List Value} {n : Str} (hl : us.length = ps.length) (h : n ∈ ps) : ∃ v, (ps.zip us).lookup n = some v := by
  induction ps generalizing us with
  | nil => cases h
  | cons a ps ih =>
    cases us with
    | nil => cases hl
    | cons u us =>
      rw [List.zip_cons_cons, List.lookup_cons]
      cases e : n == a with
      | true => exact ⟨u, rfl⟩
      | false =>
        rcases List.mem_cons.mp h with z | z
        · rw [z] at e; simp at e
        · exact ih (by simpa using hl) z
theorem filterMap_zip {ps : List Str} {us : List Value} (nd : ps.Nodup) (hl : us.length = ps.length) : (ps.filterMap fun n => ((ps.zip us).lookup n).map (n, ·)) = ps.zip us := by
  have go : ∀ (qs : List Str) (ws : List Value) (f : Str → Option Value), qs.Nodup → ws.length = qs.length → (∀ n v, (n, v) ∈ qs.zip ws → f n = some v) → (qs.filterMap fun n => (f n).map (n, ·)) = qs.zip ws := by
    intro qs
    induction qs with
    | nil => intro ws f _ _ _; rfl
    | cons a qs ih =>
      intro ws f nd hl h
      cases ws with
      | nil => cases hl
      | cons w ws =>
        rw [List.zip_cons_cons, List.filterMap_cons, h a w (by simp)]
        show (a, w) :: _ = _
        rw [ih ws f (List.nodup_cons.mp nd).2 (by simpa using hl) fun n v m => h n v (by rw [List.zip_cons_cons]; exact List.mem_cons_of_mem _ m)]
  refine go ps us _ nd hl fun n v m => ?_
  clear go
  induction ps generalizing us with
  | nil => cases m
  | cons a ps ih =>
    cases us with
    | nil => cases hl
    | cons u us =>
      rw [List.zip_cons_cons] at m ⊢
      rw [List.lookup_cons]
      rcases List.mem_cons.mp m with z | z
      · cases z; simp
      · have hn : n ∈ ps := (List.of_mem_zip z).1
        have ne : (n == a) = false := by
          rw [beq_eq_false_iff_ne]
          rintro rfl
          exact (List.nodup_cons.mp nd).1 hn
        rw [ne]
        exact ih (List.nodup_cons.mp nd).2 (by simpa using hl) z
theorem missing_none {ps : List Str} {us : List Value} (hl : us.length = ps.length) (k : Nat) : ((ps.take k).filter fun n => ((ps.zip us).lookup n).isNone) = [] := by
  rw [List.filter_eq_nil_iff]
  intro n hn
  obtain ⟨v, e⟩ := lookup_zip_some hl (List.mem_of_mem_take hn)
  rw [e]; simp
/-- plain parameters, all given -/
theorem bind_plain {fd : FuncData} {us : List Value} (h1 : fd.params.posonlyargs = []) (h2 : fd.params.kwonlyargs = []) (h3 : fd.params.vararg = none) (h4 : fd.params.kwarg = none) (h5 : fd.defaults = .none) (nd : (fd.params.args.map (·.arg)).Nodup) (hl : us.length = (fd.params.args.map (·.arg)).length) :
    bindArgs fd ⟨us, []⟩ = pure ((fd.params.args.map (·.arg)).zip us) := by
  have hs : seqItems? Value.none = pure none := rfl
  unfold bindArgs
  simp only [h1, h2, h3, h4, h5, hs, List.map_nil, List.nil_append, List.append_nil, List.forIn_nil, pure_bind, Option.getD_none]
  generalize fd.params.args.map (·.arg) = ps at *
  rw [if_neg (by simp; omega)]
  simp only [List.drop_nil, List.length_nil, Nat.sub_zero, missing_none hl, List.isEmpty_nil, Bool.not_true, Bool.false_eq_true, if_false, List.zip_nil_right, List.forIn_nil, pure_bind, filterMap_zip nd hl]
theorem lookup_zip_none {ps : List Str} {us : List Value} {n : Str} (h : n ∉ ps) : (ps.zip us).lookup n = none := by
  induction ps generalizing us with
  | nil => rfl
  | cons a ps ih =>
    cases us with
    | nil => rfl
    | cons u us =>
      rw [List.zip_cons_cons, List.lookup_cons]
      have : (n == a) = false := by
        rw [beq_eq_false_iff_ne]; rintro rfl; exact h List.mem_cons_self
      rw [this]
      exact ih fun z => h (List.mem_cons_of_mem _ z)
theorem bind_kw1 {fd : FuncData} {us : List Value} {v : Value} {k : Str} {qs : List Str} (P : PlainFd fd (qs ++ [k])) (hl : us.length = qs.length) : bindArgs fd ⟨us, [(k, v)]⟩ = bindArgs fd ⟨us ++ [v], []⟩ := by
  obtain ⟨h1, h2, h3, h4, h5, nm, nd⟩ := P
  rw [bind_plain h1 h2 h3 h4 h5 (by rw [nm]; exact nd) (by rw [nm]; simp [hl]), nm]
  have hs : seqItems? Value.none = pure none := rfl
  have hk : k ∉ qs := fun z => by
    rw [List.nodup_append] at nd
    exact nd.2.2 k z k (by simp) rfl
  have z1 : (qs ++ [k]).zip us = qs.zip us := by
    have e : (qs ++ [k]).zip (us ++ []) = qs.zip us ++ [k].zip [] := List.zip_append hl.symm
    rw [List.append_nil] at e
    rw [e]; simp
  have z2 : qs.zip us ++ [(k, v)] = (qs ++ [k]).zip (us ++ [v]) := by
    rw [List.zip_append hl.symm]; rfl
  unfold bindArgs
  simp only [h1, h2, h3, h4, h5, hs, nm, List.map_nil, List.nil_append, List.append_nil, List.forIn_cons, List.forIn_nil, pure_bind, bind_assoc, Option.getD_none, z1]
  rw [if_pos (by simp), if_neg (by rw [lookup_zip_none hk]; simp)]
  simp only [pure_bind, z2]
  rw [if_neg (by simp; omega)]
  have hl2 : (us ++ [v]).length = (qs ++ [k]).length := by simp [hl]
  simp only [List.drop_nil, List.length_nil, Nat.sub_zero, missing_none hl2, List.isEmpty_nil, Bool.not_true, Bool.false_eq_true, if_false, List.zip_nil_right, List.forIn_nil, pure_bind, filterMap_zip nd hl2]

theorem bind_kwA {fd : FuncData} {us : List Value} {v w : Value} {k l : Str} {qs : List Str} (P : PlainFd fd (qs ++ [k, l])) (hl : us.length = qs.length) : bindArgs fd ⟨us, [(k, v), (l, w)]⟩ = bindArgs fd ⟨us ++ [v, w], []⟩ := by
  obtain ⟨h1, h2, h3, h4, h5, nm, nd⟩ := P
  rw [bind_plain h1 h2 h3 h4 h5 (by rw [nm]; exact nd) (by rw [nm]; simp [hl]), nm]
  have hs : seqItems? Value.none = pure none := rfl
  have nd' := nd
  rw [List.nodup_append] at nd'
  have hk : k ∉ qs := fun z => nd'.2.2 k z k (by simp) rfl
  have hl' : l ∉ qs := fun z => nd'.2.2 l z l (by simp) rfl
  have hkl : k ≠ l := by
    have := nd'.2.1
    simp at this; exact this
  have z1 : (qs ++ [k, l]).zip us = qs.zip us := by
    have e : (qs ++ [k, l]).zip (us ++ []) = qs.zip us ++ [k, l].zip [] := List.zip_append hl.symm
    rw [List.append_nil] at e
    rw [e]; simp
  have z2 : qs.zip us ++ [(k, v)] ++ [(l, w)] = (qs ++ [k, l]).zip (us ++ [v, w]) := by
    rw [List.zip_append hl.symm]; simp
  have z3 : (qs.zip us ++ [(k, v)]).lookup l = none := by
    rw [List.lookup_append, lookup_zip_none hl']
    have : (l == k) = false := by simpa using Ne.symm hkl
    simp [List.lookup_cons, this]
  unfold bindArgs
  simp only [h1, h2, h3, h4, h5, hs, nm, List.map_nil, List.nil_append, List.append_nil, List.forIn_cons, List.forIn_nil, pure_bind, bind_assoc, Option.getD_none, z1]
  rw [if_pos (by simp), if_neg (by rw [lookup_zip_none hk]; simp)]
  simp only [pure_bind]
  rw [if_pos (by simp), if_neg (by rw [z3]; simp)]
  simp only [pure_bind, z2]
  rw [if_neg (by simp; omega)]
  have hl2 : (us ++ [v, w]).length = (qs ++ [k, l]).length := by simp [hl]
  simp only [List.drop_nil, List.length_nil, Nat.sub_zero, missing_none hl2, List.isEmpty_nil, Bool.not_true, Bool.false_eq_true, if_false, List.zip_nil_right, List.forIn_nil, pure_bind, filterMap_zip nd hl2]
theorem bind_kwB {fd : FuncData} {us : List Value} {v w : Value} {k l : Str} {qs : List Str} (P : PlainFd fd (qs ++ [k, l])) (hl : us.length = qs.length) : bindArgs fd ⟨us, [(l, w), (k, v)]⟩ = bindArgs fd ⟨us ++ [v, w], []⟩ := by
  obtain ⟨h1, h2, h3, h4, h5, nm, nd⟩ := P
  rw [bind_plain h1 h2 h3 h4 h5 (by rw [nm]; exact nd) (by rw [nm]; simp [hl]), nm]
  have hs : seqItems? Value.none = pure none := rfl
  have nd' := nd
  rw [List.nodup_append] at nd'
  have hk : k ∉ qs := fun z => nd'.2.2 k z k (by simp) rfl
  have hl' : l ∉ qs := fun z => nd'.2.2 l z l (by simp) rfl
  have hkl : k ≠ l := by
    have := nd'.2.1
    simp at this; exact this
  have z1 : (qs ++ [k, l]).zip us = qs.zip us := by
    have e : (qs ++ [k, l]).zip (us ++ []) = qs.zip us ++ [k, l].zip [] := List.zip_append hl.symm
    rw [List.append_nil] at e
    rw [e]; simp
  have z2 : ∀ n, (qs.zip us ++ [(l, w)] ++ [(k, v)]).lookup n = ((qs ++ [k, l]).zip (us ++ [v, w])).lookup n := fun n => by
    simp only [List.zip_append hl.symm, List.lookup_append, List.zip_cons_cons, List.zip_nil_right, List.lookup_cons, List.lookup_nil]
    cases e1 : n == l with
    | true =>
      have : n = l := eq_of_beq e1
      subst this
      have : (n == k) = false := by simpa using Ne.symm hkl
      rw [this]
      cases (qs.zip us).lookup n <;> rfl
    | false => cases e2 : n == k <;> cases (qs.zip us).lookup n <;> rfl
  have z3 : (qs.zip us ++ [(l, w)]).lookup k = none := by
    rw [List.lookup_append, lookup_zip_none hk]
    have : (k == l) = false := by simpa using hkl
    simp [List.lookup_cons, this]
  unfold bindArgs
  simp only [h1, h2, h3, h4, h5, hs, nm, List.map_nil, List.nil_append, List.append_nil, List.forIn_cons, List.forIn_nil, pure_bind, bind_assoc, Option.getD_none, z1]
  rw [if_pos (by simp), if_neg (by rw [lookup_zip_none hl']; simp)]
  simp only [pure_bind]
  rw [if_pos (by simp), if_neg (by rw [z3]; simp)]
  simp only [pure_bind, z2]
  rw [if_neg (by simp; omega)]
  have hl2 : (us ++ [v, w]).length = (qs ++ [k, l]).length := by simp [hl]
  simp only [List.drop_nil, List.length_nil, Nat.sub_zero, missing_none hl2, List.isEmpty_nil, Bool.not_true, Bool.false_eq_true, if_false, List.zip_nil_right, List.forIn_nil, pure_bind, filterMap_zip nd hl2]
  have z4 := filterMap_zip nd hl2
  simp only [z2, z4]

/-- a def that may be called by names -/
def KwOk (K : PySem.W.Frag) (a : Addr) (ns : List Str) : Prop := ∀ oc od fd osl, K.lookup a = some ⟨oc, od, .func fd, osl⟩ → PlainFd fd ns

theorem callO_kw {M : Model} {A : Around} {E : Value → Shared → Prop} {s : Shared} {a : Addr} {pos : Pos} {Q : Value → Shared → Prop} {args : List (Bool × Sem Value)} {kws : List (Option Str × Sem Value)} (hplain : (args.any (·.1) || kws.any (·.1.isNone)) = false)
    (h : wpAny M A (evalArgs (.ref a) true args kws) (fun z s₁ => (∃ C ox od, PySem.W.InstAt s₁.heap a ox C od ∧ ox.data = .plain) ∧ wpAny M A (call (.ref a) ([] ++ z.pos) z.kw) Q E s₁) E s) : wpAny M A (callWith pos (.ref a) [] args kws) Q E s := by
  unfold callWith
  refine wpAny_bind (wpAny_holding (wpAny_mono h (fun z s₁ h₁ => wpAny_bind (wpAny_standAt ?_)) fun _ _ y => y))
  obtain ⟨⟨C, ox, od, J, hd⟩, h₁⟩ := h₁
  have L := PySem.W.kco_keeper (M := M) J hd
  simp only [hplain]
  refine wpAny_bind (L.here ?_)
  have tail : ∀ {t : Sem Value}, wpAny M A t Q E s₁ → wpAny M A (t >>= fun r => holding [r] point >>= fun _ => pure r) Q E s₁ :=
    fun ht => wpAny_bind (wpAny_mono ht (fun r s₂ hr => wpAny_bind (wpAny_holding (wpAny_point (wpAny_pure hr)))) fun _ _ y => y)
  exact tail (wpAny_operateT h₁)

section
variable {S : Type} [Pen S] {Z : Cz S} {us : List Str} {G : Fm} {F H : Hp} {σ : L2.St} {τ : List Slot} {s : S} {W : WX} {X : Cx} {pins : List (Addr × Obj)} {sh : Shared}
variable {a b c e : Expr} {ca cb cc ce : CE} {pos : Pos}
theorem de_callK {fe : Expr} {co : CE} {k : Str} {kp : Pos} (z : Sz Z us X) (hfi : ∀ c f, Z.P.meth c mCall = some f → fnIn Z.T.K (Z.T.fA f) = true) (hkw : ∀ f, Z.P.kwn f ≠ [] → KwOk Z.T.K (Z.T.fA f) (Z.P.kwn f)) (tk : Takes X W) (hf : PE X fe (tD Z G W co)) (he : PE X e (tD Z G W ce))
    (ht : eval (.Call fe [] [⟨some k, e, kp⟩] pos) X.env = (do callWith pos (← eval fe X.env) [] (backTo pos (starEach [] X.env)) (backToKw pos (keywordEach [⟨some k, e, kp⟩] X.env)))) : PE X (.Call fe [] [⟨some k, e, kp⟩] pos) (tD Z G W (.callK co .nil [k] (.cons false ce .nil))) := by
  refine ⟨fun pins sh σ H Q I h => ?_⟩
  obtain ⟨F0, τ, s, q, h⟩ := h
  simp only [ev] at h
  rw [ht]
  refine wpAny_bind (thn (hf.run pins sh σ H (fun v H1 => ∃ F τ s c ds f, SR Z.T Z.pn G F H1 σ τ s ∧ Rep Z.T F (.ins c ds) v ∧ Z.P.meth c mCall = some f ∧ Post Z G (Rep Z.T) F σ Q W ((ev Z.P Z.call Z.make ce τ s).bind fun x τ s => match arrD (Z.P.kwn f) [.ins c ds] [k] [x] with
        | some xs => (Z.call f xs s).out τ
        | none => .no)) I
      ⟨F0, τ, s, q, h.bind fun x v τ1 s1 F1 H1 e1 q1 r1 h1 => ?_⟩) fun u s1 ⟨v, H1, I1, rx, F1, τ1, s1', c, ds, f, q1, r1, ef, h1⟩ => ?_)
  · cases x with
    | ins c ds =>
      simp only at h1
      cases ef : Z.P.meth c mCall with
      | none => rw [ef] at h1; exact h1.elim
      | some f =>
        rw [ef] at h1
        refine ⟨F1, τ1, s1, c, ds, f, q1, r1, ef, ?_⟩
        simp only [evA, Out.bind, cond_false] at h1
        cases hx : ev Z.P Z.call Z.make ce τ1 s1 with
        | ok y τ2 s2 => rw [hx] at h1; exact h1
        | exc c' fs τ2 s2 => rw [hx] at h1; exact h1
        | no => rw [hx] at h1; exact h1
    | _ => exact h1.elim
  · obtain ⟨p, dx, vs0, rfl, hF, hl, rl⟩ := r1
    obtain rfl : u = Value.ref p := rx
    refine callO_kw (by rfl) (PyProof.Rows.evalArgs_kw2_nil (by rfl) (PyProof.Rows.kwAll_cons (thn (he.run pins s1 σ H1 (fun w H2 => ∃ F2 qs, F2 p = some (.ins (Z.T.cA c) dx ((Z.T.fld c).zip vs0)) ∧ Sub F2 H2 ∧ Z.P.kwn f = qs ++ [k] ∧ qs.length = 1 ∧ spF Z f [.ref p, w] H2 Q (fun c d H' => W c d σ H')) I1
      ⟨F1, τ1, s1', q1, h1.bind fun y w τ2 s2 F2 H2 e2 q2 r2 h2 => ?_⟩) fun w s2 ⟨wv, H2, I2, rw_, F2, qs, hF2, fh, hq1, hq2, hq⟩ => PyProof.Rows.kwAll_nil ?_)))
    · cases ea : arrD (Z.P.kwn f) [.ins c ds] [k] [y] with
      | none => rw [ea] at h2; exact h2.elim
      | some xs =>
        rw [ea] at h2
        unfold arrD at ea
        obtain ⟨g1, g2⟩ := bif_some ea
        simp only [Bool.and_eq_true, decide_eq_true_eq, List.length_cons, List.length_nil] at g1
        obtain ⟨⟨g1, g3⟩, _⟩ := g1
        refine ⟨F2, (Z.P.kwn f).take 1, e2 _ _ hF, q2.fh, ?_, ?_, ?_⟩
        · have := List.take_append_drop 1 (Z.P.kwn f)
          rw [show (Z.P.kwn f).drop 1 = [k] from g1] at this
          exact this.symm
        · rw [List.length_take]; omega
        · subst g2
          exact spF_of q2 (RepL.two (d := .ins c ds) (e := y) ⟨p, dx, vs0, rfl, e2 _ _ hF, hl, rl.mono e2⟩ r2) h2
    · obtain ⟨ox, od, J, hd⟩ := StX.insC_at (C := Z.T.cA c) I2 (.inr ⟨dx, _, fh _ _ hF2⟩)
      refine ⟨⟨_, ox, od, J, hd⟩, ?_⟩
      obtain ⟨ck, mt, _⟩ := z.meth c mCall f ef
      rw [← z.hK] at mt
      have hfi' := hfi c f ef
      rw [← z.hK] at hfi'
      have hko := hkw f (by rw [hq1]; simp)
      rw [← z.hK, hq1] at hko
      exact wpAny_call (kco_code I2.kIn J hd mt.at_ mt.fn hfi' (run_zk (us := [.ref p, w]) (vs := [.ref p, wv]) (z.fz f) tk I2 (.cons rfl (.cons rw_ .nil)) hq fun oc od fd osl lk => bind_kw1 (us := [.ref p]) (hko oc od fd osl lk) (by simp [hq2])))
end
end Rz
end

section
set_option autoImplicit false
set_option Elab.async false
set_option linter.all false
set_option maxHeartbeats 1000000
set_option maxRecDepth 100000
namespace Rz
open PySem PySem.Spec PySem.W PyProof.Rows L2

theorem _root_.L2.PK.imp {X : Cx} {kws : List Keyword} {t t' : TA} (h : PK X kws t) (k : ∀ σ H Q, t' σ H Q → t σ H Q) : PK X kws t' := ⟨fun p pins s σ H Q I q => h.run p pins s σ H Q I (k σ H Q q)⟩
section
variable {S : Type} [Pen S] {Z : Cz S} {us : List Str} {G : Fm} {F H : Hp} {σ : L2.St} {τ : List Slot} {s : S} {W : WX} {X : Cx} {pins : List (Addr × Obj)} {sh : Shared}
variable {a b c e : Expr} {ca cb cc ce : CE} {pos : Pos}
/-- keywords and their compact form -/
inductive KwsZ (Z : Cz S) (G : Fm) (W : WX) (X : Cx) : List Keyword → List Str → CAs → Prop
  | nil : KwsZ Z G W X [] [] .nil
  | cons {k : Str} {e : Expr} {p : Pos} {kws : List Keyword} {ks : List Str} {c : CE} {cs : CAs} : PE X e (tD Z G W c) → KwsZ Z G W X kws ks cs → KwsZ Z G W X (⟨some k, e, p⟩ :: kws) (k :: ks) (.cons false c cs)
theorem KwsZ.pk : ∀ {kws : List Keyword} {ks : List Str} {cs : CAs}, KwsZ Z G W X kws ks cs → PK X kws (tDA Z G W cs)
  | _, _, _, .nil => pk_nil.imp fun σ H Q => by
    rintro ⟨F, τ, s, q, h⟩
    exact h.ok q rfl
  | _, _, _, .cons he hr => (pk_cons he (KwsZ.pk hr)).imp fun σ H Q => by
    rintro ⟨F, τ, s, q, h⟩
    exact ⟨F, τ, s, q, h.bind fun x v τ1 s1 F1 H1 e1 q1 r1 h1 => ⟨F1, τ1, s1, q1, h1.bind fun xs vs τ2 s2 F2 H2 e2 q2 r2 h2 => h2.ok q2 ⟨v, vs, rfl, r1.mono e2, r2⟩⟩⟩
theorem KwsZ.names {env : Env} : ∀ {kws : List Keyword} {ks : List Str} {cs : CAs}, KwsZ Z G W X kws ks cs → (backToKw pos (keywordEach kws env)).filterMap (·.1) = ks ∧ (backToKw pos (keywordEach kws env)).all (·.1.isSome) = true ∧ (backToKw pos (keywordEach kws env)).any (·.1.isNone) = false
  | _, _, _, .nil => ⟨rfl, rfl, rfl⟩
  | _, _, _, .cons (k := k) (kws := kws) he hr => by
    obtain ⟨h1, h2, h3⟩ := KwsZ.names (env := env) hr
    exact ⟨by show k :: (backToKw pos (keywordEach kws env)).filterMap (·.1) = _; rw [h1], by show (true && (backToKw pos (keywordEach kws env)).all (·.1.isSome)) = true; rw [h2]; rfl, by show (false || (backToKw pos (keywordEach kws env)).any (·.1.isNone)) = false; rw [h3]; rfl⟩
theorem callWith_zk {f : Value} {first : List Value} {args : List Expr} {cs ws : CAs} {kws : List Keyword} {ks : List Str} {Qf : Value → Shared → Prop} {Kq : List V → List V → Hp → Prop} (hK : X.K = Z.T.K) (hk : PySem.W.keepIn X.K f = true) (hs : args.any isStar = false)
    (ha : ArgsZ Z G W X args cs) (hw : KwsZ Z G W X kws ks ws) (I : Inv X pins σ H sh) (h : tDA Z G W cs σ H fun vs H1 => tDA Z G W ws σ H1 fun zs H2 => Kq vs zs H2)
    (k : ∀ us wv s1 vs zs H1, Inv X pins σ H1 s1 → Vals vs us → Vals zs wv → Kq vs zs H1 → wpAny (model X.prog X.w) X.A (call f (first ++ us) (ks.zip wv)) Qf X.xe s1) :
    wpAny (model X.prog X.w) X.A (callWith pos f first (backTo pos (starEach args X.env)) (backToKw pos (keywordEach kws X.env))) Qf X.xe sh := by
  obtain ⟨n1, n2, n3⟩ := hw.names (pos := pos) (env := X.env)
  cases ha with
  | nil =>
    obtain ⟨F, τ, s, q, h⟩ := h
    have h' := h.ok q (show RepL Z.T F [] [] from rfl)
    refine PySem.W.callWith_KW0 (h₀ := X.base) I.ok.mod.kin hk n2 (thn (hw.pk.run pos pins sh σ H _ I h') fun wv s1 ⟨zs, H1, I1, r, q1⟩ => ⟨I1.kIn, ?_⟩) (by show (false || _) = false; rw [n3]; rfl)
    rw [n1]
    exact k [] wv s1 [] zs H1 I1 .nil r q1
  | @cons e es c cs hp he hr =>
    rw [List.any_cons, Bool.or_eq_false_iff] at hs
    have pa := (ArgsZ.cons hp he hr).pa hK
    refine PySem.W.callWith_KW (h₀ := X.base) I.ok.mod.kin hk n2 (thn (pa.run pos pins sh σ H _ I h) fun us s1 ⟨vs, H1, I1, r, q1⟩ => thn (hw.pk.run pos pins s1 σ H1 _ I1 q1) fun wv s2 ⟨zs, H2, I2, r2, q2⟩ => ⟨I2.kIn, ?_⟩) (by rw [backTo_any, List.any_cons, hs.1, hs.2, n3]; rfl) (starEach_plain hp)
    rw [n1]
    exact k us wv s2 vs zs H2 I2 r r2 q2
  | star he hr => cases hs

theorem vals_one {v : V} {us : List Value} (h : Vals [v] us) : ∃ u, us = [u] ∧ RelV v u := by
  cases h with
  | cons h t => cases t; exact ⟨_, rfl, h⟩
theorem vals_two {v w : V} {us : List Value} (h : Vals [v, w] us) : ∃ u x, us = [u, x] ∧ RelV v u ∧ RelV w x := by
  cases h with
  | cons h t => obtain ⟨x, rfl, hx⟩ := vals_one t; exact ⟨_, x, rfl, h, hx⟩
theorem take_drop_eq {ps : List Str} {n : Nat} {l : List Str} (h : ps.drop n = l) (hl : l ≠ []) : ps = ps.take n ++ l ∧ (ps.take n).length = n := by
  refine ⟨by rw [← h, List.take_append_drop], ?_⟩
  rw [List.length_take]
  have : n < ps.length := by
    rcases Nat.lt_or_ge n ps.length with z | z
    · exact z
    · rw [List.drop_eq_nil_of_le z] at h; exact absurd h.symm hl
  omega
theorem arr2_ok {T : Tb} {ps : List Str} {ds ws xs : List D} {ks : List Str} {vs zs : List V} (h : arr2 ps ds ks ws = some xs) (r1 : RepL T F ds vs) (r2 : RepL T F ws zs) :
    ∃ vs', RepL T F xs vs' ∧ ∀ us wv, Vals vs us → Vals zs wv → ∃ us', Vals vs' us' ∧ ∀ fd, PlainFd fd ps → bindArgs fd ⟨us, ks.zip wv⟩ = bindArgs fd ⟨us', []⟩ := by
  unfold arr2 at h
  split at h
  · obtain ⟨h1, rfl⟩ := bif_some h
    have h1 := of_decide_eq_true h1
    obtain ⟨e1, e2⟩ := take_drop_eq h1 (by simp)
    obtain ⟨z, rest, rfl, rz, rr⟩ := r2
    cases rr
    refine ⟨vs ++ [z], r1.append (RepL.one rz), fun us wv v1 v2 => ?_⟩
    obtain ⟨u, rfl, hu⟩ := vals_one v2
    refine ⟨us ++ [u], v1.append (.cons hu .nil), fun fd pf => ?_⟩
    rw [e1] at pf
    exact bind_kw1 pf (by rw [← v1.length, r1.length, e2])
  · rename_i k l w u
    cases hd : decide (ps.drop ds.length = [k, l]) with
    | true =>
      rw [hd] at h
      cases h
      obtain ⟨e1, e2⟩ := take_drop_eq (of_decide_eq_true hd) (by simp)
      obtain ⟨z, rest, rfl, rz, z2, rest2, rfl, rz2, rr⟩ := r2
      cases rr
      refine ⟨vs ++ [z, z2], r1.append (RepL.two rz rz2), fun us wv v1 v2 => ?_⟩
      obtain ⟨u, x, rfl, hu, hx⟩ := vals_two v2
      refine ⟨us ++ [u, x], v1.append (.cons hu (.cons hx .nil)), fun fd pf => ?_⟩
      rw [e1] at pf
      exact bind_kwA pf (by rw [← v1.length, r1.length, e2])
    | false =>
      rw [hd] at h
      obtain ⟨h1, rfl⟩ := bif_some h
      obtain ⟨e1, e2⟩ := take_drop_eq (of_decide_eq_true h1) (by simp)
      obtain ⟨z, rest, rfl, rz, z2, rest2, rfl, rz2, rr⟩ := r2
      cases rr
      refine ⟨vs ++ [z2, z], r1.append (RepL.two rz2 rz), fun us wv v1 v2 => ?_⟩
      obtain ⟨u, x, rfl, hu, hx⟩ := vals_two v2
      refine ⟨us ++ [x, u], v1.append (.cons hx (.cons hu .nil)), fun fd pf => ?_⟩
      rw [e1] at pf
      exact bind_kwB pf (by rw [← v1.length, r1.length, e2])
  · cases h

/-- o.m(.., k=v, ..): its tree -/
def methOkK (args : List Expr) (kws : List Keyword) (apos pos : Pos) : Bool := !args.any isStar && decide (args.length + kws.length < 29) && apos.endLine == pos.line
theorem meth_evalK {o : Expr} {m : Str} {args : List Expr} {kws : List Keyword} {apos pos : Pos} {env : Env} (hb : baseOk o = true) (hm : methOkK args kws apos pos = true) (hk : (backToKw pos (keywordEach kws env)).all (·.1.isSome) = true) :
    eval (.Call (.Attribute o m apos) args kws pos) env = (do
      let ov ← eval o env
      standAt apos.atName
      let (f, first) ← holding [ov] (getMethod ov m (do return (← importBound o env).getD true))
      callWith pos f first (backTo pos (starEach args env)) (backToKw pos (keywordEach kws env))) := by
  unfold methOkK at hm
  simp only [Bool.and_eq_true, Bool.not_eq_true', decide_eq_true_eq] at hm
  obtain ⟨⟨h1, h2⟩, h3⟩ := hm
  have hall : (backTo pos (starEach args env)).all (fun x => !x.1) = true := by
    rw [← backTo_any (pos := pos) (env := env)] at h1
    rw [List.all_eq_not_any_not]
    simpa using h1
  have hform : methodCallForm (args.length + kws.length) (backTo pos (starEach args env)) (backToKw pos (keywordEach kws env)) = true := by
    unfold methodCallForm
    rw [hall, hk]
    simp only [Bool.and_true, decide_eq_true_eq, Bool.true_and]
    split <;> omega
  rw [arm_eval_Call, base_of hb]
  unfold methodCall
  rw [hform]
  unfold methodCallPos
  rw [h3]
  simp only [Bool.not_true, Bool.or_true, if_true, pure_bind]
  rfl
theorem de_methK {o : Expr} {co : CE} {m : Str} {mid : Nat} {args : List Expr} {cs ws : CAs} {kws : List Keyword} {ks : List Str} {apos pos : Pos} (hK : X.K = Z.T.K) (FZ : ∀ f, FnZ Z X f) (MS : ∀ c f, Z.P.meth c mid = some f → MethZ Z.T c m f) (hkw : ∀ f, Z.P.kwn f ≠ [] → KwOk Z.T.K (Z.T.fA f) (Z.P.kwn f)) (tk : Takes X W) (ho : PE X o (tD Z G W co))
    (ha : ArgsZ Z G W X args cs) (hw : KwsZ Z G W X kws ks ws) (hb : baseOk o = true) (hm : methOkK args kws apos pos = true) : PE X (.Call (.Attribute o m apos) args kws pos) (tD Z G W (.methK co mid cs ks ws)) := by
  have hs : args.any isStar = false := by
    unfold methOkK at hm
    simp only [Bool.and_eq_true, Bool.not_eq_true'] at hm
    exact hm.1.1
  refine ⟨fun pins sh σ H Q I h => ?_⟩
  obtain ⟨F0, τ, s, q, h⟩ := h
  simp only [ev] at h
  refine PySem.W.methodCall_KW (thn (ho.run pins sh σ H (fun v H1 => ∃ a c dx vs f, v = .ref a ∧ H1 a = some (.ins (Z.T.cA c) dx ((Z.T.fld c).zip vs)) ∧ Z.P.meth c mid = some f ∧ tDA Z G W cs σ H1 fun vs H2 => tDA Z G W ws σ H2 fun zs H3 => Z.P.kwn f ≠ [] ∧ ∃ vs', spF Z f vs' H3 Q (fun c d H' => W c d σ H') ∧ ∀ us wv, Vals (V.ref a :: vs) us → Vals zs wv → ∃ us', Vals vs' us' ∧ ∀ fd, PlainFd fd (Z.P.kwn f) → bindArgs fd ⟨us, ks.zip wv⟩ = bindArgs fd ⟨us', []⟩) I ⟨F0, τ, s, q, h.bind fun x v τ1 s1 F1 H1 e1 q1 r1 h1 => ?_⟩) fun u s1 ⟨x, H1, I1, rx, a, c, dx, vs, f, ex, ea, em, h2⟩ => ?_) (meth_evalK hb hm (hw.names (pos := pos) (env := X.env)).2.1)
  · cases x with
    | ins c ds =>
      obtain ⟨a, dx, vs, ev, hF, hl, rl⟩ := id r1
      cases em : Z.P.meth c mid with
      | none => simp only [em] at h1; exact h1.elim
      | some f =>
        simp only [em] at h1
        subst ev
        refine ⟨a, c, dx, vs, f, rfl, q1.fh _ _ hF, em, F1, τ1, s1, q1, h1.bind fun ys wsv τ2 s2 F2 H2 e2 q2 r2 h2 => ⟨F2, τ2, s2, q2, h2.bind fun yz zs τ3 s3 F3 H3 e3 q3 r3 h3 => ?_⟩⟩
        cases ea : arr2 (Z.P.kwn f) (.ins c ds :: ys) ks yz with
        | none => rw [ea] at h3; exact h3.elim
        | some xs =>
          rw [ea] at h3
          obtain ⟨vs', rv, av⟩ := arr2_ok ea (RepL.cons (r1.mono (e2.trans e3)) (r2.mono e3)) r3
          refine ⟨fun z => ?_, vs', spF_of q3 rv h3, av⟩
          rw [z] at ea
          unfold arr2 at ea
          split at ea <;> simp at ea
    | _ => exact h1.elim
  · subst ex
    obtain rfl : u = Value.ref a := rx
    obtain ⟨ck, mk, nk⟩ := MS c f em
    refine getmeth_ok I1 ea (by rw [hK]; exact ck.cl) (by rw [hK]; exact mk) (zip_lookup_none nk) ?_
    refine callWith_zk (first := [.ref a]) hK (by rw [hK]; exact mk.kp) hs ha hw I1 h2 fun us wv s2 vs zs H2 I2 r r2 ⟨hne, vs', hq, av⟩ => ?_
    obtain ⟨us', rv', hb'⟩ := av (.ref a :: us) wv (.cons rfl r) r2
    have hko := hkw f hne
    rw [← hK] at hko
    exact wpAny_call (run_zk (us := us') (vs := vs') (FZ f) tk I2 rv' hq fun oc od fd osl lk => hb' fd (hko oc od fd osl lk))

/-! ### static methods, by their class -/
structure SmZ (T : Tb) (c : Nat) (m : Str) (f : Nat) : Prop where
  ga : PySem.W.specialIn T.K (.ref (T.cA c)) "__getattribute__" = some (some (.builtin "type.__getattribute__"))
  rd : ∃ mc p rest, PySem.W.readsIn T.K (T.cA c) mc = true ∧ PySem.W.findCls T.K (.ref (T.cA c)) mc m = some (.get (.builtin "staticmethod.__get__") (.ref p) .none (.ref (T.cA c))) ∧ PySem.W.recIn T.K p "staticmethod" = some (.ref (T.fA f) :: rest)
  kp : PySem.W.keepIn T.K (.ref (T.fA f)) = true
theorem getsm_ok {c f : Nat} {m : Str} {pl : Sem Bool} {Q : Value × List Value → Shared → Prop} {E : Value → Shared → Prop} (hK : X.K = Z.T.K) (I : Inv X pins σ H sh) (h : SmZ Z.T c m f) (k : ∀ s', Inv X pins σ H s' → Q (.ref (Z.T.fA f), []) s') : wpAny (model X.prog X.w) X.A (getMethod (.ref (Z.T.cA c)) m pl) Q E sh := by
  obtain ⟨ga, ⟨mc, p, rest, h1, h2, h3⟩, kp⟩ := h
  rw [← hK] at ga h1 h2 h3
  refine PySem.W.method_cls I.kIn ga (PySem.W.cls_bind I.kIn h1 h2 (wpAny_call (PySem.W.sm_get (s := { sh with toks := sh.toks + 1 }) I.kIn h3 (PySem.W.handed_on rfl ?_))))
  exact k _ (I.tok _)
theorem de_smeth {c : Nat} {x : Str} {m : Str} {mid : Nat} {args : List Expr} {cs : CAs} {p0 apos pos : Pos} (hK : X.K = Z.T.K) (FZ : ∀ f, FnZ Z X f) (MS : ∀ f, Z.P.smeth c mid = some (false, f) → SmZ Z.T c m f) (hct : ∀ f, Z.P.smeth c mid ≠ some (true, f)) (tk : Takes X W) (hg : Gl X x) (hmg : X.mg x = some (.ref (Z.T.cA c))) (hd : (x == ("__debug__" : Str)) = false)
    (ha : ArgsZ Z G W X args cs) (hm : methOk args apos pos = true) : PE X (.Call (.Attribute (.Name x p0) m apos) args [] pos) (tD Z G W (.smeth c mid cs)) := by
  have hs : argsOk args = true := by
    unfold methOk at hm
    simp only [Bool.and_eq_true, Bool.not_eq_true'] at hm
    cases args with
    | nil => rfl
    | cons e es =>
      have := hm.1.1
      rw [List.any_cons, Bool.or_eq_false_iff] at this
      simp [argsOk, this.1]
  refine ⟨fun pins sh σ H Q I h => ?_⟩
  obtain ⟨F0, τ, s, q, h⟩ := h
  simp only [ev] at h
  refine PySem.W.methodCall_KW (ld_glob I hg hmg ?_ hd) (meth_eval rfl hm)
  cases em : Z.P.smeth c mid with
  | none => rw [em] at h; exact h.elim
  | some bf =>
    obtain ⟨b, f⟩ := bf
    cases b with
    | true => exact absurd em (hct f)
    | false =>
      rw [em] at h
      simp only at h
      refine getsm_ok hK I (MS f em) fun s' I' => ?_
      refine callWith_z (first := []) hK (by rw [hK]; exact (MS f em).kp) hs ha I' ⟨F0, τ, s, q, h.bind fun xs vs τ1 s1 F1 H1 e1 q1 r1 h1 => spF_of q1 r1 h1⟩ fun us s1 vs H1 I1 r hq => ?_
      exact wpAny_call (run_z (FZ f) tk I1 r hq)
theorem de_smethK {c : Nat} {x : Str} {m : Str} {mid : Nat} {args : List Expr} {cs ws : CAs} {kws : List Keyword} {ks : List Str} {p0 apos pos : Pos} (hK : X.K = Z.T.K) (FZ : ∀ f, FnZ Z X f) (MS : ∀ f, Z.P.smeth c mid = some (false, f) → SmZ Z.T c m f) (hkw : ∀ f, Z.P.kwn f ≠ [] → KwOk Z.T.K (Z.T.fA f) (Z.P.kwn f)) (tk : Takes X W) (hg : Gl X x) (hmg : X.mg x = some (.ref (Z.T.cA c))) (hd : (x == ("__debug__" : Str)) = false)
    (ha : ArgsZ Z G W X args cs) (hw : KwsZ Z G W X kws ks ws) (hm : methOkK args kws apos pos = true) : PE X (.Call (.Attribute (.Name x p0) m apos) args kws pos) (tD Z G W (.smethK c mid cs ks ws)) := by
  have hs : args.any isStar = false := by
    unfold methOkK at hm
    simp only [Bool.and_eq_true, Bool.not_eq_true'] at hm
    exact hm.1.1
  refine ⟨fun pins sh σ H Q I h => ?_⟩
  obtain ⟨F0, τ, s, q, h⟩ := h
  simp only [ev] at h
  refine PySem.W.methodCall_KW (ld_glob I hg hmg ?_ hd) (meth_evalK rfl hm (hw.names (pos := pos) (env := X.env)).2.1)
  cases em : Z.P.smeth c mid with
  | none => rw [em] at h; exact h.elim
  | some bf =>
    obtain ⟨b, f⟩ := bf
    cases b with
    | true => rw [em] at h; exact h.elim
    | false =>
      rw [em] at h
      simp only at h
      refine getsm_ok hK I (MS f em) fun s' I' => ?_
      refine callWith_zk (first := []) (Kq := fun vs zs H3 => Z.P.kwn f ≠ [] ∧ ∃ vs', spF Z f vs' H3 Q (fun c d H' => W c d σ H') ∧ ∀ us wv, Vals vs us → Vals zs wv → ∃ us', Vals vs' us' ∧ ∀ fd, PlainFd fd (Z.P.kwn f) → bindArgs fd ⟨us, ks.zip wv⟩ = bindArgs fd ⟨us', []⟩) hK (by rw [hK]; exact (MS f em).kp) hs ha hw I' ⟨F0, τ, s, q, h.bind fun ys vs τ1 s1 F1 H1 e1 q1 r1 h1 => ⟨F1, τ1, s1, q1, h1.bind fun yz zs τ3 s3 F3 H3 e3 q3 r3 h3 => ?_⟩⟩ fun us wv s2 vs zs H2 I2 r r2 ⟨hne, vs', hq, av⟩ => ?_
      · cases ea : arr2 (Z.P.kwn f) ys ks yz with
        | none => rw [ea] at h3; exact h3.elim
        | some xs =>
          rw [ea] at h3
          obtain ⟨vs', rv, av⟩ := arr2_ok ea (r1.mono e3) r3
          refine ⟨fun z => ?_, vs', spF_of q3 rv h3, av⟩
          rw [z] at ea
          unfold arr2 at ea
          split at ea <;> simp at ea
      · obtain ⟨us', rv', hb'⟩ := av us wv r r2
        have hko := hkw f hne
        rw [← hK] at hko
        exact wpAny_call (run_zk (us := us') (vs := vs') (FZ f) tk I2 rv' hq fun oc od fd osl lk => hb' fd (hko oc od fd osl lk))
end
end Rz
end

section
set_option autoImplicit false
set_option Elab.async false
set_option linter.all false
set_option maxHeartbeats 1000000
set_option maxRecDepth 100000
namespace Rz
open PySem PySem.Spec PyProof.Rows L2

theorem _root_.L2.PI.imp {X : Cx} {tg e : Expr} {t t' : TI} (h : PI X tg e t) (k : ∀ σ H R, t' σ H R → t σ H R) : PI X tg e t' := ⟨fun pins s σ H R I q => h.run pins s σ H R I (k σ H R q)⟩

/-- an item: an old value, or a new pair -/
def YD (T : Tb) (F : Hp) (ds : List D) : Nat → Hp → V → Hp → Prop := fun i H x H' =>
  ∃ d, ds[i]? = some d ∧ ((H' = H ∧ Rep T F d x) ∨ ∃ p d1 d2 v1 v2, d = .tup [d1, d2] ∧ x = .ref p ∧ H p = none ∧ H' = upd H p (.tup [v1, v2]) ∧ Rep T F d1 v1 ∧ Rep T F d2 v2)
def WalkD (T : Tb) (F : Hp) (ds : List D) (J : It) : Prop := Walk J ds.length (fun H => Sub F H) (YD T F ds)

section
variable {T : Tb} {F : Hp} {ds es : List D} {xs ys : List V} {a b : Addr}
theorem walkD_list (ha : F a = some (.lst xs)) (r : RepL T F ds xs) : WalkD T F ds (Itl T.K a) := by
  unfold WalkD
  rw [← r.length]
  refine walk_list.mono (fun H h => SqL.of (h _ _ ha)) fun i H x H' hi _ ⟨e, hx⟩ => ?_
  have hi' : i < ds.length := by rw [← r.length]; exact hi
  obtain ⟨v, e1, e2⟩ := r.get (i := i) (d := ds[i]) (by simp)
  rw [hx] at e1; cases e1
  exact ⟨ds[i], by simp, .inl ⟨e, e2⟩⟩
theorem walkD_tup (ha : SqT T.K F a xs) (r : RepL T F ds xs) : WalkD T F ds (Itt T.K a) := by
  unfold WalkD
  rw [← r.length]
  refine walk_tup.mono (fun H h => h.sqT ha) fun i H x H' hi _ ⟨e, hx⟩ => ?_
  have hi' : i < ds.length := by rw [← r.length]; exact hi
  obtain ⟨v, e1, e2⟩ := r.get (i := i) (d := ds[i]) (by simp)
  rw [hx] at e1; cases e1
  exact ⟨ds[i], by simp, .inl ⟨e, e2⟩⟩
theorem walkD_range {lo : Int} {n : Nat} : WalkD T F (rangeD lo n) (Itr lo n) := by
  unfold WalkD
  have e : (rangeD lo n).length = n := by simp [rangeD]
  rw [e]
  refine walk_range.mono (fun _ _ => trivial) fun i H x H' hi _ ⟨e, hx⟩ => ?_
  exact ⟨.int (lo + i), by simp [rangeD, hi], .inl ⟨e, hx⟩⟩
theorem walkD_rangeDn {lo : Int} {n : Nat} : WalkD T F (rangeDn lo n) (Itc lo (-1) n) := by
  unfold WalkD
  have e : (rangeDn lo n).length = n := by simp [rangeDn]
  rw [e]
  refine walk_rangeC.mono (fun _ _ => trivial) fun i H x H' hi _ ⟨e, hx⟩ => ?_
  refine ⟨.int (lo - i), by simp [rangeDn, hi], .inl ⟨e, ?_⟩⟩
  rw [hx]
  show V.int _ = V.int _
  congr 1
  omega
theorem walkD_str {z : Str} : WalkD T F (z.cps.toList.map fun c => D.str ⟨#[c]⟩) (Its z) := by
  unfold WalkD
  have e : (z.cps.toList.map fun c => D.str ⟨#[c]⟩).length = z.cps.size := by simp
  rw [e]
  refine walk_str.mono (fun _ _ => trivial) fun i H x H' hi _ ⟨e, c, hc, hx⟩ => ?_
  refine ⟨.str ⟨#[c]⟩, ?_, .inl ⟨e, hx⟩⟩
  rw [List.getElem?_map]
  have : z.cps.toList[i]? = some c := by rw [← hc]; simp
  rw [this]; rfl
theorem enum_get {ds : List D} {i : Nat} {d : D} (h : ds[i]? = some d) : (enumD ds)[i]? = some (.tup [.int i, d]) := by
  unfold enumD
  rw [List.getElem?_map, List.getElem?_zipIdx, h]
  simp
theorem enum_len {ds : List D} : (enumD ds).length = ds.length := by simp [enumD]
theorem walkD_enumL (ha : F a = some (.lst xs)) (r : RepL T F ds xs) : WalkD T F (enumD ds) (Ite T.K a) := by
  unfold WalkD
  rw [enum_len, ← r.length]
  refine walk_enum.mono (fun H h => SqL.of (h _ _ ha)) fun i H x H' hi _ ⟨p, x1, y1, e1, e2, e3, e4, e5⟩ => ?_
  have hi' : i < ds.length := by rw [← r.length]; exact hi
  obtain ⟨v, q1, q2⟩ := r.get (i := i) (d := ds[i]) (by simp)
  obtain rfl : v = y1 := Option.some.inj (q1.symm.trans e5)
  cases e4
  exact ⟨_, enum_get (List.getElem?_eq_getElem hi'), .inr ⟨p, .int i, ds[i], .int i, v, rfl, e1, e2, e3, rfl, q2⟩⟩
theorem walk_enumT {K : PySem.W.Frag} : Walk (IteT K a) xs.length (fun H => SqT K H a xs) (YPair (fun i => some (.int (i : Nat))) (fun i => xs[i]?)) := by
  refine ⟨fun i _ hi q => ⟨xs, xs[i], q, by simp [hi]⟩, fun _ q => ⟨xs, q, Nat.le_refl _⟩, fun i H v H' _ q y => ?_⟩
  obtain ⟨T, x, h1, h2, h3, h4⟩ := y
  exact ⟨T, .int (i : Nat), x, h1, h2, h3, rfl, h4 xs q⟩
theorem walkD_enumT (ha : SqT T.K F a xs) (r : RepL T F ds xs) : WalkD T F (enumD ds) (IteT T.K a) := by
  unfold WalkD
  rw [enum_len, ← r.length]
  refine walk_enumT.mono (fun H h => h.sqT ha) fun i H x H' hi _ ⟨p, x1, y1, e1, e2, e3, e4, e5⟩ => ?_
  have hi' : i < ds.length := by rw [← r.length]; exact hi
  obtain ⟨v, q1, q2⟩ := r.get (i := i) (d := ds[i]) (by simp)
  obtain rfl : v = y1 := Option.some.inj (q1.symm.trans e5)
  cases e4
  exact ⟨_, enum_get (List.getElem?_eq_getElem hi'), .inr ⟨p, .int i, ds[i], .int i, v, rfl, e1, e2, e3, rfl, q2⟩⟩
def zipD (ds es : List D) : List D := (ds.zip es).map fun p => .tup [p.1, p.2]
theorem zip_len : (zipD ds es).length = min ds.length es.length := by simp [zipD]
theorem zip_get {i : Nat} {d e : D} (h : ds[i]? = some d) (k : es[i]? = some e) : (zipD ds es)[i]? = some (.tup [d, e]) := by
  unfold zipD
  rw [List.getElem?_map, List.getElem?_zip_eq_some (z := (d, e)) |>.mpr ⟨h, k⟩]
  rfl
theorem walk_zipTT {K : PySem.W.Frag} {n : Nat} (hn : n = min xs.length ys.length) : Walk (RZ.ItzT K a b) n (fun H => SqT K H a xs ∧ SqT K H b ys) (YPair (fun i => xs[i]?) (fun i => ys[i]?)) := by
  subst hn
  refine ⟨fun i _ hi q => ?_, fun _ q => ⟨xs, ys, q.1, q.2, by omega⟩, fun i H v H' _ q y => ?_⟩
  · have h1 : i < xs.length := by omega
    have h2 : i < ys.length := by omega
    exact ⟨xs, ys, xs[i], ys[i], q.1, q.2, by simp [h1], by simp [h2]⟩
  · obtain ⟨T, x, z, h1, h2, h3, h4, h5⟩ := y
    exact ⟨T, x, z, h1, h2, h3, h4 xs q.1, h5 ys q.2⟩
theorem walkD_zipL (ha : F a = some (.lst xs)) (hb : F b = some (.lst ys)) (r : RepL T F ds xs) (q : RepL T F es ys) : WalkD T F (zipD ds es) (Itz T.K a b) := by
  unfold WalkD
  rw [zip_len]
  refine (walk_zip (xs := xs) (ys := ys) (by rw [r.length, q.length])).mono (fun H h => ⟨SqL.of (h _ _ ha), SqL.of (h _ _ hb)⟩) fun i H x H' hi _ ⟨p, x1, y1, e1, e2, e3, e4, e5⟩ => ?_
  have h1 : i < ds.length := by omega
  have h2 : i < es.length := by omega
  obtain ⟨v, q1, q2⟩ := r.get (i := i) (d := ds[i]) (by simp)
  obtain ⟨w, q3, q4⟩ := q.get (i := i) (d := es[i]) (by simp)
  obtain rfl : v = x1 := Option.some.inj (q1.symm.trans e4)
  obtain rfl : w = y1 := Option.some.inj (q3.symm.trans e5)
  exact ⟨_, zip_get (List.getElem?_eq_getElem h1) (List.getElem?_eq_getElem h2), .inr ⟨p, ds[i], es[i], v, w, rfl, e1, e2, e3, q2, q4⟩⟩
theorem walkD_zipT (ha : SqT T.K F a xs) (hb : SqT T.K F b ys) (r : RepL T F ds xs) (q : RepL T F es ys) : WalkD T F (zipD ds es) (RZ.ItzT T.K a b) := by
  unfold WalkD
  rw [zip_len]
  refine (walk_zipTT (xs := xs) (ys := ys) (by rw [r.length, q.length])).mono (fun H h => ⟨h.sqT ha, h.sqT hb⟩) fun i H x H' hi _ ⟨p, x1, y1, e1, e2, e3, e4, e5⟩ => ?_
  have h1 : i < ds.length := by omega
  have h2 : i < es.length := by omega
  obtain ⟨v, q1, q2⟩ := r.get (i := i) (d := ds[i]) (by simp)
  obtain ⟨w, q3, q4⟩ := q.get (i := i) (d := es[i]) (by simp)
  obtain rfl : v = x1 := Option.some.inj (q1.symm.trans e4)
  obtain rfl : w = y1 := Option.some.inj (q3.symm.trans e5)
  exact ⟨_, zip_get (List.getElem?_eq_getElem h1) (List.getElem?_eq_getElem h2), .inr ⟨p, ds[i], es[i], v, w, rfl, e1, e2, e3, q2, q4⟩⟩
end

section
variable {S : Type} [Pen S] {Z : Cz S} {G : Fm} {W : WX} {X : Cx} {tg : Expr}
/-- the reading of what is walked -/
def iD (Z : Cz S) (G : Fm) (W : WX) (c : CI) : TI := fun σ H R => ∃ F τ s, SR Z.T Z.pn G F H σ τ s ∧ Post Z G (WalkD Z.T) F σ R W (evI Z.P Z.call Z.make c τ s)

/-- a value that is walked: a list, a tuple, a text -/
def iAny (K : PySem.W.Frag) (tl : TE) : TI := fun σ H R => tl σ H fun x H1 => (∃ a xs, x = .ref a ∧ SqL K H1 a xs ∧ R (Itl K a) H1) ∨ (∃ a xs, x = .ref a ∧ SqT K H1 a xs ∧ R (Itt K a) H1) ∨ ∃ z, x = .str z ∧ R (Its z) H1
theorem pi_any {e : Expr} {te : TE} (he : PE X e te) : PI X tg e (iAny X.K te) := by
  refine ⟨fun pins s σ H R I h => ?_⟩
  refine thn (he.run pins s σ H _ I h) fun v s1 ⟨x, H1, I1, r1, q1⟩ => ?_
  rcases q1 with ⟨a, xs, e, hq, q⟩ | ⟨a, xs, e, hq, q⟩ | ⟨z, e, q⟩
  · subst e
    cases r1
    obtain ⟨its, rv, p, hz⟩ := I1.list hq
    refine wpAny_pyIter_list p.isList ?_
    exact pi_one (tk := s1.toks) I1 _ (turn_list a _) ⟨_, Heap.get?_push_size _ rfl, rfl, rfl⟩ q
  · subst e
    cases r1
    obtain ⟨its, rv, p, hz⟩ := I1.tuple hq
    refine wpAny_pyIter_tuple (show s1.heap.IsTuple a its.toArray from p) ?_
    exact pi_one (tk := s1.toks) I1 _ (turn_tuple a _) ⟨_, Heap.get?_push_size _ rfl, rfl, rfl⟩ q
  · subst e
    obtain ⟨t, rfl⟩ := r1
    cases ha : z.cps.all (· < 128)
    · exact wpAny_pyIter_wide ha (pi_one (tk := s1.toks) I1 _ (turn_str _ z t "str_iterator" (.inr rfl)) ⟨_, Heap.get?_push_size _ rfl, rfl, rfl⟩ q)
    · exact wpAny_pyIter_ascii ha (pi_one (tk := s1.toks) I1 _ (turn_str _ z t "str_ascii_iterator" (.inl rfl)) ⟨_, Heap.get?_push_size _ rfl, rfl, rfl⟩ q)

theorem di_e {e : Expr} {c : CE} (hK : X.K = Z.T.K) (he : PE X e (tD Z G W c)) : PI X tg e (iD Z G W (.e c)) := (pi_any he).imp fun σ H R => by
  rintro ⟨F, τ, s, q, h⟩
  simp only [evI] at h
  refine ⟨F, τ, s, q, h.bind fun x v τ1 s1 F1 H1 e1 q1 r1 h1 => ?_⟩
  rw [hK]
  obtain ⟨ds, e2, h1⟩ := h1.of
  cases x with
  | lst xs =>
    cases e2
    obtain ⟨a, vs, ev, hs, rl⟩ := r1
    exact .inl ⟨a, vs, ev, SqL.of (q1.fh _ _ hs), h1.ok q1 (walkD_list hs rl)⟩
  | tup xs =>
    cases e2
    obtain ⟨a, vs, ev, hs, rl⟩ := r1
    exact .inr (.inl ⟨a, vs, ev, q1.fh.sqT hs, h1.ok q1 (walkD_tup hs rl)⟩)
  | str z =>
    refine .inr (.inr ⟨z, r1, ?_⟩)
    simp only [itemsV] at e2
    cases hl : lim z.length with
    | false => rw [hl] at e2; cases e2
    | true => rw [hl] at e2; cases e2; exact h1.ok q1 walkD_str
  | _ => cases e2

/-- one argument, two -/
theorem da_one {e : Expr} {c : CE} (he : PE X e (tD Z G W c)) (hs : isStar e = false) : PA X [e] (tDA Z G W (.cons false c .nil)) := da_cons he da_nil (starEach_plain hs)
theorem da_two {e f : Expr} {c d : CE} (he : PE X e (tD Z G W c)) (hf : PE X f (tD Z G W d)) (hs : isStar e = false) (hs2 : isStar f = false) : PA X [e, f] (tDA Z G W (.cons false c (.cons false d .nil))) := da_cons he (da_one hf hs2) (starEach_plain hs)
theorem small62 {i : Int} (h : lim i.natAbs = true) : -(2 ^ 62) ≤ i ∧ i < 2 ^ 62 := by
  have := lim_of h
  omega
theorem di_r1 {a : Expr} {c : CE} {p pos : Pos} (hg : Gl X "range") (hm : X.mg "range" = none) (he : PE X a (tD Z G W c)) (hs : isStar a = false) : PI X tg (.Call (.Name "range" p) [a] [] pos) (iD Z G W (.r1 c)) :=
  (pi_range1 hg hm (da_one he hs) (starEach_plain hs)).imp fun σ H R => by
    rintro ⟨F, τ, s, q, h⟩
    simp only [evI] at h
    refine ⟨F, τ, s, q, ?_⟩
    simp only [evA]
    cases hx : ev Z.P Z.call Z.make c τ s with
    | no => rw [hx] at h; exact h.elim
    | exc k fs τ1 s1 => rw [hx] at h; exact h
    | ok x τ1 s1 =>
      rw [hx] at h
      intro vs H1 F1 e1 q1 r1
      have h1 := Post.mono e1 h
      obtain ⟨v, r, rfl, rx, rr⟩ := r1
      cases rr
      cases x with
      | int n =>
        obtain ⟨hl, h1⟩ := Post.bif h1
        cases rx
        exact ⟨n, rfl, (small62 hl).1, (small62 hl).2, h1.ok q1 walkD_range⟩
      | _ => exact h1.elim
theorem ev_two {α β : Type} {Rp : Hp → α → β → Prop} {F : Hp} {σ : L2.St} {τ : List Slot} {s : S} {a b : CE} {k : D → D → List Slot → S → Out S α} {Q : β → Hp → Prop} {K : List V → Hp → Prop}
    (h : Post Z G Rp F σ Q W ((ev Z.P Z.call Z.make a τ s).bind fun x τ s => (ev Z.P Z.call Z.make b τ s).bind fun y τ s => k x y τ s))
    (go : ∀ x y v w τ1 s1 F1 H1, Sub F F1 → SR Z.T Z.pn G F1 H1 σ τ1 s1 → Rep Z.T F1 x v → Rep Z.T F1 y w → Post Z G Rp F1 σ Q W (k x y τ1 s1) → K [v, w] H1) :
    Post Z G (RepL Z.T) F σ K W (evA Z.P Z.call Z.make (.cons false a (.cons false b .nil)) τ s) := by
  simp only [evA]
  cases hx : ev Z.P Z.call Z.make a τ s with
  | no => rw [hx] at h; exact h.elim
  | exc k fs τ1 s1 => rw [hx] at h; exact h
  | ok x τ1 s1 =>
    rw [hx] at h
    simp only [Out.bind] at h ⊢
    cases hy : ev Z.P Z.call Z.make b τ1 s1 with
    | no => rw [hy] at h; exact h.elim
    | exc k fs τ1 s1 => rw [hy] at h; exact h
    | ok y τ2 s2 =>
      rw [hy] at h
      intro vs H1 F1 e1 q1 r1
      obtain ⟨v, r, rfl, rx, w, r', rfl, ry, rr⟩ := r1
      cases rr
      exact go x y v w τ2 s2 F1 H1 e1 q1 rx ry (Post.mono e1 h)
theorem di_r2 {a b : Expr} {c d : CE} {p pos : Pos} (hg : Gl X "range") (hm : X.mg "range" = none) (ha : PE X a (tD Z G W c)) (hb : PE X b (tD Z G W d)) (hs : isStar a = false) (hs2 : isStar b = false) : PI X tg (.Call (.Name "range" p) [a, b] [] pos) (iD Z G W (.r2 c d)) :=
  (pi_range2 hg hm (da_two ha hb hs hs2) (by rw [starEach_plain hs, starEach_plain hs2]; rfl) (starEach_plain hs2)).imp fun σ H R => by
    rintro ⟨F, τ, s, q, h⟩
    simp only [evI] at h
    refine ⟨F, τ, s, q, ev_two h fun x y v w τ1 s1 F1 H1 e1 q1 rx ry h1 => ?_⟩
    cases x with
    | int i =>
      cases y with
      | int j =>
        obtain ⟨hl, h1⟩ := Post.bif h1
        simp only [Bool.and_eq_true] at hl
        cases rx; cases ry
        exact ⟨i, j, rfl, ⟨(small62 hl.1.2).1, (small62 hl.1.2).2, (small62 hl.2).1, (small62 hl.2).2⟩, h1.ok q1 walkD_range⟩
      | _ => exact h1.elim
    | _ => exact h1.elim
theorem di_en {e : Expr} {c : CE} {p pos tpos : Pos} {elts : List Expr} {kk : Nat} (hK : X.K = Z.T.K) (hg : Gl X "enumerate") (hm : X.mg "enumerate" = none) (he : PE X e (tD Z G W c)) (hs : isStar e = false) :
    PI X (.Tuple elts kk tpos) (.Call (.Name "enumerate" p) [e] [] pos) (iD Z G W (.en c)) :=
  (pi_enumA hg hm (da_one he hs) (starEach_plain hs)).imp fun σ H R => by
    rintro ⟨F, τ, s, q, h⟩
    simp only [evI] at h
    refine ⟨F, τ, s, q, ?_⟩
    simp only [evA]
    cases hx : ev Z.P Z.call Z.make c τ s with
    | no => rw [hx] at h; exact h.elim
    | exc k fs τ1 s1 => rw [hx] at h; exact h
    | ok x τ1 s1 =>
      rw [hx] at h
      intro vs H1 F1 e1 q1 r1
      have h1 := Post.mono e1 h
      obtain ⟨v, r, rfl, rx, rr⟩ := r1
      cases rr
      rw [hK]
      cases x with
      | lst xs =>
        obtain ⟨a, vs, ev, hs, rl⟩ := rx
        exact ⟨a, vs, by rw [ev], .inl ⟨SqL.of (q1.fh _ _ hs), h1.ok q1 (walkD_enumL hs rl)⟩⟩
      | tup xs =>
        obtain ⟨a, vs, ev, hs, rl⟩ := rx
        exact ⟨a, vs, by rw [ev], .inr ⟨q1.fh.sqT hs, h1.ok q1 (walkD_enumT hs rl)⟩⟩
      | _ => exact h1.elim
theorem di_zip {e f : Expr} {c d : CE} {p pos tpos : Pos} {elts : List Expr} {kk : Nat} (hK : X.K = Z.T.K) (hg : Gl X "zip") (hm : X.mg "zip" = none) (he : PE X e (tD Z G W c)) (hf : PE X f (tD Z G W d)) (hs : isStar e = false) (hs2 : isStar f = false) :
    PI X (.Tuple elts kk tpos) (.Call (.Name "zip" p) [e, f] [] pos) (iD Z G W (.zip c d)) :=
  (RZ.pi_zipA hg hm (da_two he hf hs hs2) (by rw [starEach_plain hs]) (by rw [starEach_plain hs2]; rfl)).imp fun σ H R => by
    rintro ⟨F, τ, s, q, h⟩
    simp only [evI] at h
    refine ⟨F, τ, s, q, ev_two h fun x y v w τ1 s1 F1 H1 e1 q1 rx ry h1 => ?_⟩
    rw [hK]
    cases x with
    | lst xs =>
      cases y with
      | lst ys =>
        obtain ⟨a, vs, ev, hs, rl⟩ := rx
        obtain ⟨b, ws, ev2, hs2, rl2⟩ := ry
        exact ⟨a, b, vs, ws, by rw [ev, ev2], .inl ⟨SqL.of (q1.fh _ _ hs), SqL.of (q1.fh _ _ hs2), h1.ok q1 (walkD_zipL hs hs2 rl rl2)⟩⟩
      | _ => exact h1.elim
    | tup xs =>
      cases y with
      | tup ys =>
        obtain ⟨a, vs, ev, hs, rl⟩ := rx
        obtain ⟨b, ws, ev2, hs2, rl2⟩ := ry
        exact ⟨a, b, vs, ws, by rw [ev, ev2], .inr ⟨q1.fh.sqT hs, q1.fh.sqT hs2, h1.ok q1 (walkD_zipT hs hs2 rl rl2)⟩⟩
      | _ => exact h1.elim
    | _ => exact h1.elim
end
end Rz
end

section
set_option autoImplicit false
set_option Elab.async false
set_option linter.all false
set_option maxHeartbeats 1000000
set_option maxRecDepth 100000
namespace Rz
open PySem PySem.Spec PyProof.Rows L2

section
variable {S : Type} [Pen S] {T : Tb} {pn : Pn S} {G : Fm} {F H : Hp} {σ : L2.St} {τ : List Slot} {s : S}
/-! ### slots forgotten -/
theorem wipe_get {i : Nat} : ∀ {vs : List Nat}, i ∉ vs → (wipe σ vs)[i]? = σ[i]?
  | [], _ => rfl
  | v :: vs, h => by
    unfold wipe
    rw [List.getElem?_set_ne (fun e => h (by simp [e])), wipe_get (fun m => h (List.mem_cons_of_mem _ m))]
theorem wipeT_len : ∀ {vs : List Nat}, (wipeT τ vs).length = τ.length
  | [] => rfl
  | v :: vs => by unfold wipeT; rw [List.length_set, wipeT_len]
theorem wipeT_get {i : Nat} : ∀ {vs : List Nat}, i ∉ vs → (wipeT τ vs)[i]? = τ[i]?
  | [], _ => rfl
  | v :: vs, h => by
    unfold wipeT
    rw [List.getElem?_set_ne (fun e => h (by simp [e])), wipeT_get (fun m => h (List.mem_cons_of_mem _ m))]
theorem backT_len {τ0 : List Slot} : ∀ {vs : List Nat}, (backT τ0 τ vs).length = τ.length
  | [] => rfl
  | v :: vs => by unfold backT; rw [List.length_set, backT_len]
theorem backT_get {τ0 : List Slot} {i : Nat} {x : Slot} : ∀ {vs : List Nat}, (backT τ0 τ vs)[i]? = some x → (i ∉ vs ∧ τ[i]? = some x) ∨ x = .none ∨ ∃ d, x = .fz d ∧ τ0[i]? = some (.fz d)
  | [], h => .inl ⟨by simp, h⟩
  | v :: vs, h => by
    unfold backT at h
    by_cases e : v = i
    · subst e
      have hl : v < (backT τ0 τ vs).length := by have := (List.getElem?_eq_some_iff.mp h).1; simpa using this
      rw [List.getElem?_set_self hl] at h
      cases h
      refine .inr ?_
      cases q : τ0[v]? with
      | none => exact .inl rfl
      | some y => cases y <;> first | exact .inl rfl | exact .inr ⟨_, rfl, rfl⟩
    · rw [List.getElem?_set_ne e] at h
      rcases backT_get h with ⟨a, b⟩ | z
      · exact .inl ⟨by simp only [List.mem_cons, not_or]; exact ⟨fun z => e z.symm, a⟩, b⟩
      · exact .inr z
theorem getD_eq {σ σ' : L2.St} {i : Nat} (h : σ[i]? = σ'[i]?) : σ.getD i none = σ'.getD i none := by
  rw [List.getD_eq_getElem?_getD, List.getD_eq_getElem?_getD, h]
/-- one slot forgotten -/
theorem SR.forget (h : SR T pn G F H σ τ s) {i : Nat} {o : Option V} : SR T pn G F H (σ.set i o) (τ.set i .none) s := by
  refine ⟨h.fh, h.pen, h.penF, h.pinv, h.gh, by simpa using h.len, fun j y e => ?_, fun j k y z b hjk e1 e2 o1 o2 e3 e4 => ?_⟩
  · by_cases hj : j = i
    · subst hj
      have jlt : j < τ.length := by have := (List.getElem?_eq_some_iff.mp e).1; simpa using this
      rw [List.getElem?_set_self jlt] at e
      cases e
      trivial
    · rw [List.getElem?_set_ne (Ne.symm hj)] at e
      have q := h.sl j y e
      rw [getD_eq (σ' := σ) (by rw [List.getElem?_set_ne (Ne.symm hj)])]
      exact q
  · have jlt : j < τ.length := by have := (List.getElem?_eq_some_iff.mp e1).1; simpa using this
    have klt : k < τ.length := by have := (List.getElem?_eq_some_iff.mp e2).1; simpa using this
    by_cases hj : j = i
    · subst hj; rw [List.getElem?_set_self jlt] at e1; cases e1; cases o1
    · by_cases hk : k = i
      · subst hk; rw [List.getElem?_set_self klt] at e2; cases e2; cases o2
      · rw [List.getElem?_set_ne (Ne.symm hj)] at e1
        rw [List.getElem?_set_ne (Ne.symm hk)] at e2
        rw [getD_eq (σ' := σ) (by rw [List.getElem?_set_ne (Ne.symm hj)])] at e3
        rw [getD_eq (σ' := σ) (by rw [List.getElem?_set_ne (Ne.symm hk)])] at e4
        exact h.ap j k y z b hjk e1 e2 o1 o2 e3 e4
theorem SR.wipe (h : SR T pn G F H σ τ s) : ∀ (vs : List Nat), SR T pn G F H (wipe σ vs) (wipeT τ vs) s
  | [] => h
  | v :: vs => by unfold L2.wipe wipeT; exact (SR.wipe h vs).forget
/-- an address taken into the frame -/
theorem SR.frame (h : SR T pn G F H σ τ s) {p : Addr} {o : HO} (hp : H p = none) : SR T pn (G.upd p o) F (upd H p o) σ τ s := by
  have q := h.newU (o := o) hp
  have neH : ∀ {a : Addr} {u : HO}, H a = some u → a ≠ p := fun {a u} e z => by rw [z, hp] at e; cases e
  refine ⟨q.fh, q.pen, q.penF, q.pinv, fun a u e => ?_, q.len, fun i x e => ?_, q.ap⟩
  · by_cases z : a = p
    · subst z
      rw [Fm.upd_same] at e
      rw [upd_same]
      exact ⟨e, h.fh.none hp, fun e' => by rw [e', h.pen] at hp; cases hp⟩
    · rw [Fm.upd_ne z] at e; exact q.gh a u e
  · have k := h.sl i x e
    cases x with
    | none => trivial
    | fz d => exact k
    | own ds =>
      obtain ⟨a, ob, e1, e2, e3, e4, e5, o'⟩ := k
      exact ⟨a, ob, e1, by rw [upd_ne (neH e2)]; exact e2, e3, by rw [Fm.upd_ne (neH e2)]; exact e4, e5, o'⟩
    | ownI c ds =>
      obtain ⟨a, ob, e1, e2, e3, e4, e5, o'⟩ := k
      exact ⟨a, ob, e1, by rw [upd_ne (neH e2)]; exact e2, e3, ⟨by rw [Fm.upd_ne (neH e2)]; exact e4.1, e4.2⟩, e5, o'⟩
/-- the framed object is rewritten -/
theorem SR.reframe {p : Addr} {o o' : HO} (h : SR T pn (G.upd p o) F H σ τ s) : SR T pn (G.upd p o') F (upd H p o') σ τ s := by
  obtain ⟨g1, g2, g3⟩ := h.gh p o Fm.upd_same
  have neF : ∀ {a : Addr} {u : HO}, F a = some u → a ≠ p := fun {a u} e z => by rw [z, g2] at e; cases e
  refine ⟨fun a u e => by rw [upd_ne (neF e)]; exact h.fh a u e, by rw [upd_ne (Ne.symm g3)]; exact h.pen, h.penF, h.pinv, fun a u e => ?_, h.len, fun i x e => ?_, h.ap⟩
  · by_cases z : a = p
    · subst z
      rw [Fm.upd_same] at e
      rw [upd_same]
      exact ⟨e, g2, g3⟩
    · rw [Fm.upd_ne z] at e
      rw [upd_ne z]
      exact h.gh a u (by rw [Fm.upd_ne z]; exact e)
  · have k := h.sl i x e
    cases x with
    | none => trivial
    | fz d => exact k
    | own ds =>
      obtain ⟨a, ob, e1, e2, e3, e4, e5, o'⟩ := k
      have z : a ≠ p := fun z => by rw [z, Fm.upd_same] at e4; cases e4
      rw [Fm.upd_ne z] at e4
      exact ⟨a, ob, e1, by rw [upd_ne z]; exact e2, e3, by rw [Fm.upd_ne z]; exact e4, e5, o'⟩
    | ownI c ds =>
      obtain ⟨a, ob, e1, e2, e3, ⟨e4, e6⟩, e5, o'⟩ := k
      have z : a ≠ p := fun z => by rw [z, Fm.upd_same] at e4; cases e4
      rw [Fm.upd_ne z] at e4
      exact ⟨a, ob, e1, by rw [upd_ne z]; exact e2, e3, ⟨by rw [Fm.upd_ne z]; exact e4, e6⟩, e5, o'⟩
/-- the heap without an address -/
def cut (H : Hp) (p : Addr) : Hp := fun b => if b = p then none else H b
theorem cut_same {p : Addr} : cut H p p = none := if_pos rfl
theorem cut_ne {p b : Addr} (h : b ≠ p) : cut H p b = H b := if_neg h
theorem upd_cut {p : Addr} {o : HO} (h : H p = some o) : upd (cut H p) p o = H := by
  funext b
  by_cases e : b = p
  · subst e; rw [upd_same, h]
  · rw [upd_ne e, cut_ne e]
/-- the framed object out of the frame and out of the heap -/
theorem SR.unframe {p : Addr} {o : HO} (h : SR T pn (G.upd p o) F H σ τ s) (hG : G p = none) : SR T pn G F (cut H p) σ τ s := by
  obtain ⟨g1, g2, g3⟩ := h.gh p o Fm.upd_same
  have neF : ∀ {a : Addr} {u : HO}, F a = some u → a ≠ p := fun {a u} e z => by rw [z, g2] at e; cases e
  refine ⟨fun a u e => by rw [cut_ne (neF e)]; exact h.fh a u e, by rw [cut_ne (Ne.symm g3)]; exact h.pen, h.penF, h.pinv, fun a u e => ?_, h.len, fun i x e => ?_, h.ap⟩
  · have z : a ≠ p := fun z => by rw [z, hG] at e; cases e
    rw [cut_ne z]
    exact h.gh a u (by rw [Fm.upd_ne z]; exact e)
  · have k := h.sl i x e
    cases x with
    | none => trivial
    | fz d => exact k
    | own ds =>
      obtain ⟨a, ob, e1, e2, e3, e4, e5, o'⟩ := k
      have z : a ≠ p := fun z => by rw [z, Fm.upd_same] at e4; cases e4
      rw [Fm.upd_ne z] at e4
      exact ⟨a, ob, e1, by rw [cut_ne z]; exact e2, e3, e4, e5, o'⟩
    | ownI c ds =>
      obtain ⟨a, ob, e1, e2, e3, ⟨e4, e6⟩, e5, o'⟩ := k
      have z : a ≠ p := fun z => by rw [z, Fm.upd_same] at e4; cases e4
      rw [Fm.upd_ne z] at e4
      exact ⟨a, ob, e1, by rw [cut_ne z]; exact e2, e3, ⟨e4, e6⟩, e5, o'⟩
/-- the slots come back after a block -/
theorem SR.back {F0 H0 : Hp} {τ0 : List Slot} {s0 : S} {vs : List Nat} (h : SR T pn G F H (L2.wipe σ vs) (wipeT τ vs) s) (h0 : SR T pn G F0 H0 σ τ0 s0) (e : Sub F0 F) : SR T pn G F H σ (backT τ0 τ vs) s := by
  have hl : σ.length = τ.length := by have := h.len; rw [wipe_length, wipeT_len] at this; exact this
  refine ⟨h.fh, h.pen, h.penF, h.pinv, h.gh, by rw [backT_len]; exact hl, fun j y k => ?_, fun j k y z b hjk e1 e2 o1 o2 e3 e4 => ?_⟩
  · rcases backT_get k with ⟨a, b⟩ | rfl | ⟨d, rfl, b⟩
    · have q := h.sl j y (by rw [wipeT_get a]; exact b)
      rw [getD_eq (σ' := σ) (wipe_get a)] at q
      exact q
    · trivial
    · obtain ⟨v, e1, r⟩ := h0.sl j _ b
      exact ⟨v, e1, r.mono e⟩
  · rcases backT_get e1 with ⟨a1, b1⟩ | rfl | ⟨d, rfl, _⟩
    · rcases backT_get e2 with ⟨a2, b2⟩ | rfl | ⟨d, rfl, _⟩
      · exact h.ap j k y z b hjk (by rw [wipeT_get a1]; exact b1) (by rw [wipeT_get a2]; exact b2) o1 o2 (by rw [getD_eq (σ' := σ) (wipe_get a1)]; exact e3) (by rw [getD_eq (σ' := σ) (wipe_get a2)]; exact e4)
      · cases o2
      · cases o2
    · cases o1
    · cases o1
end

/-! ### targets -/
def gNames : List Nat → TGs
  | [] => gNil
  | i :: is => gCons (gName i) (gNames is)
def gT (K : PySem.W.Frag) : Tg → TG
  | .one i => gName i
  | .many is => gTup K is.length (gNames is)
section
variable {S : Type} [Pen S] {T : Tb} {pn : Pn S} {G : Fm} {F H : Hp} {s : S}
theorem gNames_of : ∀ {is : List Nat} {xs : List D} {vs : List V} {σ : L2.St} {τ τ' : List Slot} {Q : L2.St → Hp → Prop}, SR T pn G F H σ τ s → RepL T F xs vs → bindN is xs τ = some τ' →
    (∀ σ', SR T pn G F H σ' τ' s → σ'.length = σ.length → (∀ j, j ∉ is → σ'[j]? = σ[j]?) → Q σ' H) → gNames is vs σ H Q
  | [], [], vs, σ, τ, τ', Q, q, r, e, k => by
    cases e
    exact ⟨r, k σ q rfl fun _ _ => rfl⟩
  | i :: is, x :: xs, vs, σ, τ, τ', Q, q, r, e, k => by
    obtain ⟨v, vr, rfl, rx, rr⟩ := r
    refine ⟨v, vr, rfl, ?_⟩
    refine gNames_of (q.setF _ rx) rr e fun σ' q' l h => k σ' q' (by rw [l, List.length_set]) fun j hj => ?_
    rw [h j (fun m => hj (List.mem_cons_of_mem _ m)), List.getElem?_set_ne (fun z => hj (by simp [z]))]
  | [], _ :: _, _, _, _, _, _, _, _, e, _ => by cases e
  | _ :: _, [], _, _, _, _, _, _, _, e, _ => by cases e
theorem bindN_len : ∀ {is : List Nat} {xs : List D} {τ τ' : List Slot}, bindN is xs τ = some τ' → xs.length = is.length
  | [], [], _, _, _ => rfl
  | i :: is, x :: xs, τ, τ', e => by simp [bindN_len (is := is) (xs := xs) e]
  | [], _ :: _, _, _, e => by cases e
  | _ :: _, [], _, _, e => by cases e
theorem gT_of {tg : Tg} {d : D} {v : V} {σ : L2.St} {τ τ' : List Slot} {Q : L2.St → Hp → Prop} (q : SR T pn G F H σ τ s) (r : Rep T F d v) (e : bindT tg d τ = some τ')
    (k : ∀ σ', SR T pn G F H σ' τ' s → σ'.length = σ.length → (∀ j, j ∉ tg.slots → σ'[j]? = σ[j]?) → Q σ' H) : gT T.K tg v σ H Q := by
  cases tg with
  | one i =>
    cases e
    exact k _ (q.setF _ r) (by simp) fun j hj => List.getElem?_set_ne (fun z => hj (by simp [Tg.slots, z]))
  | many is =>
    cases d with
    | tup xs =>
      obtain ⟨a, vs, ev, hs, rl⟩ := r
      refine ⟨a, vs, ev, q.fh.sqT hs, by rw [rl.length]; exact bindN_len e, gNames_of q rl e k⟩
    | _ => cases e
theorem wipe_same {σ σ' : L2.St} {vs : List Nat} (hl : σ'.length = σ.length) (h : ∀ j, j ∉ vs → σ'[j]? = σ[j]?) : wipe σ' vs = wipe σ vs := by
  refine List.ext_getElem? fun j => ?_
  by_cases hj : j ∈ vs
  · have go : ∀ {σ : L2.St} {vs : List Nat}, j ∈ vs → (wipe σ vs)[j]? = if j < σ.length then some none else none := by
      intro σ vs
      induction vs with
      | nil => intro m; cases m
      | cons v vs ih =>
        intro m
        unfold wipe
        by_cases e : v = j
        · subst e
          by_cases hv : v < σ.length
          · rw [List.getElem?_set_self (by rw [wipe_length]; exact hv), if_pos hv]
          · rw [List.getElem?_eq_none (by rw [List.length_set, wipe_length]; omega), if_neg hv]
        · rw [List.getElem?_set_ne e]
          exact ih ((List.mem_cons.mp m).resolve_left (fun z => e z.symm))
    rw [go hj, go hj, hl]
  · rw [wipe_get hj, wipe_get hj, h j hj]
theorem wipe_wipe {σ : L2.St} {vs : List Nat} : wipe (wipe σ vs) vs = wipe σ vs := wipe_same (by rw [wipe_length]) fun j hj => wipe_get hj
end

section
variable {S : Type} [Pen S] {Z : Cz S} {G : Fm} {W : WX} {X : Cx}
def WF : WX := fun _ _ _ _ => False
/-- tests of a clause -/
def tCs (Z : Cz S) (G : Fm) (W : WX) (c : CAs) : TT := fun σ H Q => ∃ F τ s, SR Z.T Z.pn G F H σ τ s ∧ Post Z G EqR F σ Q W (evC Z.P Z.call Z.make c τ s)
theorem dts_nil : PTs X [] (tCs Z G W .nil) := ⟨fun pins s σ H Q I h => pts_nil.run pins s σ H Q I (by
  obtain ⟨F, τ, s', q, h⟩ := h
  simp only [evC] at h
  exact h.ok q rfl)⟩
theorem dts_one {e : Expr} {c : CE} (he : PT X e (tDT Z G W c)) : PTs X [e] (tCs Z G W (.cons false c .nil)) := ⟨fun pins s σ H Q I h => (pts_one he).run pins s σ H Q I (by
  obtain ⟨F, τ, s', q, h⟩ := h
  refine ⟨F, τ, s', q, ?_⟩
  simp only [evC] at h
  refine Post.imp (Q := Q) ?_ fun _ _ z => z
  revert h
  cases ev Z.P Z.call Z.make c τ s' with
  | no => exact fun h => h
  | exc k fs τ1 s1 => exact fun h => h
  | ok x τ1 s1 =>
    intro h
    simp only [Out.bind] at h ⊢
    revert h
    cases truV Z.P Z.call x τ1 s1 with
    | no => exact fun h => h
    | exc k fs τ1 s1 => exact fun h => h
    | ok t τ2 s2 =>
      intro h
      cases t with
      | true => exact h
      | false => exact h)⟩
/-- a reading of a new list -/
def tDL (Z : Cz S) (G : Fm) (W : WX) (c : CW) : TE := fun σ H Q => ∃ F τ s, SR Z.T Z.pn G F H σ τ s ∧ Post Z G (RepL Z.T) F σ (fun vs H1 => ∀ p, H1 p = none → Q (.ref p) (upd H1 p (.lst vs))) W (evW Z.P Z.call Z.make c τ s)
/-- .. frozen -/
theorem de_nl {e : Expr} {w : CW} (h : PE X e (tDL Z G W w)) : PE X e (tD Z G W (.nl w)) := h.imp fun σ H Q => by
  rintro ⟨F, τ, s, q, h⟩
  simp only [ev] at h
  refine ⟨F, τ, s, q, h.bind fun xs vs τ1 s1 F1 H1 e1 q1 r1 h1 => fun p hp => ?_⟩
  have hF := q1.fh.none hp
  exact h1 _ _ (upd F1 p (.lst vs)) (Sub.new hF) (q1.new hp) ⟨p, vs, rfl, upd_same, r1.mono (Sub.new hF)⟩
theorem dw_lst {es : List Expr} {cs : CAs} {pos : Pos} (ha : PA X es (tDA Z G W cs)) : PE X (.List es pos) (tDL Z G W (.lst cs)) := (pe_lst ha).imp fun σ H Q => by
  rintro ⟨F, τ, s, q, h⟩
  simp only [evW] at h
  refine ⟨F, τ, s, q, h.bind fun xs vs τ1 s1 F1 H1 e1 q1 r1 h1 => ?_⟩
  obtain ⟨hl, h1⟩ := h1.bif
  exact ⟨by rw [r1.length]; exact lim_size hl, h1.ok q1 r1⟩
theorem Post.nx {α β γ δ : Type} {Rp : Hp → α → β → Prop} {Rp2 : Hp → γ → δ → Prop} {F : Hp} {σ : L2.St} {G' : Fm} {σ' : L2.St} {K : β → Hp → Prop} {Q : δ → Hp → Prop} {x : Out S α} {f : α → List Slot → S → Out S γ} (h : Post Z G Rp2 F σ Q W (x.nx.bind f))
    (k : ∀ a b τ1 s1 F1 H1, Sub F F1 → SR Z.T Z.pn G' F1 H1 σ' τ1 s1 → Rp F1 a b → Post Z G Rp2 F1 σ Q W (f a τ1 s1) → K b H1) : Post Z G' Rp F σ' K WF x := by
  cases x with
  | ok a τ s => exact fun b H' F' e q r => k a b τ s F' H' e q r (Post.mono e h)
  | exc c fs τ s => exact h.elim
  | no => exact h
/-- the comprehension's reading -/
theorem tLc_of {elt : CE} {tg : Tg} {ci : CI} {cs : CAs} {vs : List Nat} {σ : L2.St} {H : Hp} {Q : VK} (hv : vs = tg.slots) (h : tDL Z G W (.lc elt tg ci cs) σ H Q) :
    tLc (iD Z G W ci) (gT Z.T.K tg) (fun σ H Q => ∃ G, tCs Z G WF cs σ H Q) (fun σ H Q => ∃ G, tD Z G WF elt σ H Q) vs σ H Q := by
  subst hv
  obtain ⟨F, τ, s, q, h⟩ := h
  simp only [evW] at h
  refine ⟨F, τ, s, q, h.bind fun ds J τ1 s1 F1 H1 e1 q1 wk h1 => ?_⟩
  obtain ⟨hl, h1⟩ := h1.bif
  intro Dd hD
  have hG : G Dd = none := q1.gfree hD
  generalize hb : (fun d τ s => match bindT tg d τ with
        | some τ => ((evC Z.P Z.call Z.make cs τ s).bind fun b τ s => bif b then (ev Z.P Z.call Z.make elt τ s).bind fun x τ s => .ok (some x) τ s else .ok none τ s).nx
        | none => Out.no) = body at h1
  refine lc_it wk (g := gT Z.T.K tg) (tt := fun σ H Q => ∃ G, tCs Z G WF cs σ H Q) (te := fun σ H Q => ∃ G, tD Z G WF elt σ H Q) (vs := tg.slots) (σ := σ) (H1 := H1) (D := Dd) (Qd := Q (.ref Dd)) (Pv := fun i H => ∃ F2 τ2 s2 acc ws, Sub F1 F2 ∧ SR Z.T Z.pn (G.upd Dd (.lst ws)) F2 H (wipe σ tg.slots) (wipeT τ2 tg.slots) s2 ∧ RepL Z.T F2 acc ws ∧ acc.length ≤ i ∧
      Post Z G (RepL Z.T) F2 σ (fun vs H1 => ∀ p, H1 p = none → Q (.ref p) (upd H1 p (.lst vs))) W ((lcL body tg.slots (ds.drop i) acc τ2 s2).bind fun acc τ2 s => .ok acc (backT τ1 τ2 tg.slots) s)) ?_ ?_ ?_ ?_
  · exact ⟨F1, τ1, s1, [], [], Sub.refl _, (q1.frame (o := .lst []) hD).wipe _, rfl, Nat.le_refl _, h1⟩
  · rintro i H2 hi ⟨F2, τ2, s2, acc, ws, e2, q2, _⟩
    exact e2.trans q2.fh
  · rintro i x H2 H3 hi ⟨F2, τ2, s2, acc, ws, e2, q2, ra, hal, h2⟩ ⟨d, hd, hy⟩
    have hdrop : ds.drop i = d :: ds.drop (i + 1) := by
      obtain ⟨z, rfl⟩ := List.getElem?_eq_some_iff.mp hd
      exact List.drop_eq_getElem_cons z
    rw [hdrop] at h2
    simp only [lcL] at h2
    -- the item
    obtain ⟨F3, e3, q3, rd⟩ : ∃ F3, Sub F2 F3 ∧ SR Z.T Z.pn (G.upd Dd (.lst ws)) F3 H3 (wipe σ tg.slots) (wipeT τ2 tg.slots) s2 ∧ Rep Z.T F3 d x := by
      rcases hy with ⟨rfl, rd⟩ | ⟨p, d1, d2, v1, v2, rfl, rfl, hp, rfl, r1, r2⟩
      · exact ⟨F2, Sub.refl _, q2, rd.mono e2⟩
      · have hF := q2.fh.none hp
        exact ⟨upd F2 p (.tup [v1, v2]), Sub.new hF, q2.new hp, p, [v1, v2], rfl, SqT.of upd_same, RepL.two ((r1.mono e2).mono (Sub.new hF)) ((r2.mono e2).mono (Sub.new hF))⟩
    have ra3 := ra.mono e3
    replace h2 := Post.mono e3 h2
    cases hbt : bindT tg d (wipeT τ2 tg.slots) with
    | none =>
      have z : body d (wipeT τ2 tg.slots) s2 = .no := by rw [← hb]; simp only [hbt]
      rw [z] at h2; exact h2.elim
    | some τ3 =>
      refine gT_of q3 rd hbt fun σ4 q4 hl4 hs4 => ⟨?_, G.upd Dd (.lst ws), F3, τ3, s2, q4, ?_⟩
      · rw [wipe_same (σ := wipe σ tg.slots) hl4 hs4, wipe_wipe]
      have hw4 : wipe σ4 tg.slots = wipe σ tg.slots := by rw [wipe_same (σ := wipe σ tg.slots) hl4 hs4, wipe_wipe]
      -- the tests
      cases hc : evC Z.P Z.call Z.make cs τ3 s2 with
      | no =>
        have z : body d (wipeT τ2 tg.slots) s2 = .no := by rw [← hb]; simp only [hbt, hc, Out.bind, Out.nx]
        rw [z] at h2; exact h2.elim
      | exc c fs τ s =>
        have z : body d (wipeT τ2 tg.slots) s2 = .no := by rw [← hb]; simp only [hbt, hc, Out.bind, Out.nx]
        rw [z] at h2; exact h2.elim
      | ok t τ5 s5 =>
        intro b5 H5 F5 e5 q5 rb
        cases rb
        replace h2 := Post.mono e5 h2
        cases t with
        | false =>
          have z : body d (wipeT τ2 tg.slots) s2 = .ok none τ5 s5 := by rw [← hb]; simp only [hbt, hc, Out.bind, Out.nx, cond_false]
          rw [z] at h2
          rw [if_neg (by decide)]
          have q6 := q5.wipe tg.slots
          rw [hw4] at q6
          exact ⟨F5, τ5, s5, acc, ws, e2.trans (e3.trans e5), q6, ra3.mono e5, Nat.le_succ_of_le hal, h2⟩
        | true =>
          rw [if_pos rfl]
          refine ⟨G.upd Dd (.lst ws), F5, τ5, s5, q5, ?_⟩
          cases he : ev Z.P Z.call Z.make elt τ5 s5 with
          | no =>
            have z : body d (wipeT τ2 tg.slots) s2 = .no := by rw [← hb]; simp only [hbt, hc, he, Out.bind, Out.nx, cond_true]
            rw [z] at h2; exact h2.elim
          | exc c fs τ s =>
            have z : body d (wipeT τ2 tg.slots) s2 = .no := by rw [← hb]; simp only [hbt, hc, he, Out.bind, Out.nx, cond_true]
            rw [z] at h2; exact h2.elim
          | ok y τ6 s6 =>
            have z : body d (wipeT τ2 tg.slots) s2 = .ok (some y) τ6 s6 := by rw [← hb]; simp only [hbt, hc, he, Out.bind, Out.nx, cond_true]
            rw [z] at h2
            intro yv H6 F6 e6 q6 ry
            replace h2 := Post.mono e6 h2
            have q7 := (q6.wipe tg.slots).reframe (o' := .lst (ws ++ [yv]))
            rw [hw4] at q7
            have ra6 := (ra3.mono e5).mono e6
            refine ⟨ws, (q6.gh Dd _ Fm.upd_same).1, ?_, F6, τ6, s6, acc ++ [y], ws ++ [yv], e2.trans (e3.trans (e5.trans e6)), q7, ra6.append (RepL.one ry), ?_, h2⟩
            · rw [ra.length]
              have := lim_size hl
              exact Nat.lt_of_le_of_lt hal (Nat.lt_of_lt_of_le hi this)
            · simp; omega
  · rintro H2 ⟨F2, τ2, s2, acc, ws, e2, q2, ra, hal, h2⟩
    rw [List.drop_length] at h2
    simp only [lcL, Out.bind] at h2
    have g1 := (q2.gh Dd _ Fm.upd_same).1
    have q3 : SR Z.T Z.pn G F2 (cut H2 Dd) σ (backT τ1 τ2 tg.slots) s2 := (q2.unframe hG).back q1 e2
    have z := h2 ws (cut H2 Dd) F2 (Sub.refl _) q3 ra Dd cut_same
    rw [upd_cut g1] at z
    exact z
end
end Rz
end

section
set_option autoImplicit false
set_option Elab.async false
set_option linter.all false
set_option maxHeartbeats 1000000
set_option maxRecDepth 100000
namespace Rz
open PySem PySem.Spec PySem.W PyProof.Rows L2

section
variable {S : Type} [Pen S] {Z : Cz S} {us : List Str} {G : Fm} {F H : Hp} {σ : L2.St} {τ : List Slot} {s : S} {W : WX} {X : Cx} {pins : List (Addr × Obj)} {sh : Shared}
variable {a b c e : Expr} {ca cb cc ce : CE} {pos : Pos}
/-- list(x) -/
theorem dw_of {p : Pos} (hK : X.K = Z.T.K) (hg : Gl X "list") (hm : X.mg "list" = none) (ha : PE X a (tD Z G W ca)) (hs : isStar a = false) : PE X (.Call (.Name "list" p) [a] [] pos) (tDL Z G W (.of ca)) := by
  refine ⟨fun pins sh σ H Q I h => ?_⟩
  obtain ⟨F0, τ, s, q, h⟩ := h
  simp only [evW] at h
  refine wpAny_Call_Name_kw (ld_blt I hg hm Bi.list.boot ?_ Bi.list.notName Bi.list.notDebug)
  have run := (da_one ha hs).run pos pins sh σ H (fun vs H1 => ∃ F τ s x xs v, SR Z.T Z.pn G F H1 σ τ s ∧ vs = [v] ∧ Rep Z.T F x v ∧ starOf x = some xs ∧ Post Z G (RepL Z.T) F σ (fun vs H1 => ∀ p, H1 p = none → Q (.ref p) (upd H1 p (.lst vs))) W (.ok xs τ s)) I
    ⟨F0, τ, s, q, by
      simp only [evA]
      cases hx : ev Z.P Z.call Z.make ca τ s with
      | no => rw [hx] at h; exact h.elim
      | exc k fs τ1 s1 => rw [hx] at h; exact h
      | ok x τ1 s1 =>
        rw [hx] at h
        intro vs H1 F1 e1 q1 r1
        have h1 := Post.mono e1 h
        obtain ⟨v, r, rfl, rx, rr⟩ := r1
        cases rr
        obtain ⟨xs, ex, h1⟩ := Post.of h1
        exact ⟨F1, τ1, s1, x, xs, v, q1, rfl, rx, ex, h1⟩⟩
  refine callWith_type1 (thn run ?_) (starEach_plain hs) rfl
  rintro ws s1 ⟨vs, H1, I1, rv, F, τ, s, x, xs, v, q, rfl, r, ed, h⟩
  cases x with
  | lst ds =>
    cases ed
    obtain ⟨p, vs', rfl, hF, rl⟩ := r
    exact call_list_of pins s1 σ H1 _ ws Q I1 rv ⟨p, vs', rfl, .inl (SqL.of (q.fh _ _ hF)), h.ok q rl⟩
  | tup ds =>
    cases ed
    obtain ⟨p, vs', rfl, hF, rl⟩ := r
    exact call_list_of pins s1 σ H1 _ ws Q I1 rv ⟨p, vs', rfl, .inr (by rw [hK]; exact q.fh.sqT hF), h.ok q rl⟩
  | _ => cases ed
/-- list(range(n)) -/
theorem rg_rep {T : Tb} (n : Nat) : RepL T F (rangeD 0 n) (rgV 0 (n : Int)) := by
  have go : ∀ (l : List Nat), RepL T F (l.map fun (i : Nat) => D.int (0 + i)) (l.map fun (i : Nat) => V.int (0 + i)) := by
    intro l
    induction l with
    | nil => exact rfl
    | cons x r ih => exact ⟨_, _, rfl, rfl, ih⟩
  unfold rangeD rgV
  have e : ((n : Int) - 0).toNat = n := by omega
  rw [e]
  exact go _
theorem dw_lr {p p2 pos2 : Pos} (hc : X.calm = true) (hg : Gl X "list") (hm : X.mg "list" = none) (hg2 : Gl X "range") (hm2 : X.mg "range" = none) (ha : PE X a (tD Z G W ca)) (hs : isStar a = false) : PE X (.Call (.Name "list" p) [.Call (.Name "range" p2) [a] [] pos2] [] pos) (tDL Z G W (.lr ca)) :=
  (pe_listRg hc hg hm (prg_1 hg2 hm2 ha (starEach_plain hs))).imp fun σ H Q => by
    rintro ⟨F, τ, s, q, h⟩
    simp only [evW] at h
    refine ⟨F, τ, s, q, h.bind fun x v τ1 s1 F1 H1 e1 q1 r1 h1 => ?_⟩
    cases x with
    | int n =>
      cases r1
      obtain ⟨hl, h1⟩ := h1.bif
      have hb := lim_of hl
      refine ⟨n, rfl, ?_, ?_⟩
      · refine ⟨by omega, ?_, ?_, ?_, ?_⟩ <;> omega
      · have z := h1.ok q1 (rg_rep (T := Z.T) (F := F1) n.toNat)
        have e : rgV 0 ((n.toNat : Nat) : Int) = rgV 0 n := by
          unfold rgV
          have : (((n.toNat : Nat) : Int) - 0).toNat = (n - 0).toNat := by omega
          rw [this]
        rw [e] at z
        exact z
    | _ => exact h1.elim
/-- a + b, two lists -/
theorem dw_add (ha : PE X a (tD Z G W ca)) (hb : PE X b (tD Z G W cb)) : PE X (.BinOp a .Add b pos) (tDL Z G W (.add ca cb)) := by
  refine ⟨fun pins sh σ H Q I h => ?_⟩
  obtain ⟨F0, τ, s, q, h⟩ := h
  simp only [evW] at h
  refine wpAny_BinOp (bin ha hb I (R := fun v v' H2 => ∃ F τ s xs ys, SR Z.T Z.pn G F H2 σ τ s ∧ Rep Z.T F (.lst xs) v ∧ Rep Z.T F (.lst ys) v' ∧ lim (xs.length + ys.length) = true ∧ Post Z G (RepL Z.T) F σ (fun vs H1 => ∀ p, H1 p = none → Q (.ref p) (upd H1 p (.lst vs))) W (.ok (xs ++ ys) τ s))
    ⟨F0, τ, s, q, h.bind fun x v τ1 s1 F1 H1 e1 q1 r1 h1 => ⟨F1, τ1, s1, q1, h1.bind fun y v' τ2 s2 F2 H2 e2 q2 r2 h2 => ?_⟩⟩ fun u w s2 v v' H2 I2 rx ry hq => ?_)
  · cases x with
    | lst xs =>
      cases y with
      | lst ys =>
        obtain ⟨hl, h2⟩ := h2.bif
        exact ⟨F2, τ2, s2, xs, ys, q2, r1.mono e2, r2, hl, h2⟩
      | _ => exact h2.elim
    | _ => exact h2.elim
  · obtain ⟨F, τ, s, xs, ys, q, ⟨p, vs, rfl, hF, rl⟩, ⟨p', vs', rfl, hF', rl'⟩, hl, h⟩ := hq
    exact op_cat pins s2 σ H2 _ _ u w Q I2 rx ry ⟨p, p', vs, vs', rfl, rfl, q.fh _ _ hF, q.fh _ _ hF', by rw [rl.length, rl'.length]; exact lim_size hl, h.ok q (rl.append rl')⟩

/-! ### targets -/
/-- where a name is stored -/
def nmOk (X : Cx) (i : Nat) (x : Str) : Prop := X.N[i]? = some x ∧ Loc X.env.scope x ∧ (X.fn x = true ∨ X.env.scope.names.lookup x = some .local)
theorem dg_one {i : Nat} {x : Str} (hN : X.N.Nodup) (h : nmOk X i x) : PG X (.Name x pos) (gT Z.T.K (.one i)) := pg_name hN h.1 h.2.1 h.2.2
/-- the names of a target -/
inductive NmsOk (X : Cx) : List Expr → List Nat → Prop
  | nil : NmsOk X [] []
  | cons {x : Str} {pos : Pos} {i : Nat} {es : List Expr} {is : List Nat} : nmOk X i x → NmsOk X es is → NmsOk X (.Name x pos :: es) (i :: is)
theorem NmsOk.pgs (hN : X.N.Nodup) : ∀ {es : List Expr} {is : List Nat}, NmsOk X es is → PGs X es (gNames is)
  | _, _, .nil => pgs_nil
  | _, _, .cons h r => pgs_cons (pg_name hN h.1 h.2.1 h.2.2) (NmsOk.pgs hN r)
theorem NmsOk.len : ∀ {es : List Expr} {is : List Nat}, NmsOk X es is → (assignEach es X.env).length = is.length
  | _, _, .nil => rfl
  | _, _, .cons h r => congrArg (· + 1) (NmsOk.len r)
theorem NmsOk.st : ∀ {es : List Expr} {is : List Nat}, NmsOk X es is → ∀ p ∈ assignEach es X.env, p.1 = false
  | _, _, .nil => fun p h => by cases h
  | _, _, .cons h r => fun p hp => by
    rcases List.mem_cons.mp hp with e | hp
    · rw [e]
    · exact NmsOk.st r p hp
theorem dg_many {es : List Expr} {is : List Nat} {k : Nat} (hK : X.K = Z.T.K) (hc : X.calm = true) (hN : X.N.Nodup) (h : NmsOk X es is) : PG X (.Tuple es k pos) (gT Z.T.K (.many is)) := by
  have z := pg_tup (k := k) (pos := pos) hc (h.pgs hN) h.len (by
    rw [List.findIdx?_eq_none_iff]
    intro p hp
    simpa using h.st p hp)
  rw [hK] at z
  exact z
theorem _root_.L2.PE.any {α : Type} {X : Cx} {e : Expr} {t : α → TE} (h : ∀ a, PE X e (t a)) : PE X e (fun σ H Q => ∃ a, t a σ H Q) := ⟨fun pins s σ H Q I ⟨a, q⟩ => (h a).run pins s σ H Q I q⟩
theorem _root_.L2.PTs.any {α : Type} {X : Cx} {e : List Expr} {t : α → TT} (h : ∀ a, PTs X e (t a)) : PTs X e (fun σ H Q => ∃ a, t a σ H Q) := ⟨fun pins s σ H Q I ⟨a, q⟩ => (h a).run pins s σ H Q I q⟩
/-- [.. for .. in ..] -/
theorem dw_lc {elt tg iter : Expr} {ifs : List Expr} {scope : Scope} {own : List (Str × Nat)} {ctg : Tg} {ci : CI} {cs : CAs} (hc : X.calm = true) (hN : X.N.Nodup) (hi : PI X tg iter (iD Z G W ci)) (ok : BlkOk X.N X.env.scope scope own) (hv : own.map (·.2) = ctg.slots)
    (hg : ∀ (s : Shared) (H : Hp) (C : Addr) (cl : List (Str × Addr)) (fp : List Addr), PG (X.blk s H scope (compEnvC scope cl C X.env) fp) tg (gT Z.T.K ctg)) (ht : ∀ (G : Fm) (s : Shared) (H : Hp) (C : Addr) (cl : List (Str × Addr)) (fp : List Addr), PTs (X.blk s H scope (compEnvC scope cl C X.env) fp) ifs (tCs Z G WF cs))
    (he : ∀ (G : Fm) (s : Shared) (H : Hp) (C : Addr) (cl : List (Str × Addr)) (fp : List Addr), PE (X.blk s H scope (compEnvC scope cl C X.env) fp) elt (tD Z G WF ce)) (hs : ∀ x, foldedSetIterable iter X.env x = pure x) :
    PE X (.ListComp elt [⟨tg, iter, ifs, 0⟩] scope pos) (tDL Z G W (.lc ce ctg ci cs)) :=
  (pe_lc hc hN hi ok hg (fun s H C cl fp => PTs.any fun G => ht G s H C cl fp) (fun s H C cl fp => PE.any fun G => he G s H C cl fp) hs).imp fun σ H Q h => tLc_of hv h
end
end Rz
end

section
set_option autoImplicit false
set_option Elab.async false
set_option linter.all false
set_option maxHeartbeats 1000000
set_option maxRecDepth 100000
namespace Rz
open PySem PySem.Spec PySem.W PyProof.Rows L2

section
variable {S : Type} [Pen S] {T : Tb} {pn : Pn S} {G : Fm} {F H : Hp} {σ : L2.St} {τ : List Slot} {s : S}
/-! ### freezing for the time of an expression -/
def OwnA (σ : L2.St) (τ : List Slot) (a : Addr) : Prop := ∃ (i : Nat) (x : Slot), τ[i]? = some x ∧ x.isOwn = true ∧ σ.getD i none = some (.ref a)
open Classical in
noncomputable def frzF (F H : Hp) (σ : L2.St) (τ : List Slot) : Hp := fun a => if OwnA σ τ a then H a else F a
open Classical in
noncomputable def thawF (F : Hp) (σ : L2.St) (τ : List Slot) : Hp := fun a => if OwnA σ τ a then none else F a
theorem frzF_own {a : Addr} (h : OwnA σ τ a) : frzF F H σ τ a = H a := if_pos h
theorem frzF_not {a : Addr} (h : ¬ OwnA σ τ a) : frzF F H σ τ a = F a := if_neg h
theorem thawF_own {a : Addr} (h : OwnA σ τ a) : thawF F σ τ a = none := if_pos h
theorem thawF_not {a : Addr} (h : ¬ OwnA σ τ a) : thawF F σ τ a = F a := if_neg h
theorem SR.ownF (h : SR T pn G F H σ τ s) {a : Addr} (o : OwnA σ τ a) : F a = none ∧ G a = none ∧ a ≠ T.pen := by
  obtain ⟨i, x, e, ox, ea⟩ := o
  have k := h.sl i x e
  cases x with
  | none => cases ox
  | fz d => cases ox
  | own ds =>
    obtain ⟨b, ob, e1, e2, e3, e4, e5, _⟩ := k
    rw [e1] at ea; cases ea
    exact ⟨e3, e4, e5⟩
  | ownI c ds =>
    obtain ⟨b, ob, e1, e2, e3, e4, e5, _⟩ := k
    rw [e1] at ea; cases ea
    exact ⟨e3, e4.1, e5⟩
theorem SR.subFrz (h : SR T pn G F H σ τ s) : Sub F (frzF F H σ τ) := fun a o e => by
  rw [frzF_not (fun z => by rw [(h.ownF z).1] at e; cases e)]; exact e
theorem SR.frzAll (h : SR T pn G F H σ τ s) : SR T pn G (frzF F H σ τ) H σ (τ.map Slot.frz) s := by
  have sF := h.subFrz
  refine ⟨fun a o e => ?_, h.pen, ?_, pn.mono _ _ _ sF h.pinv, fun a o e => ?_, by rw [List.length_map]; exact h.len, fun i x e => ?_, fun i j x y a _ e1 _ o1 _ _ _ => ?_⟩
  · by_cases z : OwnA σ τ a
    · rw [frzF_own z] at e; exact e
    · rw [frzF_not z] at e; exact h.fh a o e
  · rw [frzF_not (fun z => (h.ownF z).2.2 rfl)]; exact h.penF
  · obtain ⟨a1, a2, a3⟩ := h.gh a o e
    exact ⟨a1, by rw [frzF_not (fun z => by rw [(h.ownF z).2.1] at e; cases e)]; exact a2, a3⟩
  · rw [List.getElem?_map] at e
    cases q : τ[i]? with
    | none => rw [q] at e; cases e
    | some y =>
      rw [q] at e
      cases e
      have k := h.sl i y q
      cases y with
      | none => trivial
      | fz d => obtain ⟨v, e1, r⟩ := k; exact ⟨v, e1, r.mono sF⟩
      | own ds =>
        obtain ⟨a, ob, e1, e2, e3, e4, e5, vs, rfl, r⟩ := k
        exact ⟨.ref a, e1, a, vs, rfl, by rw [frzF_own ⟨i, _, q, rfl, e1⟩]; exact e2, r.mono sF⟩
      | ownI c ds =>
        obtain ⟨a, ob, e1, e2, e3, e4, e5, dx, vs, rfl, l, r⟩ := k
        exact ⟨.ref a, e1, a, dx, vs, rfl, by rw [frzF_own ⟨i, _, q, rfl, e1⟩]; exact e2, l, r.mono sF⟩
  · exfalso
    rw [List.getElem?_map] at e1
    cases q : τ[i]? with
    | none => rw [q] at e1; cases e1
    | some y =>
      rw [q] at e1
      cases e1
      cases y <;> cases o1
theorem SR.thaw (h : SR T pn G F H σ τ s) {F' H' : Hp} {τ' : List Slot} {s' : S} (e : Sub (frzF F H σ τ) F') (k : SR T pn G F' H' σ τ' s') : Sub F (thawF F' σ τ) ∧ SR T pn G (thawF F' σ τ) H' σ τ s' := by
  have sF : Sub F (thawF F' σ τ) := fun a o q => by
    rw [thawF_not (fun z => by rw [(h.ownF z).1] at q; cases q)]; exact e _ _ (h.subFrz _ _ q)
  have nn : ∀ {a : Addr}, F' a = none → thawF F' σ τ a = none := fun {a} q => by
    by_cases z : OwnA σ τ a
    · exact thawF_own z
    · rw [thawF_not z]; exact q
  refine ⟨sF, fun a o q => ?_, k.pen, nn k.penF, pn.mid _ _ _ _ _ sF h.pinv k.pinv, fun a o q => ?_, h.len, fun i x q => ?_, h.ap⟩
  · by_cases z : OwnA σ τ a
    · rw [thawF_own z] at q; cases q
    · rw [thawF_not z] at q; exact k.fh a o q
  · obtain ⟨a1, a2, a3⟩ := k.gh a o q
    exact ⟨a1, nn a2, a3⟩
  · have w := h.sl i x q
    cases x with
    | none => trivial
    | fz d => obtain ⟨v, e1, r⟩ := w; exact ⟨v, e1, r.mono sF⟩
    | own ds =>
      obtain ⟨a, ob, e1, e2, e3, e4, e5, o⟩ := w
      have oa : OwnA σ τ a := ⟨i, _, q, rfl, e1⟩
      exact ⟨a, ob, e1, k.fh _ _ (e _ _ (by rw [frzF_own oa]; exact e2)), thawF_own oa, e4, e5, o.mono sF⟩
    | ownI c ds =>
      obtain ⟨a, ob, e1, e2, e3, e4, e5, o⟩ := w
      have oa : OwnA σ τ a := ⟨i, _, q, rfl, e1⟩
      exact ⟨a, ob, e1, k.fh _ _ (e _ _ (by rw [frzF_own oa]; exact e2)), thawF_own oa, e4, e5, o.mono sF⟩
theorem rep_scalar {d : D} {v : V} {F F' : Hp} (h : d.scalar = true) (r : Rep T F d v) : Rep T F' d v := by
  cases d <;> simp only [D.scalar] at h <;> first | (cases h; done) | exact r
mutual
theorem rep_noL {F' : Hp} (ho : ∀ a, OwnA σ τ a → ∃ vs, F' a = some (.lst vs)) : ∀ {d : D} {v : V}, d.noL = true → Rep T F' d v → Rep T (thawF F' σ τ) d v
  | .non, _, _, h => h
  | .bl _, _, _, h => h
  | .int _, _, _, h => h
  | .str _, _, _, h => h
  | .cls _, _, _, h => h
  | .ty _, _, _, h => h
  | .tup ds, _, hn, ⟨a, vs, e, q, r⟩ => by
    refine ⟨a, vs, e, ?_, repL_noL ho hn r⟩
    have nn : ∀ {o : HO}, F' a = some o → (∀ ws, o ≠ .lst ws) → thawF F' σ τ a = some o := fun {o} ho' hne => by
      rw [thawF_not (fun z => by obtain ⟨ws, hw⟩ := ho a z; rw [hw] at ho'; cases ho'; exact hne _ rfl)]; exact ho'
    rcases q with (q | ⟨o, q⟩) | q
    · exact .inl (.inl (nn q (by intro ws z; cases z)))
    · exact .inl (.inr ⟨o, nn q (by intro ws z; cases z)⟩)
    · exact .inr q
  | .ins c ds, _, hn, ⟨a, dx, vs, e, q, l, r⟩ => by
    refine ⟨a, dx, vs, e, ?_, l, repL_noL ho hn r⟩
    rw [thawF_not (fun z => by obtain ⟨ws, hw⟩ := ho a z; rw [hw] at q; cases q)]; exact q
  | .lst _, _, hn, _ => by cases hn
  | .dct _ _, _, hn, _ => by cases hn
  | .fn _, _, hn, _ => by cases hn
  | .pen, _, hn, _ => by cases hn
  | .opq _, _, hn, _ => by cases hn
theorem repL_noL {F' : Hp} (ho : ∀ a, OwnA σ τ a → ∃ vs, F' a = some (.lst vs)) : ∀ {ds : List D} {vs : List V}, D.noLL ds = true → RepL T F' ds vs → RepL T (thawF F' σ τ) ds vs
  | [], _, _, h => h
  | d :: ds, _, hn, ⟨v, r, e, h, t⟩ => by
    have hn' : (D.noL d && D.noLL ds) = true := hn
    rw [Bool.and_eq_true] at hn'
    exact ⟨v, r, e, rep_noL ho hn'.1 h, repL_noL ho hn'.2 t⟩
end
theorem SR.ownL (h : SR T pn G F H σ τ s) (hn : τ.all Slot.noI = true) {F' : Hp} (e : Sub (frzF F H σ τ) F') : ∀ a, OwnA σ τ a → ∃ vs, F' a = some (.lst vs) := fun a oa => by
  obtain ⟨i, x, ex, ox, ea⟩ := id oa
  have k := h.sl i x ex
  cases x with
  | none => cases ox
  | fz d => cases ox
  | own ds =>
    obtain ⟨b, ob, e1, e2, e3, e4, e5, vs, rfl, r⟩ := k
    rw [e1] at ea; cases ea
    exact ⟨vs, e _ _ (by rw [frzF_own oa]; exact e2)⟩
  | ownI c ds =>
    have z := List.all_eq_true.mp hn _ (List.mem_of_getElem? ex)
    cases z
end

/-! ### readings of statements -/
section
variable {S : Type} [Pen S]
def PostS (Z : Cz S) (G : Fm) (F : Hp) (E : Ends) (W : WX) : Out S Fl → Prop
  | .ok fl τ' s' => match fl with
    | .next => ∀ σ' H' F', Sub F F' → SR Z.T Z.pn G F' H' σ' τ' s' → E.nx σ' H'
    | .brk => ∀ σ' H' F', Sub F F' → SR Z.T Z.pn G F' H' σ' τ' s' → E.bk σ' H'
    | .cont => ∀ σ' H' F', Sub F F' → SR Z.T Z.pn G F' H' σ' τ' s' → E.ct σ' H'
    | .ret d => ∀ v σ' H' F', Sub F F' → SR Z.T Z.pn G F' H' σ' τ' s' → Rep Z.T F' d v → E.rt v H'
  | .exc c fs τ' s' => ∀ σ' H' F' od, Sub F F' → SR Z.T Z.pn G F' H' σ' τ' s' → ExcOk Z.T F' c fs od → W (.ref (Z.T.cA c)) od σ' H'
  | .no => False
variable {Z : Cz S} {us : List Str} {G : Fm} {F H : Hp} {σ : L2.St} {τ : List Slot} {s : S} {W : WX} {X : Cx} {E : Ends}
theorem PostS.mono {F1 : Hp} {x : Out S Fl} (e : Sub F F1) (h : PostS Z G F E W x) : PostS Z G F1 E W x := by
  cases x with
  | ok fl τ s => cases fl <;> first | exact fun σ' H' F' k => h σ' H' F' (e.trans k) | exact fun v σ' H' F' k => h v σ' H' F' (e.trans k)
  | exc c fs τ s => exact fun σ' H' F' od k => h σ' H' F' od (e.trans k)
  | no => exact h
/-- an expression, then the rest -/
theorem PostS.bind {α β : Type} {Rp : Hp → α → β → Prop} {K : β → Hp → Prop} {x : Out S α} {f : α → List Slot → S → Out S Fl} (h : PostS Z G F E W (x.bind f))
    (k : ∀ a b τ1 s1 F1 H1, Sub F F1 → SR Z.T Z.pn G F1 H1 σ τ1 s1 → Rp F1 a b → PostS Z G F1 E W (f a τ1 s1) → K b H1) : Post Z G Rp F σ K W x := by
  cases x with
  | ok a τ s => exact fun b H' F' e q r => k a b τ s F' H' e q r (PostS.mono e h)
  | exc c fs τ s => exact fun H' F' od e q r => h σ H' F' od e q r
  | no => exact h
def tDS (Z : Cz S) (G : Fm) (W : WX) (c : CS) : TS := fun E σ H => ∃ F τ s, SR Z.T Z.pn G F H σ τ s ∧ PostS Z G F E W (ex Z.P Z.call Z.make c τ s)
def tDSs (Z : Cz S) (G : Fm) (W : WX) (c : CSs) : TS := fun E σ H => ∃ F τ s, SR Z.T Z.pn G F H σ τ s ∧ PostS Z G F E W (exs Z.P Z.call Z.make c τ s)
/-- an expression of a statement -/
def tDX (Z : Cz S) (G : Fm) (W : WX) (th : Bool) (c : CE) : TE := fun σ H Q => ∃ F τ s, SR Z.T Z.pn G F H σ τ s ∧ Post Z G (Rep Z.T) F σ Q W (evX Z.P Z.call Z.make th c τ s)
theorem dx_of {e : Expr} {c : CE} {th : Bool} (h : PE X e (tD Z G W c)) : PE X e (tDX Z G W th c) := h.imp fun σ H Q => by
  rintro ⟨F, τ, s, q, h⟩
  cases th with
  | false => exact ⟨F, τ, s, q, h⟩
  | true =>
    refine ⟨_, _, s, q.frzAll, ?_⟩
    simp only [evX] at h
    cases hx : ev Z.P Z.call Z.make c (τ.map Slot.frz) s with
    | no => rw [hx] at h; exact h
    | exc k fs τ1 s1 => rw [hx] at h; exact fun H' F' od e => h H' F' od (q.subFrz.trans e)
    | ok d τ1 s1 =>
      rw [hx] at h
      obtain ⟨hs, h⟩ := Post.bif h
      intro v H' F' e1 q1 r1
      obtain ⟨e2, q2⟩ := q.thaw e1 q1
      rw [Bool.or_eq_true] at hs
      rcases hs with hs | hs
      · exact h v H' _ e2 q2 (rep_scalar hs r1)
      · rw [Bool.and_eq_true] at hs
        exact h v H' _ e2 q2 (rep_noL (q.ownL hs.2 e1) hs.1 r1)
/-- a test of a statement -/
def tDXT (Z : Cz S) (G : Fm) (W : WX) (c : CE) : TT := fun σ H Q => ∃ F τ s, SR Z.T Z.pn G F H σ τ s ∧ Post Z G EqR F σ Q W (evTs Z.P Z.call Z.make c τ s)
theorem dxt_of {e : Expr} {c : CE} (h : PT X e (tDT Z G W c)) : PT X e (tDXT Z G W c) := h.imp fun σ H Q => by
  rintro ⟨F, τ, s, q, h⟩
  refine ⟨_, _, s, q.frzAll, ?_⟩
  simp only [evTs] at h
  cases hx : (ev Z.P Z.call Z.make c (τ.map Slot.frz) s).bind fun x τ s => truV Z.P Z.call x τ s with
  | no => rw [hx] at h; exact h
  | exc k fs τ1 s1 => rw [hx] at h; exact fun H' F' od e => h H' F' od (q.subFrz.trans e)
  | ok d τ1 s1 =>
    rw [hx] at h
    intro v H' F' e1 q1 r1
    obtain ⟨e2, q2⟩ := q.thaw e1 q1
    exact h v H' _ e2 q2 r1

variable {pos : Pos} {e a b : Expr} {ce ca cb : CE}
theorem ds_pass : PS X (.Pass pos) (tDS Z G W .pass) := ps_pass.imp fun E σ H => by
  rintro ⟨F, τ, s, q, h⟩
  exact h σ H F (Sub.refl _) q
theorem ds_brk : PS X (.Break pos) (tDS Z G W .brk) := ps_break.imp fun E σ H => by
  rintro ⟨F, τ, s, q, h⟩
  exact h σ H F (Sub.refl _) q
theorem ds_cont : PS X (.Continue pos) (tDS Z G W .cont) := ps_continue.imp fun E σ H => by
  rintro ⟨F, τ, s, q, h⟩
  exact h σ H F (Sub.refl _) q
theorem ds_retN : PS X (.Return none pos) (tDS Z G W .retN) := ps_retN.imp fun E σ H => by
  rintro ⟨F, τ, s, q, h⟩
  exact h _ σ H F (Sub.refl _) q rfl
theorem ds_ret (he : PE X e (tD Z G W ce)) : PS X (.Return (some e) pos) (tDS Z G W (.ret ce)) := (ps_ret he).imp fun E σ H => by
  rintro ⟨F, τ, s, q, h⟩
  simp only [ex] at h
  exact ⟨F, τ, s, q, h.bind fun x v τ1 s1 F1 H1 e1 q1 r1 h1 => h1 v σ H1 F1 (Sub.refl _) q1 r1⟩
theorem ds_expr {th : Bool} (he : PE X e (tD Z G W ce)) (hs : swapsWith e none pos.line X.env = pure false) : PS X (.Expr e pos) (tDS Z G W (.expr th ce)) := (ps_expr (dx_of he) hs).imp fun E σ H => by
  rintro ⟨F, τ, s, q, h⟩
  simp only [ex] at h
  exact ⟨F, τ, s, q, h.bind fun x v τ1 s1 F1 H1 e1 q1 r1 h1 => h1 σ H1 F1 (Sub.refl _) q1⟩
theorem ds_set {i : Nat} {x : Str} {p : Pos} {th : Bool} (hN : X.N.Nodup) (hx : nmOk X i x) (he : PE X e (tD Z G W ce)) (hs : swapsWithSole [.Name x p] e pos.line X.env = pure false) (hw : swappedStores [.Name x p] e X.env = pure none) : PS X (.Assign [.Name x p] e pos) (tDS Z G W (.set i th ce)) :=
  (ps_asg (dx_of he) (pg_name hN hx.1 hx.2.1 hx.2.2) hs hw rfl).imp fun E σ H => by
    rintro ⟨F, τ, s, q, h⟩
    simp only [ex] at h
    exact ⟨F, τ, s, q, h.bind fun x v τ1 s1 F1 H1 e1 q1 r1 h1 => h1 _ H1 F1 (Sub.refl _) (q1.setF _ r1)⟩
theorem ds_unpack {is : List Nat} {es : List Expr} {k : Nat} {p : Pos} (hK : X.K = Z.T.K) (hc : X.calm = true) (hN : X.N.Nodup) (hx : NmsOk X es is) (he : PE X e (tD Z G W ce)) (hs : swapsWithSole [.Tuple es k p] e pos.line X.env = pure false) (hw : swappedStores [.Tuple es k p] e X.env = pure none) :
    PS X (.Assign [.Tuple es k p] e pos) (tDS Z G W (.unpack is ce)) :=
  (ps_asg he (dg_many hK hc hN hx) hs hw rfl).imp fun E σ H => by
    rintro ⟨F, τ, s, q, h⟩
    simp only [ex] at h
    refine ⟨F, τ, s, q, h.bind fun x v τ1 s1 F1 H1 e1 q1 r1 h1 => ?_⟩
    cases hb : bindT (.many is) x τ1 with
    | none => rw [hb] at h1; exact h1.elim
    | some τ2 =>
      rw [hb] at h1
      exact gT_of q1 r1 hb fun σ' q' _ _ => h1 σ' H1 F1 (Sub.refl _) q'
/-- a new list becomes a slot's own -/
theorem SR.own (q : SR Z.T Z.pn G F H σ τ s) {p : Addr} {vs : List V} {ds : List D} (i : Nat) (hp : H p = none) (r : RepL Z.T F ds vs) : SR Z.T Z.pn G F (upd H p (.lst vs)) (σ.set i (some (.ref p))) (τ.set i (.own ds)) s := by
  have k := q.newU (o := .lst vs) hp
  refine ⟨k.fh, k.pen, k.penF, k.pinv, k.gh, by simpa using q.len, fun j y e => ?_, fun j l y z b hjk e1 e2 o1 o2 e3 e4 => ?_⟩
  · by_cases hj : j = i
    · subst hj
      have jlt : j < τ.length := by have := (List.getElem?_eq_some_iff.mp e).1; simpa using this
      rw [List.getElem?_set_self jlt] at e
      cases e
      have np : p ≠ Z.T.pen := by intro z; rw [z, q.pen] at hp; cases hp
      refine ⟨p, .lst vs, ?_, upd_same, q.fh.none hp, q.gfree hp, np, vs, rfl, r⟩
      rw [List.getD_eq_getElem?_getD, List.getElem?_set_self (by rw [q.len]; exact jlt)]; rfl
    · rw [List.getElem?_set_ne (Ne.symm hj)] at e
      have w := k.sl j y e
      rw [getD_eq (σ' := σ) (by rw [List.getElem?_set_ne (Ne.symm hj)])]
      exact w
  · have jlt : j < τ.length := by have := (List.getElem?_eq_some_iff.mp e1).1; simpa using this
    have llt : l < τ.length := by have := (List.getElem?_eq_some_iff.mp e2).1; simpa using this
    have other : ∀ {j : Nat} {y : Slot}, j ≠ i → (τ.set i (.own ds))[j]? = some y → y.isOwn = true → (σ.set i (some (V.ref p))).getD j none = some (.ref p) → False := by
      intro j y hj e o e3
      rw [List.getElem?_set_ne (Ne.symm hj)] at e
      rw [getD_eq (σ' := σ) (by rw [List.getElem?_set_ne (Ne.symm hj)])] at e3
      have w := q.sl j y e
      cases y with
      | none => cases o
      | fz d => cases o
      | own _ => obtain ⟨a, ob, e4, e5, _⟩ := w; rw [e4] at e3; cases e3; rw [hp] at e5; cases e5
      | ownI _ _ => obtain ⟨a, ob, e4, e5, _⟩ := w; rw [e4] at e3; cases e3; rw [hp] at e5; cases e5
    by_cases hj : j = i
    · subst hj
      have eb : b = p := by
        rw [List.getD_eq_getElem?_getD, List.getElem?_set_self (by rw [q.len]; exact jlt)] at e3
        cases e3; rfl
      subst eb
      exact other (Ne.symm hjk) e2 o2 e4
    · by_cases hl : l = i
      · subst hl
        have eb : b = p := by
          rw [List.getD_eq_getElem?_getD, List.getElem?_set_self (by rw [q.len]; exact llt)] at e4
          cases e4; rfl
        subst eb
        exact other hj e1 o1 e3
      · rw [List.getElem?_set_ne (Ne.symm hj)] at e1
        rw [List.getElem?_set_ne (Ne.symm hl)] at e2
        rw [getD_eq (σ' := σ) (by rw [List.getElem?_set_ne (Ne.symm hj)])] at e3
        rw [getD_eq (σ' := σ) (by rw [List.getElem?_set_ne (Ne.symm hl)])] at e4
        exact q.ap j l y z b hjk e1 e2 o1 o2 e3 e4
theorem ds_own {i : Nat} {x : Str} {p : Pos} {w : CW} (hN : X.N.Nodup) (hx : nmOk X i x) (he : PE X e (tDL Z G W w)) (hs : swapsWithSole [.Name x p] e pos.line X.env = pure false) (hw : swappedStores [.Name x p] e X.env = pure none) : PS X (.Assign [.Name x p] e pos) (tDS Z G W (.own i w)) :=
  (ps_asg he (pg_name hN hx.1 hx.2.1 hx.2.2) hs hw rfl).imp fun E σ H => by
    rintro ⟨F, τ, s, q, h⟩
    simp only [ex] at h
    exact ⟨F, τ, s, q, h.bind fun x v τ1 s1 F1 H1 e1 q1 r1 h1 => fun p hp => h1 _ _ F1 (Sub.refl _) (q1.own i hp r1)⟩

/-! ### suites, if -/
theorem dss_nil : PSs X [] (tDSs Z G W .nil) := pss_nil.imp fun E σ H => by
  rintro ⟨F, τ, s, q, h⟩
  exact h σ H F (Sub.refl _) q
theorem dss_cons {st : Stmt} {sts : List Stmt} {c : CS} {cs : CSs} (h1 : PS X st (tDS Z G W c)) (h2 : PSs X sts (tDSs Z G W cs)) : PSs X (st :: sts) (tDSs Z G W (.cons c cs)) := (pss_cons h1 h2).imp fun E σ H => by
  rintro ⟨F, τ, s, q, h⟩
  simp only [exs] at h
  refine ⟨F, τ, s, q, ?_⟩
  cases hx : ex Z.P Z.call Z.make c τ s with
  | no => rw [hx] at h; exact h
  | exc k fs τ1 s1 => rw [hx] at h; exact h
  | ok fl τ1 s1 =>
    rw [hx] at h
    cases fl with
    | next => exact fun σ' H' F' e q' => ⟨F', τ1, s1, q', PostS.mono e h⟩
    | brk => exact h
    | cont => exact h
    | ret d => exact h
theorem ds_if {c : Expr} {p r : List Stmt} {cp cr : CSs} (hc : PT X c (tDT Z G W ce)) (ha : PSs X p (tDSs Z G W cp)) (hb : PSs X r (tDSs Z G W cr)) : PS X (.If c p r pos) (tDS Z G W (.ite ce cp cr)) := (ps_if (dxt_of hc) ha hb).imp fun E σ H => by
  rintro ⟨F, τ, s, q, h⟩
  simp only [ex] at h
  refine ⟨F, τ, s, q, h.bind fun t b τ1 s1 F1 H1 e1 q1 r1 h1 => ?_⟩
  cases r1
  cases t with
  | true => exact ⟨F1, τ1, s1, q1, h1⟩
  | false => exact ⟨F1, τ1, s1, q1, h1⟩
end
end Rz
end

section
set_option autoImplicit false
set_option Elab.async false
set_option linter.all false
set_option maxHeartbeats 1000000
set_option maxRecDepth 100000
namespace Rz
open PySem PySem.Spec PySem.W PyProof.Rows L2

section
variable {S : Type} [Pen S] {Z : Cz S} {us : List Str} {G : Fm} {F H : Hp} {σ : L2.St} {τ : List Slot} {s : S} {W : WX} {X : Cx} {E : Ends}
variable {pos : Pos} {e a b : Expr} {ce ca cb : CE}

/-- an owned object is rewritten -/
theorem SR.rewrite {T : Tb} {pn : Pn S} (h : SR T pn G F H σ τ s) {i : Nat} {x x' : Slot} {p : Addr} {ob' : HO} (hx : τ[i]? = some x) (ho : x.isOwn = true) (hp : σ.getD i none = some (.ref p)) (hx' : x'.isOwn = true) (ho' : OwnO T F ob' x') (hs : ∀ c ds, x' = .ownI c ds → p = G.slf := by intro _ _ e; cases e) : SR T pn G F (upd H p ob') σ (τ.set i x') s := by
  have oa : OwnA σ τ p := ⟨i, x, hx, ho, hp⟩
  obtain ⟨f1, f2, f3⟩ := h.ownF oa
  have ilt : i < τ.length := (List.getElem?_eq_some_iff.mp hx).1
  have oth : ∀ {j : Nat} {y : Slot}, j ≠ i → τ[j]? = some y → y.isOwn = true → σ.getD j none ≠ some (.ref p) := fun {j y} hj e o z => h.ap j i y x p hj e hx o ho z hp
  refine ⟨fun q o e => ?_, by rw [upd_ne (Ne.symm f3)]; exact h.pen, h.penF, h.pinv, fun q o e => ?_, by simpa using h.len, fun j y e => ?_, fun j k y z q hjk e1 e2 o1 o2 e3 e4 => ?_⟩
  · have n : q ≠ p := fun z => by rw [z, f1] at e; cases e
    rw [upd_ne n]; exact h.fh q o e
  · have n : q ≠ p := fun z => by rw [z, f2] at e; cases e
    rw [upd_ne n]; exact h.gh q o e
  · by_cases hj : j = i
    · subst hj
      rw [List.getElem?_set_self ilt] at e
      cases e
      cases x' with
      | none => cases hx'
      | fz d => cases hx'
      | own ds => exact ⟨p, ob', hp, upd_same, f1, f2, f3, ho'⟩
      | ownI c ds => exact ⟨p, ob', hp, upd_same, f1, ⟨f2, hs _ _ rfl⟩, f3, ho'⟩
    · rw [List.getElem?_set_ne (Ne.symm hj)] at e
      have w := h.sl j y e
      cases y with
      | none => trivial
      | fz d => exact w
      | own ds =>
        obtain ⟨q, ob, e1, e2, e3, e4, e5, o⟩ := w
        have n : q ≠ p := fun z => oth hj e rfl (by rw [e1, z])
        exact ⟨q, ob, e1, by rw [upd_ne n]; exact e2, e3, e4, e5, o⟩
      | ownI c ds =>
        obtain ⟨q, ob, e1, e2, e3, e4, e5, o⟩ := w
        have n : q ≠ p := fun z => oth hj e rfl (by rw [e1, z])
        exact ⟨q, ob, e1, by rw [upd_ne n]; exact e2, e3, e4, e5, o⟩
  · by_cases hj : j = i
    · subst hj
      rw [hp] at e3
      cases e3
      rw [List.getElem?_set_ne hjk] at e2
      exact oth (Ne.symm hjk) e2 o2 e4
    · by_cases hk : k = i
      · subst hk
        rw [hp] at e4
        cases e4
        rw [List.getElem?_set_ne (Ne.symm hj)] at e1
        exact oth hj e1 o1 e3
      · rw [List.getElem?_set_ne (Ne.symm hj)] at e1
        rw [List.getElem?_set_ne (Ne.symm hk)] at e2
        exact h.ap j k y z q hjk e1 e2 o1 o2 e3 e4

theorem swaps_call {f : Expr} {as : List Expr} {kw : List Keyword} {p : Pos} {l : Nat} {env : Env} : swapsWith (.Call f as kw p) none l env = pure false := rfl
/-- x.append(e) -/
theorem ds_append {i : Nat} {x : Str} {p ap cp : Pos} {th : Bool} (hv : PE X (.Name x p) (tVar i)) (he : PE X e (tD Z G W ce)) (hst : isStar e = false) (hline : (ap.endLine == cp.line) = true) :
    PS X (.Expr (.Call (.Attribute (.Name x p) "append" ap) [e] [] cp) pos) (tDS Z G W (.append i th ce)) := by
  have pa : PA X [e] (fun σ H Q => ∃ F τ s, SR Z.T Z.pn G F H σ τ s ∧ Post Z G (fun F d vs => ∃ v, vs = [v] ∧ Rep Z.T F d v) F σ Q W (evX Z.P Z.call Z.make th ce τ s)) :=
    (pa_cons (dx_of (th := th) he) pa_nil (starEach_plain hst)).imp fun σ H Q => by
      rintro ⟨F, τ, s, q, h⟩
      refine ⟨F, τ, s, q, ?_⟩
      revert h
      cases evX Z.P Z.call Z.make th ce τ s with
      | no => exact fun h => h
      | exc k fs τ1 s1 => exact fun h => h
      | ok d τ1 s1 => exact fun h v H' F' e1 q1 r1 => h [v] H' F' e1 q1 ⟨v, rfl, r1⟩
  refine (ps_expr (pe_bm F.plainAttrs_list F.slot_list_append F.type_list_append mt_append hv pa rfl (by rw [starEach_plain hst]; rfl) hline (starEach_plain hst) rfl) swaps_call).imp fun E σ H => ?_
  rintro ⟨F, τ, s, q, h⟩
  simp only [ex] at h
  cases hi : τ[i]? with
  | none => rw [hi] at h; exact h.elim
  | some sl =>
    rw [hi] at h
    cases sl with
    | own ds0 =>
      obtain ⟨p, ob, e1, e2, e3, e4, e5, vs0, rfl, r0⟩ := q.sl i _ hi
      refine ⟨.ref p, getD_of e1, .inl ⟨rfl, vs0, SqL.of e2⟩, F, τ, s, q, h.bind fun d vs τ1 s1 F1 H1 k1 q1 r1 h1 => ?_⟩
      obtain ⟨v, rfl, r1⟩ := r1
      cases hj : τ1[i]? with
      | none => rw [hj] at h1; exact h1.elim
      | some sl1 =>
        rw [hj] at h1
        cases sl1 with
        | own ds1 =>
          obtain ⟨p', ob1, f1, f2, f3, f4, f5, vs1, rfl, r2⟩ := q1.sl i _ hj
          rw [e1] at f1
          cases f1
          cases hl : lim (ds1.length + 1) with
          | false => simp only [hl] at h1; exact h1.elim
          | true =>
            simp only [hl] at h1
            refine ⟨p, vs1, v, rfl, rfl, f2, ?_, ?_⟩
            · rw [r2.length]; exact Nat.lt_of_lt_of_le (Nat.lt_succ_self _) (lim_size hl)
            · exact h1 σ _ F1 (Sub.refl _) (q1.rewrite hj rfl e1 rfl ⟨_, rfl, r2.append (RepL.one r1)⟩)
        | _ => exact h1.elim
    | _ => exact h.elim
/-- x.pop() -/
theorem RepL.dropLast {T : Tb} {F : Hp} {ds : List D} {vs : List V} (r : RepL T F ds vs) : RepL T F ds.dropLast vs.dropLast := by
  rw [List.dropLast_eq_take, List.dropLast_eq_take, r.length]
  exact r.take _
theorem ds_pop {i : Nat} {x : Str} {p ap cp : Pos} (hv : PE X (.Name x p) (tVar i)) (hline : (ap.endLine == cp.line) = true) :
    PS X (.Expr (.Call (.Attribute (.Name x p) "pop" ap) [] [] cp) pos) (tDS Z G W (.pop i)) := by
  refine (ps_expr (pe_bm0 F.plainAttrs_list F.slot_list_pop F.type_list_pop mt_pop hv rfl hline) swaps_call).imp fun E σ H => ?_
  rintro ⟨F, τ, s, q, h⟩
  simp only [ex] at h
  cases hi : τ[i]? with
  | none => rw [hi] at h; exact h.elim
  | some sl =>
    rw [hi] at h
    cases sl with
    | own ds =>
      obtain ⟨p, ob, e1, e2, e3, e4, e5, vs, rfl, r⟩ := q.sl i _ hi
      cases ds with
      | nil => exact h.elim
      | cons d ds =>
        have hl := r.length
        have hlt : vs.length - 1 < vs.length := by rw [hl]; simp
        refine ⟨.ref p, getD_of e1, .inl ⟨rfl, vs, SqL.of e2⟩, p, vs, vs[vs.length - 1], rfl, rfl, e2, List.getElem?_eq_getElem hlt, ?_⟩
        exact h σ _ F (Sub.refl _) (q.rewrite hi rfl e1 rfl ⟨_, rfl, r.dropLast⟩)
    | _ => exact h.elim

/-! ### loops -/
theorem PostS.loop {N : L2.St → Hp → Prop} {x : Out S Fl} {k : List Slot → S → Out S Fl} (h : PostS Z G F E W (x.bind fun f τ s => match f with
      | .next => k τ s
      | .cont => k τ s
      | .brk => .ok .next τ s
      | .ret d => .ok (.ret d) τ s)) (hN : ∀ σ' H' F' τ' s', Sub F F' → SR Z.T Z.pn G F' H' σ' τ' s' → PostS Z G F' E W (k τ' s') → N σ' H') : PostS Z G F { E with nx := N, ct := N, bk := E.nx } W x := by
  cases x with
  | no => exact h
  | exc c fs τ s => exact h
  | ok fl τ1 s1 =>
    cases fl with
    | next => exact fun σ' H' F' e q => hN σ' H' F' τ1 s1 e q (PostS.mono e h)
    | cont => exact fun σ' H' F' e q => hN σ' H' F' τ1 s1 e q (PostS.mono e h)
    | brk => exact h
    | ret d => exact h
theorem ds_while {c : Expr} {body : List Stmt} {cb : CSs} (hp : PassesOwn (model X.prog X.w) X.A X.env X.xe) (hc : PT X c (tDT Z G W ce)) (hb : PSs X body (tDSs Z G W cb)) : PS X (.While c body [] pos) (tDS Z G W (.while ce cb)) :=
  (ps_while hp (dxt_of hc) hb).imp fun E σ H => by
    rintro ⟨F, τ, s, q, h⟩
    simp only [ex] at h
    refine ⟨fun m σ H => ∃ F τ s, SR Z.T Z.pn G F H σ τ s ∧ PostS Z G F E W (whileL (fun τ s => evTs Z.P Z.call Z.make ce τ s) (fun τ s => exs Z.P Z.call Z.make cb τ s) m τ s), ⟨wfuel, F, τ, s, q, h⟩, ?_⟩
    rintro m σ1 H1 ⟨F1, τ1, s1, q1, h1⟩
    cases m with
    | zero => exact h1.elim
    | succ n =>
      simp only [whileL] at h1
      refine ⟨F1, τ1, s1, q1, h1.bind fun t b τ2 s2 F2 H2 e2 q2 r2 h2 => ?_⟩
      cases r2
      cases t with
      | false => exact h2 σ1 H2 F2 (Sub.refl _) q2
      | true =>
        refine ⟨fun σ' H' => ∃ F τ s, SR Z.T Z.pn G F H' σ' τ s ∧ PostS Z G F E W (whileL (fun τ s => evTs Z.P Z.call Z.make ce τ s) (fun τ s => exs Z.P Z.call Z.make cb τ s) n τ s), fun σ' H' z => ⟨n, Nat.lt_succ_self _, z⟩, F2, τ2, s2, q2, ?_⟩
        exact PostS.loop h2 fun σ' H' F' τ' s' e q k => ⟨F', τ', s', q, k⟩
theorem ds_for {tg iter : Expr} {body : List Stmt} {ctg : Tg} {ci : CI} {cb : CSs} (hp : PassesOwn (model X.prog X.w) X.A X.env X.xe) (hc : X.calm = true) (hi : PI X tg iter (iD Z G W ci)) (hg : PG X tg (gT Z.T.K ctg)) (hb : PSs X body (tDSs Z G W cb)) (hs : ∀ x, foldedSetIterable iter X.env x = pure x) :
    PS X (.For tg iter body [] pos) (tDS Z G W (.for ctg ci cb)) :=
  (ps_for hp hc hi hg hb hs).imp fun E σ H => by
    rintro ⟨F, τ, s, q, h⟩
    simp only [ex] at h
    refine ⟨F, τ, s, q, h.bind fun ds J τ1 s1 F1 H1 e1 q1 wk h1 => ?_⟩
    generalize hbd : (fun (d : D) (τ : List Slot) (s : S) => match bindT ctg d τ with
      | some τ => exs Z.P Z.call Z.make cb τ s
      | none => .no) = bd at h1
    refine for_it wk (g := gT Z.T.K ctg) (tb := tDSs Z G W cb) (D := E) (σ := σ) (H := H1) (fun i σ H => ∃ F2 τ2 s2, Sub F1 F2 ∧ SR Z.T Z.pn G F2 H σ τ2 s2 ∧ PostS Z G F2 E W (forL bd (ds.drop i) τ2 s2)) ⟨F1, τ1, s1, Sub.refl _, q1, h1⟩ ?_ ?_ ?_
    · rintro i σ2 H2 hi ⟨F2, τ2, s2, e2, q2, _⟩
      exact e2.trans q2.fh
    · rintro i x σ2 H2 H3 hi ⟨F2, τ2, s2, e2, q2, h2⟩ ⟨d, hd, hy⟩
      have hdrop : ds.drop i = d :: ds.drop (i + 1) := by
        obtain ⟨z, rfl⟩ := List.getElem?_eq_some_iff.mp hd
        exact List.drop_eq_getElem_cons z
      rw [hdrop] at h2
      simp only [forL] at h2
      obtain ⟨F3, e3, q3, rd⟩ : ∃ F3, Sub F2 F3 ∧ SR Z.T Z.pn G F3 H3 σ2 τ2 s2 ∧ Rep Z.T F3 d x := by
        rcases hy with ⟨rfl, rd⟩ | ⟨p, d1, d2, v1, v2, rfl, rfl, hp, rfl, r1, r2⟩
        · exact ⟨F2, Sub.refl _, q2, rd.mono e2⟩
        · have hF := q2.fh.none hp
          exact ⟨upd F2 p (.tup [v1, v2]), Sub.new hF, q2.new hp, p, [v1, v2], rfl, SqT.of upd_same, RepL.two ((r1.mono e2).mono (Sub.new hF)) ((r2.mono e2).mono (Sub.new hF))⟩
      replace h2 := PostS.mono e3 h2
      cases hbt : bindT ctg d τ2 with
      | none =>
        have z : bd d τ2 s2 = .no := by rw [← hbd]; simp only [hbt]
        rw [z] at h2; exact h2.elim
      | some τ3 =>
        have z : bd d τ2 s2 = exs Z.P Z.call Z.make cb τ3 s2 := by rw [← hbd]; simp only [hbt]
        rw [z] at h2
        refine gT_of q3 rd hbt fun σ4 q4 _ _ => ⟨F3, τ3, s2, q4, ?_⟩
        exact PostS.loop h2 fun σ' H' F' τ' s' e q k => ⟨F', τ', s', e2.trans (e3.trans e), q, k⟩
    · rintro σ2 H2 ⟨F2, τ2, s2, e2, q2, h2⟩
      rw [List.drop_length] at h2
      simp only [forL] at h2
      exact h2 σ2 H2 F2 (Sub.refl _) q2
end
end Rz
end

section
set_option autoImplicit false
set_option Elab.async false
set_option linter.all false
set_option maxHeartbeats 1000000
set_option maxRecDepth 100000
namespace Rz
open PySem PySem.Spec PySem.W PyProof.Rows L2

section
variable {S : Type} [Pen S] {Z : Cz S} {us : List Str} {G : Fm} {F H : Hp} {σ : L2.St} {τ : List Slot} {s : S} {W : WX} {X : Cx} {E : Ends}
variable {pos : Pos} {e a b : Expr} {ce ca cb : CE}

theorem ds_never {st : Stmt} : PS X st (tDS Z G W .never) := ps_never.imp fun E σ H => by
  rintro ⟨F, τ, s, q, h⟩
  exact h
theorem de_never {e : Expr} : PE X e (tD Z G W .never) := ⟨fun pins sh σ H Q I ⟨F, τ, s, q, h⟩ => h.elim⟩

/-! ### a comprehension stored on its own line -/
theorem ds_lc {i : Nat} {y : Str} {py spos : Pos} {elt tg iter : Expr} {ifs : List Expr} {scope : Scope} {own : List (Str × Nat)} {ctg : Tg} {ci : CI} {cs : CAs} {th : Bool} (hc : X.calm = true) (hN : X.N.Nodup) (hy : X.N[i]? = some y) (hyl : X.env.scope.names.lookup y = some .local)
    (hsw : swapsWith (.ListComp elt [⟨tg, iter, ifs, 0⟩] scope pos) (some (.Name y py)) spos.line X.env = pure true) (hi : PI X tg iter (iD Z G W ci)) (ok : BlkOk X.N X.env.scope scope own) (hv : own.map (·.2) = ctg.slots)
    (hg : ∀ (s : Shared) (H : Hp) (C : Addr) (cl : List (Str × Addr)) (fp : List Addr), PG (X.blk s H scope (compEnvC scope cl C X.env) fp) tg (gT Z.T.K ctg)) (ht : ∀ (G : Fm) (s : Shared) (H : Hp) (C : Addr) (cl : List (Str × Addr)) (fp : List Addr), PTs (X.blk s H scope (compEnvC scope cl C X.env) fp) ifs (tCs Z G WF cs))
    (he : ∀ (G : Fm) (s : Shared) (H : Hp) (C : Addr) (cl : List (Str × Addr)) (fp : List Addr), PE (X.blk s H scope (compEnvC scope cl C X.env) fp) elt (tD Z G WF ce)) (hs : ∀ x, foldedSetIterable iter X.env x = pure x) :
    PS X (.Assign [.Name y py] (.ListComp elt [⟨tg, iter, ifs, 0⟩] scope pos) spos) (tDS Z G W (.own i (.lc ce ctg ci cs))) ∧ PS X (.Assign [.Name y py] (.ListComp elt [⟨tg, iter, ifs, 0⟩] scope pos) spos) (tDS Z G W (.set i false (.nl (.lc ce ctg ci cs)))) := by
  have base := ps_setLc (spos := spos) hc hN hy hyl hsw hi ok hg (fun s H C cl fp => PTs.any fun G => ht G s H C cl fp) (fun s H C cl fp => PE.any fun G => he G s H C cl fp) hs
  refine ⟨base.imp fun E σ H => ?_, base.imp fun E σ H => ?_⟩
  · rintro ⟨F, τ, s, q, h⟩
    simp only [ex] at h
    exact tLc_of hv ⟨F, τ, s, q, h.bind fun x v τ1 s1 F1 H1 e1 q1 r1 h1 => fun p hp => h1 _ _ F1 (Sub.refl _) (q1.own i hp r1)⟩
  · rintro ⟨F, τ, s, q, h⟩
    simp only [ex, evX, ev] at h
    refine tLc_of hv ⟨F, τ, s, q, ?_⟩
    cases hx : evW Z.P Z.call Z.make (.lc ce ctg ci cs) τ s with
    | no => rw [hx] at h; exact h
    | exc k fs τ1 s1 => rw [hx] at h; exact fun H' F' od e1 q1 r1 => h σ H' F' od e1 q1 r1
    | ok ds τ1 s1 =>
      rw [hx] at h
      intro vs H' F' e1 q1 r1 p hp
      have hF := q1.fh.none hp
      exact h _ _ (upd F' p (.lst vs)) (e1.trans (Sub.new hF)) ((q1.new hp).setF i ⟨p, vs, rfl, upd_same, r1.mono (Sub.new hF)⟩)

/-! ### a, b = x, y -/
theorem SR.dropG {T : Tb} {pn : Pn S} {p : Addr} {o : HO} (h : SR T pn (G.upd p o) F H σ τ s) (hG : G p = none) : SR T pn G F H σ τ s := by
  have gg : ∀ {a : Addr}, (G.upd p o) a = none → G a = none := fun {a} e => by
    by_cases z : a = p
    · rw [z]; exact hG
    · rw [Fm.upd_ne z] at e; exact e
  refine ⟨h.fh, h.pen, h.penF, h.pinv, fun a u e => ?_, h.len, fun i x e => ?_, h.ap⟩
  · have z : a ≠ p := fun z => by rw [z, hG] at e; cases e
    exact h.gh a u (by rw [Fm.upd_ne z]; exact e)
  · have k := h.sl i x e
    cases x with
    | none => trivial
    | fz d => exact k
    | own ds =>
      obtain ⟨a, ob, e1, e2, e3, e4, e5, o'⟩ := k
      exact ⟨a, ob, e1, e2, e3, gg e4, e5, o'⟩
    | ownI c ds =>
      obtain ⟨a, ob, e1, e2, e3, ⟨e4, e6⟩, e5, o'⟩ := k
      exact ⟨a, ob, e1, e2, e3, ⟨gg e4, e6⟩, e5, o'⟩
theorem SR.ownG {p : Addr} {vs : List V} {ds : List D} (h : SR Z.T Z.pn (G.upd p (.lst vs)) F H σ τ s) (hG : G p = none) (i : Nat) (r : RepL Z.T F ds vs) : SR Z.T Z.pn G F H (σ.set i (some (.ref p))) (τ.set i (.own ds)) s := by
  have z := (h.unframe hG).own i cut_same r
  rw [upd_cut (h.gh p _ Fm.upd_same).1] at z
  exact z
/-- the heap, or the heap with one more object -/
def Up (H H' : Hp) : Prop := H' = H ∨ ∃ p o, H p = none ∧ H' = upd H p o
theorem SR.up {T : Tb} {pn : Pn S} {H' : Hp} (h : SR T pn G F H σ τ s) (u : Up H H') : SR T pn G F H' σ τ s := by
  rcases u with rfl | ⟨p, o, hp, rfl⟩
  · exact h
  · exact h.newU hp
def CVok (Z : Cz S) (W : WX) (X : Cx) (e : Expr) (v : CV) (G : Fm) : Prop :=
  match v with
  | .f c => PE X e (tD Z G W c)
  | .w w => PE X e (tDL Z G W w)
theorem _root_.L2.PA.mono {X : Cx} {es : List Expr} {t : TA} (h : PA X es t) : PA X es (fun σ H Q => ∃ Q', (∀ vs H, Q' vs H → Q vs H) ∧ t σ H Q') := ⟨fun p pins s σ H Q I ⟨Q', k, q⟩ => thn (h.run p pins s σ H Q' I q) fun us s1 ⟨vs, H1, I1, r, z⟩ => ⟨vs, H1, I1, r, k _ _ z⟩⟩
/-- a value to be stored: Rep, or owned by the frame -/
theorem ds_par2 {i j : Nat} {x y : Str} {px py pt pos : Pos} {kt k2 : Nat} {pt2 : Pos} {va vb : CV} (hK : X.K = Z.T.K) (hc : X.calm = true) (hN : X.N.Nodup) (hi : nmOk X i x) (hj : nmOk X j y)
    (ha : ∀ G, CVok Z W X a va G) (hb : ∀ G, CVok Z W X b vb G) (hsa : isStar a = false) (hsb : isStar b = false)
    (hw : (swappedStores [.Tuple [.Name x px, .Name y py] kt pt] (.Tuple [a, b] k2 pt2) X.env = pure (some [x, y]) ∧ X.env.scope.names.lookup x = some .local ∧ X.env.scope.names.lookup y = some .local) ∨ swappedStores [.Tuple [.Name x px, .Name y py] kt pt] (.Tuple [a, b] k2 pt2) X.env = pure none) (hij : i ≠ j) :
    PS X (.Assign [.Tuple [.Name x px, .Name y py] kt pt] (.Tuple [a, b] k2 pt2) pos) (tDS Z G W (.par2 i j va vb)) := by
  have main : ∀ {ta tb : TE}, PE X a ta → PE X b tb → PS X (.Assign [.Tuple [.Name x px, .Name y py] kt pt] (.Tuple [a, b] k2 pt2) pos) (fun E σ H => ta σ H fun v H1 => tb σ H1 fun w H2 => ∃ v' w', [v, w] = [v', w'] ∧ ∀ H3, Up H2 H3 → E.nx ((σ.set i (some v')).set j (some w')) H3) := fun {ta tb} h1 h2 => by
    have pa : PA X [a, b] (fun σ H Q => ta σ H fun v H1 => tb σ H1 fun w H2 => Q [v, w] H2) := (pa_cons h1 (pa_cons h2 pa_nil (starEach_plain hsb)) (starEach_plain hsa)).imp fun σ H Q h => h
    rcases hw with ⟨hw, hx, hy⟩ | hw
    · exact (ps_par (pos := pos) hc hN hi.1 hj.1 hij hx hy pa.mono hw rfl).imp fun E σ H h => ⟨fun vs H2 => ∃ v' w', vs = [v', w'] ∧ ∀ H3, Up H2 H3 → E.nx ((σ.set i (some v')).set j (some w')) H3, fun vs H2 ⟨v', w', e, k⟩ => ⟨v', w', e, k H2 (.inl rfl)⟩, h⟩
    · refine (ps_asg (pos := pos) (pe_tup pa.mono) (dg_many (Z := Z) (k := kt) (pos := pt) hK hc hN (.cons (pos := px) hi (.cons (pos := py) hj .nil))) rfl hw rfl).imp fun E σ H h => ⟨fun vs H2 => ∃ v' w', vs = [v', w'] ∧ ∀ H3, Up H2 H3 → E.nx ((σ.set i (some v')).set j (some w')) H3, fun vs H2 ⟨v', w', e, k⟩ => ?_, h⟩
      subst e
      refine ⟨by rw [sizeLine_eq]; show 2 ≤ _; decide, fun p hp => ?_⟩
      exact ⟨p, [v', w'], rfl, SqT.of upd_same, rfl, v', [w'], rfl, w', [], rfl, rfl, k _ (.inr ⟨p, _, hp, rfl⟩)⟩
  have hne : (i == j) = false := by simpa using hij
  -- an owned list, carried through an evaluation by the frame
  cases va with
  | f c =>
    cases vb with
    | f d =>
      refine (main (ha G) (hb G)).imp fun E σ H => ?_
      rintro ⟨F, τ, s, q, h⟩
      simp only [ex, evV, hne, cond_false] at h
      refine ⟨F, τ, s, q, ?_⟩
      cases h1 : ev Z.P Z.call Z.make c τ s with
      | no => rw [h1] at h; exact h
      | exc k fs τ1 s1 => rw [h1] at h; exact fun H' F' od e1 q1 r1 => h σ H' F' od e1 q1 r1
      | ok d1 τ1 s1 =>
        rw [h1] at h
        intro v H1 F1 e1 q1 r1
        refine ⟨F1, τ1, s1, q1, ?_⟩
        simp only [Out.bind] at h
        cases h2 : ev Z.P Z.call Z.make d τ1 s1 with
        | no => rw [h2] at h; exact h
        | exc k fs τ1 s1 => rw [h2] at h; exact fun H' F' od e2 q1 r1 => h σ H' F' od (e1.trans e2) q1 r1
        | ok d2 τ2 s2 =>
          rw [h2] at h
          intro w H2 F2 e2 q2 r2
          exact ⟨v, w, rfl, fun H3 u => h _ _ F2 (e1.trans e2) (((q2.setF i (r1.mono e2)).setF j r2).up u)⟩
    | w w =>
      refine (main (ha G) (hb G)).imp fun E σ H => ?_
      rintro ⟨F, τ, s, q, h⟩
      simp only [ex, evV, hne, cond_false] at h
      refine ⟨F, τ, s, q, ?_⟩
      cases h1 : ev Z.P Z.call Z.make c τ s with
      | no => rw [h1] at h; exact h
      | exc k fs τ1 s1 => rw [h1] at h; exact fun H' F' od e1 q1 r1 => h σ H' F' od e1 q1 r1
      | ok d1 τ1 s1 =>
        rw [h1] at h
        intro v H1 F1 e1 q1 r1
        refine ⟨F1, τ1, s1, q1, ?_⟩
        simp only [Out.bind] at h
        cases h2 : evW Z.P Z.call Z.make w τ1 s1 with
        | no => rw [h2] at h; exact h
        | exc k fs τ1 s1 => rw [h2] at h; exact fun H' F' od e2 q1 r1 => h σ H' F' od (e1.trans e2) q1 r1
        | ok d2 τ2 s2 =>
          rw [h2] at h
          intro vs H2 F2 e2 q2 r2 p hp
          exact ⟨v, .ref p, rfl, fun H3 u => h _ _ F2 (e1.trans e2) (((q2.setF i (r1.mono e2)).own j hp r2).up u)⟩
  | w w1 =>
    cases vb with
    | f d =>
      refine (main (ha G) (PE.any (t := fun G => _) hb)).imp fun E σ H => ?_
      rintro ⟨F, τ, s, q, h⟩
      simp only [ex, evV, hne, cond_false] at h
      refine ⟨F, τ, s, q, ?_⟩
      cases h1 : evW Z.P Z.call Z.make w1 τ s with
      | no => rw [h1] at h; exact h
      | exc k fs τ1 s1 => rw [h1] at h; exact fun H' F' od e1 q1 r1 => h σ H' F' od e1 q1 r1
      | ok d1 τ1 s1 =>
        rw [h1] at h
        intro vs H1 F1 e1 q1 r1 p hp
        have hG := q1.gfree hp
        refine ⟨G.upd p (.lst vs), F1, τ1, s1, q1.frame hp, ?_⟩
        simp only [Out.bind] at h
        cases h2 : ev Z.P Z.call Z.make d τ1 s1 with
        | no => rw [h2] at h; exact h
        | exc k fs τ1 s1 => rw [h2] at h; exact fun H' F' od e2 q1 r1 => h σ H' F' od (e1.trans e2) (q1.dropG hG) r1
        | ok d2 τ2 s2 =>
          rw [h2] at h
          intro w H2 F2 e2 q2 r2
          exact ⟨.ref p, w, rfl, fun H3 u => h _ _ F2 (e1.trans e2) (((q2.ownG hG i (r1.mono e2)).setF j r2).up u)⟩
    | w w2 =>
      refine (main (ha G) (PE.any (t := fun G => _) hb)).imp fun E σ H => ?_
      rintro ⟨F, τ, s, q, h⟩
      simp only [ex, evV, hne, cond_false] at h
      refine ⟨F, τ, s, q, ?_⟩
      cases h1 : evW Z.P Z.call Z.make w1 τ s with
      | no => rw [h1] at h; exact h
      | exc k fs τ1 s1 => rw [h1] at h; exact fun H' F' od e1 q1 r1 => h σ H' F' od e1 q1 r1
      | ok d1 τ1 s1 =>
        rw [h1] at h
        intro vs H1 F1 e1 q1 r1 p hp
        have hG := q1.gfree hp
        refine ⟨G.upd p (.lst vs), F1, τ1, s1, q1.frame hp, ?_⟩
        simp only [Out.bind] at h
        cases h2 : evW Z.P Z.call Z.make w2 τ1 s1 with
        | no => rw [h2] at h; exact h
        | exc k fs τ1 s1 => rw [h2] at h; exact fun H' F' od e2 q1 r1 => h σ H' F' od (e1.trans e2) (q1.dropG hG) r1
        | ok d2 τ2 s2 =>
          rw [h2] at h
          intro ws H2 F2 e2 q2 r2 p2 hp2
          exact ⟨.ref p, .ref p2, rfl, fun H3 u => h _ _ F2 (e1.trans e2) (((q2.ownG hG i (r1.mono e2)).own j hp2 r2).up u)⟩

/-! ### y = list(x), x kept -/
theorem ds_copy {i j : Nat} {x y : Str} {px py p pos pos2 : Pos} (hN : X.N.Nodup) (hy : nmOk X j y) (hv : PE X (.Name x px) (tVar i)) (hg : Gl X "list") (hm : X.mg "list" = none)
    (hs : swapsWithSole [.Name y py] (.Call (.Name "list" p) [.Name x px] [] pos2) pos.line X.env = pure false) (hw : swappedStores [.Name y py] (.Call (.Name "list" p) [.Name x px] [] pos2) X.env = pure none) :
    PS X (.Assign [.Name y py] (.Call (.Name "list" p) [.Name x px] [] pos2) pos) (tDS Z G W (.copy j i)) :=
  (ps_asg (pe_callTy call_list_of hg hm Bi.list.boot (pa_cons hv pa_nil rfl) Bi.list.notName Bi.list.notDebug rfl rfl) (pg_name hN hy.1 hy.2.1 hy.2.2) hs hw rfl).imp fun E σ H => by
    rintro ⟨F, τ, s, q, h⟩
    simp only [ex] at h
    cases hi : τ[i]? with
    | none => rw [hi] at h; exact h.elim
    | some sl =>
      rw [hi] at h
      cases sl with
      | own ds =>
        obtain ⟨a, ob, e1, e2, e3, e4, e5, vs, rfl, r⟩ := q.sl i _ hi
        refine ⟨.ref a, getD_of e1, a, vs, rfl, .inl (SqL.of e2), fun n hn => ?_⟩
        have nF := q.fh.none hn
        exact h _ _ (upd F n (.lst vs)) (Sub.new nF) ((q.new hn).setF j ⟨n, vs, rfl, upd_same, r.mono (Sub.new nF)⟩)
      | _ => exact h.elim
/-! ### a, b, c = x, y, z -/
theorem ds_par3 {i j l : Nat} {x y w : Str} {c : Expr} {cc : CE} {px py pz pt pos : Pos} {kt k2 : Nat} {pt2 : Pos} (hK : X.K = Z.T.K) (hc : X.calm = true) (hN : X.N.Nodup) (hi : nmOk X i x) (hj : nmOk X j y) (hl : nmOk X l w)
    (ha : PE X a (tD Z G W ca)) (hb : PE X b (tD Z G W cb)) (hcc : PE X c (tD Z G W cc)) (hsa : isStar a = false) (hsb : isStar b = false) (hsc : isStar c = false) (hij : i ≠ j) (hil : i ≠ l) (hjl : j ≠ l)
    (hw : (swappedStores [.Tuple [.Name x px, .Name y py, .Name w pz] kt pt] (.Tuple [a, b, c] k2 pt2) X.env = pure (some [x, y, w]) ∧ X.env.scope.names.lookup x = some .local ∧ X.env.scope.names.lookup y = some .local ∧ X.env.scope.names.lookup w = some .local) ∨ swappedStores [.Tuple [.Name x px, .Name y py, .Name w pz] kt pt] (.Tuple [a, b, c] k2 pt2) X.env = pure none) :
    PS X (.Assign [.Tuple [.Name x px, .Name y py, .Name w pz] kt pt] (.Tuple [a, b, c] k2 pt2) pos) (tDS Z G W (.par3 i j l ca cb cc)) := by
  have hne : (i == j || i == l || j == l) = false := by simp [hij, hil, hjl]
  have pa : PA X [a, b, c] (fun σ H Q => tD Z G W ca σ H fun v H1 => tD Z G W cb σ H1 fun v2 H2 => tD Z G W cc σ H2 fun v3 H3 => Q [v, v2, v3] H3) := (pa_cons ha (pa_cons hb (pa_cons hcc pa_nil (starEach_plain hsc)) (starEach_plain hsb)) (starEach_plain hsa)).imp fun σ H Q h => h
  have main : PS X (.Assign [.Tuple [.Name x px, .Name y py, .Name w pz] kt pt] (.Tuple [a, b, c] k2 pt2) pos) (fun E σ H => tD Z G W ca σ H fun v H1 => tD Z G W cb σ H1 fun v2 H2 => tD Z G W cc σ H2 fun v3 H3 => ∃ u v' u', [v, v2, v3] = [u, v', u'] ∧ ∀ H4, Up H3 H4 → E.nx (((σ.set i (some u)).set j (some v')).set l (some u')) H4) := by
    rcases hw with ⟨hw, hx, hy, hz⟩ | hw
    · exact (ps_par3 (pos := pos) hc hN hi.1 hj.1 hl.1 hij hil hjl hx hy hz pa.mono hw rfl).imp fun E σ H h => ⟨fun vs H2 => ∃ u v' u', vs = [u, v', u'] ∧ ∀ H3, Up H2 H3 → E.nx (((σ.set i (some u)).set j (some v')).set l (some u')) H3, fun vs H2 ⟨u, v', u', e, k⟩ => ⟨u, v', u', e, k H2 (.inl rfl)⟩, h⟩
    · refine (ps_asg (pos := pos) (pe_tup pa.mono) (dg_many (Z := Z) (k := kt) (pos := pt) hK hc hN (.cons (pos := px) hi (.cons (pos := py) hj (.cons (pos := pz) hl .nil)))) rfl hw rfl).imp fun E σ H h => ⟨fun vs H2 => ∃ u v' u', vs = [u, v', u'] ∧ ∀ H3, Up H2 H3 → E.nx (((σ.set i (some u)).set j (some v')).set l (some u')) H3, fun vs H2 ⟨u, v', u', e, k⟩ => ?_, h⟩
      subst e
      refine ⟨by rw [sizeLine_eq]; show 3 ≤ _; decide, fun p hp => ?_⟩
      exact ⟨p, [u, v', u'], rfl, SqT.of upd_same, rfl, u, [v', u'], rfl, v', [u'], rfl, u', [], rfl, rfl, k _ (.inr ⟨p, _, hp, rfl⟩)⟩
  refine main.imp fun E σ H => ?_
  rintro ⟨F, τ, s, q, h⟩
  simp only [ex, hne, cond_false] at h
  refine ⟨F, τ, s, q, ?_⟩
  cases h1 : ev Z.P Z.call Z.make ca τ s with
  | no => rw [h1] at h; exact h
  | exc k fs τ1 s1 => rw [h1] at h; exact fun H' F' od e1 q1 r1 => h σ H' F' od e1 q1 r1
  | ok d1 τ1 s1 =>
    rw [h1] at h
    intro v H1 F1 e1 q1 r1
    refine ⟨F1, τ1, s1, q1, ?_⟩
    simp only [Out.bind] at h
    cases h2 : ev Z.P Z.call Z.make cb τ1 s1 with
    | no => rw [h2] at h; exact h
    | exc k fs τ1 s1 => rw [h2] at h; exact fun H' F' od e2 q1 r1 => h σ H' F' od (e1.trans e2) q1 r1
    | ok d2 τ2 s2 =>
      rw [h2] at h
      intro v2 H2 F2 e2 q2 r2
      refine ⟨F2, τ2, s2, q2, ?_⟩
      simp only [Out.bind] at h
      cases h3 : ev Z.P Z.call Z.make cc τ2 s2 with
      | no => rw [h3] at h; exact h
      | exc k fs τ1 s1 => rw [h3] at h; exact fun H' F' od e3 q1 r1 => h σ H' F' od ((e1.trans e2).trans e3) q1 r1
      | ok d3 τ3 s3 =>
        rw [h3] at h
        intro v3 H3 F3 e3 q3 r3
        exact ⟨v, v2, v3, rfl, fun H4 u => h _ _ F3 ((e1.trans e2).trans e3) ((((q3.setF i (r1.mono (e2.trans e3))).setF j (r2.mono e3)).setF l r3).up u)⟩

/-! ### a field of the instance that is being made -/
theorem ds_fld {x : Str} {m : Nat} {f : Str} {p p2 spos : Pos} (z : Sz Z us X) (hf : nmOf us m = f) (hv : PE X (.Name x p) (tVar 0)) (he : PE X e (tD Z G W ce)) (hs : swapsWith e (some (.Attribute (.Name x p) f p2)) spos.line X.env = pure false) :
    PS X (.Assign [.Attribute (.Name x p) f p2] e spos) (tDS Z G W (.setFld m ce)) :=
  (ps_fld hv he hs).imp fun E σ H => by
    rintro ⟨F, τ, s, q, h⟩
    simp only [ex] at h
    refine ⟨F, τ, s, q, h.bind fun d v τ1 s1 F1 H1 e1 q1 r1 h1 => ?_⟩
    cases hi : (τ1[0]? : Option Slot) with
    | none => rw [hi] at h1; exact h1.elim
    | some sl =>
      rw [hi] at h1
      cases sl with
      | ownI c ds =>
        obtain ⟨a, ob, f1, f2, f3, f4, f5, dx, vs, rfl, hl, r⟩ := q1.sl 0 _ hi
        simp only at h1
        cases hat : Z.P.attr c m with
        | fld k =>
          simp only [hat] at h1
          cases hk : ds.length == k with
          | false => rw [hk] at h1; exact h1.elim
          | true =>
            rw [hk] at h1
            obtain ⟨ck, no, at_⟩ := z.fld c m k hat
            rw [hf] at no at_
            have hk' : ds.length = k := by simpa using hk
            have hlt : k < (Z.T.fld c).length := (List.getElem?_eq_some_iff.mp at_).1
            refine ⟨.ref a, getD_of f1, a, _, dx, _, rfl, f2, by rw [z.hK]; exact ck.cl, by rw [z.hK]; exact no, ?_, ?_⟩
            · rw [List.length_zip]
              have := ck.few
              omega
            · rw [zip_put ck.nd (by rw [r.length, hk']; exact at_)]
              refine h1 σ _ F1 (Sub.refl _) (q1.rewrite hi rfl f1 rfl ⟨dx, _, rfl, ?_, r.append (RepL.one r1)⟩ fun _ _ _ => f4.2)
              simp; omega
        | prop g => simp only [hat] at h1; exact h1.elim
        | none => simp only [hat] at h1; exact h1.elim
      | _ => exact h1.elim
end
end Rz
end

section
set_option autoImplicit false
set_option Elab.async false
set_option linter.all false
set_option maxHeartbeats 1000000
set_option maxRecDepth 100000
namespace Rz
open PySem PySem.Spec PySem.W PyProof.Rows L2

/-- no class of the order has the in-place method -/
def noI (K : Frag) (C : Addr) (nm : String) : Bool := (clsIn K C).any fun cd => cd.mro.all fun c => findIn K c (dunderI nm) == some none
section
variable {prog : Program} {w : World} {A : Around} {E : Value → Shared → Prop} {sh : Shared} {K : Frag} {x C f : Addr} {ox : Obj} {od : Option Obj} {T : String}
theorem noI_looks {M : Model} {h : Heap} {nm : String} {add : Bool} (X : K.In h) (hn : noI K C nm = true) : Looks M h (fillsInplaceSlot (.ref C) nm add) false := by
  intro A Q E s k q
  unfold noI at hn
  cases hc : clsIn K C with
  | none => rw [hc] at hn; cases hn
  | some cd =>
    rw [hc] at hn
    replace hn : (cd.mro.all fun c => findIn K c (dunderI nm) == some none) = true := hn
    have Lm : Looks M h (mroOf (.ref C)) cd.mro := (looks_clsIn X hc).andThen (f := fun cd => pure cd.mro) .now
    unfold fillsInplaceSlot
    refine wpAny_bind (Lm A _ E s k ?_)
    generalize cd.mro = l at hn
    induction l with
    | nil => rw [List.anyM_nil]; exact wpAny_pure q
    | cons a r ih =>
      rw [List.all_cons, Bool.and_eq_true] at hn
      rw [List.anyM_cons]
      refine wpAny_bind (wpAny_bind (looks_findIn X (beq_iff_eq.mp hn.1) A _ E s k ?_))
      refine wpAny_pure ?_
      exact ih hn.2
/-- the instance left, an in-place operator that its class lacks: a value of a built-in type right -/
theorem own_leftI {op : Operator} {b : Value} {fo ro rc : Option Value} {Q : Value → Shared → Prop} (X : K.In sh.heap) (I : InstAt sh.heap x ox C od) (hb : Looks (model prog w) sh.heap (typeOf b) (.type T)) (hc : selfFirst K C = true) (hn : noI K C op.info.2 = true)
    (hs : findIn K (.ref C) (PySem.dunder op.info.2) = some (some (.ref f))) (hf : isFn K (.ref f) = true) (hr : findIn K (.ref C) (dunderR op.info.2) = some rc) (hp : rc = none ∨ ∃ g : Addr, rc = some (.ref g))
    (h1 : findIn K (.type T) (PySem.dunder op.info.2) = some fo) (h2 : findIn K (.type T) (dunderR op.info.2) = some ro) (hsub : subIn K (.type T) (.ref C) = some false)
    (h : wpAny (model prog w) A (call (.ref f) [.ref x, b]) (PySem.W.CmpBack Q) E sh) : wpAny (model prog w) A (inplaceOp op (.ref x) b) Q E sh := by
  obtain ⟨cd, rest, hcd, hm⟩ := ksp_first hc
  have one := ksp_try X I hs hf h
  obtain ⟨hh, g, d, tt, os⟩ := sh
  have L1 : Looks (model prog w) hh (typeOf (.ref x)) (.ref C) := I.type
  have L2' : Looks (model prog w) hh (typeOf b) (.type T) := hb
  have L3 : Looks (model prog w) hh (fillsNumberSlot (.ref C) op.info.2) true := fills_K X hcd hm hs
  have L4 : Looks (model prog w) hh (fillsNumberSlot (.type T) op.info.2) ((fo.isSome && !isSeqSlot fo) || (ro.isSome && !isSeqSlot ro)) := ksp_fillsT X h1 h2
  have L5 : Looks (model prog w) hh (isSubtype (.type T) (.ref C)) false := looks_subIn X hsub
  have L6 : Looks (model prog w) hh (numberSlotInPython (.ref C) op.info.2) true := ksp_inPy X hs hr hp
  have L7 : Looks (model prog w) hh (numberSlotInPython (.type T) op.info.2) false := Looks.of_pure rfl
  have L8 : Looks (model prog w) hh (typeLookup (.type T) (dunderR op.info.2)) ro := looks_findIn X h2
  have L9 : Looks (model prog w) hh (fillsInplaceSlot (.ref C) op.info.2 (op == .Add)) false := noI_looks X hn
  generalize ((fo.isSome && !isSeqSlot fo) || (ro.isSome && !isSeqSlot ro)) = right at L4
  have hne : (Value.ref C == Value.type T) = false := Bool.eq_false_iff.mpr fun q => by cases beq_iff_eq.mp q
  unfold inplaceOp
  refine wpAny_holding ?_
  refine wpAny_bind (L1.at (wpAny_bind (L9.at ?_)))
  rw [if_neg Bool.false_ne_true]
  refine wpAny_bind ?_
  unfold binaryOp1
  refine wpAny_bind (L1.at (wpAny_bind (L2'.at (wpAny_bind (L3.at ?_)))))
  simp only [hne, Bool.false_eq_true, if_false]
  cases right with
  | false =>
    ksp_lk
    refine wpAny_mono one (fun r s' hr' => ?_) fun _ _ e => e
    obtain ⟨v, rfl, hq⟩ := hr'
    ksp_lk
    exact hq
  | true =>
    ksp_lk
    refine wpAny_mono one (fun r s' hr' => ?_) fun _ _ e => e
    obtain ⟨v, rfl, hq⟩ := hr'
    ksp_lk
    exact hq
/-- .. an instance of the same class right -/
theorem own_sameI {op : Operator} {b : Value} {Q : Value → Shared → Prop} (X : K.In sh.heap) (I : InstAt sh.heap x ox C od) (hb : Looks (model prog w) sh.heap (typeOf b) (.ref C)) (hc : selfFirst K C = true) (hn : noI K C op.info.2 = true)
    (hs : findIn K (.ref C) (PySem.dunder op.info.2) = some (some (.ref f))) (hf : isFn K (.ref f) = true)
    (h : wpAny (model prog w) A (call (.ref f) [.ref x, b]) (PySem.W.CmpBack Q) E sh) : wpAny (model prog w) A (inplaceOp op (.ref x) b) Q E sh := by
  obtain ⟨cd, rest, hcd, hm⟩ := ksp_first hc
  have L9 : Looks (model prog w) sh.heap (fillsInplaceSlot (.ref C) op.info.2 (op == .Add)) false := noI_looks X hn
  unfold inplaceOp
  refine wpAny_holding ?_
  refine wpAny_bind (I.type.here (wpAny_bind (L9.here ?_)))
  rw [if_neg Bool.false_ne_true]
  refine wpAny_bind ?_
  unfold binaryOp1
  refine wpAny_bind (I.type.here (wpAny_bind (hb.here (wpAny_bind ((fills_K X hcd hm hs).here ?_)))))
  simp only [beq_self_eq_true, if_true]
  refine wpAny_bind (wpAny_pure ?_)
  simp only [Bool.and_false, Bool.false_eq_true, if_false, Bool.false_and]
  refine wpAny_bind (wpAny_pure ?_)
  simp only [Bool.false_eq_true, if_false]
  refine wpAny_bind (m := tryMethod (.ref x) _ b) ?_
  unfold tryMethod
  refine wpAny_bind (special_fn X I hs (beq_iff_eq.mp hf) (wpAny_mono h (fun v s' hv => ?_) fun _ _ e => e))
  cases v <;> first | exact hv.elim | exact wpAny_pure (wpAny_pure (wpAny_pure hv))
end

section
variable {S : Type} [Pen S] {Z : Cz S} {us : List Str} {G : Fm} {F H : Hp} {σ : L2.St} {τ : List Slot} {s : S} {W : WX} {X : Cx} {E : Ends} {pins : List (Addr × Obj)} {sh : Shared}
variable {pos : Pos} {e a b : Expr} {ce ca cb : CE}
theorem augV_z {o : Operator} {x y : D} {v v' : V} {u w : Value} {Q : VK} (hK : X.K = Z.T.K) (FZ : ∀ f, FnZ Z X f) (OL : ∀ c f, Z.P.meth c (dun o) = some f → OpL Z.T c o f) (NI : ∀ c f, Z.P.meth c (dun o) = some f → noI Z.T.K (Z.T.cA c) o.info.2 = true) (tk : Takes X W) (I : Inv X pins σ H sh) (rx : RelV v u) (ry : RelV v' w) (q : SR Z.T Z.pn G F H σ τ s)
    (r1 : Rep Z.T F x v) (r2 : Rep Z.T F y v') (h : Post Z G (Rep Z.T) F σ Q W (augV Z.P Z.call o x y τ s)) : wpAny (model X.prog X.w) X.A (inplaceOp o u w) (EP X pins σ Q) X.xe sh := by
  cases x with
  | int i =>
    cases y with
    | int j =>
      cases r1; cases r2
      obtain ⟨t, rfl⟩ := rx
      obtain ⟨t', rfl⟩ := ry
      cases o <;> simp only [augV] at h
      case Add =>
        have h' : Q (.int (i + j)) H := h _ H F (Sub.refl _) q rfl
        exact iadd_int ⟨.int _, H, I.tok _, ⟨_, rfl⟩, h'⟩
      case Sub =>
        have h' : Q (.int (i - j)) H := h _ H F (Sub.refl _) q rfl
        exact isub_int ⟨.int _, H, I.tok _, ⟨_, rfl⟩, h'⟩
      case Mult =>
        simp only [binV, binD, binI] at h
        cases hb : mulOk i j with
        | false => simp only [hb] at h; exact h.elim
        | true =>
          simp only [hb] at h
          have h' : Q (.int (i * j)) H := h _ H F (Sub.refl _) q rfl
          exact imul_int ⟨.int _, H, I.tok _, ⟨_, rfl⟩, h'⟩ (mulOk_ok hb)
      all_goals exact h.elim
    | _ => exact h.elim
  | ins c ds =>
    simp only [augV, binV] at h
    obtain ⟨hy, h⟩ := h.bif
    obtain ⟨f, ef, h⟩ := callM_of h
    obtain ⟨ck, sf, at_, fn, ⟨rc, hrc, hrp⟩, ty⟩ := OL c f ef
    have ni := NI c f ef
    obtain ⟨a, ox, od, dx, rfl, rfl, J, _⟩ := inst_z I q r1 rx
    have go := callM_z FZ tk I q (RepL.two r1 r2) (.cons rx (.cons ry .nil)) h
    rw [← hK] at sf at_ fn hrc ty ni
    cases et : y.tn with
    | some n =>
      obtain ⟨fo, ro, t1, t2, t3⟩ := ty n (by cases y <;> simp only [D.tn] at et <;> cases et <;> decide)
      exact own_leftI I.kIn J (looks_tn hK I q r2 ry et) sf ni at_ fn hrc hrp t1 t2 t3 go
    | none =>
      obtain ⟨ds', rfl⟩ : ∃ ds', y = .ins c ds' := by
        cases y <;> simp only [sameOrBt, D.tn] at hy et <;> first | (cases hy; done) | (cases et; done) | exact ⟨_, by rw [beq_iff_eq.mp hy]⟩
      obtain ⟨a', ox', od', dx', rfl, rfl, J', _⟩ := inst_z I q r2 ry
      exact own_sameI I.kIn J J'.type sf ni at_ fn go
  | _ => exact h.elim

/-- x op= e -/
theorem ds_aug {i : Nat} {x : Str} {o : Operator} {p : Pos} {th : Bool} (z : Sz Z us X) (NI : ∀ c f, Z.P.meth c (dun o) = some f → noI Z.T.K (Z.T.cA c) o.info.2 = true) (tk : Takes X W) (hN : X.N.Nodup) (hx : nmOk X i x) (he : PE X e (tD Z G W ce)) : PS X (.AugAssign (.Name x p) o e pos) (tDS Z G W (.aug i o th ce)) := by
  refine ⟨fun pins sh σ H D I h => ?_⟩
  obtain ⟨F, τ, s, q, h⟩ := h
  simp only [ex] at h
  cases hi : τ[i]? with
  | none => rw [hi] at h; exact h.elim
  | some sl =>
    rw [hi] at h
    cases sl with
    | fz d =>
      obtain ⟨v, e1, r0⟩ := q.sl i _ hi
      obtain ⟨m, hn, hl⟩ := I.loc
      have vis : Vis X.env.scope x := by rcases hx.2.1 with k | k; exact .inl k; exact .inr (.inl k)
      obtain ⟨u, r, l⟩ := hl i x v hx.1 (getD_of e1) vis
      refine wpAny_AugAssign_Name ?_
      have go : wpAny (model X.prog X.w) X.A (eval e X.env) (fun w s₂ => wpAny (model X.prog X.w) X.A (inplaceOp o u w) (fun r s₃ => wpAny (model X.prog X.w) X.A (storeName X.env x r) (fun _ => SP X pins D .next) X.xe s₃) X.xe s₂) X.xe sh := by
        refine thn ((dx_of (th := th) he).run pins sh σ H (fun y H1 => ∃ F τ s d2, SR Z.T Z.pn G F H1 σ τ s ∧ Rep Z.T F d v ∧ Rep Z.T F d2 y ∧ PostS Z G F D W ((augV Z.P Z.call o d d2 τ s).bind fun z τ s => .ok .next (τ.set i (.fz z)) s)) I ⟨F, τ, s, q, h.bind fun d2 y τ1 s1 F1 H1 k1 q1 r1 h1 => ⟨F1, τ1, s1, d2, q1, r0.mono k1, r1, h1⟩⟩) fun w s1 ⟨y, H1, I1, r1, F1, τ1, s1', d2, q1, rd, ry, h1⟩ => ?_
        refine thn (augV_z (Q := fun zv H2 => D.nx (σ.set i (some zv)) H2) z.hK z.fz (fun c f => z.opL c o f) NI tk I1 r r1 q1 rd ry (h1.bind fun z zv τ2 s2 F2 H2 k2 q2 rz h2 => h2 _ H2 F2 (Sub.refl _) (q2.setF i rz))) fun zv s2 ⟨zv', H2, I2, r2, q2⟩ => ?_
        exact store_ok I2 hN hx.1 hx.2.1 r2 (fun s3 I3 => ⟨_, H2, I3, q2⟩) hx.2.2
      rcases l with ⟨hk, hm⟩ | ⟨hk, c, hc, hcell⟩
      · exact wpAny_loadName_local I.ok.kind hk hn hm go
      · rcases hk with hk | hk
        · exact wpAny_loadName_cell I.ok.kind hk hc hcell go
        · rcases hx.2.1 with k | k
          · have : X.env.scope.names.lookup x = some .free := hk
            rw [k] at this; cases this
          · have : X.env.scope.names.lookup x = some .free := hk
            rw [k] at this; cases this
    | _ => exact h.elim
end
end Rz
end

section
set_option autoImplicit false
set_option Elab.async false
set_option linter.all false
set_option maxHeartbeats 1000000
set_option maxRecDepth 100000
namespace Rz
open PySem PySem.Spec PySem.W PyProof.Rows L2

/-- a key that is written in the program -/
def keyC : Const → D → Bool
  | .int i, .int j => i == j
  | .str a, .str b => decide (a = b)
  | _, _ => false

section
variable {S : Type} [Pen S]
/-- what is promised of the pen's two rules -/
structure PenOk (Z : Cz S) : Prop where
  ix : ∀ {X : Cx} {G : Fm} {W : WX} {e : Expr} {ce : CE} {c : Const} {k : D} {n : Nat} {p pos : Pos}, X.A.units + 2 < cLine → keyC c k = true → PE X e (tD Z G W ce) → PE X (.Subscript e (.Constant c n p) pos) (tD Z G W (.pix ce k))
  put : ∀ {X : Cx} {G : Fm} {W : WX} {x : Str} {i : Nat} {e : Expr} {ce : CE} {c : Const} {k : D} {n : Nat} {px p p2 pos : Pos}, X.A.units + 2 < cLine → keyC c k = true → PE X (.Name x px) (tVar i) → PE X e (tD Z G W ce) →
    swapsWithSole [.Subscript (.Name x px) (.Constant c n p) p2] e pos.line X.env = pure false → swappedStores [.Subscript (.Name x px) (.Constant c n p) p2] e X.env = pure none →
    PS X (.Assign [.Subscript (.Name x px) (.Constant c n p) p2] e pos) (tDS Z G W (.pset i k ce))

/-- the pen is written -/
theorem SR.penPut {T : Tb} {pn : Pn S} {G : Fm} {F H : Hp} {σ : L2.St} {τ : List Slot} {s s' : S} (h : SR T pn G F H σ τ s) (hi : pn.inv F s') : SR T pn G F (upd H T.pen (pn.obj s')) σ τ s' := by
  refine ⟨fun a o e => ?_, upd_same, h.penF, hi, fun a o e => ?_, h.len, fun i x e => ?_, h.ap⟩
  · have n : a ≠ T.pen := fun z => by rw [z, h.penF] at e; cases e
    rw [upd_ne n]; exact h.fh a o e
  · obtain ⟨a1, a2, a3⟩ := h.gh a o e
    exact ⟨by rw [upd_ne a3]; exact a1, a2, a3⟩
  · have w := h.sl i x e
    cases x with
    | none => trivial
    | fz d => exact w
    | own ds =>
      obtain ⟨a, ob, e1, e2, e3, e4, e5, o⟩ := w
      exact ⟨a, ob, e1, by rw [upd_ne e5]; exact e2, e3, e4, e5, o⟩
    | ownI c ds =>
      obtain ⟨a, ob, e1, e2, e3, e4, e5, o⟩ := w
      exact ⟨a, ob, e1, by rw [upd_ne e5]; exact e2, e3, e4, e5, o⟩
end

/-! ### the pen that is a list of cells, place, great -/
structure LP where
  cells : List Int
  at_ : Int
  gr : Int
def LP.get (k : D) (s : LP) : Option D :=
  match k with
  | .int i => if i = 0 then some (.lst (s.cells.map .int)) else if i = 1 then some (.int s.at_) else if i = 2 then some (.int s.gr) else none
  | _ => none
def LP.put (k d : D) (s : LP) : Option LP :=
  match k with
  | .int i => match d with
    | .int v => if i = 1 then some { s with at_ := v } else if i = 2 then some { s with gr := v } else none
    | _ => none
  | _ => none
instance : Pen LP := ⟨LP.get, LP.put⟩
def lpn (a0 : Addr) (c0 : List Int) : Pn LP where
  obj s := .lst [.ref a0, .int s.at_, .int s.gr]
  inv F s := s.cells = c0 ∧ F a0 = some (.lst (c0.map V.int))
  mono F F' s e h := ⟨h.1, e _ _ h.2⟩
  mid F F' F'' s s' e h k := ⟨k.1, e _ _ h.2⟩
theorem repL_ints {T : Tb} {F : Hp} : ∀ (ns : List Int), RepL T F (ns.map D.int) (ns.map V.int)
  | [] => rfl
  | n :: ns => ⟨.int n, _, rfl, rfl, repL_ints ns⟩
theorem lp_ok {Z : Cz LP} {a0 : Addr} {c0 : List Int} (hp : Z.pn = lpn a0 c0) : PenOk Z where
  ix {X G W e ce c k n p pos} hu hk he := by
    cases c <;> cases k <;> simp only [keyC] at hk <;> first | (cases hk; done) | skip
    · rename_i i j
      have ei : i = j := eq_of_beq hk
      subst ei
      refine (pe_ix ix_list he pe_int (plainIx_of rfl)).imp fun σ H Q => ?_
      rintro ⟨F, τ, s, q, h⟩
      simp only [ev] at h
      refine ⟨F, τ, s, q, h.bind fun x v τ1 s1 F1 H1 e1 q1 r1 h1 => ?_⟩
      cases x with
      | pen =>
        cases r1
        simp only at h1
        obtain ⟨d, ed, h1⟩ := h1.of
        have hpen := q1.pen
        have hinv := q1.pinv
        rw [hp] at hpen hinv
        obtain ⟨hc, hF⟩ := hinv
        have ed' : LP.get (.int i) s1 = some d := ed
        simp only [LP.get] at ed'
        split at ed'
        · rename_i z; subst z; cases ed'
          exact ⟨_, _, 0, _, rfl, rfl, SqL.of hpen, rfl, h1.ok q1 ⟨a0, _, rfl, hF, by rw [hc]; exact repL_ints c0⟩⟩
        · split at ed'
          · rename_i z; subst z; cases ed'
            exact ⟨_, _, 1, _, rfl, rfl, SqL.of hpen, rfl, h1.ok q1 rfl⟩
          · split at ed'
            · rename_i z; subst z; cases ed'
              exact ⟨_, _, 2, _, rfl, rfl, SqL.of hpen, rfl, h1.ok q1 rfl⟩
            · cases ed'
      | _ => exact h1.elim
    · refine (pe_ix ix_list he pe_str (plainIx_of rfl)).imp fun σ H Q => ?_
      rintro ⟨F, τ, s, q, h⟩
      simp only [ev] at h
      refine ⟨F, τ, s, q, h.bind fun x v τ1 s1 F1 H1 e1 q1 r1 h1 => ?_⟩
      cases x <;> first | exact h1.elim | (obtain ⟨d, ed, _⟩ := h1.of; cases ed)
  put {X G W x i e ce c k n px p p2 pos} hu hk hv he hs hw := by
    cases c <;> cases k <;> simp only [keyC] at hk <;> first | (cases hk; done) | skip
    · rename_i a b
      have ei : a = b := eq_of_beq hk
      subst ei
      refine (ps_asg he (pg_sub hv pe_int set_list) hs hw rfl).imp fun E σ H => ?_
      rintro ⟨F, τ, s, q, h⟩
      simp only [ex] at h
      refine ⟨F, τ, s, q, h.bind fun d v τ1 s1 F1 H1 e1 q1 r1 h1 => ?_⟩
      cases hi : τ1[i]? with
      | none => rw [hi] at h1; exact h1.elim
      | some sl =>
        rw [hi] at h1
        cases sl with
        | fz x =>
          cases x with
          | pen =>
            simp only at h1
            obtain ⟨v', ev', rv⟩ := q1.sl i _ hi
            cases rv
            refine ⟨_, getD_of ev', ?_⟩
            have hpen := q1.pen
            have hinv := q1.pinv
            rw [hp] at hpen hinv
            cases eq : Pen.put (.int a) d s1 with
            | none => rw [eq] at h1; exact h1.elim
            | some s2 =>
              rw [eq] at h1
              have eq' : LP.put (.int a) d s1 = some s2 := eq
              cases d <;> simp only [LP.put] at eq' <;> first | (cases eq'; done) | skip
              cases r1
              have fin := fun (hh : Z.pn.inv F1 s2) => h1 σ _ F1 (Sub.refl _) (q1.penPut hh)
              rw [hp] at fin
              split at eq'
              · rename_i z; subst z; cases eq'
                exact ⟨_, _, 1, 1, rfl, rfl, hpen, rfl, fin hinv⟩
              · split at eq'
                · rename_i z; subst z; cases eq'
                  exact ⟨_, _, 2, 2, rfl, rfl, hpen, rfl, fin hinv⟩
                · cases eq'
          | _ => exact h1.elim
        | _ => exact h1.elim
    · refine (ps_asg he (pg_sub hv pe_str set_list) hs hw rfl).imp fun E σ H => ?_
      rintro ⟨F, τ, s, q, h⟩
      simp only [ex] at h
      refine ⟨F, τ, s, q, h.bind fun d v τ1 s1 F1 H1 e1 q1 r1 h1 => ?_⟩
      exfalso
      cases hi : τ1[i]? with
      | none => rw [hi] at h1; exact h1
      | some sl =>
        rw [hi] at h1
        cases sl with
        | fz x => cases x <;> exact h1
        | _ => exact h1
end Rz
end

section
set_option autoImplicit false
set_option Elab.async false
set_option linter.all false
set_option maxHeartbeats 1000000
set_option maxRecDepth 100000
namespace Rz
open PySem PySem.Spec PySem.W PyProof.Rows L2

section
variable {S : Type} [Pen S] {Z : Cz S} {G : Fm} {F H : Hp} {s : S}
open Classical in
/-- what stands outside of a call -/
noncomputable def outG (pen : Addr) (F H : Hp) (x : Addr) : Fm := ⟨fun a => if F a = none ∧ a ≠ pen ∧ a ≠ x then H a else none, x⟩
theorem outG_of {pen x a : Addr} {o : HO} (h : (outG pen F H x) a = some o) : H a = some o ∧ F a = none ∧ a ≠ pen ∧ a ≠ x := by
  by_cases c : F a = none ∧ a ≠ pen ∧ a ≠ x
  · rw [show (outG pen F H x) a = H a from if_pos c] at h
    exact ⟨h, c⟩
  · rw [show (outG pen F H x) a = none from if_neg c] at h
    cases h
theorem outG_in {pen x a : Addr} {o : HO} (h : H a = some o) (c : F a = none ∧ a ≠ pen ∧ a ≠ x) : (outG pen F H x) a = some o := by
  rw [show (outG pen F H x) a = H a from if_pos c]; exact h
theorem outG_self {pen x : Addr} : (outG pen F H x) x = none := if_neg (fun c => c.2.2 rfl)

theorem start_get {N : List Str} {vs : List V} {i : Nat} {v : V} (h : vs[i]? = some v) : (start N vs).getD i none = some v := by
  have hi : i < vs.length := (List.getElem?_eq_some_iff.mp h).1
  unfold L2.start
  rw [List.getD_eq_getElem?_getD, List.getElem?_append_left (by simpa using hi), List.getElem?_map, h]
  rfl
theorem start_len {N : List Str} {vs : List V} (h : vs.length ≤ N.length) : (start N vs).length = N.length := by
  unfold L2.start
  rw [List.length_append, List.length_map, List.length_replicate]
  omega
theorem start'_get {n : Nat} {xs : List D} {i : Nat} {x : Slot} (h : (start' n xs)[i]? = some x) : (∃ d, x = .fz d ∧ xs[i]? = some d) ∨ x = .none := by
  unfold start' at h
  by_cases hi : i < xs.length
  · rw [List.getElem?_append_left (by simpa using hi), List.getElem?_map, List.getElem?_eq_getElem hi] at h
    cases h
    exact .inl ⟨_, rfl, List.getElem?_eq_getElem hi⟩
  · rw [List.getElem?_append_right (by simpa using hi), List.getElem?_replicate] at h
    split at h <;> cases h
    exact .inr rfl
theorem start'_len {n : Nat} {xs : List D} (h : xs.length ≤ n) : (start' n xs).length = n := by
  unfold start'
  rw [List.length_append, List.length_map, List.length_replicate]
  omega
/-- the state at a def's entry -/
theorem SR.begin {T : Tb} {pn : Pn S} {G : Fm} {N : List Str} {xs : List D} {vs : List V} (fh : Sub F H) (pen : H T.pen = some (pn.obj s)) (penF : F T.pen = none) (pinv : pn.inv F s) (r : RepL T F xs vs) (gh : ∀ a o, G a = some o → H a = some o ∧ F a = none ∧ a ≠ T.pen) (hl : xs.length ≤ N.length) :
    SR T pn G F H (start N vs) (start' N.length xs) s := by
  refine ⟨fh, pen, penF, pinv, gh, ?_, fun i x e => ?_, fun i j x y a _ e1 _ o1 _ _ _ => ?_⟩
  · rw [start_len (by rw [r.length]; exact hl), start'_len hl]
  · rcases start'_get e with ⟨d, rfl, hd⟩ | rfl
    · obtain ⟨v, hv, rv⟩ := r.get hd
      exact ⟨v, start_get hv, rv⟩
    · trivial
  · rcases start'_get e1 with ⟨d, rfl, _⟩ | rfl <;> cases o1

/-- a call's frame out of the body's -/
theorem fr_of {T : Tb} {pn : Pn S} {F0 H0 F' H' : Hp} {σ' : L2.St} {τ' : List Slot} {s' : S} {x : Addr} (q : SR T pn (outG T.pen F0 H0 x) F' H' σ' τ' s') (ff : Sub F0 F') (hx : H0 x = none ∨ F0 x ≠ none ∨ x = T.pen) : Fr T pn F0 H0 F' H' s' :=
  ⟨ff, q.fh, q.pen, q.penF, q.pinv, fun a o e n hp => by
    have z := q.gh a o (outG_in e ⟨n, hp, fun z => by
      subst z
      rcases hx with k | k | k
      · rw [e] at k; cases k
      · exact k n
      · exact hp k⟩)
    exact ⟨z.1, z.2.1⟩⟩

theorem post_run {P : Pt} {call mk : Nat → List D → S → CRes S} {b : Fn} {xs : List D} {Q : VK} {E : XK} {F0 H0 F1 : Hp} {x : Addr} (Zc : Z.P = P ∧ Z.call = call ∧ Z.make = mk) (e01 : Sub F0 F1) (hx : H0 x = none ∨ F0 x ≠ none ∨ x = Z.T.pen) (h : PostC Z F0 H0 Q E (match exs P call mk b.body (start' b.ns xs) s with
    | .ok .next _ s => .ok .non s
    | .ok (.ret d) _ s => .ok d s
    | .ok _ _ _ => .no
    | .exc c fs _ s => .exc c fs s
    | .no => .no)) : PostS Z (outG Z.T.pen F0 H0 x) F1 { nx := fun _ H' => Q .non H', rt := Q } (fun c d _ H' => E c d H') (exs Z.P Z.call Z.make b.body (start' b.ns xs) s) := by
  obtain ⟨rfl, rfl, rfl⟩ := Zc
  cases hb : exs Z.P Z.call Z.make b.body (start' b.ns xs) s with
  | no => rw [hb] at h; exact h
  | exc c fs τ' s' => rw [hb] at h; exact fun σ' H' F' od e q r => h H' F' od (fr_of q (e01.trans e) hx) r
  | ok fl τ' s' =>
    rw [hb] at h
    cases fl with
    | next => exact fun σ' H' F' e q => h _ H' F' (fr_of q (e01.trans e) hx) rfl
    | ret d => exact fun v σ' H' F' e q r => h v H' F' (fr_of q (e01.trans e) hx) r
    | brk => exact h.elim
    | cont => exact h.elim
end

/-! ### defs -/
section
variable {S : Type} [Pen S] {Z Z' : Cz S} {P : Program} {w : World} {K : PySem.W.Frag} {mg : Str → Option Value} {base : Heap} {k : Nat} {f : Addr} {name qual : Str} {params : Arguments} {body : List Stmt} {scope : Scope} {dV kV doc pm cdv ct oc : Value} {an od : Option Addr}
  {osl : Array (Option Value)} {N ps : List Str} {b : Fn} {fi : Nat}
/-- how a def binds what it is called with -/
def BindZ (K : PySem.W.Frag) (T : Tb) (fd : FuncData) (ps : List Str) (b : Fn) : Prop :=
  match b.star with
  | false => ps.length = b.np ∧ ∀ j, j ≤ b.dfl.length → ∃ dvs us, Vals dvs us ∧ (∀ F, RepL T F (b.dfl.drop j) dvs) ∧ Binds K fd ps us
  | true => ∃ ps' pv, ps = ps' ++ [pv] ∧ ps'.length = b.np ∧ ∀ us rest : List Value, us.length = ps'.length → bindArgs fd ⟨us ++ rest, []⟩ = (newTuple rest >>= fun t => pure (ps'.zip us ++ [(pv, t)]))
/-- the body's rule at every entry -/
def BodyZ (Z : Cz S) (P : Program) (w : World) (K : PySem.W.Frag) (mg : Str → Option Value) (base : Heap) (N : List Str) (qual : Str) (scope : Scope) (f : Addr) (cdv : Value) (k : Nat) (body : List Stmt) (cb : CSs) : Prop :=
  ∀ (A : Around) (outer : List Env) (s : Shared) (H : Hp) (E : XK) (G : Fm), Room k (A.deeper (envOfC qual scope s.heap.objs.size f cdv)) → A.guards = some [] → PSs (cxOf (CX P w) P w K mg base N qual scope f cdv A outer s H E) body (tDSs Z G (fun c d _ H' => E c d H') cb)

theorem bindF_star {ds xs : List D} (hs : b.star = true) (h : bindF b ds = some xs) : b.np ≤ ds.length ∧ ds.length ≤ 100000 ∧ xs = ds.take b.np ++ [.tup (ds.drop b.np)] := by
  unfold bindF at h
  rw [hs] at h
  obtain ⟨h1, h2⟩ := bif_some h
  rw [Bool.and_eq_true, decide_eq_true_eq] at h1
  exact ⟨h1.1, lim_of h1.2, h2.symm⟩
theorem bindF_plain {ds xs : List D} (hs : b.star = false) (h : bindF b ds = some xs) : ds.length ≤ b.np ∧ b.np ≤ ds.length + b.dfl.length ∧ xs = ds ++ b.dfl.drop (ds.length + b.dfl.length - b.np) := by
  unfold bindF at h
  rw [hs] at h
  obtain ⟨h1, h2⟩ := bif_some h
  rw [Bool.and_eq_true, decide_eq_true_eq, decide_eq_true_eq] at h1
  exact ⟨h1.1, h1.2, h2.symm⟩

theorem bindF_head {d d' x : D} {ds xs : List D} (hp : 0 < b.np) (h : bindF b (d :: ds) = some (x :: xs)) : bindF b (d' :: ds) = some (d' :: xs) := by
  unfold bindF at h ⊢
  cases hs : b.star with
  | false =>
    rw [hs] at h
    obtain ⟨h1, h2⟩ := bif_some h
    simp only [List.length_cons] at h1 h2 ⊢
    rw [h1]
    simp only [cond_true, List.cons_append] at h2 ⊢
    rw [List.cons.injEq] at h2
    rw [h2.2]
  | true =>
    rw [hs] at h
    obtain ⟨h1, h2⟩ := bif_some h
    simp only [List.length_cons] at h1 ⊢
    rw [h1]
    obtain ⟨n, hn⟩ : ∃ n, b.np = n + 1 := ⟨b.np - 1, by omega⟩
    rw [hn] at h2 ⊢
    simp only [List.take_succ_cons, List.drop_succ_cons, List.cons_append] at h2 ⊢
    rw [List.cons.injEq] at h2
    rw [cond_true, h2.2]
/-- the binding, then the body -/
theorem run_z0 {ar : Args} {A : Around} {outer : List Env} {sh : Shared} {H F : Hp} {us : List Value} {vs : List V} {ds xs : List D} {Q : VK} {E : XK} (lk : K.lookup f = some ⟨oc, od, .func (PySem.W.fnOf name qual params body scope dV kV doc pm an cdv ct), osl⟩) (hcd : PySem.W.codeIn K cdv qual = true) (Sc : FnScope N ps scope)
    (hb : BindZ K Z.T (PySem.W.fnOf name qual params body scope dV kV doc pm an cdv ct) ps b) (hr : Room (k + 1) A) (e0 : Env0 P w K mg base A outer sh H) (rv : Vals vs us) (har : ArgAs K f ar us) (rl : RepL Z.T F ds vs) (fh : Sub F H) (hx : bindF b ds = some xs)
    (hbody : ∀ (s2 : Shared) (H2 F2 : Hp) (ws : List V), Sub F F2 → Sub F2 H2 → Sub H H2 → (∀ a o, H a = some o → F a = none → F2 a = none) → ws.length = ps.length → RepL Z.T F2 xs ws → Room k (A.deeper (envOfC qual scope s2.heap.objs.size f cdv)) →
      ∃ t, PSs (cxOf (CX P w) P w K mg base N qual scope f cdv A outer s2 H2 E) body t ∧ t { nx := fun _ H' => Q .non H', rt := Q } (L2.start N ws) H2) :
    codeAny (model P w) A (.call (.ref f) ar) (CR (CX P w) outer P w H sh Q E) sh := by
  have hlen := rl.length
  unfold BindZ at hb
  cases hs : b.star with
  | false =>
    rw [hs] at hb
    obtain ⟨hps, hb⟩ := hb
    obtain ⟨b1, b2, rfl⟩ := bindF_plain hs hx
    obtain ⟨dvs, uds, rd, rr, bi⟩ := hb (ds.length + b.dfl.length - b.np) (by omega)
    have hdl : dvs.length = b.np - ds.length := by
      have := (rr F).length
      rw [this, List.length_drop]
      omega
    have r2 : Vals (vs ++ dvs) (us ++ uds) := rv.append rd
    have hl : (us ++ uds).length = ps.length := by
      rw [← r2.length, List.length_append, hlen, hdl, hps]
      omega
    have KX : K.In sh.heap := e0.mod.kin.keeps fun b o e => (e0.bs b o e).1
    refine StX.run_bnd lk hcd Sc hr e0 (G := fun ws H2 => H2 = H ∧ ws = vs ++ dvs) (fun A' Ex Q' h => ?_) fun s2 H2 ws ⟨e1, e2⟩ hr' => ?_
    · rw [har _ _ _ _ lk]
      exact bi sh us KX hl _ A' Ex Q' (h sh H (vs ++ dvs) (us ++ uds) e0 Un.refl rfl (fun _ _ z => z) r2 (by rw [r2.length]; exact hl) ⟨rfl, rfl⟩)
    · subst e1 e2
      exact hbody s2 _ F _ (Sub.refl F) fh (Sub.refl _) (fun a _ _ n => n) (by rw [r2.length]; exact hl) (rl.append (rr F)) hr'
  | true =>
    rw [hs] at hb
    obtain ⟨ps', pv, rfl, hps, hb⟩ := hb
    obtain ⟨b1, b2, rfl⟩ := bindF_star hs hx
    obtain ⟨u1, u2, eu, r1, r2⟩ := StX.vals_split (ws := vs.take b.np) (rest := vs.drop b.np) (us := us) (by rw [List.take_append_drop]; exact rv)
    subst eu
    have hn : H sh.heap.objs.size = none := e0.hok.fresh (Nat.le_refl _)
    have hvl : (vs.take b.np).length = ps'.length := by rw [List.length_take, hlen, hps]; omega
    have hl1 : u1.length = ps'.length := by rw [← r1.length]; exact hvl
    have hz : (vs.drop b.np).length ≤ sizeLine := by
      rw [List.length_drop, hlen, sizeLine_eq]; omega
    have hl2 : u2.length ≤ sizeLine := by rw [← r2.length]; exact hz
    refine StX.run_bnd lk hcd Sc hr e0 (G := fun xs H2 => ∃ p, H p = none ∧ xs = vs.take b.np ++ [V.ref p] ∧ H2 = upd H p (.tup (vs.drop b.np))) (fun A' Ex Q' h => ?_) fun s2 H2 ws ⟨p, hp, e1, e2⟩ hr' => ?_
    · rw [har _ _ _ _ lk, hb u1 u2 hl1]
      refine wpAny_bind (wpAny_newTuple (wpAny_pure ?_) hl2)
      have new : ObjOk P w (upd H sh.heap.objs.size (.tup (vs.drop b.np))) (sh.heap.push ({ cls := .type "tuple", data := .seq u2.toArray } : Obj)) sh.heap.objs.size (.tup (vs.drop b.np)) := ⟨hz, u2, r2, ⟨_, Heap.get?_push_size _ rfl, rfl, _, rfl⟩⟩
      have un := StX.un_laid (fs := frs outer) (s := sh) (o := ({ cls := .type "tuple", data := .seq u2.toArray } : Obj)) (u := .tup (vs.drop b.np)) hn
      have z := h _ _ (vs.take b.np ++ [V.ref sh.heap.objs.size]) (u1 ++ [Value.ref sh.heap.objs.size]) (StX.env0_laid e0 new) un rfl (fun e s' => StX.cxUp outer sh H _ _ E e s' un (fun b o q => Heap.get?_push_of_some _ q) rfl) (r1.append (.cons rfl .nil))
        (by rw [List.length_append, List.length_append, hvl] <;> rfl) ⟨_, hn, rfl, rfl⟩
      rw [List.zip_append hl1.symm] at z
      exact z
    · subst e1 e2
      have hF := fh.none hp
      refine hbody s2 _ (upd F p (.tup (vs.drop b.np))) _ (Sub.new hF) (fun a o e => ?_) (Sub.new hp) (fun a o e n => ?_) (by rw [List.length_append, List.length_append, hvl] <;> rfl) ?_ hr'
      · by_cases z : a = p
        · subst z; rw [upd_same] at e ⊢; exact e
        · rw [upd_ne z] at e ⊢; exact fh a o e
      · rw [upd_ne (ne_of_none e hp)]; exact n
      · exact ((rl.take _).mono (Sub.new hF)).append (RepL.one ⟨p, _, rfl, SqT.of upd_same, (rl.drop _).mono (Sub.new hF)⟩)

/-- a def of the table by its code -/
theorem fn_code (lk : K.lookup f = some ⟨oc, od, .func (PySem.W.fnOf name qual params body scope dV kV doc pm an cdv ct), osl⟩) (hcd : PySem.W.codeIn K cdv qual = true) (Sc : FnScope N ps scope)
    (hb : BindZ K Z.T (PySem.W.fnOf name qual params body scope dV kV doc pm an cdv ct) ps b) (hns : N.length = b.ns) (hpn : ps.length ≤ N.length) (hX : BodyZ Z P w K mg base N qual scope f cdv k body b.body)
    (hT : Z'.T = Z.T ∧ Z'.pn = Z.pn) (hc : ∀ ds s, Z'.call fi ds s = runF Z.P Z.call Z.make b ds s) : FnRg P w K mg base (CX P w) (k + 1) f (spF Z' fi) := by
  intro A outer sh H us vs Q E hr hg e0 rv hsp ar har
  obtain ⟨F, ds, s, fh, pen, penF, pinv, rl, hp⟩ := hsp
  obtain ⟨T', pn', P', call'', make'⟩ := Z'
  obtain ⟨rfl, rfl⟩ := hT
  simp only at hc pen penF pinv rl hp
  rw [hc] at hp
  unfold runF at hp
  cases hx : bindF b ds with
  | none => rw [hx] at hp; exact hp.elim
  | some xs =>
    rw [hx] at hp
    simp only at hp
    refine run_z0 lk hcd Sc hb hr e0 rv har rl fh hx fun s2 H2 F2 ws e1 e2 e3 e4 hwl rx hr' => ?_
    refine ⟨_, hX A outer s2 H2 E (outG Z.T.pen F H Z.T.pen) hr' hg, F2, start' b.ns xs, s, ?_, post_run ⟨rfl, rfl, rfl⟩ e1 (.inr (.inr rfl)) hp⟩
    have pF : F2 Z.T.pen = none := e4 _ _ pen penF
    rw [← hns]
    refine SR.begin e2 (e3 _ _ pen) pF (Z.pn.mono _ _ _ e1 pinv) rx (fun a o e => ?_) (by rw [← rx.length, hwl]; exact hpn)
    obtain ⟨g1, g2, g3, _⟩ := outG_of e
    exact ⟨e3 _ _ g1, e4 _ _ g1 g2, g3⟩

/-- the state at the entry of an __init__ -/
theorem SR.beginI {T : Tb} {pn : Pn S} {G : Fm} {F H : Hp} {s : S} {N : List Str} {xs : List D} {ws : List V} {x dx : Addr} {c : Nat} (fh : Sub F H) (pen : H T.pen = some (pn.obj s)) (penF : F T.pen = none) (pinv : pn.inv F s) (r : RepL T F xs ws) (gh : ∀ a o, G a = some o → H a = some o ∧ F a = none ∧ a ≠ T.pen) (hl : xs.length + 1 ≤ N.length)
    (hx : H x = some (.ins (T.cA c) dx [])) (hF : F x = none) (hxp : x ≠ T.pen) (hG : G x = none) (hs : G.slf = x) : SR T pn G F H (L2.start N (.ref x :: ws)) (.ownI c [] :: start' (N.length - 1) xs) s := by
  have h0 : (L2.start N (.ref x :: ws)).getD 0 none = some (.ref x) := start_get (by rfl)
  refine ⟨fh, pen, penF, pinv, gh, ?_, fun i y e => ?_, fun i j y z a hij e1 e2 o1 o2 _ _ => ?_⟩
  · rw [start_len (by simp [r.length]; omega)]
    simp [start'_len (n := N.length - 1) (xs := xs) (by omega)]
    omega
  · cases i with
    | zero =>
      cases e
      exact ⟨x, _, h0, hx, hF, ⟨hG, hs.symm⟩, hxp, dx, [], by simp, by simp, rfl⟩
    | succ i =>
      rw [List.getElem?_cons_succ] at e
      rcases start'_get e with ⟨d, rfl, hd⟩ | rfl
      · obtain ⟨v, hv, rv⟩ := r.get hd
        exact ⟨v, start_get (by simpa using hv), rv⟩
      · trivial
  · have go : ∀ {i : Nat} {y : Slot}, (Slot.ownI c [] :: start' (N.length - 1) xs)[i]? = some y → y.isOwn = true → i = 0 := by
      intro i y e o
      cases i with
      | zero => rfl
      | succ i =>
        rw [List.getElem?_cons_succ] at e
        rcases start'_get e with ⟨d, rfl, _⟩ | rfl <;> cases o
    exact hij ((go e1 o1).trans (go e2 o2).symm)
/-- the __init__ of a class of the table by its code -/
theorem fn_init {c : Nat} (lk : K.lookup f = some ⟨oc, od, .func (PySem.W.fnOf name qual params body scope dV kV doc pm an cdv ct), osl⟩) (hcd : PySem.W.codeIn K cdv qual = true) (Sc : FnScope N ps scope)
    (hb : BindZ K Z.T (PySem.W.fnOf name qual params body scope dV kV doc pm an cdv ct) ps b) (hns : N.length = b.ns) (hpn : ps.length ≤ N.length) (hnp : 0 < b.np) (hX : BodyZ Z P w K mg base N qual scope f cdv k body b.body)
    (hT : Z'.T = Z.T ∧ Z'.pn = Z.pn) (hc : ∀ ds s, Z'.make c ds s = runI Z.P Z.call Z.make b c ds s) : FnRg P w K mg base (CX P w) (k + 1) f (spI Z' c) := by
  intro A outer sh H us vs Q E hr hg e0 rv hsp ar har
  obtain ⟨F, ds, s, x, dx, ws, rfl, hHx, hFx, hxp, fh, pen, penF, pinv, rl, hp⟩ := hsp
  obtain ⟨T', pn', P', call'', make'⟩ := Z'
  obtain ⟨rfl, rfl⟩ := hT
  simp only at hc pen penF pinv rl hp hHx hxp
  rw [hc] at hp
  unfold runI at hp
  cases hx : bindF b (.non :: ds) with
  | none => rw [hx] at hp; exact hp.elim
  | some ys =>
    rw [hx] at hp
    cases ys with
    | nil => exact hp.elim
    | cons y xs =>
      simp only at hp
      have rl' : RepL Z.T F (.opq (.ref x) :: ds) (.ref x :: ws) := ⟨.ref x, ws, rfl, rfl, rl⟩
      refine run_z0 lk hcd Sc hb hr e0 rv har rl' fh (bindF_head hnp hx) fun s2 H2 F2 ws2 e1 e2 e3 e4 hwl rx hr' => ?_
      obtain ⟨v0, ws', rfl, r0, rx⟩ := rx
      cases r0
      have pF : F2 Z.T.pen = none := e4 _ _ pen penF
      have hlen : xs.length + 1 ≤ N.length := by
        have h1 := rx.length
        have h2 : (V.ref x :: ws').length = ps.length := hwl
        rw [List.length_cons] at h2
        omega
      have frI : ∀ {F' H' : Hp} {σ' : L2.St} {τ' : List Slot} {s' : S}, Sub F2 F' → SR Z.T Z.pn (outG Z.T.pen F H x) F' H' σ' τ' s' → FrI Z.T Z.pn F H F' H' s' x := fun {F' H' σ' τ' s'} e q =>
        ⟨e1.trans e, q.fh, q.pen, q.penF, q.pinv, fun a o ha n hp' hne => by
          have z := q.gh a o (outG_in ha ⟨n, hp', hne⟩)
          exact ⟨z.1, z.2.1⟩⟩
      have made : ∀ {F' H' : Hp} {σ' : L2.St} {τ' : List Slot} {s' : S}, Sub F2 F' → SR Z.T Z.pn (outG Z.T.pen F H x) F' H' σ' τ' s' → PostI Z F H Q E x (madeI τ' s') → Q .non H' := by
        intro F' H' σ' τ' s' e q h
        unfold madeI at h
        cases h0 : (τ'[0]? : Option Slot) with
        | none => rw [h0] at h; exact h.elim
        | some sl =>
          rw [h0] at h
          cases sl with
          | ownI c' fs =>
            obtain ⟨a, ob, f1, f2, f3, ⟨f4, f6⟩, f5, dx', vs', rfl, hl, r⟩ := q.sl 0 _ h0
            have ea : a = x := f6
            subst ea
            have k := frI e q
            refine h H' (upd F' a _) ⟨k.ff.trans (Sub.new f3), fun b o eb => ?_, k.pen, by rw [upd_ne (Ne.symm hxp)]; exact k.penF, Z.pn.mono _ _ _ (Sub.new f3) k.pinv, fun b o hb' n hp' hne => ?_⟩ ⟨a, dx', vs', rfl, upd_same, hl, r.mono (Sub.new f3)⟩
            · by_cases z : b = a
              · subst z; rw [upd_same] at eb; cases eb; exact f2
              · rw [upd_ne z] at eb; exact k.fh b o eb
            · obtain ⟨k1, k2⟩ := k.out b o hb' n hp' hne
              exact ⟨k1, by rw [upd_ne hne]; exact k2⟩
          | _ => exact h.elim
      refine ⟨_, hX A outer s2 H2 E (outG Z.T.pen F H x) hr' hg, F2, .ownI c [] :: start' (b.ns - 1) xs, s, ?_, ?_⟩
      · rw [← hns]
        refine SR.beginI e2 (e3 _ _ pen) pF (Z.pn.mono _ _ _ e1 pinv) rx (fun a o e => ?_) hlen (e3 _ _ hHx) (e4 _ _ hHx hFx) hxp outG_self rfl
        obtain ⟨g1, g2, g3, _⟩ := outG_of e
        exact ⟨e3 _ _ g1, e4 _ _ g1 g2, g3⟩
      · revert hp
        cases exs Z.P Z.call Z.make b.body (.ownI c [] :: start' (b.ns - 1) xs) s with
        | no => exact fun hp => hp
        | exc c fs τ' s' => exact fun hp σ' H' F' od e q r => hp H' F' od (frI e q) r
        | ok fl τ' s' =>
          intro hp
          cases fl with
          | next => exact fun σ' H' F' e q => made e q hp
          | ret d =>
            cases d with
            | non => exact fun v σ' H' F' e q r => by cases r; exact made e q hp
            | _ => exact hp.elim
          | brk => exact hp.elim
          | cont => exact hp.elim
end
end Rz
end

section
set_option autoImplicit false
set_option Elab.async false
set_option linter.all false
set_option maxHeartbeats 2000000
set_option maxRecDepth 100000
namespace Rz
open PySem PySem.Spec PySem.W PyProof.Rows L2

/-- the names of the module -/
structure Tab where
  fns : List (Str × Nat)
  cls : List (Str × Nat)
  gls : List (Str × Nat)
  bis : List Str
  us : List Str
/-- the names of a def's body, or of a block in it -/
structure Sta where
  N : List Str
  sc : Scope
  fn : Str → Bool

section
variable (t : Tab)
def isGl (st : Sta) (x : Str) : Bool := decide (st.sc.names.lookup x = some .globalImplicit)
def isVis (st : Sta) (x : Str) : Bool := decide (st.sc.names.lookup x = some .local) || decide (st.sc.names.lookup x = some .cell) || decide (st.sc.names.lookup x = some .free)
def isLoc (st : Sta) (x : Str) : Bool := decide (st.sc.names.lookup x = some .local) || (decide (st.sc.names.lookup x = some .cell) && st.fn x)
def okNm (x : Str) : Bool := !(x == ("__debug__" : Str)) && !(x == ("__classdict__" : Str))
def Sta.blk (st : Sta) (scope : Scope) : Sta := ⟨st.N, relS scope st.sc, fun x => scope.names.lookup x == some .cell⟩
def isBi (st : Sta) (x y : Str) : Bool := decide (x = y) && isGl st x && t.bis.contains x
def constD : Const → D → Bool
  | .none, .non => true
  | .bool b, .bl c => b == c
  | .int i, .int j => i == j
  | .str a, .str b => decide (a = b)
  | _, _ => false
def chkTn (st : Sta) (e : Expr) (n : Tn) : Bool :=
  match n with
  | .ty n => match e with
    | .Name x _ => isGl st x && t.bis.contains x && decide (bootBuiltins x = some (.type n)) && !(x == ("__debug__" : Str)) && !(x == ("__name__" : Str))
    | _ => false
  | .cl c => match e with
    | .Name x _ => isGl st x && decide (t.cls.lookup x = some c) && okNm x
    | _ => false
def chkTns (st : Sta) : List Expr → List Tn → Bool
  | [], [] => true
  | e :: es, n :: ns => chkTn t st e n && chkTns st es ns
  | _, _ => false
def chkNm (st : Sta) (e : Expr) (i : Nat) : Bool :=
  match e with
  | .Name x _ => decide (st.N[i]? = some x) && isLoc st x
  | _ => false
def chkNms (st : Sta) : List Expr → List Nat → Bool
  | [], [] => true
  | e :: es, i :: is => chkNm st e i && chkNms st es is
  | _, _ => false
def chkTg (st : Sta) (e : Expr) (g : Tg) : Bool :=
  match g with
  | .one i => chkNm st e i
  | .many is => match e with
    | .Tuple es _ _ => chkNms st es is
    | _ => false
def isTup : Expr → Bool
  | .Tuple _ _ _ => true
  | _ => false
def notSet : Expr → Bool
  | .Set _ _ _ => false
  | _ => true
def ownOf (st : Sta) (g : Tg) : List (Str × Nat) := g.slots.map fun i => (st.N.getD i "?", i)

mutual
def chkE : Nat → Sta → Expr → CE → Bool
  | 0, _, _, _ => false
  | n + 1, st, e, c => match c with
    | .never => true
    | .v i => match e with
      | .Name x _ => decide (st.N[i]? = some x) && isVis st x && okNm x
      | _ => false
    | .k d => match e with
      | .Constant k _ _ => constD k d
      | _ => false
    | .g j => match e with
      | .Name x _ => isGl st x && decide (t.gls.lookup x = some j) && okNm x
      | _ => false
    | .bin o a b => match e with
      | .BinOp l p r _ => decide (p = o) && chkE n st l a && chkE n st r b
      | _ => false
    | .un o a => match e with
      | .UnaryOp p x _ => decide (p = o) && chkE n st x a
      | _ => false
    | .cmp o a b => match e with
      | .Compare x [p] [y] _ => decide (p = o) && !behindInMarks p y && chkE n st x a && chkE n st y b
      | _ => false
    | .chain o p a b c => match e with
      | .Compare x [o', p'] [y, z] _ => decide (o' = o) && decide (p' = p) && !lastMarks [o', p'] [y, z] && chkE n st x a && chkE n st y b && chkE n st z c
      | _ => false
    | .and a b => match e with
      | .BoolOp .And (x :: y :: r) p => chkE n st x a && chkB n .And st (y :: r) p b
      | _ => false
    | .or a b => match e with
      | .BoolOp .Or (x :: y :: r) p => chkE n st x a && chkB n .Or st (y :: r) p b
      | _ => false
    | .tand _ _ => false
    | .tor _ _ => false
    | .not a => match e with
      | .UnaryOp .Not x _ => chkE n st x a
      | _ => false
    | .ite c a b => match e with
      | .IfExp x y z _ => chkT n st x c && chkE n st y a && chkE n st z b
      | _ => false
    | .tup cs => match e with
      | .Tuple es _ _ => chkA n st es cs
      | _ => false
    | .lst cs => match e with
      | .List es _ => chkA n st es cs
      | _ => false
    | .call f cs => match e with
      | .Call (.Name x _) args [] _ => isGl st x && decide (t.fns.lookup x = some f) && okNm x && argsOk args && chkA n st args cs
      | _ => false
    | .make k cs => match e with
      | .Call (.Name x _) args [] _ => isGl st x && decide (t.cls.lookup x = some k) && okNm x && argsOk args && chkA n st args cs
      | _ => false
    | .meth o m cs => match e with
      | .Call (.Attribute b x ap) args [] p => decide (nmOf t.us m = x) && baseOk b && methOk args ap p && chkE n st b o && chkA n st args cs
      | _ => false
    | .smeth k m cs => match e with
      | .Call (.Attribute (.Name x _) y ap) args [] p => isGl st x && decide (t.cls.lookup x = some k) && okNm x && decide (nmOf t.us m = y) && methOk args ap p && chkA n st args cs
      | _ => false
    | .methK o m cs ks ws => match e with
      | .Call (.Attribute b x ap) args kws p => decide (nmOf t.us m = x) && baseOk b && methOkK args kws ap p && chkE n st b o && chkA n st args cs && chkK n st kws ks ws
      | _ => false
    | .smethK k m cs ks ws => match e with
      | .Call (.Attribute (.Name x _) y ap) args kws p => isGl st x && decide (t.cls.lookup x = some k) && okNm x && decide (nmOf t.us m = y) && methOkK args kws ap p && chkA n st args cs && chkK n st kws ks ws
      | _ => false
    | .attr o m => match e with
      | .Attribute b x _ => decide (nmOf t.us m = x) && baseOk b && chkE n st b o
      | _ => false
    | .bi b cs => match e with
      | .Call (.Name x _) args [] _ => isBi t st x b.nm && !args.isEmpty && !args.any isStar && chkA n st args cs
      | _ => false
    | .isi a ts => match e with
      | .Call (.Name x _) [y, z] [] _ => isBi t st x "isinstance" && !isStar y && chkE n st y a && (match z with
        | .Tuple zs _ _ => !ts.isEmpty && decide (ts.length ≤ 100) && chkTns t st zs ts
        | z => match ts with
          | [u] => chkTn t st z u
          | _ => false)
      | _ => false
    | .ix a b => match e with
      | .Subscript x y _ => ixOk y && chkE n st x a && chkE n st y b
      | _ => false
    | .sl a lo hi => match e with
      | .Subscript x (.Slice l h none _) _ => chkE n st x a && chkO n st l lo && chkO n st h hi
      | _ => false
    | .nl w => chkL n st e w
    | .callO o cs => match e with
      | .Call (.Name x p) args [] _ => !args.isEmpty && !args.any isStar && chkE n st (.Name x p) o && chkA n st args cs
      | .Call (.Call a b c d) args [] _ => !args.isEmpty && !args.any isStar && chkE n st (.Call a b c d) o && chkA n st args cs
      | _ => false
    | .bx b c => match e with
      | .Call (.Name x _) [y] [] _ => (decide (b = .bool) || decide (b = .str)) && isBi t st x b.nm && !isStar y && chkE n st y c
      | _ => false
    | .join a b => match e with
      | .Call (.Attribute x m ap) [y] [] p => decide (m = "join") && baseOk x && (ap.endLine == p.line) && !isStar y && chkE n st x a && chkE n st y b
      | _ => false
    | .split a b => match e with
      | .Call (.Attribute x m ap) [y] [] p => decide (m = "split") && baseOk x && (ap.endLine == p.line) && !isStar y && chkE n st x a && chkE n st y b
      | _ => false
    | .pix a k => match e with
      | .Subscript x (.Constant c _ _) _ => keyC c k && chkE n st x a
      | _ => false
    | .callK o es ks ws => match e with
      | .Call (.Name x p) [] [⟨some k, v, _⟩] _ => (match es, ws with
        | .nil, .cons false w .nil => decide (ks = [k]) && chkE n st (.Name x p) o && chkE n st v w
        | _, _ => false)
      | _ => false
def chkB : Nat → BoolOp → Sta → List Expr → Pos → CE → Bool
  | 0, _, _, _, _, _ => false
  | n + 1, op, st, es, p, c => match es with
    | [x] => chkE n st x c
    | es => chkE n st (.BoolOp op es p) c
def chkO : Nat → Sta → Option Expr → CO → Bool
  | 0, _, _, _ => false
  | n + 1, st, e, c => match c with
    | .no => e.isNone
    | .yes c => match e with
      | some e => chkE n st e c
      | none => false
def chkT : Nat → Sta → Expr → CE → Bool
  | 0, _, _, _ => false
  | n + 1, st, e, c => match c with
    | .not a => match e with
      | .UnaryOp .Not x _ => chkT n st x a
      | _ => false
    | .tand _ _ => match e with
      | .BoolOp .And es _ => chkW n .And st es c
      | _ => false
    | .tor _ _ => match e with
      | .BoolOp .Or es _ => chkW n .Or st es c
      | _ => false
    | .cmp o a b => match e with
      | .Compare x [p] [y] _ => decide (p = o) && !behindInMarks p y && chkE n st x a && chkE n st y b
      | _ => false
    | .chain o p a b c => match e with
      | .Compare x [o', p'] [y, z] _ => decide (o' = o) && decide (p' = p) && !lastMarks [o', p'] [y, z] && chkE n st x a && chkE n st y b && chkE n st z c
      | _ => false
    | c => plainTest e && chkE n st e c
def chkW : Nat → BoolOp → Sta → List Expr → CE → Bool
  | 0, _, _, _, _ => false
  | n + 1, op, st, es, c => match es with
    | [] => false
    | [x] => chkT n st x c
    | x :: y :: r => match op with
      | .And => match c with
        | .tand a b => chkT n st x a && chkW n .And st (y :: r) b
        | _ => false
      | .Or => match c with
        | .tor a b => chkT n st x a && chkW n .Or st (y :: r) b
        | _ => false
def chkA : Nat → Sta → List Expr → CAs → Bool
  | 0, _, _, _ => false
  | n + 1, st, es, cs => match cs with
    | .nil => es.isEmpty
    | .cons true c r => match es with
      | .Starred e _ :: es => chkE n st e c && chkA n st es r
      | _ => false
    | .cons false c r => match es with
      | e :: es => !isStar e && chkE n st e c && chkA n st es r
      | _ => false
def chkK : Nat → Sta → List Keyword → List Str → CAs → Bool
  | 0, _, _, _, _ => false
  | n + 1, st, kws, ks, ws => match ws with
    | .nil => kws.isEmpty && ks.isEmpty
    | .cons false c r => match kws with
      | ⟨some k, e, _⟩ :: kws => match ks with
        | l :: ks => decide (k = l) && chkE n st e c && chkK n st kws ks r
        | [] => false
      | _ => false
    | .cons true _ _ => false
def chkC : Nat → Sta → List Expr → CAs → Bool
  | 0, _, _, _ => false
  | n + 1, st, es, cs => match cs with
    | .nil => es.isEmpty
    | .cons false c .nil => match es with
      | [e] => chkT n st e c
      | _ => false
    | _ => false
def chkI : Nat → Sta → Expr → Expr → CI → Bool
  | 0, _, _, _, _ => false
  | n + 1, st, tg, e, c => match c with
    | .e c => chkE n st e c
    | .r1 a => match e with
      | .Call (.Name x _) [y] [] _ => isBi t st x "range" && !isStar y && chkE n st y a
      | _ => false
    | .r2 a b => match e with
      | .Call (.Name x _) [y, z] [] _ => isBi t st x "range" && !isStar y && !isStar z && chkE n st y a && chkE n st z b
      | _ => false
    | .rd _ _ => false
    | .en a => match e with
      | .Call (.Name x _) [y] [] _ => isTup tg && isBi t st x "enumerate" && !isStar y && chkE n st y a
      | _ => false
    | .zip a b => match e with
      | .Call (.Name x _) [y, z] [] _ => isTup tg && isBi t st x "zip" && !isStar y && !isStar z && chkE n st y a && chkE n st z b
      | _ => false
def chkL : Nat → Sta → Expr → CW → Bool
  | 0, _, _, _ => false
  | n + 1, st, e, w => match w with
    | .lst cs => match e with
      | .List es _ => chkA n st es cs
      | _ => false
    | .of a => match e with
      | .Call (.Name x _) [y] [] _ => isBi t st x "list" && !isStar y && chkE n st y a
      | _ => false
    | .add a b => match e with
      | .BinOp x .Add y _ => chkE n st x a && chkE n st y b
      | _ => false
    | .lr a => match e with
      | .Call (.Name x _) [.Call (.Name x2 _) [y] [] _] [] _ => isBi t st x "list" && isBi t st x2 "range" && !isStar y && chkE n st y a
      | _ => false
    | .lc elt tg it cs => match e with
      | .ListComp el [⟨te, iter, ifs, as⟩] scope _ => decide (as = 0) && notSet iter && chkI n st te iter it && blkC st.N st.sc scope (ownOf st tg) && chkTg (st.blk scope) te tg && chkC n (st.blk scope) ifs cs && chkE n (st.blk scope) el elt
      | _ => false
end
end

/-! ### what is told of a context -/
structure CxZ {S : Type} [Pen S] (Z : Cz S) (t : Tab) (st : Sta) (W : WX) (X : Cx) : Prop where
  z : Sz Z t.us X
  tk : Takes X W
  calm : X.calm = true
  nd : X.N.Nodup
  hN : X.N = st.N
  hsc : X.env.scope = st.sc
  hfn : ∀ x, st.fn x = true → X.fn x = true
  fns : ∀ x f, t.fns.lookup x = some f → X.mg x = some (.ref (Z.T.fA f)) ∧ keepIn X.K (.ref (Z.T.fA f)) = true
  cls : ∀ x c, t.cls.lookup x = some c → X.mg x = some (.ref (Z.T.cA c)) ∧ keepIn X.K (.ref (Z.T.cA c)) = true
  gls : ∀ x j, t.gls.lookup x = some j → ∃ u v, X.mg x = some u ∧ RelV v u ∧ ∀ F, Rep Z.T F (Z.P.gl j) v
  bis : ∀ x, t.bis.contains x = true → X.mg x = none
  cfi : ∀ c f, Z.P.meth c mCall = some f → fnIn Z.T.K (Z.T.fA f) = true
  kwo : ∀ f, Z.P.kwn f ≠ [] → KwOk Z.T.K (Z.T.fA f) (Z.P.kwn f)
  pno : PenOk Z
  sm : ∀ c m f, Z.P.smeth c m = some (false, f) → SmZ Z.T c (nmOf t.us m) f
  smt : ∀ c m f, Z.P.smeth c m ≠ some (true, f)

section
variable {S : Type} [Pen S] {Z : Cz S} {t : Tab} {st : Sta} {W : WX} {X : Cx}
theorem CxZ.gl (h : CxZ Z t st W X) {x : Str} (e : isGl st x = true) : Gl X x := by
  show X.env.scope.names.lookup x = _
  rw [h.hsc]; exact of_decide_eq_true e
theorem CxZ.vis (h : CxZ Z t st W X) {x : Str} (e : isVis st x = true) : Vis X.env.scope x := by
  unfold Vis
  rw [h.hsc]
  simp only [isVis, Bool.or_eq_true, decide_eq_true_eq] at e
  rcases e with (e | e) | e
  · exact .inl e
  · exact .inr (.inl e)
  · exact .inr (.inr e)
theorem CxZ.nm (h : CxZ Z t st W X) {x : Str} {i : Nat} (e : (decide (st.N[i]? = some x) && isLoc st x) = true) : nmOk X i x := by
  simp only [Bool.and_eq_true, decide_eq_true_eq, isLoc, Bool.or_eq_true] at e
  refine ⟨by rw [h.hN]; exact e.1, ?_, ?_⟩
  · unfold L2.Loc
    rw [h.hsc]
    rcases e.2 with k | k
    · exact .inl k
    · exact .inr k.1
  · rw [h.hsc]
    rcases e.2 with k | k
    · exact .inr k
    · exact .inl (h.hfn x k.2)
theorem CxZ.bi (h : CxZ Z t st W X) {x y : Str} (e : isBi t st x y = true) : x = y ∧ Gl X x ∧ X.mg x = none := by
  simp only [isBi, Bool.and_eq_true, decide_eq_true_eq] at e
  exact ⟨e.1.1, h.gl e.1.2, h.bis x e.2⟩
theorem okNm_of {x : Str} (h : okNm x = true) : (x == ("__debug__" : Str)) = false ∧ (x == ("__classdict__" : Str)) = false := by
  simp only [okNm, Bool.and_eq_true, Bool.not_eq_true'] at h
  exact h
theorem CxZ.blk (h : CxZ Z t st W X) (s : Shared) (H : Hp) (scope : Scope) (cl : List (Str × Addr)) (C : Addr) (fp : List Addr) : CxZ Z t (st.blk scope) WF (X.blk s H scope (compEnvC scope cl C X.env) fp) where
  z := ⟨h.z.hK, h.z.fz, h.z.fi, h.z.hu, h.z.meth, h.z.opL, h.z.opR, h.z.cmp, h.z.own, h.z.sub, h.z.fld, h.z.prop⟩
  tk := takes0
  calm := h.calm
  nd := h.nd
  hN := h.hN
  hsc := by
    show relS scope X.env.scope = relS scope st.sc
    rw [h.hsc]
  hfn := fun x e => e
  fns := h.fns
  cls := h.cls
  gls := h.gls
  bis := h.bis
  cfi := h.cfi
  kwo := h.kwo
  pno := h.pno
  sm := h.sm
  smt := h.smt
theorem chkTn_ok (h : CxZ Z t st W X) {e : Expr} {n : Tn} (k : chkTn t st e n = true) : isStar e = false ∧ PE X e (tC (n.v Z.T)) := by
  cases n with
  | ty n =>
    cases e <;> simp only [chkTn] at k <;> first | (cases k; done) | skip
    simp only [Bool.and_eq_true, decide_eq_true_eq, Bool.not_eq_true'] at k
    refine ⟨rfl, pe_bltn (h.gl k.1.1.1.1) (h.bis _ k.1.1.1.2) k.1.1.2 rfl ?_ k.1.2⟩
    intro z
    rw [z] at k
    simp at k
  | cl c =>
    cases e <;> simp only [chkTn] at k <;> first | (cases k; done) | skip
    simp only [Bool.and_eq_true, decide_eq_true_eq] at k
    exact ⟨rfl, pe_glob (h.gl k.1.1) (h.cls _ _ k.1.2).1 rfl (okNm_of k.2).1⟩
theorem chkTns_ok (h : CxZ Z t st W X) : ∀ {es : List Expr} {ns : List Tn}, chkTns t st es ns = true → TnsZ X Z.T es ns
  | [], [], _ => .nil
  | e :: es, n :: ns, k => by
    simp only [chkTns, Bool.and_eq_true] at k
    obtain ⟨k1, k2⟩ := chkTn_ok h k.1
    exact .cons k1 k2 (chkTns_ok h k.2)
  | [], _ :: _, k => by cases k
  | _ :: _, [], k => by cases k
theorem chkNms_ok (h : CxZ Z t st W X) : ∀ {es : List Expr} {is : List Nat}, chkNms st es is = true → NmsOk X es is
  | [], [], _ => .nil
  | e :: es, i :: is, k => by
    simp only [chkNms, Bool.and_eq_true] at k
    obtain ⟨k1, k2⟩ := k
    cases e <;> simp only [chkNm] at k1 <;> first | (cases k1; done) | skip
    exact .cons (h.nm k1) (chkNms_ok h k2)
  | [], _ :: _, k => by cases k
  | _ :: _, [], k => by cases k
theorem chkTg_ok (h : CxZ Z t st W X) {e : Expr} {g : Tg} (k : chkTg st e g = true) : PG X e (gT Z.T.K g) := by
  cases g with
  | one i =>
    simp only [chkTg] at k
    cases e <;> simp only [chkNm] at k <;> first | (cases k; done) | skip
    exact dg_one h.nd (h.nm k)
  | many is =>
    cases e <;> simp only [chkTg] at k <;> first | (cases k; done) | skip
    exact dg_many h.z.hK h.calm h.nd (chkNms_ok h k)
theorem notSet_of {e : Expr} {env : Env} (h : notSet e = true) : ∀ x, foldedSetIterable e env x = pure x := by
  intro x
  cases e <;> first | rfl | cases h
end
end Rz
end

section
set_option autoImplicit false
set_option Elab.async false
set_option linter.all false
set_option maxHeartbeats 4000000
set_option maxRecDepth 100000
namespace Rz
open PySem PySem.Spec PySem.W PyProof.Rows L2

section
variable {S : Type} [Pen S] {Z : Cz S} {t : Tab}
structure OkN (Z : Cz S) (t : Tab) (n : Nat) : Prop where
  E : ∀ {st W X e c}, CxZ Z t st W X → chkE t n st e c = true → ∀ G, PE X e (tD Z G W c)
  B : ∀ {op st W X es p c}, CxZ Z t st W X → chkB t n op st es p c = true → ∀ G, PE X (.BoolOp op es p) (tD Z G W c)
  O : ∀ {st W X e c}, CxZ Z t st W X → chkO t n st e c = true → ∀ G, PartZ Z G W X e c
  T : ∀ {st W X e c}, CxZ Z t st W X → chkT t n st e c = true → ∀ G, PT X e (tDT Z G W c)
  W : ∀ {op st W X es p c}, CxZ Z t st W X → chkW t n op st es c = true → ∀ G, PW X (.BoolOp op es p) (tDT Z G W c)
  A : ∀ {st W X es cs}, CxZ Z t st W X → chkA t n st es cs = true → ∀ G, ArgsZ Z G W X es cs
  K : ∀ {st W X kws ks cs}, CxZ Z t st W X → chkK t n st kws ks cs = true → ∀ G, KwsZ Z G W X kws ks cs
  C : ∀ {st W X es cs}, CxZ Z t st W X → chkC t n st es cs = true → ∀ G, PTs X es (tCs Z G W cs)
  I : ∀ {st W X tg e c}, CxZ Z t st W X → chkI t n st tg e c = true → ∀ G, PI X tg e (iD Z G W c)
  L : ∀ {st W X e w}, CxZ Z t st W X → chkL t n st e w = true → ∀ G, PE X e (tDL Z G W w)

theorem ok_zero : OkN Z t 0 := ⟨fun _ h => (by cases h), fun _ h => (by cases h), fun _ h => (by cases h), fun _ h => (by cases h), fun _ h => (by cases h), fun _ h => (by cases h), fun _ h => (by cases h), fun _ h => (by cases h), fun _ h => (by cases h), fun _ h => (by cases h)⟩

variable {n : Nat}
theorem okE (k : OkN Z t n) {st : Sta} {W : WX} {X : Cx} {e : Expr} {c : CE} (h : CxZ Z t st W X) (q : chkE t (n + 1) st e c = true) (G : Fm) : PE X e (tD Z G W c) := by
  cases c with
  | never => exact de_never
  | v i =>
    simp only [chkE] at q
    split at q
    · simp only [Bool.and_eq_true, decide_eq_true_eq] at q
      exact de_v (pe_var (by rw [h.hN]; exact q.1.1) (h.vis q.1.2) (okNm_of q.2).1 (okNm_of q.2).2)
    · cases q
  | k d =>
    simp only [chkE] at q
    split at q
    · rename_i c _ _
      cases c <;> cases d <;> simp only [constD] at q <;> first | (cases q; done) | skip
      · exact de_k pe_non fun F => rfl
      · cases beq_iff_eq.mp q; exact de_k pe_bl fun F => rfl
      · cases beq_iff_eq.mp q; exact de_k pe_int fun F => rfl
      · cases of_decide_eq_true q; exact de_k pe_str fun F => rfl
    · cases q
  | g j =>
    simp only [chkE] at q
    split at q
    · simp only [Bool.and_eq_true, decide_eq_true_eq] at q
      obtain ⟨u, v, m, r, rp⟩ := h.gls _ _ q.1.2
      exact de_g (pe_glob (h.gl q.1.1) m r (okNm_of q.2).1) rp
    · cases q
  | bin o a b =>
    simp only [chkE] at q
    split at q
    · simp only [Bool.and_eq_true, decide_eq_true_eq] at q
      obtain ⟨⟨rfl, q1⟩, q2⟩ := q
      exact de_bin h.z h.tk (k.E h q1 G) (k.E h q2 G)
    · cases q
  | un o a =>
    simp only [chkE] at q
    split at q
    · simp only [Bool.and_eq_true, decide_eq_true_eq] at q
      obtain ⟨rfl, q1⟩ := q
      exact de_un h.z h.tk (k.E h q1 G)
    · cases q
  | cmp o a b =>
    simp only [chkE] at q
    split at q
    · simp only [Bool.and_eq_true, decide_eq_true_eq, Bool.not_eq_true'] at q
      obtain ⟨⟨⟨rfl, q0⟩, q1⟩, q2⟩ := q
      exact de_cmp h.z h.tk (k.E h q1 G) (k.E h q2 G) q0
    · cases q
  | chain o p a b c =>
    simp only [chkE] at q
    split at q
    · simp only [Bool.and_eq_true, decide_eq_true_eq, Bool.not_eq_true'] at q
      obtain ⟨⟨⟨⟨⟨rfl, rfl⟩, q0⟩, q1⟩, q2⟩, q3⟩ := q
      exact de_chain h.z h.tk (k.E h q1 G) (k.E h q2 G) (k.E h q3 G) q0
    · cases q
  | and a b =>
    simp only [chkE] at q
    split at q
    · simp only [Bool.and_eq_true] at q
      exact de_and h.z h.tk (k.E h q.1 G) (k.B h q.2 G)
    · cases q
  | or a b =>
    simp only [chkE] at q
    split at q
    · simp only [Bool.and_eq_true] at q
      exact de_or h.z h.tk (k.E h q.1 G) (k.B h q.2 G)
    · cases q
  | tand a b => simp only [chkE] at q; cases q
  | tor a b => simp only [chkE] at q; cases q
  | not a =>
    simp only [chkE] at q
    split at q
    · exact de_not h.z h.tk (k.E h q G)
    · cases q
  | ite c a b =>
    simp only [chkE] at q
    split at q
    · simp only [Bool.and_eq_true] at q
      exact de_ite (k.T h q.1.1 G) (k.E h q.1.2 G) (k.E h q.2 G)
    · cases q
  | tup cs =>
    simp only [chkE] at q
    split at q
    · exact de_tup ((k.A h q G).pa h.z.hK)
    · cases q
  | lst cs =>
    simp only [chkE] at q
    split at q
    · exact de_lst ((k.A h q G).pa h.z.hK)
    · cases q
  | call f cs =>
    simp only [chkE] at q
    split at q
    · simp only [Bool.and_eq_true, decide_eq_true_eq] at q
      obtain ⟨⟨⟨⟨q1, q2⟩, q3⟩, q4⟩, q5⟩ := q
      obtain ⟨m, kp⟩ := h.fns _ _ q2
      exact de_call h.z.hK (h.z.fz f) kp h.tk (h.gl q1) m q4 (k.A h q5 G) (okNm_of q3).1
    · cases q
  | make f cs =>
    simp only [chkE] at q
    split at q
    · simp only [Bool.and_eq_true, decide_eq_true_eq] at q
      obtain ⟨⟨⟨⟨q1, q2⟩, q3⟩, q4⟩, q5⟩ := q
      obtain ⟨m, kp⟩ := h.cls _ _ q2
      exact de_make h.z.hK (h.z.fi f) h.tk (h.gl q1) m kp q4 (k.A h q5 G) (okNm_of q3).1
    · cases q
  | meth o m cs =>
    simp only [chkE] at q
    split at q
    · simp only [Bool.and_eq_true, decide_eq_true_eq] at q
      obtain ⟨⟨⟨⟨rfl, q2⟩, q3⟩, q4⟩, q5⟩ := q
      exact de_meth h.z.hK h.z.fz (fun c f => h.z.meth c m f) h.tk (k.E h q4 G) (k.A h q5 G) q2 q3
    · cases q
  | smeth c m cs =>
    simp only [chkE] at q
    split at q
    · simp only [Bool.and_eq_true, decide_eq_true_eq] at q
      obtain ⟨⟨⟨⟨⟨q1, q2⟩, q3⟩, rfl⟩, q5⟩, q6⟩ := q
      obtain ⟨m', kp⟩ := h.cls _ _ q2
      exact de_smeth h.z.hK h.z.fz (fun f => h.sm c m f) (fun f => h.smt c m f) h.tk (h.gl q1) m' (okNm_of q3).1 (k.A h q6 G) q5
    · cases q
  | methK o m cs ks ws =>
    simp only [chkE] at q
    split at q
    · simp only [Bool.and_eq_true, decide_eq_true_eq] at q
      obtain ⟨⟨⟨⟨⟨rfl, q2⟩, q3⟩, q4⟩, q5⟩, q6⟩ := q
      exact de_methK h.z.hK h.z.fz (fun c f => h.z.meth c m f) h.kwo h.tk (k.E h q4 G) (k.A h q5 G) (k.K h q6 G) q2 q3
    · cases q
  | smethK c m cs ks ws =>
    simp only [chkE] at q
    split at q
    · simp only [Bool.and_eq_true, decide_eq_true_eq] at q
      obtain ⟨⟨⟨⟨⟨⟨q1, q2⟩, q3⟩, rfl⟩, q5⟩, q6⟩, q7⟩ := q
      obtain ⟨m', kp⟩ := h.cls _ _ q2
      exact de_smethK h.z.hK h.z.fz (fun f => h.sm c m f) h.kwo h.tk (h.gl q1) m' (okNm_of q3).1 (k.A h q6 G) (k.K h q7 G) q5
    · cases q
  | attr o m =>
    simp only [chkE] at q
    split at q
    · simp only [Bool.and_eq_true, decide_eq_true_eq] at q
      obtain ⟨⟨rfl, q2⟩, q4⟩ := q
      exact de_attr h.z.hK h.z.fz (fun c j => h.z.fld c m j) (fun c j => h.z.prop c m j) (k.E h q4 G) q2
    · cases q
  | bi b cs =>
    simp only [chkE] at q
    split at q
    · simp only [Bool.and_eq_true, Bool.not_eq_true'] at q
      obtain ⟨⟨⟨q1, q2⟩, q3⟩, q4⟩ := q
      obtain ⟨rfl, g, m⟩ := h.bi q1
      exact de_bi h.z h.calm rfl g m (by rintro rfl; cases q2) (k.A h q4 G) q3
    · cases q
  | isi a ts =>
    simp only [chkE] at q
    split at q
    · simp only [Bool.and_eq_true, Bool.not_eq_true'] at q
      obtain ⟨⟨⟨q1, q2⟩, q3⟩, q4⟩ := q
      obtain ⟨rfl, g, m⟩ := h.bi q1
      split at q4
      · simp only [Bool.and_eq_true, Bool.not_eq_true', decide_eq_true_eq] at q4
        exact de_isiT h.z g m (k.E h q3 G) (chkTns_ok h q4.2) q2 (by rintro rfl; cases q4.1.1) q4.1.2
      · split at q4
        · obtain ⟨s1, s2⟩ := chkTn_ok h q4
          exact de_isi h.z g m (k.E h q3 G) s2 q2 s1
        · cases q4
    · cases q
  | ix a b =>
    simp only [chkE] at q
    split at q
    · simp only [Bool.and_eq_true] at q
      exact de_ix h.z (k.E h q.1.2 G) (k.E h q.2 G) q.1.1
    · cases q
  | sl a lo hi =>
    simp only [chkE] at q
    split at q
    · simp only [Bool.and_eq_true] at q
      exact de_sl h.z (k.E h q.1.1 G) (k.O h q.1.2 G) (k.O h q.2 G)
    · cases q
  | nl w =>
    simp only [chkE] at q
    exact de_nl (k.L h q G)
  | callO o cs =>
    simp only [chkE] at q
    split at q
    · simp only [Bool.and_eq_true, Bool.not_eq_true'] at q
      obtain ⟨⟨⟨q1, q2⟩, q3⟩, q4⟩ := q
      exact de_callO h.z h.cfi h.tk (k.E h q3 G) (by rintro rfl; cases q1) (k.A h q4 G) q2 rfl
    · simp only [Bool.and_eq_true, Bool.not_eq_true'] at q
      obtain ⟨⟨⟨q1, q2⟩, q3⟩, q4⟩ := q
      exact de_callO h.z h.cfi h.tk (k.E h q3 G) (by rintro rfl; cases q1) (k.A h q4 G) q2 rfl
    · cases q
  | bx b e =>
    simp only [chkE] at q
    split at q
    · simp only [Bool.and_eq_true, Bool.not_eq_true', Bool.or_eq_true, decide_eq_true_eq] at q
      obtain ⟨⟨⟨q1, q2⟩, q3⟩, q4⟩ := q
      obtain ⟨rfl, g, m⟩ := h.bi q2
      exact de_bx h.z h.calm h.tk rfl q1 g m (k.E h q4 G) q3
    · cases q
  | join a b =>
    simp only [chkE] at q
    split at q
    · simp only [Bool.and_eq_true, Bool.not_eq_true', decide_eq_true_eq] at q
      obtain ⟨⟨⟨⟨⟨rfl, q2⟩, q3⟩, q4⟩, q5⟩, q6⟩ := q
      exact de_join h.z.hK (k.E h q5 G) (k.E h q6 G) q4 q2 q3
    · cases q
  | split a b =>
    simp only [chkE] at q
    split at q
    · simp only [Bool.and_eq_true, Bool.not_eq_true', decide_eq_true_eq] at q
      obtain ⟨⟨⟨⟨⟨rfl, q2⟩, q3⟩, q4⟩, q5⟩, q6⟩ := q
      exact de_split (k.E h q5 G) (k.E h q6 G) q4 q2 q3
    · cases q
  | pix a d =>
    simp only [chkE] at q
    split at q
    · rw [Bool.and_eq_true] at q
      exact h.pno.ix (Nat.lt_of_le_of_lt (Nat.add_le_add_left (by decide) _) h.z.hu) q.1 (k.E h q.2 G)
    · cases q
  | callK o es ks ws =>
    simp only [chkE] at q
    split at q
    · split at q
      · simp only [Bool.and_eq_true, decide_eq_true_eq] at q
        obtain ⟨⟨rfl, q1⟩, q2⟩ := q
        exact de_callK h.z h.cfi h.kwo h.tk (k.E h q1 G) (k.E h q2 G) rfl
      · cases q
    · cases q
theorem okB (k : OkN Z t n) {op : BoolOp} {st : Sta} {W : WX} {X : Cx} {es : List Expr} {p : Pos} {c : CE} (h : CxZ Z t st W X) (q : chkB t (n + 1) op st es p c = true) (G : Fm) : PE X (.BoolOp op es p) (tD Z G W c) := by
  simp only [chkB] at q
  split at q
  · exact pe_one (k.E h q G)
  · exact k.E h q G
theorem okO (k : OkN Z t n) {st : Sta} {W : WX} {X : Cx} {e : Option Expr} {c : CO} (h : CxZ Z t st W X) (q : chkO t (n + 1) st e c = true) (G : Fm) : PartZ Z G W X e c := by
  cases c with
  | no =>
    simp only [chkO] at q
    cases e with
    | none => exact .no
    | some e => cases q
  | yes c =>
    simp only [chkO] at q
    cases e with
    | none => cases q
    | some e => exact .yes (k.E h q G)
theorem okT (k : OkN Z t n) {st : Sta} {W : WX} {X : Cx} {e : Expr} {c : CE} (h : CxZ Z t st W X) (q : chkT t (n + 1) st e c = true) (G : Fm) : PT X e (tDT Z G W c) := by
  have plain : ∀ {c : CE}, (plainTest e && chkE t n st e c) = true → PT X e (tDT Z G W c) := fun {c} q => by
    rw [Bool.and_eq_true] at q
    exact dt_plain h.z h.tk (k.E h q.2 G) q.1
  cases c with
  | not a =>
    simp only [chkT] at q
    split at q
    · exact dt_not (k.T h q G)
    · cases q
  | tand a b =>
    simp only [chkT] at q
    split at q
    · exact (k.W h q G).pt
    · cases q
  | tor a b =>
    simp only [chkT] at q
    split at q
    · exact (k.W h q G).pt
    · cases q
  | cmp o a b =>
    simp only [chkT] at q
    split at q
    · simp only [Bool.and_eq_true, decide_eq_true_eq, Bool.not_eq_true'] at q
      obtain ⟨⟨⟨rfl, q0⟩, q1⟩, q2⟩ := q
      exact dt_cmp h.z h.tk (k.E h q1 G) (k.E h q2 G) q0
    · cases q
  | chain o p a b c =>
    simp only [chkT] at q
    split at q
    · simp only [Bool.and_eq_true, decide_eq_true_eq, Bool.not_eq_true'] at q
      obtain ⟨⟨⟨⟨⟨rfl, rfl⟩, q0⟩, q1⟩, q2⟩, q3⟩ := q
      exact dt_chain h.z h.tk (k.E h q1 G) (k.E h q2 G) (k.E h q3 G) q0
    · cases q
  | _ => exact plain (by simpa only [chkT] using q)
theorem okW (k : OkN Z t n) {op : BoolOp} {st : Sta} {W : WX} {X : Cx} {es : List Expr} {p : Pos} {c : CE} (h : CxZ Z t st W X) (q : chkW t (n + 1) op st es c = true) (G : Fm) : PW X (.BoolOp op es p) (tDT Z G W c) := by
  simp only [chkW] at q
  split at q
  · cases q
  · cases op with
    | And => exact pw_and1 (k.T h q G)
    | Or => exact pw_or1 (k.T h q G)
  · cases op with
    | And =>
      simp only at q
      split at q
      · rw [Bool.and_eq_true] at q
        exact dt_and (k.T h q.1 G) (k.W h q.2 G)
      · cases q
    | Or =>
      simp only at q
      split at q
      · rw [Bool.and_eq_true] at q
        exact dt_or (k.T h q.1 G) (k.W h q.2 G)
      · cases q
theorem okA (k : OkN Z t n) {st : Sta} {W : WX} {X : Cx} {es : List Expr} {cs : CAs} (h : CxZ Z t st W X) (q : chkA t (n + 1) st es cs = true) (G : Fm) : ArgsZ Z G W X es cs := by
  cases cs with
  | nil =>
    simp only [chkA] at q
    cases es with
    | nil => exact .nil
    | cons e es => cases q
  | cons s c r =>
    cases s with
    | true =>
      simp only [chkA] at q
      split at q
      · rw [Bool.and_eq_true] at q
        exact .star (k.E h q.1 G) (k.A h q.2 G)
      · cases q
    | false =>
      simp only [chkA] at q
      split at q
      · simp only [Bool.and_eq_true, Bool.not_eq_true'] at q
        exact .cons q.1.1 (k.E h q.1.2 G) (k.A h q.2 G)
      · cases q
theorem okK (k : OkN Z t n) {st : Sta} {W : WX} {X : Cx} {kws : List Keyword} {ks : List Str} {cs : CAs} (h : CxZ Z t st W X) (q : chkK t (n + 1) st kws ks cs = true) (G : Fm) : KwsZ Z G W X kws ks cs := by
  cases cs with
  | nil =>
    simp only [chkK, Bool.and_eq_true, List.isEmpty_iff] at q
    obtain ⟨rfl, rfl⟩ := q
    exact .nil
  | cons s c r =>
    cases s with
    | true => simp only [chkK] at q; cases q
    | false =>
      simp only [chkK] at q
      split at q
      · split at q
        · simp only [Bool.and_eq_true, decide_eq_true_eq] at q
          obtain ⟨⟨rfl, q1⟩, q2⟩ := q
          exact .cons (k.E h q1 G) (k.K h q2 G)
        · cases q
      · cases q
theorem okC (k : OkN Z t n) {st : Sta} {W : WX} {X : Cx} {es : List Expr} {cs : CAs} (h : CxZ Z t st W X) (q : chkC t (n + 1) st es cs = true) (G : Fm) : PTs X es (tCs Z G W cs) := by
  simp only [chkC] at q
  split at q
  · cases es with
    | nil => exact dts_nil
    | cons e es => cases q
  · split at q
    · exact dts_one (k.T h q G)
    · cases q
  · cases q
theorem isTup_of {e : Expr} (h : isTup e = true) : ∃ es j p, e = .Tuple es j p := by
  cases e <;> first | exact ⟨_, _, _, rfl⟩ | cases h
theorem okI (k : OkN Z t n) {st : Sta} {W : WX} {X : Cx} {tg e : Expr} {c : CI} (h : CxZ Z t st W X) (q : chkI t (n + 1) st tg e c = true) (G : Fm) : PI X tg e (iD Z G W c) := by
  cases c with
  | e c =>
    simp only [chkI] at q
    exact di_e h.z.hK (k.E h q G)
  | r1 a =>
    simp only [chkI] at q
    split at q
    · simp only [Bool.and_eq_true, Bool.not_eq_true'] at q
      obtain ⟨rfl, g, m⟩ := h.bi q.1.1
      exact di_r1 g m (k.E h q.2 G) q.1.2
    · cases q
  | r2 a b =>
    simp only [chkI] at q
    split at q
    · simp only [Bool.and_eq_true, Bool.not_eq_true'] at q
      obtain ⟨⟨⟨⟨q1, q2⟩, q3⟩, q4⟩, q5⟩ := q
      obtain ⟨rfl, g, m⟩ := h.bi q1
      exact di_r2 g m (k.E h q4 G) (k.E h q5 G) q2 q3
    · cases q
  | rd a b => simp only [chkI] at q; cases q
  | en a =>
    simp only [chkI] at q
    split at q
    · simp only [Bool.and_eq_true, Bool.not_eq_true'] at q
      obtain ⟨⟨⟨q0, q1⟩, q2⟩, q3⟩ := q
      obtain ⟨rfl, g, m⟩ := h.bi q1
      obtain ⟨es, j, p, rfl⟩ := isTup_of q0
      exact di_en h.z.hK g m (k.E h q3 G) q2
    · cases q
  | zip a b =>
    simp only [chkI] at q
    split at q
    · simp only [Bool.and_eq_true, Bool.not_eq_true'] at q
      obtain ⟨⟨⟨⟨⟨q0, q1⟩, q2⟩, q3⟩, q4⟩, q5⟩ := q
      obtain ⟨rfl, g, m⟩ := h.bi q1
      obtain ⟨es, j, p, rfl⟩ := isTup_of q0
      exact di_zip h.z.hK g m (k.E h q4 G) (k.E h q5 G) q2 q3
    · cases q
theorem own_slots {st : Sta} {g : Tg} : (ownOf st g).map (·.2) = g.slots := by
  unfold ownOf
  rw [List.map_map]
  exact List.map_id _
theorem okL (k : OkN Z t n) {st : Sta} {W : WX} {X : Cx} {e : Expr} {w : CW} (h : CxZ Z t st W X) (q : chkL t (n + 1) st e w = true) (G : Fm) : PE X e (tDL Z G W w) := by
  cases w with
  | lst cs =>
    simp only [chkL] at q
    split at q
    · exact dw_lst ((k.A h q G).pa h.z.hK)
    · cases q
  | of a =>
    simp only [chkL] at q
    split at q
    · simp only [Bool.and_eq_true, Bool.not_eq_true'] at q
      obtain ⟨rfl, g, m⟩ := h.bi q.1.1
      exact dw_of h.z.hK g m (k.E h q.2 G) q.1.2
    · cases q
  | add a b =>
    simp only [chkL] at q
    split at q
    · rw [Bool.and_eq_true] at q
      exact dw_add (k.E h q.1 G) (k.E h q.2 G)
    · cases q
  | lr a =>
    simp only [chkL] at q
    split at q
    · simp only [Bool.and_eq_true, Bool.not_eq_true'] at q
      obtain ⟨⟨⟨q1, q2⟩, q3⟩, q4⟩ := q
      obtain ⟨rfl, g, m⟩ := h.bi q1
      obtain ⟨rfl, g2, m2⟩ := h.bi q2
      exact dw_lr h.calm g m g2 m2 (k.E h q4 G) q3
    · cases q
  | lc elt tg it cs =>
    simp only [chkL] at q
    split at q
    · simp only [Bool.and_eq_true, decide_eq_true_eq] at q
      obtain ⟨⟨⟨⟨⟨⟨rfl, q1⟩, q2⟩, q3⟩, q4⟩, q5⟩, q6⟩ := q
      exact dw_lc h.calm h.nd (k.I h q2 G) (blkOk_by (by rw [h.hN, h.hsc]; exact q3)) own_slots (fun s H C cl fp => chkTg_ok (h.blk s H _ cl C fp) q4) (fun G s H C cl fp => k.C (h.blk s H _ cl C fp) q5 G) (fun G s H C cl fp => k.E (h.blk s H _ cl C fp) q6 G) (notSet_of q1)
    · cases q
theorem ok_all : ∀ n, OkN Z t n
  | 0 => ok_zero
  | n + 1 => by
    have k := ok_all n
    exact ⟨okE k, okB k, okO k, okT k, okW k, okA k, okK k, okC k, okI k, okL k⟩
end
end Rz
end

section
set_option autoImplicit false
set_option Elab.async false
set_option linter.all false
set_option maxHeartbeats 4000000
set_option maxRecDepth 100000
namespace Rz
open PySem PySem.Spec PySem.W PyProof.Rows L2

def notComp : Expr → Bool
  | .ListComp _ _ _ _ => false
  | .SetComp _ _ _ _ => false
  | .DictComp _ _ _ _ _ => false
  | _ => true
theorem notComp_of {e : Expr} {tg : Option Expr} {l : Nat} {env : Env} (h : notComp e = true) : swapsWith e tg l env = pure false := by
  cases e <;> first | rfl | cases h
/-- an environment of the scope alone -/
def dEnv (sc : Scope) : Env := { scope := sc, locals := 0, globals := 0, cells := [] }
def swOf (st : Sta) (ts : List Expr) (e : Expr) : Option (Option (List Str)) := pureOf (swappedStores ts e (dEnv st.sc))
def swW (st : Sta) (e : Expr) (tg : Expr) : Option Bool := pureOf (swapsWith e (some tg) 0 (dEnv st.sc))
theorem swOf_eq {ts : List Expr} {e : Expr} {env : Env} : swappedStores ts e env = swappedStores ts e (dEnv env.scope) := rfl
theorem swOf_of {st : Sta} {ts : List Expr} {e : Expr} {env : Env} {o : Option (List Str)} (hsc : env.scope = st.sc) (h : swOf st ts e = some o) : swappedStores ts e env = pure o := by
  rw [swOf_eq, hsc]; exact of_pureOf h
theorem swW_eq {e tg : Expr} {l : Nat} {env : Env} : swapsWith e (some tg) l env = swapsWith e (some tg) 0 (dEnv env.scope) := by
  cases e <;> first | rfl | (cases tg <;> rfl)
theorem swW_of {st : Sta} {e tg : Expr} {l : Nat} {env : Env} {b : Bool} (hsc : env.scope = st.sc) (h : swW st e tg = some b) : swapsWith e (some tg) l env = pure b := by
  rw [swW_eq, hsc]; exact of_pureOf h
theorem swS_of {st : Sta} {e tg : Expr} {l : Nat} {env : Env} {b : Bool} (hsc : env.scope = st.sc) (h : swW st e tg = some b) : swapsWithSole [tg] e l env = pure b := swW_of (l := l) hsc h
theorem notCompS {e tg : Expr} {l : Nat} {env : Env} (h : notComp e = true) : swapsWithSole [tg] e l env = pure false := notComp_of (tg := some tg) (l := l) h

section
variable (t : Tab)
def chkV (n : Nat) (st : Sta) (e : Expr) (v : CV) : Bool :=
  match v with
  | .f c => chkE t n st e c
  | .w w => chkL t n st e w
/-- x = a comprehension that is stored at once -/
def chkLc (n : Nat) (st : Sta) (i : Nat) (tg e : Expr) (w : CW) : Bool :=
  match tg with
  | .Name x _ => match e with
    | .ListComp el [⟨te, iter, ifs, as⟩] scope _ => match w with
      | .lc elt g it cs => decide (st.N[i]? = some x) && decide (st.sc.names.lookup x = some .local) && decide (swW st e tg = some true) && decide (as = 0) && notSet iter && chkI t n st te iter it && blkC st.N st.sc scope (ownOf st g) && chkTg (st.blk scope) te g && chkC t n (st.blk scope) ifs cs && chkE t n (st.blk scope) el elt
      | _ => false
    | _ => false
  | _ => false
mutual
def chkS : Nat → Sta → Stmt → CS → Bool
  | 0, _, _, _ => false
  | n + 1, st, s, c => match c with
    | .never => true
    | .pass => match s with
      | .Pass _ => true
      | _ => false
    | .brk => match s with
      | .Break _ => true
      | _ => false
    | .cont => match s with
      | .Continue _ => true
      | _ => false
    | .retN => match s with
      | .Return none _ => true
      | _ => false
    | .ret c => match s with
      | .Return (some e) _ => chkE t n st e c
      | _ => false
    | .expr _ c => match s with
      | .Expr e _ => notComp e && chkE t n st e c
      | _ => false
    | .set i th c => match s with
      | .Assign [tg] e _ => (match tg with
        | .Name x _ => decide (st.N[i]? = some x) && isLoc st x && decide (swW st e tg = some false) && decide (swOf st [tg] e = some none) && chkE t n st e c
        | _ => false) || (!th && (match c with
        | .nl w => chkLc t n st i tg e w
        | _ => false))
      | _ => false
    | .own i w => match s with
      | .Assign [tg] e _ => (match tg with
        | .Name x _ => decide (st.N[i]? = some x) && isLoc st x && decide (swW st e tg = some false) && decide (swOf st [tg] e = some none) && chkL t n st e w
        | _ => false) || chkLc t n st i tg e w
      | _ => false
    | .par2 i j va vb => match s with
      | .Assign [.Tuple [.Name x px, .Name y py] kt pt] (.Tuple [a, b] k2 pt2) _ => (decide (st.N[i]? = some x) && isLoc st x) && (decide (st.N[j]? = some y) && isLoc st y) && chkV t n st a va && chkV t n st b vb && !isStar a && !isStar b && !(i == j) &&
          ((decide (swOf st [.Tuple [.Name x px, .Name y py] kt pt] (.Tuple [a, b] k2 pt2) = some (some [x, y])) && decide (st.sc.names.lookup x = some .local) && decide (st.sc.names.lookup y = some .local)) || decide (swOf st [.Tuple [.Name x px, .Name y py] kt pt] (.Tuple [a, b] k2 pt2) = some none))
      | _ => false
    | .unpack is c => match s with
      | .Assign [.Tuple es k p] e _ => chkNms st es is && notComp e && decide (swOf st [.Tuple es k p] e = some none) && chkE t n st e c
      | _ => false
    | .aug i o _ c => match s with
      | .AugAssign (.Name x _) p e _ => decide (p = o) && (decide (st.N[i]? = some x) && isLoc st x) && chkE t n st e c
      | _ => false
    | .ite c a b => match s with
      | .If e p q _ => chkT t n st e c && chkSs n st p a && chkSs n st q b
      | _ => false
    | .while c b => match s with
      | .While e p [] _ => chkT t n st e c && chkSs n st p b
      | _ => false
    | .for g it b => match s with
      | .For te iter p [] _ => notSet iter && chkI t n st te iter it && chkTg st te g && chkSs n st p b
      | _ => false
    | .raise _ _ => false
    | .append i _ c => match s with
      | .Expr (.Call (.Attribute (.Name x _) m ap) [e] [] cp) _ => decide (m = "append") && (ap.endLine == cp.line) && decide (st.N[i]? = some x) && isVis st x && okNm x && !isStar e && chkE t n st e c
      | _ => false
    | .pop i => match s with
      | .Expr (.Call (.Attribute (.Name x _) m ap) [] [] cp) _ => decide (m = "pop") && (ap.endLine == cp.line) && decide (st.N[i]? = some x) && isVis st x && okNm x
      | _ => false
    | .setFld m c => match s with
      | .Assign [.Attribute (.Name x _) f _] e _ => decide (nmOf t.us m = f) && decide (st.N[0]? = some x) && isVis st x && okNm x && notComp e && chkE t n st e c
      | _ => false
    | .copy j i => match s with
      | .Assign [.Name y py] (.Call (.Name l p) [.Name x px] [] p2) _ => (decide (st.N[j]? = some y) && isLoc st y) && decide (st.N[i]? = some x) && isVis st x && okNm x && isBi t st l "list" && decide (swOf st [.Name y py] (.Call (.Name l p) [.Name x px] [] p2) = some none)
      | _ => false
    | .par3 i j l ca cb cc => match s with
      | .Assign [.Tuple [.Name x px, .Name y py, .Name w pz] kt pt] (.Tuple [a, b, c] k2 pt2) _ => (decide (st.N[i]? = some x) && isLoc st x) && (decide (st.N[j]? = some y) && isLoc st y) && (decide (st.N[l]? = some w) && isLoc st w) && chkE t n st a ca && chkE t n st b cb && chkE t n st c cc && (!isStar a && !isStar b && !isStar c && !(i == j) && !(i == l) && !(j == l)) &&
          ((decide (swOf st [.Tuple [.Name x px, .Name y py, .Name w pz] kt pt] (.Tuple [a, b, c] k2 pt2) = some (some [x, y, w])) && decide (st.sc.names.lookup x = some .local) && decide (st.sc.names.lookup y = some .local) && decide (st.sc.names.lookup w = some .local)) || decide (swOf st [.Tuple [.Name x px, .Name y py, .Name w pz] kt pt] (.Tuple [a, b, c] k2 pt2) = some none))
      | _ => false
    | .pset i k c => match s with
      | .Assign [.Subscript (.Name x px) (.Constant cn kn p) p2] e _ => keyC cn k && decide (st.N[i]? = some x) && isVis st x && okNm x && notComp e && decide (swOf st [.Subscript (.Name x px) (.Constant cn kn p) p2] e = some none) && chkE t n st e c
      | _ => false
def chkSs : Nat → Sta → List Stmt → CSs → Bool
  | 0, _, _, _ => false
  | n + 1, st, ss, c => match c with
    | .nil => ss.isEmpty
    | .cons c r => match ss with
      | s :: ss => chkS n st s c && chkSs n st ss r
      | _ => false
end
end

structure CxS {S : Type} [Pen S] (Z : Cz S) (t : Tab) (st : Sta) (W : WX) (X : Cx) : Prop extends CxZ Z t st W X where
  po : PassesOwn (model X.prog X.w) X.A X.env X.xe
  ni : ∀ c o f, Z.P.meth c (dun o) = some f → noI Z.T.K (Z.T.cA c) o.info.2 = true

section
variable {S : Type} [Pen S] {Z : Cz S} {t : Tab} {n : Nat} {st : Sta} {W : WX} {X : Cx}
theorem chkV_ok {e : Expr} {v : CV} (h : CxZ Z t st W X) (q : chkV t n st e v = true) (G : Fm) : CVok Z W X e v G := by
  cases v with
  | f c => exact (ok_all n).E h q G
  | w w => exact (ok_all n).L h q G
theorem chkLc_ok {i : Nat} {tg e : Expr} {w : CW} {p : Pos} (h : CxZ Z t st W X) (q : chkLc t n st i tg e w = true) (G : Fm) : PS X (.Assign [tg] e p) (tDS Z G W (.own i w)) ∧ PS X (.Assign [tg] e p) (tDS Z G W (.set i false (.nl w))) := by
  have k := ok_all (Z := Z) (t := t) n
  unfold chkLc at q
  split at q
  · split at q
    · split at q
      · simp only [Bool.and_eq_true, decide_eq_true_eq] at q
        obtain ⟨⟨⟨⟨⟨⟨⟨⟨⟨q0, q1⟩, q2⟩, rfl⟩, q4⟩, q5⟩, q6⟩, q7⟩, q8⟩, q9⟩ := q
        exact ds_lc (th := false) h.calm h.nd (by rw [h.hN]; exact q0) (by rw [h.hsc]; exact q1) (swW_of h.hsc q2) (k.I h q5 G) (blkOk_by (by rw [h.hN, h.hsc]; exact q6)) own_slots (fun s H C cl fp => chkTg_ok (h.blk s H _ cl C fp) q7) (fun G s H C cl fp => k.C (h.blk s H _ cl C fp) q8 G) (fun G s H C cl fp => k.E (h.blk s H _ cl C fp) q9 G) (notSet_of q4)
      · cases q
    · cases q
  · cases q

structure OkS (Z : Cz S) (t : Tab) (n : Nat) : Prop where
  S : ∀ {st W X s c}, CxS Z t st W X → chkS t n st s c = true → ∀ G, PS X s (tDS Z G W c)
  Ss : ∀ {st W X ss cs}, CxS Z t st W X → chkSs t n st ss cs = true → ∀ G, PSs X ss (tDSs Z G W cs)
theorem okS (k : OkS Z t n) {s : Stmt} {c : CS} (h : CxS Z t st W X) (q : chkS t (n + 1) st s c = true) (G : Fm) : PS X s (tDS Z G W c) := by
  have kE := ok_all (Z := Z) (t := t) n
  have hz := h.toCxZ
  cases c with
  | never => exact ds_never
  | pass =>
    simp only [chkS] at q
    split at q
    · exact ds_pass
    · cases q
  | brk =>
    simp only [chkS] at q
    split at q
    · exact ds_brk
    · cases q
  | cont =>
    simp only [chkS] at q
    split at q
    · exact ds_cont
    · cases q
  | retN =>
    simp only [chkS] at q
    split at q
    · exact ds_retN
    · cases q
  | ret c =>
    simp only [chkS] at q
    split at q
    · exact ds_ret (kE.E hz q G)
    · cases q
  | expr th c =>
    simp only [chkS] at q
    split at q
    · rw [Bool.and_eq_true] at q
      exact ds_expr (kE.E hz q.2 G) (notComp_of q.1)
    · cases q
  | set i th c =>
    simp only [chkS] at q
    split at q
    · rw [Bool.or_eq_true] at q
      rcases q with q | q
      · split at q
        · simp only [Bool.and_eq_true, decide_eq_true_eq] at q
          obtain ⟨⟨⟨⟨q1, q2⟩, q3⟩, q4⟩, q5⟩ := q
          exact ds_set hz.nd (hz.nm (by simp [q1, q2])) (kE.E hz q5 G) (swS_of hz.hsc q3) (swOf_of hz.hsc q4)
        · cases q
      · rw [Bool.and_eq_true] at q
        obtain ⟨q1, q2⟩ := q
        split at q2
        · cases th with
          | true => cases q1
          | false => exact (chkLc_ok hz q2 G).2
        · cases q2
    · cases q
  | own i w =>
    simp only [chkS] at q
    split at q
    · rw [Bool.or_eq_true] at q
      rcases q with q | q
      · split at q
        · simp only [Bool.and_eq_true, decide_eq_true_eq] at q
          obtain ⟨⟨⟨⟨q1, q2⟩, q3⟩, q4⟩, q5⟩ := q
          exact ds_own hz.nd (hz.nm (by simp [q1, q2])) (kE.L hz q5 G) (swS_of hz.hsc q3) (swOf_of hz.hsc q4)
        · cases q
      · exact (chkLc_ok hz q G).1
    · cases q
  | par2 i j va vb =>
    simp only [chkS] at q
    split at q
    · rw [Bool.and_eq_true, Bool.and_eq_true, Bool.and_eq_true, Bool.and_eq_true, Bool.and_eq_true, Bool.and_eq_true, Bool.and_eq_true, Bool.not_eq_true', Bool.not_eq_true', Bool.not_eq_true', Bool.or_eq_true] at q
      obtain ⟨⟨⟨⟨⟨⟨⟨q1, q2⟩, q3⟩, q4⟩, q5⟩, q6⟩, q7⟩, q8⟩ := q
      refine ds_par2 hz.z.hK hz.calm hz.nd (hz.nm q1) (hz.nm q2) (fun G => chkV_ok hz q3 G) (fun G => chkV_ok hz q4 G) q5 q6 ?_ (by simpa using q7)
      rcases q8 with q8 | q8
      · simp only [Bool.and_eq_true, decide_eq_true_eq] at q8
        exact .inl ⟨swOf_of hz.hsc q8.1.1, by rw [hz.hsc]; exact q8.1.2, by rw [hz.hsc]; exact q8.2⟩
      · exact .inr (swOf_of hz.hsc (of_decide_eq_true q8))
    · cases q
  | unpack is c =>
    simp only [chkS] at q
    split at q
    · simp only [Bool.and_eq_true, decide_eq_true_eq] at q
      obtain ⟨⟨⟨q1, q2⟩, q3⟩, q4⟩ := q
      exact ds_unpack hz.z.hK hz.calm hz.nd (chkNms_ok hz q1) (kE.E hz q4 G) (notCompS q2) (swOf_of hz.hsc q3)
    · cases q
  | aug i o th c =>
    simp only [chkS] at q
    split at q
    · rw [Bool.and_eq_true, Bool.and_eq_true, decide_eq_true_eq] at q
      obtain ⟨⟨rfl, q2⟩, q3⟩ := q
      exact ds_aug hz.z (fun c f => h.ni c _ f) hz.tk hz.nd (hz.nm q2) (kE.E hz q3 G)
    · cases q
  | ite c a b =>
    simp only [chkS] at q
    split at q
    · simp only [Bool.and_eq_true] at q
      exact ds_if (kE.T hz q.1.1 G) (k.Ss h q.1.2 G) (k.Ss h q.2 G)
    · cases q
  | «while» c b =>
    simp only [chkS] at q
    split at q
    · simp only [Bool.and_eq_true] at q
      exact ds_while h.po (kE.T hz q.1 G) (k.Ss h q.2 G)
    · cases q
  | «for» g it b =>
    simp only [chkS] at q
    split at q
    · simp only [Bool.and_eq_true] at q
      obtain ⟨⟨⟨q1, q2⟩, q3⟩, q4⟩ := q
      exact ds_for h.po hz.calm (kE.I hz q2 G) (chkTg_ok hz q3) (k.Ss h q4 G) (notSet_of q1)
    · cases q
  | raise c cs => simp only [chkS] at q; cases q
  | append i th c =>
    simp only [chkS] at q
    split at q
    · simp only [Bool.and_eq_true, decide_eq_true_eq, Bool.not_eq_true'] at q
      obtain ⟨⟨⟨⟨⟨⟨rfl, q2⟩, q3⟩, q4⟩, q5⟩, q6⟩, q7⟩ := q
      exact ds_append (pe_var (by rw [hz.hN]; exact q3) (hz.vis q4) (okNm_of q5).1 (okNm_of q5).2) (kE.E hz q7 G) q6 q2
    · cases q
  | pop i =>
    simp only [chkS] at q
    split at q
    · simp only [Bool.and_eq_true, decide_eq_true_eq] at q
      obtain ⟨⟨⟨⟨rfl, q2⟩, q3⟩, q4⟩, q5⟩ := q
      exact ds_pop (pe_var (by rw [hz.hN]; exact q3) (hz.vis q4) (okNm_of q5).1 (okNm_of q5).2) q2
    · cases q
  | setFld m c =>
    simp only [chkS] at q
    split at q
    · simp only [Bool.and_eq_true, decide_eq_true_eq] at q
      obtain ⟨⟨⟨⟨⟨q1, q2⟩, q3⟩, q4⟩, q5⟩, q6⟩ := q
      exact ds_fld hz.z q1 (pe_var (by rw [hz.hN]; exact q2) (hz.vis q3) (okNm_of q4).1 (okNm_of q4).2) (kE.E hz q6 G) (notComp_of q5)
    · cases q
  | copy j i =>
    simp only [chkS] at q
    split at q
    · rw [Bool.and_eq_true, Bool.and_eq_true, Bool.and_eq_true, Bool.and_eq_true, Bool.and_eq_true, decide_eq_true_eq, decide_eq_true_eq] at q
      obtain ⟨⟨⟨⟨⟨q1, q2⟩, q3⟩, q4⟩, q5⟩, q6⟩ := q
      obtain ⟨rfl, g, m⟩ := hz.bi q5
      exact ds_copy hz.nd (hz.nm q1) (pe_var (by rw [hz.hN]; exact q2) (hz.vis q3) (okNm_of q4).1 (okNm_of q4).2) g m rfl (swOf_of hz.hsc q6)
    · cases q
  | par3 i j l ca cb cc =>
    simp only [chkS] at q
    split at q
    · rw [Bool.and_eq_true, Bool.and_eq_true, Bool.and_eq_true, Bool.and_eq_true, Bool.and_eq_true, Bool.and_eq_true, Bool.and_eq_true, Bool.or_eq_true] at q
      obtain ⟨⟨⟨⟨⟨⟨⟨q1, q2⟩, q3⟩, q4⟩, q5⟩, q6⟩, q7⟩, q8⟩ := q
      simp only [Bool.and_eq_true, Bool.not_eq_true', beq_eq_false_iff_ne] at q7
      obtain ⟨⟨⟨⟨⟨s1, s2⟩, s3⟩, s4⟩, s5⟩, s6⟩ := q7
      refine ds_par3 hz.z.hK hz.calm hz.nd (hz.nm q1) (hz.nm q2) (hz.nm q3) (kE.E hz q4 G) (kE.E hz q5 G) (kE.E hz q6 G) s1 s2 s3 s4 s5 s6 ?_
      rcases q8 with q8 | q8
      · simp only [Bool.and_eq_true, decide_eq_true_eq] at q8
        exact .inl ⟨swOf_of hz.hsc q8.1.1.1, by rw [hz.hsc]; exact q8.1.1.2, by rw [hz.hsc]; exact q8.1.2, by rw [hz.hsc]; exact q8.2⟩
      · exact .inr (swOf_of hz.hsc (of_decide_eq_true q8))
    · cases q
  | pset i d c =>
    simp only [chkS] at q
    split at q
    · simp only [Bool.and_eq_true, decide_eq_true_eq] at q
      obtain ⟨⟨⟨⟨⟨⟨q1, q2⟩, q3⟩, q4⟩, q5⟩, q6⟩, q7⟩ := q
      exact hz.pno.put (Nat.lt_of_le_of_lt (Nat.add_le_add_left (by decide) _) hz.z.hu) q1 (pe_var (by rw [hz.hN]; exact q2) (hz.vis q3) (okNm_of q4).1 (okNm_of q4).2) (kE.E hz q7 G) (notCompS q5) (swOf_of hz.hsc q6)
    · cases q
theorem okSs (k : OkS Z t n) {ss : List Stmt} {cs : CSs} (h : CxS Z t st W X) (q : chkSs t (n + 1) st ss cs = true) (G : Fm) : PSs X ss (tDSs Z G W cs) := by
  cases cs with
  | nil =>
    simp only [chkSs] at q
    cases ss with
    | nil => exact dss_nil
    | cons a r => cases q
  | cons c r =>
    simp only [chkSs] at q
    split at q
    · rw [Bool.and_eq_true] at q
      exact dss_cons (k.S h q.1 G) (k.Ss h q.2 G)
    · cases q
theorem okS_all : ∀ n, OkS Z t n
  | 0 => ⟨fun _ h => (by cases h), fun _ h => (by cases h)⟩
  | n + 1 => by
    have k := okS_all n
    exact ⟨okS k, okSs k⟩
end
end Rz
end

section
set_option autoImplicit false
set_option Elab.async false
set_option linter.all false
set_option maxHeartbeats 1000000
set_option maxRecDepth 100000
namespace Rz
open PySem PySem.Spec PySem.W PyProof.Rows L2

/-- .. and what is left over in a tuple -/
theorem bind_star {fd : FuncData} {a : Arg} {us rest : List Value} (h1 : fd.params.posonlyargs = []) (h2 : fd.params.kwonlyargs = []) (h3 : fd.params.vararg = some a) (h4 : fd.params.kwarg = none) (h5 : fd.defaults = .none) (nd : (fd.params.args.map (·.arg)).Nodup) (hl : us.length = (fd.params.args.map (·.arg)).length) :
    bindArgs fd ⟨us ++ rest, []⟩ = (newTuple rest >>= fun t => pure ((fd.params.args.map (·.arg)).zip us ++ [(a.arg, t)])) := by
  have hs : seqItems? Value.none = pure none := rfl
  unfold bindArgs
  simp only [h1, h2, h3, h4, h5, hs, List.map_nil, List.nil_append, List.append_nil, List.forIn_nil, pure_bind, Option.getD_none]
  generalize fd.params.args.map (·.arg) = ps at *
  have hz : ps.zip (us ++ rest) = ps.zip us := by
    have e : (ps ++ []).zip (us ++ rest) = ps.zip us ++ ([] : List Str).zip rest := List.zip_append hl.symm
    rw [List.append_nil] at e
    rw [e]; simp
  rw [if_neg (by simp)]
  simp only [hz, List.drop_nil, List.length_nil, Nat.sub_zero, missing_none hl, List.isEmpty_nil, Bool.not_true, Bool.false_eq_true, if_false, List.zip_nil_right, List.forIn_nil, pure_bind, filterMap_zip nd hl]
  rw [show (us ++ rest).drop ps.length = rest from by rw [← hl]; simp]
/-- the Bool of both -/
def bndC (fd : FuncData) (b : Fn) : Bool :=
  fd.params.posonlyargs.isEmpty && fd.params.kwonlyargs.isEmpty && fd.params.kwarg.isNone && decide (fd.defaults = .none) && b.dfl.isEmpty && decide ((fd.params.args.map (·.arg)).Nodup) && decide ((fd.params.args.map (·.arg)).length = b.np) && (fd.params.vararg.isSome == b.star)
def psOf (fd : FuncData) : List Str := fd.params.args.map (·.arg) ++ (match fd.params.vararg with | some a => [a.arg] | none => [])
theorem bndC_ok {K : PySem.W.Frag} {T : Tb} {fd : FuncData} {b : Fn} (h : bndC fd b = true) : BindZ K T fd (psOf fd) b := by
  simp only [bndC, Bool.and_eq_true, decide_eq_true_eq, List.isEmpty_iff, Option.isNone_iff_eq_none] at h
  obtain ⟨⟨⟨⟨⟨⟨⟨h1, h2⟩, h4⟩, h5⟩, h6⟩, nd⟩, hn⟩, hv⟩ := h
  unfold BindZ
  cases hs : b.star with
  | false =>
    rw [hs] at hv
    have h3 : fd.params.vararg = none := by
      cases e : fd.params.vararg with
      | none => rfl
      | some a => rw [e] at hv; simp at hv
    have eps : psOf fd = fd.params.args.map (·.arg) := by unfold psOf; rw [h3]; simp
    rw [eps]
    refine ⟨hn, fun j _ => ⟨[], [], .nil, fun F => by rw [h6, List.drop_nil]; rfl, Binds.all fun us hl => bind_plain h1 h2 h3 h4 h5 nd hl⟩⟩
  | true =>
    rw [hs] at hv
    obtain ⟨a, h3⟩ : ∃ a, fd.params.vararg = some a := by
      cases e : fd.params.vararg with
      | none => rw [e] at hv; simp at hv
      | some a => exact ⟨a, rfl⟩
    refine ⟨fd.params.args.map (·.arg), a.arg, by unfold psOf; rw [h3], hn, fun us rest hl => bind_star h1 h2 h3 h4 h5 nd hl⟩
end Rz
end

section
set_option autoImplicit false
set_option Elab.async false
set_option linter.all false
set_option maxHeartbeats 1000000
set_option maxRecDepth 100000
namespace Rz
open PySem PySem.Spec PySem.W PyProof.Rows L2

/-- a program's tables -/
structure PD (S : Type) where
  cA : List Addr
  fld : List (List Str)
  fA : List Addr
  Ns : List (List Str)
  tab : Tab
  fns : List (FnD S)
  meths : List ((Nat × Nat) × Nat)
  attrs : List ((Nat × Nat) × At)
  inits : List (Nat × Nat)
  gls : List D
  ncl : Nat
  subs : List (Nat × Nat)
  kwns : List (List Str)
  smeths : List ((Nat × Nat) × Nat)

section
variable {S : Type} [Pen S]
def PD.pt (d : PD S) : Pt := ⟨fun c m => d.meths.lookup (c, m), fun c m => (d.attrs.lookup (c, m)).getD .none, fun c m => (d.smeths.lookup (c, m)).map fun f => (false, f), fun c e => d.subs.contains (c, e), d.ncl, fun j => d.gls.getD j .non, fun c => d.inits.lookup c, fun _ => none, fun f => d.kwns.getD f []⟩
def PD.prg (d : PD S) : Prg S := { toPt := d.pt, fn := fun f => d.fns.getD f .none }
def PD.C (d : PD S) (c : Nat) : Addr := d.cA.getD c 0
def PD.F (d : PD S) (f : Nat) : Addr := d.fA.getD f 0
def PD.L (d : PD S) (c : Nat) : List Str := d.fld.getD c []
def PD.tb (d : PD S) (K : Frag) (pen : Addr) : Tb := ⟨K, d.C, d.L, d.F, pen⟩

/-! ### the checks -/
variable (K : Frag) (d : PD S)
def clsC (c : Nat) : Bool := plainGet K (d.C c) Str.empty && hasDictIn K (d.C c) && plainOver K (d.C c) && (findIn K (.ref (d.C c)) "__setattr__" == some (some (.builtin "object.__setattr__"))) && decide (d.L c).Nodup && decide ((d.L c).length < 900)
def methC (c : Nat) (m : Str) (f : Nat) : Bool := clsC K d c && (findIn K (.ref (d.C c)) m == some (some (.ref (d.F f)))) && isFn K (.ref (d.F f)) && keepIn K (.ref (d.F f)) && !(d.L c).contains m
def isRef : Option Value → Bool
  | none => true
  | some (.ref _) => true
  | _ => false
def isRefS : Option (Option Value) → Bool
  | some (some (.ref _)) => true
  | _ => false
def rcOk : Option (Option Value) → Bool
  | some o => isRef o
  | none => false
def opLC (c : Nat) (o : Operator) (f : Nat) : Bool :=
  clsC K d c && selfFirst K (d.C c) && (findIn K (.ref (d.C c)) (PySem.dunder o.info.2) == some (some (.ref (d.F f)))) && isFn K (.ref (d.F f)) && rcOk (findIn K (.ref (d.C c)) (dunderR o.info.2)) &&
    tyNs.all (fun n => (findIn K (.type n) (PySem.dunder o.info.2)).isSome && (findIn K (.type n) (dunderR o.info.2)).isSome && (subIn K (.type n) (.ref (d.C c)) == some false)) && noI K (d.C c) o.info.2
def noNum (fo ro : Option (Option Value)) : Bool :=
  match fo, ro with
  | some fo, some ro => !((fo.isSome && !isSeqSlot fo) || (ro.isSome && !isSeqSlot ro))
  | _, _ => false
def opRC (c : Nat) (o : Operator) (f : Nat) : Bool :=
  clsC K d c && selfFirst K (d.C c) && isRefS (findIn K (.ref (d.C c)) (PySem.dunder o.info.2)) && (findIn K (.ref (d.C c)) (dunderR o.info.2) == some (some (.ref (d.F f)))) && isFn K (.ref (d.F f)) &&
    tyNs.all (fun n => (findIn K (.type n) (PySem.dunder o.info.2)).isSome && (findIn K (.type n) (dunderR o.info.2)).isSome && (subIn K (.ref (d.C c)) (.type n) == some false) && (!tyNo.contains n || noNum (findIn K (.type n) (PySem.dunder o.info.2)) (findIn K (.type n) (dunderR o.info.2))))
def cmpC (c : Nat) : Bool := tyNs.all (fun n => subIn K (.type n) (.ref (d.C c)) == some false) && (findIn K (.ref (d.C c)) "__ne__" == some (some (.builtin "object.__ne__"))) && (subIn K (.ref (d.C c)) (.type "object") == some true)
def ownC (c : Nat) : Bool := clsC K d c && (findIn K (.ref (d.C c)) "__class__" == some (some (.builtin "object.__class__"))) && (specialIn K (.builtin "object.__class__") "__get__" == some (some (.builtin "getset_descriptor.__get__"))) && (takesIn K (.builtin "object.__class__") == some true) &&
  (mroIn K (d.C c) (.type "object") == some true) && tyNs.all (fun m => kitOne K (.type m) (.ref (d.C c)) == some false) && tyIs.all (fun n => kitOne K (.ref (d.C c)) (.type n) == some false)
def allOps : List Operator := [.Add, .Sub, .Mult, .MatMult, .Div, .Mod, .Pow, .LShift, .RShift, .BitOr, .BitXor, .BitAnd, .FloorDiv]
theorem allOps_mem (o : Operator) : o ∈ allOps := by cases o <;> simp [allOps]
def entryC (e : (Nat × Nat) × Nat) : Bool := methC K d e.1.1 (nmOf d.tab.us e.1.2) e.2 && cmpC K d e.1.1 && allOps.all (fun o => (!(dun o == e.1.2) || opLC K d e.1.1 o e.2) && (!(dun o + 1 == e.1.2) || opRC K d e.1.1 o e.2)) && (!(mCall == e.1.2) || fnIn K (d.F e.2))
def propC (c : Nat) (m : Str) (f : Nat) : Bool := clsC K d c && (match findIn K (.ref (d.C c)) m with
  | some (some (.ref p)) => (specialIn K (.ref p) "__get__" == some (some (.builtin "property.__get__"))) && (takesIn K (.ref p) == some true) && (match recIn K p "property" with
    | some (.ref g :: _) => g == d.F f
    | _ => false)
  | _ => false)
def attrC (e : (Nat × Nat) × At) : Bool :=
  match e.2 with
  | .fld k => clsC K d e.1.1 && (findIn K (.ref (d.C e.1.1)) (nmOf d.tab.us e.1.2) == some none) && decide ((d.L e.1.1)[k]? = some (nmOf d.tab.us e.1.2))
  | .prop f => propC K d e.1.1 (nmOf d.tab.us e.1.2) f
  | .none => true
def scC (N ps : List Str) (sc : Scope) : Bool :=
  decide (sc.kind = .function) && !sc.isCoroutine && !sc.isGenerator && decide N.Nodup && decide (N.take ps.length = ps) && ps.all (fun x => decide (sc.names.lookup x = some .local) || decide (sc.names.lookup x = some .cell)) && sc.names.all (fun y => !decide (y.2 = .free))
def fuel : Nat := 300
def fnC (f : Nat) (b : Fn) : Bool :=
  match K.lookup (d.F f) with
  | some ⟨_, _, .func fd, _⟩ => match fd.body with
    | .stmts body => decide (fd.globals = mainGlobals) && fd.closure.isEmpty && decide (fd.builtins = builtinsNs) && codeIn K fd.code fd.qualname && scC (d.Ns.getD f []) (psOf fd) fd.scope && bndC fd b && decide ((d.Ns.getD f []).length = b.ns) && decide ((psOf fd).length ≤ (d.Ns.getD f []).length) &&
        chkSs d.tab fuel ⟨d.Ns.getD f [], fd.scope, fun _ => true⟩ body b.body
    | _ => false
  | _ => false
def fnsC : Nat → List (FnD S) → Bool
  | _, [] => true
  | f, .code b :: r => fnC K d f b && fnsC (f + 1) r
  | f, _ :: r => fnsC (f + 1) r
def initC (e : Nat × Nat) : Bool := makesIn K (d.C e.1) && (findIn K (.ref (d.C e.1)) "__init__" == some (some (.ref (d.F e.2)))) && isFn K (.ref (d.F e.2)) && keepIn K (.ref (d.C e.1)) && (match d.fns.getD e.2 .none with
  | .code b => decide (0 < b.np)
  | _ => false)
def glC (u : Option (Option Value)) (x : D) : Bool :=
  match u with
  | some (some (.int i _)) => match x with
    | .int j => i == j
    | _ => false
  | some (some (.str i _)) => match x with
    | .str j => decide (i = j)
    | _ => false
  | _ => false
def tabC : Bool := d.tab.fns.all (fun e => (nsIn K mainGlobals e.1 == some (some (.ref (d.F e.2)))) && keepIn K (.ref (d.F e.2))) && d.tab.cls.all (fun e => (nsIn K mainGlobals e.1 == some (some (.ref (d.C e.2)))) && keepIn K (.ref (d.C e.2))) &&
  d.tab.gls.all (fun e => glC (nsIn K mainGlobals e.1) (d.gls.getD e.2 .non)) && d.tab.bis.all (fun x => nsIn K mainGlobals x == some none)
def plainC (fd : FuncData) (ps : List Str) : Bool := fd.params.posonlyargs.isEmpty && fd.params.kwonlyargs.isEmpty && fd.params.vararg.isNone && fd.params.kwarg.isNone && decide (fd.defaults = .none) && decide (fd.params.args.map (·.arg) = ps) && decide ps.Nodup
def kwC (f : Nat) : Bool := (d.kwns.getD f []).isEmpty || (match K.lookup (d.F f) with
  | some ⟨_, _, .func fd, _⟩ => plainC fd (d.kwns.getD f [])
  | _ => true)
def smC (e : (Nat × Nat) × Nat) : Bool := (specialIn K (.ref (d.C e.1.1)) "__getattribute__" == some (some (.builtin "type.__getattribute__"))) && keepIn K (.ref (d.F e.2)) && (match typeIn K (.ref (d.C e.1.1)) with
  | some mc => readsIn K (d.C e.1.1) mc && (match findCls K (.ref (d.C e.1.1)) mc (nmOf d.tab.us e.1.2) with
    | some (.get g (.ref p) .none (.ref c)) => decide (g = .builtin "staticmethod.__get__") && decide (c = d.C e.1.1) && (match recIn K p "staticmethod" with
      | some (.ref f :: _) => decide (f = d.F e.2)
      | _ => false)
    | _ => false)
  | none => false)
def subC : Bool := (List.range d.ncl).all fun c => (List.range d.ncl).all fun e => kitOne K (.ref (d.C c)) (.ref (d.C e)) == some (d.subs.contains (c, e))
def pdC : Bool := d.meths.all (entryC K d) && d.attrs.all (attrC K d) && (List.range d.ncl).all (ownC K d) && subC K d && fnsC K d 0 d.fns && d.inits.all (initC K d) && tabC K d && (List.range d.kwns.length).all (kwC K d) && d.smeths.all (smC K d)
end
end Rz
end

section
set_option autoImplicit false
set_option Elab.async false
set_option linter.all false
set_option maxHeartbeats 1000000
set_option maxRecDepth 100000
namespace Rz
open PySem PySem.Spec PySem.W PyProof.Rows L2

section
variable {S : Type} [Pen S] {K : Frag} {d : PD S} {pen : Addr}
theorem lookup_mem {α β : Type} [BEq α] [LawfulBEq α] {l : List (α × β)} {a : α} {b : β} (h : l.lookup a = some b) : (a, b) ∈ l := by
  induction l with
  | nil => cases h
  | cons p r ih =>
    obtain ⟨x, y⟩ := p
    rw [List.lookup_cons] at h
    cases e : a == x with
    | true => rw [e] at h; cases h; rw [eq_of_beq e]; exact List.mem_cons_self
    | false => rw [e] at h; exact List.mem_cons_of_mem _ (ih h)
theorem clsC_ok {c : Nat} (h : clsC K d c = true) : ClsZ (d.tb K pen) c := by
  simp only [clsC, Bool.and_eq_true, decide_eq_true_eq] at h
  obtain ⟨⟨⟨⟨⟨h1, h2⟩, h3⟩, h4⟩, h5⟩, h6⟩ := h
  exact ⟨⟨h1, h2, h3, beq_iff_eq.mp h4⟩, h5, h6⟩
theorem methC_ok {c f : Nat} {m : Str} (h : methC K d c m f = true) : MethZ (d.tb K pen) c m f := by
  simp only [methC, Bool.and_eq_true, Bool.not_eq_true'] at h
  obtain ⟨⟨⟨⟨h1, h2⟩, h3⟩, h4⟩, h5⟩ := h
  exact ⟨clsC_ok h1, ⟨beq_iff_eq.mp h2, h3, h4⟩, fun (z : m ∈ d.L c) => by rw [List.contains_iff_mem.mpr z] at h5; cases h5⟩
theorem opLC_ok {c f : Nat} {o : Operator} (h : opLC K d c o f = true) : OpL (d.tb K pen) c o f ∧ noI K (d.C c) o.info.2 = true := by
  simp only [opLC, Bool.and_eq_true] at h
  obtain ⟨⟨⟨⟨⟨⟨h1, h2⟩, h3⟩, h4⟩, h5⟩, h6⟩, h7⟩ := h
  refine ⟨⟨clsC_ok h1, h2, beq_iff_eq.mp h3, h4, ?_, fun n hn => ?_⟩, h7⟩
  · cases e : findIn K (.ref (d.C c)) (dunderR o.info.2) with
    | none => rw [e] at h5; cases h5
    | some rc =>
      rw [e] at h5
      refine ⟨rc, e, ?_⟩
      cases rc with
      | none => exact .inl rfl
      | some v => cases v <;> first | exact .inr ⟨_, rfl⟩ | cases h5
  · have q := List.all_eq_true.mp h6 n hn
    simp only [Bool.and_eq_true] at q
    obtain ⟨⟨q1, q2⟩, q3⟩ := q
    obtain ⟨fo, e1⟩ := Option.isSome_iff_exists.mp q1
    obtain ⟨ro, e2⟩ := Option.isSome_iff_exists.mp q2
    exact ⟨fo, ro, e1, e2, beq_iff_eq.mp q3⟩
theorem opRC_ok {c f : Nat} {o : Operator} (h : opRC K d c o f = true) : OpZR (d.tb K pen) c o f := by
  simp only [opRC, Bool.and_eq_true] at h
  obtain ⟨⟨⟨⟨⟨h1, h2⟩, h3⟩, h4⟩, h5⟩, h6⟩ := h
  refine ⟨clsC_ok h1, h2, ?_, beq_iff_eq.mp h4, h5, fun n hn => ?_⟩
  · revert h3
    cases e : findIn K (.ref (d.C c)) (PySem.dunder o.info.2) with
    | none => intro h3; cases h3
    | some rc =>
      intro h3
      cases rc with
      | none => cases h3
      | some v => cases v <;> first | exact ⟨_, e⟩ | cases h3
  · have q := List.all_eq_true.mp h6 n hn
    simp only [Bool.and_eq_true, Bool.or_eq_true, Bool.not_eq_true'] at q
    obtain ⟨⟨⟨q1, q2⟩, q3⟩, q4⟩ := q
    obtain ⟨fo, e1⟩ := Option.isSome_iff_exists.mp q1
    obtain ⟨ro, e2⟩ := Option.isSome_iff_exists.mp q2
    refine ⟨fo, ro, e1, e2, beq_iff_eq.mp q3, fun m => ?_⟩
    rcases q4 with q4 | q4
    · rw [List.contains_iff_mem.mpr m] at q4; cases q4
    · rw [e1, e2] at q4
      simp only [noNum, Bool.not_eq_true'] at q4
      exact q4
theorem cmpC_ok {c : Nat} (h : cmpC K d c = true) : CmpZ (d.tb K pen) c := by
  simp only [cmpC, Bool.and_eq_true] at h
  exact ⟨fun n hn => beq_iff_eq.mp (List.all_eq_true.mp h.1.1 n hn), beq_iff_eq.mp h.1.2, beq_iff_eq.mp h.2⟩
theorem ownC_ok {c : Nat} (h : ownC K d c = true) : OwnT (d.tb K pen) c := by
  simp only [ownC, Bool.and_eq_true] at h
  obtain ⟨⟨⟨⟨⟨⟨h1, h2⟩, h3⟩, h4⟩, h5⟩, h6⟩, h7⟩ := h
  exact ⟨clsC_ok h1, beq_iff_eq.mp h2, beq_iff_eq.mp h3, beq_iff_eq.mp h4, beq_iff_eq.mp h5, fun n hn => beq_iff_eq.mp (List.all_eq_true.mp h6 n hn), fun n hn => beq_iff_eq.mp (List.all_eq_true.mp h7 n hn)⟩
theorem propC_ok {c f : Nat} {m : Str} (h : propC K d c m f = true) : PropZ (d.tb K pen) c m f := by
  simp only [propC, Bool.and_eq_true] at h
  obtain ⟨h1, h2⟩ := h
  refine ⟨clsC_ok h1, ?_⟩
  split at h2
  · rename_i p e
    simp only [Bool.and_eq_true] at h2
    obtain ⟨⟨h3, h4⟩, h5⟩ := h2
    split at h5
    · rename_i g rest er
      refine ⟨p, e, beq_iff_eq.mp h3, beq_iff_eq.mp h4, rest, ?_⟩
      have z : g = d.F f := eq_of_beq h5
      subst z
      exact er
    · cases h5
  · cases h2
theorem scC_ok {N ps : List Str} {sc : Scope} (h : scC N ps sc = true) : FnScope N ps sc := by
  simp only [scC, Bool.and_eq_true, Bool.not_eq_true', decide_eq_true_eq, List.all_eq_true, Bool.or_eq_true] at h
  obtain ⟨⟨⟨⟨⟨⟨h1, h2⟩, h3⟩, h4⟩, h5⟩, h6⟩, h7⟩ := h
  exact ⟨h1, h2, h3, h4, h5, h6, fun y hy z => by have := h7 y hy; simp [z] at this⟩
theorem fnsC_ok : ∀ {l : List (FnD S)} {i f : Nat} {b : Fn}, fnsC K d i l = true → l[f]? = some (.code b) → fnC K d (i + f) b = true
  | [], _, _, _, _, e => by cases e
  | x :: r, i, 0, b, h, e => by
    have e' : x = .code b := by simpa using e
    subst e'
    simp only [fnsC, Bool.and_eq_true] at h
    exact h.1
  | x :: r, i, f + 1, b, h, e => by
    have e' : r[f]? = some (.code b) := by simpa using e
    have h' : fnsC K d (i + 1) r = true := by
      cases x <;> simp only [fnsC, Bool.and_eq_true] at h <;> first | exact h.2 | exact h
    have z := fnsC_ok h' e'
    rw [show i + (f + 1) = i + 1 + f by omega]
    exact z

/-- what pdC says -/
structure PdOk (K : Frag) (d : PD S) (pen : Addr) : Prop where
  meth : ∀ c m f, d.pt.meth c m = some f → MethZ (d.tb K pen) c (nmOf d.tab.us m) f
  opL : ∀ c o f, d.pt.meth c (dun o) = some f → OpL (d.tb K pen) c o f
  opR : ∀ c o f, d.pt.meth c (dun o + 1) = some f → OpZR (d.tb K pen) c o f
  ni : ∀ c o f, d.pt.meth c (dun o) = some f → noI K (d.C c) o.info.2 = true
  cmp : ∀ c m f, d.pt.meth c m = some f → CmpZ (d.tb K pen) c
  own : ∀ c, c < d.ncl → OwnT (d.tb K pen) c
  sub : ∀ c e, c < d.ncl → e < d.ncl → kitOne K (.ref (d.C c)) (.ref (d.C e)) = some (d.pt.sub c e)
  fld : ∀ c m k, d.pt.attr c m = .fld k → FldZ (d.tb K pen) c (nmOf d.tab.us m) k
  prop : ∀ c m f, d.pt.attr c m = .prop f → PropZ (d.tb K pen) c (nmOf d.tab.us m) f
  fn : ∀ f b, d.fns.getD f .none = .code b → fnC K d f b = true
  init : ∀ c f, d.pt.init c = some f → Mk K (d.C c) (d.F f) ∧ ∃ b, d.fns.getD f .none = .code b ∧ 0 < b.np
  cfi : ∀ c f, d.pt.meth c mCall = some f → fnIn K (d.F f) = true
  tab : tabC K d = true
  sm : ∀ c m f, d.pt.smeth c m = some (false, f) → SmZ (d.tb K pen) c (nmOf d.tab.us m) f
  smt : ∀ c m f, d.pt.smeth c m ≠ some (true, f)
  kwo : ∀ f, d.pt.kwn f ≠ [] → KwOk K (d.F f) (d.pt.kwn f)
theorem pdC_ok (h : pdC K d = true) : PdOk K d pen := by
  simp only [pdC, Bool.and_eq_true] at h
  obtain ⟨⟨⟨⟨⟨⟨⟨⟨h1, h2⟩, h3⟩, h4⟩, h5⟩, h6⟩, h7⟩, h8⟩, h9⟩ := h
  have ent : ∀ {c m f}, d.pt.meth c m = some f → entryC K d ((c, m), f) = true := fun {c m f} e => List.all_eq_true.mp h1 _ (lookup_mem e)
  have att : ∀ {c m a}, d.pt.attr c m = a → a ≠ .none → attrC K d ((c, m), a) = true := fun {c m a} e n => by
    have e' : (d.attrs.lookup (c, m)).getD .none = a := e
    cases q : d.attrs.lookup (c, m) with
    | none => rw [q] at e'; exact absurd e'.symm n
    | some x => rw [q] at e'; cases e'; exact List.all_eq_true.mp h2 _ (lookup_mem q)
  refine ⟨fun c m f e => ?_, fun c o f e => ?_, fun c o f e => ?_, fun c o f e => ?_, fun c m f e => ?_, fun c hc => ownC_ok (List.all_eq_true.mp h3 c (List.mem_range.mpr hc)), fun c e hc he => ?_, fun c m k e => ?_, fun c m f e => ?_, fun f b e => ?_, fun c f e => ?_, fun c f e => ?_, h7, fun c m f e => ?_, fun c m f e => ?_, fun f e => ?_⟩
  · have q := ent e
    simp only [entryC, Bool.and_eq_true] at q
    exact methC_ok q.1.1.1
  · have q := ent e
    simp only [entryC, Bool.and_eq_true] at q
    have z := List.all_eq_true.mp q.1.2 o (allOps_mem o)
    simp only [Bool.and_eq_true, Bool.or_eq_true, Bool.not_eq_true'] at z
    rcases z.1 with k | k
    · simp at k
    · exact (opLC_ok k).1
  · have q := ent e
    simp only [entryC, Bool.and_eq_true] at q
    have z := List.all_eq_true.mp q.1.2 o (allOps_mem o)
    simp only [Bool.and_eq_true, Bool.or_eq_true, Bool.not_eq_true'] at z
    rcases z.2 with k | k
    · simp at k
    · exact opRC_ok k
  · have q := ent e
    simp only [entryC, Bool.and_eq_true] at q
    have z := List.all_eq_true.mp q.1.2 o (allOps_mem o)
    simp only [Bool.and_eq_true, Bool.or_eq_true, Bool.not_eq_true'] at z
    rcases z.1 with k | k
    · simp at k
    · exact (opLC_ok (pen := pen) k).2
  · have q := ent e
    simp only [entryC, Bool.and_eq_true] at q
    exact cmpC_ok q.1.1.2
  · exact beq_iff_eq.mp (List.all_eq_true.mp (List.all_eq_true.mp h4 c (List.mem_range.mpr hc)) e (List.mem_range.mpr he))
  · have q := att e (by intro z; cases z)
    simp only [attrC, Bool.and_eq_true, decide_eq_true_eq] at q
    exact ⟨clsC_ok q.1.1, beq_iff_eq.mp q.1.2, q.2⟩
  · have q := att e (by intro z; cases z)
    simp only [attrC] at q
    exact propC_ok q
  · have e' : d.fns[f]? = some (.code b) := by
      rw [List.getD_eq_getElem?_getD] at e
      cases q : d.fns[f]? with
      | none => rw [q] at e; cases e
      | some x => rw [q] at e; cases e; rfl
    have z := fnsC_ok h5 e'
    rw [Nat.zero_add] at z
    exact z
  · have q := List.all_eq_true.mp h6 _ (lookup_mem e)
    simp only [initC, Bool.and_eq_true] at q
    obtain ⟨⟨⟨⟨q1, q2⟩, q3⟩, q4⟩, q5⟩ := q
    refine ⟨⟨q1, beq_iff_eq.mp q2, q3, q4⟩, ?_⟩
    split at q5
    · rename_i b eb
      exact ⟨b, eb, of_decide_eq_true q5⟩
    · cases q5
  · have q := ent e
    simp only [entryC, Bool.and_eq_true, Bool.or_eq_true, Bool.not_eq_true'] at q
    rcases q.2 with k | k
    · simp at k
    · exact k
  · have e' : (d.smeths.lookup (c, m)).map (fun f => (false, f)) = some (false, f) := e
    cases q : d.smeths.lookup (c, m) with
    | none => rw [q] at e'; cases e'
    | some g =>
      rw [q] at e'
      cases e'
      have z := List.all_eq_true.mp h9 _ (lookup_mem q)
      simp only [smC, Bool.and_eq_true] at z
      obtain ⟨⟨z1, z2⟩, z3⟩ := z
      split at z3
      · rename_i mc _
        rw [Bool.and_eq_true] at z3
        obtain ⟨z3, z4⟩ := z3
        split at z4
        · rename_i g' p c' hfc
          simp only [Bool.and_eq_true, decide_eq_true_eq] at z4
          obtain ⟨⟨rfl, rfl⟩, z5⟩ := z4
          split at z5
          · rename_i f' rest hr
            have := of_decide_eq_true z5
            subst this
            exact ⟨beq_iff_eq.mp z1, ⟨mc, p, rest, z3, hfc, hr⟩, z2⟩
          · cases z5
        · cases z4
      · cases z3
  · have e' : (d.smeths.lookup (c, m)).map (fun f => (false, f)) = some (true, f) := e
    cases q : d.smeths.lookup (c, m) with
    | none => rw [q] at e'; cases e'
    | some g => rw [q] at e'; cases e'
  · have hf : f < d.kwns.length := by
      rcases Nat.lt_or_ge f d.kwns.length with z | z
      · exact z
      · refine absurd ?_ e
        show d.kwns.getD f [] = []
        rw [List.getD_eq_getElem?_getD, List.getElem?_eq_none z]; rfl
    have q := List.all_eq_true.mp h8 f (List.mem_range.mpr hf)
    simp only [kwC, Bool.or_eq_true] at q
    rcases q with q | q
    · exact absurd (List.isEmpty_iff.mp q) e
    · intro oc od fd osl lk
      rw [lk] at q
      simp only [plainC, Bool.and_eq_true, decide_eq_true_eq, List.isEmpty_iff, Option.isNone_iff_eq_none] at q
      obtain ⟨⟨⟨⟨⟨⟨q1, q2⟩, q3⟩, q4⟩, q5⟩, q6⟩, q7⟩ := q
      exact ⟨q1, q2, q3, q4, q5, q6, q7⟩
end
end Rz
end

section
set_option autoImplicit false
set_option Elab.async false
set_option linter.all false
set_option maxHeartbeats 1000000
set_option maxRecDepth 100000
namespace Rz
open PySem PySem.Spec PySem.W PyProof.Rows L2

section
variable {S : Type} [Pen S] {n : Nat} {K : Frag} {d : PD S} {pen : Addr} {pn : Pn S} {P : Program} {w : World} {mg : Str → Option Value} {base : Heap}
/-- calls n deep -/
def PD.Z (d : PD S) (K : Frag) (pen : Addr) (pn : Pn S) (n : Nat) : Cz S := ⟨d.tb K pen, pn, d.pt, callN d.prg n, mkN d.prg n⟩
/-- the module's names as the tables say -/
structure MgOk (K : Frag) (d : PD S) (mg : Str → Option Value) : Prop where
  fns : ∀ x f, d.tab.fns.lookup x = some f → mg x = some (.ref (d.F f)) ∧ keepIn K (.ref (d.F f)) = true
  cls : ∀ x c, d.tab.cls.lookup x = some c → mg x = some (.ref (d.C c)) ∧ keepIn K (.ref (d.C c)) = true
  gls : ∀ x j, d.tab.gls.lookup x = some j → ∃ u v, mg x = some u ∧ RelV v u ∧ ∀ (T : Tb) (F : Hp), Rep T F (d.pt.gl j) v
  bis : ∀ x, d.tab.bis.contains x = true → mg x = none
theorem mgOk_of {h : Heap} (t : tabC K d = true) (X : K.In h) (G : h.Ns mainGlobals mg) : MgOk K d mg := by
  simp only [tabC, Bool.and_eq_true] at t
  obtain ⟨⟨⟨t1, t2⟩, t3⟩, t4⟩ := t
  refine ⟨fun x f e => ?_, fun x c e => ?_, fun x j e => ?_, fun x e => ?_⟩
  · have q := List.all_eq_true.mp t1 _ (lookup_mem e)
    rw [Bool.and_eq_true] at q
    exact ⟨mg_of X G (beq_iff_eq.mp q.1), q.2⟩
  · have q := List.all_eq_true.mp t2 _ (lookup_mem e)
    rw [Bool.and_eq_true] at q
    exact ⟨mg_of X G (beq_iff_eq.mp q.1), q.2⟩
  · have q := List.all_eq_true.mp t3 _ (lookup_mem e)
    simp only at q
    unfold glC at q
    split at q
    · rename_i i tk eu
      split at q
      · rename_i j' ej
        have z : i = j' := eq_of_beq q
        subst z
        exact ⟨_, .int i, mg_of X G eu, ⟨tk, rfl⟩, fun T F => by show Rep T F (d.gls.getD j .non) _; rw [ej]; rfl⟩
      · cases q
    · rename_i i tk eu
      split at q
      · rename_i j' ej
        have z : i = j' := of_decide_eq_true q
        subst z
        exact ⟨_, .str i, mg_of X G eu, ⟨tk, rfl⟩, fun T F => by show Rep T F (d.gls.getD j .non) _; rw [ej]; rfl⟩
      · cases q
    · cases q
  · exact mg_none_of X G (beq_iff_eq.mp (List.all_eq_true.mp t4 x (List.contains_iff_mem.mp e)))

/-- what is proved of calls n deep -/
structure Deep (d : PD S) (K : Frag) (pen : Addr) (pn : Pn S) (P : Program) (w : World) (mg : Str → Option Value) (base : Heap) (n : Nat) : Prop where
  fn : ∀ f, FnRg P w K mg base (CX P w) (3 * n) (d.F f) (spF (d.Z K pen pn n) f)
  make : ∀ c, ∃ f, FnRg P w K mg base (CX P w) (3 * n) f (spI (d.Z K pen pn n) c) ∧ ((∃ ds s, (d.Z K pen pn n).make c ds s ≠ .no) → Mk K (d.C c) f)
theorem FnRg.mono {CX : CXT} {j k : Nat} {f : Addr} {sp : Sp} (F : FnRg P w K mg base CX j f sp) (h : j ≤ k) : FnRg P w K mg base CX k f sp := fun A outer sh H us vs Q E hr hg e0 rv hs => F A outer sh H us vs Q E (hr.mono h) hg e0 rv hs
theorem fn_no {Z : Cz S} {f : Nat} {CX : CXT} {k : Nat} {a : Addr} (h : ∀ ds s, Z.call f ds s = .no) : FnRg P w K mg base CX k a (spF Z f) := fun A outer sh H us vs Q E hr hg e0 rv hs ar har => by
  obtain ⟨F, ds, s, _, _, _, _, _, hp⟩ := hs
  rw [h] at hp
  exact hp.elim
theorem mk_no {Z : Cz S} {c : Nat} {CX : CXT} {k : Nat} {a : Addr} (h : ∀ ds s, Z.make c ds s = .no) : FnRg P w K mg base CX k a (spI Z c) := fun A outer sh H us vs Q E hr hg e0 rv hs ar har => by
  obtain ⟨F, ds, s, x, dx, ws, _, _, _, _, _, _, _, _, _, hp⟩ := hs
  rw [h] at hp
  exact hp.elim
/-- a body's context -/
theorem body_ok (hpn : PenOk (d.Z K pen pn n)) {f : Nat} {b : Fn} {body : List Stmt} {qual : Str} {scope : Scope} {cdv : Value} {ps N : List Str} {a : Addr} (ok : PdOk K d pen) (mo : MgOk K d mg) (D : Deep d K pen pn P w mg base n) (Sc : FnScope N ps scope) (q : chkSs d.tab fuel ⟨N, scope, fun _ => true⟩ body b.body = true) :
    BodyZ (d.Z K pen pn n) P w K mg base N qual scope a cdv (3 * n + 2) body b.body := by
  intro A outer s H E G hr hg
  refine (okS_all (Z := d.Z K pen pn n) (t := d.tab) fuel).Ss (W := fun c dd _ H' => E c dd H') ?_ q G
  exact {
    z := {
      hK := rfl
      fz := fun f => ⟨3 * n, hr.mono (Nat.le_succ _), hg, D.fn f⟩
      fi := fun c => by
        obtain ⟨f, h1, h2⟩ := D.make c
        exact ⟨3 * n, f, hr, hg, h1, h2⟩
      hu := hr.units
      meth := ok.meth
      opL := ok.opL
      opR := ok.opR
      cmp := ok.cmp
      own := ok.own
      sub := ok.sub
      fld := ok.fld
      prop := ok.prop }
    tk := takes_of rfl rfl rfl rfl
    calm := rfl
    nd := Sc.nd
    hN := rfl
    hsc := rfl
    hfn := fun _ _ => rfl
    fns := mo.fns
    cls := mo.cls
    gls := fun x j e => by
      obtain ⟨u, v, h1, h2, h3⟩ := mo.gls x j e
      exact ⟨u, v, h1, h2, fun F => h3 _ F⟩
    bis := mo.bis
    cfi := ok.cfi
    kwo := ok.kwo
    pno := hpn
    sm := ok.sm
    smt := ok.smt
    po := passes_of rfl
    ni := ok.ni }
/-- what fnC says of a def -/
theorem fnC_use {f : Nat} {b : Fn} (h : fnC K d f b = true) : ∃ oc od name qual params body scope dV kV doc pm an cdv ct osl, K.lookup (d.F f) = some ⟨oc, od, .func (fnOf name qual params body scope dV kV doc pm an cdv ct), osl⟩ ∧ codeIn K cdv qual = true ∧
    FnScope (d.Ns.getD f []) (psOf (fnOf name qual params body scope dV kV doc pm an cdv ct)) scope ∧ (∀ T, BindZ K T (fnOf name qual params body scope dV kV doc pm an cdv ct) (psOf (fnOf name qual params body scope dV kV doc pm an cdv ct)) b) ∧ (d.Ns.getD f []).length = b.ns ∧ (psOf (fnOf name qual params body scope dV kV doc pm an cdv ct)).length ≤ (d.Ns.getD f []).length ∧
    chkSs d.tab fuel ⟨d.Ns.getD f [], scope, fun _ => true⟩ body b.body = true := by
  unfold fnC at h
  split at h
  · rename_i oc od fd osl lk
    split at h
    · rename_i body hb
      simp only [Bool.and_eq_true, decide_eq_true_eq, List.isEmpty_iff] at h
      obtain ⟨⟨⟨⟨⟨⟨⟨⟨h1, h2⟩, h3⟩, h4⟩, h5⟩, h6⟩, h7⟩, h8⟩, h9⟩ := h
      obtain ⟨name, qual, params, body', scope, globals, closure, dV, kV, doc, pm, an, cdv, ct, bl⟩ := fd
      simp only at hb h1 h2 h3 h4 h5 h9
      subst hb h1 h2 h3
      exact ⟨oc, od, name, qual, params, body, scope, dV, kV, doc, pm, an, cdv, ct, osl, lk, h4, scC_ok h5, fun T => bndC_ok h6, h7, h8, h9⟩
    · cases h
  · cases h
/-- calls of every depth -/
theorem deep_all (hpn : ∀ n, PenOk (d.Z K pen pn n)) (ok : PdOk K d pen) (mo : MgOk K d mg) (hext : ∀ f g, d.fns.getD f .none = .ext g → ∀ n, FnRg P w K mg base (CX P w) (3 * (n + 1)) (d.F f) (spF (d.Z K pen pn (n + 1)) f)) : ∀ n, Deep d K pen pn P w mg base n
  | 0 => ⟨fun f => fn_no fun _ _ => rfl, fun c => ⟨0, mk_no fun _ _ => rfl, fun ⟨_, _, h⟩ => absurd rfl h⟩⟩
  | n + 1 => by
    have D := deep_all hpn ok mo hext n
    refine ⟨fun f => ?_, fun c => ?_⟩
    · cases hf : d.fns.getD f .none with
      | code b =>
        obtain ⟨oc, od, name, qual, params, body, scope, dV, kV, doc, pm, an, cdv, ct, osl, lk, h4, Sc, bz, h7, h8, h9⟩ := fnC_use (ok.fn f b hf)
        refine fn_code (Z := d.Z K pen pn n) (Z' := d.Z K pen pn (n + 1)) (k := 3 * n + 2) lk h4 Sc (bz _) h7 h8 (body_ok (hpn n) (f := f) ok mo D Sc h9) ⟨rfl, rfl⟩ fun ds s => ?_
        show callN d.prg (n + 1) f ds s = _
        have e : d.prg.fn f = .code b := hf
        simp only [callN, e]
        rfl
      | ext g => exact hext f g hf n
      | none =>
        refine fn_no fun ds s => ?_
        show callN d.prg (n + 1) f ds s = _
        have e : d.prg.fn f = .none := hf
        simp only [callN, e]
    · cases hi : d.pt.init c with
      | none =>
        have no : ∀ ds s, (d.Z K pen pn (n + 1)).make c ds s = .no := fun ds s => by
          show mkN d.prg (n + 1) c ds s = _
          have e : d.prg.init c = none := hi
          simp only [mkN, e]
        exact ⟨0, mk_no no, fun ⟨ds, s, h⟩ => absurd (no ds s) h⟩
      | some f =>
        obtain ⟨M, b, hf, hp⟩ := ok.init c f hi
        obtain ⟨oc, od, name, qual, params, body, scope, dV, kV, doc, pm, an, cdv, ct, osl, lk, h4, Sc, bz, h7, h8, h9⟩ := fnC_use (ok.fn f b hf)
        refine ⟨d.F f, fn_init (Z := d.Z K pen pn n) (Z' := d.Z K pen pn (n + 1)) (k := 3 * n + 2) lk h4 Sc (bz _) h7 h8 hp (body_ok (hpn n) (f := f) ok mo D Sc h9) ⟨rfl, rfl⟩ fun ds s => ?_, fun _ => M⟩
        show mkN d.prg (n + 1) c ds s = _
        have e : d.prg.init c = some f := hi
        have e2 : d.prg.fn f = .code b := hf
        simp only [mkN, e, e2]
        rfl
end
end Rz
end

section
set_option autoImplicit false
set_option Elab.async false
set_option linter.all false
set_option maxHeartbeats 1000000
set_option maxRecDepth 100000
namespace Rz
open PySem PySem.Spec PyProof.Rows L2

/-! the law's end, by a promise that may use what the caller's frame says of guards -/
theorem law_callG {P : Program} {w : World} {K : PySem.W.Frag} {mg mb : Str → Option Value} {CX : CXT} {k : Nat} {fa a : Addr} {sp : Sp} {s₁ : Shared} {vs : List Value} {ns : List Int}
    (KX : K.In s₁.heap) (hns : s₁.heap.Ns mainGlobals mg) (hb : s₁.heap.Ns builtinsNs mb) (hbb : ∀ x : Str, x ≠ "__name__" → mb x = bootBuiltins x) (hlim : s₁.heap.NoLimit) (hg : s₁.gens = #[])
    (ha : s₁.heap.get? a = some { cls := .type "list", data := .seq vs.toArray }) (hi : IntsAre vs ns) (hl : ns.length ≤ sizeLine) (hr : Room k callerA)
    (F : ∀ base : Heap, K.In base → base.Ns mainGlobals mg → FnRg P w K mg base CX k fa sp)
    (hsp : ∀ H : Hp, Only H → SqL K H a (ns.map V.int) → sp [.ref a] H (fun v _ => v = .bl true) fun _ _ _ => False)
    (hCX : ∀ H e s', CX [] H s₁ (fun _ _ _ => False) e s' → False) :
    codeAny (model P w) callerA (.call (.ref fa) ⟨[.ref a], []⟩) (fun r s' => r = .ok (.ret (.bool true)) ∧ OldK s₁.heap s'.heap ∧ s'.os = s₁.os ∧ AllBare s'.gens) s₁ := by
  have rv := vals_ints hi
  have lenV := hi.length
  -- from an abstract heap in which nothing but the script may be tracked
  have core : ∀ H : Hp, Only H → SqL K H a (ns.map V.int) → HOk P w H s₁.heap → (∀ b, H b ≠ none → b = a) → (H a ≠ none → K.lookup a = none) →
      codeAny (model P w) callerA (.call (.ref fa) ⟨[.ref a], []⟩) (fun r s' => r = .ok (.ret (.bool true)) ∧ OldK s₁.heap s'.heap ∧ s'.os = s₁.os ∧ AllBare s'.gens) s₁ := by
    intro H hO hS hok hA hK
    have base_of : ∀ {b : Addr} {o : Obj}, s₁.heap.get? b = some o → H b = none → (hidT s₁.heap H).get? b = some o := fun e n => hidT_get e n
    have noA : ∀ {b : Addr} {o : Obj} {es : Array DictEntry} {ep : Nat}, s₁.heap.get? b = some o → o.data = .dict es ep → H b = none := fun {b o es ep} e d => by
      cases q : H b with
      | none => rfl
      | some u =>
        have e' : b = a := hA b (by rw [q]; simp)
        subst e'
        rw [ha] at e; cases e
        have d' : Data.seq vs.toArray _ = Data.dict es ep := d
        cases d'
    have nsK : ∀ {b : Addr} {m : Str → Option Value}, s₁.heap.Ns b m → (hidT s₁.heap H).Ns b m := fun {b m} ⟨o, es, ep, e, d, r⟩ => ⟨o, es, ep, base_of e (noA e d), d, r⟩
    have hKb : K.In (hidT s₁.heap H) := fun b o e => base_of (KX b o e) (by
      cases q : H b with
      | none => rfl
      | some u =>
        have e' : b = a := hA b (by rw [q]; simp)
        subst e'
        rw [hK (by rw [q]; simp)] at e; cases e)
    have hM : Mod K mg (hidT s₁.heap H) := ⟨hKb, nsK hns, ⟨mb, nsK hb, hbb⟩, let ⟨mc, h1, h2⟩ := hlim; ⟨mc, nsK h1, h2⟩⟩
    have e0 : Env0 P w K mg (hidT s₁.heap H) callerA [] s₁ H := ⟨rfl, hM, fun b o e => of_hidT e, Nat.le_of_eq (hidT_size _ _), trivial, fun b hb => absurd (show b ∈ ([] : List Addr) from hb) (by simp), hok, .of_eq hg⟩
    refine codeAny_mono ((F _ hKb (nsK hns)) callerA [] s₁ H [.ref a] [.ref a] _ _ hr rfl e0 (.cons rfl .nil) (hsp H hO hS) _ ArgAs.rfl) fun r s' h => ?_
    cases r with
    | error e => exact (hCX H e s' h).elim
    | ok fl =>
      cases fl with
      | next => exact False.elim h
      | brk => exact False.elim h
      | cont => exact False.elim h
      | ret u =>
        obtain ⟨v, H', os, bare, un, hok', r', q⟩ := h
        have q' : v = .bl true := q
        subst q'
        obtain rfl : u = Value.bool true := r'
        refine ⟨rfl, OldK.of_keep fun b o e => ?_, os, bare⟩
        cases q : H b with
        | none => exact un.keep b o e q (by intro z; exact absurd (show b ∈ ([] : List Addr) from z) (by simp)) (by simp)
        | some u =>
          rcases hO b with z | ⟨ob, xs, z⟩
          · rw [q] at z; cases z
          · have z2 := un.frzs b ob _ z
            obtain ⟨e1, _⟩ := hok b _ z
            obtain ⟨e2, _⟩ := hok' b _ z2
            rw [e] at e1; cases e1
            exact e2
  cases hk : K.lookup a with
  | some o =>
    -- the script is one of the module's own objects
    have e := KX a o hk
    rw [ha] at e
    cases e
    refine core (fun _ => none) (fun _ => .inl rfl) (.inr ⟨_, vs.toArray, _, hk, rfl, rfl, rfl, by rw [List.size_toArray, lenV]; exact hl, by simpa using rv⟩) (fun b u z => by have z' : (none : Option HO) = some u := z; cases z') (fun b z => absurd rfl z) fun z => absurd rfl z
  | none =>
    refine core (fun b => if b = a then some (.frz { cls := .type "list", data := .seq vs.toArray } (.lst (ns.map V.int))) else none) (fun b => ?_) (.inl (.inr ⟨{ cls := .type "list", data := .seq vs.toArray }, if_pos rfl⟩)) (fun b u z => ?_) (fun b z => ?_) fun _ => hk
    · by_cases hb : b = a
      · exact .inr ⟨_, _, if_pos hb⟩
      · exact .inl (if_neg hb)
    · by_cases hb : b = a
      · have z' := (if_pos hb).symm.trans z
        cases z'
        subst hb
        exact ⟨ha, by rw [List.length_map]; exact hl, vs, _, rv, ha⟩
      · have z' := (if_neg hb).symm.trans z
        cases z'
    · by_cases hb : b = a
      · exact hb
      · exact absurd (if_neg hb) z
theorem walkG {l : PySem.W.OpenLaw} {n k : Nat} {q : Program} {loose : List Str} {XP : (Str → Option Value) → Heap → Prop} {YP : World → Heap → Prop} {d : DefRec} {K : Params → PySem.W.Frag} {sp : World → Sp}
    (hn : l.most = some n) (hn2 : n ≤ sizeLine) (hdf : d.params.defaults = []) (hr : Room k callerA)
    (hY : ∀ (w : World) (h : Heap), YP w h → (K w.params).In h)
    (F : ∀ (w : World) (mg : Str → Option Value) (fa : Addr) (h : Heap), (K w.params).In h → h.Ns mainGlobals mg → mg d.name = some (.ref fa) →
      ∀ base : Heap, (K w.params).In base → base.Ns mainGlobals mg → FnRg l.prog w (K w.params) mg base (CX l.prog w) k fa (sp w))
    (hsp : ∀ (w : World) (H : Hp) (a : Addr) (ns : List Int), ns.length ≤ n → Only H → SqL (K w.params) H a (ns.map V.int) → sp w [.ref a] H (fun v _ => v = .bl true) fun _ _ _ => False)
    : PySem.W.WalkO q loose XP YP l.row.toRowW d [] (fun f vs => PySem.call f vs) := by
  refine Att.attach_call hn hdf fun w s₀ s₁ mg mb fa o pm cd doc a vs ns G Y ho hd hcd hmg hobj hints hlen hg => ?_
  have KX := hY w _ Y
  exact law_callG KX G.T.g G.T.b G.T.builtins G.T.nolimit hg hobj hints (Nat.le_trans hlen hn2) hr (F w mg fa _ KX G.T.g hmg) (fun H hO hS => hsp w H a ns hlen hO hS) fun H e s' z => by
    obtain ⟨_, _, _, _, _, _, _, _, _, _, _, _, w⟩ := z
    exact w
end Rz
end

section
set_option autoImplicit false
set_option Elab.async false
set_option linter.all false
set_option maxHeartbeats 1000000
set_option maxRecDepth 100000
namespace Rz
open PySem PySem.Spec PySem.W PyProof.Rows L2

theorem _root_.L2.PSs.any {X : Cx} {ι : Type} {ss : List Stmt} {t : ι → TS} (h : ∀ i, PSs X ss (t i)) : PSs X ss (fun D σ H => ∃ i, t i D σ H) := ⟨fun pins s σ H D I ⟨i, q⟩ => (h i).run pins s σ H D I q⟩

section
variable {P : Program} {w : World} {K : PySem.W.Frag} {mg : Str → Option Value} {base : Heap} {k : Nat} {f : Addr} {name qual : Str} {params : Arguments} {body : List Stmt} {scope : Scope} {dV kV doc pm cdv ct oc : Value} {an od : Option Addr}
  {osl : Array (Option Value)} {N ps : List Str}
/-- a def with plain parameters, all given by place -/
theorem run_pl {ar : Args} {A : Around} {outer : List Env} {sh : Shared} {H : Hp} {us : List Value} {vs : List V} {Q : VK} {E : XK} (lk : K.lookup f = some ⟨oc, od, .func (PySem.W.fnOf name qual params body scope dV kV doc pm an cdv ct), osl⟩) (hcd : PySem.W.codeIn K cdv qual = true) (Sc : FnScope N ps scope)
    (hb : PlainFd (PySem.W.fnOf name qual params body scope dV kV doc pm an cdv ct) ps) (hr : Room (k + 1) A) (e0 : Env0 P w K mg base A outer sh H) (rv : Vals vs us) (har : ArgAs K f ar us) (hl : us.length = ps.length)
    (hbody : ∀ s2 : Shared, Room k (A.deeper (envOfC qual scope s2.heap.objs.size f cdv)) →
      ∃ t, PSs (cxOf (CX P w) P w K mg base N qual scope f cdv A outer s2 H E) body t ∧ t { nx := fun _ H' => Q .non H', rt := Q } (L2.start N vs) H) :
    codeAny (model P w) A (.call (.ref f) ar) (CR (CX P w) outer P w H sh Q E) sh := by
  refine StX.run_bnd lk hcd Sc hr e0 (G := fun ws H2 => H2 = H ∧ ws = vs) (fun A' Ex Q' h => ?_) fun s2 H2 ws ⟨e1, e2⟩ hr' => ?_
  · rw [har _ _ _ _ lk, bind_plain hb.h1 hb.h2 hb.h3 hb.h4 hb.h5 (by rw [hb.nm]; exact hb.nd) (by rw [hb.nm]; exact hl), hb.nm]
    exact wpAny_pure (h sh H vs us e0 Un.refl rfl (fun _ _ z => z) rv (by rw [rv.length]; exact hl) ⟨rfl, rfl⟩)
  · subst e1 e2
    exact hbody s2 hr'

/-- `_law_pen`: what it makes of the script -/
def spPen (K : PySem.W.Frag) : Sp := fun vs H Q _ => ∃ (a : Addr) (ns : List Int), vs = [.ref a] ∧ SqL K H a (ns.map V.int) ∧ ns.length ≤ 63 ∧
  ∀ n1 n2 n3 H', H n1 = none → H n2 = none → H n3 = none → n1 ≠ n2 → n1 ≠ n3 → n2 ≠ n3 → H' = upd (upd (upd H n1 (.lst (ns.map V.int))) n2 (.lst (ns.map V.int))) n3 (.lst [.ref n2, .int 0, .int 0]) → Q (.ref n3) H'
structure PenPat where
  l : Str
  x : Str
  n : Int
  i : Int
  j : Int
def penPat : List Stmt → Option PenPat
  | [.Return (some (.List [.Call (.Name l _) [.Subscript (.Name x _) (.Slice none (some (.Constant (.int n) _ _)) none _) _] [] _, .Constant (.int i) _ _, .Constant (.int j) _ _] _)) _] => some ⟨l, x, n, i, j⟩
  | _ => none
theorem penPat_of {b : List Stmt} {p : PenPat} (h : penPat b = some p) : ∃ p1 p2 k3 p3 p4 p5 p6 k7 p7 k8 p8 p9 p10, b = [.Return (some (.List [.Call (.Name p.l p1) [.Subscript (.Name p.x p2) (.Slice none (some (.Constant (.int p.n) k3 p3)) none p4) p5] [] p6, .Constant (.int p.i) k7 p7, .Constant (.int p.j) k8 p8] p9)) p10] := by
  unfold penPat at h
  split at h
  · cases h; exact ⟨_, _, _, _, _, _, _, _, _, _, _, _, _, rfl⟩
  · cases h
theorem cut63 {xs : List V} (h : xs.length ≤ 63) : cutV xs none (some 63) = xs := by
  unfold cutV
  have e1 : HT.sIx xs.length 0 none = 0 := rfl
  have e2 : HT.sIx xs.length xs.length (some 63) = xs.length := by
    simp only [HT.sIx]
    first | omega | (split <;> omega) | skip
  rw [e1, e2]; simp
def visC (sc : Scope) (x : Str) : Bool := decide (sc.names.lookup x = some .local) || decide (sc.names.lookup x = some .cell)
/-- the def's own part of the check -/
def ownFnC (K : Frag) (fd : FuncData) (N ps : List Str) : Bool := decide (fd.globals = mainGlobals) && fd.closure.isEmpty && decide (fd.builtins = builtinsNs) && codeIn K fd.code fd.qualname && scC N ps fd.scope && plainC fd ps && decide (ps.length ≤ N.length)
def penC (K : Frag) (a : Addr) : Bool :=
  match K.lookup a with
  | some ⟨_, _, .func fd, _⟩ => match fd.body with
    | .stmts body => match penPat body with
      | some p => ownFnC K fd [p.x] [p.x] && decide (p.l = ("list" : Str)) && decide (p.n = 63) && decide (p.i = 0) && decide (p.j = 0) && decide (fd.scope.names.lookup ("list" : Str) = some .globalImplicit) && visC fd.scope p.x && okNm p.x && (nsIn K mainGlobals ("list" : Str) == some none)
      | none => false
    | _ => false
  | _ => false
theorem pen_rg (h : penC K f = true) (hm : mg "list" = none) : FnRg P w K mg base (CX P w) 1 f (spPen K) := by
  unfold penC at h
  split at h
  · rename_i oc od fd osl lk
    split at h
    · rename_i body hb
      split at h
      · rename_i p hp
        obtain ⟨p1, p2, k3, p3, p4, p5, p6, k7, p7, k8, p8, p9, p10, rfl⟩ := penPat_of hp
        obtain ⟨l, x, n, i, j⟩ := p
        simp only [Bool.and_eq_true, decide_eq_true_eq, ownFnC, List.isEmpty_iff] at h
        obtain ⟨⟨⟨⟨⟨⟨⟨⟨⟨⟨⟨⟨⟨⟨h1, h2⟩, h3⟩, h4⟩, h5⟩, h6⟩, h7⟩, rfl⟩, rfl⟩, rfl⟩, rfl⟩, hg⟩, hv⟩, ho⟩, _⟩ := h
        obtain ⟨name, qual, params, body', scope, globals, closure, dV, kV, doc, pm, an, cdv, ct, bl⟩ := fd
        simp only at hb h1 h2 h3 h4 h5 h6 hg hv
        subst hb h1 h2 h3
        have Sc := scC_ok h5
        simp only [plainC, Bool.and_eq_true, decide_eq_true_eq, List.isEmpty_iff, Option.isNone_iff_eq_none] at h6
        obtain ⟨⟨⟨⟨⟨⟨g1, g2⟩, g3⟩, g4⟩, g5⟩, g6⟩, g7⟩ := h6
        intro A outer sh H us vs Q E hr hgd e0 rv hsp ar har
        obtain ⟨a, ns, rfl, hS, hlen, hq⟩ := hsp
        refine run_pl (k := 0) lk h4 Sc ⟨g1, g2, g3, g4, g5, g6, g7⟩ hr e0 rv har (by rw [← rv.length]; rfl) fun s2 hr' => ?_
        have vis : Vis scope x := by
          simp only [visC, Bool.or_eq_true, decide_eq_true_eq] at hv
          rcases hv with z | z
          · exact .inl z
          · exact .inr (.inl z)
        have pv0 : ∀ {pos : Pos}, PE (cxOf (CX P w) P w K mg base [x] qual scope f cdv A outer s2 H E) (.Name x pos) (tVar 0) := fun {pos} => pe_var rfl vis (okNm_of ho).1 (okNm_of ho).2
        refine ⟨_, pss_one (ps_ret (pe_lst (pa_cons (pe_callTy call_list_of hg hm Bi.list.boot (pa_cons (pe_slice sl_list pv0 po_none (po_some pe_int)) pa_nil)) (pa_cons pe_int (pa_cons pe_int pa_nil))))), ?_⟩
        refine ⟨.ref a, rfl, 63, rfl, a, ns.map V.int, rfl, hS, fun n1 hn1 => ?_⟩
        rw [cut63 (by simpa using hlen)]
        refine ⟨n1, ns.map V.int, rfl, .inl (SqL.of upd_same), fun n2 hn2 => ⟨by rw [sizeLine_eq]; show 3 ≤ _; decide, fun n3 hn3 => ?_⟩⟩
        have n12 : n1 ≠ n2 := by rintro rfl; rw [upd_same] at hn2; cases hn2
        have n23 : n2 ≠ n3 := by rintro rfl; rw [upd_same] at hn3; cases hn3
        rw [upd_ne (Ne.symm n12)] at hn2
        rw [upd_ne (Ne.symm n23)] at hn3
        have n13 : n1 ≠ n3 := by rintro rfl; rw [upd_same] at hn3; cases hn3
        rw [upd_ne (Ne.symm n13)] at hn3
        exact hq n1 n2 n3 _ hn1 hn2 hn3 n12 n13 n23 rfl
      · cases h
    · cases h
  · cases h

/-! ### the law's own def -/
structure LawPat where
  pn : Str
  fn : Str
  sx : Str
  px : Pos
  p1 : Pos
  p2 : Pos
  p3 : Pos
  p4 : Pos
  rest : List Stmt
def lawPat : List Stmt → Option LawPat
  | .Assign [.Name pn px] (.Call (.Name fn p1) [.Name sx p2] [] p3) p4 :: rest => some ⟨pn, fn, sx, px, p1, p2, p3, p4, rest⟩
  | _ => none
theorem lawPat_of {b : List Stmt} {p : LawPat} (h : lawPat b = some p) : b = .Assign [.Name p.pn p.px] (.Call (.Name p.fn p.p1) [.Name p.sx p.p2] [] p.p3) p.p4 :: p.rest := by
  unfold lawPat at h
  split at h
  · cases h; rfl
  · cases h
/-- the check of the law's def: pa the address of `_law_pen` -/
def lawC (K : Frag) {S : Type} (d : PD S) (fa pa : Addr) (N : List Str) (cs : CSs) : Bool :=
  match K.lookup fa with
  | some ⟨_, _, .func fd, _⟩ => match fd.body with
    | .stmts body => match lawPat body with
      | some p => ownFnC K fd N [p.sx] && decide (N[0]? = some p.sx) && decide (N[1]? = some p.pn) && decide (2 ≤ N.length) && isLoc ⟨N, fd.scope, fun _ => true⟩ p.pn && isVis ⟨N, fd.scope, fun _ => true⟩ p.sx && okNm p.sx && okNm p.fn && isGl ⟨N, fd.scope, fun _ => true⟩ p.fn &&
          (nsIn K mainGlobals p.fn == some (some (.ref pa))) && keepIn K (.ref pa) && penC K pa && (nsIn K mainGlobals ("list" : Str) == some none) && chkSs d.tab fuel ⟨N, fd.scope, fun _ => true⟩ p.rest cs
      | none => false
    | _ => false
  | _ => false
theorem pe_callRg {X : Cx} {W : WX} {sp : Sp} {k : Nat} {f : Addr} {x : Str} {p pos : Pos} {e : Expr} {es : List Expr} {t : TA} (F : FnRg X.prog X.w X.K X.mg X.base (CX X.prog X.w) k f sp) (hr : Room k X.A) (hgd : X.A.guards = some []) (hk : keepIn X.K (.ref f) = true) (tk : Takes X W) (hg : Gl X x) (hm : X.mg x = some (.ref f)) (ha : PA X (e :: es) t)
    (hd : (x == ("__debug__" : Str)) = false) (he : starEach (e :: es) X.env = (false, eval e X.env) :: starEach es X.env) (hpl : (backTo pos (starEach es X.env)).any (·.1) = false) : PE X (.Call (.Name x p) (e :: es) [] pos) (fun σ H Q => t σ H fun vs H1 => sp vs H1 Q (fun c d H' => W c d σ H')) := by
  refine ⟨fun pins s σ H Q I h => ?_⟩
  refine wpAny_Call_Name_kw (ld_glob I hg hm ?_ hd)
  refine PySem.W.callWith_K (h₀ := X.base) I.ok.mod.kin hk (thn (ha.run pos pins s σ H _ I h) fun us s1 ⟨vs, H1, I1, r, q⟩ => ⟨I1.kIn, wpAny_call ?_⟩) he hpl
  refine codeAny_mono (F X.A X.stack s1 H1 us vs Q _ hr hgd I1.env0 r q _ ArgAs.rfl) fun r s' hq => ?_
  cases r with
  | error e => exact tk e s' (XE.of_call I1 (fun cls d H' z => z) hq)
  | ok fl =>
    cases fl with
    | ret u => exact I1.after hq
    | next => exact False.elim hq
    | brk => exact False.elim hq
    | cont => exact False.elim hq
def spLaw (K : PySem.W.Frag) : Sp := fun vs H Q _ => ∃ (a : Addr) (ns : List Int), vs = [.ref a] ∧ SqL K H a (ns.map V.int) ∧ ns.length ≤ 63 ∧ ∀ H', Q (.bl true) H'
/-- the slots at the law's second statement -/
def lawτ (n : Nat) : List Slot := .none :: .fz .pen :: List.replicate (n - 2) .none
/-- what is asked of the interpreter -/
def LawRuns (d : PD LP) (n m : Nat) (cs : CSs) : Prop := ∀ cells : List Int, cells.length ≤ 63 → ∃ τ s, exs d.pt (callN d.prg n) (mkN d.prg n) cs (lawτ m) ⟨cells, 0, 0⟩ = .ok (.ret (.bl true)) τ s
theorem law_rg {d : PD LP} {fa pa : Addr} {cs : CSs} {n : Nat} (hd : pdC K d = true) (hext : ∀ f g, d.fns.getD f .none ≠ .ext g) (h : lawC K d fa pa N cs = true) {hp : Heap} (hK : K.In hp) (hG : hp.Ns mainGlobals mg) (run : LawRuns d n N.length cs) :
    FnRg P w K mg base (CX P w) (3 * n + 3) fa (spLaw K) := by
  unfold lawC at h
  split at h
  · rename_i oc od fd osl lk
    split at h
    · rename_i body hb
      split at h
      · rename_i p hpp
        have eb := lawPat_of hpp
        subst eb
        obtain ⟨pn, fn, sx, px, p1, p2, p3, p4, rest⟩ := p
        simp only [Bool.and_eq_true, decide_eq_true_eq, ownFnC, List.isEmpty_iff] at h
        obtain ⟨⟨⟨⟨⟨⟨⟨⟨⟨⟨⟨⟨⟨⟨⟨⟨⟨⟨⟨h1, h2⟩, h3⟩, h4⟩, h5⟩, h6⟩, h7⟩, n0⟩, n1⟩, hN⟩, hloc⟩, hvis⟩, ho⟩, ho2⟩, hgl⟩, hns⟩, hkp⟩, hpen⟩, hlst⟩, hchk⟩ := h
        obtain ⟨name, qual, params, body', scope, globals, closure, dV, kV, doc, pm, an, cdv, ct, bl⟩ := fd
        simp only at hb h1 h2 h3 h4 h5 h6 hloc hvis hgl hchk
        subst hb h1 h2 h3
        have Sc := scC_ok h5
        simp only [plainC, Bool.and_eq_true, decide_eq_true_eq, List.isEmpty_iff, Option.isNone_iff_eq_none] at h6
        obtain ⟨⟨⟨⟨⟨⟨g1, g2⟩, g3⟩, g4⟩, g5⟩, g6⟩, g7⟩ := h6
        have hmp : mg fn = some (.ref pa) := mg_of hK hG (beq_iff_eq.mp hns)
        have hml : mg "list" = none := mg_none_of hK hG (beq_iff_eq.mp hlst)
        intro A outer sh H us vs Q E hr hgd e0 rv hsp ar har
        obtain ⟨a, ns, rfl, hS, hlen, hq⟩ := hsp
        refine run_pl (k := 3 * n + 2) lk h4 Sc ⟨g1, g2, g3, g4, g5, g6, g7⟩ hr e0 rv har (by rw [← rv.length]; rfl) fun s2 hr' => ?_
        have bodyP : ∀ i : Addr × Addr × List Int, PSs (cxOf (CX P w) P w K mg base N qual scope fa cdv A outer s2 H E) rest (tDSs (d.Z K i.1 (lpn i.2.1 i.2.2) n) ⟨fun _ => none, 0⟩ (fun c d _ H' => E c d H') cs) := fun i => by
          have ok : PdOk K d i.1 := pdC_ok hd
          have mo := mgOk_of ok.tab hK hG
          have D := deep_all (P := P) (w := w) (base := base) (pn := lpn i.2.1 i.2.2) (fun n => lp_ok rfl) ok mo (fun f g e => absurd e (hext f g)) n
          exact body_ok (b := ⟨0, false, [], 0, cs⟩) (f := 0) (lp_ok rfl) ok mo D Sc hchk A outer s2 H E _ hr' hgd
        have vis : Vis scope sx := by
          simp only [isVis, Bool.or_eq_true, decide_eq_true_eq] at hvis
          rcases hvis with (z | z) | z
          · exact .inl z
          · exact .inr (.inl z)
          · exact .inr (.inr z)
        have hl1 : N[1]? = some pn := n1
        have loc : L2.Loc scope pn := by
          simp only [isLoc, Bool.or_eq_true, decide_eq_true_eq, Bool.and_eq_true] at hloc
          rcases hloc with z | z
          · exact .inl z
          · exact .inr z.1
        have hgl2 : Gl (cxOf (CX P w) P w K mg base N qual scope fa cdv A outer s2 H E) fn := by
          have z0 : decide (scope.names.lookup fn = some .globalImplicit) = true := hgl
          have z : scope.names.lookup fn = some .globalImplicit := of_decide_eq_true z0
          exact z
        refine ⟨_, pss_cons (ps_asg (pe_callRg (W := fun c d _ H' => E c d H') (k := 1) (pen_rg hpen hml) (hr'.mono (by omega)) hgd hkp (takes_of rfl rfl rfl rfl) hgl2 hmp (pa_cons (pe_var n0 vis (okNm_of ho).1 (okNm_of ho).2) pa_nil rfl) (okNm_of ho2).1 rfl rfl) (pg_name (i := 1) Sc.nd n1 loc (.inl rfl)) rfl rfl rfl) (PSs.any bodyP), ?_⟩
        have s0 : (L2.start N [V.ref a])[0]? = some (some (.ref a)) := by
          unfold L2.start; rfl
        refine ⟨.ref a, s0, a, ns, rfl, hS, hlen, fun b1 b2 b3 H' f1 f2 f3 d12 d13 d23 eH => ?_⟩
        subst eH
        obtain ⟨τ', s', er⟩ := run ns hlen
        refine ⟨(b3, b2, ns), fun x => if x = b2 then some (.lst (ns.map V.int)) else none, lawτ N.length, ⟨ns, 0, 0⟩, ?_, ?_⟩
        · have hlenS : (L2.start N [V.ref a]).length = N.length := start_len (by simp; omega)
          refine ⟨fun x o e => ?_, upd_same, if_neg (Ne.symm d23), ⟨rfl, if_pos rfl⟩, fun x o e => (by cases e), ?_, fun i x e => ?_, fun i j x y b _ e1 _ o1 _ _ _ => ?_⟩
          · by_cases z : x = b2
            · subst z
              rw [if_pos rfl] at e; cases e
              rw [upd_ne d23, upd_same]
            · rw [if_neg z] at e; cases e
          · rw [List.length_set, hlenS]
            simp [lawτ]; omega
          · match i with
            | 0 => cases e; trivial
            | 1 =>
              cases e
              refine ⟨.ref b3, ?_, rfl⟩
              rw [List.getD_eq_getElem?_getD, List.getElem?_set_self (by rw [hlenS]; omega)]; rfl
            | i + 2 =>
              have e' : (List.replicate (N.length - 2) Slot.none)[i]? = some x := e
              rw [List.getElem?_replicate] at e'
              split at e' <;> cases e'
              trivial
          · exfalso
            match i with
            | 0 => cases e1; cases o1
            | 1 => cases e1; cases o1
            | i + 2 =>
              have e' : (List.replicate (N.length - 2) Slot.none)[i]? = some x := e1
              rw [List.getElem?_replicate] at e'
              split at e' <;> cases e'
              cases o1
        · have er' : exs (d.Z K b3 (lpn b2 ns) n).P (d.Z K b3 (lpn b2 ns) n).call (d.Z K b3 (lpn b2 ns) n).make cs (lawτ N.length) ⟨ns, 0, 0⟩ = .ok (.ret (.bl true)) τ' s' := er
          rw [er']
          intro v σ' H' F' _ _ r
          cases r
          exact hq H'
      · cases h
    · cases h
  · cases h
end
end Rz
namespace Rz
open PySem PySem.Spec PySem.W PyProof.Rows L2
def noExt {S : Type} : List (FnD S) → Bool
  | [] => true
  | .ext _ :: _ => false
  | _ :: r => noExt r
theorem noExt_ok {S : Type} : ∀ {l : List (FnD S)}, noExt l = true → ∀ f g, l.getD f .none ≠ .ext g
  | [], _, f, g, e => by cases f <;> cases e
  | .ext _ :: _, h, _, _, _ => by cases h
  | .code b :: r, h, 0, g, e => by cases e
  | .none :: r, h, 0, g, e => by cases e
  | .code b :: r, h, f + 1, g, e => noExt_ok (l := r) h f g (by simpa using e)
  | .none :: r, h, f + 1, g, e => noExt_ok (l := r) h f g (by simpa using e)
end Rz
end

section
set_option autoImplicit false
set_option Elab.async false
set_option linter.all false
set_option maxHeartbeats 1000000
set_option maxRecDepth 100000
/-! Reckoning with the interpreter: loops, comprehensions. -/
namespace Rz
open PySem L2
section
variable {S : Type}
/-- a for whose turns all go on -/
theorem forL_inv {b : D → List Slot → S → Out S Fl} (I : Nat → List Slot → S → Prop) : ∀ (ds : List D) (k : Nat) (τ : List Slot) (s : S),
    (∀ i d τ s, ds[i]? = some d → I (k + i) τ s → ∃ τ' s', b d τ s = .ok .next τ' s' ∧ I (k + i + 1) τ' s') → I k τ s → ∃ τ' s', forL b ds τ s = .ok .next τ' s' ∧ I (k + ds.length) τ' s'
  | [], k, τ, s, _, h0 => ⟨τ, s, rfl, h0⟩
  | d :: r, k, τ, s, h, h0 => by
    obtain ⟨τ1, s1, e1, h1⟩ := h 0 d τ s rfl h0
    obtain ⟨τ2, s2, e2, h2⟩ := forL_inv I r (k + 1) τ1 s1 (fun i d' τ s e hi => by
      have := h (i + 1) d' τ s (by simpa using e) (by rw [show k + (i + 1) = k + 1 + i by omega]; exact hi)
      rw [show k + (i + 1) + 1 = k + 1 + i + 1 by omega] at this
      exact this) h1
    refine ⟨τ2, s2, ?_, by rw [List.length_cons, show k + (r.length + 1) = k + 1 + r.length by omega]; exact h2⟩
    simp only [forL, e1, Out.bind]
    exact e2
/-- the same where the state is a function of the turn -/
theorem forL_seq {b : D → List Slot → S → Out S Fl} {s : S} (τs : Nat → List Slot) (ds : List D) (h : ∀ i d, ds[i]? = some d → b d (τs i) s = .ok .next (τs (i + 1)) s) : forL b ds (τs 0) s = .ok .next (τs ds.length) s := by
  obtain ⟨τ', s', e, h1, h2⟩ := forL_inv (b := b) (fun i τ s' => τ = τs i ∧ s' = s) ds 0 (τs 0) s (fun i d τ s' e ⟨e1, e2⟩ => ⟨τs (i + 1), s, by rw [e1, e2, Nat.zero_add]; exact h i d e, by rw [Nat.zero_add], rfl⟩) ⟨rfl, rfl⟩
  rw [e, h1, h2, Nat.zero_add]
/-- a while by its states -/
theorem whileL_seq {c : List Slot → S → Out S Bool} {b : List Slot → S → Out S Fl} {s : S} (τs : Nat → List Slot) : ∀ (k n i : Nat), k < n → (∀ j, j < k → c (τs (i + j)) s = .ok true (τs (i + j)) s ∧ b (τs (i + j)) s = .ok .next (τs (i + j + 1)) s) → c (τs (i + k)) s = .ok false (τs (i + k)) s → whileL c b n (τs i) s = .ok .next (τs (i + k)) s
  | 0, n + 1, i, _, _, he => by
    simp only [Nat.add_zero] at he ⊢
    simp only [whileL, he, Out.bind, cond_false]
  | k + 1, n + 1, i, hn, h, he => by
    obtain ⟨h1, h2⟩ := h 0 (Nat.succ_pos _)
    simp only [Nat.add_zero] at h1 h2
    simp only [whileL, h1, h2, Out.bind, cond_true]
    rw [show i + (k + 1) = i + 1 + k by omega] at he ⊢
    exact whileL_seq τs k n (i + 1) (by omega) (fun j hj => by
      have := h (j + 1) (by omega)
      rw [show i + (j + 1) = i + 1 + j by omega] at this
      exact this) he
theorem wipeT_wipeT (τ : List Slot) : ∀ (is : List Nat), wipeT (wipeT τ is) is = wipeT τ is := by
  have comm : ∀ (is : List Nat) (τ : List Slot) (i : Nat), wipeT (τ.set i .none) is = (wipeT τ is).set i .none := by
    intro is
    induction is with
    | nil => intro τ i; rfl
    | cons j is ih =>
      intro τ i
      show (wipeT (τ.set i .none) is).set j .none = ((wipeT τ is).set j .none).set i .none
      rw [ih]
      by_cases h : i = j
      · subst h; rfl
      · rw [List.set_comm _ _ h]
  intro is
  induction is generalizing τ with
  | nil => rfl
  | cons j is ih =>
    show (wipeT ((wipeT τ is).set j .none) is).set j .none = (wipeT τ is).set j .none
    rw [comm, ih, List.set_set]
theorem backT_wipe (τ0 τ : List Slot) : ∀ (is : List Nat), backT τ0 τ is = backT τ0 (wipeT τ is) is := by
  have comm : ∀ (is : List Nat) (τ : List Slot) (i : Nat) (x : Slot), backT τ0 (τ.set i x) is = (if i ∈ is then backT τ0 τ is else (backT τ0 τ is).set i x) := by
    intro is
    induction is with
    | nil => intro τ i x; rfl
    | cons j is ih =>
      intro τ i x
      show (backT τ0 (τ.set i x) is).set j (Slot.back τ0[j]?) = _
      rw [ih]
      by_cases h : i = j
      · subst h
        simp only [List.mem_cons, true_or, if_true]
        by_cases h2 : i ∈ is
        · rw [if_pos h2]; rfl
        · rw [if_neg h2, List.set_set]; rfl
      · by_cases h2 : i ∈ is
        · rw [if_pos h2, if_pos (List.mem_cons_of_mem _ h2)]; rfl
        · rw [if_neg h2, if_neg (fun z => by rcases List.mem_cons.mp z with z | z; exact h z; exact h2 z), List.set_comm _ _ h]; rfl
  intro is
  induction is generalizing τ with
  | nil => rfl
  | cons j is ih =>
    show (backT τ0 τ is).set j _ = (backT τ0 ((wipeT τ is).set j .none) is).set j _
    rw [comm]
    by_cases h : j ∈ is
    · rw [if_pos h, ← ih]
    · rw [if_neg h, List.set_set, ← ih]
/-- a comprehension whose turns leave the state -/
theorem lcL_map {body : D → List Slot → S → Out S (Option D)} {is : List Nat} {s : S} {τw : List Slot} (g : D → Option D) : ∀ (ds acc : List D) (τ : List Slot), wipeT τ is = τw → (∀ d ∈ ds, ∃ τ', body d τw s = .ok (g d) τ' s ∧ wipeT τ' is = τw) →
    ∃ τ', lcL body is ds acc τ s = .ok (acc ++ ds.filterMap g) τ' s ∧ wipeT τ' is = τw
  | [], acc, τ, h, _ => ⟨τ, by simp [lcL], h⟩
  | d :: r, acc, τ, h, hb => by
    obtain ⟨τ1, e1, h1⟩ := hb d List.mem_cons_self
    cases hg : g d with
    | none =>
      obtain ⟨τ2, e2, h2⟩ := lcL_map g r acc τ1 h1 (fun d' m => hb d' (List.mem_cons_of_mem _ m))
      refine ⟨τ2, ?_, h2⟩
      simp only [lcL, h, e1, Out.bind, hg, List.filterMap_cons]
      exact e2
    | some x =>
      obtain ⟨τ2, e2, h2⟩ := lcL_map g r (acc ++ [x]) τ1 h1 (fun d' m => hb d' (List.mem_cons_of_mem _ m))
      refine ⟨τ2, ?_, h2⟩
      simp only [lcL, h, e1, Out.bind, hg, List.filterMap_cons]
      rw [e2, List.append_assoc]; rfl
/-- the same with the state going on -/
theorem lcL_inv {body : D → List Slot → S → Out S (Option D)} {is : List Nat} {τw : List Slot} (I : Nat → List D → S → Prop) : ∀ (ds acc : List D) (τ : List Slot) (k : Nat) (s : S), wipeT τ is = τw →
    (∀ i d acc s, ds[i]? = some d → I (k + i) acc s → ∃ x τ' s', body d τw s = .ok (some x) τ' s' ∧ wipeT τ' is = τw ∧ I (k + i + 1) (acc ++ [x]) s') → I k acc s →
    ∃ acc' τ' s', lcL body is ds acc τ s = .ok acc' τ' s' ∧ wipeT τ' is = τw ∧ I (k + ds.length) acc' s'
  | [], acc, τ, k, s, h, _, h0 => ⟨acc, τ, s, rfl, h, h0⟩
  | d :: r, acc, τ, k, s, h, hb, h0 => by
    obtain ⟨x, τ1, s1, e1, h1, i1⟩ := hb 0 d acc s rfl h0
    obtain ⟨acc2, τ2, s2, e2, h2, i2⟩ := lcL_inv I r (acc ++ [x]) τ1 (k + 1) s1 h1 (fun i d' a s e hi => by
      have := hb (i + 1) d' a s (by simpa using e) (by rw [show k + (i + 1) = k + 1 + i by omega]; exact hi)
      rw [show k + (i + 1) + 1 = k + 1 + i + 1 by omega] at this
      exact this) i1
    refine ⟨acc2, τ2, s2, ?_, h2, by rw [List.length_cons, show k + (r.length + 1) = k + 1 + r.length by omega]; exact i2⟩
    simp only [lcL, h, e1, Out.bind]
    exact e2
theorem exs_next [Pen S] {P : Pt} {call mk : Nat → List D → S → CRes S} {c : CS} {r : CSs} {τ τ' : List Slot} {s s' : S} (h : ex P call mk c τ s = .ok .next τ' s') : exs P call mk (.cons c r) τ s = exs P call mk r τ' s' := by
  simp only [exs, h, Out.bind]
theorem exs_ret [Pen S] {P : Pt} {call mk : Nat → List D → S → CRes S} {c : CS} {r : CSs} {τ τ' : List Slot} {s s' : S} {d : D} (h : ex P call mk c τ s = .ok (.ret d) τ' s') : exs P call mk (.cons c r) τ s = .ok (.ret d) τ' s' := by
  simp only [exs, h, Out.bind]
theorem runF_ret [Pen S] {P : Pt} {call mk : Nat → List D → S → CRes S} {f : Fn} {ds xs : List D} {τ' : List Slot} {s s' : S} {d : D} (hb : bindF f ds = some xs) (h : exs P call mk f.body (start' f.ns xs) s = .ok (.ret d) τ' s') : runF P call mk f ds s = .ok d s' := by
  simp only [runF, hb, h]
theorem runF_next [Pen S] {P : Pt} {call mk : Nat → List D → S → CRes S} {f : Fn} {ds xs : List D} {τ' : List Slot} {s s' : S} (hb : bindF f ds = some xs) (h : exs P call mk f.body (start' f.ns xs) s = .ok .next τ' s') : runF P call mk f ds s = .ok .non s' := by
  simp only [runF, hb, h]
theorem runI_next [Pen S] {P : Pt} {call mk : Nat → List D → S → CRes S} {f : Fn} {c : Nat} {x : D} {ds xs fs : List D} {τ' : List Slot} {s s' : S} (hb : bindF f (.non :: ds) = some (x :: xs)) (h : exs P call mk f.body (.ownI c [] :: start' (f.ns - 1) xs) s = .ok .next (.ownI c fs :: τ') s') : runI P call mk f c ds s = .ok (.ins c fs) s' := by
  simp only [runI, hb, h, madeI]
  rfl
theorem ex_ite [Pen S] {P : Pt} {call mk : Nat → List D → S → CRes S} {c : CE} {a b : CSs} {τ τ' : List Slot} {s s' : S} {t : Bool} (h : evTs P call mk c τ s = .ok t τ s') : ex P call mk (.ite c a b) τ s = bif t then exs P call mk a τ s' else exs P call mk b τ s' := by
  simp only [ex, h, Out.bind]
theorem ex_for [Pen S] {P : Pt} {call mk : Nat → List D → S → CRes S} {tg : Tg} {it : CI} {b : CSs} {τ τ1 : List Slot} {s s1 : S} {ds : List D} (h : evI P call mk it τ s = .ok ds τ1 s1) : ex P call mk (.for tg it b) τ s = forL (fun d τ s => match bindT tg d τ with
      | some τ => exs P call mk b τ s
      | none => .no) ds τ1 s1 := by
  simp only [ex, h, Out.bind]
  all_goals rfl
/-- a comprehension's turn -/
def lcB [Pen S] (P : Pt) (call mk : Nat → List D → S → CRes S) (elt : CE) (tg : Tg) (cs : CAs) (d : D) (τ : List Slot) (s : S) : Out S (Option D) :=
  match bindT tg d τ with
  | some τ => ((evC P call mk cs τ s).bind fun b τ s => bif b then (ev P call mk elt τ s).bind fun x τ s => .ok (some x) τ s else .ok none τ s).nx
  | none => .no
theorem evW_lc [Pen S] {P : Pt} {call mk : Nat → List D → S → CRes S} {elt : CE} {tg : Tg} {it : CI} {cs : CAs} {τ : List Slot} {s : S} : evW P call mk (.lc elt tg it cs) τ s = (evI P call mk it τ s).bind fun ds τ1 s => bif lim ds.length then (lcL (lcB P call mk elt tg cs) tg.slots ds [] τ1 s).bind (fun acc τ2 s => .ok acc (backT τ1 τ2 tg.slots) s) else .no := by
  simp only [evW]; rfl
theorem evW_map [Pen S] {P : Pt} {call mk : Nat → List D → S → CRes S} {elt : CE} {tg : Tg} {it : CI} {cs : CAs} {τ τ1 τw : List Slot} {s s1 : S} {ds : List D} (g : D → Option D) (hi : evI P call mk it τ s = .ok ds τ1 s1) (hl : ds.length ≤ 100000) (hw : wipeT τ1 tg.slots = τw)
    (hb : ∀ d ∈ ds, ∃ τ', lcB P call mk elt tg cs d τw s1 = .ok (g d) τ' s1 ∧ wipeT τ' tg.slots = τw) : evW P call mk (.lc elt tg it cs) τ s = .ok (ds.filterMap g) (backT τ1 τw tg.slots) s1 := by
  obtain ⟨τ2, e2, h2⟩ := lcL_map (body := lcB P call mk elt tg cs) g ds [] τ1 hw hb
  rw [List.nil_append] at e2
  rw [evW_lc, hi]
  simp only [Out.bind, show lim ds.length = true from decide_eq_true hl, cond_true, e2]
  show Out.ok _ (backT τ1 τ2 tg.slots) s1 = _
  rw [backT_wipe, h2]
theorem evW_inv [Pen S] {P : Pt} {call mk : Nat → List D → S → CRes S} {elt : CE} {tg : Tg} {it : CI} {cs : CAs} {τ τ1 τw : List Slot} {s s1 : S} {ds : List D} (I : Nat → List D → S → Prop) (hi : evI P call mk it τ s = .ok ds τ1 s1) (hl : ds.length ≤ 100000) (hw : wipeT τ1 tg.slots = τw)
    (hb : ∀ i d acc s, ds[i]? = some d → I i acc s → ∃ x τ' s', lcB P call mk elt tg cs d τw s = .ok (some x) τ' s' ∧ wipeT τ' tg.slots = τw ∧ I (i + 1) (acc ++ [x]) s') (h0 : I 0 [] s1) : ∃ acc s2, evW P call mk (.lc elt tg it cs) τ s = .ok acc (backT τ1 τw tg.slots) s2 ∧ I ds.length acc s2 := by
  obtain ⟨acc, τ2, s2, e2, h2, i2⟩ := lcL_inv (body := lcB P call mk elt tg cs) I ds [] τ1 0 s1 hw (fun i d acc s e h => by rw [Nat.zero_add] at h ⊢; exact hb i d acc s e h) h0
  rw [Nat.zero_add] at i2
  refine ⟨acc, s2, ?_, i2⟩
  rw [evW_lc, hi]
  simp only [Out.bind, show lim ds.length = true from decide_eq_true hl, cond_true, e2]
  show Out.ok _ (backT τ1 τ2 tg.slots) s2 = _
  rw [backT_wipe, h2]
end
end Rz
end

section
set_option Elab.async false
set_option linter.all false
set_option maxHeartbeats 0
set_option maxRecDepth 100000
namespace K11
open PySem PySem.Spec PySem.W PyProof.Rows L2 Rz
/-! the tables of law_k11_falls_sums_and_thinned_courses, printed by pr.py -/
def f1_is_whole : Fn := ⟨1, false, [], 1, (.cons (.ret (.and (.isi (.v 0) [.ty "int"]) (.not (.isi (.v 0) [.ty "bool"])))) .nil)⟩
def f2_is_between : Fn := ⟨3, false, [], 3, (.cons (.ret (.and (.call 1 (.cons false (.v 0) .nil)) (.chain .LtE .LtE (.v 1) (.v 0) (.v 2)))) .nil)⟩
def f3_is_count : Fn := ⟨1, false, [], 1, (.cons (.ret (.call 2 (.cons false (.v 0) (.cons false (.k (.int 0)) (.cons false (.g 0) .nil))))) .nil)⟩
def f4_are_whole : Fn := ⟨1, false, [], 2, (.cons (.ret (.and (.isi (.v 0) [.ty "list", .ty "tuple"]) (.bi .all (.cons false (.nl (.lc (.call 1 (.cons false (.v 1) .nil)) (.one 1) (.e (.v 0)) .nil)) .nil)))) .nil)⟩
def f8_differences_of : Fn := ⟨1, false, [], 5, (.cons (.par2 1 2 (.w (.lst .nil)) (.f (.bi .list (.cons false (.v 0) .nil)))) (.cons (.while (.cmp .NotEq (.v 2) (.lst .nil)) (.cons (.append 1 false (.ix (.v 2) (.k (.int 0)))) (.cons (.set 2 false (.nl (.lc (.bin .Sub (.v 4) (.v 3)) (.many [3, 4]) (.zip (.v 2) (.sl (.v 2) (.yes (.k (.int 1))) .no)) .nil))) .nil))) (.cons (.ret (.v 1)) .nil)))⟩
def f9_combined : Fn := ⟨2, false, [], 4, (.cons (.set 2 false (.k (.int 1))) (.cons (.for (.one 3) (.r1 (.v 1)) (.cons (.set 2 false (.bin .FloorDiv (.bin .Mult (.v 2) (.bin .Sub (.v 0) (.v 3))) (.bin .Add (.v 3) (.k (.int 1))))) .nil)) (.cons (.ret (.v 2)) .nil)))⟩
def f10_Course__init_ : Fn := ⟨1, true, [], 3, (.cons (.ite (.not (.call 4 (.cons false (.v 1) .nil))) (.cons .never .nil) .nil) (.cons (.set 2 false (.bi .len (.cons false (.v 1) .nil))) (.cons (.while (.tand (.cmp .Gt (.v 2) (.k (.int 0))) (.cmp .Eq (.ix (.v 1) (.bin .Sub (.v 2) (.k (.int 1)))) (.k (.int 0)))) (.cons (.aug 2 .Sub false (.k (.int 1))) .nil)) (.cons (.setFld 40 (.bi .tuple (.cons false (.sl (.v 1) .no (.yes (.v 2))) .nil))) .nil))))⟩
def f11_Course_through : Fn := ⟨1, false, [], 2, (.cons (.ite (.not (.call 4 (.cons false (.v 0) .nil))) (.cons .never .nil) .nil) (.cons (.set 1 false (.call 8 (.cons false (.v 0) .nil))) (.cons (.ret (.make 0 (.cons true (.v 1) .nil))) .nil)))⟩
def f13_Course_degree : Fn := ⟨1, false, [], 1, (.cons (.ret (.bin .Sub (.bi .len (.cons false (.attr (.v 0) 40) .nil)) (.k (.int 1)))) .nil)⟩
def f14_Course_value_at : Fn := ⟨2, false, [], 6, (.cons (.par2 2 3 (.f (.k (.int 0))) (.f (.k (.int 1)))) (.cons (.for (.many [4, 5]) (.en (.attr (.v 0) 40)) (.cons (.aug 2 .Add false (.bin .Mult (.v 5) (.v 3))) (.cons (.set 3 false (.bin .FloorDiv (.bin .Mult (.v 3) (.bin .Sub (.v 1) (.v 4))) (.bin .Add (.v 4) (.k (.int 1))))) .nil))) (.cons (.ret (.v 2)) .nil)))⟩
def f16_Course_fall : Fn := ⟨1, false, [], 1, (.cons (.ret (.meth (.v 0) 41 (.cons false (.k (.int 1)) .nil))) .nil)⟩
def f17_Course_behind : Fn := ⟨2, false, [], 3, (.cons (.set 2 false (.sl (.attr (.v 0) 40) (.yes (.v 1)) .no)) (.cons (.ret (.make 0 (.cons true (.v 2) .nil))) .nil))⟩
def f18_Course_sums : Fn := ⟨1, false, [], 1, (.cons (.ret (.make 0 (.cons false (.k (.int 0)) (.cons true (.attr (.v 0) 40) .nil)))) .nil)⟩
def f19_Course_later : Fn := ⟨2, false, [], 6, (.cons (.ite (.not (.call 3 (.cons false (.v 1) .nil))) (.cons .never .nil) .nil) (.cons (.set 2 false (.bi .len (.cons false (.attr (.v 0) 40) .nil))) (.cons (.own 3 (.lst .nil)) (.cons (.for (.one 4) (.r1 (.v 2)) (.cons (.append 3 false (.bi .sum (.cons false (.nl (.lc (.bin .Mult (.ix (.attr (.v 0) 40) (.v 5)) (.call 9 (.cons false (.v 1) (.cons false (.bin .Sub (.v 5) (.v 4)) .nil)))) (.one 5) (.r2 (.v 4) (.v 2)) .nil)) .nil))) .nil)) (.cons (.ret (.make 0 (.cons true (.v 3) .nil))) .nil)))))⟩
def f20_Course_thinned : Fn := ⟨3, false, [], 4, (.cons (.ite (.tor (.not (.call 3 (.cons false (.v 1) .nil))) (.cmp .Eq (.v 1) (.k (.int 0)))) (.cons .never .nil) .nil) (.cons (.ite (.not (.call 3 (.cons false (.v 2) .nil))) (.cons .never .nil) .nil) (.cons (.ret (.smeth 0 42 (.cons false (.nl (.lc (.meth (.v 0) 43 (.cons false (.bin .Add (.bin .Mult (.v 1) (.v 3)) (.v 2)) .nil)) (.one 3) (.r1 (.bi .len (.cons false (.attr (.v 0) 40) .nil))) .nil)) .nil))) .nil)))⟩
def f26_Course_need_course : Fn := ⟨2, false, [], 2, (.cons (.ite (.not (.isi (.v 1) [.cl 0])) (.cons .never .nil) .nil) .nil)⟩
def f27_Course_added : Fn := ⟨3, false, [], 9, (.cons (.expr false (.meth (.v 0) 44 (.cons false (.v 1) .nil))) (.cons (.set 3 false (.bi .max (.cons false (.bi .len (.cons false (.attr (.v 0) 40) .nil)) (.cons false (.bi .len (.cons false (.attr (.v 1) 40) .nil)) .nil)))) (.cons (.set 4 false (.tup (.cons true (.attr (.v 0) 40) (.cons true (.bin .Mult (.lst (.cons false (.k (.int 0)) .nil)) (.bin .Sub (.v 3) (.bi .len (.cons false (.attr (.v 0) 40) .nil)))) .nil)))) (.cons (.set 5 false (.tup (.cons true (.attr (.v 1) 40) (.cons true (.bin .Mult (.lst (.cons false (.k (.int 0)) .nil)) (.bin .Sub (.v 3) (.bi .len (.cons false (.attr (.v 1) 40) .nil)))) .nil)))) (.cons (.set 6 false (.nl (.lc (.bin .Add (.v 7) (.bin .Mult (.v 2) (.v 8))) (.many [7, 8]) (.zip (.v 4) (.v 5)) .nil))) (.cons (.ret (.make 0 (.cons true (.v 6) .nil))) .nil))))))⟩
def f28_Course_multiplied_by : Fn := ⟨2, false, [], 4, (.cons (.ite (.not (.call 1 (.cons false (.v 1) .nil))) (.cons .never .nil) .nil) (.cons (.set 2 false (.nl (.lc (.bin .Mult (.v 3) (.v 1)) (.one 3) (.e (.attr (.v 0) 40)) .nil))) (.cons (.ret (.make 0 (.cons true (.v 2) .nil))) .nil)))⟩
def f29_Course__call_ : Fn := ⟨2, false, [], 2, (.cons (.ite (.not (.call 3 (.cons false (.v 1) .nil))) (.cons .never .nil) .nil) (.cons (.ret (.meth (.v 0) 43 (.cons false (.v 1) .nil))) .nil))⟩
def f30_Course__add_ : Fn := ⟨2, false, [], 2, (.cons (.ret (.meth (.v 0) 45 (.cons false (.v 1) (.cons false (.k (.int 1)) .nil)))) .nil)⟩
def f31_Course__radd_ : Fn := ⟨2, false, [], 2, (.cons (.ret (.meth (.v 0) 45 (.cons false (.v 1) (.cons false (.k (.int 1)) .nil)))) .nil)⟩
def f32_Course__sub_ : Fn := ⟨2, false, [], 2, (.cons (.ret (.meth (.v 0) 45 (.cons false (.v 1) (.cons false (.un .USub (.k (.int 1))) .nil)))) .nil)⟩
def f33_Course__rsub_ : Fn := ⟨2, false, [], 3, (.cons (.set 2 false (.un .USub (.v 0))) (.cons (.ret (.meth (.v 2) 45 (.cons false (.v 1) (.cons false (.k (.int 1)) .nil)))) .nil))⟩
def f34_Course__mul_ : Fn := ⟨2, false, [], 2, (.cons (.ret (.meth (.v 0) 46 (.cons false (.v 1) .nil))) .nil)⟩
def f35_Course__rmul_ : Fn := ⟨2, false, [], 2, (.cons (.ret (.meth (.v 0) 46 (.cons false (.v 1) .nil))) .nil)⟩
def f36_Course__neg_ : Fn := ⟨1, false, [], 1, (.cons (.ret (.meth (.v 0) 46 (.cons false (.un .USub (.k (.int 1))) .nil))) .nil)⟩
def f37_Course__bool_ : Fn := ⟨1, false, [], 1, (.cons (.ret (.bx .bool (.attr (.v 0) 40))) .nil)⟩
def f38_Course__eq_ : Fn := ⟨2, false, [], 2, (.cons (.ret (.and (.isi (.v 1) [.cl 0]) (.cmp .Eq (.attr (.v 0) 40) (.attr (.v 1) 40)))) .nil)⟩
def f39_Course__str_ : Fn := ⟨1, false, [], 2, (.cons (.ite (.cmp .Eq (.attr (.v 0) 40) (.tup .nil)) (.cons (.ret (.k (.str (PySem.Str.ofString "0")))) .nil) .nil) (.cons (.ret (.join (.k (.str (PySem.Str.ofString " "))) (.nl (.lc (.bx .str (.v 1)) (.one 1) (.e (.attr (.v 0) 40)) .nil)))) .nil))⟩
def f41__law_draw : Fn := ⟨2, false, [], 7, (.cons (.ite (.cmp .Gt (.pix (.v 0) (.int 2)) (.k (.int 0))) (.cons (.set 2 false (.bin .Mod (.bi .int (.cons false (.pix (.v 0) (.int 2)) .nil)) (.v 1))) (.cons (.pset 0 (.int 2) (.bin .FloorDiv (.bi .int (.cons false (.pix (.v 0) (.int 2)) .nil)) (.v 1))) (.cons (.ret (.v 2)) .nil))) .nil) (.cons (.set 3 false (.pix (.v 0) (.int 1))) (.cons (.pset 0 (.int 1) (.bin .Add (.v 3) (.k (.int 1)))) (.cons (.set 4 false (.bin .Add (.bin .Mult (.k (.int 61483)) (.v 3)) (.k (.int 1543)))) (.cons (.ite (.cmp .NotEq (.pix (.v 0) (.int 0)) (.lst .nil)) (.cons (.set 4 false (.ix (.pix (.v 0) (.int 0)) (.bin .Mod (.bi .int (.cons false (.v 3) .nil)) (.bi .len (.cons false (.pix (.v 0) (.int 0)) .nil))))) .nil) .nil) (.cons (.ite (.tand (.cmp .Lt (.v 3) (.bi .len (.cons false (.pix (.v 0) (.int 0)) .nil))) (.cmp .GtE (.bi .abs (.cons false (.v 4) .nil)) (.bin .Pow (.k (.int 10)) (.k (.int 18))))) (.cons (.set 5 false (.bin .Add (.bin .Mult (.k (.int 2)) (.bin .Sub (.bi .abs (.cons false (.v 4) .nil)) (.bin .Pow (.k (.int 10)) (.k (.int 18))))) (.bi .int (.cons false (.cmp .Lt (.v 4) (.k (.int 0))) .nil)))) (.cons (.pset 0 (.int 2) (.bin .FloorDiv (.bi .int (.cons false (.v 5) .nil)) (.v 1))) (.cons (.ret (.bin .Mod (.bi .int (.cons false (.v 5) .nil)) (.v 1))) .nil))) .nil) (.cons (.set 6 false (.bin .Mod (.bi .int (.cons false (.bin .Pow (.bin .Add (.bin .Add (.bin .Mod (.bi .int (.cons false (.v 4) .nil)) (.k (.int 2147483549))) (.bin .Mult (.k (.int 73091)) (.v 3))) (.k (.int 1033))) (.k (.int 5))) .nil)) (.k (.int 2147483629)))) (.cons (.set 6 false (.bin .Mod (.bi .int (.cons false (.bin .Pow (.bin .Add (.bin .Add (.bin .Mult (.v 6) (.bin .Add (.bin .Mult (.k (.int 2)) (.v 3)) (.k (.int 397)))) (.bin .Mult (.bin .Mult (.k (.int 63197)) (.v 3)) (.v 3))) (.k (.int 97))) (.k (.int 3))) .nil)) (.k (.int 2147483587)))) (.cons (.ret (.bin .Mod (.bi .int (.cons false (.bin .FloorDiv (.v 6) (.k (.int 32))) .nil)) (.v 1))) .nil)))))))))⟩
def f42__law_pick : Fn := ⟨2, false, [], 2, (.cons (.ret (.ix (.v 1) (.call 41 (.cons false (.v 0) (.cons false (.bi .len (.cons false (.v 1) .nil)) .nil))))) .nil)⟩
def f43__law_row : Fn := ⟨2, false, [], 4, (.cons (.set 2 false (.lst (.cons false (.k (.int 0)) (.cons false (.k (.int 0)) (.cons false (.k (.int 1)) (.cons false (.un .USub (.k (.int 1))) (.cons false (.k (.int 2)) (.cons false (.un .USub (.k (.int 3))) (.cons false (.k (.int 45)) (.cons false (.un .USub (.k (.int 60))) (.cons false (.bin .Pow (.k (.int 10)) (.k (.int 30))) (.cons false (.un .USub (.bin .Pow (.k (.int 10)) (.k (.int 57)))) .nil)))))))))))) (.cons (.ret (.nl (.lc (.call 42 (.cons false (.v 0) (.cons false (.bin .Add (.v 2) (.bin .Mult (.lst (.cons false (.bin .Sub (.call 41 (.cons false (.v 0) (.cons false (.k (.int 41)) .nil))) (.k (.int 20))) .nil)) (.k (.int 4)))) .nil))) (.one 3) (.r1 (.call 41 (.cons false (.v 0) (.cons false (.bin .Add (.v 1) (.k (.int 1))) .nil)))) .nil))) .nil))⟩
def f44__law_bare : Fn := ⟨1, false, [], 2, (.cons (.own 1 (.of (.v 0))) (.cons (.while (.tand (.cmp .NotEq (.v 1) (.lst .nil)) (.cmp .Eq (.ix (.v 1) (.un .USub (.k (.int 1)))) (.k (.int 0)))) (.cons (.pop 1) .nil)) (.cons (.ret (.bi .tuple (.cons false (.v 1) .nil))) .nil)))⟩
def f45__law_value : Fn := ⟨2, false, [], 5, (.cons (.par2 2 3 (.f (.k (.int 0))) (.f (.k (.int 1)))) (.cons (.for (.one 4) (.r1 (.bi .len (.cons false (.v 0) .nil))) (.cons (.set 2 false (.bin .Add (.v 2) (.bin .Mult (.ix (.v 0) (.v 4)) (.v 3)))) (.cons (.set 3 false (.bin .FloorDiv (.bin .Mult (.v 3) (.bin .Sub (.v 1) (.v 4))) (.bin .Add (.v 4) (.k (.int 1))))) .nil))) (.cons (.ret (.v 2)) .nil)))⟩
def f46__law_course : Fn := ⟨1, false, [], 2, (.cons (.set 1 false (.bin .Add (.bi .list (.cons false (.v 0) .nil)) (.bin .Mult (.lst (.cons false (.k (.int 0)) .nil)) (.k (.int 7))))) (.cons (.ret (.make 0 (.cons false (.ix (.v 1) (.k (.int 0))) (.cons false (.ix (.v 1) (.k (.int 1))) (.cons false (.ix (.v 1) (.k (.int 2))) (.cons false (.ix (.v 1) (.k (.int 3))) (.cons false (.ix (.v 1) (.k (.int 4))) (.cons false (.ix (.v 1) (.k (.int 5))) (.cons false (.ix (.v 1) (.k (.int 6))) .nil))))))))) .nil))⟩
def f48__law_table : Fn := ⟨1, false, [], 4, (.cons (.par2 1 2 (.w (.lst .nil)) (.f (.bi .list (.cons false (.v 0) .nil)))) (.cons (.while (.cmp .NotEq (.v 2) (.lst .nil)) (.cons (.append 1 false (.ix (.v 2) (.k (.int 0)))) (.cons (.set 2 false (.nl (.lc (.bin .Sub (.ix (.v 2) (.bin .Add (.v 3) (.k (.int 1)))) (.ix (.v 2) (.v 3))) (.one 3) (.r1 (.bin .Sub (.bi .len (.cons false (.v 2) .nil)) (.k (.int 1)))) .nil))) .nil))) (.cons (.ret (.call 44 (.cons false (.v 1) .nil))) .nil)))⟩
def f49__law_fall_right : Fn := ⟨2, false, [], 9, (.cons (.set 2 false (.bin .Add (.bi .len (.cons false (.v 1) .nil)) (.k (.int 2)))) (.cons (.set 3 false (.nl (.lc (.call 45 (.cons false (.v 1) (.cons false (.v 7) .nil))) (.one 7) (.r1 (.bin .Add (.v 2) (.k (.int 1)))) .nil))) (.cons (.set 4 false (.nl (.lc (.bin .Sub (.ix (.v 3) (.bin .Add (.v 8) (.k (.int 1)))) (.ix (.v 3) (.v 8))) (.one 8) (.r1 (.v 2)) .nil))) (.cons (.par2 5 6 (.f (.k (.int 0))) (.w (.lst .nil))) (.cons (.for (.one 7) (.e (.v 3)) (.cons (.append 6 false (.v 5)) (.cons (.set 5 false (.bin .Add (.v 5) (.v 7))) .nil))) (.cons (.ite (.tor (.cmp .NotEq (.attr (.meth (.v 0) 47 .nil) 40) (.call 48 (.cons false (.v 4) .nil))) (.cmp .NotEq (.attr (.meth (.v 0) 48 .nil) 40) (.call 48 (.cons false (.v 6) .nil)))) (.cons (.ret (.k (.bl false))) .nil) .nil) (.cons (.ite (.cmp .NotEq (.nl (.lc (.callO (.meth (.v 0) 47 .nil) (.cons false (.v 8) .nil)) (.one 8) (.r1 (.v 2)) .nil)) (.v 4)) (.cons (.ret (.k (.bl false))) .nil) .nil) (.cons (.ite (.cmp .NotEq (.nl (.lc (.callO (.meth (.v 0) 48 .nil) (.cons false (.v 8) .nil)) (.one 8) (.r1 (.bin .Add (.v 2) (.k (.int 1)))) .nil)) (.v 6)) (.cons (.ret (.k (.bl false))) .nil) .nil) (.cons (.ret (.and (.cmp .Eq (.meth (.meth (.v 0) 48 .nil) 47 .nil) (.v 0)) (.cmp .Eq (.meth (.meth (.v 0) 47 .nil) 48 .nil) (.bin .Sub (.v 0) (.make 0 (.cons false (.ix (.v 3) (.k (.int 0))) .nil)))))) .nil)))))))))⟩
def f50__law_moved_right : Fn := ⟨3, false, [], 10, (.cons (.set 3 false (.lst (.cons false (.k (.int 0)) (.cons false (.k (.int 1)) (.cons false (.k (.int 2)) (.cons false (.k (.int 3)) (.cons false (.k (.int 7)) (.cons false (.bin .Pow (.k (.int 10)) (.k (.int 40))) (.cons false (.bin .Add (.bin .Pow (.k (.int 10)) (.k (.int 20))) (.k (.int 1))) (.cons false (.call 41 (.cons false (.v 0) (.cons false (.k (.int 100)) .nil))) .nil)))))))))) (.cons (.par3 4 5 6 (.call 42 (.cons false (.v 0) (.cons false (.v 3) .nil))) (.call 42 (.cons false (.v 0) (.cons false (.v 3) .nil))) (.call 42 (.cons false (.v 0) (.cons false (.bin .Add (.sl (.v 3) (.yes (.k (.int 1))) (.yes (.k (.int 7)))) (.lst (.cons false (.k (.int 12)) .nil))) .nil)))) (.cons (.set 7 false (.bin .Add (.bi .len (.cons false (.v 2) .nil)) (.k (.int 1)))) (.cons (.set 8 false (.call 48 (.cons false (.nl (.lc (.call 45 (.cons false (.v 2) (.cons false (.bin .Add (.v 9) (.v 4)) .nil))) (.one 9) (.r1 (.v 7)) .nil)) .nil))) (.cons (.ite (.tor (.cmp .NotEq (.attr (.meth (.v 1) 50 (.cons false (.v 4) .nil)) 40) (.v 8)) (.cmp .NotEq (.attr (.methK (.v 1) 50 .nil [(PySem.Str.ofString "k")] (.cons false (.v 4) .nil)) 40) (.v 8))) (.cons (.ret (.k (.bl false))) .nil) .nil) (.cons (.set 8 false (.call 48 (.cons false (.nl (.lc (.call 45 (.cons false (.v 2) (.cons false (.bin .Add (.bin .Mult (.v 6) (.v 9)) (.v 5)) .nil))) (.one 9) (.r1 (.v 7)) .nil)) .nil))) (.cons (.ite (.tor (.cmp .NotEq (.attr (.meth (.v 1) 49 (.cons false (.v 6) (.cons false (.v 5) .nil))) 40) (.v 8)) (.cmp .NotEq (.attr (.methK (.v 1) 49 .nil [(PySem.Str.ofString "rest"), (PySem.Str.ofString "period")] (.cons false (.v 5) (.cons false (.v 6) .nil))) 40) (.v 8))) (.cons (.ret (.k (.bl false))) .nil) .nil) (.cons (.ret (.and (.cmp .Eq (.callO (.meth (.v 1) 50 (.cons false (.v 4) .nil)) (.cons false (.k (.int 5)) .nil)) (.call 45 (.cons false (.v 2) (.cons false (.bin .Add (.v 4) (.k (.int 5))) .nil)))) (.cmp .Eq (.callO (.meth (.v 1) 49 (.cons false (.v 6) (.cons false (.v 5) .nil))) (.cons false (.k (.int 9)) .nil)) (.call 45 (.cons false (.v 2) (.cons false (.bin .Add (.bin .Mult (.k (.int 9)) (.v 6)) (.v 5)) .nil)))))) .nil))))))))⟩
def f51__law_through_right : Fn := ⟨1, false, [], 7, (.cons (.own 1 (.lc (.call 42 (.cons false (.v 0) (.cons false (.lst (.cons false (.k (.int 0)) (.cons false (.k (.int 1)) (.cons false (.un .USub (.k (.int 1))) (.cons false (.k (.int 5)) (.cons false (.bin .Pow (.k (.int 10)) (.k (.int 59))) (.cons false (.bin .Sub (.call 41 (.cons false (.v 0) (.cons false (.k (.int 99)) .nil))) (.k (.int 49))) .nil))))))) .nil))) (.one 5) (.r1 (.call 41 (.cons false (.v 0) (.cons false (.k (.int 9)) .nil)))) .nil)) (.cons (.ite (.cmp .Eq (.call 41 (.cons false (.v 0) (.cons false (.k (.int 3)) .nil))) (.k (.int 0))) (.cons (.set 2 false (.call 43 (.cons false (.v 0) (.cons false (.k (.int 3)) .nil)))) (.cons (.own 1 (.lc (.call 45 (.cons false (.sl (.v 2) .no (.yes (.k (.int 3)))) (.cons false (.v 6) .nil))) (.one 6) (.r1 (.bi .len (.cons false (.v 1) .nil))) .nil)) .nil)) .nil) (.cons (.copy 3 1) (.cons (.set 4 true (.smeth 0 42 (.cons false (.v 1) .nil))) (.cons (.ite (.tor (.cmp .NotEq (.attr (.v 4) 40) (.call 48 (.cons false (.v 3) .nil))) (.tor (.cmp .NotEq (.v 1) (.v 3)) (.cmp .NotEq (.v 4) (.smethK 0 42 .nil [(PySem.Str.ofString "values")] (.cons false (.bi .tuple (.cons false (.v 3) .nil)) .nil))))) (.cons (.ret (.k (.bl false))) .nil) .nil) (.cons (.append 1 false (.k (.int 7))) (.cons (.ret (.and (.cmp .Eq (.nl (.lc (.callO (.v 4) (.cons false (.v 6) .nil)) (.one 6) (.r1 (.bi .len (.cons false (.v 3) .nil))) .nil)) (.v 3)) (.cmp .Lt (.attr (.v 4) 51) (.bi .max (.cons false (.k (.int 1)) (.cons false (.bi .len (.cons false (.v 3) .nil)) .nil)))))) .nil)))))))⟩
def lawN : List Str := [(PySem.Str.ofString "_law_script"), (PySem.Str.ofString "_law_pen_here"), (PySem.Str.ofString "_law_turn"), (PySem.Str.ofString "_law_row_here"), (PySem.Str.ofString "_law_one")]
def lawRest : CSs := (.cons (.for (.one 2) (.r1 (.k (.int 7))) (.cons (.set 3 false (.call 43 (.cons false (.v 1) (.cons false (.k (.int 6)) .nil)))) (.cons (.set 4 false (.call 46 (.cons false (.v 3) .nil))) (.cons (.ite (.tor (.not (.call 49 (.cons false (.v 4) (.cons false (.v 3) .nil)))) (.tor (.not (.call 50 (.cons false (.v 1) (.cons false (.v 4) (.cons false (.v 3) .nil))))) (.not (.call 51 (.cons false (.v 1) .nil))))) (.cons (.ret (.k (.bl false))) .nil) .nil) (.cons (.ite (.cmp .NotEq (.attr (.v 4) 40) (.call 44 (.cons false (.v 3) .nil))) (.cons (.ret (.k (.bl false))) .nil) .nil) .nil))))) (.cons (.ite (.cmp .NotEq (.attr (.smeth 0 42 (.cons false (.nl (.lr (.k (.int 1200)))) .nil)) 40) (.tup (.cons false (.k (.int 0)) (.cons false (.k (.int 1)) .nil)))) (.cons (.ret (.k (.bl false))) .nil) .nil) (.cons (.ret (.and (.cmp .Eq (.smeth 0 42 (.cons false (.lst .nil) .nil)) (.make 0 .nil)) (.cmp .Eq (.attr (.smeth 0 42 (.cons false (.lst (.cons false (.k (.int 0)) (.cons false (.k (.int 1)) (.cons false (.k (.int 4)) (.cons false (.k (.int 9)) .nil))))) .nil)) 40) (.tup (.cons false (.k (.int 0)) (.cons false (.k (.int 1)) (.cons false (.k (.int 2)) .nil))))))) .nil)))
def tab : Tab := ⟨[((PySem.Str.ofString "is_whole"), 1), ((PySem.Str.ofString "is_between"), 2), ((PySem.Str.ofString "is_count"), 3), ((PySem.Str.ofString "are_whole"), 4), ((PySem.Str.ofString "differences_of"), 8), ((PySem.Str.ofString "combined"), 9), ((PySem.Str.ofString "_law_draw"), 41), ((PySem.Str.ofString "_law_pick"), 42), ((PySem.Str.ofString "_law_row"), 43), ((PySem.Str.ofString "_law_bare"), 44), ((PySem.Str.ofString "_law_value"), 45), ((PySem.Str.ofString "_law_course"), 46), ((PySem.Str.ofString "_law_table"), 48), ((PySem.Str.ofString "_law_fall_right"), 49), ((PySem.Str.ofString "_law_moved_right"), 50), ((PySem.Str.ofString "_law_through_right"), 51)], [((PySem.Str.ofString "Course"), 0)], [((PySem.Str.ofString "MOST_COUNT"), 0), ((PySem.Str.ofString "MOST_FIGURES"), 1), ((PySem.Str.ofString "FIGURES"), 2)], [(PySem.Str.ofString "abs"), (PySem.Str.ofString "all"), (PySem.Str.ofString "bool"), (PySem.Str.ofString "enumerate"), (PySem.Str.ofString "int"), (PySem.Str.ofString "isinstance"), (PySem.Str.ofString "len"), (PySem.Str.ofString "list"), (PySem.Str.ofString "max"), (PySem.Str.ofString "range"), (PySem.Str.ofString "str"), (PySem.Str.ofString "sum"), (PySem.Str.ofString "tuple"), (PySem.Str.ofString "zip")], [(PySem.Str.ofString "differences"), (PySem.Str.ofString "behind"), (PySem.Str.ofString "through"), (PySem.Str.ofString "value_at"), (PySem.Str.ofString "need_course"), (PySem.Str.ofString "added"), (PySem.Str.ofString "multiplied_by"), (PySem.Str.ofString "fall"), (PySem.Str.ofString "sums"), (PySem.Str.ofString "thinned"), (PySem.Str.ofString "later"), (PySem.Str.ofString "degree")]⟩
def pd : PD LP := {
  cA := [377]
  fld := [[(PySem.Str.ofString "differences")]]
  fA := [0, 28, 35, 42, 47, 0, 0, 0, 155, 162, 176, 183, 0, 201, 209, 0, 223, 230, 237, 242, 247, 0, 0, 0, 0, 0, 289, 294, 299, 306, 313, 320, 327, 334, 341, 348, 355, 362, 369, 374, 0, 395, 402, 407, 414, 421, 428, 0, 440, 445, 450, 455, 0]
  Ns := [[], [(PySem.Str.ofString "value")], [(PySem.Str.ofString "value"), (PySem.Str.ofString "low"), (PySem.Str.ofString "high")], [(PySem.Str.ofString "value")], [(PySem.Str.ofString "values"), (PySem.Str.ofString "value")], [], [], [], [(PySem.Str.ofString "values"), (PySem.Str.ofString "found"), (PySem.Str.ofString "row"), (PySem.Str.ofString "one"), (PySem.Str.ofString "later")], [(PySem.Str.ofString "t"), (PySem.Str.ofString "k"), (PySem.Str.ofString "found"), (PySem.Str.ofString "at")], [(PySem.Str.ofString "self"), (PySem.Str.ofString "differences"), (PySem.Str.ofString "size")], [(PySem.Str.ofString "values"), (PySem.Str.ofString "found")], [], [(PySem.Str.ofString "self")], [(PySem.Str.ofString "self"), (PySem.Str.ofString "t"), (PySem.Str.ofString "found"), (PySem.Str.ofString "weight"), (PySem.Str.ofString "k"), (PySem.Str.ofString "difference")], [], [(PySem.Str.ofString "self")], [(PySem.Str.ofString "self"), (PySem.Str.ofString "k"), (PySem.Str.ofString "rest")], [(PySem.Str.ofString "self")], [(PySem.Str.ofString "self"), (PySem.Str.ofString "k"), (PySem.Str.ofString "size"), (PySem.Str.ofString "found"), (PySem.Str.ofString "low"), (PySem.Str.ofString "at")], [(PySem.Str.ofString "self"), (PySem.Str.ofString "period"), (PySem.Str.ofString "rest"), (PySem.Str.ofString "t")], [], [], [], [], [], [(PySem.Str.ofString "self"), (PySem.Str.ofString "other")], [(PySem.Str.ofString "self"), (PySem.Str.ofString "other"), (PySem.Str.ofString "sign"), (PySem.Str.ofString "size"), (PySem.Str.ofString "mine"), (PySem.Str.ofString "yours"), (PySem.Str.ofString "found"), (PySem.Str.ofString "one"), (PySem.Str.ofString "two")], [(PySem.Str.ofString "self"), (PySem.Str.ofString "k"), (PySem.Str.ofString "found"), (PySem.Str.ofString "difference")], [(PySem.Str.ofString "self"), (PySem.Str.ofString "t")], [(PySem.Str.ofString "self"), (PySem.Str.ofString "other")], [(PySem.Str.ofString "self"), (PySem.Str.ofString "other")], [(PySem.Str.ofString "self"), (PySem.Str.ofString "other")], [(PySem.Str.ofString "self"), (PySem.Str.ofString "other"), (PySem.Str.ofString "turned")], [(PySem.Str.ofString "self"), (PySem.Str.ofString "k")], [(PySem.Str.ofString "self"), (PySem.Str.ofString "k")], [(PySem.Str.ofString "self")], [(PySem.Str.ofString "self")], [(PySem.Str.ofString "self"), (PySem.Str.ofString "other")], [(PySem.Str.ofString "self"), (PySem.Str.ofString "difference")], [], [(PySem.Str.ofString "_law_pen_here"), (PySem.Str.ofString "_law_many"), (PySem.Str.ofString "_law_digit"), (PySem.Str.ofString "_law_at"), (PySem.Str.ofString "_law_cell"), (PySem.Str.ofString "_law_great"), (PySem.Str.ofString "_law_mixed")], [(PySem.Str.ofString "_law_pen_here"), (PySem.Str.ofString "_law_some")], [(PySem.Str.ofString "_law_pen_here"), (PySem.Str.ofString "_law_most"), (PySem.Str.ofString "_law_some"), (PySem.Str.ofString "_law_turn")], [(PySem.Str.ofString "_law_row_here"), (PySem.Str.ofString "_law_found")], [(PySem.Str.ofString "_law_row_here"), (PySem.Str.ofString "_law_number"), (PySem.Str.ofString "_law_total"), (PySem.Str.ofString "_law_weight"), (PySem.Str.ofString "_law_spot")], [(PySem.Str.ofString "_law_row_here"), (PySem.Str.ofString "_law_cells")], [], [(PySem.Str.ofString "_law_numbers"), (PySem.Str.ofString "_law_found"), (PySem.Str.ofString "_law_row_here"), (PySem.Str.ofString "_law_spot")], [(PySem.Str.ofString "_law_one"), (PySem.Str.ofString "_law_row_here"), (PySem.Str.ofString "_law_many"), (PySem.Str.ofString "_law_seen"), (PySem.Str.ofString "_law_drops"), (PySem.Str.ofString "_law_total"), (PySem.Str.ofString "_law_heaps"), (PySem.Str.ofString "_law_number"), (PySem.Str.ofString "_law_spot")], [(PySem.Str.ofString "_law_pen_here"), (PySem.Str.ofString "_law_one"), (PySem.Str.ofString "_law_row_here"), (PySem.Str.ofString "_law_some"), (PySem.Str.ofString "_law_by"), (PySem.Str.ofString "_law_off"), (PySem.Str.ofString "_law_step"), (PySem.Str.ofString "_law_size"), (PySem.Str.ofString "_law_due"), (PySem.Str.ofString "_law_spot")], [(PySem.Str.ofString "_law_pen_here"), (PySem.Str.ofString "_law_numbers"), (PySem.Str.ofString "_law_row_here"), (PySem.Str.ofString "_law_kept"), (PySem.Str.ofString "_law_made_here"), (PySem.Str.ofString "_law_turn"), (PySem.Str.ofString "_law_spot")], []]
  tab := tab
  fns := [.none, .code f1_is_whole, .code f2_is_between, .code f3_is_count, .code f4_are_whole, .none, .none, .none, .code f8_differences_of, .code f9_combined, .code f10_Course__init_, .code f11_Course_through, .none, .code f13_Course_degree, .code f14_Course_value_at, .none, .code f16_Course_fall, .code f17_Course_behind, .code f18_Course_sums, .code f19_Course_later, .code f20_Course_thinned, .none, .none, .none, .none, .none, .code f26_Course_need_course, .code f27_Course_added, .code f28_Course_multiplied_by, .code f29_Course__call_, .code f30_Course__add_, .code f31_Course__radd_, .code f32_Course__sub_, .code f33_Course__rsub_, .code f34_Course__mul_, .code f35_Course__rmul_, .code f36_Course__neg_, .code f37_Course__bool_, .code f38_Course__eq_, .code f39_Course__str_, .none, .code f41__law_draw, .code f42__law_pick, .code f43__law_row, .code f44__law_bare, .code f45__law_value, .code f46__law_course, .none, .code f48__law_table, .code f49__law_fall_right, .code f50__law_moved_right, .code f51__law_through_right, .none]
  meths := [((0, 43), 14), ((0, 47), 16), ((0, 41), 17), ((0, 48), 18), ((0, 50), 19), ((0, 49), 20), ((0, 44), 26), ((0, 45), 27), ((0, 46), 28), ((0, 24), 29), ((0, 0), 30), ((0, 1), 31), ((0, 2), 32), ((0, 3), 33), ((0, 4), 34), ((0, 5), 35), ((0, 20), 36), ((0, 23), 37), ((0, 22), 38), ((0, 32), 39)]
  attrs := [((0, 51), .prop 13), ((0, 40), .fld 0)]
  inits := [(0, 10)]
  gls := [(.int 10000000000000000000000000000000000000000), (.int 60), (.str (PySem.Str.ofString "0123456789"))]
  ncl := 1
  subs := [(0, 0)]
  kwns := [[], [], [], [], [], [], [], [], [], [], [], [(PySem.Str.ofString "values")], [], [], [], [], [], [], [], [(PySem.Str.ofString "self"), (PySem.Str.ofString "k")], [(PySem.Str.ofString "self"), (PySem.Str.ofString "period"), (PySem.Str.ofString "rest")], [], [], [], [], [], [], [], [], [], [], [], [], [], [], [], [], [], [], [], [], [], [], [], [], [], [], [], [], [], [], [], []]
  smeths := [((0, 42), 11)] }
end K11
end

section
set_option autoImplicit false
set_option Elab.async false
set_option linter.all false
set_option maxHeartbeats 1000000
/-! The mathematics of courses, in plain lists of ints. -/
namespace Crs
def co (a : List Int) (i : Nat) : Int := a.getD i 0
def sz (a : List Int) : Nat → Nat
  | 0 => 0
  | k + 1 => if co a k = 0 then sz a k else k + 1
def trim (a : List Int) : List Int := a.take (sz a a.length)
theorem co_ge {a : List Int} {i : Nat} (h : a.length ≤ i) : co a i = 0 := by
  unfold co; rw [List.getD_eq_getElem?_getD, List.getElem?_eq_none h]; rfl
theorem co_lt {a : List Int} {i : Nat} (h : i < a.length) : a[i]? = some (co a i) := by
  unfold co; rw [List.getD_eq_getElem?_getD, List.getElem?_eq_getElem h]; rfl
theorem sz_le (a : List Int) : ∀ k, sz a k ≤ k
  | 0 => Nat.le_refl _
  | k + 1 => by
    unfold sz
    split
    · exact Nat.le_succ_of_le (sz_le a k)
    · exact Nat.le_refl _
theorem sz_zero (a : List Int) : ∀ k i, sz a k ≤ i → i < k → co a i = 0
  | 0, i, _, h => by omega
  | k + 1, i, h1, h2 => by
    unfold sz at h1
    split at h1
    · rename_i hz
      rcases Nat.lt_or_ge i k with h | h
      · exact sz_zero a k i h1 h
      · have : i = k := by omega
        rw [this]; exact hz
    · omega
theorem sz_congr {a b : List Int} (h : ∀ i, co a i = co b i) : ∀ k, sz a k = sz b k
  | 0 => rfl
  | k + 1 => by unfold sz; rw [h k, sz_congr h k]
theorem sz_stable (a : List Int) : ∀ k, sz a (a.length + k) = sz a a.length
  | 0 => rfl
  | k + 1 => by
    rw [← Nat.add_assoc]
    show (if co a (a.length + k) = 0 then _ else _) = _
    rw [if_pos (co_ge (by omega)), sz_stable a k]
theorem co_take {a : List Int} {n i : Nat} : co (a.take n) i = if i < n then co a i else 0 := by
  unfold co
  rw [List.getD_eq_getElem?_getD, List.getD_eq_getElem?_getD, List.getElem?_take]
  split <;> rfl
theorem co_trim (a : List Int) (i : Nat) : co (trim a) i = co a i := by
  unfold trim
  rw [co_take]
  split
  · rfl
  · rcases Nat.lt_or_ge i a.length with h | h
    · exact (sz_zero a _ i (by omega) h).symm
    · exact (co_ge h).symm
theorem ext_co {a b : List Int} (hl : a.length = b.length) (h : ∀ i, co a i = co b i) : a = b := by
  apply List.ext_getElem? 
  intro i
  rcases Nat.lt_or_ge i a.length with h1 | h1
  · rw [co_lt h1, co_lt (by omega), h i]
  · rw [List.getElem?_eq_none h1, List.getElem?_eq_none (by omega)]
theorem trim_ext {a b : List Int} (h : ∀ i, co a i = co b i) : trim a = trim b := by
  have e : sz a a.length = sz b b.length := by
    have h1 := sz_stable a b.length
    have h2 := sz_stable b a.length
    rw [← h1, ← h2, sz_congr h, Nat.add_comm]
  apply ext_co
  · unfold trim
    rw [List.length_take, List.length_take, e]
    have := sz_le a a.length
    have := sz_le b b.length
    omega
  · intro i; rw [co_trim, co_trim, h i]
theorem trim_trim (a : List Int) : trim (trim a) = trim a := trim_ext (co_trim a)
theorem trim_len (a : List Int) : (trim a).length ≤ a.length := by unfold trim; rw [List.length_take]; omega
theorem mem_trim {a : List Int} {x : Int} (h : x ∈ trim a) : x ∈ a := List.mem_of_mem_take h
theorem trim_eq_iff {a b : List Int} : trim a = trim b ↔ ∀ i, co a i = co b i := ⟨fun h i => by rw [← co_trim a, ← co_trim b, h], trim_ext⟩
/-! ### sums, multiples -/
def addS (a b : List Int) (g : Int) : List Int := (List.range (max a.length b.length)).map fun i => co a i + g * co b i
theorem co_map_range (f : Nat → Int) (n i : Nat) : co ((List.range n).map f) i = if i < n then f i else 0 := by
  unfold co
  rw [List.getD_eq_getElem?_getD, List.getElem?_map]
  split
  · rename_i h; rw [List.getElem?_range h]; rfl
  · rename_i h; rw [List.getElem?_eq_none (by simpa using h)]; rfl
theorem co_addS (a b : List Int) (g : Int) (i : Nat) : co (addS a b g) i = co a i + g * co b i := by
  unfold addS
  rw [co_map_range]
  split
  · rfl
  · rw [co_ge (a := a) (by omega), co_ge (a := b) (by omega)]; simp
theorem co_map {f : Int → Int} (h0 : f 0 = 0) (a : List Int) (i : Nat) : co (a.map f) i = f (co a i) := by
  unfold co
  rw [List.getD_eq_getElem?_getD, List.getD_eq_getElem?_getD, List.getElem?_map]
  cases a[i]? <;> simp [h0]
theorem trim_addS (a b : List Int) (g : Int) : trim (addS (trim a) (trim b) g) = trim (addS a b g) := trim_ext fun i => by simp only [co_addS, co_trim]
theorem trim_mul (a : List Int) (k : Int) : trim ((trim a).map (· * k)) = trim (a.map (k * ·)) := trim_ext fun i => by
  rw [co_map (by simp), co_map (by simp), co_trim, Int.mul_comm]
/-! ### values -/
def wt (t : Int) : Nat → Int
  | 0 => 1
  | k + 1 => wt t k * (t - k) / (k + 1)
def vs (a : List Int) (t : Int) : Nat → Int
  | 0 => 0
  | k + 1 => vs a t k + co a k * wt t k
def val (a : List Int) (t : Int) : Int := vs a t a.length
theorem vs_congr {a b : List Int} (h : ∀ i, co a i = co b i) (t : Int) : ∀ k, vs a t k = vs b t k
  | 0 => rfl
  | k + 1 => by unfold vs; rw [h k, vs_congr h t k]
theorem vs_stable (a : List Int) (t : Int) : ∀ k, vs a t (a.length + k) = vs a t a.length
  | 0 => rfl
  | k + 1 => by
    rw [← Nat.add_assoc]
    show vs a t (a.length + k) + co a (a.length + k) * _ = _
    rw [co_ge (by omega), vs_stable a t k]; simp
theorem val_congr {a b : List Int} (h : ∀ i, co a i = co b i) (t : Int) : val a t = val b t := by
  unfold val
  rw [← vs_stable a t b.length, ← vs_stable b t a.length, vs_congr h, Nat.add_comm]
theorem val_trim (a : List Int) (t : Int) : val (trim a) t = val a t := val_congr (co_trim a) t
/-! ### the table of differences -/
def ch : Nat → Nat → Int
  | _, 0 => 1
  | 0, _ + 1 => 0
  | t + 1, k + 1 => ch t k + ch t (k + 1)
theorem ch_step : ∀ (t k : Nat), ch t k * ((t : Int) - k) = ch t (k + 1) * (k + 1)
  | 0, 0 => by simp [ch]
  | 0, k + 1 => by simp [ch]
  | t + 1, 0 => by
    have h := ch_step t 0
    have e : ch (t + 1) (0 + 1) = ch t 0 + ch t (0 + 1) := rfl
    rw [e]
    have e1 : ch (t + 1) 0 = 1 := by unfold ch; rfl
    have e2 : ch t 0 = 1 := by cases t <;> rfl
    rw [e1]; rw [e2] at h ⊢
    push_cast at h ⊢
    omega
  | t + 1, k + 1 => by
    have h1 := ch_step t k
    have h2 := ch_step t (k + 1)
    have e : ch (t + 1) (k + 1 + 1) = ch t (k + 1) + ch t (k + 1 + 1) := rfl
    have e' : ch (t + 1) (k + 1) = ch t k + ch t (k + 1) := rfl
    rw [e, e']
    push_cast at h1 h2 ⊢
    grind
theorem wt_ch (t : Nat) : ∀ k, wt t k = ch t k
  | 0 => by cases t <;> rfl
  | k + 1 => by
    show wt t k * ((t : Int) - k) / (k + 1) = _
    rw [wt_ch t k, ch_step t k]
    exact Int.mul_ediv_cancel _ (by omega)
def sm (f : Nat → Int) : Nat → Int
  | 0 => 0
  | n + 1 => sm f n + f n
theorem sm_congr {f g : Nat → Int} : ∀ {n : Nat}, (∀ i, i < n → f i = g i) → sm f n = sm g n
  | 0, _ => rfl
  | n + 1, h => by unfold sm; rw [sm_congr fun i hi => h i (by omega), h n (by omega)]
theorem sm_add (f g : Nat → Int) : ∀ n, sm (fun i => f i + g i) n = sm f n + sm g n
  | 0 => rfl
  | n + 1 => by unfold sm; rw [sm_add f g n]; omega
theorem sm_shift (f : Nat → Int) : ∀ n, sm f (n + 1) = f 0 + sm (fun i => f (i + 1)) n
  | 0 => by simp [sm]
  | n + 1 => by
    show sm f (n + 1) + f (n + 1) = f 0 + (sm (fun i => f (i + 1)) n + f (n + 1))
    rw [sm_shift f n]; omega
theorem sm_stable (f : Nat → Int) (m : Nat) (h : ∀ i, m ≤ i → f i = 0) : ∀ k, sm f (m + k) = sm f m
  | 0 => rfl
  | k + 1 => by
    rw [← Nat.add_assoc]
    show sm f (m + k) + f (m + k) = _
    rw [sm_stable f m h k, h _ (by omega)]; simp
/-- the value behind t turns at place i -/
def S (a : List Int) : Nat → Nat → Int
  | 0, i => co a i
  | t + 1, i => S a t i + S a t (i + 1)
theorem S_sum (a : List Int) : ∀ (t i : Nat), S a t i = sm (fun k => ch t k * co a (i + k)) a.length
  | 0, i => by
    cases hn : a.length with
    | zero => show co a i = 0; exact co_ge (by omega)
    | succ n =>
      rw [sm_shift]
      show co a i = 1 * co a (i + 0) + _
      rw [sm_congr (g := fun _ => 0) (fun j _ => by simp [ch])]
      have z : ∀ n, sm (fun _ => 0) n = 0 := by
        intro n; induction n with
        | zero => rfl
        | succ n ih => unfold sm; rw [ih]; rfl
      rw [z]; simp
  | t + 1, i => by
    show S a t i + S a t (i + 1) = _
    rw [S_sum a t i, S_sum a t (i + 1)]
    have e1 : ∀ (u j : Nat), sm (fun k => ch u k * co a (j + k)) a.length = sm (fun k => ch u k * co a (j + k)) (a.length + 1) := fun u j => (sm_stable _ _ (fun k hk => by rw [co_ge (by omega)]; simp) 1).symm
    rw [e1 (t + 1) i, sm_shift, e1 t i, sm_shift]
    have c0 : ∀ u, ch u 0 = 1 := fun u => by cases u <;> rfl
    simp only [c0]
    have : sm (fun k => ch (t + 1) (k + 1) * co a (i + (k + 1))) a.length = sm (fun k => ch t k * co a (i + 1 + k) + ch t (k + 1) * co a (i + (k + 1))) a.length := by
      apply sm_congr
      intro k _
      show (ch t k + ch t (k + 1)) * _ = _
      rw [Int.add_mul, show i + 1 + k = i + (k + 1) by omega]
    rw [this, sm_add]
    omega
theorem vs_sm (a : List Int) (t : Int) : ∀ k, vs a t k = sm (fun i => co a i * wt t i) k
  | 0 => rfl
  | k + 1 => by unfold vs sm; rw [vs_sm a t k]
theorem val_S (a : List Int) (t : Nat) : val a t = S a t 0 := by
  unfold val
  rw [S_sum, vs_sm]
  exact sm_congr fun i _ => by rw [wt_ch, Int.mul_comm, Nat.zero_add]
/-! ### bounds -/
def Bn (n : Nat) (i : Int) : Prop := i.natAbs < 2 ^ n
theorem Bn.mono {n m : Nat} {i : Int} (h : Bn n i) (k : n ≤ m) : Bn m i := Nat.lt_of_lt_of_le h (Nat.pow_le_pow_right (by decide) k)
theorem Bn.mul {n m : Nat} {i j : Int} (h : Bn n i) (k : Bn m j) : Bn (n + m) (i * j) := by
  unfold Bn at *
  rw [Int.natAbs_mul, Nat.pow_add]
  exact Nat.mul_lt_mul'' h k
theorem Bn.add {n : Nat} {i j : Int} (h : Bn n i) (k : Bn n j) : Bn (n + 1) (i + j) := by
  unfold Bn at *
  have := Int.natAbs_add_le i j
  rw [Nat.pow_succ]; omega
theorem Bn.neg {n : Nat} {i : Int} (h : Bn n i) : Bn n (-i) := by unfold Bn at *; rw [Int.natAbs_neg]; exact h
theorem Bn.div {n : Nat} {i : Int} {k : Nat} (h : Bn n i) : Bn (n + 1) (i / ((k : Int) + 1)) := by
  unfold Bn at *
  have e := Int.natAbs_ediv_le_natAbs i ((k : Int) + 1)
  rw [Nat.pow_succ]; omega
theorem wt_bn {m : Nat} {t : Int} (ht : Bn m t) (hm : 4 ≤ m) : ∀ k, k ≤ 8 → Bn (1 + k * (m + 2)) (wt t k)
  | 0, _ => by unfold Bn; show (1 : Int).natAbs < 2 ^ (1 + 0 * (m + 2)); rw [Nat.zero_mul]; decide
  | k + 1, hk => by
    have ih := wt_bn ht hm k (by omega)
    have h1 : Bn (m + 1) (t - k) := by
      have hk' : Bn m (-(k : Int)) := by
        unfold Bn
        rw [Int.natAbs_neg, Int.natAbs_natCast]
        exact Nat.lt_of_lt_of_le (show k < 2 ^ 4 by omega) (Nat.pow_le_pow_right (by decide) hm)
      exact Bn.add ht hk'
    have h2 := (ih.mul h1).div (k := k)
    show Bn _ (wt t k * (t - k) / ((k : Int) + 1))
    refine h2.mono ?_
    rw [Nat.succ_mul]; omega
end Crs
end

section
set_option autoImplicit false
set_option Elab.async false
set_option linter.all false
set_option maxHeartbeats 1000000
/-! Differences of sequences. -/
namespace Crs
def Dl : Nat → (Nat → Int) → Nat → Int
  | 0, g, i => g i
  | k + 1, g, i => Dl k g (i + 1) - Dl k g i
theorem Dl_congr {g h : Nat → Int} : ∀ (k i : Nat), (∀ j, j ≤ i + k → g j = h j) → Dl k g i = Dl k h i
  | 0, i, e => e i (by omega)
  | k + 1, i, e => by
    show Dl k g (i + 1) - Dl k g i = Dl k h (i + 1) - Dl k h i
    rw [Dl_congr k (i + 1) fun j hj => e j (by omega), Dl_congr k i fun j hj => e j (by omega)]
theorem Dl_S (a : List Int) (j : Nat) : ∀ (k i : Nat), Dl k (fun t => S a t j) i = S a i (j + k)
  | 0, i => rfl
  | k + 1, i => by
    show Dl k _ (i + 1) - Dl k _ i = _
    rw [Dl_S a j k (i + 1), Dl_S a j k i]
    show S a i (j + k) + S a i (j + k + 1) - S a i (j + k) = S a i (j + (k + 1))
    rw [Nat.add_assoc]; omega
def rowK (v : List Int) (k : Nat) : List Int := (List.range (v.length - k)).map (Dl k (co v))
def tab (v : List Int) : List Int := (List.range v.length).map fun k => Dl k (co v) 0
theorem rowK_len (v : List Int) (k : Nat) : (rowK v k).length = v.length - k := by simp [rowK]
theorem co_rowK (v : List Int) (k i : Nat) (h : i + k < v.length) : co (rowK v k) i = Dl k (co v) i := by
  unfold rowK; rw [co_map_range, if_pos (by omega)]
theorem rowK_zero (v : List Int) : rowK v 0 = v := ext_co (by simp [rowK]) fun i => by
  rcases Nat.lt_or_ge i v.length with h | h
  · rw [co_rowK v 0 i (by omega)]; rfl
  · rw [co_ge h, co_ge (by rw [rowK_len]; omega)]
theorem rowK_succ (v : List Int) (k : Nat) : (List.range ((rowK v k).length - 1)).map (fun i => co (rowK v k) (i + 1) - co (rowK v k) i) = rowK v (k + 1) := by
  rw [rowK_len]
  unfold rowK
  rw [show v.length - k - 1 = v.length - (k + 1) by omega]
  refine List.map_congr_left fun i hi => ?_
  have hi := List.mem_range.mp hi
  rw [co_map_range, if_pos (by omega), co_map_range, if_pos (by omega)]
  rfl
theorem tab_len (v : List Int) : (tab v).length = v.length := by simp [tab]
theorem co_tab (v : List Int) (k : Nat) (h : k < v.length) : co (tab v) k = Dl k (co v) 0 := by
  unfold tab; rw [co_map_range, if_pos h]
/-- the table of a sequence -/
theorem trim_tab {v c : List Int} (h : ∀ k, k < v.length → Dl k (co v) 0 = co c k) (hz : ∀ k, v.length ≤ k → co c k = 0) : trim (tab v) = trim c := trim_ext fun k => by
  rcases Nat.lt_or_ge k v.length with l | l
  · rw [co_tab v k l, h k l]
  · rw [co_ge (by rw [tab_len]; exact l), hz k l]
theorem co_seq (f : Nat → Int) (n i : Nat) (h : i < n) : co ((List.range n).map f) i = f i := by rw [co_map_range, if_pos h]
theorem tab_seq (f : Nat → Int) (n k : Nat) (h : k < n) : Dl k (co ((List.range n).map f)) 0 = Dl k f 0 := Dl_congr k 0 fun j hj => co_seq f n j (by omega)
theorem S_congr {a b : List Int} (h : ∀ i, co a i = co b i) : ∀ (t i : Nat), S a t i = S b t i
  | 0, i => h i
  | t + 1, i => by show S a t i + S a t (i + 1) = _; rw [S_congr h t i, S_congr h t (i + 1)]; rfl
theorem S_ge (a : List Int) : ∀ (t i : Nat), a.length ≤ i → S a t i = 0
  | 0, i, h => co_ge h
  | t + 1, i, h => by show S a t i + S a t (i + 1) = 0; rw [S_ge a t i h, S_ge a t (i + 1) (by omega)]; rfl
theorem S_from {a c : List Int} {t : Nat} (h : ∀ i, co c i = S a t i) : ∀ (s i : Nat), S c s i = S a (t + s) i
  | 0, i => h i
  | s + 1, i => by
    show S c s i + S c s (i + 1) = S a (t + s) i + S a (t + s) (i + 1)
    rw [S_from h s i, S_from h s (i + 1)]
theorem co_drop (a : List Int) (i : Nat) : co (a.drop 1) i = co a (i + 1) := by
  unfold co
  rw [List.getD_eq_getElem?_getD, List.getD_eq_getElem?_getD, List.getElem?_drop, Nat.add_comm]
theorem S_drop (a : List Int) : ∀ (t i : Nat), S (a.drop 1) t i = S a t (i + 1)
  | 0, i => co_drop a i
  | t + 1, i => by show S (a.drop 1) t i + S (a.drop 1) t (i + 1) = _; rw [S_drop a t i, S_drop a t (i + 1)]; rfl
theorem S_cons (a : List Int) : ∀ (t i : Nat), S (0 :: a) t (i + 1) = S a t i
  | 0, i => rfl
  | t + 1, i => by show S (0 :: a) t (i + 1) + S (0 :: a) t (i + 1 + 1) = _; rw [S_cons a t i, S_cons a t (i + 1)]; rfl
theorem S_cons_zero (a : List Int) : ∀ t, S (0 :: a) t 0 = sm (fun j => S a j 0) t
  | 0 => rfl
  | t + 1 => by
    show S (0 :: a) t 0 + S (0 :: a) t (0 + 1) = sm (fun j => S a j 0) t + S a t 0
    rw [S_cons_zero a t, S_cons a t 0]
/-! ### thinned -/
theorem Dl_shift (g : Nat → Int) : ∀ (k i : Nat), Dl (k + 1) g i = Dl k (fun j => g (j + 1) - g j) i
  | 0, i => rfl
  | k + 1, i => by
    show Dl (k + 1) g (i + 1) - Dl (k + 1) g i = _
    rw [Dl_shift g k (i + 1), Dl_shift g k i]; rfl
theorem Dl_add (g h : Nat → Int) : ∀ (k i : Nat), Dl k (fun j => g j + h j) i = Dl k g i + Dl k h i
  | 0, i => rfl
  | k + 1, i => by
    show Dl k _ (i + 1) - Dl k _ i = (Dl k g (i + 1) - Dl k g i) + (Dl k h (i + 1) - Dl k h i)
    rw [Dl_add g h k (i + 1), Dl_add g h k i]; omega
theorem Dl_zero : ∀ (k i : Nat), Dl k (fun _ => 0) i = 0
  | 0, _ => rfl
  | k + 1, i => by show Dl k _ (i + 1) - Dl k _ i = 0; rw [Dl_zero k, Dl_zero k]; rfl
theorem Dl_sm (f : Nat → Nat → Int) (k i : Nat) : ∀ p, (∀ m, m < p → Dl k (f m) i = 0) → Dl k (fun j => sm (fun m => f m j) p) i = 0
  | 0, _ => Dl_zero k i
  | p + 1, h => by
    have e : (fun j => sm (fun m => f m j) (p + 1)) = fun j => sm (fun m => f m j) p + f p j := rfl
    rw [e, Dl_add, Dl_sm f k i p (fun m hm => h m (by omega)), h p (by omega)]; rfl
theorem S_step (a : List Int) (x j : Nat) : ∀ p, S a (x + p) j - S a x j = sm (fun m => S a (x + m) (j + 1)) p
  | 0 => by simp [sm]
  | p + 1 => by
    show S a (x + p) j + S a (x + p) (j + 1) - S a x j = sm _ p + S a (x + p) (j + 1)
    rw [← S_step a x j p]; omega
theorem thin_zero (a : List Int) (p : Nat) : ∀ (n j : Nat), a.length ≤ n + j → ∀ r i, Dl n (fun t => S a (p * t + r) j) i = 0
  | 0, j, h, r, i => S_ge a _ j (by omega)
  | n + 1, j, h, r, i => by
    rw [Dl_shift]
    have e : (fun t => S a (p * (t + 1) + r) j - S a (p * t + r) j) = fun t => sm (fun m => S a (p * t + (r + m)) (j + 1)) p := by
      funext t
      have := S_step a (p * t + r) j p
      rw [show p * (t + 1) + r = p * t + r + p by rw [Nat.mul_succ]; omega, this]
      exact sm_congr fun m _ => by rw [Nat.add_assoc]
    rw [e]
    exact Dl_sm (fun m t => S a (p * t + (r + m)) (j + 1)) n i p fun m _ => thin_zero a p n (j + 1) (by omega) (r + m) i
theorem thin_ge (a : List Int) (p r n k : Nat) (h : a.length ≤ n) (hk : n ≤ k) (i : Nat) : Dl k (fun t => S a (p * t + r) 0) i = 0 := thin_zero a p k 0 (by omega) r i
/-- a course by its differences, at any number -/
theorem S_Dl {c : List Int} {g : Nat → Int} (h : ∀ k, co c k = Dl k g 0) : ∀ (t i : Nat), S c t i = Dl i g t
  | 0, i => h i
  | t + 1, i => by
    show S c t i + S c t (i + 1) = Dl i g (t + 1)
    rw [S_Dl h t i, S_Dl h t (i + 1)]
    show Dl i g t + (Dl i g (t + 1) - Dl i g t) = _
    omega
/-- .. of finitely many values -/
theorem S_tab (v : List Int) : ∀ (t i : Nat), t + i < v.length → S (tab v) t i = Dl i (co v) t
  | 0, i, h => co_tab v i (by omega)
  | t + 1, i, h => by
    show S (tab v) t i + S (tab v) t (i + 1) = Dl i (co v) (t + 1)
    rw [S_tab v t i (by omega), S_tab v t (i + 1) (by omega)]
    show Dl i (co v) t + (Dl i (co v) (t + 1) - Dl i (co v) t) = _
    omega
theorem val_tab (v : List Int) (t : Nat) (h : t < v.length) : val (trim (tab v)) t = co v t := by
  rw [val_trim, val_S, S_tab v t 0 (by omega)]; rfl
end Crs
end

section
set_option Elab.async false
set_option linter.all false
set_option maxRecDepth 100000
set_option maxHeartbeats 1000000
namespace K11
open PySem L2 Rz Crs
local macro_rules | `(tactic| walk_at "sx") => `(tactic| simp only [runF, runI, bindF, start', exs, ex, ev, evA, evO, evC, evI, evX, evTs, evV, Out.bind, Out.of, Out.nx, CRes.out, binV, unV, truV, cmpV, eqV', attrV, ixV, bxV, augV, callM, binD, Rz.binI, cmpI, notD, slD, biD, starOf, itemsV, bindT, bindN, Tg.slots, D.scalar, sameOrBt, declOk, D.tn, Slot.frz, madeI,
  List.map_cons, List.map_nil, List.length_cons, List.length_nil, List.append_nil, List.nil_append, List.cons_append, List.getElem?_cons_zero, List.getElem?_cons_succ, List.set_cons_zero, List.set_cons_succ, List.replicate_zero, List.replicate_succ, List.drop_nil, List.drop_succ_cons, List.drop_zero, List.take_succ_cons, List.take_zero, cond_true, cond_false, decide_true, decide_false, Bool.and_true, Bool.true_and, Bool.and_false, Bool.false_and, Nat.le_refl, Option.map_some, Option.map_none, Bool.not_true, Bool.not_false, Nat.reduceSub, Nat.reduceAdd, Nat.reduceLeDiff, Nat.zero_add, Nat.add_zero, Nat.sub_zero, beq_self_eq_true, Nat.reduceBEq, *])
abbrev G := pd.prg
abbrev Co (ns : List Int) : D := .ins 0 [.tup (ns.map .int)]
abbrev Tu (ns : List Int) : D := .tup (ns.map .int)
abbrev Li (ns : List Int) : D := .lst (ns.map .int)
section
variable {n : Nat} {s : LP}
theorem is_whole_int (i : Int) : callN G (n+1) 1 [.int i] s = .ok (.bl true) s := rfl
theorem lim_ok {k : Nat} (h : k ≤ 100000) : lim k = true := decide_eq_true h
theorem allB_map (ns : List Int) : allB (ns.map fun _ => D.bl true) = some (ns.map fun _ => true) := by
  induction ns with
  | nil => rfl
  | cons a r ih => show (allB (r.map fun _ => D.bl true)).map _ = _; rw [ih]; rfl
theorem fm_some {α : Type} (f : D → D) (g : α → D) (ns : List α) : (ns.map g).filterMap (fun d => some (f d)) = ns.map fun i => f (g i) := by
  induction ns with
  | nil => rfl
  | cons a r ih => rw [List.map_cons, List.filterMap_cons]; simp only [ih, List.map_cons]
theorem are_whole_ints (ns : List Int) (h : ns.length ≤ 2000) : callN G (n+2) 4 [Tu ns] s = .ok (.bl true) s := by
  show runF pd.pt (callN G (n+1)) (mkN G (n+1)) f4_are_whole [Tu ns] s = _
  have e : isiAny pd.pt (Tu ns) [.ty "list", .ty "tuple"] = some true := rfl
  have hW := evW_map (P := pd.pt) (call := callN G (n+1)) (mk := mkN G (n+1)) (elt := .call 1 (.cons false (.v 1) .nil)) (tg := .one 1) (it := .e (.v 0)) (cs := .nil) (τ := [.fz (Tu ns), .none]) (τ1 := [.fz (Tu ns), .none]) (τw := [.fz (Tu ns), .none]) (s := s) (s1 := s) (ds := ns.map .int) (fun d => some (.bl true)) rfl (by simp; omega) rfl (fun d hd => by
    obtain ⟨i, _, rfl⟩ := List.mem_map.mp hd
    exact ⟨_, rfl, rfl⟩)
  rw [fm_some] at hW
  have hA := allB_map ns
  have hT : ∀ l : List Int, (l.map fun _ => true).all id = true := fun l => by induction l <;> simp_all
  simp only [f4_are_whole]
  walk_at "sx"
def wst (ns : List Int) (x : Slot) (k : Nat) : List Slot := [x, .fz (Tu ns), .fz (.int k)]
theorem atI_ints {ns : List Int} {k : Nat} (h : k < ns.length) : atI (ns.map D.int) (((k + 1 : Nat) : Int) - 1) = some (.int (co ns k)) := by
  have e : (((k + 1 : Nat) : Int) - 1) = (k : Int) := by omega
  rw [e, atI_nat (j := k) (v := .int (co ns k)) (by rw [List.getElem?_map, co_lt h]; rfl)]
theorem init_while (ns : List Int) (x : Slot) (hx : x = .ownI 0 []) (hl : ns.length ≤ 2000) : ∀ (k m : Nat), k ≤ ns.length → k < m →
    whileL (fun τ s => evTs pd.pt (callN G n) (mkN G n) (.tand (.cmp .Gt (.v 2) (.k (.int 0))) (.cmp .Eq (.ix (.v 1) (.bin .Sub (.v 2) (.k (.int 1)))) (.k (.int 0)))) τ s)
      (fun τ s => exs pd.pt (callN G n) (mkN G n) (.cons (.aug 2 .Sub false (.k (.int 1))) .nil) τ s) m (wst ns x k) s = .ok .next (wst ns x (sz ns k)) s
  | 0, m + 1, _, _ => by
    subst hx
    rfl
  | k + 1, m + 1, hk, hm => by
    subst hx
    have h1 : ixD (Tu ns) (.int (((k + 1 : Nat) : Int) - 1)) = some (.int (co ns k)) := atI_ints (by omega)
    have h2 : decide ((0 : Int) < ((k + 1 : Nat) : Int)) = true := decide_eq_true (by omega)
    have e1 : evTs pd.pt (callN G n) (mkN G n) (.tand (.cmp .Gt (.v 2) (.k (.int 0))) (.cmp .Eq (.ix (.v 1) (.bin .Sub (.v 2) (.k (.int 1)))) (.k (.int 0)))) (wst ns (.ownI 0 []) (k + 1)) s = .ok (co ns k == 0) (wst ns (.ownI 0 []) (k + 1)) s := by
      have e5 : eqP (.int (co ns k)) (.int 0) = (co ns k == 0) := rfl
      have e6 : (D.int (co ns k)).cmpOk = true := rfl
      have e7 : (D.int 0).cmpOk = true := rfl
      simp only [wst]
      walk_at "sx"
    have e2 : exs pd.pt (callN G n) (mkN G n) (.cons (.aug 2 .Sub false (.k (.int 1))) .nil) (wst ns (.ownI 0 []) (k + 1)) s = .ok .next (wst ns (.ownI 0 []) k) s := by
      have : (((k + 1 : Nat) : Int) - 1) = (k : Int) := by omega
      simp only [wst]
      walk_at "sx"
    simp only [whileL, e1, Out.bind, sz]
    by_cases hz : co ns k = 0
    · rw [if_pos hz, show (co ns k == 0) = true from by rw [hz]; rfl, cond_true, e2]
      exact init_while ns _ rfl hl k m (by omega) (by omega)
    · rw [if_neg hz, show (co ns k == 0) = false from by simpa using hz, cond_false]
theorem course_mk (ns : List Int) (h : ns.length ≤ 2000) : mkN G (n+3) 0 (ns.map .int) s = .ok (Co (trim ns)) s := by
  show runI pd.pt (callN G (n+2)) (mkN G (n+2)) f10_Course__init_ 0 (ns.map .int) s = _
  have hb : bindF f10_Course__init_ (.non :: ns.map .int) = some [.non, Tu ns] := by
    have : lim ((D.non :: ns.map D.int).length) = true := lim_ok (by simp; omega)
    simp only [bindF, f10_Course__init_, this]
    simp
  refine runI_next (x := .non) (τ' := [.fz (Tu ns), .fz (.int (sz ns ns.length))]) hb ?_
  have hA := are_whole_ints (n := n) (s := s) ns h
  refine (exs_next (τ' := [.ownI 0 [], .fz (Tu ns), .none]) (s' := s) ?_).trans ?_
  · have : evTs pd.pt (callN G (n+2)) (mkN G (n+2)) (.not (.call 4 (.cons false (.v 1) .nil))) [.ownI 0 [], .fz (Tu ns), .none] s = .ok false [.ownI 0 [], .fz (Tu ns), .none] s := by walk_at "sx"
    exact ex_ite (τ' := []) this
  refine (exs_next (τ' := wst ns (.ownI 0 []) ns.length) (s' := s) ?_).trans ?_
  · simp only [wst]
    walk_at "sx"
    simp
  refine (exs_next (τ' := wst ns (.ownI 0 []) (sz ns ns.length)) (s' := s) ?_).trans ?_
  · have := init_while (n := n+2) (s := s) ns _ rfl h ns.length wfuel (Nat.le_refl _) (by unfold wfuel; omega)
    rw [ex]; exact this
  refine (exs_next (τ' := [.ownI 0 [Tu (trim ns)], .fz (Tu ns), .fz (.int (sz ns ns.length))]) (s' := s) ?_).trans ?_
  · have ha : pd.pt.attr 0 40 = .fld 0 := rfl
    have hc : cutD (ns.map D.int) none (some (sz ns ns.length : Int)) = (trim ns).map D.int := by
      unfold cutD trim
      have q := sz_le ns ns.length
      have e1 : HT.sIx (ns.map D.int).length 0 none = 0 := rfl
      have e2 : HT.sIx (ns.map D.int).length (ns.map D.int).length (some (sz ns ns.length : Int)) = sz ns ns.length := by
        rw [HT.sIx_nat, List.length_map]; omega
      rw [e1, e2]
      simp [List.map_take]
    simp only [wst]
    walk_at "sx"
  rfl
end
end K11
end

section
set_option Elab.async false
set_option linter.all false
set_option maxRecDepth 100000
set_option maxHeartbeats 1000000
namespace K11
open PySem L2 Rz Crs
local macro_rules | `(tactic| walk_at "sx") => `(tactic| simp only [runF, runI, bindF, start', exs, ex, ev, evA, evO, evC, evI, evX, evTs, evV, Out.bind, Out.of, Out.nx, CRes.out, binV, unV, truV, cmpV, eqV', attrV, ixV, bxV, augV, callM, binD, Rz.binI, cmpI, notD, slD, biD, starOf, itemsV, bindT, bindN, Tg.slots, D.scalar, sameOrBt, declOk, D.tn, Slot.frz, madeI,
  List.map_cons, List.map_nil, List.length_cons, List.length_nil, List.append_nil, List.nil_append, List.cons_append, List.getElem?_cons_zero, List.getElem?_cons_succ, List.set_cons_zero, List.set_cons_succ, List.replicate_zero, List.replicate_succ, List.drop_nil, List.drop_succ_cons, List.drop_zero, List.take_succ_cons, List.take_zero, cond_true, cond_false, decide_true, decide_false, Bool.and_true, Bool.true_and, Bool.and_false, Bool.false_and, Nat.le_refl, Option.map_some, Option.map_none, Bool.not_true, Bool.not_false, Nat.reduceSub, Nat.reduceAdd, Nat.reduceLeDiff, Nat.zero_add, Nat.add_zero, Nat.sub_zero, beq_self_eq_true, Nat.reduceBEq, *])
section
variable {n : Nat} {s : LP}
theorem bg_of {m : Nat} {i : Int} (h : Bn m i) (hm : m ≤ 8000) : bg i = true := decide_eq_true (h.mono hm)
theorem mul_of {i j : Int} (h : bg i = true) (k : bg j = true) : mulOk i j = true := by unfold mulOk; rw [h, k]; rfl
def Bs (m : Nat) (a : List Int) : Prop := ∀ x ∈ a, Bn m x
theorem Bs.co {m : Nat} {a : List Int} (h : Bs m a) (i : Nat) : Bn m (co a i) := by
  rcases Nat.lt_or_ge i a.length with k | k
  · exact h _ (List.mem_of_getElem? (co_lt k))
  · rw [co_ge k]; exact Nat.pow_pos (by decide)
theorem Bs.trim {m : Nat} {a : List Int} (h : Bs m a) : Bs m (trim a) := fun x hx => h x (mem_trim hx)
theorem need_ok (x : D) (b : List D) : callN G (n+1) 26 [x, .ins 0 b] s = .ok .non s := rfl
theorem pad_zip (a b : List Int) (g : Int) : ((a ++ List.replicate (max a.length b.length - a.length) 0).zip (b ++ List.replicate (max a.length b.length - b.length) 0)).map (fun p : Int × Int => p.1 + g * p.2) = addS a b g := by
  have cp : ∀ (c : List Int) (k i : Nat), i < c.length + k → (c ++ List.replicate k 0)[i]? = some (co c i) := by
    intro c k i hi
    rcases Nat.lt_or_ge i c.length with h | h
    · rw [List.getElem?_append_left h, co_lt h]
    · rw [List.getElem?_append_right h, List.getElem?_replicate, if_pos (by omega), co_ge h]
  apply List.ext_getElem?
  intro i
  unfold addS
  rw [List.getElem?_map, List.getElem?_map, List.zip_eq_zipWith, List.getElem?_zipWith]
  rcases Nat.lt_or_ge i (max a.length b.length) with h | h
  · rw [cp a _ i (by omega), cp b _ i (by omega), List.getElem?_range h]; rfl
  · rw [List.getElem?_eq_none (l := a ++ _) (by simp; omega), List.getElem?_eq_none (l := List.range _) (by simpa using h)]; rfl
theorem repD_zero (k : Nat) (h : k ≤ 1000) : repD [.int 0] (k : Int) = some ((List.replicate k (0 : Int)).map D.int) := by
  unfold repD
  rw [decide_eq_true (show (0 : Int) ≤ k by omega), decide_eq_true (show (k : Int) ≤ 1000 by omega), decide_eq_true (show [D.int 0].length ≤ 4000 by decide)]
  simp only [Bool.and_true, cond_true, Int.toNat_natCast]
  congr 1
  induction k with
  | zero => rfl
  | succ k ih => rw [List.replicate_succ, List.replicate_succ, List.flatten_cons, ih (by omega)]; rfl
theorem add_step {call mk : Nat → List D → LP → CRes LP} (x y g : Int) (τ0 : List Slot) (a b c d e f h : Slot) (hg : bg g = true) (hy : bg y = true) (ec : c = .fz (.int g)) :
    lcB pd.pt call mk (.bin .Add (.v 7) (.bin .Mult (.v 2) (.v 8))) (.many [7, 8]) .nil (.tup [.int x, .int y]) [a, b, c, d, e, f, h, .none, .none] s = .ok (some (.int (x + g * y))) [a, b, c, d, e, f, h, .fz (.int x), .fz (.int y)] s := by
  subst ec
  have hm := mul_of hg hy
  simp only [lcB]
  walk_at "sx"
theorem added_ok (a b : List Int) (g : Int) (ha : a.length ≤ 100) (hb : b.length ≤ 100) (hg : bg g = true) (hB : Bs 8000 b) : callN G (n+4) 27 [Co a, Co b, .int g] s = .ok (Co (trim (addS a b g))) s := by
  show runF pd.pt (callN G (n+3)) (mkN G (n+3)) f27_Course_added [Co a, Co b, .int g] s = _
  have hmet : pd.pt.meth 0 44 = some 26 := rfl
  have hat : pd.pt.attr 0 40 = .fld 0 := rfl
  have hnd := need_ok (n := n+2) (s := s) (Co a) [Tu b]
  refine runF_ret (τ' := [.fz (Co a), .fz (Co b), .fz (.int g), .fz (.int (max a.length b.length : Nat)), .fz (Tu (a ++ List.replicate (max a.length b.length - a.length) 0)), .fz (Tu (b ++ List.replicate (max a.length b.length - b.length) 0)), .fz (Li (addS a b g)), .none, .none]) rfl ?_
  refine (exs_next (τ' := [.fz (Co a), .fz (Co b), .fz (.int g), .none, .none, .none, .none, .none, .none]) (s' := s) ?_).trans ?_
  · simp only [Co]
    walk_at "sx"
    rfl
  refine (exs_next (τ' := [.fz (Co a), .fz (Co b), .fz (.int g), .fz (.int (max a.length b.length : Nat)), .none, .none, .none, .none, .none]) (s' := s) ?_).trans ?_
  · have e : (if ((b.length : Nat) : Int) > ((a.length : Nat) : Int) then ((b.length : Nat) : Int) else ((a.length : Nat) : Int)) = ((max a.length b.length : Nat) : Int) := by
      split <;> omega
    simp only [Co, Tu]
    walk_at "sx"
    simp only [List.length_map, e]
  have hsub : ∀ c : List Int, c.length ≤ max a.length b.length → ((max a.length b.length : Nat) : Int) - (c.length : Int) = ((max a.length b.length - c.length : Nat) : Int) := fun c h => by omega
  have tupE : ∀ (i : Nat) (c : List Int) (τ : List Slot), c.length ≤ max a.length b.length → c.length ≤ 100 → τ[i]? = some (.fz (Co c)) → τ[3]? = some (.fz (.int (max a.length b.length : Nat))) →
      ev pd.pt (callN G (n+3)) (mkN G (n+3)) (.tup (.cons true (.attr (.v i) 40) (.cons true (.bin .Mult (.lst (.cons false (.k (.int 0)) .nil)) (.bin .Sub (.v 3) (.bi .len (.cons false (.attr (.v i) 40) .nil)))) .nil))) τ s = .ok (Tu (c ++ List.replicate (max a.length b.length - c.length) 0)) τ s := by
    intro i c τ h1 h2 h3 h4
    have hr := repD_zero (max a.length b.length - c.length) (by omega)
    have hl : lim (c.map D.int ++ (List.replicate (max a.length b.length - c.length) (0 : Int)).map D.int).length = true := lim_ok (by simp; omega)
    have hl1 : lim 1 = true := rfl
    have hs := hsub c h1
    simp only [Co] at h3
    walk_at "sx"
    simp only [List.length_map, hs, hr, Option.map_some]
    walk_at "sx"
    simp only [Tu, List.map_append]
  refine (exs_next (τ' := [.fz (Co a), .fz (Co b), .fz (.int g), .fz (.int (max a.length b.length : Nat)), .fz (Tu (a ++ List.replicate (max a.length b.length - a.length) 0)), .none, .none, .none, .none]) (s' := s) ?_).trans ?_
  · have := tupE 0 a [.fz (Co a), .fz (Co b), .fz (.int g), .fz (.int (max a.length b.length : Nat)), .none, .none, .none, .none, .none] (Nat.le_max_left _ _) ha rfl rfl
    simp only [ex, evX, this, Out.bind]; rfl
  refine (exs_next (τ' := [.fz (Co a), .fz (Co b), .fz (.int g), .fz (.int (max a.length b.length : Nat)), .fz (Tu (a ++ List.replicate (max a.length b.length - a.length) 0)), .fz (Tu (b ++ List.replicate (max a.length b.length - b.length) 0)), .none, .none, .none]) (s' := s) ?_).trans ?_
  · have := tupE 1 b [.fz (Co a), .fz (Co b), .fz (.int g), .fz (.int (max a.length b.length : Nat)), .fz (Tu (a ++ List.replicate (max a.length b.length - a.length) 0)), .none, .none, .none, .none] (Nat.le_max_right _ _) hb rfl rfl
    simp only [ex, evX, this, Out.bind]; rfl
  refine (exs_next (τ' := [.fz (Co a), .fz (Co b), .fz (.int g), .fz (.int (max a.length b.length : Nat)), .fz (Tu (a ++ List.replicate (max a.length b.length - a.length) 0)), .fz (Tu (b ++ List.replicate (max a.length b.length - b.length) 0)), .fz (Li (addS a b g)), .none, .none]) (s' := s) ?_).trans ?_
  · generalize hA : a ++ List.replicate (max a.length b.length - a.length) 0 = A
    generalize hBB : b ++ List.replicate (max a.length b.length - b.length) 0 = B
    have hz := pad_zip a b g
    rw [hA, hBB] at hz
    have hAl : A.length ≤ 200 := by rw [← hA]; simp; omega
    have hBb : ∀ y ∈ B, bg y = true := by
      rw [← hBB]; intro y hy
      rcases List.mem_append.mp hy with h | h
      · exact bg_of (hB y h) (Nat.le_refl _)
      · rw [(List.mem_replicate.mp h).2]; rfl
    have hW := evW_map (P := pd.pt) (call := callN G (n+3)) (mk := mkN G (n+3)) (elt := .bin .Add (.v 7) (.bin .Mult (.v 2) (.v 8))) (tg := .many [7, 8]) (it := .zip (.v 4) (.v 5)) (cs := .nil)
      (τ := [.fz (Co a), .fz (Co b), .fz (.int g), .fz (.int (max a.length b.length : Nat)), .fz (Tu A), .fz (Tu B), .none, .none, .none]) (τ1 := [.fz (Co a), .fz (Co b), .fz (.int g), .fz (.int (max a.length b.length : Nat)), .fz (Tu A), .fz (Tu B), .none, .none, .none]) (τw := [.fz (Co a), .fz (Co b), .fz (.int g), .fz (.int (max a.length b.length : Nat)), .fz (Tu A), .fz (Tu B), .none, .none, .none]) (s := s) (s1 := s)
      (ds := ((A.map D.int).zip (B.map D.int)).map fun p => .tup [p.1, p.2]) (fun d => some (match d with | .tup [.int x, .int y] => .int (x + g * y) | _ => .non)) rfl (by simp; omega) rfl (fun d hd => by
        obtain ⟨⟨x, y⟩, hp, rfl⟩ := List.mem_map.mp hd
        obtain ⟨h1, h2⟩ := List.of_mem_zip hp
        obtain ⟨i, hi, rfl⟩ := List.mem_map.mp h1
        obtain ⟨j, hj, rfl⟩ := List.mem_map.mp h2
        exact ⟨_, add_step i j g [] _ _ _ _ _ _ _ hg (hBb j hj) rfl, rfl⟩)
    have hM : (((A.map D.int).zip (B.map D.int)).map fun p => D.tup [p.1, p.2]).filterMap (fun d => some (match d with | .tup [.int x, .int y] => D.int (x + g * y) | _ => .non)) = (addS a b g).map D.int := by
      rw [← hz, List.zip_map, List.map_map, List.map_map]
      rw [fm_some (fun d => match d with | .tup [.int x, .int y] => D.int (x + g * y) | _ => .non)]
      rfl
    rw [hM] at hW
    simp only [ex, evX, ev, hW, Out.bind]
    rfl
  refine exs_ret ?_
  have hm := course_mk (n := n) (s := s) (addS a b g) (by unfold addS; simp; omega)
  simp only [ex, ev, evA, Out.bind, starOf, List.getElem?_cons_zero, List.getElem?_cons_succ, cond_true, List.append_nil, hm, CRes.out]
end
end K11
end

section
set_option Elab.async false
set_option linter.all false
set_option maxRecDepth 100000
set_option maxHeartbeats 1000000
namespace K11
open PySem L2 Rz Crs
local macro_rules | `(tactic| walk_at "sx") => `(tactic| simp only [runF, runI, bindF, start', exs, ex, ev, evA, evO, evC, evI, evX, evTs, evV, Out.bind, Out.of, Out.nx, CRes.out, binV, unV, truV, cmpV, eqV', attrV, ixV, bxV, augV, callM, binD, Rz.binI, cmpI, notD, slD, biD, starOf, itemsV, bindT, bindN, Tg.slots, D.scalar, sameOrBt, declOk, D.tn, Slot.frz, madeI,
  List.map_cons, List.map_nil, List.length_cons, List.length_nil, List.append_nil, List.nil_append, List.cons_append, List.getElem?_cons_zero, List.getElem?_cons_succ, List.set_cons_zero, List.set_cons_succ, List.replicate_zero, List.replicate_succ, List.drop_nil, List.drop_succ_cons, List.drop_zero, List.take_succ_cons, List.take_zero, cond_true, cond_false, decide_true, decide_false, Bool.and_true, Bool.true_and, Bool.and_false, Bool.false_and, Nat.le_refl, Option.map_some, Option.map_none, Bool.not_true, Bool.not_false, Nat.reduceSub, Nat.reduceAdd, Nat.reduceLeDiff, Nat.zero_add, Nat.add_zero, Nat.sub_zero, beq_self_eq_true, Nat.reduceBEq, *])
section
variable {n : Nat} {s : LP}
theorem mul_step {call mk : Nat → List D → LP → CRes LP} (x k : Int) (a c : Slot) (hx : bg x = true) (hk : bg k = true) :
    lcB pd.pt call mk (.bin .Mult (.v 3) (.v 1)) (.one 3) .nil (.int x) [a, .fz (.int k), c, .none] s = .ok (some (.int (x * k))) [a, .fz (.int k), c, .fz (.int x)] s := by
  have hm := mul_of hx hk
  simp only [lcB]
  walk_at "sx"
theorem mul_ok (a : List Int) (k : Int) (ha : a.length ≤ 100) (hk : bg k = true) (hB : Bs 8000 a) : callN G (n+4) 28 [Co a, .int k] s = .ok (Co (trim (a.map (· * k)))) s := by
  show runF pd.pt (callN G (n+3)) (mkN G (n+3)) f28_Course_multiplied_by [Co a, .int k] s = _
  have hat : pd.pt.attr 0 40 = .fld 0 := rfl
  refine runF_ret (τ' := [.fz (Co a), .fz (.int k), .fz (Li (a.map (· * k))), .none]) rfl ?_
  refine (exs_next (τ' := [.fz (Co a), .fz (.int k), .none, .none]) (s' := s) rfl).trans ?_
  refine (exs_next (τ' := [.fz (Co a), .fz (.int k), .fz (Li (a.map (· * k))), .none]) (s' := s) ?_).trans ?_
  · have hW := evW_map (P := pd.pt) (call := callN G (n+3)) (mk := mkN G (n+3)) (elt := .bin .Mult (.v 3) (.v 1)) (tg := .one 3) (it := .e (.attr (.v 0) 40)) (cs := .nil)
      (τ := [.fz (Co a), .fz (.int k), .none, .none]) (τ1 := [.fz (Co a), .fz (.int k), .none, .none]) (τw := [.fz (Co a), .fz (.int k), .none, .none]) (s := s) (s1 := s) (ds := a.map .int) (fun d => some (match d with | .int x => .int (x * k) | _ => .non)) rfl (by simp; omega) rfl (fun d hd => by
        obtain ⟨i, hi, rfl⟩ := List.mem_map.mp hd
        exact ⟨_, mul_step i k _ _ (bg_of (hB i hi) (Nat.le_refl _)) hk, rfl⟩)
    rw [fm_some (fun d => match d with | .int x => D.int (x * k) | _ => .non)] at hW
    simp only [ex, evX, ev, hW, Out.bind]
    simp only [Li, List.map_map]
    rfl
  refine exs_ret ?_
  have hm := course_mk (n := n) (s := s) (a.map (· * k)) (by simp; omega)
  simp only [ex, ev, evA, Out.bind, starOf, List.getElem?_cons_zero, List.getElem?_cons_succ, cond_true, List.append_nil, hm, CRes.out]
theorem Bs1 : bg 1 = true := rfl
theorem Bsm1 : bg (-1) = true := rfl
theorem add_ok (a b : List Int) (ha : a.length ≤ 100) (hb : b.length ≤ 100) (hB : Bs 8000 b) : callN G (n+5) 30 [Co a, Co b] s = .ok (Co (trim (addS a b 1))) s := by
  show runF pd.pt (callN G (n+4)) (mkN G (n+4)) f30_Course__add_ [Co a, Co b] s = _
  have hm : pd.pt.meth 0 45 = some 27 := rfl
  have h := added_ok (n := n) (s := s) a b 1 ha hb rfl hB
  simp only [f30_Course__add_]
  walk_at "sx"
theorem sub_ok (a b : List Int) (ha : a.length ≤ 100) (hb : b.length ≤ 100) (hB : Bs 8000 b) : callN G (n+5) 32 [Co a, Co b] s = .ok (Co (trim (addS a b (-1)))) s := by
  show runF pd.pt (callN G (n+4)) (mkN G (n+4)) f32_Course__sub_ [Co a, Co b] s = _
  have hm : pd.pt.meth 0 45 = some 27 := rfl
  have h := added_ok (n := n) (s := s) a b (-1) ha hb rfl hB
  simp only [f32_Course__sub_]
  walk_at "sx"
theorem muL_ok (a : List Int) (k : Int) (ha : a.length ≤ 100) (hk : bg k = true) (hB : Bs 8000 a) : callN G (n+5) 34 [Co a, .int k] s = .ok (Co (trim (a.map (· * k)))) s := by
  show runF pd.pt (callN G (n+4)) (mkN G (n+4)) f34_Course__mul_ [Co a, .int k] s = _
  have hm : pd.pt.meth 0 46 = some 28 := rfl
  have h := mul_ok (n := n) (s := s) a k ha hk hB
  simp only [f34_Course__mul_]
  walk_at "sx"
theorem muR_ok (a : List Int) (k : Int) (ha : a.length ≤ 100) (hk : bg k = true) (hB : Bs 8000 a) : callN G (n+5) 35 [Co a, .int k] s = .ok (Co (trim (a.map (· * k)))) s := by
  show runF pd.pt (callN G (n+4)) (mkN G (n+4)) f35_Course__rmul_ [Co a, .int k] s = _
  have hm : pd.pt.meth 0 46 = some 28 := rfl
  have h := mul_ok (n := n) (s := s) a k ha hk hB
  simp only [f35_Course__rmul_]
  walk_at "sx"
theorem neg_ok (a : List Int) (ha : a.length ≤ 100) (hB : Bs 8000 a) : callN G (n+5) 36 [Co a] s = .ok (Co (trim (a.map (· * -1)))) s := by
  show runF pd.pt (callN G (n+4)) (mkN G (n+4)) f36_Course__neg_ [Co a] s = _
  have hm : pd.pt.meth 0 46 = some 28 := rfl
  have h := mul_ok (n := n) (s := s) a (-1) ha rfl hB
  simp only [f36_Course__neg_]
  walk_at "sx"
theorem sums_ok (a : List Int) (ha : a.length ≤ 100) : callN G (n+4) 18 [Co a] s = .ok (Co (trim (0 :: a))) s := by
  show runF pd.pt (callN G (n+3)) (mkN G (n+3)) f18_Course_sums [Co a] s = _
  have hat : pd.pt.attr 0 40 = .fld 0 := rfl
  have h := course_mk (n := n) (s := s) (0 :: a) (by simp; omega)
  simp only [f18_Course_sums]
  rw [List.map_cons] at h
  walk_at "sx"
theorem degree_ok (a : List Int) : callN G (n+1) 13 [Co a] s = .ok (.int (a.length - 1)) s := by
  show CRes.ok (.int ((a.map D.int).length - 1)) s = _
  rw [List.length_map]
theorem bool_ok (a : List Int) : callN G (n+1) 37 [Co a] s = .ok (.bl (!a.isEmpty)) s := by
  cases a <;> rfl
theorem plain_ints (a : List Int) : D.plainL (a.map D.int) = true ∧ D.deepL (a.map D.int) = 0 := by
  induction a with
  | nil => exact ⟨rfl, rfl⟩
  | cons x r ih => exact ⟨by show (true && _) = true; rw [ih.1]; rfl, by show max 0 _ = 0; rw [ih.2]; rfl⟩
theorem cmpOk_tu (a : List Int) : (Tu a).cmpOk = true := by
  show (D.plainL (a.map D.int) && decide (D.deepL (a.map D.int) + 1 ≤ 20)) = true
  rw [(plain_ints a).1, (plain_ints a).2]; rfl
theorem cmpOk_li (a : List Int) : (Li a).cmpOk = true := cmpOk_tu a
theorem eqPL_ints : ∀ (a b : List Int), eqPL (a.map D.int) (b.map D.int) = (a == b)
  | [], [] => rfl
  | [], _ :: _ => rfl
  | _ :: _, [] => rfl
  | x :: a, y :: b => by
    show (eqF (.int x) (.int y) && eqPL (a.map D.int) (b.map D.int)) = _
    rw [eqPL_ints a b]; rfl
theorem eqP_tu (a b : List Int) : eqP (Tu a) (Tu b) = (a == b) := eqPL_ints a b
theorem eqP_li (a b : List Int) : eqP (Li a) (Li b) = (a == b) := eqPL_ints a b
theorem eq_ok (a b : List Int) : callN G (n+1) 38 [Co a, Co b] s = .ok (.bl (a == b)) s := by
  show runF pd.pt (callN G n) (mkN G n) f38_Course__eq_ [Co a, Co b] s = _
  have hat : pd.pt.attr 0 40 = .fld 0 := rfl
  have hi : isiAny pd.pt (Co b) [.cl 0] = some true := rfl
  have h1 := cmpOk_tu a
  have h2 := cmpOk_tu b
  have h3 := eqP_tu a b
  simp only [f38_Course__eq_]
  walk_at "sx"
/-- what is no course is never equal to one -/
theorem eq_no (a : List Int) (x : D) (h : isiAny pd.pt x [.cl 0] = some false) : callN G (n+1) 38 [Co a, x] s = .ok (.bl false) s := by
  show runF pd.pt (callN G n) (mkN G n) f38_Course__eq_ [Co a, x] s = _
  simp only [f38_Course__eq_]
  walk_at "sx"
end
end K11
end

section
set_option Elab.async false
set_option linter.all false
set_option maxRecDepth 100000
set_option maxHeartbeats 1000000
namespace K11
open PySem L2 Rz Crs
local macro_rules | `(tactic| walk_at "sx") => `(tactic| simp only [runF, runI, bindF, start', exs, ex, ev, evA, evO, evC, evI, evX, evTs, evV, Out.bind, Out.of, Out.nx, CRes.out, binV, unV, truV, cmpV, eqV', attrV, ixV, bxV, augV, callM, binD, Rz.binI, cmpI, notD, slD, biD, starOf, itemsV, bindT, bindN, Tg.slots, D.scalar, sameOrBt, declOk, D.tn, Slot.frz, madeI,
  List.map_cons, List.map_nil, List.length_cons, List.length_nil, List.append_nil, List.nil_append, List.cons_append, List.getElem?_cons_zero, List.getElem?_cons_succ, List.set_cons_zero, List.set_cons_succ, List.replicate_zero, List.replicate_succ, List.drop_nil, List.drop_succ_cons, List.drop_zero, List.take_succ_cons, List.take_zero, cond_true, cond_false, decide_true, decide_false, Bool.and_true, Bool.true_and, Bool.and_false, Bool.false_and, Nat.le_refl, Option.map_some, Option.map_none, Bool.not_true, Bool.not_false, Nat.reduceSub, Nat.reduceAdd, Nat.reduceLeDiff, Nat.zero_add, Nat.add_zero, Nat.sub_zero, beq_self_eq_true, Nat.reduceBEq, *])
section
variable {n : Nat} {s : LP}
/-! ### values -/
/-- t within bounds -/
def Tk (t : Int) : Prop := Bn 140 t
theorem wt_bg {t : Int} (h : Tk t) {k : Nat} (hk : k ≤ 8) : bg (wt t k) = true := bg_of (wt_bn h (by decide) k hk) (by have : k * (140 + 2) ≤ 8 * 142 := Nat.mul_le_mul_right _ hk; omega)
theorem sub_bg {t : Int} (h : Tk t) {k : Nat} (hk : k ≤ 8) : bg (t - k) = true := by
  have hk' : Bn 140 (-(k : Int)) := by
    unfold Bn
    rw [Int.natAbs_neg, Int.natAbs_natCast]
    exact Nat.lt_of_lt_of_le (show k < 2 ^ 4 by omega) (Nat.pow_le_pow_right (by decide) (by decide))
  exact bg_of (Bn.add h hk') (by decide)
theorem value_turn (a : List Int) (t : Int) (k : Nat) (ha : a.length ≤ 8) (hk : k < a.length) (hB : Bs 8000 a) (ht : Tk t) (x4 x5 : Slot) :
    exs pd.pt (callN G n) (mkN G n) (.cons (.aug 2 .Add false (.bin .Mult (.v 5) (.v 3))) (.cons (.set 3 false (.bin .FloorDiv (.bin .Mult (.v 3) (.bin .Sub (.v 1) (.v 4))) (.bin .Add (.v 4) (.k (.int 1))))) .nil))
      [.fz (Co a), .fz (.int t), .fz (.int (vs a t k)), .fz (.int (wt t k)), .fz (.int k), .fz (.int (co a k))] s = .ok .next [.fz (Co a), .fz (.int t), .fz (.int (vs a t (k + 1))), .fz (.int (wt t (k + 1))), .fz (.int k), .fz (.int (co a k))] s := by
  have h1 := mul_of (bg_of (hB.co k) (Nat.le_refl _)) (wt_bg ht (k := k) (by omega))
  have h2 := mul_of (wt_bg ht (k := k) (by omega)) (sub_bg ht (k := k) (by omega))
  have h3 : decide ((0 : Int) < (k : Int) + 1) = true := decide_eq_true (by omega)
  have h4 : bg ((k : Int) + 1) = true := bg_of (m := 4) (show ((k : Int) + 1).natAbs < 2 ^ 4 by omega) (by decide)
  walk_at "sx"
  rfl
theorem enum_get (a : List Int) (i : Nat) (d : D) (h : (enumD (a.map D.int))[i]? = some d) : i < a.length ∧ d = .tup [.int i, .int (co a i)] := by
  unfold enumD at h
  rw [List.getElem?_map, List.getElem?_zipIdx, List.getElem?_map] at h
  rcases Nat.lt_or_ge i a.length with k | k
  · rw [co_lt k] at h
    refine ⟨k, ?_⟩
    simp at h
    exact h.symm
  · rw [List.getElem?_eq_none k] at h; cases h
theorem enum_len (a : List Int) : (enumD (a.map D.int)).length = a.length := by unfold enumD; simp
theorem value_at_ok (a : List Int) (t : Int) (ha : a.length ≤ 8) (hB : Bs 8000 a) (ht : Tk t) : callN G (n+1) 14 [Co a, .int t] s = .ok (.int (val a t)) s := by
  show runF pd.pt (callN G n) (mkN G n) f14_Course_value_at [Co a, .int t] s = _
  have hat : pd.pt.attr 0 40 = .fld 0 := rfl
  let τs : Nat → List Slot := fun k => [.fz (Co a), .fz (.int t), .fz (.int (vs a t k)), .fz (.int (wt t k)), if k = 0 then .none else .fz (.int (k - 1 : Nat)), if k = 0 then .none else .fz (.int (co a (k - 1)))]
  refine runF_ret (τ' := τs a.length) rfl ?_
  refine (exs_next (τ' := τs 0) (s' := s) rfl).trans ?_
  refine (exs_next (τ' := τs a.length) (s' := s) ?_).trans ?_
  · rw [ex_for (ds := enumD (a.map D.int)) (τ1 := τs 0) (s1 := s) rfl]
    have h := forL_seq (s := s) (b := fun d τ s => match bindT (.many [4, 5]) d τ with
      | some τ => exs pd.pt (callN G n) (mkN G n) (.cons (.aug 2 .Add false (.bin .Mult (.v 5) (.v 3))) (.cons (.set 3 false (.bin .FloorDiv (.bin .Mult (.v 3) (.bin .Sub (.v 1) (.v 4))) (.bin .Add (.v 4) (.k (.int 1))))) .nil)) τ s
      | none => .no) τs (enumD (a.map D.int)) (fun i d hd => by
        obtain ⟨h1, rfl⟩ := enum_get a i d hd
        exact value_turn a t i ha h1 hB ht .none .none)
    rw [enum_len] at h
    exact h
  refine exs_ret ?_
  rfl
theorem is_count_ok (t : Int) (h0 : 0 ≤ t) (h1 : t ≤ 10 ^ 40) : callN G (n+3) 3 [.int t] s = .ok (.bl true) s := by
  show runF pd.pt (callN G (n+2)) (mkN G (n+2)) f3_is_count [.int t] s = _
  have hg : pd.pt.gl 0 = .int (10 ^ 40) := rfl
  have h2 : callN G (n+2) 2 [.int t, .int 0, .int (10 ^ 40)] s = .ok (.bl true) s := by
    show runF pd.pt (callN G (n+1)) (mkN G (n+1)) f2_is_between [.int t, .int 0, .int (10 ^ 40)] s = _
    have e1 := is_whole_int (n := n) (s := s) t
    have e2 : decide ((0 : Int) ≤ t) = true := decide_eq_true h0
    have e3 : decide (t ≤ (10 : Int) ^ 40) = true := decide_eq_true h1
    simp only [f2_is_between]
    walk_at "sx"
  simp only [f3_is_count]
  walk_at "sx"
theorem call_ok (a : List Int) (t : Int) (ha : a.length ≤ 8) (hB : Bs 8000 a) (h0 : 0 ≤ t) (h1 : t ≤ 10 ^ 40) : callN G (n+4) 29 [Co a, .int t] s = .ok (.int (val a t)) s := by
  show runF pd.pt (callN G (n+3)) (mkN G (n+3)) f29_Course__call_ [Co a, .int t] s = _
  have ht : Tk t := by
    unfold Tk Bn
    have e : (10 : Int) ^ 40 = 10000000000000000000000000000000000000000 := by decide
    have e2 : (2 : Nat) ^ 140 = 1393796574908163946345982392040522594123776 := by decide
    rw [e] at h1; rw [e2]; omega
  have hm : pd.pt.meth 0 43 = some 14 := rfl
  have h := is_count_ok (n := n) (s := s) t h0 h1
  have hv := value_at_ok (n := n+2) (s := s) a t ha hB ht
  refine runF_ret (τ' := [.fz (Co a), .fz (.int t)]) rfl ?_
  refine (exs_next (τ' := [.fz (Co a), .fz (.int t)]) (s' := s) ?_).trans ?_
  · have : evTs pd.pt (callN G (n+3)) (mkN G (n+3)) (.not (.call 3 (.cons false (.v 1) .nil))) [.fz (Co a), .fz (.int t)] s = .ok false [.fz (Co a), .fz (.int t)] s := by walk_at "sx"
    exact ex_ite (τ' := []) this
  refine exs_ret ?_
  walk_at "sx"
/-! ### the text of a course -/
def strI (i : Int) : D := .str (toString i : String)
theorem log_ok {i : Int} (h : Bn 1000 i) : decide (i.natAbs.log2 < 1900) = true := by
  refine decide_eq_true ?_
  by_cases hz : i.natAbs = 0
  · rw [hz]; decide
  · exact Nat.lt_of_lt_of_le ((Nat.log2_lt hz).mpr h) (by decide)
theorem shown_int {i : Int} (h : Bn 1000 i) : (Str.ofString (toString i)).length ≤ 1921 := PyProof.Rows.int_text_len_1921 (Nat.lt_of_lt_of_le (of_decide_eq_true (log_ok h)) (by decide))
theorem piled_le {ts : List Str} {B : Nat} (h : ∀ t ∈ ts, t.length ≤ B) : piled ts ≤ ts.length * (B + 2) := by
  induction ts with
  | nil => simp [piled]
  | cons t r ih =>
    rw [piled_cons, List.length_cons, Nat.succ_mul]
    have h1 := h t List.mem_cons_self
    have h2 := ih fun t' m => h t' (List.mem_cons_of_mem _ m)
    omega
theorem tupleText_le (ts : List Str) : (tupleText ts).length ≤ piled ts + 3 := by
  unfold tupleText
  rw [strLen_append, strLen_append]
  have e1 : ((("(" : String) : Str)).length = 1 := rfl
  have e3 : (((if ts.length == 1 then ",)" else ")" : String) : Str)).length ≤ 2 := by split <;> decide
  rw [e1]
  by_cases h : ts = []
  · subst h
    have : (Str.join ", " []).length = 0 := rfl
    omega
  · have := join_length_add ts h
    omega
theorem textFrom_le : ∀ (ts : List Str) (k : Nat) (acc : Str), (textFrom k acc ts).length ≤ acc.length + piled ts
  | [], k, acc => by rw [piled_nil]; exact Nat.le_refl _
  | t :: r, k, acc => by
    have ih := textFrom_le r (k + 1) (acc ++ (if k > 0 then ", " else "" : String) ++ t)
    rw [piled_cons]
    rw [strLen_append, strLen_append] at ih
    have e : (((if k > 0 then ", " else "" : String) : Str)).length ≤ 2 := by split <;> decide
    show (textFrom (k + 1) (acc ++ (if k > 0 then ", " else "" : String) ++ t) r).length ≤ _
    omega
theorem listText_le (ts : List Str) : (listText ts).length ≤ piled ts + 2 := by
  unfold listText
  rw [strLen_append]
  have h := textFrom_le ts 0 "["
  have e1 : ((("[" : String) : Str)).length = 1 := rfl
  have e2 : ((("]" : String) : Str)).length = 1 := rfl
  omega
theorem pyL_ints (a : List Int) : D.pyL (a.map D.int) = some (a.map PyData.int) := by
  induction a with
  | nil => rfl
  | cons x r ih => show (D.pyL (r.map D.int)).map _ = _; rw [ih]; rfl
theorem shownAll_ints (a : List Int) : PyData.shownAll (a.map PyData.int) = a.map fun i => (Str.ofString (toString i)) := by
  induction a with
  | nil => rfl
  | cons x r ih => show _ :: PyData.shownAll (r.map PyData.int) = _; rw [ih]; rfl
theorem showableAll_ints (a : List Int) (h : Bs 1000 a) : PyData.showableAll (a.map PyData.int) = true := by
  induction a with
  | nil => rfl
  | cons x r ih =>
    show (decide (x.natAbs.log2 < 1920) && PyData.showableAll (r.map PyData.int)) = true
    rw [ih fun y m => h y (List.mem_cons_of_mem _ m), decide_eq_true (Nat.lt_trans (of_decide_eq_true (log_ok (h x List.mem_cons_self))) (by decide))]; rfl
/-- repr of [a tuple of ints, an int, a truth] -/
theorem repr_ok (a : List Int) (k : Int) (b : Bool) (ha : a.length ≤ 7) (hB : Bs 1000 a) (hk : Bn 1000 k) : ∃ z, reprD (.lst [Tu a, .int k, .bl b]) = some (.str z) := by
  have h1 : (D.lst [Tu a, .int k, .bl b]).plain = true := by
    show (D.plainL (a.map D.int) && _) = true
    rw [(plain_ints a).1]; rfl
  have h2 : decide ((D.lst [Tu a, .int k, .bl b]).deep ≤ 20) = true := by
    refine decide_eq_true ?_
    show max (D.deepL (a.map D.int) + 1) (max 0 (max 0 0)) + 1 ≤ 20
    rw [(plain_ints a).2]; decide
  have h3 : (D.lst [Tu a, .int k, .bl b]).py = some (.list [.tuple (a.map .int), .int k, .bool b]) := by
    show (match (D.pyL (a.map D.int)).map PyData.tuple with | some p => _ | none => _ : Option _).map PyData.list = _
    rw [pyL_ints]; rfl
  have h4 : PyData.showable (.list [.tuple (a.map .int), .int k, .bool b]) = true := by
    show (PyData.showableAll (a.map PyData.int) && (decide (k.natAbs.log2 < 1920) && true)) = true
    rw [showableAll_ints a hB, decide_eq_true (Nat.lt_trans (of_decide_eq_true (log_ok hk)) (by decide))]; rfl
  have h5 : lim (PyData.shown (.list [.tuple (a.map .int), .int k, .bool b])).length = true := by
    refine lim_ok ?_
    have e : PyData.shown (.list [.tuple (a.map .int), .int k, .bool b]) = listText [tupleText (a.map fun i => (Str.ofString (toString i))), Str.ofString (toString k), (if b then "True" else "False" : String)] := by
      show listText [tupleText (PyData.shownAll (a.map PyData.int)), _, _] = _
      rw [shownAll_ints]
      cases b <;> rfl
    rw [e]
    have t1 := tupleText_le (a.map fun i => (Str.ofString (toString i)))
    have t2 := piled_le (ts := a.map fun i => (Str.ofString (toString i))) (B := 1921) (fun t m => by obtain ⟨i, hi, rfl⟩ := List.mem_map.mp m; exact shown_int (hB i hi))
    rw [List.length_map] at t2
    have t3 := listText_le [tupleText (a.map fun i => (Str.ofString (toString i))), Str.ofString (toString k), (if b then "True" else "False" : String)]
    have t4 := shown_int hk
    have t5 : ((if b then "True" else "False" : String) : Str).length ≤ 5 := by cases b <;> decide
    rw [piled_cons, piled_cons, piled_cons, piled_nil] at t3
    have t6 : a.length * (1921 + 2) ≤ 7 * (1921 + 2) := Nat.mul_le_mul_right _ ha
    omega
  refine ⟨PyData.shown (.list [.tuple (a.map .int), .int k, .bool b]), ?_⟩
  simp only [reprD, h1, h2, h3, h4, h5, Bool.and_true, cond_true]
theorem allS_strs (a : List Int) : allS (a.map strI) = some (a.map fun i => (Str.ofString (toString i))) := by
  induction a with
  | nil => rfl
  | cons x r ih => show (allS (r.map strI)).map _ = _; rw [ih]; rfl
theorem str_step {call mk : Nat → List D → LP → CRes LP} (x : Int) (a : Slot) (h : Bn 1000 x) :
    lcB pd.pt call mk (.bx .str (.v 1)) (.one 1) .nil (.int x) [a, .none] s = .ok (some (strI x)) [a, .fz (.int x)] s := by
  have := log_ok h
  simp only [lcB]
  walk_at "sx"
  rfl
theorem str_ok (a : List Int) (ha : a.length ≤ 7) (hB : Bs 1000 a) : ∃ z, callN G (n+1) 39 [Co a] s = .ok (.str z) s := by
  have hat : pd.pt.attr 0 40 = .fld 0 := rfl
  have ht : evTs pd.pt (callN G n) (mkN G n) (.cmp .Eq (.attr (.v 0) 40) (.tup .nil)) [.fz (Co a), .none] s = .ok (a == []) [.fz (Co a), .none] s := by
    have h1 := cmpOk_tu a
    have h2 : (D.tup []).cmpOk = true := rfl
    have h3 : eqP (Tu a) (D.tup []) = (a == []) := eqP_tu a []
    have h4 : lim 0 = true := rfl
    walk_at "sx"
  cases a with
  | nil =>
    refine ⟨PySem.Str.ofString "0", ?_⟩
    show runF pd.pt (callN G n) (mkN G n) f39_Course__str_ [Co []] s = _
    refine runF_ret (τ' := [.fz (Co []), .none]) rfl ?_
    refine exs_ret ?_
    exact ex_ite (τ' := []) ht
  | cons x r =>
    have hl : lim ((((x :: r).map fun i => (Str.ofString (toString i))).map (·.length)).sum + ((x :: r).map fun i => (Str.ofString (toString i))).length * (PySem.Str.ofString " ").length) = true := by
      refine lim_ok ?_
      have : ∀ (l : List Int), Bs 1000 l → ((l.map fun i => (Str.ofString (toString i))).map (·.length)).sum ≤ l.length * 1921 := by
        intro l
        induction l with
        | nil => intro _; simp
        | cons y q ih =>
          intro hb
          have e1 := shown_int (hb y List.mem_cons_self)
          have e2 := ih fun z m => hb z (List.mem_cons_of_mem _ m)
          simp only [List.map_cons, List.sum_cons, List.length_cons, Nat.succ_mul] at e2 ⊢
          omega
      have h1 := this (x :: r) hB
      have e : (PySem.Str.ofString " ").length = 1 := rfl
      rw [e, List.length_map]
      have : (x :: r).length * 1921 ≤ 7 * 1921 := Nat.mul_le_mul_right _ ha
      omega
    refine ⟨Txt.join (PySem.Str.ofString " ") ((x :: r).map fun i => (Str.ofString (toString i))), ?_⟩
    show runF pd.pt (callN G n) (mkN G n) f39_Course__str_ [Co (x :: r)] s = _
    refine runF_ret (τ' := [.fz (Co (x :: r)), .none]) rfl ?_
    refine (exs_next (τ' := [.fz (Co (x :: r)), .none]) (s' := s) (ex_ite (τ' := []) ht)).trans ?_
    refine exs_ret ?_
    have hW := evW_map (P := pd.pt) (call := callN G n) (mk := mkN G n) (elt := .bx .str (.v 1)) (tg := .one 1) (it := .e (.attr (.v 0) 40)) (cs := .nil)
      (τ := [.fz (Co (x :: r)), .none]) (τ1 := [.fz (Co (x :: r)), .none]) (τw := [.fz (Co (x :: r)), .none]) (s := s) (s1 := s) (ds := (x :: r).map .int) (fun d => some (match d with | .int x => strI x | _ => .non)) rfl (by simp at ha ⊢; omega) rfl (fun d hd => by
        obtain ⟨i, hi, rfl⟩ := List.mem_map.mp hd
        exact ⟨_, str_step i _ (hB i hi), rfl⟩)
    rw [fm_some (fun d => match d with | .int x => strI x | _ => .non)] at hW
    have hs : allS ((x :: r).map fun i => strI i) = some ((x :: r).map fun i => (Str.ofString (toString i))) := allS_strs (x :: r)
    simp only [ex, ev, hW, Out.bind, joinD, hs, hl, cond_true, Out.of]
    rfl
end
end K11
end

section
set_option Elab.async false
set_option linter.all false
set_option maxRecDepth 100000
set_option maxHeartbeats 1000000
namespace K11
open PySem L2 Rz Crs
local macro_rules | `(tactic| walk_at "sx") => `(tactic| simp only [runF, runI, bindF, start', exs, ex, ev, evA, evO, evC, evI, evX, evTs, evV, Out.bind, Out.of, Out.nx, CRes.out, binV, unV, truV, cmpV, eqV', attrV, ixV, bxV, augV, callM, binD, Rz.binI, cmpI, notD, slD, biD, starOf, itemsV, bindT, bindN, Tg.slots, D.scalar, sameOrBt, declOk, D.tn, Slot.frz, madeI,
  List.map_cons, List.map_nil, List.length_cons, List.length_nil, List.append_nil, List.nil_append, List.cons_append, List.getElem?_cons_zero, List.getElem?_cons_succ, List.set_cons_zero, List.set_cons_succ, List.replicate_zero, List.replicate_succ, List.drop_nil, List.drop_succ_cons, List.drop_zero, List.take_succ_cons, List.take_zero, cond_true, cond_false, decide_true, decide_false, Bool.and_true, Bool.true_and, Bool.and_false, Bool.false_and, Nat.le_refl, Option.map_some, Option.map_none, Bool.not_true, Bool.not_false, Nat.reduceSub, Nat.reduceAdd, Nat.reduceLeDiff, Nat.zero_add, Nat.add_zero, Nat.sub_zero, beq_self_eq_true, Nat.reduceBEq, *])
section
variable {n : Nat} {s : LP}
/-! ### the law's own functions -/
def bst (a : List Int) (k : Nat) : List Slot := [.fz (Li a), .own ((a.take k).map .int)]
theorem take_ne {a : List Int} {k : Nat} (h : k + 1 ≤ a.length) : (a.take (k + 1) == []) = false := by
  cases a with
  | nil => simp at h
  | cons x r => rfl
theorem last_at {a : List Int} {k : Nat} (h : k + 1 ≤ a.length) : atI ((a.take (k + 1)).map D.int) (-1) = some (.int (co a k)) := by
  have e : (a.take (k + 1)).map D.int = ((a.take k).map D.int) ++ [.int (co a k)] := by
    rw [List.take_succ, co_lt (by omega)]; simp
  rw [e]; exact atI_last _ _
theorem bare_while (a : List Int) (hl : a.length ≤ 1000) : ∀ (k m : Nat), k ≤ a.length → k < m →
    whileL (fun τ s => evTs pd.pt (callN G n) (mkN G n) (.tand (.cmp .NotEq (.v 1) (.lst .nil)) (.cmp .Eq (.ix (.v 1) (.un .USub (.k (.int 1)))) (.k (.int 0)))) τ s)
      (fun τ s => exs pd.pt (callN G n) (mkN G n) (.cons (.pop 1) .nil) τ s) m (bst a k) s = .ok .next (bst a (sz a k)) s
  | 0, m + 1, _, _ => rfl
  | k + 1, m + 1, hk, hm => by
    have e1 : evTs pd.pt (callN G n) (mkN G n) (.tand (.cmp .NotEq (.v 1) (.lst .nil)) (.cmp .Eq (.ix (.v 1) (.un .USub (.k (.int 1)))) (.k (.int 0)))) (bst a (k + 1)) s = .ok (co a k == 0) (bst a (k + 1)) s := by
      have h1 := cmpOk_li (a.take (k + 1))
      have h2 : (D.lst []).cmpOk = true := rfl
      have h3 : eqP (Li (a.take (k + 1))) (.lst []) = false := (eqP_li (a.take (k + 1)) []).trans (take_ne hk)
      have h4 : ixD (Li (a.take (k + 1))) (.int (-1)) = some (.int (co a k)) := last_at hk
      have e5 : eqP (.int (co a k)) (.int 0) = (co a k == 0) := rfl
      have e6 : (D.int (co a k)).cmpOk = true := rfl
      have e7 : (D.int 0).cmpOk = true := rfl
      have e8 : lim 0 = true := rfl
      simp only [bst]
      walk_at "sx"
    have e2 : exs pd.pt (callN G n) (mkN G n) (.cons (.pop 1) .nil) (bst a (k + 1)) s = .ok .next (bst a k) s := by
      have h1 : ((a.take (k + 1)).map D.int).isEmpty = false := by
        cases a with
        | nil => simp at hk
        | cons x r => rfl
      have h2 : ((a.take (k + 1)).map D.int).dropLast = (a.take k).map D.int := by
        rw [List.take_succ, co_lt (by omega)]; simp
      simp only [bst]
      walk_at "sx"
    simp only [whileL, e1, Out.bind, sz]
    by_cases hz : co a k = 0
    · rw [if_pos hz, show (co a k == 0) = true from by rw [hz]; rfl, cond_true, e2]
      exact bare_while a hl k m (by omega) (by omega)
    · rw [if_neg hz, show (co a k == 0) = false from by simpa using hz, cond_false]
theorem bare_ok (a : List Int) (h : a.length ≤ 1000) : callN G (n+1) 44 [Li a] s = .ok (Tu (trim a)) s := by
  show runF pd.pt (callN G n) (mkN G n) f44__law_bare [Li a] s = _
  refine runF_ret (τ' := [.fz (Li a), .fz (Li (trim a))]) rfl ?_
  refine (exs_next (τ' := bst a a.length) (s' := s) ?_).trans ?_
  · simp only [bst, List.take_length]; rfl
  refine (exs_next (τ' := bst a (sz a a.length)) (s' := s) ?_).trans ?_
  · rw [ex]; exact bare_while a h a.length wfuel (Nat.le_refl _) (by unfold wfuel; omega)
  rfl
theorem range_get {n i : Nat} {d : D} (h : (rangeD 0 n)[i]? = some d) : i < n ∧ d = D.int i := by
  unfold rangeD at h
  rw [List.getElem?_map] at h
  rcases Nat.lt_or_ge i n with k | k
  · rw [List.getElem?_range k] at h
    refine ⟨k, ?_⟩
    simp at h; exact h.symm
  · rw [List.getElem?_eq_none (by simpa using k)] at h; cases h
theorem range_len {n : Nat} : (rangeD 0 n).length = n := by unfold rangeD; simp
theorem ix_li {a : List Int} {k : Nat} (h : k < a.length) : ixD (Li a) (.int k) = some (.int (co a k)) := by
  show atI (a.map D.int) (k : Int) = _
  exact atI_nat (j := k) (v := D.int (co a k)) (by rw [List.getElem?_map, co_lt h]; rfl)
theorem lvalue_ok (a : List Int) (t : Int) (ha : a.length ≤ 7) (hB : Bs 8000 a) (ht : Tk t) : callN G (n+1) 45 [Li a, .int t] s = .ok (.int (val a t)) s := by
  show runF pd.pt (callN G n) (mkN G n) f45__law_value [Li a, .int t] s = _
  let τs : Nat → List Slot := fun k => [.fz (Li a), .fz (.int t), .fz (.int (vs a t k)), .fz (.int (wt t k)), if k = 0 then .none else .fz (.int (k - 1 : Nat))]
  refine runF_ret (τ' := τs a.length) rfl ?_
  refine (exs_next (τ' := τs 0) (s' := s) rfl).trans ?_
  refine (exs_next (τ' := τs a.length) (s' := s) ?_).trans ?_
  · rw [ex_for (ds := rangeD 0 a.length) (τ1 := τs 0) (s1 := s) (by
      have hl : lim ((a.length : Nat) : Int).natAbs = true := lim_ok (by omega)
      simp only [τs, Li]
      walk_at "sx"
      simp only [List.length_map, hl, cond_true, Int.toNat_natCast])]
    have h := forL_seq (s := s) (b := fun d τ s => match bindT (.one 4) d τ with
      | some τ => exs pd.pt (callN G n) (mkN G n) (.cons (.set 2 false (.bin .Add (.v 2) (.bin .Mult (.ix (.v 0) (.v 4)) (.v 3)))) (.cons (.set 3 false (.bin .FloorDiv (.bin .Mult (.v 3) (.bin .Sub (.v 1) (.v 4))) (.bin .Add (.v 4) (.k (.int 1))))) .nil)) τ s
      | none => .no) τs (rangeD 0 a.length) (fun i d hd => by
        obtain ⟨hi, rfl⟩ := range_get hd
        have h1 := mul_of (bg_of (hB.co i) (Nat.le_refl _)) (wt_bg ht (k := i) (by omega))
        have h2 := mul_of (wt_bg ht (k := i) (by omega)) (sub_bg ht (k := i) (by omega))
        have h3 : decide ((0 : Int) < (i : Int) + 1) = true := decide_eq_true (by omega)
        have h4 : bg ((i : Int) + 1) = true := bg_of (m := 4) (show ((i : Int) + 1).natAbs < 2 ^ 4 by omega) (by decide)
        have h5 := ix_li hi
        simp only [τs]
        walk_at "sx"
        rfl)
    rw [range_len] at h
    exact h
  refine exs_ret ?_
  rfl
theorem co_pad (a : List Int) (k i : Nat) : co (a ++ List.replicate k 0) i = co a i := by
  unfold co
  rw [List.getD_eq_getElem?_getD, List.getD_eq_getElem?_getD]
  rcases Nat.lt_or_ge i a.length with h | h
  · rw [List.getElem?_append_left h]
  · rw [List.getElem?_append_right h, List.getElem?_replicate, List.getElem?_eq_none h]
    split <;> rfl
theorem lcourse_ok (a : List Int) (ha : a.length ≤ 7) : callN G (n+4) 46 [Li a] s = .ok (Co (trim a)) s := by
  show runF pd.pt (callN G (n+3)) (mkN G (n+3)) f46__law_course [Li a] s = _
  refine runF_ret (τ' := [.fz (Li a), .fz (Li (a ++ List.replicate 7 0))]) rfl ?_
  refine (exs_next (τ := [.fz (Li a), .none]) (τ' := [.fz (Li a), .fz (Li (a ++ List.replicate 7 0))]) (s' := s) ?_).trans ?_
  · have h1 : repD [.int 0] 7 = some ((List.replicate 7 (0 : Int)).map D.int) := rfl
    have h2 : lim ((a.map D.int).length + 7) = true := lim_ok (by simp; omega)
    have h3 : lim 1 = true := rfl
    simp only [Li]
    walk_at "sx"
    simp only [List.map_append]
    rfl
  refine exs_ret ?_
  have hx : ∀ k : Nat, k < 7 → ixD (Li (a ++ List.replicate 7 0)) (.int k) = some (.int (co a k)) := fun k hk => by
    rw [ix_li (by simp; omega), co_pad]
  have h0 := hx 0 (by decide)
  have h1 := hx 1 (by decide)
  have h2 := hx 2 (by decide)
  have h3 := hx 3 (by decide)
  have h4 := hx 4 (by decide)
  have h5 := hx 5 (by decide)
  have h6 := hx 6 (by decide)
  have e : trim [co a 0, co a 1, co a 2, co a 3, co a 4, co a 5, co a 6] = trim a := trim_ext fun i => by
    rcases Nat.lt_or_ge i 7 with k | k
    · have : i = 0 ∨ i = 1 ∨ i = 2 ∨ i = 3 ∨ i = 4 ∨ i = 5 ∨ i = 6 := by omega
      rcases this with rfl | rfl | rfl | rfl | rfl | rfl | rfl <;> rfl
    · rw [co_ge (by simpa using k), co_ge (by omega)]
  have hm := course_mk (n := n) (s := s) [co a 0, co a 1, co a 2, co a 3, co a 4, co a 5, co a 6] (by simp)
  rw [e] at hm
  simp only [List.map_cons, List.map_nil] at hm
  simp only [Int.natCast_zero, Int.natCast_one, Int.cast_ofNat_Int] at h0 h1 h2 h3 h4 h5 h6
  generalize a ++ List.replicate 7 0 = A at *
  clear hx e
  walk_at "sx"
end
end K11
end

section
set_option Elab.async false
set_option linter.all false
set_option maxRecDepth 100000
set_option maxHeartbeats 1000000
namespace K11
open PySem L2 Rz Crs
local macro_rules | `(tactic| walk_at "sx") => `(tactic| simp only [runF, runI, bindF, start', exs, ex, ev, evA, evO, evC, evI, evX, evTs, evV, Out.bind, Out.of, Out.nx, CRes.out, binV, unV, truV, cmpV, eqV', attrV, ixV, bxV, augV, callM, binD, notD, slD, biD, starOf, itemsV, bindT, bindN, Tg.slots, D.scalar, sameOrBt, declOk, D.tn, Slot.frz, madeI,
  List.map_cons, List.map_nil, List.length_cons, List.length_nil, List.append_nil, List.nil_append, List.cons_append, List.getElem?_cons_zero, List.getElem?_cons_succ, List.set_cons_zero, List.set_cons_succ, List.replicate_zero, List.replicate_succ, List.drop_nil, List.drop_succ_cons, List.drop_zero, List.take_succ_cons, List.take_zero, cond_true, cond_false, decide_true, decide_false, Bool.and_true, Bool.true_and, Bool.and_false, Bool.false_and, Nat.le_refl, Option.map_some, Option.map_none, Bool.not_true, Bool.not_false, Nat.reduceSub, Nat.reduceAdd, Nat.reduceLeDiff, Nat.zero_add, Nat.add_zero, Nat.sub_zero, beq_self_eq_true, Nat.reduceBEq, *])
section
variable {n : Nat}
theorem bi_add (i j : Int) : Rz.binI .Add i j = some (i + j) := rfl
theorem bi_sub (i j : Int) : Rz.binI .Sub i j = some (i - j) := rfl
theorem bi_mul {i j : Int} (h : mulOk i j = true) : Rz.binI .Mult i j = some (i * j) := by
  show (bif mulOk i j then _ else _) = _; rw [h]; rfl
theorem bi_mulS {i j : Int} (h : i.natAbs < 2 ^ 64) : Rz.binI .Mult i j = some (i * j) := bi_mul (by unfold mulOk; rw [decide_eq_true h]; simp)
theorem bi_mulS2 {i j : Int} (h : j.natAbs < 2 ^ 64) : Rz.binI .Mult i j = some (i * j) := bi_mul (by unfold mulOk; rw [decide_eq_true h]; simp)
theorem bi_mod {i j : Int} (h : 0 < j) : Rz.binI .Mod i j = some (i % j) := by
  show (bif decide (0 < j) then _ else _) = _; rw [decide_eq_true h]; rfl
theorem bi_div {i j : Int} (h : 0 < j) (hb : bg j = true) : Rz.binI .FloorDiv i j = some (i / j) := by
  show (bif decide (0 < j) && bg j then _ else _) = _; rw [decide_eq_true h, hb]; rfl
theorem bi_pow {i : Int} {k : Nat} (h : i.natAbs < 2 ^ 64) (hk : k ≤ 1000) : Rz.binI .Pow i (k : Int) = some (i ^ k) := by
  show (bif decide (0 ≤ (k : Int)) && decide ((k : Int) ≤ 1000) && decide (i.natAbs < 2 ^ 64) then _ else _) = _
  rw [decide_eq_true (show (0 : Int) ≤ k by omega), decide_eq_true (show (k : Int) ≤ 1000 by omega), decide_eq_true h]
  simp
theorem ci_gt (i j : Int) : cmpI .Gt i j = some (decide (j < i)) := rfl
theorem ci_ge (i j : Int) : cmpI .GtE i j = some (decide (j ≤ i)) := rfl
theorem ci_lt (i j : Int) : cmpI .Lt i j = some (decide (i < j)) := rfl
theorem p64 : (2 : Nat) ^ 64 = 18446744073709551616 := by decide
theorem p31 : (2 : Nat) ^ 31 = 2147483648 := by decide
theorem p18 : (2 : Nat) ^ 18 = 262144 := by decide
theorem p33 : (2 : Nat) ^ 33 = 8589934592 := by decide
def tl : CSs → CSs
  | .cons _ r => r
  | .nil => .nil
def drawTail : CSs := tl (tl (tl (tl (tl f41__law_draw.body))))
/-- the pen behind at most b draws -/
def Ok (b : Nat) (s : LP) : Prop := 0 ≤ s.at_ ∧ s.at_ ≤ b
theorem Ok.mono {b c : Nat} {s : LP} (h : Ok b s) (k : b ≤ c) : Ok c s := ⟨h.1, by have := h.2; omega⟩
theorem abs_fact (i : Int) : biD .abs [.int i] = some (.int (if i < 0 then -i else i)) := rfl
theorem draw_ok (b : Nat) (m : Int) (s : LP) (hs : Ok b s) (hb : b ≤ 100000) (hm : 0 < m) (hm2 : bg m = true) : ∃ r s', callN G (n+1) 41 [.pen, .int m] s = .ok (.int r) s' ∧ 0 ≤ r ∧ r < m ∧ Ok (b + 1) s' := by
  obtain ⟨cells, at_, gr⟩ := s
  obtain ⟨h0, h1⟩ := hs
  simp only at h0 h1
  have p0 : ∀ (x y : Int), Pen.get (.int 0) (⟨cells, x, y⟩ : LP) = some (Li cells) := fun _ _ => rfl
  have p1 : ∀ (x y : Int), Pen.get (.int 1) (⟨cells, x, y⟩ : LP) = some (.int x) := fun _ _ => rfl
  have p2 : ∀ (x y : Int), Pen.get (.int 2) (⟨cells, x, y⟩ : LP) = some (.int y) := fun _ _ => rfl
  have q1 : ∀ (x y v : Int), Pen.put (.int 1) (.int v) (⟨cells, x, y⟩ : LP) = some ⟨cells, v, y⟩ := fun _ _ _ => rfl
  have q2 : ∀ (x y v : Int), Pen.put (.int 2) (.int v) (⟨cells, x, y⟩ : LP) = some ⟨cells, x, v⟩ := fun _ _ _ => rfl
  have c1 := @ci_gt
  have c2 := @ci_ge
  have c3 := @ci_lt
  have a1 := @bi_add
  have a2 := @bi_sub
  let P := pd.pt
  let τ0 : List Slot := [.fz .pen, .fz (.int m), .none, .none, .none, .none, .none]
  have ht : evTs pd.pt (callN G n) (mkN G n) (.cmp .Gt (.pix (.v 0) (.int 2)) (.k (.int 0))) τ0 ⟨cells, at_, gr⟩ = .ok (decide (0 < gr)) τ0 ⟨cells, at_, gr⟩ := by
    simp only [τ0]; walk_at "sx"
  by_cases hg : 0 < gr
  · rw [decide_eq_true hg] at ht
    have d1 : ∀ i : Int, Rz.binI .Mod i m = some (i % m) := fun i => bi_mod hm
    have d2 : ∀ i : Int, Rz.binI .FloorDiv i m = some (i / m) := fun i => bi_div hm hm2
    refine ⟨gr % m, ⟨cells, at_, gr / m⟩, ?_, Int.emod_nonneg _ (by omega), Int.emod_lt_of_pos _ hm, h0, by simp only; omega⟩
    show runF pd.pt (callN G n) (mkN G n) f41__law_draw [.pen, .int m] _ = _
    refine runF_ret (τ' := [.fz .pen, .fz (.int m), .fz (.int (gr % m)), .none, .none, .none, .none]) rfl ?_
    refine exs_ret ?_
    refine (ex_ite (τ' := []) ht).trans ?_
    simp only [τ0, cond_true]
    clear ht
    walk_at "sx"
  · rw [decide_eq_false hg] at ht
    have hbn : at_.natAbs < 2 ^ 17 := by omega
    let s1 : LP := ⟨cells, at_ + 1, gr⟩
    let cell : Int := if cells = [] then 61483 * at_ + 1543 else co cells (at_ % cells.length).toNat
    let τ4 : List Slot := [.fz .pen, .fz (.int m), .none, .fz (.int at_), .fz (.int cell), .none, .none]
    have dm : ∀ i : Int, Rz.binI .Mod i m = some (i % m) := fun i => bi_mod hm
    have dd : ∀ i : Int, Rz.binI .FloorDiv i m = some (i / m) := fun i => bi_div hm hm2
    have head : exs pd.pt (callN G n) (mkN G n) f41__law_draw.body τ0 ⟨cells, at_, gr⟩ = exs pd.pt (callN G n) (mkN G n) drawTail τ4 s1 := by
      · refine (exs_next (τ' := τ0) (s' := ⟨cells, at_, gr⟩) (ex_ite (τ' := []) ht)).trans ?_
        refine (exs_next (τ' := [.fz .pen, .fz (.int m), .none, .fz (.int at_), .none, .none, .none]) (s' := ⟨cells, at_, gr⟩) rfl).trans ?_
        refine (exs_next (τ' := [.fz .pen, .fz (.int m), .none, .fz (.int at_), .none, .none, .none]) (s' := s1) rfl).trans ?_
        refine (exs_next (τ' := [.fz .pen, .fz (.int m), .none, .fz (.int at_), .fz (.int (61483 * at_ + 1543)), .none, .none]) (s' := s1) ?_).trans ?_
        · have := bi_mulS (i := 61483) (j := at_) (by decide)
          clear ht
          walk_at "sx"
        refine exs_next (τ' := τ4) (s' := s1) ?_
        have hcmp : evTs pd.pt (callN G n) (mkN G n) (.cmp .NotEq (.pix (.v 0) (.int 0)) (.lst .nil)) [.fz .pen, .fz (.int m), .none, .fz (.int at_), .fz (.int (61483 * at_ + 1543)), .none, .none] s1 = .ok (!(cells == [])) [.fz .pen, .fz (.int m), .none, .fz (.int at_), .fz (.int (61483 * at_ + 1543)), .none, .none] s1 := by
          have h1 := cmpOk_li cells
          have h2 : (D.lst []).cmpOk = true := rfl
          have h3 : eqP (Li cells) (.lst []) = (cells == []) := eqP_li cells []
          have h4 : lim 0 = true := rfl
          simp only [s1]
          clear ht
          walk_at "sx"
        refine (ex_ite (τ' := []) hcmp).trans ?_
        by_cases hc : cells = []
        · have e1 : (!(cells == [])) = false := by rw [hc]; rfl
          rw [e1, cond_false]
          simp only [τ4, cell, if_pos hc]
          rfl
        · have e1 : (!(cells == [])) = true := by simpa using hc
          rw [e1, cond_true]
          have hL : 0 < cells.length := List.length_pos_iff.mpr hc
          have hL' : (0 : Int) < (cells.length : Int) := by omega
          have hmod := bi_mod (i := at_) hL'
          have hlt : (at_ % (cells.length : Int)).toNat < cells.length := by
            have := Int.emod_lt_of_pos at_ hL'
            have := Int.emod_nonneg at_ (by omega : (cells.length : Int) ≠ 0)
            omega
          have hix := ix_li (a := cells) hlt
          rw [Int.toNat_of_nonneg (Int.emod_nonneg at_ (by omega))] at hix
          have hll : ((cells.map D.int).length : Int) = (cells.length : Int) := by simp
          simp only [τ4, cell, if_neg hc, s1]
          clear ht hcmp
          walk_at "sx"
    have fin : ∀ (b' : Bool), evTs pd.pt (callN G n) (mkN G n) (.tand (.cmp .Lt (.v 3) (.bi .len (.cons false (.pix (.v 0) (.int 0)) .nil))) (.cmp .GtE (.bi .abs (.cons false (.v 4) .nil)) (.bin .Pow (.k (.int 10)) (.k (.int 18))))) τ4 s1 = .ok (decide (at_ < (cells.length : Int)) && decide ((10 : Int) ^ 18 ≤ (if cell < 0 then -cell else cell))) τ4 s1 := by
      intro _
      have hp := bi_pow (i := 10) (k := 18) (by decide) (by decide)
      have hll : ((cells.map D.int).length : Int) = (cells.length : Int) := by simp
      have hp' : Rz.binI .Pow 10 18 = some (10 ^ 18) := hp
      cases hd : decide (at_ < (cells.length : Int)) with
      | true =>
        simp only [τ4, s1]
        clear ht head
        walk_at "sx"
      | false =>
        simp only [τ4, s1]
        clear ht head
        walk_at "sx"
    have hfin := fin true
    cases hd : (decide (at_ < (cells.length : Int)) && decide ((10 : Int) ^ 18 ≤ (if cell < 0 then -cell else cell))) with
    | true =>
      rw [hd] at hfin
      let great : Int := 2 * ((if cell < 0 then -cell else cell) - 10 ^ 18) + (if decide (cell < 0) = true then 1 else 0)
      refine ⟨great % m, ⟨cells, at_ + 1, great / m⟩, ?_, Int.emod_nonneg _ (by omega), Int.emod_lt_of_pos _ hm, by simp only; omega, by simp only; omega⟩
      show runF pd.pt (callN G n) (mkN G n) f41__law_draw [.pen, .int m] _ = _
      refine runF_ret (τ' := [.fz .pen, .fz (.int m), .none, .fz (.int at_), .fz (.int cell), .fz (.int great), .none]) rfl ?_
      refine head.trans ?_
      refine exs_ret ?_
      refine (ex_ite (τ' := []) hfin).trans ?_
      have hp' : Rz.binI .Pow 10 18 = some (10 ^ 18) := bi_pow (i := 10) (k := 18) (by decide) (by decide)
      have hmul := bi_mulS (i := 2) (j := (if cell < 0 then -cell else cell) - 10 ^ 18) (by decide)
      have hci : cmpI .Lt cell 0 = some (decide (cell < 0)) := rfl
      rw [cond_true]
      simp only [τ4, s1]
      clear ht head hfin fin hd
      walk_at "sx"
      rfl
    | false =>
      rw [hd] at hfin
      let base1 : Int := cell % 2147483549 + 73091 * at_ + 1033
      let m1 : Int := base1 ^ 5 % 2147483629
      let base2 : Int := m1 * (2 * at_ + 397) + 63197 * at_ * at_ + 97
      let m2 : Int := base2 ^ 3 % 2147483587
      have e1 : 0 ≤ cell % 2147483549 := Int.emod_nonneg _ (by decide)
      have e2 : cell % 2147483549 < 2147483549 := Int.emod_lt_of_pos _ (by decide)
      have e3 : 0 ≤ m1 := Int.emod_nonneg _ (by decide)
      have e4 : m1 < 2147483629 := Int.emod_lt_of_pos _ (by decide)
      have b1 : base1.natAbs < 2 ^ 64 := by
        rw [p64]
        simp only [base1]; omega
      have b2 : base2.natAbs < 2 ^ 64 := by
        have x1 : Bn 31 m1 := by unfold Bn; rw [p31]; omega
        have x2 : Bn 18 (2 * at_ + 397) := by unfold Bn; rw [p18]; omega
        have x3 : Bn 33 (63197 * at_) := by unfold Bn; rw [p33]; omega
        have x4 : Bn 17 at_ := hbn
        have x5 := ((x1.mul x2).mono (show 31 + 18 ≤ 50 by decide)).add (x3.mul x4)
        have x6 : Bn (50 + 1) 97 := by unfold Bn; decide
        exact (x5.add x6).mono (by decide)
      refine ⟨m2 / 32 % m, s1, ?_, Int.emod_nonneg _ (by omega), Int.emod_lt_of_pos _ hm, by simp only [s1]; omega, by simp only [s1]; omega⟩
      show runF pd.pt (callN G n) (mkN G n) f41__law_draw [.pen, .int m] _ = _
      refine runF_ret (τ' := [.fz .pen, .fz (.int m), .none, .fz (.int at_), .fz (.int cell), .none, .fz (.int m2)]) rfl ?_
      refine head.trans ?_
      refine (exs_next (τ' := τ4) (s' := s1) (ex_ite (τ' := []) hfin)).trans ?_
      refine (exs_next (τ' := [.fz .pen, .fz (.int m), .none, .fz (.int at_), .fz (.int cell), .none, .fz (.int m1)]) (s' := s1) ?_).trans ?_
      · have k1 := bi_mod (i := cell) (j := 2147483549) (by decide)
        have k2 := bi_mulS (i := 73091) (j := at_) (by decide)
        have k3 : Rz.binI .Pow (cell % 2147483549 + 73091 * at_ + 1033) 5 = some ((cell % 2147483549 + 73091 * at_ + 1033) ^ 5) := bi_pow (k := 5) b1 (by decide)
        have k4 := bi_mod (i := (cell % 2147483549 + 73091 * at_ + 1033) ^ 5) (j := 2147483629) (by decide)
        simp only [τ4, s1, m1, base1]
        clear ht head hfin fin hd b1 b2 e3 e4
        walk_at "sx"
      refine (exs_next (τ' := [.fz .pen, .fz (.int m), .none, .fz (.int at_), .fz (.int cell), .none, .fz (.int m2)]) (s' := s1) ?_).trans ?_
      · have k1 := bi_mulS (i := 2) (j := at_) (by decide)
        have k2 := bi_mulS (i := m1) (j := 2 * at_ + 397) (by rw [p64]; omega)
        have k3 := bi_mulS (i := 63197) (j := at_) (by decide)
        have k4 := bi_mulS2 (i := 63197 * at_) (j := at_) (by rw [p64]; omega)
        have k5 : Rz.binI .Pow base2 3 = some (base2 ^ 3) := bi_pow (k := 3) b2 (by decide)
        have k6 := bi_mod (i := base2 ^ 3) (j := 2147483587) (by decide)
        simp only [m2]
        simp only [base2] at k5 k6 ⊢
        clear ht head hfin fin hd b1 b2 e1 e2
        generalize m1 = M at *
        simp only [s1]
        walk_at "sx"
      refine exs_ret ?_
      have k1 := bi_div (i := m2) (j := 32) (by decide) rfl
      clear ht head hfin fin hd b1 b2 e1 e2
      simp only [s1]
      generalize m2 = M at *
      walk_at "sx"
end
end K11
end

section
set_option Elab.async false
set_option linter.all false
set_option maxRecDepth 100000
set_option maxHeartbeats 1000000
namespace K11
open PySem L2 Rz Crs
local macro_rules | `(tactic| walk_at "sx") => `(tactic| simp only [runF, runI, bindF, start', exs, ex, ev, evA, evO, evC, evI, evX, evTs, evV, Out.bind, Out.of, Out.nx, CRes.out, binV, unV, truV, cmpV, eqV', attrV, ixV, bxV, augV, callM, binD, notD, slD, biD, starOf, itemsV, bindT, bindN, Tg.slots, D.scalar, sameOrBt, declOk, D.tn, Slot.frz, madeI,
  List.map_cons, List.map_nil, List.length_cons, List.length_nil, List.append_nil, List.nil_append, List.cons_append, List.getElem?_cons_zero, List.getElem?_cons_succ, List.set_cons_zero, List.set_cons_succ, List.replicate_zero, List.replicate_succ, List.drop_nil, List.drop_succ_cons, List.drop_zero, List.take_succ_cons, List.take_zero, cond_true, cond_false, decide_true, decide_false, Bool.and_true, Bool.true_and, Bool.and_false, Bool.false_and, Nat.le_refl, Option.map_some, Option.map_none, Bool.not_true, Bool.not_false, Nat.reduceSub, Nat.reduceAdd, Nat.reduceLeDiff, Nat.zero_add, Nat.add_zero, Nat.sub_zero, beq_self_eq_true, Nat.reduceBEq, *])
section
variable {n : Nat}
theorem pick_ok (b : Nat) (ds : List D) (s : LP) (hs : Ok b s) (hb : b ≤ 100000) (hd : ds ≠ []) (hl : ds.length ≤ 1000) : ∃ d s', callN G (n+2) 42 [.pen, .lst ds] s = .ok d s' ∧ d ∈ ds ∧ Ok (b + 1) s' := by
  have hL : 0 < ds.length := List.length_pos_iff.mpr hd
  obtain ⟨r, s', e, r0, r1, ok⟩ := draw_ok (n := n) b (ds.length : Int) s hs hb (by omega) (bg_of (m := 10) (by unfold Bn; rw [show (2 : Nat) ^ 10 = 1024 by decide]; omega) (by decide))
  have hr : r.toNat < ds.length := by omega
  refine ⟨ds[r.toNat], s', ?_, List.getElem_mem hr, ok⟩
  have hix : ixD (.lst ds) (.int r) = some ds[r.toNat] := by
    show atI ds r = _
    have := atI_nat (xs := ds) (j := r.toNat) (v := ds[r.toNat]) (List.getElem?_eq_getElem hr)
    rw [Int.toNat_of_nonneg r0] at this
    exact this
  show runF pd.pt (callN G (n+1)) (mkN G (n+1)) f42__law_pick [.pen, .lst ds] s = _
  simp only [f42__law_pick]
  walk_at "sx"
theorem Bn_of {m : Nat} {i : Int} (h : i.natAbs < 2 ^ m) : Bn m i := h
theorem row_step (x1d : D) (b : Nat) (s : LP) (hs : Ok b s) (hb : b ≤ 50000) (x1 : Slot) : ∃ x s', lcB pd.pt (callN G (n+2)) (mkN G (n+2)) (.call 42 (.cons false (.v 0) (.cons false (.bin .Add (.v 2) (.bin .Mult (.lst (.cons false (.bin .Sub (.call 41 (.cons false (.v 0) (.cons false (.k (.int 41)) .nil))) (.k (.int 20))) .nil)) (.k (.int 4)))) .nil))) (.one 3) .nil x1d
    [.fz .pen, x1, .fz (Li [0, 0, 1, -1, 2, -3, 45, -60, 10 ^ 30, -10 ^ 57]), .none] s = .ok (some (.int x)) [.fz .pen, x1, .fz (Li [0, 0, 1, -1, 2, -3, 45, -60, 10 ^ 30, -10 ^ 57]), .fz x1d] s' ∧ Bn 200 x ∧ Ok (b + 2) s' := by
  obtain ⟨r, s1, e1, r0, r1, ok1⟩ := draw_ok (n := n+1) b 41 s hs (by omega) (by decide) rfl
  let L : List Int := [0, 0, 1, -1, 2, -3, 45, -60, 10 ^ 30, -10 ^ 57] ++ [r - 20, r - 20, r - 20, r - 20]
  obtain ⟨d, s2, e2, hd, ok2⟩ := pick_ok (n := n) (b + 1) (L.map D.int) s1 ok1 (by omega) (by simp [L]) (by simp [L])
  obtain ⟨x, hx, rfl⟩ := List.mem_map.mp hd
  have hB : Bn 200 x := by
    simp only [L, List.cons_append, List.nil_append, List.mem_cons, List.not_mem_nil, or_false] at hx
    unfold Bn
    rcases hx with rfl | rfl | rfl | rfl | rfl | rfl | rfl | rfl | rfl | rfl | rfl | rfl | rfl | rfl
    all_goals first
      | decide
      | (rw [show (2 : Nat) ^ 200 = 1606938044258990275541962092341162602522202993782792835301376 by decide]; omega)
  refine ⟨x, s2, ?_, hB, ok2⟩
  have h1 : repD [.int (r - 20)] 4 = some [.int (r - 20), .int (r - 20), .int (r - 20), .int (r - 20)] := rfl
  have h2 : lim 1 = true := rfl
  have h3 : lim ((([0, 0, 1, -1, 2, -3, 45, -60, 10 ^ 30, -10 ^ 57] : List Int).map D.int).length + [D.int (r - 20), .int (r - 20), .int (r - 20), .int (r - 20)].length) = true := rfl
  have h4 : ([0, 0, 1, -1, 2, -3, 45, -60, 10 ^ 30, -10 ^ 57] : List Int).map D.int ++ [D.int (r - 20), .int (r - 20), .int (r - 20), .int (r - 20)] = L.map D.int := rfl
  have a2 := @bi_sub
  generalize ([0, 0, 1, -1, 2, -3, 45, -60, 10 ^ 30, -10 ^ 57] : List Int) = M at *
  simp only [lcB]
  clear hd hx hB ok1 ok2 hs hb
  simp only [List.length_cons, List.length_nil, Nat.reduceAdd, Nat.zero_add] at h3
  walk_at "sx"
theorem row_ok (b : Nat) (s : LP) (hs : Ok b s) (hb : b ≤ 40000) : ∃ a s', callN G (n+3) 43 [.pen, .int 6] s = .ok (Li a) s' ∧ a.length ≤ 6 ∧ Bs 200 a ∧ Ok (b + 13) s' := by
  obtain ⟨r, s1, e1, r0, r1, ok1⟩ := draw_ok (n := n+1) b 7 s hs (by omega) (by decide) rfl
  let M : List Int := [0, 0, 1, -1, 2, -3, 45, -60, 10 ^ 30, -10 ^ 57]
  let τe : List Slot := [.fz .pen, .fz (.int 6), .fz (Li M), .none]
  have a1 := @bi_add
  obtain ⟨acc, s2, e2, a, ha1, ha2, ha3, ok2⟩ := evW_inv (P := pd.pt) (call := callN G (n+2)) (mk := mkN G (n+2)) (elt := .call 42 (.cons false (.v 0) (.cons false (.bin .Add (.v 2) (.bin .Mult (.lst (.cons false (.bin .Sub (.call 41 (.cons false (.v 0) (.cons false (.k (.int 41)) .nil))) (.k (.int 20))) .nil)) (.k (.int 4)))) .nil))) (tg := .one 3) (it := .r1 (.call 41 (.cons false (.v 0) (.cons false (.bin .Add (.v 1) (.k (.int 1))) .nil)))) (cs := .nil)
    (τ := τe) (τ1 := τe) (τw := τe) (s := s) (s1 := s1) (ds := rangeD 0 r.toNat) (fun i acc s => ∃ a : List Int, acc = a.map D.int ∧ a.length = i ∧ Bs 200 a ∧ Ok (b + 1 + 2 * i) s) (by
      have hl : lim r.natAbs = true := lim_ok (by omega)
      have e7 : (6 : Int) + 1 = 7 := by decide
      simp only [τe]
      walk_at "sx") (by rw [range_len]; omega) rfl (fun i d acc s hd ⟨a, h1, h2, h3, h4⟩ => by
      obtain ⟨hi, rfl⟩ := range_get hd
      obtain ⟨x, s', e, hx, ok⟩ := row_step (n := n) (.int i) (b + 1 + 2 * i) s h4 (by omega) (.fz (.int 6))
      exact ⟨.int x, _, s', e, rfl, a ++ [x], by rw [h1, List.map_append]; rfl, by simp [h2], fun y hy => by
        rcases List.mem_append.mp hy with z | z
        · exact h3 y z
        · rw [List.mem_singleton.mp z]; exact hx, ok.mono (by omega)⟩) ⟨[], rfl, rfl, (fun _ h => (nomatch h)), ok1⟩
  rw [range_len] at ha2 ok2
  refine ⟨a, s2, ?_, by omega, ha3, ok2.mono (by omega)⟩
  show runF pd.pt (callN G (n+2)) (mkN G (n+2)) f43__law_row [.pen, .int 6] s = _
  refine runF_ret (τ' := τe) rfl ?_
  refine (exs_next (τ := [.fz .pen, .fz (.int 6), .none, .none]) (τ' := τe) (s' := s) rfl).trans ?_
  refine exs_ret ?_
  simp only [ex, ev, e2, Out.bind, ha1]
  rfl
end
end K11
end

section
set_option Elab.async false
set_option linter.all false
set_option maxRecDepth 100000
set_option maxHeartbeats 1000000
namespace K11
open PySem L2 Rz Crs
local macro_rules | `(tactic| walk_at "sx") => `(tactic| simp only [runF, runI, bindF, start', exs, ex, ev, evA, evO, evC, evI, evX, evTs, evV, Out.bind, Out.of, Out.nx, CRes.out, binV, unV, truV, cmpV, eqV', attrV, ixV, bxV, augV, callM, binD, notD, slD, biD, starOf, itemsV, bindT, bindN, Tg.slots, D.scalar, sameOrBt, declOk, D.tn, Slot.frz, madeI,
  List.map_cons, List.map_nil, List.length_cons, List.length_nil, List.append_nil, List.nil_append, List.cons_append, List.getElem?_cons_zero, List.getElem?_cons_succ, List.set_cons_zero, List.set_cons_succ, List.replicate_zero, List.replicate_succ, List.drop_nil, List.drop_succ_cons, List.drop_zero, List.take_succ_cons, List.take_zero, cond_true, cond_false, decide_true, decide_false, Bool.and_true, Bool.true_and, Bool.and_false, Bool.false_and, Nat.le_refl, Option.map_some, Option.map_none, Bool.not_true, Bool.not_false, Nat.reduceSub, Nat.reduceAdd, Nat.reduceLeDiff, Nat.zero_add, Nat.add_zero, Nat.sub_zero, beq_self_eq_true, Nat.reduceBEq, *])
section
variable {n : Nat} {s : LP}
theorem Bs.mono {m k : Nat} {a : List Int} (h : Bs m a) (hk : m ≤ k) : Bs k a := fun x hx => (h x hx).mono hk
theorem zip_tail (r : List Int) : ((r.zip (r.drop 1)).map fun p : Int × Int => p.2 - p.1) = (List.range (r.length - 1)).map fun i => co r (i + 1) - co r i := by
  apply List.ext_getElem?
  intro i
  rw [List.getElem?_map, List.getElem?_map, List.zip_eq_zipWith, List.getElem?_zipWith, List.getElem?_drop]
  rcases Nat.lt_or_ge i (r.length - 1) with h | h
  · rw [co_lt (show i < r.length by omega), co_lt (show 1 + i < r.length by omega), List.getElem?_range h, Nat.add_comm 1 i]; rfl
  · rw [List.getElem?_eq_none (l := List.range _) (by simpa using h), List.getElem?_eq_none (show r.length ≤ 1 + i by omega)]
    cases r[i]? <;> rfl
def dst (X : Slot) (v : List Int) (k : Nat) : List Slot := [X, .own ((List.range k).map fun j => .int (Dl j (co v) 0)), .fz (Li (rowK v k)), .none, .none]
theorem dif_step {call mk : Nat → List D → LP → CRes LP} (x y : Int) (a b c : Slot) :
    lcB pd.pt call mk (.bin .Sub (.v 4) (.v 3)) (.many [3, 4]) .nil (.tup [.int x, .int y]) [a, b, c, .none, .none] s = .ok (some (.int (y - x))) [a, b, c, .fz (.int x), .fz (.int y)] s := by
  have := @bi_sub
  simp only [lcB]
  walk_at "sx"
theorem row_ne {v : List Int} {k : Nat} (h : k < v.length) : (rowK v k == []) = false := by
  have : (rowK v k).length ≠ 0 := by rw [rowK_len]; omega
  cases e : rowK v k with
  | nil => rw [e] at this; simp at this
  | cons x r => rfl
theorem dif_turn (X : Slot) (v : List Int) (k : Nat) (hk : k < v.length) (hl : v.length ≤ 2000) :
    exs pd.pt (callN G n) (mkN G n) (.cons (.append 1 false (.ix (.v 2) (.k (.int 0)))) (.cons (.set 2 false (.nl (.lc (.bin .Sub (.v 4) (.v 3)) (.many [3, 4]) (.zip (.v 2) (.sl (.v 2) (.yes (.k (.int 1))) .no)) .nil))) .nil)) (dst X v k) s = .ok .next (dst X v (k + 1)) s := by
  let o1 : Slot := .own ((List.range (k + 1)).map fun j => .int (Dl j (co v) 0))
  let τe : List Slot := [X, o1, .fz (Li (rowK v k)), .none, .none]
  refine (exs_next (τ' := τe) (s' := s) ?_).trans ?_
  · have h1 := ix_li (a := rowK v k) (k := 0) (by rw [rowK_len]; omega)
    rw [co_rowK v k 0 (by omega)] at h1
    simp only [Int.natCast_zero] at h1
    have h2 : lim (((List.range k).map fun j => D.int (Dl j (co v) 0)).length + 1) = true := lim_ok (by simp; omega)
    simp only [dst, τe, o1]
    walk_at "sx"
    rw [List.range_succ, List.map_append]
    rfl
  refine (exs_next (τ' := dst X v (k + 1)) (s' := s) ?_).trans rfl
  generalize hr : rowK v k = r at *
  have hrl : r.length ≤ 2000 := by rw [← hr, rowK_len]; omega
  have hW := evW_map (P := pd.pt) (call := callN G n) (mk := mkN G n) (elt := .bin .Sub (.v 4) (.v 3)) (tg := .many [3, 4]) (it := .zip (.v 2) (.sl (.v 2) (.yes (.k (.int 1))) .no)) (cs := .nil)
    (τ := [X, o1, .fz (Li r), .none, .none]) (τ1 := [X, o1, .fz (Li r), .none, .none]) (τw := [X, o1, .fz (Li r), .none, .none]) (s := s) (s1 := s) (ds := ((r.map D.int).zip ((r.drop 1).map D.int)).map fun p => .tup [p.1, p.2]) (fun d => some (match d with | .tup [.int x, .int y] => .int (y - x) | _ => .non)) (by
      have hc : cutD (r.map D.int) (some 1) none = (r.drop 1).map D.int := by
        unfold cutD
        have e1 : HT.sIx (r.map D.int).length 0 (some 1) = min 1 r.length := by
          have := HT.sIx_nat (r.map D.int).length 0 1
          rw [List.length_map] at this ⊢
          exact this
        have e2 : HT.sIx (r.map D.int).length (r.map D.int).length none = r.length := by rw [List.length_map]; rfl
        rw [e1, e2, ← List.map_drop, ← List.map_take]
        congr 1
        cases r with
        | nil => rfl
        | cons x q => simp
      simp only [Li]
      walk_at "sx") (by simp; omega) rfl (fun d hd => by
      obtain ⟨⟨x, y⟩, hp, rfl⟩ := List.mem_map.mp hd
      obtain ⟨h1, h2⟩ := List.of_mem_zip hp
      obtain ⟨i, hi, rfl⟩ := List.mem_map.mp h1
      obtain ⟨j, hj, rfl⟩ := List.mem_map.mp h2
      exact ⟨_, dif_step i j _ _ _, rfl⟩)
  have hM : (((r.map D.int).zip ((r.drop 1).map D.int)).map fun p => D.tup [p.1, p.2]).filterMap (fun d => some (match d with | .tup [.int x, .int y] => D.int (y - x) | _ => .non)) = (rowK v (k + 1)).map D.int := by
    rw [← rowK_succ v k, hr, ← zip_tail, List.zip_map, List.map_map, List.map_map]
    rw [fm_some (fun d => match d with | .tup [.int x, .int y] => D.int (y - x) | _ => .non)]
    rfl
  rw [hM, ← hr] at hW
  simp only [ex, evX, ev, hW, Out.bind, τe]
  rfl
theorem dif_while (X : Slot) (hX : Slot.frz X = X) (v : List Int) (hl : v.length ≤ 2000) : whileL (fun τ s => evTs pd.pt (callN G n) (mkN G n) (.cmp .NotEq (.v 2) (.lst .nil)) τ s) (fun τ s => exs pd.pt (callN G n) (mkN G n) (.cons (.append 1 false (.ix (.v 2) (.k (.int 0)))) (.cons (.set 2 false (.nl (.lc (.bin .Sub (.v 4) (.v 3)) (.many [3, 4]) (.zip (.v 2) (.sl (.v 2) (.yes (.k (.int 1))) .no)) .nil))) .nil)) τ s) wfuel (dst X v 0) s = .ok .next (dst X v v.length) s := by
  have test : ∀ k, evTs pd.pt (callN G n) (mkN G n) (.cmp .NotEq (.v 2) (.lst .nil)) (dst X v k) s = .ok (!(rowK v k == [])) (dst X v k) s := fun k => by
    have h1 := cmpOk_li (rowK v k)
    have h2 : (D.lst []).cmpOk = true := rfl
    have h3 : eqP (Li (rowK v k)) (.lst []) = (rowK v k == []) := eqP_li (rowK v k) []
    have h4 : lim 0 = true := rfl
    simp only [dst]
    walk_at "sx"
  have h := whileL_seq (S := LP) (s := s) (c := fun τ s => evTs pd.pt (callN G n) (mkN G n) (.cmp .NotEq (.v 2) (.lst .nil)) τ s) (b := fun τ s => exs pd.pt (callN G n) (mkN G n) (.cons (.append 1 false (.ix (.v 2) (.k (.int 0)))) (.cons (.set 2 false (.nl (.lc (.bin .Sub (.v 4) (.v 3)) (.many [3, 4]) (.zip (.v 2) (.sl (.v 2) (.yes (.k (.int 1))) .no)) .nil))) .nil)) τ s) (dst X v) v.length wfuel 0 (by unfold wfuel; omega) (fun j hj => by
    rw [Nat.zero_add]
    refine ⟨?_, dif_turn X v j hj hl⟩
    show evTs _ _ _ _ _ _ = _
    rw [test j, row_ne hj]; rfl) (by
    rw [Nat.zero_add]
    show evTs _ _ _ _ _ _ = _
    rw [test v.length]
    have : rowK v v.length = [] := by unfold rowK; rw [Nat.sub_self]; rfl
    rw [this]; rfl)
  rw [Nat.zero_add] at h
  exact h
theorem differences_ok (v : List Int) (x : D) (hx : x = Li v ∨ x = Tu v) (hl : v.length ≤ 2000) : callN G (n+1) 8 [x] s = .ok (Li (Crs.tab v)) s := by
  show runF pd.pt (callN G n) (mkN G n) f8_differences_of [x] s = _
  have e0 : dst (.fz x) v 0 = [.fz x, .own [], .fz (Li v), .none, .none] := by unfold dst; rw [rowK_zero]; rfl
  refine runF_ret (τ' := [.fz x, .fz (Li (Crs.tab v)), .fz (Li (rowK v v.length)), .none, .none]) rfl ?_
  refine (exs_next (τ := [.fz x, .none, .none, .none, .none]) (τ' := dst (.fz x) v 0) (s' := s) ?_).trans ?_
  · rw [e0]
    rcases hx with rfl | rfl <;> rfl
  refine (exs_next (τ' := dst (.fz x) v v.length) (s' := s) ?_).trans ?_
  · rw [ex]; exact dif_while (.fz x) rfl v hl
  refine exs_ret ?_
  have e : ex pd.pt (callN G n) (mkN G n) (.ret (.v 1)) (dst (.fz x) v v.length) s = .ok (.ret (.lst ((List.range v.length).map fun j => .int (Dl j (co v) 0)))) [.fz x, .fz (.lst ((List.range v.length).map fun j => .int (Dl j (co v) 0))), .fz (Li (rowK v v.length)), .none, .none] s := rfl
  rw [e]
  simp only [Li, Crs.tab, List.map_map]
  rfl
end
end K11
end

section
set_option Elab.async false
set_option linter.all false
set_option maxRecDepth 100000
set_option maxHeartbeats 1000000
namespace K11
open PySem L2 Rz Crs
local macro_rules | `(tactic| walk_at "sx") => `(tactic| simp only [runF, runI, bindF, start', exs, ex, ev, evA, evO, evC, evI, evX, evTs, evV, Out.bind, Out.of, Out.nx, CRes.out, binV, unV, truV, cmpV, eqV', attrV, ixV, bxV, augV, callM, binD, notD, slD, biD, starOf, itemsV, bindT, bindN, Tg.slots, D.scalar, sameOrBt, declOk, D.tn, Slot.frz, madeI,
  List.map_cons, List.map_nil, List.length_cons, List.length_nil, List.append_nil, List.nil_append, List.cons_append, List.getElem?_cons_zero, List.getElem?_cons_succ, List.set_cons_zero, List.set_cons_succ, List.replicate_zero, List.replicate_succ, List.drop_nil, List.drop_succ_cons, List.drop_zero, List.take_succ_cons, List.take_zero, cond_true, cond_false, decide_true, decide_false, Bool.and_true, Bool.true_and, Bool.and_false, Bool.false_and, Nat.le_refl, Option.map_some, Option.map_none, Bool.not_true, Bool.not_false, Nat.reduceSub, Nat.reduceAdd, Nat.reduceLeDiff, Nat.zero_add, Nat.add_zero, Nat.sub_zero, beq_self_eq_true, Nat.reduceBEq, *])
section
variable {n : Nat} {s : LP}
theorem combined_ok (t : Int) (k : Nat) (hk : k ≤ 8) (ht : Tk t) : callN G (n+1) 9 [.int t, .int k] s = .ok (.int (wt t k)) s := by
  show runF pd.pt (callN G n) (mkN G n) f9_combined [.int t, .int k] s = _
  let τs : Nat → List Slot := fun i => [.fz (.int t), .fz (.int k), .fz (.int (wt t i)), if i = 0 then .none else .fz (.int (i - 1 : Nat))]
  refine runF_ret (τ' := τs k) rfl ?_
  refine (exs_next (τ := [.fz (.int t), .fz (.int k), .none, .none]) (τ' := τs 0) (s' := s) rfl).trans ?_
  refine (exs_next (τ' := τs k) (s' := s) ?_).trans ?_
  · rw [ex_for (ds := rangeD 0 k) (τ1 := τs 0) (s1 := s) (by
      have hl : lim ((k : Nat) : Int).natAbs = true := lim_ok (by omega)
      simp only [τs]
      walk_at "sx"
      simp only [Int.toNat_natCast])]
    have h := forL_seq (s := s) (b := fun d τ s => match bindT (.one 3) d τ with
      | some τ => exs pd.pt (callN G n) (mkN G n) (.cons (.set 2 false (.bin .FloorDiv (.bin .Mult (.v 2) (.bin .Sub (.v 0) (.v 3))) (.bin .Add (.v 3) (.k (.int 1))))) .nil) τ s
      | none => .no) τs (rangeD 0 k) (fun i d hd => by
        obtain ⟨hi, rfl⟩ := range_get hd
        have h2 := bi_mul (mul_of (wt_bg ht (k := i) (by omega)) (sub_bg ht (k := i) (by omega)))
        have h4 : bg ((i : Int) + 1) = true := bg_of (m := 4) (show ((i : Int) + 1).natAbs < 2 ^ 4 by omega) (by decide)
        have h3 := bi_div (i := wt t i * (t - i)) (j := (i : Int) + 1) (by omega) h4
        have a1 := @bi_add
        have a2 := @bi_sub
        simp only [τs]
        walk_at "sx"
        rfl)
    rw [range_len] at h
    exact h
  refine exs_ret ?_
  rfl
theorem are_whole_li (v : List Int) (h : v.length ≤ 2000) (x : D) (hx : x = Li v ∨ x = Tu v) : callN G (n+2) 4 [x] s = .ok (.bl true) s := by
  show runF pd.pt (callN G (n+1)) (mkN G (n+1)) f4_are_whole [x] s = _
  have e : isiAny pd.pt x [.ty "list", .ty "tuple"] = some true := by rcases hx with rfl | rfl <;> rfl
  have hi : evI pd.pt (callN G (n+1)) (mkN G (n+1)) (.e (.v 0)) [.fz x, .none] s = .ok (v.map .int) [.fz x, .none] s := by rcases hx with rfl | rfl <;> rfl
  have hW := evW_map (P := pd.pt) (call := callN G (n+1)) (mk := mkN G (n+1)) (elt := .call 1 (.cons false (.v 1) .nil)) (tg := .one 1) (it := .e (.v 0)) (cs := .nil) (τ := [.fz x, .none]) (τ1 := [.fz x, .none]) (τw := [.fz x, .none]) (s := s) (s1 := s) (ds := v.map .int) (fun d => some (.bl true)) hi (by simp; omega) rfl (fun d hd => by
    obtain ⟨i, _, rfl⟩ := List.mem_map.mp hd
    exact ⟨_, rfl, rfl⟩)
  rw [fm_some] at hW
  have hA := allB_map v
  have hT : ∀ l : List Int, (l.map fun _ => true).all id = true := fun l => by induction l <;> simp_all
  clear hi hx
  simp only [f4_are_whole]
  walk_at "sx"
theorem course_mk2 (ns : List Int) (h : ns.length ≤ 2000) : mkN G (n+3) 0 (ns.map .int) s = .ok (Co (trim ns)) s := course_mk ns h
theorem through_ok (v : List Int) (hl : v.length ≤ 2000) (x : D) (hx : x = Li v ∨ x = Tu v) : callN G (n+4) 11 [x] s = .ok (Co (trim (Crs.tab v))) s := by
  show runF pd.pt (callN G (n+3)) (mkN G (n+3)) f11_Course_through [x] s = _
  have h1 := are_whole_li (n := n+1) (s := s) v hl x hx
  have h2 := differences_ok (n := n+2) (s := s) v x hx hl
  have h3 := course_mk2 (n := n) (s := s) (Crs.tab v) (by rw [tab_len]; exact hl)
  clear hx
  refine runF_ret (τ' := [.fz x, .fz (Li (Crs.tab v))]) rfl ?_
  refine (exs_next (τ := [.fz x, .none]) (τ' := [.fz x, .none]) (s' := s) ?_).trans ?_
  · have : evTs pd.pt (callN G (n+3)) (mkN G (n+3)) (.not (.call 4 (.cons false (.v 0) .nil))) [.fz x, .none] s = .ok false [.fz x, .none] s := by walk_at "sx"
    exact ex_ite (τ' := []) this
  refine (exs_next (τ' := [.fz x, .fz (Li (Crs.tab v))]) (s' := s) (by walk_at "sx")).trans ?_
  refine exs_ret ?_
  simp only [ex, ev, evA, Out.bind, starOf, List.getElem?_cons_zero, List.getElem?_cons_succ, cond_true, List.append_nil, h3, CRes.out]
theorem behind_ok (a : List Int) (ha : a.length ≤ 100) : callN G (n+4) 17 [Co a, .int 1] s = .ok (Co (trim (a.drop 1))) s := by
  show runF pd.pt (callN G (n+3)) (mkN G (n+3)) f17_Course_behind [Co a, .int 1] s = _
  have hat : pd.pt.attr 0 40 = .fld 0 := rfl
  have h3 := course_mk (n := n) (s := s) (a.drop 1) (by simp; omega)
  have hc : cutD (a.map D.int) (some 1) none = (a.drop 1).map D.int := by
    unfold cutD
    have e1 : HT.sIx (a.map D.int).length 0 (some 1) = min 1 a.length := by
      have := HT.sIx_nat (a.map D.int).length 0 1
      rw [List.length_map] at this ⊢
      exact this
    have e2 : HT.sIx (a.map D.int).length (a.map D.int).length none = a.length := by rw [List.length_map]; rfl
    rw [e1, e2, ← List.map_drop, ← List.map_take]
    congr 1
    cases a with
    | nil => rfl
    | cons x q => simp
  refine runF_ret (τ' := [.fz (Co a), .fz (.int 1), .fz (Tu (a.drop 1))]) rfl ?_
  refine (exs_next (τ := [.fz (Co a), .fz (.int 1), .none]) (τ' := [.fz (Co a), .fz (.int 1), .fz (Tu (a.drop 1))]) (s' := s) (by walk_at "sx")).trans ?_
  refine exs_ret ?_
  simp only [ex, ev, evA, Out.bind, starOf, List.getElem?_cons_zero, List.getElem?_cons_succ, cond_true, List.append_nil, h3, CRes.out]
theorem fall_ok (a : List Int) (ha : a.length ≤ 100) : callN G (n+5) 16 [Co a] s = .ok (Co (trim (a.drop 1))) s := by
  show runF pd.pt (callN G (n+4)) (mkN G (n+4)) f16_Course_fall [Co a] s = _
  have hm : pd.pt.meth 0 41 = some 17 := rfl
  have h := behind_ok (n := n) (s := s) a ha
  simp only [f16_Course_fall]
  walk_at "sx"
end
end K11
end

section
set_option Elab.async false
set_option linter.all false
set_option maxRecDepth 100000
set_option maxHeartbeats 1000000
namespace K11
open PySem L2 Rz Crs
local macro_rules | `(tactic| walk_at "sx") => `(tactic| simp only [runF, runI, bindF, start', exs, ex, ev, evA, evO, evC, evI, evX, evTs, evV, Out.bind, Out.of, Out.nx, CRes.out, binV, unV, truV, cmpV, eqV', attrV, ixV, bxV, augV, callM, binD, notD, slD, biD, starOf, itemsV, bindT, bindN, Tg.slots, D.scalar, sameOrBt, declOk, D.tn, Slot.frz, madeI,
  List.map_cons, List.map_nil, List.length_cons, List.length_nil, List.append_nil, List.nil_append, List.cons_append, List.getElem?_cons_zero, List.getElem?_cons_succ, List.set_cons_zero, List.set_cons_succ, List.replicate_zero, List.replicate_succ, List.drop_nil, List.drop_succ_cons, List.drop_zero, List.take_succ_cons, List.take_zero, cond_true, cond_false, decide_true, decide_false, Bool.and_true, Bool.true_and, Bool.and_false, Bool.false_and, Nat.le_refl, Option.map_some, Option.map_none, Bool.not_true, Bool.not_false, Nat.reduceSub, Nat.reduceAdd, Nat.reduceLeDiff, Nat.zero_add, Nat.add_zero, Nat.sub_zero, beq_self_eq_true, Nat.reduceBEq, *])
section
variable {n : Nat} {s : LP}
def tst (v : List Int) (k : Nat) : List Slot := [.fz (Li v), .own ((List.range k).map fun j => .int (Dl j (co v) 0)), .fz (Li (rowK v k)), .none]
theorem tab_turn (v : List Int) (k : Nat) (hk : k < v.length) (hl : v.length ≤ 2000) :
    exs pd.pt (callN G n) (mkN G n) (.cons (.append 1 false (.ix (.v 2) (.k (.int 0)))) (.cons (.set 2 false (.nl (.lc (.bin .Sub (.ix (.v 2) (.bin .Add (.v 3) (.k (.int 1)))) (.ix (.v 2) (.v 3))) (.one 3) (.r1 (.bin .Sub (.bi .len (.cons false (.v 2) .nil)) (.k (.int 1)))) .nil))) .nil)) (tst v k) s = .ok .next (tst v (k + 1)) s := by
  let o1 : Slot := .own ((List.range (k + 1)).map fun j => .int (Dl j (co v) 0))
  let τe : List Slot := [.fz (Li v), o1, .fz (Li (rowK v k)), .none]
  have hrl : 0 < (rowK v k).length ∧ (rowK v k).length ≤ 2000 := by rw [rowK_len]; omega
  refine (exs_next (τ' := τe) (s' := s) ?_).trans ?_
  · have h1 := ix_li (a := rowK v k) (k := 0) hrl.1
    rw [co_rowK v k 0 (by omega)] at h1
    simp only [Int.natCast_zero] at h1
    have h2 : lim (((List.range k).map fun j => D.int (Dl j (co v) 0)).length + 1) = true := lim_ok (by simp; omega)
    simp only [tst, τe, o1]
    walk_at "sx"
    rw [List.range_succ, List.map_append]
    rfl
  refine (exs_next (τ' := tst v (k + 1)) (s' := s) ?_).trans rfl
  have hsucc := rowK_succ v k
  simp only [τe]
  generalize rowK v k = r at *
  have a1 := @bi_add
  have a2 := @bi_sub
  have hW := evW_map (P := pd.pt) (call := callN G n) (mk := mkN G n) (elt := .bin .Sub (.ix (.v 2) (.bin .Add (.v 3) (.k (.int 1)))) (.ix (.v 2) (.v 3))) (tg := .one 3) (it := .r1 (.bin .Sub (.bi .len (.cons false (.v 2) .nil)) (.k (.int 1)))) (cs := .nil)
    (τ := [.fz (Li v), o1, .fz (Li r), .none]) (τ1 := [.fz (Li v), o1, .fz (Li r), .none]) (τw := [.fz (Li v), o1, .fz (Li r), .none]) (s := s) (s1 := s) (ds := rangeD 0 (r.length - 1)) (fun d => some (match d with | .int x => .int (co r (x.toNat + 1) - co r x.toNat) | _ => .non)) (by
      have e1 : ((r.length : Nat) : Int) - 1 = ((r.length - 1 : Nat) : Int) := by omega
      have hl : lim ((r.length - 1 : Nat) : Int).natAbs = true := lim_ok (by omega)
      simp only [Li]
      walk_at "sx"
      simp only [List.length_map, e1, hl, cond_true, Int.toNat_natCast]) (by rw [range_len]; omega) rfl (fun d hd => by
      obtain ⟨i, hi⟩ := List.mem_iff_getElem?.mp hd
      obtain ⟨h1, rfl⟩ := range_get hi
      have x1 := ix_li (a := r) (k := i) (by omega)
      have x2 := ix_li (a := r) (k := i + 1) (by omega)
      have e2 : ((i + 1 : Nat) : Int) = (i : Int) + 1 := by omega
      rw [e2] at x2
      refine ⟨[.fz (Li v), o1, .fz (Li r), .fz (.int i)], ?_, rfl⟩
      simp only [lcB]
      clear hd hi hsucc
      walk_at "sx"
      simp only [Int.toNat_natCast])
  have hM : (rangeD 0 (r.length - 1)).filterMap (fun d => some (match d with | .int x => D.int (co r (x.toNat + 1) - co r x.toNat) | _ => .non)) = (rowK v (k + 1)).map D.int := by
    rw [← hsucc]
    unfold rangeD
    rw [fm_some (fun d => match d with | .int x => D.int (co r (x.toNat + 1) - co r x.toNat) | _ => .non), List.map_map]
    refine List.map_congr_left fun i _ => ?_
    simp
  rw [hM] at hW
  simp only [ex, evX, ev, hW, Out.bind]
  rfl
theorem ltab_ok (v : List Int) (hl : v.length ≤ 900) : callN G (n+2) 48 [Li v] s = .ok (Tu (trim (Crs.tab v))) s := by
  show runF pd.pt (callN G (n+1)) (mkN G (n+1)) f48__law_table [Li v] s = _
  have e0 : tst v 0 = [.fz (Li v), .own [], .fz (Li v), .none] := by unfold tst; rw [rowK_zero]; rfl
  have test : ∀ k, evTs pd.pt (callN G (n+1)) (mkN G (n+1)) (.cmp .NotEq (.v 2) (.lst .nil)) (tst v k) s = .ok (!(rowK v k == [])) (tst v k) s := fun k => by
    have h1 := cmpOk_li (rowK v k)
    have h2 : (D.lst []).cmpOk = true := rfl
    have h3 : eqP (Li (rowK v k)) (.lst []) = (rowK v k == []) := eqP_li (rowK v k) []
    have h4 : lim 0 = true := rfl
    simp only [tst]
    walk_at "sx"
  refine runF_ret (τ' := [.fz (Li v), .fz (Li (Crs.tab v)), .fz (Li (rowK v v.length)), .none]) rfl ?_
  refine (exs_next (τ := [.fz (Li v), .none, .none, .none]) (τ' := tst v 0) (s' := s) (by rw [e0]; rfl)).trans ?_
  refine (exs_next (τ' := tst v v.length) (s' := s) ?_).trans ?_
  · rw [ex]
    have h := whileL_seq (S := LP) (s := s) (c := fun τ s => evTs pd.pt (callN G (n+1)) (mkN G (n+1)) (.cmp .NotEq (.v 2) (.lst .nil)) τ s) (b := fun τ s => exs pd.pt (callN G (n+1)) (mkN G (n+1)) (.cons (.append 1 false (.ix (.v 2) (.k (.int 0)))) (.cons (.set 2 false (.nl (.lc (.bin .Sub (.ix (.v 2) (.bin .Add (.v 3) (.k (.int 1)))) (.ix (.v 2) (.v 3))) (.one 3) (.r1 (.bin .Sub (.bi .len (.cons false (.v 2) .nil)) (.k (.int 1)))) .nil))) .nil)) τ s) (tst v) v.length wfuel 0 (by unfold wfuel; omega) (fun j hj => by
      rw [Nat.zero_add]
      refine ⟨?_, tab_turn v j hj (by omega)⟩
      show evTs _ _ _ _ _ _ = _
      rw [test j, row_ne hj]; rfl) (by
      rw [Nat.zero_add]
      show evTs _ _ _ _ _ _ = _
      rw [test v.length]
      have : rowK v v.length = [] := by unfold rowK; rw [Nat.sub_self]; rfl
      rw [this]; rfl)
    rw [Nat.zero_add] at h
    exact h
  refine exs_ret ?_
  have hb := bare_ok (n := n) (s := s) (Crs.tab v) (by rw [tab_len]; omega)
  have e : ((List.range v.length).map fun j => D.int (Dl j (co v) 0)) = (Crs.tab v).map D.int := by simp only [Crs.tab, List.map_map]; rfl
  clear test
  simp only [tst, e]
  walk_at "sx"
end
end K11
end

section
set_option Elab.async false
set_option linter.all false
set_option maxRecDepth 100000
set_option maxHeartbeats 1000000
namespace K11
open PySem L2 Rz Crs
local macro_rules | `(tactic| walk_at "sx") => `(tactic| simp only [runF, runI, bindF, start', exs, ex, ev, evA, evO, evC, evI, evX, evTs, evV, Out.bind, Out.of, Out.nx, CRes.out, binV, unV, truV, cmpV, eqV', attrV, ixV, bxV, augV, callM, binD, notD, slD, biD, starOf, itemsV, bindT, bindN, Tg.slots, D.scalar, sameOrBt, declOk, D.tn, Slot.frz, madeI,
  List.map_cons, List.map_nil, List.length_cons, List.length_nil, List.append_nil, List.nil_append, List.cons_append, List.getElem?_cons_zero, List.getElem?_cons_succ, List.set_cons_zero, List.set_cons_succ, List.replicate_zero, List.replicate_succ, List.drop_nil, List.drop_succ_cons, List.drop_zero, List.take_succ_cons, List.take_zero, cond_true, cond_false, decide_true, decide_false, Bool.and_true, Bool.true_and, Bool.and_false, Bool.false_and, Nat.le_refl, Option.map_some, Option.map_none, Bool.not_true, Bool.not_false, Nat.reduceSub, Nat.reduceAdd, Nat.reduceLeDiff, Nat.zero_add, Nat.add_zero, Nat.sub_zero, beq_self_eq_true, Nat.reduceBEq, *])
section
variable {n : Nat} {s : LP}
theorem allI_map {α : Type} (f : α → Int) (l : List α) : allI (l.map fun x => D.int (f x)) = some (l.map f) := by
  induction l with
  | nil => rfl
  | cons a r ih => show (allI (r.map fun x => D.int (f x))).map _ = _; rw [ih]; rfl
theorem sum_range (f : Nat → Int) : ∀ k, ((List.range k).map f).sum = sm f k
  | 0 => rfl
  | k + 1 => by rw [List.range_succ, List.map_append, List.sum_append, sum_range f k]; simp [sm]
theorem later_sum (a : List Int) (t low : Nat) (h : low ≤ a.length) : sm (fun j => co a (low + j) * wt (t : Int) j) (a.length - low) = Crs.S a t low := by
  rw [S_sum]
  have e : sm (fun k => ch t k * co a (low + k)) a.length = sm (fun k => ch t k * co a (low + k)) (a.length - low) := by
    have := sm_stable (fun k => ch t k * co a (low + k)) (a.length - low) (fun k hk => by rw [co_ge (by omega)]; simp) low
    rw [show a.length - low + low = a.length by omega] at this
    exact this
  rw [e]
  exact sm_congr fun k _ => by rw [wt_ch, Int.mul_comm]
theorem rangeD_get2 {lo : Int} {n i : Nat} {d : D} (h : (rangeD lo n)[i]? = some d) : i < n ∧ d = D.int (lo + i) := by
  unfold rangeD at h
  rw [List.getElem?_map] at h
  rcases Nat.lt_or_ge i n with k | k
  · rw [List.getElem?_range k] at h
    refine ⟨k, ?_⟩
    simp at h; exact h.symm
  · rw [List.getElem?_eq_none (by simpa using k)] at h; cases h
theorem count_tk {t : Int} (h0 : 0 ≤ t) (h1 : t ≤ 10 ^ 40) : Tk t := by
  unfold Tk Bn
  have e : (10 : Int) ^ 40 = 10000000000000000000000000000000000000000 := by decide
  have e2 : (2 : Nat) ^ 140 = 1393796574908163946345982392040522594123776 := by decide
  rw [e] at h1; rw [e2]; omega
theorem ix_tu {a : List Int} {k : Nat} (h : k < a.length) : ixD (Tu a) (.int k) = some (.int (co a k)) := ix_li h
theorem later_turn (a : List Int) (t low : Nat) (ha : a.length ≤ 7) (hlow : low < a.length) (hB : Bs 8000 a) (ht : Tk (t : Int)) (x4 : Slot) :
    exs pd.pt (callN G (n+1)) (mkN G (n+1)) (.cons (.append 3 false (.bi .sum (.cons false (.nl (.lc (.bin .Mult (.ix (.attr (.v 0) 40) (.v 5)) (.call 9 (.cons false (.v 1) (.cons false (.bin .Sub (.v 5) (.v 4)) .nil)))) (.one 5) (.r2 (.v 4) (.v 2)) .nil)) .nil))) .nil)
      [.fz (Co a), .fz (.int t), .fz (.int a.length), .own ((List.range low).map fun i => .int (Crs.S a t i)), .fz (.int low), .none] s = .ok .next [.fz (Co a), .fz (.int t), .fz (.int a.length), .own ((List.range (low + 1)).map fun i => .int (Crs.S a t i)), .fz (.int low), .none] s := by
  let o1 : Slot := .own ((List.range low).map fun i => .int (Crs.S a t i))
  let τe : List Slot := [.fz (Co a), .fz (.int t), .fz (.int a.length), o1, .fz (.int low), .none]
  have hat : pd.pt.attr 0 40 = .fld 0 := rfl
  have a2 := @bi_sub
  have hW := evW_map (P := pd.pt) (call := callN G (n+1)) (mk := mkN G (n+1)) (elt := .bin .Mult (.ix (.attr (.v 0) 40) (.v 5)) (.call 9 (.cons false (.v 1) (.cons false (.bin .Sub (.v 5) (.v 4)) .nil)))) (tg := .one 5) (it := .r2 (.v 4) (.v 2)) (cs := .nil)
    (τ := τe) (τ1 := τe) (τw := τe) (s := s) (s1 := s) (ds := rangeD low (a.length - low)) (fun d => some (match d with | .int x => .int (co a x.toNat * wt (t : Int) (x.toNat - low)) | _ => .non)) (by
      have e1 : (((a.length : Nat) : Int) - ((low : Nat) : Int)).toNat = a.length - low := by omega
      have l1 : lim (a.length - low) = true := lim_ok (by omega)
      have l2 : lim ((low : Nat) : Int).natAbs = true := lim_ok (by omega)
      have l3 : lim ((a.length : Nat) : Int).natAbs = true := lim_ok (by omega)
      simp only [τe]
      walk_at "sx") (by unfold rangeD; simp; omega) rfl (fun d hd => by
      obtain ⟨j, hj⟩ := List.mem_iff_getElem?.mp hd
      obtain ⟨h1, rfl⟩ := rangeD_get2 hj
      have x1 := ix_tu (a := a) (k := low + j) (by omega)
      have e2 : ((low + j : Nat) : Int) = (low : Int) + (j : Int) := by omega
      rw [e2] at x1
      have hc := combined_ok (n := n) (s := s) t j (by omega) ht
      have e3 : ((low : Int) + (j : Int)) - (low : Int) = (j : Int) := by omega
      have e4 : ((low : Int) + (j : Int)).toNat = low + j := by omega
      have e5 : low + j - low = j := by omega
      have hm := bi_mul (mul_of (bg_of (hB.co (low + j)) (Nat.le_refl _)) (wt_bg ht (k := j) (by omega)))
      refine ⟨[.fz (Co a), .fz (.int t), .fz (.int a.length), o1, .fz (.int low), .fz (.int ((low : Int) + j))], ?_, rfl⟩
      simp only [lcB, τe]
      clear hd hj
      walk_at "sx")
  have hM : (rangeD low (a.length - low)).filterMap (fun d => some (match d with | .int x => D.int (co a x.toNat * wt (t : Int) (x.toNat - low)) | _ => .non)) = (List.range (a.length - low)).map fun j => D.int (co a (low + j) * wt (t : Int) j) := by
    unfold rangeD
    rw [fm_some (fun d => match d with | .int x => D.int (co a x.toNat * wt (t : Int) (x.toNat - low)) | _ => .non)]
    refine List.map_congr_left fun j _ => ?_
    show D.int (co a ((low : Int) + (j : Int)).toNat * wt (t : Int) (((low : Int) + (j : Int)).toNat - low)) = _
    rw [show ((low : Int) + (j : Int)).toNat = low + j by omega, show low + j - low = j by omega]
  rw [hM] at hW
  have hsum : biD .sum [.lst ((List.range (a.length - low)).map fun j => D.int (co a (low + j) * wt (t : Int) j))] = some (.int (Crs.S a t low)) := by
    show (allI _).map _ = _
    rw [allI_map]
    show some (D.int _) = _
    rw [sum_range, later_sum a t low (by omega)]
  have hlim : lim (((List.range low).map fun i => D.int (Crs.S a t i)).length + 1) = true := lim_ok (by simp; omega)
  refine (exs_next (τ' := [.fz (Co a), .fz (.int t), .fz (.int a.length), .own ((List.range (low + 1)).map fun i => .int (Crs.S a t i)), .fz (.int low), .none]) (s' := s) ?_).trans rfl
  have eE : ev pd.pt (callN G (n+1)) (mkN G (n+1)) (.bi .sum (.cons false (.nl (.lc (.bin .Mult (.ix (.attr (.v 0) 40) (.v 5)) (.call 9 (.cons false (.v 1) (.cons false (.bin .Sub (.v 5) (.v 4)) .nil)))) (.one 5) (.r2 (.v 4) (.v 2)) .nil)) .nil)) τe s = .ok (.int (Crs.S a t low)) τe s := by
    have e1 : backT τe τe (Tg.one 5).slots = τe := rfl
    rw [e1] at hW
    rw [ev]
    simp only [evA, ev, hW, Out.bind, cond_false, hsum, Out.of]
  have g : (τe)[3]? = some o1 := rfl
  rw [ex]
  simp only [τe, o1] at eE
  simp only [List.getElem?_cons_succ, List.getElem?_cons_zero, evX, eE, Out.bind, hlim, cond_true, List.set_cons_succ, List.set_cons_zero]
  rw [List.range_succ, List.map_append]
  rfl
theorem later_ok (a : List Int) (t : Nat) (ha : a.length ≤ 7) (hB : Bs 8000 a) (h1 : (t : Int) ≤ 10 ^ 40) : callN G (n+4) 19 [Co a, .int t] s = .ok (Co (trim ((List.range a.length).map (Crs.S a t)))) s := by
  show runF pd.pt (callN G (n+3)) (mkN G (n+3)) f19_Course_later [Co a, .int t] s = _
  have hat : pd.pt.attr 0 40 = .fld 0 := rfl
  have hcnt := is_count_ok (n := n) (s := s) (t : Int) (by omega) h1
  have ht := count_tk (t := (t : Int)) (by omega) h1
  let τs : Nat → List Slot := fun k => [.fz (Co a), .fz (.int t), .fz (.int a.length), .own ((List.range k).map fun i => .int (Crs.S a t i)), if k = 0 then .none else .fz (.int (k - 1 : Nat)), .none]
  refine runF_ret (τ' := [.fz (Co a), .fz (.int t), .fz (.int a.length), .fz (.lst ((List.range a.length).map fun i => .int (Crs.S a t i))), if a.length = 0 then .none else .fz (.int (a.length - 1 : Nat)), .none]) rfl ?_
  refine (exs_next (τ := [.fz (Co a), .fz (.int t), .none, .none, .none, .none]) (τ' := [.fz (Co a), .fz (.int t), .none, .none, .none, .none]) (s' := s) ?_).trans ?_
  · have : evTs pd.pt (callN G (n+3)) (mkN G (n+3)) (.not (.call 3 (.cons false (.v 1) .nil))) [.fz (Co a), .fz (.int t), .none, .none, .none, .none] s = .ok false [.fz (Co a), .fz (.int t), .none, .none, .none, .none] s := by walk_at "sx"
    exact ex_ite (τ' := []) this
  refine (exs_next (τ' := [.fz (Co a), .fz (.int t), .fz (.int a.length), .none, .none, .none]) (s' := s) (by
    simp only [Co]
    walk_at "sx"
    simp only [List.length_map])).trans ?_
  refine (exs_next (τ' := τs 0) (s' := s) rfl).trans ?_
  refine (exs_next (τ' := τs a.length) (s' := s) ?_).trans ?_
  · rw [ex_for (ds := rangeD 0 a.length) (τ1 := τs 0) (s1 := s) (by
      have hl : lim ((a.length : Nat) : Int).natAbs = true := lim_ok (by omega)
      simp only [τs]
      walk_at "sx"
      simp only [Int.toNat_natCast])]
    have h := forL_seq (s := s) (b := fun d τ s => match bindT (.one 4) d τ with
      | some τ => exs pd.pt (callN G (n+3)) (mkN G (n+3)) (.cons (.append 3 false (.bi .sum (.cons false (.nl (.lc (.bin .Mult (.ix (.attr (.v 0) 40) (.v 5)) (.call 9 (.cons false (.v 1) (.cons false (.bin .Sub (.v 5) (.v 4)) .nil)))) (.one 5) (.r2 (.v 4) (.v 2)) .nil)) .nil))) .nil) τ s
      | none => .no) τs (rangeD 0 a.length) (fun i d hd => by
        obtain ⟨hi, rfl⟩ := range_get hd
        exact later_turn (n := n+2) a t i ha hi hB ht (.fz (.int i)))
    rw [range_len] at h
    exact h
  refine exs_ret ?_
  have hm := course_mk (n := n) (s := s) ((List.range a.length).map (Crs.S a t)) (by simp; omega)
  rw [List.map_map] at hm
  have hm' : mkN G (n+3) 0 ((List.range a.length).map fun i => D.int (Crs.S a t i)) s = .ok (Co (trim ((List.range a.length).map (Crs.S a t)))) s := hm
  simp only [τs]
  simp only [ex, ev, evA, Out.bind, starOf, List.getElem?_cons_zero, List.getElem?_cons_succ, cond_true, List.append_nil, hm', CRes.out, List.set_cons_succ, List.set_cons_zero]
end
end K11
end

section
set_option Elab.async false
set_option linter.all false
set_option maxRecDepth 100000
set_option maxHeartbeats 1000000
namespace K11
open PySem L2 Rz Crs
local macro_rules | `(tactic| walk_at "sx") => `(tactic| simp only [runF, runI, bindF, start', exs, ex, ev, evA, evO, evC, evI, evX, evTs, evV, Out.bind, Out.of, Out.nx, CRes.out, binV, unV, truV, cmpV, eqV', attrV, ixV, bxV, augV, callM, binD, notD, slD, biD, starOf, itemsV, bindT, bindN, Tg.slots, D.scalar, sameOrBt, declOk, D.tn, Slot.frz, madeI,
  List.map_cons, List.map_nil, List.length_cons, List.length_nil, List.append_nil, List.nil_append, List.cons_append, List.getElem?_cons_zero, List.getElem?_cons_succ, List.set_cons_zero, List.set_cons_succ, List.replicate_zero, List.replicate_succ, List.drop_nil, List.drop_succ_cons, List.drop_zero, List.take_succ_cons, List.take_zero, cond_true, cond_false, decide_true, decide_false, Bool.and_true, Bool.true_and, Bool.and_false, Bool.false_and, Nat.le_refl, Option.map_some, Option.map_none, Bool.not_true, Bool.not_false, Nat.reduceSub, Nat.reduceAdd, Nat.reduceLeDiff, Nat.zero_add, Nat.add_zero, Nat.sub_zero, beq_self_eq_true, Nat.reduceBEq, *])
section
variable {n : Nat} {s : LP}
/-! ### bounds -/
theorem vs_bn {m : Nat} {a : List Int} {t : Int} (hB : Bs m a) (ht : Tk t) : ∀ k, k ≤ 8 → Bn (m + 1137 + k) (vs a t k)
  | 0, _ => Nat.pow_pos (by decide)
  | k + 1, hk => by
    have h1 := vs_bn hB ht k (by omega)
    have h2 := (hB.co k).mul (wt_bn ht (by decide) k (by omega))
    have h3 : Bn (m + 1137 + k) (co a k * wt t k) := h2.mono (by have : k * (140 + 2) ≤ 8 * 142 := Nat.mul_le_mul_right _ (by omega); omega)
    exact (h1.add h3).mono (by omega)
theorem val_bn {m : Nat} {a : List Int} {t : Int} (hB : Bs m a) (ht : Tk t) (ha : a.length ≤ 8) : Bn (m + 1145) (val a t) := (vs_bn hB ht a.length ha).mono (by omega)
theorem Bs_drop {m k : Nat} {a : List Int} (h : Bs m a) : Bs m (a.drop k) := fun x hx => h x (List.mem_of_mem_drop hx)
theorem S_drops (a : List Int) : ∀ (k t i : Nat), Crs.S (a.drop k) t i = Crs.S a t (i + k)
  | 0, t, i => rfl
  | k + 1, t, i => by
    rw [show a.drop (k + 1) = (a.drop k).drop 1 by rw [List.drop_drop], S_drop, S_drops a k t (i + 1)]
    rw [show i + 1 + k = i + (k + 1) by omega]
theorem S_bn {m : Nat} {a : List Int} {t : Nat} (hB : Bs m a) (ht : Tk (t : Int)) (ha : a.length ≤ 8) (i : Nat) : Bn (m + 1145) (Crs.S a t i) := by
  have e : Crs.S a t i = val (a.drop i) t := by rw [val_S, S_drops, Nat.zero_add]
  rw [e]
  exact val_bn (Bs_drop hB) ht (by simp; omega)
theorem Dl_bn {m : Nat} {g : Nat → Int} (h : ∀ j, Bn m (g j)) : ∀ k i, Bn (m + k) (Dl k g i)
  | 0, i => h i
  | k + 1, i => by
    have h1 := (Dl_bn h k (i + 1)).add (Dl_bn h k i).neg
    rw [← Int.sub_eq_add_neg] at h1
    exact h1
theorem Bs_tab {m : Nat} {v : List Int} (h : Bs m v) (hl : v.length ≤ 20) : Bs (m + 20) (Crs.tab v) := fun x hx => by
  obtain ⟨k, hk, rfl⟩ := List.mem_map.mp hx
  have := List.mem_range.mp hk
  exact (Dl_bn (fun j => h.co j) k 0).mono (by omega)
theorem Bs_map {m : Nat} {f : Nat → Int} {l : List Nat} (h : ∀ i, i ∈ l → Bn m (f i)) : Bs m (l.map f) := fun x hx => by
  obtain ⟨k, hk, rfl⟩ := List.mem_map.mp hx
  exact h k hk
/-- the values that are thinned -/
def thv (a : List Int) (p r k : Nat) : List Int := (List.range k).map fun i => Crs.S a (p * i + r) 0
theorem thv_tk {p r i : Nat} (hp : (p : Int) ≤ 10 ^ 40) (hr : (r : Int) ≤ 10 ^ 40) (hi : i ≤ 9) : Tk ((p * i + r : Nat) : Int) := by
  unfold Tk Bn
  have e : (10 : Int) ^ 40 = 10000000000000000000000000000000000000000 := by decide
  have e2 : (2 : Nat) ^ 140 = 1393796574908163946345982392040522594123776 := by decide
  rw [e] at hp hr
  rw [e2, Int.natAbs_natCast]
  have : p * i ≤ p * 9 := Nat.mul_le_mul_left _ hi
  omega
theorem thin_step (a : List Int) (p r i : Nat) (ha : a.length ≤ 8) (hB : Bs 8000 a) (hp : (p : Int) ≤ 10 ^ 40) (hr : (r : Int) ≤ 10 ^ 40) (hi : i ≤ 9) :
    lcB pd.pt (callN G (n+1)) (mkN G (n+1)) (.meth (.v 0) 43 (.cons false (.bin .Add (.bin .Mult (.v 1) (.v 3)) (.v 2)) .nil)) (.one 3) .nil (.int i) [.fz (Co a), .fz (.int p), .fz (.int r), .none] s = .ok (some (.int (Crs.S a (p * i + r) 0))) [.fz (Co a), .fz (.int p), .fz (.int r), .fz (.int i)] s := by
  have hv := value_at_ok (n := n) (s := s) a ((p * i + r : Nat) : Int) ha hB (thv_tk hp hr hi)
  rw [val_S] at hv
  have e : (p : Int) * (i : Int) + (r : Int) = ((p * i + r : Nat) : Int) := by rw [Int.natCast_add, Int.natCast_mul]
  have hm := bi_mulS2 (i := (p : Int)) (j := (i : Int)) (by rw [p64]; omega)
  have a1 := @bi_add
  have m0 : pd.pt.meth 0 43 = some 14 := rfl
  simp only [lcB]
  walk_at "sx"
theorem thinned_ok (a : List Int) (p r : Nat) (ha : a.length ≤ 8) (hB : Bs 8000 a) (hp0 : 0 < p) (hp : (p : Int) ≤ 10 ^ 40) (hr : (r : Int) ≤ 10 ^ 40) : callN G (n+5) 20 [Co a, .int p, .int r] s = .ok (Co (trim (Crs.tab (thv a p r a.length)))) s := by
  show runF pd.pt (callN G (n+4)) (mkN G (n+4)) f20_Course_thinned [Co a, .int p, .int r] s = _
  have hat : pd.pt.attr 0 40 = .fld 0 := rfl
  have h1 := is_count_ok (n := n+1) (s := s) (p : Int) (by omega) hp
  have h2 := is_count_ok (n := n+1) (s := s) (r : Int) (by omega) hr
  let τe : List Slot := [.fz (Co a), .fz (.int p), .fz (.int r), .none]
  refine runF_ret (τ' := τe) rfl ?_
  refine (exs_next (τ := τe) (τ' := τe) (s' := s) ?_).trans ?_
  · have c1 : (D.int (p : Int)).cmpOk = true := rfl
    have c2 : (D.int 0).cmpOk = true := rfl
    have c3 : eqP (.int (p : Int)) (.int 0) = false := by
      show ((p : Int) == 0) = false
      simp; omega
    have : evTs pd.pt (callN G (n+4)) (mkN G (n+4)) (.tor (.not (.call 3 (.cons false (.v 1) .nil))) (.cmp .Eq (.v 1) (.k (.int 0)))) τe s = .ok false τe s := by
      simp only [τe]
      walk_at "sx"
    exact ex_ite (τ' := []) this
  refine (exs_next (τ' := τe) (s' := s) ?_).trans ?_
  · have : evTs pd.pt (callN G (n+4)) (mkN G (n+4)) (.not (.call 3 (.cons false (.v 2) .nil))) τe s = .ok false τe s := by
      simp only [τe]
      walk_at "sx"
    exact ex_ite (τ' := []) this
  refine exs_ret ?_
  have hW := evW_map (P := pd.pt) (call := callN G (n+4)) (mk := mkN G (n+4)) (elt := .meth (.v 0) 43 (.cons false (.bin .Add (.bin .Mult (.v 1) (.v 3)) (.v 2)) .nil)) (tg := .one 3) (it := .r1 (.bi .len (.cons false (.attr (.v 0) 40) .nil))) (cs := .nil)
    (τ := τe) (τ1 := τe) (τw := τe) (s := s) (s1 := s) (ds := rangeD 0 a.length) (fun d => some (match d with | .int x => .int (Crs.S a (p * x.toNat + r) 0) | _ => .non)) (by
      have hl : lim ((a.length : Nat) : Int).natAbs = true := lim_ok (by omega)
      simp only [τe, Co]
      walk_at "sx"
      simp only [List.length_map, hl, cond_true, Int.toNat_natCast]) (by rw [range_len]; omega) rfl (fun d hd => by
      obtain ⟨i, hi⟩ := List.mem_iff_getElem?.mp hd
      obtain ⟨hi', rfl⟩ := range_get hi
      refine ⟨[.fz (Co a), .fz (.int p), .fz (.int r), .fz (.int i)], ?_, rfl⟩
      simp only [Int.toNat_natCast]
      exact thin_step (n := n+3) a p r i ha hB hp hr (by omega))
  have hM : (rangeD 0 a.length).filterMap (fun d => some (match d with | .int x => D.int (Crs.S a (p * x.toNat + r) 0) | _ => .non)) = (thv a p r a.length).map D.int := by
    unfold rangeD thv
    rw [fm_some (fun d => match d with | .int x => D.int (Crs.S a (p * x.toNat + r) 0) | _ => .non), List.map_map]
    refine List.map_congr_left fun i _ => ?_
    simp
  rw [hM] at hW
  have e1 : backT τe τe (Tg.one 3).slots = τe := rfl
  rw [e1] at hW
  have ht := through_ok (n := n) (s := s) (thv a p r a.length) (by unfold thv; simp; omega) (Li (thv a p r a.length)) (.inl rfl)
  have sm : pd.pt.smeth 0 42 = some (false, 11) := rfl
  simp only [ex, ev, sm, evA, hW, Out.bind, cond_false, ht, CRes.out]
end
end K11
end

section
set_option Elab.async false
set_option linter.all false
set_option maxRecDepth 100000
set_option maxHeartbeats 1000000
namespace K11
open PySem L2 Rz Crs
local macro_rules | `(tactic| walk_at "sx") => `(tactic| simp only [runF, runI, bindF, start', exs, ex, ev, evA, evO, evC, evI, evX, evTs, evV, Out.bind, Out.of, Out.nx, CRes.out, binV, unV, truV, cmpV, eqV', attrV, ixV, bxV, augV, callM, binD, notD, slD, biD, starOf, itemsV, bindT, bindN, Tg.slots, D.scalar, sameOrBt, declOk, D.tn, Slot.frz, madeI,
  List.map_cons, List.map_nil, List.length_cons, List.length_nil, List.append_nil, List.nil_append, List.cons_append, List.getElem?_cons_zero, List.getElem?_cons_succ, List.set_cons_zero, List.set_cons_succ, List.replicate_zero, List.replicate_succ, List.drop_nil, List.drop_succ_cons, List.drop_zero, List.take_succ_cons, List.take_zero, cond_true, cond_false, decide_true, decide_false, Bool.and_true, Bool.true_and, Bool.and_false, Bool.false_and, Nat.le_refl, Option.map_some, Option.map_none, Bool.not_true, Bool.not_false, Nat.reduceSub, Nat.reduceAdd, Nat.reduceLeDiff, Nat.zero_add, Nat.add_zero, Nat.sub_zero, beq_self_eq_true, Nat.reduceBEq, *])
section
variable {n : Nat} {s : LP}
theorem beq_rfl_list (a : List Int) : (a == a) = true := beq_self_eq_true a
def SV (a : List Int) : List Int := (List.range (a.length + 3)).map fun t => Crs.S a t 0
def DV (a : List Int) : List Int := (List.range (a.length + 2)).map fun t => Crs.S a t 1
def HV (a : List Int) : List Int := (List.range (a.length + 3)).map fun t => Crs.S (0 :: a) t 0
theorem fall_tab (a : List Int) : trim (Crs.tab (DV a)) = trim ((trim a).drop 1) := trim_tab (fun k hk => by
    have hk' : k < a.length + 2 := by simpa [DV] using hk
    unfold DV
    rw [tab_seq _ _ k hk', Dl_S a 1 k 0, co_drop, co_trim, Nat.add_comm]; rfl) (fun k hk => by
    have hk' : a.length + 2 ≤ k := by simpa [DV] using hk
    rw [co_drop, co_trim, co_ge (by omega)])
theorem sums_tab (a : List Int) : trim (Crs.tab (HV a)) = trim (0 :: trim a) := trim_tab (fun k hk => by
    have hk' : k < a.length + 3 := by simpa [HV] using hk
    unfold HV
    rw [tab_seq _ _ k hk', Dl_S (0 :: a) 0 k 0, Nat.zero_add]
    show co (0 :: a) k = co (0 :: trim a) k
    cases k with
    | zero => rfl
    | succ k => show co a k = co (trim a) k; rw [co_trim]) (fun k hk => by
    have hk' : a.length + 3 ≤ k := by simpa [HV] using hk
    obtain ⟨j, rfl⟩ : ∃ j, k = j + 1 := ⟨k - 1, by omega⟩
    show co (trim a) j = 0
    rw [co_trim, co_ge (by omega)])
theorem co_cons (x : Int) (a : List Int) (i : Nat) : co (x :: a) (i + 1) = co a i := rfl
theorem sums_fall (a : List Int) : trim ((trim (0 :: trim a)).drop 1) = trim a := trim_ext fun i => by
  rw [co_drop, co_trim, co_cons, co_trim]
theorem fall_sums (a : List Int) : trim (0 :: trim ((trim a).drop 1)) = trim (addS (trim a) (trim [co a 0]) (-1)) := trim_ext fun i => by
  rw [co_addS, co_trim, co_trim]
  cases i with
  | zero => show (0 : Int) = co a 0 + -1 * co a 0; omega
  | succ i =>
    rw [co_cons, co_trim, co_drop, co_trim]
    have : co [co a 0] (i + 1) = 0 := rfl
    rw [this]; omega
theorem seen_len (a : List Int) : (SV a).length = a.length + 3 ∧ (DV a).length = a.length + 2 ∧ (HV a).length = a.length + 3 := by simp [SV, DV, HV]
theorem nat_tk {i : Nat} (h : i ≤ 100) : Tk (i : Int) := by
  unfold Tk Bn
  rw [show (2 : Nat) ^ 140 = 1393796574908163946345982392040522594123776 by decide, Int.natAbs_natCast]; omega
theorem nat_cnt {i : Nat} (h : i ≤ 100) : (0 : Int) ≤ i ∧ (i : Int) ≤ 10 ^ 40 := by
  rw [show (10 : Int) ^ 40 = 10000000000000000000000000000000000000000 by decide]; omega
def fst6 (a : List Int) (x5 x6 x7 : Slot) : List Slot := [.fz (Co (trim a)), .fz (Li a), .fz (.int (a.length + 2 : Nat)), .fz (Li (SV a)), .fz (Li (DV a)), x5, x6, x7, .none]
theorem fr_head (a : List Int) (ha : a.length ≤ 6) (hA : Bs 200 a) : exs pd.pt (callN G (n+5)) (mkN G (n+5)) f49__law_fall_right.body [.fz (Co (trim a)), .fz (Li a), .none, .none, .none, .none, .none, .none, .none] s
    = exs pd.pt (callN G (n+5)) (mkN G (n+5)) (tl (tl (tl (tl (tl f49__law_fall_right.body))))) (fst6 a (.fz (.int (Crs.S (0 :: a) (a.length + 3) 0))) (.own ((HV a).map .int)) (.fz (.int (Crs.S a (a.length + 2) 0)))) s := by
  have a1 := @bi_add
  have a2 := @bi_sub
  refine (exs_next (τ' := [.fz (Co (trim a)), .fz (Li a), .fz (.int (a.length + 2 : Nat)), .none, .none, .none, .none, .none, .none]) (s' := s) ?_).trans ?_
  · simp only [Li]
    walk_at "sx"
    simp only [List.length_map]
    rfl
  refine (exs_next (τ' := [.fz (Co (trim a)), .fz (Li a), .fz (.int (a.length + 2 : Nat)), .fz (Li (SV a)), .none, .none, .none, .none, .none]) (s' := s) ?_).trans ?_
  · let τe : List Slot := [.fz (Co (trim a)), .fz (Li a), .fz (.int (a.length + 2 : Nat)), .none, .none, .none, .none, .none, .none]
    have hW := evW_map (P := pd.pt) (call := callN G (n+5)) (mk := mkN G (n+5)) (elt := .call 45 (.cons false (.v 1) (.cons false (.v 7) .nil))) (tg := .one 7) (it := .r1 (.bin .Add (.v 2) (.k (.int 1)))) (cs := .nil) (τ := τe) (τ1 := τe) (τw := τe) (s := s) (s1 := s) (ds := rangeD 0 (a.length + 3)) (fun d => some (match d with | .int x => .int (Crs.S a x.toNat 0) | _ => .non)) (by
      have hl : lim (((a.length + 2 : Nat) : Int) + 1).natAbs = true := lim_ok (by omega)
      have e : (((a.length + 2 : Nat) : Int) + 1).toNat = a.length + 3 := by omega
      simp only [τe]
      walk_at "sx") (by rw [range_len]; omega) rfl (fun d hd => by
      obtain ⟨i, hi⟩ := List.mem_iff_getElem?.mp hd
      obtain ⟨hi', rfl⟩ := range_get hi
      have hv := lvalue_ok (n := n+4) (s := s) a (i : Int) (by omega) (fun x hx => (hA x hx).mono (by decide)) (nat_tk (by omega))
      rw [val_S] at hv
      refine ⟨[.fz (Co (trim a)), .fz (Li a), .fz (.int (a.length + 2 : Nat)), .none, .none, .none, .none, .fz (.int i), .none], ?_, rfl⟩
      simp only [lcB, τe, Int.toNat_natCast]
      clear hd hi
      walk_at "sx")
    have hM : (rangeD 0 (a.length + 3)).filterMap (fun d => some (match d with | .int x => D.int (Crs.S a x.toNat 0) | _ => .non)) = (SV a).map D.int := by
      unfold rangeD SV
      rw [fm_some (fun d => match d with | .int x => D.int (Crs.S a x.toNat 0) | _ => .non), List.map_map]
      refine List.map_congr_left fun i _ => ?_
      simp
    rw [hM] at hW
    simp only [τe] at hW
    simp only [ex, evX, ev, hW, Out.bind]
    rfl
  refine (exs_next (τ' := [.fz (Co (trim a)), .fz (Li a), .fz (.int (a.length + 2 : Nat)), .fz (Li (SV a)), .fz (Li (DV a)), .none, .none, .none, .none]) (s' := s) ?_).trans ?_
  · let τe : List Slot := [.fz (Co (trim a)), .fz (Li a), .fz (.int (a.length + 2 : Nat)), .fz (Li (SV a)), .none, .none, .none, .none, .none]
    have hW := evW_map (P := pd.pt) (call := callN G (n+5)) (mk := mkN G (n+5)) (elt := .bin .Sub (.ix (.v 3) (.bin .Add (.v 8) (.k (.int 1)))) (.ix (.v 3) (.v 8))) (tg := .one 8) (it := .r1 (.v 2)) (cs := .nil) (τ := τe) (τ1 := τe) (τw := τe) (s := s) (s1 := s) (ds := rangeD 0 (a.length + 2)) (fun d => some (match d with | .int x => .int (Crs.S a x.toNat 1) | _ => .non)) (by
      have hl : lim ((a.length + 2 : Nat) : Int).natAbs = true := lim_ok (by omega)
      simp only [τe]
      walk_at "sx"
      simp only [Int.toNat_natCast]) (by rw [range_len]; omega) rfl (fun d hd => by
      obtain ⟨i, hi⟩ := List.mem_iff_getElem?.mp hd
      obtain ⟨hi', rfl⟩ := range_get hi
      have x1 := ix_li (a := SV a) (k := i) (by rw [(seen_len a).1]; omega)
      have x2 := ix_li (a := SV a) (k := i + 1) (by rw [(seen_len a).1]; omega)
      have e2 : ((i + 1 : Nat) : Int) = (i : Int) + 1 := by omega
      rw [e2] at x2
      have c1 : co (SV a) i = Crs.S a i 0 := co_seq _ _ i (by omega)
      have c2 : co (SV a) (i + 1) = Crs.S a i 0 + Crs.S a i 1 := co_seq (fun t => Crs.S a t 0) _ (i + 1) (by omega)
      rw [c1] at x1
      rw [c2] at x2
      have e3 : Crs.S a i 0 + Crs.S a i 1 - Crs.S a i 0 = Crs.S a i 1 := by omega
      refine ⟨[.fz (Co (trim a)), .fz (Li a), .fz (.int (a.length + 2 : Nat)), .fz (Li (SV a)), .none, .none, .none, .none, .fz (.int i)], ?_, rfl⟩
      simp only [lcB, τe, Int.toNat_natCast]
      clear hd hi c1 c2 e2
      walk_at "sx")
    have hM : (rangeD 0 (a.length + 2)).filterMap (fun d => some (match d with | .int x => D.int (Crs.S a x.toNat 1) | _ => .non)) = (DV a).map D.int := by
      unfold rangeD DV
      rw [fm_some (fun d => match d with | .int x => D.int (Crs.S a x.toNat 1) | _ => .non), List.map_map]
      refine List.map_congr_left fun i _ => ?_
      simp
    rw [hM] at hW
    simp only [τe] at hW
    simp only [ex, evX, ev, hW, Out.bind]
    rfl
  refine (exs_next (τ' := fst6 a (.fz (.int 0)) (.own []) .none) (s' := s) rfl).trans ?_
  let τs : Nat → List Slot := fun k => fst6 a (.fz (.int (Crs.S (0 :: a) k 0))) (.own ((List.range k).map fun t => .int (Crs.S (0 :: a) t 0))) (if k = 0 then .none else .fz (.int (Crs.S a (k - 1) 0)))
  refine exs_next (τ' := τs (a.length + 3)) (s' := s) ?_ |>.trans ?_
  · rw [ex_for (ds := (SV a).map .int) (τ1 := τs 0) (s1 := s) rfl]
    have h := forL_seq (s := s) (b := fun d τ s => match bindT (.one 7) d τ with
      | some τ => exs pd.pt (callN G (n+5)) (mkN G (n+5)) (.cons (.append 6 false (.v 5)) (.cons (.set 5 false (.bin .Add (.v 5) (.v 7))) .nil)) τ s
      | none => .no) τs ((SV a).map .int) (fun i d hd => by
        rw [List.getElem?_map] at hd
        rcases Nat.lt_or_ge i (SV a).length with hi | hi
        · rw [co_lt hi] at hd
          rw [(seen_len a).1] at hi
          simp only [Option.map_some, Option.some.injEq] at hd
          subst hd
          rw [show co (SV a) i = Crs.S a i 0 from co_seq _ _ i hi]
          have hl : lim (((List.range i).map fun t => D.int (Crs.S (0 :: a) t 0)).length + 1) = true := lim_ok (by simp; omega)
          have e1 : Crs.S (0 :: a) i 0 + Crs.S a i 0 = Crs.S (0 :: a) (i + 1) 0 := by
            show _ = Crs.S (0 :: a) i 0 + Crs.S (0 :: a) i (0 + 1)
            rw [S_cons]
          simp only [τs, fst6]
          walk_at "sx"
          rw [List.range_succ, List.map_append]
          rfl
        · rw [List.getElem?_eq_none hi] at hd; cases hd)
    rw [List.length_map, (seen_len a).1] at h
    exact h
  have e : τs (a.length + 3) = fst6 a (.fz (.int (Crs.S (0 :: a) (a.length + 3) 0))) (.own ((HV a).map .int)) (.fz (.int (Crs.S a (a.length + 2) 0))) := by
    simp only [τs, HV, List.map_map]
    rfl
  rw [e]
  rfl
end
end K11
end

section
set_option Elab.async false
set_option linter.all false
set_option maxRecDepth 100000
set_option maxHeartbeats 1000000
namespace K11
open PySem L2 Rz Crs
local macro_rules | `(tactic| walk_at "sx") => `(tactic| simp only [runF, runI, bindF, start', exs, ex, ev, evA, evO, evC, evI, evX, evTs, evV, Out.bind, Out.of, Out.nx, CRes.out, binV, unV, truV, cmpV, eqV', attrV, ixV, bxV, augV, callM, binD, notD, slD, biD, starOf, itemsV, bindT, bindN, Tg.slots, D.scalar, sameOrBt, declOk, D.tn, Slot.frz, madeI,
  List.map_cons, List.map_nil, List.length_cons, List.length_nil, List.append_nil, List.nil_append, List.cons_append, List.getElem?_cons_zero, List.getElem?_cons_succ, List.set_cons_zero, List.set_cons_succ, List.replicate_zero, List.replicate_succ, List.drop_nil, List.drop_succ_cons, List.drop_zero, List.take_succ_cons, List.take_zero, cond_true, cond_false, decide_true, decide_false, Bool.and_true, Bool.true_and, Bool.and_false, Bool.false_and, Nat.le_refl, Option.map_some, Option.map_none, Bool.not_true, Bool.not_false, Nat.reduceSub, Nat.reduceAdd, Nat.reduceLeDiff, Nat.zero_add, Nat.add_zero, Nat.sub_zero, beq_self_eq_true, Nat.reduceBEq, *])
section
variable {n : Nat} {s : LP}
theorem calls_step (b : List Int) (m : Nat) (fid : Nat) (f : Nat) (i : Nat) (hi : i ≤ 20) (hb : b.length ≤ 8) (hB : Bs 8000 b) (a0 : D) (x1 x2 x3 x4 x5 x6 x7 : Slot) (hm : pd.pt.meth 0 m = some f) (hf : callN G (n+5) f [a0] s = .ok (Co b) s) (h0 : ∃ ds, a0 = .ins 0 ds) :
    lcB pd.pt (callN G (n+5)) (mkN G (n+5)) (.callO (.meth (.v 0) m .nil) (.cons false (.v 8) .nil)) (.one 8) .nil (.int i) [.fz a0, x1, x2, x3, x4, x5, x6, x7, .none] s = .ok (some (.int (val b i))) [.fz a0, x1, x2, x3, x4, x5, x6, x7, .fz (.int i)] s := by
  obtain ⟨ds, rfl⟩ := h0
  have h := call_ok (n := n+1) (s := s) b i hb hB (nat_cnt (by omega)).1 (nat_cnt (by omega)).2
  have mC : pd.pt.meth 0 mCall = some 29 := rfl
  simp only [lcB]
  walk_at "sx"
theorem calls_ok (b : List Int) (m f k : Nat) (g : Nat → Int) (hg : ∀ i : Nat, val b (i : Int) = g i) (hk : k ≤ 20) (hb : b.length ≤ 8) (hB : Bs 8000 b) (ds : List D) (x1 x2 x3 x4 x5 x6 x7 : Slot) (it : CI) (hit : evI pd.pt (callN G (n+5)) (mkN G (n+5)) it [.fz (.ins 0 ds), x1, x2, x3, x4, x5, x6, x7, .none] s = .ok (rangeD 0 k) [.fz (.ins 0 ds), x1, x2, x3, x4, x5, x6, x7, .none] s) (hm : pd.pt.meth 0 m = some f) (hf : callN G (n+5) f [.ins 0 ds] s = .ok (Co b) s) :
    ev pd.pt (callN G (n+5)) (mkN G (n+5)) (.nl (.lc (.callO (.meth (.v 0) m .nil) (.cons false (.v 8) .nil)) (.one 8) it .nil)) [.fz (.ins 0 ds), x1, x2, x3, x4, x5, x6, x7, .none] s = .ok (Li ((List.range k).map g)) [.fz (.ins 0 ds), x1, x2, x3, x4, x5, x6, x7, .none] s := by
  have hW := evW_map (P := pd.pt) (call := callN G (n+5)) (mk := mkN G (n+5)) (elt := .callO (.meth (.v 0) m .nil) (.cons false (.v 8) .nil)) (tg := .one 8) (it := it) (cs := .nil) (τ := [.fz (.ins 0 ds), x1, x2, x3, x4, x5, x6, x7, .none]) (τ1 := [.fz (.ins 0 ds), x1, x2, x3, x4, x5, x6, x7, .none]) (τw := [.fz (.ins 0 ds), x1, x2, x3, x4, x5, x6, x7, .none]) (s := s) (s1 := s) (ds := rangeD 0 k) (fun d => some (match d with | .int x => .int (g x.toNat) | _ => .non)) hit (by rw [range_len]; omega) rfl (fun d hd => by
    obtain ⟨i, hi⟩ := List.mem_iff_getElem?.mp hd
    obtain ⟨hi', rfl⟩ := range_get hi
    have := calls_step (n := n) (s := s) b m 0 f i (by omega) hb hB (.ins 0 ds) x1 x2 x3 x4 x5 x6 x7 hm hf ⟨ds, rfl⟩
    rw [hg i] at this
    exact ⟨_, by simpa only [Int.toNat_natCast] using this, rfl⟩)
  have hM : (rangeD 0 k).filterMap (fun d => some (match d with | .int x => D.int (g x.toNat) | _ => .non)) = ((List.range k).map g).map D.int := by
    unfold rangeD
    rw [fm_some (fun d => match d with | .int x => D.int (g x.toNat) | _ => .non), List.map_map]
    refine List.map_congr_left fun i _ => ?_
    simp
  rw [hM] at hW
  rw [ev, hW]
  rfl
theorem ne_tst {e f : CE} {X : List Int} {τ τf : List Slot} (hfz : τ.map Slot.frz = τf) (he : ev pd.pt (callN G n) (mkN G n) e τf s = .ok (Li X) τf s) (hf : ev pd.pt (callN G n) (mkN G n) f τf s = .ok (Li X) τf s) : evTs pd.pt (callN G n) (mkN G n) (.cmp .NotEq e f) τ s = .ok false τ s := by
  have h1 := cmpOk_li X
  have h2 : eqP (Li X) (Li X) = true := (eqP_li _ _).trans (beq_rfl_list _)
  have ce : ev pd.pt (callN G n) (mkN G n) (.cmp .NotEq e f) τf s = .ok (.bl false) τf s := by
    rw [ev, he]
    simp only [Out.bind, hf, cmpV, eqV', h1, h2, Bool.and_true, cond_true, notD, Out.of, Bool.not_true]
  simp only [evTs, hfz, ce, Out.bind, truV]
theorem fall_right_ok (a : List Int) (ha : a.length ≤ 6) (hA : Bs 200 a) : callN G (n+6) 49 [Co (trim a), Li a] s = .ok (.bl true) s := by
  show runF pd.pt (callN G (n+5)) (mkN G (n+5)) f49__law_fall_right [Co (trim a), Li a] s = _
  let x5 : Slot := .fz (.int (Crs.S (0 :: a) (a.length + 3) 0))
  let x7 : Slot := .fz (.int (Crs.S a (a.length + 2) 0))
  let τ6 : List Slot := fst6 a x5 (.own ((HV a).map .int)) x7
  let τf : List Slot := fst6 a x5 (.fz (Li (HV a))) x7
  have hfz : τ6.map Slot.frz = τf := rfl
  refine runF_ret (τ' := τ6) rfl ?_
  refine (fr_head (n := n) (s := s) a ha hA).trans ?_
  have la := trim_len a
  have hT : Bs 8000 (trim a) := hA.trim.mono (by decide)
  have mf : pd.pt.meth 0 47 = some 16 := rfl
  have ms : pd.pt.meth 0 48 = some 18 := rfl
  have hat : pd.pt.attr 0 40 = .fld 0 := rfl
  have hfall := fall_ok (n := n) (s := s) (trim a) (by omega)
  have hsums := sums_ok (n := n+1) (s := s) (trim a) (by omega)
  have lf : (trim ((trim a).drop 1)).length ≤ 8 := Nat.le_trans (trim_len _) (by simp; omega)
  have ls : (trim (0 :: trim a)).length ≤ 8 := Nat.le_trans (trim_len _) (by simp; omega)
  have bf : Bs 8000 (trim ((trim a).drop 1)) := (Bs_drop hT).trim
  have bs : Bs 8000 (trim (0 :: trim a)) := Bs.trim fun x hx => by
    rcases List.mem_cons.mp hx with rfl | h
    · exact Nat.pow_pos (by decide)
    · exact hT x h
  have vf : ∀ i : Nat, val (trim ((trim a).drop 1)) (i : Int) = Crs.S a i 1 := fun i => by
    rw [val_trim, val_S, S_drop, S_congr (co_trim a)]
  have vsu : ∀ i : Nat, val (trim (0 :: trim a)) (i : Int) = Crs.S (0 :: a) i 0 := fun i => by
    rw [val_trim, val_S]
    exact S_congr (fun j => by cases j with
      | zero => rfl
      | succ j => rw [co_cons, co_cons, co_trim]) i 0
  refine (exs_next (τ := τ6) (τ' := τ6) (s' := s) ?_).trans ?_
  · have h3 := ltab_ok (n := n+3) (s := s) (DV a) (by rw [(seen_len a).2.1]; omega)
    have h4 := ltab_ok (n := n+3) (s := s) (HV a) (by rw [(seen_len a).2.2]; omega)
    rw [fall_tab] at h3
    rw [sums_tab] at h4
    have c1 := cmpOk_tu (trim ((trim a).drop 1))
    have c2 := cmpOk_tu (trim (0 :: trim a))
    have q1 : eqP (Tu (trim ((trim a).drop 1))) (Tu (trim ((trim a).drop 1))) = true := (eqP_tu _ _).trans (beq_rfl_list _)
    have q2 : eqP (Tu (trim (0 :: trim a))) (Tu (trim (0 :: trim a))) = true := (eqP_tu _ _).trans (beq_rfl_list _)
    have : evTs pd.pt (callN G (n+5)) (mkN G (n+5)) (.tor (.cmp .NotEq (.attr (.meth (.v 0) 47 .nil) 40) (.call 48 (.cons false (.v 4) .nil))) (.cmp .NotEq (.attr (.meth (.v 0) 48 .nil) 40) (.call 48 (.cons false (.v 6) .nil)))) τ6 s = .ok false τ6 s := by
      clear vf vsu hfz
      simp only [τ6, fst6, x5, x7]
      walk_at "sx"
    exact ex_ite (τ' := []) this
  refine (exs_next (τ' := τ6) (s' := s) ?_).trans ?_
  · refine ex_ite (τ' := []) (ne_tst (X := DV a) hfz (calls_ok (n := n) (s := s) (trim ((trim a).drop 1)) 47 16 (a.length + 2) (fun i => Crs.S a i 1) vf (by omega) lf bf _ _ _ _ _ _ _ _ _ ?_ mf hfall) rfl)
    have hl : lim ((a.length + 2 : Nat) : Int).natAbs = true := lim_ok (by omega)
    show evI _ _ _ (.r1 (.v 2)) _ _ = _
    clear vf vsu hfz
    walk_at "sx"
    simp only [Int.toNat_natCast]
  refine (exs_next (τ' := τ6) (s' := s) ?_).trans ?_
  · refine ex_ite (τ' := []) (ne_tst (X := HV a) hfz (calls_ok (n := n) (s := s) (trim (0 :: trim a)) 48 18 (a.length + 3) (fun i => Crs.S (0 :: a) i 0) vsu (by omega) ls bs _ _ _ _ _ _ _ _ _ ?_ ms hsums) rfl)
    have hl : lim (((a.length + 2 : Nat) : Int) + 1).natAbs = true := lim_ok (by omega)
    have e : (((a.length + 2 : Nat) : Int) + 1).toNat = a.length + 3 := by omega
    have a1 := @bi_add
    show evI _ _ _ (.r1 (.bin .Add (.v 2) (.k (.int 1)))) _ _ = _
    clear vf vsu hfz
    walk_at "sx"
  refine exs_ret ?_
  have h5 := fall_ok (n := n) (s := s) (trim (0 :: trim a)) (by omega)
  rw [sums_fall] at h5
  have h6 := sums_ok (n := n+1) (s := s) (trim ((trim a).drop 1)) (by omega)
  have h7 := course_mk (n := n+2) (s := s) [co a 0] (by simp)
  simp only [List.map_cons, List.map_nil] at h7
  have h8 := sub_ok (n := n) (s := s) (trim a) (trim [co a 0]) (by omega) (Nat.le_trans (trim_len _) (by simp)) (Bs.trim fun x hx => by
    rw [List.mem_singleton.mp hx]; exact ((hA.co 0)).mono (by decide))
  rw [← fall_sums] at h8
  have e1 := eq_ok (n := n+4) (s := s) (trim a) (trim a)
  rw [beq_rfl_list] at e1
  have e2 := eq_ok (n := n+4) (s := s) (trim (0 :: trim ((trim a).drop 1))) (trim (0 :: trim ((trim a).drop 1)))
  rw [beq_rfl_list] at e2
  have mE : pd.pt.meth 0 mEq = some 38 := rfl
  have mS : pd.pt.meth 0 (dun .Sub) = some 32 := rfl
  have hix := ix_li (a := SV a) (k := 0) (by rw [(seen_len a).1]; omega)
  rw [show co (SV a) 0 = co a 0 from co_seq _ _ 0 (by omega)] at hix
  simp only [Int.natCast_zero] at hix
  clear vf vsu hfz
  simp only [τ6, fst6, x5, x7]
  walk_at "sx"
end
end K11
end

section
set_option Elab.async false
set_option linter.all false
set_option maxRecDepth 100000
set_option maxHeartbeats 1000000
namespace K11
open PySem L2 Rz Crs
local macro_rules | `(tactic| walk_at "sx") => `(tactic| simp only [runF, runI, bindF, start', exs, ex, ev, evA, evO, evC, evI, evX, evTs, evV, Out.bind, Out.of, Out.nx, CRes.out, binV, unV, truV, cmpV, eqV', attrV, ixV, bxV, augV, callM, binD, notD, slD, biD, starOf, itemsV, bindT, bindN, Tg.slots, D.scalar, sameOrBt, declOk, D.tn, Slot.frz, madeI,
  List.map_cons, List.map_nil, List.length_cons, List.length_nil, List.append_nil, List.nil_append, List.cons_append, List.getElem?_cons_zero, List.getElem?_cons_succ, List.set_cons_zero, List.set_cons_succ, List.replicate_zero, List.replicate_succ, List.drop_nil, List.drop_succ_cons, List.drop_zero, List.take_succ_cons, List.take_zero, cond_true, cond_false, decide_true, decide_false, Bool.and_true, Bool.true_and, Bool.and_false, Bool.false_and, Nat.le_refl, Option.map_some, Option.map_none, Bool.not_true, Bool.not_false, Nat.reduceSub, Nat.reduceAdd, Nat.reduceLeDiff, Nat.zero_add, Nat.add_zero, Nat.sub_zero, beq_self_eq_true, Nat.reduceBEq, *])
section
variable {n : Nat}
theorem Dl_Sby (a : List Int) (b : Nat) : ∀ (k i : Nat), Dl k (fun t => Crs.S a (t + b) 0) i = Crs.S a (i + b) k
  | 0, i => rfl
  | k + 1, i => by
    show Dl k _ (i + 1) - Dl k _ i = _
    rw [Dl_Sby a b k (i + 1), Dl_Sby a b k i, show i + 1 + b = i + b + 1 by omega]
    show Crs.S a (i + b) k + Crs.S a (i + b) (k + 1) - Crs.S a (i + b) k = _
    omega
def lat (a : List Int) (b : Nat) : List Int := (List.range (trim a).length).map (Crs.S (trim a) b)
theorem co_lat (a : List Int) (b k : Nat) : co (lat a b) k = Crs.S a b k := by
  unfold lat
  rw [co_map_range]
  split
  · exact S_congr (co_trim a) b k
  · rw [← S_congr (co_trim a) b k, S_ge _ b k (by omega)]
theorem later_tab (a : List Int) (b : Nat) : trim (Crs.tab ((List.range (a.length + 1)).map fun i => Crs.S a (i + b) 0)) = trim (lat a b) := trim_tab (fun k hk => by
    have hk' : k < a.length + 1 := by simpa using hk
    rw [tab_seq _ _ k hk', Dl_Sby, co_lat, Nat.zero_add]) (fun k hk => by
    have hk' : a.length + 1 ≤ k := by simpa using hk
    rw [co_lat, S_ge a b k (by omega)])
theorem later_val (a : List Int) (b t : Nat) : val (trim (lat a b)) (t : Int) = Crs.S a (b + t) 0 := by
  rw [val_trim, val_S, S_from (co_lat a b)]
theorem thg (a : List Int) (p r : Nat) (k i : Nat) : Dl k (fun t => Crs.S (trim a) (p * t + r) 0) i = Dl k (fun t => Crs.S a (p * t + r) 0) i := Dl_congr k i fun j _ => S_congr (co_trim a) _ 0
theorem co_th (a : List Int) (p r k : Nat) : co (Crs.tab (thv (trim a) p r (trim a).length)) k = Dl k (fun t => Crs.S a (p * t + r) 0) 0 := by
  rcases Nat.lt_or_ge k (trim a).length with h | h
  · rw [co_tab _ k (by unfold thv; simpa using h)]
    unfold thv
    rw [tab_seq _ _ k h, thg]
  · rw [co_ge (by rw [tab_len]; unfold thv; simpa using h), ← thg, thin_ge (trim a) p r (trim a).length k (Nat.le_refl _) h 0]
theorem thin_tab (a : List Int) (p r : Nat) : trim (Crs.tab (thv a p r (a.length + 1))) = trim (Crs.tab (thv (trim a) p r (trim a).length)) := trim_tab (fun k hk => by
    have hk' : k < a.length + 1 := by unfold thv at hk; simpa using hk
    unfold thv
    rw [tab_seq _ _ k hk']
    exact (co_th a p r k).symm) (fun k hk => by
    have hk' : a.length + 1 ≤ k := by unfold thv at hk; simpa using hk
    rw [co_th, thin_ge a p r a.length k (Nat.le_refl _) (by omega) 0])
theorem thin_val (a : List Int) (p r t : Nat) : val (trim (Crs.tab (thv (trim a) p r (trim a).length))) (t : Int) = Crs.S a (p * t + r) 0 := by
  rw [val_trim, val_S, S_Dl (co_th a p r) t 0]; rfl
/-- a pick among counts -/
theorem pickc_ok (b : Nat) (L : List Int) (s : LP) (hs : Ok b s) (hb : b ≤ 50000) (hL : L ≠ []) (hl : L.length ≤ 100) (lo : Int) (h0 : 0 ≤ lo) (hx : ∀ x ∈ L, lo ≤ x ∧ x ≤ 10 ^ 40) : ∃ (t : Nat) (s' : LP), callN G (n+2) 42 [.pen, Li L] s = .ok (.int t) s' ∧ (lo ≤ (t : Int) ∧ (t : Int) ≤ 10 ^ 40) ∧ Ok (b + 1) s' := by
  obtain ⟨d, s', e, hd, ok⟩ := pick_ok (n := n) b (L.map D.int) s hs (by omega) (by simpa using hL) (by simp; omega)
  obtain ⟨x, hxm, rfl⟩ := List.mem_map.mp hd
  obtain ⟨h1, h2⟩ := hx x hxm
  refine ⟨x.toNat, s', ?_, ?_, ok⟩
  · rw [Int.toNat_of_nonneg (by omega)]; exact e
  · rw [Int.toNat_of_nonneg (by omega)]; exact ⟨h1, h2⟩
theorem tabl_ok {s : LP} (a : List Int) (g : Nat → Nat) (ce : CE) (τe : List Slot) (x9 : List Slot) (ha : a.length ≤ 6)
    (hW : evW pd.pt (callN G (n+5)) (mkN G (n+5)) (.lc (.call 45 (.cons false (.v 2) (.cons false ce .nil))) (.one 9) (.r1 (.v 7)) .nil) τe s = .ok (((List.range (a.length + 1)).map fun i => Crs.S a (g i) 0).map D.int) τe s) :
    ev pd.pt (callN G (n+5)) (mkN G (n+5)) (.call 48 (.cons false (.nl (.lc (.call 45 (.cons false (.v 2) (.cons false ce .nil))) (.one 9) (.r1 (.v 7)) .nil)) .nil)) τe s = .ok (Tu (trim (Crs.tab ((List.range (a.length + 1)).map fun i => Crs.S a (g i) 0)))) τe s := by
  have h := ltab_ok (n := n+3) (s := s) ((List.range (a.length + 1)).map fun i => Crs.S a (g i) 0) (by simp; omega)
  simp only [Li] at h
  simp only [ev, evA, hW, Out.bind, cond_false, h, CRes.out]
end
end K11
end

section
set_option Elab.async false
set_option linter.all false
set_option maxRecDepth 100000
set_option maxHeartbeats 1000000
namespace K11
open PySem L2 Rz Crs
local macro_rules | `(tactic| walk_at "sx") => `(tactic| simp only [runF, runI, bindF, start', exs, ex, ev, evA, evO, evC, evI, evX, evTs, evV, Out.bind, Out.of, Out.nx, CRes.out, binV, unV, truV, cmpV, eqV', attrV, ixV, bxV, augV, callM, binD, notD, slD, biD, starOf, itemsV, bindT, bindN, Tg.slots, D.scalar, sameOrBt, declOk, D.tn, Slot.frz, madeI,
  List.map_cons, List.map_nil, List.length_cons, List.length_nil, List.append_nil, List.nil_append, List.cons_append, List.getElem?_cons_zero, List.getElem?_cons_succ, List.set_cons_zero, List.set_cons_succ, List.replicate_zero, List.replicate_succ, List.drop_nil, List.drop_succ_cons, List.drop_zero, List.take_succ_cons, List.take_zero, cond_true, cond_false, decide_true, decide_false, Bool.and_true, Bool.true_and, Bool.and_false, Bool.false_and, Nat.le_refl, Option.map_some, Option.map_none, Bool.not_true, Bool.not_false, Nat.reduceSub, Nat.reduceAdd, Nat.reduceLeDiff, Nat.zero_add, Nat.add_zero, Nat.sub_zero, beq_self_eq_true, Nat.reduceBEq, *])
section
variable {n : Nat}
def mst (a : List Int) (M : List Int) (b o p : Nat) (x8 : Slot) : List Slot := [.fz .pen, .fz (Co (trim a)), .fz (Li a), .fz (Li M), .fz (.int b), .fz (.int o), .fz (.int p), .fz (.int (a.length + 1 : Nat)), x8, .none]
theorem mlc_ok {s : LP} (a M : List Int) (b o p : Nat) (x8 : Slot) (ce : CE) (g : Nat → Nat) (ha : a.length ≤ 6) (hA : Bs 200 a) (hg : ∀ i, i ≤ 6 → Tk ((g i : Nat) : Int))
    (hce : ∀ i : Nat, i ≤ 6 → ev pd.pt (callN G (n+5)) (mkN G (n+5)) ce [.fz .pen, .fz (Co (trim a)), .fz (Li a), .fz (Li M), .fz (.int b), .fz (.int o), .fz (.int p), .fz (.int (a.length + 1 : Nat)), x8, .fz (.int i)] s = .ok (.int (g i)) [.fz .pen, .fz (Co (trim a)), .fz (Li a), .fz (Li M), .fz (.int b), .fz (.int o), .fz (.int p), .fz (.int (a.length + 1 : Nat)), x8, .fz (.int i)] s) :
    evW pd.pt (callN G (n+5)) (mkN G (n+5)) (.lc (.call 45 (.cons false (.v 2) (.cons false ce .nil))) (.one 9) (.r1 (.v 7)) .nil) (mst a M b o p x8) s = .ok (((List.range (a.length + 1)).map fun i => Crs.S a (g i) 0).map D.int) (mst a M b o p x8) s := by
  have hW := evW_map (P := pd.pt) (call := callN G (n+5)) (mk := mkN G (n+5)) (elt := .call 45 (.cons false (.v 2) (.cons false ce .nil))) (tg := .one 9) (it := .r1 (.v 7)) (cs := .nil) (τ := mst a M b o p x8) (τ1 := mst a M b o p x8) (τw := mst a M b o p x8) (s := s) (s1 := s) (ds := rangeD 0 (a.length + 1)) (fun d => some (match d with | .int x => .int (Crs.S a (g x.toNat) 0) | _ => .non)) (by
      have hl : lim ((a.length + 1 : Nat) : Int).natAbs = true := lim_ok (by omega)
      clear hce
      simp only [mst]
      walk_at "sx"
      simp only [Int.toNat_natCast]) (by rw [range_len]; omega) rfl (fun d hd => by
      obtain ⟨i, hi⟩ := List.mem_iff_getElem?.mp hd
      obtain ⟨hi', rfl⟩ := range_get hi
      have hv := lvalue_ok (n := n+4) (s := s) a ((g i : Nat) : Int) (by omega) (fun x hx => (hA x hx).mono (by decide)) (hg i (by omega))
      rw [val_S] at hv
      have h1 := hce i (by omega)
      refine ⟨[.fz .pen, .fz (Co (trim a)), .fz (Li a), .fz (Li M), .fz (.int b), .fz (.int o), .fz (.int p), .fz (.int (a.length + 1 : Nat)), x8, .fz (.int i)], ?_, rfl⟩
      have v2 : ev pd.pt (callN G (n+5)) (mkN G (n+5)) (.v 2) [.fz .pen, .fz (Co (trim a)), .fz (Li a), .fz (Li M), .fz (.int b), .fz (.int o), .fz (.int p), .fz (.int (a.length + 1 : Nat)), x8, .fz (.int i)] s = .ok (Li a) [.fz .pen, .fz (Co (trim a)), .fz (Li a), .fz (Li M), .fz (.int b), .fz (.int o), .fz (.int p), .fz (.int (a.length + 1 : Nat)), x8, .fz (.int i)] s := rfl
      have bT : bindT (.one 9) (.int i) (mst a M b o p x8) = some [.fz .pen, .fz (Co (trim a)), .fz (Li a), .fz (Li M), .fz (.int b), .fz (.int o), .fz (.int p), .fz (.int (a.length + 1 : Nat)), x8, .fz (.int i)] := rfl
      have cE : ev pd.pt (callN G (n+5)) (mkN G (n+5)) (.call 45 (.cons false (.v 2) (.cons false ce .nil))) [.fz .pen, .fz (Co (trim a)), .fz (Li a), .fz (Li M), .fz (.int b), .fz (.int o), .fz (.int p), .fz (.int (a.length + 1 : Nat)), x8, .fz (.int i)] s = .ok (.int (Crs.S a (g i) 0)) [.fz .pen, .fz (Co (trim a)), .fz (Li a), .fz (Li M), .fz (.int b), .fz (.int o), .fz (.int p), .fz (.int (a.length + 1 : Nat)), x8, .fz (.int i)] s := by
        rw [ev]; simp only [evA, v2, h1, Out.bind, cond_false, hv, CRes.out]
      simp only [lcB, bT, evC, cE, Out.bind, cond_true, Out.nx, Int.toNat_natCast])
  have hM : (rangeD 0 (a.length + 1)).filterMap (fun d => some (match d with | .int x => D.int (Crs.S a (g x.toNat) 0) | _ => .non)) = ((List.range (a.length + 1)).map fun i => Crs.S a (g i) 0).map D.int := by
    unfold rangeD
    rw [fm_some (fun d => match d with | .int x => D.int (Crs.S a (g x.toNat) 0) | _ => .non), List.map_map]
    refine List.map_congr_left fun i _ => ?_
    simp
  rw [hM] at hW
  exact hW
theorem moved_ok (b0 : Nat) (s : LP) (hs : Ok b0 s) (hb0 : b0 ≤ 40000) (a : List Int) (ha : a.length ≤ 6) (hA : Bs 200 a) : ∃ s', callN G (n+6) 50 [.pen, Co (trim a), Li a] s = .ok (.bl true) s' ∧ Ok (b0 + 4) s' := by
  obtain ⟨r, s1, e1, r0, r1, ok1⟩ := draw_ok (n := n+4) b0 100 s hs (by omega) (by decide) rfl
  let M : List Int := [0, 1, 2, 3, 7, 10 ^ 40, 10 ^ 20 + 1, r]
  have big : (10 : Int) ^ 40 = 10000000000000000000000000000000000000000 := by decide
  have hM : ∀ x ∈ M, 0 ≤ x ∧ x ≤ 10 ^ 40 := by
    intro x hx
    simp only [M, List.mem_cons, List.not_mem_nil, or_false] at hx
    rcases hx with rfl | rfl | rfl | rfl | rfl | rfl | rfl | rfl
    · decide
    · decide
    · decide
    · decide
    · decide
    · decide
    · decide
    · rw [big]; omega
  obtain ⟨b, s2, e2, ⟨b1, b2⟩, ok2⟩ := pickc_ok (n := n+3) (b0 + 1) M s1 ok1 (by omega) (by simp [M]) (by simp [M]) 0 (by decide) hM
  obtain ⟨o, s3, e3, ⟨o1, o2⟩, ok3⟩ := pickc_ok (n := n+3) (b0 + 1 + 1) M s2 ok2 (by omega) (by simp [M]) (by simp [M]) 0 (by decide) hM
  obtain ⟨p, s4, e4, ⟨p1, p2⟩, ok4⟩ := pickc_ok (n := n+3) (b0 + 1 + 1 + 1) [1, 2, 3, 7, 10 ^ 40, 10 ^ 20 + 1, 12] s3 ok3 (by omega) (by simp) (by simp) 1 (by decide) (by
    intro x hx
    simp only [List.mem_cons, List.not_mem_nil, or_false] at hx
    rcases hx with rfl | rfl | rfl | rfl | rfl | rfl | rfl <;> decide)
  refine ⟨s4, ?_, ok4.mono (by omega)⟩
  show runF pd.pt (callN G (n+5)) (mkN G (n+5)) f50__law_moved_right [.pen, Co (trim a), Li a] s = _
  have a1 := @bi_add
  have hat : pd.pt.attr 0 40 = .fld 0 := rfl
  have la := trim_len a
  have hT : Bs 8000 (trim a) := hA.trim.mono (by decide)
  have tkb : ∀ i, i ≤ 9 → Tk ((i + b : Nat) : Int) := fun i hi => by
    unfold Tk Bn
    rw [show (2 : Nat) ^ 140 = 1393796574908163946345982392040522594123776 by decide, Int.natAbs_natCast]
    rw [big] at b2; omega
  refine runF_ret (τ' := mst a M b o p (.fz (Tu (trim (Crs.tab (thv (trim a) p o (trim a).length)))))) rfl ?_
  refine (exs_next (τ := [.fz .pen, .fz (Co (trim a)), .fz (Li a), .none, .none, .none, .none, .none, .none, .none]) (τ' := [.fz .pen, .fz (Co (trim a)), .fz (Li a), .fz (Li M), .none, .none, .none, .none, .none, .none]) (s' := s1) ?_).trans ?_
  · have hp1 : Rz.binI .Pow 10 40 = some (10 ^ 40) := bi_pow (k := 40) (by decide) (by decide)
    have hp2 : Rz.binI .Pow 10 20 = some (10 ^ 20) := bi_pow (k := 20) (by decide) (by decide)
    have hl : lim 8 = true := rfl
    clear e2 e3 e4 hM tkb
    walk_at "sx"
    rfl
  refine (exs_next (τ' := [.fz .pen, .fz (Co (trim a)), .fz (Li a), .fz (Li M), .fz (.int b), .fz (.int o), .fz (.int p), .none, .none, .none]) (s' := s4) ?_).trans ?_
  · have k1 : ((4 : Nat) == 5 || (4 : Nat) == 6 || (5 : Nat) == 6) = false := rfl
    have vM : ∀ (x4 x5 x6 : Slot) (s : LP), ev pd.pt (callN G (n+5)) (mkN G (n+5)) (.bin .Add (.sl (.v 3) (.yes (.k (.int 1))) (.yes (.k (.int 7)))) (.lst (.cons false (.k (.int 12)) .nil))) [.fz .pen, .fz (Co (trim a)), .fz (Li a), .fz (Li M), x4, x5, x6, .none, .none, .none] s = .ok (Li [1, 2, 3, 7, 10 ^ 40, 10 ^ 20 + 1, 12]) [.fz .pen, .fz (Co (trim a)), .fz (Li a), .fz (Li M), x4, x5, x6, .none, .none, .none] s := fun _ _ _ _ => rfl
    have v0 : ∀ (s : LP), ev pd.pt (callN G (n+5)) (mkN G (n+5)) (.v 0) [.fz .pen, .fz (Co (trim a)), .fz (Li a), .fz (Li M), .none, .none, .none, .none, .none, .none] s = .ok .pen [.fz .pen, .fz (Co (trim a)), .fz (Li a), .fz (Li M), .none, .none, .none, .none, .none, .none] s := fun _ => rfl
    have v3 : ∀ (s : LP), ev pd.pt (callN G (n+5)) (mkN G (n+5)) (.v 3) [.fz .pen, .fz (Co (trim a)), .fz (Li a), .fz (Li M), .none, .none, .none, .none, .none, .none] s = .ok (Li M) [.fz .pen, .fz (Co (trim a)), .fz (Li a), .fz (Li M), .none, .none, .none, .none, .none, .none] s := fun _ => rfl
    have cE : ∀ (e : CE) (L : List Int) (t : Nat) (s s' : LP), ev pd.pt (callN G (n+5)) (mkN G (n+5)) e [.fz .pen, .fz (Co (trim a)), .fz (Li a), .fz (Li M), .none, .none, .none, .none, .none, .none] s = .ok (Li L) [.fz .pen, .fz (Co (trim a)), .fz (Li a), .fz (Li M), .none, .none, .none, .none, .none, .none] s → callN G (n+5) 42 [.pen, Li L] s = .ok (.int t) s' → ev pd.pt (callN G (n+5)) (mkN G (n+5)) (.call 42 (.cons false (.v 0) (.cons false e .nil))) [.fz .pen, .fz (Co (trim a)), .fz (Li a), .fz (Li M), .none, .none, .none, .none, .none, .none] s = .ok (.int t) [.fz .pen, .fz (Co (trim a)), .fz (Li a), .fz (Li M), .none, .none, .none, .none, .none, .none] s' := fun e L t s s' h1 h2 => by
      rw [ev]; simp only [evA, v0, h1, Out.bind, cond_false, h2, CRes.out]
    have y1 := cE _ M b s1 s2 (v3 s1) e2
    have y2 := cE _ M o s2 s3 (v3 s2) e3
    have y3 := cE _ _ p s3 s4 (vM .none .none .none s3) e4
    rw [ex]
    simp only [y1, y2, y3, Out.bind, k1, cond_false]
    rfl
  refine (exs_next (τ' := mst a M b o p .none) (s' := s4) ?_).trans ?_
  · clear e1 e2 e3 e4 hM tkb
    simp only [mst, Li]
    walk_at "sx"
    simp only [List.length_map]
    rfl
  have lc1 := mlc_ok (n := n) (s := s4) a M b o p .none (.bin .Add (.v 9) (.v 4)) (fun i => i + b) ha hA (fun i hi => tkb i (by omega)) (fun i _ => by
    have : (i : Int) + (b : Int) = ((i + b : Nat) : Int) := by omega
    clear e1 e2 e3 e4 hM tkb
    walk_at "sx")
  have d1 := tabl_ok (n := n) (s := s4) a (fun i => i + b) (.bin .Add (.v 9) (.v 4)) (mst a M b o p .none) [] ha lc1
  rw [later_tab] at d1
  refine (exs_next (τ' := mst a M b o p (.fz (Tu (trim (lat a b))))) (s' := s4) ?_).trans ?_
  · rw [ex]; simp only [evX, d1, Out.bind]; rfl
  have hlat := later_ok (n := n+1) (s := s4) (trim a) b (by omega) hT b2
  have hlat' : callN G (n+5) 19 [Co (trim a), .int b] s4 = .ok (Co (trim (lat a b))) s4 := hlat
  have ml : pd.pt.meth 0 50 = some 19 := rfl
  have mt : pd.pt.meth 0 49 = some 20 := rfl
  refine (exs_next (τ' := mst a M b o p (.fz (Tu (trim (lat a b))))) (s' := s4) ?_).trans ?_
  · have kw : arr2 (pd.pt.kwn 19) [Co (trim a)] [(PySem.Str.ofString "k")] [.int b] = some [Co (trim a), .int b] := rfl
    have c1 := cmpOk_tu (trim (lat a b))
    have q1 : eqP (Tu (trim (lat a b))) (Tu (trim (lat a b))) = true := (eqP_tu _ _).trans (beq_rfl_list _)
    have : evTs pd.pt (callN G (n+5)) (mkN G (n+5)) (.tor (.cmp .NotEq (.attr (.meth (.v 1) 50 (.cons false (.v 4) .nil)) 40) (.v 8)) (.cmp .NotEq (.attr (.methK (.v 1) 50 .nil [(PySem.Str.ofString "k")] (.cons false (.v 4) .nil)) 40) (.v 8))) (mst a M b o p (.fz (Tu (trim (lat a b))))) s4 = .ok false (mst a M b o p (.fz (Tu (trim (lat a b))))) s4 := by
      clear e1 e2 e3 e4 hM tkb lc1 d1 hlat
      simp only [mst]
      walk_at "sx"
    exact ex_ite (τ' := []) this
  have lc2 := mlc_ok (n := n) (s := s4) a M b o p (.fz (Tu (trim (lat a b)))) (.bin .Add (.bin .Mult (.v 6) (.v 9)) (.v 5)) (fun i => p * i + o) ha hA (fun i hi => thv_tk p2 o2 (by omega)) (fun i hi => by
    have e : (p : Int) * (i : Int) + (o : Int) = ((p * i + o : Nat) : Int) := by rw [Int.natCast_add, Int.natCast_mul]
    have hm := bi_mulS2 (i := (p : Int)) (j := (i : Int)) (by rw [p64]; omega)
    clear e1 e2 e3 e4 hM tkb lc1 d1 hlat
    walk_at "sx")
  have d2 := tabl_ok (n := n) (s := s4) a (fun i => p * i + o) (.bin .Add (.bin .Mult (.v 6) (.v 9)) (.v 5)) (mst a M b o p (.fz (Tu (trim (lat a b))))) [] ha lc2
  have tt : trim (Crs.tab ((List.range (a.length + 1)).map fun i => Crs.S a (p * i + o) 0)) = trim (Crs.tab (thv (trim a) p o (trim a).length)) := thin_tab a p o
  rw [tt] at d2
  refine (exs_next (τ' := mst a M b o p (.fz (Tu (trim (Crs.tab (thv (trim a) p o (trim a).length)))))) (s' := s4) ?_).trans ?_
  · rw [ex]; simp only [evX, d2, Out.bind]; rfl
  have hth := thinned_ok (n := n) (s := s4) (trim a) p o (by omega) hT (by omega) p2 o2
  let TH := trim (Crs.tab (thv (trim a) p o (trim a).length))
  refine (exs_next (τ' := mst a M b o p (.fz (Tu TH))) (s' := s4) ?_).trans ?_
  · have kw : arr2 (pd.pt.kwn 20) [Co (trim a)] [(PySem.Str.ofString "rest"), (PySem.Str.ofString "period")] [.int o, .int p] = some [Co (trim a), .int p, .int o] := rfl
    have c1 := cmpOk_tu TH
    have q1 : eqP (Tu TH) (Tu TH) = true := (eqP_tu _ _).trans (beq_rfl_list _)
    have hth' : callN G (n+5) 20 [Co (trim a), .int p, .int o] s4 = .ok (Co TH) s4 := hth
    have : evTs pd.pt (callN G (n+5)) (mkN G (n+5)) (.tor (.cmp .NotEq (.attr (.meth (.v 1) 49 (.cons false (.v 6) (.cons false (.v 5) .nil))) 40) (.v 8)) (.cmp .NotEq (.attr (.methK (.v 1) 49 .nil [(PySem.Str.ofString "rest"), (PySem.Str.ofString "period")] (.cons false (.v 5) (.cons false (.v 6) .nil))) 40) (.v 8))) (mst a M b o p (.fz (Tu TH))) s4 = .ok false (mst a M b o p (.fz (Tu TH))) s4 := by
      clear e1 e2 e3 e4 hM tkb lc1 d1 hlat lc2 d2 tt hth hlat'
      simp only [mst]
      walk_at "sx"
    exact ex_ite (τ' := []) this
  refine exs_ret ?_
  have lTH : TH.length ≤ 8 := Nat.le_trans (trim_len _) (by rw [tab_len]; unfold thv; simp; omega)
  have bTH : Bs 8000 TH := Bs.trim ((Bs_tab (m := 1345) (Bs_map fun i hi => S_bn (hA.trim) (thv_tk p2 o2 (by have := List.mem_range.mp hi; omega)) (by omega) 0) (by simp; omega)).mono (by decide))
  have lLA : (trim (lat a b)).length ≤ 8 := Nat.le_trans (trim_len _) (by unfold lat; simp; omega)
  have bLA : Bs 8000 (trim (lat a b)) := Bs.trim ((Bs_map (m := 1345) fun i _ => S_bn (hA.trim) (count_tk (by omega) b2) (by omega) i).mono (by decide))
  have v1 := call_ok (n := n+1) (s := s4) (trim (lat a b)) 5 lLA bLA (by decide) (by decide)
  have v2 := call_ok (n := n+1) (s := s4) TH 9 lTH bTH (by decide) (by decide)
  rw [show (5 : Int) = ((5 : Nat) : Int) from rfl, later_val] at v1
  rw [show (9 : Int) = ((9 : Nat) : Int) from rfl, thin_val] at v2
  have w1 := lvalue_ok (n := n+4) (s := s4) a ((b + 5 : Nat) : Int) (by omega) (fun x hx => (hA x hx).mono (by decide)) (by have := tkb 5 (by decide); rw [Nat.add_comm] at this; exact this)
  have w2 := lvalue_ok (n := n+4) (s := s4) a ((p * 9 + o : Nat) : Int) (by omega) (fun x hx => (hA x hx).mono (by decide)) (thv_tk p2 o2 (by decide))
  rw [val_S] at w1 w2
  have f1 : (b : Int) + 5 = ((b + 5 : Nat) : Int) := by omega
  have f2 : 9 * (p : Int) + (o : Int) = ((p * 9 + o : Nat) : Int) := by omega
  have hm := bi_mulS (i := 9) (j := (p : Int)) (by decide)
  have mC : pd.pt.meth 0 mCall = some 29 := rfl
  have c1 : ∀ x : Int, (D.int x).cmpOk = true := fun _ => rfl
  have c2 : ∀ x : Int, eqP (.int x) (.int x) = true := fun x => beq_self_eq_true x
  have hth' : callN G (n+5) 20 [Co (trim a), .int p, .int o] s4 = .ok (Co TH) s4 := hth
  clear e1 e2 e3 e4 hM tkb lc1 d1 hlat lc2 d2 tt hth bTH bLA lTH lLA
  simp only [mst]
  have v1' : callN G (n+5) 29 [Co (trim (lat a b)), .int 5] s4 = .ok (.int (Crs.S a (b + 5) 0)) s4 := v1
  have v2' : callN G (n+5) 29 [Co TH, .int 9] s4 = .ok (.int (Crs.S a (p * 9 + o) 0)) s4 := v2
  clear v1 v2
  walk_at "sx"
  rfl
end
end K11
end

section
set_option Elab.async false
set_option linter.all false
set_option maxRecDepth 100000
set_option maxHeartbeats 1000000
namespace K11
open PySem L2 Rz Crs
local macro_rules | `(tactic| walk_at "sx") => `(tactic| simp only [runF, runI, bindF, start', exs, ex, ev, evA, evO, evC, evI, evX, evTs, evV, Out.bind, Out.of, Out.nx, CRes.out, binV, unV, truV, cmpV, eqV', attrV, ixV, bxV, augV, callM, binD, notD, slD, biD, starOf, itemsV, bindT, bindN, Tg.slots, D.scalar, sameOrBt, declOk, D.tn, Slot.frz, madeI,
  List.map_cons, List.map_nil, List.length_cons, List.length_nil, List.append_nil, List.nil_append, List.cons_append, List.getElem?_cons_zero, List.getElem?_cons_succ, List.set_cons_zero, List.set_cons_succ, List.replicate_zero, List.replicate_succ, List.drop_nil, List.drop_succ_cons, List.drop_zero, List.take_succ_cons, List.take_zero, cond_true, cond_false, decide_true, decide_false, Bool.and_true, Bool.true_and, Bool.and_false, Bool.false_and, Nat.le_refl, Option.map_some, Option.map_none, Bool.not_true, Bool.not_false, Nat.reduceSub, Nat.reduceAdd, Nat.reduceLeDiff, Nat.zero_add, Nat.add_zero, Nat.sub_zero, beq_self_eq_true, Nat.reduceBEq, *])
section
variable {n : Nat}
theorem row3_ok (b : Nat) (s : LP) (hs : Ok b s) (hb : b ≤ 40000) : ∃ a s', callN G (n+3) 43 [.pen, .int 3] s = .ok (Li a) s' ∧ a.length ≤ 3 ∧ Bs 200 a ∧ Ok (b + 7) s' := by
  obtain ⟨r, s1, e1, r0, r1, ok1⟩ := draw_ok (n := n+1) b 4 s hs (by omega) (by decide) rfl
  let M : List Int := [0, 0, 1, -1, 2, -3, 45, -60, 10 ^ 30, -10 ^ 57]
  let τe : List Slot := [.fz .pen, .fz (.int 3), .fz (Li M), .none]
  have a1 := @bi_add
  obtain ⟨acc, s2, e2, a, ha1, ha2, ha3, ok2⟩ := evW_inv (P := pd.pt) (call := callN G (n+2)) (mk := mkN G (n+2)) (elt := .call 42 (.cons false (.v 0) (.cons false (.bin .Add (.v 2) (.bin .Mult (.lst (.cons false (.bin .Sub (.call 41 (.cons false (.v 0) (.cons false (.k (.int 41)) .nil))) (.k (.int 20))) .nil)) (.k (.int 4)))) .nil))) (tg := .one 3) (it := .r1 (.call 41 (.cons false (.v 0) (.cons false (.bin .Add (.v 1) (.k (.int 1))) .nil)))) (cs := .nil)
    (τ := τe) (τ1 := τe) (τw := τe) (s := s) (s1 := s1) (ds := rangeD 0 r.toNat) (fun i acc s => ∃ a : List Int, acc = a.map D.int ∧ a.length = i ∧ Bs 200 a ∧ Ok (b + 1 + 2 * i) s) (by
      have hl : lim r.natAbs = true := lim_ok (by omega)
      have e7 : (3 : Int) + 1 = 4 := by decide
      simp only [τe]
      walk_at "sx") (by rw [range_len]; omega) rfl (fun i d acc s hd ⟨a, h1, h2, h3, h4⟩ => by
      obtain ⟨hi, rfl⟩ := range_get hd
      obtain ⟨x, s', e, hx, ok⟩ := row_step (n := n) (.int i) (b + 1 + 2 * i) s h4 (by omega) (.fz (.int 3))
      exact ⟨.int x, _, s', e, rfl, a ++ [x], by rw [h1, List.map_append]; rfl, by simp [h2], fun y hy => by
        rcases List.mem_append.mp hy with z | z
        · exact h3 y z
        · rw [List.mem_singleton.mp z]; exact hx, ok.mono (by omega)⟩) ⟨[], rfl, rfl, (fun _ h => (nomatch h)), ok1⟩
  rw [range_len] at ha2 ok2
  refine ⟨a, s2, ?_, by omega, ha3, ok2.mono (by omega)⟩
  show runF pd.pt (callN G (n+2)) (mkN G (n+2)) f43__law_row [.pen, .int 3] s = _
  refine runF_ret (τ' := τe) rfl ?_
  refine (exs_next (τ := [.fz .pen, .fz (.int 3), .none, .none]) (τ' := τe) (s' := s) rfl).trans ?_
  refine exs_ret ?_
  simp only [ex, ev, e2, Out.bind, ha1]
  rfl
theorem nums_step (d0 : D) (b : Nat) (s : LP) (hs : Ok b s) (hb : b ≤ 50000) (x1 x2 x3 x4 x6 : Slot) : ∃ x s', lcB pd.pt (callN G (n+2)) (mkN G (n+2)) (.call 42 (.cons false (.v 0) (.cons false (.lst (.cons false (.k (.int 0)) (.cons false (.k (.int 1)) (.cons false (.un .USub (.k (.int 1))) (.cons false (.k (.int 5)) (.cons false (.bin .Pow (.k (.int 10)) (.k (.int 59))) (.cons false (.bin .Sub (.call 41 (.cons false (.v 0) (.cons false (.k (.int 99)) .nil))) (.k (.int 49))) .nil))))))) .nil))) (.one 5) .nil d0
    [.fz .pen, x1, x2, x3, x4, .none, x6] s = .ok (some (.int x)) [.fz .pen, x1, x2, x3, x4, .fz d0, x6] s' ∧ Bn 200 x ∧ Ok (b + 2) s' := by
  obtain ⟨r, s1, e1, r0, r1, ok1⟩ := draw_ok (n := n+1) b 99 s hs (by omega) (by decide) rfl
  let L : List Int := [0, 1, -1, 5, 10 ^ 59, r - 49]
  obtain ⟨d, s2, e2, hd, ok2⟩ := pick_ok (n := n) (b + 1) (L.map D.int) s1 ok1 (by omega) (by simp [L]) (by simp [L])
  obtain ⟨x, hx, rfl⟩ := List.mem_map.mp hd
  have hB : Bn 200 x := by
    simp only [L, List.mem_cons, List.not_mem_nil, or_false] at hx
    unfold Bn
    rcases hx with rfl | rfl | rfl | rfl | rfl | rfl
    all_goals first
      | decide
      | (rw [show (2 : Nat) ^ 200 = 1606938044258990275541962092341162602522202993782792835301376 by decide]; omega)
  refine ⟨x, s2, ?_, hB, ok2⟩
  have hp : Rz.binI .Pow 10 59 = some (10 ^ 59) := bi_pow (k := 59) (by decide) (by decide)
  have a2 := @bi_sub
  have hl : lim 6 = true := rfl
  simp only [L, List.map_cons, List.map_nil] at e2
  clear hd hx hB ok1 ok2 hs hb
  simp only [lcB]
  walk_at "sx"
theorem nums_ok (b : Nat) (s : LP) (hs : Ok b s) (hb : b ≤ 40000) : ∃ v s', evW pd.pt (callN G (n+2)) (mkN G (n+2)) (.lc (.call 42 (.cons false (.v 0) (.cons false (.lst (.cons false (.k (.int 0)) (.cons false (.k (.int 1)) (.cons false (.un .USub (.k (.int 1))) (.cons false (.k (.int 5)) (.cons false (.bin .Pow (.k (.int 10)) (.k (.int 59))) (.cons false (.bin .Sub (.call 41 (.cons false (.v 0) (.cons false (.k (.int 99)) .nil))) (.k (.int 49))) .nil))))))) .nil))) (.one 5) (.r1 (.call 41 (.cons false (.v 0) (.cons false (.k (.int 9)) .nil)))) .nil) [.fz .pen, .none, .none, .none, .none, .none, .none] s = .ok (v.map D.int) [.fz .pen, .none, .none, .none, .none, .none, .none] s' ∧ v.length ≤ 8 ∧ Bs 200 v ∧ Ok (b + 17) s' := by
  obtain ⟨r, s1, e1, r0, r1, ok1⟩ := draw_ok (n := n+1) b 9 s hs (by omega) (by decide) rfl
  let τe : List Slot := [.fz .pen, .none, .none, .none, .none, .none, .none]
  obtain ⟨acc, s2, e2, a, ha1, ha2, ha3, ok2⟩ := evW_inv (P := pd.pt) (call := callN G (n+2)) (mk := mkN G (n+2)) (elt := .call 42 (.cons false (.v 0) (.cons false (.lst (.cons false (.k (.int 0)) (.cons false (.k (.int 1)) (.cons false (.un .USub (.k (.int 1))) (.cons false (.k (.int 5)) (.cons false (.bin .Pow (.k (.int 10)) (.k (.int 59))) (.cons false (.bin .Sub (.call 41 (.cons false (.v 0) (.cons false (.k (.int 99)) .nil))) (.k (.int 49))) .nil))))))) .nil))) (tg := .one 5) (it := .r1 (.call 41 (.cons false (.v 0) (.cons false (.k (.int 9)) .nil)))) (cs := .nil)
    (τ := τe) (τ1 := τe) (τw := τe) (s := s) (s1 := s1) (ds := rangeD 0 r.toNat) (fun i acc s => ∃ a : List Int, acc = a.map D.int ∧ a.length = i ∧ Bs 200 a ∧ Ok (b + 1 + 2 * i) s) (by
      have hl : lim r.natAbs = true := lim_ok (by omega)
      simp only [τe]
      walk_at "sx") (by rw [range_len]; omega) rfl (fun i d acc s hd ⟨a, h1, h2, h3, h4⟩ => by
      obtain ⟨hi, rfl⟩ := range_get hd
      obtain ⟨x, s', e, hx, ok⟩ := nums_step (n := n) (.int i) (b + 1 + 2 * i) s h4 (by omega) .none .none .none .none .none
      exact ⟨.int x, _, s', e, rfl, a ++ [x], by rw [h1, List.map_append]; rfl, by simp [h2], fun y hy => by
        rcases List.mem_append.mp hy with z | z
        · exact h3 y z
        · rw [List.mem_singleton.mp z]; exact hx, ok.mono (by omega)⟩) ⟨[], rfl, rfl, (fun _ h => (nomatch h)), ok1⟩
  rw [range_len] at ha2 ok2
  exact ⟨a, s2, by rw [ha1] at e2; exact e2, by omega, ha3, ok2.mono (by omega)⟩
/-- what is left behind the numbers -/
theorem thr_endA {s : LP} (d2 : D) (v : List Int) (hl : v.length ≤ 8) (hB : Bs 1400 v) :
    ∃ τ', exs pd.pt (callN G (n+5)) (mkN G (n+5)) (tl (tl f51__law_through_right.body)) [.fz .pen, .own (v.map .int), (.fz d2), .none, .none, .none, .none] s = .ok (.ret (.bl true)) τ' s := by
  obtain ⟨C, hC⟩ : ∃ C, C = trim (Crs.tab v) := ⟨_, rfl⟩
  have lC : C.length ≤ v.length := by rw [hC]; exact Nat.le_trans (trim_len _) (by rw [tab_len]; exact Nat.le_refl _)
  have bC : Bs 8000 C := by rw [hC]; exact Bs.trim ((Bs_tab hB (by omega)).mono (by decide))
  have ht1 := through_ok (n := n+1) (s := s) v (by omega) (Li v) (.inl rfl)
  have ht2 := through_ok (n := n+1) (s := s) v (by omega) (Tu v) (.inr rfl)
  have htab := ltab_ok (n := n+3) (s := s) v (by omega)
  rw [← hC] at ht1 ht2 htab
  have hat : pd.pt.attr 0 40 = .fld 0 := rfl
  have sm : pd.pt.smeth 0 42 = some (false, 11) := rfl
  have mE : pd.pt.meth 0 mEq = some 38 := rfl
  let τ3 : List Slot := [.fz .pen, .own (v.map .int), (.fz d2), .fz (Li v), .fz (Co C), .none, .none]
  let τe : List Slot := [.fz .pen, .own (v.map .int ++ [.int 7]), (.fz d2), .fz (Li v), .fz (Co C), .none, .none]
  refine ⟨τe, ?_⟩
  refine (exs_next (τ' := [.fz .pen, .own (v.map .int), (.fz d2), .fz (Li v), .none, .none, .none]) (s' := s) rfl).trans ?_
  refine (exs_next (τ' := τ3) (s' := s) ?_).trans ?_
  · have hno : D.noLL (C.map D.int) = true := by
      generalize C = l
      induction l with
      | nil => rfl
      | cons x r ih => show (true && D.noLL (r.map D.int)) = true; rw [ih]; rfl
    have hno2 : (Co C).noL = true := by show (D.noLL (C.map D.int) && true) = true; rw [hno]; rfl
    have hall : [Slot.fz .pen, .own (v.map .int), (.fz d2), .fz (Li v), .none, .none, .none].all Slot.noI = true := by
      rfl
    have hev : ev pd.pt (callN G (n+5)) (mkN G (n+5)) (.smeth 0 42 (.cons false (.v 1) .nil)) ([Slot.fz .pen, .own (v.map .int), (.fz d2), .fz (Li v), .none, .none, .none].map Slot.frz) s = .ok (Co C) ([Slot.fz .pen, .own (v.map .int), (.fz d2), .fz (Li v), .none, .none, .none].map Slot.frz) s := by
      clear ht2 htab bC hC
      walk_at "sx"
    rw [ex]
    simp only [evX, hev, hno2, hall, Bool.and_true, Bool.or_true, cond_true, Out.bind]
    rfl
  refine (exs_next (τ' := τ3) (s' := s) ?_).trans ?_
  · have kw : arr2 (pd.pt.kwn 11) [] [(PySem.Str.ofString "values")] [Tu v] = some [Tu v] := rfl
    have c1 := cmpOk_tu C
    have q1 : eqP (Tu C) (Tu C) = true := (eqP_tu _ _).trans (beq_rfl_list _)
    have c2 := cmpOk_li v
    have q2 : eqP (Li v) (Li v) = true := (eqP_li _ _).trans (beq_rfl_list _)
    have e1 := eq_ok (n := n+4) (s := s) C C
    rw [beq_rfl_list] at e1
    have : evTs pd.pt (callN G (n+5)) (mkN G (n+5)) (.tor (.cmp .NotEq (.attr (.v 4) 40) (.call 48 (.cons false (.v 3) .nil))) (.tor (.cmp .NotEq (.v 1) (.v 3)) (.cmp .NotEq (.v 4) (.smethK 0 42 .nil [(PySem.Str.ofString "values")] (.cons false (.bi .tuple (.cons false (.v 3) .nil)) .nil))))) τ3 s = .ok false τ3 s := by
      clear ht1 bC hC
      simp only [τ3]
      walk_at "sx"
    exact ex_ite (τ' := []) this
  refine (exs_next (τ' := τe) (s' := s) ?_).trans ?_
  · have hl' : lim ((v.map D.int).length + 1) = true := lim_ok (by simp; omega)
    clear ht1 ht2 htab bC hC
    simp only [τ3]
    walk_at "sx"
    rfl
  refine exs_ret ?_
  have hW := evW_map (P := pd.pt) (call := callN G (n+5)) (mk := mkN G (n+5)) (elt := .callO (.v 4) (.cons false (.v 6) .nil)) (tg := .one 6) (it := .r1 (.bi .len (.cons false (.v 3) .nil))) (cs := .nil) (τ := τe) (τ1 := τe) (τw := τe) (s := s) (s1 := s) (ds := rangeD 0 v.length) (fun d => some (match d with | .int x => .int (co v x.toNat) | _ => .non)) (by
      have hl' : lim ((v.length : Nat) : Int).natAbs = true := lim_ok (by omega)
      clear ht1 ht2 htab bC hC
      simp only [τe, Li]
      walk_at "sx"
      simp only [List.length_map, hl', cond_true, Int.toNat_natCast]) (by rw [range_len]; omega) rfl (fun d hd => by
      obtain ⟨i, hi⟩ := List.mem_iff_getElem?.mp hd
      obtain ⟨hi', rfl⟩ := range_get hi
      have h := call_ok (n := n+1) (s := s) C (i : Int) (by omega) bC (nat_cnt (by omega)).1 (nat_cnt (by omega)).2
      rw [show val C (i : Int) = co v i from by rw [hC]; exact val_tab v i hi'] at h
      have mC : pd.pt.meth 0 mCall = some 29 := rfl
      refine ⟨[.fz .pen, .own (v.map .int ++ [.int 7]), (.fz d2), .fz (Li v), .fz (Co C), .none, .fz (.int i)], ?_, rfl⟩
      simp only [lcB, τe, Int.toNat_natCast]
      clear hd hi ht1 ht2 htab bC hC
      walk_at "sx")
  have hM : (rangeD 0 v.length).filterMap (fun d => some (match d with | .int x => D.int (co v x.toNat) | _ => .non)) = v.map D.int := by
    unfold rangeD
    rw [fm_some (fun d => match d with | .int x => D.int (co v x.toNat) | _ => .non)]
    apply List.ext_getElem?
    intro i
    rw [List.getElem?_map, List.getElem?_map]
    rcases Nat.lt_or_ge i v.length with h | h
    · rw [List.getElem?_range h, co_lt h]; simp
    · rw [List.getElem?_eq_none (by simpa using h), List.getElem?_eq_none h]; rfl
  rw [hM] at hW
  have e0 : backT τe τe (Tg.one 6).slots = τe := rfl
  rw [e0] at hW
  have nlE : ev pd.pt (callN G (n+5)) (mkN G (n+5)) (.nl (.lc (.callO (.v 4) (.cons false (.v 6) .nil)) (.one 6) (.r1 (.bi .len (.cons false (.v 3) .nil))) .nil)) τe s = .ok (Li v) τe s := by
    rw [ev, hW]; rfl
  have v3 : ev pd.pt (callN G (n+5)) (mkN G (n+5)) (.v 3) τe s = .ok (Li v) τe s := rfl
  have c2 := cmpOk_li v
  have q2 : eqP (Li v) (Li v) = true := (eqP_li _ _).trans (beq_rfl_list _)
  have ce : ev pd.pt (callN G (n+5)) (mkN G (n+5)) (.cmp .Eq (.nl (.lc (.callO (.v 4) (.cons false (.v 6) .nil)) (.one 6) (.r1 (.bi .len (.cons false (.v 3) .nil))) .nil)) (.v 3)) τe s = .ok (.bl true) τe s := by
    rw [ev, nlE]
    simp only [Out.bind, v3, cmpV, eqV', c2, q2, Bool.and_true, cond_true]
  have dg := degree_ok (n := n+4) (s := s) C
  have lt : ev pd.pt (callN G (n+5)) (mkN G (n+5)) (.cmp .Lt (.attr (.v 4) 51) (.bi .max (.cons false (.k (.int 1)) (.cons false (.bi .len (.cons false (.v 3) .nil)) .nil)))) τe s = .ok (.bl true) τe s := by
    have mp : pd.pt.attr 0 51 = .prop 13 := rfl
    have hc : cmpI .Lt ((C.length : Int) - 1) (if ((v.length : Nat) : Int) > 1 then ((v.length : Nat) : Int) else 1) = some true := by
      rw [ci_lt, decide_eq_true (by split <;> omega)]
    clear ht1 ht2 htab bC hC hW nlE ce hat
    simp only [τe, Li]
    walk_at "sx"
    simp only [List.length_map, hc, Option.map_some]
  rw [ex, ev]
  simp only [ce, lt, Out.bind, truV, cond_true]
theorem thr_endB {s : LP} (v : List Int) (hl : v.length ≤ 8) (hB : Bs 1400 v) :
    ∃ τ', exs pd.pt (callN G (n+5)) (mkN G (n+5)) (tl (tl f51__law_through_right.body)) [.fz .pen, .own (v.map .int), .none, .none, .none, .none, .none] s = .ok (.ret (.bl true)) τ' s := by
  obtain ⟨C, hC⟩ : ∃ C, C = trim (Crs.tab v) := ⟨_, rfl⟩
  have lC : C.length ≤ v.length := by rw [hC]; exact Nat.le_trans (trim_len _) (by rw [tab_len]; exact Nat.le_refl _)
  have bC : Bs 8000 C := by rw [hC]; exact Bs.trim ((Bs_tab hB (by omega)).mono (by decide))
  have ht1 := through_ok (n := n+1) (s := s) v (by omega) (Li v) (.inl rfl)
  have ht2 := through_ok (n := n+1) (s := s) v (by omega) (Tu v) (.inr rfl)
  have htab := ltab_ok (n := n+3) (s := s) v (by omega)
  rw [← hC] at ht1 ht2 htab
  have hat : pd.pt.attr 0 40 = .fld 0 := rfl
  have sm : pd.pt.smeth 0 42 = some (false, 11) := rfl
  have mE : pd.pt.meth 0 mEq = some 38 := rfl
  let τ3 : List Slot := [.fz .pen, .own (v.map .int), .none, .fz (Li v), .fz (Co C), .none, .none]
  let τe : List Slot := [.fz .pen, .own (v.map .int ++ [.int 7]), .none, .fz (Li v), .fz (Co C), .none, .none]
  refine ⟨τe, ?_⟩
  refine (exs_next (τ' := [.fz .pen, .own (v.map .int), .none, .fz (Li v), .none, .none, .none]) (s' := s) rfl).trans ?_
  refine (exs_next (τ' := τ3) (s' := s) ?_).trans ?_
  · have hno : D.noLL (C.map D.int) = true := by
      generalize C = l
      induction l with
      | nil => rfl
      | cons x r ih => show (true && D.noLL (r.map D.int)) = true; rw [ih]; rfl
    have hno2 : (Co C).noL = true := by show (D.noLL (C.map D.int) && true) = true; rw [hno]; rfl
    have hall : [Slot.fz .pen, .own (v.map .int), .none, .fz (Li v), .none, .none, .none].all Slot.noI = true := by
      rfl
    have hev : ev pd.pt (callN G (n+5)) (mkN G (n+5)) (.smeth 0 42 (.cons false (.v 1) .nil)) ([Slot.fz .pen, .own (v.map .int), .none, .fz (Li v), .none, .none, .none].map Slot.frz) s = .ok (Co C) ([Slot.fz .pen, .own (v.map .int), .none, .fz (Li v), .none, .none, .none].map Slot.frz) s := by
      clear ht2 htab bC hC
      walk_at "sx"
    rw [ex]
    simp only [evX, hev, hno2, hall, Bool.and_true, Bool.or_true, cond_true, Out.bind]
    rfl
  refine (exs_next (τ' := τ3) (s' := s) ?_).trans ?_
  · have kw : arr2 (pd.pt.kwn 11) [] [(PySem.Str.ofString "values")] [Tu v] = some [Tu v] := rfl
    have c1 := cmpOk_tu C
    have q1 : eqP (Tu C) (Tu C) = true := (eqP_tu _ _).trans (beq_rfl_list _)
    have c2 := cmpOk_li v
    have q2 : eqP (Li v) (Li v) = true := (eqP_li _ _).trans (beq_rfl_list _)
    have e1 := eq_ok (n := n+4) (s := s) C C
    rw [beq_rfl_list] at e1
    have : evTs pd.pt (callN G (n+5)) (mkN G (n+5)) (.tor (.cmp .NotEq (.attr (.v 4) 40) (.call 48 (.cons false (.v 3) .nil))) (.tor (.cmp .NotEq (.v 1) (.v 3)) (.cmp .NotEq (.v 4) (.smethK 0 42 .nil [(PySem.Str.ofString "values")] (.cons false (.bi .tuple (.cons false (.v 3) .nil)) .nil))))) τ3 s = .ok false τ3 s := by
      clear ht1 bC hC
      simp only [τ3]
      walk_at "sx"
    exact ex_ite (τ' := []) this
  refine (exs_next (τ' := τe) (s' := s) ?_).trans ?_
  · have hl' : lim ((v.map D.int).length + 1) = true := lim_ok (by simp; omega)
    clear ht1 ht2 htab bC hC
    simp only [τ3]
    walk_at "sx"
    rfl
  refine exs_ret ?_
  have hW := evW_map (P := pd.pt) (call := callN G (n+5)) (mk := mkN G (n+5)) (elt := .callO (.v 4) (.cons false (.v 6) .nil)) (tg := .one 6) (it := .r1 (.bi .len (.cons false (.v 3) .nil))) (cs := .nil) (τ := τe) (τ1 := τe) (τw := τe) (s := s) (s1 := s) (ds := rangeD 0 v.length) (fun d => some (match d with | .int x => .int (co v x.toNat) | _ => .non)) (by
      have hl' : lim ((v.length : Nat) : Int).natAbs = true := lim_ok (by omega)
      clear ht1 ht2 htab bC hC
      simp only [τe, Li]
      walk_at "sx"
      simp only [List.length_map, hl', cond_true, Int.toNat_natCast]) (by rw [range_len]; omega) rfl (fun d hd => by
      obtain ⟨i, hi⟩ := List.mem_iff_getElem?.mp hd
      obtain ⟨hi', rfl⟩ := range_get hi
      have h := call_ok (n := n+1) (s := s) C (i : Int) (by omega) bC (nat_cnt (by omega)).1 (nat_cnt (by omega)).2
      rw [show val C (i : Int) = co v i from by rw [hC]; exact val_tab v i hi'] at h
      have mC : pd.pt.meth 0 mCall = some 29 := rfl
      refine ⟨[.fz .pen, .own (v.map .int ++ [.int 7]), .none, .fz (Li v), .fz (Co C), .none, .fz (.int i)], ?_, rfl⟩
      simp only [lcB, τe, Int.toNat_natCast]
      clear hd hi ht1 ht2 htab bC hC
      walk_at "sx")
  have hM : (rangeD 0 v.length).filterMap (fun d => some (match d with | .int x => D.int (co v x.toNat) | _ => .non)) = v.map D.int := by
    unfold rangeD
    rw [fm_some (fun d => match d with | .int x => D.int (co v x.toNat) | _ => .non)]
    apply List.ext_getElem?
    intro i
    rw [List.getElem?_map, List.getElem?_map]
    rcases Nat.lt_or_ge i v.length with h | h
    · rw [List.getElem?_range h, co_lt h]; simp
    · rw [List.getElem?_eq_none (by simpa using h), List.getElem?_eq_none h]; rfl
  rw [hM] at hW
  have e0 : backT τe τe (Tg.one 6).slots = τe := rfl
  rw [e0] at hW
  have nlE : ev pd.pt (callN G (n+5)) (mkN G (n+5)) (.nl (.lc (.callO (.v 4) (.cons false (.v 6) .nil)) (.one 6) (.r1 (.bi .len (.cons false (.v 3) .nil))) .nil)) τe s = .ok (Li v) τe s := by
    rw [ev, hW]; rfl
  have v3 : ev pd.pt (callN G (n+5)) (mkN G (n+5)) (.v 3) τe s = .ok (Li v) τe s := rfl
  have c2 := cmpOk_li v
  have q2 : eqP (Li v) (Li v) = true := (eqP_li _ _).trans (beq_rfl_list _)
  have ce : ev pd.pt (callN G (n+5)) (mkN G (n+5)) (.cmp .Eq (.nl (.lc (.callO (.v 4) (.cons false (.v 6) .nil)) (.one 6) (.r1 (.bi .len (.cons false (.v 3) .nil))) .nil)) (.v 3)) τe s = .ok (.bl true) τe s := by
    rw [ev, nlE]
    simp only [Out.bind, v3, cmpV, eqV', c2, q2, Bool.and_true, cond_true]
  have dg := degree_ok (n := n+4) (s := s) C
  have lt : ev pd.pt (callN G (n+5)) (mkN G (n+5)) (.cmp .Lt (.attr (.v 4) 51) (.bi .max (.cons false (.k (.int 1)) (.cons false (.bi .len (.cons false (.v 3) .nil)) .nil)))) τe s = .ok (.bl true) τe s := by
    have mp : pd.pt.attr 0 51 = .prop 13 := rfl
    have hc : cmpI .Lt ((C.length : Int) - 1) (if ((v.length : Nat) : Int) > 1 then ((v.length : Nat) : Int) else 1) = some true := by
      rw [ci_lt, decide_eq_true (by split <;> omega)]
    clear ht1 ht2 htab bC hC hW nlE ce hat
    simp only [τe, Li]
    walk_at "sx"
    simp only [List.length_map, hc, Option.map_some]
  rw [ex, ev]
  simp only [ce, lt, Out.bind, truV, cond_true]
end
end K11
end

section
set_option Elab.async false
set_option linter.all false
set_option maxRecDepth 100000
set_option maxHeartbeats 1000000
namespace K11
open PySem L2 Rz Crs
local macro_rules | `(tactic| walk_at "sx") => `(tactic| simp only [runF, runI, bindF, start', exs, ex, ev, evA, evO, evC, evI, evX, evTs, evV, Out.bind, Out.of, Out.nx, CRes.out, binV, unV, truV, cmpV, eqV', attrV, ixV, bxV, augV, callM, binD, notD, slD, biD, starOf, itemsV, bindT, bindN, Tg.slots, D.scalar, sameOrBt, declOk, D.tn, Slot.frz, madeI,
  List.map_cons, List.map_nil, List.length_cons, List.length_nil, List.append_nil, List.nil_append, List.cons_append, List.getElem?_cons_zero, List.getElem?_cons_succ, List.set_cons_zero, List.set_cons_succ, List.replicate_zero, List.replicate_succ, List.drop_nil, List.drop_succ_cons, List.drop_zero, List.take_succ_cons, List.take_zero, cond_true, cond_false, decide_true, decide_false, Bool.and_true, Bool.true_and, Bool.and_false, Bool.false_and, Nat.le_refl, Option.map_some, Option.map_none, Bool.not_true, Bool.not_false, Nat.reduceSub, Nat.reduceAdd, Nat.reduceLeDiff, Nat.zero_add, Nat.add_zero, Nat.sub_zero, beq_self_eq_true, Nat.reduceBEq, *])
section
variable {n : Nat}
theorem ex_own {P : Pt} {call mk : Nat → List D → LP → CRes LP} {i : Nat} {w : CW} {τ τ' : List Slot} {s s' : LP} {ds : List D} (h : evW P call mk w τ s = .ok ds τ' s') : ex P call mk (.own i w) τ s = .ok .next (τ'.set i (.own ds)) s' := by
  simp only [ex, h, Out.bind]
theorem vals3_ok {s : LP} (v a : List Int) (hv : v.length ≤ 8) (ha : a.length ≤ 3) (hA : Bs 200 a) :
    ex pd.pt (callN G (n+5)) (mkN G (n+5)) (.own 1 (.lc (.call 45 (.cons false (.sl (.v 2) .no (.yes (.k (.int 3)))) (.cons false (.v 6) .nil))) (.one 6) (.r1 (.bi .len (.cons false (.v 1) .nil))) .nil)) [.fz .pen, .own (v.map .int), .fz (Li a), .none, .none, .none, .none] s
      = .ok .next [.fz .pen, .own (((List.range v.length).map fun i => Crs.S a i 0).map .int), .fz (Li a), .none, .none, .none, .none] s := by
  let τe : List Slot := [.fz .pen, .fz (Li v), .fz (Li a), .none, .none, .none, .none]
  have hcut : cutD (a.map D.int) none (some 3) = a.map D.int := by
    unfold cutD
    have e1 : HT.sIx (a.map D.int).length 0 none = 0 := rfl
    have e2 : HT.sIx (a.map D.int).length (a.map D.int).length (some 3) = a.length := by
      have := HT.sIx_nat (a.map D.int).length (a.map D.int).length 3
      rw [List.length_map] at this ⊢
      have e : HT.sIx a.length a.length (some 3) = min 3 a.length := this
      rw [e]; omega
    rw [e1, e2, List.drop_zero, Nat.sub_zero]; exact List.take_of_length_le (by simp)
  have hW := evW_map (P := pd.pt) (call := callN G (n+5)) (mk := mkN G (n+5)) (elt := .call 45 (.cons false (.sl (.v 2) .no (.yes (.k (.int 3)))) (.cons false (.v 6) .nil))) (tg := .one 6) (it := .r1 (.bi .len (.cons false (.v 1) .nil))) (cs := .nil) (τ := [.fz .pen, .own (v.map .int), .fz (Li a), .none, .none, .none, .none]) (τ1 := τe) (τw := τe) (s := s) (s1 := s) (ds := rangeD 0 v.length) (fun d => some (match d with | .int x => .int (Crs.S a x.toNat 0) | _ => .non)) (by
      have hl : lim ((v.length : Nat) : Int).natAbs = true := lim_ok (by omega)
      simp only [τe, Li]
      walk_at "sx"
      simp only [List.length_map, hl, cond_true, Int.toNat_natCast]) (by rw [range_len]; omega) rfl (fun d hd => by
      obtain ⟨i, hi⟩ := List.mem_iff_getElem?.mp hd
      obtain ⟨hi', rfl⟩ := range_get hi
      have hv' := lvalue_ok (n := n+4) (s := s) a (i : Int) (by omega) (fun x hx => (hA x hx).mono (by decide)) (nat_tk (by omega))
      rw [val_S] at hv'
      simp only [Li] at hv'
      refine ⟨[.fz .pen, .fz (Li v), .fz (Li a), .none, .none, .none, .fz (.int i)], ?_, rfl⟩
      simp only [lcB, τe, Int.toNat_natCast, Li]
      clear hd hi
      walk_at "sx")
  have hM : (rangeD 0 v.length).filterMap (fun d => some (match d with | .int x => D.int (Crs.S a x.toNat 0) | _ => .non)) = ((List.range v.length).map fun i => Crs.S a i 0).map D.int := by
    unfold rangeD
    rw [fm_some (fun d => match d with | .int x => D.int (Crs.S a x.toNat 0) | _ => .non), List.map_map]
    refine List.map_congr_left fun i _ => ?_
    simp
  rw [hM] at hW
  rw [ex]
  simp only [hW, Out.bind]
  rfl
theorem thr_ok (b0 : Nat) (s : LP) (hs : Ok b0 s) (hb0 : b0 ≤ 30000) : ∃ s', callN G (n+6) 51 [.pen] s = .ok (.bl true) s' ∧ Ok (b0 + 25) s' := by
  obtain ⟨v, s1, e1, hv, hB, ok1⟩ := nums_ok (n := n+3) b0 s hs (by omega)
  obtain ⟨r, s2, e2, r0, r1, ok2⟩ := draw_ok (n := n+4) (b0 + 17) 3 s1 ok1 (by omega) (by decide) rfl
  have st1 := ex_own (i := 1) e1
  have tst : evTs pd.pt (callN G (n+5)) (mkN G (n+5)) (.cmp .Eq (.call 41 (.cons false (.v 0) (.cons false (.k (.int 3)) .nil))) (.k (.int 0))) [.fz .pen, .own (v.map .int), .none, .none, .none, .none, .none] s1 = .ok (r == 0) [.fz .pen, .own (v.map .int), .none, .none, .none, .none, .none] s2 := by
    have h1 : (D.int r).cmpOk = true := rfl
    have h2 : (D.int 0).cmpOk = true := rfl
    have h3 : eqP (.int r) (.int 0) = (r == 0) := rfl
    clear e1 st1
    walk_at "sx"
  cases hr : r == 0 with
  | false =>
    rw [hr] at tst
    obtain ⟨τ', hend⟩ := thr_endB (n := n) (s := s2) v hv (hB.mono (by decide))
    refine ⟨s2, ?_, ok2.mono (by omega)⟩
    show runF pd.pt (callN G (n+5)) (mkN G (n+5)) f51__law_through_right [.pen] s = _
    refine runF_ret (τ' := τ') rfl ?_
    refine (exs_next (τ' := [.fz .pen, .own (v.map .int), .none, .none, .none, .none, .none]) st1).trans ?_
    refine (exs_next (τ' := [.fz .pen, .own (v.map .int), .none, .none, .none, .none, .none]) (s' := s2) (ex_ite (τ' := []) tst)).trans ?_
    exact hend
  | true =>
    rw [hr] at tst
    obtain ⟨a, s3, e3, la, hA, ok3⟩ := row3_ok (n := n+2) (b0 + 17 + 1) s2 ok2 (by omega)
    obtain ⟨τ', hend⟩ := thr_endA (n := n) (s := s3) (Li a) ((List.range v.length).map fun i => Crs.S a i 0) (by simp; omega) ((Bs_map (m := 1345) fun i hi => S_bn hA (nat_tk (by have := List.mem_range.mp hi; omega)) (by omega) 0).mono (by decide))
    refine ⟨s3, ?_, ok3.mono (by omega)⟩
    show runF pd.pt (callN G (n+5)) (mkN G (n+5)) f51__law_through_right [.pen] s = _
    refine runF_ret (τ' := τ') rfl ?_
    refine (exs_next (τ' := [.fz .pen, .own (v.map .int), .none, .none, .none, .none, .none]) st1).trans ?_
    refine (exs_next (τ' := [.fz .pen, .own (((List.range v.length).map fun i => Crs.S a i 0).map .int), .fz (Li a), .none, .none, .none, .none]) (s' := s3) ?_).trans ?_
    · refine (ex_ite (τ' := []) tst).trans ?_
      rw [cond_true]
      refine (exs_next (τ' := [.fz .pen, .own (v.map .int), .fz (Li a), .none, .none, .none, .none]) (s' := s3) ?_).trans ?_
      · clear e1 st1 tst hend hr
        walk_at "sx"
      exact (exs_next (vals3_ok (n := n) (s := s3) v a hv la hA)).trans rfl
    exact hend
def lst0 (x2 x3 x4 : Slot) : List Slot := [.none, .fz .pen, x2, x3, x4]
def turnB : CSs := match lawRest with
  | .cons (.for _ _ b) _ => b
  | _ => .nil
theorem turn_ok (b : Nat) (s : LP) (hs : Ok b s) (hb : b ≤ 20000) (x2 x3 x4 : Slot) : ∃ y3 y4 s', exs pd.pt (callN G (n+6)) (mkN G (n+6)) turnB (lst0 x2 x3 x4) s = .ok .next (lst0 x2 y3 y4) s' ∧ Ok (b + 60) s' := by
  obtain ⟨a, s1, e1, la, hA, ok1⟩ := row_ok (n := n+3) b s hs (by omega)
  have hc := lcourse_ok (n := n+2) (s := s1) a (by omega)
  have hf := fall_right_ok (n := n) (s := s1) a la hA
  obtain ⟨s2, e2, ok2⟩ := moved_ok (n := n) (b + 13) s1 ok1 (by omega) a la hA
  obtain ⟨s3, e3, ok3⟩ := thr_ok (n := n) (b + 13 + 4) s2 ok2 (by omega)
  have hbare := bare_ok (n := n+5) (s := s3) a (by omega)
  have hat : pd.pt.attr 0 40 = .fld 0 := rfl
  refine ⟨.fz (Li a), .fz (Co (trim a)), s3, ?_, ok3.mono (by omega)⟩
  refine (exs_next (τ' := lst0 x2 (.fz (Li a)) x4) (s' := s1) ?_).trans ?_
  · clear e2 e3 hc hf hbare
    simp only [lst0]
    walk_at "sx"
  refine (exs_next (τ' := lst0 x2 (.fz (Li a)) (.fz (Co (trim a)))) (s' := s1) ?_).trans ?_
  · clear e1 e2 e3 hf hbare
    simp only [lst0]
    walk_at "sx"
  refine (exs_next (τ' := lst0 x2 (.fz (Li a)) (.fz (Co (trim a)))) (s' := s3) ?_).trans ?_
  · have ht : evTs pd.pt (callN G (n+6)) (mkN G (n+6)) (.tor (.not (.call 49 (.cons false (.v 4) (.cons false (.v 3) .nil)))) (.tor (.not (.call 50 (.cons false (.v 1) (.cons false (.v 4) (.cons false (.v 3) .nil))))) (.not (.call 51 (.cons false (.v 1) .nil))))) (lst0 x2 (.fz (Li a)) (.fz (Co (trim a)))) s1 = .ok false (lst0 x2 (.fz (Li a)) (.fz (Co (trim a)))) s3 := by
      have cE : ev pd.pt (callN G (n+6)) (mkN G (n+6)) (.tor (.not (.call 49 (.cons false (.v 4) (.cons false (.v 3) .nil)))) (.tor (.not (.call 50 (.cons false (.v 1) (.cons false (.v 4) (.cons false (.v 3) .nil))))) (.not (.call 51 (.cons false (.v 1) .nil))))) ((lst0 x2 (.fz (Li a)) (.fz (Co (trim a)))).map Slot.frz) s1 = .ok (.bl false) ((lst0 x2 (.fz (Li a)) (.fz (Co (trim a)))).map Slot.frz) s3 := by
        clear e1 hc hbare
        simp only [lst0]
        walk_at "sx"
      simp only [evTs, cE, Out.bind, truV]
    exact ex_ite (τ' := []) ht
  refine (exs_next (τ' := lst0 x2 (.fz (Li a)) (.fz (Co (trim a)))) (s' := s3) ?_).trans rfl
  have c1 := cmpOk_tu (trim a)
  have q1 : eqP (Tu (trim a)) (Tu (trim a)) = true := (eqP_tu _ _).trans (beq_rfl_list _)
  have ht : evTs pd.pt (callN G (n+6)) (mkN G (n+6)) (.cmp .NotEq (.attr (.v 4) 40) (.call 44 (.cons false (.v 3) .nil))) (lst0 x2 (.fz (Li a)) (.fz (Co (trim a)))) s3 = .ok false (lst0 x2 (.fz (Li a)) (.fz (Co (trim a)))) s3 := by
    have cE : ev pd.pt (callN G (n+6)) (mkN G (n+6)) (.cmp .NotEq (.attr (.v 4) 40) (.call 44 (.cons false (.v 3) .nil))) ((lst0 x2 (.fz (Li a)) (.fz (Co (trim a)))).map Slot.frz) s3 = .ok (.bl false) ((lst0 x2 (.fz (Li a)) (.fz (Co (trim a)))).map Slot.frz) s3 := by
      clear e1 e2 e3 hc hf
      simp only [lst0]
      walk_at "sx"
    simp only [evTs, cE, Out.bind, truV]
  exact ex_ite (τ' := []) ht
end
end K11
end

section
set_option Elab.async false
set_option linter.all false
set_option maxRecDepth 100000
set_option maxHeartbeats 1000000
namespace K11
open PySem L2 Rz Crs
local macro_rules | `(tactic| walk_at "sx") => `(tactic| simp only [runF, runI, bindF, start', exs, ex, ev, evA, evO, evC, evI, evX, evTs, evV, Out.bind, Out.of, Out.nx, CRes.out, binV, unV, truV, cmpV, eqV', attrV, ixV, bxV, augV, callM, binD, notD, slD, biD, starOf, itemsV, bindT, bindN, Tg.slots, D.scalar, sameOrBt, declOk, D.tn, Slot.frz, madeI,
  List.map_cons, List.map_nil, List.length_cons, List.length_nil, List.append_nil, List.nil_append, List.cons_append, List.getElem?_cons_zero, List.getElem?_cons_succ, List.set_cons_zero, List.set_cons_succ, List.replicate_zero, List.replicate_succ, List.drop_nil, List.drop_succ_cons, List.drop_zero, List.take_succ_cons, List.take_zero, cond_true, cond_false, decide_true, decide_false, Bool.and_true, Bool.true_and, Bool.and_false, Bool.false_and, Nat.le_refl, Option.map_some, Option.map_none, Bool.not_true, Bool.not_false, Nat.reduceSub, Nat.reduceAdd, Nat.reduceLeDiff, Nat.zero_add, Nat.add_zero, Nat.sub_zero, beq_self_eq_true, Nat.reduceBEq, *])
section
theorem Dl_id2 (k i : Nat) : Dl (k + 2) (fun j => (j : Int)) i = 0 := by
  rw [Dl_shift, Dl_shift]
  have e : (fun j : Nat => ((((j + 1 : Nat) + 1 : Nat) : Int) - ((j + 1 : Nat) : Int)) - (((j + 1 : Nat) : Int) - (j : Int))) = fun _ => 0 := by
    funext j; omega
  exact (congrArg (fun f => Dl k f i) e).trans (Dl_zero k i)
def V12 : List Int := (List.range 1200).map fun (i : Nat) => (i : Int)
theorem v12_len : V12.length = 1200 := by unfold V12; rw [List.length_map, List.length_range]
theorem v12_tab : trim (Crs.tab V12) = [0, 1] := by
  have e : trim (Crs.tab V12) = trim [0, 1] := trim_tab (fun k hk => by
    rw [v12_len] at hk
    unfold V12
    rw [tab_seq _ _ k hk]
    match k with
    | 0 => rfl
    | 1 => rfl
    | k + 2 => rw [Dl_id2]; rfl) (fun k hk => by rw [v12_len] at hk; exact co_ge (by show 2 ≤ k; omega))
  rw [e]; rfl
theorem v12_rg : rangeD 0 1200 = V12.map D.int := by
  unfold rangeD V12
  rw [List.map_map]
  exact List.map_congr_left fun i _ => by show D.int (0 + (i : Int)) = D.int (i : Int); rw [Int.zero_add]
section
variable {P : Pt} {call mk : Nat → List D → LP → CRes LP} {τ τ1 τ2 : List Slot} {s s1 s2 : LP}
theorem evTs_of {e : CE} {x : D} {b : Bool} (h : ev P call mk e (τ.map Slot.frz) s = .ok x τ1 s1) (ht : truV P call x τ1 s1 = .ok b τ2 s2) : evTs P call mk e τ s = .ok b τ s2 := by
  unfold evTs
  rw [h]
  simp only [Out.bind, ht]
theorem ev_attr_of {o : CE} {m : Nat} {x : D} {r : Out LP D} (h : ev P call mk o τ s = .ok x τ1 s1) (ha : attrV P call m x τ1 s1 = r) : ev P call mk (.attr o m) τ s = r := by
  simp only [ev, h, Out.bind, ha]
theorem ev_smeth1 {c m f : Nat} {a : CE} {d x : D} (hm : P.smeth c m = some (false, f)) (h : ev P call mk a τ s = .ok d τ1 s1) (hc : call f [d] s1 = .ok x s2) : ev P call mk (.smeth c m (.cons false a .nil)) τ s = .ok x τ1 s2 := by
  simp only [ev, evA, h, hm, Out.bind, cond_false, hc, CRes.out]
theorem ev_nl_of {w : CW} {ds : List D} (h : evW P call mk w τ s = .ok ds τ1 s1) : ev P call mk (.nl w) τ s = .ok (.lst ds) τ1 s1 := by
  simp only [ev, h, Out.bind]
theorem ev_cmp_of {o : CmpOp} {a b : CE} {x y : D} {r : Out LP D} (h : ev P call mk a τ s = .ok x τ1 s1) (k : ev P call mk b τ1 s1 = .ok y τ2 s2) (hc : cmpV P call o x y τ2 s2 = r) : ev P call mk (.cmp o a b) τ s = r := by
  simp only [ev, h, k, Out.bind, hc]
end
def tlRest : CSs := match lawRest with
  | .cons _ r => r
  | _ => .nil
theorem law_end {n : Nat} (V : List Int) (hV : V.length = 1200) (hT : trim (Crs.tab V) = [0, 1]) (hR : rangeD 0 1200 = V.map D.int) (s1 : LP) (y2 y3 y4 : Slot) : ∃ τ', exs pd.pt (callN G (n+4)) (mkN G (n+4)) tlRest (lst0 y2 y3 y4) s1 = .ok (.ret (.bl true)) τ' s1 := by
  have hat : pd.pt.attr 0 40 = .fld 0 := rfl
  have sm : pd.pt.smeth 0 42 = some (false, 11) := rfl
  have mE : pd.pt.meth 0 mEq = some 38 := rfl
  have h2 := through_ok (n := n) (s := s1) V (by rw [hV]; decide) (Li V) (.inl rfl)
  rw [hT] at h2
  have hlr : ∀ τ : List Slot, evW pd.pt (callN G (n+4)) (mkN G (n+4)) (.lr (.k (.int 1200))) τ s1 = .ok (V.map D.int) τ s1 := fun τ => by
    rw [← hR]
    have hl : lim (1200 : Int).natAbs = true := lim_ok (by decide)
    have hn : (1200 : Int).toNat = 1200 := rfl
    simp only [evW, ev, Out.bind, hl, cond_true, hn]
  have c1 := cmpOk_tu [0, 1]
  have q1 : eqP (Tu [0, 1]) (Tu [0, 1]) = true := (eqP_tu _ _).trans (beq_rfl_list _)
  have ht : evTs pd.pt (callN G (n+4)) (mkN G (n+4)) (.cmp .NotEq (.attr (.smeth 0 42 (.cons false (.nl (.lr (.k (.int 1200)))) .nil)) 40) (.tup (.cons false (.k (.int 0)) (.cons false (.k (.int 1)) .nil)))) (lst0 y2 y3 y4) s1 = .ok false (lst0 y2 y3 y4) s1 := by
    have h2' : callN G (n+4) 11 [D.lst (V.map D.int)] s1 = .ok (Co [0, 1]) s1 := h2
    have sE := fun τ : List Slot => ev_attr_of (m := 40) (r := .ok (Tu [0, 1]) τ s1) (ev_smeth1 (c := 0) sm (ev_nl_of (hlr τ)) h2') rfl
    have cN : ∀ τ : List Slot, cmpV pd.pt (callN G (n+4)) .NotEq (Tu [0, 1]) (Tu [0, 1]) τ s1 = .ok (.bl false) τ s1 := fun τ => rfl
    exact evTs_of (ev_cmp_of (sE _) rfl (cN _)) rfl
  clear hlr h2 c1 q1 hR hT hV
  have t0 := through_ok (n := n) (s := s1) [] (by decide) (Li []) (.inl rfl)
  have t4 := through_ok (n := n) (s := s1) [0, 1, 4, 9] (by decide) (Li [0, 1, 4, 9]) (.inl rfl)
  have m0 := course_mk (n := n + 1) (s := s1) [] (by decide)
  have z0 : trim (Crs.tab []) = [] := rfl
  have z1 : trim [] = [] := rfl
  have z4 : trim (Crs.tab [0, 1, 4, 9]) = [0, 1, 2] := rfl
  rw [z0] at t0
  rw [z4] at t4
  rw [z1] at m0
  have e0 := eq_ok (n := n + 3) (s := s1) [] []
  have q0 : (([] : List Int) == []) = true := rfl
  rw [q0] at e0
  have c1 := cmpOk_tu [0, 1, 2]
  have q1 : eqP (Tu [0, 1, 2]) (Tu [0, 1, 2]) = true := (eqP_tu _ _).trans (beq_rfl_list _)
  have l0 : lim 0 = true := rfl
  have l3 : lim 3 = true := rfl
  have l4 : lim 4 = true := rfl
  refine ⟨lst0 y2 y3 y4, (exs_next (τ' := lst0 y2 y3 y4) (s' := s1) (ex_ite (τ' := []) ht)).trans (exs_ret ?_)⟩
  simp only [List.map_cons, List.map_nil, Li, Co, Tu, Nat.reduceAdd] at t0 t4 m0 e0 c1 q1
  clear ht
  walk_at "sx"
theorem runs : LawRuns pd 30 lawN.length lawRest := by
  intro cells hc
  obtain ⟨τ1, s1, e1, ⟨y2, y3, y4, h1⟩, ok1⟩ := forL_inv (S := LP) (b := fun d τ s => match bindT (.one 2) d τ with
      | some τ => exs pd.pt (callN G 30) (mkN G 30) turnB τ s
      | none => .no) (fun i τ s => (∃ y2 y3 y4, τ = lst0 y2 y3 y4) ∧ Ok (i * 60) s) (rangeD 0 7) 0 (lawτ 5) ⟨cells, 0, 0⟩ (fun i d τ s hd ⟨⟨y2, y3, y4, hτ⟩, ok⟩ => by
        obtain ⟨hi, rfl⟩ := range_get hd
        subst hτ
        obtain ⟨z3, z4, s', e, ok'⟩ := turn_ok (n := 24) ((0 + i) * 60) s ok (by omega) (.fz (.int i)) y3 y4
        exact ⟨_, s', e, ⟨_, _, _, rfl⟩, ok'.mono (by omega)⟩) ⟨⟨.none, .none, .none, rfl⟩, ⟨(by show (0 : Int) ≤ 0; decide), (by show (0 : Int) ≤ ((0 * 60 : Nat) : Int); decide)⟩⟩
  have hfor : ex pd.pt (callN G 30) (mkN G 30) _ (lawτ 5) ⟨cells, 0, 0⟩ = .ok .next τ1 s1 := (ex_for (tg := .one 2) (it := .r1 (.k (.int 7))) (ds := rangeD 0 7) (τ1 := lawτ 5) (s1 := (⟨cells, 0, 0⟩ : LP)) rfl).trans e1
  subst h1
  obtain ⟨τ2, e2⟩ := law_end (n := 26) V12 v12_len v12_tab v12_rg s1 y2 y3 y4
  exact ⟨τ2, s1, (exs_next hfor).trans e2⟩
end
end K11
end

set_option Elab.async false
set_option linter.all false
open PySem PySem.W PyProof.Rows
set_option maxRecDepth 100000 in
set_option maxHeartbeats 0 in
theorem PySem.Challenge.cw_roundsopen_k11_falls_sums_and_thinned_co_holds : PySem.Challenge.rw_roundsopen_k11_falls_sums_and_thinned_co.Holds := by
  w_on; o_law; k_head; (case hw => w_witness2)
  k_fill
  refine Rz.walkG (l := PySem.Challenge.rw_roundsopen_k11_falls_sums_and_thinned_co) (n := 63) (k := 93) (sp := fun w => Rz.spLaw _) rfl (by decide) rfl ⟨rfl, by decide, by decide⟩ (fun w h Y => PySem.W.kIn_of Y) ?F (fun _ _ a ns hl _ hS => ⟨a, ns, rfl, hS, hl, fun _ => rfl⟩)
  case F =>
    intro w mg fa h KX G hmg base KB GB
    have e := hmg.symm.trans (PySem.W.mg_of KX G (v := .ref 462) (by kernel_rfl))
    cases e
    exact Rz.law_rg (d := K11.pd) (n := 30) (pa := 388) (N := K11.lawN) (cs := K11.lawRest) (by kernel_rfl) (Rz.noExt_ok (by kernel_rfl)) (by kernel_rfl) KX G K11.runs

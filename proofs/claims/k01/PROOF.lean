import PyProof.Rows.All
import Wide.All
import OpenK.AllK
import Wide.FinOn
import HandS.ForMost
import PyProof.Seq
import HandS.Lambda
import HandS.ForExc
import HandS.Star
import HandS.Property
import HandS.ClsMeth
import HandS.TupMul
import HandS.Wide
import HandS.TupAny
import KE.KOpsOwn
import HandS.IsInst
import HandS.Style
import HandS.RaiseMore
import HandS.Text
import HandS.Zip
import KE.GoesMore
import KE.GoesZip
import KE.GoesEnum
import HandS.Walk
import HandS.Small
import HandS.Conv
import PyProof.LongRange
import PyProof.ListRange
import HandS.SetFor
import HandS.Strs
import HandS.Exc
import HandS.ExcIs
import HandS.ExcField
import HandS.ExcOwn
import HandS.More
import HandS.DictComp
import HandS.ExcInit
import HandS.EndTab
import PySem.Challenge.RW_roundsopen_k01_errors
section
set_option Elab.async false
set_option linter.all false
/-! The interpreter over plain data: D (data), CE/CS (compact syntax), ev/ex. -/
namespace Rz
open PySem L2

inductive D where
  | non
  | bl (b : Bool)
  | int (i : Int)
  | str (s : Str)
  | tup (ds : List D)
  | lst (ds : List D)
  | ins (c : Nat) (ds : List D)
  | xin (c : Nat) (ds : List D)
  | dct (ks : List Key) (ds : List D)
  | cls (c : Nat)
  | ty (n : String)
  | fn (f : Nat)
  | pen
  | opq (v : V)

inductive Slot where
  | none
  | fz (d : D)
  | own (ds : List D)
  | ownI (c : Nat) (ds : List D)

/-- names of built-ins that are called with values -/
inductive Bi where
  | len | abs | max | min | int | bool | str | repr | tuple | list | all | any | sum | sorted
  deriving DecidableEq

inductive Tn where
  | ty (n : String)
  | cl (c : Nat)
  deriving DecidableEq

/-- a loop's target: one name, or a tuple of names -/
inductive Tg where
  | one (i : Nat)
  | many (is : List Nat)
  | two (is js : List Nat)
  deriving DecidableEq

mutual
inductive CE where
  | v (i : Nat)
  | k (d : D)
  | g (j : Nat)
  | bin (o : Operator) (a b : CE)
  | un (o : UnaryOp) (a : CE)
  | cmp (o : CmpOp) (a b : CE)
  | chain (o p : CmpOp) (a b c : CE)
  | and (a b : CE)
  | or (a b : CE)
  | tand (a b : CE)
  | tor (a b : CE)
  | not (a : CE)
  | ite (c a b : CE)
  | tup (es : CAs)
  | lst (es : CAs)
  | call (f : Nat) (es : CAs)
  | make (c : Nat) (es : CAs)
  | meth (o : CE) (m : Nat) (es : CAs)
  | smeth (c : Nat) (m : Nat) (es : CAs)
  | makeV (i c : Nat) (es : CAs)
  | xmk (c : Nat) (es : CAs) (ks : List Str) (ws : CAs)
  | xmk0 (c : Nat)
  | attr (o : CE) (m : Nat)
  | bi (b : Bi) (es : CAs)
  | isi (e : CE) (ts : List Tn)
  | ix (a b : CE)
  | sl (a : CE) (lo hi : CO)
  | nl (w : CW)
  | never
  | callO (o : CE) (es : CAs)
  | bx (b : Bi) (e : CE)
  | join (a b : CE)
  | split (a b : CE)
  | pix (a : CE) (k : D)
  | callK (o : CE) (es : CAs) (ks : List Str) (ws : CAs)
  | methK (o : CE) (m : Nat) (es : CAs) (ks : List Str) (ws : CAs)
  | smethK (c : Nat) (m : Nat) (es : CAs) (ks : List Str) (ws : CAs)
  | dct (ks : List Key) (es : CAs)
  | gix (j : Nat) (e : CE)
  | makeK (c : Nat) (es : CAs) (ks : List Str) (ws : CAs)
  | dcomp (kt vt : CE) (tg : Tg) (it : CI)
  | dof (e : CE)
  | cl (c : Nat)
  | callF (f : Nat) (es : CAs) (ks : List Str) (ws : CAs)
  | rev (a : CE)
  | isx (i : Nat) (t : Option Nat)
  | xat (i m : Nat)
  | ask
  | lam (f : Nat) (b : CE)
inductive CW where
  | lst (es : CAs)
  | of (e : CE)
  | add (a b : CE)
  | lc (elt : CE) (tg : Tg) (it : CI) (cs : CAs)
  | lr (a : CE)
  | lr2 (a b : CE)
  | sset (e : CE)
  | mul (a b : CE)
inductive CO where
  | no
  | yes (e : CE)
inductive CAs where
  | nil
  | cons (star : Bool) (e : CE) (r : CAs)
inductive CI where
  | e (e : CE)
  | r1 (a : CE)
  | r2 (a b : CE)
  | rd (a b : CE)
  | en (a : CE)
  | zip (a b : CE)
end

/-- a value to store: frozen, or an owned new list -/
inductive CV where
  | f (e : CE)
  | w (w : CW)
  | x (e : CE)

mutual
inductive CS where
  | never
  | pass
  | expr (th : Bool) (e : CE)
  | ret (e : CE)
  | retN
  | set (i : Nat) (th : Bool) (e : CE)
  | own (i : Nat) (w : CW)
  | par2 (i j : Nat) (a b : CV)
  | unpack (is : List Nat) (e : CE)
  | aug (i : Nat) (o : Operator) (th : Bool) (e : CE)
  | ite (c : CE) (a b : CSs)
  | while (c : CE) (b : CSs)
  | for (tg : Tg) (it : CI) (b : CSs)
  | brk
  | cont
  | tryK (b : CSs) (c i j : Nat)
  | tryR (b : CSs) (c i : Nat) (e : CE)
  | raise (c : Nat) (es : CAs)
  | append (i : Nat) (th : Bool) (e : CE)
  | pop (i : Nat)
  | setFld (k : Nat) (e : CE)
  | pset (i : Nat) (k : D) (e : CE)
  | par3 (i j l : Nat) (a b c : CE)
  | copy (j i : Nat)
  | popTo (j i : Nat)
  | setIx (i : Nat) (th : Bool) (a e : CE)
  | ins0 (i : Nat) (th : Bool) (e : CE)
  | ext (i : Nat) (e : CE)
  | popAt (j i : Nat) (th : Bool) (e : CE)
  | clr (i : Nat)
inductive CSs where
  | nil
  | cons (s : CS) (r : CSs)
end

/-- an expression's outcome; a call's -/
inductive Out (S α : Type) where
  | ok (a : α) (τ : List Slot) (s : S)
  | exc (c : Nat) (fs : List D) (τ : List Slot) (s : S)
  | no
inductive CRes (S : Type) where
  | ok (d : D) (s : S)
  | exc (c : Nat) (fs : List D) (s : S)
  | no

/-- the pen's state: what is read and stored by a key -/
class Pen (S : Type) where
  get : D → S → Option D
  put : D → D → S → Option S
  same : S → S → Bool
  same_eq : ∀ {a b : S}, same a b = true → a = b
/-- what a def that got a lambda calls it by -/
def askId : Nat := 99999
/-- no value is told by it -/
def askD : D := .dct [.inl 0] []
/-- owned slots are not seen by a lambda's body -/
def Slot.hide : Slot → Slot
  | .fz d => .fz d
  | _ => .none

inductive Fl where
  | next
  | ret (d : D)
  | brk
  | cont

def Out.bind {S α β : Type} (x : Out S α) (f : α → List Slot → S → Out S β) : Out S β :=
  match x with
  | .ok a τ s => f a τ s
  | .exc c fs τ s => .exc c fs τ s
  | .no => .no
def Out.of {S α : Type} (o : Option α) (τ : List Slot) (s : S) : Out S α :=
  match o with
  | some a => .ok a τ s
  | none => .no
/-- no exception may come -/
def Out.nx {S α : Type} (x : Out S α) : Out S α :=
  match x with
  | .exc _ _ _ _ => .no
  | x => x
def CRes.out {S : Type} (x : CRes S) (τ : List Slot) : Out S D :=
  match x with
  | .ok d s => .ok d τ s
  | .exc c fs s => .exc c fs τ s
  | .no => .no

/-- what an attribute name means for a class -/
inductive At where
  | fld (k : Nat)
  | prop (f : Nat)
  | con (d : D)
  | none

/-- the program's table (pure part) -/
structure Pt where
  /-- class, method's name: the function -/
  meth : Nat → Nat → Option Nat
  attr : Nat → Nat → At
  /-- class methods take the class first -/
  smeth : Nat → Nat → Option (Bool × Nat)
  sub : Nat → Nat → Bool
  /-- how many classes (no exceptions) there are -/
  ncl : Nat
  gl : Nat → D
  init : Nat → Option Nat
  /-- how many fields an exception class keeps; none: it is no exception class -/
  exc : Nat → Option Nat
  /-- a def's parameters, where it may be called by names -/
  kwn : Nat → List Str
  /-- a table of the module with whole keys -/
  gt : Nat → List (Int × D)
  /-- a field of an error class -/
  xfd : Nat → Nat → Option Nat
  /-- the names that an error class takes -/
  xps : Nat → List Str


/-! ### values -/
def bg (i : Int) : Bool := decide (i.natAbs < 2 ^ 8000)
def lim (n : Nat) : Bool := decide (n ≤ 100000)
/-- two great numbers, or a small one and any -/
def mulOk (i j : Int) : Bool := (bg i && bg j) || decide (i.natAbs < 2 ^ 64) || decide (j.natAbs < 2 ^ 64)
def binI : Operator → Int → Int → Option Int
  | .Add, i, j => some (i + j)
  | .Sub, i, j => some (i - j)
  | .Mult, i, j => bif mulOk i j then some (i * j) else none
  | .FloorDiv, i, j => bif decide (0 < j) && bg j then some (i / j) else none
  | .Mod, i, j => bif decide (0 < j) then some (i % j) else none
  | .Pow, i, j => bif decide (0 ≤ j) && decide (j ≤ 1000) && decide (i.natAbs < 2 ^ 64) then some (i ^ j.toNat) else none
  | _, _, _ => none
def repD (ds : List D) (k : Int) : Option (List D) :=
  bif decide (-1000 ≤ k) && decide (k ≤ 1000) && decide (ds.length ≤ 4000) then some (List.replicate k.toNat ds).flatten else none
def binD (o : Operator) (x y : D) : Option D :=
  match x, y with
  | .int i, .int j => (binI o i j).map .int
  | .str a, .str b => match o with
    | .Add => bif lim (a.length + b.length) then some (.str (a ++ b)) else none
    | _ => none
  | .str a, .int k => match o with
    | .Mult => bif decide (1 ≤ k) && decide (k ≤ 1000) && decide (a.length ≤ 1000) then some (.str (PySem.Txt.mul a k)) else none
    | _ => none
  | .lst a, .lst b => match o with
    | .Add => bif lim (a.length + b.length) then some (.lst (a ++ b)) else none
    | _ => none
  | .tup a, .tup b => match o with
    | .Add => bif lim (a.length + b.length) then some (.tup (a ++ b)) else none
    | _ => none
  | .lst a, .int k => match o with
    | .Mult => (repD a k).map .lst
    | _ => none
  | .tup a, .int k => match o with
    | .Mult => bif decide (k = 1) then some (.tup a) else bif !a.isEmpty && decide (2 ≤ k) && decide (k ≤ 1000) && decide (a.length ≤ 1000) then some (.tup (List.replicate k.toNat a).flatten) else none
    | _ => none
  | _, _ => none
def D.scalar : D → Bool
  | .non => true
  | .bl _ => true
  | .int _ => true
  | .str _ => true
  | .cls _ => true
  | .ty _ => true
  | _ => false
mutual
/-- no list stands in it -/
def D.noL : D → Bool
  | .non => true
  | .bl _ => true
  | .int _ => true
  | .str _ => true
  | .cls _ => true
  | .ty _ => true
  | .tup ds => D.noLL ds
  | .ins _ ds => D.noLL ds
  | _ => false
def D.noLL : List D → Bool
  | [] => true
  | d :: r => D.noL d && D.noLL r
end
def Slot.noI : Slot → Bool
  | .ownI _ _ => false
  | _ => true
/-- flat values compared -/
def eqF : D → D → Bool
  | .non, .non => true
  | .bl a, .bl b => a == b
  | .bl a, .int b => (if a then 1 else 0) == b
  | .int a, .bl b => a == (if b then 1 else 0)
  | .int a, .int b => a == b
  | .str a, .str b => a == b
  | _, _ => false
mutual
/-- plain data: no instances in it -/
def D.plain : D → Bool
  | .non => true
  | .bl _ => true
  | .int _ => true
  | .str z => PyData.strOk z
  | .tup ds => D.plainL ds
  | .lst ds => D.plainL ds
  | _ => false
def D.plainL : List D → Bool
  | [] => true
  | d :: r => D.plain d && D.plainL r
end
mutual
def eqP : D → D → Bool
  | .tup a, y => match y with
    | .tup b => eqPL a b
    | _ => false
  | .lst a, y => match y with
    | .lst b => eqPL a b
    | _ => false
  | .non, y => eqF .non y
  | .bl b, y => eqF (.bl b) y
  | .int i, y => eqF (.int i) y
  | .str s, y => eqF (.str s) y
  | _, _ => false
def eqPL : List D → List D → Bool
  | [], l => match l with
    | [] => true
    | _ => false
  | d :: r, l => match l with
    | [] => false
    | e :: t => eqP d e && eqPL r t
end
mutual
def D.deep : D → Nat
  | .tup ds => D.deepL ds + 1
  | .lst ds => D.deepL ds + 1
  | _ => 0
def D.deepL : List D → Nat
  | [] => 0
  | d :: r => max (D.deep d) (D.deepL r)
end
def D.cmpOk (d : D) : Bool := d.plain && decide (d.deep ≤ 20)
def inF (x : D) (ds : List D) : Bool := ds.any fun y => eqF y x
def D.flat : D → Bool
  | .non => true
  | .bl _ => true
  | .int _ => true
  | .str _ => true
  | _ => false
def sx (n d : Nat) (o : Option Int) : Nat := HT.sIx n d o
def keyOf : D → Option Key
  | .int i => some (.inl i)
  | .str z => some (.inr z)
  | _ => none
def dctGet : List Key → List D → Key → Option D
  | k :: ks, d :: ds, x => if k = x then some d else dctGet ks ds x
  | _, _, _ => none
/-- d[k] = v: the keys, the values -/
def dctPut : List Key → List D → Key → D → List Key × List D
  | k :: ks, d :: ds, x, v => if k = x then (k :: ks, v :: ds) else (k :: (dctPut ks ds x v).1, d :: (dctPut ks ds x v).2)
  | _, _, x, v => ([x], [v])
/-- the ints of a list, ascending, each once -/
def insI (x : Int) : List Int → List Int
  | [] => [x]
  | y :: r => if x < y then x :: y :: r else if x = y then y :: r else y :: insI x r
def sortI (ns : List Int) : List Int := ns.foldr insI []
def cutD {α : Type} (xs : List α) (lo hi : Option Int) : List α := (xs.drop (HT.sIx xs.length 0 lo)).take (HT.sIx xs.length xs.length hi - HT.sIx xs.length 0 lo)
def ixD (x y : D) : Option D :=
  match x, y with
  | .lst ds, .int i => atI ds i
  | .tup ds, .int i => atI ds i
  | .str z, .int i => bif lim z.length then (atI z.cps.toList i).map fun c => .str ⟨#[c]⟩ else none
  | .dct ks ds, y => match keyOf y with
    | some k => dctGet ks ds k
    | none => none
  | _, _ => none
def slD (x : D) (lo hi : Option Int) : Option D :=
  match x with
  | .lst ds => some (.lst (cutD ds lo hi))
  | .tup ds => some (.tup (cutD ds lo hi))
  | .str z => bif lim z.length then some (.str (cutS z lo hi)) else none
  | _ => none
def revD : D → Option D
  | .lst ds => some (.lst ds.reverse)
  | .tup ds => bif ds.isEmpty then none else some (.tup ds.reverse)
  | _ => none
def allB : List D → Option (List Bool)
  | [] => some []
  | .bl b :: r => (allB r).map (b :: ·)
  | _ => none
def allI : List D → Option (List Int)
  | [] => some []
  | .int i :: r => (allI r).map (i :: ·)
  | _ => none
def allS : List D → Option (List Str)
  | [] => some []
  | .str i :: r => (allS r).map (i :: ·)
  | _ => none
mutual
def D.py : D → Option PyData
  | .non => some .none
  | .bl b => some (.bool b)
  | .int i => some (.int i)
  | .str s => some (.str s)
  | .tup ds => (D.pyL ds).map .tuple
  | .lst ds => (D.pyL ds).map .list
  | _ => none
def D.pyL : List D → Option (List PyData)
  | [] => some []
  | d :: r => match D.py d with
    | some p => (D.pyL r).map (p :: ·)
    | none => none
end
def keyP : Key → PyData
  | .inl i => .int i
  | .inr x => .str x
mutual
def D.py2 : D → Option PyData
  | .non => some .none
  | .bl b => some (.bool b)
  | .int i => some (.int i)
  | .str s => some (.str s)
  | .tup ds => (D.py2L ds).map .tuple
  | .lst ds => (D.py2L ds).map .list
  | .dct ks ds => (D.py2L ds).map fun ps => .dict ((ks.map keyP).zip ps)
  | _ => none
def D.py2L : List D → Option (List PyData)
  | [] => some []
  | d :: r => match D.py2 d with
    | some p => (D.py2L r).map (p :: ·)
    | none => none
end
def limR (n : Nat) : Bool := decide (n ≤ 8000000)
/-- repr of plain data -/
def D.noKeys : D → Bool
  | .dct [] [] => true
  | _ => false
def reprD (d : D) : Option D :=
  match d.py2 with
  | some p => bif p.showable && limR p.shown.length && decide (p.depth ≤ 40) then some (.str p.shown) else none
  | none => none
def biD (b : Bi) (xs : List D) : Option D :=
  match b, xs with
  | .len, [.lst ds] => some (.int ds.length)
  | .len, [.tup ds] => some (.int ds.length)
  | .len, [.str z] => bif lim z.length then some (.int z.length) else none
  | .len, [.dct ks _] => some (.int ks.length)
  | .abs, [.int i] => some (.int (if i < 0 then -i else i))
  | .max, [.int i, .int j] => some (.int (if j > i then j else i))
  | .min, [.int i, .int j] => some (.int (if j < i then j else i))
  | .int, [.int i] => some (.int i)
  | .int, [.bl b] => some (.int (if b then 1 else 0))
  | .int, [.str z] => bif decide (z.length ≤ 640) then (PySem.intText? z).map .int else none
  | .bool, [.int i] => some (.bl (i != 0))
  | .bool, [.bl b] => some (.bl b)
  | .str, [.int i] => bif decide (i.natAbs.log2 < 1900) then some (.str (toString i)) else none
  | .str, [.str z] => some (.str z)
  | .tuple, [.tup ds] => some (.tup ds)
  | .tuple, [.lst ds] => some (.tup ds)
  | .list, [.tup ds] => some (.lst ds)
  | .list, [.lst ds] => some (.lst ds)
  | .all, [.lst ds] => (allB ds).map fun bs => .bl (bs.all id)
  | .any, [.lst ds] => (allB ds).map fun bs => .bl (bs.any id)
  | .sum, [.lst ds] => (allI ds).map fun ns => .int ns.sum
  | .repr, [d] => reprD d
  | _, _ => none
/-- the name of a value's built-in type -/
def D.tn : D → Option String
  | .non => some "NoneType"
  | .bl _ => some "bool"
  | .int _ => some "int"
  | .str _ => some "str"
  | .tup _ => some "tuple"
  | .lst _ => some "list"
  | .dct _ _ => some "dict"
  | _ => none
/-- the built-in types that isinstance is asked of -/
def tyIs : List String := ["int", "bool", "str", "list", "tuple", "dict"]
def isiT (P : Pt) (d : D) : Tn → Option Bool
  | .ty n => match d with
    | .ins c _ => bif decide (c < P.ncl) && tyIs.contains n then some false else none
    | d => match d.tn with
      | some m => bif tyIs.contains n then some (m == n || (m == "bool" && n == "int")) else none
      | none => none
  | .cl c => bif decide (c < P.ncl) then match d with
      | .ins e _ => bif decide (e < P.ncl) then some (P.sub e c) else none
      | d => match d.tn with
        | some _ => some false
        | none => none
    else none
def isiAny (P : Pt) (d : D) : List Tn → Option Bool
  | [] => some false
  | t :: r => match isiT P d t with
    | some true => some true
    | some false => isiAny P d r
    | none => none

/-! ### the ids of special methods -/
def dun : Operator → Nat
  | .Add => 0 | .Sub => 2 | .Mult => 4 | .BitAnd => 6 | .BitOr => 8 | .BitXor => 10 | .Pow => 12 | .FloorDiv => 14 | .Mod => 16 | _ => 99
def mNeg : Nat := 20
def mInv : Nat := 21
def mEq : Nat := 22
def mBool : Nat := 23
def mCall : Nat := 24
def mIn : Nat := 25
def mItem : Nat := 26
def mLen : Nat := 27
def mLe : Nat := 28
def mLt : Nat := 29
def mGe : Nat := 30
def mGt : Nat := 31
def mStr : Nat := 32

def sameOrBt (c : Nat) (y : D) : Bool :=
  match y with
  | .ins e _ => c == e
  | y => y.tn.isSome
def declOk (o : Operator) (x : D) : Bool :=
  match x with
  | .int _ => match o with
    | .Add => true
    | .Sub => true
    | .Mult => true
    | _ => false
  | .str _ => true
  | .non => true
  | .tup _ => true
  | .lst _ => true
  | _ => false

section
variable {S : Type} [Pen S] (P : Pt) (call : Nat → List D → S → CRes S) (mk : Nat → List D → S → CRes S)

def callM (c m : Nat) (xs : List D) (τ : List Slot) (s : S) : Out S D :=
  match P.meth c m with
  | some f => (call f xs s).out τ
  | none => .no
def binV (o : Operator) (x y : D) (τ : List Slot) (s : S) : Out S D :=
  match x with
  | .ins c _ => bif sameOrBt c y then callM P call c (dun o) [x, y] τ s else .no
  | _ => match y with
    | .ins c _ => bif declOk o x then callM P call c (dun o + 1) [y, x] τ s else .no
    | _ => Out.of (binD o x y) τ s
def unV (o : UnaryOp) (x : D) (τ : List Slot) (s : S) : Out S D :=
  match o, x with
  | .USub, .int i => .ok (.int (-i)) τ s
  | .USub, .ins c _ => callM P call c mNeg [x] τ s
  | .Invert, .ins c _ => callM P call c mInv [x] τ s
  | _, _ => .no
def truV (x : D) (τ : List Slot) (s : S) : Out S Bool :=
  match x with
  | .non => .ok false τ s
  | .bl b => .ok b τ s
  | .int i => .ok (i != 0) τ s
  | .str z => bif lim z.length then .ok ((z.length : Int) != 0) τ s else .no
  | .tup ds => .ok (!ds.isEmpty) τ s
  | .lst ds => .ok (!ds.isEmpty) τ s
  | .ins c _ => match P.meth c mBool with
    | some f => match call f [x] s with
      | .ok (.bl b) s' => .ok b τ s'
      | .exc c fs s' => .exc c fs τ s'
      | _ => .no
    | none => .no
  | _ => .no
def cmpI : CmpOp → Int → Int → Option Bool
  | .Lt, i, j => some (decide (i < j))
  | .LtE, i, j => some (decide (i ≤ j))
  | .Gt, i, j => some (decide (j < i))
  | .GtE, i, j => some (decide (j ≤ i))
  | _, _, _ => none
/-- an instance of another class, not derived from this one -/
def othCls (P : Pt) (c : Nat) (y : D) : Bool :=
  match y with
  | .ins e _ => decide (c < P.ncl) && decide (e < P.ncl) && !(P.sub e c)
  | _ => false
/-- a list that holds something is not the empty one -/
def eqL (x y : D) (τ : List Slot) (s : S) : Out S D :=
  match x, y with
  | .lst (_ :: _), .lst [] => .ok (.bl false) τ s
  | _, _ => .no
def eqV' (x y : D) (τ : List Slot) (s : S) : Out S D :=
  match x, y with
  | .ins c _, _ => bif sameOrBt c y || othCls P c y then callM P call c mEq [x, y] τ s else .no
  | .str a, .str b => .ok (.bl (a == b)) τ s
  | _, _ => bif x.cmpOk && y.cmpOk then .ok (.bl (eqP x y)) τ s else eqL x y τ s
def mCmp : CmpOp → Nat
  | .Lt => mLt | .LtE => mLe | .Gt => mGt | .GtE => mGe | _ => 99
def inVv (x y : D) (τ : List Slot) (s : S) : Out S D :=
  match y with
  | .lst ds => bif x.flat && ds.all D.flat then .ok (.bl (inF x ds)) τ s else .no
  | .tup ds => bif x.flat && ds.all D.flat then .ok (.bl (inF x ds)) τ s else .no
  | .str z => match x with
    | .str w => match w.cps.toList with
      | [c] => .ok (.bl (decide (c ∈ z.cps.toList))) τ s
      | _ => .no
    | _ => .no
  | .ins c _ => (callM P call c mIn [y, x] τ s).bind fun z τ s => match z with
    | .bl b => .ok (.bl b) τ s
    | _ => .no
  | .dct ks ds => match keyOf x with
    | some k => .ok (.bl (dctGet ks ds k).isSome) τ s
    | none => .no
  | _ => .no
def notD : D → Option D
  | .bl b => some (.bl (!b))
  | _ => none
def cmpV (o : CmpOp) (x y : D) (τ : List Slot) (s : S) : Out S D :=
  match o with
  | .Eq => eqV' P call x y τ s
  | .NotEq => (eqV' P call x y τ s).bind fun z τ s => Out.of (notD z) τ s
  | .Is => match y with
    | .non => match x with
      | .opq _ => .no
      | x => .ok (.bl (match x with | .non => true | _ => false)) τ s
    | .bl b => match x with
      | .bl a => .ok (.bl (a == b)) τ s
      | _ => .no
    | _ => .no
  | .IsNot => match y with
    | .non => match x with
      | .opq _ => .no
      | x => .ok (.bl (!(match x with | .non => true | _ => false))) τ s
    | .bl b => match x with
      | .bl a => .ok (.bl (!(a == b))) τ s
      | _ => .no
    | _ => .no
  | .In => inVv P call x y τ s
  | .NotIn => (inVv P call x y τ s).bind fun z τ s => Out.of (notD z) τ s
  | o => match x, y with
    | .int i, .int j => Out.of ((cmpI o i j).map .bl) τ s
    | .ins c _, _ => bif sameOrBt c y then callM P call c (mCmp o) [x, y] τ s else .no
    | _, _ => .no
def attrV (m : Nat) (x : D) (τ : List Slot) (s : S) : Out S D :=
  match x with
  | .ins c ds => match P.attr c m with
    | .fld k => match ds[k]? with
      | some d => .ok d τ s
      | none => .no
    | .prop f => match call f [x] s with
      | .ok d s' => .ok d τ s'
      | _ => .no
    | .con d => .ok d τ s
    | .none => .no
  | .cls c => match P.attr c m with
    | .con d => .ok d τ s
    | _ => .no
  | _ => .no
def ixV (x y : D) (τ : List Slot) (s : S) : Out S D :=
  match x with
  | .ins _ _ => .no
  | _ => Out.of (ixD x y) τ s
def starOf : D → Option (List D)
  | .lst ds => some ds
  | .tup ds => some ds
  | _ => none
def bindN : List Nat → List D → List Slot → Option (List Slot)
  | [], [], τ => some τ
  | i :: is, x :: xs, τ => bindN is xs (τ.set i (.fz x))
  | _, _, _ => none
def bindT (tg : Tg) (d : D) (τ : List Slot) : Option (List Slot) :=
  match tg with
  | .one i => some (τ.set i (.fz d))
  | .many is => match d with
    | .tup xs => bindN is xs τ
    | .lst xs => bindN is xs τ
    | _ => none
  | .two is js => match d with
    | .tup [.tup xs, .tup ys] => (bindN is xs τ).bind fun τ => bindN js ys τ
    | _ => none
def Tg.slots : Tg → List Nat
  | .one i => [i]
  | .many is => is
  | .two is js => is ++ js
def wipeT (τ : List Slot) : List Nat → List Slot
  | [] => τ
  | i :: is => (wipeT τ is).set i .none
def Slot.back : Option Slot → Slot
  | some (.fz d) => .fz d
  | _ => .none
def backT (τ0 τ : List Slot) : List Nat → List Slot
  | [] => τ
  | i :: is => (backT τ0 τ is).set i (Slot.back τ0[i]?)
/-- the turns of a comprehension -/
def lcL (body : D → List Slot → S → Out S (Option D)) (is : List Nat) : List D → List D → List Slot → S → Out S (List D)
  | [], acc, τ, s => .ok acc τ s
  | d :: r, acc, τ, s => (body d (wipeT τ is) s).bind fun o τ s => match o with
    | some x => lcL body is r (acc ++ [x]) τ s
    | none => lcL body is r acc τ s
/-- the turns of a dict comprehension -/
def dcL (body : D → List Slot → S → Out S (Key × D)) (is : List Nat) : List D → List Key → List D → List Slot → S → Out S (List Key × List D)
  | [], ks, vs, τ, s => .ok (ks, vs) τ s
  | d :: r, ks, vs, τ, s => (body d (wipeT τ is) s).bind fun p τ s => dcL body is r (dctPut ks vs p.1 p.2).1 (dctPut ks vs p.1 p.2).2 τ s
def pairsD : List D → Option (List (Key × D))
  | [] => some []
  | .tup [k, v] :: r => match keyOf k with
    | some k => (pairsD r).map ((k, v) :: ·)
    | none => none
  | _ => none
def putsD : List (Key × D) → List Key → List D → List Key × List D
  | [], ks, vs => (ks, vs)
  | p :: r, ks, vs => putsD r (dctPut ks vs p.1 p.2).1 (dctPut ks vs p.1 p.2).2
def rangeD (lo : Int) (n : Nat) : List D := (List.range n).map fun (i : Nat) => .int (lo + i)
def rangeDn (lo : Int) (n : Nat) : List D := (List.range n).map fun (i : Nat) => .int (lo - i)
def enumD (ds : List D) : List D := ds.zipIdx.map fun p => .tup [.int p.2, p.1]
def itemsV : D → Option (List D)
  | .lst ds => some ds
  | .tup ds => some ds
  | .str z => bif lim z.length then some (z.cps.toList.map fun c => .str ⟨#[c]⟩) else none
  | _ => none

/-- a built-in of one argument, the own method where the argument is an instance -/
def bxV (b : Bi) (x : D) (τ : List Slot) (s : S) : Out S D :=
  match b with
  | .bool => (truV P call x τ s).bind fun t τ s => .ok (.bl t) τ s
  | .str => match x with
    | .ins c _ => (callM P call c mStr [x] τ s).bind fun z τ s => match z with
      | .str t => .ok (.str t) τ s
      | _ => .no
    | _ => Out.of (biD .str [x]) τ s
  | _ => .no
/-- the parameters' values: ds by place, the rest by names -/
def arrD (ps : List Str) (ds : List D) (ks : List Str) (ws : List D) : Option (List D) :=
  bif decide (ps.drop ds.length = ks) && decide (ds.length ≤ ps.length) && decide (ks.length = ws.length) then some (ds ++ ws) else none
/-- the parameters' values by names, in any order -/
def arrG (ps : List Str) (ds : List D) (ks : List Str) (ws : List D) : Option (List D) :=
  bif decide (ds.length + ks.length = ps.length) && decide (ks.length = ws.length) && decide ks.Nodup && (ps.drop ds.length).all ks.contains then some (ds ++ (ps.drop ds.length).filterMap fun p => (ks.zip ws).lookup p) else none
/-- any names, in any order -/
def arr2 (ps : List Str) (ds : List D) (ks : List Str) (ws : List D) : Option (List D) :=
  match ks, ws with
  | [k], [w] => bif decide (ps.drop ds.length = [k]) then some (ds ++ [w]) else none
  | [k, l], [w, u] => bif decide (ps.drop ds.length = [k, l]) then some (ds ++ [w, u]) else bif decide (ps.drop ds.length = [l, k]) then some (ds ++ [u, w]) else none
  | k :: l :: m :: ks, ws => arrG ps ds (k :: l :: m :: ks) ws
  | _, _ => none
def joinD (x y : D) : Option D :=
  match x, y with
  | .str sep, .lst ds => match allS ds with
    | some ss => bif lim ((ss.map (·.length)).sum + ss.length * sep.length) then some (.str (Txt.join sep ss)) else none
    | none => none
  | _, _ => none
def splitD (x y : D) : Option D :=
  match x, y with
  | .str a, .str b => bif lim (a.length + 2) && !(b.length == 0) then some (.lst ((Txt.split a b).map D.str)) else none
  | _, _ => none

mutual
def ev : CE → List Slot → S → Out S D
  | .v i, τ, s => match τ[i]? with
    | some (.fz d) => .ok d τ s
    | some (.own ds) => .ok (.lst ds) (τ.set i (.fz (.lst ds))) s
    | some (.ownI c ds) => .ok (.ins c ds) (τ.set i (.fz (.ins c ds))) s
    | _ => .no
  | .k d, τ, s => .ok d τ s
  | .g j, τ, s => .ok (P.gl j) τ s
  | .bin o a b, τ, s => (ev a τ s).bind fun x τ s => (ev b τ s).bind fun y τ s => binV P call o x y τ s
  | .un o a, τ, s => (ev a τ s).bind fun x τ s => unV P call o x τ s
  | .cmp o a b, τ, s => (ev a τ s).bind fun x τ s => (ev b τ s).bind fun y τ s => cmpV P call o x y τ s
  | .chain o p a b c, τ, s => (ev a τ s).bind fun x τ s => (ev b τ s).bind fun y τ s => (cmpV P call o x y τ s).bind fun z τ s => match z with
    | .bl t => bif t then (ev c τ s).bind fun w τ s => cmpV P call p y w τ s else .ok (.bl false) τ s
    | _ => .no
  | .and a b, τ, s => (ev a τ s).bind fun x τ s => (truV P call x τ s).bind fun t τ s => bif t then ev b τ s else .ok x τ s
  | .or a b, τ, s => (ev a τ s).bind fun x τ s => (truV P call x τ s).bind fun t τ s => bif t then .ok x τ s else ev b τ s
  | .tand a b, τ, s => (ev a τ s).bind fun x τ s => (truV P call x τ s).bind fun t τ s => bif t then (ev b τ s).bind fun y τ s => (truV P call y τ s).bind fun u τ s => .ok (.bl u) τ s else .ok (.bl false) τ s
  | .tor a b, τ, s => (ev a τ s).bind fun x τ s => (truV P call x τ s).bind fun t τ s => bif t then .ok (.bl true) τ s else (ev b τ s).bind fun y τ s => (truV P call y τ s).bind fun u τ s => .ok (.bl u) τ s
  | .not a, τ, s => (ev a τ s).bind fun x τ s => (truV P call x τ s).bind fun t τ s => .ok (.bl (!t)) τ s
  | .ite c a b, τ, s => (ev c τ s).bind fun x τ s => (truV P call x τ s).bind fun t τ s => bif t then ev a τ s else ev b τ s
  | .tup es, τ, s => (evA es τ s).bind fun ds τ s => bif lim ds.length then .ok (.tup ds) τ s else .no
  | .lst es, τ, s => (evA es τ s).bind fun ds τ s => bif lim ds.length then .ok (.lst ds) τ s else .no
  | .call f es, τ, s => (evA es τ s).bind fun ds τ s => (call f ds s).out τ
  | .make c es, τ, s => (evA es τ s).bind fun ds τ s => (mk c ds s).out τ
  | .meth o m es, τ, s => (ev o τ s).bind fun x τ s => match x with
    | .ins c _ => match P.meth c m with
      | some f => (evA es τ s).bind fun ds τ s => (call f (x :: ds) s).out τ
      | none => .no
    | _ => .no
  | .smeth c m es, τ, s => match P.smeth c m with
    | some (true, f) => (evA es τ s).bind fun ds τ s => (call f (.cls c :: ds) s).out τ
    | some (false, f) => (evA es τ s).bind fun ds τ s => (call f ds s).out τ
    | none => .no
  | .xmk c es ks ws, τ, s => (evA es τ s).bind fun ds τ s => (evA ws τ s).bind fun vs τ s => match arrG (P.xps c) ds ks vs with
    | some xs => bif P.exc c == some xs.length then .ok (.xin c xs.reverse) τ s else .no
    | none => .no
  | .xmk0 c, τ, s => bif P.exc c == some 0 then .ok (.xin c []) τ s else .no
  | .makeV i c es, τ, s => match τ[i]? with
    | some (.fz (.cls k)) => bif k == c then (evA es τ s).bind fun ds τ s => (mk c ds s).out τ else .no
    | _ => .no
  | .attr o m, τ, s => (ev o τ s).bind fun x τ s => attrV P call m x τ s
  | .bi b es, τ, s => (evA es τ s).bind fun ds τ s => Out.of (biD b ds) τ s
  | .isi e ts, τ, s => (ev e τ s).bind fun x τ s => Out.of ((isiAny P x ts).map .bl) τ s
  | .ix a b, τ, s => (ev a τ s).bind fun x τ s => (ev b τ s).bind fun y τ s => ixV x y τ s
  | .sl a lo hi, τ, s => (ev a τ s).bind fun x τ s => (evO lo τ s).bind fun l τ s => (evO hi τ s).bind fun h τ s => Out.of (slD x l h) τ s
  | .nl w, τ, s => (evW w τ s).bind fun ds τ s => .ok (.lst ds) τ s
  | .never, _, _ => .no
  | .callO o es, τ, s => (ev o τ s).bind fun x τ s => match x with
    | .ins c _ => match P.meth c mCall with
      | some f => (evA es τ s).bind fun ds τ s => (call f (x :: ds) s).out τ
      | none => .no
    | _ => .no
  | .bx b e, τ, s => (ev e τ s).bind fun x τ s => bxV P call b x τ s
  | .join a b, τ, s => (ev a τ s).bind fun x τ s => match x with
    | .str z => (ev b τ s).bind fun y τ s => Out.of (joinD (.str z) y) τ s
    | _ => .no
  | .split a b, τ, s => (ev a τ s).bind fun x τ s => match x with
    | .str z => (ev b τ s).bind fun y τ s => Out.of (splitD (.str z) y) τ s
    | _ => .no
  | .pix a k, τ, s => (ev a τ s).bind fun x τ s => match x with
    | .pen => Out.of (Pen.get k s) τ s
    | _ => .no
  | .callK o es ks ws, τ, s => (ev o τ s).bind fun x τ s => match x with
    | .ins c _ => match P.meth c mCall with
      | some f => (evA es τ s).bind fun ds τ s => (evA ws τ s).bind fun vs τ s => match arrD (P.kwn f) (x :: ds) ks vs with
        | some xs => (call f xs s).out τ
        | none => .no
      | none => .no
    | _ => .no
  | .methK o m es ks ws, τ, s => (ev o τ s).bind fun x τ s => match x with
    | .ins c _ => match P.meth c m with
      | some f => (evA es τ s).bind fun ds τ s => (evA ws τ s).bind fun vs τ s => match arr2 (P.kwn f) (x :: ds) ks vs with
        | some xs => (call f xs s).out τ
        | none => .no
      | none => .no
    | _ => .no
  | .smethK c m es ks ws, τ, s => match P.smeth c m with
    | some (false, f) => (evA es τ s).bind fun ds τ s => (evA ws τ s).bind fun vs τ s => match arr2 (P.kwn f) ds ks vs with
      | some xs => (call f xs s).out τ
      | none => .no
    | some (true, f) => (evA es τ s).bind fun ds τ s => (evA ws τ s).bind fun vs τ s => match arr2 (P.kwn f) (.cls c :: ds) ks vs with
      | some xs => (call f xs s).out τ
      | none => .no
    | none => .no
  | .dct ks es, τ, s => (evA es τ s).bind fun ds τ s => bif decide (ks.length = ds.length) && decide (ks.length ≤ 15) && decide ks.Nodup then .ok (.dct ks ds) τ s else .no
  | .gix j e, τ, s => (ev e τ s).bind fun x τ s => match x with
    | .int i => Out.of ((P.gt j).lookup i) τ s
    | _ => .no
  | .makeK c es ks ws, τ, s => (evA es τ s).bind fun ds τ s => (evA ws τ s).bind fun vs τ s => match P.init c with
    | some f => match P.kwn f with
      | _ :: ps => match arrG ps ds ks vs with
        | some xs => (mk c xs s).out τ
        | none => .no
      | [] => .no
    | none => .no
  | .dcomp kt vt tg it, τ, s => (evI it τ s).bind fun ds τ1 s => bif lim ds.length then
      (dcL (fun d τ s => match bindT tg d τ with
        | some τ => ((ev kt τ s).bind fun k τ s => (ev vt τ s).bind fun v τ s => match keyOf k with
          | some k => .ok (k, v) τ s
          | none => .no).nx
        | none => .no) tg.slots ds [] [] τ1 s).bind fun p τ2 s => .ok (.dct p.1 p.2) (backT τ1 τ2 tg.slots) s else .no
  | .dof e, τ, s => (ev e τ s).bind fun x τ s => match x with
    | .lst ds => match pairsD ds with
      | some ps => .ok (.dct (putsD ps [] []).1 (putsD ps [] []).2) τ s
      | none => .no
    | _ => .no
  | .cl c, τ, s => .ok (.cls c) τ s
  | .callF f es ks ws, τ, s => (evA es τ s).bind fun ds τ s => (evA ws τ s).bind fun vs τ s => match arr2 (P.kwn f) ds ks vs with
    | some xs => (call f xs s).out τ
    | none => .no
  | .rev a, τ, s => (ev a τ s).bind fun x τ s => Out.of (revD x) τ s
  | .isx i t, τ, s => match τ[i]? with
    | some (.fz (.xin c _)) => match t with
      | some k => bif (P.exc c).isSome && (P.exc k).isSome then .ok (.bl (P.sub c k)) τ s else .no
      | none => bif (P.exc c).isSome then .ok (.bl true) τ s else .no
    | some (.fz .non) => match t with
      | some k => bif (P.exc k).isSome then .ok (.bl false) τ s else .no
      | none => .ok (.bl false) τ s
    | _ => .no
  | .xat i m, τ, s => match τ[i]? with
    | some (.fz (.xin c fs)) => match P.xfd c m with
      | some k => bif (P.exc c).isSome then Out.of fs[k]? τ s else .no
      | none => .no
    | _ => .no
  | .ask, τ, s => match (τ[0]? : Option Slot) with
    | some (.fz (.opq v)) => (call askId [askD, .opq v] s).out τ
    | _ => .no
  | .lam f b, τ, s => match ev b (τ.map Slot.hide) s with
    | .ok d _ s' => bif Pen.same s' s then (call f [askD, .bl true, d] s).out τ else .no
    | .exc c fs _ s' => bif Pen.same s' s then (call f [askD, .bl false, .int c, .tup fs] s).out τ else .no
    | .no => .no
def evW : CW → List Slot → S → Out S (List D)
  | .lst es, τ, s => (evA es τ s).bind fun ds τ s => bif lim ds.length then .ok ds τ s else .no
  | .of e, τ, s => (ev e τ s).bind fun x τ s => Out.of (starOf x) τ s
  | .add a b, τ, s => (ev a τ s).bind fun x τ s => (ev b τ s).bind fun y τ s => match x, y with
    | .lst xs, .lst ys => bif lim (xs.length + ys.length) then .ok (xs ++ ys) τ s else .no
    | _, _ => .no
  | .lc elt tg it cs, τ, s => (evI it τ s).bind fun ds τ1 s => bif lim ds.length then
      (lcL (fun d τ s => match bindT tg d τ with
        | some τ => ((evC cs τ s).bind fun b τ s => bif b then (ev elt τ s).bind fun x τ s => .ok (some x) τ s else .ok none τ s).nx
        | none => .no) tg.slots ds [] τ1 s).bind fun acc τ2 s => .ok acc (backT τ1 τ2 tg.slots) s else .no
  | .lr a, τ, s => (ev a τ s).bind fun x τ s => match x with
    | .int n => bif lim n.natAbs then .ok (rangeD 0 n.toNat) τ s else .no
    | _ => .no
  | .lr2 a b, τ, s => (ev a τ s).bind fun x τ s => (ev b τ s).bind fun y τ s => match x, y with
    | .int i, .int j => bif lim (j - i).toNat then .ok (rangeD i (j - i).toNat) τ s else .no
    | _, _ => .no
  | .sset e, τ, s => (ev e τ s).bind fun x τ s => match x with
    | .lst ds => match allI ds with
      | some ns => bif decide (ns.length < 64) then .ok ((sortI ns).map .int) τ s else .no
      | none => .no
    | _ => .no
  | .mul a b, τ, s => (ev a τ s).bind fun x τ s => (ev b τ s).bind fun y τ s => match x, y with
    | .lst xs, .int k => match repD xs k with
      | some es => .ok es τ s
      | none => .no
    | _, _ => .no
def evO : CO → List Slot → S → Out S (Option Int)
  | .no, τ, s => .ok none τ s
  | .yes e, τ, s => (ev e τ s).bind fun x τ s => match x with
    | .int i => .ok (some i) τ s
    | _ => .no
def evA : CAs → List Slot → S → Out S (List D)
  | .nil, τ, s => .ok [] τ s
  | .cons star e r, τ, s => (ev e τ s).bind fun x τ s => bif star then match starOf x with
      | some xs => (evA r τ s).bind fun ys τ s => .ok (xs ++ ys) τ s
      | none => .no
    else (evA r τ s).bind fun ys τ s => .ok (x :: ys) τ s
def evC : CAs → List Slot → S → Out S Bool
  | .nil, τ, s => .ok true τ s
  | .cons _ e r, τ, s => (ev e τ s).bind fun x τ s => (truV P call x τ s).bind fun t τ s => bif t then evC r τ s else .ok false τ s
def evI : CI → List Slot → S → Out S (List D)
  | .e e, τ, s => (ev e τ s).bind fun x τ s => Out.of (itemsV x) τ s
  | .r1 a, τ, s => (ev a τ s).bind fun x τ s => match x with
    | .int n => bif lim n.natAbs then .ok (rangeD 0 n.toNat) τ s else .no
    | _ => .no
  | .rd a b, τ, s => (ev a τ s).bind fun x τ s => (ev b τ s).bind fun y τ s => match x, y with
    | .int i, .int j => bif lim i.natAbs && lim j.natAbs then .ok (rangeDn i (i - j).toNat) τ s else .no
    | _, _ => .no
  | .r2 a b, τ, s => (ev a τ s).bind fun x τ s => (ev b τ s).bind fun y τ s => match x, y with
    | .int i, .int j => bif lim (j - i).toNat && lim i.natAbs && lim j.natAbs then .ok (rangeD i (j - i).toNat) τ s else .no
    | _, _ => .no
  | .en a, τ, s => (ev a τ s).bind fun x τ s => match starOf x with
    | some ds => .ok (enumD ds) τ s
    | none => .no
  | .zip a b, τ, s => (ev a τ s).bind fun x τ s => (ev b τ s).bind fun y τ s => match starOf x, starOf y with
    | some xs, some ys => .ok ((xs.zip ys).map fun p => .tup [p.1, p.2]) τ s
    | _, _ => .no
end

def Slot.frz : Slot → Slot
  | .own ds => .fz (.lst ds)
  | .ownI c ds => .fz (.ins c ds)
  | x => x
/-- a statement's expression; th: what it freezes comes back, the value is a scalar -/
def evX (th : Bool) (e : CE) (τ : List Slot) (s : S) : Out S D :=
  match th with
  | false => ev P call mk e τ s
  | true => match ev P call mk e (τ.map Slot.frz) s with
    | .ok d _ s' => bif d.scalar || (d.noL && τ.all Slot.noI) then .ok d τ s' else .no
    | x => x
def evTs (e : CE) (τ : List Slot) (s : S) : Out S Bool :=
  match (ev P call mk e (τ.map Slot.frz) s).bind fun x τ s => truV P call x τ s with
  | .ok b _ s' => .ok b τ s'
  | x => x
def augV (o : Operator) (x y : D) (τ : List Slot) (s : S) : Out S D :=
  match x with
  | .int _ => match y with
    | .int _ => match o with
      | .Add => binV P call o x y τ s
      | .Sub => binV P call o x y τ s
      | .Mult => binV P call o x y τ s
      | _ => .no
    | _ => .no
  | .ins _ _ => binV P call o x y τ s
  | _ => .no
def evV : CV → List Slot → S → Out S Slot
  | .f e, τ, s => (ev P call mk e τ s).bind fun d τ s => .ok (.fz d) τ s
  | .w w, τ, s => (evW P call mk w τ s).bind fun ds τ s => .ok (.own ds) τ s
  | .x e, τ, s => (evX P call mk true e τ s).bind fun d τ s => .ok (.fz d) τ s

def whileL (c : List Slot → S → Out S Bool) (b : List Slot → S → Out S Fl) : Nat → List Slot → S → Out S Fl
  | 0, _, _ => .no
  | n + 1, τ, s => (c τ s).bind fun t τ s => bif t then (b τ s).bind fun f τ s => match f with
      | .next => whileL c b n τ s
      | .cont => whileL c b n τ s
      | .brk => .ok .next τ s
      | .ret d => .ok (.ret d) τ s
    else .ok .next τ s
def forL (b : D → List Slot → S → Out S Fl) : List D → List Slot → S → Out S Fl
  | [], τ, s => .ok .next τ s
  | d :: r, τ, s => (b d τ s).bind fun f τ s => match f with
      | .next => forL b r τ s
      | .cont => forL b r τ s
      | .brk => .ok .next τ s
      | .ret d => .ok (.ret d) τ s
def wfuel : Nat := 1000000

mutual
def ex : CS → List Slot → S → Out S Fl
  | .never, _, _ => .no
  | .pass, τ, s => .ok .next τ s
  | .expr th e, τ, s => (evX P call mk th e τ s).bind fun _ τ s => .ok .next τ s
  | .ret e, τ, s => (ev P call mk e τ s).bind fun d τ s => .ok (.ret d) τ s
  | .retN, τ, s => .ok (.ret .non) τ s
  | .set i th e, τ, s => (evX P call mk th e τ s).bind fun d τ s => .ok .next (τ.set i (.fz d)) s
  | .own i w, τ, s => (evW P call mk w τ s).bind fun ds τ s => .ok .next (τ.set i (.own ds)) s
  | .par2 i j a b, τ, s => (evV P call mk a τ s).bind fun x τ s => (evV P call mk b τ s).bind fun y τ s => bif i == j then .no else .ok .next ((τ.set i x).set j y) s
  | .unpack is e, τ, s => (ev P call mk e τ s).bind fun d τ s => match bindT (.many is) d τ with
    | some τ => .ok .next τ s
    | none => .no
  | .aug i o th e, τ, s => match τ[i]? with
    | some (.fz x) => (evX P call mk th e τ s).bind fun y τ s => (augV P call o x y τ s).bind fun z τ s => .ok .next (τ.set i (.fz z)) s
    | _ => .no
  | .ite c a b, τ, s => (evTs P call mk c τ s).bind fun t τ s => bif t then exs a τ s else exs b τ s
  | .while c b, τ, s => whileL (fun τ s => evTs P call mk c τ s) (fun τ s => exs b τ s) wfuel τ s
  | .for tg it b, τ, s => (evI P call mk it τ s).bind fun ds τ s => forL (fun d τ s => match bindT tg d τ with
      | some τ => exs b τ s
      | none => .no) ds τ s
  | .brk, τ, s => .ok .brk τ s
  | .cont, τ, s => .ok .cont τ s
  | .tryR b c i e, τ, s => match exs b τ s with
    | .exc k fs τ' s' => bif (P.exc k).isSome && (P.exc c).isSome && decide (i < τ'.length) then bif P.sub k c then (match ev P call mk e (τ'.set i (.fz (.xin k fs))) s' with
        | .ok d τ2 s2 => .ok (.ret d) τ2 s2
        | _ => .no) else .exc k fs τ' s' else .no
    | r => r
  | .tryK b c i j, τ, s => match exs b τ s with
    | .exc k fs τ' s' => bif (P.exc k).isSome && (P.exc c).isSome && decide (i < τ'.length) then bif P.sub k c then .ok .next ((τ'.set j (.fz (.xin k fs))).set i .none) s' else .exc k fs τ' s' else .no
    | r => r
  | .raise c es, τ, s => (evA P call mk es τ s).bind fun ds τ s => bif P.exc c == some ds.length then .exc c ds.reverse τ s else .no
  | .append i th e, τ, s => match τ[i]? with
    | some (.own _) => (evX P call mk th e τ s).bind fun d τ s => match τ[i]? with
      | some (.own ds) => bif lim (ds.length + 1) then .ok .next (τ.set i (.own (ds ++ [d]))) s else .no
      | _ => .no
    | _ => .no
  | .pop i, τ, s => match τ[i]? with
    | some (.own ds) => bif ds.isEmpty then .no else .ok .next (τ.set i (.own ds.dropLast)) s
    | _ => .no
  | .setFld m e, τ, s => (ev P call mk e τ s).bind fun d τ s => match (τ[0]? : Option Slot) with
    | some (.ownI c ds) => match P.attr c m with
      | .fld k => bif ds.length == k then .ok .next (τ.set 0 (.ownI c (ds ++ [d]))) s else .no
      | _ => .no
    | _ => .no
  | .pset i k e, τ, s => (ev P call mk e τ s).bind fun d τ s => match τ[i]? with
    | some (.fz .pen) => match Pen.put k d s with
      | some s' => .ok .next τ s'
      | none => .no
    | _ => .no
  | .par3 i j l a b c, τ, s => (ev P call mk a τ s).bind fun x τ s => (ev P call mk b τ s).bind fun y τ s => (ev P call mk c τ s).bind fun z τ s => bif i == j || i == l || j == l then .no else .ok .next (((τ.set i (.fz x)).set j (.fz y)).set l (.fz z)) s
  | .copy j i, τ, s => match τ[i]? with
    | some (.own ds) => .ok .next (τ.set j (.fz (.lst ds))) s
    | _ => .no
  | .popTo j i, τ, s => match τ[i]? with
    | some (.own ds) => match ds.getLast? with
      | some d => bif i == j then .no else .ok .next ((τ.set i (.own ds.dropLast)).set j (.fz d)) s
      | none => .no
    | _ => .no
  | .setIx i th a e, τ, s => (evX P call mk th e τ s).bind fun d τ s => match τ[i]? with
    | some (.own _) => (evX P call mk true a τ s).bind fun x τ s => match τ[i]? with
      | some (.own ds) => match x with
        | .int k => bif decide (0 ≤ k) && decide (k < ds.length) then .ok .next (τ.set i (.own (ds.set k.toNat d))) s else .no
        | _ => .no
      | _ => .no
    | _ => .no
  | .ins0 i th e, τ, s => match τ[i]? with
    | some (.own _) => (evX P call mk th e τ s).bind fun d τ s => match τ[i]? with
      | some (.own ds) => bif lim (ds.length + 1) then .ok .next (τ.set i (.own (d :: ds))) s else .no
      | _ => .no
    | _ => .no
  | .ext i e, τ, s => match τ[i]? with
    | some (.own _) => (ev P call mk e τ s).bind fun x τ s => match τ[i]? with
      | some (.own ds) => match x with
        | .lst xs => bif lim (ds.length + xs.length) then .ok .next (τ.set i (.own (ds ++ xs))) s else .no
        | _ => .no
      | _ => .no
    | _ => .no
  | .popAt j i th e, τ, s => match τ[i]? with
    | some (.own _) => (evX P call mk th e τ s).bind fun x τ s => match τ[i]? with
      | some (.own ds) => match x with
        | .int k => bif decide (0 ≤ k) && decide (k < ds.length) && lim ds.length && !(i == j) then match ds[k.toNat]? with
          | some d => .ok .next ((τ.set i (.own (ds.eraseIdx k.toNat))).set j (.fz d)) s
          | none => .no else .no
        | _ => .no
      | _ => .no
    | _ => .no
  | .clr i, τ, s => match τ[i]? with
    | some (.own _) => .ok .next (τ.set i (.own [])) s
    | _ => .no
def exs : CSs → List Slot → S → Out S Fl
  | .nil, τ, s => .ok .next τ s
  | .cons a r, τ, s => (ex a τ s).bind fun f τ s => match f with
    | .next => exs r τ s
    | f => .ok f τ s
end
end

/-- a def: how many positional parameters, whether *rest follows, the defaults of the last ones, how many slots, its body -/
structure Fn where
  np : Nat
  star : Bool
  dfl : List D
  ns : Nat
  body : CSs
/-- a def of the table: by its body, or by a given function -/
inductive FnD (S : Type) where
  | code (f : Fn)
  | ext (g : List D → S → CRes S)
  | lamb (f : Fn)
  | none

def bindF (f : Fn) (ds : List D) : Option (List D) :=
  match f.star with
  | false => bif decide (ds.length ≤ f.np) && decide (f.np ≤ ds.length + f.dfl.length) then some (ds ++ f.dfl.drop (ds.length + f.dfl.length - f.np)) else none
  | true => bif decide (f.np ≤ ds.length) && lim ds.length then some (ds.take f.np ++ [.tup (ds.drop f.np)]) else none
def start' (n : Nat) (ds : List D) : List Slot := ds.map .fz ++ List.replicate (n - ds.length) .none
def runF {S : Type} [Pen S] (P : Pt) (call mk : Nat → List D → S → CRes S) (f : Fn) (ds : List D) (s : S) : CRes S :=
  match bindF f ds with
  | none => .no
  | some xs => match exs P call mk f.body (start' f.ns xs) s with
    | .ok .next _ s => .ok .non s
    | .ok (.ret d) _ s => .ok d s
    | .ok _ _ _ => .no
    | .exc c fs _ s => .exc c fs s
    | .no => .no
/-- the instance that a making leaves -/
def madeI {S : Type} (τ : List Slot) (s : S) : CRes S :=
  match (τ[0]? : Option Slot) with
  | some (.ownI c fs) => .ok (.ins c fs) s
  | _ => .no
/-- C(..): the instance is the def's first slot, owned -/
def runI {S : Type} [Pen S] (P : Pt) (call mk : Nat → List D → S → CRes S) (f : Fn) (c : Nat) (ds : List D) (s : S) : CRes S :=
  match bindF f (.non :: ds) with
  | some (_ :: xs) => match exs P call mk f.body (.ownI c [] :: start' (f.ns - 1) xs) s with
    | .ok .next τ s => madeI τ s
    | .ok (.ret .non) τ s => madeI τ s
    | .exc c fs _ s => .exc c fs s
    | _ => .no
  | _ => .no

/-- a lambda's outcome, told -/
def decO {S : Type} (s : S) : List D → CRes S
  | [.dct (_ :: _) [], .bl true, d] => .ok d s
  | [.dct (_ :: _) [], .bl false, .int c, .tup fs] => .exc c.toNat fs s
  | _ => .no
def isAsk (a : Addr) : List D → Bool
  | [.dct (_ :: _) [], .opq (.ref b)] => decide (b = a)
  | _ => false
/-- in a def that got the lambda at a: nothing is called but it -/
def callA {S : Type} [Pen S] (o : CRes S) (s0 : S) (a : Addr) : Nat → List D → S → CRes S := fun f ds s => bif f == askId && isAsk a ds && Pen.same s s0 then o else .no
def makeA {S : Type} : Nat → List D → S → CRes S := fun _ _ _ => .no
open Classical in
/-- a def that calls a lambda: what it answers wherever the lambda lies -/
noncomputable def runL {S : Type} [Pen S] (P : Pt) (f : Fn) (ds : List D) (s : S) : CRes S :=
  if h : ∃ r, (∀ a : Addr, runF P (callA (decO s ds) s a) makeA f [.opq (.ref a)] s = r) ∧ decO s ds ≠ .no then h.choose else .no
/-- the program: its table, its defs -/
structure Prg (S : Type) extends Pt where
  fn : Nat → FnD S
mutual
noncomputable def callN {S : Type} [Pen S] (G : Prg S) : Nat → Nat → List D → S → CRes S
  | 0, _, _, _ => .no
  | n + 1, f, ds, s => match G.fn f with
    | .code b => runF G.toPt (callN G n) (mkN G n) b ds s
    | .ext g => g ds s
    | .lamb b => runL G.toPt b ds s
    | .none => .no
noncomputable def mkN {S : Type} [Pen S] (G : Prg S) : Nat → Nat → List D → S → CRes S
  | 0, _, _, _ => .no
  | n + 1, c, ds, s => match G.init c with
    | some f => match G.fn f with
      | .code b => runI G.toPt (callN G n) (mkN G n) b c ds s
      | _ => .no
    | none => .no
end
end Rz
namespace Rz
open PySem L2
theorem runL_eq {S : Type} [Pen S] {P : Pt} {f : Fn} {ds : List D} {s : S} {r : CRes S} (h : ∀ a : Addr, runF P (callA (decO s ds) s a) makeA f [.opq (.ref a)] s = r) (n : decO s ds ≠ .no) : runL P f ds s = r := by
  unfold runL
  have e : ∃ r, (∀ a : Addr, runF P (callA (decO s ds) s a) makeA f [.opq (.ref a)] s = r) ∧ decO s ds ≠ .no := ⟨r, h, n⟩
  rw [dif_pos e]
  exact (e.choose_spec.1 0).symm.trans (h 0)
theorem runL_at {S : Type} [Pen S] {P : Pt} {f : Fn} {ds : List D} {s : S} (h : runL P f ds s ≠ .no) (a : Addr) : runF P (callA (decO s ds) s a) makeA f [.opq (.ref a)] s = runL P f ds s ∧ decO s ds ≠ .no := by
  unfold runL at h ⊢
  by_cases e : ∃ r, (∀ a : Addr, runF P (callA (decO s ds) s a) makeA f [.opq (.ref a)] s = r) ∧ decO s ds ≠ .no
  · rw [dif_pos e]; exact ⟨e.choose_spec.1 a, e.choose_spec.2⟩
  · rw [dif_neg e] at h; exact absurd rfl h
end Rz
end

section
set_option autoImplicit false
set_option Elab.async false
set_option linter.all false
set_option maxHeartbeats 2000000
set_option maxRecDepth 100000
/-! a, b = a list. -/
namespace PySem
namespace UnpL
section
variable {prog : Program} {w : World} {A : Around} {E : Value → Shared → Prop}
theorem draw_list {it t : Addr} {items : Array Value} (hne : t ≠ it) : ∀ (n i : Nat) (s : Shared) (Q : List Value → Shared → Prop), s.heap.IsListIter it t i → s.heap.IsList t items → i + n ≤ items.size →
    (∀ h', h'.IsListIter it t (i + n) → Heap.SameBut it s.heap h' → Q ((items.toList.drop i).take n) { s with heap := h' }) → wpAny (model prog w) A (draw (.ref it) n) Q E s
  | 0, i, s, Q, hit, _, _, hQ => by
    show wpAny _ _ (pure []) Q E s
    exact wpAny_pure (by simpa using hQ s.heap hit (Heap.SameBut.refl ..))
  | n + 1, i, s, Q, hit, ht, hle, hQ => by
    have hlt : i < items.size := by omega
    show wpAny _ _ (pyNext (.ref it) >>= _) Q E s
    refine wpAny_bind (wpAny_pyNext_list_item hit ht (x := items[i]) (by simp [hlt]) fun h₁ hit₁ hs₁ => ?_)
    refine wpAny_bind (wpAny_holding (draw_list hne n (i + 1) _ _ hit₁ (ht.extBut hs₁.extBut hne) (by omega) fun h₂ hit₂ hs₂ => wpAny_pure ?_))
    have hd : items.toList.drop i = items[i] :: items.toList.drop (i + 1) := by simp [List.drop_eq_getElem_cons, hlt]
    have := hQ h₂ (by rw [show i + (n + 1) = i + 1 + n by omega]; exact hit₂) (hs₁.trans hs₂)
    rw [hd, List.take_succ_cons] at this
    exact this
theorem items_list {t : Addr} {items : Array Value} {s : Shared} {Q : List Value → Shared → Prop} (hh : A.handled = none) (ht : s.heap.IsList t items)
    (hQ : ∀ h', Heap.ExtBut s.heap.objs.size s.heap h' → Q items.toList { s with heap := h' }) : wpAny (model prog w) A (unpackItems (.ref t) items.size none) Q E s := by
  have hlt : t ≠ s.heap.objs.size := by obtain ⟨o, ho, _⟩ := ht; exact Nat.ne_of_lt (Heap.lt_size ho)
  unfold unpackItems
  refine wpAny_bind ?_
  · unfold notIterableAtAll
    refine wpAny_bind (wpAny_specialOf ht.typeIs slot_list_iter.lookup ?_)
    refine wpAny_pure ?_
    simp only [Bool.false_eq_true, if_false]
    refine wpAny_bind (wpAny_holding (wpAny_pyIter_list ht ?_))
    refine wpAny_bind (wpAny_holding (draw_list hlt items.size 0 _ _ ⟨_, Heap.get?_push_size _ rfl, rfl, rfl⟩ (ht.push _) (by omega) fun h₁ hit₁ hs₁ => ?_))
    have hall : List.take items.size (List.drop 0 items.toList) = items.toList := by
      rw [List.drop_zero]; exact List.take_of_length_le (by simp)
    rw [hall]
    rw [if_neg (by simp)]
    have ht₁ : h₁.IsList t items := (ht.push _).extBut hs₁.extBut hlt
    refine wpAny_bind (wpAny_holding (wpAny_pyNext_list_end hh hit₁ ht₁ (by simp) fun h₂ he₂ => ?_))
    simp only [Option.isSome_none, Bool.false_eq_true, if_false]
    refine wpAny_pure (hQ h₂ fun b o hb e => he₂ b o hb (hs₁.extBut b o hb (Heap.get?_push_of_some _ e)))
theorem assign_list {env : Env} {elts : List Expr} {x1} {pos : Pos} {t : Addr} {items : Array Value} {s : Shared} {Q : Unit → Shared → Prop} (hh : A.handled = none) (ht : s.heap.IsList t items)
    (hn : (assignEach elts env).length = items.size) (hstar : (assignEach elts env).findIdx? (·.1) = none)
    (h : ∀ h', Heap.ExtBut s.heap.objs.size s.heap h' → wpAny (model prog w) A (assignInOrder ((assignEach elts env).map (·.2)) items.toList) Q E { s with heap := h' }) :
    wpAny (model prog w) A (assign (.Tuple elts x1 pos) env (.ref t)) Q E s := by
  rw [arm_assign_Tuple]
  refine wpAny_bind (wpAny_standAt ?_)
  unfold unpack
  rw [hn, hstar]
  exact wpAny_bind (wpAny_holding (items_list hh ht h))
end
end UnpL
end PySem
namespace Rz
open PySem L2
/-- (a, b, ..) = a tuple or a list of that length -/
def gTupS (K : PySem.W.Frag) (n : Nat) (t : TGs) : TG := fun v σ H Q => ∃ a xs, v = .ref a ∧ (SqT K H a xs ∨ H a = some (.lst xs)) ∧ xs.length = n ∧ t xs σ H Q
theorem pg_tupS {X : Cx} {pos : Pos} {es : List Expr} {k : Nat} {t : TGs} {n : Nat} (hc : X.calm = true) (h : PGs X es t)
    (hn : (assignEach es X.env).length = n) (hst : (assignEach es X.env).findIdx? (·.1) = none) : PG X (.Tuple es k pos) (gTupS X.K n t) := by
  refine ⟨fun pins s σ H v u Q I r hw => ?_⟩
  obtain ⟨a, xs, e1, hq | hq, hl, hw⟩ := hw
  · exact (pg_tup (k := k) (pos := pos) hc h hn hst).run pins s σ H v u Q I r ⟨a, xs, e1, hq, hl, hw⟩
  · subst e1
    cases r
    obtain ⟨its, rv, ⟨o, n', ho, hcl, _, hd⟩, hz⟩ := I.list (SqL.of (K := X.K) hq)
    refine PySem.UnpL.assign_list (I.ok.hd hc) (items := its.toArray) ⟨o, ho, hcl, n', hd⟩ (by simp [hn, ← hl, rv.length]) hst fun h' hx => ?_
    have I1 : Inv X pins σ H { s with heap := h' } := I.kept (t' := s.toks) fun b o e => hx b o (Nat.ne_of_lt (Heap.lt_size e)) e
    exact h.run pins _ σ H xs _ Q I1 (by simpa using rv) hw
end Rz
end

section
set_option Elab.async false
set_option linter.all false
set_option maxHeartbeats 1000000
/-! Data represented in the abstract heap; the state's relation; readings. -/
namespace Rz
open PySem L2

structure Tb where
  K : PySem.W.Frag
  cA : Nat → Addr
  fld : Nat → List Str
  fA : Nat → Addr
  pen : Addr
  tabs : List (Addr × Str)

abbrev Sub (F H : Hp) : Prop := ∀ a o, F a = some o → H a = some o
theorem Sub.refl (F : Hp) : Sub F F := fun _ _ h => h
theorem Sub.trans {F G H : Hp} (a : Sub F G) (b : Sub G H) : Sub F H := fun x o h => b x o (a x o h)
theorem Sub.new {H : Hp} {p : Addr} {o : HO} (h : H p = none) : Sub H (upd H p o) := fun a u e => by
  rw [upd_ne (ne_of_none e h)]; exact e
theorem Sub.none {F H : Hp} {a : Addr} (s : Sub F H) (h : H a = none) : F a = none := by
  cases e : F a with
  | none => rfl
  | some o => rw [s a o e] at h; cases h
theorem Sub.sqT {K : PySem.W.Frag} {F H : Hp} {a : Addr} {xs : List V} (s : Sub F H) (h : SqT K F a xs) : SqT K H a xs := by
  rcases h with (h | ⟨o, h⟩) | h
  · exact .inl (.inl (s _ _ h))
  · exact .inl (.inr ⟨o, s _ _ h⟩)
  · exact .inr h

/-- at a: an error of a class with its dict -/
def exG (a : Addr) (cls : Value) (d : Option Addr) : HO := .ext fun h => ∃ (oe : Obj) (vs : Array Value), h.get? a = some oe ∧ oe.data = .fields vs ∧ Zc cls d oe
mutual
def Rep (T : Tb) (F : Hp) : D → V → Prop
  | .non, v => v = .non
  | .bl b, v => v = .bl b
  | .int i, v => v = .int i
  | .str z, v => v = .str z
  | .tup ds, v => ∃ a vs, v = .ref a ∧ SqT T.K F a vs ∧ RepL T F ds vs
  | .lst ds, v => ∃ a vs, v = .ref a ∧ F a = some (.lst vs) ∧ RepL T F ds vs
  | .ins c ds, v => ∃ a dx vs, v = .ref a ∧ F a = some (.ins (T.cA c) dx ((T.fld c).zip vs)) ∧ ds.length ≤ (T.fld c).length ∧ RepL T F ds vs
  | .xin c ds, v => ∃ a od, v = .ref a ∧ F a = some (exG a (.ref (T.cA c)) od) ∧ ((od = none ∧ ds = []) ∨ ∃ dd vs, od = some dd ∧ F dd = some (.xd ((T.fld c).zip vs)) ∧ ds.length ≤ (T.fld c).length ∧ RepL T F ds vs)
  | .dct ks ds, v => ∃ a vs, v = .ref a ∧ F a = some (.dK (ks.zip vs)) ∧ ks.length = ds.length ∧ RepL T F ds vs
  | .cls c, v => v = .ref (T.cA c)
  | .ty n, v => v = .ty n
  | .fn f, v => v = .ref (T.fA f)
  | .pen, v => v = .ref T.pen
  | .opq u, v => v = u
def RepL (T : Tb) (F : Hp) : List D → List V → Prop
  | [], vs => vs = []
  | d :: ds, vs => ∃ v r, vs = v :: r ∧ Rep T F d v ∧ RepL T F ds r
end

mutual
theorem Rep.mono {T : Tb} {F F' : Hp} (s : Sub F F') : ∀ {d : D} {v : V}, Rep T F d v → Rep T F' d v
  | .non, _, h => h
  | .bl _, _, h => h
  | .int _, _, h => h
  | .str _, _, h => h
  | .tup ds, _, ⟨a, vs, e, q, r⟩ => ⟨a, vs, e, s.sqT q, RepL.mono s r⟩
  | .lst ds, _, ⟨a, vs, e, q, r⟩ => ⟨a, vs, e, s _ _ q, RepL.mono s r⟩
  | .ins c ds, _, ⟨a, dx, vs, e, q, l, r⟩ => ⟨a, dx, vs, e, s _ _ q, l, RepL.mono s r⟩
  | .xin c ds, _, ⟨a, od, e, q, h⟩ => ⟨a, od, e, s _ _ q, h.elim .inl fun ⟨dd, vs, e1, e2, l, r⟩ => .inr ⟨dd, vs, e1, s _ _ e2, l, RepL.mono s r⟩⟩
  | .dct ks ds, _, ⟨a, vs, e, q, l, r⟩ => ⟨a, vs, e, s _ _ q, l, RepL.mono s r⟩
  | .cls _, _, h => h
  | .ty _, _, h => h
  | .fn _, _, h => h
  | .pen, _, h => h
  | .opq _, _, h => h
theorem RepL.mono {T : Tb} {F F' : Hp} (s : Sub F F') : ∀ {ds : List D} {vs : List V}, RepL T F ds vs → RepL T F' ds vs
  | [], _, h => h
  | d :: ds, _, ⟨v, r, e, h, t⟩ => ⟨v, r, e, Rep.mono s h, RepL.mono s t⟩
end
section
variable {T : Tb} {F : Hp}
theorem RepL.length : ∀ {ds : List D} {vs : List V}, RepL T F ds vs → vs.length = ds.length
  | [], _, h => by cases h; rfl
  | d :: ds, _, ⟨v, r, e, _, t⟩ => by subst e; simp [RepL.length t]
theorem RepL.append : ∀ {ds es : List D} {vs ws : List V}, RepL T F ds vs → RepL T F es ws → RepL T F (ds ++ es) (vs ++ ws)
  | [], _, _, _, h, k => by cases h; exact k
  | d :: ds, _, _, _, ⟨v, r, e, h, t⟩, k => by subst e; exact ⟨v, _, rfl, h, RepL.append t k⟩
theorem RepL.get : ∀ {ds : List D} {vs : List V} {i : Nat} {d : D}, RepL T F ds vs → ds[i]? = some d → ∃ v, vs[i]? = some v ∧ Rep T F d v
  | [], _, _, _, _, e => by simp at e
  | x :: ds, _, 0, d, ⟨v, r, e, h, _⟩, q => by
    subst e
    simp at q; subst q
    exact ⟨v, rfl, h⟩
  | x :: ds, _, i + 1, d, ⟨v, r, e, _, t⟩, q => by
    subst e
    obtain ⟨w, h1, h2⟩ := RepL.get (i := i) t (by simpa using q)
    exact ⟨w, by simpa using h1, h2⟩
theorem RepL.take : ∀ {ds : List D} {vs : List V} (n : Nat), RepL T F ds vs → RepL T F (ds.take n) (vs.take n)
  | _, _, 0, _ => by simp [RepL]
  | [], _, _ + 1, h => by cases h; simp [RepL]
  | d :: ds, _, n + 1, ⟨v, r, e, h, t⟩ => by subst e; exact ⟨v, _, rfl, h, RepL.take n t⟩
theorem RepL.drop : ∀ {ds : List D} {vs : List V} (n : Nat), RepL T F ds vs → RepL T F (ds.drop n) (vs.drop n)
  | _, _, 0, h => h
  | [], _, _ + 1, h => by cases h; simp [RepL]
  | d :: ds, _, n + 1, ⟨v, r, e, h, t⟩ => by subst e; exact RepL.drop n t
theorem RepL.cons {d : D} {ds : List D} {v : V} {vs : List V} (h : Rep T F d v) (t : RepL T F ds vs) : RepL T F (d :: ds) (v :: vs) := ⟨v, vs, rfl, h, t⟩
theorem RepL.one {d : D} {v : V} (h : Rep T F d v) : RepL T F [d] [v] := ⟨v, [], rfl, h, rfl⟩
theorem RepL.two {d e : D} {v w : V} (h : Rep T F d v) (k : Rep T F e w) : RepL T F [d, e] [v, w] := ⟨v, [w], rfl, h, RepL.one k⟩
end

/-- the pen: its object by its state, what holds of the frozen part -/
structure Pn (S : Type) where
  obj : S → HO
  inv : Hp → S → Prop
  mono : ∀ F F' s, Sub F F' → inv F s → inv F' s
  mid : ∀ F F' F'' s s', Sub F F'' → inv F s → inv F' s' → inv F'' s'

/-- an object that a slot owns -/
def OwnO (T : Tb) (F : Hp) (ob : HO) : Slot → Prop
  | .own ds => ∃ vs, ob = .lst vs ∧ RepL T F ds vs
  | .ownI c ds => ∃ dx vs, ob = .ins (T.cA c) dx ((T.fld c).zip vs) ∧ ds.length ≤ (T.fld c).length ∧ RepL T F ds vs
  | _ => False
def Slot.isOwn : Slot → Bool
  | .own _ => true
  | .ownI _ _ => true
  | _ => false
/-- the frame: what stands outside, the instance that is being made -/
structure Fm where
  g : Hp
  slf : Addr
instance : CoeFun Fm (fun _ => Addr → Option HO) := ⟨Fm.g⟩
def Fm.upd (G : Fm) (p : Addr) (o : HO) : Fm := ⟨L2.upd G.g p o, G.slf⟩
theorem Fm.upd_same {G : Fm} {p : Addr} {o : HO} : (G.upd p o) p = some o := L2.upd_same
theorem Fm.upd_ne {G : Fm} {p a : Addr} {o : HO} (h : a ≠ p) : (G.upd p o) a = G a := L2.upd_ne h
def SlotOk (T : Tb) (G : Fm) (F H : Hp) (x : Option V) : Slot → Prop
  | .none => True
  | .fz d => ∃ v, x = some v ∧ Rep T F d v
  | .own ds => ∃ a ob, x = some (.ref a) ∧ H a = some ob ∧ F a = none ∧ G a = none ∧ a ≠ T.pen ∧ OwnO T F ob (.own ds)
  | .ownI c ds => ∃ a ob, x = some (.ref a) ∧ H a = some ob ∧ F a = none ∧ (G a = none ∧ a = G.slf) ∧ a ≠ T.pen ∧ OwnO T F ob (.ownI c ds)

/-- a table of code objects: all of one name, told in the frozen part -/
def TabF (F : Hp) (ps : Array Value) (q : Str) : Prop := TriplesOk ps.toList ∧ ∀ (pos : Pos) (cv : Value), codeAmong pos ps.toList = some cv → ∃ c, cv = .ref c ∧ F c = some (LamX.CodeO c q)
theorem TabF.mono {F F' : Hp} {ps : Array Value} {q : Str} (h : TabF F ps q) (s : Sub F F') : TabF F' ps q := ⟨h.1, fun pos cv e => let ⟨c, e1, e2⟩ := h.2 pos cv e; ⟨c, e1, s _ _ e2⟩⟩
/-- the tables of the program -/
def TabsH (T : Tb) (F H : Hp) : Prop := ∀ p ∈ T.tabs, p.1 ≠ T.pen ∧ F p.1 = none ∧ ∃ ps, H p.1 = some (.tbl ps) ∧ TabF F ps p.2
theorem TabsH.ext {T : Tb} {F F' H H' : Hp} (h : TabsH T F H) (s : Sub F F') (n : ∀ p ∈ T.tabs, F' p.1 = none) (k : ∀ p ∈ T.tabs, ∀ o, H p.1 = some o → H' p.1 = some o) : TabsH T F' H' := fun p hp => by
  obtain ⟨h1, _, ps, h3, h4⟩ := h p hp
  exact ⟨h1, n p hp, ps, k p hp _ h3, h4.mono s⟩
theorem TabsH.ne {T : Tb} {F H : Hp} (h : TabsH T F H) {p : Addr × Str} (hp : p ∈ T.tabs) {a : Addr} {o : HO} (ha : H a = some o) (ho : ∀ ps, o ≠ .tbl ps) : p.1 ≠ a := fun z => by
  obtain ⟨_, _, ps, h3, _⟩ := h p hp
  rw [z, ha] at h3
  exact ho ps (Option.some.inj h3)
theorem TabsH.neN {T : Tb} {F H : Hp} (h : TabsH T F H) {p : Addr × Str} (hp : p ∈ T.tabs) {a : Addr} (ha : H a = none) : p.1 ≠ a := fun z => by
  obtain ⟨_, _, ps, h3, _⟩ := h p hp
  rw [z, ha] at h3
  cases h3
theorem TabsH.neF {T : Tb} {F H : Hp} (h : TabsH T F H) {p : Addr × Str} (hp : p ∈ T.tabs) {a : Addr} {o : HO} (ha : F a = some o) : p.1 ≠ a := fun z => by
  obtain ⟨_, h2, _⟩ := h p hp
  rw [z, ha] at h2
  cases h2
theorem TabsH.nil {T : Tb} {F H : Hp} (h : T.tabs = []) : TabsH T F H := fun p hp => by rw [h] at hp; cases hp
theorem OwnO.tbl {T : Tb} {F : Hp} {ob : HO} : ∀ {x : Slot}, OwnO T F ob x → ∀ ps, ob ≠ .tbl ps
  | .none, h => h.elim
  | .fz _, h => h.elim
  | .own _, ⟨vs, e, r⟩ => fun ps z => by rw [e] at z; cases z
  | .ownI _ _, ⟨dx, vs, e, l, r⟩ => fun ps z => by rw [e] at z; cases z
theorem OwnO.code {T : Tb} {F : Hp} {ob : HO} : ∀ {x : Slot}, OwnO T F ob x → ∀ (c : Addr) (q : Str), ob ≠ LamX.CodeO c q
  | .none, h => h.elim
  | .fz _, h => h.elim
  | .own _, ⟨vs, e, r⟩ => fun c q z => by rw [e] at z; unfold LamX.CodeO at z; cases z
  | .ownI _ _, ⟨dx, vs, e, l, r⟩ => fun c q z => by rw [e] at z; unfold LamX.CodeO at z; cases z
structure SR {S : Type} (T : Tb) (pn : Pn S) (G : Fm) (F H : Hp) (σ : L2.St) (τ : List Slot) (s : S) : Prop where
  fh : Sub F H
  pen : H T.pen = some (pn.obj s)
  penF : F T.pen = none
  pinv : pn.inv F s
  gh : ∀ a o, G a = some o → H a = some o ∧ F a = none ∧ a ≠ T.pen
  len : σ.length = τ.length
  sl : ∀ i x, τ[i]? = some x → SlotOk T G F H (σ.getD i none) x
  ap : ∀ i j x y a, i ≠ j → τ[i]? = some x → τ[j]? = some y → x.isOwn = true → y.isOwn = true → σ.getD i none = some (.ref a) → σ.getD j none = some (.ref a) → False
  tb : TabsH T F H
  tg : ∀ p ∈ T.tabs, G p.1 = none

theorem OwnO.mono {T : Tb} {F F' : Hp} {ob : HO} (s : Sub F F') : ∀ {x : Slot}, OwnO T F ob x → OwnO T F' ob x
  | .none, h => h
  | .fz _, h => h
  | .own _, ⟨vs, e, r⟩ => ⟨vs, e, r.mono s⟩
  | .ownI _ _, ⟨dx, vs, e, l, r⟩ => ⟨dx, vs, e, l, r.mono s⟩

section
variable {S : Type} [Pen S] {T : Tb} {pn : Pn S} {G : Fm} {F H : Hp} {σ : L2.St} {τ : List Slot} {s : S}
theorem SR.gfree (h : SR T pn G F H σ τ s) {p : Addr} (hp : H p = none) : G p = none := by
  cases e : G p with
  | none => rfl
  | some o => rw [(h.gh p o e).1] at hp; cases hp
/-- the heap grows, the frozen part grows by new objects alone -/
theorem SR.grow (h : SR T pn G F H σ τ s) {F' H' : Hp} (hF : Sub F F') (hH : Sub H H') (fh : Sub F' H') (new : ∀ a o, F' a = some o → F a = some o ∨ H a = none) : SR T pn G F' H' σ τ s := by
  have nF : ∀ {a : Addr} {o : HO}, H a = some o → F a = none → F' a = none := fun {a o} e n => by
    cases q : F' a with
    | none => rfl
    | some u =>
      rcases new a u q with z | z
      · rw [n] at z; cases z
      · rw [e] at z; cases z
  refine ⟨fh, hH _ _ h.pen, nF h.pen h.penF, pn.mono _ _ _ hF h.pinv, fun a o e => ?_, h.len, fun i x e => ?_, h.ap, h.tb.ext hF (fun p hp => let ⟨_, h2, _, h3, _⟩ := h.tb p hp; nF h3 h2) (fun p hp o e => hH _ _ e), h.tg⟩
  · obtain ⟨a1, a2, a3⟩ := h.gh a o e
    exact ⟨hH _ _ a1, nF a1 a2, a3⟩
  · have q := h.sl i x e
    cases x with
    | none => trivial
    | fz d => obtain ⟨v, e1, r⟩ := q; exact ⟨v, e1, r.mono hF⟩
    | own ds => obtain ⟨a, ob, e1, e2, e3, e4, e5, o⟩ := q; exact ⟨a, ob, e1, hH _ _ e2, nF e2 e3, e4, e5, o.mono hF⟩
    | ownI c ds => obtain ⟨a, ob, e1, e2, e3, e4, e5, o⟩ := q; exact ⟨a, ob, e1, hH _ _ e2, nF e2 e3, e4, e5, o.mono hF⟩
/-- a new frozen object -/
theorem SR.new (h : SR T pn G F H σ τ s) {p : Addr} {o : HO} (hp : H p = none) : SR T pn G (upd F p o) (upd H p o) σ τ s := by
  have hF : F p = none := h.fh.none hp
  refine h.grow (Sub.new hF) (Sub.new hp) (fun a u e => ?_) fun a u e => ?_
  · by_cases z : a = p
    · subst z; rw [upd_same] at e ⊢; exact e
    · rw [upd_ne z] at e ⊢; exact h.fh a u e
  · by_cases z : a = p
    · subst z; exact .inr hp
    · rw [upd_ne z] at e; exact .inl e
/-- a new object, not frozen -/
theorem SR.newU (h : SR T pn G F H σ τ s) {p : Addr} {o : HO} (hp : H p = none) : SR T pn G F (upd H p o) σ τ s :=
  h.grow (Sub.refl F) (Sub.new hp) (h.fh.trans (Sub.new hp)) fun a o e => .inl e
/-- what a slot owns is no table -/
theorem SR.ownT (h : SR T pn G F H σ τ s) {i : Nat} {x : Slot} {a : Addr} (hx : τ[i]? = some x) (ho : x.isOwn = true) (ha : σ.getD i none = some (.ref a)) : ∀ p ∈ T.tabs, p.1 ≠ a := fun p hp => by
  have q := h.sl i x hx
  cases x with
  | none => cases ho
  | fz d => cases ho
  | own ds =>
    obtain ⟨b, ob, e1, e2, _, _, _, o⟩ := q
    rw [ha] at e1; cases e1
    exact h.tb.ne hp e2 o.tbl
  | ownI c ds =>
    obtain ⟨b, ob, e1, e2, _, _, _, o⟩ := q
    rw [ha] at e1; cases e1
    exact h.tb.ne hp e2 o.tbl
theorem SR.tne {p : Addr} {o : HO} (h : SR T pn (G.upd p o) F H σ τ s) : ∀ t ∈ T.tabs, t.1 ≠ p := fun t ht z => by
  have := h.tg t ht
  rw [z, Fm.upd_same] at this; cases this
theorem SR.tgd {p : Addr} {o : HO} (h : SR T pn (G.upd p o) F H σ τ s) : ∀ t ∈ T.tabs, G t.1 = none := fun t ht => by
  have := h.tg t ht
  rw [Fm.upd_ne (h.tne t ht)] at this; exact this
theorem SR.tF (h : SR T pn G F H σ τ s) {p : Addr × Str} (hp : p ∈ T.tabs) : F p.1 = none := (h.tb p hp).2.1
end
end Rz
end

section
set_option autoImplicit false
set_option Elab.async false
set_option linter.all false
set_option maxHeartbeats 1000000
namespace Rz
open PySem L2

structure Cz (S : Type) where
  T : Tb
  pn : Pn S
  P : Pt
  call : Nat → List D → S → CRes S
  make : Nat → List D → S → CRes S

/-- an exception's own dict -/
def ExcOk (T : Tb) (F : Hp) (c : Nat) (fs : List D) (od : Option Addr) : Prop :=
  match od with
  | some d => ∃ vs, F d = some (.xd ((T.fld c).zip vs)) ∧ fs.length ≤ (T.fld c).length ∧ RepL T F fs vs
  | none => fs = []

section
variable {S : Type} [Pen S] {α β γ δ : Type}
/-- what follows an outcome -/
def Post (Z : Cz S) (G : Fm) (Rp : Hp → α → β → Prop) (F : Hp) (σ : L2.St) (Q : β → Hp → Prop) (W : WX) : Out S α → Prop
  | .ok a τ' s' => ∀ b H' F', Sub F F' → SR Z.T Z.pn G F' H' σ τ' s' → Rp F' a b → Q b H'
  | .exc c fs τ' s' => ∀ H' F' od, Sub F F' → SR Z.T Z.pn G F' H' σ τ' s' → ExcOk Z.T F' c fs od → W (.ref (Z.T.cA c)) od σ H'
  | .no => False
variable {Z : Cz S} {G : Fm} {F : Hp} {σ : L2.St} {W : WX} {x : Out S α}
theorem Post.mono {Rp : Hp → α → β → Prop} {Q : β → Hp → Prop} {F1 : Hp} (e : Sub F F1) (h : Post Z G Rp F σ Q W x) : Post Z G Rp F1 σ Q W x := by
  cases x with
  | ok a τ s => exact fun b H' F' k => h b H' F' (e.trans k)
  | exc c fs τ s => exact fun H' F' od k => h H' F' od (e.trans k)
  | no => exact h
theorem Post.bind {Rp : Hp → α → β → Prop} {Rp2 : Hp → γ → δ → Prop} {K : β → Hp → Prop} {Q : δ → Hp → Prop} {f : α → List Slot → S → Out S γ} (h : Post Z G Rp2 F σ Q W (x.bind f))
    (k : ∀ a b τ1 s1 F1 H1, Sub F F1 → SR Z.T Z.pn G F1 H1 σ τ1 s1 → Rp F1 a b → Post Z G Rp2 F1 σ Q W (f a τ1 s1) → K b H1) : Post Z G Rp F σ K W x := by
  cases x with
  | ok a τ s => exact fun b H' F' e q r => k a b τ s F' H' e q r (Post.mono e h)
  | exc c fs τ s => exact h
  | no => exact h
theorem Post.imp {Rp : Hp → α → β → Prop} {Q Q' : β → Hp → Prop} (h : Post Z G Rp F σ Q W x) (k : ∀ b H, Q b H → Q' b H) : Post Z G Rp F σ Q' W x := by
  cases x with
  | ok a τ s => exact fun b H' F' e q r => k _ _ (h b H' F' e q r)
  | exc c fs τ s => exact h
  | no => exact h
theorem Post.ok {Rp : Hp → α → β → Prop} {Q : β → Hp → Prop} {a : α} {b : β} {τ : List Slot} {s : S} {H : Hp} (h : Post Z G Rp F σ Q W (.ok a τ s)) (q : SR Z.T Z.pn G F H σ τ s) (r : Rp F a b) : Q b H := h b H F (Sub.refl F) q r
/-- an outcome of an option -/
theorem Post.of {Rp : Hp → α → β → Prop} {Q : β → Hp → Prop} {o : Option α} {τ : List Slot} {s : S} (h : Post Z G Rp F σ Q W (Out.of o τ s)) : ∃ a, o = some a ∧ Post Z G Rp F σ Q W (.ok a τ s) := by
  cases o with
  | none => exact h.elim
  | some a => exact ⟨a, rfl, h⟩
end

section
variable {S : Type} [Pen S] (Z : Cz S) (G : Fm) (W : WX)
abbrev RepV : Hp → D → V → Prop := Rep Z.T
abbrev RepVs : Hp → List D → List V → Prop := RepL Z.T
def EqR {α : Type} : Hp → α → α → Prop := fun _ a b => a = b
def tD (c : CE) : TE := fun σ H Q => ∃ F τ s, SR Z.T Z.pn G F H σ τ s ∧ Post Z G (Rep Z.T) F σ Q W (ev Z.P Z.call Z.make c τ s)
def tDA (c : CAs) : TA := fun σ H Q => ∃ F τ s, SR Z.T Z.pn G F H σ τ s ∧ Post Z G (RepL Z.T) F σ Q W (evA Z.P Z.call Z.make c τ s)
def tDT (c : CE) : TT := fun σ H Q => ∃ F τ s, SR Z.T Z.pn G F H σ τ s ∧ Post Z G EqR F σ Q W ((ev Z.P Z.call Z.make c τ s).bind fun x τ s => truV Z.P Z.call x τ s)
end

theorem _root_.L2.PE.imp {X : Cx} {e : Expr} {t t' : TE} (h : PE X e t) (k : ∀ σ H Q, t' σ H Q → t σ H Q) : PE X e t' := ⟨fun pins s σ H Q I q => h.run pins s σ H Q I (k σ H Q q)⟩
theorem _root_.L2.PT.imp {X : Cx} {e : Expr} {t t' : TT} (h : PT X e t) (k : ∀ σ H Q, t' σ H Q → t σ H Q) : PT X e t' := ⟨fun pins s σ H Q I q => h.run pins s σ H Q I (k σ H Q q)⟩
theorem _root_.L2.PA.imp {X : Cx} {e : List Expr} {t t' : TA} (h : PA X e t) (k : ∀ σ H Q, t' σ H Q → t σ H Q) : PA X e t' := ⟨fun p pins s σ H Q I q => h.run p pins s σ H Q I (k σ H Q q)⟩
theorem _root_.L2.PS.imp {X : Cx} {e : Stmt} {t t' : TS} (h : PS X e t) (k : ∀ D σ H, t' D σ H → t D σ H) : PS X e t' := ⟨fun pins s σ H D I q => h.run pins s σ H D I (k D σ H q)⟩
theorem _root_.L2.PSs.imp {X : Cx} {e : List Stmt} {t t' : TS} (h : PSs X e t) (k : ∀ D σ H, t' D σ H → t D σ H) : PSs X e t' := ⟨fun pins s σ H D I q => h.run pins s σ H D I (k D σ H q)⟩

section
variable {S : Type} [Pen S] {Z : Cz S} {G : Fm} {F H : Hp} {σ : L2.St} {τ : List Slot} {s : S} {W : WX}
theorem getD_of {i : Nat} {v : V} (h : σ.getD i none = some v) : σ[i]? = some (some v) := by
  rw [List.getD_eq_getElem?_getD] at h
  cases e : σ[i]? with
  | none => rw [e] at h; cases h
  | some o => rw [e] at h; exact congrArg some h
theorem SR.freeze {T : Tb} {pn : Pn S} (h : SR T pn G F H σ τ s) {i : Nat} {x : Slot} {a : Addr} {ob : HO} {d : D} (hx : τ[i]? = some x) (ho : x.isOwn = true) (ha : σ.getD i none = some (.ref a)) (hH : H a = some ob) (hF : F a = none) (hG : G a = none) (hp : a ≠ T.pen)
    (hd : Rep T (upd F a ob) d (.ref a)) : SR T pn G (upd F a ob) H σ (τ.set i (.fz d)) s := by
  have sF : Sub F (upd F a ob) := Sub.new hF
  have ilt : i < τ.length := (List.getElem?_eq_some_iff.mp hx).1
  refine ⟨fun b o e => ?_, h.pen, by rw [upd_ne (Ne.symm hp)]; exact h.penF, pn.mono _ _ _ sF h.pinv, fun b o e => ?_, by simpa using h.len, fun j y e => ?_, fun j k y z b hjk e1 e2 o1 o2 e3 e4 => ?_, h.tb.ext sF (fun p hp => by rw [upd_ne (h.ownT hx ho ha p hp)]; exact h.tF hp) (fun _ _ _ e => e), h.tg⟩
  · by_cases z : b = a
    · subst z; rw [upd_same] at e; cases e; exact hH
    · rw [upd_ne z] at e; exact h.fh b o e
  · obtain ⟨a1, a2, a3⟩ := h.gh b o e
    have nb : b ≠ a := fun z => by subst z; rw [hG] at e; cases e
    exact ⟨a1, by rw [upd_ne nb]; exact a2, a3⟩
  · by_cases hj : j = i
    · subst hj
      rw [List.getElem?_set_self ilt] at e
      cases e
      exact ⟨.ref a, ha, hd⟩
    · rw [List.getElem?_set_ne (Ne.symm hj)] at e
      have q := h.sl j y e
      cases y with
      | none => trivial
      | fz d => obtain ⟨v, e1, r⟩ := q; exact ⟨v, e1, r.mono sF⟩
      | own ds =>
        obtain ⟨b, ob', e1, e2, e3, e4, e5, o⟩ := q
        have nb : b ≠ a := fun z => h.ap j i _ x a hj e hx rfl ho (z ▸ e1) ha
        exact ⟨b, ob', e1, e2, by rw [upd_ne nb]; exact e3, e4, e5, o.mono sF⟩
      | ownI c ds =>
        obtain ⟨b, ob', e1, e2, e3, e4, e5, o⟩ := q
        have nb : b ≠ a := fun z => h.ap j i _ x a hj e hx rfl ho (z ▸ e1) ha
        exact ⟨b, ob', e1, e2, by rw [upd_ne nb]; exact e3, e4, e5, o.mono sF⟩
  · by_cases hj : j = i
    · subst hj; rw [List.getElem?_set_self ilt] at e1; cases e1; cases o1
    · by_cases hk : k = i
      · subst hk; rw [List.getElem?_set_self ilt] at e2; cases e2; cases o2
      · rw [List.getElem?_set_ne (Ne.symm hj)] at e1
        rw [List.getElem?_set_ne (Ne.symm hk)] at e2
        exact h.ap j k y z b hjk e1 e2 o1 o2 e3 e4

/-- a slot gets a frozen value -/
theorem SR.setF {T : Tb} {pn : Pn S} (h : SR T pn G F H σ τ s) (i : Nat) {d : D} {v : V} (r : Rep T F d v) : SR T pn G F H (σ.set i (some v)) (τ.set i (.fz d)) s := by
  refine ⟨h.fh, h.pen, h.penF, h.pinv, h.gh, by simpa using h.len, fun j y e => ?_, fun j k y z b hjk e1 e2 o1 o2 e3 e4 => ?_, h.tb, h.tg⟩
  · by_cases hj : j = i
    · subst hj
      have jlt : j < τ.length := by have := (List.getElem?_eq_some_iff.mp e).1; simpa using this
      rw [List.getElem?_set_self jlt] at e
      cases e
      refine ⟨v, ?_, r⟩
      rw [List.getD_eq_getElem?_getD, List.getElem?_set_self (by rw [h.len]; exact jlt)]; rfl
    · rw [List.getElem?_set_ne (Ne.symm hj)] at e
      have q := h.sl j y e
      rw [List.getD_eq_getElem?_getD] at q ⊢
      rw [List.getElem?_set_ne (Ne.symm hj)]
      exact q
  · have jlt : j < τ.length := by have := (List.getElem?_eq_some_iff.mp e1).1; simpa using this
    have klt : k < τ.length := by have := (List.getElem?_eq_some_iff.mp e2).1; simpa using this
    by_cases hj : j = i
    · subst hj; rw [List.getElem?_set_self jlt] at e1; cases e1; cases o1
    · by_cases hk : k = i
      · subst hk; rw [List.getElem?_set_self klt] at e2; cases e2; cases o2
      · rw [List.getElem?_set_ne (Ne.symm hj)] at e1
        rw [List.getElem?_set_ne (Ne.symm hk)] at e2
        rw [List.getD_eq_getElem?_getD, List.getElem?_set_ne (Ne.symm hj), ← List.getD_eq_getElem?_getD] at e3
        rw [List.getD_eq_getElem?_getD, List.getElem?_set_ne (Ne.symm hk), ← List.getD_eq_getElem?_getD] at e4
        exact h.ap j k y z b hjk e1 e2 o1 o2 e3 e4

variable {X : Cx}
/-! ### rules: names, constants -/
theorem de_v {i : Nat} {x : Str} {pos : Pos} (hp : PE X (.Name x pos) (tVar i)) : PE X (.Name x pos) (tD Z G W (.v i)) := hp.imp fun σ H Q => by
  rintro ⟨F, τ, s, q, h⟩
  simp only [ev] at h
  cases e : τ[i]? with
  | none => rw [e] at h; exact h.elim
  | some sl =>
    rw [e] at h
    have ok := q.sl i sl e
    cases sl with
    | none => exact h.elim
    | fz d =>
      obtain ⟨v, e1, r⟩ := ok
      exact ⟨v, getD_of e1, h.ok q r⟩
    | own ds =>
      obtain ⟨a, ob, e1, e2, e3, e4, e5, vs, rfl, r⟩ := ok
      have r' : Rep Z.T (upd F a (.lst vs)) (.lst ds) (.ref a) := ⟨a, vs, rfl, upd_same, r.mono (Sub.new e3)⟩
      exact ⟨.ref a, getD_of e1, h (.ref a) H (upd F a (.lst vs)) (Sub.new e3) (q.freeze e rfl e1 e2 e3 e4 e5 r') r'⟩
    | ownI c ds =>
      obtain ⟨a, ob, e1, e2, e3, e4, e5, dx, vs, rfl, l, r⟩ := ok
      have r' : Rep Z.T (upd F a (.ins (Z.T.cA c) dx ((Z.T.fld c).zip vs))) (.ins c ds) (.ref a) := ⟨a, dx, vs, rfl, upd_same, l, r.mono (Sub.new e3)⟩
      exact ⟨.ref a, getD_of e1, h (.ref a) H _ (Sub.new e3) (q.freeze e rfl e1 e2 e3 e4.1 e5 r') r'⟩
theorem de_k {d : D} {v : V} {e : Expr} (hp : PE X e (tC v)) (hr : ∀ F, Rep Z.T F d v) : PE X e (tD Z G W (.k d)) := hp.imp fun σ H Q => by
  rintro ⟨F, τ, s, q, h⟩
  exact h.ok q (hr F)
theorem de_g {j : Nat} {v : V} {e : Expr} (hp : PE X e (tC v)) (hr : ∀ F, Rep Z.T F (Z.P.gl j) v) : PE X e (tD Z G W (.g j)) := hp.imp fun σ H Q => by
  rintro ⟨F, τ, s, q, h⟩
  exact h.ok q (hr F)

/-! ### argument lists -/
theorem da_nil : PA X [] (tDA Z G W .nil) := pa_nil.imp fun σ H Q => by
  rintro ⟨F, τ, s, q, h⟩
  exact h.ok q rfl
theorem da_cons {e : Expr} {es : List Expr} {c : CE} {cs : CAs} (ha : PE X e (tD Z G W c)) (hr : PA X es (tDA Z G W cs)) (hs : starEach (e :: es) X.env = (false, eval e X.env) :: starEach es X.env) : PA X (e :: es) (tDA Z G W (.cons false c cs)) :=
  (pa_cons ha hr hs).imp fun σ H Q => by
    rintro ⟨F, τ, s, q, h⟩
    exact ⟨F, τ, s, q, h.bind fun x v τ1 s1 F1 H1 e1 q1 r1 h1 => ⟨F1, τ1, s1, q1, h1.bind fun xs vs τ2 s2 F2 H2 e2 q2 r2 h2 => h2.ok q2 ⟨v, vs, rfl, r1.mono e2, r2⟩⟩⟩

/-! ### tuples, lists -/
theorem lim_of {n : Nat} (h : lim n = true) : n ≤ 100000 := of_decide_eq_true h
theorem lim_size {n : Nat} (h : lim n = true) : n ≤ sizeLine := Nat.le_trans (lim_of h) (by rw [sizeLine_eq]; decide)
theorem Post.bif {α β : Type} {Rp : Hp → α → β → Prop} {Q : β → Hp → Prop} {b : Bool} {x : Out S α} (h : Post Z G Rp F σ Q W (bif b then x else .no)) : b = true ∧ Post Z G Rp F σ Q W x := by
  cases b with
  | true => exact ⟨rfl, h⟩
  | false => exact h.elim
theorem de_tup {es : List Expr} {cs : CAs} {k : Nat} {pos : Pos} (ha : PA X es (tDA Z G W cs)) : PE X (.Tuple es k pos) (tD Z G W (.tup cs)) := (pe_tup ha).imp fun σ H Q => by
  rintro ⟨F, τ, s, q, h⟩
  refine ⟨F, τ, s, q, h.bind fun xs vs τ1 s1 F1 H1 e1 q1 r1 h1 => ?_⟩
  obtain ⟨hl, h1⟩ := h1.bif
  refine ⟨by rw [r1.length]; exact lim_size hl, fun p hp => ?_⟩
  have hF := q1.fh.none hp
  exact h1 _ _ (upd F1 p (.tup vs)) (Sub.new hF) (q1.new hp) ⟨p, vs, rfl, SqT.of upd_same, r1.mono (Sub.new hF)⟩
theorem de_lst {es : List Expr} {cs : CAs} {pos : Pos} (ha : PA X es (tDA Z G W cs)) : PE X (.List es pos) (tD Z G W (.lst cs)) := (pe_lst ha).imp fun σ H Q => by
  rintro ⟨F, τ, s, q, h⟩
  refine ⟨F, τ, s, q, h.bind fun xs vs τ1 s1 F1 H1 e1 q1 r1 h1 => ?_⟩
  obtain ⟨hl, h1⟩ := h1.bif
  refine ⟨by rw [r1.length]; exact lim_size hl, fun p hp => ?_⟩
  have hF := q1.fh.none hp
  exact h1 _ _ (upd F1 p (.lst vs)) (Sub.new hF) (q1.new hp) ⟨p, vs, rfl, upd_same, r1.mono (Sub.new hF)⟩
end
end Rz
end

section
set_option autoImplicit false
set_option Elab.async false
set_option linter.all false
set_option maxHeartbeats 1000000
namespace Rz
open PySem L2

/-- the frame of a call: what stood outside stays, the frozen part grows -/
structure Fr {S : Type} (T : Tb) (pn : Pn S) (F H F' H' : Hp) (s' : S) : Prop where
  ff : Sub F F'
  fh : Sub F' H'
  pen : H' T.pen = some (pn.obj s')
  penF : F' T.pen = none
  pinv : pn.inv F' s'
  out : ∀ a o, H a = some o → F a = none → a ≠ T.pen → (∀ p ∈ T.tabs, a ≠ p.1) → H' a = some o ∧ F' a = none
  tb : TabsH T F' H'

section
variable {S : Type} [Pen S] {Z : Cz S} {T : Tb} {pn : Pn S} {G : Fm} {F H F' H' : Hp} {σ : L2.St} {τ : List Slot} {s s' : S} {W : WX}
theorem SR.call (h : SR T pn G F H σ τ s) (k : Fr T pn F H F' H' s') : SR T pn G F' H' σ τ s' := by
  refine ⟨k.fh, k.pen, k.penF, k.pinv, fun a o e => ?_, h.len, fun i x e => ?_, h.ap, k.tb, h.tg⟩
  · obtain ⟨a1, a2, a3⟩ := h.gh a o e
    obtain ⟨b1, b2⟩ := k.out a o a1 a2 a3 fun p hp z => by rw [z, h.tg p hp] at e; cases e
    exact ⟨b1, b2, a3⟩
  · have q := h.sl i x e
    cases x with
    | none => trivial
    | fz d => obtain ⟨v, e1, r⟩ := q; exact ⟨v, e1, r.mono k.ff⟩
    | own ds =>
      obtain ⟨a, ob, e1, e2, e3, e4, e5, o⟩ := q
      obtain ⟨b1, b2⟩ := k.out a ob e2 e3 e5 fun p hp z => h.tb.ne hp e2 o.tbl z.symm
      exact ⟨a, ob, e1, b1, b2, e4, e5, o.mono k.ff⟩
    | ownI c ds =>
      obtain ⟨a, ob, e1, e2, e3, e4, e5, o⟩ := q
      obtain ⟨b1, b2⟩ := k.out a ob e2 e3 e5 fun p hp z => h.tb.ne hp e2 o.tbl z.symm
      exact ⟨a, ob, e1, b1, b2, e4, e5, o.mono k.ff⟩

/-- what follows a call -/
def PostC (Z : Cz S) (F H : Hp) (Q : VK) (E : XK) : CRes S → Prop
  | .ok d s' => ∀ v H' F', Fr Z.T Z.pn F H F' H' s' → Rep Z.T F' d v → Q v H'
  | .exc c fs s' => ∀ H' F' od, Fr Z.T Z.pn F H F' H' s' → ExcOk Z.T F' c fs od → E (.ref (Z.T.cA c)) od H'
  | .no => False
/-- the promise of a def of the table -/
def spF (Z : Cz S) (f : Nat) : Sp := fun vs H Q E => ∃ F ds s, Sub F H ∧ H Z.T.pen = some (Z.pn.obj s) ∧ F Z.T.pen = none ∧ Z.pn.inv F s ∧ RepL Z.T F ds vs ∧ TabsH Z.T F H ∧ PostC Z F H Q E (Z.call f ds s)
theorem Post.toC {Q : VK} {x : CRes S} (q : SR Z.T Z.pn G F H σ τ s) (h : Post Z G (Rep Z.T) F σ Q W (x.out τ)) : PostC Z F H Q (fun c d H' => W c d σ H') x := by
  cases x with
  | ok d s' => exact fun v H' F' k r => h v H' F' k.ff (q.call k) r
  | exc c fs s' => exact fun H' F' od k r => h H' F' od k.ff (q.call k) r
  | no => exact h
theorem spF_of {Q : VK} {f : Nat} {ds : List D} {vs : List V} (q : SR Z.T Z.pn G F H σ τ s) (r : RepL Z.T F ds vs) (h : Post Z G (Rep Z.T) F σ Q W ((Z.call f ds s).out τ)) : spF Z f vs H Q (fun c d H' => W c d σ H') :=
  ⟨F, ds, s, q.fh, q.pen, q.penF, q.pinv, r, q.tb, h.toC q⟩

/-- arguments that are bound as values by place are -/
def ArgAs (K : PySem.W.Frag) (f : Addr) (ar : Args) (us : List Value) : Prop := ∀ oc od fd osl, K.lookup f = some ⟨oc, od, .func fd, osl⟩ → bindArgs fd ar = bindArgs fd ⟨us, []⟩
theorem ArgAs.rfl {K : PySem.W.Frag} {f : Addr} {us : List Value} : ArgAs K f ⟨us, []⟩ us := fun _ _ _ _ _ => Eq.refl _
/-- a def of the table, seen from a context -/
def FnRg (P : Program) (w : World) (K : PySem.W.Frag) (mg : Str → Option Value) (base : Heap) (CX : CXT) (k : Nat) (f : Addr) (sp : Sp) : Prop :=
  ∀ (A : Around) (outer : List Env) (sh : Shared) (H : Hp) (us : List Value) (vs : List V) (Q : VK) (E : XK), Room k A → A.guards = some [] → Env0 P w K mg base A outer sh H → Vals vs us → sp vs H Q E →
    ∀ ar : Args, ArgAs K f ar us → codeAny (model P w) A (.call (.ref f) ar) (CR CX outer P w H sh Q E) sh
def FnZ (Z : Cz S) (X : Cx) (f : Nat) : Prop := ∃ k, Room (k + 1) X.A ∧ X.A.guards = some [] ∧ FnRg X.prog X.w X.K X.mg X.base (CX X.prog X.w) k (Z.T.fA f) (spF Z f)

variable {X : Cx} {pins : List (Addr × Obj)} {sh : Shared}
theorem run_zk {f : Nat} {Q : VK} {us : List Value} {vs : List V} (F : FnZ Z X f) (tk : Takes X W) (I : Inv X pins σ H sh) (r : Vals vs us) (h : spF Z f vs H Q (fun c d H' => W c d σ H')) {ar : Args} (har : ArgAs X.K (Z.T.fA f) ar us) :
    codeAny (model X.prog X.w) X.A (.call (.ref (Z.T.fA f)) ar) (fun r s' => match r with | .ok (.ret v) => EP X pins σ Q v s' | .ok _ => False | .error e => X.xe e s') sh := by
  obtain ⟨k, hr, hg, F⟩ := F
  refine codeAny_mono (F X.A X.stack sh H us vs Q _ (hr.mono (Nat.le_succ k)) hg I.env0 r h ar har) fun r s' hq => ?_
  cases r with
  | error e => exact tk e s' (XE.of_call I (fun cls d H' z => z) hq)
  | ok fl =>
    cases fl with
    | ret u => exact I.after hq
    | next => exact False.elim hq
    | brk => exact False.elim hq
    | cont => exact False.elim hq
theorem run_z {f : Nat} {Q : VK} {us : List Value} {vs : List V} (F : FnZ Z X f) (tk : Takes X W) (I : Inv X pins σ H sh) (r : Vals vs us) (h : spF Z f vs H Q (fun c d H' => W c d σ H')) :
    codeAny (model X.prog X.w) X.A (.call (.ref (Z.T.fA f)) ⟨us, []⟩) (fun r s' => match r with | .ok (.ret v) => EP X pins σ Q v s' | .ok _ => False | .error e => X.xe e s') sh := run_zk F tk I r h ArgAs.rfl
theorem wp_call {M : Model} {A : Around} {E : Value → Shared → Prop} {Q : Value → Shared → Prop} {f : Value} {us : List Value} (h : codeAny M A (.call f ⟨us, []⟩) (fun r s' => match r with | .ok (.ret v) => Q v s' | .ok _ => False | .error e => E e s') sh) : wpAny M A (call f us) Q E sh := wpAny_call h

/-! ### argument lists in calls -/
def isStar : Expr → Bool
  | .Starred _ _ => true
  | _ => false
theorem starEach_plain {e : Expr} {es : List Expr} {env : Env} (h : isStar e = false) : starEach (e :: es) env = (false, eval e env) :: starEach es env := by
  cases e <;> first | rfl | cases h
theorem backTo_any {pos : Pos} {env : Env} : ∀ {es : List Expr}, (backTo pos (starEach es env)).any (·.1) = es.any isStar
  | [] => rfl
  | e :: es => by
    have ih := backTo_any (pos := pos) (env := env) (es := es)
    cases e <;> (show (_ || (backTo pos (starEach es env)).any (·.1)) = (_ || es.any isStar); rw [ih] <;> rfl)
theorem da_star {e : Expr} {es : List Expr} {c : CE} {cs : CAs} {p : Pos} (hK : X.K = Z.T.K) (ha : PE X e (tD Z G W c)) (hr : PA X es (tDA Z G W cs)) : PA X (.Starred e p :: es) (tDA Z G W (.cons true c cs)) :=
  (StX.pa_star ha hr rfl).imp fun σ H Q => by
    rintro ⟨F, τ, s, q, h⟩
    refine ⟨F, τ, s, q, h.bind fun x v τ1 s1 F1 H1 e1 q1 r1 h1 => ?_⟩
    have go : ∀ {xs : List D} {a : Addr} {vs : List V}, v = .ref a → (SqT X.K H1 a vs ∨ SqL X.K H1 a vs) → RepL Z.T F1 xs vs → starOf x = some xs → ∃ p zs, v = V.ref p ∧ (SqT X.K H1 p zs ∨ SqL X.K H1 p zs) ∧ tDA Z G W cs σ H1 fun ys H2 => Q (zs ++ ys) H2 := by
      intro xs a vs ev hs rl e
      simp only [cond_true, e] at h1
      exact ⟨a, vs, ev, hs, F1, τ1, s1, q1, h1.bind fun ys ws τ2 s2 F2 H2 e2 q2 r2 h2 => h2.ok q2 ((rl.mono e2).append r2)⟩
    cases x with
    | tup ds => obtain ⟨a, vs, ev, hs, rl⟩ := r1; exact go ev (.inl (by rw [hK]; exact q1.fh.sqT hs)) rl rfl
    | lst ds => obtain ⟨a, vs, ev, hs, rl⟩ := r1; exact go ev (.inr (SqL.of (q1.fh _ _ hs))) rl rfl
    | _ => exact h1.elim

/-- an argument list and its compact form -/
inductive ArgsZ (Z : Cz S) (G : Fm) (W : WX) (X : Cx) : List Expr → CAs → Prop
  | nil : ArgsZ Z G W X [] .nil
  | cons {e : Expr} {es : List Expr} {c : CE} {cs : CAs} : isStar e = false → PE X e (tD Z G W c) → ArgsZ Z G W X es cs → ArgsZ Z G W X (e :: es) (.cons false c cs)
  | star {e : Expr} {es : List Expr} {c : CE} {cs : CAs} {p : Pos} : PE X e (tD Z G W c) → ArgsZ Z G W X es cs → ArgsZ Z G W X (.Starred e p :: es) (.cons true c cs)
theorem ArgsZ.pa (hK : X.K = Z.T.K) : ∀ {es : List Expr} {cs : CAs}, ArgsZ Z G W X es cs → PA X es (tDA Z G W cs)
  | _, _, .nil => da_nil
  | _, _, .cons h he hr => da_cons he (ArgsZ.pa hK hr) (starEach_plain h)
  | _, _, .star he hr => da_star hK he (ArgsZ.pa hK hr)
/-- the shapes of argument lists that are served -/
def argsOk : List Expr → Bool
  | [] => true
  | e :: es => !isStar e || es.isEmpty
theorem callWith_z {f : Value} {first : List Value} {args : List Expr} {cs : CAs} {pos : Pos} {Qf : Value → Shared → Prop} {Kq : List V → Hp → Prop} (hK : X.K = Z.T.K) (hk : PySem.W.keepIn X.K f = true) (hs : argsOk args = true)
    (ha : ArgsZ Z G W X args cs) (I : Inv X pins σ H sh) (h : tDA Z G W cs σ H Kq)
    (k : ∀ us s1 vs H1, Inv X pins σ H1 s1 → Vals vs us → Kq vs H1 → wpAny (model X.prog X.w) X.A (call f (first ++ us)) Qf X.xe s1) :
    wpAny (model X.prog X.w) X.A (callWith pos f first (backTo pos (starEach args X.env)) []) Qf X.xe sh := by
  cases ha with
  | nil =>
    obtain ⟨F, τ, s, q, h⟩ := h
    exact PySem.W.callWith_K0 I.kIn hk (k [] sh [] H I .nil (h.ok q rfl))
  | @cons e es c cs hp he hr =>
    have pa := (ArgsZ.cons hp he hr).pa hK
    have go := thn (pa.run pos pins sh σ H Kq I h) fun us s1 ⟨vs, H1, I1, r, q⟩ => (⟨I1.kIn, k us s1 vs H1 I1 r q⟩ : X.K.In s1.heap ∧ wpAny (model X.prog X.w) X.A (call f (first ++ us)) Qf X.xe s1)
    cases hst : es.any isStar with
    | false => exact PySem.W.callWith_K (h₀ := X.base) I.ok.mod.kin hk go (starEach_plain hp) (by rw [backTo_any]; exact hst)
    | true => exact PySem.W.callWith_S2 (h₀ := X.base) I.ok.mod.kin hk go (starEach_plain hp) (by rw [backTo_any]; exact hst)
  | @star e es c cs p he hr =>
    cases hr with
    | nil =>
      refine PySem.W.callWith_S (h₀ := X.base) I.ok.mod.kin hk (thn (he.run pins sh σ H (fun v H1 => ∃ a vs, v = .ref a ∧ (SqT X.K H1 a vs ∨ SqL X.K H1 a vs) ∧ Kq vs H1) I ?_) fun v s1 ⟨y, H1, I1, ry, a, vs, ey, hxs, q⟩ => ?_) rfl
      · obtain ⟨F, τ, s, q, h⟩ := h
        refine ⟨F, τ, s, q, h.bind fun x v τ1 s1 F1 H1 e1 q1 r1 h1 => ?_⟩
        cases x with
        | tup ds =>
          obtain ⟨a, vs, ev, hs, rl⟩ := r1
          refine ⟨a, vs, ev, .inl (by rw [hK]; exact q1.fh.sqT hs), h1.ok q1 ?_⟩
          simpa using rl
        | lst ds =>
          obtain ⟨a, vs, ev, hs, rl⟩ := r1
          refine ⟨a, vs, ev, .inr (SqL.of (q1.fh _ _ hs)), h1.ok q1 ?_⟩
          simpa using rl
        | _ => exact h1.elim
      · subst ey
        obtain rfl : v = Value.ref a := ry
        exact StX.star_any I1 hxs fun us s2 I2 rv => ⟨I2.kIn, k us s2 vs H1 I2 rv q⟩
    | cons _ _ _ => cases hs
    | star _ _ => cases hs

/-- f(..), f a def of the module -/
theorem de_call {f : Nat} {x : Str} {args : List Expr} {cs : CAs} {p pos : Pos} (hK : X.K = Z.T.K) (F : FnZ Z X f) (hk : PySem.W.keepIn X.K (.ref (Z.T.fA f)) = true) (tk : Takes X W) (hg : Gl X x) (hm : X.mg x = some (.ref (Z.T.fA f))) (hs : argsOk args = true) (ha : ArgsZ Z G W X args cs) (hd : (x == ("__debug__" : Str)) = false) :
    PE X (.Call (.Name x p) args [] pos) (tD Z G W (.call f cs)) := by
  refine ⟨fun pins sh σ H Q I h => ?_⟩
  obtain ⟨F0, τ, s, q, h⟩ := h
  refine wpAny_Call_Name_kw (ld_glob I hg hm ?_ hd)
  refine callWith_z (first := []) hK hk hs ha I ⟨F0, τ, s, q, h.bind fun xs vs τ1 s1 F1 H1 e1 q1 r1 h1 => spF_of q1 r1 h1⟩ fun us s1 vs H1 I1 r hq => ?_
  exact wpAny_call (run_z F tk I1 r hq)
end
end Rz
end

section
set_option autoImplicit false
set_option Elab.async false
set_option linter.all false
set_option maxHeartbeats 1000000
namespace Rz
open PySem L2 ClX

theorem zip_lookup : ∀ {ns : List Str} {vs : List V} {k : Nat} {n : Str} {v : V}, ns.Nodup → ns[k]? = some n → vs[k]? = some v → (ns.zip vs).lookup n = some v
  | [], _, _, _, _, _, h, _ => by simp at h
  | _ :: _, [], _, _, _, _, _, h => by simp at h
  | a :: ns, w :: vs, 0, n, v, nd, h1, h2 => by
    simp at h1 h2; subst h1; subst h2
    simp [List.lookup]
  | a :: ns, w :: vs, k + 1, n, v, nd, h1, h2 => by
    have h1' : ns[k]? = some n := by simpa using h1
    have ne : (n == a) = false := by
      rw [beq_eq_false_iff_ne]
      rintro rfl
      exact (List.nodup_cons.mp nd).1 (List.mem_of_getElem? h1')
    rw [List.zip_cons_cons, List.lookup_cons, ne]
    exact zip_lookup (List.nodup_cons.mp nd).2 h1' (by simpa using h2)
theorem zip_lookup_none : ∀ {ns : List Str} {vs : List V} {n : Str}, n ∉ ns → (ns.zip vs).lookup n = none
  | [], _, _, _ => rfl
  | _ :: _, [], _, _ => rfl
  | a :: ns, w :: vs, n, h => by
    have ne : (n == a) = false := by
      rw [beq_eq_false_iff_ne]
      rintro rfl
      exact h List.mem_cons_self
    rw [List.zip_cons_cons, List.lookup_cons, ne]
    exact zip_lookup_none fun z => h (List.mem_cons_of_mem _ z)
theorem zip_put : ∀ {ns : List Str} {vs : List V} {f : Str} {v : V}, ns.Nodup → ns[vs.length]? = some f → putF f v (ns.zip vs) = ns.zip (vs ++ [v])
  | [], _, _, _, _, h => by simp at h
  | a :: ns, [], f, v, _, h => by
    simp at h; subst h
    simp [putF]
  | a :: ns, w :: vs, f, v, nd, h => by
    have h' : ns[vs.length]? = some f := by simpa using h
    have ne : ¬ a = f := by
      rintro rfl
      exact (List.nodup_cons.mp nd).1 (List.mem_of_getElem? h')
    show (if a = f then _ else (a, w) :: putF f v (ns.zip vs)) = _
    rw [if_neg ne, zip_put (List.nodup_cons.mp nd).2 h']
    rfl

section
variable {S : Type} [Pen S] {Z : Cz S} {G : Fm} {F H : Hp} {σ : L2.St} {τ : List Slot} {s : S} {W : WX} {X : Cx}
/-- what is told of a class of the table -/
structure ClsZ (T : Tb) (c : Nat) : Prop where
  cl : Cls T.K (T.cA c)
  nd : (T.fld c).Nodup
  few : (T.fld c).length < 900
structure MethZ (T : Tb) (c : Nat) (m : Str) (f : Nat) : Prop where
  ck : ClsZ T c
  mt : Meth T.K (T.cA c) m (T.fA f)
  no : m ∉ T.fld c
structure FldZ (T : Tb) (c : Nat) (m : Str) (k : Nat) : Prop where
  ck : ClsZ T c
  no : NoAttr T.K (T.cA c) m
  at_ : (T.fld c)[k]? = some m
/-- a constant of the class's own -/
structure ConZ (T : Tb) (c : Nat) (m : Str) (d : D) : Prop where
  ck : ClsZ T c
  no : m ∉ T.fld c
  con : ∃ v u, Con T.K (T.cA c) m v u ∧ (∀ F, Rep T F d v) ∧ ∃ mc, CRead T.K (T.cA c) mc ∧ CVal T.K (T.cA c) mc m v u
structure PropZ (T : Tb) (c : Nat) (m : Str) (f : Nat) : Prop where
  k : ClsZ T c
  p : ∃ p, PropOf T.K (T.cA c) m p (T.fA f)

/-- an object whose attribute is asked: no super() -/
def baseOk : Expr → Bool
  | .Call (.Name x _) [] [] _ => x != "super"
  | _ => true
theorem base_of {o : Expr} {m : Str} {env : Env} {wh : Sem Value} (h : baseOk o = true) : attributeBase o m env wh = wh := by
  unfold attributeBase
  split
  · have h' : (_ != ("super" : Str)) = true := h
    simp only [h', Bool.true_or, if_true]
  · rfl

def methOk (args : List Expr) (apos pos : Pos) : Bool := !args.any isStar && decide (args.length < 30) && apos.endLine == pos.line
theorem meth_eval {o : Expr} {m : Str} {args : List Expr} {apos pos : Pos} {env : Env} (hb : baseOk o = true) (hm : methOk args apos pos = true) :
    eval (.Call (.Attribute o m apos) args [] pos) env = (do
      let ov ← eval o env
      standAt apos.atName
      let (f, first) ← holding [ov] (getMethod ov m (do return (← importBound o env).getD true))
      callWith pos f first (backTo pos (starEach args env)) (backToKw pos (keywordEach [] env))) := by
  unfold methOk at hm
  simp only [Bool.and_eq_true, Bool.not_eq_true', decide_eq_true_eq] at hm
  obtain ⟨⟨h1, h2⟩, h3⟩ := hm
  have hall : (backTo pos (starEach args env)).all (fun x => !x.1) = true := by
    rw [← backTo_any (pos := pos) (env := env)] at h1
    rw [List.all_eq_not_any_not]
    simpa using h1
  have hform : methodCallForm (args.length + ([] : List Keyword).length) (backTo pos (starEach args env)) (backToKw pos (keywordEach [] env)) = true := by
    show (_ && _ && decide (args.length + 0 + 0 < 30)) = true
    rw [hall]
    simp [backToKw, keywordEach, h2]
  rw [arm_eval_Call, base_of hb]
  unfold methodCall
  rw [hform]
  unfold methodCallPos
  rw [h3]
  simp only [Bool.not_true, Bool.or_true, if_true, pure_bind]
  rfl

theorem de_meth {o : Expr} {co : CE} {m : Str} {mid : Nat} {args : List Expr} {cs : CAs} {apos pos : Pos} (hK : X.K = Z.T.K) (FZ : ∀ f, FnZ Z X f) (MS : ∀ c f, Z.P.meth c mid = some f → MethZ Z.T c m f) (tk : Takes X W) (ho : PE X o (tD Z G W co))
    (ha : ArgsZ Z G W X args cs) (hb : baseOk o = true) (hm : methOk args apos pos = true) : PE X (.Call (.Attribute o m apos) args [] pos) (tD Z G W (.meth co mid cs)) := by
  have hs : argsOk args = true := by
    unfold methOk at hm
    simp only [Bool.and_eq_true, Bool.not_eq_true'] at hm
    cases args with
    | nil => rfl
    | cons e es =>
      have := hm.1.1
      rw [List.any_cons, Bool.or_eq_false_iff] at this
      simp [argsOk, this.1]
  refine ⟨fun pins sh σ H Q I h => ?_⟩
  obtain ⟨F0, τ, s, q, h⟩ := h
  refine PySem.W.methodCall_KW (thn (ho.run pins sh σ H (fun v H1 => ∃ a c dx vs f, v = .ref a ∧ H1 a = some (.ins (Z.T.cA c) dx ((Z.T.fld c).zip vs)) ∧ Z.P.meth c mid = some f ∧ tDA Z G W cs σ H1 fun ws H2 => spF Z f (V.ref a :: ws) H2 Q (fun c d H' => W c d σ H')) I ⟨F0, τ, s, q, h.bind fun x v τ1 s1 F1 H1 e1 q1 r1 h1 => ?_⟩) fun u s1 ⟨x, H1, I1, rx, a, c, dx, vs, f, ex, ea, em, h2⟩ => ?_) (meth_eval hb hm)
  · cases x with
    | ins c ds =>
      obtain ⟨a, dx, vs, ev, hF, hl, rl⟩ := id r1
      cases em : Z.P.meth c mid with
      | none => simp only [em] at h1; exact h1.elim
      | some f =>
        simp only [em] at h1
        subst ev
        exact ⟨a, c, dx, vs, f, rfl, q1.fh _ _ hF, em, F1, τ1, s1, q1, h1.bind fun ys ws τ2 s2 F2 H2 e2 q2 r2 h2 => spF_of q2 (RepL.cons (r1.mono e2) r2) h2⟩
    | _ => exact h1.elim
  · subst ex
    obtain rfl : u = Value.ref a := rx
    obtain ⟨ck, mk, nk⟩ := MS c f em
    refine getmeth_ok I1 ea (by rw [hK]; exact ck.cl) (by rw [hK]; exact mk) (zip_lookup_none nk) ?_
    refine callWith_z (first := [.ref a]) hK (by rw [hK]; exact mk.kp) hs ha I1 h2 fun us s2 ws H2 I2 r hq => ?_
    exact wpAny_call (run_z (us := .ref a :: us) (vs := .ref a :: ws) (FZ f) tk I2 (.cons rfl r) hq)

/-- a getter's call by a positional promise -/
theorem getprop_z {pins : List (Addr × Obj)} {sh : Shared} {Q : VK} {b : Bool} {a p dx : Addr} {c f : Nat} {fs : List (Str × V)} {m : Str} {E' : Value → Shared → Prop} (hK : X.K = Z.T.K) (FZ : FnZ Z X f) (I : Inv X pins σ H sh) (ea : H a = some (.ins (Z.T.cA c) dx fs)) (ck : ClsZ Z.T c) (hp : PropOf Z.T.K (Z.T.cA c) m p (Z.T.fA f))
    (h : spF Z f [.ref a] H Q fun _ _ _ => False) : wpAny (model X.prog X.w) X.A (getAttr (.ref a) m b) (EP X pins σ Q) E' sh := by
  rw [← hK] at hp
  obtain ⟨mA, O, _, _, _, _⟩ := ins_get I.hok ea
  obtain ⟨od, J, _⟩ := O.look
  obtain ⟨rest, hrec⟩ := hp.rec_
  have I1 := I.tok (sh.toks + 1)
  have cl : Cls X.K (Z.T.cA c) := by rw [hK]; exact ck.cl
  have hc : (PySem.W.clsIn X.K (Z.T.cA c)).isSome = true := by
    obtain ⟨cd, hc, _⟩ := PySem.W.any_some cl.hd
    rw [hc]; rfl
  obtain ⟨k, hr, hg, Fn⟩ := FZ
  refine PySem.W.get_bind I.kIn J (PySem.W.plainGet_of (cl.get m)).1 (PySem.W.findObj_data hc hp.at_ hp.get hp.tak) (PySem.W.plainGet_of (cl.get m)).2 (wpAny_call (PySem.W.prop_get (s := { sh with toks := sh.toks + 1 }) I.kIn hrec ?_))
  refine codeAny_mono (Fn X.A.in1 X.stack { sh with toks := sh.toks + 1 } H [.ref a] [.ref a] Q _ hr.in1 hg I1.env0.in1 (.cons rfl .nil) h _ ArgAs.rfl) fun r s' hq => ?_
  cases r with
  | error er =>
    obtain ⟨_, _, _, _, _, _, _, _, _, _, _, _, z⟩ := hq
    exact z.elim
  | ok fl =>
    cases fl with
    | ret u =>
      obtain ⟨v, H', I3, rv, q3⟩ := I1.after hq
      show wpAny _ _ (handedOut u) _ _ _
      rw [PySem.W.handedOut_of (handed_of rv)]
      exact wpAny_pure ⟨v, H', I3, rv, q3⟩
    | next => exact False.elim hq
    | brk => exact False.elim hq
    | cont => exact False.elim hq

theorem de_attr {o : Expr} {co : CE} {m : Str} {mid : Nat} {pos : Pos} (hK : X.K = Z.T.K) (FZ : ∀ f, FnZ Z X f) (FS : ∀ c k, Z.P.attr c mid = .fld k → FldZ Z.T c m k) (PR : ∀ c f, Z.P.attr c mid = .prop f → PropZ Z.T c m f)
    (CN : ∀ c d, Z.P.attr c mid = .con d → ConZ Z.T c m d) (ho : PE X o (tD Z G W co)) (hb : baseOk o = true) : PE X (.Attribute o m pos) (tD Z G W (.attr co mid)) := by
  refine ⟨fun pins sh σ H Q I h => ?_⟩
  obtain ⟨F0, τ, s, q, h⟩ := h
  refine attr_of (base_of hb) (thn (ho.run pins sh σ H (fun v H1 => (∃ c d, v = .ref (Z.T.cA c) ∧ Z.P.attr c mid = .con d ∧ ∀ w, (∀ F, Rep Z.T F d w) → Q w H1) ∨ ∃ a c dx vs, v = .ref a ∧ H1 a = some (.ins (Z.T.cA c) dx ((Z.T.fld c).zip vs)) ∧
      ((∃ k w, Z.P.attr c mid = .fld k ∧ vs[k]? = some w ∧ Q w H1) ∨ (∃ f, Z.P.attr c mid = .prop f ∧ spF Z f [.ref a] H1 Q fun _ _ _ => False) ∨ ∃ d, Z.P.attr c mid = .con d ∧ ∀ w, (∀ F, Rep Z.T F d w) → Q w H1)) I ⟨F0, τ, s, q, h.bind fun x v τ1 s1 F1 H1 e1 q1 r1 h1 => ?_⟩) fun u s1 ⟨x, H1, I1, rx, h2⟩ => ?_)
  · cases x with
    | cls c =>
      cases r1
      simp only [attrV] at h1
      cases ea : Z.P.attr c mid with
      | con d =>
        simp only [ea] at h1
        exact .inl ⟨c, d, rfl, ea, fun _ r => h1.ok q1 (r F1)⟩
      | _ => rw [ea] at h1; exact h1.elim
    | ins c ds =>
      obtain ⟨a, dx, vs, ev, hF, hl, rl⟩ := id r1
      refine .inr ⟨a, c, dx, vs, ev, q1.fh _ _ hF, ?_⟩
      simp only [attrV] at h1
      cases ea : Z.P.attr c mid with
      | none => rw [ea] at h1; exact h1.elim
      | con d =>
        simp only [ea] at h1
        exact .inr (.inr ⟨d, rfl, fun w r => h1.ok q1 (r F1)⟩)
      | fld k =>
        simp only [ea] at h1
        cases ek : ds[k]? with
        | none => rw [ek] at h1; exact h1.elim
        | some d =>
          rw [ek] at h1
          obtain ⟨w, hw, rw_⟩ := rl.get ek
          exact .inl ⟨k, w, rfl, hw, h1.ok q1 rw_⟩
      | prop f =>
        simp only [ea] at h1
        refine .inr (.inl ⟨f, rfl, ?_⟩)
        subst ev
        refine ⟨F1, [.ins c ds], s1, q1.fh, q1.pen, q1.penF, q1.pinv, RepL.one r1, q1.tb, ?_⟩
        cases ec : Z.call f [.ins c ds] s1 with
        | ok d s' =>
          rw [ec] at h1
          exact fun v H' F' k r => h1 v H' F' k.ff (q1.call k) r
        | exc _ _ _ => rw [ec] at h1; exact h1.elim
        | no => rw [ec] at h1; exact h1.elim
    | _ => exact h1.elim
  · rcases h2 with ⟨c, d, ex, ea, hq⟩ | ⟨a, c, dx, vs, ex, ea, h2⟩
    · subst ex
      obtain rfl : u = Value.ref (Z.T.cA c) := rx
      obtain ⟨ck, no, v, w, k, rv, mc, r, cv⟩ := CN c d ea
      rw [← hK] at r cv
      exact getcval_ok I1 r cv fun s2 I2 => ⟨v, H1, I2, k.rel, hq v rv⟩
    subst ex
    obtain rfl : u = Value.ref a := rx
    rcases h2 with ⟨k, w, ek, hw, hq⟩ | ⟨f, ef, hq⟩ | ⟨d, ed, hq⟩
    · obtain ⟨ck, no, at_⟩ := FS c k ek
      exact getattr_ok I1 ea (by rw [hK]; exact ck.cl) (by rw [hK]; exact no) (zip_lookup ck.nd at_ hw) fun u s2 I2 r => ⟨w, H1, I2, r, hq⟩
    · obtain ⟨ck, p, hp⟩ := PR c f ef
      exact getprop_z hK (FZ f) I1 ea ck hp hq
    · obtain ⟨ck, no, v, u, k, rv, _⟩ := CN c d ed
      exact getcon_ok I1 ea (by rw [hK]; exact ck.cl) (by rw [hK]; exact k) (zip_lookup_none no) fun s2 I2 => ⟨v, H1, I2, k.rel, hq v rv⟩
end
end Rz
end

section
set_option autoImplicit false
set_option Elab.async false
set_option linter.all false
set_option maxHeartbeats 1000000
namespace Rz
open PySem L2

/-- the frame of a making: the new instance apart -/
structure FrI {S : Type} (T : Tb) (pn : Pn S) (F H F' H' : Hp) (s' : S) (x : Addr) : Prop where
  ff : Sub F F'
  fh : Sub F' H'
  pen : H' T.pen = some (pn.obj s')
  penF : F' T.pen = none
  pinv : pn.inv F' s'
  out : ∀ a o, H a = some o → F a = none → a ≠ T.pen → (∀ p ∈ T.tabs, a ≠ p.1) → a ≠ x → H' a = some o ∧ F' a = none
  tb : TabsH T F' H'

section
variable {S : Type} [Pen S] {Z : Cz S} {G : Fm} {F H F' H' : Hp} {σ : L2.St} {τ : List Slot} {s s' : S} {W : WX} {X : Cx}
def PostI (Z : Cz S) (F H : Hp) (Q : VK) (E : XK) (x : Addr) : CRes S → Prop
  | .ok d s' => ∀ H' F', FrI Z.T Z.pn F H F' H' s' x → Rep Z.T F' d (.ref x) → Q .non H'
  | .exc c fs s' => ∀ H' F' od, FrI Z.T Z.pn F H F' H' s' x → ExcOk Z.T F' c fs od → E (.ref (Z.T.cA c)) od H'
  | .no => False
/-- the promise of a class's __init__ at a new instance -/
def spI (Z : Cz S) (c : Nat) : Sp := fun vs H Q E => ∃ F ds s x dx ws, vs = .ref x :: ws ∧ H x = some (.ins (Z.T.cA c) dx []) ∧ F x = none ∧ x ≠ Z.T.pen ∧ Sub F H ∧ H Z.T.pen = some (Z.pn.obj s) ∧ F Z.T.pen = none ∧ Z.pn.inv F s ∧ RepL Z.T F ds ws ∧ TabsH Z.T F H ∧ PostI Z F H Q E x (Z.make c ds s)
def FnI (Z : Cz S) (X : Cx) (c : Nat) : Prop := ∃ k f, Room (k + 2) X.A ∧ X.A.guards = some [] ∧ FnRg X.prog X.w X.K X.mg X.base (CX X.prog X.w) k f (spI Z c) ∧ ((∃ ds s, Z.make c ds s ≠ .no) → Mk X.K (Z.T.cA c) f)

theorem make_guards {A : Around} {C : Addr} {us : List Value} {kw : List (Str × Value)} : (A.under (.builtin "type.__call__" ⟨.ref C :: us, kw⟩)).guards = A.guards := by
  simp [Around.under, Code.guards, Code.isGuard, guardIds, pushGuards]
theorem run_mk {pins : List (Addr × Obj)} {sh : Shared} {Q : VK} {us : List Value} {vs : List V} {C f : Addr} {k : Nat} {sp : Sp} (M : Mk X.K C f) (Fn : FnRg X.prog X.w X.K X.mg X.base (CX X.prog X.w) k f sp) (hr : Room (k + 1) X.A) (hg : X.A.guards = some []) (tk : Takes X W) (I : Inv X pins σ H sh) (r : Vals vs us)
    (h : ∀ x dx, H x = none → H dx = none → dx ≠ x → sp (.ref x :: vs) (upd (upd H dx (.own x)) x (.ins C dx [])) (fun v H2 => v = .non ∧ Q (.ref x) H2) (fun c d H' => W c d σ H')) :
    wpAny (model X.prog X.w) X.A (call (.ref C) us) (EP X pins σ Q) X.xe sh := by
  have hq := h (sh.heap.objs.size + 1) sh.heap.objs.size (I.hok.fresh (Nat.le_succ _)) (I.hok.fresh (Nat.le_refl _)) (Nat.ne_of_lt (Nat.lt_succ_self _))
  have I2 := Inv.made (C := C) I
  have r2 : Vals (V.ref (sh.heap.objs.size + 1) :: vs) (Value.ref (sh.heap.objs.size + 1) :: us) := .cons rfl r
  refine wpAny_call (make_map (f := f) I.kIn M.makes M.init (beq_iff_eq.mp M.fn) (codeAny_mono (Fn _ X.stack _ _ (Value.ref (sh.heap.objs.size + 1) :: us) _ _ _ (hr.make C us []) ((make_guards).trans hg) (I2.env0.make C us []) r2 hq _ ArgAs.rfl) fun r s' hq' => ?_))
  cases r with
  | error e => exact tk e s' (XE.of_call I2 (fun cls d H' z => z) hq')
  | ok fl =>
    cases fl with
    | ret u =>
      obtain ⟨v, H', I3, rv, ev, q3⟩ := I2.after hq'
      subst ev
      exact ⟨rv, ⟨V.ref (sh.heap.objs.size + 1), H', I3, rfl, q3⟩⟩
    | next => exact False.elim hq'
    | brk => exact False.elim hq'
    | cont => exact False.elim hq'

theorem FrI.fr {x dx : Addr} {o : HO} (hx : H x = none) (hd : H dx = none) (k : FrI Z.T Z.pn F (upd (upd H dx (.own x)) x o) F' H' s' x) : Fr Z.T Z.pn F H F' H' s' :=
  ⟨k.ff, k.fh, k.pen, k.penF, k.pinv, fun a u e n hp ht => k.out a u (by rw [upd_ne (ne_of_none e hx), upd_ne (ne_of_none e hd)]; exact e) n hp ht (ne_of_none e hx), k.tb⟩

theorem de_make {c : Nat} {x : Str} {args : List Expr} {cs : CAs} {p pos : Pos} (hK : X.K = Z.T.K) (FI : FnI Z X c) (tk : Takes X W) (hg : Gl X x) (hm : X.mg x = some (.ref (Z.T.cA c))) (hk : PySem.W.keepIn X.K (.ref (Z.T.cA c)) = true) (hs : argsOk args = true) (ha : ArgsZ Z G W X args cs) (hd : (x == ("__debug__" : Str)) = false) :
    PE X (.Call (.Name x p) args [] pos) (tD Z G W (.make c cs)) := by
  refine ⟨fun pins sh σ H Q I h => ?_⟩
  obtain ⟨F0, τ, s, q, h⟩ := h
  obtain ⟨k, f, hr, hgd, Fn, M⟩ := FI
  refine wpAny_Call_Name_kw (ld_glob I hg hm ?_ hd)
  refine callWith_z (first := []) (Kq := fun vs H1 => (∃ ds s, Z.make c ds s ≠ .no) ∧ ∀ x dx, H1 x = none → H1 dx = none → dx ≠ x → spI Z c (.ref x :: vs) (upd (upd H1 dx (.own x)) x (.ins (Z.T.cA c) dx [])) (fun v H2 => v = .non ∧ Q (.ref x) H2) (fun c d H' => W c d σ H')) hK hk hs ha I
    ⟨F0, τ, s, q, h.bind fun ds vs τ1 s1 F1 H1 e1 q1 r1 h1 => ⟨⟨ds, s1, fun z => by rw [z] at h1; exact h1⟩, fun x dx hx hdx hne => ?_⟩⟩ fun us s1 vs H1 I1 r ⟨hq0, hq⟩ => ?_
  · have hp : x ≠ Z.T.pen := fun z => by rw [z, q1.pen] at hx; cases hx
    have hp2 : dx ≠ Z.T.pen := fun z => by rw [z, q1.pen] at hdx; cases hdx
    refine ⟨F1, ds, s1, x, dx, vs, rfl, upd_same, q1.fh.none hx, hp, fun a o e => ?_, ?_, q1.penF, q1.pinv, r1, q1.tb.ext (Sub.refl _) (fun p hp => q1.tF hp) (fun p hp o e => by rw [upd_ne (ne_of_none e hx), upd_ne (ne_of_none e hdx)]; exact e), ?_⟩
    · have e' := q1.fh a o e
      rw [upd_ne (ne_of_none e' hx), upd_ne (ne_of_none e' hdx)]; exact e'
    · rw [upd_ne (Ne.symm hp), upd_ne (Ne.symm hp2)]; exact q1.pen
    · cases em : Z.make c ds s1 with
      | ok d s' =>
        rw [em] at h1
        exact fun H' F' kf r => ⟨rfl, h1 _ H' F' kf.ff (q1.call (kf.fr hx hdx)) r⟩
      | exc c' fs s' =>
        rw [em] at h1
        exact fun H' F' od kf r => h1 H' F' od kf.ff (q1.call (kf.fr hx hdx)) r
      | no => rw [em] at h1; exact h1
  · exact run_mk (M hq0) Fn (hr.mono (Nat.le_succ _)) hgd tk I1 r hq
end
end Rz
end

section
set_option Elab.async false
set_option linter.all false
set_option maxRecDepth 100000
set_option maxHeartbeats 4000000
/-! tuple * 1: the tuple itself -/
namespace L2
open PySem PySem.Spec PyProof.Rows
theorem tuple_mul1 (l : Addr) (items : Array Value) (n : Nat) (dd : Option Addr) (sl : Array (Option Value)) (u : Tok) :
    Meets (Builtin.«tuple.__mul__» ⟨[.ref l, .int 1 u], []⟩) (fun _ R s => s.heap.get? l = some { cls := .type "tuple", dict := dd, data := .seq items n, slots := sl } ∧
      R (.ok (.ret (Value.ref l))) s) :=
  .of_wp fun prog w A R s h => by
    obtain ⟨hp, g, d, tk, os⟩ := s
    obtain ⟨hl, h⟩ := h
    have f1 := AutoSeq1.idx_int
    have c0 : (decide ((1 : Int) < -(2 ^ 63)) || decide ((1 : Int) ≥ 2 ^ 63)) = false := by decide
    have c1 : (items.isEmpty || (1 : Int) == 1) = true := by simp
    wp_walk using wpAny_loadPart' hl
    repeat (first
      | (refine wpAny_ite_false (decide_eq_false (by rw [c0]; exact Bool.false_ne_true)) ?_; wp_walk using wpAny_loadPart' hl)
      | (refine wpAny_ite_true (by rw [c1]; rfl) ?_; wp_walk using wpAny_loadPart' hl)
      | (refine wpAny_ite_true (decide_eq_true (by rw [c1])) ?_; wp_walk using wpAny_loadPart' hl))
    all_goals exact ⟨_, rfl, h⟩
section
variable {X : Cx}
theorem op_repT1 : OpR X (binaryOp .Mult) (fun x y H Q => ∃ l xs, x = .ref l ∧ y = .int 1 ∧ SqT X.K H l xs ∧ Q (.ref l) H) := by
  intro pins s σ H x y v u Q I rx ry h
  obtain ⟨l, xs, rfl, rfl, hT, q⟩ := h
  cases rx
  obtain ⟨t, rfl⟩ := ry
  obtain ⟨its, r, ⟨⟨cls, dd, data, sl⟩, ho, hc, n, hd⟩, hs⟩ := I.tuple hT
  simp only at hc hd
  subst hc hd
  refine wpAny_binaryOp_repeat_ref (T := "tuple") (U := "int") (by decide) ⟨_, ho, rfl⟩ (fun s' => typeIs_int s' 1 t) noFill_tuple_mul F.fills_int_mul F.slot_int_rmul repeat_tuple F.slot_int_index.lookup
    (call_meets F.slot_int_rmul (typeIs_int s 1 t) F.entry_int_rmul (F.args_int_rmul_2 _ _) (int_rmul_tuple 1 t l its.toArray n dd sl)
      ⟨ho, rfl, ⟨_, ho, rfl⟩, call_meets F.slot_tuple_mul ⟨_, ho, rfl⟩ F.entry_tuple_mul (F.args_tuple_mul_2 _ _) (tuple_mul1 l its.toArray n dd sl t) ⟨ho, ?_⟩⟩)
  exact ⟨.ref l, H, I, rfl, q⟩
end
end L2
end

section
set_option autoImplicit false
set_option Elab.async false
set_option linter.all false
set_option maxHeartbeats 1000000
namespace Rz
open PySem L2

section
variable {S : Type} [Pen S] {Z : Cz S} {G : Fm} {F H : Hp} {σ : L2.St} {τ : List Slot} {s : S} {W : WX} {X : Cx} {pins : List (Addr × Obj)} {sh : Shared}

theorem small_cmul {i : Int} (h : i.natAbs < 2 ^ 64) : -(2 ^ 64) < i ∧ i < 2 ^ 64 := by
  have e : (2 : Int) ^ 64 = 18446744073709551616 := by decide
  have e2 : (2 : Nat) ^ 64 = 18446744073709551616 := by decide
  rw [e]; rw [e2] at h
  omega
theorem mulOk_ok {i j : Int} (h : mulOk i j = true) : IntMulOk i j := by
  simp only [mulOk, Bool.or_eq_true, Bool.and_eq_true, decide_eq_true_eq] at h
  rcases h with (h | h) | h
  · exact (wide_mul (of_decide_eq_true h.1) (of_decide_eq_true h.2) (by decide) (by decide) (by decide)).ok
  · exact CMul.ok (.inl (small_cmul h))
  · exact CMul.ok (.inr (small_cmul h))
theorem bg_lt {i : Int} (h : bg i = true) : i.natAbs < 2 ^ 8000 := of_decide_eq_true h
/-- the numbers' operators -/
theorem binI_z {o : Operator} {i j k : Int} {u w : Value} {Q : VK} (hI : Inv X pins σ H sh) (rx : RelV (.int i) u) (ry : RelV (.int j) w) (e : binI o i j = some k) (h : Q (.int k) H) : wpAny (model X.prog X.w) X.A (binaryOp o u w) (EP X pins σ Q) X.xe sh := by
  cases o <;> simp only [binI] at e
  case Add => cases e; exact op_add pins sh σ H _ _ u w Q hI rx ry ⟨i, j, rfl, rfl, h⟩
  case Sub => cases e; exact op_sub pins sh σ H _ _ u w Q hI rx ry ⟨i, j, rfl, rfl, h⟩
  case Mult =>
    cases hb : mulOk i j with
    | false => rw [hb] at e; cases e
    | true =>
      rw [hb] at e; cases e
      simp only [mulOk, Bool.or_eq_true, Bool.and_eq_true, decide_eq_true_eq] at hb
      rcases hb with (hb | hb) | hb
      · exact op_mulW pins sh σ H _ _ u w Q hI rx ry ⟨i, j, rfl, rfl, wide_mul (bg_lt hb.1) (bg_lt hb.2) (by decide) (by decide) (by decide), h⟩
      · exact op_mul pins sh σ H _ _ u w Q hI rx ry ⟨i, j, rfl, rfl, .inl (small_cmul hb), h⟩
      · exact op_mul pins sh σ H _ _ u w Q hI rx ry ⟨i, j, rfl, rfl, .inr (small_cmul hb), h⟩
  case Mod =>
    cases hb : decide (0 < j) with
    | false => rw [hb] at e; cases e
    | true =>
      rw [hb] at e; cases e
      exact op_mod pins sh σ H _ _ u w Q hI rx ry ⟨i, j, rfl, rfl, of_decide_eq_true hb, h⟩
  case Pow =>
    cases hb : decide (0 ≤ j) && decide (j ≤ 1000) && decide (i.natAbs < 2 ^ 64) with
    | false => rw [hb] at e; cases e
    | true =>
      rw [hb] at e; cases e
      simp only [Bool.and_eq_true, decide_eq_true_eq] at hb
      exact op_pow pins sh σ H _ _ u w Q hI rx ry ⟨i, j, rfl, rfl, ⟨hb.1.1, by omega, hb.2⟩, h⟩
  case FloorDiv =>
    cases hb : decide (0 < j) && bg j with
    | false => rw [hb] at e; cases e
    | true =>
      rw [hb] at e; cases e
      simp only [Bool.and_eq_true, decide_eq_true_eq] at hb
      exact op_fdivW pins sh σ H _ _ u w Q hI rx ry ⟨i, j, rfl, rfl, wide_div hb.1 (bg_lt hb.2) (by decide) (by decide), h⟩
  all_goals cases e

theorem RepL.flat_rep {T : Tb} {ds : List D} {vs : List V} (r : RepL T F ds vs) : ∀ n : Nat, RepL T F (List.replicate n ds).flatten (List.replicate n vs).flatten
  | 0 => rfl
  | n + 1 => by
    rw [List.replicate_succ, List.replicate_succ, List.flatten_cons, List.flatten_cons]
    exact r.append (RepL.flat_rep r n)

theorem repD_of {ds : List D} {k : Int} {es : List D} (h : repD ds k = some es) : -1000 ≤ k ∧ k ≤ 1000 ∧ ds.length ≤ 4000 ∧ es = (List.replicate k.toNat ds).flatten := by
  unfold repD at h
  cases hb : decide (-1000 ≤ k) && decide (k ≤ 1000) && decide (ds.length ≤ 4000) with
  | false => rw [hb] at h; cases h
  | true =>
    rw [hb] at h
    simp only [Bool.and_eq_true, decide_eq_true_eq] at hb
    exact ⟨hb.1.1, hb.1.2, hb.2, (Option.some.inj h).symm⟩
theorem bif_some {α : Type} {b : Bool} {a c : α} (h : (bif b then some a else none) = some c) : b = true ∧ a = c := by
  cases b with
  | true => exact ⟨rfl, Option.some.inj h⟩
  | false => cases h
theorem map_some {α β : Type} {o : Option α} {f : α → β} {c : β} (h : o.map f = some c) : ∃ a, o = some a ∧ f a = c := Option.map_eq_some_iff.mp h

/-- the operators of plain values -/
theorem binD_z {o : Operator} {x y z : D} {v v' : V} {u w : Value} {Q : VK} (hK : X.K = Z.T.K) (hI : Inv X pins σ H sh) (rx : RelV v u) (ry : RelV v' w) (q : SR Z.T Z.pn G F H σ τ s) (r1 : Rep Z.T F x v) (r2 : Rep Z.T F y v') (e : binD o x y = some z)
    (h : Post Z G (Rep Z.T) F σ Q W (.ok z τ s)) : wpAny (model X.prog X.w) X.A (binaryOp o u w) (EP X pins σ Q) X.xe sh := by
  cases x with
  | int i =>
    cases r1
    cases y with
    | int j =>
      cases r2
      obtain ⟨k, ek, rfl⟩ := map_some e
      exact binI_z hI rx ry ek (h.ok q rfl)
    | _ => cases e
  | str a =>
    cases r1
    cases y with
    | str b =>
      cases r2
      cases o <;> simp only [binD] at e
      case Add =>
        obtain ⟨hl, rfl⟩ := bif_some e
        exact op_add_str pins sh σ H _ _ u w Q hI rx ry ⟨a, b, rfl, rfl, lim_size hl, h.ok q rfl⟩
      all_goals cases e
    | int k =>
      cases r2
      cases o <;> simp only [binD] at e
      case Mult =>
        obtain ⟨hl, rfl⟩ := bif_some e
        simp only [Bool.and_eq_true, decide_eq_true_eq] at hl
        obtain ⟨⟨k1, k2⟩, hl⟩ := hl
        obtain ⟨t, rfl⟩ : ∃ t, u = .str a t := rx
        obtain ⟨t2, rfl⟩ : ∃ t, w = .int k t := ry
        have hok : PySem.MulOk a k := by
          refine ⟨by rw [decide_eq_false (show ¬ k < -(2 ^ 63 : Int) by omega), decide_eq_false (show ¬ k ≥ 2 ^ 63 by omega)]; rfl, fun _ _ z => ?_, fun _ _ => ?_⟩
          · have : ((a.length : Int)) ≤ (2 ^ 63 - 1) / k := Int.le_ediv_of_mul_le (by omega) (Int.le_trans (Int.mul_le_mul (show (a.length : Int) ≤ 1000 by omega) k2 (by omega) (by omega)) (by decide))
            omega
          · have : a.length * k.toNat ≤ 1000 * 1000 := Nat.mul_le_mul hl (by omega)
            have h2 : a.length * k.toNat ≤ sizeLine := Nat.le_trans this (by rw [sizeLine_eq]; decide)
            show decide (_ > sizeLine) = false
            exact decide_eq_false (by omega)
        exact PySem.SB.mul hok fun t' tk => ⟨.str (PySem.Txt.mul a k), H, hI.tok tk, ⟨t', rfl⟩, h.ok q rfl⟩
      all_goals cases e
    | _ => cases e
  | lst a =>
    obtain ⟨p, vs, rfl, hF, rl⟩ := r1
    cases y with
    | lst b =>
      obtain ⟨p', vs', rfl, hF', rl'⟩ := r2
      cases o <;> simp only [binD] at e
      case Add =>
        obtain ⟨hl, rfl⟩ := bif_some e
        refine op_cat pins sh σ H _ _ u w Q hI rx ry ⟨p, p', vs, vs', rfl, rfl, q.fh _ _ hF, q.fh _ _ hF', by rw [rl.length, rl'.length]; exact lim_size hl, fun n hn => ?_⟩
        have nF := q.fh.none hn
        exact h _ _ _ (Sub.new nF) (q.new hn) ⟨n, _, rfl, upd_same, (rl.append rl').mono (Sub.new nF)⟩
      all_goals cases e
    | int k =>
      cases r2
      cases o <;> simp only [binD] at e
      case Mult =>
        obtain ⟨es, ee, rfl⟩ := map_some e
        obtain ⟨k0, k1, hl, rfl⟩ := repD_of ee
        refine op_rep pins sh σ H _ _ u w Q hI rx ry ⟨p, k, vs, rfl, rfl, q.fh _ _ hF, by omega, by omega, ?_, fun n hn => ?_⟩
        · rw [rl.length, sizeLine_eq]
          have h2 : k.toNat ≤ 1000 := by omega
          exact Nat.le_trans (Nat.mul_le_mul hl h2) (by decide)
        · have nF := q.fh.none hn
          exact h _ _ _ (Sub.new nF) (q.new hn) ⟨n, _, rfl, upd_same, (rl.flat_rep _).mono (Sub.new nF)⟩
      all_goals cases e
    | _ => cases e
  | tup a =>
    obtain ⟨p, vs, rfl, hF, rl⟩ := r1
    have hF' : SqT X.K H p vs := by rw [hK]; exact q.fh.sqT hF
    cases y with
    | tup b =>
      obtain ⟨p', vs', rfl, hG, rl'⟩ := r2
      have hG' : SqT X.K H p' vs' := by rw [hK]; exact q.fh.sqT hG
      cases o <;> simp only [binD] at e
      case Add =>
        obtain ⟨hl, rfl⟩ := bif_some e
        refine op_catA pins sh σ H _ _ u w Q hI rx ry ⟨p, p', vs, vs', rfl, rfl, hF', hG', by rw [rl.length, rl'.length]; exact lim_size hl, fun e1 => ?_, fun e1 e2 => ?_, fun e1 e2 n hn => ?_⟩
        · subst e1
          have : a = [] := List.length_eq_zero_iff.mp (by rw [← rl.length]; rfl)
          subst this
          exact h.ok q ⟨p', vs', rfl, hG, rl'⟩
        · subst e2
          have : b = [] := List.length_eq_zero_iff.mp (by rw [← rl'.length]; rfl)
          subst this
          exact h.ok q ⟨p, vs, rfl, hF, by rw [List.append_nil]; exact rl⟩
        · have nF := q.fh.none hn
          exact h _ _ _ (Sub.new nF) (q.new hn) ⟨n, _, rfl, SqT.of upd_same, (rl.append rl').mono (Sub.new nF)⟩
      all_goals cases e
    | int k =>
      cases r2
      cases o <;> simp only [binD] at e
      case Mult =>
        cases h1 : decide (k = 1) with
        | true =>
          rw [h1] at e; cases e
          have ek := of_decide_eq_true h1
          subst ek
          exact op_repT1 pins sh σ H _ _ u w Q hI rx ry ⟨p, vs, rfl, rfl, hF', h.ok q ⟨p, vs, rfl, hF, rl⟩⟩
        | false =>
        rw [h1] at e
        simp only [cond_false] at e
        cases hb : !a.isEmpty && decide (2 ≤ k) && decide (k ≤ 1000) && decide (a.length ≤ 1000) with
        | false => rw [hb] at e; cases e
        | true =>
          rw [hb] at e; cases e
          simp only [Bool.and_eq_true, decide_eq_true_eq] at hb
          refine op_repT pins sh σ H _ _ u w Q hI rx ry ⟨p, k, vs, rfl, rfl, hF', ?_, hb.1.1.2, hb.1.2, by rw [rl.length]; exact hb.2, fun n hn => ?_⟩
          · rintro rfl
            have : a = [] := List.length_eq_zero_iff.mp (by rw [← rl.length]; rfl)
            subst this
            simp at hb
          · have nF := q.fh.none hn
            exact h _ _ _ (Sub.new nF) (q.new hn) ⟨n, _, rfl, SqT.of upd_same, (rl.flat_rep _).mono (Sub.new nF)⟩
      all_goals cases e
    | _ => cases e
  | _ => cases e
end
end Rz
end

section
set_option autoImplicit false
set_option Elab.async false
set_option linter.all false
set_option maxRecDepth 100000
set_option maxHeartbeats 2000000
namespace Rz
open PySem L2 PySem.W

/-! ### operators of own classes beside values of built-in types -/
section
variable {prog : Program} {w : World} {A : Around} {E : Value → Shared → Prop} {sh : Shared} {K : Frag} {x C f : Addr} {ox : Obj} {od : Option Obj} {T : String}

/-- the instance left, a value of a built-in type right -/
theorem own_left {op : Operator} {b : Value} {fo ro rc : Option Value} {Q : Value → Shared → Prop} (X : K.In sh.heap) (I : InstAt sh.heap x ox C od) (hb : Looks (model prog w) sh.heap (typeOf b) (.type T)) (hc : selfFirst K C = true)
    (hs : findIn K (.ref C) (PySem.dunder op.info.2) = some (some (.ref f))) (hf : isFn K (.ref f) = true) (hr : findIn K (.ref C) (dunderR op.info.2) = some rc) (hp : rc = none ∨ ∃ g : Addr, rc = some (.ref g))
    (h1 : findIn K (.type T) (PySem.dunder op.info.2) = some fo) (h2 : findIn K (.type T) (dunderR op.info.2) = some ro) (hsub : subIn K (.type T) (.ref C) = some false)
    (h : wpAny (model prog w) A (call (.ref f) [.ref x, b]) (CmpBack Q) E sh) : wpAny (model prog w) A (binaryOp op (.ref x) b) Q E sh := by
  obtain ⟨cd, rest, hcd, hm⟩ := ksp_first hc
  rcases hi : op.info with ⟨sym, nm'⟩
  rw [hi] at hs hr h1 h2
  dsimp only at hs hr h1 h2
  have one := ksp_try X I hs hf h
  obtain ⟨hh, g, d, tt, os⟩ := sh
  have L1 : Looks (model prog w) hh (typeOf (.ref x)) (.ref C) := I.type
  have L2' : Looks (model prog w) hh (typeOf b) (.type T) := hb
  have L3 : Looks (model prog w) hh (fillsNumberSlot (.ref C) nm') true := fills_K X hcd hm hs
  have L4 : Looks (model prog w) hh (fillsNumberSlot (.type T) nm') ((fo.isSome && !isSeqSlot fo) || (ro.isSome && !isSeqSlot ro)) := ksp_fillsT X h1 h2
  have L5 : Looks (model prog w) hh (isSubtype (.type T) (.ref C)) false := looks_subIn X hsub
  have L6 : Looks (model prog w) hh (numberSlotInPython (.ref C) nm') true := ksp_inPy X hs hr hp
  have L7 : Looks (model prog w) hh (numberSlotInPython (.type T) nm') false := Looks.of_pure rfl
  have L8 : Looks (model prog w) hh (typeLookup (.type T) (dunderR nm')) ro := looks_findIn X h2
  generalize ((fo.isSome && !isSeqSlot fo) || (ro.isSome && !isSeqSlot ro)) = right at L4
  have hne : (Value.ref C == Value.type T) = false := Bool.eq_false_iff.mpr fun q => by cases beq_iff_eq.mp q
  simp only [binaryOp, hi]
  refine wpAny_holding (wpAny_bind ?_)
  unfold binaryOp1
  refine wpAny_bind (L1.at (wpAny_bind (L2'.at (wpAny_bind (L3.at ?_)))))
  simp only [hne, Bool.false_eq_true, if_false]
  cases right with
  | false =>
    ksp_lk
    refine wpAny_mono one (fun r s' hr' => ?_) fun _ _ e => e
    obtain ⟨v, rfl, hq⟩ := hr'
    ksp_lk
    exact hq
  | true =>
    ksp_lk
    refine wpAny_mono one (fun r s' hr' => ?_) fun _ _ e => e
    obtain ⟨v, rfl, hq⟩ := hr'
    ksp_lk
    exact hq

/-- a value of a built-in type left (its own operator declines, or it has none), the instance right -/
theorem own_right {op : Operator} {a : Value} {fo ro : Option Value} {fC : Addr} {Q : Value → Shared → Prop} (X : K.In sh.heap) (I : InstAt sh.heap x ox C od) (ha : Looks (model prog w) sh.heap (typeOf a) (.type T)) (hc : selfFirst K C = true)
    (hs : findIn K (.ref C) (PySem.dunder op.info.2) = some (some (.ref fC))) (hr : findIn K (.ref C) (dunderR op.info.2) = some (some (.ref f))) (hf : isFn K (.ref f) = true)
    (h1 : findIn K (.type T) (PySem.dunder op.info.2) = some fo) (h2 : findIn K (.type T) (dunderR op.info.2) = some ro) (hsub : subIn K (.ref C) (.type T) = some false)
    (hd : ((fo.isSome && !isSeqSlot fo) || (ro.isSome && !isSeqSlot ro)) = true → Looks (model prog w) sh.heap (tryMethod a (PySem.dunder op.info.2) (.ref x)) none)
    (h : wpAny (model prog w) A (call (.ref f) [.ref x, a]) (CmpBack Q) E sh) : wpAny (model prog w) A (binaryOp op a (.ref x)) Q E sh := by
  obtain ⟨cd, rest, hcd, hm⟩ := ksp_first hc
  rcases hi : op.info with ⟨sym, nm'⟩
  rw [hi] at hs hr h1 h2 hd
  dsimp only at hs hr h1 h2 hd
  have one := ksp_try X I hr hf h
  obtain ⟨hh, g, d, tt, os⟩ := sh
  have L1 : Looks (model prog w) hh (typeOf (.ref x)) (.ref C) := I.type
  have L2' : Looks (model prog w) hh (typeOf a) (.type T) := ha
  have L3 : Looks (model prog w) hh (fillsNumberSlot (.ref C) nm') true := fills_K X hcd hm hs
  have L4 : Looks (model prog w) hh (fillsNumberSlot (.type T) nm') ((fo.isSome && !isSeqSlot fo) || (ro.isSome && !isSeqSlot ro)) := ksp_fillsT X h1 h2
  have L5 : Looks (model prog w) hh (isSubtype (.ref C) (.type T)) false := looks_subIn X hsub
  have L7 : Looks (model prog w) hh (numberSlotInPython (.type T) nm') false := Looks.of_pure rfl
  generalize ((fo.isSome && !isSeqSlot fo) || (ro.isSome && !isSeqSlot ro)) = left at L4 hd
  have hne : (Value.type T == Value.ref C) = false := Bool.eq_false_iff.mpr fun q => by cases beq_iff_eq.mp q
  simp only [binaryOp, hi]
  refine wpAny_holding (wpAny_bind ?_)
  unfold binaryOp1
  refine wpAny_bind (L2'.at (wpAny_bind (L1.at (wpAny_bind (L4.at ?_)))))
  simp only [hne, Bool.false_eq_true, if_false]
  cases left with
  | false =>
    ksp_lk
    refine wpAny_mono one (fun r s' hr' => ?_) fun _ _ e => e
    obtain ⟨v, rfl, hq⟩ := hr'
    ksp_lk
    exact hq
  | true =>
    have L9 := hd rfl
    ksp_lk
    refine L9.at ?_
    ksp_lk
    refine wpAny_mono one (fun r s' hr' => ?_) fun _ _ e => e
    obtain ⟨v, rfl, hq⟩ := hr'
    ksp_lk
    exact hq
end

/-! ### int declines an instance -/
section
variable {x C dx : Addr}
theorem int_add_ins (i : Int) (t : Tok) : Meets (Builtin.«int.__add__» ⟨[.int i t, .ref x], []⟩) (fun _ R s => s.heap.get? x = some (instObj C dx) ∧ R (.ok (.ret .notImplemented)) s) :=
  .of_wp fun prog w A R s h => by obtain ⟨hp, g, d, tk, os⟩ := s; obtain ⟨hl, h⟩ := h; wp_walk using wpAny_loadPart' hl, wpAny_load hl; exact ⟨_, rfl, h⟩
theorem int_mul_ins (i : Int) (t : Tok) : Meets (Builtin.«int.__mul__» ⟨[.int i t, .ref x], []⟩) (fun _ R s => s.heap.get? x = some (instObj C dx) ∧ R (.ok (.ret .notImplemented)) s) :=
  .of_wp fun prog w A R s h => by obtain ⟨hp, g, d, tk, os⟩ := s; obtain ⟨hl, h⟩ := h; wp_walk using wpAny_loadPart' hl, wpAny_load hl; exact ⟨_, rfl, h⟩
theorem int_sub_ins (i : Int) (t : Tok) : Meets (Builtin.«int.__sub__» ⟨[.int i t, .ref x], []⟩) (fun _ R s => s.heap.get? x = some (instObj C dx) ∧ R (.ok (.ret .notImplemented)) s) :=
  .of_wp fun prog w A R s h => by obtain ⟨hp, g, d, tk, os⟩ := s; obtain ⟨hl, h⟩ := h; wp_walk using wpAny_loadPart' hl, wpAny_load hl; exact ⟨_, rfl, h⟩
end
end Rz
end

section
set_option autoImplicit false
set_option Elab.async false
set_option linter.all false
set_option maxRecDepth 100000
set_option maxHeartbeats 2000000
namespace Rz
open PySem L2 PySem.W

/-- built-in types that stand beside an own operator -/
def tyNs : List String := ["int", "str", "NoneType", "tuple", "list", "bool", "dict"]
/-- types of the left that have no number slot for these operators -/
def tyNo : List String := ["str", "NoneType", "tuple", "list"]
structure OpL (T : Tb) (c : Nat) (o : Operator) (f : Nat) : Prop where
  ck : ClsZ T c
  sf : selfFirst T.K (T.cA c) = true
  at_ : findIn T.K (.ref (T.cA c)) (PySem.dunder o.info.2) = some (some (.ref (T.fA f)))
  fn : isFn T.K (.ref (T.fA f)) = true
  rc : ∃ rc, findIn T.K (.ref (T.cA c)) (dunderR o.info.2) = some rc ∧ (rc = none ∨ ∃ g : Addr, rc = some (.ref g))
  ty : ∀ n ∈ tyNs, ∃ fo ro, findIn T.K (.type n) (PySem.dunder o.info.2) = some fo ∧ findIn T.K (.type n) (dunderR o.info.2) = some ro ∧ subIn T.K (.type n) (.ref (T.cA c)) = some false
structure OpZR (T : Tb) (c : Nat) (o : Operator) (f : Nat) : Prop where
  ck : ClsZ T c
  sf : selfFirst T.K (T.cA c) = true
  lf : ∃ g : Addr, findIn T.K (.ref (T.cA c)) (PySem.dunder o.info.2) = some (some (.ref g))
  at_ : findIn T.K (.ref (T.cA c)) (dunderR o.info.2) = some (some (.ref (T.fA f)))
  fn : isFn T.K (.ref (T.fA f)) = true
  ty : ∀ n ∈ tyNs, ∃ fo ro, findIn T.K (.type n) (PySem.dunder o.info.2) = some fo ∧ findIn T.K (.type n) (dunderR o.info.2) = some ro ∧ subIn T.K (.ref (T.cA c)) (.type n) = some false ∧ (n ∈ tyNo → ((fo.isSome && !isSeqSlot fo) || (ro.isSome && !isSeqSlot ro)) = false)

section
variable {S : Type} [Pen S] {Z : Cz S} {G : Fm} {F H : Hp} {σ : L2.St} {τ : List Slot} {s : S} {W : WX} {X : Cx} {pins : List (Addr × Obj)} {sh : Shared}

theorem looks_tn {d : D} {n : String} {v : V} {u : Value} (hK : X.K = Z.T.K) (I : Inv X pins σ H sh) (q : SR Z.T Z.pn G F H σ τ s) (r : Rep Z.T F d v) (rv : RelV v u) (e : d.tn = some n) : Looks (model X.prog X.w) sh.heap (typeOf u) (.type n) := by
  cases d <;> simp only [D.tn] at e
  case non => cases e; cases r; cases rv; exact Looks.of_pure rfl
  case bl => cases e; cases r; cases rv; exact Looks.of_pure rfl
  case int => cases e; cases r; obtain ⟨t, rfl⟩ := rv; exact Looks.of_pure rfl
  case str => cases e; cases r; obtain ⟨t, rfl⟩ := rv; exact Looks.of_pure rfl
  case tup ds =>
    cases e
    obtain ⟨a, vs, rfl, hs, _⟩ := r
    cases rv
    have hs' : SqT X.K H a vs := by rw [hK]; exact q.fh.sqT hs
    obtain ⟨its, _, ⟨o, ho, hc, _⟩, _⟩ := I.tuple hs'
    exact fun A Q E s' k q' => wpAny_typeOf_ref (k _ _ ho) (by rw [hc]; exact q')
  case lst ds =>
    cases e
    obtain ⟨a, vs, rfl, hs, _⟩ := r
    cases rv
    obtain ⟨its, _, ⟨o, n, ho, hc, _⟩, _⟩ := I.list (SqL.of (K := X.K) (q.fh _ _ hs))
    exact fun A Q E s' k q' => wpAny_typeOf_ref (k _ _ ho) (by rw [hc]; exact q')
  case dct ks ds =>
    cases e
    obtain ⟨a, vs, rfl, hs, _⟩ := r
    cases rv
    obtain ⟨_, _, _, _, o, es, ep, h1, h2, _⟩ := (show ObjOk X.prog X.w H sh.heap a (.dK (ks.zip vs)) from I.hok a _ (q.fh _ _ hs))
    exact fun A Q E s' k q' => wpAny_typeOf_ref (k _ _ h1) (by rw [h2.1]; exact q')
  all_goals cases e
theorem inst_z {c : Nat} {ds : List D} {v : V} {u : Value} (I : Inv X pins σ H sh) (q : SR Z.T Z.pn G F H σ τ s) (r : Rep Z.T F (.ins c ds) v) (rv : RelV v u) : ∃ a ox od dx, u = .ref a ∧ v = .ref a ∧ InstAt sh.heap a ox (Z.T.cA c) od ∧ ox = instObj (Z.T.cA c) dx := by
  obtain ⟨a, dx, vs, rfl, hF, _⟩ := r
  cases rv
  obtain ⟨mA, O, _⟩ := ins_get I.hok (q.fh _ _ hF)
  obtain ⟨od, J, _⟩ := O.look
  exact ⟨a, _, _, dx, rfl, rfl, J, rfl⟩
theorem not_ni {v : V} {u : Value} (r : RelV v u) : u ≠ .notImplemented := by
  intro z; subst z
  cases v <;> first | (obtain ⟨t, e⟩ := r; cases e; done) | (cases r; done)
theorem back_of {Q : Value → Shared → Prop} {Q' : VK} {u : Value} {s' : Shared} (h : EP X pins σ Q' u s') : CmpBack (EP X pins σ Q') u s' := by
  obtain ⟨v, H', I', r, q⟩ := id h
  cases u <;> first | exact h | exact absurd rfl (not_ni r)
/-- a method's call by what a table says -/
theorem callM_z {f : Nat} {xs : List D} {vs : List V} {us : List Value} {Q : VK} (FZ : ∀ f, FnZ Z X f) (tk : Takes X W) (I : Inv X pins σ H sh) (q : SR Z.T Z.pn G F H σ τ s) (r : RepL Z.T F xs vs) (rv : Vals vs us) (h : Post Z G (Rep Z.T) F σ Q W ((Z.call f xs s).out τ)) :
    wpAny (model X.prog X.w) X.A (call (.ref (Z.T.fA f)) us) (CmpBack (EP X pins σ Q)) X.xe sh :=
  thn (wpAny_call (run_z (FZ f) tk I rv (spF_of q r h))) fun u s' z => back_of (Q := fun _ _ => True) z
theorem callM_of {c m : Nat} {xs : List D} {Q : VK} (h : Post Z G (Rep Z.T) F σ Q W (callM Z.P Z.call c m xs τ s)) : ∃ f, Z.P.meth c m = some f ∧ Post Z G (Rep Z.T) F σ Q W ((Z.call f xs s).out τ) := by
  unfold callM at h
  cases e : Z.P.meth c m with
  | none => rw [e] at h; exact h.elim
  | some f => rw [e] at h; exact ⟨f, rfl, h⟩

theorem declines_int {o : Operator} {i : Int} {t : Tok} {a C dx : Addr} {od : Option Obj} (hd : declOk o (.int i) = true) (J : InstAt sh.heap a (instObj C dx) C od) : Looks (model X.prog X.w) sh.heap (tryMethod (.int i t) (PySem.dunder o.info.2) (.ref a)) none := by
  intro A Q E s' k h
  have hl := k _ _ J.at_
  have one : ∀ {nm id : String} {B : Builtin}, PySem.Slot "int" (PySem.dunder nm) id → entryFor table id = some B → PySem.argsOk id ⟨[.int i t, .ref a], []⟩ → Meets (B ⟨[.int i t, .ref a], []⟩) (fun _ R s => s.heap.get? a = some (instObj C dx) ∧ R (.ok (.ret .notImplemented)) s) →
      wpAny (model X.prog X.w) A (tryMethod (.int i t) (PySem.dunder nm) (.ref a)) Q E s' := fun sl en ar me =>
    wpAny_tryMethod_declines (typeIs_int s' i t) sl (call_meets sl (typeIs_int s' i t) en ar me ⟨hl, rfl, h⟩)
  cases o
  case Add => exact one (nm := "add") F.slot_int_add F.entry_int_add (F.args_int_add_2 _ _) (int_add_ins i t)
  case Sub => exact one (nm := "sub") F.slot_int_sub F.entry_int_sub (F.args_int_sub_2 _ _) (int_sub_ins i t)
  case Mult => exact one (nm := "mul") F.slot_int_mul F.entry_int_mul (F.args_int_mul_2 _ _) (int_mul_ins i t)
  all_goals cases hd

theorem binV_z {o : Operator} {x y : D} {v v' : V} {u w : Value} {Q : VK} (hK : X.K = Z.T.K) (FZ : ∀ f, FnZ Z X f) (OL : ∀ c f, Z.P.meth c (dun o) = some f → OpL Z.T c o f) (OR : ∀ c f, Z.P.meth c (dun o + 1) = some f → OpZR Z.T c o f) (tk : Takes X W) (I : Inv X pins σ H sh) (rx : RelV v u) (ry : RelV v' w) (q : SR Z.T Z.pn G F H σ τ s)
    (r1 : Rep Z.T F x v) (r2 : Rep Z.T F y v') (h : Post Z G (Rep Z.T) F σ Q W (binV Z.P Z.call o x y τ s)) : wpAny (model X.prog X.w) X.A (binaryOp o u w) (EP X pins σ Q) X.xe sh := by
  have left : ∀ {c : Nat} {ds : List D}, x = .ins c ds → wpAny (model X.prog X.w) X.A (binaryOp o u w) (EP X pins σ Q) X.xe sh := by
    rintro c ds rfl
    simp only [binV] at h
    obtain ⟨hy, h⟩ := h.bif
    obtain ⟨f, ef, h⟩ := callM_of h
    obtain ⟨ck, sf, at_, fn, ⟨rc, hrc, hrp⟩, ty⟩ := OL c f ef
    obtain ⟨a, ox, od, dx, rfl, rfl, J, _⟩ := inst_z I q r1 rx
    have go := callM_z FZ tk I q (RepL.two r1 r2) (.cons rx (.cons ry .nil)) h
    obtain ⟨m, fr⟩ := I.fr
    rw [← hK] at sf at_ fn hrc ty
    cases et : y.tn with
    | some n =>
      obtain ⟨fo, ro, t1, t2, t3⟩ := ty n (by cases y <;> simp only [D.tn] at et <;> cases et <;> decide)
      exact own_left I.kIn J (looks_tn hK I q r2 ry et) sf at_ fn hrc hrp t1 t2 t3 go
    | none =>
      obtain ⟨ds', rfl⟩ : ∃ ds', y = .ins c ds' := by
        cases y <;> simp only [sameOrBt, D.tn] at hy et <;> first | (cases hy; done) | (cases et; done) | exact ⟨_, by rw [beq_iff_eq.mp hy]⟩
      obtain ⟨a', ox', od', dx', rfl, rfl, J', _⟩ := inst_z I q r2 ry
      exact binop_K fr I.mod.kin J J'.type sf at_ fn go
  cases x with
  | ins c ds => exact left rfl
  | _ =>
    simp only [binV] at h
    cases y with
    | ins c ds =>
      obtain ⟨hy, h⟩ := h.bif
      obtain ⟨f, ef, h⟩ := callM_of h
      obtain ⟨ck, sf, ⟨g, lf⟩, at_, fn, ty⟩ := OR c f ef
      obtain ⟨a, ox, od, dx, rfl, rfl, J, rfl⟩ := inst_z I q r2 ry
      have go := callM_z FZ tk I q (RepL.two r2 r1) (.cons ry (.cons rx .nil)) h
      rw [← hK] at sf at_ fn ty lf
      have no : ∀ n, n ∈ tyNo → Looks (model X.prog X.w) sh.heap (typeOf u) (.type n) → wpAny (model X.prog X.w) X.A (binaryOp o u (.ref a)) (EP X pins σ Q) X.xe sh := fun n hn hl => by
        have hm : n ∈ tyNs := by
          simp only [tyNo, tyNs, List.mem_cons, List.not_mem_nil, or_false] at hn ⊢
          rcases hn with h | h | h | h <;> simp [h]
        obtain ⟨fo, ro, t1, t2, t3, t4⟩ := ty n hm
        exact own_right I.kIn J hl sf lf at_ fn t1 t2 t3 (fun z => by rw [t4 hn] at z; cases z) go
      first
        | (cases hy; done)
        | exact no _ (by decide) (looks_tn (n := "str") hK I q r1 rx rfl)
        | exact no _ (by decide) (looks_tn (n := "NoneType") hK I q r1 rx rfl)
        | exact no _ (by decide) (looks_tn (n := "tuple") hK I q r1 rx rfl)
        | exact no _ (by decide) (looks_tn (n := "list") hK I q r1 rx rfl)
        | (cases r1; obtain ⟨t, rfl⟩ := rx
           obtain ⟨fo, ro, t1, t2, t3, t4⟩ := ty "int" (by decide)
           exact own_right I.kIn J (Looks.of_pure rfl) sf lf at_ fn t1 t2 t3 (fun _ => declines_int hy J) go)
    | _ =>
      obtain ⟨z, ez, h⟩ := h.of
      exact binD_z hK I rx ry q r1 r2 ez h
end
end Rz
end

section
set_option autoImplicit false
set_option Elab.async false
set_option linter.all false
set_option maxRecDepth 100000
set_option maxHeartbeats 2000000
namespace Rz
open PySem L2 PySem.W

/-- the names of special methods, then the program's own -/
def nmOf (us : List Str) (m : Nat) : Str :=
  match m with
  | 0 => "__add__" | 1 => "__radd__" | 2 => "__sub__" | 3 => "__rsub__" | 4 => "__mul__" | 5 => "__rmul__" | 6 => "__and__" | 7 => "__rand__" | 8 => "__or__" | 9 => "__ror__" | 10 => "__xor__" | 11 => "__rxor__" | 12 => "__pow__" | 13 => "__rpow__"
  | 20 => "__neg__" | 21 => "__invert__" | 22 => "__eq__" | 23 => "__bool__" | 24 => "__call__" | 25 => "__contains__" | 26 => "__getitem__" | 27 => "__len__" | 28 => "__le__" | 29 => "__lt__" | 30 => "__ge__" | 31 => "__gt__" | 32 => "__str__"
  | m => us.getD (m - 40) "?"

section
variable {S : Type} [Pen S] {Z : Cz S} {G : Fm} {F H : Hp} {σ : L2.St} {τ : List Slot} {s : S} {W : WX} {X : Cx} {pins : List (Addr × Obj)} {sh : Shared}

theorem truV_z {x : D} {v : V} {u : Value} {Q : Bool → Hp → Prop} (hK : X.K = Z.T.K) (FZ : ∀ f, FnZ Z X f) (BS : ∀ c f, Z.P.meth c mBool = some f → MethZ Z.T c "__bool__" f) (tk : Takes X W) (I : Inv X pins σ H sh) (rx : RelV v u) (q : SR Z.T Z.pn G F H σ τ s) (r1 : Rep Z.T F x v)
    (h : Post Z G EqR F σ Q W (truV Z.P Z.call x τ s)) : wpAny (model X.prog X.w) X.A (truthy u) (TP X pins σ Q) X.xe sh := by
  cases x with
  | non => cases r1; exact tru_ok pins sh σ H _ u Q I rx ⟨false, rfl, h.ok q rfl⟩
  | bl b => cases r1; exact tru_ok pins sh σ H _ u Q I rx ⟨b, rfl, h.ok q rfl⟩
  | int i => cases r1; exact tru_ok pins sh σ H _ u Q I rx ⟨_, rfl, h.ok q rfl⟩
  | str z =>
    cases r1
    obtain ⟨hl, h⟩ := h.bif
    exact tru_ok pins sh σ H _ u Q I rx ⟨_, ⟨lim_size hl, rfl⟩, h.ok q rfl⟩
  | tup ds =>
    obtain ⟨a, vs, rfl, hs, rl⟩ := r1
    have e : ds.isEmpty = vs.isEmpty := by have := rl.length; cases ds <;> cases vs <;> simp at this ⊢
    refine tru_ok pins sh σ H _ u Q I rx ⟨_, .inr (.inl ⟨vs, by rw [hK]; exact q.fh.sqT hs, rfl⟩), ?_⟩
    rw [← e]; exact h.ok q rfl
  | lst ds =>
    obtain ⟨a, vs, rfl, hs, rl⟩ := r1
    have e : ds.isEmpty = vs.isEmpty := by have := rl.length; cases ds <;> cases vs <;> simp at this ⊢
    refine tru_ok pins sh σ H _ u Q I rx ⟨_, .inl ⟨vs, SqL.of (q.fh _ _ hs), rfl⟩, ?_⟩
    rw [← e]; exact h.ok q rfl
  | ins c ds =>
    simp only [truV] at h
    cases em : Z.P.meth c mBool with
    | none => rw [em] at h; exact h.elim
    | some f =>
      simp only [em] at h
      obtain ⟨ck, mt, _⟩ := BS c f em
      rw [← hK] at mt
      obtain ⟨a, ox, od, dx, rfl, rfl, J, _⟩ := inst_z I q r1 rx
      obtain ⟨m, fr⟩ := I.fr
      refine truthy_K fr I.mod.kin J mt.at_ mt.fn ?_
      refine thn (wpAny_call (run_z (FZ f) tk I (.cons (show RelV (.ref a) (.ref a) from rfl) .nil) (Q := fun v H' => ∃ b, v = .bl b ∧ Q b H') ⟨F, [.ins c ds], s, q.fh, q.pen, q.penF, q.pinv, RepL.one r1, q.tb, ?_⟩)) fun r s' ⟨v, H', I', rv, b, eb, hq⟩ => ?_
      · cases ec : Z.call f [.ins c ds] s with
        | ok d s' =>
          rw [ec] at h
          intro v H' F' k r
          cases d with
          | bl b => cases r; exact ⟨b, rfl, h b H' F' k.ff (q.call k) rfl⟩
          | _ => exact h.elim
        | exc c' fs s' =>
          rw [ec] at h
          exact fun H' F' od k r => h H' F' od k.ff (q.call k) r
        | no => rw [ec] at h; exact h.elim
      · subst eb
        cases rv
        exact ⟨H', I', hq⟩
  | _ => exact h.elim

/-! ### tests -/
/-- an expression whose test is its value's truth -/
def plainTest : Expr → Bool
  | .BoolOp _ _ _ => false
  | .UnaryOp .Not _ _ => false
  | .Compare _ _ _ _ => false
  | .IfExp _ _ _ _ => false
  | .NamedExpr _ _ _ => false
  | _ => true
end
end Rz
end

section
set_option autoImplicit false
set_option Elab.async false
set_option linter.all false
set_option maxRecDepth 100000
set_option maxHeartbeats 2000000
namespace Rz
open PySem L2 PySem.W
section
variable {prog : Program} {w : World} {A : Around} {E : Value → Shared → Prop} {sh : Shared} {K : Frag} {x C f : Addr} {ox : Obj} {od : Option Obj} {b tb : Value}

theorem bind_ne (self : Value) : bindSpecial (.builtin "object.__ne__") self = pure (.builtin "object.__ne__", [self]) := F.slot_object_ne.bind self
/-- x != b by the class's __eq__ -/
theorem own_ne {Q : Value → Shared → Prop} (hu : A.units + 1 < cLine) (X : K.In sh.heap) (I : InstAt sh.heap x ox C od) (hb : Looks (model prog w) sh.heap (typeOf b) tb) (hn : notFirst K C tb = true)
    (hne : findIn K (.ref C) "__ne__" = some (some (.builtin "object.__ne__"))) (hs : findIn K (.ref C) "__eq__" = some (some (.ref f))) (hf : isFn K (.ref f) = true) (hob : subIn K (.ref C) (.type "object") = some true)
    (h : wpAny (model prog w) A.in1 (call (.ref f) [.ref x, b]) (fun v s' => ∃ r, v = .bool r ∧ Q (.bool (!r)) s') E sh) : wpAny (model prog w) A (richCompare .NotEq (.ref x) b) Q E sh := by
  have inner : wpAny (model prog w) A (call (.builtin "object.__ne__") [.ref x, b]) (fun v s' => ∃ r, v = .bool r ∧ Q v s') E sh := by
    have hi : Looks (model prog w) sh.heap (isInstance (.ref x) (.type "object")) true := I.type.andThen (looks_subIn X hob)
    refine wpAny_call (codeAny_call_builtin (by decide +kernel) F.entry_object_ne (check_slot (n := "__ne__") (by decide +kernel) (by decide +kernel) hi (F.args_object_ne_2 _ _) ?_))
    show wpAny (model prog w) A.in1 (Builtin.«object.__ne__» ⟨[.ref x, b], []⟩) _ _ sh
    have hsa : slotArgs "__ne__" 1 ⟨[.ref x, b], []⟩ = pure (.ref x, [b]) := rfl
    unfold Builtin.«object.__ne__»
    rw [hsa]
    refine wpAny_bind (wpAny_pure ?_)
    refine wpAny_bind (wpAny_cRoomFor (show A.in1.units < cLine from hu) ?_)
    refine wpAny_bind (ifBound_K X I hs hf (wpAny_mono h (fun v s' hv => ?_) fun _ _ e => e))
    obtain ⟨r, rfl, hq⟩ := hv
    exact wpAny_bind (wpAny_truthy_bool (show wpAny _ _ (ret (.bool (!r))) _ _ _ from wpAny_pure ⟨_, rfl, hq⟩))
  have one : wpAny (model prog w) A (tryCompare (.ref x) (cmpInfo .NotEq).2.1 b) (fun r s' => ∃ v, r = some v ∧ Q v s') E sh := by
    unfold tryCompare callSpecialIfBound? bindSpecialIfBound?
    refine wpAny_bind (wpAny_holding (wpAny_bind (wpAny_bind (wpAny_bind (I.type.here ((looks_findIn X hne).here ?_))))))
    refine wpAny_bind (wpAny_askSetting (wpAny_ite ?_))
    have fin : wpAny (model prog w) A (call (.builtin "object.__ne__") ([.ref x] ++ [b]) >>= fun v => pure (some v)) (fun r s' => wpAny (model prog w) A (match r with | some .notImplemented | none => pure none | some v => pure (some v)) (fun r s' => ∃ v, r = some v ∧ Q v s') E s') E sh := by
      refine wpAny_bind (wpAny_mono inner (fun v s' hv => wpAny_pure ?_) fun _ _ z => z)
      obtain ⟨r, rfl, hq⟩ := hv
      exact wpAny_pure ⟨_, rfl, hq⟩
    split
    · rw [bind_ne]
      exact wpAny_bind (wpAny_pure (wpAny_pure (by exact fin)))
    · rw [bind_ne]
      exact wpAny_tryCatch (wpAny_bind (wpAny_pure (wpAny_pure (by exact fin))))
  unfold richCompare
  simp only [oneThing_ref]
  refine wpAny_holding (wpAny_bind (wpAny_cRoomFor (by omega) ?_))
  refine wpAny_bind (I.type.here (wpAny_bind (hb.here ?_)))
  split
  · rename_i q
    have e : subIn K tb (.ref C) = some false := by
      rcases Bool.or_eq_true_iff.mp hn with e | e
      · rw [beq_iff_eq.mp e] at q; simp at q
      · exact beq_iff_eq.mp e
    refine wpAny_bind ((looks_subIn X e).here ?_)
    simp only [Bool.false_eq_true, if_false]
    refine wpAny_bind (wpAny_mono one (fun r s' z => ?_) fun _ _ e => e)
    obtain ⟨v, rfl, hq⟩ := z
    exact wpAny_pure hq
  · refine wpAny_bind (wpAny_pure ?_)
    simp only [Bool.false_eq_true, if_false]
    refine wpAny_bind (wpAny_mono one (fun r s' z => ?_) fun _ _ e => e)
    obtain ⟨v, rfl, hq⟩ := z
    exact wpAny_pure hq
end
end Rz
end

section
set_option autoImplicit false
set_option Elab.async false
set_option linter.all false
set_option maxRecDepth 100000
set_option maxHeartbeats 2000000
namespace PySem.SeqAt
open AutoSeq1 (wpAny_loadPart')
open MeetsSeq MeetsSeq2 MeetsSeq3 SeqRoads2
section
variable {prog : Program} {w : World}
/-- lists of unlike lengths -/
theorem list_eqLen (l b : Addr) (items items2 : Array Value) (n n2 : Nat) (dd dd2 : Option Addr) (sl sl2 : Array (Option Value)) (hsz : items.size ≠ items2.size) :
    MeetsIn prog w (Builtin.«list.__eq__» ⟨[.ref l, .ref b], []⟩)
      (fun A R s => s.heap.get? l = some { cls := .type "list", dict := dd, data := .seq items n, slots := sl } ∧ s.heap.get? b = some { cls := .type "list", dict := dd2, data := .seq items2 n2, slots := sl2 } ∧ R (.ok (.ret (.bool false))) s) := by
  intro A R s h
  obtain ⟨hp, g, d, tk, os⟩ := s; obtain ⟨hl, hb, h⟩ := h
  have f3 := AutoSeq1.sub_list_list
  have hne : (items.size != items2.size) = true := by simp [hsz]
  wp_walk using wpAny_loadPart' hl, wpAny_loadPart' hb
  exact h
theorem rc_lens {A : Around} {s : Shared} {l b : Addr} {items items2 : Array Value} (hl : s.heap.IsList l items) (hb : s.heap.IsList b items2) (hsz : items.size ≠ items2.size) (hu : A.units < cLine) (E Q : Value → Shared → Prop) (h : Q (.bool false) s) : wpAny (model prog w) A (richCompare .Eq (.ref l) (.ref b)) Q E s := by
  obtain ⟨⟨cls, dd, data, sl⟩, ho, hc, n, hd⟩ := id hl
  obtain ⟨⟨cls2, dd2, data2, sl2⟩, ho2, hc2, n2, hd2⟩ := id hb
  simp only at hc hd hc2 hd2
  subst hc hd hc2 hd2
  have ta : s.TypeIs (.ref l) "list" := ⟨_, ho, rfl⟩
  have tb : s.TypeIs (.ref b) "list" := ⟨_, ho2, rfl⟩
  exact wpAny_richCompare_same_room (op := .Eq) ta tb F.slot_list_eq (call_meetsIn F.slot_list_eq ta F.entry_list_eq (F.args_list_eq_2 _ _) (list_eqLen l b items items2 n n2 dd dd2 sl sl2 hsz)
    ⟨ho, ho2, show Value.bool false ≠ Value.notImplemented ∧ Q (.bool false) s from ⟨(fun x => nomatch x), h⟩⟩) hu
theorem list_neLen (l b : Addr) (items items2 : Array Value) (n n2 : Nat) (dd dd2 : Option Addr) (sl sl2 : Array (Option Value)) (hsz : items.size ≠ items2.size) :
    MeetsIn prog w (Builtin.«list.__ne__» ⟨[.ref l, .ref b], []⟩)
      (fun A R s => s.heap.get? l = some { cls := .type "list", dict := dd, data := .seq items n, slots := sl } ∧ s.heap.get? b = some { cls := .type "list", dict := dd2, data := .seq items2 n2, slots := sl2 } ∧ R (.ok (.ret (.bool true))) s) := by
  intro A R s h
  obtain ⟨hp, g, d, tk, os⟩ := s; obtain ⟨hl, hb, h⟩ := h
  have f3 := AutoSeq1.sub_list_list
  have hne : (items.size != items2.size) = true := by simp [hsz]
  wp_walk using wpAny_loadPart' hl, wpAny_loadPart' hb
  exact h
theorem rc_lensN {A : Around} {s : Shared} {l b : Addr} {items items2 : Array Value} (hl : s.heap.IsList l items) (hb : s.heap.IsList b items2) (hsz : items.size ≠ items2.size) (hu : A.units < cLine) (E Q : Value → Shared → Prop) (h : Q (.bool true) s) : wpAny (model prog w) A (richCompare .NotEq (.ref l) (.ref b)) Q E s := by
  obtain ⟨⟨cls, dd, data, sl⟩, ho, hc, n, hd⟩ := id hl
  obtain ⟨⟨cls2, dd2, data2, sl2⟩, ho2, hc2, n2, hd2⟩ := id hb
  simp only at hc hd hc2 hd2
  subst hc hd hc2 hd2
  have ta : s.TypeIs (.ref l) "list" := ⟨_, ho, rfl⟩
  have tb : s.TypeIs (.ref b) "list" := ⟨_, ho2, rfl⟩
  exact wpAny_richCompare_same_room (op := .NotEq) ta tb F.slot_list_ne (call_meetsIn F.slot_list_ne ta F.entry_list_ne (F.args_list_ne_2 _ _) (list_neLen l b items items2 n n2 dd dd2 sl sl2 hsz)
    ⟨ho, ho2, show Value.bool true ≠ Value.notImplemented ∧ Q (.bool true) s from ⟨(fun x => nomatch x), h⟩⟩) hu
end
end PySem.SeqAt
end

section
set_option autoImplicit false
set_option Elab.async false
set_option linter.all false
set_option maxRecDepth 100000
set_option maxHeartbeats 2000000
namespace Rz
open PySem L2 PySem.W

section
variable {S : Type} [Pen S] {Z : Cz S} {G : Fm} {F H : Hp} {σ : L2.St} {τ : List Slot} {s : S} {W : WX} {X : Cx} {pins : List (Addr × Obj)} {sh : Shared} {T : Tb} {K : Frag}

mutual
theorem rep_dp (hK : K = T.K) (sub : Sub F H) : ∀ (d : D) (v : V), d.plain = true → Rep T F d v → ∃ p, d.py = some p ∧ Dp K H v p ∧ p.canLay0 = true ∧ p.depth = d.deep
  | .non, v, _, r => by cases r; exact ⟨_, rfl, .non, rfl, rfl⟩
  | .bl b, v, _, r => by cases r; exact ⟨_, rfl, .bl b, rfl, rfl⟩
  | .int i, v, _, r => by cases r; exact ⟨_, rfl, .int i, rfl, rfl⟩
  | .str z, v, h, r => by cases r; exact ⟨_, rfl, .str z, by simpa [PyData.canLay0, D.plain] using h, rfl⟩
  | .tup ds, v, h, ⟨a, vs, e, hs, rl⟩ => by
    subst e
    obtain ⟨ps, e1, e2, e3, e4⟩ := rep_dps hK sub ds vs (by simpa [D.plain] using h) rl
    exact ⟨.tuple ps, by simp [D.py, e1], .tup (by rw [hK]; exact sub.sqT hs) e2, by simpa [PyData.canLay0] using e3, by simp [PyData.depth, D.deep, e4]⟩
  | .lst ds, v, h, ⟨a, vs, e, hs, rl⟩ => by
    subst e
    obtain ⟨ps, e1, e2, e3, e4⟩ := rep_dps hK sub ds vs (by simpa [D.plain] using h) rl
    exact ⟨.list ps, by simp [D.py, e1], .lst (SqL.of (sub _ _ hs)) e2, by simpa [PyData.canLay0] using e3, by simp [PyData.depth, D.deep, e4]⟩
  | .ins _ _, _, h, _ => by simp [D.plain] at h
  | .dct _ _, _, h, _ => by simp [D.plain] at h
  | .cls _, _, h, _ => by simp [D.plain] at h
  | .ty _, _, h, _ => by simp [D.plain] at h
  | .fn _, _, h, _ => by simp [D.plain] at h
  | .pen, _, h, _ => by simp [D.plain] at h
  | .opq _, _, h, _ => by simp [D.plain] at h
theorem rep_dps (hK : K = T.K) (sub : Sub F H) : ∀ (ds : List D) (vs : List V), D.plainL ds = true → RepL T F ds vs → ∃ ps, D.pyL ds = some ps ∧ DpAll K H vs ps ∧ PyData.canLayAll0 ps = true ∧ PyData.depthAll ps = D.deepL ds
  | [], vs, _, r => by cases r; exact ⟨[], rfl, .nil, rfl, rfl⟩
  | d :: ds, vs, h, ⟨v, r, e, h1, h2⟩ => by
    subst e
    simp only [D.plainL, Bool.and_eq_true] at h
    obtain ⟨p, a1, a2, a3, a4⟩ := rep_dp hK sub d v h.1 h1
    obtain ⟨ps, b1, b2, b3, b4⟩ := rep_dps hK sub ds r h.2 h2
    exact ⟨p :: ps, by simp [D.pyL, a1, b1], .cons a2 b2, by simp [PyData.canLayAll0, a3, b3], by simp [PyData.depthAll, D.deepL, a4, b4]⟩
end
mutual
theorem eqP_py : ∀ (x y : D) (p q : PyData), x.py = some p → y.py = some q → eqP x y = PyData.eqv p q
  | .non, y, p, q, hx, hy => by cases hx; cases y <;> simp only [D.py] at hy <;> first | (cases hy; done) | (cases hy; rfl) | (obtain ⟨_, _, rfl⟩ := map_some hy; rfl)
  | .bl b, y, p, q, hx, hy => by cases hx; cases y <;> simp only [D.py] at hy <;> first | (cases hy; done) | (cases hy; rfl) | (obtain ⟨_, _, rfl⟩ := map_some hy; rfl)
  | .int i, y, p, q, hx, hy => by cases hx; cases y <;> simp only [D.py] at hy <;> first | (cases hy; done) | (cases hy; rfl) | (obtain ⟨_, _, rfl⟩ := map_some hy; rfl)
  | .str z, y, p, q, hx, hy => by cases hx; cases y <;> simp only [D.py] at hy <;> first | (cases hy; done) | (cases hy; rfl) | (obtain ⟨_, _, rfl⟩ := map_some hy; rfl)
  | .tup ds, y, p, q, hx, hy => by
    simp only [D.py] at hx
    obtain ⟨ps, e1, rfl⟩ := map_some hx
    cases y <;> simp only [D.py] at hy <;> first
      | (cases hy; done)
      | (cases hy; rfl)
      | (obtain ⟨qs, e2, rfl⟩ := map_some hy; first | exact eqPL_py ds _ ps qs e1 e2 | rfl)
  | .lst ds, y, p, q, hx, hy => by
    simp only [D.py] at hx
    obtain ⟨ps, e1, rfl⟩ := map_some hx
    cases y <;> simp only [D.py] at hy <;> first
      | (cases hy; done)
      | (cases hy; rfl)
      | (obtain ⟨qs, e2, rfl⟩ := map_some hy; first | exact eqPL_py ds _ ps qs e1 e2 | rfl)
  | .ins _ _, _, _, _, hx, _ => by simp [D.py] at hx
  | .dct _ _, _, _, _, hx, _ => by simp [D.py] at hx
  | .cls _, _, _, _, hx, _ => by simp [D.py] at hx
  | .ty _, _, _, _, hx, _ => by simp [D.py] at hx
  | .fn _, _, _, _, hx, _ => by simp [D.py] at hx
  | .pen, _, _, _, hx, _ => by simp [D.py] at hx
  | .opq _, _, _, _, hx, _ => by simp [D.py] at hx
theorem eqPL_py : ∀ (xs ys : List D) (ps qs : List PyData), D.pyL xs = some ps → D.pyL ys = some qs → eqPL xs ys = PyData.eqvAll ps qs
  | [], [], ps, qs, h1, h2 => by cases h1; cases h2; rfl
  | [], y :: ys, ps, qs, h1, h2 => by
    cases h1
    simp only [D.pyL] at h2
    cases e : y.py with
    | none => rw [e] at h2; cases h2
    | some q =>
      rw [e] at h2
      obtain ⟨t, _, rfl⟩ := map_some h2
      rfl
  | x :: xs, [], ps, qs, h1, h2 => by
    cases h2
    simp only [D.pyL] at h1
    cases e : x.py with
    | none => rw [e] at h1; cases h1
    | some q =>
      rw [e] at h1
      obtain ⟨t, _, rfl⟩ := map_some h1
      rfl
  | x :: xs, y :: ys, ps, qs, h1, h2 => by
    simp only [D.pyL] at h1 h2
    cases e : x.py with
    | none => rw [e] at h1; cases h1
    | some p =>
      cases e' : y.py with
      | none => rw [e'] at h2; cases h2
      | some q =>
        rw [e] at h1; rw [e'] at h2
        obtain ⟨t, e3, rfl⟩ := map_some h1
        obtain ⟨t', e4, rfl⟩ := map_some h2
        show (eqP x y && eqPL xs ys) = (PyData.eqv p q && PyData.eqvAll t t')
        rw [eqP_py x y p q e e', eqPL_py xs ys t t' e3 e4]
end
theorem cmpOk_dp {d : D} {v : V} (hK : X.K = Z.T.K) (q : SR Z.T Z.pn G F H σ τ s) (r : Rep Z.T F d v) (h : d.cmpOk = true) : ∃ p, d.py = some p ∧ Dp X.K H v p ∧ SeqAt.shaped p = true := by
  simp only [D.cmpOk, Bool.and_eq_true, decide_eq_true_eq] at h
  obtain ⟨p, e1, e2, e3, e4⟩ := rep_dp hK q.fh d v h.1 r
  refine ⟨p, e1, e2, ?_⟩
  simp only [SeqAt.shaped, Bool.and_eq_true, decide_eq_true_eq]
  exact ⟨e3, by rw [e4]; omega⟩

theorem rel_tn (d : D) {n : String} (h : d.tn = some n) : n ∈ tyNs := by
  cases d <;> simp only [D.tn] at h <;> cases h <;> decide
/-- what is told of a class's comparisons -/
structure CmpZ (T : Tb) (c : Nat) : Prop where
  ty : ∀ n ∈ tyNs, subIn T.K (.type n) (.ref (T.cA c)) = some false
  ne : findIn T.K (.ref (T.cA c)) "__ne__" = some (some (.builtin "object.__ne__"))
  ob : subIn T.K (.ref (T.cA c)) (.type "object") = some true
/-- the other side of an own comparison: its type comes not first -/
theorem other_z {c : Nat} {y : D} {v : V} {u : Value} (hK : X.K = Z.T.K) (CZ : CmpZ Z.T c) (I : Inv X pins σ H sh) (q : SR Z.T Z.pn G F H σ τ s) (r : Rep Z.T F y v) (rv : RelV v u) (h : sameOrBt c y = true) : ∃ tb, Looks (model X.prog X.w) sh.heap (typeOf u) tb ∧ notFirst X.K (Z.T.cA c) tb = true := by
  cases et : y.tn with
  | some n =>
    refine ⟨.type n, looks_tn hK I q r rv et, ?_⟩
    unfold notFirst
    rw [hK, CZ.ty n (rel_tn y et)]
    simp
  | none =>
    obtain ⟨ds, rfl⟩ : ∃ ds', y = .ins c ds' := by
      cases y <;> simp only [sameOrBt, D.tn] at h et <;> first | (cases h; done) | (cases et; done) | exact ⟨_, by rw [beq_iff_eq.mp h]⟩
    obtain ⟨a, ox, od, dx, rfl, rfl, J, _⟩ := inst_z I q r rv
    exact ⟨_, J.type, by simp [notFirst]⟩

theorem other_z2 {c : Nat} {y : D} {v : V} {u : Value} (hK : X.K = Z.T.K) (sub : ∀ c e, c < Z.P.ncl → e < Z.P.ncl → kitOne Z.T.K (.ref (Z.T.cA c)) (.ref (Z.T.cA e)) = some (Z.P.sub c e)) (CZ : CmpZ Z.T c) (I : Inv X pins σ H sh) (q : SR Z.T Z.pn G F H σ τ s) (r : Rep Z.T F y v) (rv : RelV v u) (h : (sameOrBt c y || othCls Z.P c y) = true) : ∃ tb, Looks (model X.prog X.w) sh.heap (typeOf u) tb ∧ notFirst X.K (Z.T.cA c) tb = true := by
  rw [Bool.or_eq_true] at h
  rcases h with h | h
  · exact other_z hK CZ I q r rv h
  · cases y with
    | ins e ds =>
      simp only [othCls, Bool.and_eq_true, decide_eq_true_eq, Bool.not_eq_true'] at h
      obtain ⟨⟨h1, h2⟩, h3⟩ := h
      obtain ⟨a, ox, od, dx, rfl, rfl, J, _⟩ := inst_z I q r rv
      refine ⟨_, J.type, ?_⟩
      have k := sub e c h2 h1
      rw [h3] at k
      have k2 : subIn Z.T.K (.ref (Z.T.cA e)) (.ref (Z.T.cA c)) = some false := by
        unfold kitOne at k
        split at k
        · cases k
        · unfold kitCls at k
          simp only at k
          split at k
          · exact k
          · cases k
      unfold notFirst
      rw [hK, k2]
      simp
    | _ => cases h
theorem eqV_z {x y : D} {v v' : V} {u w : Value} {Q : VK} (hK : X.K = Z.T.K) (FZ : ∀ f, FnZ Z X f) (hu : X.A.units + 64 < cLine) (sub : ∀ c e, c < Z.P.ncl → e < Z.P.ncl → kitOne Z.T.K (.ref (Z.T.cA c)) (.ref (Z.T.cA e)) = some (Z.P.sub c e)) (MS : ∀ c f, Z.P.meth c mEq = some f → MethZ Z.T c "__eq__" f ∧ CmpZ Z.T c) (tk : Takes X W) (I : Inv X pins σ H sh) (rx : RelV v u) (ry : RelV v' w) (q : SR Z.T Z.pn G F H σ τ s)
    (r1 : Rep Z.T F x v) (r2 : Rep Z.T F y v') (h : Post Z G (Rep Z.T) F σ Q W (eqV' Z.P Z.call x y τ s)) : wpAny (model X.prog X.w) X.A (compareOp .Eq u w) (EP X pins σ Q) X.xe sh := by
  have own : ∀ c ds, x = .ins c ds → wpAny (model X.prog X.w) X.A (compareOp .Eq u w) (EP X pins σ Q) X.xe sh := by
    rintro c ds rfl
    simp only [eqV'] at h
    obtain ⟨hy, h⟩ := h.bif
    obtain ⟨f, ef, h⟩ := callM_of h
    obtain ⟨⟨ck, mt, _⟩, cz⟩ := MS c f ef
    obtain ⟨a, ox, od, dx, rfl, rfl, J, _⟩ := inst_z I q r1 rx
    obtain ⟨tb, lb, nf⟩ := other_z2 hK sub cz I q r2 ry hy
    obtain ⟨m, fr⟩ := I.fr
    rw [← hK] at mt
    exact cmp_K (op := .Eq) (by omega) fr I.mod.kin J lb nf mt.at_ mt.fn (callM_z FZ tk I q (RepL.two r1 r2) (.cons rx (.cons ry .nil)) h)
  have lens : ∀ (d : D) (ds : List D), x = .lst (d :: ds) → y = .lst [] → Post Z G (Rep Z.T) F σ Q W (.ok (.bl false) τ s) → wpAny (model X.prog X.w) X.A (compareOp .Eq u w) (EP X pins σ Q) X.xe sh := by
    rintro d ds rfl rfl h
    obtain ⟨a, vs, rfl, ha, rl⟩ := r1
    obtain ⟨b, ws, rfl, hb, rl2⟩ := r2
    cases rx; cases ry
    obtain ⟨_, its, k, r, e⟩ := I.hok a _ (q.fh _ _ ha)
    obtain ⟨_, its2, k2, r2, e2⟩ := I.hok b _ (q.fh _ _ hb)
    show wpAny (model X.prog X.w) X.A (richCompare .Eq (.ref a) (.ref b)) (EP X pins σ Q) X.xe sh
    refine PySem.SeqAt.rc_lens (PySem.IsL.isList e) (PySem.IsL.isList e2) ?_ (by omega) _ _ ⟨.bl false, H, I, rfl, h.ok q rfl⟩
    rw [List.size_toArray, List.size_toArray, ← r.length, ← r2.length, rl.length, rl2.length]
    simp
  have dat : Post Z G (Rep Z.T) F σ Q W (bif x.cmpOk && y.cmpOk then .ok (.bl (eqP x y)) τ s else eqL x y τ s) → wpAny (model X.prog X.w) X.A (compareOp .Eq u w) (EP X pins σ Q) X.xe sh := fun h => by
    cases hb : x.cmpOk && y.cmpOk with
    | false =>
      rw [hb] at h
      simp only [cond_false, eqL] at h
      split at h
      · exact lens _ _ rfl rfl h
      · exact h.elim
    | true =>
    rw [hb] at h
    rw [Bool.and_eq_true] at hb
    obtain ⟨p, e1, d1, s1⟩ := cmpOk_dp hK q r1 hb.1
    obtain ⟨p', e2, d2, s2⟩ := cmpOk_dp hK q r2 hb.2
    refine op_eqD hu pins sh σ H v v' u w Q I rx ry ⟨p, p', d1, d2, s1, s2, ?_⟩
    rw [← eqP_py x y p p' e1 e2]
    exact h.ok q rfl
  cases x with
  | ins c ds => exact own c ds rfl
  | str a =>
    cases y with
    | str b =>
      cases r1; cases r2
      refine op_eq pins sh σ H _ _ u w Q I rx ry ⟨rfl, ?_⟩
      rw [dec_str]
      exact h.ok q rfl
    | _ => exact dat h
  | _ => exact dat h
theorem neV_z {x y : D} {v v' : V} {u w : Value} {Q : VK} (hK : X.K = Z.T.K) (FZ : ∀ f, FnZ Z X f) (hu : X.A.units + 64 < cLine) (sub : ∀ c e, c < Z.P.ncl → e < Z.P.ncl → kitOne Z.T.K (.ref (Z.T.cA c)) (.ref (Z.T.cA e)) = some (Z.P.sub c e)) (MS : ∀ c f, Z.P.meth c mEq = some f → MethZ Z.T c "__eq__" f ∧ CmpZ Z.T c) (tk : Takes X W) (I : Inv X pins σ H sh) (rx : RelV v u) (ry : RelV v' w) (q : SR Z.T Z.pn G F H σ τ s)
    (r1 : Rep Z.T F x v) (r2 : Rep Z.T F y v') (h : Post Z G (Rep Z.T) F σ Q W ((eqV' Z.P Z.call x y τ s).bind fun z τ s => Out.of (notD z) τ s)) : wpAny (model X.prog X.w) X.A (compareOp .NotEq u w) (EP X pins σ Q) X.xe sh := by
  have own : ∀ c ds, x = .ins c ds → wpAny (model X.prog X.w) X.A (compareOp .NotEq u w) (EP X pins σ Q) X.xe sh := by
    rintro c ds rfl
    simp only [eqV'] at h
    cases hy : sameOrBt c y || othCls Z.P c y with
    | false => rw [hy] at h; exact h.elim
    | true =>
      rw [hy] at h
      simp only [cond_true, callM] at h
      cases ef : Z.P.meth c mEq with
      | none => rw [ef] at h; exact h.elim
      | some f =>
        rw [ef] at h
        dsimp only at h
        obtain ⟨⟨ck, mt, _⟩, cz⟩ := MS c f ef
        obtain ⟨a, ox, od, dx, rfl, rfl, J, _⟩ := inst_z I q r1 rx
        obtain ⟨tb, lb, nf⟩ := other_z2 hK sub cz I q r2 ry hy
        obtain ⟨ty, ne, ob⟩ := cz
        rw [← hK] at mt ne ob
        refine own_ne (by omega) I.kIn J lb nf ne mt.at_ mt.fn ob ?_
        obtain ⟨k, hr, hg, Fn⟩ := FZ f
        refine wpAny_call (codeAny_mono (Fn X.A.in1 X.stack sh H [.ref a, w] [.ref a, v'] (fun v H' => ∃ b, v = .bl b ∧ Q (.bl (!b)) H') (fun c d H' => W c d σ H') hr.in1 hg I.env0.in1 (.cons rx (.cons ry .nil)) ⟨F, [.ins c ds, y], s, q.fh, q.pen, q.penF, q.pinv, RepL.two r1 r2, q.tb, ?_⟩ _ ArgAs.rfl) fun r s' hq => ?_)
        · cases ec : Z.call f [.ins c ds, y] s with
          | ok d s' =>
            rw [ec] at h
            intro v H' F' k r
            cases d with
            | bl b => cases r; exact ⟨b, rfl, h (.bl (!b)) H' F' k.ff (q.call k) rfl⟩
            | _ => exact h.elim
          | exc c' fs s' =>
            rw [ec] at h
            exact fun H' F' od k r => h H' F' od k.ff (q.call k) r
          | no => rw [ec] at h; exact h.elim
        · cases r with
          | error e => exact tk e s' (XE.of_call I (fun cls d H' z => z) hq)
          | ok fl =>
            cases fl with
            | ret u' =>
              obtain ⟨v2, H', I', rv, b, eb, hq2⟩ := I.after hq
              subst eb
              cases rv
              exact ⟨b, rfl, .bl (!b), H', I', rfl, hq2⟩
            | next => exact False.elim hq
            | brk => exact False.elim hq
            | cont => exact False.elim hq
  have lens : ∀ (d : D) (ds : List D), x = .lst (d :: ds) → y = .lst [] → Post Z G (Rep Z.T) F σ Q W (.ok (.bl true) τ s) → wpAny (model X.prog X.w) X.A (compareOp .NotEq u w) (EP X pins σ Q) X.xe sh := by
    rintro d ds rfl rfl h
    obtain ⟨a, vs, rfl, ha, rl⟩ := r1
    obtain ⟨b, ws, rfl, hb, rl2⟩ := r2
    cases rx; cases ry
    obtain ⟨_, its, k, r, e⟩ := I.hok a _ (q.fh _ _ ha)
    obtain ⟨_, its2, k2, r2, e2⟩ := I.hok b _ (q.fh _ _ hb)
    show wpAny (model X.prog X.w) X.A (richCompare .NotEq (.ref a) (.ref b)) (EP X pins σ Q) X.xe sh
    refine PySem.SeqAt.rc_lensN (PySem.IsL.isList e) (PySem.IsL.isList e2) ?_ (by omega) _ _ ⟨.bl true, H, I, rfl, h.ok q rfl⟩
    rw [List.size_toArray, List.size_toArray, ← r.length, ← r2.length, rl.length, rl2.length]
    simp
  have dat : Post Z G (Rep Z.T) F σ Q W ((bif x.cmpOk && y.cmpOk then (.ok (.bl (eqP x y)) τ s : Out S D) else eqL x y τ s).bind fun z τ s => Out.of (notD z) τ s) → wpAny (model X.prog X.w) X.A (compareOp .NotEq u w) (EP X pins σ Q) X.xe sh := fun h => by
    cases hb : x.cmpOk && y.cmpOk with
    | false =>
      rw [hb] at h
      simp only [cond_false, eqL] at h
      split at h
      · exact lens _ _ rfl rfl h
      · exact h.elim
    | true =>
      rw [hb] at h
      rw [Bool.and_eq_true] at hb
      obtain ⟨p, e1, d1, s1⟩ := cmpOk_dp hK q r1 hb.1
      obtain ⟨p', e2, d2, s2⟩ := cmpOk_dp hK q r2 hb.2
      refine op_neD hu pins sh σ H v v' u w Q I rx ry ⟨p, p', d1, d2, s1, s2, ?_⟩
      rw [← eqP_py x y p p' e1 e2]
      exact h (.bl (!eqP x y)) H F (Sub.refl F) q rfl
  cases x with
  | ins c ds => exact own c ds rfl
  | str a =>
    cases y with
    | str b =>
      cases r1; cases r2
      refine op_ne pins sh σ H _ _ u w Q I rx ry ⟨rfl, ?_⟩
      rw [dec_str]
      exact h (.bl (!(a == b))) H F (Sub.refl F) q rfl
    | _ => exact dat h
  | _ => exact dat h
end
end Rz
end

section
set_option autoImplicit false
set_option Elab.async false
set_option linter.all false
set_option maxRecDepth 100000
set_option maxHeartbeats 2000000
/-! Dicts as data: what is read, put. -/
namespace Rz
open PySem L2 PySem.W
theorem keyOf_v {d : D} {v : V} {k : Key} {T : Tb} {F : Hp} (h : keyOf d = some k) (r : Rep T F d v) : v = kV k := by
  cases d <;> simp only [keyOf] at h <;> first | (cases h; done) | (cases h; cases r; rfl)
/-- what is read is what is represented -/
theorem dct_get {T : Tb} {F : Hp} : ∀ {ks : List Key} {ds : List D} {vs : List V} (k : Key), ks.length = ds.length → RepL T F ds vs →
    (∀ d, dctGet ks ds k = some d → ∃ v, valV (ks.zip vs) k = some v ∧ Rep T F d v) ∧ (dctGet ks ds k = none → valV (ks.zip vs) k = none)
  | [], [], _, k, _, h => ⟨fun d e => by simp [dctGet] at e, fun _ => rfl⟩
  | [], _ :: _, _, k, hl, _ => by simp at hl
  | _ :: _, [], _, k, hl, _ => by simp at hl
  | a :: ks, d :: ds, _, k, hl, ⟨v, r, e, h, t⟩ => by
    subst e
    obtain ⟨i1, i2⟩ := dct_get (ks := ks) (ds := ds) k (by simpa using hl) t
    by_cases ha : a = k
    · refine ⟨fun d' e => ?_, fun e => ?_⟩
      · simp only [dctGet, if_pos ha] at e
        cases e
        exact ⟨v, by simp [valV, ha], h⟩
      · simp only [dctGet, if_pos ha] at e; cases e
    · refine ⟨fun d' e => ?_, fun e => ?_⟩
      · simp only [dctGet, if_neg ha] at e
        obtain ⟨w, h1, h2⟩ := i1 d' e
        exact ⟨w, by simpa [valV, ha] using h1, h2⟩
      · simp only [dctGet, if_neg ha] at e
        have := i2 e
        simpa [valV, ha] using this
theorem dct_some {T : Tb} {F : Hp} {ks : List Key} {ds : List D} {vs : List V} (k : Key) (hl : ks.length = ds.length) (r : RepL T F ds vs) : (valV (ks.zip vs) k).isSome = (dctGet ks ds k).isSome := by
  obtain ⟨h1, h2⟩ := dct_get k hl r
  cases e : dctGet ks ds k with
  | none => rw [h2 e]; rfl
  | some d => obtain ⟨v, hv, _⟩ := h1 d e; rw [hv]; rfl
theorem dctPut_len : ∀ (ks : List Key) (ds : List D) (k : Key) (d : D), ks.length = ds.length → (dctPut ks ds k d).1.length = (dctPut ks ds k d).2.length
  | [], [], k, d, _ => rfl
  | [], _ :: _, k, d, h => by simp at h
  | _ :: _, [], k, d, h => by simp at h
  | a :: ks, e :: ds, k, d, h => by
    have i := dctPut_len ks ds k d (by simpa using h)
    by_cases ha : a = k
    · simpa [dctPut, ha] using h
    · simp [dctPut, ha, i]
theorem dctPut_le : ∀ (ks : List Key) (ds : List D) (k : Key) (d : D), (dctPut ks ds k d).1.length ≤ ks.length + 1
  | [], ds, k, d => by cases ds <;> simp [dctPut]
  | _ :: _, [], k, d => by simp [dctPut]
  | a :: ks, e :: ds, k, d => by
    have i := dctPut_le ks ds k d
    by_cases ha : a = k
    · simp [dctPut, ha]
    · simp [dctPut, ha]; omega
theorem dctPut_keys : ∀ (ks : List Key) (ds : List D) (k : Key) (d : D), ks.length = ds.length → ks.Nodup → (dctPut ks ds k d).1.Nodup ∧ ∀ x, x ∈ (dctPut ks ds k d).1 → x ∈ ks ∨ x = k
  | [], [], k, d, _, _ => ⟨by simp [dctPut], fun x hx => by simp [dctPut] at hx; exact .inr hx⟩
  | [], _ :: _, k, d, h, _ => by simp at h
  | _ :: _, [], k, d, h, _ => by simp at h
  | a :: ks, e :: ds, k, d, h, nd => by
    rw [List.nodup_cons] at nd
    obtain ⟨i1, i2⟩ := dctPut_keys ks ds k d (by simpa using h) nd.2
    by_cases ha : a = k
    · simp only [dctPut, if_pos ha]
      exact ⟨List.nodup_cons.mpr nd, fun x hx => .inl hx⟩
    · simp only [dctPut, if_neg ha]
      refine ⟨List.nodup_cons.mpr ⟨fun hx => ?_, i1⟩, fun x hx => ?_⟩
      · rcases i2 a hx with z | z
        · exact nd.1 z
        · exact ha z
      · rcases List.mem_cons.mp hx with z | z
        · exact .inl (by rw [z]; exact List.mem_cons_self)
        · rcases i2 x z with z | z
          · exact .inl (List.mem_cons_of_mem _ z)
          · exact .inr z
theorem map_no {k : Key} {v : V} : ∀ {kvs : List (Key × V)}, k ∉ kvs.map (·.1) → (kvs.map fun kv => if kv.1 = k then (kv.1, v) else kv) = kvs
  | [], _ => rfl
  | p :: r, h => by
    rw [List.map_cons, List.mem_cons, not_or] at h
    rw [List.map_cons, map_no h.2, if_neg (fun z => h.1 z.symm)]
/-- the dict's pairs behind a put -/
theorem putK_cons {kvs : List (Key × V)} {a k : Key} {x v : V} (h : a ∉ kvs.map (·.1)) : putK ((a, x) :: kvs) k v = if a = k then (a, v) :: kvs else (a, x) :: putK kvs k v := by
  by_cases ha : a = k
  · subst ha
    unfold putK
    rw [if_pos (by simp), if_pos rfl]
    simp only [List.map_cons, if_true, map_no h]
  · unfold putK
    rw [if_neg ha]
    simp only [List.any_cons, ha, decide_false, Bool.false_or]
    by_cases hb : (kvs.any fun kv => decide (kv.1 = k)) = true
    · rw [if_pos hb, if_pos hb]
      simp [ha]
    · rw [if_neg hb, if_neg hb]
      rfl
theorem zip_keys {ks : List Key} {vs : List V} (h : ks.length = vs.length) : (ks.zip vs).map (·.1) = ks := by
  rw [List.map_fst_zip]; omega
theorem dct_put {T : Tb} {F : Hp} {k : Key} {d : D} {v : V} (rv : Rep T F d v) : ∀ {ks : List Key} {ds : List D} {vs : List V}, ks.length = ds.length → ks.Nodup → RepL T F ds vs →
    ∃ ws, putK (ks.zip vs) k v = (dctPut ks ds k d).1.zip ws ∧ RepL T F (dctPut ks ds k d).2 ws
  | [], [], _, _, _, h => by
    cases h
    exact ⟨[v], rfl, v, [], rfl, rv, rfl⟩
  | [], _ :: _, _, hl, _, _ => by simp at hl
  | _ :: _, [], _, hl, _, _ => by simp at hl
  | a :: ks, e :: ds, _, hl, nd, ⟨x, r, ev, h, t⟩ => by
    subst ev
    rw [List.nodup_cons] at nd
    have hl' : ks.length = ds.length := by simpa using hl
    have hn : a ∉ (ks.zip r).map (·.1) := by
      rw [zip_keys (by rw [t.length]; exact hl')]; exact nd.1
    rw [List.zip_cons_cons, putK_cons hn]
    by_cases ha : a = k
    · simp only [dctPut, if_pos ha]
      exact ⟨v :: r, rfl, v, r, rfl, rv, t⟩
    · obtain ⟨ws, h1, h2⟩ := dct_put rv hl' nd.2 t
      simp only [dctPut, if_neg ha]
      exact ⟨x :: ws, by rw [h1]; rfl, x, ws, rfl, h, h2⟩
/-- distinct keys stay in their order -/
theorem merge_nodup : ∀ (more kvs : List (Key × V)), ((kvs ++ more).map (·.1)).Nodup → mergeK kvs more = kvs ++ more
  | [], kvs, _ => by rw [List.append_nil]; rfl
  | p :: r, kvs, h => by
    have hp : p.1 ∉ kvs.map (·.1) := by
      rw [List.map_append, List.map_cons] at h
      have := (List.nodup_append.mp h).2.2
      intro z
      exact this p.1 z p.1 List.mem_cons_self rfl
    have e : putK kvs p.1 p.2 = kvs ++ [p] := by
      unfold putK
      rw [if_neg]
      simp only [List.any_eq_true, decide_eq_true_eq, not_exists, not_and]
      intro q hq eq
      exact hp (List.mem_map.mpr ⟨q, hq, eq⟩)
    have k : mergeK kvs (p :: r) = mergeK (putK kvs p.1 p.2) r := rfl
    rw [k, e, merge_nodup r (kvs ++ [p]) (by rw [List.append_assoc]; exact h), List.append_assoc]
    rfl
end Rz
end

section
set_option autoImplicit false
set_option Elab.async false
set_option linter.all false
set_option maxRecDepth 100000
set_option maxHeartbeats 2000000
namespace Rz
open PySem L2 PySem.W

/-- what isinstance asks of a class -/
structure OwnT (T : Tb) (c : Nat) : Prop where
  ck : ClsZ T c
  ha : findIn T.K (.ref (T.cA c)) "__class__" = some (some (.builtin "object.__class__"))
  hn : specialIn T.K (.builtin "object.__class__") "__get__" = some (some (.builtin "getset_descriptor.__get__"))
  ht : takesIn T.K (.builtin "object.__class__") = some true
  hm : mroIn T.K (T.cA c) (.type "object") = some true
  isC : ∀ m ∈ tyNs, kitOne T.K (.type m) (.ref (T.cA c)) = some false
  isO : ∀ n ∈ tyIs, kitOne T.K (.ref (T.cA c)) (.type n) = some false
/-- what holds of the program's table in a context -/
structure Sz {S : Type} (Z : Cz S) (us : List Str) (X : Cx) : Prop where
  hK : X.K = Z.T.K
  fz : ∀ f, FnZ Z X f
  fi : ∀ c, FnI Z X c
  hu : X.A.units + 64 < cLine
  meth : ∀ c m f, Z.P.meth c m = some f → MethZ Z.T c (nmOf us m) f
  opL : ∀ c o f, Z.P.meth c (dun o) = some f → OpL Z.T c o f
  opR : ∀ c o f, Z.P.meth c (dun o + 1) = some f → OpZR Z.T c o f
  cmp : ∀ c m f, Z.P.meth c m = some f → CmpZ Z.T c
  own : ∀ c, c < Z.P.ncl → OwnT Z.T c
  sub : ∀ c e, c < Z.P.ncl → e < Z.P.ncl → kitOne Z.T.K (.ref (Z.T.cA c)) (.ref (Z.T.cA e)) = some (Z.P.sub c e)
  fld : ∀ c m k, Z.P.attr c m = .fld k → FldZ Z.T c (nmOf us m) k
  prop : ∀ c m f, Z.P.attr c m = .prop f → PropZ Z.T c (nmOf us m) f
  con : ∀ c m d, Z.P.attr c m = .con d → ConZ Z.T c (nmOf us m) d

section
variable {S : Type} [Pen S] {Z : Cz S} {us : List Str} {G : Fm} {F H : Hp} {σ : L2.St} {τ : List Slot} {s : S} {W : WX} {X : Cx} {pins : List (Addr × Obj)} {sh : Shared}

theorem Sz.eqs (z : Sz Z us X) : ∀ c f, Z.P.meth c mEq = some f → MethZ Z.T c "__eq__" f ∧ CmpZ Z.T c := fun c f e => ⟨z.meth c mEq f e, z.cmp c mEq f e⟩
theorem Sz.bools (z : Sz Z us X) : ∀ c f, Z.P.meth c mBool = some f → MethZ Z.T c "__bool__" f := fun c f e => z.meth c mBool f e

theorem flat_v {d : D} {v : V} {T : Tb} (h : d.flat = true) (r : Rep T F d v) : flatV v = true := by
  cases d <;> simp only [D.flat] at h <;> first | (cases h; done) | (cases r; rfl)
theorem eqF_v {d e : D} {v w : V} {T : Tb} (h1 : d.flat = true) (h2 : e.flat = true) (r1 : Rep T F d v) (r2 : Rep T F e w) : eqV v w = eqF d e := by
  cases d <;> simp only [D.flat] at h1 <;> first | (cases h1; done) | skip
  all_goals
    cases e <;> simp only [D.flat] at h2 <;> first | (cases h2; done) | (cases r1; cases r2; rfl)
theorem inF_v {x : D} {v : V} {T : Tb} (hx : x.flat = true) (r : Rep T F x v) : ∀ {ds : List D} {vs : List V}, ds.all D.flat = true → RepL T F ds vs → vs.all flatV = true ∧ inV v vs = inF x ds
  | [], _, _, h => by cases h; exact ⟨rfl, rfl⟩
  | d :: ds, _, ha, ⟨w, t, e, h1, h2⟩ => by
    subst e
    rw [List.all_cons, Bool.and_eq_true] at ha
    obtain ⟨i1, i2⟩ := inF_v hx r ha.2 h2
    refine ⟨by rw [List.all_cons, flat_v ha.1 h1, i1]; rfl, ?_⟩
    unfold inV inF at i2 ⊢
    rw [List.any_cons, List.any_cons, i2, eqF_v ha.1 hx h1 r]
theorem one_sign {w : Str} {c : Nat} (h : w.cps.toList = [c]) : w = ⟨#[c]⟩ := by
  obtain ⟨a⟩ := w
  have : a = #[c] := by
    apply Array.ext'
    simpa using h
  rw [this]

theorem inV_z {x y : D} {v v' : V} {u w : Value} {Q : VK} (neg : Bool) (z : Sz Z us X) (tk : Takes X W) (I : Inv X pins σ H sh) (rx : RelV v u) (ry : RelV v' w) (q : SR Z.T Z.pn G F H σ τ s) (r1 : Rep Z.T F x v) (r2 : Rep Z.T F y v')
    (h : Post Z G (Rep Z.T) F σ (fun v H => ∀ b, v = .bl b → Q (.bl (if neg then !b else b)) H) W (inVv Z.P Z.call x y τ s)) : wpAny (model X.prog X.w) X.A (compareOp (if neg then .NotIn else .In) u w) (EP X pins σ Q) X.xe sh := by
  have seq : ∀ {ds : List D} {p : Addr} {vs : List V}, v' = .ref p → (SqL X.K H p vs ∨ SqT X.K H p vs) → RepL Z.T F ds vs → Post Z G (Rep Z.T) F σ (fun v H => ∀ b, v = .bl b → Q (.bl (if neg then !b else b)) H) W (bif x.flat && ds.all D.flat then .ok (.bl (inF x ds)) τ s else .no) →
      wpAny (model X.prog X.w) X.A (compareOp (if neg then .NotIn else .In) u w) (EP X pins σ Q) X.xe sh := by
    intro ds p vs e hs rl h
    obtain ⟨hb, h⟩ := h.bif
    rw [Bool.and_eq_true] at hb
    obtain ⟨i1, i2⟩ := inF_v hb.1 r1 hb.2 rl
    have hq := h.ok q (rfl : Rep Z.T F (.bl (inF x ds)) (.bl (inF x ds))) _ rfl
    cases neg with
    | false => exact op_in_seq pins sh σ H v v' u w Q I rx ry ⟨p, vs, e, hs, flat_v hb.1 r1, i1, by rw [i2]; exact hq⟩
    | true => exact op_notIn_seq pins sh σ H v v' u w Q I rx ry ⟨p, vs, e, hs, flat_v hb.1 r1, i1, by rw [i2]; exact hq⟩
  cases y with
  | lst ds => obtain ⟨p, vs, e, hs, rl⟩ := r2; exact seq e (.inl (SqL.of (q.fh _ _ hs))) rl h
  | tup ds => obtain ⟨p, vs, e, hs, rl⟩ := r2; exact seq e (.inr (by rw [z.hK]; exact q.fh.sqT hs)) rl h
  | str t =>
    cases x with
    | str a =>
      simp only [inVv] at h
      cases ec : a.cps.toList with
      | nil => rw [ec] at h; exact h.elim
      | cons c r =>
        cases r with
        | cons _ _ => rw [ec] at h; exact h.elim
        | nil =>
          rw [ec] at h
          cases r1; cases r2
          have hq := h.ok q (rfl : Rep Z.T F (.bl (decide (c ∈ t.cps.toList))) _) _ rfl
          cases neg with
          | false => exact op_in_sign pins sh σ H _ _ u w Q I rx ry ⟨c, t, by rw [one_sign ec], rfl, hq⟩
          | true => exact op_notIn_sign pins sh σ H _ _ u w Q I rx ry ⟨c, t, by rw [one_sign ec], rfl, hq⟩
    | _ => exact h.elim
  | ins c ds =>
    simp only [inVv, callM] at h
    cases ef : Z.P.meth c mIn with
    | none => rw [ef] at h; exact h.elim
    | some f =>
      rw [ef] at h
      dsimp only at h
      obtain ⟨ck, mt, _⟩ := z.meth c mIn f ef
      obtain ⟨a, ox, od, dx, rfl, rfl, J, _⟩ := inst_z I q r2 ry
      obtain ⟨m, fr⟩ := I.fr
      rw [← z.hK] at mt
      have go : wpAny (model X.prog X.w) X.A (call (.ref (Z.T.fA f)) [.ref a, u]) (EP X pins σ fun v H' => ∃ b, v = .bl b ∧ Q (.bl (if neg then !b else b)) H') X.xe sh := by
        refine wpAny_call (run_z (z.fz f) tk I (.cons ry (.cons rx .nil)) ⟨F, [.ins c ds, x], s, q.fh, q.pen, q.penF, q.pinv, RepL.two r2 r1, q.tb, ?_⟩)
        cases ec : Z.call f [.ins c ds, x] s with
        | ok d s' =>
          rw [ec] at h
          intro v H' F' k r
          cases d with
          | bl b => cases r; exact ⟨b, rfl, h (.bl b) H' F' k.ff (q.call k) rfl b rfl⟩
          | _ => exact h.elim
        | exc c' fs s' =>
          rw [ec] at h
          exact fun H' F' od k r => h H' F' od k.ff (q.call k) r
        | no => rw [ec] at h; exact h.elim
      cases neg with
      | false =>
        refine in_K fr I.mod.kin J mt.at_ mt.fn (thn go fun r s' ⟨v, H', I', rv, b, eb, hq⟩ => ?_)
        subst eb; cases rv
        exact wpAny_truthy_bool ⟨.bl b, H', I', rfl, hq⟩
      | true =>
        refine notIn_K fr I.mod.kin J mt.at_ mt.fn (thn go fun r s' ⟨v, H', I', rv, b, eb, hq⟩ => ?_)
        subst eb; cases rv
        exact wpAny_truthy_bool ⟨.bl (!b), H', I', rfl, hq⟩
  | dct ks ds =>
    simp only [inVv] at h
    cases ek : keyOf x with
    | none => rw [ek] at h; exact h.elim
    | some k =>
      rw [ek] at h
      obtain ⟨a, vs, e, hF, hl, rl⟩ := r2
      subst e
      obtain rfl : w = Value.ref a := ry
      have ev := keyOf_v ek r1
      subst ev
      have hq := h.ok q (rfl : Rep Z.T F (.bl (dctGet ks ds k).isSome) (.bl (dctGet ks ds k).isSome)) _ rfl
      rw [← dct_some k hl rl] at hq
      have hu := z.hu
      cases neg with
      | false => exact d_in (by omega) I (DGet.k (q.fh _ _ hF)) rx fun s' I' => ⟨.bl _, H, I', rfl, hq⟩
      | true => exact d_notIn (by omega) I (DGet.k (q.fh _ _ hF)) rx fun s' I' => ⟨.bl _, H, I', rfl, hq⟩
  | _ => exact h.elim

theorem isN_v {d : D} {v : V} {T : Tb} (r : Rep T F d v) (h : ∀ u, d ≠ .opq u) : decide (v = .non) = (match d with | .non => true | _ => false) := by
  cases d with
  | non => cases r; rfl
  | bl _ => cases r; rfl
  | int _ => cases r; rfl
  | str _ => cases r; rfl
  | tup _ => obtain ⟨a, vs, rfl, _⟩ := r; rfl
  | lst _ => obtain ⟨a, vs, rfl, _⟩ := r; rfl
  | ins _ _ => obtain ⟨a, dx, vs, rfl, _⟩ := r; rfl
  | xin _ _ => obtain ⟨a, od, rfl, _⟩ := r; rfl
  | dct _ _ => obtain ⟨a, vs, rfl, _⟩ := r; rfl
  | cls _ => cases r; rfl
  | ty _ => cases r; rfl
  | fn _ => cases r; rfl
  | pen => cases r; rfl
  | opq u => exact absurd rfl (h u)

theorem cmpV_z {o : CmpOp} {x y : D} {v v' : V} {u w : Value} {Q : VK} (z : Sz Z us X) (tk : Takes X W) (I : Inv X pins σ H sh) (rx : RelV v u) (ry : RelV v' w) (q : SR Z.T Z.pn G F H σ τ s) (r1 : Rep Z.T F x v) (r2 : Rep Z.T F y v')
    (h : Post Z G (Rep Z.T) F σ Q W (cmpV Z.P Z.call o x y τ s)) : wpAny (model X.prog X.w) X.A (compareOp o u w) (EP X pins σ Q) X.xe sh := by
  have ord : ∀ o, (o = .Lt ∨ o = .LtE ∨ o = .Gt ∨ o = .GtE) → Post Z G (Rep Z.T) F σ Q W (match x, y with
      | .int i, .int j => Out.of ((cmpI o i j).map .bl) τ s
      | .ins c _, _ => bif sameOrBt c y then callM Z.P Z.call c (mCmp o) [x, y] τ s else .no
      | _, _ => .no) → wpAny (model X.prog X.w) X.A (compareOp o u w) (EP X pins σ Q) X.xe sh := by
    intro o ho h
    cases x with
    | int i =>
      cases y with
      | int j =>
        cases r1; cases r2
        rcases ho with rfl | rfl | rfl | rfl
        · exact op_lt pins sh σ H _ _ u w Q I rx ry ⟨i, j, rfl, rfl, h.ok q rfl⟩
        · exact op_le pins sh σ H _ _ u w Q I rx ry ⟨i, j, rfl, rfl, h.ok q rfl⟩
        · exact op_gt pins sh σ H _ _ u w Q I rx ry ⟨i, j, rfl, rfl, h.ok q rfl⟩
        · exact op_ge pins sh σ H _ _ u w Q I rx ry ⟨i, j, rfl, rfl, h.ok q rfl⟩
      | _ => exact h.elim
    | ins c ds =>
      obtain ⟨hy, h⟩ := h.bif
      obtain ⟨f, ef, h⟩ := callM_of h
      have cz := z.cmp c _ f ef
      obtain ⟨ck, mt, _⟩ := z.meth c _ f ef
      obtain ⟨a, ox, od, dx, rfl, rfl, J, _⟩ := inst_z I q r1 rx
      obtain ⟨tb, lb, nf⟩ := other_z z.hK cz I q r2 ry hy
      obtain ⟨m, fr⟩ := I.fr
      have hu := z.hu
      rw [← z.hK] at mt
      have go := callM_z z.fz tk I q (RepL.two r1 r2) (.cons rx (.cons ry .nil)) h
      rcases ho with rfl | rfl | rfl | rfl
      · exact cmp_K (op := .Lt) (by omega) fr I.mod.kin J lb nf mt.at_ mt.fn go
      · exact cmp_K (op := .LtE) (by omega) fr I.mod.kin J lb nf mt.at_ mt.fn go
      · exact cmp_K (op := .Gt) (by omega) fr I.mod.kin J lb nf mt.at_ mt.fn go
      · exact cmp_K (op := .GtE) (by omega) fr I.mod.kin J lb nf mt.at_ mt.fn go
    | _ => exact h.elim
  cases o with
  | Eq => exact eqV_z z.hK z.fz z.hu z.sub z.eqs tk I rx ry q r1 r2 h
  | NotEq => exact neV_z z.hK z.fz z.hu z.sub z.eqs tk I rx ry q r1 r2 h
  | Lt => exact ord .Lt (.inl rfl) h
  | LtE => exact ord .LtE (.inr (.inl rfl)) h
  | Gt => exact ord .Gt (.inr (.inr (.inl rfl))) h
  | GtE => exact ord .GtE (.inr (.inr (.inr rfl))) h
  | Is =>
    cases y with
    | non =>
      cases r2
      cases x with
      | opq _ => exact h.elim
      | _ =>
        refine op_isN pins sh σ H v .non u w Q I rx ry ⟨rfl, ?_⟩
        rw [isN_v r1 (by intro u z; cases z)]
        exact h.ok q rfl
    | bl b =>
      cases r2
      cases x with
      | bl a =>
        cases r1
        refine op_isBl pins sh σ H _ _ u w Q I rx ry ⟨a, b, rfl, rfl, ?_⟩
        have e : decide (a = b) = (a == b) := by cases a <;> cases b <;> rfl
        rw [e]; exact h.ok q rfl
      | _ => exact h.elim
    | _ => exact h.elim
  | IsNot =>
    cases y with
    | non =>
      cases r2
      cases x with
      | opq _ => exact h.elim
      | _ =>
        refine op_notN pins sh σ H v .non u w Q I rx ry ⟨rfl, ?_⟩
        rw [isN_v r1 (by intro u z; cases z)]
        exact h.ok q rfl
    | bl b =>
      cases r2
      cases x with
      | bl a =>
        cases r1
        refine op_notBl pins sh σ H _ _ u w Q I rx ry ⟨a, b, rfl, rfl, ?_⟩
        have e : decide (a = b) = (a == b) := by cases a <;> cases b <;> rfl
        rw [e]; exact h.ok q rfl
      | _ => exact h.elim
    | _ => exact h.elim
  | In => exact inV_z false z tk I rx ry q r1 r2 (h.imp fun v H hq b e => by subst e; exact hq)
  | NotIn =>
    refine inV_z true z tk I rx ry q r1 r2 ?_
    simp only [cmpV] at h
    cases e : inVv Z.P Z.call x y τ s with
    | ok d τ' s' =>
      rw [e] at h
      intro v H' F' k qq r b eb
      cases d with
      | bl b' =>
        cases r
        cases eb
        exact h _ H' F' k qq rfl
      | _ => exact h.elim
    | exc c fs τ' s' => rw [e] at h; exact h
    | no => rw [e] at h; exact h.elim
end
end Rz
end

section
set_option autoImplicit false
set_option Elab.async false
set_option linter.all false
set_option maxRecDepth 100000
set_option maxHeartbeats 2000000
namespace Rz
open PySem L2 PySem.W PyProof.Rows

section
variable {S : Type} [Pen S] {Z : Cz S} {us : List Str} {G : Fm} {F H : Hp} {σ : L2.St} {τ : List Slot} {s : S} {W : WX} {X : Cx} {pins : List (Addr × Obj)} {sh : Shared}
variable {a b c e : Expr} {ca cb cc ce : CE} {pos : Pos}

/-! ### operators -/
theorem de_bin {o : Operator} (z : Sz Z us X) (tk : Takes X W) (ha : PE X a (tD Z G W ca)) (hb : PE X b (tD Z G W cb)) : PE X (.BinOp a o b pos) (tD Z G W (.bin o ca cb)) := by
  refine ⟨fun pins sh σ H Q I h => ?_⟩
  obtain ⟨F0, τ, s, q, h⟩ := h
  refine wpAny_BinOp (bin ha hb I (R := fun v v' H2 => ∃ F τ s x y, SR Z.T Z.pn G F H2 σ τ s ∧ Rep Z.T F x v ∧ Rep Z.T F y v' ∧ Post Z G (Rep Z.T) F σ Q W (binV Z.P Z.call o x y τ s))
    ⟨F0, τ, s, q, h.bind fun x v τ1 s1 F1 H1 e1 q1 r1 h1 => ⟨F1, τ1, s1, q1, h1.bind fun y v' τ2 s2 F2 H2 e2 q2 r2 h2 => ⟨F2, τ2, s2, x, y, q2, r1.mono e2, r2, h2⟩⟩⟩ fun u w s2 v v' H2 I2 rx ry hq => ?_)
  obtain ⟨F, τ, s, x, y, q, r1, r2, h⟩ := hq
  exact binV_z z.hK z.fz (fun c f => z.opL c o f) (fun c f => z.opR c o f) tk I2 rx ry q r1 r2 h
theorem unV_z {o : UnaryOp} {x : D} {v : V} {u : Value} {Q : VK} (z : Sz Z us X) (tk : Takes X W) (I : Inv X pins σ H sh) (rx : RelV v u) (q : SR Z.T Z.pn G F H σ τ s) (r1 : Rep Z.T F x v)
    (h : Post Z G (Rep Z.T) F σ Q W (unV Z.P Z.call o x τ s)) : wpAny (model X.prog X.w) X.A (unaryOp o u) (EP X pins σ Q) X.xe sh := by
  have own : ∀ {m : Nat} {c : Nat} {ds : List D}, x = .ins c ds → Post Z G (Rep Z.T) F σ Q W (callM Z.P Z.call c m [x] τ s) → (∀ {f a : Addr} {ox : Obj} {od : Option Obj}, u = .ref a → InstAt sh.heap a ox (Z.T.cA c) od → findIn X.K (.ref (Z.T.cA c)) (nmOf us m) = some (some (.ref f)) → isFn X.K (.ref f) = true →
      wpAny (model X.prog X.w) X.A (call (.ref f) [.ref a]) (EP X pins σ Q) X.xe sh → wpAny (model X.prog X.w) X.A (unaryOp o u) (EP X pins σ Q) X.xe sh) → wpAny (model X.prog X.w) X.A (unaryOp o u) (EP X pins σ Q) X.xe sh := by
    intro m c ds e h k
    subst e
    obtain ⟨f, ef, h⟩ := callM_of h
    obtain ⟨ck, mt, _⟩ := z.meth c m f ef
    obtain ⟨a, ox, od, dx, rfl, rfl, J, _⟩ := inst_z I q r1 rx
    rw [← z.hK] at mt
    exact k rfl J mt.at_ mt.fn (wpAny_call (run_z (z.fz f) tk I (.cons rx .nil) (spF_of q (RepL.one r1) h)))
  obtain ⟨m, fr⟩ := I.fr
  cases o with
  | USub =>
    cases x with
    | int i => cases r1; exact un_neg pins sh σ H _ u Q I rx ⟨i, rfl, h.ok q rfl⟩
    | ins c ds => exact own (m := mNeg) rfl h fun e J h1 h2 h3 => by subst e; exact ksp_neg fr I.mod.kin J h1 h2 h3
    | _ => exact h.elim
  | Invert =>
    cases x with
    | ins c ds => exact own (m := mInv) rfl h fun e J h1 h2 h3 => by subst e; exact ksp_inv fr I.mod.kin J h1 h2 h3
    | _ => exact h.elim
  | Not => cases x <;> exact h.elim
  | UAdd => cases x <;> exact h.elim
theorem de_un {o : UnaryOp} (z : Sz Z us X) (tk : Takes X W) (ha : PE X a (tD Z G W ca)) : PE X (.UnaryOp o a pos) (tD Z G W (.un o ca)) := by
  refine ⟨fun pins sh σ H Q I h => ?_⟩
  obtain ⟨F0, τ, s, q, h⟩ := h
  refine UnaryOp_ (thn (ha.run pins sh σ H (fun v H1 => ∃ F τ s x, SR Z.T Z.pn G F H1 σ τ s ∧ Rep Z.T F x v ∧ Post Z G (Rep Z.T) F σ Q W (unV Z.P Z.call o x τ s)) I
    ⟨F0, τ, s, q, h.bind fun x v τ1 s1 F1 H1 e1 q1 r1 h1 => ⟨F1, τ1, s1, x, q1, r1, h1⟩⟩) fun u s1 ⟨v, H1, I1, rx, F, τ, s, x, q, r1, h⟩ => ?_)
  exact unV_z z tk I1 rx q r1 h

/-! ### comparisons -/
theorem de_cmp {o : CmpOp} (z : Sz Z us X) (tk : Takes X W) (ha : PE X a (tD Z G W ca)) (hb : PE X b (tD Z G W cb)) (hm : behindInMarks o b = false) : PE X (.Compare a [o] [b] pos) (tD Z G W (.cmp o ca cb)) := by
  refine ⟨fun pins sh σ H Q I h => ?_⟩
  obtain ⟨F0, τ, s, q, h⟩ := h
  refine wpAny_Compare1 (bin ha hb I (R := fun v v' H2 => ∃ F τ s x y, SR Z.T Z.pn G F H2 σ τ s ∧ Rep Z.T F x v ∧ Rep Z.T F y v' ∧ Post Z G (Rep Z.T) F σ Q W (cmpV Z.P Z.call o x y τ s))
    ⟨F0, τ, s, q, h.bind fun x v τ1 s1 F1 H1 e1 q1 r1 h1 => ⟨F1, τ1, s1, q1, h1.bind fun y v' τ2 s2 F2 H2 e2 q2 r2 h2 => ⟨F2, τ2, s2, x, y, q2, r1.mono e2, r2, h2⟩⟩⟩ fun u w s2 v v' H2 I2 rx ry hq => ?_) hm
  obtain ⟨F, τ, s, x, y, q, r1, r2, h⟩ := hq
  exact cmpV_z z tk I2 rx ry q r1 r2 h
theorem post_tru {x : D} {v : V} {u : Value} {Q : Bool → Hp → Prop} (z : Sz Z us X) (tk : Takes X W) (I : Inv X pins σ H sh) (rx : RelV v u) (q : SR Z.T Z.pn G F H σ τ s) (r1 : Rep Z.T F x v)
    (h : Post Z G EqR F σ Q W (truV Z.P Z.call x τ s)) : wpAny (model X.prog X.w) X.A (truthy u) (TP X pins σ Q) X.xe sh := truV_z z.hK z.fz z.bools tk I rx q r1 h

/-- the outcome of a value, then its truth -/
def Tr (Z : Cz S) (G : Fm) (W : WX) (σ : L2.St) (Q : Bool → Hp → Prop) : VK := fun v H1 => ∃ F τ s x, SR Z.T Z.pn G F H1 σ τ s ∧ Rep Z.T F x v ∧ Post Z G EqR F σ Q W (truV Z.P Z.call x τ s)
theorem Post.tr {Q : Bool → Hp → Prop} {x : Out S D} (h : Post Z G EqR F σ Q W (x.bind fun x τ s => truV Z.P Z.call x τ s)) : Post Z G (Rep Z.T) F σ (Tr Z G W σ Q) W x :=
  h.bind fun x v τ1 s1 F1 H1 e1 q1 r1 h1 => ⟨F1, τ1, s1, x, q1, r1, h1⟩
theorem Tr.go {Q : Bool → Hp → Prop} {v : V} {u : Value} (z : Sz Z us X) (tk : Takes X W) (I : Inv X pins σ H sh) (rx : RelV v u) (h : Tr Z G W σ Q v H) : wpAny (model X.prog X.w) X.A (truthy u) (TP X pins σ Q) X.xe sh := by
  obtain ⟨F, τ, s, x, q, r1, h⟩ := h
  exact post_tru z tk I rx q r1 h

/-! ### tests -/
theorem dt_plain (z : Sz Z us X) (tk : Takes X W) (he : PE X e (tD Z G W ce)) (hp : plainTest e = true) : PT X e (tDT Z G W ce) := by
  refine ⟨fun pins sh σ H Q I h => ?_⟩
  obtain ⟨F0, τ, s, q, h⟩ := h
  refine isTrue_plain (thn (he.run pins sh σ H (Tr Z G W σ Q) I ⟨F0, τ, s, q, h.tr⟩) fun u s1 ⟨v, H1, I1, rx, hq⟩ => hq.go z tk I1 rx) ?_
  cases e <;> first | rfl | (cases hp; done) | skip
  rename_i op _ _
  cases op <;> first | rfl | (cases hp; done)
theorem dt_cmp {o : CmpOp} (z : Sz Z us X) (tk : Takes X W) (ha : PE X a (tD Z G W ca)) (hb : PE X b (tD Z G W cb)) (hm : behindInMarks o b = false) : PT X (.Compare a [o] [b] pos) (tDT Z G W (.cmp o ca cb)) := by
  refine ⟨fun pins sh σ H Q I h => ?_⟩
  obtain ⟨F0, τ, s, q, h⟩ := h
  have h' := h.tr
  refine wpAny_isTrue_Compare1 (bin ha hb I (R := fun v v' H2 => ∃ F τ s x y, SR Z.T Z.pn G F H2 σ τ s ∧ Rep Z.T F x v ∧ Rep Z.T F y v' ∧ Post Z G (Rep Z.T) F σ (Tr Z G W σ Q) W (cmpV Z.P Z.call o x y τ s))
    ⟨F0, τ, s, q, h'.bind fun x v τ1 s1 F1 H1 e1 q1 r1 h1 => ⟨F1, τ1, s1, q1, h1.bind fun y v' τ2 s2 F2 H2 e2 q2 r2 h2 => ⟨F2, τ2, s2, x, y, q2, r1.mono e2, r2, h2⟩⟩⟩ fun u w s2 v v' H2 I2 rx ry hq => ?_) hm
  obtain ⟨F, τ, s, x, y, q, r1, r2, h⟩ := hq
  exact thn (cmpV_z z tk I2 rx ry q r1 r2 h) fun u s3 ⟨v, H3, I3, rv, hq⟩ => hq.go z tk I3 rv
theorem Post.bl {Q : Bool → Hp → Prop} {Q' : Bool → Hp → Prop} {x : Out S Bool} {f : Bool → Bool} (h : Post Z G EqR F σ Q W ((x.bind fun t τ s => .ok (.bl (f t)) τ s).bind fun x τ s => truV Z.P Z.call x τ s)) (k : ∀ b H, Q (f b) H → Q' b H) : Post Z G EqR F σ Q' W x := by
  cases x with
  | ok t τ s =>
    rintro b H' F' e q rfl
    exact k _ _ (h _ H' F' e q rfl)
  | exc c fs τ s => exact h
  | no => exact h
theorem bind_assoc {α β γ : Type} (x : Out S α) (f : α → List Slot → S → Out S β) (g : β → List Slot → S → Out S γ) : (x.bind f).bind g = x.bind fun a τ s => (f a τ s).bind g := by
  cases x <;> rfl
theorem dt_not (ha : PT X a (tDT Z G W ca)) : PT X (.UnaryOp .Not a pos) (tDT Z G W (.not ca)) := (pt_not ha).imp fun σ H Q => by
  rintro ⟨F0, τ, s, q, h⟩
  refine ⟨F0, τ, s, q, ?_⟩
  simp only [ev] at h
  rw [← bind_assoc] at h
  exact h.bl (f := fun t => !t) fun b H hq => hq
theorem dt_and {rest : List Expr} (ha : PT X a (tDT Z G W ca)) (hb : PW X (.BoolOp .And (b :: rest) pos) (tDT Z G W cb)) : PW X (.BoolOp .And (a :: b :: rest) pos) (tDT Z G W (.tand ca cb)) := by
  have k : ∀ σ H Q, tDT Z G W (.tand ca cb) σ H Q → tAnd (tDT Z G W ca) (tDT Z G W cb) σ H Q := by
    rintro σ H Q ⟨F0, τ, s, q, h⟩
    refine ⟨F0, τ, s, q, ?_⟩
    simp only [ev] at h
    rw [← bind_assoc, bind_assoc] at h
    refine h.bind fun t t' τ1 s1 F1 H1 e1 q1 et h1 => ?_
    cases et
    cases t with
    | false => exact h1 false H1 F1 (Sub.refl _) q1 rfl
    | true =>
      refine ⟨F1, τ1, s1, q1, ?_⟩
      simp only [cond_true] at h1
      rw [← bind_assoc] at h1
      exact h1.bl (f := id) fun b H hq => hq
  exact ⟨fun wh pins sh σ H Q I h => (pw_and ha hb).run wh pins sh σ H Q I (k σ H Q h)⟩
theorem dt_or {rest : List Expr} (ha : PT X a (tDT Z G W ca)) (hb : PW X (.BoolOp .Or (b :: rest) pos) (tDT Z G W cb)) : PW X (.BoolOp .Or (a :: b :: rest) pos) (tDT Z G W (.tor ca cb)) := by
  have k : ∀ σ H Q, tDT Z G W (.tor ca cb) σ H Q → tOr (tDT Z G W ca) (tDT Z G W cb) σ H Q := by
    rintro σ H Q ⟨F0, τ, s, q, h⟩
    refine ⟨F0, τ, s, q, ?_⟩
    simp only [ev] at h
    rw [← bind_assoc, bind_assoc] at h
    refine h.bind fun t t' τ1 s1 F1 H1 e1 q1 et h1 => ?_
    cases et
    cases t with
    | true => exact h1 true H1 F1 (Sub.refl _) q1 rfl
    | false =>
      refine ⟨F1, τ1, s1, q1, ?_⟩
      simp only [cond_false] at h1
      rw [← bind_assoc] at h1
      exact h1.bl (f := id) fun b H hq => hq
  exact ⟨fun wh pins sh σ H Q I h => (pw_or ha hb).run wh pins sh σ H Q I (k σ H Q h)⟩

/-! ### values by truth -/
theorem de_not (z : Sz Z us X) (tk : Takes X W) (ha : PE X a (tD Z G W ca)) : PE X (.UnaryOp .Not a pos) (tD Z G W (.not ca)) := by
  refine ⟨fun pins sh σ H Q I h => ?_⟩
  obtain ⟨F0, τ, s, q, h⟩ := h
  refine UnaryOp_ (thn (ha.run pins sh σ H (Tr Z G W σ fun t H' => Q (.bl (!t)) H') I ⟨F0, τ, s, q, h.bind fun x v τ1 s1 F1 H1 e1 q1 r1 h1 => ⟨F1, τ1, s1, x, q1, r1, h1.bind fun t t' τ2 s2 F2 H2 e2 q2 et h2 => ?_⟩⟩) fun u s1 ⟨v, H1, I1, rx, hq⟩ => ?_)
  · cases et; exact h2.ok q2 rfl
  · exact not_of (thn (hq.go z tk I1 rx) fun t s2 ⟨H2, I2, q2⟩ => ⟨.bl (!t), H2, I2, rfl, q2⟩)
theorem de_and {rest : List Expr} (z : Sz Z us X) (tk : Takes X W) (ha : PE X a (tD Z G W ca)) (hb : PE X (.BoolOp .And (b :: rest) pos) (tD Z G W cb)) : PE X (.BoolOp .And (a :: b :: rest) pos) (tD Z G W (.and ca cb)) := by
  refine ⟨fun pins sh σ H Q I h => ?_⟩
  obtain ⟨F0, τ, s, q, h⟩ := h
  refine BoolOp_and (thn (ha.run pins sh σ H (fun v H1 => Tr Z G W σ (fun t H' => if t = true then tD Z G W cb σ H' Q else Q v H') v H1) I ⟨F0, τ, s, q, h.bind fun x v τ1 s1 F1 H1 e1 q1 r1 h1 => ⟨F1, τ1, s1, x, q1, r1, h1.bind fun t t' τ2 s2 F2 H2 e2 q2 et h2 => ?_⟩⟩) fun u s1 ⟨v, H1, I1, rx, hq⟩ => ?_)
  · cases et
    cases t with
    | true => exact ⟨F2, τ2, s2, q2, h2⟩
    | false => exact h2.ok q2 (r1.mono e2)
  · refine thn (hq.go z tk I1 rx) fun t s2 ⟨H2, I2, q2⟩ => ?_
    cases t with
    | true => exact hb.run pins s2 σ H2 Q I2 q2
    | false => exact ⟨v, H2, I2, rx, q2⟩
theorem de_or {rest : List Expr} (z : Sz Z us X) (tk : Takes X W) (ha : PE X a (tD Z G W ca)) (hb : PE X (.BoolOp .Or (b :: rest) pos) (tD Z G W cb)) : PE X (.BoolOp .Or (a :: b :: rest) pos) (tD Z G W (.or ca cb)) := by
  refine ⟨fun pins sh σ H Q I h => ?_⟩
  obtain ⟨F0, τ, s, q, h⟩ := h
  refine BoolOp_or (thn (ha.run pins sh σ H (fun v H1 => Tr Z G W σ (fun t H' => if t = true then Q v H' else tD Z G W cb σ H' Q) v H1) I ⟨F0, τ, s, q, h.bind fun x v τ1 s1 F1 H1 e1 q1 r1 h1 => ⟨F1, τ1, s1, x, q1, r1, h1.bind fun t t' τ2 s2 F2 H2 e2 q2 et h2 => ?_⟩⟩) fun u s1 ⟨v, H1, I1, rx, hq⟩ => ?_)
  · cases et
    cases t with
    | false => exact ⟨F2, τ2, s2, q2, h2⟩
    | true => exact h2.ok q2 (r1.mono e2)
  · refine thn (hq.go z tk I1 rx) fun t s2 ⟨H2, I2, q2⟩ => ?_
    cases t with
    | false => exact hb.run pins s2 σ H2 Q I2 q2
    | true => exact ⟨v, H2, I2, rx, q2⟩
theorem de_ite (hc : PT X c (tDT Z G W cc)) (ha : PE X a (tD Z G W ca)) (hb : PE X b (tD Z G W cb)) : PE X (.IfExp c a b pos) (tD Z G W (.ite cc ca cb)) := (pe_ifExp hc ha hb).imp fun σ H Q => by
  rintro ⟨F0, τ, s, q, h⟩
  refine ⟨F0, τ, s, q, ?_⟩
  simp only [ev] at h
  rw [← bind_assoc] at h
  refine h.bind fun t t' τ1 s1 F1 H1 e1 q1 et h1 => ?_
  cases et
  cases t with
  | true => exact ⟨F1, τ1, s1, q1, h1⟩
  | false => exact ⟨F1, τ1, s1, q1, h1⟩
end
end Rz
end

section
set_option autoImplicit false
set_option Elab.async false
set_option linter.all false
set_option maxRecDepth 100000
set_option maxHeartbeats 2000000
namespace Rz
open PySem L2 PySem.W PyProof.Rows

section
variable {S : Type} [Pen S] {Z : Cz S} {us : List Str} {G : Fm} {F H : Hp} {σ : L2.St} {τ : List Slot} {s : S} {W : WX} {X : Cx} {pins : List (Addr × Obj)} {sh : Shared}
variable {a b c e : Expr} {ca cb cc ce : CE} {pos : Pos}

theorem rep_bl {T : Tb} {x : D} {t : Bool} (r : Rep T F x (.bl t)) : x = .bl t ∨ x = .opq (.bl t) := by
  cases x with
  | bl b => left; cases r; rfl
  | opq u => right; cases r; rfl
  | tup _ => obtain ⟨_, _, z, _⟩ := r; cases z
  | lst _ => obtain ⟨_, _, z, _⟩ := r; cases z
  | ins _ _ => obtain ⟨_, _, _, z, _⟩ := r; cases z
  | xin _ _ => obtain ⟨_, _, z, _⟩ := r; cases z
  | dct _ _ => obtain ⟨_, _, z, _⟩ := r; cases z
  | _ => cases r
/-! ### a < b < c -/
theorem de_chain {o p : CmpOp} (z : Sz Z us X) (tk : Takes X W) (ha : PE X a (tD Z G W ca)) (hb : PE X b (tD Z G W cb)) (hc : PE X c (tD Z G W cc)) (hm : lastMarks [o, p] [b, c] = false) : PE X (.Compare a [o, p] [b, c] pos) (tD Z G W (.chain o p ca cb cc)) := by
  refine ⟨fun pins sh σ H Q I h => ?_⟩
  obtain ⟨F0, τ, s, q, h⟩ := h
  refine Compare_chain (thn (ha.run pins sh σ H (fun v H1 => tD Z G W cb σ H1 fun v' H2 => ∃ F τ s x y, SR Z.T Z.pn G F H2 σ τ s ∧ Rep Z.T F x v ∧ Rep Z.T F y v' ∧ Post Z G (Rep Z.T) F σ (fun w H3 => ∃ t, w = .bl t ∧ ∃ F τ s, SR Z.T Z.pn G F H3 σ τ s ∧ Rep Z.T F y v' ∧
      Post Z G (Rep Z.T) F σ Q W (bif t then (ev Z.P Z.call Z.make cc τ s).bind fun w τ s => cmpV Z.P Z.call p y w τ s else .ok (.bl false) τ s)) W (cmpV Z.P Z.call o x y τ s)) I
    ⟨F0, τ, s, q, h.bind fun x v τ1 s1 F1 H1 e1 q1 r1 h1 => ⟨F1, τ1, s1, q1, h1.bind fun y v' τ2 s2 F2 H2 e2 q2 r2 h2 => ⟨F2, τ2, s2, x, y, q2, r1.mono e2, r2, h2.bind fun zd w τ3 s3 F3 H3 e3 q3 r3 h3 => ?_⟩⟩⟩)
    fun u s1 ⟨v, H1, I1, rx, hq⟩ => chain_link (thn (hb.run pins s1 σ H1 _ I1 hq) fun u' s2 ⟨v', H2, I2, ry, F, τ, s, x, y, q, r1, r2, h⟩ => thn (cmpV_z z tk I2 rx ry q r1 r2 h) fun d s3 ⟨w, H3, I3, rw_, t, et, F, τ, s, q, r2, h⟩ => ?_)) hm
  · cases zd with
    | bl t => cases r3; exact ⟨t, rfl, F3, τ3, s3, q3, r2.mono e3, h3⟩
    | _ => exact h3.elim
  · subst et
    cases rw_
    refine wpAny_truthy_bool ?_
    cases t with
    | false => exact ite_ff ⟨.bl false, H3, I3, rfl, h.ok q rfl⟩
    | true =>
      refine ite_tt (chain_last (thn (hc.run pins s3 σ H3 (fun w H4 => ∃ F τ s y2, SR Z.T Z.pn G F H4 σ τ s ∧ Rep Z.T F y v' ∧ Rep Z.T F y2 w ∧ Post Z G (Rep Z.T) F σ Q W (cmpV Z.P Z.call p y y2 τ s)) I3
        ⟨F, τ, s, q, h.bind fun y2 w τ4 s4 F4 H4 e4 q4 r4 h4 => ⟨F4, τ4, s4, y2, q4, r2.mono e4, r4, h4⟩⟩) fun w' s4 ⟨w, H4, I4, r4, F, τ, s, y2, q, r2, r3, h⟩ => ?_))
      exact cmpV_z z tk I4 ry r4 q r2 r3 h
theorem dt_chain {o p : CmpOp} (z : Sz Z us X) (tk : Takes X W) (ha : PE X a (tD Z G W ca)) (hb : PE X b (tD Z G W cb)) (hc : PE X c (tD Z G W cc)) (hm : lastMarks [o, p] [b, c] = false) : PT X (.Compare a [o, p] [b, c] pos) (tDT Z G W (.chain o p ca cb cc)) := by
  refine ⟨fun pins sh σ H Q I h => ?_⟩
  obtain ⟨F0, τ, s, q, h⟩ := h
  have h := h.tr
  refine isTrue_chain (thn (ha.run pins sh σ H (fun v H1 => tD Z G W cb σ H1 fun v' H2 => ∃ F τ s x y, SR Z.T Z.pn G F H2 σ τ s ∧ Rep Z.T F x v ∧ Rep Z.T F y v' ∧ Post Z G (Rep Z.T) F σ (fun w H3 => ∃ t, w = .bl t ∧ ∃ F τ s, SR Z.T Z.pn G F H3 σ τ s ∧ Rep Z.T F y v' ∧
      Post Z G (Rep Z.T) F σ (Tr Z G W σ Q) W (bif t then (ev Z.P Z.call Z.make cc τ s).bind fun w τ s => cmpV Z.P Z.call p y w τ s else .ok (.bl false) τ s)) W (cmpV Z.P Z.call o x y τ s)) I
    ⟨F0, τ, s, q, h.bind fun x v τ1 s1 F1 H1 e1 q1 r1 h1 => ⟨F1, τ1, s1, q1, h1.bind fun y v' τ2 s2 F2 H2 e2 q2 r2 h2 => ⟨F2, τ2, s2, x, y, q2, r1.mono e2, r2, h2.bind fun zd w τ3 s3 F3 H3 e3 q3 r3 h3 => ?_⟩⟩⟩)
    fun u s1 ⟨v, H1, I1, rx, hq⟩ => test_link (thn (hb.run pins s1 σ H1 _ I1 hq) fun u' s2 ⟨v', H2, I2, ry, F, τ, s, x, y, q, r1, r2, h⟩ => thn (cmpV_z z tk I2 rx ry q r1 r2 h) fun d s3 ⟨w, H3, I3, rw_, t, et, F, τ, s, q, r2, h⟩ => ?_)) hm
  · cases zd with
    | bl t => cases r3; exact ⟨t, rfl, F3, τ3, s3, q3, r2.mono e3, h3⟩
    | _ => exact h3.elim
  · subst et
    cases rw_
    refine wpAny_truthy_bool ?_
    cases t with
    | false =>
      obtain ⟨F, τ, s, x, q, r, h⟩ := h.ok q (rfl : Rep Z.T F (.bl false) (.bl false))
      rcases rep_bl r with rfl | rfl
      · exact ite_ff ⟨H3, I3, h.ok q rfl⟩
      · exact h.elim
    | true =>
      refine ite_tt (test_last (thn (hc.run pins s3 σ H3 (fun w H4 => ∃ F τ s y2, SR Z.T Z.pn G F H4 σ τ s ∧ Rep Z.T F y v' ∧ Rep Z.T F y2 w ∧ Post Z G (Rep Z.T) F σ (Tr Z G W σ Q) W (cmpV Z.P Z.call p y y2 τ s)) I3
        ⟨F, τ, s, q, h.bind fun y2 w τ4 s4 F4 H4 e4 q4 r4 h4 => ⟨F4, τ4, s4, y2, q4, r2.mono e4, r4, h4⟩⟩) fun w' s4 ⟨w, H4, I4, r4, F, τ, s, y2, q, r2, r3, h⟩ => ?_))
      exact thn (cmpV_z z tk I4 ry r4 q r2 r3 h) fun d s5 ⟨w, H5, I5, r5, hq⟩ => hq.go z tk I5 r5

/-! ### items and slices -/
theorem RepL.atI {T : Tb} {ds : List D} {vs : List V} {i : Int} {d : D} (r : RepL T F ds vs) (h : L2.atI ds i = some d) : ∃ v, L2.atI vs i = some v ∧ Rep T F d v := by
  unfold L2.atI at h ⊢
  rw [r.length]
  cases e : ixN ds.length i with
  | none => rw [e] at h; cases h
  | some j => rw [e] at h; exact r.get h
def ixOk : Expr → Bool
  | .Slice _ _ _ _ => false
  | _ => true
theorem plainIx_of {b : Expr} (h : ixOk b = true) : PlainIx b := by
  intro o i
  cases b <;> first | rfl | cases h
theorem ix_dct (hu : X.A.units + 1 < cLine) : IxR X (fun x y H Q => ∃ a v, x = .ref a ∧ DGet H a y (some v) ∧ Q v H) := by
  intro value slice pins s σ H x y v u Q I rx ry h hs
  obtain ⟨a, w, rfl, g, q⟩ := h
  obtain rfl : v = Value.ref a := rx
  exact tail_any (dict_typeIs I g) slot_dict_getitem.lookup (d_getItem hu I g ry fun w' s3 I3 rw' => ⟨w, H, I3, rw', q⟩) hs
theorem de_ix (z : Sz Z us X) (ha : PE X a (tD Z G W ca)) (hb : PE X b (tD Z G W cb)) (hs : ixOk b = true) : PE X (.Subscript a b pos) (tD Z G W (.ix ca cb)) :=
  (pe_ix (((ix_list.or ix_tup).or ix_str).or (ix_dct (Nat.lt_of_le_of_lt (Nat.add_le_add_left (by decide) _) z.hu))) ha hb (plainIx_of hs)).imp fun σ H Q => by
    rintro ⟨F0, τ, s, q, h⟩
    refine ⟨F0, τ, s, q, h.bind fun x v τ1 s1 F1 H1 e1 q1 r1 h1 => ⟨F1, τ1, s1, q1, h1.bind fun y v' τ2 s2 F2 H2 e2 q2 r2 h2 => ?_⟩⟩
    have r1 := r1.mono e2
    cases x with
    | lst ds =>
      simp only [ixV] at h2
      obtain ⟨d, ed, h3⟩ := h2.of
      clear h2
      cases y with
      | int i =>
        cases r2
        obtain ⟨p, vs, rfl, hF, rl⟩ := r1
        obtain ⟨w, hw, rw_⟩ := rl.atI ed
        exact .inl (.inl (.inl ⟨p, vs, i, w, rfl, rfl, SqL.of (q2.fh _ _ hF), hw, h3.ok q2 rw_⟩))
      | _ => cases ed
    | tup ds =>
      simp only [ixV] at h2
      obtain ⟨d, ed, h3⟩ := h2.of
      clear h2
      cases y with
      | int i =>
        cases r2
        obtain ⟨p, vs, rfl, hF, rl⟩ := r1
        obtain ⟨w, hw, rw_⟩ := rl.atI ed
        exact .inl (.inl (.inr ⟨p, vs, i, w, rfl, rfl, by rw [z.hK]; exact q2.fh.sqT hF, hw, h3.ok q2 rw_⟩))
      | _ => cases ed
    | str t =>
      simp only [ixV] at h2
      obtain ⟨d, ed, h3⟩ := h2.of
      clear h2
      cases y with
      | int i =>
        cases r1; cases r2
        simp only [ixD] at ed
        cases hl : lim t.length with
        | false => rw [hl] at ed; cases ed
        | true =>
          rw [hl] at ed
          obtain ⟨cd, ec, rfl⟩ := map_some ed
          exact .inl (.inr ⟨t, i, cd, rfl, rfl, lim_size hl, ec, h3.ok q2 rfl⟩)
      | _ => cases ed
    | ins c ds => exact h2.elim
    | dct ks ds =>
      simp only [ixV] at h2
      obtain ⟨d, ed, h3⟩ := h2.of
      clear h2
      simp only [ixD] at ed
      cases ek : keyOf y with
      | none => rw [ek] at ed; cases ed
      | some k =>
        rw [ek] at ed
        obtain ⟨p, vs, rfl, hF, hl, rl⟩ := r1
        have ev := keyOf_v ek r2
        subst ev
        obtain ⟨w, hw, rw_⟩ := (dct_get k hl rl).1 d ed
        exact .inr ⟨p, w, rfl, by rw [← hw]; exact DGet.k (q2.fh _ _ hF), h3.ok q2 rw_⟩
    | _ =>
      simp only [ixV] at h2
      obtain ⟨d, ed, h2⟩ := h2.of
      cases ed

inductive PartZ (Z : Cz S) (G : Fm) (W : WX) (X : Cx) : Option Expr → CO → Prop
  | no : PartZ Z G W X none .no
  | yes {e : Expr} {c : CE} : PE X e (tD Z G W c) → PartZ Z G W X (some e) (.yes c)
def tDO (Z : Cz S) (G : Fm) (W : WX) (c : CO) : TO := fun σ H Q => ∃ F τ s, SR Z.T Z.pn G F H σ τ s ∧ Post Z G EqR F σ Q W (evO Z.P Z.call Z.make c τ s)
theorem _root_.L2.PO.imp {X : Cx} {e : Option Expr} {t t' : TO} (h : PO X e t) (k : ∀ σ H Q, t' σ H Q → t σ H Q) : PO X e t' := ⟨fun pins s σ H Q I q => h.run pins s σ H Q I (k σ H Q q)⟩
theorem PartZ.po {o : Option Expr} {c : CO} (h : PartZ Z G W X o c) : PO X o (tDO Z G W c) := by
  cases h with
  | no => exact po_none.imp fun σ H Q ⟨F0, τ, s, q, h⟩ => h.ok q rfl
  | yes he =>
    refine (po_some he).imp fun σ H Q => ?_
    rintro ⟨F0, τ, s, q, h⟩
    refine ⟨F0, τ, s, q, h.bind fun x v τ1 s1 F1 H1 e1 q1 r1 h1 => ?_⟩
    cases x with
    | int i => cases r1; exact ⟨i, rfl, h1.ok q1 rfl⟩
    | _ => exact h1.elim
theorem RepL.cut {T : Tb} {ds : List D} {vs : List V} {lo hi : Option Int} (r : RepL T F ds vs) : RepL T F (cutD ds lo hi) (cutV vs lo hi) := by
  unfold cutD cutV
  rw [r.length]
  exact (r.drop _).take _
theorem cut_whole {α : Type} {xs : List α} {lo hi : Option Int} (h : HT.sIx xs.length 0 lo = 0 ∧ HT.sIx xs.length xs.length hi = xs.length) : cutD xs lo hi = xs := by
  unfold cutD
  rw [h.1, h.2]
  simp
theorem de_sl {lo hi : Option Expr} {cl ch : CO} {p2 : Pos} (z : Sz Z us X) (ha : PE X a (tD Z G W ca)) (hl : PartZ Z G W X lo cl) (hh : PartZ Z G W X hi ch) : PE X (.Subscript a (.Slice lo hi none p2) pos) (tD Z G W (.sl ca cl ch)) :=
  (pe_slice ((sl_list.or sl_tupA).or sl_str) ha hl.po hh.po).imp fun σ H Q => by
    rintro ⟨F0, τ, s, q, h⟩
    refine ⟨F0, τ, s, q, h.bind fun x v τ1 s1 F1 H1 e1 q1 r1 h1 => ⟨F1, τ1, s1, q1, h1.bind fun l l' τ2 s2 F2 H2 e2 q2 el h2 => ⟨F2, τ2, s2, q2, h2.bind fun u u' τ3 s3 F3 H3 e3 q3 eu h3 => ?_⟩⟩⟩
    cases el
    cases eu
    have r1 := r1.mono (e2.trans e3)
    obtain ⟨d, ed, h3⟩ := h3.of
    cases x with
    | lst ds =>
      cases ed
      obtain ⟨p, vs, rfl, hF, rl⟩ := r1
      refine .inl (.inl ⟨p, vs, rfl, SqL.of (q3.fh _ _ hF), fun n hn => ?_⟩)
      have nF := q3.fh.none hn
      exact h3 _ _ _ (Sub.new nF) (q3.new hn) ⟨n, _, rfl, upd_same, rl.cut.mono (Sub.new nF)⟩
    | tup ds =>
      cases ed
      obtain ⟨p, vs, rfl, hF, rl⟩ := r1
      refine .inl (.inr ⟨p, vs, rfl, by rw [z.hK]; exact q3.fh.sqT hF, fun hw => ?_, fun _ n hn => ?_⟩)
      · rw [rl.length] at hw
        exact h3.ok q3 ⟨p, vs, rfl, hF, by rw [cut_whole hw]; exact rl⟩
      · have nF := q3.fh.none hn
        exact h3 _ _ _ (Sub.new nF) (q3.new hn) ⟨n, _, rfl, SqT.of upd_same, rl.cut.mono (Sub.new nF)⟩
    | str t =>
      cases r1
      simp only [slD] at ed
      obtain ⟨hl, rfl⟩ := bif_some ed
      exact .inr ⟨t, rfl, lim_size hl, h3.ok q3 rfl⟩
    | _ => cases ed
end
end Rz
end

section
set_option autoImplicit false
set_option Elab.async false
set_option linter.all false
set_option maxRecDepth 100000
set_option maxHeartbeats 2000000
namespace Rz
open PySem L2 PySem.W PyProof.Rows

/-- a class that isinstance is asked of: its value in the layer, in the model -/
def Tn.v (T : Tb) : Tn → V
  | .ty n => .ty n
  | .cl c => .ref (T.cA c)
def Tn.u (T : Tb) : Tn → Value
  | .ty n => .type n
  | .cl c => .ref (T.cA c)
theorem Tn.rel (T : Tb) (t : Tn) : ClsV (t.v T) (t.u T) := by
  cases t with
  | ty n => exact .ty n
  | cl c => exact .own _
theorem Tn.rels (T : Tb) : ∀ ts : List Tn, Paired ClsV (ts.map (Tn.v T)) (ts.map (Tn.u T))
  | [] => .nil
  | t :: ts => .cons (t.rel T) (Tn.rels T ts)
theorem kit_all : ∀ m ∈ tyNs, ∀ n ∈ tyIs, kitB m n = some (m == n || (m == "bool" && n == "int")) := by decide +kernel

section
variable {S : Type} [Pen S] {Z : Cz S} {us : List Str} {G : Fm} {F H : Hp} {σ : L2.St} {τ : List Slot} {s : S} {W : WX} {X : Cx} {pins : List (Addr × Obj)} {sh : Shared}
variable {a b c e : Expr} {ca cb cc ce : CE} {pos : Pos}

theorem tyx_tn {d : D} {n : String} {v : V} (z : Sz Z us X) (q : SR Z.T Z.pn G F H σ τ s) (r : Rep Z.T F d v) (e : d.tn = some n) : TyX X.K H v (.type n) := by
  cases d <;> simp only [D.tn] at e
  case non => cases e; cases r; exact .base .non
  case bl => cases e; cases r; exact .base (.bl _)
  case int => cases e; cases r; exact .base (.int _)
  case str => cases e; cases r; exact .base (.str _)
  case tup ds =>
    cases e
    obtain ⟨a, vs, rfl, hs, _⟩ := r
    rcases q.fh.sqT hs with (h | ⟨o, h⟩) | ⟨o, its, n, h, hc, _⟩
    · exact .base (.tup h)
    · exact .fTuple h
    · exact .kTuple (by rw [z.hK]; exact h) hc
  case lst ds =>
    cases e
    obtain ⟨a, vs, rfl, hs, _⟩ := r
    exact .base (.lst (q.fh _ _ hs))
  case dct ks ds =>
    cases e
    obtain ⟨a, vs, rfl, hs, _⟩ := r
    exact .base (.dK (q.fh _ _ hs))
  all_goals cases e
/-- a value's type, and what isinstance answers -/
theorem isi_z {d : D} {v : V} (z : Sz Z us X) (q : SR Z.T Z.pn G F H σ τ s) (r : Rep Z.T F d v) : ∀ {ts : List Tn} {b : Bool}, isiAny Z.P d ts = some b → ts ≠ [] → ∃ t, TyX X.K H v t ∧ kitAny X.K t (ts.map (Tn.u Z.T)) = some b := by
  have one : ∀ {t : Tn} {b : Bool}, isiT Z.P d t = some b → ∃ m, TyX X.K H v m ∧ ((∃ n, d.tn = some n ∧ m = .type n) ∨ ∃ c ds, d = .ins c ds ∧ m = .ref (Z.T.cA c)) := by
    intro t b h
    cases ed : d.tn with
    | some n => exact ⟨_, tyx_tn z q r ed, .inl ⟨n, rfl, rfl⟩⟩
    | none =>
      cases d with
      | ins c ds =>
        have hc : c < Z.P.ncl := by
          cases t with
          | ty n =>
            simp only [isiT] at h
            have := (bif_some h).1
            rw [Bool.and_eq_true] at this
            exact of_decide_eq_true this.1
          | cl e =>
            simp only [isiT] at h
            cases hb : decide (e < Z.P.ncl) with
            | false => rw [hb] at h; cases h
            | true => rw [hb] at h; exact of_decide_eq_true (bif_some h).1
        obtain ⟨ck, ha, hn, ht, hm, _, _⟩ := z.own c hc
        obtain ⟨a, dx, vs, rfl, hF, _⟩ := r
        rw [← z.hK] at ha hn ht hm
        exact ⟨_, .base (.ins (q.fh _ _ hF) (by rw [z.hK]; exact ck.cl) ha hn ht hm), .inr ⟨c, ds, rfl, rfl⟩⟩
      | _ => cases t <;> simp [isiT, D.tn] at h ed
  have kit : ∀ {t : Tn} {b : Bool} {m : Value}, isiT Z.P d t = some b → ((∃ n, d.tn = some n ∧ m = .type n) ∨ ∃ c ds, d = .ins c ds ∧ m = .ref (Z.T.cA c)) → kitOne X.K m (t.u Z.T) = some b := by
    intro t b m h hm
    rcases hm with ⟨n, en, rfl⟩ | ⟨c, ds, rfl, rfl⟩
    · have hn := rel_tn d en
      cases t with
      | ty k =>
        have h' : (bif tyIs.contains k then some (n == k || (n == "bool" && k == "int")) else none) = some b := by
          cases d <;> simp only [D.tn] at en <;> first | (cases en; done) | (cases en; exact h)
        obtain ⟨hk, rfl⟩ := bif_some h'
        exact kit_ty (kit_all n hn k (by simpa using hk))
      | cl e =>
        simp only [isiT] at h
        cases hb : decide (e < Z.P.ncl) with
        | false => rw [hb] at h; cases h
        | true =>
          rw [hb] at h
          have h' : some false = some b := by
            cases d <;> simp only [D.tn] at en <;> first | (cases en; done) | (cases en; exact h)
          cases h'
          rw [z.hK]
          exact (z.own e (of_decide_eq_true hb)).isC n hn
    · cases t with
      | ty k =>
        obtain ⟨hk, rfl⟩ := bif_some h
        rw [Bool.and_eq_true] at hk
        rw [z.hK]
        exact (z.own c (of_decide_eq_true hk.1)).isO k (by simpa using hk.2)
      | cl e =>
        simp only [isiT] at h
        cases hb : decide (e < Z.P.ncl) with
        | false => rw [hb] at h; cases h
        | true =>
          rw [hb] at h
          obtain ⟨hc, rfl⟩ := bif_some h
          rw [z.hK]
          exact z.sub c e (of_decide_eq_true hc) (of_decide_eq_true hb)
  intro ts b h hne
  have typ : ∃ m, TyX X.K H v m ∧ ((∃ n, d.tn = some n ∧ m = .type n) ∨ ∃ c ds, d = .ins c ds ∧ m = .ref (Z.T.cA c)) := by
    cases ts with
    | nil => exact absurd rfl hne
    | cons t r =>
      simp only [isiAny] at h
      cases e : isiT Z.P d t with
      | none => rw [e] at h; cases h
      | some b' => exact one e
  obtain ⟨m, tm, hm⟩ := typ
  refine ⟨m, tm, ?_⟩
  clear hne
  induction ts generalizing b with
  | nil => cases h; rfl
  | cons t r ih =>
    simp only [isiAny] at h
    show kitAny X.K m (t.u Z.T :: r.map (Tn.u Z.T)) = some b
    unfold kitAny
    cases e : isiT Z.P d t with
    | none => rw [e] at h; cases h
    | some b' =>
      rw [e] at h
      rw [kit e hm]
      cases b' with
      | true => cases h; rfl
      | false => exact ih h
theorem kitOne_of {t u : Value} {b : Bool} {K : Frag} (h : kitAny K t [u] = some b) : kitOne K t u = some b := by
  unfold kitAny at h
  cases e : kitOne K t u with
  | none => rw [e] at h; cases h
  | some b' =>
    rw [e] at h
    cases b' with
    | true => exact h
    | false => exact h
theorem de_isi {x : Expr} {t : Tn} {p pos : Pos} (z : Sz Z us X) (hg : Gl X "isinstance") (hm : X.mg "isinstance" = none) (he : PE X e (tD Z G W ce)) (hx : PE X x (tC (t.v Z.T))) (hs1 : isStar e = false) (hs2 : isStar x = false) :
    PE X (.Call (.Name "isinstance" p) [e, x] [] pos) (tD Z G W (.isi ce [t])) :=
  (pe_callB call_isi hg hm (by decide +kernel) (pa_cons he (pa_cons hx pa_nil (starEach_plain hs2)) (starEach_plain hs1)) (by decide) (by decide) (starEach_plain hs1) (by rw [backTo_any]; simp [hs2])).imp fun σ H Q => by
    rintro ⟨F0, τ, s, q, h⟩
    refine ⟨F0, τ, s, q, h.bind fun d v τ1 s1 F1 H1 e1 q1 r1 h1 => ?_⟩
    obtain ⟨d2, ed, h1⟩ := h1.of
    obtain ⟨b, eb, rfl⟩ := map_some ed
    obtain ⟨tv, tt, kk⟩ := isi_z z q1 r1 eb (by simp)
    exact ⟨v, _, tv, _, b, rfl, t.rel Z.T, tt, kitOne_of kk, h1.ok q1 rfl⟩
/-- names of classes, for a tuple of them -/
inductive TnsZ (X : Cx) (T : Tb) : List Expr → List Tn → Prop
  | nil : TnsZ X T [] []
  | cons {x : Expr} {xs : List Expr} {t : Tn} {ts : List Tn} : isStar x = false → PE X x (tC (t.v T)) → TnsZ X T xs ts → TnsZ X T (x :: xs) (t :: ts)
theorem TnsZ.pa {T : Tb} : ∀ {xs : List Expr} {ts : List Tn}, TnsZ X T xs ts → PA X xs (fun _ H Q => Q (ts.map (Tn.v T)) H)
  | _, _, .nil => pa_nil.imp fun _ _ _ h => h
  | _, _, .cons hs hx hr => (pa_cons hx (TnsZ.pa hr) (starEach_plain hs)).imp fun _ _ _ h => h
theorem de_isiT {xs : List Expr} {ts : List Tn} {k : Nat} {p pos tpos : Pos} (z : Sz Z us X) (hg : Gl X "isinstance") (hm : X.mg "isinstance" = none) (he : PE X e (tD Z G W ce)) (hx : TnsZ X Z.T xs ts) (hs1 : isStar e = false) (hn : ts ≠ []) (hl : ts.length ≤ 100) :
    PE X (.Call (.Name "isinstance" p) [e, .Tuple xs k tpos] [] pos) (tD Z G W (.isi ce ts)) :=
  (pe_callB call_isiT hg hm (by decide +kernel) (pa_cons he (pa_cons (pe_tup hx.pa) pa_nil) (starEach_plain hs1)) (by decide) (by decide) (starEach_plain hs1) (by rw [backTo_any]; rfl)).imp fun σ H Q => by
    rintro ⟨F0, τ, s, q, h⟩
    refine ⟨F0, τ, s, q, h.bind fun d v τ1 s1 F1 H1 e1 q1 r1 h1 => ?_⟩
    obtain ⟨d2, ed, h1⟩ := h1.of
    obtain ⟨b, eb, rfl⟩ := map_some ed
    refine ⟨by rw [List.length_map, sizeLine_eq]; omega, fun n hn' => ?_⟩
    have q2 := q1.newU (o := .tup (ts.map (Tn.v Z.T))) hn'
    obtain ⟨tv, tt, kk⟩ := isi_z z q2 r1 eb hn
    exact ⟨v, n, _, tv, _, b, rfl, upd_same, Tn.rels Z.T ts, tt, kk, h1 (.bl b) _ F1 (Sub.refl _) q2 rfl⟩
end
end Rz
end

section
set_option autoImplicit false
set_option Elab.async false
set_option linter.all false
set_option maxHeartbeats 2000000
set_option maxRecDepth 100000
/-! repr of data with dicts in it. -/
namespace Rz
open PySem PySem.Spec PySem.W PyProof.Rows L2
def D.isSeq : D → Bool
  | .lst _ => true
  | .tup _ => true
  | .dct _ _ => true
  | _ => false
theorem keys_fst (ks : List Key) (ps : List PyData) (h : ks.length = ps.length) : ((ks.map keyP).zip ps).map (·.1) = ks.map keyP := by
  rw [List.map_fst_zip (by simp; omega)]
theorem keys_snd (ks : List Key) (ps : List PyData) (h : ks.length = ps.length) : ((ks.map keyP).zip ps).map (·.2) = ps := by
  rw [List.map_snd_zip (by simp; omega)]
theorem py2L_len : ∀ {ds : List D} {ps : List PyData}, D.py2L ds = some ps → ps.length = ds.length
  | [], ps, h => by cases h; rfl
  | d :: ds, ps, h => by
    simp only [D.py2L] at h
    split at h
    · obtain ⟨qs, e, rfl⟩ := Option.map_eq_some_iff.mp h
      rw [List.length_cons, List.length_cons, py2L_len e]
    · cases h
section
variable {S : Type} [Pen S] {T : Tb} {F H : Hp} {σ : L2.St} {X : Cx} {pins : List (Addr × Obj)} {sh : Shared}
theorem pairs_keys {h : Heap} : ∀ {ks : List Key} {vs : List V} {es : List DictEntry} {kvs : List (Key × Value)}, ks.length = vs.length → KV (ks.zip vs) kvs → Pairs (mixKind X.prog X.w) es kvs →
    ReadsAll h (es.map (·.key)) (ks.map keyP) [] ∧ Vals vs (es.map (·.val))
  | [], [], es, kvs, _, kv, pr => by
    cases kv
    cases pr
    exact ⟨.nil, .nil⟩
  | k :: ks, v :: vs, es, kvs, hl, kv, pr => by
    cases kv with
    | cons h1 h2 =>
      cases pr with
      | cons p1 p2 p3 =>
        obtain ⟨e1, e2⟩ := h1
        obtain ⟨i1, i2⟩ := pairs_keys (h := h) (ks := ks) (vs := vs) (by simpa using hl) h2 p3
        dsimp only at e1 e2
        refine ⟨?_, ?_⟩
        · rw [← e1] at p1
          have hk : keyIs k _ = true := p1
          rcases keyIs_shape hk with ⟨i, t, rfl, ev⟩ | ⟨x, t, rfl, ev⟩
          · simp only [List.map_cons]
            rw [ev]
            exact ReadsAll.cons (as := []) (bs := []) (.int i t) i1
          · simp only [List.map_cons]
            rw [ev]
            exact ReadsAll.cons (as := []) (bs := []) (.str x t) i1
        · simp only [List.map_cons]
          rw [p2]
          exact .cons e2 i2
  | [], _ :: _, _, _, hl, _, _ => by simp at hl
  | _ :: _, [], _, _, hl, _, _ => by simp at hl
/-- what repr walks -/
def Rk (X : Cx) (h : Heap) (w : Value) (p : PyData) : Prop := ∃ as bs, Reads h w p as ∧ ReadAtMost h p.depth bs ∧ ReprK X.prog X.w bs h p.depth w p.shown
def RkL (X : Cx) (h : Heap) (ws : List Value) (ps : List PyData) : Prop := ∃ as bs, ReadsAll h ws ps as ∧ ReadAtMost h (PyData.depthAll ps) bs ∧ ReprAllK X.prog X.w bs h (PyData.depthAll ps) ws (PyData.shownAll ps)
theorem rkL_cons {h : Heap} {w : Value} {p : PyData} {ws : List Value} {ps : List PyData} (a : Rk X h w p) (b : RkL X h ws ps) : RkL X h (w :: ws) (p :: ps) := by
  obtain ⟨as, b1, r, hb1, k1⟩ := a
  obtain ⟨cs, b2, rs, hb2, k2⟩ := b
  refine ⟨as ++ cs, b1 ++ b2, .cons r rs, ?_, ?_⟩
  · intro b hm
    simp only [PyData.depthAll]
    rcases List.mem_append.mp hm with hm | hm
    · obtain ⟨d', as', r', hd'⟩ := hb1 b hm
      exact ⟨d', as', r', Nat.le_trans hd' (Nat.le_max_left _ _)⟩
    · obtain ⟨d', as', r', hd'⟩ := hb2 b hm
      exact ⟨d', as', r', Nat.le_trans hd' (Nat.le_max_right _ _)⟩
  · simp only [PyData.depthAll, PyData.shownAll]
    exact .cons ((k1.more fun b hb => List.mem_append_left _ hb).level_le (Nat.le_max_left _ _)) (k2.more_le (fun b hb => List.mem_append_right _ hb) (Nat.le_max_right _ _))
/-- keys are scalars -/
theorem rkL_keys {h : Heap} : ∀ {ks : List Key} {ws : List Value}, ReadsAll h ws (ks.map keyP) [] → PyData.showableAll (ks.map keyP) = true → (∀ t ∈ PyData.shownAll (ks.map keyP), t.length ≤ sizeLine) → RkL X h ws (ks.map keyP)
  | [], _, .nil, _, _ => ⟨[], [], .nil, (fun _ h => nomatch h), by simp only [List.map_nil, PyData.shownAll]; exact .nil⟩
  | k :: ks, ws, r, hs, hz => by
    have hs' : (keyP k).showable = true ∧ PyData.showableAll (ks.map keyP) = true := by simpa [PyData.showableAll] using hs
    have hz1 : (keyP k).shown.length ≤ sizeLine := hz _ (by simp only [List.map_cons, PyData.shownAll]; exact List.mem_cons_self ..)
    have gen : ∀ {as : List Addr}, as = [] → ReadsAll h ws ((k :: ks).map keyP) as → RkL X h ws ((k :: ks).map keyP) := fun {as} ea r => by
      cases r with
      | cons r1 r2 =>
        rename_i w ws' a1 a2
        have e2 : a1 = [] ∧ a2 = [] := List.append_eq_nil_iff.mp ea
        obtain ⟨rfl, rfl⟩ := e2
        refine rkL_cons ?_ (rkL_keys r2 hs'.2 fun t ht => hz t (by simp only [List.map_cons, PyData.shownAll]; exact List.mem_cons_of_mem _ ht))
        cases k with
        | inl i =>
          cases r1 with
          | int _ t => exact ⟨[], [], .int i t, (fun _ h => nomatch h), by simp only [keyP, PyData.shown]; exact .of_is (ReprIs.int t (by simpa [keyP, PyData.showable] using hs'.1)) _ _ _⟩
        | inr x =>
          cases r1 with
          | str _ t => exact ⟨[], [], .str x t, (fun _ h => nomatch h), by simp only [keyP, PyData.shown]; exact .of_is (ReprIs.str x t (by simpa only [keyP, PyData.shown] using hz1)) _ _ _⟩
    exact gen rfl r
mutual
theorem rep_rk (hK : X.K = T.K) (fh : Sub F H) (I : Inv X pins σ H sh) : ∀ (d : D) (p : PyData) (v : V) (w : Value), d.py2 = some p → p.showable = true → p.shown.length ≤ sizeLine → Rep T F d v → RelV v w → Rk X sh.heap w p
  | .non, p, v, w, e, hs, hz, r, rv => by
    cases e
    cases r
    obtain rfl : w = .none := rv
    exact ⟨[], [], .none, (fun _ h => nomatch h), by simp only [PyData.shown]; exact .of_is ReprIs.none _ _ _⟩
  | .bl b, p, v, w, e, hs, hz, r, rv => by
    cases e
    cases r
    obtain rfl : w = .bool b := rv
    exact ⟨[], [], .bool b, (fun _ h => nomatch h), by simp only [PyData.shown]; exact .of_is (ReprIs.bool b) _ _ _⟩
  | .int i, p, v, w, e, hs, hz, r, rv => by
    cases e
    cases r
    obtain ⟨t, rfl⟩ : ∃ t, w = .int i t := rv
    exact ⟨[], [], .int i t, (fun _ h => nomatch h), by simp only [PyData.shown]; exact .of_is (ReprIs.int t (by simpa [PyData.showable] using hs)) _ _ _⟩
  | .str x, p, v, w, e, hs, hz, r, rv => by
    cases e
    cases r
    obtain ⟨t, rfl⟩ : ∃ t, w = .str x t := rv
    exact ⟨[], [], .str x t, (fun _ h => nomatch h), by simp only [PyData.shown]; exact .of_is (ReprIs.str x t (by simpa only [PyData.shown] using hz)) _ _ _⟩
  | .lst ds, p, v, w, e, hs, hz, r, rv => by
    obtain ⟨ps, ep, rfl⟩ := Option.map_eq_some_iff.mp e
    obtain ⟨a, vs, rfl, hF, rl⟩ := r
    obtain rfl : w = .ref a := rv
    obtain ⟨_, its, n, rv2, h1⟩ := I.hok a _ (fh _ _ hF)
    have hz' : (listText (PyData.shownAll ps)).length ≤ sizeLine := by simpa only [PyData.shown] using hz
    obtain ⟨as, bs, r4, hb, hk⟩ := rep_rkL hK fh I ds ps vs its ep (by simpa [PyData.showable] using hs) (fun t ht => Nat.le_trans (listText_mem_le ht) hz') rl rv2
    have r0 : Reads sh.heap (.ref a) (.list ps) (a :: as) := .list h1 rfl rfl r4
    have hna : a ∉ bs := not_mem_of_deeper r0 (by simp only [PyData.depth]; omega) hb
    refine ⟨_, a :: bs, r0, ReadAtMost.cons r0 (by simp only [PyData.depth]; omega) hb, ?_⟩
    simp only [PyData.depth, PyData.shown]
    cases its with
    | nil =>
      cases r4
      simp only [PyData.shownAll, listText_nil]
      exact ReprK.listEmpty h1 rfl rfl
    | cons x l => exact ReprK.list h1 rfl rfl hna (by simpa using hk.length_eq) (fun i y e => hk.item i y (by simpa using e))
  | .tup ds, p, v, w, e, hs, hz, r, rv => by
    obtain ⟨ps, ep, rfl⟩ := Option.map_eq_some_iff.mp e
    obtain ⟨a, vs, rfl, hF, rl⟩ := r
    obtain rfl : w = .ref a := rv
    have hF' : SqT X.K H a vs := by rw [hK]; exact fh.sqT hF
    obtain ⟨its, rv2, ⟨o, ho, hc, n, hd⟩, _⟩ := I.tuple hF'
    have hz' : (tupleText (PyData.shownAll ps)).length ≤ sizeLine := by simpa only [PyData.shown] using hz
    obtain ⟨as, bs, r4, hb, hk⟩ := rep_rkL hK fh I ds ps vs its ep (by simpa [PyData.showable] using hs) (fun t ht => Nat.le_trans (tupleText_mem_le ht) hz') rl rv2
    have r0 : Reads sh.heap (.ref a) (.tuple ps) as := .tuple ho hc hd r4
    have hna : a ∉ bs := not_mem_of_deeper r0 (by simp only [PyData.depth]; omega) hb
    refine ⟨_, a :: bs, r0, ReadAtMost.cons r0 (by simp only [PyData.depth]; omega) hb, ?_⟩
    simp only [PyData.depth, PyData.shown]
    exact ReprK.tuple ho hc hd hna hk
  | .dct ks ds, p, v, w, e, hs, hz, r, rv => by
    obtain ⟨ps, ep, rfl⟩ := Option.map_eq_some_iff.mp e
    obtain ⟨a, vs, rfl, hF, hkd, rl⟩ := r
    obtain rfl : w = .ref a := rv
    obtain ⟨_, hsys, vs2, kv, o, es, n, ho, hx, hd, _, pr, _⟩ := I.hok a _ (fh _ _ hF)
    have hpl : ks.length = ps.length := by rw [py2L_len ep, hkd]
    obtain ⟨rk, rv2⟩ := pairs_keys (h := sh.heap) (by rw [hkd, rl.length]) kv pr
    have hz' : (dictText (PyData.shownKv ((ks.map keyP).zip ps))).length ≤ sizeLine := by simpa only [PyData.shown] using hz
    obtain ⟨hs1, hs2⟩ := PyData.showableKv_split ((ks.map keyP).zip ps) (by simpa [PyData.showable] using hs)
    have hk1 := PyData.shownKv_key_le ((ks.map keyP).zip ps)
    have hk2 := PyData.shownKv_val_le ((ks.map keyP).zip ps)
    have hd1 := PyData.depthAll_keys_le ((ks.map keyP).zip ps)
    have hd2 := PyData.depthAll_vals_le ((ks.map keyP).zip ps)
    have hkv := PyData.shownKv_eq ((ks.map keyP).zip ps)
    rw [keys_fst ks ps hpl] at hs1 hk1 hd1 hkv
    rw [keys_snd ks ps hpl] at hs2 hk2 hd2 hkv
    obtain ⟨a1, b1, q1, hb1, k1⟩ := rkL_keys (X := X) rk hs1 (fun t ht => let ⟨p, hp, hl⟩ := hk1 t ht; Nat.le_trans hl (Nat.le_trans (dictText_mem_le hp) hz'))
    obtain ⟨a2, b2, q2, hb2, k2⟩ := rep_rkL hK fh I ds ps vs _ ep hs2 (fun t ht => let ⟨p, hp, hl⟩ := hk2 t ht; Nat.le_trans hl (Nat.le_trans (dictText_mem_le hp) hz')) rl rv2
    have r0 : Reads sh.heap (.ref a) (.dict ((ks.map keyP).zip ps)) (a :: a1 ++ a2) := .dict ho hx.1 hd (by rw [keys_fst ks ps hpl]; exact q1) (by rw [keys_snd ks ps hpl]; exact q2)
    have hb : ReadAtMost sh.heap (PyData.depthKv ((ks.map keyP).zip ps)) (b1 ++ b2) := (hb1.mono hd1).append (hb2.mono hd2)
    have hna : a ∉ b1 ++ b2 := not_mem_of_deeper r0 (by simp only [PyData.depth]; omega) hb
    refine ⟨_, a :: (b1 ++ b2), r0, ReadAtMost.cons r0 (by simp only [PyData.depth]; omega) hb, ?_⟩
    simp only [PyData.depth, PyData.shown, hkv]
    exact ReprK.dict ho hx.1 hd hsys hna (ReprEntriesK.of_two es.toList _ _
      (k1.more_le (fun b hb => List.mem_append_left _ hb) hd1) (k2.more_le (fun b hb => List.mem_append_right _ hb) hd2))
  | .ins _ _, p, v, w, e, _, _, _, _ => by cases e
  | .xin _ _, p, v, w, e, _, _, _, _ => by cases e
  | .cls _, p, v, w, e, _, _, _, _ => by cases e
  | .ty _, p, v, w, e, _, _, _, _ => by cases e
  | .fn _, p, v, w, e, _, _, _, _ => by cases e
  | .pen, p, v, w, e, _, _, _, _ => by cases e
  | .opq _, p, v, w, e, _, _, _, _ => by cases e
theorem rep_rkL (hK : X.K = T.K) (fh : Sub F H) (I : Inv X pins σ H sh) : ∀ (ds : List D) (ps : List PyData) (vs : List V) (ws : List Value), D.py2L ds = some ps → PyData.showableAll ps = true → (∀ t ∈ PyData.shownAll ps, t.length ≤ sizeLine) → RepL T F ds vs → Vals vs ws → RkL X sh.heap ws ps
  | [], ps, vs, ws, e, _, _, rl, rv => by
    cases e
    cases rl
    cases rv
    exact ⟨[], [], .nil, (fun _ h => nomatch h), by simp only [PyData.shownAll]; exact .nil⟩
  | d :: ds, ps, vs, ws, e, hs, hz, rl, rv => by
    simp only [D.py2L] at e
    split at e
    · rename_i p ep
      obtain ⟨qs, eq, rfl⟩ := Option.map_eq_some_iff.mp e
      obtain ⟨v, t, rfl, r1, r2⟩ := rl
      cases rv with
      | cons v1 v2 =>
        have hs' : p.showable = true ∧ PyData.showableAll qs = true := by simpa [PyData.showableAll] using hs
        exact rkL_cons (rep_rk hK fh I d p v _ ep hs'.1 (hz _ (by simp only [PyData.shownAll]; exact List.mem_cons_self ..)) r1 v1)
          (rep_rkL hK fh I ds qs t _ eq hs'.2 (fun t ht => hz t (by simp only [PyData.shownAll]; exact List.mem_cons_of_mem _ ht)) r2 v2)
    · cases e
end
end
/-- a list, a tuple or a dict, shown -/
theorem rep_shows {S : Type} [Pen S] {T : Tb} {F H : Hp} {σ : L2.St} {X : Cx} {pins : List (Addr × Obj)} {sh : Shared} (hK : X.K = T.K) (fh : Sub F H) (I : Inv X pins σ H sh) {d : D} {p : PyData} {v : V} {w : Value} (e : d.py2 = some p) (hs : p.showable = true) (hz : p.shown.length ≤ sizeLine) (r : Rep T F d v) (rv : RelV v w)
    (hd : d.isSeq = true) : ∃ a Tn idr, w = .ref a ∧ ShowsBy X.prog X.w sh.heap a p Tn idr := by
  cases d with
  | lst ds =>
    obtain ⟨ps, ep, rfl⟩ := Option.map_eq_some_iff.mp e
    obtain ⟨a, vs, rfl, hF, rl⟩ := r
    obtain rfl : w = .ref a := rv
    obtain ⟨_, its, n, rv2, h1⟩ := I.hok a _ (fh _ _ hF)
    have hz' : (listText (PyData.shownAll ps)).length ≤ sizeLine := by simpa only [PyData.shown] using hz
    obtain ⟨as, bs, r4, hb, hk⟩ := rep_rkL hK fh I ds ps vs its ep (by simpa [PyData.showable] using hs) (fun t ht => Nat.le_trans (listText_mem_le ht) hz') rl rv2
    have r0 : Reads sh.heap (.ref a) (.list ps) (a :: as) := .list h1 rfl rfl r4
    have hna : a ∉ bs := not_mem_of_deeper r0 (by simp only [PyData.depth]; omega) hb
    refine ⟨a, "list", "list.__repr__", rfl, PySem.F.slot_list_repr.toG, PySem.F.slot_list_str, PySem.F.slot_list_format, fun s hk0 => ⟨_, hk0 _ _ h1, rfl⟩, fun A E s Q hg hu hk0 hQ => ?_⟩
    simp only [PyData.depth] at hu
    simp only [PyData.shown] at hQ
    cases its with
    | nil =>
      cases r4
      simp only [PyData.shownAll, listText_nil] at hQ
      exact call_list_repr_empty ⟨_, hk0 _ _ h1, rfl⟩ (hk0 _ _ h1) rfl (hQ s.heap _ _ fun _ _ e => e)
    | cons x l =>
      exact call_list_reprK h1 rfl rfl hna (by simpa using hk.length_eq) (fun i y e => hk.item i y (by simpa using e)) hg (fun b _ => Clear.nil b) hu hk0 hQ hz'
  | tup ds =>
    obtain ⟨ps, ep, rfl⟩ := Option.map_eq_some_iff.mp e
    obtain ⟨a, vs, rfl, hF, rl⟩ := r
    obtain rfl : w = .ref a := rv
    have hF' : SqT X.K H a vs := by rw [hK]; exact fh.sqT hF
    obtain ⟨its, rv2, ⟨o, ho, hc, n, hd⟩, _⟩ := I.tuple hF'
    have hz' : (tupleText (PyData.shownAll ps)).length ≤ sizeLine := by simpa only [PyData.shown] using hz
    obtain ⟨as, bs, r4, hb, hk⟩ := rep_rkL hK fh I ds ps vs its ep (by simpa [PyData.showable] using hs) (fun t ht => Nat.le_trans (tupleText_mem_le ht) hz') rl rv2
    have r0 : Reads sh.heap (.ref a) (.tuple ps) as := .tuple ho hc hd r4
    have hna : a ∉ bs := not_mem_of_deeper r0 (by simp only [PyData.depth]; omega) hb
    refine ⟨a, "tuple", "tuple.__repr__", rfl, PySem.F.slot_tuple_repr, PySem.F.slot_tuple_str, PySem.F.slot_tuple_format, fun s hk0 => ⟨o, hk0 _ _ ho, hc⟩, fun A E s Q hg hu hk0 hQ => ?_⟩
    simp only [PyData.depth] at hu
    simp only [PyData.shown] at hQ
    exact call_tuple_reprK ho hc hd hna hk hg (fun b _ => Clear.nil b) hu hk0 hQ hz'
  | dct ks ds =>
    obtain ⟨ps, ep, rfl⟩ := Option.map_eq_some_iff.mp e
    obtain ⟨a, vs, rfl, hF, hkd, rl⟩ := r
    obtain rfl : w = .ref a := rv
    obtain ⟨_, hsys, vs2, kv, o, es, n, ho, hx, hd, _, pr, _⟩ := I.hok a _ (fh _ _ hF)
    have hpl : ks.length = ps.length := by rw [py2L_len ep, hkd]
    obtain ⟨rk, rv2⟩ := pairs_keys (h := sh.heap) (by rw [hkd, rl.length]) kv pr
    have hz' : (dictText (PyData.shownKv ((ks.map keyP).zip ps))).length ≤ sizeLine := by simpa only [PyData.shown] using hz
    obtain ⟨hs1, hs2⟩ := PyData.showableKv_split ((ks.map keyP).zip ps) (by simpa [PyData.showable] using hs)
    have hk1 := PyData.shownKv_key_le ((ks.map keyP).zip ps)
    have hk2 := PyData.shownKv_val_le ((ks.map keyP).zip ps)
    have hd1 := PyData.depthAll_keys_le ((ks.map keyP).zip ps)
    have hd2 := PyData.depthAll_vals_le ((ks.map keyP).zip ps)
    have hkv := PyData.shownKv_eq ((ks.map keyP).zip ps)
    rw [keys_fst ks ps hpl] at hs1 hk1 hd1 hkv
    rw [keys_snd ks ps hpl] at hs2 hk2 hd2 hkv
    obtain ⟨a1, b1, q1, hb1, k1⟩ := rkL_keys (X := X) rk hs1 (fun t ht => let ⟨p, hp, hl⟩ := hk1 t ht; Nat.le_trans hl (Nat.le_trans (dictText_mem_le hp) hz'))
    obtain ⟨a2, b2, q2, hb2, k2⟩ := rep_rkL hK fh I ds ps vs _ ep hs2 (fun t ht => let ⟨p, hp, hl⟩ := hk2 t ht; Nat.le_trans hl (Nat.le_trans (dictText_mem_le hp) hz')) rl rv2
    have r0 : Reads sh.heap (.ref a) (.dict ((ks.map keyP).zip ps)) (a :: a1 ++ a2) := .dict ho hx.1 hd (by rw [keys_fst ks ps hpl]; exact q1) (by rw [keys_snd ks ps hpl]; exact q2)
    have hb : ReadAtMost sh.heap (PyData.depthKv ((ks.map keyP).zip ps)) (b1 ++ b2) := (hb1.mono hd1).append (hb2.mono hd2)
    have hna : a ∉ b1 ++ b2 := not_mem_of_deeper r0 (by simp only [PyData.depth]; omega) hb
    refine ⟨a, "dict", "dict.__repr__", rfl, PySem.F.slot_dict_repr, PySem.F.slot_dict_str, PySem.F.slot_dict_format, fun s hk0 => ⟨o, hk0 _ _ ho, hx.1⟩, fun A E s Q hg hu hk0 hQ => ?_⟩
    simp only [PyData.depth] at hu
    simp only [PyData.shown, hkv] at hQ
    exact call_dict_reprK ho hx.1 hd hsys hna (ReprEntriesK.of_two es.toList _ _
      (k1.more_le (fun b hb => List.mem_append_left _ hb) hd1) (k2.more_le (fun b hb => List.mem_append_right _ hb) hd2)) hg (fun b _ => Clear.nil b) hu hk0 hQ (by rw [← hkv]; exact hz')
  | _ => cases hd
end Rz
end

section
set_option autoImplicit false
set_option Elab.async false
set_option linter.all false
set_option maxRecDepth 100000
set_option maxHeartbeats 2000000
namespace Rz
open PySem L2 PySem.W PyProof.Rows

def Bi.nm : Bi → Str
  | .len => "len" | .abs => "abs" | .max => "max" | .min => "min" | .int => "int" | .bool => "bool" | .str => "str" | .repr => "repr" | .tuple => "tuple" | .list => "list" | .all => "all" | .any => "any" | .sum => "sum" | .sorted => "sorted"
def Bi.u : Bi → Value
  | .len => .builtin "len" | .abs => .builtin "abs" | .max => .builtin "max" | .min => .builtin "min" | .int => .type "int" | .bool => .type "bool" | .str => .type "str" | .repr => .builtin "repr" | .tuple => .type "tuple" | .list => .type "list" | .all => .builtin "all" | .any => .builtin "any" | .sum => .builtin "sum" | .sorted => .builtin "sorted"
theorem Bi.boot : ∀ b : Bi, bootBuiltins b.nm = some b.u := by intro b; cases b <;> decide +kernel
theorem Bi.notName : ∀ b : Bi, b.nm ≠ "__name__" := by intro b; cases b <;> decide +kernel
theorem Bi.notDebug : ∀ b : Bi, (b.nm == ("__debug__" : Str)) = false := by intro b; cases b <;> decide +kernel

mutual
theorem hasDict_of : ∀ p : PyData, p.canLay0 = true → p.hasDict = false
  | .none, _ => rfl
  | .bool _, _ => rfl
  | .int _, _ => rfl
  | .str _, _ => rfl
  | .list xs, h => by simp only [PyData.hasDict]; exact hasDictAll_of xs (by simpa [PyData.canLay0] using h)
  | .tuple xs, h => by simp only [PyData.hasDict]; exact hasDictAll_of xs (by simpa [PyData.canLay0] using h)
  | .dict _, h => by simp [PyData.canLay0] at h
theorem hasDictAll_of : ∀ ps : List PyData, PyData.canLayAll0 ps = true → PyData.hasDictAll ps = false
  | [], _ => rfl
  | p :: ps, h => by
    simp only [PyData.canLayAll0, Bool.and_eq_true] at h
    simp only [PyData.hasDictAll, hasDict_of p h.1, hasDictAll_of ps h.2, Bool.or_self]
end
section
variable {S : Type} [Pen S] {Z : Cz S} {us : List Str} {G : Fm} {F H : Hp} {σ : L2.St} {τ : List Slot} {s : S} {W : WX} {X : Cx} {pins : List (Addr × Obj)} {sh : Shared}
variable {a b c e : Expr} {ca cb cc ce : CE} {pos : Pos}

theorem RepL.inv1 {T : Tb} {d : D} {vs : List V} (r : RepL T F [d] vs) : ∃ v, vs = [v] ∧ Rep T F d v := by
  obtain ⟨v, t, e, h, h2⟩ := r
  cases h2
  exact ⟨v, e, h⟩
theorem RepL.inv2 {T : Tb} {d d' : D} {vs : List V} (r : RepL T F [d, d'] vs) : ∃ v v', vs = [v, v'] ∧ Rep T F d v ∧ Rep T F d' v' := by
  obtain ⟨v, t, e, h, h2⟩ := r
  obtain ⟨v', rfl, h3⟩ := h2.inv1
  exact ⟨v, v', e, h, h3⟩
theorem allB_v {T : Tb} : ∀ {ds : List D} {bs : List Bool} {vs : List V}, allB ds = some bs → RepL T F ds vs → vs = bs.map V.bl
  | [], bs, vs, h, r => by cases h; cases r; rfl
  | d :: ds, bs, vs, h, ⟨v, t, e, h1, h2⟩ => by
    cases d with
    | bl b =>
      obtain ⟨cs, ec, rfl⟩ := map_some h
      cases h1
      rw [e, allB_v ec h2]; rfl
    | _ => cases h
theorem allI_v {T : Tb} : ∀ {ds : List D} {bs : List Int} {vs : List V}, allI ds = some bs → RepL T F ds vs → vs = bs.map V.int
  | [], bs, vs, h, r => by cases h; cases r; rfl
  | d :: ds, bs, vs, h, ⟨v, t, e, h1, h2⟩ => by
    cases d with
    | int b =>
      obtain ⟨cs, ec, rfl⟩ := map_some h
      cases h1
      rw [e, allI_v ec h2]; rfl
    | _ => cases h

theorem reprD_z {d z' : D} {v : V} {w : Value} {Q : VK} (hK : X.K = Z.T.K) (hu : X.A.units + 64 < cLine) (hg : X.A.guards = some []) (I : Inv X pins σ H sh) (q : SR Z.T Z.pn G F H σ τ s) (r : Rep Z.T F d v) (rv : RelV v w) (e : reprD d = some z') (h : Post Z G (Rep Z.T) F σ Q W (.ok z' τ s)) :
    wpAny (model X.prog X.w) X.A (call (.builtin "repr") [w]) (EP X pins σ Q) X.xe sh := by
  unfold reprD at e
  cases ep : d.py2 with
  | none => rw [ep] at e; cases e
  | some p =>
    rw [ep] at e
    dsimp only at e
    obtain ⟨hl, rfl⟩ := bif_some e
    simp only [Bool.and_eq_true, decide_eq_true_eq] at hl
    obtain ⟨⟨hsh, hlr⟩, hdp⟩ := hl
    have hlr : p.shown.length ≤ 8000000 := of_decide_eq_true hlr
    have hls : p.shown.length ≤ sizeLine := Nat.le_trans hlr (by rw [sizeLine_eq]; decide)
    have big : d.isSeq = true → wpAny (model X.prog X.w) X.A (call (.builtin "repr") [w]) (EP X pins σ Q) X.xe sh := fun hd => by
      obtain ⟨a, Tn, idr, rfl, Sh⟩ := rep_shows (S := S) hK q.fh I ep hsh hls r rv hd
      exact call_repr_slot (by omega) (Sh.typeIs sh (fun _ _ e => e)) Sh.slotRepr (Sh.call X.A.in1 _ sh _ hg (by show X.A.units + 1 + p.depth < cLine; omega) (fun b o e => e) fun h' u tk hk => ⟨_, _, rfl, .str p.shown, H, I.kept hk, ⟨u, rfl⟩, h.ok q rfl⟩)
    cases d with
    | lst ds => exact big rfl
    | tup ds => exact big rfl
    | dct ks ds => exact big rfl
    | non =>
      cases r
      obtain rfl : w = .none := rv
      cases ep
      exact PySem.P.repr_of_none ⟨.str "None", H, I.tok _, ⟨_, rfl⟩, h.ok q rfl⟩
    | bl b =>
      cases r
      obtain rfl : w = .bool b := rv
      cases ep
      cases b with
      | true => exact PySem.P.repr_of_bool ⟨.str (Str.ofString "True"), H, I.tok _, ⟨_, rfl⟩, h.ok q rfl⟩
      | false => exact PySem.P.repr_of_bool ⟨.str (Str.ofString "False"), H, I.tok _, ⟨_, rfl⟩, h.ok q rfl⟩
    | int i =>
      cases r
      obtain ⟨t, rfl⟩ : ∃ t, w = .int i t := rv
      cases ep
      exact PySem.P.repr_of_int (of_decide_eq_true hsh) ⟨.str (toString i : String), H, I.tok _, ⟨_, rfl⟩, h.ok q rfl⟩
    | str x =>
      cases r
      obtain ⟨t, rfl⟩ : ∃ t, w = .str x t := rv
      cases ep
      exact PySem.P.repr_of_str ⟨.str _, H, I.tok _, ⟨_, rfl⟩, h.ok q rfl⟩ hls
    | _ => cases ep

theorem biD_z {b : Bi} {xs : List D} {d : D} {vs : List V} {ws : List Value} {Q : VK} (z : Sz Z us X) (hc : X.calm = true) (hg : X.A.guards = some []) (I : Inv X pins σ H sh) (q : SR Z.T Z.pn G F H σ τ s) (r : RepL Z.T F xs vs) (rv : Vals vs ws) (e : biD b xs = some d) (h : Post Z G (Rep Z.T) F σ Q W (.ok d τ s)) :
    wpAny (model X.prog X.w) X.A (call b.u ws) (EP X pins σ Q) X.xe sh := by
  have sqT : ∀ {p : Addr} {vs : List V}, SqT Z.T.K F p vs → SqT X.K H p vs := fun h => by rw [z.hK]; exact q.fh.sqT h
  have sqL : ∀ {p : Addr} {vs : List V}, F p = some (.lst vs) → SqL X.K H p vs := fun h => SqL.of (q.fh _ _ h)
  unfold biD at e
  split at e
  · -- len of a list
    obtain ⟨v, rfl, p, vs', rfl, hF, rl⟩ := r.inv1
    cases e
    exact call_len_seq pins sh σ H _ ws Q I rv ⟨p, vs', rfl, .inl (sqL hF), by rw [rl.length]; exact h.ok q rfl⟩
  · obtain ⟨v, rfl, p, vs', rfl, hF, rl⟩ := r.inv1
    cases e
    exact call_len_seq pins sh σ H _ ws Q I rv ⟨p, vs', rfl, .inr (sqT hF), by rw [rl.length]; exact h.ok q rfl⟩
  · obtain ⟨v, rfl, hv⟩ := r.inv1
    cases hv
    obtain ⟨hl, rfl⟩ := bif_some e
    exact call_len_str pins sh σ H _ ws Q I rv ⟨_, rfl, lim_size hl, h.ok q rfl⟩
  · obtain ⟨v, rfl, p, vs', rfl, hF, hl, rl⟩ := r.inv1
    cases e
    refine call_lenD pins sh σ H _ ws Q I rv ⟨p, _, rfl, q.fh _ _ hF, ?_⟩
    rw [List.length_zip, rl.length, ← hl, Nat.min_self]
    exact h.ok q rfl
  · obtain ⟨v, rfl, hv⟩ := r.inv1
    cases hv; cases e
    exact call_abs pins sh σ H _ ws Q I rv ⟨_, rfl, h.ok q rfl⟩
  · obtain ⟨v, v', rfl, hv, hv'⟩ := r.inv2
    cases hv; cases hv'; cases e
    exact call_max2 hc pins sh σ H _ ws Q I rv ⟨_, _, rfl, h.ok q rfl⟩
  · obtain ⟨v, v', rfl, hv, hv'⟩ := r.inv2
    cases hv; cases hv'; cases e
    exact call_min2 hc pins sh σ H _ ws Q I rv ⟨_, _, rfl, h.ok q rfl⟩
  · obtain ⟨v, rfl, hv⟩ := r.inv1
    cases hv; cases e
    exact call_int1 pins sh σ H _ ws Q I rv (.inl ⟨_, rfl, h.ok q rfl⟩)
  · obtain ⟨v, rfl, hv⟩ := r.inv1
    cases hv; cases e
    exact call_int1 pins sh σ H _ ws Q I rv (.inr ⟨_, rfl, h.ok q rfl⟩)
  · obtain ⟨v, rfl, hv⟩ := r.inv1
    cases hv
    rename_i x
    cases hl : decide (x.length ≤ 640) with
    | false => rw [hl] at e; cases e
    | true =>
      rw [hl] at e
      obtain ⟨i, ei, rfl⟩ := map_some e
      exact call_int_str pins sh σ H _ ws Q I rv ⟨x, i, rfl, ei, of_decide_eq_true hl, h.ok q rfl⟩
  · obtain ⟨v, rfl, hv⟩ := r.inv1
    cases hv; cases e
    exact call_bool1 pins sh σ H _ ws Q I rv (.inl ⟨_, rfl, h.ok q rfl⟩)
  · obtain ⟨v, rfl, hv⟩ := r.inv1
    cases hv; cases e
    exact call_bool1 pins sh σ H _ ws Q I rv (.inr ⟨_, rfl, h.ok q rfl⟩)
  · obtain ⟨v, rfl, hv⟩ := r.inv1
    cases hv
    obtain ⟨hl, rfl⟩ := bif_some e
    have hl' := of_decide_eq_true hl
    exact call_str_int pins sh σ H _ ws Q I rv ⟨_, rfl, by omega, h.ok q rfl⟩
  · obtain ⟨v, rfl, hv⟩ := r.inv1
    cases hv; cases e
    exact SkE.call_str_str pins sh σ H _ ws Q I rv ⟨_, rfl, h.ok q rfl⟩
  · obtain ⟨v, rfl, p, vs', rfl, hF, rl⟩ := r.inv1
    cases e
    exact call_tuple_of pins sh σ H _ ws Q I rv ⟨p, vs', rfl, .inr ⟨sqT hF, h.ok q ⟨p, vs', rfl, hF, rl⟩⟩⟩
  · obtain ⟨v, rfl, p, vs', rfl, hF, rl⟩ := r.inv1
    cases e
    refine call_tuple_of pins sh σ H _ ws Q I rv ⟨p, vs', rfl, .inl ⟨sqL hF, fun n hn => ?_⟩⟩
    have nF := q.fh.none hn
    exact h _ _ _ (Sub.new nF) (q.new hn) ⟨n, _, rfl, SqT.of upd_same, rl.mono (Sub.new nF)⟩
  · obtain ⟨v, rfl, p, vs', rfl, hF, rl⟩ := r.inv1
    cases e
    refine call_list_of pins sh σ H _ ws Q I rv ⟨p, vs', rfl, .inr (sqT hF), fun n hn => ?_⟩
    have nF := q.fh.none hn
    exact h _ _ _ (Sub.new nF) (q.new hn) ⟨n, _, rfl, upd_same, rl.mono (Sub.new nF)⟩
  · obtain ⟨v, rfl, p, vs', rfl, hF, rl⟩ := r.inv1
    cases e
    refine call_list_of pins sh σ H _ ws Q I rv ⟨p, vs', rfl, .inl (sqL hF), fun n hn => ?_⟩
    have nF := q.fh.none hn
    exact h _ _ _ (Sub.new nF) (q.new hn) ⟨n, _, rfl, upd_same, rl.mono (Sub.new nF)⟩
  · obtain ⟨v, rfl, p, vs', rfl, hF, rl⟩ := r.inv1
    obtain ⟨bs, eb, rfl⟩ := map_some e
    exact cr_all hc pins sh σ H _ ws Q I rv ⟨p, bs, rfl, by rw [← allB_v eb rl]; exact sqL hF, h.ok q rfl⟩
  · obtain ⟨v, rfl, p, vs', rfl, hF, rl⟩ := r.inv1
    obtain ⟨bs, eb, rfl⟩ := map_some e
    exact cr_any hc pins sh σ H _ ws Q I rv ⟨p, bs, rfl, by rw [← allB_v eb rl]; exact sqL hF, h.ok q rfl⟩
  · obtain ⟨v, rfl, p, vs', rfl, hF, rl⟩ := r.inv1
    obtain ⟨bs, eb, rfl⟩ := map_some e
    exact cr_sum hc pins sh σ H _ ws Q I rv ⟨p, bs, rfl, by rw [← allI_v eb rl]; exact sqL hF, h.ok q rfl⟩
  · obtain ⟨v, rfl, hv⟩ := r.inv1
    cases rv with
    | cons r1 r2 => cases r2; exact reprD_z z.hK z.hu hg I q hv r1 e h
  · cases e

theorem de_bi {bi : Bi} {x : Str} {es : List Expr} {cs : CAs} {p : Pos} (z : Sz Z us X) (hc : X.calm = true) (hx : bi.nm = x) (hg : Gl X x) (hm : X.mg x = none) (hne : es ≠ []) (ha : ArgsZ Z G W X es cs) (hs : es.any isStar = false) :
    PE X (.Call (.Name x p) es [] pos) (tD Z G W (.bi bi cs)) := by
  subst hx
  cases es with
  | nil => exact absurd rfl hne
  | cons e es =>
    rw [List.any_cons, Bool.or_eq_false_iff] at hs
    refine ⟨fun pins sh σ H Q I h => ?_⟩
    obtain ⟨F0, τ, s, q, h⟩ := h
    refine wpAny_Call_Name_kw (ld_blt I hg hm bi.boot ?_ bi.notName bi.notDebug)
    have run := (ha.pa z.hK).run pos pins sh σ H (fun vs H1 => ∃ F τ s ds d, SR Z.T Z.pn G F H1 σ τ s ∧ RepL Z.T F ds vs ∧ biD bi ds = some d ∧ Post Z G (Rep Z.T) F σ Q W (.ok d τ s)) I
      ⟨F0, τ, s, q, h.bind fun ds vs τ1 s1 F1 H1 e1 q1 r1 h1 => by obtain ⟨d, ed, h1⟩ := h1.of; exact ⟨F1, τ1, s1, ds, d, q1, r1, ed, h1⟩⟩
    obtain ⟨_, _, hgd, _⟩ := z.fz 0
    have go : ∀ ws s1, AP X pins σ (fun vs H1 => ∃ F τ s ds d, SR Z.T Z.pn G F H1 σ τ s ∧ RepL Z.T F ds vs ∧ biD bi ds = some d ∧ Post Z G (Rep Z.T) F σ Q W (.ok d τ s)) ws s1 → wpAny (model X.prog X.w) X.A (call bi.u ws) (EP X pins σ Q) X.xe s1 := by
      rintro ws s1 ⟨vs, H1, I1, rv, F, τ, s, ds, d, q, r, ed, h⟩
      exact biD_z z hc hgd I1 q r rv ed h
    have st := starEach_plain (es := es) (env := X.env) hs.1
    have an : (backTo pos (starEach es X.env)).any (·.1) = false := by rw [backTo_any]; exact hs.2
    cases bi with
    | len => exact callWith_builtin1 (thn run go) st an
    | abs => exact callWith_builtin1 (thn run go) st an
    | max => exact callWith_builtin1 (thn run go) st an
    | min => exact callWith_builtin1 (thn run go) st an
    | repr => exact callWith_builtin1 (thn run go) st an
    | all => exact callWith_builtin1 (thn run go) st an
    | any => exact callWith_builtin1 (thn run go) st an
    | sum => exact callWith_builtin1 (thn run go) st an
    | sorted => exact callWith_builtin1 (thn run go) st an
    | int => exact callWith_type1 (thn run go) st an
    | bool => exact callWith_type1 (thn run go) st an
    | str => exact callWith_type1 (thn run go) st an
    | tuple => exact callWith_type1 (thn run go) st an
    | list => exact callWith_type1 (thn run go) st an
end
end Rz
end

section
set_option autoImplicit false
set_option Elab.async false
set_option linter.all false
set_option maxHeartbeats 1000000
set_option maxRecDepth 100000
namespace Rz
open PySem PySem.Spec PyProof.Rows L2

/-! ### enumerate of a tuple -/
theorem meets_enumB {v : Value} {o : Obj} {H : Heap → Prop} (B : Begins v o H) :
    Meets (Builtin.«enumerate.__new__» ⟨[.type "enumerate", v], []⟩) (fun _ R s => H s.heap ∧
      R (.ok (.ret (.ref (s.heap.push o).objs.size))) { s with heap := (s.heap.push o).push { cls := .type "enumerate", data := .fields #[.none, .bool false, .ref s.heap.objs.size, rawInt 0, .none, .none] } }) :=
  .of_wp fun prog w A R s h => by
    obtain ⟨hp, g, d, tk, os⟩ := s; obtain ⟨h1, h⟩ := h
    have hsub := sub_enumerate
    have q1 : ∀ {A' : Around} {E : Value → Shared → Prop} {Q : Value → Shared → Prop}, Q (.ref hp.objs.size) ⟨hp.push o, g, d, tk, os⟩ → wpAny (model prog w) A' (pyIter v) Q E ⟨hp, g, d, tk, os⟩ :=
      fun q => B.iter prog w _ _ ⟨hp, g, d, tk, os⟩ _ h1 q
    wp_walk using q1
    refine wpAny_stack_any fun st => wpAny_pure ?_
    split
    · rename_i c _ _ _ _ _
      cases (c == Value.type "enumerate")
      · wp_walk using q1
        exact ⟨_, rfl, h⟩
      · wp_walk using q1
        exact ⟨_, rfl, h⟩
    · wp_walk using q1
      exact ⟨_, rfl, h⟩
section
variable {prog : Program} {w : World} {A : Around} {E : Value → Shared → Prop} {s : Shared}
theorem call_enumB {v : Value} {o : Obj} {H : Heap → Prop} {Q : Value → Shared → Prop} (B : Begins v o H) (h1 : H s.heap)
    (h : ∀ h', IsEnum h' (s.heap.objs.size + 1) s.heap.objs.size 0 .none → h'.get? s.heap.objs.size = some o → h'.objs.size = s.heap.objs.size + 2 →
      (∀ b o, s.heap.get? b = some o → h'.get? b = some o) → Q (.ref (s.heap.objs.size + 1)) { s with heap := h' }) :
    wpAny (model prog w) A (call (.type "enumerate") [v]) Q E s := by
  refine callType_new F.called_enumerate (by decide) (F.typeCall_enumerate_1 _) (F.newCall_enumerate_1 _) (fun obj => F.args_object_init_2 obj _) F.entry_enumerate_new
    (meets_enumB B) ⟨h1, ?_⟩
  have hz : (s.heap.push o).objs.size = s.heap.objs.size + 1 := Heap.size_push ..
  show _ ∧ _
  rw [hz]
  have he : IsEnum ((s.heap.push o).push { cls := .type "enumerate", data := .fields #[.none, .bool false, .ref s.heap.objs.size, rawInt 0, .none, .none] }) (s.heap.objs.size + 1) s.heap.objs.size 0 .none := by
    have := Heap.get?_push_size (s.heap.push o) (o := { cls := .type "enumerate", data := .fields #[.none, .bool false, .ref s.heap.objs.size, rawInt 0, .none, .none] }) rfl
    rw [hz] at this; exact this
  refine ⟨⟨_, he, rfl⟩, h _ he (Heap.get?_push_of_some _ (Heap.get?_push_size _ B.free)) (by rw [Heap.size_push, hz]) fun b o x => Heap.get?_push_of_some _ (Heap.get?_push_of_some _ x)⟩
end

def IteT (K : PySem.W.Frag) (a : Addr) : It :=
  ⟨fun i H => ∃ (xs : List V) (x : V), SqT K H a xs ∧ xs[i]? = some x, fun i H v H' => ∃ T x, v = .ref T ∧ H T = none ∧ H' = upd H T (.tup [.int (i : Nat), x]) ∧ ∀ xs, SqT K H a xs → xs[i]? = some x, fun i H => ∃ xs : List V, SqT K H a xs ∧ xs.length ≤ i⟩
theorem turn_enumT {P : Program} {w : World} {K : PySem.W.Frag} {elts : List Expr} {kk : Nat} {tpos : Pos} (a e it : Addr) (hea : e ≠ a) (hia : a ≠ it) :
    Turn P w K (.Tuple elts kk tpos) (IteT K a) [e, it] e (fun i h => (∃ old, IsEnum h e it ((i : Nat) : Int) old) ∧ h.IsTupleIter it a i ∧ e ≠ it) where
  mem := by simp
  obj := fun i h st b hb => by
    obtain ⟨⟨old, he⟩, ⟨o, ho, hc, hd⟩, _⟩ := st
    have e' : b = e ∨ b = it := by simpa using hb
    rcases e' with z | z
    · rw [z]; exact ⟨_, he, fun v q => nomatch q⟩
    · rw [z]; exact ⟨o, ho, fun v q => by rw [hd] at q; cases q⟩
  keep := fun i h h' st k => let ⟨⟨old, he⟩, hi, hne⟩ := st; ⟨⟨old, k e (by simp) _ he⟩, hi.at fun o q => k it (by simp) o q, hne⟩
  item := by
    intro X hP hw hK hc i pins s σ H E I hf st hg
    subst hP hw hK
    obtain ⟨⟨old, he⟩, hit, hne⟩ := st
    obtain ⟨xs, x, hq, hx⟩ := hg
    obtain ⟨its, rv, p, hz⟩ := I.tuple hq
    obtain ⟨u, hu, ru⟩ := rv.get hx
    have hel : e < s.heap.objs.size := Heap.lt_size he
    have hil : it < s.heap.objs.size := by obtain ⟨_, q, _⟩ := hit; exact Heap.lt_size q
    have hlt : i < its.toArray.size := by
      obtain ⟨z, _⟩ := List.getElem?_eq_some_iff.mp hu
      simpa using z
    have p2 : s.heap.IsTuple a its.toArray := p
    refine wpAny_pyNext_enum_itemD (Draws.tuple (prog := X.prog) (w := X.w) (A := X.A.in1) (I.ok.hd hc) it a hia its.toArray) he ⟨hit, p2⟩ hlt hne (by simp [hne, hea]) fun y h' tk hy ho st' hT hsz hk => ?_
    have ey : y = u := by
      have : its.toArray[i]? = some u := by simpa using hu
      rw [this] at hy; exact (Option.some.inj hy).symm
    subst ey
    refine ⟨_, rfl, wpAny_letOwnedTupleGo_enum (s := { s with heap := h', toks := tk + 1 }) ho fun h'' he' sb => ?_⟩
    have hT2 : h''.get? s.heap.objs.size = some { cls := .type "tuple", data := .seq #[.int i tk, y] } := (sb.2 _ (Nat.ne_of_gt hel)).trans hT
    have new : ObjOk X.prog X.w (upd H s.heap.objs.size (.tup [.int (i : Nat), x])) h'' s.heap.objs.size (.tup [.int (i : Nat), x]) :=
      ⟨by show 2 ≤ sizeLine; decide, [.int i tk, y], .cons ⟨_, rfl⟩ (.cons ru .nil), ⟨_, hT2, rfl, _, rfl⟩⟩
    have I1 : Inv X pins σ (upd H s.heap.objs.size (.tup [.int (i : Nat), x])) { s with heap := h'', toks := tk + 1 } :=
      I.turnedNew (ch := [e, it]) (fun b ob hb q => (sb.2 b (fun z => hb (by simp [z]))).trans (hk b ob (fun z => hb (by simp [z])) (fun z => hb (by simp [z])) q)) hf (Nat.le_refl _) new
    refine ⟨.ref s.heap.objs.size, _, I1, rfl, ⟨_, x, rfl, I.hok.fresh (Nat.le_refl _), rfl, fun ys hy => by rw [I.tuple_inj hy hq]; exact hx⟩, ⟨⟨y, ?_⟩, st'.1.at fun o q => (sb.2 it (Ne.symm hne)).trans q, hne⟩, fun b hb => ?_⟩
    · have e1 : ((i + 1 : Nat) : Int) = (i : Int) + 1 := by omega
      rw [e1]; exact he'
    · have hb' : b < s.heap.objs.size := by
        have e' : b = e ∨ b = it := by simpa using hb
        rcases e' with z | z
        · rw [z]; exact hel
        · rw [z]; exact hil
      rw [upd_ne (Nat.ne_of_lt hb')]
      exact (hf b hb).1
  done := by
    intro X hP hw hK hc i pins s σ H E I hf st hg
    subst hP hw hK
    obtain ⟨⟨old, he⟩, hit, hne⟩ := st
    obtain ⟨xs, hq, hx⟩ := hg
    obtain ⟨its, rv, p, hz⟩ := I.tuple hq
    obtain ⟨f0, f1, f2, f3, f4, f5⟩ := hf it (by simp)
    have hl := rv.length
    have p2 : s.heap.IsTuple a its.toArray := p
    have hT : s.TypeIs (.ref e) "enumerate" := ⟨_, he, rfl⟩
    unfold pyNext
    refine wpAny_bind (wpAny_attempt (wpAny_callSpecial?_slot (name := Str.ofString "__next__") hT F.slot_enumerate_next
      (wpAny_call_entry F.slot_enumerate_next hT F.entry_enumerate_next ?_ (F.args_enumerate_next_1 _))))
    show wpAny _ _ (field (.ref e) 2 >>= _) _ _ _
    refine wpAny_bind (wpAny_field he rfl (x := .ref it) rfl ?_)
    refine wpAny_bind (wpAny_nextOf_tuple_end (I.ok.hd hc) hit p2 (by simp; omega) fun h' x he' hx' => ?_)
    obtain ⟨o, ho, hcc⟩ := hx'
    refine wpAny_bind (wpAny_isInstance (T := "StopIteration") (b := true) ⟨o, ho, hcc⟩ isSubtype_stop ?_)
    exact wpAny_pure ⟨rfl, I.turned (t' := s.toks) (fun b o hb q => he' b o hb q) f0 f1 f3 f4 f5⟩
  self := fun A i s Q E st h => let ⟨⟨_, he⟩, _⟩ := st; wpAny_pyIter_enum he h
def iEnumA (K : PySem.W.Frag) (ta : TA) : TI := fun σ H R => ta σ H fun vs H1 => ∃ a xs, vs = [.ref a] ∧ ((SqL K H1 a xs ∧ R (Ite K a) H1) ∨ (SqT K H1 a xs ∧ R (IteT K a) H1))
theorem pi_enumA {X : Cx} {e : Expr} {ta : TA} {p pos tpos : Pos} {elts : List Expr} {kk : Nat} (hg : Gl X "enumerate") (hm : X.mg "enumerate" = none) (ha : PA X [e] ta) (hs : starEach [e] X.env = [(false, eval e X.env)]) :
    PI X (.Tuple elts kk tpos) (.Call (.Name "enumerate" p) [e] [] pos) (iEnumA X.K ta) := by
  refine ⟨fun pins s σ H R I h => ?_⟩
  refine Call_ (ld_blt I hg hm boot_enumerate (PyProof.Rows.callWith_type1 (thn (ha.run pos pins s σ H _ I h) fun us s1 ⟨vs, H1, I1, r1, q1⟩ => ?_) hs rfl))
  obtain ⟨a, xs, ex, q1⟩ := q1
  subst ex
  cases r1 with
  | cons r rr =>
    cases rr
    cases r
    have fresh : ∀ b ∈ [s1.heap.objs.size + 1, s1.heap.objs.size], FpOk X pins H1 b := fun b hb => by
      have e' : b = s1.heap.objs.size + 1 ∨ b = s1.heap.objs.size := by simpa using hb
      have hle : s1.heap.objs.size ≤ b := by
        rcases e' with z | z
        · rw [z]; exact Nat.le_add_right _ _
        · rw [z]; exact Nat.le_refl _
      exact I1.fpOk hle (I1.hok.fresh hle)
    rcases q1 with ⟨hq, q⟩ | ⟨hq, q⟩
    · obtain ⟨its, rv, p', hz⟩ := I1.list hq
      refine call_enumerate_list p'.isList fun h' he hit hsz hk => wpAny_pyIter_enum he ?_
      have I2 : Inv X pins σ H1 { s1 with heap := h' } := I1.kept (t' := s1.toks) hk
      exact ⟨s1.heap.objs.size + 1, [s1.heap.objs.size + 1, s1.heap.objs.size], _, _, H1, rfl, I2, turn_enum a (s1.heap.objs.size + 1) s1.heap.objs.size, ⟨⟨.none, he⟩, hit, Nat.succ_ne_self _⟩, fresh, q⟩
    · obtain ⟨its, rv, p', hz⟩ := I1.tuple hq
      have p2 : s1.heap.IsTuple a its.toArray := p'
      have hal : a < s1.heap.objs.size := by obtain ⟨o, ho, _⟩ := id p2; exact Heap.lt_size ho
      refine call_enumB (begins_tuple a its.toArray) p2 fun h' he hit hsz hk => wpAny_pyIter_enum he ?_
      have I2 : Inv X pins σ H1 { s1 with heap := h' } := I1.kept (t' := s1.toks) hk
      exact ⟨s1.heap.objs.size + 1, [s1.heap.objs.size + 1, s1.heap.objs.size], _, _, H1, rfl, I2, turn_enumT a (s1.heap.objs.size + 1) s1.heap.objs.size (Nat.ne_of_gt (Nat.lt_succ_of_lt hal)) (Nat.ne_of_lt hal), ⟨⟨.none, he⟩, ⟨_, hit, rfl, rfl⟩, Nat.succ_ne_self _⟩, fresh, q⟩
end Rz
end

section
set_option autoImplicit false
set_option Elab.async false
set_option linter.all false
set_option maxHeartbeats 1000000
set_option maxRecDepth 100000
/-! zip of two lists or tuples, in any mix. -/
namespace Rz
open PySem PySem.Spec PyProof.Rows L2
def SqX (K : PySem.W.Frag) (t : Bool) (H : Hp) (a : Addr) (xs : List V) : Prop := match t with
  | true => SqT K H a xs
  | false => SqL K H a xs
def IterX (t : Bool) (h : Heap) (it a : Addr) (i : Nat) : Prop := match t with
  | true => h.IsTupleIter it a i
  | false => h.IsListIter it a i
def SeqX (t : Bool) (h : Heap) (a : Addr) (its : Array Value) : Prop := match t with
  | true => h.IsTuple a its
  | false => h.IsList a its
def itO (t : Bool) (a : Addr) : Obj := match t with
  | true => { cls := .type "tuple_iterator", data := .fields #[.ref a, .int 0 0] }
  | false => { cls := .type "list_iterator", data := .fields #[.ref a, .int 0 0] }
theorem begins_x (t : Bool) (a : Addr) (its : Array Value) : Begins (.ref a) (itO t a) fun h => SeqX t h a its := by
  cases t
  · exact begins_list a its
  · exact begins_tuple a its
theorem draws_x {prog : Program} {w : World} {A : Around} (t : Bool) (hh : A.handled = none) (it a : Addr) (hne : a ≠ it) (its : Array Value) : Draws prog w A it [it, a] its.size (fun i v => its[i]? = some v) (fun i h => IterX t h it a i ∧ SeqX t h a its) := by
  cases t
  · exact Draws.list hh it a hne its
  · exact Draws.tuple hh it a hne its
theorem iter_obj {t : Bool} {h : Heap} {it a : Addr} {i : Nat} (q : IterX t h it a i) : ∃ o, h.get? it = some o ∧ ∀ v, o.data ≠ .cell v := by
  cases t <;> (obtain ⟨o, e, _, d⟩ := q; exact ⟨o, e, fun v z => by rw [d] at z; cases z⟩)
theorem iter_at {t : Bool} {h h' : Heap} {it a : Addr} {i : Nat} (q : IterX t h it a i) (k : ∀ o, h.get? it = some o → h'.get? it = some o) : IterX t h' it a i := by
  cases t
  · exact Heap.IsListIter.at q k
  · exact Heap.IsTupleIter.at q k
theorem iter_begin {t : Bool} {h : Heap} {it a : Addr} (e : h.get? it = some (itO t a)) : IterX t h it a 0 := by
  cases t
  · exact ⟨_, e, rfl, rfl⟩
  · exact ⟨_, e, rfl, rfl⟩
theorem seq_x {X : Cx} {pins : List (Addr × Obj)} {σ : L2.St} {H : Hp} {s : Shared} {t : Bool} {a : Addr} {xs : List V} (I : Inv X pins σ H s) (q : SqX X.K t H a xs) : ∃ its : List Value, Vals xs its ∧ SeqX t s.heap a its.toArray ∧ a < s.heap.objs.size := by
  cases t
  · obtain ⟨its, rv, p, _⟩ := I.list q
    exact ⟨its, rv, p.isList, p.lt⟩
  · obtain ⟨its, rv, p, _⟩ := I.tuple q
    obtain ⟨o, ho, _⟩ := id p
    exact ⟨its, rv, p, Heap.lt_size ho⟩
theorem seq_inj {X : Cx} {pins : List (Addr × Obj)} {σ : L2.St} {H : Hp} {s : Shared} {t : Bool} {a : Addr} {xs ys : List V} (I : Inv X pins σ H s) (p : SqX X.K t H a xs) (q : SqX X.K t H a ys) : xs = ys := by
  cases t
  · exact I.list_inj p q
  · exact I.tuple_inj p q
/-- the two rows as they stand at each turn, the items in new pairs -/
def Itm (K : PySem.W.Frag) (t u : Bool) (a b : Addr) : It where
  go i H := ∃ (xs ys : List V) (x y : V), SqX K t H a xs ∧ SqX K u H b ys ∧ xs[i]? = some x ∧ ys[i]? = some y
  yld i H v H' := ∃ T x y, v = .ref T ∧ H T = none ∧ H' = upd H T (.tup [x, y]) ∧ (∀ xs, SqX K t H a xs → xs[i]? = some x) ∧ ∀ ys, SqX K u H b ys → ys[i]? = some y
  stop i H := ∃ xs ys : List V, SqX K t H a xs ∧ SqX K u H b ys ∧ i ≤ xs.length ∧ i ≤ ys.length ∧ (i = xs.length ∨ i = ys.length)
theorem turn_zipM {P : Program} {w : World} {K : PySem.W.Frag} {elts : List Expr} {kk : Nat} {tpos : Pos} {t u : Bool} {a b z TI TO i1 i2 : Addr} (S : ZipSep2 z TI TO i1 i2 [i1, a] [i2, b]) (na : a ≠ i1) (nb : b ≠ i2) :
    Turn P w K (.Tuple elts kk tpos) (Itm K t u a b) [z, TI, TO, i1, i2] z (fun i h => IsZip h z TI TO .none ∧ IsTupOf2 h TI (.ref i1) (.ref i2) ∧ (∃ x y, IsTupOf2 h TO x y) ∧ IterX t h i1 a i ∧ IterX u h i2 b i) where
  mem := by simp
  obj := fun i h st c hc => by
    obtain ⟨q1, q2, ⟨x, y, q3⟩, q4, q5⟩ := st
    have e' : c = z ∨ c = TI ∨ c = TO ∨ c = i1 ∨ c = i2 := by simpa using hc
    rcases e' with q | q | q | q | q <;> rw [q]
    · exact ⟨_, q1, fun v q => nomatch q⟩
    · exact ⟨_, q2, fun v q => nomatch q⟩
    · exact ⟨_, q3, fun v q => nomatch q⟩
    · exact iter_obj q4
    · exact iter_obj q5
  keep := fun i h h' st k => by
    obtain ⟨q1, q2, ⟨x, y, q3⟩, q4, q5⟩ := st
    exact ⟨k z (by simp) _ q1, k TI (by simp) _ q2, ⟨x, y, k TO (by simp) _ q3⟩, iter_at q4 fun o q => k i1 (by simp) o q, iter_at q5 fun o q => k i2 (by simp) o q⟩
  item := by
    intro X hP hw hK hc i pins s σ H E I hf st hg
    subst hP hw hK
    obtain ⟨q1, q2, ⟨x0, y0, q3⟩, q4, q5⟩ := st
    obtain ⟨xs, ys, x, y, hqx, hqy, hx, hy⟩ := hg
    obtain ⟨its, rv, p, la⟩ := seq_x I hqx
    obtain ⟨its2, rv2, p2, lb⟩ := seq_x I hqy
    obtain ⟨v, hv, rx⟩ := rv.get hx
    obtain ⟨v2, hv2, ry⟩ := rv2.get hy
    have zl : z < s.heap.objs.size := Heap.lt_size q1
    have l1 : i < its.toArray.size := by obtain ⟨g, _⟩ := List.getElem?_eq_some_iff.mp hv; simpa using g
    have l2 : i < its2.toArray.size := by obtain ⟨g, _⟩ := List.getElem?_eq_some_iff.mp hv2; simpa using g
    have hd := I.ok.hd hc
    refine wpAny_pyNext_zipD2_item S (draws_x (prog := X.prog) (w := X.w) (A := X.A.in1) t hd i1 a na its.toArray) (draws_x (prog := X.prog) (w := X.w) (A := X.A.in1) u hd i2 b nb its2.toArray) q1 q2 q3 ⟨q4, p⟩ ⟨q5, p2⟩ l1 l2 fun x1 x2 h' tk y1 y2 b1 b2 d1 d2 b5 b6 hk => ?_
    have ex : x1 = v := by
      have : its[i]? = some x1 := by simpa using y1
      exact Option.some.inj (this.symm.trans hv)
    have ey : x2 = v2 := by
      have : its2[i]? = some x2 := by simpa using y2
      exact Option.some.inj (this.symm.trans hv2)
    subst ex ey
    refine ⟨_, rfl, wpAny_letOwnedTupleGo_zip (s := { s with heap := h', toks := tk }) b1 fun h'' z'' sb => ?_⟩
    have ne : s.heap.objs.size ≠ z := Nat.ne_of_gt zl
    have hT : h''.get? s.heap.objs.size = some { cls := .type "tuple", data := .seq #[x1, x2] } := (sb.2 _ ne).trans b5
    have new : ObjOk X.prog X.w (upd H s.heap.objs.size (.tup [x, y])) h'' s.heap.objs.size (.tup [x, y]) :=
      ⟨by show 2 ≤ sizeLine; decide, [x1, x2], .cons rx (.cons ry .nil), ⟨_, hT, rfl, _, rfl⟩⟩
    have kp : ∀ c o, c ∉ [z, TI, TO, i1, i2] → s.heap.get? c = some o → h''.get? c = some o := fun c o hb q =>
      (sb.2 c (fun e => hb (by simp [e]))).trans (hk c o (fun e => hb (by simp [e])) (fun e => hb (by simp [e])) (fun e => hb (by simp [e])) (fun e => hb (by simp [e])) q)
    have I1 : Inv X pins σ (upd H s.heap.objs.size (.tup [x, y])) { s with heap := h'', toks := tk } := I.turnedNew (t' := tk) (ch := [z, TI, TO, i1, i2]) kp hf (Nat.le_refl _) new
    refine ⟨.ref s.heap.objs.size, _, I1, rfl, ⟨_, x, y, rfl, I.hok.fresh (Nat.le_refl _), rfl, fun l hl => by rw [seq_inj I hl hqx]; exact hx, fun l hl => by rw [seq_inj I hl hqy]; exact hy⟩, ⟨z'', ?_, ⟨x1, x2, ?_⟩, ?_, ?_⟩, fun c hcm => ?_⟩
    · exact (sb.2 _ S.TIz).trans (hk _ _ S.TIz S.TITO S.TIi1 S.TIi2 q2)
    · exact (sb.2 _ S.TOz).trans b2
    · exact iter_at d1.1 fun o q => (sb.2 _ (Ne.symm S.zi1)).trans q
    · exact iter_at d2.1 fun o q => (sb.2 _ (Ne.symm S.zi2)).trans q
    · have hlt : c < s.heap.objs.size := by
        have e' : c = z ∨ c = TI ∨ c = TO ∨ c = i1 ∨ c = i2 := by simpa using hcm
        rcases e' with q | q | q | q | q <;> rw [q]
        · exact zl
        · exact Heap.lt_size q2
        · exact Heap.lt_size q3
        · obtain ⟨_, e1, _⟩ := iter_obj q4; exact Heap.lt_size e1
        · obtain ⟨_, e1, _⟩ := iter_obj q5; exact Heap.lt_size e1
      rw [upd_ne (Nat.ne_of_lt hlt)]
      exact (hf c hcm).1
  done := by
    intro X hP hw hK hc i pins s σ H E I hf st hg
    subst hP hw hK
    obtain ⟨q1, q2, ⟨x0, y0, q3⟩, q4, q5⟩ := st
    obtain ⟨xs, ys, hqx, hqy, lx, ly, hend⟩ := hg
    obtain ⟨its, rv, p, la⟩ := seq_x I hqx
    obtain ⟨its2, rv2, p2, lb⟩ := seq_x I hqy
    have e1 := rv.length
    have e2 := rv2.length
    have hd := I.ok.hd hc
    refine wpAny_pyNext_zipD2_end S (draws_x (prog := X.prog) (w := X.w) (A := X.A.in1) t hd i1 a na its.toArray) (draws_x (prog := X.prog) (w := X.w) (A := X.A.in1) u hd i2 b nb its2.toArray) q1 q2 q3 ⟨q4, p⟩ ⟨q5, p2⟩ (i := i) (by simp; omega) (by simp; omega) (by simp; omega) fun h' tk hk => ⟨rfl, ?_⟩
    exact I.turnedL (t' := tk) (ch := [z, TI, TO, i1, i2]) (fun c o hb q =>
      hk c o (fun e => hb (by simp [e])) (fun e => hb (by simp [e])) (fun e => hb (by simp [e])) (fun e => hb (by simp [e])) q) hf
  self := fun A i s Q E st h => wpAny_pyIter_zip st.1 h
def iZipM (K : PySem.W.Frag) (ta : TA) : TI := fun σ H R => ta σ H fun vs H1 => ∃ a b t u xs ys, vs = [.ref a, .ref b] ∧ SqX K t H1 a xs ∧ SqX K u H1 b ys ∧ R (Itm K t u a b) H1
theorem pi_zipM {X : Cx} {e e2 : Expr} {ta : TA} {p pos tpos : Pos} {elts : List Expr} {kk : Nat} (hg : Gl X "zip") (hm : X.mg "zip" = none) (ha : PA X [e, e2] ta)
    (hs : starEach [e, e2] X.env = (false, eval e X.env) :: starEach [e2] X.env) (hpl : (backTo pos (starEach [e2] X.env)).any (·.1) = false) : PI X (.Tuple elts kk tpos) (.Call (.Name "zip" p) [e, e2] [] pos) (iZipM X.K ta) := by
  refine ⟨fun pins s σ H R I h => ?_⟩
  refine Call_ (ld_blt I hg hm PyProof.Rows.boot_zip (PyProof.Rows.callWith_type1 (thn (ha.run pos pins s σ H _ I h) fun us s1 ⟨vs, H1, I1, r1, q1⟩ => ?_) hs hpl))
  obtain ⟨a, b, t, u, xs, ys, ex, hqx, hqy, q⟩ := q1
  subst ex
  cases r1 with
  | cons r rr =>
    cases rr with
    | cons r' rr =>
      cases rr
      cases r
      cases r'
      obtain ⟨its, rv, p1, la⟩ := seq_x I1 hqx
      obtain ⟨its2, rv2, p2, lb⟩ := seq_x I1 hqy
      generalize hN : s1.heap.objs.size = N at la lb
      refine zip_begins2 (begins_x t a its.toArray) (begins_x u b its2.toArray) p1 p2 fun h' hz hTI hTO h1 h2 hsz hk => wpAny_pyIter_zip hz ?_
      rw [hN] at hz hTI hTO h1 h2
      have I2 : Inv X pins σ H1 { s1 with heap := h' } := I1.kept (t' := s1.toks) hk
      have fresh : ∀ c, c ∈ [N + 4, N + 2, N + 3, N, N + 1] → FpOk X pins H1 c := fun c hcm => by
        have e' : c = N + 4 ∨ c = N + 2 ∨ c = N + 3 ∨ c = N ∨ c = N + 1 := by simpa using hcm
        have hle : s1.heap.objs.size ≤ c := by
          rw [hN]
          rcases e' with z | z | z | z | z <;> rw [z] <;> first | exact Nat.le_add_right _ _ | exact Nat.le_refl _
        exact I1.fpOk hle (I1.hok.fresh hle)
      have S : ZipSep2 (N + 4) (N + 2) (N + 3) N (N + 1) [N, a] [N + 1, b] := zip_sep2 (fp1 := [a]) (fp2 := [b]) (fun c hc => by rw [List.mem_singleton.mp hc]; exact la) (fun c hc => by rw [List.mem_singleton.mp hc]; exact lb)
      exact ⟨N + 4, [N + 4, N + 2, N + 3, N, N + 1], _, _, H1, by rw [hN], I2, turn_zipM S (Nat.ne_of_lt la) (Nat.ne_of_lt (Nat.lt_succ_of_lt lb)), ⟨hz, hTI, ⟨_, _, hTO⟩, iter_begin h1, iter_begin h2⟩, fresh, q⟩
theorem walk_zipM {K : PySem.W.Frag} {t u : Bool} {a b : Addr} {xs ys : List V} {n : Nat} (hn : n = min xs.length ys.length) : Walk (Itm K t u a b) n (fun H => SqX K t H a xs ∧ SqX K u H b ys) (YPair (fun i => xs[i]?) (fun i => ys[i]?)) := by
  subst hn
  refine ⟨fun i _ hi q => ?_, fun _ q => ⟨xs, ys, q.1, q.2, by omega, by omega, by omega⟩, fun i H v H' _ q y => ?_⟩
  · have h1 : i < xs.length := by omega
    have h2 : i < ys.length := by omega
    exact ⟨xs, ys, xs[i], ys[i], q.1, q.2, by simp [h1], by simp [h2]⟩
  · obtain ⟨T, x, z, h1, h2, h3, h4, h5⟩ := y
    exact ⟨T, x, z, h1, h2, h3, h4 xs q.1, h5 ys q.2⟩
end Rz
end

section
set_option autoImplicit false
set_option Elab.async false
set_option linter.all false
set_option maxHeartbeats 1000000
set_option maxRecDepth 100000
namespace Rz
open PySem PySem.Spec PySem.W PyProof.Rows L2

section
variable {S : Type} [Pen S] {Z : Cz S} {us : List Str} {G : Fm} {F H : Hp} {σ : L2.St} {τ : List Slot} {s : S} {W : WX} {X : Cx} {pins : List (Addr × Obj)} {sh : Shared}
variable {a b c e : Expr} {ca cb cc ce : CE} {pos : Pos}
theorem Room.in2 {k : Nat} {A : Around} (r : Room (k + 1) A) : Room k A.in1.in1 := ⟨r.hd, by have := r.dp; show A.depth + 3 * k + 5 < _; omega, by have := r.un; show A.units + 1 + 1 + 16 * k + 200 < _; omega⟩
theorem env0_in {P : Program} {w : World} {K : Frag} {mg : Str → Option Value} {base : Heap} {A A' : Around} {outer : List Env} {s : Shared} {H : Hp} (e : Env0 P w K mg base A outer s H) (h : A'.frames = A.frames) : Env0 P w K mg base A' outer s H :=
  ⟨h.trans e.frames, e.mod, e.bs, e.bsz, e.funs, e.frf, e.hok, e.bare⟩
/-- a def of the table run a little deeper -/
theorem run_zA {A' : Around} {f : Nat} {Q : VK} {ws : List Value} {vs : List V} (F : FnZ Z X f) (hA : ∀ k, Room (k + 1) X.A → Room k A') (hg : A'.guards = X.A.guards) (hf : A'.frames = X.A.frames) (tk : Takes X W) (I : Inv X pins σ H sh) (r : Vals vs ws) (h : spF Z f vs H Q (fun c d H' => W c d σ H')) :
    codeAny (model X.prog X.w) A' (.call (.ref (Z.T.fA f)) ⟨ws, []⟩) (fun r s' => match r with | .ok (.ret v) => EP X pins σ Q v s' | .ok _ => False | .error e => X.xe e s') sh := by
  obtain ⟨k, hr, hg0, F⟩ := F
  refine codeAny_mono (F A' X.stack sh H ws vs Q _ (hA k hr) (hg.trans hg0) (env0_in I.env0 hf) r h _ ArgAs.rfl) fun r s' hq => ?_
  cases r with
  | error e => exact tk e s' (XE.of_call I (fun cls d H' z => z) hq)
  | ok fl =>
    cases fl with
    | ret u => exact I.after hq
    | next => exact False.elim hq
    | brk => exact False.elim hq
    | cont => exact False.elim hq

/-! ### an instance called -/
theorem de_callO {fe : Expr} {co : CE} {es : List Expr} {cs : CAs} (z : Sz Z us X) (hfi : ∀ c f, Z.P.meth c mCall = some f → fnIn Z.T.K (Z.T.fA f) = true) (tk : Takes X W) (hf : PE X fe (tD Z G W co)) (hne : es ≠ []) (ha : ArgsZ Z G W X es cs) (hs : es.any isStar = false)
    (ht : eval (.Call fe es [] pos) X.env = (do callWith pos (← eval fe X.env) [] (backTo pos (starEach es X.env)) (backToKw pos (keywordEach [] X.env)))) : PE X (.Call fe es [] pos) (tD Z G W (.callO co cs)) := by
  cases es with
  | nil => exact absurd rfl hne
  | cons e es =>
    rw [List.any_cons, Bool.or_eq_false_iff] at hs
    refine ⟨fun pins sh σ H Q I h => ?_⟩
    obtain ⟨F0, τ, s, q, h⟩ := h
    simp only [ev] at h
    refine Call_ (thn (hf.run pins sh σ H (fun v H1 => ∃ F τ s c ds f, SR Z.T Z.pn G F H1 σ τ s ∧ Rep Z.T F (.ins c ds) v ∧ Z.P.meth c mCall = some f ∧ Post Z G (Rep Z.T) F σ Q W ((evA Z.P Z.call Z.make cs τ s).bind fun xs τ s => (Z.call f (.ins c ds :: xs) s).out τ)) I
      ⟨F0, τ, s, q, h.bind fun x v τ1 s1 F1 H1 e1 q1 r1 h1 => ?_⟩) fun u s1 ⟨v, H1, I1, rx, F1, τ1, s1', c, ds, f, q1, r1, ef, h1⟩ => ?_) ht
    · cases x with
      | ins c ds =>
        simp only at h1
        cases ef : Z.P.meth c mCall with
        | none => rw [ef] at h1; exact h1.elim
        | some f => rw [ef] at h1; exact ⟨F1, τ1, s1, c, ds, f, q1, r1, ef, h1⟩
      | _ => exact h1.elim
    · obtain ⟨p, dx, vs0, rfl, hF, hl, rl⟩ := r1
      obtain rfl : u = Value.ref p := rx
      have run := (ha.pa z.hK).run pos pins s1 σ H1 (fun vs H2 => ∃ F2, F2 p = some (.ins (Z.T.cA c) dx ((Z.T.fld c).zip vs0)) ∧ Sub F2 H2 ∧ spF Z f (.ref p :: vs) H2 Q (fun c d H' => W c d σ H')) I1
        ⟨F1, τ1, s1', q1, h1.bind fun xs vs τ2 s2 F2 H2 e2 q2 r2 h2 => ⟨F2, e2 _ _ hF, q2.fh, spF_of q2 (RepL.cons (d := .ins c ds) ⟨p, dx, vs0, rfl, e2 _ _ hF, hl, rl.mono e2⟩ r2) h2⟩⟩
      refine StX.callO_with (thn run fun ws s2 ⟨vs, H2, I2, rv, F2, hF2, fh, hq⟩ => ?_) (starEach_plain hs.1) (by rw [backTo_any]; exact hs.2)
      obtain ⟨ox, od, J, hd⟩ := StX.insC_at (C := Z.T.cA c) I2 (.inr ⟨dx, _, fh _ _ hF2⟩)
      refine ⟨⟨_, ox, od, J, hd⟩, ?_⟩
      obtain ⟨ck, mt, _⟩ := z.meth c mCall f ef
      rw [← z.hK] at mt
      have hfi' := hfi c f ef
      rw [← z.hK] at hfi'
      exact wpAny_call (kco_code I2.kIn J hd mt.at_ mt.fn hfi' (run_z (us := .ref p :: ws) (vs := .ref p :: vs) (z.fz f) tk I2 (.cons rfl rv) hq))

/-! ### bool(x), str(x) -/
theorem call_bool_truthy {prog : Program} {w : World} {A : Around} {E : Value → Shared → Prop} {s : Shared} {v : Value} {Q : Value → Shared → Prop} (h : wpAny (model prog w) A.in1.in1 (truthy v) (fun b s1 => Q (.bool b) s1) E s) : wpAny (model prog w) A (call (.type "bool") [v]) Q E s := by
  refine callType_codes (T := "bool") (Bi := Builtin.«object.__init__») (Q₁ := fun r s₁ => ∃ b, r = .bool b ∧ Q r s₁) PySem.F.called_bool (PySem.F.typeCall_bool_1 _) PySem.F.entry_object_init ?_ ?_
  · refine codeAny_of_tree ?_
    show wpAny _ A.in1.in1 (do checkBuiltinCall "bool.__new__" ⟨[.type "bool", v], []⟩; again (.builtin "bool.__new__" ⟨[.type "bool", v], []⟩)) _ _ s
    refine wpAny_bind (wpAny_of_eq (PySem.F.newCall_bool_1 _) (wpAny_pure ⟨plainId_quiet (by decide +kernel) _, codeAny_builtin PySem.F.entry_bool_new ?_⟩))
    rw [Around.under_plainId (by decide +kernel) _]
    obtain ⟨hp, g, d, tk, os⟩ := s
    have f1 := PySem.F.conv_sub_bool
    repeat (any_goals (first | assumption | (with_reducible refine wpAny_mono h ?_ ?_) | wp_step))
    · exact fun a s q => wpAny_pure ⟨a, rfl, q⟩
    · exact fun e s z => z
  · rintro obj s₁ ⟨b, rfl, hq⟩
    exact ⟨rfl, PySem.F.args_object_init_2 _ _, object_init_meets PySem.F.called_bool.init.lookup PySem.F.called_bool.made (by decide) prog w A.in1 _ s₁ ⟨rfl, rfl, hq⟩⟩
theorem inv_at {A' : Around} (I : Inv X pins σ H sh) (hh : A'.handled = X.A.handled) (hf : A'.frames = X.A.frames) : Inv { X with A := A' } pins σ H sh := by
  obtain ⟨ok, os, bare, base, loc, cell, free, freeC, pin, hok, len⟩ := I
  obtain ⟨o1, o2, o3, o4, o5, o6, o7, o8, o9, o10, o11, o12, o13, o14, o15, o16, o17, o18⟩ := ok
  exact ⟨⟨o1, o2, o3, o4, o5, o6, o7, o8, fun e => hh.trans (o9 e), hf.trans o10, o11, o12, o13, o14, o15, o16, o17, o18⟩, os, bare, base, loc, cell, free, freeC, pin, hok, len⟩
theorem truV_zA {A' : Around} {x : D} {v : V} {u : Value} {Q : Bool → Hp → Prop} (z : Sz Z us X) (hA : ∀ k, Room (k + 1) X.A → Room k A') (hg : A'.guards = X.A.guards) (hh : A'.handled = X.A.handled) (hf : A'.frames = X.A.frames) (tk : Takes X W) (I : Inv X pins σ H sh) (rx : RelV v u) (q : SR Z.T Z.pn G F H σ τ s) (r1 : Rep Z.T F x v)
    (h : Post Z G EqR F σ Q W (truV Z.P Z.call x τ s)) : wpAny (model X.prog X.w) A' (truthy u) (TP X pins σ Q) X.xe sh := by
  have I' := inv_at I hh hf
  have hK := z.hK
  have back : ∀ {b : Bool} {s' : Shared}, TP { X with A := A' } pins σ Q b s' → TP X pins σ Q b s' := fun {b s'} ⟨H', J, q⟩ => ⟨H', inv_at (X := { X with A := A' }) (A' := X.A) J hh.symm hf.symm, q⟩
  have tru : ∀ {k : Bool}, TruV X.K v H k → Q k H → wpAny (model X.prog X.w) A' (truthy u) (TP X pins σ Q) X.xe sh := fun {k} t qk => wpAny_mono (tru_ok (X := { X with A := A' }) pins sh σ H v u Q I' rx ⟨k, t, qk⟩) (fun b s' w => back w) fun _ _ w => w
  cases x with
  | non => cases r1; exact tru (k := false) rfl (h.ok q rfl)
  | bl b => cases r1; exact tru (k := b) rfl (h.ok q rfl)
  | int i => cases r1; exact tru rfl (h.ok q rfl)
  | str z =>
    cases r1
    obtain ⟨hl, h⟩ := h.bif
    exact tru ⟨lim_size hl, rfl⟩ (h.ok q rfl)
  | tup ds =>
    obtain ⟨a, vs, rfl, hs, rl⟩ := r1
    have e : ds.isEmpty = vs.isEmpty := by have := rl.length; cases ds <;> cases vs <;> simp at this ⊢
    refine tru (.inr (.inl ⟨vs, by rw [hK]; exact q.fh.sqT hs, rfl⟩)) ?_
    rw [← e]; exact h.ok q rfl
  | lst ds =>
    obtain ⟨a, vs, rfl, hs, rl⟩ := r1
    have e : ds.isEmpty = vs.isEmpty := by have := rl.length; cases ds <;> cases vs <;> simp at this ⊢
    refine tru (.inl ⟨vs, SqL.of (q.fh _ _ hs), rfl⟩) ?_
    rw [← e]; exact h.ok q rfl
  | ins c ds =>
    simp only [truV] at h
    cases em : Z.P.meth c mBool with
    | none => rw [em] at h; exact h.elim
    | some f =>
      simp only [em] at h
      obtain ⟨ck, mt, _⟩ := z.bools c f em
      rw [← hK] at mt
      obtain ⟨a, ox, od, dx, rfl, rfl, J, _⟩ := inst_z I q r1 rx
      obtain ⟨m, fr⟩ := I.fr
      refine truthy_K fr I.mod.kin J mt.at_ mt.fn ?_
      refine thn (wpAny_call (run_zA (z.fz f) hA hg hf tk I (.cons (show RelV (.ref a) (.ref a) from rfl) .nil) (Q := fun v H' => ∃ b, v = .bl b ∧ Q b H') ⟨F, [.ins c ds], s, q.fh, q.pen, q.penF, q.pinv, RepL.one r1, q.tb, ?_⟩)) fun r s' ⟨v, H', I', rv, b, eb, hq⟩ => ?_
      · cases ec : Z.call f [.ins c ds] s with
        | ok d s' =>
          rw [ec] at h
          intro v H' F' k r
          cases d with
          | bl b => cases r; exact ⟨b, rfl, h b H' F' k.ff (q.call k) rfl⟩
          | _ => exact h.elim
        | exc c' fs s' =>
          rw [ec] at h
          exact fun H' F' od k r => h H' F' od k.ff (q.call k) r
        | no => rw [ec] at h; exact h.elim
      · subst eb
        cases rv
        exact ⟨H', I', hq⟩
  | _ => exact h.elim
theorem Post.toBool {x : Out S Bool} {Q : VK} (h : Post Z G (Rep Z.T) F σ Q W (x.bind fun t τ s => .ok (.bl t) τ s)) : Post Z G EqR F σ (fun b H => Q (.bl b) H) W x := h.bind fun t b τ1 s1 F1 H1 e1 q1 r1 h1 => by
  cases r1
  exact h1.ok q1 rfl
/-- bool(x) -/
theorem bool_z {x : D} {v : V} {u : Value} {Q : VK} (z : Sz Z us X) (tk : Takes X W) (I : Inv X pins σ H sh) (rx : RelV v u) (q : SR Z.T Z.pn G F H σ τ s) (r1 : Rep Z.T F x v) (h : Post Z G (Rep Z.T) F σ Q W (bxV Z.P Z.call .bool x τ s)) :
    wpAny (model X.prog X.w) X.A (call (.type "bool") [u]) (EP X pins σ Q) X.xe sh := by
  refine call_bool_truthy (wpAny_mono (truV_zA z (fun k r => Room.in2 r) rfl rfl rfl tk I rx q r1 (Post.toBool h)) (fun b s' ⟨H', J, hq⟩ => ⟨.bl b, H', J, rfl, hq⟩) fun _ _ w => w)
/-- str(x) -/
theorem str_z {x : D} {v : V} {u : Value} {Q : VK} (z : Sz Z us X) (hc : X.calm = true) (tk : Takes X W) (I : Inv X pins σ H sh) (rx : RelV v u) (q : SR Z.T Z.pn G F H σ τ s) (r1 : Rep Z.T F x v) (h : Post Z G (Rep Z.T) F σ Q W (bxV Z.P Z.call .str x τ s)) :
    wpAny (model X.prog X.w) X.A (call (.type "str") [u]) (EP X pins σ Q) X.xe sh := by
  obtain ⟨_, hr, hgd, _⟩ := z.fz 0
  cases x with
  | ins c ds =>
    simp only [bxV, callM] at h
    cases em : Z.P.meth c mStr with
    | none => rw [em] at h; exact h.elim
    | some f =>
      simp only [em] at h
      obtain ⟨ck, mt, _⟩ := z.meth c mStr f em
      rw [← z.hK] at mt
      obtain ⟨a, ox, od, dx, rfl, rfl, J, _⟩ := inst_z I q r1 rx
      refine kso_call (by have := hr.un; show X.A.units + 1 + 1 < _; omega) I.kIn J mt.at_ mt.fn ?_
      refine thn (wpAny_call (run_zA (z.fz f) (fun k r => Room.in2 r) rfl rfl tk I (.cons (show RelV (.ref a) (.ref a) from rfl) .nil) (Q := fun v H' => ∃ b, v = .str b ∧ Q (.str b) H') ⟨F, [.ins c ds], s, q.fh, q.pen, q.penF, q.pinv, RepL.one r1, q.tb, ?_⟩)) fun r s' ⟨v, H', I', rv, b, eb, hq⟩ => ?_
      · cases ec : Z.call f [.ins c ds] s with
        | ok d s' =>
          rw [ec] at h
          intro v H' F' k r
          cases d with
          | str b => cases r; exact ⟨b, rfl, h (.str b) H' F' k.ff (q.call k) rfl⟩
          | _ => exact h.elim
        | exc c' fs s' =>
          rw [ec] at h
          exact fun H' F' od k r => h H' F' od k.ff (q.call k) r
        | no => rw [ec] at h; exact h.elim
      · subst eb
        obtain ⟨t, rfl⟩ := rv
        exact ⟨.str b, H', I', ⟨t, rfl⟩, hq⟩
  | _ =>
    simp only [bxV] at h
    obtain ⟨d, ed, h⟩ := h.of
    exact biD_z (b := .str) z hc hgd I q (RepL.one r1) (.cons rx .nil) ed h

theorem de_bx {bi : Bi} {x : Str} {p : Pos} (z : Sz Z us X) (hc : X.calm = true) (tk : Takes X W) (hx : bi.nm = x) (hb : bi = .bool ∨ bi = .str) (hg : Gl X x) (hm : X.mg x = none) (he : PE X e (tD Z G W ce)) (hs : isStar e = false) : PE X (.Call (.Name x p) [e] [] pos) (tD Z G W (.bx bi ce)) := by
  subst hx
  refine ⟨fun pins sh σ H Q I h => ?_⟩
  obtain ⟨F0, τ, s, q, h⟩ := h
  simp only [ev] at h
  refine wpAny_Call_Name_kw (ld_blt I hg hm bi.boot ?_ bi.notName bi.notDebug)
  have run := (da_cons he da_nil (starEach_plain hs)).run pos pins sh σ H (fun vs H1 => ∃ F τ s x v, SR Z.T Z.pn G F H1 σ τ s ∧ vs = [v] ∧ Rep Z.T F x v ∧ Post Z G (Rep Z.T) F σ Q W (bxV Z.P Z.call bi x τ s)) I
    ⟨F0, τ, s, q, by
      simp only [evA]
      cases hx : ev Z.P Z.call Z.make ce τ s with
      | no => rw [hx] at h; exact h.elim
      | exc k fs τ1 s1 => rw [hx] at h; exact h
      | ok x τ1 s1 =>
        rw [hx] at h
        intro vs H1 F1 e1 q1 r1
        have h1 := Post.mono e1 h
        obtain ⟨v, r, rfl, rx, rr⟩ := r1
        cases rr
        exact ⟨F1, τ1, s1, x, v, q1, rfl, rx, h1⟩⟩
  rcases hb with rfl | rfl
  · refine callWith_type1 (thn run ?_) (starEach_plain hs) rfl
    rintro ws s1 ⟨vs, H1, I1, rv, F, τ, s, x, v, q, rfl, r, h⟩
    cases rv with
    | cons r1 r2 => cases r2; exact bool_z z tk I1 r1 q r h
  · refine callWith_type1 (thn run ?_) (starEach_plain hs) rfl
    rintro ws s1 ⟨vs, H1, I1, rv, F, τ, s, x, v, q, rfl, r, h⟩
    cases rv with
    | cons r1 r2 => cases r2; exact str_z z hc tk I1 r1 q r h
theorem allS_v {T : Tb} {F : Hp} : ∀ {ds : List D} {ss : List Str} {vs : List V}, allS ds = some ss → RepL T F ds vs → vs = ss.map V.str
  | [], ss, vs, e, r => by cases e; exact r
  | d :: ds, ss, vs, e, r => by
    obtain ⟨v, w, rfl, r1, r2⟩ := r
    cases d <;> simp only [allS] at e <;> first | (cases e; done) | skip
    obtain ⟨ts, et, rfl⟩ := map_some e
    cases r1
    rw [List.map_cons, allS_v et r2]
theorem strs_rep {T : Tb} {F : Hp} : ∀ {ss : List Str}, RepL T F (ss.map D.str) (ss.map V.str)
  | [] => rfl
  | s :: ss => ⟨.str s, _, rfl, rfl, strs_rep⟩
/-- sep.join(list) -/
theorem de_join {ap : Pos} (hK : X.K = Z.T.K) (ha : PE X a (tD Z G W ca)) (hb : PE X b (tD Z G W cb)) (hs : isStar b = false) (hbase : baseOk a = true) (hline : (ap.endLine == pos.line) = true) : PE X (.Call (.Attribute a "join" ap) [b] [] pos) (tD Z G W (.join ca cb)) :=
  (pe_join ha hb (starEach_plain hs) (base_of hbase) hline).imp fun σ H Q => by
    rintro ⟨F, τ, s, q, h⟩
    simp only [ev] at h
    refine ⟨F, τ, s, q, h.bind fun x v τ1 s1 F1 H1 e1 q1 r1 h1 => ?_⟩
    cases x with
    | str sep =>
      cases r1
      refine ⟨⟨sep, rfl⟩, F1, τ1, s1, q1, h1.bind fun y w τ2 s2 F2 H2 e2 q2 r2 h2 => ?_⟩
      obtain ⟨d, ed, h2⟩ := h2.of
      cases y with
      | lst ds =>
        simp only [joinD] at ed
        cases es : allS ds with
        | none => rw [es] at ed; cases ed
        | some ss =>
          rw [es] at ed
          obtain ⟨hl, rfl⟩ := bif_some ed
          obtain ⟨p, vs, rfl, hF, rl⟩ := r2
          have ev := allS_v es rl
          subst ev
          exact ⟨sep, p, ss, rfl, rfl, .inl (SqL.of (q2.fh _ _ hF)), by have := lim_of hl; omega, h2.ok q2 rfl⟩
      | _ => cases ed
    | _ => exact h1.elim
/-- text.split(sep) -/
theorem de_split {ap : Pos} (ha : PE X a (tD Z G W ca)) (hb : PE X b (tD Z G W cb)) (hs : isStar b = false) (hbase : baseOk a = true) (hline : (ap.endLine == pos.line) = true) : PE X (.Call (.Attribute a "split" ap) [b] [] pos) (tD Z G W (.split ca cb)) :=
  (pe_split ha hb (starEach_plain hs) (base_of hbase) hline).imp fun σ H Q => by
    rintro ⟨F, τ, s, q, h⟩
    simp only [ev] at h
    refine ⟨F, τ, s, q, h.bind fun x v τ1 s1 F1 H1 e1 q1 r1 h1 => ?_⟩
    cases x with
    | str t =>
      cases r1
      refine ⟨⟨t, rfl⟩, F1, τ1, s1, q1, h1.bind fun y w τ2 s2 F2 H2 e2 q2 r2 h2 => ?_⟩
      obtain ⟨d, ed, h2⟩ := h2.of
      cases y with
      | str sep =>
        cases r2
        simp only [splitD] at ed
        obtain ⟨hl, rfl⟩ := bif_some ed
        rw [Bool.and_eq_true, Bool.not_eq_true'] at hl
        refine ⟨t, sep, rfl, rfl, hl.2, lim_size hl.1, fun p hp => ?_⟩
        have hF := q2.fh.none hp
        exact h2 _ _ (upd F2 p _) (Sub.new hF) (q2.new hp) ⟨p, _, rfl, upd_same, strs_rep⟩
      | _ => cases ed
    | _ => exact h1.elim
end
end Rz
end

section
set_option autoImplicit false
set_option Elab.async false
set_option linter.all false
set_option maxHeartbeats 1000000
set_option maxRecDepth 100000
namespace Rz
open PySem PySem.Spec PySem.W PyProof.Rows L2

/-- plain parameters -/
structure PlainFd (fd : FuncData) (ps : List Str) : Prop where
  h1 : fd.params.posonlyargs = []
  h2 : fd.params.kwonlyargs = []
  h3 : fd.params.vararg = none
  h4 : fd.params.kwarg = none
  h5 : fd.defaults = .none
  nm : fd.params.args.map (·.arg) = ps
  nd : ps.Nodup
theorem lookup_zip_some {ps : List Str} {us : List Value} {n : Str} (hl : us.length = ps.length) (h : n ∈ ps) : ∃ v, (ps.zip us).lookup n = some v := by
  induction ps generalizing us with
  | nil => cases h
  | cons a ps ih =>
    cases us with
    | nil => cases hl
    | cons u us =>
      rw [List.zip_cons_cons, List.lookup_cons]
      cases e : n == a with
      | true => exact ⟨u, rfl⟩
      | false =>
        rcases List.mem_cons.mp h with z | z
        · rw [z] at e; simp at e
        · exact ih (by simpa using hl) z
theorem filterMap_zip {ps : List Str} {us : List Value} (nd : ps.Nodup) (hl : us.length = ps.length) : (ps.filterMap fun n => ((ps.zip us).lookup n).map (n, ·)) = ps.zip us := by
  have go : ∀ (qs : List Str) (ws : List Value) (f : Str → Option Value), qs.Nodup → ws.length = qs.length → (∀ n v, (n, v) ∈ qs.zip ws → f n = some v) → (qs.filterMap fun n => (f n).map (n, ·)) = qs.zip ws := by
    intro qs
    induction qs with
    | nil => intro ws f _ _ _; rfl
    | cons a qs ih =>
      intro ws f nd hl h
      cases ws with
      | nil => cases hl
      | cons w ws =>
        rw [List.zip_cons_cons, List.filterMap_cons, h a w (by simp)]
        show (a, w) :: _ = _
        rw [ih ws f (List.nodup_cons.mp nd).2 (by simpa using hl) fun n v m => h n v (by rw [List.zip_cons_cons]; exact List.mem_cons_of_mem _ m)]
  refine go ps us _ nd hl fun n v m => ?_
  clear go
  induction ps generalizing us with
  | nil => cases m
  | cons a ps ih =>
    cases us with
    | nil => cases hl
    | cons u us =>
      rw [List.zip_cons_cons] at m ⊢
      rw [List.lookup_cons]
      rcases List.mem_cons.mp m with z | z
      · cases z; simp
      · have hn : n ∈ ps := (List.of_mem_zip z).1
        have ne : (n == a) = false := by
          rw [beq_eq_false_iff_ne]
          rintro rfl
          exact (List.nodup_cons.mp nd).1 hn
        rw [ne]
        exact ih (List.nodup_cons.mp nd).2 (by simpa using hl) z
theorem missing_none {ps : List Str} {us : List Value} (hl : us.length = ps.length) (k : Nat) : ((ps.take k).filter fun n => ((ps.zip us).lookup n).isNone) = [] := by
  rw [List.filter_eq_nil_iff]
  intro n hn
  obtain ⟨v, e⟩ := lookup_zip_some hl (List.mem_of_mem_take hn)
  rw [e]; simp
/-- plain parameters, all given -/
theorem bind_plain {fd : FuncData} {us : List Value} (h1 : fd.params.posonlyargs = []) (h2 : fd.params.kwonlyargs = []) (h3 : fd.params.vararg = none) (h4 : fd.params.kwarg = none) (h5 : fd.defaults = .none) (nd : (fd.params.args.map (·.arg)).Nodup) (hl : us.length = (fd.params.args.map (·.arg)).length) :
    bindArgs fd ⟨us, []⟩ = pure ((fd.params.args.map (·.arg)).zip us) := by
  have hs : seqItems? Value.none = pure none := rfl
  unfold bindArgs
  simp only [h1, h2, h3, h4, h5, hs, List.map_nil, List.nil_append, List.append_nil, List.forIn_nil, pure_bind, Option.getD_none]
  generalize fd.params.args.map (·.arg) = ps at *
  rw [if_neg (by simp; omega)]
  simp only [List.drop_nil, List.length_nil, Nat.sub_zero, missing_none hl, List.isEmpty_nil, Bool.not_true, Bool.false_eq_true, if_false, List.zip_nil_right, List.forIn_nil, pure_bind, filterMap_zip nd hl]
theorem lookup_zip_none {ps : List Str} {us : List Value} {n : Str} (h : n ∉ ps) : (ps.zip us).lookup n = none := by
  induction ps generalizing us with
  | nil => rfl
  | cons a ps ih =>
    cases us with
    | nil => rfl
    | cons u us =>
      rw [List.zip_cons_cons, List.lookup_cons]
      have : (n == a) = false := by
        rw [beq_eq_false_iff_ne]; rintro rfl; exact h List.mem_cons_self
      rw [this]
      exact ih fun z => h (List.mem_cons_of_mem _ z)
/-- plain parameters, defaults or not -/
structure PlainK (fd : FuncData) (ps : List Str) : Prop where
  h1 : fd.params.posonlyargs = []
  h2 : fd.params.kwonlyargs = []
  h3 : fd.params.vararg = none
  h4 : fd.params.kwarg = none
  nm : fd.params.args.map (·.arg) = ps
  nd : ps.Nodup
theorem forIn_same {β α : Type} {f : α → β → Sem (ForInStep β)} {b : β} : ∀ {l : List α}, (∀ x, x ∈ l → f x b = pure (.yield b)) → forIn l b f = pure b
  | [], _ => rfl
  | x :: l, h => by
    rw [List.forIn_cons, h x List.mem_cons_self, pure_bind]
    exact forIn_same fun y hy => h y (List.mem_cons_of_mem _ hy)
theorem forIn_acc {β α : Type} {f : α → β → Sem (ForInStep β)} (g : List α → β) : ∀ (l pre : List α), (∀ a x b, l = a ++ x :: b → f x (g (pre ++ a)) = pure (.yield (g (pre ++ a ++ [x])))) → forIn l (g pre) f = pure (g (pre ++ l))
  | [], pre, _ => by rw [List.append_nil]; rfl
  | x :: l, pre, h => by
    have h0 := h [] x l rfl
    rw [List.append_nil] at h0
    rw [List.forIn_cons, h0, pure_bind]
    have := forIn_acc g l (pre ++ [x]) fun a y b e => by
      have := h (x :: a) y b (by rw [e]; rfl)
      simpa using this
    simpa using this
theorem forIn_acc0 {β α : Type} {f : α → β → Sem (ForInStep β)} {b0 : β} (g : List α → β) {l : List α} (h0 : b0 = g []) (h : ∀ a x b, l = a ++ x :: b → f x (g a) = pure (.yield (g (a ++ [x])))) : forIn l b0 f = pure (g l) := by
  rw [h0]
  exact forIn_acc g l [] fun a x b e => h a x b e
theorem bind_left {α β : Type} {x y : Sem α} {k : α → Sem β} (h : x = y) : (x >>= k) = (y >>= k) := by rw [h]
theorem bind_right {α β : Type} {x : Sem α} {k l : α → Sem β} (h : ∀ a, k a = l a) : (x >>= k) = (x >>= l) := by rw [funext h]
theorem lookup_map_none {l : List (Str × Value)} {n : Str} (h : n ∉ l.map (·.1)) : l.lookup n = none := by
  induction l with
  | nil => rfl
  | cons a l ih =>
    rw [List.map_cons, List.mem_cons, not_or] at h
    rw [List.lookup_cons]
    have : (n == a.1) = false := by rw [beq_eq_false_iff_ne]; exact h.1
    rw [this]
    exact ih h.2
theorem all_nil {ps : List Str} {l : List (Str × Value)} (h : ∀ n, n ∈ ps → (l.lookup n).isSome = true) (k : Nat) : ((ps.take k).filter fun n => (l.lookup n).isNone) = [] := by
  rw [List.filter_eq_nil_iff]
  intro n hn
  obtain ⟨v, e⟩ := Option.isSome_iff_exists.mp (h n (List.mem_of_mem_take hn))
  rw [e]; simp
/-- all given, some by names -/
theorem bind_kwG {fd : FuncData} {us : List Value} {kws : List (Str × Value)} {ps : List Str} (P : PlainK fd ps) (hl : us.length ≤ ps.length) (hk : ∀ n, n ∈ kws.map (·.1) → n ∈ ps.drop us.length) (hn : (kws.map (·.1)).Nodup) (ha : ∀ n, n ∈ ps.drop us.length → (kws.lookup n).isSome = true) :
    bindArgs fd ⟨us, kws⟩ = (seqItems? fd.defaults >>= fun _ => pure (ps.filterMap fun n => ((ps.zip us ++ kws).lookup n).map (n, ·))) := by
  obtain ⟨h1, h2, h3, h4, nm, nd⟩ := P
  have hall : ∀ n, n ∈ ps → ((ps.zip us ++ kws).lookup n).isSome = true := fun n hp => by
    rw [List.lookup_append]
    rw [← List.take_append_drop us.length ps] at hp
    rcases List.mem_append.mp hp with z | z
    · have e : ps.zip us = (ps.take us.length).zip us := by
        conv => lhs; rw [← List.take_append_drop us.length ps, ← List.append_nil us]
        rw [List.zip_append (by simp [hl])]; simp
      obtain ⟨v, ev⟩ := lookup_zip_some (us := us) (by simp [hl]) z
      rw [e, ev]; rfl
    · have := ha n z
      cases (ps.zip us).lookup n with
      | none => simpa using this
      | some v => rfl
  unfold bindArgs
  simp only [h1, h2, h3, h4, nm, List.map_nil, List.nil_append, List.append_nil, List.forIn_nil, pure_bind]
  refine (bind_left (y := pure (ps.zip us ++ kws, ([] : List (Str × Value)))) (forIn_acc0 (fun l => (ps.zip us ++ l, ([] : List (Str × Value)))) (by simp) fun a x b e => ?_)).trans ?_
  · have hx : x.1 ∈ ps.drop us.length := hk _ (by rw [e]; simp)
    have hp : x.1 ∈ ps := List.mem_of_mem_drop hx
    rw [if_pos (by simp [hp])]
    have hna : (ps.zip us ++ a).lookup x.1 = none := by
      rw [List.lookup_append]
      have z1 : (ps.zip us).lookup x.1 = none := by
        have ez : ps.zip us = (ps.take us.length).zip us := by
          conv => lhs; rw [← List.take_append_drop us.length ps, ← List.append_nil us]
          rw [List.zip_append (by simp [hl])]; simp
        rw [ez]
        refine lookup_zip_none fun z => ?_
        rw [← List.take_append_drop us.length ps, List.nodup_append] at nd
        exact nd.2.2 _ z _ hx rfl
      have z2 : a.lookup x.1 = none := by
        rw [e, List.map_append, List.nodup_append] at hn
        refine lookup_map_none fun z => ?_
        exact hn.2.2 _ z _ (by simp) rfl
      rw [z1, z2]; rfl
    rw [if_neg (by rw [hna]; simp), List.append_assoc]
  · simp only [pure_bind]
    refine bind_right fun d => ?_
    rw [if_neg (by simp; omega)]
    simp only [all_nil hall, List.isEmpty_nil, Bool.not_true, Bool.false_eq_true, if_false]
    refine (bind_left (y := pure (ps.zip us ++ kws)) (forIn_same fun x hx => ?_)).trans ?_
    · obtain ⟨v, ev⟩ := Option.isSome_iff_exists.mp (hall x.1 (List.mem_of_mem_drop (List.of_mem_zip (show (x.1, x.2) ∈ _ from hx)).1))
      rw [ev]; rfl
    · simp only [pure_bind]
theorem lookup_zip_fm {kws : List (Str × Value)} {n : Str} : ∀ {qs : List Str}, (∀ m, m ∈ qs → (kws.lookup m).isSome = true) → n ∈ qs → (qs.zip (qs.filterMap fun p => kws.lookup p)).lookup n = kws.lookup n
  | [], _, h => by cases h
  | q :: qs, ha, h => by
    obtain ⟨v, ev⟩ := Option.isSome_iff_exists.mp (ha q List.mem_cons_self)
    rw [List.filterMap_cons, ev, List.zip_cons_cons, List.lookup_cons]
    cases e : n == q with
    | true => rw [eq_of_beq e, ev]
    | false =>
      rcases List.mem_cons.mp h with z | z
      · rw [z] at e; simp at e
      · exact lookup_zip_fm (fun m hm => ha m (List.mem_cons_of_mem _ hm)) z
theorem fm_len {kws : List (Str × Value)} : ∀ {qs : List Str}, (∀ m, m ∈ qs → (kws.lookup m).isSome = true) → (qs.filterMap fun p => kws.lookup p).length = qs.length
  | [], _ => rfl
  | q :: qs, ha => by
    obtain ⟨v, ev⟩ := Option.isSome_iff_exists.mp (ha q List.mem_cons_self)
    rw [List.filterMap_cons, ev, List.length_cons, List.length_cons, fm_len fun m hm => ha m (List.mem_cons_of_mem _ hm)]
theorem bind_full {fd : FuncData} {us : List Value} {ps : List Str} (P : PlainK fd ps) (hl : us.length = ps.length) : bindArgs fd ⟨us, []⟩ = (seqItems? fd.defaults >>= fun _ => pure (ps.zip us)) := by
  rw [bind_kwG (kws := []) P (Nat.le_of_eq hl) (fun n h => by cases h) List.nodup_nil (fun n h => by rw [hl] at h; simp at h), List.append_nil, filterMap_zip P.nd hl]
/-- names put in their places -/
theorem bind_eqG {fd : FuncData} {us : List Value} {kws : List (Str × Value)} {ps : List Str} (P : PlainK fd ps) (hl : us.length ≤ ps.length) (hk : ∀ n, n ∈ kws.map (·.1) → n ∈ ps.drop us.length) (hn : (kws.map (·.1)).Nodup) (ha : ∀ n, n ∈ ps.drop us.length → (kws.lookup n).isSome = true) :
    bindArgs fd ⟨us, kws⟩ = bindArgs fd ⟨us ++ (ps.drop us.length).filterMap fun p => kws.lookup p, []⟩ := by
  have hr := fm_len ha
  have hlen : (us ++ (ps.drop us.length).filterMap fun p => kws.lookup p).length = ps.length := by
    rw [List.length_append, hr, List.length_drop]; omega
  rw [bind_kwG P hl hk hn ha, bind_full P hlen, ← filterMap_zip P.nd hlen]
  refine bind_right fun _ => congrArg pure ?_
  have nd := P.nd
  have ez : ps.zip us = (ps.take us.length).zip us := by
    conv => lhs; rw [← List.take_append_drop us.length ps, ← List.append_nil us]
    rw [List.zip_append (by simp [hl])]; simp
  have e2 : ps.zip (us ++ (ps.drop us.length).filterMap fun p => kws.lookup p) = (ps.take us.length).zip us ++ (ps.drop us.length).zip ((ps.drop us.length).filterMap fun p => kws.lookup p) := by
    conv => lhs; arg 1; rw [← List.take_append_drop us.length ps]
    rw [List.zip_append (by simp [hl])]
  have key : ∀ n, n ∈ ps → (ps.zip us ++ kws).lookup n = (ps.zip (us ++ (ps.drop us.length).filterMap fun p => kws.lookup p)).lookup n := fun n hp => by
    rw [e2, ez, List.lookup_append, List.lookup_append]
    rw [← List.take_append_drop us.length ps] at hp
    rcases List.mem_append.mp hp with z | z
    · obtain ⟨v, ev⟩ := lookup_zip_some (us := us) (by simp [hl]) z
      rw [ev]; rfl
    · rw [lookup_zip_fm ha z]
  have go : ∀ (l : List Str) (f g : Str → Option (Str × Value)), (∀ n, n ∈ l → f n = g n) → l.filterMap f = l.filterMap g := by
    intro l
    induction l with
    | nil => intros; rfl
    | cons a l ih =>
      intro f g h
      rw [List.filterMap_cons, List.filterMap_cons, h a List.mem_cons_self, ih f g fun n hn => h n (List.mem_cons_of_mem _ hn)]
  exact go _ _ _ fun n hp => by rw [key n hp]
theorem bind_kw1 {fd : FuncData} {us : List Value} {v : Value} {k : Str} {qs : List Str} (P : PlainK fd (qs ++ [k])) (hl : us.length = qs.length) : bindArgs fd ⟨us, [(k, v)]⟩ = bindArgs fd ⟨us ++ [v], []⟩ := by
  have hd : (qs ++ [k]).drop us.length = [k] := by rw [hl]; simp
  rw [bind_eqG P (by simp [hl]) (by rw [hd]; simp) (by simp) (by rw [hd]; simp [List.lookup_cons]), hd]
  simp [List.lookup_cons]
theorem bind_kwA {fd : FuncData} {us : List Value} {v w : Value} {k l : Str} {qs : List Str} (P : PlainK fd (qs ++ [k, l])) (hl : us.length = qs.length) : bindArgs fd ⟨us, [(k, v), (l, w)]⟩ = bindArgs fd ⟨us ++ [v, w], []⟩ := by
  have hd : (qs ++ [k, l]).drop us.length = [k, l] := by rw [hl]; simp
  have nd := P.nd
  rw [List.nodup_append] at nd
  have hkl : k ≠ l := by
    have := nd.2.1
    simp at this; exact this
  have e1 : (l == k) = false := by simpa using Ne.symm hkl
  rw [bind_eqG P (by simp [hl]) (by rw [hd]; simp) (by simpa using hkl) (by rw [hd]; simp [List.lookup_cons, e1]), hd]
  simp [List.lookup_cons, e1]
theorem bind_kwB {fd : FuncData} {us : List Value} {v w : Value} {k l : Str} {qs : List Str} (P : PlainK fd (qs ++ [k, l])) (hl : us.length = qs.length) : bindArgs fd ⟨us, [(l, w), (k, v)]⟩ = bindArgs fd ⟨us ++ [v, w], []⟩ := by
  have hd : (qs ++ [k, l]).drop us.length = [k, l] := by rw [hl]; simp
  have nd := P.nd
  rw [List.nodup_append] at nd
  have hkl : k ≠ l := by
    have := nd.2.1
    simp at this; exact this
  have e1 : (k == l) = false := by simpa using hkl
  rw [bind_eqG P (by simp [hl]) (by rw [hd]; simp) (by simpa using Ne.symm hkl) (by rw [hd]; simp [List.lookup_cons, e1]), hd]
  simp [List.lookup_cons, e1]
/-- related values stay related when they are put in their places -/
theorem vals_fm {ks : List Str} : ∀ {zs : List V} {ws : List Value} {qs : List Str}, Vals zs ws → (∀ n, n ∈ qs → n ∈ ks) → ks.length = zs.length → Vals (qs.filterMap fun p => (ks.zip zs).lookup p) (qs.filterMap fun p => (ks.zip ws).lookup p)
  | zs, ws, [], r, h, hl => .nil
  | zs, ws, q :: qs, r, h, hl => by
    have one : ∀ {ks : List Str} {zs : List V} {ws : List Value}, Vals zs ws → q ∈ ks → ks.length = zs.length → ∃ v u, (ks.zip zs).lookup q = some v ∧ (ks.zip ws).lookup q = some u ∧ RelV v u := by
      intro ks
      induction ks with
      | nil => intro zs ws _ h; cases h
      | cons k ks ih =>
        intro zs ws r h hl
        cases r with
        | nil => cases hl
        | cons r rs =>
          rw [List.zip_cons_cons, List.zip_cons_cons, List.lookup_cons, List.lookup_cons]
          cases e : q == k with
          | true => exact ⟨_, _, rfl, rfl, r⟩
          | false =>
            rcases List.mem_cons.mp h with z | z
            · rw [z] at e; simp at e
            · exact ih rs z (by simpa using hl)
    obtain ⟨v, u, e1, e2, rv⟩ := one r (h q List.mem_cons_self) hl
    rw [List.filterMap_cons, List.filterMap_cons, e1, e2]
    exact .cons rv (vals_fm r (fun n hn => h n (List.mem_cons_of_mem _ hn)) hl)
theorem repL_fm {T : Tb} {F : Hp} {ks : List Str} : ∀ {xs : List D} {zs : List V} {qs : List Str}, RepL T F xs zs → (∀ n, n ∈ qs → n ∈ ks) → ks.length = xs.length → RepL T F (qs.filterMap fun p => (ks.zip xs).lookup p) (qs.filterMap fun p => (ks.zip zs).lookup p)
  | xs, zs, [], r, h, hl => rfl
  | xs, zs, q :: qs, r, h, hl => by
    have one : ∀ {ks : List Str} {xs : List D} {zs : List V}, RepL T F xs zs → q ∈ ks → ks.length = xs.length → ∃ d v, (ks.zip xs).lookup q = some d ∧ (ks.zip zs).lookup q = some v ∧ Rep T F d v := by
      intro ks
      induction ks with
      | nil => intro xs zs _ h; cases h
      | cons k ks ih =>
        intro xs zs r h hl
        cases xs with
        | nil => cases hl
        | cons x xs =>
          obtain ⟨v, vs, rfl, r, rs⟩ := r
          rw [List.zip_cons_cons, List.zip_cons_cons, List.lookup_cons, List.lookup_cons]
          cases e : q == k with
          | true => exact ⟨_, _, rfl, rfl, r⟩
          | false =>
            rcases List.mem_cons.mp h with z | z
            · rw [z] at e; simp at e
            · exact ih rs z (by simpa using hl)
    obtain ⟨v, u, e1, e2, rv⟩ := one r (h q List.mem_cons_self) hl
    rw [List.filterMap_cons, List.filterMap_cons, e1, e2]
    exact ⟨_, _, rfl, rv, repL_fm r (fun n hn => h n (List.mem_cons_of_mem _ hn)) hl⟩
theorem nodup_le {α : Type} : ∀ {l m : List α}, l.Nodup → (∀ x, x ∈ l → x ∈ m) → l.length ≤ m.length
  | [], m, _, _ => Nat.zero_le _
  | a :: l, m, nd, h => by
    obtain ⟨s, t, rfl⟩ := List.append_of_mem (h a List.mem_cons_self)
    have nd' := List.nodup_cons.mp nd
    have := nodup_le (m := s ++ t) nd'.2 fun x hx => by
      have := h x (List.mem_cons_of_mem _ hx)
      simp only [List.mem_append, List.mem_cons] at this ⊢
      rcases this with z | z | z
      · exact .inl z
      · exact absurd (z ▸ hx) nd'.1
      · exact .inr z
    simp only [List.length_append, List.length_cons] at this ⊢
    omega
/-- arrG: the values in their places -/
theorem arrG_ok {T : Tb} {F : Hp} {ps : List Str} {ds ws xs : List D} {ks : List Str} {vs zs : List V} (h : arrG ps ds ks ws = some xs) (r1 : RepL T F ds vs) (r2 : RepL T F ws zs) :
    ∃ vs', RepL T F xs vs' ∧ ∀ us wv, Vals vs us → Vals zs wv → ∃ us', Vals vs' us' ∧ ∀ fd pre (us0 : List Value), us0.length = pre.length → PlainK fd (pre ++ ps) → bindArgs fd ⟨us0 ++ us, ks.zip wv⟩ = bindArgs fd ⟨us0 ++ us', []⟩ := by
  unfold arrG at h
  obtain ⟨h1, rfl⟩ := bif_some h
  simp only [Bool.and_eq_true, decide_eq_true_eq, List.all_eq_true] at h1
  obtain ⟨⟨⟨h1, h2⟩, h3⟩, h4⟩ := h1
  have hc : ∀ n, n ∈ ps.drop ds.length → n ∈ ks := fun n hn => by simpa using h4 n hn
  refine ⟨vs ++ (ps.drop ds.length).filterMap fun p => (ks.zip zs).lookup p, r1.append (repL_fm r2 hc h2), fun us wv v1 v2 => ⟨us ++ (ps.drop ds.length).filterMap fun p => (ks.zip wv).lookup p, v1.append (vals_fm v2 hc (h2.trans r2.length.symm)), fun fd pre us0 hp pf => ?_⟩⟩
  have nd : ps.Nodup := (List.nodup_append.mp pf.nd).2.1
  have lu : us.length = ds.length := by rw [← v1.length, ← r1.length]
  have lw : ks.length = wv.length := by rw [h2, ← r2.length, v2.length]
  have hdrop : (pre ++ ps).drop (us0 ++ us).length = ps.drop ds.length := by
    rw [List.length_append, hp, lu, List.drop_append]; simp
  have hmap : (ks.zip wv).map (·.1) = ks := by rw [List.map_fst_zip (by omega)]
  have hsub : ∀ n, n ∈ ks → n ∈ ps.drop ds.length := by
    have ndd : (ps.drop ds.length).Nodup := List.Sublist.nodup (List.drop_sublist _ _) nd
    have hlen : (ps.drop ds.length).length = ks.length := by rw [List.length_drop]; omega
    intro n hn
    rcases Classical.em (n ∈ ps.drop ds.length) with z | z
    · exact z
    · exfalso
      have hs : (n :: ps.drop ds.length).Nodup := List.nodup_cons.mpr ⟨z, ndd⟩
      have : (n :: ps.drop ds.length).length ≤ ks.length := nodup_le hs fun m hm => by
        rcases List.mem_cons.mp hm with rfl | y
        · exact hn
        · exact hc m y
      simp only [List.length_cons] at this
      omega
  rw [bind_eqG pf (by rw [List.length_append, List.length_append, hp, lu]; omega) (by rw [hmap, hdrop]; exact hsub) (by rw [hmap]; exact h3) (by
    rw [hdrop]
    intro n hn
    obtain ⟨v, ev⟩ := lookup_zip_some lw.symm (hc n hn)
    rw [ev]; rfl), hdrop, List.append_assoc]
/-- a def that may be called by names -/
def KwOk (K : PySem.W.Frag) (a : Addr) (ns : List Str) : Prop := ∀ oc od fd osl, K.lookup a = some ⟨oc, od, .func fd, osl⟩ → PlainK fd ns

theorem callO_kw {M : Model} {A : Around} {E : Value → Shared → Prop} {s : Shared} {a : Addr} {pos : Pos} {Q : Value → Shared → Prop} {args : List (Bool × Sem Value)} {kws : List (Option Str × Sem Value)} (hplain : (args.any (·.1) || kws.any (·.1.isNone)) = false)
    (h : wpAny M A (evalArgs (.ref a) true args kws) (fun z s₁ => (∃ C ox od, PySem.W.InstAt s₁.heap a ox C od ∧ ox.data = .plain) ∧ wpAny M A (call (.ref a) ([] ++ z.pos) z.kw) Q E s₁) E s) : wpAny M A (callWith pos (.ref a) [] args kws) Q E s := by
  unfold callWith
  refine wpAny_bind (wpAny_holding (wpAny_mono h (fun z s₁ h₁ => wpAny_bind (wpAny_standAt ?_)) fun _ _ y => y))
  obtain ⟨⟨C, ox, od, J, hd⟩, h₁⟩ := h₁
  have L := PySem.W.kco_keeper (M := M) J hd
  simp only [hplain]
  refine wpAny_bind (L.here ?_)
  have tail : ∀ {t : Sem Value}, wpAny M A t Q E s₁ → wpAny M A (t >>= fun r => holding [r] point >>= fun _ => pure r) Q E s₁ :=
    fun ht => wpAny_bind (wpAny_mono ht (fun r s₂ hr => wpAny_bind (wpAny_holding (wpAny_point (wpAny_pure hr)))) fun _ _ y => y)
  exact tail (wpAny_operateT h₁)

section
variable {S : Type} [Pen S] {Z : Cz S} {us : List Str} {G : Fm} {F H : Hp} {σ : L2.St} {τ : List Slot} {s : S} {W : WX} {X : Cx} {pins : List (Addr × Obj)} {sh : Shared}
variable {a b c e : Expr} {ca cb cc ce : CE} {pos : Pos}
theorem de_callK {fe : Expr} {co : CE} {k : Str} {kp : Pos} (z : Sz Z us X) (hfi : ∀ c f, Z.P.meth c mCall = some f → fnIn Z.T.K (Z.T.fA f) = true) (hkw : ∀ f, Z.P.kwn f ≠ [] → KwOk Z.T.K (Z.T.fA f) (Z.P.kwn f)) (tk : Takes X W) (hf : PE X fe (tD Z G W co)) (he : PE X e (tD Z G W ce))
    (ht : eval (.Call fe [] [⟨some k, e, kp⟩] pos) X.env = (do callWith pos (← eval fe X.env) [] (backTo pos (starEach [] X.env)) (backToKw pos (keywordEach [⟨some k, e, kp⟩] X.env)))) : PE X (.Call fe [] [⟨some k, e, kp⟩] pos) (tD Z G W (.callK co .nil [k] (.cons false ce .nil))) := by
  refine ⟨fun pins sh σ H Q I h => ?_⟩
  obtain ⟨F0, τ, s, q, h⟩ := h
  simp only [ev] at h
  rw [ht]
  refine wpAny_bind (thn (hf.run pins sh σ H (fun v H1 => ∃ F τ s c ds f, SR Z.T Z.pn G F H1 σ τ s ∧ Rep Z.T F (.ins c ds) v ∧ Z.P.meth c mCall = some f ∧ Post Z G (Rep Z.T) F σ Q W ((ev Z.P Z.call Z.make ce τ s).bind fun x τ s => match arrD (Z.P.kwn f) [.ins c ds] [k] [x] with
        | some xs => (Z.call f xs s).out τ
        | none => .no)) I
      ⟨F0, τ, s, q, h.bind fun x v τ1 s1 F1 H1 e1 q1 r1 h1 => ?_⟩) fun u s1 ⟨v, H1, I1, rx, F1, τ1, s1', c, ds, f, q1, r1, ef, h1⟩ => ?_)
  · cases x with
    | ins c ds =>
      simp only at h1
      cases ef : Z.P.meth c mCall with
      | none => rw [ef] at h1; exact h1.elim
      | some f =>
        rw [ef] at h1
        refine ⟨F1, τ1, s1, c, ds, f, q1, r1, ef, ?_⟩
        simp only [evA, Out.bind, cond_false] at h1
        cases hx : ev Z.P Z.call Z.make ce τ1 s1 with
        | ok y τ2 s2 => rw [hx] at h1; exact h1
        | exc c' fs τ2 s2 => rw [hx] at h1; exact h1
        | no => rw [hx] at h1; exact h1
    | _ => exact h1.elim
  · obtain ⟨p, dx, vs0, rfl, hF, hl, rl⟩ := r1
    obtain rfl : u = Value.ref p := rx
    refine callO_kw (by rfl) (PyProof.Rows.evalArgs_kw2_nil (by rfl) (PyProof.Rows.kwAll_cons (thn (he.run pins s1 σ H1 (fun w H2 => ∃ F2 qs, F2 p = some (.ins (Z.T.cA c) dx ((Z.T.fld c).zip vs0)) ∧ Sub F2 H2 ∧ Z.P.kwn f = qs ++ [k] ∧ qs.length = 1 ∧ spF Z f [.ref p, w] H2 Q (fun c d H' => W c d σ H')) I1
      ⟨F1, τ1, s1', q1, h1.bind fun y w τ2 s2 F2 H2 e2 q2 r2 h2 => ?_⟩) fun w s2 ⟨wv, H2, I2, rw_, F2, qs, hF2, fh, hq1, hq2, hq⟩ => PyProof.Rows.kwAll_nil ?_)))
    · cases ea : arrD (Z.P.kwn f) [.ins c ds] [k] [y] with
      | none => rw [ea] at h2; exact h2.elim
      | some xs =>
        rw [ea] at h2
        unfold arrD at ea
        obtain ⟨g1, g2⟩ := bif_some ea
        simp only [Bool.and_eq_true, decide_eq_true_eq, List.length_cons, List.length_nil] at g1
        obtain ⟨⟨g1, g3⟩, _⟩ := g1
        refine ⟨F2, (Z.P.kwn f).take 1, e2 _ _ hF, q2.fh, ?_, ?_, ?_⟩
        · have := List.take_append_drop 1 (Z.P.kwn f)
          rw [show (Z.P.kwn f).drop 1 = [k] from g1] at this
          exact this.symm
        · rw [List.length_take]; omega
        · subst g2
          exact spF_of q2 (RepL.two (d := .ins c ds) (e := y) ⟨p, dx, vs0, rfl, e2 _ _ hF, hl, rl.mono e2⟩ r2) h2
    · obtain ⟨ox, od, J, hd⟩ := StX.insC_at (C := Z.T.cA c) I2 (.inr ⟨dx, _, fh _ _ hF2⟩)
      refine ⟨⟨_, ox, od, J, hd⟩, ?_⟩
      obtain ⟨ck, mt, _⟩ := z.meth c mCall f ef
      rw [← z.hK] at mt
      have hfi' := hfi c f ef
      rw [← z.hK] at hfi'
      have hko := hkw f (by rw [hq1]; simp)
      rw [← z.hK, hq1] at hko
      exact wpAny_call (kco_code I2.kIn J hd mt.at_ mt.fn hfi' (run_zk (us := [.ref p, w]) (vs := [.ref p, wv]) (z.fz f) tk I2 (.cons rfl (.cons rw_ .nil)) hq fun oc od fd osl lk => bind_kw1 (us := [.ref p]) (hko oc od fd osl lk) (by simp [hq2])))
end
end Rz
end

section
set_option autoImplicit false
set_option Elab.async false
set_option linter.all false
set_option maxHeartbeats 1000000
set_option maxRecDepth 100000
namespace Rz
open PySem PySem.Spec PySem.W PyProof.Rows L2

theorem _root_.L2.PK.imp {X : Cx} {kws : List Keyword} {t t' : TA} (h : PK X kws t) (k : ∀ σ H Q, t' σ H Q → t σ H Q) : PK X kws t' := ⟨fun p pins s σ H Q I q => h.run p pins s σ H Q I (k σ H Q q)⟩
section
variable {S : Type} [Pen S] {Z : Cz S} {us : List Str} {G : Fm} {F H : Hp} {σ : L2.St} {τ : List Slot} {s : S} {W : WX} {X : Cx} {pins : List (Addr × Obj)} {sh : Shared}
variable {a b c e : Expr} {ca cb cc ce : CE} {pos : Pos}
/-- keywords and their compact form -/
inductive KwsZ (Z : Cz S) (G : Fm) (W : WX) (X : Cx) : List Keyword → List Str → CAs → Prop
  | nil : KwsZ Z G W X [] [] .nil
  | cons {k : Str} {e : Expr} {p : Pos} {kws : List Keyword} {ks : List Str} {c : CE} {cs : CAs} : PE X e (tD Z G W c) → KwsZ Z G W X kws ks cs → KwsZ Z G W X (⟨some k, e, p⟩ :: kws) (k :: ks) (.cons false c cs)
theorem KwsZ.pk : ∀ {kws : List Keyword} {ks : List Str} {cs : CAs}, KwsZ Z G W X kws ks cs → PK X kws (tDA Z G W cs)
  | _, _, _, .nil => pk_nil.imp fun σ H Q => by
    rintro ⟨F, τ, s, q, h⟩
    exact h.ok q rfl
  | _, _, _, .cons he hr => (pk_cons he (KwsZ.pk hr)).imp fun σ H Q => by
    rintro ⟨F, τ, s, q, h⟩
    exact ⟨F, τ, s, q, h.bind fun x v τ1 s1 F1 H1 e1 q1 r1 h1 => ⟨F1, τ1, s1, q1, h1.bind fun xs vs τ2 s2 F2 H2 e2 q2 r2 h2 => h2.ok q2 ⟨v, vs, rfl, r1.mono e2, r2⟩⟩⟩
theorem KwsZ.names {env : Env} : ∀ {kws : List Keyword} {ks : List Str} {cs : CAs}, KwsZ Z G W X kws ks cs → (backToKw pos (keywordEach kws env)).filterMap (·.1) = ks ∧ (backToKw pos (keywordEach kws env)).all (·.1.isSome) = true ∧ (backToKw pos (keywordEach kws env)).any (·.1.isNone) = false
  | _, _, _, .nil => ⟨rfl, rfl, rfl⟩
  | _, _, _, .cons (k := k) (kws := kws) he hr => by
    obtain ⟨h1, h2, h3⟩ := KwsZ.names (env := env) hr
    exact ⟨by show k :: (backToKw pos (keywordEach kws env)).filterMap (·.1) = _; rw [h1], by show (true && (backToKw pos (keywordEach kws env)).all (·.1.isSome)) = true; rw [h2]; rfl, by show (false || (backToKw pos (keywordEach kws env)).any (·.1.isNone)) = false; rw [h3]; rfl⟩
theorem callWith_zk {f : Value} {first : List Value} {args : List Expr} {cs ws : CAs} {kws : List Keyword} {ks : List Str} {Qf : Value → Shared → Prop} {Kq : List V → List V → Hp → Prop} (hK : X.K = Z.T.K) (hk : PySem.W.keepIn X.K f = true) (hs : args.any isStar = false)
    (ha : ArgsZ Z G W X args cs) (hw : KwsZ Z G W X kws ks ws) (I : Inv X pins σ H sh) (h : tDA Z G W cs σ H fun vs H1 => tDA Z G W ws σ H1 fun zs H2 => Kq vs zs H2)
    (k : ∀ us wv s1 vs zs H1, Inv X pins σ H1 s1 → Vals vs us → Vals zs wv → Kq vs zs H1 → wpAny (model X.prog X.w) X.A (call f (first ++ us) (ks.zip wv)) Qf X.xe s1) :
    wpAny (model X.prog X.w) X.A (callWith pos f first (backTo pos (starEach args X.env)) (backToKw pos (keywordEach kws X.env))) Qf X.xe sh := by
  obtain ⟨n1, n2, n3⟩ := hw.names (pos := pos) (env := X.env)
  cases ha with
  | nil =>
    obtain ⟨F, τ, s, q, h⟩ := h
    have h' := h.ok q (show RepL Z.T F [] [] from rfl)
    refine PySem.W.callWith_KW0 (h₀ := X.base) I.ok.mod.kin hk n2 (thn (hw.pk.run pos pins sh σ H _ I h') fun wv s1 ⟨zs, H1, I1, r, q1⟩ => ⟨I1.kIn, ?_⟩) (by show (false || _) = false; rw [n3]; rfl)
    rw [n1]
    exact k [] wv s1 [] zs H1 I1 .nil r q1
  | @cons e es c cs hp he hr =>
    rw [List.any_cons, Bool.or_eq_false_iff] at hs
    have pa := (ArgsZ.cons hp he hr).pa hK
    refine PySem.W.callWith_KW (h₀ := X.base) I.ok.mod.kin hk n2 (thn (pa.run pos pins sh σ H _ I h) fun us s1 ⟨vs, H1, I1, r, q1⟩ => thn (hw.pk.run pos pins s1 σ H1 _ I1 q1) fun wv s2 ⟨zs, H2, I2, r2, q2⟩ => ⟨I2.kIn, ?_⟩) (by rw [backTo_any, List.any_cons, hs.1, hs.2, n3]; rfl) (starEach_plain hp)
    rw [n1]
    exact k us wv s2 vs zs H2 I2 r r2 q2
  | star he hr => cases hs

theorem vals_one {v : V} {us : List Value} (h : Vals [v] us) : ∃ u, us = [u] ∧ RelV v u := by
  cases h with
  | cons h t => cases t; exact ⟨_, rfl, h⟩
theorem vals_two {v w : V} {us : List Value} (h : Vals [v, w] us) : ∃ u x, us = [u, x] ∧ RelV v u ∧ RelV w x := by
  cases h with
  | cons h t => obtain ⟨x, rfl, hx⟩ := vals_one t; exact ⟨_, x, rfl, h, hx⟩
theorem take_drop_eq {ps : List Str} {n : Nat} {l : List Str} (h : ps.drop n = l) (hl : l ≠ []) : ps = ps.take n ++ l ∧ (ps.take n).length = n := by
  refine ⟨by rw [← h, List.take_append_drop], ?_⟩
  rw [List.length_take]
  have : n < ps.length := by
    rcases Nat.lt_or_ge n ps.length with z | z
    · exact z
    · rw [List.drop_eq_nil_of_le z] at h; exact absurd h.symm hl
  omega
theorem arr2_ok {T : Tb} {ps : List Str} {ds ws xs : List D} {ks : List Str} {vs zs : List V} (h : arr2 ps ds ks ws = some xs) (r1 : RepL T F ds vs) (r2 : RepL T F ws zs) :
    ∃ vs', RepL T F xs vs' ∧ ∀ us wv, Vals vs us → Vals zs wv → ∃ us', Vals vs' us' ∧ ∀ fd, PlainK fd ps → bindArgs fd ⟨us, ks.zip wv⟩ = bindArgs fd ⟨us', []⟩ := by
  unfold arr2 at h
  split at h
  · obtain ⟨h1, rfl⟩ := bif_some h
    have h1 := of_decide_eq_true h1
    obtain ⟨e1, e2⟩ := take_drop_eq h1 (by simp)
    obtain ⟨z, rest, rfl, rz, rr⟩ := r2
    cases rr
    refine ⟨vs ++ [z], r1.append (RepL.one rz), fun us wv v1 v2 => ?_⟩
    obtain ⟨u, rfl, hu⟩ := vals_one v2
    refine ⟨us ++ [u], v1.append (.cons hu .nil), fun fd pf => ?_⟩
    rw [e1] at pf
    exact bind_kw1 pf (by rw [← v1.length, r1.length, e2])
  · rename_i k l w u
    cases hd : decide (ps.drop ds.length = [k, l]) with
    | true =>
      rw [hd] at h
      cases h
      obtain ⟨e1, e2⟩ := take_drop_eq (of_decide_eq_true hd) (by simp)
      obtain ⟨z, rest, rfl, rz, z2, rest2, rfl, rz2, rr⟩ := r2
      cases rr
      refine ⟨vs ++ [z, z2], r1.append (RepL.two rz rz2), fun us wv v1 v2 => ?_⟩
      obtain ⟨u, x, rfl, hu, hx⟩ := vals_two v2
      refine ⟨us ++ [u, x], v1.append (.cons hu (.cons hx .nil)), fun fd pf => ?_⟩
      rw [e1] at pf
      exact bind_kwA pf (by rw [← v1.length, r1.length, e2])
    | false =>
      rw [hd] at h
      obtain ⟨h1, rfl⟩ := bif_some h
      obtain ⟨e1, e2⟩ := take_drop_eq (of_decide_eq_true h1) (by simp)
      obtain ⟨z, rest, rfl, rz, z2, rest2, rfl, rz2, rr⟩ := r2
      cases rr
      refine ⟨vs ++ [z2, z], r1.append (RepL.two rz2 rz), fun us wv v1 v2 => ?_⟩
      obtain ⟨u, x, rfl, hu, hx⟩ := vals_two v2
      refine ⟨us ++ [x, u], v1.append (.cons hx (.cons hu .nil)), fun fd pf => ?_⟩
      rw [e1] at pf
      exact bind_kwB pf (by rw [← v1.length, r1.length, e2])
  · obtain ⟨vs', rv, av⟩ := arrG_ok h r1 r2
    refine ⟨vs', rv, fun us wv v1 v2 => ?_⟩
    obtain ⟨us', v3, hb⟩ := av us wv v1 v2
    exact ⟨us', v3, fun fd pf => hb fd [] [] rfl pf⟩
  · cases h

/-- o.m(.., k=v, ..): its tree -/
def methOkK (args : List Expr) (kws : List Keyword) (apos pos : Pos) : Bool := !args.any isStar && decide (args.length + kws.length < 29) && apos.endLine == pos.line
theorem meth_evalK {o : Expr} {m : Str} {args : List Expr} {kws : List Keyword} {apos pos : Pos} {env : Env} (hb : baseOk o = true) (hm : methOkK args kws apos pos = true) (hk : (backToKw pos (keywordEach kws env)).all (·.1.isSome) = true) :
    eval (.Call (.Attribute o m apos) args kws pos) env = (do
      let ov ← eval o env
      standAt apos.atName
      let (f, first) ← holding [ov] (getMethod ov m (do return (← importBound o env).getD true))
      callWith pos f first (backTo pos (starEach args env)) (backToKw pos (keywordEach kws env))) := by
  unfold methOkK at hm
  simp only [Bool.and_eq_true, Bool.not_eq_true', decide_eq_true_eq] at hm
  obtain ⟨⟨h1, h2⟩, h3⟩ := hm
  have hall : (backTo pos (starEach args env)).all (fun x => !x.1) = true := by
    rw [← backTo_any (pos := pos) (env := env)] at h1
    rw [List.all_eq_not_any_not]
    simpa using h1
  have hform : methodCallForm (args.length + kws.length) (backTo pos (starEach args env)) (backToKw pos (keywordEach kws env)) = true := by
    unfold methodCallForm
    rw [hall, hk]
    simp only [Bool.and_true, decide_eq_true_eq, Bool.true_and]
    split <;> omega
  rw [arm_eval_Call, base_of hb]
  unfold methodCall
  rw [hform]
  unfold methodCallPos
  rw [h3]
  simp only [Bool.not_true, Bool.or_true, if_true, pure_bind]
  rfl
theorem de_methK {o : Expr} {co : CE} {m : Str} {mid : Nat} {args : List Expr} {cs ws : CAs} {kws : List Keyword} {ks : List Str} {apos pos : Pos} (hK : X.K = Z.T.K) (FZ : ∀ f, FnZ Z X f) (MS : ∀ c f, Z.P.meth c mid = some f → MethZ Z.T c m f) (hkw : ∀ f, Z.P.kwn f ≠ [] → KwOk Z.T.K (Z.T.fA f) (Z.P.kwn f)) (tk : Takes X W) (ho : PE X o (tD Z G W co))
    (ha : ArgsZ Z G W X args cs) (hw : KwsZ Z G W X kws ks ws) (hb : baseOk o = true) (hm : methOkK args kws apos pos = true) : PE X (.Call (.Attribute o m apos) args kws pos) (tD Z G W (.methK co mid cs ks ws)) := by
  have hs : args.any isStar = false := by
    unfold methOkK at hm
    simp only [Bool.and_eq_true, Bool.not_eq_true'] at hm
    exact hm.1.1
  refine ⟨fun pins sh σ H Q I h => ?_⟩
  obtain ⟨F0, τ, s, q, h⟩ := h
  simp only [ev] at h
  refine PySem.W.methodCall_KW (thn (ho.run pins sh σ H (fun v H1 => ∃ a c dx vs f, v = .ref a ∧ H1 a = some (.ins (Z.T.cA c) dx ((Z.T.fld c).zip vs)) ∧ Z.P.meth c mid = some f ∧ tDA Z G W cs σ H1 fun vs H2 => tDA Z G W ws σ H2 fun zs H3 => Z.P.kwn f ≠ [] ∧ ∃ vs', spF Z f vs' H3 Q (fun c d H' => W c d σ H') ∧ ∀ us wv, Vals (V.ref a :: vs) us → Vals zs wv → ∃ us', Vals vs' us' ∧ ∀ fd, PlainK fd (Z.P.kwn f) → bindArgs fd ⟨us, ks.zip wv⟩ = bindArgs fd ⟨us', []⟩) I ⟨F0, τ, s, q, h.bind fun x v τ1 s1 F1 H1 e1 q1 r1 h1 => ?_⟩) fun u s1 ⟨x, H1, I1, rx, a, c, dx, vs, f, ex, ea, em, h2⟩ => ?_) (meth_evalK hb hm (hw.names (pos := pos) (env := X.env)).2.1)
  · cases x with
    | ins c ds =>
      obtain ⟨a, dx, vs, ev, hF, hl, rl⟩ := id r1
      cases em : Z.P.meth c mid with
      | none => simp only [em] at h1; exact h1.elim
      | some f =>
        simp only [em] at h1
        subst ev
        refine ⟨a, c, dx, vs, f, rfl, q1.fh _ _ hF, em, F1, τ1, s1, q1, h1.bind fun ys wsv τ2 s2 F2 H2 e2 q2 r2 h2 => ⟨F2, τ2, s2, q2, h2.bind fun yz zs τ3 s3 F3 H3 e3 q3 r3 h3 => ?_⟩⟩
        cases ea : arr2 (Z.P.kwn f) (.ins c ds :: ys) ks yz with
        | none => rw [ea] at h3; exact h3.elim
        | some xs =>
          rw [ea] at h3
          obtain ⟨vs', rv, av⟩ := arr2_ok ea (RepL.cons (r1.mono (e2.trans e3)) (r2.mono e3)) r3
          refine ⟨fun z => ?_, vs', spF_of q3 rv h3, av⟩
          rw [z] at ea
          unfold arr2 at ea
          split at ea <;> simp [arrG] at ea
    | _ => exact h1.elim
  · subst ex
    obtain rfl : u = Value.ref a := rx
    obtain ⟨ck, mk, nk⟩ := MS c f em
    refine getmeth_ok I1 ea (by rw [hK]; exact ck.cl) (by rw [hK]; exact mk) (zip_lookup_none nk) ?_
    refine callWith_zk (first := [.ref a]) hK (by rw [hK]; exact mk.kp) hs ha hw I1 h2 fun us wv s2 vs zs H2 I2 r r2 ⟨hne, vs', hq, av⟩ => ?_
    obtain ⟨us', rv', hb'⟩ := av (.ref a :: us) wv (.cons rfl r) r2
    have hko := hkw f hne
    rw [← hK] at hko
    exact wpAny_call (run_zk (us := us') (vs := vs') (FZ f) tk I2 rv' hq fun oc od fd osl lk => hb' fd (hko oc od fd osl lk))

theorem run_mkK {us us' : List Value} {kw : List (Str × Value)} {vs : List V} {Q : VK} {C f : Addr} {k : Nat} {sp : Sp} (M : Mk X.K C f) (Fn : FnRg X.prog X.w X.K X.mg X.base (CX X.prog X.w) k f sp) (hr : Room (k + 1) X.A) (hg : X.A.guards = some []) (tk : Takes X W) (I : Inv X pins σ H sh) (r : Vals vs us') (har : ∀ x : Value, ArgAs X.K f ⟨x :: us, kw⟩ (x :: us'))
    (h : ∀ x dx, H x = none → H dx = none → dx ≠ x → sp (.ref x :: vs) (upd (upd H dx (.own x)) x (.ins C dx [])) (fun v H2 => v = .non ∧ Q (.ref x) H2) (fun c d H' => W c d σ H')) :
    wpAny (model X.prog X.w) X.A (call (.ref C) us kw) (EP X pins σ Q) X.xe sh := by
  have hq := h (sh.heap.objs.size + 1) sh.heap.objs.size (I.hok.fresh (Nat.le_succ _)) (I.hok.fresh (Nat.le_refl _)) (Nat.ne_of_lt (Nat.lt_succ_self _))
  have I2 := Inv.made (C := C) I
  have r2 : Vals (V.ref (sh.heap.objs.size + 1) :: vs) (Value.ref (sh.heap.objs.size + 1) :: us') := .cons rfl r
  refine wpAny_call (make_map (f := f) I.kIn M.makes M.init (beq_iff_eq.mp M.fn) (codeAny_mono (Fn _ X.stack _ _ (Value.ref (sh.heap.objs.size + 1) :: us') _ _ _ (hr.make C us kw) ((make_guards).trans hg) (I2.env0.make C us kw) r2 hq _ (har _)) fun r s' hq' => ?_))
  cases r with
  | error e => exact tk e s' (XE.of_call I2 (fun cls d H' z => z) hq')
  | ok fl =>
    cases fl with
    | ret u =>
      obtain ⟨v, H', I3, rv, ev, q3⟩ := I2.after hq'
      subst ev
      exact ⟨rv, ⟨V.ref (sh.heap.objs.size + 1), H', I3, rfl, q3⟩⟩
    | next => exact False.elim hq'
    | brk => exact False.elim hq'
    | cont => exact False.elim hq'
/-- C(.., k=v, ..) -/
theorem de_makeK {c : Nat} {x : Str} {args : List Expr} {cs ws : CAs} {kws : List Keyword} {ks : List Str} {p pos : Pos} (hK : X.K = Z.T.K) (FI : FnI Z X c) (hin : ∀ f, Z.P.init c = some f → PySem.W.findIn Z.T.K (.ref (Z.T.cA c)) "__init__" = some (some (.ref (Z.T.fA f)))) (hkw : ∀ f, Z.P.kwn f ≠ [] → KwOk Z.T.K (Z.T.fA f) (Z.P.kwn f)) (tk : Takes X W) (hg : Gl X x) (hm : X.mg x = some (.ref (Z.T.cA c))) (hk : PySem.W.keepIn X.K (.ref (Z.T.cA c)) = true)
    (hs : args.any isStar = false) (ha : ArgsZ Z G W X args cs) (hw : KwsZ Z G W X kws ks ws) (hd : (x == ("__debug__" : Str)) = false) : PE X (.Call (.Name x p) args kws pos) (tD Z G W (.makeK c cs ks ws)) := by
  refine ⟨fun pins sh σ H Q I h => ?_⟩
  obtain ⟨F0, τ, s, q, h⟩ := h
  obtain ⟨kk, fa, hr, hgd, Fn, M⟩ := FI
  simp only [ev] at h
  refine wpAny_Call_Name_kw (ld_glob I hg hm ?_ hd)
  refine callWith_zk (first := []) (Kq := fun vs zs H1 => (∃ ds s, Z.make c ds s ≠ .no) ∧ (∃ f n ps, Z.P.init c = some f ∧ Z.P.kwn f = n :: ps ∧ ∃ vs', (∀ x dx, H1 x = none → H1 dx = none → dx ≠ x → spI Z c (.ref x :: vs') (upd (upd H1 dx (.own x)) x (.ins (Z.T.cA c) dx [])) (fun v H2 => v = .non ∧ Q (.ref x) H2) (fun c d H' => W c d σ H')) ∧
      (∀ us wv, Vals vs us → Vals zs wv → ∃ us', Vals vs' us' ∧ ∀ fd pre (us0 : List Value), us0.length = pre.length → PlainK fd (pre ++ ps) → bindArgs fd ⟨us0 ++ us, ks.zip wv⟩ = bindArgs fd ⟨us0 ++ us', []⟩))) hK hk hs ha hw I
    ⟨F0, τ, s, q, h.bind fun ys vs τ1 s1 F1 H1 e1 q1 r1 h1 => ⟨F1, τ1, s1, q1, h1.bind fun yz zs τ3 s3 F3 H3 e3 q3 r3 h3 => ?_⟩⟩ fun us wv s2 vs zs H2 I2 r r2 ⟨hq0, f, n, ps, ei, ek, vs', hq, av⟩ => ?_
  · cases ei : Z.P.init c with
    | none => rw [ei] at h3; exact h3.elim
    | some f =>
      simp only [ei] at h3
      cases ek : Z.P.kwn f with
      | nil => simp only [ek] at h3; exact h3.elim
      | cons n ps =>
        simp only [ek] at h3
        cases ea : arrG ps ys ks yz with
        | none => simp only [ea] at h3; exact h3.elim
        | some xs =>
          simp only [ea] at h3
          obtain ⟨vs', rv, av⟩ := arrG_ok ea (r1.mono e3) r3
          refine ⟨⟨xs, s3, fun z => by rw [z] at h3; exact h3⟩, f, n, ps, rfl, ek, vs', fun x dx hx hdx hne => ?_, av⟩
          have hp : x ≠ Z.T.pen := fun z => by rw [z, q3.pen] at hx; cases hx
          have hp2 : dx ≠ Z.T.pen := fun z => by rw [z, q3.pen] at hdx; cases hdx
          refine ⟨F3, xs, s3, x, dx, vs', rfl, upd_same, q3.fh.none hx, hp, fun a o e => ?_, ?_, q3.penF, q3.pinv, rv, q3.tb.ext (Sub.refl _) (fun p hp => q3.tF hp) (fun p hp o e => by rw [upd_ne (ne_of_none e hx), upd_ne (ne_of_none e hdx)]; exact e), ?_⟩
          · have e' := q3.fh a o e
            rw [upd_ne (ne_of_none e' hx), upd_ne (ne_of_none e' hdx)]; exact e'
          · rw [upd_ne (Ne.symm hp), upd_ne (Ne.symm hp2)]; exact q3.pen
          · cases em : Z.make c xs s3 with
            | ok d s' =>
              rw [em] at h3
              exact fun H' F' kf r => ⟨rfl, h3 _ H' F' kf.ff (q3.call (kf.fr hx hdx)) r⟩
            | exc c' fs s' =>
              rw [em] at h3
              exact fun H' F' od kf r => h3 H' F' od kf.ff (q3.call (kf.fr hx hdx)) r
            | no => rw [em] at h3; exact h3
  · obtain ⟨us', rv', hb'⟩ := av us wv r r2
    have hM := M hq0
    have hfa : fa = Z.T.fA f := by
      have e1 := hM.init
      rw [hK, hin f ei] at e1
      exact (PySem.Value.ref.inj (Option.some.inj (Option.some.inj e1))).symm
    have hko := hkw f (by rw [ek]; simp)
    rw [← hK, ek] at hko
    exact run_mkK hM Fn (hr.mono (Nat.le_succ _)) hgd tk I2 rv' (fun x oc od fd osl lk => by
      rw [hfa] at lk
      exact hb' fd [n] [x] rfl (hko oc od fd osl lk)) hq

/-! ### static methods, by their class -/
structure SmZ (T : Tb) (c : Nat) (m : Str) (f : Nat) : Prop where
  ga : PySem.W.specialIn T.K (.ref (T.cA c)) "__getattribute__" = some (some (.builtin "type.__getattribute__"))
  rd : ∃ mc p rest, PySem.W.readsIn T.K (T.cA c) mc = true ∧ PySem.W.findCls T.K (.ref (T.cA c)) mc m = some (.get (.builtin "staticmethod.__get__") (.ref p) .none (.ref (T.cA c))) ∧ PySem.W.recIn T.K p "staticmethod" = some (.ref (T.fA f) :: rest)
  kp : PySem.W.keepIn T.K (.ref (T.fA f)) = true
theorem getsm_ok {c f : Nat} {m : Str} {pl : Sem Bool} {Q : Value × List Value → Shared → Prop} {E : Value → Shared → Prop} (hK : X.K = Z.T.K) (I : Inv X pins σ H sh) (h : SmZ Z.T c m f) (k : ∀ s', Inv X pins σ H s' → Q (.ref (Z.T.fA f), []) s') : wpAny (model X.prog X.w) X.A (getMethod (.ref (Z.T.cA c)) m pl) Q E sh := by
  obtain ⟨ga, ⟨mc, p, rest, h1, h2, h3⟩, kp⟩ := h
  rw [← hK] at ga h1 h2 h3
  refine PySem.W.method_cls I.kIn ga (PySem.W.cls_bind I.kIn h1 h2 (wpAny_call (PySem.W.sm_get (s := { sh with toks := sh.toks + 1 }) I.kIn h3 (PySem.W.handed_on rfl ?_))))
  exact k _ (I.tok _)
/-! ### class methods -/
structure CmZ (T : Tb) (c : Nat) (m : Str) (f : Nat) : Prop where
  ga : PySem.W.specialIn T.K (.ref (T.cA c)) "__getattribute__" = some (some (.builtin "type.__getattribute__"))
  rd : ∃ mc p rest, PySem.W.readsIn T.K (T.cA c) mc = true ∧ PySem.W.findCls T.K (.ref (T.cA c)) mc m = some (.get (.builtin "classmethod.__get__") (.ref p) .none (.ref (T.cA c))) ∧ PySem.W.recIn T.K p "classmethod" = some (.ref (T.fA f) :: rest)
  fi : PySem.W.fnIn T.K (T.fA f) = true
theorem getcm_ok {c f : Nat} {m : Str} {pl : Sem Bool} {Q : Value × List Value → Shared → Prop} {E : Value → Shared → Prop} (hK : X.K = Z.T.K) (I : Inv X pins σ H sh) (h : CmZ Z.T c m f)
    (k : ∀ q s', Inv X ((q, PySem.W.methodObj (.ref (Z.T.fA f)) (.ref (Z.T.cA c))) :: pins) σ H s' → Q (.ref q, []) s') : wpAny (model X.prog X.w) X.A (getMethod (.ref (Z.T.cA c)) m pl) Q E sh := by
  obtain ⟨ga, ⟨mc, p, rest, h1, h2, h3⟩, fi⟩ := h
  rw [← hK] at ga h1 h2 h3 fi
  exact ClX.getmethcm_ok I ⟨h1, ga⟩ ⟨h2, ⟨rest, h3⟩, fi⟩ fun s' I' => k _ s' I'
/-- the call of a class's bound method -/
theorem callWith_zm {q g : Addr} {self : Value} {args : List Expr} {cs ws : CAs} {kws : List Keyword} {ks : List Str} {Qf : Value → Shared → Prop} {Kq : List V → List V → Hp → Prop} (hK : X.K = Z.T.K) (hf : PySem.W.fnIn X.K g = true) (hs : args.any isStar = false)
    (ha : ArgsZ Z G W X args cs) (hw : KwsZ Z G W X kws ks ws) (I : Inv X ((q, PySem.W.methodObj (.ref g) self) :: pins) σ H sh) (h : tDA Z G W cs σ H fun vs H1 => tDA Z G W ws σ H1 fun zs H2 => Kq vs zs H2)
    (k : ∀ us wv s1 vs zs H1, Inv X ((q, PySem.W.methodObj (.ref g) self) :: pins) σ H1 s1 → Vals vs us → Vals zs wv → Kq vs zs H1 → wpAny (model X.prog X.w) X.A (call (.ref q) us (ks.zip wv)) Qf X.xe s1) :
    wpAny (model X.prog X.w) X.A (callWith pos (.ref q) [] (backTo pos (starEach args X.env)) (backToKw pos (keywordEach kws X.env))) Qf X.xe sh := by
  obtain ⟨n1, n2, n3⟩ := hw.names (pos := pos) (env := X.env)
  cases ha with
  | nil =>
    obtain ⟨F, τ, s, q, h⟩ := h
    have h' := h.ok q (show RepL Z.T F [] [] from rfl)
    refine PySem.W.callWith_of (by show (false || _) = false; rw [n3]; rfl) (PySem.W.keeps_M (self := self) hf) (evalArgs_kw2_nil n2 (thn (hw.pk.run pos _ sh σ H _ I h') fun wv s1 ⟨zs, H1, I1, r, q1⟩ => ⟨⟨ClX.pin_at I1, I1.kIn⟩, ?_⟩))
    rw [n1]
    exact k [] wv s1 [] zs H1 I1 .nil r q1
  | @cons e es c cs hp he hr =>
    rw [List.any_cons, Bool.or_eq_false_iff] at hs
    have pa := (ArgsZ.cons hp he hr).pa hK
    refine PySem.W.callWith_of (by rw [backTo_any, List.any_cons, hs.1, hs.2, n3]; rfl) (PySem.W.keeps_M (self := self) hf) (evalArgs_kw2 n2 (thn (pa.run pos _ sh σ H _ I h) fun us s1 ⟨vs, H1, I1, r, q1⟩ => thn (hw.pk.run pos _ s1 σ H1 _ I1 q1) fun wv s2 ⟨zs, H2, I2, r2, q2⟩ => ⟨⟨ClX.pin_at I2, I2.kIn⟩, ?_⟩) (starEach_plain hp))
    rw [n1]
    exact k us wv s2 vs zs H2 I2 r r2 q2
  | star he hr => cases hs
theorem methOk_star {args : List Expr} {apos pos : Pos} (h : methOk args apos pos = true) : args.any isStar = false := by
  unfold methOk at h
  simp only [Bool.and_eq_true, Bool.not_eq_true'] at h
  exact h.1.1
theorem de_smeth {c : Nat} {x : Str} {m : Str} {mid : Nat} {args : List Expr} {cs : CAs} {p0 apos pos : Pos} (hK : X.K = Z.T.K) (FZ : ∀ f, FnZ Z X f) (MS : ∀ f, Z.P.smeth c mid = some (false, f) → SmZ Z.T c m f) (CM : ∀ f, Z.P.smeth c mid = some (true, f) → CmZ Z.T c m f) (tk : Takes X W) (hg : Gl X x) (hmg : X.mg x = some (.ref (Z.T.cA c))) (hd : (x == ("__debug__" : Str)) = false)
    (ha : ArgsZ Z G W X args cs) (hm : methOk args apos pos = true) : PE X (.Call (.Attribute (.Name x p0) m apos) args [] pos) (tD Z G W (.smeth c mid cs)) := by
  have hs : argsOk args = true := by
    unfold methOk at hm
    simp only [Bool.and_eq_true, Bool.not_eq_true'] at hm
    cases args with
    | nil => rfl
    | cons e es =>
      have := hm.1.1
      rw [List.any_cons, Bool.or_eq_false_iff] at this
      simp [argsOk, this.1]
  refine ⟨fun pins sh σ H Q I h => ?_⟩
  obtain ⟨F0, τ, s, q, h⟩ := h
  simp only [ev] at h
  refine PySem.W.methodCall_KW (ld_glob I hg hmg ?_ hd) (meth_eval rfl hm)
  cases em : Z.P.smeth c mid with
  | none => rw [em] at h; exact h.elim
  | some bf =>
    obtain ⟨b, f⟩ := bf
    cases b with
    | true =>
      rw [em] at h
      simp only at h
      refine getcm_ok hK I (CM f em) fun q' s' I' => ?_
      refine callWith_zm (kws := []) (ks := []) (ws := .nil) (Kq := fun vs zs H3 => spF Z f (.ref (Z.T.cA c) :: vs) H3 Q (fun c d H' => W c d σ H') ∧ zs = []) hK (by rw [hK]; exact (CM f em).fi) (methOk_star hm) ha .nil I' ⟨F0, τ, s, q, h.bind fun xs vs τ1 s1 F1 H1 e1 q1 r1 h1 => ⟨F1, τ1, s1, q1, fun zs H2 F2 e2 q2 r2 => by
        cases r2
        exact ⟨spF_of q2 (show RepL Z.T F2 (.cls c :: xs) (.ref (Z.T.cA c) :: vs) from ⟨_, _, rfl, rfl, r1.mono e2⟩) (h1.mono e2), rfl⟩⟩⟩ fun us wv s1 vs zs H1 I1 r r2 hq => ?_
      obtain ⟨hq, rfl⟩ := hq
      cases r2
      exact thn (wpAny_call (PySem.W.method_call (ClX.pin_at I1) (run_z (us := .ref (Z.T.cA c) :: us) (vs := .ref (Z.T.cA c) :: vs) (FZ f) tk I1 (.cons rfl r) hq))) fun _ _ y => ClX.unpinE y
    | false =>
      rw [em] at h
      simp only at h
      refine getsm_ok hK I (MS f em) fun s' I' => ?_
      refine callWith_z (first := []) hK (by rw [hK]; exact (MS f em).kp) hs ha I' ⟨F0, τ, s, q, h.bind fun xs vs τ1 s1 F1 H1 e1 q1 r1 h1 => spF_of q1 r1 h1⟩ fun us s1 vs H1 I1 r hq => ?_
      exact wpAny_call (run_z (FZ f) tk I1 r hq)
theorem de_smethK {c : Nat} {x : Str} {m : Str} {mid : Nat} {args : List Expr} {cs ws : CAs} {kws : List Keyword} {ks : List Str} {p0 apos pos : Pos} (hK : X.K = Z.T.K) (FZ : ∀ f, FnZ Z X f) (MS : ∀ f, Z.P.smeth c mid = some (false, f) → SmZ Z.T c m f) (CM : ∀ f, Z.P.smeth c mid = some (true, f) → CmZ Z.T c m f) (hkw : ∀ f, Z.P.kwn f ≠ [] → KwOk Z.T.K (Z.T.fA f) (Z.P.kwn f)) (tk : Takes X W) (hg : Gl X x) (hmg : X.mg x = some (.ref (Z.T.cA c))) (hd : (x == ("__debug__" : Str)) = false)
    (ha : ArgsZ Z G W X args cs) (hw : KwsZ Z G W X kws ks ws) (hm : methOkK args kws apos pos = true) : PE X (.Call (.Attribute (.Name x p0) m apos) args kws pos) (tD Z G W (.smethK c mid cs ks ws)) := by
  have hs : args.any isStar = false := by
    unfold methOkK at hm
    simp only [Bool.and_eq_true, Bool.not_eq_true'] at hm
    exact hm.1.1
  refine ⟨fun pins sh σ H Q I h => ?_⟩
  obtain ⟨F0, τ, s, q, h⟩ := h
  simp only [ev] at h
  refine PySem.W.methodCall_KW (ld_glob I hg hmg ?_ hd) (meth_evalK rfl hm (hw.names (pos := pos) (env := X.env)).2.1)
  cases em : Z.P.smeth c mid with
  | none => rw [em] at h; exact h.elim
  | some bf =>
    obtain ⟨b, f⟩ := bf
    cases b with
    | true =>
      rw [em] at h
      simp only at h
      refine getcm_ok hK I (CM f em) fun q' s' I' => ?_
      refine callWith_zm (Kq := fun vs zs H3 => Z.P.kwn f ≠ [] ∧ ∃ vs', spF Z f vs' H3 Q (fun c d H' => W c d σ H') ∧ ∀ us wv, Vals (.ref (Z.T.cA c) :: vs) us → Vals zs wv → ∃ us', Vals vs' us' ∧ ∀ fd, PlainK fd (Z.P.kwn f) → bindArgs fd ⟨us, ks.zip wv⟩ = bindArgs fd ⟨us', []⟩) hK (by rw [hK]; exact (CM f em).fi) hs ha hw I' ⟨F0, τ, s, q, h.bind fun ys vs τ1 s1 F1 H1 e1 q1 r1 h1 => ⟨F1, τ1, s1, q1, h1.bind fun yz zs τ3 s3 F3 H3 e3 q3 r3 h3 => ?_⟩⟩ fun us wv s2 vs zs H2 I2 r r2 ⟨hne, vs', hq, av⟩ => ?_
      · cases ea : arr2 (Z.P.kwn f) (.cls c :: ys) ks yz with
        | none => rw [ea] at h3; exact h3.elim
        | some xs =>
          rw [ea] at h3
          obtain ⟨vs', rv, av⟩ := arr2_ok ea (show RepL Z.T F3 (.cls c :: ys) (.ref (Z.T.cA c) :: vs) from ⟨_, _, rfl, rfl, r1.mono e3⟩) r3
          refine ⟨fun z => ?_, vs', spF_of q3 rv h3, av⟩
          rw [z] at ea
          unfold arr2 at ea
          split at ea <;> simp [arrG] at ea
      · obtain ⟨us', rv', hb'⟩ := av (.ref (Z.T.cA c) :: us) wv (.cons rfl r) r2
        have hko := hkw f hne
        rw [← hK] at hko
        exact thn (wpAny_call (PySem.W.method_call (ClX.pin_at I2) (run_zk (us := us') (vs := vs') (FZ f) tk I2 rv' hq fun oc od fd osl lk => hb' fd (hko oc od fd osl lk)))) fun _ _ y => ClX.unpinE y
    | false =>
      rw [em] at h
      simp only at h
      refine getsm_ok hK I (MS f em) fun s' I' => ?_
      refine callWith_zk (first := []) (Kq := fun vs zs H3 => Z.P.kwn f ≠ [] ∧ ∃ vs', spF Z f vs' H3 Q (fun c d H' => W c d σ H') ∧ ∀ us wv, Vals vs us → Vals zs wv → ∃ us', Vals vs' us' ∧ ∀ fd, PlainK fd (Z.P.kwn f) → bindArgs fd ⟨us, ks.zip wv⟩ = bindArgs fd ⟨us', []⟩) hK (by rw [hK]; exact (MS f em).kp) hs ha hw I' ⟨F0, τ, s, q, h.bind fun ys vs τ1 s1 F1 H1 e1 q1 r1 h1 => ⟨F1, τ1, s1, q1, h1.bind fun yz zs τ3 s3 F3 H3 e3 q3 r3 h3 => ?_⟩⟩ fun us wv s2 vs zs H2 I2 r r2 ⟨hne, vs', hq, av⟩ => ?_
      · cases ea : arr2 (Z.P.kwn f) ys ks yz with
        | none => rw [ea] at h3; exact h3.elim
        | some xs =>
          rw [ea] at h3
          obtain ⟨vs', rv, av⟩ := arr2_ok ea (r1.mono e3) r3
          refine ⟨fun z => ?_, vs', spF_of q3 rv h3, av⟩
          rw [z] at ea
          unfold arr2 at ea
          split at ea <;> simp [arrG] at ea
      · obtain ⟨us', rv', hb'⟩ := av us wv r r2
        have hko := hkw f hne
        rw [← hK] at hko
        exact wpAny_call (run_zk (us := us') (vs := vs') (FZ f) tk I2 rv' hq fun oc od fd osl lk => hb' fd (hko oc od fd osl lk))
/-- cls(..), cls a local name -/
theorem de_makeV {i c : Nat} {x : Str} {args : List Expr} {cs : CAs} {p pos : Pos} (hK : X.K = Z.T.K) (FI : FnI Z X c) (tk : Takes X W) (hx : PE X (.Name x p) (tVar i)) (hk : PySem.W.keepIn X.K (.ref (Z.T.cA c)) = true) (hs : argsOk args = true) (ha : ArgsZ Z G W X args cs) :
    PE X (.Call (.Name x p) args [] pos) (tD Z G W (.makeV i c cs)) := by
  refine ⟨fun pins sh σ H Q I h => ?_⟩
  obtain ⟨F0, τ, s, q, h⟩ := h
  simp only [ev] at h
  cases hi : τ[i]? with
  | none => rw [hi] at h; exact h.elim
  | some sl =>
    rw [hi] at h
    cases sl with
    | fz d =>
      cases d with
      | cls k =>
        simp only at h
        cases hkc : k == c with
        | false => rw [hkc] at h; exact h.elim
        | true =>
          rw [hkc] at h
          obtain rfl : k = c := by simpa using hkc
          obtain ⟨v, e1, r⟩ := q.sl i _ hi
          obtain rfl : v = .ref (Z.T.cA k) := r
          obtain ⟨kk, f, hr, hgd, Fn, M⟩ := FI
          refine wpAny_Call_Name_kw (thn (hx.run pins sh σ H (fun v H1 => v = .ref (Z.T.cA k) ∧ H1 = H) I ⟨_, getD_of e1, rfl, rfl⟩) fun u s1 ⟨v, H1, I1, rx, ev1, eH⟩ => ?_)
          subst ev1
          subst eH
          obtain rfl : u = Value.ref (Z.T.cA k) := rx
          simp only [cond_true] at h
          refine callWith_z (first := []) (Kq := fun vs H1 => (∃ ds s, Z.make k ds s ≠ .no) ∧ ∀ x dx, H1 x = none → H1 dx = none → dx ≠ x → spI Z k (.ref x :: vs) (upd (upd H1 dx (.own x)) x (.ins (Z.T.cA k) dx [])) (fun v H2 => v = .non ∧ Q (.ref x) H2) (fun c d H' => W c d σ H')) hK hk hs ha I1
            ⟨F0, τ, s, q, h.bind fun ds vs τ1 s1 F1 H1 e1 q1 r1 h1 => ⟨⟨ds, s1, fun z => by rw [z] at h1; exact h1⟩, fun x dx hx hdx hne => ?_⟩⟩ fun us s1 vs H1 I1 r ⟨hq0, hq⟩ => ?_
          · have hp : x ≠ Z.T.pen := fun z => by rw [z, q1.pen] at hx; cases hx
            have hp2 : dx ≠ Z.T.pen := fun z => by rw [z, q1.pen] at hdx; cases hdx
            refine ⟨F1, ds, s1, x, dx, vs, rfl, upd_same, q1.fh.none hx, hp, fun a o e => ?_, ?_, q1.penF, q1.pinv, r1, q1.tb.ext (Sub.refl _) (fun p hp => q1.tF hp) (fun p hp o e => by rw [upd_ne (ne_of_none e hx), upd_ne (ne_of_none e hdx)]; exact e), ?_⟩
            · have e' := q1.fh a o e
              rw [upd_ne (ne_of_none e' hx), upd_ne (ne_of_none e' hdx)]; exact e'
            · rw [upd_ne (Ne.symm hp), upd_ne (Ne.symm hp2)]; exact q1.pen
            · cases em : Z.make k ds s1 with
              | ok d s' =>
                rw [em] at h1
                exact fun H' F' kf r => ⟨rfl, h1 _ H' F' kf.ff (q1.call (kf.fr hx hdx)) r⟩
              | exc c' fs s' =>
                rw [em] at h1
                exact fun H' F' od kf r => h1 H' F' od kf.ff (q1.call (kf.fr hx hdx)) r
              | no => rw [em] at h1; exact h1
          · exact run_mk (M hq0) Fn (hr.mono (Nat.le_succ _)) hgd tk I1 r hq
      | _ => exact h.elim
    | _ => exact h.elim
end
end Rz
end

section
set_option autoImplicit false
set_option Elab.async false
set_option linter.all false
set_option maxHeartbeats 1000000
set_option maxRecDepth 100000
namespace Rz
open PySem PySem.Spec PyProof.Rows L2

theorem _root_.L2.PI.imp {X : Cx} {tg e : Expr} {t t' : TI} (h : PI X tg e t) (k : ∀ σ H R, t' σ H R → t σ H R) : PI X tg e t' := ⟨fun pins s σ H R I q => h.run pins s σ H R I (k σ H R q)⟩

/-- an item: an old value, or a new pair -/
def YD (T : Tb) (F : Hp) (ds : List D) : Nat → Hp → V → Hp → Prop := fun i H x H' =>
  ∃ d, ds[i]? = some d ∧ ((H' = H ∧ Rep T F d x) ∨ ∃ p d1 d2 v1 v2, d = .tup [d1, d2] ∧ x = .ref p ∧ H p = none ∧ H' = upd H p (.tup [v1, v2]) ∧ Rep T F d1 v1 ∧ Rep T F d2 v2)
def WalkD (T : Tb) (F : Hp) (ds : List D) (J : It) : Prop := Walk J ds.length (fun H => Sub F H) (YD T F ds)

section
variable {T : Tb} {F : Hp} {ds es : List D} {xs ys : List V} {a b : Addr}
theorem walkD_list (ha : F a = some (.lst xs)) (r : RepL T F ds xs) : WalkD T F ds (Itl T.K a) := by
  unfold WalkD
  rw [← r.length]
  refine walk_list.mono (fun H h => SqL.of (h _ _ ha)) fun i H x H' hi _ ⟨e, hx⟩ => ?_
  have hi' : i < ds.length := by rw [← r.length]; exact hi
  obtain ⟨v, e1, e2⟩ := r.get (i := i) (d := ds[i]) (by simp)
  rw [hx] at e1; cases e1
  exact ⟨ds[i], by simp, .inl ⟨e, e2⟩⟩
theorem walkD_tup (ha : SqT T.K F a xs) (r : RepL T F ds xs) : WalkD T F ds (Itt T.K a) := by
  unfold WalkD
  rw [← r.length]
  refine walk_tup.mono (fun H h => h.sqT ha) fun i H x H' hi _ ⟨e, hx⟩ => ?_
  have hi' : i < ds.length := by rw [← r.length]; exact hi
  obtain ⟨v, e1, e2⟩ := r.get (i := i) (d := ds[i]) (by simp)
  rw [hx] at e1; cases e1
  exact ⟨ds[i], by simp, .inl ⟨e, e2⟩⟩
theorem walkD_range {lo : Int} {n : Nat} : WalkD T F (rangeD lo n) (Itr lo n) := by
  unfold WalkD
  have e : (rangeD lo n).length = n := by simp [rangeD]
  rw [e]
  refine walk_range.mono (fun _ _ => trivial) fun i H x H' hi _ ⟨e, hx⟩ => ?_
  exact ⟨.int (lo + i), by simp [rangeD, hi], .inl ⟨e, hx⟩⟩
theorem walkD_rangeDn {lo : Int} {n : Nat} : WalkD T F (rangeDn lo n) (Itc lo (-1) n) := by
  unfold WalkD
  have e : (rangeDn lo n).length = n := by simp [rangeDn]
  rw [e]
  refine walk_rangeC.mono (fun _ _ => trivial) fun i H x H' hi _ ⟨e, hx⟩ => ?_
  refine ⟨.int (lo - i), by simp [rangeDn, hi], .inl ⟨e, ?_⟩⟩
  rw [hx]
  show V.int _ = V.int _
  congr 1
  omega
theorem walkD_str {z : Str} : WalkD T F (z.cps.toList.map fun c => D.str ⟨#[c]⟩) (Its z) := by
  unfold WalkD
  have e : (z.cps.toList.map fun c => D.str ⟨#[c]⟩).length = z.cps.size := by simp
  rw [e]
  refine walk_str.mono (fun _ _ => trivial) fun i H x H' hi _ ⟨e, c, hc, hx⟩ => ?_
  refine ⟨.str ⟨#[c]⟩, ?_, .inl ⟨e, hx⟩⟩
  rw [List.getElem?_map]
  have : z.cps.toList[i]? = some c := by rw [← hc]; simp
  rw [this]; rfl
theorem enum_get {ds : List D} {i : Nat} {d : D} (h : ds[i]? = some d) : (enumD ds)[i]? = some (.tup [.int i, d]) := by
  unfold enumD
  rw [List.getElem?_map, List.getElem?_zipIdx, h]
  simp
theorem enum_len {ds : List D} : (enumD ds).length = ds.length := by simp [enumD]
theorem walkD_enumL (ha : F a = some (.lst xs)) (r : RepL T F ds xs) : WalkD T F (enumD ds) (Ite T.K a) := by
  unfold WalkD
  rw [enum_len, ← r.length]
  refine walk_enum.mono (fun H h => SqL.of (h _ _ ha)) fun i H x H' hi _ ⟨p, x1, y1, e1, e2, e3, e4, e5⟩ => ?_
  have hi' : i < ds.length := by rw [← r.length]; exact hi
  obtain ⟨v, q1, q2⟩ := r.get (i := i) (d := ds[i]) (by simp)
  obtain rfl : v = y1 := Option.some.inj (q1.symm.trans e5)
  cases e4
  exact ⟨_, enum_get (List.getElem?_eq_getElem hi'), .inr ⟨p, .int i, ds[i], .int i, v, rfl, e1, e2, e3, rfl, q2⟩⟩
theorem walk_enumT {K : PySem.W.Frag} : Walk (IteT K a) xs.length (fun H => SqT K H a xs) (YPair (fun i => some (.int (i : Nat))) (fun i => xs[i]?)) := by
  refine ⟨fun i _ hi q => ⟨xs, xs[i], q, by simp [hi]⟩, fun _ q => ⟨xs, q, Nat.le_refl _⟩, fun i H v H' _ q y => ?_⟩
  obtain ⟨T, x, h1, h2, h3, h4⟩ := y
  exact ⟨T, .int (i : Nat), x, h1, h2, h3, rfl, h4 xs q⟩
theorem walkD_enumT (ha : SqT T.K F a xs) (r : RepL T F ds xs) : WalkD T F (enumD ds) (IteT T.K a) := by
  unfold WalkD
  rw [enum_len, ← r.length]
  refine walk_enumT.mono (fun H h => h.sqT ha) fun i H x H' hi _ ⟨p, x1, y1, e1, e2, e3, e4, e5⟩ => ?_
  have hi' : i < ds.length := by rw [← r.length]; exact hi
  obtain ⟨v, q1, q2⟩ := r.get (i := i) (d := ds[i]) (by simp)
  obtain rfl : v = y1 := Option.some.inj (q1.symm.trans e5)
  cases e4
  exact ⟨_, enum_get (List.getElem?_eq_getElem hi'), .inr ⟨p, .int i, ds[i], .int i, v, rfl, e1, e2, e3, rfl, q2⟩⟩
def zipD (ds es : List D) : List D := (ds.zip es).map fun p => .tup [p.1, p.2]
theorem zip_len : (zipD ds es).length = min ds.length es.length := by simp [zipD]
theorem zip_get {i : Nat} {d e : D} (h : ds[i]? = some d) (k : es[i]? = some e) : (zipD ds es)[i]? = some (.tup [d, e]) := by
  unfold zipD
  rw [List.getElem?_map, List.getElem?_zip_eq_some (z := (d, e)) |>.mpr ⟨h, k⟩]
  rfl
theorem walk_zipTT {K : PySem.W.Frag} {n : Nat} (hn : n = min xs.length ys.length) : Walk (RZ.ItzT K a b) n (fun H => SqT K H a xs ∧ SqT K H b ys) (YPair (fun i => xs[i]?) (fun i => ys[i]?)) := by
  subst hn
  refine ⟨fun i _ hi q => ?_, fun _ q => ⟨xs, ys, q.1, q.2, by omega⟩, fun i H v H' _ q y => ?_⟩
  · have h1 : i < xs.length := by omega
    have h2 : i < ys.length := by omega
    exact ⟨xs, ys, xs[i], ys[i], q.1, q.2, by simp [h1], by simp [h2]⟩
  · obtain ⟨T, x, z, h1, h2, h3, h4, h5⟩ := y
    exact ⟨T, x, z, h1, h2, h3, h4 xs q.1, h5 ys q.2⟩
theorem walkD_zipL (ha : F a = some (.lst xs)) (hb : F b = some (.lst ys)) (r : RepL T F ds xs) (q : RepL T F es ys) : WalkD T F (zipD ds es) (Itz T.K a b) := by
  unfold WalkD
  rw [zip_len]
  refine (walk_zip (xs := xs) (ys := ys) (by rw [r.length, q.length])).mono (fun H h => ⟨SqL.of (h _ _ ha), SqL.of (h _ _ hb)⟩) fun i H x H' hi _ ⟨p, x1, y1, e1, e2, e3, e4, e5⟩ => ?_
  have h1 : i < ds.length := by omega
  have h2 : i < es.length := by omega
  obtain ⟨v, q1, q2⟩ := r.get (i := i) (d := ds[i]) (by simp)
  obtain ⟨w, q3, q4⟩ := q.get (i := i) (d := es[i]) (by simp)
  obtain rfl : v = x1 := Option.some.inj (q1.symm.trans e4)
  obtain rfl : w = y1 := Option.some.inj (q3.symm.trans e5)
  exact ⟨_, zip_get (List.getElem?_eq_getElem h1) (List.getElem?_eq_getElem h2), .inr ⟨p, ds[i], es[i], v, w, rfl, e1, e2, e3, q2, q4⟩⟩
theorem walkD_zipT (ha : SqT T.K F a xs) (hb : SqT T.K F b ys) (r : RepL T F ds xs) (q : RepL T F es ys) : WalkD T F (zipD ds es) (RZ.ItzT T.K a b) := by
  unfold WalkD
  rw [zip_len]
  refine (walk_zipTT (xs := xs) (ys := ys) (by rw [r.length, q.length])).mono (fun H h => ⟨h.sqT ha, h.sqT hb⟩) fun i H x H' hi _ ⟨p, x1, y1, e1, e2, e3, e4, e5⟩ => ?_
  have h1 : i < ds.length := by omega
  have h2 : i < es.length := by omega
  obtain ⟨v, q1, q2⟩ := r.get (i := i) (d := ds[i]) (by simp)
  obtain ⟨w, q3, q4⟩ := q.get (i := i) (d := es[i]) (by simp)
  obtain rfl : v = x1 := Option.some.inj (q1.symm.trans e4)
  obtain rfl : w = y1 := Option.some.inj (q3.symm.trans e5)
  exact ⟨_, zip_get (List.getElem?_eq_getElem h1) (List.getElem?_eq_getElem h2), .inr ⟨p, ds[i], es[i], v, w, rfl, e1, e2, e3, q2, q4⟩⟩
theorem walkD_zipM {t u : Bool} (ha : ∀ H, Sub F H → SqX T.K t H a xs) (hb : ∀ H, Sub F H → SqX T.K u H b ys) (r : RepL T F ds xs) (q : RepL T F es ys) : WalkD T F (zipD ds es) (Itm T.K t u a b) := by
  unfold WalkD
  rw [zip_len]
  refine (walk_zipM (xs := xs) (ys := ys) (by rw [r.length, q.length])).mono (fun H h => ⟨ha H h, hb H h⟩) fun i H x H' hi _ ⟨p, x1, y1, e1, e2, e3, e4, e5⟩ => ?_
  have h1 : i < ds.length := by omega
  have h2 : i < es.length := by omega
  obtain ⟨v, q1, q2⟩ := r.get (i := i) (d := ds[i]) (by simp)
  obtain ⟨w, q3, q4⟩ := q.get (i := i) (d := es[i]) (by simp)
  obtain rfl : v = x1 := Option.some.inj (q1.symm.trans e4)
  obtain rfl : w = y1 := Option.some.inj (q3.symm.trans e5)
  exact ⟨_, zip_get (List.getElem?_eq_getElem h1) (List.getElem?_eq_getElem h2), .inr ⟨p, ds[i], es[i], v, w, rfl, e1, e2, e3, q2, q4⟩⟩
end

section
variable {S : Type} [Pen S] {Z : Cz S} {G : Fm} {W : WX} {X : Cx} {tg : Expr}
/-- the reading of what is walked -/
def iD (Z : Cz S) (G : Fm) (W : WX) (c : CI) : TI := fun σ H R => ∃ F τ s, SR Z.T Z.pn G F H σ τ s ∧ Post Z G (WalkD Z.T) F σ R W (evI Z.P Z.call Z.make c τ s)

/-- a value that is walked: a list, a tuple, a text -/
def iAny (K : PySem.W.Frag) (tl : TE) : TI := fun σ H R => tl σ H fun x H1 => (∃ a xs, x = .ref a ∧ SqL K H1 a xs ∧ R (Itl K a) H1) ∨ (∃ a xs, x = .ref a ∧ SqT K H1 a xs ∧ R (Itt K a) H1) ∨ ∃ z, x = .str z ∧ R (Its z) H1
theorem pi_any {e : Expr} {te : TE} (he : PE X e te) : PI X tg e (iAny X.K te) := by
  refine ⟨fun pins s σ H R I h => ?_⟩
  refine thn (he.run pins s σ H _ I h) fun v s1 ⟨x, H1, I1, r1, q1⟩ => ?_
  rcases q1 with ⟨a, xs, e, hq, q⟩ | ⟨a, xs, e, hq, q⟩ | ⟨z, e, q⟩
  · subst e
    cases r1
    obtain ⟨its, rv, p, hz⟩ := I1.list hq
    refine wpAny_pyIter_list p.isList ?_
    exact pi_one (tk := s1.toks) I1 _ (turn_list a _) ⟨_, Heap.get?_push_size _ rfl, rfl, rfl⟩ q
  · subst e
    cases r1
    obtain ⟨its, rv, p, hz⟩ := I1.tuple hq
    refine wpAny_pyIter_tuple (show s1.heap.IsTuple a its.toArray from p) ?_
    exact pi_one (tk := s1.toks) I1 _ (turn_tuple a _) ⟨_, Heap.get?_push_size _ rfl, rfl, rfl⟩ q
  · subst e
    obtain ⟨t, rfl⟩ := r1
    cases ha : z.cps.all (· < 128)
    · exact wpAny_pyIter_wide ha (pi_one (tk := s1.toks) I1 _ (turn_str _ z t "str_iterator" (.inr rfl)) ⟨_, Heap.get?_push_size _ rfl, rfl, rfl⟩ q)
    · exact wpAny_pyIter_ascii ha (pi_one (tk := s1.toks) I1 _ (turn_str _ z t "str_ascii_iterator" (.inl rfl)) ⟨_, Heap.get?_push_size _ rfl, rfl, rfl⟩ q)

theorem di_e {e : Expr} {c : CE} (hK : X.K = Z.T.K) (he : PE X e (tD Z G W c)) : PI X tg e (iD Z G W (.e c)) := (pi_any he).imp fun σ H R => by
  rintro ⟨F, τ, s, q, h⟩
  simp only [evI] at h
  refine ⟨F, τ, s, q, h.bind fun x v τ1 s1 F1 H1 e1 q1 r1 h1 => ?_⟩
  rw [hK]
  obtain ⟨ds, e2, h1⟩ := h1.of
  cases x with
  | lst xs =>
    cases e2
    obtain ⟨a, vs, ev, hs, rl⟩ := r1
    exact .inl ⟨a, vs, ev, SqL.of (q1.fh _ _ hs), h1.ok q1 (walkD_list hs rl)⟩
  | tup xs =>
    cases e2
    obtain ⟨a, vs, ev, hs, rl⟩ := r1
    exact .inr (.inl ⟨a, vs, ev, q1.fh.sqT hs, h1.ok q1 (walkD_tup hs rl)⟩)
  | str z =>
    refine .inr (.inr ⟨z, r1, ?_⟩)
    simp only [itemsV] at e2
    cases hl : lim z.length with
    | false => rw [hl] at e2; cases e2
    | true => rw [hl] at e2; cases e2; exact h1.ok q1 walkD_str
  | _ => cases e2

/-- one argument, two -/
theorem da_one {e : Expr} {c : CE} (he : PE X e (tD Z G W c)) (hs : isStar e = false) : PA X [e] (tDA Z G W (.cons false c .nil)) := da_cons he da_nil (starEach_plain hs)
theorem da_two {e f : Expr} {c d : CE} (he : PE X e (tD Z G W c)) (hf : PE X f (tD Z G W d)) (hs : isStar e = false) (hs2 : isStar f = false) : PA X [e, f] (tDA Z G W (.cons false c (.cons false d .nil))) := da_cons he (da_one hf hs2) (starEach_plain hs)
theorem small62 {i : Int} (h : lim i.natAbs = true) : -(2 ^ 62) ≤ i ∧ i < 2 ^ 62 := by
  have := lim_of h
  omega
theorem di_r1 {a : Expr} {c : CE} {p pos : Pos} (hg : Gl X "range") (hm : X.mg "range" = none) (he : PE X a (tD Z G W c)) (hs : isStar a = false) : PI X tg (.Call (.Name "range" p) [a] [] pos) (iD Z G W (.r1 c)) :=
  (pi_range1 hg hm (da_one he hs) (starEach_plain hs)).imp fun σ H R => by
    rintro ⟨F, τ, s, q, h⟩
    simp only [evI] at h
    refine ⟨F, τ, s, q, ?_⟩
    simp only [evA]
    cases hx : ev Z.P Z.call Z.make c τ s with
    | no => rw [hx] at h; exact h.elim
    | exc k fs τ1 s1 => rw [hx] at h; exact h
    | ok x τ1 s1 =>
      rw [hx] at h
      intro vs H1 F1 e1 q1 r1
      have h1 := Post.mono e1 h
      obtain ⟨v, r, rfl, rx, rr⟩ := r1
      cases rr
      cases x with
      | int n =>
        obtain ⟨hl, h1⟩ := Post.bif h1
        cases rx
        exact ⟨n, rfl, (small62 hl).1, (small62 hl).2, h1.ok q1 walkD_range⟩
      | _ => exact h1.elim
theorem ev_two {α β : Type} {Rp : Hp → α → β → Prop} {F : Hp} {σ : L2.St} {τ : List Slot} {s : S} {a b : CE} {k : D → D → List Slot → S → Out S α} {Q : β → Hp → Prop} {K : List V → Hp → Prop}
    (h : Post Z G Rp F σ Q W ((ev Z.P Z.call Z.make a τ s).bind fun x τ s => (ev Z.P Z.call Z.make b τ s).bind fun y τ s => k x y τ s))
    (go : ∀ x y v w τ1 s1 F1 H1, Sub F F1 → SR Z.T Z.pn G F1 H1 σ τ1 s1 → Rep Z.T F1 x v → Rep Z.T F1 y w → Post Z G Rp F1 σ Q W (k x y τ1 s1) → K [v, w] H1) :
    Post Z G (RepL Z.T) F σ K W (evA Z.P Z.call Z.make (.cons false a (.cons false b .nil)) τ s) := by
  simp only [evA]
  cases hx : ev Z.P Z.call Z.make a τ s with
  | no => rw [hx] at h; exact h.elim
  | exc k fs τ1 s1 => rw [hx] at h; exact h
  | ok x τ1 s1 =>
    rw [hx] at h
    simp only [Out.bind] at h ⊢
    cases hy : ev Z.P Z.call Z.make b τ1 s1 with
    | no => rw [hy] at h; exact h.elim
    | exc k fs τ1 s1 => rw [hy] at h; exact h
    | ok y τ2 s2 =>
      rw [hy] at h
      intro vs H1 F1 e1 q1 r1
      obtain ⟨v, r, rfl, rx, w, r', rfl, ry, rr⟩ := r1
      cases rr
      exact go x y v w τ2 s2 F1 H1 e1 q1 rx ry (Post.mono e1 h)
theorem di_r2 {a b : Expr} {c d : CE} {p pos : Pos} (hg : Gl X "range") (hm : X.mg "range" = none) (ha : PE X a (tD Z G W c)) (hb : PE X b (tD Z G W d)) (hs : isStar a = false) (hs2 : isStar b = false) : PI X tg (.Call (.Name "range" p) [a, b] [] pos) (iD Z G W (.r2 c d)) :=
  (pi_range2 hg hm (da_two ha hb hs hs2) (by rw [starEach_plain hs, starEach_plain hs2]; rfl) (starEach_plain hs2)).imp fun σ H R => by
    rintro ⟨F, τ, s, q, h⟩
    simp only [evI] at h
    refine ⟨F, τ, s, q, ev_two h fun x y v w τ1 s1 F1 H1 e1 q1 rx ry h1 => ?_⟩
    cases x with
    | int i =>
      cases y with
      | int j =>
        obtain ⟨hl, h1⟩ := Post.bif h1
        simp only [Bool.and_eq_true] at hl
        cases rx; cases ry
        exact ⟨i, j, rfl, ⟨(small62 hl.1.2).1, (small62 hl.1.2).2, (small62 hl.2).1, (small62 hl.2).2⟩, h1.ok q1 walkD_range⟩
      | _ => exact h1.elim
    | _ => exact h1.elim
theorem di_rd {a b : Expr} {c d : CE} {p pos p3 p4 : Pos} {n3 : Nat} (hg : Gl X "range") (hm : X.mg "range" = none) (ha : PE X a (tD Z G W c)) (hb : PE X b (tD Z G W d)) (hs : isStar a = false) (hs2 : isStar b = false) :
    PI X tg (.Call (.Name "range" p) [a, b, .UnaryOp .USub (.Constant (.int 1) n3 p3) p4] [] pos) (iD Z G W (.rd c d)) := by
  have h3 : PE X (.UnaryOp .USub (.Constant (.int 1) n3 p3) p4) (fun σ H Q => Q (.int (-1)) H) := (pe_un un_neg pe_int).imp fun σ H Q h => ⟨1, rfl, h⟩
  have pa : PA X [a, b, .UnaryOp .USub (.Constant (.int 1) n3 p3) p4] (fun σ H Q => tD Z G W c σ H fun v H1 => tD Z G W d σ H1 fun w H2 => Q [v, w, .int (-1)] H2) := (pa_cons ha (pa_cons hb (pa_cons h3 pa_nil rfl) (starEach_plain hs2)) (starEach_plain hs)).imp fun σ H Q h => h
  refine (pi_range3 hg hm pa (starEach_plain hs) (by rw [starEach_plain hs2]; rfl)).imp fun σ H R => ?_
  rintro ⟨F, τ, s, q, h⟩
  simp only [evI] at h
  refine ⟨F, τ, s, q, ?_⟩
  cases hx : ev Z.P Z.call Z.make c τ s with
  | no => rw [hx] at h; exact h.elim
  | exc k fs τ1 s1 => rw [hx] at h; exact h
  | ok x τ1 s1 =>
    rw [hx] at h
    intro v H1 F1 e1 q1 rx
    simp only [Out.bind] at h
    refine ⟨F1, τ1, s1, q1, ?_⟩
    cases hy : ev Z.P Z.call Z.make d τ1 s1 with
    | no => rw [hy] at h; exact h.elim
    | exc k fs τ1 s1 => rw [hy] at h; exact fun H' F' od e2 q2 r2 => h H' F' od (e1.trans e2) q2 r2
    | ok y τ2 s2 =>
      rw [hy] at h
      intro w H2 F2 e2 q2 ry
      have h1 := Post.mono (e1.trans e2) h
      simp only at h1
      cases x with
      | int i =>
        cases y with
        | int j =>
          obtain ⟨hl, h1⟩ := Post.bif h1
          simp only [Bool.and_eq_true] at hl
          cases rx; cases ry
          exact ⟨i, j, -1, (i - j).toNat, rfl, RgC.neg (small62 hl.1).1 (small62 hl.1).2 (small62 hl.2).1 (small62 hl.2).2, h1.ok q2 walkD_rangeDn⟩
        | _ => exact h1.elim
      | _ => exact h1.elim
theorem di_en {e : Expr} {c : CE} {p pos tpos : Pos} {elts : List Expr} {kk : Nat} (hK : X.K = Z.T.K) (hg : Gl X "enumerate") (hm : X.mg "enumerate" = none) (he : PE X e (tD Z G W c)) (hs : isStar e = false) :
    PI X (.Tuple elts kk tpos) (.Call (.Name "enumerate" p) [e] [] pos) (iD Z G W (.en c)) :=
  (pi_enumA hg hm (da_one he hs) (starEach_plain hs)).imp fun σ H R => by
    rintro ⟨F, τ, s, q, h⟩
    simp only [evI] at h
    refine ⟨F, τ, s, q, ?_⟩
    simp only [evA]
    cases hx : ev Z.P Z.call Z.make c τ s with
    | no => rw [hx] at h; exact h.elim
    | exc k fs τ1 s1 => rw [hx] at h; exact h
    | ok x τ1 s1 =>
      rw [hx] at h
      intro vs H1 F1 e1 q1 r1
      have h1 := Post.mono e1 h
      obtain ⟨v, r, rfl, rx, rr⟩ := r1
      cases rr
      rw [hK]
      cases x with
      | lst xs =>
        obtain ⟨a, vs, ev, hs, rl⟩ := rx
        exact ⟨a, vs, by rw [ev], .inl ⟨SqL.of (q1.fh _ _ hs), h1.ok q1 (walkD_enumL hs rl)⟩⟩
      | tup xs =>
        obtain ⟨a, vs, ev, hs, rl⟩ := rx
        exact ⟨a, vs, by rw [ev], .inr ⟨q1.fh.sqT hs, h1.ok q1 (walkD_enumT hs rl)⟩⟩
      | _ => exact h1.elim
theorem di_zip {e f : Expr} {c d : CE} {p pos tpos : Pos} {elts : List Expr} {kk : Nat} (hK : X.K = Z.T.K) (hg : Gl X "zip") (hm : X.mg "zip" = none) (he : PE X e (tD Z G W c)) (hf : PE X f (tD Z G W d)) (hs : isStar e = false) (hs2 : isStar f = false) :
    PI X (.Tuple elts kk tpos) (.Call (.Name "zip" p) [e, f] [] pos) (iD Z G W (.zip c d)) :=
  (pi_zipM hg hm (da_two he hf hs hs2) (by rw [starEach_plain hs]) (by rw [starEach_plain hs2]; rfl)).imp fun σ H R => by
    rintro ⟨F, τ, s, q, h⟩
    simp only [evI] at h
    refine ⟨F, τ, s, q, ev_two h fun x y v w τ1 s1 F1 H1 e1 q1 rx ry h1 => ?_⟩
    have side : ∀ {x : D} {v : V} {xs : List D}, starOf x = some xs → Rep Z.T F1 x v → ∃ a t vs, v = .ref a ∧ (∀ H, Sub F1 H → SqX Z.T.K t H a vs) ∧ RepL Z.T F1 xs vs := fun {x v xs} e r => by
      cases x with
      | lst ds =>
        cases e
        obtain ⟨a, vs, ev, hs, rl⟩ := r
        exact ⟨a, false, vs, ev, fun H k => SqL.of (k _ _ hs), rl⟩
      | tup ds =>
        cases e
        obtain ⟨a, vs, ev, hs, rl⟩ := r
        exact ⟨a, true, vs, ev, fun H k => k.sqT hs, rl⟩
      | _ => cases e
    cases ex : starOf x with
    | none => rw [ex] at h1; exact h1.elim
    | some xs =>
      cases ey : starOf y with
      | none => rw [ex, ey] at h1; exact h1.elim
      | some ys =>
        rw [ex, ey] at h1
        obtain ⟨a, t, vs, rfl, ha, rl⟩ := side ex rx
        obtain ⟨b, u, ws, rfl, hb, rl2⟩ := side ey ry
        rw [hK]
        exact ⟨a, b, t, u, vs, ws, rfl, ha _ q1.fh, hb _ q1.fh, h1.ok q1 (walkD_zipM ha hb rl rl2)⟩
end
end Rz
end

section
set_option autoImplicit false
set_option Elab.async false
set_option linter.all false
set_option maxHeartbeats 1000000
set_option maxRecDepth 100000
namespace Rz
open PySem PySem.Spec PyProof.Rows L2

section
variable {S : Type} [Pen S] {T : Tb} {pn : Pn S} {G : Fm} {F H : Hp} {σ : L2.St} {τ : List Slot} {s : S}
/-! ### slots forgotten -/
theorem wipe_get {i : Nat} : ∀ {vs : List Nat}, i ∉ vs → (wipe σ vs)[i]? = σ[i]?
  | [], _ => rfl
  | v :: vs, h => by
    unfold wipe
    rw [List.getElem?_set_ne (fun e => h (by simp [e])), wipe_get (fun m => h (List.mem_cons_of_mem _ m))]
theorem wipeT_len : ∀ {vs : List Nat}, (wipeT τ vs).length = τ.length
  | [] => rfl
  | v :: vs => by unfold wipeT; rw [List.length_set, wipeT_len]
theorem wipeT_get {i : Nat} : ∀ {vs : List Nat}, i ∉ vs → (wipeT τ vs)[i]? = τ[i]?
  | [], _ => rfl
  | v :: vs, h => by
    unfold wipeT
    rw [List.getElem?_set_ne (fun e => h (by simp [e])), wipeT_get (fun m => h (List.mem_cons_of_mem _ m))]
theorem backT_len {τ0 : List Slot} : ∀ {vs : List Nat}, (backT τ0 τ vs).length = τ.length
  | [] => rfl
  | v :: vs => by unfold backT; rw [List.length_set, backT_len]
theorem backT_get {τ0 : List Slot} {i : Nat} {x : Slot} : ∀ {vs : List Nat}, (backT τ0 τ vs)[i]? = some x → (i ∉ vs ∧ τ[i]? = some x) ∨ x = .none ∨ ∃ d, x = .fz d ∧ τ0[i]? = some (.fz d)
  | [], h => .inl ⟨by simp, h⟩
  | v :: vs, h => by
    unfold backT at h
    by_cases e : v = i
    · subst e
      have hl : v < (backT τ0 τ vs).length := by have := (List.getElem?_eq_some_iff.mp h).1; simpa using this
      rw [List.getElem?_set_self hl] at h
      cases h
      refine .inr ?_
      cases q : τ0[v]? with
      | none => exact .inl rfl
      | some y => cases y <;> first | exact .inl rfl | exact .inr ⟨_, rfl, rfl⟩
    · rw [List.getElem?_set_ne e] at h
      rcases backT_get h with ⟨a, b⟩ | z
      · exact .inl ⟨by simp only [List.mem_cons, not_or]; exact ⟨fun z => e z.symm, a⟩, b⟩
      · exact .inr z
theorem getD_eq {σ σ' : L2.St} {i : Nat} (h : σ[i]? = σ'[i]?) : σ.getD i none = σ'.getD i none := by
  rw [List.getD_eq_getElem?_getD, List.getD_eq_getElem?_getD, h]
/-- one slot forgotten -/
theorem SR.forget (h : SR T pn G F H σ τ s) {i : Nat} {o : Option V} : SR T pn G F H (σ.set i o) (τ.set i .none) s := by
  refine ⟨h.fh, h.pen, h.penF, h.pinv, h.gh, by simpa using h.len, fun j y e => ?_, fun j k y z b hjk e1 e2 o1 o2 e3 e4 => ?_, h.tb, h.tg⟩
  · by_cases hj : j = i
    · subst hj
      have jlt : j < τ.length := by have := (List.getElem?_eq_some_iff.mp e).1; simpa using this
      rw [List.getElem?_set_self jlt] at e
      cases e
      trivial
    · rw [List.getElem?_set_ne (Ne.symm hj)] at e
      have q := h.sl j y e
      rw [getD_eq (σ' := σ) (by rw [List.getElem?_set_ne (Ne.symm hj)])]
      exact q
  · have jlt : j < τ.length := by have := (List.getElem?_eq_some_iff.mp e1).1; simpa using this
    have klt : k < τ.length := by have := (List.getElem?_eq_some_iff.mp e2).1; simpa using this
    by_cases hj : j = i
    · subst hj; rw [List.getElem?_set_self jlt] at e1; cases e1; cases o1
    · by_cases hk : k = i
      · subst hk; rw [List.getElem?_set_self klt] at e2; cases e2; cases o2
      · rw [List.getElem?_set_ne (Ne.symm hj)] at e1
        rw [List.getElem?_set_ne (Ne.symm hk)] at e2
        rw [getD_eq (σ' := σ) (by rw [List.getElem?_set_ne (Ne.symm hj)])] at e3
        rw [getD_eq (σ' := σ) (by rw [List.getElem?_set_ne (Ne.symm hk)])] at e4
        exact h.ap j k y z b hjk e1 e2 o1 o2 e3 e4
theorem SR.wipe (h : SR T pn G F H σ τ s) : ∀ (vs : List Nat), SR T pn G F H (wipe σ vs) (wipeT τ vs) s
  | [] => h
  | v :: vs => by unfold L2.wipe wipeT; exact (SR.wipe h vs).forget
/-- an address taken into the frame -/
theorem SR.frame (h : SR T pn G F H σ τ s) {p : Addr} {o : HO} (hp : H p = none) : SR T pn (G.upd p o) F (upd H p o) σ τ s := by
  have q := h.newU (o := o) hp
  have neH : ∀ {a : Addr} {u : HO}, H a = some u → a ≠ p := fun {a u} e z => by rw [z, hp] at e; cases e
  refine ⟨q.fh, q.pen, q.penF, q.pinv, fun a u e => ?_, q.len, fun i x e => ?_, q.ap, q.tb, fun t ht => by rw [Fm.upd_ne (h.tb.neN ht hp)]; exact h.tg t ht⟩
  · by_cases z : a = p
    · subst z
      rw [Fm.upd_same] at e
      rw [upd_same]
      exact ⟨e, h.fh.none hp, fun e' => by rw [e', h.pen] at hp; cases hp⟩
    · rw [Fm.upd_ne z] at e; exact q.gh a u e
  · have k := h.sl i x e
    cases x with
    | none => trivial
    | fz d => exact k
    | own ds =>
      obtain ⟨a, ob, e1, e2, e3, e4, e5, o'⟩ := k
      exact ⟨a, ob, e1, by rw [upd_ne (neH e2)]; exact e2, e3, by rw [Fm.upd_ne (neH e2)]; exact e4, e5, o'⟩
    | ownI c ds =>
      obtain ⟨a, ob, e1, e2, e3, e4, e5, o'⟩ := k
      exact ⟨a, ob, e1, by rw [upd_ne (neH e2)]; exact e2, e3, ⟨by rw [Fm.upd_ne (neH e2)]; exact e4.1, e4.2⟩, e5, o'⟩
/-- the framed object is rewritten -/
theorem SR.reframe {p : Addr} {o o' : HO} (h : SR T pn (G.upd p o) F H σ τ s) : SR T pn (G.upd p o') F (upd H p o') σ τ s := by
  obtain ⟨g1, g2, g3⟩ := h.gh p o Fm.upd_same
  have neF : ∀ {a : Addr} {u : HO}, F a = some u → a ≠ p := fun {a u} e z => by rw [z, g2] at e; cases e
  refine ⟨fun a u e => by rw [upd_ne (neF e)]; exact h.fh a u e, by rw [upd_ne (Ne.symm g3)]; exact h.pen, h.penF, h.pinv, fun a u e => ?_, h.len, fun i x e => ?_, h.ap, h.tb.ext (Sub.refl _) (fun t ht => h.tF ht) (fun t ht o e => by rw [upd_ne (h.tne t ht)]; exact e), fun t ht => by rw [Fm.upd_ne (h.tne t ht)]; exact h.tgd t ht⟩
  · by_cases z : a = p
    · subst z
      rw [Fm.upd_same] at e
      rw [upd_same]
      exact ⟨e, g2, g3⟩
    · rw [Fm.upd_ne z] at e
      rw [upd_ne z]
      exact h.gh a u (by rw [Fm.upd_ne z]; exact e)
  · have k := h.sl i x e
    cases x with
    | none => trivial
    | fz d => exact k
    | own ds =>
      obtain ⟨a, ob, e1, e2, e3, e4, e5, o'⟩ := k
      have z : a ≠ p := fun z => by rw [z, Fm.upd_same] at e4; cases e4
      rw [Fm.upd_ne z] at e4
      exact ⟨a, ob, e1, by rw [upd_ne z]; exact e2, e3, by rw [Fm.upd_ne z]; exact e4, e5, o'⟩
    | ownI c ds =>
      obtain ⟨a, ob, e1, e2, e3, ⟨e4, e6⟩, e5, o'⟩ := k
      have z : a ≠ p := fun z => by rw [z, Fm.upd_same] at e4; cases e4
      rw [Fm.upd_ne z] at e4
      exact ⟨a, ob, e1, by rw [upd_ne z]; exact e2, e3, ⟨by rw [Fm.upd_ne z]; exact e4, e6⟩, e5, o'⟩
/-- the heap without an address -/
def cut (H : Hp) (p : Addr) : Hp := fun b => if b = p then none else H b
theorem cut_same {p : Addr} : cut H p p = none := if_pos rfl
theorem cut_ne {p b : Addr} (h : b ≠ p) : cut H p b = H b := if_neg h
theorem upd_cut {p : Addr} {o : HO} (h : H p = some o) : upd (cut H p) p o = H := by
  funext b
  by_cases e : b = p
  · subst e; rw [upd_same, h]
  · rw [upd_ne e, cut_ne e]
/-- the framed object out of the frame and out of the heap -/
theorem SR.unframe {p : Addr} {o : HO} (h : SR T pn (G.upd p o) F H σ τ s) (hG : G p = none) : SR T pn G F (cut H p) σ τ s := by
  obtain ⟨g1, g2, g3⟩ := h.gh p o Fm.upd_same
  have neF : ∀ {a : Addr} {u : HO}, F a = some u → a ≠ p := fun {a u} e z => by rw [z, g2] at e; cases e
  refine ⟨fun a u e => by rw [cut_ne (neF e)]; exact h.fh a u e, by rw [cut_ne (Ne.symm g3)]; exact h.pen, h.penF, h.pinv, fun a u e => ?_, h.len, fun i x e => ?_, h.ap, h.tb.ext (Sub.refl _) (fun t ht => h.tF ht) (fun t ht o e => by rw [cut_ne (h.tne t ht)]; exact e), h.tgd⟩
  · have z : a ≠ p := fun z => by rw [z, hG] at e; cases e
    rw [cut_ne z]
    exact h.gh a u (by rw [Fm.upd_ne z]; exact e)
  · have k := h.sl i x e
    cases x with
    | none => trivial
    | fz d => exact k
    | own ds =>
      obtain ⟨a, ob, e1, e2, e3, e4, e5, o'⟩ := k
      have z : a ≠ p := fun z => by rw [z, Fm.upd_same] at e4; cases e4
      rw [Fm.upd_ne z] at e4
      exact ⟨a, ob, e1, by rw [cut_ne z]; exact e2, e3, e4, e5, o'⟩
    | ownI c ds =>
      obtain ⟨a, ob, e1, e2, e3, ⟨e4, e6⟩, e5, o'⟩ := k
      have z : a ≠ p := fun z => by rw [z, Fm.upd_same] at e4; cases e4
      rw [Fm.upd_ne z] at e4
      exact ⟨a, ob, e1, by rw [cut_ne z]; exact e2, e3, ⟨e4, e6⟩, e5, o'⟩
/-- the slots come back after a block -/
theorem SR.back {F0 H0 : Hp} {τ0 : List Slot} {s0 : S} {vs : List Nat} (h : SR T pn G F H (L2.wipe σ vs) (wipeT τ vs) s) (h0 : SR T pn G F0 H0 σ τ0 s0) (e : Sub F0 F) : SR T pn G F H σ (backT τ0 τ vs) s := by
  have hl : σ.length = τ.length := by have := h.len; rw [wipe_length, wipeT_len] at this; exact this
  refine ⟨h.fh, h.pen, h.penF, h.pinv, h.gh, by rw [backT_len]; exact hl, fun j y k => ?_, fun j k y z b hjk e1 e2 o1 o2 e3 e4 => ?_, h.tb, h.tg⟩
  · rcases backT_get k with ⟨a, b⟩ | rfl | ⟨d, rfl, b⟩
    · have q := h.sl j y (by rw [wipeT_get a]; exact b)
      rw [getD_eq (σ' := σ) (wipe_get a)] at q
      exact q
    · trivial
    · obtain ⟨v, e1, r⟩ := h0.sl j _ b
      exact ⟨v, e1, r.mono e⟩
  · rcases backT_get e1 with ⟨a1, b1⟩ | rfl | ⟨d, rfl, _⟩
    · rcases backT_get e2 with ⟨a2, b2⟩ | rfl | ⟨d, rfl, _⟩
      · exact h.ap j k y z b hjk (by rw [wipeT_get a1]; exact b1) (by rw [wipeT_get a2]; exact b2) o1 o2 (by rw [getD_eq (σ' := σ) (wipe_get a1)]; exact e3) (by rw [getD_eq (σ' := σ) (wipe_get a2)]; exact e4)
      · cases o2
      · cases o2
    · cases o1
    · cases o1
end

/-! ### targets -/
def gNames : List Nat → TGs
  | [] => gNil
  | i :: is => gCons (gName i) (gNames is)
def gT (K : PySem.W.Frag) : Tg → TG
  | .one i => gName i
  | .many is => gTupS K is.length (gNames is)
  | .two is js => gTup K 2 (gCons (gTupS K is.length (gNames is)) (gCons (gTupS K js.length (gNames js)) gNil))
section
variable {S : Type} [Pen S] {T : Tb} {pn : Pn S} {G : Fm} {F H : Hp} {s : S}
theorem gNames_of : ∀ {is : List Nat} {xs : List D} {vs : List V} {σ : L2.St} {τ τ' : List Slot} {Q : L2.St → Hp → Prop}, SR T pn G F H σ τ s → RepL T F xs vs → bindN is xs τ = some τ' →
    (∀ σ', SR T pn G F H σ' τ' s → σ'.length = σ.length → (∀ j, j ∉ is → σ'[j]? = σ[j]?) → Q σ' H) → gNames is vs σ H Q
  | [], [], vs, σ, τ, τ', Q, q, r, e, k => by
    cases e
    exact ⟨r, k σ q rfl fun _ _ => rfl⟩
  | i :: is, x :: xs, vs, σ, τ, τ', Q, q, r, e, k => by
    obtain ⟨v, vr, rfl, rx, rr⟩ := r
    refine ⟨v, vr, rfl, ?_⟩
    refine gNames_of (q.setF _ rx) rr e fun σ' q' l h => k σ' q' (by rw [l, List.length_set]) fun j hj => ?_
    rw [h j (fun m => hj (List.mem_cons_of_mem _ m)), List.getElem?_set_ne (fun z => hj (by simp [z]))]
  | [], _ :: _, _, _, _, _, _, _, _, e, _ => by cases e
  | _ :: _, [], _, _, _, _, _, _, _, e, _ => by cases e
theorem bindN_len : ∀ {is : List Nat} {xs : List D} {τ τ' : List Slot}, bindN is xs τ = some τ' → xs.length = is.length
  | [], [], _, _, _ => rfl
  | i :: is, x :: xs, τ, τ', e => by simp [bindN_len (is := is) (xs := xs) e]
  | [], _ :: _, _, _, e => by cases e
  | _ :: _, [], _, _, e => by cases e
theorem gT_of {tg : Tg} {d : D} {v : V} {σ : L2.St} {τ τ' : List Slot} {Q : L2.St → Hp → Prop} (q : SR T pn G F H σ τ s) (r : Rep T F d v) (e : bindT tg d τ = some τ')
    (k : ∀ σ', SR T pn G F H σ' τ' s → σ'.length = σ.length → (∀ j, j ∉ tg.slots → σ'[j]? = σ[j]?) → Q σ' H) : gT T.K tg v σ H Q := by
  cases tg with
  | one i =>
    cases e
    exact k _ (q.setF _ r) (by simp) fun j hj => List.getElem?_set_ne (fun z => hj (by simp [Tg.slots, z]))
  | many is =>
    cases d with
    | tup xs =>
      obtain ⟨a, vs, ev, hs, rl⟩ := r
      refine ⟨a, vs, ev, .inl (q.fh.sqT hs), by rw [rl.length]; exact bindN_len e, gNames_of q rl e k⟩
    | lst xs =>
      obtain ⟨a, vs, ev, hs, rl⟩ := r
      refine ⟨a, vs, ev, .inr (q.fh _ _ hs), by rw [rl.length]; exact bindN_len e, gNames_of q rl e k⟩
    | _ => cases e
  | two is js =>
    simp only [bindT] at e
    split at e
    · rename_i xs ys
      obtain ⟨τ1, e1, e2⟩ := Option.bind_eq_some_iff.mp e
      obtain ⟨a, vs, ev, hs, v1, r1, rfl, w1, v2, r2, rfl, w2, rfl⟩ := r
      obtain ⟨a1, vs1, rfl, h1, l1⟩ := w1
      obtain ⟨a2, vs2, rfl, h2, l2⟩ := w2
      exact ⟨a, [.ref a1, .ref a2], ev, q.fh.sqT hs, rfl, .ref a1, [.ref a2], rfl, ⟨a1, vs1, rfl, .inl (q.fh.sqT h1), by rw [l1.length]; exact bindN_len e1, gNames_of q l1 e1 fun σ1 q1 len1 f1 =>
        ⟨.ref a2, [], rfl, ⟨a2, vs2, rfl, .inl (q1.fh.sqT h2), by rw [l2.length]; exact bindN_len e2, gNames_of q1 l2 e2 fun σ2 q2 len2 f2 => ⟨rfl, k σ2 q2 (len2.trans len1) fun j hj => by
          rw [f2 j (fun z => hj (List.mem_append_right _ z)), f1 j (fun z => hj (List.mem_append_left _ z))]⟩⟩⟩⟩⟩
    · cases e
theorem wipe_same {σ σ' : L2.St} {vs : List Nat} (hl : σ'.length = σ.length) (h : ∀ j, j ∉ vs → σ'[j]? = σ[j]?) : wipe σ' vs = wipe σ vs := by
  refine List.ext_getElem? fun j => ?_
  by_cases hj : j ∈ vs
  · have go : ∀ {σ : L2.St} {vs : List Nat}, j ∈ vs → (wipe σ vs)[j]? = if j < σ.length then some none else none := by
      intro σ vs
      induction vs with
      | nil => intro m; cases m
      | cons v vs ih =>
        intro m
        unfold wipe
        by_cases e : v = j
        · subst e
          by_cases hv : v < σ.length
          · rw [List.getElem?_set_self (by rw [wipe_length]; exact hv), if_pos hv]
          · rw [List.getElem?_eq_none (by rw [List.length_set, wipe_length]; omega), if_neg hv]
        · rw [List.getElem?_set_ne e]
          exact ih ((List.mem_cons.mp m).resolve_left (fun z => e z.symm))
    rw [go hj, go hj, hl]
  · rw [wipe_get hj, wipe_get hj, h j hj]
theorem wipe_wipe {σ : L2.St} {vs : List Nat} : wipe (wipe σ vs) vs = wipe σ vs := wipe_same (by rw [wipe_length]) fun j hj => wipe_get hj
end

section
variable {S : Type} [Pen S] {Z : Cz S} {G : Fm} {W : WX} {X : Cx}
def WF : WX := fun _ _ _ _ => False
/-- tests of a clause -/
def tCs (Z : Cz S) (G : Fm) (W : WX) (c : CAs) : TT := fun σ H Q => ∃ F τ s, SR Z.T Z.pn G F H σ τ s ∧ Post Z G EqR F σ Q W (evC Z.P Z.call Z.make c τ s)
theorem dts_nil : PTs X [] (tCs Z G W .nil) := ⟨fun pins s σ H Q I h => pts_nil.run pins s σ H Q I (by
  obtain ⟨F, τ, s', q, h⟩ := h
  simp only [evC] at h
  exact h.ok q rfl)⟩
theorem dts_one {e : Expr} {c : CE} (he : PT X e (tDT Z G W c)) : PTs X [e] (tCs Z G W (.cons false c .nil)) := ⟨fun pins s σ H Q I h => (pts_one he).run pins s σ H Q I (by
  obtain ⟨F, τ, s', q, h⟩ := h
  refine ⟨F, τ, s', q, ?_⟩
  simp only [evC] at h
  refine Post.imp (Q := Q) ?_ fun _ _ z => z
  revert h
  cases ev Z.P Z.call Z.make c τ s' with
  | no => exact fun h => h
  | exc k fs τ1 s1 => exact fun h => h
  | ok x τ1 s1 =>
    intro h
    simp only [Out.bind] at h ⊢
    revert h
    cases truV Z.P Z.call x τ1 s1 with
    | no => exact fun h => h
    | exc k fs τ1 s1 => exact fun h => h
    | ok t τ2 s2 =>
      intro h
      cases t with
      | true => exact h
      | false => exact h)⟩
/-- a reading of a new list -/
def tDL (Z : Cz S) (G : Fm) (W : WX) (c : CW) : TE := fun σ H Q => ∃ F τ s, SR Z.T Z.pn G F H σ τ s ∧ Post Z G (RepL Z.T) F σ (fun vs H1 => ∀ p, H1 p = none → Q (.ref p) (upd H1 p (.lst vs))) W (evW Z.P Z.call Z.make c τ s)
/-- .. frozen -/
theorem de_nl {e : Expr} {w : CW} (h : PE X e (tDL Z G W w)) : PE X e (tD Z G W (.nl w)) := h.imp fun σ H Q => by
  rintro ⟨F, τ, s, q, h⟩
  simp only [ev] at h
  refine ⟨F, τ, s, q, h.bind fun xs vs τ1 s1 F1 H1 e1 q1 r1 h1 => fun p hp => ?_⟩
  have hF := q1.fh.none hp
  exact h1 _ _ (upd F1 p (.lst vs)) (Sub.new hF) (q1.new hp) ⟨p, vs, rfl, upd_same, r1.mono (Sub.new hF)⟩
theorem dw_lst {es : List Expr} {cs : CAs} {pos : Pos} (ha : PA X es (tDA Z G W cs)) : PE X (.List es pos) (tDL Z G W (.lst cs)) := (pe_lst ha).imp fun σ H Q => by
  rintro ⟨F, τ, s, q, h⟩
  simp only [evW] at h
  refine ⟨F, τ, s, q, h.bind fun xs vs τ1 s1 F1 H1 e1 q1 r1 h1 => ?_⟩
  obtain ⟨hl, h1⟩ := h1.bif
  exact ⟨by rw [r1.length]; exact lim_size hl, h1.ok q1 r1⟩
theorem Post.nx {α β γ δ : Type} {Rp : Hp → α → β → Prop} {Rp2 : Hp → γ → δ → Prop} {F : Hp} {σ : L2.St} {G' : Fm} {σ' : L2.St} {K : β → Hp → Prop} {Q : δ → Hp → Prop} {x : Out S α} {f : α → List Slot → S → Out S γ} (h : Post Z G Rp2 F σ Q W (x.nx.bind f))
    (k : ∀ a b τ1 s1 F1 H1, Sub F F1 → SR Z.T Z.pn G' F1 H1 σ' τ1 s1 → Rp F1 a b → Post Z G Rp2 F1 σ Q W (f a τ1 s1) → K b H1) : Post Z G' Rp F σ' K WF x := by
  cases x with
  | ok a τ s => exact fun b H' F' e q r => k a b τ s F' H' e q r (Post.mono e h)
  | exc c fs τ s => exact h.elim
  | no => exact h
/-- the comprehension's reading -/
theorem tLc_of {elt : CE} {tg : Tg} {ci : CI} {cs : CAs} {vs : List Nat} {σ : L2.St} {H : Hp} {Q : VK} (hv : vs = tg.slots) (h : tDL Z G W (.lc elt tg ci cs) σ H Q) :
    tLc (iD Z G W ci) (gT Z.T.K tg) (fun σ H Q => ∃ G, tCs Z G WF cs σ H Q) (fun σ H Q => ∃ G, tD Z G WF elt σ H Q) vs σ H Q := by
  subst hv
  obtain ⟨F, τ, s, q, h⟩ := h
  simp only [evW] at h
  refine ⟨F, τ, s, q, h.bind fun ds J τ1 s1 F1 H1 e1 q1 wk h1 => ?_⟩
  obtain ⟨hl, h1⟩ := h1.bif
  intro Dd hD
  have hG : G Dd = none := q1.gfree hD
  generalize hb : (fun d τ s => match bindT tg d τ with
        | some τ => ((evC Z.P Z.call Z.make cs τ s).bind fun b τ s => bif b then (ev Z.P Z.call Z.make elt τ s).bind fun x τ s => .ok (some x) τ s else .ok none τ s).nx
        | none => Out.no) = body at h1
  refine lc_it wk (g := gT Z.T.K tg) (tt := fun σ H Q => ∃ G, tCs Z G WF cs σ H Q) (te := fun σ H Q => ∃ G, tD Z G WF elt σ H Q) (vs := tg.slots) (σ := σ) (H1 := H1) (D := Dd) (Qd := Q (.ref Dd)) (Pv := fun i H => ∃ F2 τ2 s2 acc ws, Sub F1 F2 ∧ SR Z.T Z.pn (G.upd Dd (.lst ws)) F2 H (wipe σ tg.slots) (wipeT τ2 tg.slots) s2 ∧ RepL Z.T F2 acc ws ∧ acc.length ≤ i ∧
      Post Z G (RepL Z.T) F2 σ (fun vs H1 => ∀ p, H1 p = none → Q (.ref p) (upd H1 p (.lst vs))) W ((lcL body tg.slots (ds.drop i) acc τ2 s2).bind fun acc τ2 s => .ok acc (backT τ1 τ2 tg.slots) s)) ?_ ?_ ?_ ?_
  · exact ⟨F1, τ1, s1, [], [], Sub.refl _, (q1.frame (o := .lst []) hD).wipe _, rfl, Nat.le_refl _, h1⟩
  · rintro i H2 hi ⟨F2, τ2, s2, acc, ws, e2, q2, _⟩
    exact e2.trans q2.fh
  · rintro i x H2 H3 hi ⟨F2, τ2, s2, acc, ws, e2, q2, ra, hal, h2⟩ ⟨d, hd, hy⟩
    have hdrop : ds.drop i = d :: ds.drop (i + 1) := by
      obtain ⟨z, rfl⟩ := List.getElem?_eq_some_iff.mp hd
      exact List.drop_eq_getElem_cons z
    rw [hdrop] at h2
    simp only [lcL] at h2
    -- the item
    obtain ⟨F3, e3, q3, rd⟩ : ∃ F3, Sub F2 F3 ∧ SR Z.T Z.pn (G.upd Dd (.lst ws)) F3 H3 (wipe σ tg.slots) (wipeT τ2 tg.slots) s2 ∧ Rep Z.T F3 d x := by
      rcases hy with ⟨rfl, rd⟩ | ⟨p, d1, d2, v1, v2, rfl, rfl, hp, rfl, r1, r2⟩
      · exact ⟨F2, Sub.refl _, q2, rd.mono e2⟩
      · have hF := q2.fh.none hp
        exact ⟨upd F2 p (.tup [v1, v2]), Sub.new hF, q2.new hp, p, [v1, v2], rfl, SqT.of upd_same, RepL.two ((r1.mono e2).mono (Sub.new hF)) ((r2.mono e2).mono (Sub.new hF))⟩
    have ra3 := ra.mono e3
    replace h2 := Post.mono e3 h2
    cases hbt : bindT tg d (wipeT τ2 tg.slots) with
    | none =>
      have z : body d (wipeT τ2 tg.slots) s2 = .no := by rw [← hb]; simp only [hbt]
      rw [z] at h2; exact h2.elim
    | some τ3 =>
      refine gT_of q3 rd hbt fun σ4 q4 hl4 hs4 => ⟨?_, G.upd Dd (.lst ws), F3, τ3, s2, q4, ?_⟩
      · rw [wipe_same (σ := wipe σ tg.slots) hl4 hs4, wipe_wipe]
      have hw4 : wipe σ4 tg.slots = wipe σ tg.slots := by rw [wipe_same (σ := wipe σ tg.slots) hl4 hs4, wipe_wipe]
      -- the tests
      cases hc : evC Z.P Z.call Z.make cs τ3 s2 with
      | no =>
        have z : body d (wipeT τ2 tg.slots) s2 = .no := by rw [← hb]; simp only [hbt, hc, Out.bind, Out.nx]
        rw [z] at h2; exact h2.elim
      | exc c fs τ s =>
        have z : body d (wipeT τ2 tg.slots) s2 = .no := by rw [← hb]; simp only [hbt, hc, Out.bind, Out.nx]
        rw [z] at h2; exact h2.elim
      | ok t τ5 s5 =>
        intro b5 H5 F5 e5 q5 rb
        cases rb
        replace h2 := Post.mono e5 h2
        cases t with
        | false =>
          have z : body d (wipeT τ2 tg.slots) s2 = .ok none τ5 s5 := by rw [← hb]; simp only [hbt, hc, Out.bind, Out.nx, cond_false]
          rw [z] at h2
          rw [if_neg (by decide)]
          have q6 := q5.wipe tg.slots
          rw [hw4] at q6
          exact ⟨F5, τ5, s5, acc, ws, e2.trans (e3.trans e5), q6, ra3.mono e5, Nat.le_succ_of_le hal, h2⟩
        | true =>
          rw [if_pos rfl]
          refine ⟨G.upd Dd (.lst ws), F5, τ5, s5, q5, ?_⟩
          cases he : ev Z.P Z.call Z.make elt τ5 s5 with
          | no =>
            have z : body d (wipeT τ2 tg.slots) s2 = .no := by rw [← hb]; simp only [hbt, hc, he, Out.bind, Out.nx, cond_true]
            rw [z] at h2; exact h2.elim
          | exc c fs τ s =>
            have z : body d (wipeT τ2 tg.slots) s2 = .no := by rw [← hb]; simp only [hbt, hc, he, Out.bind, Out.nx, cond_true]
            rw [z] at h2; exact h2.elim
          | ok y τ6 s6 =>
            have z : body d (wipeT τ2 tg.slots) s2 = .ok (some y) τ6 s6 := by rw [← hb]; simp only [hbt, hc, he, Out.bind, Out.nx, cond_true]
            rw [z] at h2
            intro yv H6 F6 e6 q6 ry
            replace h2 := Post.mono e6 h2
            have q7 := (q6.wipe tg.slots).reframe (o' := .lst (ws ++ [yv]))
            rw [hw4] at q7
            have ra6 := (ra3.mono e5).mono e6
            refine ⟨ws, (q6.gh Dd _ Fm.upd_same).1, ?_, F6, τ6, s6, acc ++ [y], ws ++ [yv], e2.trans (e3.trans (e5.trans e6)), q7, ra6.append (RepL.one ry), ?_, h2⟩
            · rw [ra.length]
              have := lim_size hl
              exact Nat.lt_of_le_of_lt hal (Nat.lt_of_lt_of_le hi this)
            · simp; omega
  · rintro H2 ⟨F2, τ2, s2, acc, ws, e2, q2, ra, hal, h2⟩
    rw [List.drop_length] at h2
    simp only [lcL, Out.bind] at h2
    have g1 := (q2.gh Dd _ Fm.upd_same).1
    have q3 : SR Z.T Z.pn G F2 (cut H2 Dd) σ (backT τ1 τ2 tg.slots) s2 := (q2.unframe hG).back q1 e2
    have z := h2 ws (cut H2 Dd) F2 (Sub.refl _) q3 ra Dd cut_same
    rw [upd_cut g1] at z
    exact z
end
end Rz
end

section
set_option autoImplicit false
set_option Elab.async false
set_option linter.all false
set_option maxHeartbeats 1000000
set_option maxRecDepth 100000
/-! list(range(a, b)) of any numbers. -/
namespace Rz
open PySem PySem.Spec PySem.W PyProof.Rows L2

section
variable {prog : Program} {w : World} {A : Around} {s : Shared} {E : Value → Shared → Prop}
theorem extend_longR {R : Result → Shared → Prop} {r : Addr} {a b c : Int} {t u v : Tok} {n : Nat} (calm : A.handled = none) (isR : IsRange s.heap r a b c t u v) (big : Builtin.Range.small a b c = false)
    (siz : Builtin.Range.rangeSize a b c = n) (few : n ≤ 2 ^ 24) (Ls : Addr) (back : Value) (c₀ : Nat) (atS : s.heap.get? Ls = some { cls := .type "list", data := .seq #[] c₀ })
    (goal : ∀ h' tk found' c', (∀ b o, b ≠ Ls → s.heap.get? b = some o → h'.get? b = some o) → h'.get? Ls = some { cls := .type "list", dict := none, data := .seq found' c', slots := #[] } →
      ItemsOf (fun i v => ∃ t, v = .int (a + i * c) t) found' n → R (.ok (.ret back)) { s with heap := h', toks := tk }) :
    wpAny (model prog w) A.in1 (Builtin.List.listExtendWith (.ref Ls) (.ref r) back)
      (fun fin s2 => match fin with | .done f => R (.ok f) s2 | .again c2 => c2.quiet = true ∧ codeAny (model prog w) A c2 R s2) (fun er s2 => R (.error er) s2) s := by
  have neSr : Ls ≠ r := fun e => by rw [e, isR] at atS; simp at atS
  have ltS : Ls < s.heap.objs.size := Heap.lt_size atS
  have neSI : Ls ≠ s.heap.objs.size := Nat.ne_of_lt ltS
  have outS : Ls ∉ [s.heap.objs.size] := fun hm => neSI (List.mem_singleton.mp hm)
  have W := (PySem.Walks.longrange (prog := prog) (w := w) (A := A.in1) calm s.heap.objs.size a c n).toS

  have key : ∀ (h : Heap) (c₁ tk : Nat), IsLongIter h s.heap.objs.size (a + ((0 : Nat) : Int) * c) ((n : Int) - ((0 : Nat) : Int)) c → (∀ b o, b ≠ Ls → s.heap.get? b = some o → h.get? b = some o) →
      h.get? Ls = some { cls := .type "list", data := .seq #[] c₁ } → codeAny (model prog w) A (.builtin "list.extend.loop" ⟨[.ref Ls, .ref s.heap.objs.size, back], []⟩) R { s with heap := h, toks := tk } := by
    intro h c₁ tk hit keep at1
    refine codeAny_extend_loopS W (by rw [sizeLine_eq]; omega) Ls outS back n 0 _ #[] c₁ rfl (Nat.zero_le _) hit at1 (ItemsOf.nil _) fun s' found' c' hm atS' items => ?_
    rw [Moved.eq_with hm]
    refine goal s'.heap s'.toks found' c' (fun b o hb e => hm.heap b o (fun hmem => ?_) (keep b o hb e)) atS' items
    rcases List.mem_cons.mp hmem with z | z
    · exact hb z
    · exact absurd (Heap.lt_size e) (by rw [List.mem_singleton.mp z]; exact Nat.lt_irrefl _)
  unfold Builtin.List.listExtendWith; refine wpAny_bind (wpAny_typeOf (T := "range") ⟨_, isR, rfl⟩ ?_)
  have h1 : Builtin.List.listSameRef (.ref Ls) (.ref r) = false := by simp [Builtin.List.listSameRef, neSr]
  have g2 : (Value.type "range" == Value.type "list") = false := by decide
  have g3 : (Value.type "range" == Value.type "tuple") = false := by decide
  simp only [h1, g2, g3, Bool.or_false, Bool.false_eq_true, if_false]
  refine wpAny_bind (wpAny_pyIter_longrange isR big ?_)
  refine wpAny_bind (wpAny_holding (wpAny_hint_range (n := n) (Heap.get?_push_of_some _ isR) siz few ?_))
  have it1 : IsLongIter (s.heap.push { cls := .type "longrange_iterator", data := .fields #[rawInt a, rawInt (Builtin.Range.rangeSize a b c), rawInt c] }) s.heap.objs.size (a + ((0 : Nat) : Int) * c) ((n : Int) - ((0 : Nat) : Int)) c := by
    show IsLongIter _ _ _ _ _; rw [siz]; simpa using Heap.get?_push_size _ rfl
  have at1 := Heap.get?_push_of_some { cls := .type "longrange_iterator", data := .fields #[rawInt a, rawInt (Builtin.Range.rangeSize a b c), rawInt c] } atS
  refine wpAny_ite_split (fun _ => ?_) (fun _ => wpAny_pure ⟨plainId_quiet F.plain_extend_loop _, key _ c₀ _ it1 (fun b o _ e => Heap.get?_push_of_some _ e) at1⟩)
  refine wpAny_bind (wpAny_rule ?_); refine wpAny_bind ?_
  show wpAny _ _ (updateSeq Ls (·.push .none) >>= fun _ => updateSeq Ls (·.pop)) _ _ _
  refine wpAny_bind (wpAny_updateSeq at1 rfl ?_)
  have at2 := Heap.get?_update_self (Obj.mapSeq (·.push Value.none)) at1 rfl
  refine wpAny_updateSeq (hz := by seq_fits) at2 rfl ?_
  have at3 := Heap.get?_update_self (Obj.mapSeq (·.pop)) at2 rfl
  refine wpAny_pure ⟨plainId_quiet F.plain_extend_loop _, key _ _ _ ?_ (fun b o nb e => ?_) at3⟩
  · exact (Heap.get?_update_other _ _ neSI).trans ((Heap.get?_update_other _ _ neSI).trans it1)
  · exact (Heap.get?_update_other _ _ (Ne.symm nb)).trans ((Heap.get?_update_other _ _ (Ne.symm nb)).trans (Heap.get?_push_of_some _ e))

theorem list_init_longR {R : Result → Shared → Prop} {r : Addr} {a b c : Int} {t u v : Tok} {n : Nat} (calm : A.handled = none) (isR : IsRange s.heap r a b c t u v) (big : Builtin.Range.small a b c = false)
    (siz : Builtin.Range.rangeSize a b c = n) (few : n ≤ 2 ^ 24) (Ls : Addr) (atS : s.heap.get? Ls = some { cls := .type "list", data := .seq #[] })
    (goal : ∀ h' tk found' c', (∀ b o, b ≠ Ls → s.heap.get? b = some o → h'.get? b = some o) → h'.get? Ls = some { cls := .type "list", dict := none, data := .seq found' c', slots := #[] } →
      ItemsOf (fun i v => ∃ t, v = .int (a + i * c) t) found' n → R (.ok (.ret .none)) { s with heap := h', toks := tk }) :
    wpAny (model prog w) A.in1 (Builtin.«list.__init__» ⟨[.ref Ls, .ref r], []⟩)
      (fun fin s2 => match fin with | .done f => R (.ok f) s2 | .again c2 => c2.quiet = true ∧ codeAny (model prog w) A c2 R s2) (fun er s2 => R (.error er) s2) s := by
  have neSr : Ls ≠ r := fun e => by rw [e, isR] at atS; simp at atS
  show wpAny _ _ (do let old ← Builtin.List.listItems (.ref Ls); Builtin.List.listUpdate (.ref Ls) (fun _ => #[]); letGo old.toList.reverse; Builtin.List.listExtendWith (.ref Ls) (.ref r) .none) _ _ s
  refine wpAny_bind ?_
  unfold Builtin.List.listItems
  refine wpAny_bind (wpAny_seqItems atS rfl (wpAny_pure ?_))
  show wpAny _ _ (updateSeq Ls (fun _ => #[]) >>= fun _ => letGo (#[] : Array Value).toList.reverse >>= fun _ => Builtin.List.listExtendWith (.ref Ls) (.ref r) .none) _ _ s
  refine wpAny_bind (wpAny_updateSeq atS rfl ?_)
  have at2 := Heap.get?_update_self (Obj.mapSeq (fun _ => (#[] : Array Value))) atS rfl
  have others : ∀ b o, b ≠ Ls → s.heap.get? b = some o → (s.heap.update Ls (Obj.mapSeq (fun _ => (#[] : Array Value)))).get? b = some o :=
    fun b o nb e => (Heap.get?_update_other _ _ (Ne.symm nb)).trans e
  refine wpAny_bind (wpAny_letGo ?_); refine extend_longR calm (others r _ (Ne.symm neSr) isR) big siz few Ls .none _ at2 fun h' tk found' c' keep atS' items => ?_
  exact goal h' tk found' c' (fun b o hb e => keep b o hb (others b o hb e)) atS' items
theorem call_list_longR {Q : Value → Shared → Prop} {r : Addr} {a b c : Int} {t u v : Tok} {n : Nat} (calm : A.handled = none) (isR : IsRange s.heap r a b c t u v) (big : Builtin.Range.small a b c = false)
    (siz : Builtin.Range.rangeSize a b c = n) (few : n ≤ 2 ^ 24)
    (goal : ∀ h' tk found' c', (∀ b o, s.heap.get? b = some o → h'.get? b = some o) →
      h'.get? s.heap.objs.size = some { cls := .type "list", dict := none, data := .seq found' c', slots := #[] } → ItemsOf (fun i v => ∃ t, v = .int (a + i * c) t) found' n → Q (.ref s.heap.objs.size) { s with heap := h', toks := tk }) :
    wpAny (model prog w) A (PySem.call (.type "list") [.ref r]) Q E s := by
  refine callType_codes (Q₁ := fun ob s₁ => ob = .ref s.heap.objs.size ∧ s₁ = { s with heap := s.heap.push { cls := .type "list", data := .seq #[] } }) F.called_list (F.typeCall_list_1 _) F.entry_list_init
    (code_list_new _ ⟨rfl, rfl⟩) fun ob s₁ h₁ => ?_
  obtain ⟨rfl, rfl⟩ := h₁
  have atS : (s.heap.push { cls := .type "list", data := .seq #[] }).get? s.heap.objs.size = some { cls := .type "list", data := .seq #[] } := Heap.get?_push_size _ rfl
  refine ⟨⟨_, atS, rfl⟩, F.args_list_init_2 _ _, list_init_longR (A := A.in1) calm (Heap.get?_push_of_some _ isR) big siz few _ atS fun h' tk found' c' keep atS' items => ?_⟩
  exact ⟨rfl, goal h' tk found' c' (fun b o e => keep b o (Nat.ne_of_lt (Heap.lt_size e)) (Heap.get?_push_of_some _ e)) atS' items⟩
end
section
variable {X : Cx} {e : Expr} {te : L2.St → Hp → (Int → Int → Hp → Prop) → Prop}
def tLongL (te : L2.St → Hp → (Int → Int → Hp → Prop) → Prop) : TE := fun σ H Q => te σ H fun a b H1 => (b - a).toNat ≤ 2 ^ 24 ∧ ∀ q, H1 q = none → Q (.ref q) (upd H1 q (.lst (rgV a b)))
theorem pe_longL {p pos : Pos} (calm : X.calm = true) (hg : Gl X "list") (hm : X.mg "list" = none) (he : PRg X e te) (na : starEach [e] X.env = (false, eval e X.env) :: starEach [] X.env := by rfl) : PE X (.Call (.Name "list" p) [e] [] pos) (tLongL te) := by
  refine ⟨fun pins s σ H Q I h => Call_ (ld_blt I hg hm boot_list (PyProof.Rows.callWith_type1 (args_cons (thn (he pins s σ H _ I h) fun x s1 ⟨r, a, b, t, u, v, H1, ex, hr, I1, ok, q⟩ => args_nil ?_) na) na))⟩
  subst ex
  have fin : ∀ (h' : Heap) (tk : Nat) (acc : Array Value) (c' : Nat), (∀ b o, s1.heap.get? b = some o → h'.get? b = some o) → h'.get? s1.heap.objs.size = some { cls := .type "list", dict := none, data := .seq acc c', slots := #[] } → ItemsOf (fun i v => ∃ t, v = .int (a + i * 1) t) acc (b - a).toNat → EP X pins σ Q (.ref s1.heap.objs.size) { s1 with heap := h', toks := tk } := fun h' tk acc c' hk e' hi => by
    refine ⟨.ref s1.heap.objs.size, upd H1 s1.heap.objs.size (.lst (rgV a b)), I1.laid hk (Nat.le_refl _) (show ObjOk X.prog X.w _ _ _ (.lst (rgV a b)) from ⟨?_, acc.toList, c', vals_rg hi, by rw [Array.toArray_toList]; exact e'⟩), rfl, q _ (I1.hok.fresh (Nat.le_refl _))⟩
    rw [rgV_length, sizeLine_eq]; omega
  cases hs : Builtin.Range.small a b 1 with
  | true => exact call_list_range (n := (b - a).toNat) (I1.ok.hd calm) hr hs (rangeSize_nat a b) ok fin
  | false => exact call_list_longR (n := (b - a).toNat) (I1.ok.hd calm) hr hs (rangeSize_nat a b) ok fin
end
end Rz
end

section
set_option autoImplicit false
set_option Elab.async false
set_option linter.all false
set_option maxHeartbeats 1000000
set_option maxRecDepth 100000
namespace Rz
open PySem PySem.Spec PySem.W PyProof.Rows L2

section
variable {S : Type} [Pen S] {Z : Cz S} {us : List Str} {G : Fm} {F H : Hp} {σ : L2.St} {τ : List Slot} {s : S} {W : WX} {X : Cx} {pins : List (Addr × Obj)} {sh : Shared}
variable {a b c e : Expr} {ca cb cc ce : CE} {pos : Pos}
/-- list(x) -/
theorem dw_of {p : Pos} (hK : X.K = Z.T.K) (hg : Gl X "list") (hm : X.mg "list" = none) (ha : PE X a (tD Z G W ca)) (hs : isStar a = false) : PE X (.Call (.Name "list" p) [a] [] pos) (tDL Z G W (.of ca)) := by
  refine ⟨fun pins sh σ H Q I h => ?_⟩
  obtain ⟨F0, τ, s, q, h⟩ := h
  simp only [evW] at h
  refine wpAny_Call_Name_kw (ld_blt I hg hm Bi.list.boot ?_ Bi.list.notName Bi.list.notDebug)
  have run := (da_one ha hs).run pos pins sh σ H (fun vs H1 => ∃ F τ s x xs v, SR Z.T Z.pn G F H1 σ τ s ∧ vs = [v] ∧ Rep Z.T F x v ∧ starOf x = some xs ∧ Post Z G (RepL Z.T) F σ (fun vs H1 => ∀ p, H1 p = none → Q (.ref p) (upd H1 p (.lst vs))) W (.ok xs τ s)) I
    ⟨F0, τ, s, q, by
      simp only [evA]
      cases hx : ev Z.P Z.call Z.make ca τ s with
      | no => rw [hx] at h; exact h.elim
      | exc k fs τ1 s1 => rw [hx] at h; exact h
      | ok x τ1 s1 =>
        rw [hx] at h
        intro vs H1 F1 e1 q1 r1
        have h1 := Post.mono e1 h
        obtain ⟨v, r, rfl, rx, rr⟩ := r1
        cases rr
        obtain ⟨xs, ex, h1⟩ := Post.of h1
        exact ⟨F1, τ1, s1, x, xs, v, q1, rfl, rx, ex, h1⟩⟩
  refine callWith_type1 (thn run ?_) (starEach_plain hs) rfl
  rintro ws s1 ⟨vs, H1, I1, rv, F, τ, s, x, xs, v, q, rfl, r, ed, h⟩
  cases x with
  | lst ds =>
    cases ed
    obtain ⟨p, vs', rfl, hF, rl⟩ := r
    exact call_list_of pins s1 σ H1 _ ws Q I1 rv ⟨p, vs', rfl, .inl (SqL.of (q.fh _ _ hF)), h.ok q rl⟩
  | tup ds =>
    cases ed
    obtain ⟨p, vs', rfl, hF, rl⟩ := r
    exact call_list_of pins s1 σ H1 _ ws Q I1 rv ⟨p, vs', rfl, .inr (by rw [hK]; exact q.fh.sqT hF), h.ok q rl⟩
  | _ => cases ed
/-- list(range(n)) -/
theorem rg_rep {T : Tb} (n : Nat) : RepL T F (rangeD 0 n) (rgV 0 (n : Int)) := by
  have go : ∀ (l : List Nat), RepL T F (l.map fun (i : Nat) => D.int (0 + i)) (l.map fun (i : Nat) => V.int (0 + i)) := by
    intro l
    induction l with
    | nil => exact rfl
    | cons x r ih => exact ⟨_, _, rfl, rfl, ih⟩
  unfold rangeD rgV
  have e : ((n : Int) - 0).toNat = n := by omega
  rw [e]
  exact go _
theorem dw_lr {p p2 pos2 : Pos} (hc : X.calm = true) (hg : Gl X "list") (hm : X.mg "list" = none) (hg2 : Gl X "range") (hm2 : X.mg "range" = none) (ha : PE X a (tD Z G W ca)) (hs : isStar a = false) : PE X (.Call (.Name "list" p) [.Call (.Name "range" p2) [a] [] pos2] [] pos) (tDL Z G W (.lr ca)) :=
  (pe_listRg hc hg hm (prg_1 hg2 hm2 ha (starEach_plain hs))).imp fun σ H Q => by
    rintro ⟨F, τ, s, q, h⟩
    simp only [evW] at h
    refine ⟨F, τ, s, q, h.bind fun x v τ1 s1 F1 H1 e1 q1 r1 h1 => ?_⟩
    cases x with
    | int n =>
      cases r1
      obtain ⟨hl, h1⟩ := h1.bif
      have hb := lim_of hl
      refine ⟨n, rfl, ?_, ?_⟩
      · refine ⟨by omega, ?_, ?_, ?_, ?_⟩ <;> omega
      · have z := h1.ok q1 (rg_rep (T := Z.T) (F := F1) n.toNat)
        have e : rgV 0 ((n.toNat : Nat) : Int) = rgV 0 n := by
          unfold rgV
          have : (((n.toNat : Nat) : Int) - 0).toNat = (n - 0).toNat := by omega
          rw [this]
        rw [e] at z
        exact z
    | _ => exact h1.elim
/-- list(range(a, b)) -/
theorem rg_rep2 {T : Tb} (i j : Int) : RepL T F (rangeD i (j - i).toNat) (rgV i j) := by
  have go : ∀ (l : List Nat), RepL T F (l.map fun (k : Nat) => D.int (i + k)) (l.map fun (k : Nat) => V.int (i + k)) := by
    intro l
    induction l with
    | nil => exact rfl
    | cons x r ih => exact ⟨_, _, rfl, rfl, ih⟩
  exact go _
theorem dw_lr2 {p p2 pos2 : Pos} (hc : X.calm = true) (hg : Gl X "list") (hm : X.mg "list" = none) (hg2 : Gl X "range") (hm2 : X.mg "range" = none) (ha : PE X a (tD Z G W ca)) (hb : PE X b (tD Z G W cb)) (hs : isStar a = false) (hs2 : isStar b = false) : PE X (.Call (.Name "list" p) [.Call (.Name "range" p2) [a, b] [] pos2] [] pos) (tDL Z G W (.lr2 ca cb)) :=
  (pe_longL hc hg hm (prg_2 hg2 hm2 ha hb (starEach_plain hs) (starEach_plain hs2) (by rw [starEach_plain hs2]; rfl))).imp fun σ H Q => by
    rintro ⟨F, τ, s, q, h⟩
    simp only [evW] at h
    refine ⟨F, τ, s, q, h.bind fun x v τ1 s1 F1 H1 e1 q1 rx h1 => ⟨F1, τ1, s1, q1, h1.bind fun y w τ2 s2 F2 H2 e2 q2 ry h1 => ?_⟩⟩
    cases x with
    | int i =>
      cases y with
      | int j =>
        obtain ⟨hl, h1⟩ := Post.bif h1
        cases rx; cases ry
        have hb := lim_of hl
        exact ⟨i, j, rfl, rfl, by omega, h1.ok q2 (rg_rep2 i j)⟩
      | _ => exact h1.elim
    | _ => exact h1.elim
/-- a + b, two lists -/
theorem dw_add (ha : PE X a (tD Z G W ca)) (hb : PE X b (tD Z G W cb)) : PE X (.BinOp a .Add b pos) (tDL Z G W (.add ca cb)) := by
  refine ⟨fun pins sh σ H Q I h => ?_⟩
  obtain ⟨F0, τ, s, q, h⟩ := h
  simp only [evW] at h
  refine wpAny_BinOp (bin ha hb I (R := fun v v' H2 => ∃ F τ s xs ys, SR Z.T Z.pn G F H2 σ τ s ∧ Rep Z.T F (.lst xs) v ∧ Rep Z.T F (.lst ys) v' ∧ lim (xs.length + ys.length) = true ∧ Post Z G (RepL Z.T) F σ (fun vs H1 => ∀ p, H1 p = none → Q (.ref p) (upd H1 p (.lst vs))) W (.ok (xs ++ ys) τ s))
    ⟨F0, τ, s, q, h.bind fun x v τ1 s1 F1 H1 e1 q1 r1 h1 => ⟨F1, τ1, s1, q1, h1.bind fun y v' τ2 s2 F2 H2 e2 q2 r2 h2 => ?_⟩⟩ fun u w s2 v v' H2 I2 rx ry hq => ?_)
  · cases x with
    | lst xs =>
      cases y with
      | lst ys =>
        obtain ⟨hl, h2⟩ := h2.bif
        exact ⟨F2, τ2, s2, xs, ys, q2, r1.mono e2, r2, hl, h2⟩
      | _ => exact h2.elim
    | _ => exact h2.elim
  · obtain ⟨F, τ, s, xs, ys, q, ⟨p, vs, rfl, hF, rl⟩, ⟨p', vs', rfl, hF', rl'⟩, hl, h⟩ := hq
    exact op_cat pins s2 σ H2 _ _ u w Q I2 rx ry ⟨p, p', vs, vs', rfl, rfl, q.fh _ _ hF, q.fh _ _ hF', by rw [rl.length, rl'.length]; exact lim_size hl, h.ok q (rl.append rl')⟩

theorem dw_mul (ha : PE X a (tD Z G W ca)) (hb : PE X b (tD Z G W cb)) : PE X (.BinOp a .Mult b pos) (tDL Z G W (.mul ca cb)) := by
  refine ⟨fun pins sh σ H Q I h => ?_⟩
  obtain ⟨F0, τ, s, q, h⟩ := h
  simp only [evW] at h
  refine wpAny_BinOp (bin ha hb I (R := fun v v' H2 => ∃ F τ s xs k es, SR Z.T Z.pn G F H2 σ τ s ∧ Rep Z.T F (.lst xs) v ∧ v' = .int k ∧ repD xs k = some es ∧ Post Z G (RepL Z.T) F σ (fun vs H1 => ∀ p, H1 p = none → Q (.ref p) (upd H1 p (.lst vs))) W (.ok es τ s))
    ⟨F0, τ, s, q, h.bind fun x v τ1 s1 F1 H1 e1 q1 r1 h1 => ⟨F1, τ1, s1, q1, h1.bind fun y v' τ2 s2 F2 H2 e2 q2 r2 h2 => ?_⟩⟩ fun u w s2 v v' H2 I2 rx ry hq => ?_)
  · cases x with
    | lst xs =>
      cases y with
      | int k =>
        cases ee : repD xs k with
        | none => simp only [ee] at h2; exact h2.elim
        | some es =>
          simp only [ee] at h2
          exact ⟨F2, τ2, s2, xs, k, es, q2, r1.mono e2, r2, ee, h2⟩
      | _ => exact h2.elim
    | _ => exact h2.elim
  · obtain ⟨F, τ, s, xs, k, es, q, ⟨p, vs, rfl, hF, rl⟩, rfl, ee, h⟩ := hq
    obtain ⟨k0, k1, hl, rfl⟩ := repD_of ee
    refine op_rep pins s2 σ H2 _ _ u w Q I2 rx ry ⟨p, k, vs, rfl, rfl, q.fh _ _ hF, by omega, by omega, ?_, fun n hn => ?_⟩
    · rw [rl.length, sizeLine_eq]
      have h2 : k.toNat ≤ 1000 := by omega
      exact Nat.le_trans (Nat.mul_le_mul hl h2) (by decide)
    · exact h.ok q (rl.flat_rep _) n hn

/-! ### targets -/
/-- where a name is stored -/
def nmOk (X : Cx) (i : Nat) (x : Str) : Prop := X.N[i]? = some x ∧ Loc X.env.scope x ∧ (X.fn x = true ∨ X.env.scope.names.lookup x = some .local)
theorem dg_one {i : Nat} {x : Str} (hN : X.N.Nodup) (h : nmOk X i x) : PG X (.Name x pos) (gT Z.T.K (.one i)) := pg_name hN h.1 h.2.1 h.2.2
/-- the names of a target -/
inductive NmsOk (X : Cx) : List Expr → List Nat → Prop
  | nil : NmsOk X [] []
  | cons {x : Str} {pos : Pos} {i : Nat} {es : List Expr} {is : List Nat} : nmOk X i x → NmsOk X es is → NmsOk X (.Name x pos :: es) (i :: is)
theorem NmsOk.pgs (hN : X.N.Nodup) : ∀ {es : List Expr} {is : List Nat}, NmsOk X es is → PGs X es (gNames is)
  | _, _, .nil => pgs_nil
  | _, _, .cons h r => pgs_cons (pg_name hN h.1 h.2.1 h.2.2) (NmsOk.pgs hN r)
theorem NmsOk.len : ∀ {es : List Expr} {is : List Nat}, NmsOk X es is → (assignEach es X.env).length = is.length
  | _, _, .nil => rfl
  | _, _, .cons h r => congrArg (· + 1) (NmsOk.len r)
theorem NmsOk.st : ∀ {es : List Expr} {is : List Nat}, NmsOk X es is → ∀ p ∈ assignEach es X.env, p.1 = false
  | _, _, .nil => fun p h => by cases h
  | _, _, .cons h r => fun p hp => by
    rcases List.mem_cons.mp hp with e | hp
    · rw [e]
    · exact NmsOk.st r p hp
theorem dg_many {es : List Expr} {is : List Nat} {k : Nat} (hK : X.K = Z.T.K) (hc : X.calm = true) (hN : X.N.Nodup) (h : NmsOk X es is) : PG X (.Tuple es k pos) (gT Z.T.K (.many is)) := by
  have z := pg_tupS (k := k) (pos := pos) hc (h.pgs hN) h.len (by
    rw [List.findIdx?_eq_none_iff]
    intro p hp
    simpa using h.st p hp)
  rw [hK] at z
  exact z
theorem dg_two {e1 e2 : List Expr} {is js : List Nat} {k k1 k2 : Nat} {p1 p2 : Pos} (hK : X.K = Z.T.K) (hc : X.calm = true) (hN : X.N.Nodup) (h1 : NmsOk X e1 is) (h2 : NmsOk X e2 js) : PG X (.Tuple [.Tuple e1 k1 p1, .Tuple e2 k2 p2] k pos) (gT Z.T.K (.two is js)) := by
  have g1 := dg_many (Z := Z) (k := k1) (pos := p1) hK hc hN h1
  have g2 := dg_many (Z := Z) (k := k2) (pos := p2) hK hc hN h2
  have z := pg_tup (k := k) (pos := pos) hc (pgs_cons g1 (pgs_cons g2 pgs_nil)) rfl rfl
  rw [hK] at z
  exact z
theorem _root_.L2.PE.any {α : Type} {X : Cx} {e : Expr} {t : α → TE} (h : ∀ a, PE X e (t a)) : PE X e (fun σ H Q => ∃ a, t a σ H Q) := ⟨fun pins s σ H Q I ⟨a, q⟩ => (h a).run pins s σ H Q I q⟩
theorem _root_.L2.PTs.any {α : Type} {X : Cx} {e : List Expr} {t : α → TT} (h : ∀ a, PTs X e (t a)) : PTs X e (fun σ H Q => ∃ a, t a σ H Q) := ⟨fun pins s σ H Q I ⟨a, q⟩ => (h a).run pins s σ H Q I q⟩
/-- [.. for .. in ..] -/
theorem dw_lc {elt tg iter : Expr} {ifs : List Expr} {scope : Scope} {own : List (Str × Nat)} {ctg : Tg} {ci : CI} {cs : CAs} (hc : X.calm = true) (hN : X.N.Nodup) (hi : PI X tg iter (iD Z G W ci)) (ok : BlkOk X.N X.env.scope scope own) (hv : own.map (·.2) = ctg.slots)
    (hg : ∀ (s : Shared) (H : Hp) (C : Addr) (cl : List (Str × Addr)) (fp : List Addr), PG (X.blk s H scope (compEnvC scope cl C X.env) fp) tg (gT Z.T.K ctg)) (ht : ∀ (G : Fm) (s : Shared) (H : Hp) (C : Addr) (cl : List (Str × Addr)) (fp : List Addr), PTs (X.blk s H scope (compEnvC scope cl C X.env) fp) ifs (tCs Z G WF cs))
    (he : ∀ (G : Fm) (s : Shared) (H : Hp) (C : Addr) (cl : List (Str × Addr)) (fp : List Addr), PE (X.blk s H scope (compEnvC scope cl C X.env) fp) elt (tD Z G WF ce)) (hs : ∀ x, foldedSetIterable iter X.env x = pure x) :
    PE X (.ListComp elt [⟨tg, iter, ifs, 0⟩] scope pos) (tDL Z G W (.lc ce ctg ci cs)) :=
  (pe_lc hc hN hi ok hg (fun s H C cl fp => PTs.any fun G => ht G s H C cl fp) (fun s H C cl fp => PE.any fun G => he G s H C cl fp) hs).imp fun σ H Q h => tLc_of hv h
end
end Rz
end

section
set_option autoImplicit false
set_option Elab.async false
set_option linter.all false
set_option maxHeartbeats 4000000
set_option maxRecDepth 100000
/-! sorted(set(list of ints)) -/
namespace Rz
open PySem PySem.Spec PySem.W PyProof.Rows L2

section
variable {P : Program} {w : World} {A : Around} {E : Value → Shared → Prop} {s : Shared}
/-- a new set -/
abbrev setN (w : World) : Obj := { cls := .type "set", dict := none, data := .set #[] 0 (.fresh 0 0 (!w.params.followText "set-order")) }
/-- what the making of a set of the ints ns leaves -/
def SetLeft (w : World) (s : Shared) (ns : List Int) (t : Shared) : Prop := ∃ (g : Heap) (tk c : Nat), t = { s with heap := g, toks := tk } ∧ SetR w g s.heap.objs.size (fun j => decide (j ∈ ns)) c ∧ c ≤ ns.length ∧ ∀ b o, s.heap.get? b = some o → g.get? b = some o
theorem set_of_list {p : Addr} {items : Array Value} (ns : List Int) {Q : Value → Shared → Prop} (calm : A.handled = none) (is : s.heap.IsList p items) (hint : IntsAre items.toList ns) (room : ns.length + 1 < scanBound)
    (go : ∀ t, SetLeft w s ns t → Q (.ref s.heap.objs.size) t) : wpAny (model P w) A (call (.type "set") [.ref p]) Q E s := by
  have size : items.size = ns.length := by have z := IntsAre.length hint; rwa [Array.length_toList] at z
  obtain ⟨_, _, mro⟩ := F.called_set.mro
  have made := F.called_set.made; have sub := F.called_set.sub
  refine wpAny_call (codeAny_of_tree ?_)
  change wpAny _ _ (callAny (.type "set") _) _ _ _
  refine wpAny_pure ⟨Code.quiet_builtin _ (by decide +kernel), codeAny_builtin F.entry_type_call ?_⟩
  rw [Around.under_plain (weight_type_call_type "set" [.ref p] []) rfl]
  have c1 := F.called_set.notType; have c2 := F.called_set.canCreate; have c3 := F.typeCall_set_1 (.ref p)
  repeat (any_goals (first | assumption | wp_step))
  refine codeAny_mono (code_set_led1 (.ref p) (E := E) (Q₁ := fun v t => v = .ref s.heap.objs.size ∧ t = { s with heap := s.heap.push (setN w) }) ⟨rfl, rfl⟩) fun res t hres => ?_
  match res, hres with
  | .error _, hres => exact hres
  | .ok (.next), hres => exact hres.elim
  | .ok (.brk), hres => exact hres.elim
  | .ok (.cont), hres => exact hres.elim
  | .ok (.ret v), hres =>
    obtain ⟨rfl, rfl⟩ := hres
    have at0 : (s.heap.push (setN w)).get? s.heap.objs.size = some (setN w) := Heap.get?_push_size _ rfl
    have ty0 : Shared.TypeIs { s with heap := s.heap.push (setN w) } (.ref s.heap.objs.size) "set" := ⟨_, at0, rfl⟩
    have i1 := F.called_set.init.lookup; have i2 := F.called_set.init.bind (.ref s.heap.objs.size)
    repeat (any_goals (first | assumption | wp_step))
    refine codeAny_mono (codeAny_call_builtin (R := wants (fun v t => v = .none ∧ SetLeft w s ns t) E) F.called_set.init.plain F.entry_set_init (check_set_init_1 ty0 ?_)) fun res2 t2 hres2 => ?_
    · obtain ⟨⟨k1, k2, k3, k4⟩, at1, e1, nl, e2⟩ := is
      simp only at e1 e2
      subst e1 e2
      have at2 : (s.heap.push (setN w)).get? p = some { cls := .type "list", dict := k2, data := .seq items nl, slots := k4 } := Heap.get?_push_of_some _ at1
      have u1 := F.sub_list_set; have u2 := F.sub_list_frozenset
      have u3 : (Value.type "list" == Value.type "dict") = false := by decide
      have is1 : (s.heap.push (setN w)).IsList p items := ⟨_, at2, rfl, nl, rfl⟩
      unfold Builtin.«set.__init__» noKeywords Builtin.Frozenset.updateFrom
      generalize epi : pyIter = pi
      wp_walk
      subst epi
      refine wpAny_pyIter_list is1 (wpAny_bind (wpAny_runValue ?_))
      have lt1 : p < s.heap.objs.size := Heap.lt_size at1
      have calm3 : A.in1.in1.in1.handled = none := by simp [calm]
      have ne1 : p ≠ (s.heap.push (setN w)).objs.size := by rw [Heap.size_push]; exact Nat.ne_of_lt (Nat.lt_succ_of_lt lt1)
      have out1 : s.heap.objs.size ∉ [(s.heap.push (setN w)).objs.size, p] := by
        rw [Heap.size_push]
        simp only [List.mem_cons, List.mem_singleton, List.not_mem_nil, or_false, not_or]
        exact ⟨Nat.ne_of_lt (Nat.lt_succ_self _), Nat.ne_of_gt lt1⟩
      have vals : ∀ (i : Nat) (v : Value), items[i]? = some v → ∃ k t, ns[i]? = some k ∧ v = .int k t := fun i v hv => by
        have lt : i < ns.length := by rw [← size]; exact (Array.getElem?_eq_some_iff.mp hv).1
        obtain ⟨t, e⟩ := IntsAre.int_at hint i v (by rw [Array.getElem?_toList]; exact hv)
        exact ⟨ns[i], t, List.getElem?_eq_getElem lt, by rw [e, List.getD_eq_getElem?_getD, List.getElem?_eq_getElem lt]; rfl⟩
      refine set_update_ints ((Walks.list calm3 _ p ne1 items).toS) s.heap.objs.size out1 ns size room vals (items.size - 0) 0 _ (by omega) (Nat.zero_le _) ⟨⟨_, Heap.get?_push_size _ rfl, rfl, rfl⟩, (is1.push _)⟩ ⟨0, Nat.le_refl 0, setR_new_at (Heap.get?_push_of_some _ at0)⟩ ?_
      rintro ⟨g, g2, d2, tk, os⟩ c hm hc hS
      have x1 : g2 = s.gens := hm.gens
      have x2 : d2 = s.drawn := hm.drawn
      have x3 : os = s.os := hm.os
      subst x1 x2 x3
      change wpAny _ _ _ _ _ _
      refine wpAny_pure ?_
      change wpAny _ _ (ret Value.none) _ _ _
      refine wpAny_pure ⟨rfl, g, tk, c, rfl, hS, by rw [← size]; exact hc, fun b o e => hm.heap b o ?_ (Heap.get?_push_of_some _ (Heap.get?_push_of_some _ e))⟩
      have lt : b < s.heap.objs.size := Heap.lt_size e
      have z : (s.heap.push (setN w)).objs.size = s.heap.objs.size + 1 := Heap.size_push ..
      simp only [List.mem_cons, List.mem_singleton, List.not_mem_nil, or_false, not_or]
      exact ⟨Nat.ne_of_lt lt, by rw [z]; exact Nat.ne_of_lt (Nat.lt_succ_of_lt lt)⟩
    · match res2, hres2 with
      | .error _, hres2 => exact hres2
      | .ok (.next), hres2 => exact hres2.elim
      | .ok (.brk), hres2 => exact hres2.elim
      | .ok (.cont), hres2 => exact hres2.elim
      | .ok (.ret v), hres2 =>
        obtain ⟨rfl, hl⟩ := hres2
        repeat (any_goals (first | assumption | wp_step))
        exact go _ hl
end

section
variable {X : Cx}
/-- set(xs), xs a list of ints -/
def rSetL (X : Cx) : List V → Hp → VK → Prop := fun xs H Q => ∃ (p : Addr) (ns : List Int), xs = [.ref p] ∧ SqL X.K H p (ns.map V.int) ∧ ns.length < 64 ∧ ∀ a c, H a = none → c ≤ ns.length → Q (.ref a) (upd H a (SetO X.w a (fun j => decide (j ∈ ns)) c))
theorem call_setL (calm : X.calm = true) : CallR X (.type "set") (rSetL X) := by
  intro pins s σ H xs us Q I r h
  obtain ⟨p, ns, rfl, hs, hl, q⟩ := h
  rw [Vals.ref1 r]
  obtain ⟨its, rv, ⟨⟨cls, dd, data, sl⟩, n, ho, hc, hdn, hd⟩, hlen⟩ := I.list hs
  simp only at hc hd
  subst hc hd
  have hi := ints_of_vals rv
  have hz : its.toArray.toList = its := by simp
  refine set_of_list (items := its.toArray) ns (I.ok.hd calm) ⟨_, ho, rfl, n, rfl⟩ (by rw [hz]; exact hi) (by unfold scanBound; omega) fun t hL => ?_
  obtain ⟨g, tk, c, rfl, hS, hc, hk⟩ := hL
  have hn : H s.heap.objs.size = none := I.hok.fresh (Nat.le_refl _)
  exact ⟨.ref s.heap.objs.size, _, I.laid (t' := tk) hk (Nat.le_refl _) (setO_new hS), rfl, q _ c hn hc⟩
end
/-! sorting ints, each once -/
theorem ins_mem (x : Int) : ∀ (l : List Int) (k : Int), k ∈ insI x l ↔ k = x ∨ k ∈ l
  | [], k => by simp [insI]
  | y :: r, k => by
    unfold insI
    split
    · simp
    · split
      · rename_i h; subst h; simp
      · have ih := ins_mem x r k
        simp only [List.mem_cons, ih]
        constructor
        · rintro (h | h | h) <;> simp [h]
        · rintro (h | h | h) <;> simp [h]
theorem ins_sorted (x : Int) : ∀ l : List Int, l.Pairwise (· < ·) → (insI x l).Pairwise (· < ·)
  | [], _ => by simp [insI]
  | y :: r, h => by
    unfold insI
    obtain ⟨h1, h2⟩ := List.pairwise_cons.mp h
    split
    · rename_i hx
      refine List.pairwise_cons.mpr ⟨fun z hz => ?_, h⟩
      rcases List.mem_cons.mp hz with rfl | hz
      · exact hx
      · exact Int.lt_trans hx (h1 z hz)
    · split
      · exact h
      · refine List.pairwise_cons.mpr ⟨fun z hz => ?_, ins_sorted x r h2⟩
        rcases (ins_mem x r z).mp hz with rfl | hz
        · omega
        · exact h1 z hz
theorem sort_mem : ∀ (l : List Int) (k : Int), k ∈ sortI l ↔ k ∈ l
  | [], k => by simp [sortI]
  | x :: r, k => by
    have ih := sort_mem r k
    show k ∈ insI x (sortI r) ↔ _
    rw [ins_mem, ih, List.mem_cons]
theorem sort_sorted : ∀ l : List Int, (sortI l).Pairwise (· < ·)
  | [] => by simp [sortI]
  | x :: r => ins_sorted x _ (sort_sorted r)
theorem sorted_eq : ∀ {l m : List Int}, l.Pairwise (· < ·) → m.Pairwise (· < ·) → (∀ k, k ∈ l ↔ k ∈ m) → l = m
  | [], [], _, _, _ => rfl
  | [], y :: m, _, _, h => by have := (h y).mpr (by simp); simp at this
  | x :: l, [], _, _, h => by have := (h x).mp (by simp); simp at this
  | x :: l, y :: m, hl, hm, h => by
    obtain ⟨l1, l2⟩ := List.pairwise_cons.mp hl
    obtain ⟨m1, m2⟩ := List.pairwise_cons.mp hm
    have e : x = y := by
      rcases List.mem_cons.mp ((h x).mp (by simp)) with e | e
      · exact e
      · rcases List.mem_cons.mp ((h y).mpr (by simp)) with e' | e'
        · exact e'.symm
        · have a := m1 x e; have b := l1 y e'; omega
    subst e
    refine congrArg _ (sorted_eq l2 m2 fun k => ?_)
    constructor
    · intro hk
      rcases List.mem_cons.mp ((h k).mp (by simp [hk])) with e | e
      · have := l1 k hk; omega
      · exact e
    · intro hk
      rcases List.mem_cons.mp ((h k).mpr (by simp [hk])) with e | e
      · have := m1 k hk; omega
      · exact e
theorem ints_back {T : Tb} {F : Hp} : ∀ {ds : List D} {ns : List Int} {vs : List V}, allI ds = some ns → RepL T F ds vs → vs = ns.map V.int
  | [], ns, vs, e, r => by cases e; cases r; rfl
  | d :: ds, ns, vs, e, r => by
    obtain ⟨v, t, rfl, h1, h2⟩ := r
    cases d <;> simp only [allI] at e <;> first | (cases e; done) | skip
    cases h : allI ds with
    | none => rw [h] at e; cases e
    | some ms =>
      rw [h] at e
      cases e
      cases h1
      rw [ints_back h h2]; rfl
theorem ints_rep {T : Tb} {F : Hp} : ∀ (ns : List Int), RepL T F (ns.map D.int) (ns.map V.int)
  | [] => rfl
  | n :: r => ⟨_, _, rfl, rfl, ints_rep r⟩
theorem allI_len : ∀ {ds : List D} {ns : List Int}, allI ds = some ns → ds.length = ns.length
  | [], ns, e => by cases e; rfl
  | d :: ds, ns, e => by
    cases d <;> simp only [allI] at e <;> first | (cases e; done) | skip
    cases h : allI ds with
    | none => rw [h] at e; cases e
    | some ms => rw [h] at e; cases e; simp [allI_len h]

section
variable {S : Type} [Pen S] {Z : Cz S} {G : Fm} {W : WX} {X : Cx} {a : Expr} {ca : CE}
theorem dw_sset {p p2 pos pos2 : Pos} (hK : X.K = Z.T.K) (calm : X.calm = true) (hg : Gl X "sorted") (hm : X.mg "sorted" = none) (hg2 : Gl X "set") (hm2 : X.mg "set" = none) (ha : PE X a (tD Z G W ca)) (hs : isStar a = false) :
    PE X (.Call (.Name "sorted" p) [.Call (.Name "set" p2) [a] [] pos2] [] pos) (tDL Z G W (.sset ca)) := by
  have in_ := pe_callTy (call_setL (X := X) calm) (pos := pos2) (p := p2) hg2 hm2 (by decide +kernel) (pa_cons ha pa_nil (starEach_plain hs)) (by decide) (by decide) (starEach_plain hs) rfl
  refine (pe_callB (cr_sortedSet calm) (pos := pos) (p := p) hg hm (by decide +kernel) (pa_cons in_ pa_nil)).imp fun σ H Q => ?_
  rintro ⟨F0, τ, s, q, h⟩
  simp only [evW] at h
  refine ⟨F0, τ, s, q, h.bind fun x v τ1 s1 F1 H1 e1 q1 r1 h1 => ?_⟩
  cases x with
  | lst ds =>
    simp only at h1
    cases ei : allI ds with
    | none => rw [ei] at h1; exact h1.elim
    | some ns =>
      rw [ei] at h1
      obtain ⟨hl, h1⟩ := h1.bif
      have hl := of_decide_eq_true hl
      obtain ⟨p0, vs, rfl, hF, rl⟩ := r1
      have ev := ints_back ei rl
      subst ev
      refine ⟨p0, ns, rfl, SqL.of (q1.fh _ _ hF), hl, fun b c hb hc => ⟨b, _, c, rfl, upd_same, by omega, fun ms p' hms hmem hlen hp' => ?_⟩⟩
      have e : ms = sortI ns := sorted_eq hms (sort_sorted ns) fun k => by
        rw [hmem, sort_mem, decide_eq_true_eq]
      rw [e]
      exact h1 _ _ F1 (Sub.refl _) (q1.newU hb) (ints_rep _) p' hp'
  | _ => exact h1.elim
end
end Rz
end

section
set_option autoImplicit false
set_option Elab.async false
set_option linter.all false
set_option maxHeartbeats 1000000
set_option maxRecDepth 100000
namespace Rz
open PySem PySem.Spec PySem.W PyProof.Rows L2

section
variable {S : Type} [Pen S] {T : Tb} {pn : Pn S} {G : Fm} {F H : Hp} {σ : L2.St} {τ : List Slot} {s : S}
/-! ### freezing for the time of an expression -/
def OwnA (σ : L2.St) (τ : List Slot) (a : Addr) : Prop := ∃ (i : Nat) (x : Slot), τ[i]? = some x ∧ x.isOwn = true ∧ σ.getD i none = some (.ref a)
open Classical in
noncomputable def frzF (F H : Hp) (σ : L2.St) (τ : List Slot) : Hp := fun a => if OwnA σ τ a then H a else F a
open Classical in
noncomputable def thawF (F : Hp) (σ : L2.St) (τ : List Slot) : Hp := fun a => if OwnA σ τ a then none else F a
theorem frzF_own {a : Addr} (h : OwnA σ τ a) : frzF F H σ τ a = H a := if_pos h
theorem frzF_not {a : Addr} (h : ¬ OwnA σ τ a) : frzF F H σ τ a = F a := if_neg h
theorem thawF_own {a : Addr} (h : OwnA σ τ a) : thawF F σ τ a = none := if_pos h
theorem thawF_not {a : Addr} (h : ¬ OwnA σ τ a) : thawF F σ τ a = F a := if_neg h
theorem SR.ownF (h : SR T pn G F H σ τ s) {a : Addr} (o : OwnA σ τ a) : F a = none ∧ G a = none ∧ a ≠ T.pen := by
  obtain ⟨i, x, e, ox, ea⟩ := o
  have k := h.sl i x e
  cases x with
  | none => cases ox
  | fz d => cases ox
  | own ds =>
    obtain ⟨b, ob, e1, e2, e3, e4, e5, _⟩ := k
    rw [e1] at ea; cases ea
    exact ⟨e3, e4, e5⟩
  | ownI c ds =>
    obtain ⟨b, ob, e1, e2, e3, e4, e5, _⟩ := k
    rw [e1] at ea; cases ea
    exact ⟨e3, e4.1, e5⟩
theorem SR.subFrz (h : SR T pn G F H σ τ s) : Sub F (frzF F H σ τ) := fun a o e => by
  rw [frzF_not (fun z => by rw [(h.ownF z).1] at e; cases e)]; exact e
theorem SR.frzAll (h : SR T pn G F H σ τ s) : SR T pn G (frzF F H σ τ) H σ (τ.map Slot.frz) s := by
  have sF := h.subFrz
  refine ⟨fun a o e => ?_, h.pen, ?_, pn.mono _ _ _ sF h.pinv, fun a o e => ?_, by rw [List.length_map]; exact h.len, fun i x e => ?_, fun i j x y a _ e1 _ o1 _ _ _ => ?_, h.tb.ext sF (fun p hp => by rw [frzF_not (fun z => let ⟨i, x, e, ox, ea⟩ := z; h.ownT e ox ea p hp rfl)]; exact h.tF hp) (fun _ _ _ e => e), h.tg⟩
  · by_cases z : OwnA σ τ a
    · rw [frzF_own z] at e; exact e
    · rw [frzF_not z] at e; exact h.fh a o e
  · rw [frzF_not (fun z => (h.ownF z).2.2 rfl)]; exact h.penF
  · obtain ⟨a1, a2, a3⟩ := h.gh a o e
    exact ⟨a1, by rw [frzF_not (fun z => by rw [(h.ownF z).2.1] at e; cases e)]; exact a2, a3⟩
  · rw [List.getElem?_map] at e
    cases q : τ[i]? with
    | none => rw [q] at e; cases e
    | some y =>
      rw [q] at e
      cases e
      have k := h.sl i y q
      cases y with
      | none => trivial
      | fz d => obtain ⟨v, e1, r⟩ := k; exact ⟨v, e1, r.mono sF⟩
      | own ds =>
        obtain ⟨a, ob, e1, e2, e3, e4, e5, vs, rfl, r⟩ := k
        exact ⟨.ref a, e1, a, vs, rfl, by rw [frzF_own ⟨i, _, q, rfl, e1⟩]; exact e2, r.mono sF⟩
      | ownI c ds =>
        obtain ⟨a, ob, e1, e2, e3, e4, e5, dx, vs, rfl, l, r⟩ := k
        exact ⟨.ref a, e1, a, dx, vs, rfl, by rw [frzF_own ⟨i, _, q, rfl, e1⟩]; exact e2, l, r.mono sF⟩
  · exfalso
    rw [List.getElem?_map] at e1
    cases q : τ[i]? with
    | none => rw [q] at e1; cases e1
    | some y =>
      rw [q] at e1
      cases e1
      cases y <;> cases o1
theorem SR.thaw (h : SR T pn G F H σ τ s) {F' H' : Hp} {τ' : List Slot} {s' : S} (e : Sub (frzF F H σ τ) F') (k : SR T pn G F' H' σ τ' s') : Sub F (thawF F' σ τ) ∧ SR T pn G (thawF F' σ τ) H' σ τ s' := by
  have sF : Sub F (thawF F' σ τ) := fun a o q => by
    rw [thawF_not (fun z => by rw [(h.ownF z).1] at q; cases q)]; exact e _ _ (h.subFrz _ _ q)
  have nn : ∀ {a : Addr}, F' a = none → thawF F' σ τ a = none := fun {a} q => by
    by_cases z : OwnA σ τ a
    · exact thawF_own z
    · rw [thawF_not z]; exact q
  refine ⟨sF, fun a o q => ?_, k.pen, nn k.penF, pn.mid _ _ _ _ _ sF h.pinv k.pinv, fun a o q => ?_, h.len, fun i x q => ?_, h.ap, fun p hp => ?_, h.tg⟩
  · by_cases z : OwnA σ τ a
    · rw [thawF_own z] at q; cases q
    · rw [thawF_not z] at q; exact k.fh a o q
  · obtain ⟨a1, a2, a3⟩ := k.gh a o q
    exact ⟨a1, nn a2, a3⟩
  · have w := h.sl i x q
    cases x with
    | none => trivial
    | fz d => obtain ⟨v, e1, r⟩ := w; exact ⟨v, e1, r.mono sF⟩
    | own ds =>
      obtain ⟨a, ob, e1, e2, e3, e4, e5, o⟩ := w
      have oa : OwnA σ τ a := ⟨i, _, q, rfl, e1⟩
      exact ⟨a, ob, e1, k.fh _ _ (e _ _ (by rw [frzF_own oa]; exact e2)), thawF_own oa, e4, e5, o.mono sF⟩
    | ownI c ds =>
      obtain ⟨a, ob, e1, e2, e3, e4, e5, o⟩ := w
      have oa : OwnA σ τ a := ⟨i, _, q, rfl, e1⟩
      exact ⟨a, ob, e1, k.fh _ _ (e _ _ (by rw [frzF_own oa]; exact e2)), thawF_own oa, e4, e5, o.mono sF⟩
  · obtain ⟨h1, h2, ps, h3, h4⟩ := k.tb p hp
    refine ⟨h1, nn h2, ps, h3, h4.1, fun pos cv ec => ?_⟩
    obtain ⟨c, e1, e2⟩ := h4.2 pos cv ec
    refine ⟨c, e1, ?_⟩
    rw [thawF_not (fun oa => ?_)]
    · exact e2
    · have oa' := oa
      obtain ⟨i, x, ex, ox, ea⟩ := oa'
      have w := h.sl i x ex
      cases x with
      | none => cases ox
      | fz d => cases ox
      | own ds =>
        obtain ⟨b, ob, f1, f2, _, _, _, o⟩ := w
        rw [f1] at ea; cases ea
        have := e _ _ (by rw [frzF_own oa]; exact f2 : frzF F H σ τ c = some ob)
        rw [e2] at this
        exact o.code c p.2 (Option.some.inj this).symm
      | ownI k' ds =>
        obtain ⟨b, ob, f1, f2, _, _, _, o⟩ := w
        rw [f1] at ea; cases ea
        have := e _ _ (by rw [frzF_own oa]; exact f2 : frzF F H σ τ c = some ob)
        rw [e2] at this
        exact o.code c p.2 (Option.some.inj this).symm
theorem rep_scalar {d : D} {v : V} {F F' : Hp} (h : d.scalar = true) (r : Rep T F d v) : Rep T F' d v := by
  cases d <;> simp only [D.scalar] at h <;> first | (cases h; done) | exact r
mutual
theorem rep_noL {F' : Hp} (ho : ∀ a, OwnA σ τ a → ∃ vs, F' a = some (.lst vs)) : ∀ {d : D} {v : V}, d.noL = true → Rep T F' d v → Rep T (thawF F' σ τ) d v
  | .non, _, _, h => h
  | .bl _, _, _, h => h
  | .int _, _, _, h => h
  | .str _, _, _, h => h
  | .cls _, _, _, h => h
  | .ty _, _, _, h => h
  | .tup ds, _, hn, ⟨a, vs, e, q, r⟩ => by
    refine ⟨a, vs, e, ?_, repL_noL ho hn r⟩
    have nn : ∀ {o : HO}, F' a = some o → (∀ ws, o ≠ .lst ws) → thawF F' σ τ a = some o := fun {o} ho' hne => by
      rw [thawF_not (fun z => by obtain ⟨ws, hw⟩ := ho a z; rw [hw] at ho'; cases ho'; exact hne _ rfl)]; exact ho'
    rcases q with (q | ⟨o, q⟩) | q
    · exact .inl (.inl (nn q (by intro ws z; cases z)))
    · exact .inl (.inr ⟨o, nn q (by intro ws z; cases z)⟩)
    · exact .inr q
  | .ins c ds, _, hn, ⟨a, dx, vs, e, q, l, r⟩ => by
    refine ⟨a, dx, vs, e, ?_, l, repL_noL ho hn r⟩
    rw [thawF_not (fun z => by obtain ⟨ws, hw⟩ := ho a z; rw [hw] at q; cases q)]; exact q
  | .lst _, _, hn, _ => by cases hn
  | .xin _ _, _, hn, _ => by cases hn
  | .dct _ _, _, hn, _ => by cases hn
  | .fn _, _, hn, _ => by cases hn
  | .pen, _, hn, _ => by cases hn
  | .opq _, _, hn, _ => by cases hn
theorem repL_noL {F' : Hp} (ho : ∀ a, OwnA σ τ a → ∃ vs, F' a = some (.lst vs)) : ∀ {ds : List D} {vs : List V}, D.noLL ds = true → RepL T F' ds vs → RepL T (thawF F' σ τ) ds vs
  | [], _, _, h => h
  | d :: ds, _, hn, ⟨v, r, e, h, t⟩ => by
    have hn' : (D.noL d && D.noLL ds) = true := hn
    rw [Bool.and_eq_true] at hn'
    exact ⟨v, r, e, rep_noL ho hn'.1 h, repL_noL ho hn'.2 t⟩
end
theorem SR.ownL (h : SR T pn G F H σ τ s) (hn : τ.all Slot.noI = true) {F' : Hp} (e : Sub (frzF F H σ τ) F') : ∀ a, OwnA σ τ a → ∃ vs, F' a = some (.lst vs) := fun a oa => by
  obtain ⟨i, x, ex, ox, ea⟩ := id oa
  have k := h.sl i x ex
  cases x with
  | none => cases ox
  | fz d => cases ox
  | own ds =>
    obtain ⟨b, ob, e1, e2, e3, e4, e5, vs, rfl, r⟩ := k
    rw [e1] at ea; cases ea
    exact ⟨vs, e _ _ (by rw [frzF_own oa]; exact e2)⟩
  | ownI c ds =>
    have z := List.all_eq_true.mp hn _ (List.mem_of_getElem? ex)
    cases z
end

/-! ### readings of statements -/
section
variable {S : Type} [Pen S]
def PostS (Z : Cz S) (G : Fm) (F : Hp) (E : Ends) (W : WX) : Out S Fl → Prop
  | .ok fl τ' s' => match fl with
    | .next => ∀ σ' H' F', Sub F F' → SR Z.T Z.pn G F' H' σ' τ' s' → E.nx σ' H'
    | .brk => ∀ σ' H' F', Sub F F' → SR Z.T Z.pn G F' H' σ' τ' s' → E.bk σ' H'
    | .cont => ∀ σ' H' F', Sub F F' → SR Z.T Z.pn G F' H' σ' τ' s' → E.ct σ' H'
    | .ret d => ∀ v σ' H' F', Sub F F' → SR Z.T Z.pn G F' H' σ' τ' s' → Rep Z.T F' d v → E.rt v H'
  | .exc c fs τ' s' => ∀ σ' H' F' od, Sub F F' → SR Z.T Z.pn G F' H' σ' τ' s' → ExcOk Z.T F' c fs od → W (.ref (Z.T.cA c)) od σ' H'
  | .no => False
variable {Z : Cz S} {us : List Str} {G : Fm} {F H : Hp} {σ : L2.St} {τ : List Slot} {s : S} {W : WX} {X : Cx} {E : Ends}
theorem PostS.mono {F1 : Hp} {x : Out S Fl} (e : Sub F F1) (h : PostS Z G F E W x) : PostS Z G F1 E W x := by
  cases x with
  | ok fl τ s => cases fl <;> first | exact fun σ' H' F' k => h σ' H' F' (e.trans k) | exact fun v σ' H' F' k => h v σ' H' F' (e.trans k)
  | exc c fs τ s => exact fun σ' H' F' od k => h σ' H' F' od (e.trans k)
  | no => exact h
/-- an expression, then the rest -/
theorem PostS.bind {α β : Type} {Rp : Hp → α → β → Prop} {K : β → Hp → Prop} {x : Out S α} {f : α → List Slot → S → Out S Fl} (h : PostS Z G F E W (x.bind f))
    (k : ∀ a b τ1 s1 F1 H1, Sub F F1 → SR Z.T Z.pn G F1 H1 σ τ1 s1 → Rp F1 a b → PostS Z G F1 E W (f a τ1 s1) → K b H1) : Post Z G Rp F σ K W x := by
  cases x with
  | ok a τ s => exact fun b H' F' e q r => k a b τ s F' H' e q r (PostS.mono e h)
  | exc c fs τ s => exact fun H' F' od e q r => h σ H' F' od e q r
  | no => exact h
def tDS (Z : Cz S) (G : Fm) (W : WX) (c : CS) : TS := fun E σ H => ∃ F τ s, SR Z.T Z.pn G F H σ τ s ∧ PostS Z G F E W (ex Z.P Z.call Z.make c τ s)
def tDSs (Z : Cz S) (G : Fm) (W : WX) (c : CSs) : TS := fun E σ H => ∃ F τ s, SR Z.T Z.pn G F H σ τ s ∧ PostS Z G F E W (exs Z.P Z.call Z.make c τ s)
/-- an expression of a statement -/
def tDX (Z : Cz S) (G : Fm) (W : WX) (th : Bool) (c : CE) : TE := fun σ H Q => ∃ F τ s, SR Z.T Z.pn G F H σ τ s ∧ Post Z G (Rep Z.T) F σ Q W (evX Z.P Z.call Z.make th c τ s)
theorem dx_of {e : Expr} {c : CE} {th : Bool} (h : PE X e (tD Z G W c)) : PE X e (tDX Z G W th c) := h.imp fun σ H Q => by
  rintro ⟨F, τ, s, q, h⟩
  cases th with
  | false => exact ⟨F, τ, s, q, h⟩
  | true =>
    refine ⟨_, _, s, q.frzAll, ?_⟩
    simp only [evX] at h
    cases hx : ev Z.P Z.call Z.make c (τ.map Slot.frz) s with
    | no => rw [hx] at h; exact h
    | exc k fs τ1 s1 => rw [hx] at h; exact fun H' F' od e => h H' F' od (q.subFrz.trans e)
    | ok d τ1 s1 =>
      rw [hx] at h
      obtain ⟨hs, h⟩ := Post.bif h
      intro v H' F' e1 q1 r1
      obtain ⟨e2, q2⟩ := q.thaw e1 q1
      rw [Bool.or_eq_true] at hs
      rcases hs with hs | hs
      · exact h v H' _ e2 q2 (rep_scalar hs r1)
      · rw [Bool.and_eq_true] at hs
        exact h v H' _ e2 q2 (rep_noL (q.ownL hs.2 e1) hs.1 r1)
/-- a test of a statement -/
def tDXT (Z : Cz S) (G : Fm) (W : WX) (c : CE) : TT := fun σ H Q => ∃ F τ s, SR Z.T Z.pn G F H σ τ s ∧ Post Z G EqR F σ Q W (evTs Z.P Z.call Z.make c τ s)
theorem dxt_of {e : Expr} {c : CE} (h : PT X e (tDT Z G W c)) : PT X e (tDXT Z G W c) := h.imp fun σ H Q => by
  rintro ⟨F, τ, s, q, h⟩
  refine ⟨_, _, s, q.frzAll, ?_⟩
  simp only [evTs] at h
  cases hx : (ev Z.P Z.call Z.make c (τ.map Slot.frz) s).bind fun x τ s => truV Z.P Z.call x τ s with
  | no => rw [hx] at h; exact h
  | exc k fs τ1 s1 => rw [hx] at h; exact fun H' F' od e => h H' F' od (q.subFrz.trans e)
  | ok d τ1 s1 =>
    rw [hx] at h
    intro v H' F' e1 q1 r1
    obtain ⟨e2, q2⟩ := q.thaw e1 q1
    exact h v H' _ e2 q2 r1

variable {pos : Pos} {e a b : Expr} {ce ca cb : CE}
theorem ds_pass : PS X (.Pass pos) (tDS Z G W .pass) := ps_pass.imp fun E σ H => by
  rintro ⟨F, τ, s, q, h⟩
  exact h σ H F (Sub.refl _) q
theorem ds_brk : PS X (.Break pos) (tDS Z G W .brk) := ps_break.imp fun E σ H => by
  rintro ⟨F, τ, s, q, h⟩
  exact h σ H F (Sub.refl _) q
theorem ds_cont : PS X (.Continue pos) (tDS Z G W .cont) := ps_continue.imp fun E σ H => by
  rintro ⟨F, τ, s, q, h⟩
  exact h σ H F (Sub.refl _) q
theorem ds_retN : PS X (.Return none pos) (tDS Z G W .retN) := ps_retN.imp fun E σ H => by
  rintro ⟨F, τ, s, q, h⟩
  exact h _ σ H F (Sub.refl _) q rfl
theorem ds_ret (he : PE X e (tD Z G W ce)) : PS X (.Return (some e) pos) (tDS Z G W (.ret ce)) := (ps_ret he).imp fun E σ H => by
  rintro ⟨F, τ, s, q, h⟩
  simp only [ex] at h
  exact ⟨F, τ, s, q, h.bind fun x v τ1 s1 F1 H1 e1 q1 r1 h1 => h1 v σ H1 F1 (Sub.refl _) q1 r1⟩
theorem ds_expr {th : Bool} (he : PE X e (tD Z G W ce)) (hs : swapsWith e none pos.line X.env = pure false) : PS X (.Expr e pos) (tDS Z G W (.expr th ce)) := (ps_expr (dx_of he) hs).imp fun E σ H => by
  rintro ⟨F, τ, s, q, h⟩
  simp only [ex] at h
  exact ⟨F, τ, s, q, h.bind fun x v τ1 s1 F1 H1 e1 q1 r1 h1 => h1 σ H1 F1 (Sub.refl _) q1⟩
theorem ds_set {i : Nat} {x : Str} {p : Pos} {th : Bool} (hN : X.N.Nodup) (hx : nmOk X i x) (he : PE X e (tD Z G W ce)) (hs : swapsWithSole [.Name x p] e pos.line X.env = pure false) (hw : swappedStores [.Name x p] e X.env = pure none) : PS X (.Assign [.Name x p] e pos) (tDS Z G W (.set i th ce)) :=
  (ps_asg (dx_of he) (pg_name hN hx.1 hx.2.1 hx.2.2) hs hw rfl).imp fun E σ H => by
    rintro ⟨F, τ, s, q, h⟩
    simp only [ex] at h
    exact ⟨F, τ, s, q, h.bind fun x v τ1 s1 F1 H1 e1 q1 r1 h1 => h1 _ H1 F1 (Sub.refl _) (q1.setF _ r1)⟩
theorem ds_unpack {is : List Nat} {es : List Expr} {k : Nat} {p : Pos} (hK : X.K = Z.T.K) (hc : X.calm = true) (hN : X.N.Nodup) (hx : NmsOk X es is) (he : PE X e (tD Z G W ce)) (hs : swapsWithSole [.Tuple es k p] e pos.line X.env = pure false) (hw : swappedStores [.Tuple es k p] e X.env = pure none) :
    PS X (.Assign [.Tuple es k p] e pos) (tDS Z G W (.unpack is ce)) :=
  (ps_asg he (dg_many hK hc hN hx) hs hw rfl).imp fun E σ H => by
    rintro ⟨F, τ, s, q, h⟩
    simp only [ex] at h
    refine ⟨F, τ, s, q, h.bind fun x v τ1 s1 F1 H1 e1 q1 r1 h1 => ?_⟩
    cases hb : bindT (.many is) x τ1 with
    | none => rw [hb] at h1; exact h1.elim
    | some τ2 =>
      rw [hb] at h1
      exact gT_of q1 r1 hb fun σ' q' _ _ => h1 σ' H1 F1 (Sub.refl _) q'
/-- a new list becomes a slot's own -/
theorem SR.own (q : SR Z.T Z.pn G F H σ τ s) {p : Addr} {vs : List V} {ds : List D} (i : Nat) (hp : H p = none) (r : RepL Z.T F ds vs) : SR Z.T Z.pn G F (upd H p (.lst vs)) (σ.set i (some (.ref p))) (τ.set i (.own ds)) s := by
  have k := q.newU (o := .lst vs) hp
  refine ⟨k.fh, k.pen, k.penF, k.pinv, k.gh, by simpa using q.len, fun j y e => ?_, fun j l y z b hjk e1 e2 o1 o2 e3 e4 => ?_, k.tb, k.tg⟩
  · by_cases hj : j = i
    · subst hj
      have jlt : j < τ.length := by have := (List.getElem?_eq_some_iff.mp e).1; simpa using this
      rw [List.getElem?_set_self jlt] at e
      cases e
      have np : p ≠ Z.T.pen := by intro z; rw [z, q.pen] at hp; cases hp
      refine ⟨p, .lst vs, ?_, upd_same, q.fh.none hp, q.gfree hp, np, vs, rfl, r⟩
      rw [List.getD_eq_getElem?_getD, List.getElem?_set_self (by rw [q.len]; exact jlt)]; rfl
    · rw [List.getElem?_set_ne (Ne.symm hj)] at e
      have w := k.sl j y e
      rw [getD_eq (σ' := σ) (by rw [List.getElem?_set_ne (Ne.symm hj)])]
      exact w
  · have jlt : j < τ.length := by have := (List.getElem?_eq_some_iff.mp e1).1; simpa using this
    have llt : l < τ.length := by have := (List.getElem?_eq_some_iff.mp e2).1; simpa using this
    have other : ∀ {j : Nat} {y : Slot}, j ≠ i → (τ.set i (.own ds))[j]? = some y → y.isOwn = true → (σ.set i (some (V.ref p))).getD j none = some (.ref p) → False := by
      intro j y hj e o e3
      rw [List.getElem?_set_ne (Ne.symm hj)] at e
      rw [getD_eq (σ' := σ) (by rw [List.getElem?_set_ne (Ne.symm hj)])] at e3
      have w := q.sl j y e
      cases y with
      | none => cases o
      | fz d => cases o
      | own _ => obtain ⟨a, ob, e4, e5, _⟩ := w; rw [e4] at e3; cases e3; rw [hp] at e5; cases e5
      | ownI _ _ => obtain ⟨a, ob, e4, e5, _⟩ := w; rw [e4] at e3; cases e3; rw [hp] at e5; cases e5
    by_cases hj : j = i
    · subst hj
      have eb : b = p := by
        rw [List.getD_eq_getElem?_getD, List.getElem?_set_self (by rw [q.len]; exact jlt)] at e3
        cases e3; rfl
      subst eb
      exact other (Ne.symm hjk) e2 o2 e4
    · by_cases hl : l = i
      · subst hl
        have eb : b = p := by
          rw [List.getD_eq_getElem?_getD, List.getElem?_set_self (by rw [q.len]; exact llt)] at e4
          cases e4; rfl
        subst eb
        exact other hj e1 o1 e3
      · rw [List.getElem?_set_ne (Ne.symm hj)] at e1
        rw [List.getElem?_set_ne (Ne.symm hl)] at e2
        rw [getD_eq (σ' := σ) (by rw [List.getElem?_set_ne (Ne.symm hj)])] at e3
        rw [getD_eq (σ' := σ) (by rw [List.getElem?_set_ne (Ne.symm hl)])] at e4
        exact q.ap j l y z b hjk e1 e2 o1 o2 e3 e4
theorem ds_own {i : Nat} {x : Str} {p : Pos} {w : CW} (hN : X.N.Nodup) (hx : nmOk X i x) (he : PE X e (tDL Z G W w)) (hs : swapsWithSole [.Name x p] e pos.line X.env = pure false) (hw : swappedStores [.Name x p] e X.env = pure none) : PS X (.Assign [.Name x p] e pos) (tDS Z G W (.own i w)) :=
  (ps_asg he (pg_name hN hx.1 hx.2.1 hx.2.2) hs hw rfl).imp fun E σ H => by
    rintro ⟨F, τ, s, q, h⟩
    simp only [ex] at h
    exact ⟨F, τ, s, q, h.bind fun x v τ1 s1 F1 H1 e1 q1 r1 h1 => fun p hp => h1 _ _ F1 (Sub.refl _) (q1.own i hp r1)⟩

/-! ### suites, if -/
theorem dss_nil : PSs X [] (tDSs Z G W .nil) := pss_nil.imp fun E σ H => by
  rintro ⟨F, τ, s, q, h⟩
  exact h σ H F (Sub.refl _) q
theorem dss_cons {st : Stmt} {sts : List Stmt} {c : CS} {cs : CSs} (h1 : PS X st (tDS Z G W c)) (h2 : PSs X sts (tDSs Z G W cs)) : PSs X (st :: sts) (tDSs Z G W (.cons c cs)) := (pss_cons h1 h2).imp fun E σ H => by
  rintro ⟨F, τ, s, q, h⟩
  simp only [exs] at h
  refine ⟨F, τ, s, q, ?_⟩
  cases hx : ex Z.P Z.call Z.make c τ s with
  | no => rw [hx] at h; exact h
  | exc k fs τ1 s1 => rw [hx] at h; exact h
  | ok fl τ1 s1 =>
    rw [hx] at h
    cases fl with
    | next => exact fun σ' H' F' e q' => ⟨F', τ1, s1, q', PostS.mono e h⟩
    | brk => exact h
    | cont => exact h
    | ret d => exact h
theorem ds_if {c : Expr} {p r : List Stmt} {cp cr : CSs} (hc : PT X c (tDT Z G W ce)) (ha : PSs X p (tDSs Z G W cp)) (hb : PSs X r (tDSs Z G W cr)) : PS X (.If c p r pos) (tDS Z G W (.ite ce cp cr)) := (ps_if (dxt_of hc) ha hb).imp fun E σ H => by
  rintro ⟨F, τ, s, q, h⟩
  simp only [ex] at h
  refine ⟨F, τ, s, q, h.bind fun t b τ1 s1 F1 H1 e1 q1 r1 h1 => ?_⟩
  cases r1
  cases t with
  | true => exact ⟨F1, τ1, s1, q1, h1⟩
  | false => exact ⟨F1, τ1, s1, q1, h1⟩
end
end Rz
end

section
set_option autoImplicit false
set_option Elab.async false
set_option linter.all false
set_option maxHeartbeats 1000000
set_option maxRecDepth 100000
namespace Rz
open PySem PySem.Spec PySem.W PyProof.Rows L2

section
variable {S : Type} [Pen S] {Z : Cz S} {us : List Str} {G : Fm} {F H : Hp} {σ : L2.St} {τ : List Slot} {s : S} {W : WX} {X : Cx} {E : Ends}
variable {pos : Pos} {e a b : Expr} {ce ca cb : CE}

/-- an owned object is rewritten -/
theorem SR.rewrite {T : Tb} {pn : Pn S} (h : SR T pn G F H σ τ s) {i : Nat} {x x' : Slot} {p : Addr} {ob' : HO} (hx : τ[i]? = some x) (ho : x.isOwn = true) (hp : σ.getD i none = some (.ref p)) (hx' : x'.isOwn = true) (ho' : OwnO T F ob' x') (hs : ∀ c ds, x' = .ownI c ds → p = G.slf := by intro _ _ e; cases e) : SR T pn G F (upd H p ob') σ (τ.set i x') s := by
  have oa : OwnA σ τ p := ⟨i, x, hx, ho, hp⟩
  obtain ⟨f1, f2, f3⟩ := h.ownF oa
  have ilt : i < τ.length := (List.getElem?_eq_some_iff.mp hx).1
  have oth : ∀ {j : Nat} {y : Slot}, j ≠ i → τ[j]? = some y → y.isOwn = true → σ.getD j none ≠ some (.ref p) := fun {j y} hj e o z => h.ap j i y x p hj e hx o ho z hp
  refine ⟨fun q o e => ?_, by rw [upd_ne (Ne.symm f3)]; exact h.pen, h.penF, h.pinv, fun q o e => ?_, by simpa using h.len, fun j y e => ?_, fun j k y z q hjk e1 e2 o1 o2 e3 e4 => ?_, h.tb.ext (Sub.refl _) (fun t ht => h.tF ht) (fun t ht o e => by rw [upd_ne (h.ownT hx ho hp t ht)]; exact e), h.tg⟩
  · have n : q ≠ p := fun z => by rw [z, f1] at e; cases e
    rw [upd_ne n]; exact h.fh q o e
  · have n : q ≠ p := fun z => by rw [z, f2] at e; cases e
    rw [upd_ne n]; exact h.gh q o e
  · by_cases hj : j = i
    · subst hj
      rw [List.getElem?_set_self ilt] at e
      cases e
      cases x' with
      | none => cases hx'
      | fz d => cases hx'
      | own ds => exact ⟨p, ob', hp, upd_same, f1, f2, f3, ho'⟩
      | ownI c ds => exact ⟨p, ob', hp, upd_same, f1, ⟨f2, hs _ _ rfl⟩, f3, ho'⟩
    · rw [List.getElem?_set_ne (Ne.symm hj)] at e
      have w := h.sl j y e
      cases y with
      | none => trivial
      | fz d => exact w
      | own ds =>
        obtain ⟨q, ob, e1, e2, e3, e4, e5, o⟩ := w
        have n : q ≠ p := fun z => oth hj e rfl (by rw [e1, z])
        exact ⟨q, ob, e1, by rw [upd_ne n]; exact e2, e3, e4, e5, o⟩
      | ownI c ds =>
        obtain ⟨q, ob, e1, e2, e3, e4, e5, o⟩ := w
        have n : q ≠ p := fun z => oth hj e rfl (by rw [e1, z])
        exact ⟨q, ob, e1, by rw [upd_ne n]; exact e2, e3, e4, e5, o⟩
  · by_cases hj : j = i
    · subst hj
      rw [hp] at e3
      cases e3
      rw [List.getElem?_set_ne hjk] at e2
      exact oth (Ne.symm hjk) e2 o2 e4
    · by_cases hk : k = i
      · subst hk
        rw [hp] at e4
        cases e4
        rw [List.getElem?_set_ne (Ne.symm hj)] at e1
        exact oth hj e1 o1 e3
      · rw [List.getElem?_set_ne (Ne.symm hj)] at e1
        rw [List.getElem?_set_ne (Ne.symm hk)] at e2
        exact h.ap j k y z q hjk e1 e2 o1 o2 e3 e4

theorem swaps_call {f : Expr} {as : List Expr} {kw : List Keyword} {p : Pos} {l : Nat} {env : Env} : swapsWith (.Call f as kw p) none l env = pure false := rfl
/-- x.append(e) -/
theorem ds_append {i : Nat} {x : Str} {p ap cp : Pos} {th : Bool} (hv : PE X (.Name x p) (tVar i)) (he : PE X e (tD Z G W ce)) (hst : isStar e = false) (hline : (ap.endLine == cp.line) = true) :
    PS X (.Expr (.Call (.Attribute (.Name x p) "append" ap) [e] [] cp) pos) (tDS Z G W (.append i th ce)) := by
  have pa : PA X [e] (fun σ H Q => ∃ F τ s, SR Z.T Z.pn G F H σ τ s ∧ Post Z G (fun F d vs => ∃ v, vs = [v] ∧ Rep Z.T F d v) F σ Q W (evX Z.P Z.call Z.make th ce τ s)) :=
    (pa_cons (dx_of (th := th) he) pa_nil (starEach_plain hst)).imp fun σ H Q => by
      rintro ⟨F, τ, s, q, h⟩
      refine ⟨F, τ, s, q, ?_⟩
      revert h
      cases evX Z.P Z.call Z.make th ce τ s with
      | no => exact fun h => h
      | exc k fs τ1 s1 => exact fun h => h
      | ok d τ1 s1 => exact fun h v H' F' e1 q1 r1 => h [v] H' F' e1 q1 ⟨v, rfl, r1⟩
  refine (ps_expr (pe_bm F.plainAttrs_list F.slot_list_append F.type_list_append mt_append hv pa rfl (by rw [starEach_plain hst]; rfl) hline (starEach_plain hst) rfl) swaps_call).imp fun E σ H => ?_
  rintro ⟨F, τ, s, q, h⟩
  simp only [ex] at h
  cases hi : τ[i]? with
  | none => rw [hi] at h; exact h.elim
  | some sl =>
    rw [hi] at h
    cases sl with
    | own ds0 =>
      obtain ⟨p, ob, e1, e2, e3, e4, e5, vs0, rfl, r0⟩ := q.sl i _ hi
      refine ⟨.ref p, getD_of e1, .inl ⟨rfl, vs0, SqL.of e2⟩, F, τ, s, q, h.bind fun d vs τ1 s1 F1 H1 k1 q1 r1 h1 => ?_⟩
      obtain ⟨v, rfl, r1⟩ := r1
      cases hj : τ1[i]? with
      | none => rw [hj] at h1; exact h1.elim
      | some sl1 =>
        rw [hj] at h1
        cases sl1 with
        | own ds1 =>
          obtain ⟨p', ob1, f1, f2, f3, f4, f5, vs1, rfl, r2⟩ := q1.sl i _ hj
          rw [e1] at f1
          cases f1
          cases hl : lim (ds1.length + 1) with
          | false => simp only [hl] at h1; exact h1.elim
          | true =>
            simp only [hl] at h1
            refine ⟨p, vs1, v, rfl, rfl, f2, ?_, ?_⟩
            · rw [r2.length]; exact Nat.lt_of_lt_of_le (Nat.lt_succ_self _) (lim_size hl)
            · exact h1 σ _ F1 (Sub.refl _) (q1.rewrite hj rfl e1 rfl ⟨_, rfl, r2.append (RepL.one r1)⟩)
        | _ => exact h1.elim
    | _ => exact h.elim
/-- x.pop() -/
theorem RepL.dropLast {T : Tb} {F : Hp} {ds : List D} {vs : List V} (r : RepL T F ds vs) : RepL T F ds.dropLast vs.dropLast := by
  rw [List.dropLast_eq_take, List.dropLast_eq_take, r.length]
  exact r.take _
theorem ds_pop {i : Nat} {x : Str} {p ap cp : Pos} (hv : PE X (.Name x p) (tVar i)) (hline : (ap.endLine == cp.line) = true) :
    PS X (.Expr (.Call (.Attribute (.Name x p) "pop" ap) [] [] cp) pos) (tDS Z G W (.pop i)) := by
  refine (ps_expr (pe_bm0 F.plainAttrs_list F.slot_list_pop F.type_list_pop mt_pop hv rfl hline) swaps_call).imp fun E σ H => ?_
  rintro ⟨F, τ, s, q, h⟩
  simp only [ex] at h
  cases hi : τ[i]? with
  | none => rw [hi] at h; exact h.elim
  | some sl =>
    rw [hi] at h
    cases sl with
    | own ds =>
      obtain ⟨p, ob, e1, e2, e3, e4, e5, vs, rfl, r⟩ := q.sl i _ hi
      cases ds with
      | nil => exact h.elim
      | cons d ds =>
        have hl := r.length
        have hlt : vs.length - 1 < vs.length := by rw [hl]; simp
        refine ⟨.ref p, getD_of e1, .inl ⟨rfl, vs, SqL.of e2⟩, p, vs, vs[vs.length - 1], rfl, rfl, e2, List.getElem?_eq_getElem hlt, ?_⟩
        exact h σ _ F (Sub.refl _) (q.rewrite hi rfl e1 rfl ⟨_, rfl, r.dropLast⟩)
    | _ => exact h.elim

/-! ### loops -/
theorem PostS.loop {N : L2.St → Hp → Prop} {x : Out S Fl} {k : List Slot → S → Out S Fl} (h : PostS Z G F E W (x.bind fun f τ s => match f with
      | .next => k τ s
      | .cont => k τ s
      | .brk => .ok .next τ s
      | .ret d => .ok (.ret d) τ s)) (hN : ∀ σ' H' F' τ' s', Sub F F' → SR Z.T Z.pn G F' H' σ' τ' s' → PostS Z G F' E W (k τ' s') → N σ' H') : PostS Z G F { E with nx := N, ct := N, bk := E.nx } W x := by
  cases x with
  | no => exact h
  | exc c fs τ s => exact h
  | ok fl τ1 s1 =>
    cases fl with
    | next => exact fun σ' H' F' e q => hN σ' H' F' τ1 s1 e q (PostS.mono e h)
    | cont => exact fun σ' H' F' e q => hN σ' H' F' τ1 s1 e q (PostS.mono e h)
    | brk => exact h
    | ret d => exact h
theorem ds_while {c : Expr} {body : List Stmt} {cb : CSs} (hp : PassesOwn (model X.prog X.w) X.A X.env X.xe) (hc : PT X c (tDT Z G W ce)) (hb : PSs X body (tDSs Z G W cb)) : PS X (.While c body [] pos) (tDS Z G W (.while ce cb)) :=
  (ps_while hp (dxt_of hc) hb).imp fun E σ H => by
    rintro ⟨F, τ, s, q, h⟩
    simp only [ex] at h
    refine ⟨fun m σ H => ∃ F τ s, SR Z.T Z.pn G F H σ τ s ∧ PostS Z G F E W (whileL (fun τ s => evTs Z.P Z.call Z.make ce τ s) (fun τ s => exs Z.P Z.call Z.make cb τ s) m τ s), ⟨wfuel, F, τ, s, q, h⟩, ?_⟩
    rintro m σ1 H1 ⟨F1, τ1, s1, q1, h1⟩
    cases m with
    | zero => exact h1.elim
    | succ n =>
      simp only [whileL] at h1
      refine ⟨F1, τ1, s1, q1, h1.bind fun t b τ2 s2 F2 H2 e2 q2 r2 h2 => ?_⟩
      cases r2
      cases t with
      | false => exact h2 σ1 H2 F2 (Sub.refl _) q2
      | true =>
        refine ⟨fun σ' H' => ∃ F τ s, SR Z.T Z.pn G F H' σ' τ s ∧ PostS Z G F E W (whileL (fun τ s => evTs Z.P Z.call Z.make ce τ s) (fun τ s => exs Z.P Z.call Z.make cb τ s) n τ s), fun σ' H' z => ⟨n, Nat.lt_succ_self _, z⟩, F2, τ2, s2, q2, ?_⟩
        exact PostS.loop h2 fun σ' H' F' τ' s' e q k => ⟨F', τ', s', q, k⟩
theorem ds_for {tg iter : Expr} {body : List Stmt} {ctg : Tg} {ci : CI} {cb : CSs} (hp : PassesOwn (model X.prog X.w) X.A X.env X.xe) (hc : X.calm = true) (hi : PI X tg iter (iD Z G W ci)) (hg : PG X tg (gT Z.T.K ctg)) (hb : PSs X body (tDSs Z G W cb)) (hs : ∀ x, foldedSetIterable iter X.env x = pure x) :
    PS X (.For tg iter body [] pos) (tDS Z G W (.for ctg ci cb)) :=
  (ps_for hp hc hi hg hb hs).imp fun E σ H => by
    rintro ⟨F, τ, s, q, h⟩
    simp only [ex] at h
    refine ⟨F, τ, s, q, h.bind fun ds J τ1 s1 F1 H1 e1 q1 wk h1 => ?_⟩
    generalize hbd : (fun (d : D) (τ : List Slot) (s : S) => match bindT ctg d τ with
      | some τ => exs Z.P Z.call Z.make cb τ s
      | none => .no) = bd at h1
    refine for_it wk (g := gT Z.T.K ctg) (tb := tDSs Z G W cb) (D := E) (σ := σ) (H := H1) (fun i σ H => ∃ F2 τ2 s2, Sub F1 F2 ∧ SR Z.T Z.pn G F2 H σ τ2 s2 ∧ PostS Z G F2 E W (forL bd (ds.drop i) τ2 s2)) ⟨F1, τ1, s1, Sub.refl _, q1, h1⟩ ?_ ?_ ?_
    · rintro i σ2 H2 hi ⟨F2, τ2, s2, e2, q2, _⟩
      exact e2.trans q2.fh
    · rintro i x σ2 H2 H3 hi ⟨F2, τ2, s2, e2, q2, h2⟩ ⟨d, hd, hy⟩
      have hdrop : ds.drop i = d :: ds.drop (i + 1) := by
        obtain ⟨z, rfl⟩ := List.getElem?_eq_some_iff.mp hd
        exact List.drop_eq_getElem_cons z
      rw [hdrop] at h2
      simp only [forL] at h2
      obtain ⟨F3, e3, q3, rd⟩ : ∃ F3, Sub F2 F3 ∧ SR Z.T Z.pn G F3 H3 σ2 τ2 s2 ∧ Rep Z.T F3 d x := by
        rcases hy with ⟨rfl, rd⟩ | ⟨p, d1, d2, v1, v2, rfl, rfl, hp, rfl, r1, r2⟩
        · exact ⟨F2, Sub.refl _, q2, rd.mono e2⟩
        · have hF := q2.fh.none hp
          exact ⟨upd F2 p (.tup [v1, v2]), Sub.new hF, q2.new hp, p, [v1, v2], rfl, SqT.of upd_same, RepL.two ((r1.mono e2).mono (Sub.new hF)) ((r2.mono e2).mono (Sub.new hF))⟩
      replace h2 := PostS.mono e3 h2
      cases hbt : bindT ctg d τ2 with
      | none =>
        have z : bd d τ2 s2 = .no := by rw [← hbd]; simp only [hbt]
        rw [z] at h2; exact h2.elim
      | some τ3 =>
        have z : bd d τ2 s2 = exs Z.P Z.call Z.make cb τ3 s2 := by rw [← hbd]; simp only [hbt]
        rw [z] at h2
        refine gT_of q3 rd hbt fun σ4 q4 _ _ => ⟨F3, τ3, s2, q4, ?_⟩
        exact PostS.loop h2 fun σ' H' F' τ' s' e q k => ⟨F', τ', s', e2.trans (e3.trans e), q, k⟩
    · rintro σ2 H2 ⟨F2, τ2, s2, e2, q2, h2⟩
      rw [List.drop_length] at h2
      simp only [forL] at h2
      exact h2 σ2 H2 F2 (Sub.refl _) q2
end
end Rz
end

section
set_option autoImplicit false
set_option Elab.async false
set_option linter.all false
set_option maxHeartbeats 1000000
set_option maxRecDepth 100000
namespace Rz
open PySem PySem.Spec PySem.W PyProof.Rows L2

section
variable {S : Type} [Pen S] {Z : Cz S} {us : List Str} {G : Fm} {F H : Hp} {σ : L2.St} {τ : List Slot} {s : S} {W : WX} {X : Cx} {E : Ends}
variable {pos : Pos} {e a b : Expr} {ce ca cb : CE}

theorem ds_never {st : Stmt} : PS X st (tDS Z G W .never) := ps_never.imp fun E σ H => by
  rintro ⟨F, τ, s, q, h⟩
  exact h
theorem de_never {e : Expr} : PE X e (tD Z G W .never) := ⟨fun pins sh σ H Q I ⟨F, τ, s, q, h⟩ => h.elim⟩

/-! ### a comprehension stored on its own line -/
theorem ds_lc {i : Nat} {y : Str} {py spos : Pos} {elt tg iter : Expr} {ifs : List Expr} {scope : Scope} {own : List (Str × Nat)} {ctg : Tg} {ci : CI} {cs : CAs} {th : Bool} (hc : X.calm = true) (hN : X.N.Nodup) (hy : X.N[i]? = some y) (hyl : X.env.scope.names.lookup y = some .local)
    (hsw : swapsWith (.ListComp elt [⟨tg, iter, ifs, 0⟩] scope pos) (some (.Name y py)) spos.line X.env = pure true) (hi : PI X tg iter (iD Z G W ci)) (ok : BlkOk X.N X.env.scope scope own) (hv : own.map (·.2) = ctg.slots)
    (hg : ∀ (s : Shared) (H : Hp) (C : Addr) (cl : List (Str × Addr)) (fp : List Addr), PG (X.blk s H scope (compEnvC scope cl C X.env) fp) tg (gT Z.T.K ctg)) (ht : ∀ (G : Fm) (s : Shared) (H : Hp) (C : Addr) (cl : List (Str × Addr)) (fp : List Addr), PTs (X.blk s H scope (compEnvC scope cl C X.env) fp) ifs (tCs Z G WF cs))
    (he : ∀ (G : Fm) (s : Shared) (H : Hp) (C : Addr) (cl : List (Str × Addr)) (fp : List Addr), PE (X.blk s H scope (compEnvC scope cl C X.env) fp) elt (tD Z G WF ce)) (hs : ∀ x, foldedSetIterable iter X.env x = pure x) :
    PS X (.Assign [.Name y py] (.ListComp elt [⟨tg, iter, ifs, 0⟩] scope pos) spos) (tDS Z G W (.own i (.lc ce ctg ci cs))) ∧ PS X (.Assign [.Name y py] (.ListComp elt [⟨tg, iter, ifs, 0⟩] scope pos) spos) (tDS Z G W (.set i false (.nl (.lc ce ctg ci cs)))) := by
  have base := ps_setLc (spos := spos) hc hN hy hyl hsw hi ok hg (fun s H C cl fp => PTs.any fun G => ht G s H C cl fp) (fun s H C cl fp => PE.any fun G => he G s H C cl fp) hs
  refine ⟨base.imp fun E σ H => ?_, base.imp fun E σ H => ?_⟩
  · rintro ⟨F, τ, s, q, h⟩
    simp only [ex] at h
    exact tLc_of hv ⟨F, τ, s, q, h.bind fun x v τ1 s1 F1 H1 e1 q1 r1 h1 => fun p hp => h1 _ _ F1 (Sub.refl _) (q1.own i hp r1)⟩
  · rintro ⟨F, τ, s, q, h⟩
    simp only [ex, evX, ev] at h
    refine tLc_of hv ⟨F, τ, s, q, ?_⟩
    cases hx : evW Z.P Z.call Z.make (.lc ce ctg ci cs) τ s with
    | no => rw [hx] at h; exact h
    | exc k fs τ1 s1 => rw [hx] at h; exact fun H' F' od e1 q1 r1 => h σ H' F' od e1 q1 r1
    | ok ds τ1 s1 =>
      rw [hx] at h
      intro vs H' F' e1 q1 r1 p hp
      have hF := q1.fh.none hp
      exact h _ _ (upd F' p (.lst vs)) (e1.trans (Sub.new hF)) ((q1.new hp).setF i ⟨p, vs, rfl, upd_same, r1.mono (Sub.new hF)⟩)

/-! ### a, b = x, y -/
theorem SR.dropG {T : Tb} {pn : Pn S} {p : Addr} {o : HO} (h : SR T pn (G.upd p o) F H σ τ s) (hG : G p = none) : SR T pn G F H σ τ s := by
  have gg : ∀ {a : Addr}, (G.upd p o) a = none → G a = none := fun {a} e => by
    by_cases z : a = p
    · rw [z]; exact hG
    · rw [Fm.upd_ne z] at e; exact e
  refine ⟨h.fh, h.pen, h.penF, h.pinv, fun a u e => ?_, h.len, fun i x e => ?_, h.ap, h.tb, h.tgd⟩
  · have z : a ≠ p := fun z => by rw [z, hG] at e; cases e
    exact h.gh a u (by rw [Fm.upd_ne z]; exact e)
  · have k := h.sl i x e
    cases x with
    | none => trivial
    | fz d => exact k
    | own ds =>
      obtain ⟨a, ob, e1, e2, e3, e4, e5, o'⟩ := k
      exact ⟨a, ob, e1, e2, e3, gg e4, e5, o'⟩
    | ownI c ds =>
      obtain ⟨a, ob, e1, e2, e3, ⟨e4, e6⟩, e5, o'⟩ := k
      exact ⟨a, ob, e1, e2, e3, ⟨gg e4, e6⟩, e5, o'⟩
theorem SR.ownG {p : Addr} {vs : List V} {ds : List D} (h : SR Z.T Z.pn (G.upd p (.lst vs)) F H σ τ s) (hG : G p = none) (i : Nat) (r : RepL Z.T F ds vs) : SR Z.T Z.pn G F H (σ.set i (some (.ref p))) (τ.set i (.own ds)) s := by
  have z := (h.unframe hG).own i cut_same r
  rw [upd_cut (h.gh p _ Fm.upd_same).1] at z
  exact z
/-- the heap, or the heap with one more object -/
def Up (H H' : Hp) : Prop := H' = H ∨ ∃ p o, H p = none ∧ H' = upd H p o
theorem SR.up {T : Tb} {pn : Pn S} {H' : Hp} (h : SR T pn G F H σ τ s) (u : Up H H') : SR T pn G F H' σ τ s := by
  rcases u with rfl | ⟨p, o, hp, rfl⟩
  · exact h
  · exact h.newU hp
def CVok (Z : Cz S) (W : WX) (X : Cx) (e : Expr) (v : CV) (G : Fm) : Prop :=
  match v with
  | .f c => PE X e (tD Z G W c)
  | .w w => PE X e (tDL Z G W w)
  | .x c => PE X e (tDX Z G W true c)
/-- a value's evaluation -/
def tEv (Z : Cz S) (G : Fm) (W : WX) (E : List Slot → S → Out S D) : TE := fun σ H Q => ∃ F τ s, SR Z.T Z.pn G F H σ τ s ∧ Post Z G (Rep Z.T) F σ Q W (E τ s)
theorem _root_.L2.PA.mono {X : Cx} {es : List Expr} {t : TA} (h : PA X es t) : PA X es (fun σ H Q => ∃ Q', (∀ vs H, Q' vs H → Q vs H) ∧ t σ H Q') := ⟨fun p pins s σ H Q I ⟨Q', k, q⟩ => thn (h.run p pins s σ H Q' I q) fun us s1 ⟨vs, H1, I1, r, z⟩ => ⟨vs, H1, I1, r, k _ _ z⟩⟩
/-- a value to be stored: Rep, or owned by the frame -/
theorem ds_par2 {i j : Nat} {x y : Str} {px py pt pos : Pos} {kt k2 : Nat} {pt2 : Pos} {va vb : CV} (hK : X.K = Z.T.K) (hc : X.calm = true) (hN : X.N.Nodup) (hi : nmOk X i x) (hj : nmOk X j y)
    (ha : ∀ G, CVok Z W X a va G) (hb : ∀ G, CVok Z W X b vb G) (hsa : isStar a = false) (hsb : isStar b = false)
    (hw : (swappedStores [.Tuple [.Name x px, .Name y py] kt pt] (.Tuple [a, b] k2 pt2) X.env = pure (some [x, y]) ∧ X.env.scope.names.lookup x = some .local ∧ X.env.scope.names.lookup y = some .local) ∨ swappedStores [.Tuple [.Name x px, .Name y py] kt pt] (.Tuple [a, b] k2 pt2) X.env = pure none) (hij : i ≠ j) :
    PS X (.Assign [.Tuple [.Name x px, .Name y py] kt pt] (.Tuple [a, b] k2 pt2) pos) (tDS Z G W (.par2 i j va vb)) := by
  have main : ∀ {ta tb : TE}, PE X a ta → PE X b tb → PS X (.Assign [.Tuple [.Name x px, .Name y py] kt pt] (.Tuple [a, b] k2 pt2) pos) (fun E σ H => ta σ H fun v H1 => tb σ H1 fun w H2 => ∃ v' w', [v, w] = [v', w'] ∧ ∀ H3, Up H2 H3 → E.nx ((σ.set i (some v')).set j (some w')) H3) := fun {ta tb} h1 h2 => by
    have pa : PA X [a, b] (fun σ H Q => ta σ H fun v H1 => tb σ H1 fun w H2 => Q [v, w] H2) := (pa_cons h1 (pa_cons h2 pa_nil (starEach_plain hsb)) (starEach_plain hsa)).imp fun σ H Q h => h
    rcases hw with ⟨hw, hx, hy⟩ | hw
    · exact (ps_par (pos := pos) hc hN hi.1 hj.1 hij hx hy pa.mono hw rfl).imp fun E σ H h => ⟨fun vs H2 => ∃ v' w', vs = [v', w'] ∧ ∀ H3, Up H2 H3 → E.nx ((σ.set i (some v')).set j (some w')) H3, fun vs H2 ⟨v', w', e, k⟩ => ⟨v', w', e, k H2 (.inl rfl)⟩, h⟩
    · refine (ps_asg (pos := pos) (pe_tup pa.mono) (dg_many (Z := Z) (k := kt) (pos := pt) hK hc hN (.cons (pos := px) hi (.cons (pos := py) hj .nil))) rfl hw rfl).imp fun E σ H h => ⟨fun vs H2 => ∃ v' w', vs = [v', w'] ∧ ∀ H3, Up H2 H3 → E.nx ((σ.set i (some v')).set j (some w')) H3, fun vs H2 ⟨v', w', e, k⟩ => ?_, h⟩
      subst e
      refine ⟨by rw [sizeLine_eq]; show 2 ≤ _; decide, fun p hp => ?_⟩
      exact ⟨p, [v', w'], rfl, .inl (SqT.of upd_same), rfl, v', [w'], rfl, w', [], rfl, rfl, k _ (.inr ⟨p, _, hp, rfl⟩)⟩
  have hne : (i == j) = false := by simpa using hij
  -- an owned list, carried through an evaluation by the frame
  have vv : ∀ (E1 : List Slot → S → Out S D) (E2 : List Slot → S → Out S D), (∀ G, PE X a (tEv Z G W E1)) → (∀ G, PE X b (tEv Z G W E2)) → PS X (.Assign [.Tuple [.Name x px, .Name y py] kt pt] (.Tuple [a, b] k2 pt2) pos) (fun E σ H => ∃ F τ s, SR Z.T Z.pn G F H σ τ s ∧ PostS Z G F E W (((E1 τ s).bind fun d τ s => Out.ok (Slot.fz d) τ s).bind fun x τ s => ((E2 τ s).bind fun d τ s => Out.ok (Slot.fz d) τ s).bind fun y τ s => .ok .next ((τ.set i x).set j y) s)) := fun E1 E2 ha hb => by
    refine (main (ha G) (hb G)).imp fun E σ H => ?_
    rintro ⟨F, τ, s, q, h⟩
    refine ⟨F, τ, s, q, ?_⟩
    cases h1 : E1 τ s with
    | no => rw [h1] at h; exact h
    | exc k fs τ1 s1 => rw [h1] at h; exact fun H' F' od e1 q1 r1 => h σ H' F' od e1 q1 r1
    | ok d1 τ1 s1 =>
      rw [h1] at h
      intro v H1 F1 e1 q1 r1
      refine ⟨F1, τ1, s1, q1, ?_⟩
      simp only [Out.bind] at h
      cases h2 : E2 τ1 s1 with
      | no => rw [h2] at h; exact h
      | exc k fs τ1 s1 => rw [h2] at h; exact fun H' F' od e2 q1 r1 => h σ H' F' od (e1.trans e2) q1 r1
      | ok d2 τ2 s2 =>
        rw [h2] at h
        intro w H2 F2 e2 q2 r2
        exact ⟨v, w, rfl, fun H3 u => h _ _ F2 (e1.trans e2) (((q2.setF i (r1.mono e2)).setF j r2).up u)⟩
  have vw : ∀ (E1 : List Slot → S → Out S D) (w2 : CW), (∀ G, PE X a (tEv Z G W E1)) → (∀ G, PE X b (tDL Z G W w2)) → PS X (.Assign [.Tuple [.Name x px, .Name y py] kt pt] (.Tuple [a, b] k2 pt2) pos) (fun E σ H => ∃ F τ s, SR Z.T Z.pn G F H σ τ s ∧ PostS Z G F E W (((E1 τ s).bind fun d τ s => Out.ok (Slot.fz d) τ s).bind fun x τ s => ((evW Z.P Z.call Z.make w2 τ s).bind fun ds τ s => Out.ok (Slot.own ds) τ s).bind fun y τ s => .ok .next ((τ.set i x).set j y) s)) := fun E1 w2 ha hb => by
    refine (main (ha G) (hb G)).imp fun E σ H => ?_
    rintro ⟨F, τ, s, q, h⟩
    refine ⟨F, τ, s, q, ?_⟩
    cases h1 : E1 τ s with
    | no => rw [h1] at h; exact h
    | exc k fs τ1 s1 => rw [h1] at h; exact fun H' F' od e1 q1 r1 => h σ H' F' od e1 q1 r1
    | ok d1 τ1 s1 =>
      rw [h1] at h
      intro v H1 F1 e1 q1 r1
      refine ⟨F1, τ1, s1, q1, ?_⟩
      simp only [Out.bind] at h
      cases h2 : evW Z.P Z.call Z.make w2 τ1 s1 with
      | no => rw [h2] at h; exact h
      | exc k fs τ1 s1 => rw [h2] at h; exact fun H' F' od e2 q1 r1 => h σ H' F' od (e1.trans e2) q1 r1
      | ok d2 τ2 s2 =>
        rw [h2] at h
        intro vs H2 F2 e2 q2 r2 p hp
        exact ⟨v, .ref p, rfl, fun H3 u => h _ _ F2 (e1.trans e2) (((q2.setF i (r1.mono e2)).own j hp r2).up u)⟩
  have wv : ∀ (w1 : CW) (E2 : List Slot → S → Out S D), (∀ G, PE X a (tDL Z G W w1)) → (∀ G, PE X b (tEv Z G W E2)) → PS X (.Assign [.Tuple [.Name x px, .Name y py] kt pt] (.Tuple [a, b] k2 pt2) pos) (fun E σ H => ∃ F τ s, SR Z.T Z.pn G F H σ τ s ∧ PostS Z G F E W (((evW Z.P Z.call Z.make w1 τ s).bind fun ds τ s => Out.ok (Slot.own ds) τ s).bind fun x τ s => ((E2 τ s).bind fun d τ s => Out.ok (Slot.fz d) τ s).bind fun y τ s => .ok .next ((τ.set i x).set j y) s)) := fun w1 E2 ha hb => by
    refine (main (ha G) (PE.any (t := fun G => _) hb)).imp fun E σ H => ?_
    rintro ⟨F, τ, s, q, h⟩
    refine ⟨F, τ, s, q, ?_⟩
    cases h1 : evW Z.P Z.call Z.make w1 τ s with
    | no => rw [h1] at h; exact h
    | exc k fs τ1 s1 => rw [h1] at h; exact fun H' F' od e1 q1 r1 => h σ H' F' od e1 q1 r1
    | ok d1 τ1 s1 =>
      rw [h1] at h
      intro vs H1 F1 e1 q1 r1 p hp
      have hG := q1.gfree hp
      refine ⟨G.upd p (.lst vs), F1, τ1, s1, q1.frame hp, ?_⟩
      simp only [Out.bind] at h
      cases h2 : E2 τ1 s1 with
      | no => rw [h2] at h; exact h
      | exc k fs τ1 s1 => rw [h2] at h; exact fun H' F' od e2 q1 r1 => h σ H' F' od (e1.trans e2) (q1.dropG hG) r1
      | ok d2 τ2 s2 =>
        rw [h2] at h
        intro w H2 F2 e2 q2 r2
        exact ⟨.ref p, w, rfl, fun H3 u => h _ _ F2 (e1.trans e2) (((q2.ownG hG i (r1.mono e2)).setF j r2).up u)⟩
  have ww : ∀ (w1 w2 : CW), (∀ G, PE X a (tDL Z G W w1)) → (∀ G, PE X b (tDL Z G W w2)) → PS X (.Assign [.Tuple [.Name x px, .Name y py] kt pt] (.Tuple [a, b] k2 pt2) pos) (fun E σ H => ∃ F τ s, SR Z.T Z.pn G F H σ τ s ∧ PostS Z G F E W (((evW Z.P Z.call Z.make w1 τ s).bind fun ds τ s => Out.ok (Slot.own ds) τ s).bind fun x τ s => ((evW Z.P Z.call Z.make w2 τ s).bind fun ds τ s => Out.ok (Slot.own ds) τ s).bind fun y τ s => .ok .next ((τ.set i x).set j y) s)) := fun w1 w2 ha hb => by
    refine (main (ha G) (PE.any (t := fun G => _) hb)).imp fun E σ H => ?_
    rintro ⟨F, τ, s, q, h⟩
    refine ⟨F, τ, s, q, ?_⟩
    cases h1 : evW Z.P Z.call Z.make w1 τ s with
    | no => rw [h1] at h; exact h
    | exc k fs τ1 s1 => rw [h1] at h; exact fun H' F' od e1 q1 r1 => h σ H' F' od e1 q1 r1
    | ok d1 τ1 s1 =>
      rw [h1] at h
      intro vs H1 F1 e1 q1 r1 p hp
      have hG := q1.gfree hp
      refine ⟨G.upd p (.lst vs), F1, τ1, s1, q1.frame hp, ?_⟩
      simp only [Out.bind] at h
      cases h2 : evW Z.P Z.call Z.make w2 τ1 s1 with
      | no => rw [h2] at h; exact h
      | exc k fs τ1 s1 => rw [h2] at h; exact fun H' F' od e2 q1 r1 => h σ H' F' od (e1.trans e2) (q1.dropG hG) r1
      | ok d2 τ2 s2 =>
        rw [h2] at h
        intro ws H2 F2 e2 q2 r2 p2 hp2
        exact ⟨.ref p, .ref p2, rfl, fun H3 u => h _ _ F2 (e1.trans e2) (((q2.ownG hG i (r1.mono e2)).own j hp2 r2).up u)⟩
  have fin : ∀ {t : TS}, PS X (.Assign [.Tuple [.Name x px, .Name y py] kt pt] (.Tuple [a, b] k2 pt2) pos) t → (∀ E σ H, tDS Z G W (.par2 i j va vb) E σ H → t E σ H) → PS X (.Assign [.Tuple [.Name x px, .Name y py] kt pt] (.Tuple [a, b] k2 pt2) pos) (tDS Z G W (.par2 i j va vb)) := fun h k => h.imp k
  cases va with
  | f c =>
    cases vb with
    | f d => exact fin (vv _ _ ha hb) fun E σ H ⟨F, τ, s, q, h⟩ => ⟨F, τ, s, q, by simp only [ex, evV, hne, cond_false] at h; exact h⟩
    | w w => exact fin (vw _ _ ha hb) fun E σ H ⟨F, τ, s, q, h⟩ => ⟨F, τ, s, q, by simp only [ex, evV, hne, cond_false] at h; exact h⟩
    | x d => exact fin (vv _ (fun τ s => evX Z.P Z.call Z.make true d τ s) ha hb) fun E σ H ⟨F, τ, s, q, h⟩ => ⟨F, τ, s, q, by simp only [ex, evV, hne, cond_false] at h; exact h⟩
  | w c =>
    cases vb with
    | f d => exact fin (wv _ _ ha hb) fun E σ H ⟨F, τ, s, q, h⟩ => ⟨F, τ, s, q, by simp only [ex, evV, hne, cond_false] at h; exact h⟩
    | w w => exact fin (ww _ _ ha hb) fun E σ H ⟨F, τ, s, q, h⟩ => ⟨F, τ, s, q, by simp only [ex, evV, hne, cond_false] at h; exact h⟩
    | x d => exact fin (wv _ (fun τ s => evX Z.P Z.call Z.make true d τ s) ha hb) fun E σ H ⟨F, τ, s, q, h⟩ => ⟨F, τ, s, q, by simp only [ex, evV, hne, cond_false] at h; exact h⟩
  | x c =>
    cases vb with
    | f d => exact fin (vv (fun τ s => evX Z.P Z.call Z.make true c τ s) _ ha hb) fun E σ H ⟨F, τ, s, q, h⟩ => ⟨F, τ, s, q, by simp only [ex, evV, hne, cond_false] at h; exact h⟩
    | w w => exact fin (vw (fun τ s => evX Z.P Z.call Z.make true c τ s) _ ha hb) fun E σ H ⟨F, τ, s, q, h⟩ => ⟨F, τ, s, q, by simp only [ex, evV, hne, cond_false] at h; exact h⟩
    | x d => exact fin (vv (fun τ s => evX Z.P Z.call Z.make true c τ s) (fun τ s => evX Z.P Z.call Z.make true d τ s) ha hb) fun E σ H ⟨F, τ, s, q, h⟩ => ⟨F, τ, s, q, by simp only [ex, evV, hne, cond_false] at h; exact h⟩

/-! ### y = list(x), x kept -/
theorem ds_copy {i j : Nat} {x y : Str} {px py p pos pos2 : Pos} (hN : X.N.Nodup) (hy : nmOk X j y) (hv : PE X (.Name x px) (tVar i)) (hg : Gl X "list") (hm : X.mg "list" = none)
    (hs : swapsWithSole [.Name y py] (.Call (.Name "list" p) [.Name x px] [] pos2) pos.line X.env = pure false) (hw : swappedStores [.Name y py] (.Call (.Name "list" p) [.Name x px] [] pos2) X.env = pure none) :
    PS X (.Assign [.Name y py] (.Call (.Name "list" p) [.Name x px] [] pos2) pos) (tDS Z G W (.copy j i)) :=
  (ps_asg (pe_callTy call_list_of hg hm Bi.list.boot (pa_cons hv pa_nil rfl) Bi.list.notName Bi.list.notDebug rfl rfl) (pg_name hN hy.1 hy.2.1 hy.2.2) hs hw rfl).imp fun E σ H => by
    rintro ⟨F, τ, s, q, h⟩
    simp only [ex] at h
    cases hi : τ[i]? with
    | none => rw [hi] at h; exact h.elim
    | some sl =>
      rw [hi] at h
      cases sl with
      | own ds =>
        obtain ⟨a, ob, e1, e2, e3, e4, e5, vs, rfl, r⟩ := q.sl i _ hi
        refine ⟨.ref a, getD_of e1, a, vs, rfl, .inl (SqL.of e2), fun n hn => ?_⟩
        have nF := q.fh.none hn
        exact h _ _ (upd F n (.lst vs)) (Sub.new nF) ((q.new hn).setF j ⟨n, vs, rfl, upd_same, r.mono (Sub.new nF)⟩)
      | _ => exact h.elim
/-! ### a, b, c = x, y, z -/
theorem ds_par3 {i j l : Nat} {x y w : Str} {c : Expr} {cc : CE} {px py pz pt pos : Pos} {kt k2 : Nat} {pt2 : Pos} (hK : X.K = Z.T.K) (hc : X.calm = true) (hN : X.N.Nodup) (hi : nmOk X i x) (hj : nmOk X j y) (hl : nmOk X l w)
    (ha : PE X a (tD Z G W ca)) (hb : PE X b (tD Z G W cb)) (hcc : PE X c (tD Z G W cc)) (hsa : isStar a = false) (hsb : isStar b = false) (hsc : isStar c = false) (hij : i ≠ j) (hil : i ≠ l) (hjl : j ≠ l)
    (hw : (swappedStores [.Tuple [.Name x px, .Name y py, .Name w pz] kt pt] (.Tuple [a, b, c] k2 pt2) X.env = pure (some [x, y, w]) ∧ X.env.scope.names.lookup x = some .local ∧ X.env.scope.names.lookup y = some .local ∧ X.env.scope.names.lookup w = some .local) ∨ swappedStores [.Tuple [.Name x px, .Name y py, .Name w pz] kt pt] (.Tuple [a, b, c] k2 pt2) X.env = pure none) :
    PS X (.Assign [.Tuple [.Name x px, .Name y py, .Name w pz] kt pt] (.Tuple [a, b, c] k2 pt2) pos) (tDS Z G W (.par3 i j l ca cb cc)) := by
  have hne : (i == j || i == l || j == l) = false := by simp [hij, hil, hjl]
  have pa : PA X [a, b, c] (fun σ H Q => tD Z G W ca σ H fun v H1 => tD Z G W cb σ H1 fun v2 H2 => tD Z G W cc σ H2 fun v3 H3 => Q [v, v2, v3] H3) := (pa_cons ha (pa_cons hb (pa_cons hcc pa_nil (starEach_plain hsc)) (starEach_plain hsb)) (starEach_plain hsa)).imp fun σ H Q h => h
  have main : PS X (.Assign [.Tuple [.Name x px, .Name y py, .Name w pz] kt pt] (.Tuple [a, b, c] k2 pt2) pos) (fun E σ H => tD Z G W ca σ H fun v H1 => tD Z G W cb σ H1 fun v2 H2 => tD Z G W cc σ H2 fun v3 H3 => ∃ u v' u', [v, v2, v3] = [u, v', u'] ∧ ∀ H4, Up H3 H4 → E.nx (((σ.set i (some u)).set j (some v')).set l (some u')) H4) := by
    rcases hw with ⟨hw, hx, hy, hz⟩ | hw
    · exact (ps_par3 (pos := pos) hc hN hi.1 hj.1 hl.1 hij hil hjl hx hy hz pa.mono hw rfl).imp fun E σ H h => ⟨fun vs H2 => ∃ u v' u', vs = [u, v', u'] ∧ ∀ H3, Up H2 H3 → E.nx (((σ.set i (some u)).set j (some v')).set l (some u')) H3, fun vs H2 ⟨u, v', u', e, k⟩ => ⟨u, v', u', e, k H2 (.inl rfl)⟩, h⟩
    · refine (ps_asg (pos := pos) (pe_tup pa.mono) (dg_many (Z := Z) (k := kt) (pos := pt) hK hc hN (.cons (pos := px) hi (.cons (pos := py) hj (.cons (pos := pz) hl .nil)))) rfl hw rfl).imp fun E σ H h => ⟨fun vs H2 => ∃ u v' u', vs = [u, v', u'] ∧ ∀ H3, Up H2 H3 → E.nx (((σ.set i (some u)).set j (some v')).set l (some u')) H3, fun vs H2 ⟨u, v', u', e, k⟩ => ?_, h⟩
      subst e
      refine ⟨by rw [sizeLine_eq]; show 3 ≤ _; decide, fun p hp => ?_⟩
      exact ⟨p, [u, v', u'], rfl, .inl (SqT.of upd_same), rfl, u, [v', u'], rfl, v', [u'], rfl, u', [], rfl, rfl, k _ (.inr ⟨p, _, hp, rfl⟩)⟩
  refine main.imp fun E σ H => ?_
  rintro ⟨F, τ, s, q, h⟩
  simp only [ex, hne, cond_false] at h
  refine ⟨F, τ, s, q, ?_⟩
  cases h1 : ev Z.P Z.call Z.make ca τ s with
  | no => rw [h1] at h; exact h
  | exc k fs τ1 s1 => rw [h1] at h; exact fun H' F' od e1 q1 r1 => h σ H' F' od e1 q1 r1
  | ok d1 τ1 s1 =>
    rw [h1] at h
    intro v H1 F1 e1 q1 r1
    refine ⟨F1, τ1, s1, q1, ?_⟩
    simp only [Out.bind] at h
    cases h2 : ev Z.P Z.call Z.make cb τ1 s1 with
    | no => rw [h2] at h; exact h
    | exc k fs τ1 s1 => rw [h2] at h; exact fun H' F' od e2 q1 r1 => h σ H' F' od (e1.trans e2) q1 r1
    | ok d2 τ2 s2 =>
      rw [h2] at h
      intro v2 H2 F2 e2 q2 r2
      refine ⟨F2, τ2, s2, q2, ?_⟩
      simp only [Out.bind] at h
      cases h3 : ev Z.P Z.call Z.make cc τ2 s2 with
      | no => rw [h3] at h; exact h
      | exc k fs τ1 s1 => rw [h3] at h; exact fun H' F' od e3 q1 r1 => h σ H' F' od ((e1.trans e2).trans e3) q1 r1
      | ok d3 τ3 s3 =>
        rw [h3] at h
        intro v3 H3 F3 e3 q3 r3
        exact ⟨v, v2, v3, rfl, fun H4 u => h _ _ F3 ((e1.trans e2).trans e3) ((((q3.setF i (r1.mono (e2.trans e3))).setF j (r2.mono e3)).setF l r3).up u)⟩

/-! ### a field of the instance that is being made -/
theorem ds_fld {x : Str} {m : Nat} {f : Str} {p p2 spos : Pos} (z : Sz Z us X) (hf : nmOf us m = f) (hv : PE X (.Name x p) (tVar 0)) (he : PE X e (tD Z G W ce)) (hs : swapsWith e (some (.Attribute (.Name x p) f p2)) spos.line X.env = pure false) :
    PS X (.Assign [.Attribute (.Name x p) f p2] e spos) (tDS Z G W (.setFld m ce)) :=
  (ps_fld hv he hs).imp fun E σ H => by
    rintro ⟨F, τ, s, q, h⟩
    simp only [ex] at h
    refine ⟨F, τ, s, q, h.bind fun d v τ1 s1 F1 H1 e1 q1 r1 h1 => ?_⟩
    cases hi : (τ1[0]? : Option Slot) with
    | none => rw [hi] at h1; exact h1.elim
    | some sl =>
      rw [hi] at h1
      cases sl with
      | ownI c ds =>
        obtain ⟨a, ob, f1, f2, f3, f4, f5, dx, vs, rfl, hl, r⟩ := q1.sl 0 _ hi
        simp only at h1
        cases hat : Z.P.attr c m with
        | fld k =>
          simp only [hat] at h1
          cases hk : ds.length == k with
          | false => rw [hk] at h1; exact h1.elim
          | true =>
            rw [hk] at h1
            obtain ⟨ck, no, at_⟩ := z.fld c m k hat
            rw [hf] at no at_
            have hk' : ds.length = k := by simpa using hk
            have hlt : k < (Z.T.fld c).length := (List.getElem?_eq_some_iff.mp at_).1
            refine ⟨.ref a, getD_of f1, a, _, dx, _, rfl, f2, by rw [z.hK]; exact ck.cl, by rw [z.hK]; exact no, ?_, ?_⟩
            · rw [List.length_zip]
              have := ck.few
              omega
            · rw [zip_put ck.nd (by rw [r.length, hk']; exact at_)]
              refine h1 σ _ F1 (Sub.refl _) (q1.rewrite hi rfl f1 rfl ⟨dx, _, rfl, ?_, r.append (RepL.one r1)⟩ fun _ _ _ => f4.2)
              simp; omega
        | prop g => simp only [hat] at h1; exact h1.elim
        | none => simp only [hat] at h1; exact h1.elim
        | con x => simp only [hat] at h1; exact h1.elim
      | _ => exact h1.elim
end
end Rz
end

section
set_option autoImplicit false
set_option Elab.async false
set_option linter.all false
set_option maxHeartbeats 1000000
set_option maxRecDepth 100000
namespace Rz
open PySem PySem.Spec PySem.W PyProof.Rows L2

/-- no class of the order has the in-place method -/
def noI (K : Frag) (C : Addr) (nm : String) : Bool := (clsIn K C).any fun cd => cd.mro.all fun c => findIn K c (dunderI nm) == some none
section
variable {prog : Program} {w : World} {A : Around} {E : Value → Shared → Prop} {sh : Shared} {K : Frag} {x C f : Addr} {ox : Obj} {od : Option Obj} {T : String}
theorem noI_looks {M : Model} {h : Heap} {nm : String} {add : Bool} (X : K.In h) (hn : noI K C nm = true) : Looks M h (fillsInplaceSlot (.ref C) nm add) false := by
  intro A Q E s k q
  unfold noI at hn
  cases hc : clsIn K C with
  | none => rw [hc] at hn; cases hn
  | some cd =>
    rw [hc] at hn
    replace hn : (cd.mro.all fun c => findIn K c (dunderI nm) == some none) = true := hn
    have Lm : Looks M h (mroOf (.ref C)) cd.mro := (looks_clsIn X hc).andThen (f := fun cd => pure cd.mro) .now
    unfold fillsInplaceSlot
    refine wpAny_bind (Lm A _ E s k ?_)
    generalize cd.mro = l at hn
    induction l with
    | nil => rw [List.anyM_nil]; exact wpAny_pure q
    | cons a r ih =>
      rw [List.all_cons, Bool.and_eq_true] at hn
      rw [List.anyM_cons]
      refine wpAny_bind (wpAny_bind (looks_findIn X (beq_iff_eq.mp hn.1) A _ E s k ?_))
      refine wpAny_pure ?_
      exact ih hn.2
/-- the instance left, an in-place operator that its class lacks: a value of a built-in type right -/
theorem own_leftI {op : Operator} {b : Value} {fo ro rc : Option Value} {Q : Value → Shared → Prop} (X : K.In sh.heap) (I : InstAt sh.heap x ox C od) (hb : Looks (model prog w) sh.heap (typeOf b) (.type T)) (hc : selfFirst K C = true) (hn : noI K C op.info.2 = true)
    (hs : findIn K (.ref C) (PySem.dunder op.info.2) = some (some (.ref f))) (hf : isFn K (.ref f) = true) (hr : findIn K (.ref C) (dunderR op.info.2) = some rc) (hp : rc = none ∨ ∃ g : Addr, rc = some (.ref g))
    (h1 : findIn K (.type T) (PySem.dunder op.info.2) = some fo) (h2 : findIn K (.type T) (dunderR op.info.2) = some ro) (hsub : subIn K (.type T) (.ref C) = some false)
    (h : wpAny (model prog w) A (call (.ref f) [.ref x, b]) (PySem.W.CmpBack Q) E sh) : wpAny (model prog w) A (inplaceOp op (.ref x) b) Q E sh := by
  obtain ⟨cd, rest, hcd, hm⟩ := ksp_first hc
  have one := ksp_try X I hs hf h
  obtain ⟨hh, g, d, tt, os⟩ := sh
  have L1 : Looks (model prog w) hh (typeOf (.ref x)) (.ref C) := I.type
  have L2' : Looks (model prog w) hh (typeOf b) (.type T) := hb
  have L3 : Looks (model prog w) hh (fillsNumberSlot (.ref C) op.info.2) true := fills_K X hcd hm hs
  have L4 : Looks (model prog w) hh (fillsNumberSlot (.type T) op.info.2) ((fo.isSome && !isSeqSlot fo) || (ro.isSome && !isSeqSlot ro)) := ksp_fillsT X h1 h2
  have L5 : Looks (model prog w) hh (isSubtype (.type T) (.ref C)) false := looks_subIn X hsub
  have L6 : Looks (model prog w) hh (numberSlotInPython (.ref C) op.info.2) true := ksp_inPy X hs hr hp
  have L7 : Looks (model prog w) hh (numberSlotInPython (.type T) op.info.2) false := Looks.of_pure rfl
  have L8 : Looks (model prog w) hh (typeLookup (.type T) (dunderR op.info.2)) ro := looks_findIn X h2
  have L9 : Looks (model prog w) hh (fillsInplaceSlot (.ref C) op.info.2 (op == .Add)) false := noI_looks X hn
  generalize ((fo.isSome && !isSeqSlot fo) || (ro.isSome && !isSeqSlot ro)) = right at L4
  have hne : (Value.ref C == Value.type T) = false := Bool.eq_false_iff.mpr fun q => by cases beq_iff_eq.mp q
  unfold inplaceOp
  refine wpAny_holding ?_
  refine wpAny_bind (L1.at (wpAny_bind (L9.at ?_)))
  rw [if_neg Bool.false_ne_true]
  refine wpAny_bind ?_
  unfold binaryOp1
  refine wpAny_bind (L1.at (wpAny_bind (L2'.at (wpAny_bind (L3.at ?_)))))
  simp only [hne, Bool.false_eq_true, if_false]
  cases right with
  | false =>
    ksp_lk
    refine wpAny_mono one (fun r s' hr' => ?_) fun _ _ e => e
    obtain ⟨v, rfl, hq⟩ := hr'
    ksp_lk
    exact hq
  | true =>
    ksp_lk
    refine wpAny_mono one (fun r s' hr' => ?_) fun _ _ e => e
    obtain ⟨v, rfl, hq⟩ := hr'
    ksp_lk
    exact hq
/-- .. an instance of the same class right -/
theorem own_sameI {op : Operator} {b : Value} {Q : Value → Shared → Prop} (X : K.In sh.heap) (I : InstAt sh.heap x ox C od) (hb : Looks (model prog w) sh.heap (typeOf b) (.ref C)) (hc : selfFirst K C = true) (hn : noI K C op.info.2 = true)
    (hs : findIn K (.ref C) (PySem.dunder op.info.2) = some (some (.ref f))) (hf : isFn K (.ref f) = true)
    (h : wpAny (model prog w) A (call (.ref f) [.ref x, b]) (PySem.W.CmpBack Q) E sh) : wpAny (model prog w) A (inplaceOp op (.ref x) b) Q E sh := by
  obtain ⟨cd, rest, hcd, hm⟩ := ksp_first hc
  have L9 : Looks (model prog w) sh.heap (fillsInplaceSlot (.ref C) op.info.2 (op == .Add)) false := noI_looks X hn
  unfold inplaceOp
  refine wpAny_holding ?_
  refine wpAny_bind (I.type.here (wpAny_bind (L9.here ?_)))
  rw [if_neg Bool.false_ne_true]
  refine wpAny_bind ?_
  unfold binaryOp1
  refine wpAny_bind (I.type.here (wpAny_bind (hb.here (wpAny_bind ((fills_K X hcd hm hs).here ?_)))))
  simp only [beq_self_eq_true, if_true]
  refine wpAny_bind (wpAny_pure ?_)
  simp only [Bool.and_false, Bool.false_eq_true, if_false, Bool.false_and]
  refine wpAny_bind (wpAny_pure ?_)
  simp only [Bool.false_eq_true, if_false]
  refine wpAny_bind (m := tryMethod (.ref x) _ b) ?_
  unfold tryMethod
  refine wpAny_bind (special_fn X I hs (beq_iff_eq.mp hf) (wpAny_mono h (fun v s' hv => ?_) fun _ _ e => e))
  cases v <;> first | exact hv.elim | exact wpAny_pure (wpAny_pure (wpAny_pure hv))
end

section
variable {S : Type} [Pen S] {Z : Cz S} {us : List Str} {G : Fm} {F H : Hp} {σ : L2.St} {τ : List Slot} {s : S} {W : WX} {X : Cx} {E : Ends} {pins : List (Addr × Obj)} {sh : Shared}
variable {pos : Pos} {e a b : Expr} {ce ca cb : CE}
theorem augV_z {o : Operator} {x y : D} {v v' : V} {u w : Value} {Q : VK} (hK : X.K = Z.T.K) (FZ : ∀ f, FnZ Z X f) (OL : ∀ c f, Z.P.meth c (dun o) = some f → OpL Z.T c o f) (NI : ∀ c f, Z.P.meth c (dun o) = some f → noI Z.T.K (Z.T.cA c) o.info.2 = true) (tk : Takes X W) (I : Inv X pins σ H sh) (rx : RelV v u) (ry : RelV v' w) (q : SR Z.T Z.pn G F H σ τ s)
    (r1 : Rep Z.T F x v) (r2 : Rep Z.T F y v') (h : Post Z G (Rep Z.T) F σ Q W (augV Z.P Z.call o x y τ s)) : wpAny (model X.prog X.w) X.A (inplaceOp o u w) (EP X pins σ Q) X.xe sh := by
  cases x with
  | int i =>
    cases y with
    | int j =>
      cases r1; cases r2
      obtain ⟨t, rfl⟩ := rx
      obtain ⟨t', rfl⟩ := ry
      cases o <;> simp only [augV] at h
      case Add =>
        have h' : Q (.int (i + j)) H := h _ H F (Sub.refl _) q rfl
        exact iadd_int ⟨.int _, H, I.tok _, ⟨_, rfl⟩, h'⟩
      case Sub =>
        have h' : Q (.int (i - j)) H := h _ H F (Sub.refl _) q rfl
        exact isub_int ⟨.int _, H, I.tok _, ⟨_, rfl⟩, h'⟩
      case Mult =>
        simp only [binV, binD, binI] at h
        cases hb : mulOk i j with
        | false => simp only [hb] at h; exact h.elim
        | true =>
          simp only [hb] at h
          have h' : Q (.int (i * j)) H := h _ H F (Sub.refl _) q rfl
          exact imul_int ⟨.int _, H, I.tok _, ⟨_, rfl⟩, h'⟩ (mulOk_ok hb)
      all_goals exact h.elim
    | _ => exact h.elim
  | ins c ds =>
    simp only [augV, binV] at h
    obtain ⟨hy, h⟩ := h.bif
    obtain ⟨f, ef, h⟩ := callM_of h
    obtain ⟨ck, sf, at_, fn, ⟨rc, hrc, hrp⟩, ty⟩ := OL c f ef
    have ni := NI c f ef
    obtain ⟨a, ox, od, dx, rfl, rfl, J, _⟩ := inst_z I q r1 rx
    have go := callM_z FZ tk I q (RepL.two r1 r2) (.cons rx (.cons ry .nil)) h
    rw [← hK] at sf at_ fn hrc ty ni
    cases et : y.tn with
    | some n =>
      obtain ⟨fo, ro, t1, t2, t3⟩ := ty n (by cases y <;> simp only [D.tn] at et <;> cases et <;> decide)
      exact own_leftI I.kIn J (looks_tn hK I q r2 ry et) sf ni at_ fn hrc hrp t1 t2 t3 go
    | none =>
      obtain ⟨ds', rfl⟩ : ∃ ds', y = .ins c ds' := by
        cases y <;> simp only [sameOrBt, D.tn] at hy et <;> first | (cases hy; done) | (cases et; done) | exact ⟨_, by rw [beq_iff_eq.mp hy]⟩
      obtain ⟨a', ox', od', dx', rfl, rfl, J', _⟩ := inst_z I q r2 ry
      exact own_sameI I.kIn J J'.type sf ni at_ fn go
  | _ => exact h.elim

/-- x op= e -/
theorem ds_aug {i : Nat} {x : Str} {o : Operator} {p : Pos} {th : Bool} (z : Sz Z us X) (NI : ∀ c f, Z.P.meth c (dun o) = some f → noI Z.T.K (Z.T.cA c) o.info.2 = true) (tk : Takes X W) (hN : X.N.Nodup) (hx : nmOk X i x) (he : PE X e (tD Z G W ce)) : PS X (.AugAssign (.Name x p) o e pos) (tDS Z G W (.aug i o th ce)) := by
  refine ⟨fun pins sh σ H D I h => ?_⟩
  obtain ⟨F, τ, s, q, h⟩ := h
  simp only [ex] at h
  cases hi : τ[i]? with
  | none => rw [hi] at h; exact h.elim
  | some sl =>
    rw [hi] at h
    cases sl with
    | fz d =>
      obtain ⟨v, e1, r0⟩ := q.sl i _ hi
      obtain ⟨m, hn, hl⟩ := I.loc
      have vis : Vis X.env.scope x := by rcases hx.2.1 with k | k; exact .inl k; exact .inr (.inl k)
      obtain ⟨u, r, l⟩ := hl i x v hx.1 (getD_of e1) vis
      refine wpAny_AugAssign_Name ?_
      have go : wpAny (model X.prog X.w) X.A (eval e X.env) (fun w s₂ => wpAny (model X.prog X.w) X.A (inplaceOp o u w) (fun r s₃ => wpAny (model X.prog X.w) X.A (storeName X.env x r) (fun _ => SP X pins D .next) X.xe s₃) X.xe s₂) X.xe sh := by
        refine thn ((dx_of (th := th) he).run pins sh σ H (fun y H1 => ∃ F τ s d2, SR Z.T Z.pn G F H1 σ τ s ∧ Rep Z.T F d v ∧ Rep Z.T F d2 y ∧ PostS Z G F D W ((augV Z.P Z.call o d d2 τ s).bind fun z τ s => .ok .next (τ.set i (.fz z)) s)) I ⟨F, τ, s, q, h.bind fun d2 y τ1 s1 F1 H1 k1 q1 r1 h1 => ⟨F1, τ1, s1, d2, q1, r0.mono k1, r1, h1⟩⟩) fun w s1 ⟨y, H1, I1, r1, F1, τ1, s1', d2, q1, rd, ry, h1⟩ => ?_
        refine thn (augV_z (Q := fun zv H2 => D.nx (σ.set i (some zv)) H2) z.hK z.fz (fun c f => z.opL c o f) NI tk I1 r r1 q1 rd ry (h1.bind fun z zv τ2 s2 F2 H2 k2 q2 rz h2 => h2 _ H2 F2 (Sub.refl _) (q2.setF i rz))) fun zv s2 ⟨zv', H2, I2, r2, q2⟩ => ?_
        exact store_ok I2 hN hx.1 hx.2.1 r2 (fun s3 I3 => ⟨_, H2, I3, q2⟩) hx.2.2
      rcases l with ⟨hk, hm⟩ | ⟨hk, c, hc, hcell⟩
      · exact wpAny_loadName_local I.ok.kind hk hn hm go
      · rcases hk with hk | hk
        · exact wpAny_loadName_cell I.ok.kind hk hc hcell go
        · rcases hx.2.1 with k | k
          · have : X.env.scope.names.lookup x = some .free := hk
            rw [k] at this; cases this
          · have : X.env.scope.names.lookup x = some .free := hk
            rw [k] at this; cases this
    | _ => exact h.elim
end
end Rz
end

section
set_option autoImplicit false
set_option Elab.async false
set_option linter.all false
set_option maxHeartbeats 2000000
set_option maxRecDepth 100000
/-! A caught error that is kept beyond its clause: it is known in the abstract heap from then on. -/
namespace Rz
open PySem PySem.Spec PyProof.Rows L2
theorem exG_ok {P : Program} {w : World} {H : Hp} {h : Heap} {a : Addr} {cls : Value} {d : Option Addr} {oe : Obj} {vs : Array Value} (e : h.get? a = some oe) (hd : oe.data = .fields vs) (hz : Zc cls d oe) : ObjOk P w H h a (exG a cls d) :=
  ⟨⟨oe, vs, e, hd, hz⟩, ⟨_, e⟩, fun h1 h2 ⟨o, v, e1, e2, e3⟩ k => ⟨o, v, k _ e1, e2, e3⟩⟩
theorem exG_at {P : Program} {w : World} {H : Hp} {h : Heap} {a : Addr} {cls : Value} {d : Option Addr} (hok : HOk P w H h) (e : H a = some (exG a cls d)) : ∃ (oe : Obj) (vs : Array Value), h.get? a = some oe ∧ oe.data = .fields vs ∧ Zc cls d oe := by
  have x : ObjOk P w H h a (.ext fun h => ∃ (oe : Obj) (vs : Array Value), h.get? a = some oe ∧ oe.data = .fields vs ∧ Zc cls d oe) := hok a _ e
  exact x.1
section
variable {X : Cx} {pins : List (Addr × Obj)} {σ : L2.St} {H : Hp} {s : Shared}
/-- an error is known from now on -/
theorem Inv_ghost (I : L2.Inv X pins σ H s) {a : Addr} {cls : Value} {d : Option Addr} {oe : Obj} {vs : Array Value} (e : s.heap.get? a = some oe) (hd : oe.data = .fields vs) (hz : Zc cls d oe) (na : H a = none) (nL : a ≠ X.env.locals)
    (nB : ∀ o, X.s_0.heap.get? a = some o → X.H_0 a = none → a ∉ X.ex → False) (nP : ∀ p ∈ X.pn ++ pins, p.1 ≠ a) : L2.Inv X pins σ (upd H a (exG a cls d)) s := by
  have ne : ∀ {b : Addr} {u : HO}, H b = some u → b ≠ a := fun {b u} q z => by rw [z, na] at q; cases q
  refine ⟨I.ok, I.os, I.bare, ⟨I.base.keep, I.base.slot, fun b o e1 n hx => ?_, I.base.there, fun b xs q => ?_, fun b o v q => ?_, fun b ps q => ?_⟩, I.loc, I.cell, ?_, fun y c ec => ?_, fun p hp => ?_, fun b u q => ?_, I.len⟩
  · have z : b ≠ a := fun z => by subst z; exact nB o e1 n hx
    rw [upd_ne z]; exact I.base.free b o e1 n hx
  · have q' := I.base.tups b xs q
    rw [upd_ne (ne q')]; exact q'
  · have q' := I.base.frzs b o v q
    rw [upd_ne (ne q')]; exact q'
  · obtain ⟨more, q'⟩ := I.base.tbls b ps q
    exact ⟨more, by rw [upd_ne (ne q')]; exact q'⟩
  · rw [upd_ne (Ne.symm nL)]; exact I.free
  · obtain ⟨v, o, ho, hdc⟩ := I.cell y c ec
    have z : c ≠ a := fun z => by rw [z, e] at ho; cases ho; rw [hd] at hdc; cases hdc
    rw [upd_ne z]; exact I.freeC y c ec
  · obtain ⟨h1, h2, h3⟩ := I.pin p hp
    exact ⟨h1, by rw [upd_ne (nP p hp)]; exact h2, h3⟩
  · by_cases z : b = a
    · subst z
      rw [upd_same] at q
      cases q
      exact exG_ok e hd hz
    · rw [upd_ne z] at q
      exact (I.hok b u q).stay (fun c v _ k => k) (fun c k => by rw [upd_ne (ne k)]; exact k) (fun c xs k => by rw [upd_ne (ne k)]; exact k)
end
/-- what the clause 'except x as n' wishes of the body's error, if it is kept -/
def wGh (K : PySem.W.Frag) (c : Value) (i : Nat) (ts : Addr → Value → Option Addr → TS) (Wout : WX) (D : Ends) : WX := fun cls d σ H =>
  ∃ b, PySem.W.exmOne K cls c = some b ∧ (b = true → ∀ a, H a = none → ts a cls d { nx := fun σ' H' => H' a = none → D.nx (σ'.set i none) (upd H' a (exG a cls d)), rt := fun _ _ => False, bk := fun _ _ => False, ct := fun _ _ => False } (σ.set i (some (.ref a))) H) ∧
    (b = false → Wout cls d σ H)
section
variable {X : Cx} {x n : Str} {c : Value} {i : Nat} {body suite : List Stmt} {b₀ : Stmt} {np pos pos' : Pos} {tb : WX → TS} {ts : Addr → Value → Option Addr → TS} {Wout : WX}
/-- the clause's statements run, then the error is known on -/
theorem ps_try_gh (hs : X.stack = X.env :: X.outer) (hf : X.env.frame = some X.env.locals) (hN : X.N.Nodup) (hi : X.N[i]? = some n) (hln : X.env.kindOf n = some .local) (hc : Names X x c) (tk : Takes X Wout)
    (hb : ∀ (W : WX) (pn : List (Addr × Obj)) (xe : Value → Shared → Prop), Takes (X.tr pn xe) W → PassesOwn (model X.prog X.w) X.A X.env xe → PSs (X.tr pn xe) body (tb W))
    (hsu : ∀ (a : Addr) (oe : Obj) (cls : Value) (d : Option Addr) (pn : List (Addr × Obj)), Zc cls d oe → (∃ vs, oe.data = .fields vs) → PSs (X.suite a ((a, oe) :: pn)) (b₀ :: suite) (ts a cls d)) :
    PS X (.Try body [.ExceptHandler (some (.Name x np)) (some n) (b₀ :: suite) pos'] [] [] pos) (fun D σ H => tb (wGh X.K c i ts Wout D) D σ H) := by
  refine ⟨fun pins s σ H D I h => ?_⟩
  have ok := I.ok
  have hfr : X.A.frames = some (X.env :: X.outer) := by rw [ok.frames, hs]
  have hloc : L2.Loc X.env.scope n := .inl hln
  refine wpAny_Try_except ?_
  refine wpAny_mono ((hb (wGh X.K c i ts Wout D) (X.pn ++ pins) (fun e s₁ => wpAny (model X.prog X.w) X.A (noteFrame e X.env) (fun _ s₂ => wpAny (model X.prog X.w) X.A (setFlight e none) (fun _ s₃ =>
    wpAny (model X.prog X.w) X.A (handleBy e X.env [.ExceptHandler (some (.Name x np)) (some n) (b₀ :: suite) pos']) (SP X pins D) X.xe s₃) X.xe s₂) X.xe s₁) (fun u s' xx => ?_) PassesOwn.looking).run [] s σ H D (I.toTry _) h) (fun f s1 hsp => ?_) (fun e s1 he => he)
  · obtain ⟨a, B, sI, pins', σ', H', cls, d, rfl, J', nb, up, sky, na, os, ag, b, hb1, hyes, hno⟩ := xx
    have J : L2.Inv X pins σ' H' sI := J'.ofTry ok
    have sky' : Sky B (X.env :: X.outer) a (Zc cls d) X.env.locals s'.heap := by rw [← hs]; exact sky
    show wpAny (model X.prog X.w) X.A (noteFrame (.ref a) X.env) _ _ _
    refine Sky.land Zc.steady hfr hf sky' fun h3 fl3 up3 => ?_
    have J3 : L2.Inv X pins σ' H' { s' with heap := h3 } := J.landed nb fl3.1 (up.trans up3) os ag
    obtain ⟨oe3, vs3, he3, hz3, hd3⟩ := fl3.there
    have nfr : a ∉ frs (X.env :: X.outer) := fun hm => by
      obtain ⟨_, o', e', hnf⟩ := fl3.2.2.1.mem hm
      rw [he3] at e'; cases e'
      exact hnf _ hd3
    have nL : a ≠ X.env.locals := fun z => nfr (List.mem_filterMap.mpr ⟨X.env, List.mem_cons_self, by rw [hf, z]⟩)
    have nF : a ∉ X.fs := fun hm => by
      obtain ⟨e, he, q⟩ := List.mem_filterMap.mp hm
      exact nfr (List.mem_filterMap.mpr ⟨e, List.mem_cons_of_mem _ he, q⟩)
    have hBa : B.get? a = none := fl3.2.1
    have notI : ∀ o, sI.heap.get? a = some o → False := fun o e => by
      have := nb a o e (by rw [hs]; exact nfr)
      rw [hBa] at this; cases this
    have nB : ∀ o, X.s_0.heap.get? a = some o → X.H_0 a = none → a ∉ X.ex → False := fun o e n hx => notI o (J.base.keep a o e n nF hx)
    have nP : ∀ p ∈ X.pn ++ pins, p.1 ≠ a := fun p hp z => by
      obtain ⟨e, _⟩ := J.pin p hp
      rw [z] at e
      exact notI _ e
    have S3 := J3.suite he3 hd3 na nL nF
    refine wpAny_handleBy_cons (codeAny_handlers_test ?_) (by intro q; cases q)
    have LT : PySem.W.Looks (model X.prog X.w) h3 (typeOf (.ref a)) cls := fun A Q E s k q => wpAny_typeOf_ref (k _ _ he3) (by rw [hz3.1]; exact q)
    have LM := PySem.W.exm_one (M := model X.prog X.w) (J3.kIn) LT hb1
    have test : ∀ {Q : Value → Shared → Prop} {E : Value → Shared → Prop}, Q c { s' with heap := h3 } → wpAny (model X.prog X.w) (X.A.mark (some (.ref a))) (eval (.Name x np) X.env) Q E { s' with heap := h3 } := fun {Q E} q => by
      obtain ⟨hg, hdbg, hm | ⟨hm, hv, hnn⟩⟩ := hc
      · exact ld_glob (X := X.suite a ((a, oe3) :: (X.pn ++ pins))) S3 hg hm q hdbg
      · exact ld_blt (X := X.suite a ((a, oe3) :: (X.pn ++ pins))) S3 hg hm hv q hnn hdbg
    refine test (LM.here ?_)
    cases b with
    | true =>
      refine codeAny_handlers_suite_as ?_
      refine HandSPX.lands_againZ fl3 fun h4 fl4 up4 => ?_
      have J4 : L2.Inv X pins σ' H' { s' with heap := h4 } := J.landed nb fl4.1 ((up.trans up3).trans up4) os ag
      obtain ⟨oe4, vs4, he4, hz4, hd4⟩ := fl4.there
      have S4 := J4.suite he4 hd4 na nL nF
      refine store_ok (X := X.suite a ((a, oe4) :: (X.pn ++ pins))) (v := .ref a) S4 hN hi hloc rfl (fun s5 S5 => ?_) (.inr hln)
      refine wpAny_mono ((hsu a oe4 cls d (X.pn ++ pins) hz4 ⟨_, hd4⟩).run [] s5 _ H' _ S5 (hyes rfl a na)) (fun f s6 hsp => ?_) (fun _ _ z => False.elim z)
      cases f with
      | next =>
        obtain ⟨σ6, H6, S6, q6⟩ := hsp
        obtain ⟨e6, n6, _⟩ := S6.pin (a, oe4) (List.mem_append_left _ List.mem_cons_self)
        have G6 := Inv_ghost (S6.unsuite ok) e6 hd4 hz4 n6 nL nB nP
        exact gone_ok G6 hN hi hln fun s7 J7 => ⟨_, _, J7, q6 n6⟩
      | brk =>
        obtain ⟨σ6, H6, S6, q6⟩ := hsp
        exact q6.elim
      | cont =>
        obtain ⟨σ6, H6, S6, q6⟩ := hsp
        exact q6.elim
      | ret u =>
        obtain ⟨v6, σ6, H6, S6, r6, q6⟩ := hsp
        exact q6.elim
    | false =>
      show wpAny _ X.A (handleBy (.ref a) X.env []) _ _ _
      refine wpAny_handleBy_nil ?_
      obtain ⟨k1, k2, k3, oe, vs, T, oT, ts', he, hz, hd, h1, hr⟩ := id fl3
      unfold PySem.passOn
      refine wpAny_bind (wpAny_field he hd h1 ?_)
      rw [if_neg (show ¬ ((Value.ref T == Value.none) = true) from by simp)]
      have fin : wpAny (model X.prog X.w) X.A (setFlight (.ref a) X.env.frame) (fun _ s4 => wpAny (model X.prog X.w) X.A (throw (.ref a) : Sem Flow) (SP X pins D) X.xe s4) X.xe { s' with heap := h3 } := by
        rw [hf]
        refine HandSPX.setFlight_upZ fl3 fun h4 hh4 up4 => wpAny_throw (tk _ _ ?_)
        exact ⟨a, B, sI, pins, σ', H', cls, d, rfl, J, nb, (up.trans up3).trans up4, .inr (.inr (by rw [hs]; exact hh4)), na, os, ag, hno rfl⟩
      first
        | exact wpAny_bind (wpAny_pure (wpAny_bind fin))
        | exact wpAny_bind fin
  · cases f with
    | next =>
      obtain ⟨σ', H', J', q⟩ := hsp
      exact wpAny_execs_nil ⟨σ', H', J'.ofTry ok, q⟩
    | brk =>
      obtain ⟨σ', H', J', q⟩ := hsp
      exact ⟨σ', H', J'.ofTry ok, q⟩
    | cont =>
      obtain ⟨σ', H', J', q⟩ := hsp
      exact ⟨σ', H', J'.ofTry ok, q⟩
    | ret u =>
      obtain ⟨v, σ', H', J', r, q⟩ := hsp
      exact ⟨v, σ', H', J'.ofTry ok, r, q⟩
end
end Rz
end

section
set_option autoImplicit false
set_option Elab.async false
set_option linter.all false
set_option maxHeartbeats 4000000
set_option maxRecDepth 100000
/-! isinstance of a kept error, its fields. -/
namespace Rz
open PySem PySem.Spec PySem.Calls PyProof.Rows L2
section
open PySem.W
variable {prog : Program} {w : World} {A : Around} {E : Value → Shared → Prop} {s : Shared} {K : Frag} {x D : Addr} {ox : Obj} {od : Option Obj}
theorem findObj_dataG {C : Addr} {name : Str} {a g : Value} (hc : (clsIn K C).isSome = true) (ha : findIn K (.ref C) name = some (some a)) (hg : specialIn K a "__get__" = some (some g)) (ht : takesIn K a = some true) : findObj K C od name = some (.bind g a) := by
  obtain ⟨cd, hc⟩ := Option.isSome_iff_exists.mp hc
  unfold findObj
  rw [hc, Option.bind_some, ha, Option.bind_some]
  simp [hg, ht]
/-- x.__class__, x an error with or without a dict -/
theorem class_any {Q : Option Value → Shared → Prop} (C : ExcC K D) (X : K.In s.heap) (I : InstAt s.heap x ox D od) (h : Q (some (.ref D)) { s with toks := s.toks + 1 }) : wpAny (model prog w) A (getAttr? (.ref x) "__class__") Q E s := by
  have hf : findObj K D od "__class__" = some (.bind (.builtin "getset_descriptor.__get__") (.builtin "object.__class__")) := findObj_dataG (by obtain ⟨cd, hc, _⟩ := any_some C.hd; rw [hc]; rfl) C.ha C.hn C.ht
  obtain ⟨hp, g, d, t, os⟩ := s
  have L0 := I.type (M := model prog w)
  have L1 := looks_findIn (M := model prog w) X C.hg
  have L2 := looks_findIn (M := model prog w) X C.hk
  have L3 := looks_find (M := model prog w) X I hf
  have sub : Looks (model prog w) hp (isInstance (.ref x) (.type "BaseException")) true := L0.andThen (looks_subIn X C.hs)
  have b2 : (Value.builtin "BaseException.__getattribute__" == Value.builtin "object.__getattribute__") = false := by decide +kernel
  have b1 : (onTheHeap (Value.ref D) && Value.builtin "BaseException.__getattribute__" == Value.builtin "object.__getattribute__") = false := by rw [b2]; rfl
  unfold getAttr? getAttrBy? getAttrBy
  refine wpAny_bind (wpAny_mkText (wpAny_bind (wpAny_attempt (wpAny_holding (wpAny_bind (L0.at (wpAny_bind (L1.at ?_))))))))
  show wpAny _ _ (if (onTheHeap (Value.ref D) && Value.builtin "BaseException.__getattribute__" == Value.builtin "object.__getattribute__") = true then _ else _) _ _ _
  rw [b1, if_neg Bool.false_ne_true]
  unfold getAttrByItsOwn hookBefore
  refine wpAny_bind ?_
  rw [if_pos (show onTheHeap (Value.ref D) = true from rfl)]
  refine L2.at ?_
  refine wpAny_bind (wpAny_attempt (wpAny_holding ?_))
  unfold callGetattribute
  rw [show (false && onTheHeap (Value.builtin "BaseException.__getattribute__")) = false from rfl, if_neg Bool.false_ne_true]
  unfold boundAndCalled
  rw [PySem.F.excAttr_ValueError.ga.bind (.ref x)]
  refine wpAny_bind (wpAny_pure ?_)
  show wpAny _ _ (call (.builtin "BaseException.__getattribute__") [.ref x, .str "__class__" t]) _ _ _
  refine wpAny_call (codeAny_call_builtin PySem.F.excAttr_ValueError.ga.plain PySem.F.entry_bexc_ga ?_)
  refine @check_slot (model prog w) _ _ ⟨hp, g, d, t + 1, os⟩ "BaseException.__getattribute__" "BaseException" "__getattribute__" (.ref x) [.str "__class__" t] [] _ (by decide +kernel) (by decide +kernel) sub (PySem.F.args_bexc_ga (.ref x) (.str "__class__" t)) ?_
  unfold Builtin.«object.__getattribute__»
  refine wpAny_bind (wpAny_of_eq (a := ((Value.ref x : Value), [Value.str "__class__" t])) (by first | rfl | (simp only [slotArgs]; rfl)) ?_)
  refine wpAny_bind (wpAny_pure (wpAny_bind (L0.at (wpAny_bind (L3.at ?_)))))
  show wpAny _ _ (holding [Value.builtin "object.__class__"] (call (.builtin "getset_descriptor.__get__") [.builtin "object.__class__", .ref x, .ref D]) >>= ret) _ _ _
  refine wpAny_bind (wpAny_holding (wpAny_call (class_get (s := ⟨hp, g, d, t + 1, os⟩) (ox := ox) (od := od) X I C.hm ?_)))
  refine wpAny_pure ?_
  show wpAny _ _ (handedOut (.ref D)) _ _ _
  rw [handedOut_of (v := .ref D) rfl]
  first
    | exact wpAny_pure (wpAny_pure h)
    | exact wpAny_pure h
    | exact wpAny_pure (wpAny_bind (wpAny_pure (wpAny_pure h)))
theorem kit_any (C : ExcC K D) : KitX K (.ref x) (.ref D) (fun h => ∃ ox od, InstAt h x ox D od) where
  ty := fun _ _ _ ⟨_, _, I⟩ => I.type
  it := fun _ _ X _ => by
    obtain ⟨cdD, hcD, _⟩ := any_some C.hd
    unfold clsIn at hcD
    split at hcD
    · rename_i c' d' cd' sl' ho
      intro A' Q' E' s' k q
      unfold isType loadHead
      exact wpAny_bind (wpAny_loadPart (k _ _ (X _ _ ho)) (wpAny_pure q))
    · cases hcD
  ne := fun h tp dd its n sl X htp => by
    obtain ⟨cdD, hcD, _⟩ := any_some C.hd
    refine Bool.eq_false_iff.mpr fun q => ?_
    have e : D = tp := Value.ref.inj (beq_iff_eq.mp q)
    subst e
    unfold clsIn at hcD
    split at hcD
    · rename_i c' d' cd' sl' ho
      have z := (X _ _ ho).symm.trans htp
      cases z
    · cases hcD
  ca := fun X ⟨_, _, I⟩ k => class_any C X I k
end
section
variable {X : Cx} {pins : List (Addr × Obj)} {σ : L2.St} {H : Hp} {s : Shared} {a D : Addr} {d : Option Addr}
/-- the error's own dict is known -/
def XdAt (H : Hp) (d : Option Addr) : Prop := d = none ∨ ∃ (dd : Addr) (fs : List (Str × V)), d = some dd ∧ H dd = some (.xd fs)
theorem inst_x (I : L2.Inv X pins σ H s) (e : H a = some (exG a (.ref D) d)) (hd : XdAt H d) : ∃ ox od, PySem.W.InstAt s.heap a ox D od := by
  obtain ⟨oe, vs, e1, e2, hz⟩ := exG_at I.hok e
  rcases hd with rfl | ⟨dd, fs, rfl, ed⟩
  · obtain ⟨oc, odd, oda, osl⟩ := oe
    obtain ⟨h1, h2⟩ := hz
    dsimp only at h1 h2 e2
    subst h1 h2 e2
    exact ⟨_, none, e1, rfl, rfl, trivial⟩
  · have hx : ObjOk X.prog X.w H s.heap dd (.xd fs) := I.hok dd _ ed
    obtain ⟨mA, hns, hr⟩ := hx
    obtain ⟨od, ho, hl⟩ := lookIn_ns hns
    exact ⟨oe, some od, e1, hz.1, by unfold PySem.W.notCls; rw [e2] <;> rfl, by rw [hz.2]; exact ho⟩
/-- isinstance(e, c) -/
theorem isx_ok {cv : Value} {b : Bool} {Q : Value → Shared → Prop} {E : Value → Shared → Prop} {A : Around} (C : ExcC X.K D) (I : L2.Inv X pins σ H s) (e : H a = some (exG a (.ref D) d)) (hd : XdAt H d) (k : PySem.W.kitOne X.K (.ref D) cv = some b)
    (h : ∀ tk, L2.Inv X pins σ H { s with toks := tk } → Q (.bool b) { s with toks := tk }) : wpAny (model X.prog X.w) A (call (.builtin "isinstance") [.ref a, cv]) Q E s :=
  PySem.W.kia_one (kit_any C) I.kIn (inst_x I e hd) k (fun z => nomatch z) fun tk => h tk (I.kept (t' := tk) fun _ _ z => z)
/-- e.n -/
theorem getx_ok {n : Str} {dd : Addr} {fs : List (Str × V)} {v : V} {b : Bool} {Q : Value → Shared → Prop} {E : Value → Shared → Prop} {A : Around} (T : XfC X.K D) (hno : PySem.W.findIn X.K (.ref D) n = some none) (I : L2.Inv X pins σ H s) (e : H a = some (exG a (.ref D) (some dd))) (ed : H dd = some (.xd fs)) (l : fs.lookup n = some v)
    (h : ∀ u s', L2.Inv X pins σ H s' → RelV v u → Q u s') : wpAny (model X.prog X.w) A (getAttr (.ref a) n b) Q E s := by
  obtain ⟨oe, vs, e1, e2, hz⟩ := exG_at I.hok e
  have hx : ObjOk X.prog X.w H s.heap dd (.xd fs) := I.hok dd _ ed
  obtain ⟨mA, hns, hr⟩ := hx
  obtain ⟨od, ho, hl⟩ := lookIn_ns hns
  obtain ⟨u, hu, ru⟩ := RelO.some_of (v := v) (o := mA n) (by rw [← l]; exact hr n)
  have J : PySem.W.InstAt s.heap a oe D (some od) := ⟨e1, hz.1, by unfold PySem.W.notCls; rw [e2] <;> rfl, by rw [hz.2]; exact ho⟩
  exact HandSPX.exc_get I.kIn J T.ga T.gg T.exC (PySem.W.findObj_own T.hdC hno rfl (by rw [hl, hu])) (handed_of ru) (h _ _ (I.tok _) ru)
end
end Rz
end

section
set_option autoImplicit false
set_option Elab.async false
set_option linter.all false
set_option maxHeartbeats 2000000
set_option maxRecDepth 100000
/-! The rules: isinstance of a kept error, its fields, try with the error kept. -/
namespace Rz
open PySem PySem.Spec PySem.W PyProof.Rows L2
/-- what is asked of the exception classes -/
structure Xz {S : Type} (Z : Cz S) (us : List Str) (X : Cx) : Prop where
  ec : ∀ c n, Z.P.exc c = some n → ExcC X.K (Z.T.cA c) ∧ XfC X.K (Z.T.cA c) ∧ kitOne X.K (.ref (Z.T.cA c)) (.type "ValueError") = some true ∧ kitOne X.K (.type "NoneType") (.ref (Z.T.cA c)) = some false
  sub : ∀ c k n m, Z.P.exc c = some n → Z.P.exc k = some m → kitOne X.K (.ref (Z.T.cA c)) (.ref (Z.T.cA k)) = some (Z.P.sub c k) ∧ exmOne X.K (.ref (Z.T.cA c)) (.ref (Z.T.cA k)) = some (Z.P.sub c k)
  nv : kitOne X.K (.type "NoneType") (.type "ValueError") = some false
  fd : ∀ c m k n, Z.P.exc c = some n → Z.P.xfd c m = some k → findIn X.K (.ref (Z.T.cA c)) (nmOf us m) = some none ∧ (Z.T.fld c).Nodup ∧ (Z.T.fld c)[k]? = some (nmOf us m)
def rIsX (K : Frag) : List V → Hp → VK → Prop := fun xs H Q => rIsi K xs H Q ∨ ∃ (a D : Addr) (od : Option Addr) (c : V) (u : Value) (b : Bool), xs = [.ref a, c] ∧ ClsV c u ∧ H a = some (exG a (.ref D) od) ∧ XdAt H od ∧ ExcC K D ∧ kitOne K (.ref D) u = some b ∧ Q (.bl b) H
theorem call_isx {X : Cx} : CallR X (.builtin "isinstance") (rIsX X.K) := by
  intro pins s σ H xs us Q I r h
  rcases h with h | ⟨a, D, od, c, u, b, rfl, k, e, hd, C, kk, q⟩
  · exact call_isi pins s σ H xs us Q I r h
  · cases r with
    | cons rx rr =>
      cases rr with
      | cons rt rr =>
        cases rr
        cases rx
        have e2 := k.eq rt
        subst e2
        exact isx_ok C I e hd kk fun tk I' => ⟨.bl b, H, I', rfl, q⟩
def Tn.ofX : Option Nat → Tn
  | some k => .cl k
  | none => .ty "ValueError"
section
variable {S : Type} [Pen S] {Z : Cz S} {us : List Str} {G : Fm} {F H : Hp} {σ : L2.St} {τ : List Slot} {s : S} {W : WX} {X : Cx} {pins : List (Addr × Obj)} {sh : Shared}
variable {pos : Pos}
theorem xin_at {T : Tb} {pn : Pn S} (q : SR T pn G F H σ τ s) {c : Nat} {fs : List D} {v : V} (r : Rep T F (.xin c fs) v) : ∃ a od, v = .ref a ∧ H a = some (exG a (.ref (T.cA c)) od) ∧ XdAt H od := by
  obtain ⟨a, od, rfl, hF, hd⟩ := r
  refine ⟨a, od, rfl, q.fh _ _ hF, ?_⟩
  rcases hd with ⟨rfl, _⟩ | ⟨dd, vs, rfl, e, _⟩
  · exact .inl rfl
  · exact .inr ⟨dd, _, rfl, q.fh _ _ e⟩
theorem some_of {α : Type} {o : Option α} (h : o.isSome = true) : ∃ x, o = some x := Option.isSome_iff_exists.mp h
theorem de_isx {x : Str} {y : Expr} {i : Nat} {k : Option Nat} {p p1 : Pos} (xz : Xz Z us X) (hg : Gl X "isinstance") (hm : X.mg "isinstance" = none) (he : PE X (.Name x p1) (tVar i)) (hx : PE X y (tC ((Tn.ofX k).v Z.T))) (hs2 : isStar y = false) :
    PE X (.Call (.Name "isinstance" p) [.Name x p1, y] [] pos) (tD Z G W (.isx i k)) :=
  (pe_callB call_isx hg hm (by decide +kernel) (pa_cons he (pa_cons hx pa_nil (starEach_plain hs2)) (starEach_plain rfl)) (by decide) (by decide) (starEach_plain rfl) (by rw [backTo_any]; simp [hs2])).imp fun σ H Q => by
    rintro ⟨F, τ, s, q, h⟩
    simp only [ev] at h
    cases hi : τ[i]? with
    | none => rw [hi] at h; exact h.elim
    | some sl =>
      rw [hi] at h
      cases sl with
      | fz d =>
        obtain ⟨v, e1, r⟩ := q.sl i _ hi
        refine ⟨v, getD_of e1, ?_⟩
        cases d with
        | xin c fs =>
          obtain ⟨a, od, rfl, ea, hd⟩ := xin_at q r
          cases k with
          | some k =>
            simp only at h
            cases hb : (Z.P.exc c).isSome && (Z.P.exc k).isSome with
            | false => rw [hb] at h; exact h.elim
            | true =>
              rw [hb] at h
              rw [Bool.and_eq_true] at hb
              obtain ⟨n, en⟩ := some_of hb.1
              obtain ⟨m, em⟩ := some_of hb.2
              exact .inr ⟨a, _, od, _, _, _, rfl, Tn.rel Z.T (.cl k), ea, hd, (xz.ec c n en).1, (xz.sub c k n m en em).1, h.ok q rfl⟩
          | none =>
            simp only at h
            cases hb : (Z.P.exc c).isSome with
            | false => rw [hb] at h; exact h.elim
            | true =>
              rw [hb] at h
              obtain ⟨n, en⟩ := some_of hb
              exact .inr ⟨a, _, od, _, _, _, rfl, Tn.rel Z.T (.ty "ValueError"), ea, hd, (xz.ec c n en).1, (xz.ec c n en).2.2.1, h.ok q rfl⟩
        | non =>
          cases r
          cases k with
          | some k =>
            simp only at h
            cases hb : (Z.P.exc k).isSome with
            | false => rw [hb] at h; exact h.elim
            | true =>
              rw [hb] at h
              obtain ⟨m, em⟩ := some_of hb
              exact .inl ⟨.non, _, _, _, _, rfl, Tn.rel Z.T (.cl k), .base .non, (xz.ec k m em).2.2.2, h.ok q rfl⟩
          | none => exact .inl ⟨.non, _, _, _, _, rfl, Tn.rel Z.T (.ty "ValueError"), .base .non, xz.nv, h.ok q rfl⟩
        | _ => exact h.elim
      | _ => exact h.elim
theorem de_xat {x f : Str} {i m : Nat} {p1 : Pos} (xz : Xz Z us X) (he : PE X (.Name x p1) (tVar i)) (hf : f = nmOf us m) (hb : attributeBase (.Name x p1) f X.env (eval (.Name x p1) X.env) = eval (.Name x p1) X.env := by rfl) :
    PE X (.Attribute (.Name x p1) f pos) (tD Z G W (.xat i m)) := by
  refine ⟨fun pins sh σ H Q I h => ?_⟩
  obtain ⟨F, τ, s, q, h⟩ := h
  simp only [ev] at h
  cases hi : τ[i]? with
  | none => rw [hi] at h; exact h.elim
  | some sl =>
    rw [hi] at h
    cases sl with
    | fz d =>
      obtain ⟨v, e1, r⟩ := q.sl i _ hi
      cases d with
      | xin c fs =>
        simp only at h
        cases ha : Z.P.xfd c m with
        | some k =>
          rw [ha] at h
          simp only at h
          cases hb2 : (Z.P.exc c).isSome with
          | false => rw [hb2] at h; exact h.elim
          | true =>
            rw [hb2] at h
            obtain ⟨n, en⟩ := some_of hb2
            obtain ⟨d, ed, h⟩ := h.of
            obtain ⟨f1, f2, f3⟩ := xz.fd c m k n en ha
            obtain ⟨a, od, rfl, hF, hd⟩ := r
            rcases hd with ⟨_, e0⟩ | ⟨dd, vs, rfl, e, hl, rl⟩
            · rw [e0] at ed; simp at ed
            · obtain ⟨w, hw, rw_⟩ := rl.get ed
              refine attr_of hb (thn (he.run pins sh σ H (fun v H1 => v = .ref a ∧ H1 = H) I ⟨.ref a, getD_of e1, rfl, rfl⟩) fun u s1 ⟨v, H1, I1, rx, ev, eH⟩ => ?_)
              subst ev
              subst eH
              obtain rfl : u = Value.ref a := rx
              subst hf
              exact getx_ok (xz.ec c n en).2.1 f1 I1 (q.fh _ _ hF) (q.fh _ _ e) (zip_lookup f2 f3 hw) fun u s' I' ru => ⟨w, _, I', ru, h.ok q rw_⟩
        | none => rw [ha] at h; exact h.elim
      | _ => exact h.elim
    | _ => exact h.elim
theorem ds_tryK {x n m : Str} {i j c : Nat} {body : List Stmt} {cb : CSs} {np pm pn pa pos' : Pos} (xz : Xz Z us X) (hK : X.K = Z.T.K) (hs : X.stack = X.env :: X.outer) (hf : X.env.frame = some X.env.locals) (hN : X.N.Nodup) (hi : X.N[i]? = some n) (hln : X.env.kindOf n = some .local) (hc : Names X x (.ref (Z.T.cA c))) (tk : Takes X W)
    (hb : ∀ (W : WX) (pn : List (Addr × Obj)) (xe : Value → Shared → Prop), Takes (X.tr pn xe) W → PassesOwn (model X.prog X.w) X.A X.env xe → PSs (X.tr pn xe) body (tDSs Z G W cb))
    (hsu : ∀ (a : Addr) (pns : List (Addr × Obj)), PSs (X.suite a pns) [.Assign [.Name m pm] (.Name n pn) pa] (fun D σ H => ∃ v, σ[i]? = some (some v) ∧ D.nx (σ.set j (some v)) H)) (hij : i ≠ j) :
    PS X (.Try body [.ExceptHandler (some (.Name x np)) (some n) [.Assign [.Name m pm] (.Name n pn) pa] pos'] [] [] pos) (tDS Z G W (.tryK cb c i j)) :=
  (ps_try_gh (ts := fun _ _ _ D σ H => ∃ v, σ[i]? = some (some v) ∧ D.nx (σ.set j (some v)) H) hs hf hN hi hln hc tk hb (fun a oe cls d pns _ _ => hsu a ((a, oe) :: pns))).imp fun D σ H => by
    rintro ⟨F, τ, s, q, h⟩
    refine ⟨F, τ, s, q, ?_⟩
    simp only [ex] at h
    cases hr : exs Z.P Z.call Z.make cb τ s with
    | ok fl τ' s' => rw [hr] at h; exact h
    | no => rw [hr] at h; exact h
    | exc k fs τ' s' =>
      rw [hr] at h
      simp only at h
      intro σ' H' F' od eF q' ho
      cases hb2 : (Z.P.exc k).isSome && (Z.P.exc c).isSome && decide (i < τ'.length) with
      | false => rw [hb2] at h; exact h.elim
      | true =>
        rw [hb2] at h
        rw [Bool.and_eq_true, Bool.and_eq_true] at hb2
        obtain ⟨n1, en⟩ := some_of hb2.1.1
        obtain ⟨m1, em⟩ := some_of hb2.1.2
        refine ⟨Z.P.sub k c, (xz.sub k c n1 m1 en em).2, fun hbt a na => ?_, fun hbf => ?_⟩
        · rw [hbt] at h
          have hl : i < σ'.length := by rw [q'.len]; exact of_decide_eq_true hb2.2
          refine ⟨.ref a, by rw [List.getElem?_set_self hl], fun _ => ?_⟩
          have rx : Rep Z.T (upd F' a (exG a (.ref (Z.T.cA k)) od)) (.xin k fs) (.ref a) := by
            refine ⟨a, od, rfl, upd_same, ?_⟩
            have sF : Sub F' (upd F' a (exG a (.ref (Z.T.cA k)) od)) := Sub.new (q'.fh.none na)
            cases od with
            | none => exact .inl ⟨rfl, ho⟩
            | some dd =>
              obtain ⟨vs, e1, e2, e3⟩ := ho
              exact .inr ⟨dd, vs, rfl, sF _ _ e1, e2, e3.mono sF⟩
          have q4 := (((q'.new (o := exG a (.ref (Z.T.cA k)) od) na).forget (i := i) (o := some (.ref a))).setF j rx).forget (i := i) (o := none)
          have eτ : ((τ'.set i Slot.none).set j (.fz (.xin k fs))).set i .none = (τ'.set j (.fz (.xin k fs))).set i .none := by
            rw [List.set_comm _ _ hij, List.set_set]
          rw [eτ] at q4
          exact h _ _ _ (eF.trans (Sub.new (q'.fh.none na))) q4
        · rw [hbf] at h
          exact h σ' H' F' od eF q' ho
end
end Rz
end

section
set_option autoImplicit false
set_option Elab.async false
set_option linter.all false
set_option maxHeartbeats 2000000
set_option maxRecDepth 100000
/-! raise C(), C an own class without fields. -/
namespace Rz
open PySem PySem.Spec PySem.W PyProof.Rows L2
section
variable {X : Cx} {C : Addr} {bmB : List Value} {B newId initId : String} {x : Str} {p pos : Pos}
theorem pmk_own0 (F : ExcBaseFacts B newId initId bmB) (q : excIn X.K C bmB newId = true) (gC : X.mg x = some (.ref C)) (kC : keepIn X.K (.ref C) = true) (r : Raises X (.ref C)) (hg : Gl X x) (hdb : (x == ("__debug__" : Str)) = false) :
    PMk X (.Call (.Name x p) [] [] pos) (fun _ H Q => Q (.ref C) none H) := by
  intro pins s σ H Q I h
  refine wpAny_Call_Name_kw (ld_glob I hg gC ?_ hdb)
  refine PySem.W.callWith_K0 I.kIn kC ?_
  show wpAny _ _ (call (.ref C) []) _ _ _
  obtain ⟨bm, N, nm, qn, bs, hdct, sn, sub, ab, col, dd, k0, k1, k2, k3, k5, mN, hC, hN, hni, T⟩ := exc_obj I.kIn q
  refine wpAny_call_exc_subT F T hC hN hni (fun h' e hm => ?_) (Nat.zero_le _)
  exact mk_of I hm r h (I.hok.gone hm.new)
end
section
variable {S : Type} [Pen S] {Z : Cz S} {us : List Str} {G : Fm} {F H : Hp} {σ : L2.St} {τ : List Slot} {s : S} {W : WX} {X : Cx} {pos : Pos}
theorem ds_raise0 {c : Nat} {x : Str} {p p2 : Pos} {bmB : List Value} {B newId initId : String} (Fb : ExcBaseFacts B newId initId bmB) (q : excIn X.K (Z.T.cA c) bmB newId = true) (gC : X.mg x = some (.ref (Z.T.cA c))) (kC : keepIn X.K (.ref (Z.T.cA c)) = true) (r : Raises X (.ref (Z.T.cA c))) (hg : Gl X x)
    (hdb : (x == ("__debug__" : Str)) = false) (hc : X.calm = true) (tk : Takes X W) : PS X (.Raise (some (.Call (.Name x p) [] [] p2)) none pos) (tDS Z G W (.raise c .nil)) :=
  (ps_raise hc tk (pmk_own0 (p := p) (pos := p2) Fb q gC kC r hg hdb)).imp fun D σ H => by
    rintro ⟨F, τ, s, q, h⟩
    simp only [ex, evA, Out.bind] at h
    cases hb : Z.P.exc c == some ([] : List Rz.D).length with
    | false => rw [hb] at h; exact h.elim
    | true =>
      rw [hb] at h
      exact h σ H F none (Sub.refl F) q rfl
end
end Rz
end

section
set_option autoImplicit false
set_option Elab.async false
set_option linter.all false
set_option maxHeartbeats 2000000
set_option maxRecDepth 100000
/-! try with a clause that answers with what it reads of the error. -/
namespace Rz
open PySem PySem.Spec PySem.W PyProof.Rows L2
/-- what the clause 'except x as n: return e' wishes of the body's error -/
def wRt (K : PySem.W.Frag) (c : Value) (i : Nat) (ts : Addr → Value → Option Addr → TS) (Wout : WX) (D : Ends) : WX := fun cls d σ H =>
  ∃ b, PySem.W.exmOne K cls c = some b ∧ (b = true → ∀ a, H a = none → ts a cls d { nx := fun _ _ => False, rt := D.rt, bk := fun _ _ => False, ct := fun _ _ => False } (σ.set i (some (.ref a))) (upd H a (exG a cls d))) ∧
    (b = false → Wout cls d σ H)
section
variable {X : Cx} {x n : Str} {c : Value} {i : Nat} {body suite : List Stmt} {b₀ : Stmt} {np pos pos' : Pos} {tb : WX → TS} {ts : Addr → Value → Option Addr → TS} {Wout : WX}
/-- the error is known while the clause runs, and the clause answers -/
theorem ps_try_rt (hs : X.stack = X.env :: X.outer) (hf : X.env.frame = some X.env.locals) (hN : X.N.Nodup) (hi : X.N[i]? = some n) (hln : X.env.kindOf n = some .local) (hc : Names X x c) (tk : Takes X Wout)
    (hb : ∀ (W : WX) (pn : List (Addr × Obj)) (xe : Value → Shared → Prop), Takes (X.tr pn xe) W → PassesOwn (model X.prog X.w) X.A X.env xe → PSs (X.tr pn xe) body (tb W))
    (hsu : ∀ (a : Addr) (cls : Value) (d : Option Addr) (pn : List (Addr × Obj)), PSs (X.suite a pn) (b₀ :: suite) (ts a cls d)) :
    PS X (.Try body [.ExceptHandler (some (.Name x np)) (some n) (b₀ :: suite) pos'] [] [] pos) (fun D σ H => tb (wRt X.K c i ts Wout D) D σ H) := by
  refine ⟨fun pins s σ H D I h => ?_⟩
  have ok := I.ok
  have hfr : X.A.frames = some (X.env :: X.outer) := by rw [ok.frames, hs]
  have hloc : L2.Loc X.env.scope n := .inl hln
  refine wpAny_Try_except ?_
  refine wpAny_mono ((hb (wRt X.K c i ts Wout D) (X.pn ++ pins) (fun e s₁ => wpAny (model X.prog X.w) X.A (noteFrame e X.env) (fun _ s₂ => wpAny (model X.prog X.w) X.A (setFlight e none) (fun _ s₃ =>
    wpAny (model X.prog X.w) X.A (handleBy e X.env [.ExceptHandler (some (.Name x np)) (some n) (b₀ :: suite) pos']) (SP X pins D) X.xe s₃) X.xe s₂) X.xe s₁) (fun u s' xx => ?_) PassesOwn.looking).run [] s σ H D (I.toTry _) h) (fun f s1 hsp => ?_) (fun e s1 he => he)
  · obtain ⟨a, B, sI, pins', σ', H', cls, d, rfl, J', nb, up, sky, na, os, ag, b, hb1, hyes, hno⟩ := xx
    have J : L2.Inv X pins σ' H' sI := J'.ofTry ok
    have sky' : Sky B (X.env :: X.outer) a (Zc cls d) X.env.locals s'.heap := by rw [← hs]; exact sky
    show wpAny (model X.prog X.w) X.A (noteFrame (.ref a) X.env) _ _ _
    refine Sky.land Zc.steady hfr hf sky' fun h3 fl3 up3 => ?_
    have J3 : L2.Inv X pins σ' H' { s' with heap := h3 } := J.landed nb fl3.1 (up.trans up3) os ag
    obtain ⟨oe3, vs3, he3, hz3, hd3⟩ := fl3.there
    have nfr : a ∉ frs (X.env :: X.outer) := fun hm => by
      obtain ⟨_, o', e', hnf⟩ := fl3.2.2.1.mem hm
      rw [he3] at e'; cases e'
      exact hnf _ hd3
    have nL : a ≠ X.env.locals := fun z => nfr (List.mem_filterMap.mpr ⟨X.env, List.mem_cons_self, by rw [hf, z]⟩)
    have nF : a ∉ X.fs := fun hm => by
      obtain ⟨e, he, q⟩ := List.mem_filterMap.mp hm
      exact nfr (List.mem_filterMap.mpr ⟨e, List.mem_cons_of_mem _ he, q⟩)
    have hBa : B.get? a = none := fl3.2.1
    have notI : ∀ o, sI.heap.get? a = some o → False := fun o e => by
      have := nb a o e (by rw [hs]; exact nfr)
      rw [hBa] at this; cases this
    have nB : ∀ o, X.s_0.heap.get? a = some o → X.H_0 a = none → a ∉ X.ex → False := fun o e n hx => notI o (J.base.keep a o e n nF hx)
    have nP : ∀ p ∈ X.pn ++ pins, p.1 ≠ a := fun p hp z => by
      obtain ⟨e, _⟩ := J.pin p hp
      rw [z] at e
      exact notI _ e
    have S3 := J3.suite he3 hd3 na nL nF
    refine wpAny_handleBy_cons (codeAny_handlers_test ?_) (by intro q; cases q)
    have LT : PySem.W.Looks (model X.prog X.w) h3 (typeOf (.ref a)) cls := fun A Q E s k q => wpAny_typeOf_ref (k _ _ he3) (by rw [hz3.1]; exact q)
    have LM := PySem.W.exm_one (M := model X.prog X.w) (J3.kIn) LT hb1
    have test : ∀ {Q : Value → Shared → Prop} {E : Value → Shared → Prop}, Q c { s' with heap := h3 } → wpAny (model X.prog X.w) (X.A.mark (some (.ref a))) (eval (.Name x np) X.env) Q E { s' with heap := h3 } := fun {Q E} q => by
      obtain ⟨hg, hdbg, hm | ⟨hm, hv, hnn⟩⟩ := hc
      · exact ld_glob (X := X.suite a ((a, oe3) :: (X.pn ++ pins))) S3 hg hm q hdbg
      · exact ld_blt (X := X.suite a ((a, oe3) :: (X.pn ++ pins))) S3 hg hm hv q hnn hdbg
    refine test (LM.here ?_)
    cases b with
    | true =>
      refine codeAny_handlers_suite_as ?_
      refine HandSPX.lands_againZ fl3 fun h4 fl4 up4 => ?_
      have J4 : L2.Inv X pins σ' H' { s' with heap := h4 } := J.landed nb fl4.1 ((up.trans up3).trans up4) os ag
      obtain ⟨oe4, vs4, he4, hz4, hd4⟩ := fl4.there
      have S4 := J4.suite he4 hd4 na nL nF
      refine store_ok (X := X.suite a ((a, oe4) :: (X.pn ++ pins))) (v := .ref a) S4 hN hi hloc rfl (fun s5 S5 => ?_) (.inr hln)
      obtain ⟨e5, n5, _⟩ := S5.pin (a, oe4) (List.mem_append_left _ List.mem_cons_self)
      have T5 : L2.Inv (X.suite a (X.pn ++ pins)) [] _ H' s5 := ⟨ok.suite _ _, S5.os, S5.bare, S5.base, S5.loc, S5.cell, S5.free, S5.freeC, fun p hp => S5.pin p (List.mem_append_left _ (List.mem_cons_of_mem _ (by rw [List.append_nil] at hp; exact hp))), S5.hok, S5.len⟩
      have G5 := Inv_ghost T5 e5 hd4 hz4 n5 nL nB (fun p hp => nP p (by rw [List.append_nil] at hp; exact hp))
      refine wpAny_mono ((hsu a cls d (X.pn ++ pins)).run [] s5 _ _ _ G5 (hyes rfl a na)) (fun f s6 hsp => ?_) (fun _ _ z => False.elim z)
      cases f with
      | next =>
        obtain ⟨σ6, H6, S6, q6⟩ := hsp
        exact q6.elim
      | brk =>
        obtain ⟨σ6, H6, S6, q6⟩ := hsp
        exact q6.elim
      | cont =>
        obtain ⟨σ6, H6, S6, q6⟩ := hsp
        exact q6.elim
      | ret u =>
        obtain ⟨v6, σ6, H6, S6, r6, q6⟩ := hsp
        have J6 : L2.Inv X pins σ6 H6 s6 := ⟨ok, S6.os, S6.bare, S6.base, S6.loc, S6.cell, S6.free, S6.freeC, fun p hp => S6.pin p (List.mem_append_left _ hp), S6.hok, S6.len⟩
        exact gone_ok J6 hN hi hln fun s7 J7 => ⟨_, _, _, J7, r6, q6⟩
    | false =>
      show wpAny _ X.A (handleBy (.ref a) X.env []) _ _ _
      refine wpAny_handleBy_nil ?_
      obtain ⟨k1, k2, k3, oe, vs, T, oT, ts', he, hz, hd, h1, hr⟩ := id fl3
      unfold PySem.passOn
      refine wpAny_bind (wpAny_field he hd h1 ?_)
      rw [if_neg (show ¬ ((Value.ref T == Value.none) = true) from by simp)]
      have fin : wpAny (model X.prog X.w) X.A (setFlight (.ref a) X.env.frame) (fun _ s4 => wpAny (model X.prog X.w) X.A (throw (.ref a) : Sem Flow) (SP X pins D) X.xe s4) X.xe { s' with heap := h3 } := by
        rw [hf]
        refine HandSPX.setFlight_upZ fl3 fun h4 hh4 up4 => wpAny_throw (tk _ _ ?_)
        exact ⟨a, B, sI, pins, σ', H', cls, d, rfl, J, nb, (up.trans up3).trans up4, .inr (.inr (by rw [hs]; exact hh4)), na, os, ag, hno rfl⟩
      first
        | exact wpAny_bind (wpAny_pure (wpAny_bind fin))
        | exact wpAny_bind fin
  · cases f with
    | next =>
      obtain ⟨σ', H', J', q⟩ := hsp
      exact wpAny_execs_nil ⟨σ', H', J'.ofTry ok, q⟩
    | brk =>
      obtain ⟨σ', H', J', q⟩ := hsp
      exact ⟨σ', H', J'.ofTry ok, q⟩
    | cont =>
      obtain ⟨σ', H', J', q⟩ := hsp
      exact ⟨σ', H', J'.ofTry ok, q⟩
    | ret u =>
      obtain ⟨v, σ', H', J', r, q⟩ := hsp
      exact ⟨v, σ', H', J'.ofTry ok, r, q⟩
end
section
variable {S : Type} [Pen S] {Z : Cz S} {us : List Str} {G : Fm} {F H : Hp} {σ : L2.St} {τ : List Slot} {s : S} {W : WX} {X : Cx} {pins : List (Addr × Obj)} {sh : Shared}
variable {pos : Pos}
theorem Xz.suite (h : Xz Z us X) (a : Addr) (pn : List (Addr × Obj)) : Xz Z us (X.suite a pn) := ⟨h.ec, h.sub, h.nv, h.fd⟩
theorem ds_tryR {x n : Str} {i c : Nat} {body : List Stmt} {cb : CSs} {e : Expr} {ce : CE} {np pa pos' : Pos} (xz : Xz Z us X) (hK : X.K = Z.T.K) (hs : X.stack = X.env :: X.outer) (hf : X.env.frame = some X.env.locals) (hN : X.N.Nodup) (hi : X.N[i]? = some n) (hln : X.env.kindOf n = some .local) (hc : Names X x (.ref (Z.T.cA c))) (tk : Takes X W)
    (hb : ∀ (W : WX) (pn : List (Addr × Obj)) (xe : Value → Shared → Prop), Takes (X.tr pn xe) W → PassesOwn (model X.prog X.w) X.A X.env xe → PSs (X.tr pn xe) body (tDSs Z G W cb))
    (hsu : ∀ (a : Addr) (pns : List (Addr × Obj)), PE (X.suite a pns) e (tD Z G WF ce)) :
    PS X (.Try body [.ExceptHandler (some (.Name x np)) (some n) [.Return (some e) pa] pos'] [] [] pos) (tDS Z G W (.tryR cb c i ce)) :=
  (ps_try_rt (ts := fun _ _ _ => tDS Z G WF (.ret ce)) hs hf hN hi hln hc tk hb (fun a cls d pns => pss_one (ds_ret (hsu a pns)))).imp fun D σ H => by
    rintro ⟨F, τ, s, q, h⟩
    refine ⟨F, τ, s, q, ?_⟩
    simp only [ex] at h
    cases hr : exs Z.P Z.call Z.make cb τ s with
    | ok fl τ' s' => rw [hr] at h; exact h
    | no => rw [hr] at h; exact h
    | exc k fs τ' s' =>
      rw [hr] at h
      simp only at h
      intro σ' H' F' od eF q' ho
      cases hb2 : (Z.P.exc k).isSome && (Z.P.exc c).isSome && decide (i < τ'.length) with
      | false => rw [hb2] at h; exact h.elim
      | true =>
        rw [hb2] at h
        rw [Bool.and_eq_true, Bool.and_eq_true] at hb2
        obtain ⟨n1, en⟩ := some_of hb2.1.1
        obtain ⟨m1, em⟩ := some_of hb2.1.2
        refine ⟨Z.P.sub k c, (xz.sub k c n1 m1 en em).2, fun hbt a na => ?_, fun hbf => ?_⟩
        · rw [hbt] at h
          simp only [cond_true] at h
          have rx : Rep Z.T (upd F' a (exG a (.ref (Z.T.cA k)) od)) (.xin k fs) (.ref a) := by
            refine ⟨a, od, rfl, upd_same, ?_⟩
            have sF : Sub F' (upd F' a (exG a (.ref (Z.T.cA k)) od)) := Sub.new (q'.fh.none na)
            cases od with
            | none => exact .inl ⟨rfl, ho⟩
            | some dd =>
              obtain ⟨vs, e1, e2, e3⟩ := ho
              exact .inr ⟨dd, vs, rfl, sF _ _ e1, e2, e3.mono sF⟩
          have q4 := (q'.new (o := exG a (.ref (Z.T.cA k)) od) na).setF i rx
          have sF : Sub F (upd F' a (exG a (.ref (Z.T.cA k)) od)) := eF.trans (Sub.new (q'.fh.none na))
          refine ⟨_, _, s', q4, ?_⟩
          simp only [ex]
          cases he : ev Z.P Z.call Z.make ce (τ'.set i (.fz (.xin k fs))) s' with
          | ok d τ2 s2 =>
            rw [he] at h
            exact fun v σ2 H2 F2 e2 q2 r2 => h v σ2 H2 F2 (sF.trans e2) q2 r2
          | exc _ _ _ _ => rw [he] at h; exact h.elim
          | no => rw [he] at h; exact h.elim
        · rw [hbf] at h
          exact h σ' H' F' od eF q' ho
/-- repr, wherever it is asked -/
theorem de_repr {e : Expr} {ce : CE} {p : Pos} (hK : X.K = Z.T.K) (hu : X.A.units + 64 < cLine) (hgd : X.A.guards = some []) (hg : Gl X "repr") (hm : X.mg "repr" = none) (he : PE X e (tD Z G W ce)) (hs : isStar e = false) :
    PE X (.Call (.Name "repr" p) [e] [] pos) (tD Z G W (.bi .repr (.cons false ce .nil))) := by
  refine ⟨fun pins sh σ H Q I h => ?_⟩
  obtain ⟨F0, τ, s, q, h⟩ := h
  refine wpAny_Call_Name_kw (ld_blt I hg hm (Bi.boot .repr) ?_ (Bi.notName .repr) (Bi.notDebug .repr))
  have e : ev Z.P Z.call Z.make (.bi .repr (.cons false ce .nil)) τ s = (ev Z.P Z.call Z.make ce τ s).bind fun x τ s => Out.of (reprD x) τ s := by
    simp only [ev, evA]
    cases ev Z.P Z.call Z.make ce τ s <;> rfl
  rw [e] at h
  refine callWith_builtin1 (thn ((pa_cons he pa_nil (starEach_plain hs)).run pos pins sh σ H (fun vs H1 => ∃ F τ s d v z, vs = [v] ∧ SR Z.T Z.pn G F H1 σ τ s ∧ Rep Z.T F d v ∧ reprD d = some z ∧ Post Z G (Rep Z.T) F σ Q W (.ok z τ s)) I
    ⟨F0, τ, s, q, h.bind fun x v τ1 s1 F1 H1 e1 q1 r1 h1 => by
      obtain ⟨z, ez, h1⟩ := h1.of
      exact ⟨F1, τ1, s1, x, v, z, rfl, q1, r1, ez, h1⟩⟩) ?_) (starEach_plain hs) (by rfl)
  rintro ws s1 ⟨vs, H1, I1, rv, F, τ, s, d, v, z, rfl, q, r, ez, h⟩
  cases rv with
  | cons r1 r2 => cases r2; exact reprD_z hK hu hgd I1 q r r1 ez h
theorem isx_cases {i : Nat} {k : Option Nat} (τ : List Slot) (s : S) : (∃ b, ev Z.P Z.call Z.make (.isx i k) τ s = .ok (.bl b) τ s) ∨ ev Z.P Z.call Z.make (.isx i k) τ s = .no := by
  simp only [ev]
  split
  · split
    · cases (Z.P.exc _).isSome && (Z.P.exc _).isSome
      · exact .inr rfl
      · exact .inl ⟨_, rfl⟩
    · cases (Z.P.exc _).isSome
      · exact .inr rfl
      · exact .inl ⟨_, rfl⟩
  · split
    · cases (Z.P.exc _).isSome
      · exact .inr rfl
      · exact .inl ⟨_, rfl⟩
    · exact .inl ⟨_, rfl⟩
  · exact .inr rfl
/-- isinstance(error, C) and .., wherever it stands -/
theorem de_isand {a b : Expr} {i : Nat} {k : Option Nat} {cb : CE} {rest : List Expr} (ha : PE X a (tD Z G W (.isx i k))) (hb : PE X (.BoolOp .And (b :: rest) pos) (tD Z G W cb)) : PE X (.BoolOp .And (a :: b :: rest) pos) (tD Z G W (.and (.isx i k) cb)) := by
  refine ⟨fun pins sh σ H Q I h => ?_⟩
  obtain ⟨F0, τ, s, q, h⟩ := h
  rcases isx_cases (Z := Z) (i := i) (k := k) τ s with ⟨t, e⟩ | e
  · have e2 : ev Z.P Z.call Z.make (.and (.isx i k) cb) τ s = bif t then ev Z.P Z.call Z.make cb τ s else .ok (.bl t) τ s := by
      rw [ev, e]
      simp only [Out.bind, truV]
    rw [e2] at h
    refine BoolOp_and (thn (ha.run pins sh σ H (fun v H1 => v = .bl t ∧ ∃ F, Sub F0 F ∧ SR Z.T Z.pn G F H1 σ τ s) I ⟨F0, τ, s, q, by rw [e]; exact fun v H' F' e' q' r' => ⟨by cases r'; rfl, F', e', q'⟩⟩) fun u s1 ⟨v, H1, I1, rx, ev1, F1, e1, q1⟩ => ?_)
    subst ev1
    refine thn (tru_ok pins s1 σ H1 (.bl t) u (fun k' H' => k' = t ∧ H' = H1) I1 rx ⟨t, rfl, rfl, rfl⟩) fun t' s2 ⟨H2, I2, z⟩ => ?_
    obtain ⟨rfl, rfl⟩ := z
    cases t' with
    | true => exact hb.run pins s2 σ H2 Q I2 ⟨F1, τ, s, q1, h.mono e1⟩
    | false => exact ⟨.bl false, H2, I2, rx, (h.mono e1).ok q1 rfl⟩
  · have e2 : ev Z.P Z.call Z.make (.and (.isx i k) cb) τ s = .no := by rw [ev, e]; rfl
    rw [e2] at h
    exact h.elim
theorem repr_str {d z : D} (h : reprD d = some z) : ∃ t, z = .str t := by
  unfold reprD at h
  cases ep : d.py2 with
  | none => rw [ep] at h; cases h
  | some p =>
    rw [ep] at h
    dsimp only at h
    obtain ⟨_, e⟩ := bif_some h
    exact ⟨_, e.symm⟩
theorem de_repreq {a b : Expr} {ca cb : CE} (ha : PE X a (tD Z G W (.bi .repr (.cons false ca .nil)))) (hb : PE X b (tD Z G W (.bi .repr (.cons false cb .nil)))) (hm : behindInMarks .Eq b = false) : PE X (.Compare a [.Eq] [b] pos) (tD Z G W (.cmp .Eq (.bi .repr (.cons false ca .nil)) (.bi .repr (.cons false cb .nil)))) := by
  have re : ∀ (c : CE) (τ : List Slot) (s : S), ev Z.P Z.call Z.make (.bi .repr (.cons false c .nil)) τ s = (ev Z.P Z.call Z.make c τ s).bind fun x τ s => Out.of (reprD x) τ s := fun c τ s => by
    simp only [ev, evA]
    cases ev Z.P Z.call Z.make c τ s <;> rfl
  have isStr : ∀ (c : CE) (τ : List Slot) (s : S) (z : D) (τ1 : List Slot) (s1 : S), ev Z.P Z.call Z.make (.bi .repr (.cons false c .nil)) τ s = .ok z τ1 s1 → ∃ t, z = .str t := fun c τ s z τ1 s1 e => by
    rw [re] at e
    cases hx : ev Z.P Z.call Z.make c τ s with
    | ok x τ2 s2 =>
      rw [hx] at e
      simp only [Out.bind] at e
      cases hr : reprD x with
      | none => rw [hr] at e; cases e
      | some y =>
        rw [hr] at e
        cases e
        exact repr_str hr
    | exc _ _ _ _ => rw [hx] at e; cases e
    | no => rw [hx] at e; cases e
  refine ⟨fun pins sh σ H Q I h => ?_⟩
  obtain ⟨F0, τ, s, q, h⟩ := h
  refine wpAny_Compare1 (bin ha hb I (R := fun v v' H2 => ∃ F τ s x y, SR Z.T Z.pn G F H2 σ τ s ∧ Rep Z.T F (.str x) v ∧ Rep Z.T F (.str y) v' ∧ Post Z G (Rep Z.T) F σ Q W (.ok (.bl (x == y)) τ s))
    ⟨F0, τ, s, q, ?_⟩ fun u w s2 v v' H2 I2 rx ry hq => ?_) hm
  · rw [ev] at h
    cases e1 : ev Z.P Z.call Z.make (.bi .repr (.cons false ca .nil)) τ s with
    | no => rw [e1] at h; exact h.elim
    | exc c fs τ1 s1 => rw [e1] at h; exact h
    | ok x τ1 s1 =>
      obtain ⟨x, rfl⟩ := isStr _ _ _ _ _ _ e1
      rw [e1] at h
      intro v H1 F1 sub1 q1 r1
      refine ⟨F1, τ1, s1, q1, ?_⟩
      simp only [Out.bind] at h
      cases e2 : ev Z.P Z.call Z.make (.bi .repr (.cons false cb .nil)) τ1 s1 with
      | no => rw [e2] at h; exact h.elim
      | exc c fs τ2 s2 => rw [e2] at h; exact Post.mono sub1 h
      | ok y τ2 s2 =>
        obtain ⟨y, rfl⟩ := isStr _ _ _ _ _ _ e2
        rw [e2] at h
        intro v' H2 F2 sub2 q2 r2
        exact ⟨F2, τ2, s2, x, y, q2, r1.mono sub2, r2, Post.mono (sub1.trans sub2) h⟩
  · obtain ⟨F, τ, s, x, y, q, r1, r2, h⟩ := hq
    cases r1; cases r2
    refine op_eq pins s2 σ H2 _ _ u w Q I2 rx ry ⟨rfl, ?_⟩
    rw [dec_str]
    exact h.ok q rfl
end
end Rz
end

section
set_option autoImplicit false
set_option Elab.async false
set_option linter.all false
set_option maxHeartbeats 1000000
set_option maxRecDepth 100000
/-! Displays of dicts, tables of the module, class names; places of lists, what is popped, put in front, put behind. -/
namespace Rz
open PySem PySem.Spec PySem.W PyProof.Rows L2

section
variable {S : Type} [Pen S] {Z : Cz S} {us : List Str} {G : Fm} {F H : Hp} {σ : L2.St} {τ : List Slot} {s : S} {W : WX} {X : Cx} {pins : List (Addr × Obj)} {sh : Shared}
variable {a b c e : Expr} {ca cb cc ce : CE} {pos : Pos}
/-! ### {k: e, ..} -/
def keyC2 : Const → Key → Bool
  | .int i, .inl j => i == j
  | .str a, .inr b => decide (a = b)
  | _, _ => false
inductive PairsZ (Z : Cz S) (W : WX) (X : Cx) : List (Option Expr) → List Expr → List Key → CAs → Prop
  | nil : PairsZ Z W X [] [] [] .nil
  | cons {c : Const} {n : Nat} {p : Pos} {v : Expr} {ks : List (Option Expr)} {vs : List Expr} {k : Key} {kk : List Key} {cv : CE} {cs : CAs} : keyC2 c k = true → (∀ G, PE X v (tD Z G W cv)) → PairsZ Z W X ks vs kk cs → PairsZ Z W X (some (.Constant c n p) :: ks) (v :: vs) (k :: kk) (.cons false cv cs)
def trsOf (Z : Cz S) (W : WX) : List Key → CAs → List (TE × TE)
  | k :: ks, .cons _ c r => (tC (kV k), fun σ H Q => ∃ G, tD Z G W c σ H Q) :: trsOf Z W ks r
  | _, _ => []
theorem PairsZ.pps {ks : List (Option Expr)} {vs : List Expr} {kk : List Key} {cs : CAs} (h : PairsZ Z W X ks vs kk cs) : PPs X pos ks vs (trsOf Z W kk cs) ∧ ks.all (·.isSome) = true ∧ ks.length = vs.length ∧ ks.length = kk.length := by
  induction h with
  | nil => exact ⟨pps_nil, rfl, rfl, rfl⟩
  | @cons c n p v ks vs k kk cv cs hk hv r ih =>
    obtain ⟨i1, i2, i3, i4⟩ := ih
    refine ⟨pps_cons ?_ (PE.any hv) i1, by simpa using i2, by simp [i3], by simp [i4]⟩
    cases c <;> cases k <;> simp only [keyC2] at hk <;> first | (cases hk; done) | skip
    · have e := eq_of_beq hk
      subst e
      exact pe_int
    · have e := of_decide_eq_true hk
      subst e
      exact pe_str
theorem PairsZ.read {ks : List (Option Expr)} {vs : List Expr} {kk : List Key} {cs : CAs} (h : PairsZ Z W X ks vs kk cs) : ∀ {F H : Hp} {τ : List Slot} {s : S} {K : List V → Hp → Prop} {Qp : List (V × V) → Hp → Prop}, SR Z.T Z.pn G F H σ τ s → Post Z G (RepL Z.T) F σ K W (evA Z.P Z.call Z.make cs τ s) →
    (∀ vs H2, vs.length = kk.length → K vs H2 → Qp ((kk.zip vs).map fun kv => (kV kv.1, kv.2)) H2) → tPairs (trsOf Z W kk cs) σ H Qp := by
  induction h with
  | nil =>
    intro F H τ s K Qp q h k
    exact k [] H rfl (h.ok q rfl)
  | @cons c n p v ks vs k kk cv cs hk hv r ih =>
    intro F H τ s K Qp q h kq
    simp only [evA] at h
    refine ⟨G, F, τ, s, q, h.bind fun x w τ1 s1 F1 H1 e1 q1 r1 h1 => ?_⟩
    simp only [cond_false] at h1
    have h2 : Post Z G (RepL Z.T) F1 σ (fun ws H2 => K (w :: ws) H2) W (evA Z.P Z.call Z.make cs τ1 s1) :=
      h1.bind fun ys ws τ2 s2 F2 H2 e2 q2 r2 h2 => h2.ok q2 ⟨w, ws, rfl, r1.mono e2, r2⟩
    exact ih q1 h2 fun ws H2 hl hk => kq (w :: ws) H2 (by simp [hl]) hk
theorem upd_cut' {H : Hp} {p : Addr} {o : HO} : upd (cut H p) p o = upd H p o := by
  funext b
  by_cases e : b = p
  · subst e; rw [upd_same, upd_same]
  · rw [upd_ne e, upd_ne e, cut_ne e]
theorem de_dct {ks : List (Option Expr)} {vs : List Expr} {kk : List Key} {cs : CAs} (h : PairsZ Z W X ks vs kk cs) (h15 : ks.length ≤ 15) (G : Fm) : PE X (.Dict ks vs pos) (tD Z G W (.dct kk cs)) := by
  obtain ⟨i1, i2, i3, i4⟩ := h.pps (pos := pos)
  by_cases h0 : ks = []
  · subst h0
    cases h
    refine pe_dnewK.imp fun σ H Q => ?_
    rintro ⟨F, τ, s, q, h⟩
    intro p hp
    simp only [ev, evA, Out.bind] at h
    obtain ⟨_, h⟩ := h.bif
    have nF := q.fh.none hp
    exact h _ _ (upd F p (.dK [])) (Sub.new nF) (q.new hp) ⟨p, [], rfl, upd_same, rfl, rfl⟩
  · refine (pe_disp i1 i2 i3 h0 h15).imp fun σ H Q => ?_
    rintro ⟨F, τ, s, q, hh⟩
    intro p hp
    have hG := q.gfree hp
    have q1 := q.frame (o := .dK []) hp
    simp only [ev] at hh
    refine h.read (K := fun (vs : List V) (H2 : Hp) => vs.length = kk.length → H2 p = some (.dK []) ∧ kk.length ≤ 15 ∧ kk.Nodup ∧ Q (.ref p) (upd H2 p (.dK (kk.zip vs)))) q1 ?_ fun vs H2 hl hk => ?_
    · revert hh
      cases evA Z.P Z.call Z.make cs τ s with
      | no => exact fun hh => hh
      | exc k fs τ1 s1 => exact fun hh H' F' od e2 q2 r2 => hh H' F' od e2 (q2.dropG hG) r2
      | ok ds τ1 s1 =>
        intro hh ws H2 F2 e2 q2 r2 hl
        have hh := Post.mono e2 hh
        simp only [Out.bind] at hh
        obtain ⟨hb, hh⟩ := hh.bif
        simp only [Bool.and_eq_true, decide_eq_true_eq] at hb
        have z := (q2.unframe hG).new (o := .dK (kk.zip ws)) cut_same
        rw [upd_cut'] at z
        have nF : F2 p = none := (q2.gh p _ Fm.upd_same).2.1
        exact ⟨(q2.gh p _ Fm.upd_same).1, hb.1.2, hb.2, hh (.ref p) _ _ (Sub.new nF) z ⟨p, ws, rfl, upd_same, hb.1.1, r2.mono (Sub.new nF)⟩⟩
    · obtain ⟨g1, g2, g3, g4⟩ := hk hl
      refine ⟨g1, kk.zip vs, rfl, by rw [List.length_zip]; omega, ?_⟩
      have nd : ((([] : List (Key × V)) ++ kk.zip vs).map (·.1)).Nodup := by
        rw [List.nil_append, zip_keys hl.symm]; exact g3
      rw [merge_nodup _ _ nd, List.nil_append]
      exact g4
/-! ### a table of the module with whole keys -/
structure GtZ (T : Tb) (a : Addr) (kvs : List (Int × D)) : Prop where
  ex : ∃ (es : Array DictEntry) (n : Nat), T.K.lookup a = some ⟨.type "dict", none, .dict es n, #[]⟩ ∧ (∀ e ∈ es, ∃ k t, e.key = .int k t ∧ e.hash = hashInt k) ∧ ∀ i d, kvs.lookup i = some d → ∃ u v, findBy Value.isInt es i = some u ∧ RelV v u ∧ ∀ F, Rep T F d v
theorem ix_gt {A : Addr} {es : Array DictEntry} {n : Nat} (hl : X.K.lookup A = some ⟨.type "dict", none, .dict es n, #[]⟩) (hk : ∀ e ∈ es, ∃ k t, e.key = .int k t ∧ e.hash = hashInt k) :
    IxR X (fun x y H Q => ∃ i u v, x = .ref A ∧ y = .int i ∧ findBy Value.isInt es i = some u ∧ RelV v u ∧ Q v H) := by
  intro value slice pins s σ H x y v u Q I rx ry h hs
  obtain ⟨i, u0, v0, rfl, rfl, hf, rel, q⟩ := h
  obtain rfl : v = Value.ref A := rx
  obtain ⟨t, rfl⟩ := ry
  have hm : s.heap.MapOf (PySem.intKind X.prog X.w) A (fun k => findBy Value.isInt es k) := ⟨_, es, n, I.kIn _ _ hl, ⟨rfl, rfl, rfl⟩, rfl, fun e he => by
    obtain ⟨k, t, e1, e2⟩ := hk e he
    exact ⟨k, by rw [e1]; exact PySem.intKind_is X.prog X.w k t, e2⟩, fun _ => rfl⟩
  exact tail_any hm.typeIs slot_dict_getitem.lookup (wpAny_getItem_of (PySem.intKind_is X.prog X.w i t) hm hf ⟨v0, H, I.tok _, rel, q⟩) hs
theorem de_gix {j : Nat} {x : Str} {A : Addr} {p : Pos} (hK : X.K = Z.T.K) (hg : Gl X x) (hm : X.mg x = some (.ref A)) (gz : GtZ Z.T A (Z.P.gt j)) (hd : (x == ("__debug__" : Str)) = false) (hb : PE X b (tD Z G W cb)) (hs : ixOk b = true) : PE X (.Subscript (.Name x p) b pos) (tD Z G W (.gix j cb)) := by
  obtain ⟨es, n, hl, hk, hf⟩ := gz.ex
  rw [← hK] at hl
  refine (pe_ix (ix_gt hl hk) (pe_glob (v := .ref A) hg hm rfl hd) hb (plainIx_of hs)).imp fun σ H Q => ?_
  rintro ⟨F, τ, s, q, h⟩
  simp only [ev] at h
  refine ⟨F, τ, s, q, h.bind fun y w τ1 s1 F1 H1 e1 q1 r1 h1 => ?_⟩
  cases y with
  | int i =>
    cases r1
    obtain ⟨d, ed, h1⟩ := h1.of
    obtain ⟨u, v, f1, f2, f3⟩ := hf i d ed
    exact ⟨i, u, v, rfl, rfl, f1, f2, h1.ok q1 (f3 F1)⟩
  | _ => exact h1.elim
/-! ### a class's name as a value -/
theorem de_cl {c : Nat} {x : Str} {p : Pos} (hg : Gl X x) (hm : X.mg x = some (.ref (Z.T.cA c))) (hd : (x == ("__debug__" : Str)) = false) : PE X (.Name x p) (tD Z G W (.cl c)) := (pe_glob (v := .ref (Z.T.cA c)) hg hm rfl hd).imp fun σ H Q => by
  rintro ⟨F, τ, s, q, h⟩
  exact h.ok q rfl
/-! ### xs[k] = e, y = xs.pop(), xs.insert(0, e), xs.extend(e) -/
theorem RepL.set {T : Tb} {F : Hp} {d : D} {v : V} (r : Rep T F d v) : ∀ {ds : List D} {vs : List V} (k : Nat), RepL T F ds vs → RepL T F (ds.set k d) (vs.set k v)
  | [], _, _, h => by cases h; simp [RepL]
  | x :: ds, _, 0, ⟨w, t, e, h, tl⟩ => by subst e; exact ⟨v, t, rfl, r, tl⟩
  | x :: ds, _, k + 1, ⟨w, t, e, h, tl⟩ => by subst e; exact ⟨w, _, rfl, h, RepL.set r k tl⟩
theorem ds_setIx {i : Nat} {x : Str} {p p2 : Pos} {th : Bool} (hix : ixOk a = true) (hv : PE X (.Name x p) (tVar i)) (ha : PE X a (tD Z G W ca)) (he : PE X e (tD Z G W ce))
    (hs : swapsWithSole [.Subscript (.Name x p) a p2] e pos.line X.env = pure false) (hw : swappedStores [.Subscript (.Name x p) a p2] e X.env = pure none) : PS X (.Assign [.Subscript (.Name x p) a p2] e pos) (tDS Z G W (.setIx i th ca ce)) :=
  (ps_asg (dx_of (th := th) he) (pg_sub hv (dx_of (th := true) ha) set_list (ha := fun v => by cases a <;> first | rfl | cases hix)) hs hw rfl).imp fun E σ H => by
    rintro ⟨F, τ, s, q, h⟩
    simp only [ex] at h
    refine ⟨F, τ, s, q, h.bind fun d v τ1 s1 F1 H1 e1 q1 r1 h1 => ?_⟩
    cases hi : τ1[i]? with
    | none => rw [hi] at h1; exact h1.elim
    | some sl =>
      rw [hi] at h1
      cases sl with
      | own ds0 =>
        obtain ⟨l, ob, f1, f2, f3, f4, f5, vs0, rfl, r0⟩ := q1.sl i _ hi
        refine ⟨.ref l, getD_of f1, F1, τ1, s1, q1, h1.bind fun y w τ2 s2 F2 H2 e2 q2 r2 h2 => ?_⟩
        cases hj : τ2[i]? with
        | none => rw [hj] at h2; exact h2.elim
        | some sl2 =>
          rw [hj] at h2
          cases sl2 with
          | own ds =>
            obtain ⟨l', ob', g1, g2, g3, g4, g5, vs, rfl, r⟩ := q2.sl i _ hj
            rw [f1] at g1
            cases g1
            cases y with
            | int k =>
              cases r2
              obtain ⟨hb, h3⟩ : (decide (0 ≤ k) && decide (k < ds.length)) = true ∧ PostS Z G F2 E W (.ok .next (τ2.set i (.own (ds.set k.toNat d))) s2) := by
                cases hb : decide (0 ≤ k) && decide (k < ds.length) with
                | false => simp only [hb] at h2; exact h2.elim
                | true => simp only [hb] at h2; exact ⟨rfl, h2⟩
              rw [Bool.and_eq_true, decide_eq_true_eq, decide_eq_true_eq] at hb
              refine ⟨l, vs, k, k.toNat, rfl, rfl, g2, ?_, ?_⟩
              · unfold ixN
                rw [r.length, if_pos hb.1, if_pos hb.2]
              · exact h3 σ _ F2 (Sub.refl _) (q2.rewrite hj rfl f1 rfl ⟨_, rfl, r.set (r1.mono e2) k.toNat⟩)
            | _ => exact h2.elim
          | _ => exact h2.elim
      | _ => exact h1.elim
theorem ds_popTo {i j : Nat} {x y : Str} {p py ap cp : Pos} (hN : X.N.Nodup) (hy : nmOk X j y) (hv : PE X (.Name x p) (tVar i)) (hline : (ap.endLine == cp.line) = true)
    (hs : swapsWithSole [.Name y py] (.Call (.Attribute (.Name x p) "pop" ap) [] [] cp) pos.line X.env = pure false) (hw : swappedStores [.Name y py] (.Call (.Attribute (.Name x p) "pop" ap) [] [] cp) X.env = pure none) :
    PS X (.Assign [.Name y py] (.Call (.Attribute (.Name x p) "pop" ap) [] [] cp) pos) (tDS Z G W (.popTo j i)) :=
  (ps_asg (pe_bm0 F.plainAttrs_list F.slot_list_pop F.type_list_pop mt_pop hv rfl hline) (pg_name hN hy.1 hy.2.1 hy.2.2) hs hw rfl).imp fun E σ H => by
    rintro ⟨F, τ, s, q, h⟩
    simp only [ex] at h
    cases hi : τ[i]? with
    | none => rw [hi] at h; exact h.elim
    | some sl =>
      rw [hi] at h
      cases sl with
      | own ds =>
        obtain ⟨p, ob, e1, e2, e3, e4, e5, vs, rfl, r⟩ := q.sl i _ hi
        cases hl : ds.getLast? with
        | none => simp only [hl] at h; exact h.elim
        | some d =>
          simp only [hl] at h
          cases hij : i == j with
          | true => simp only [hij] at h; exact h.elim
          | false =>
            simp only [hij] at h
            have hd : ds[ds.length - 1]? = some d := by rw [← hl, List.getLast?_eq_getElem?]
            obtain ⟨v, hv, rv⟩ := r.get hd
            rw [← r.length] at hv
            refine ⟨.ref p, getD_of e1, .inl ⟨rfl, vs, SqL.of e2⟩, p, vs, v, rfl, rfl, e2, hv, ?_⟩
            exact h _ _ F (Sub.refl _) ((q.rewrite (x' := .own ds.dropLast) (ob' := .lst vs.dropLast) hi rfl e1 rfl ⟨_, rfl, r.dropLast⟩).setF j rv)
      | _ => exact h.elim
theorem ds_ins0 {i n : Nat} {x : Str} {p ap cp p0 : Pos} {th : Bool} (hv : PE X (.Name x p) (tVar i)) (he : PE X e (tD Z G W ce)) (hst : isStar e = false) (hline : (ap.endLine == cp.line) = true) :
    PS X (.Expr (.Call (.Attribute (.Name x p) "insert" ap) [.Constant (.int 0) n p0, e] [] cp) pos) (tDS Z G W (.ins0 i th ce)) := by
  have pa : PA X [.Constant (.int 0) n p0, e] (fun σ H Q => ∃ F τ s, SR Z.T Z.pn G F H σ τ s ∧ Post Z G (fun F d vs => ∃ v, vs = [.int 0, v] ∧ Rep Z.T F d v) F σ Q W (evX Z.P Z.call Z.make th ce τ s)) :=
    (pa_cons pe_int (pa_cons (dx_of (th := th) he) pa_nil (starEach_plain hst)) rfl).imp fun σ H Q => by
      rintro ⟨F, τ, s, q, h⟩
      refine ⟨F, τ, s, q, ?_⟩
      revert h
      cases evX Z.P Z.call Z.make th ce τ s with
      | no => exact fun h => h
      | exc k fs τ1 s1 => exact fun h => h
      | ok d τ1 s1 => exact fun h v H' F' e1 q1 r1 => h [.int 0, v] H' F' e1 q1 ⟨v, rfl, r1⟩
  refine (ps_expr (pe_bm F.plainAttrs_list F.slot_list_insert F.type_list_insert mt_insert hv pa rfl (by rw [show starEach [Expr.Constant (Const.int 0) n p0, e] X.env = (false, eval (.Constant (.int 0) n p0) X.env) :: starEach [e] X.env from rfl, starEach_plain hst]; rfl) hline rfl (by rw [starEach_plain hst]; rfl)) swaps_call).imp fun E σ H => ?_
  rintro ⟨F, τ, s, q, h⟩
  simp only [ex] at h
  cases hi : τ[i]? with
  | none => rw [hi] at h; exact h.elim
  | some sl =>
    rw [hi] at h
    cases sl with
    | own ds0 =>
      obtain ⟨p, ob, e1, e2, e3, e4, e5, vs0, rfl, r0⟩ := q.sl i _ hi
      refine ⟨.ref p, getD_of e1, .inl ⟨rfl, vs0, SqL.of e2⟩, F, τ, s, q, h.bind fun d vs τ1 s1 F1 H1 k1 q1 r1 h1 => ?_⟩
      obtain ⟨v, rfl, r1⟩ := r1
      cases hj : τ1[i]? with
      | none => rw [hj] at h1; exact h1.elim
      | some sl1 =>
        rw [hj] at h1
        cases sl1 with
        | own ds1 =>
          obtain ⟨p', ob1, f1, f2, f3, f4, f5, vs1, rfl, r2⟩ := q1.sl i _ hj
          rw [e1] at f1
          cases f1
          cases hl : lim (ds1.length + 1) with
          | false => simp only [hl] at h1; exact h1.elim
          | true =>
            simp only [hl] at h1
            refine ⟨p, vs1, 0, v, rfl, rfl, f2, ?_, by decide, by decide, ?_⟩
            · rw [r2.length]; exact Nat.lt_of_lt_of_le (Nat.lt_succ_self _) (lim_size hl)
            · exact h1 σ _ F1 (Sub.refl _) (q1.rewrite hj rfl e1 rfl ⟨_, rfl, RepL.cons r1 r2⟩)
        | _ => exact h1.elim
    | _ => exact h.elim
end
end Rz
end

section
set_option autoImplicit false
set_option Elab.async false
set_option linter.all false
set_option maxHeartbeats 1000000
set_option maxRecDepth 100000
/-! Dict comprehensions. -/
namespace Rz
open PySem PySem.Spec PyProof.Rows L2
section
variable {J : It} {n : Nat} {G : Hp → Prop} {Y : Nat → Hp → V → Hp → Prop}
theorem dc_it (w : Walk J n G Y) {g : TG} {tt : TT} {tk tv : TE} {vs : List Nat} {σ : L2.St} {H1 : Hp} {D : Addr} {Qd : Hp → Prop} (Pv : Nat → Hp → Prop) (h0 : Pv 0 (upd H1 D (.dK []))) (hG : ∀ i H, i ≤ n → Pv i H → G H)
    (hs : ∀ i x H H', i < n → Pv i H → Y i H x H' → g x (wipe σ vs) H' fun σ2 H2 => wipe σ2 vs = wipe σ vs ∧ tt σ2 H2 fun b H3 =>
      if b = true then tk σ2 H3 fun y H4 => tv σ2 H4 fun z H5 => ∃ kvs k, y = kV k ∧ H5 D = some (.dK kvs) ∧ kvs.length < sizeLine ∧ Pv (i + 1) (upd H5 D (.dK (putK kvs k z))) else Pv (i + 1) H3) (hd : ∀ H, Pv n H → Qd H) :
    ∃ W : Nat → Nat → Hp → Prop, (∃ m, W 0 m (upd H1 D (.dK []))) ∧ ∀ i m H, W i m H →
      (J.stop i H ∧ Qd H) ∨ (J.go i H ∧ ∃ Nx : Hp → Prop, (∀ H', Nx H' → ∃ m', m' < m ∧ W (i + 1) m' H') ∧ ∀ x H', J.yld i H x H' → g x (wipe σ vs) H' fun σ2 H2 => wipe σ2 vs = wipe σ vs ∧ tt σ2 H2 fun b H3 =>
        if b = true then tk σ2 H3 fun y H4 => tv σ2 H4 fun z H5 => ∃ kvs k, y = kV k ∧ H5 D = some (.dK kvs) ∧ kvs.length < sizeLine ∧ Nx (upd H5 D (.dK (putK kvs k z))) else Nx H3) := by
  refine ⟨fun i m H => m = n - i ∧ i ≤ n ∧ Pv i H, ⟨n, by simp, Nat.zero_le _, h0⟩, ?_⟩
  rintro i m H ⟨rfl, hi, p⟩
  have q := hG i H hi p
  by_cases hlt : i < n
  · refine .inr ⟨w.goes i H hlt q, Pv (i + 1), fun H' p' => ⟨n - (i + 1), by omega, rfl, hlt, p'⟩, fun x H' y => hs i x H H' hlt p (w.yields i H x H' hlt q y)⟩
  · have e : i = n := by omega
    subst e
    exact .inl ⟨w.stops H q, hd H p⟩
end
section
variable {S : Type} [Pen S] {Z : Cz S} {G : Fm} {W : WX} {X : Cx}
theorem tDc_of {kt vt : CE} {tg : Tg} {ci : CI} {vs : List Nat} {σ : L2.St} {H : Hp} {Q : VK} (hv : vs = tg.slots) (h : tD Z G W (.dcomp kt vt tg ci) σ H Q) :
    tDc (iD Z G W ci) (gT Z.T.K tg) (fun σ H Q => ∃ G, tCs Z G WF .nil σ H Q) (fun σ H Q => ∃ G, tD Z G WF kt σ H Q) (fun σ H Q => ∃ G, tD Z G WF vt σ H Q) vs σ H Q := by
  subst hv
  obtain ⟨F, τ, s, q, h⟩ := h
  simp only [ev] at h
  refine ⟨F, τ, s, q, h.bind fun ds J τ1 s1 F1 H1 e1 q1 wk h1 => ?_⟩
  obtain ⟨hl, h1⟩ := h1.bif
  intro Dd hD
  have hG : G Dd = none := q1.gfree hD
  generalize hb : (fun d τ s => match bindT tg d τ with
        | some τ => ((ev Z.P Z.call Z.make kt τ s).bind fun k τ s => (ev Z.P Z.call Z.make vt τ s).bind fun v τ s => match keyOf k with
          | some k => .ok (k, v) τ s
          | none => .no).nx
        | none => Out.no) = body at h1
  refine dc_it wk (g := gT Z.T.K tg) (tt := fun σ H Q => ∃ G, tCs Z G WF .nil σ H Q) (tk := fun σ H Q => ∃ G, tD Z G WF kt σ H Q) (tv := fun σ H Q => ∃ G, tD Z G WF vt σ H Q) (vs := tg.slots) (σ := σ) (H1 := H1) (D := Dd) (Qd := Q (.ref Dd)) (Pv := fun i H => ∃ F2 τ2 s2 ks acc ws, Sub F1 F2 ∧ SR Z.T Z.pn (G.upd Dd (.dK (ks.zip ws))) F2 H (wipe σ tg.slots) (wipeT τ2 tg.slots) s2 ∧ RepL Z.T F2 acc ws ∧ ks.length = acc.length ∧ ks.Nodup ∧ ks.length ≤ i ∧
      Post Z G (Rep Z.T) F2 σ Q W ((dcL body tg.slots (ds.drop i) ks acc τ2 s2).bind fun p τ2 s => .ok (.dct p.1 p.2) (backT τ1 τ2 tg.slots) s)) ?_ ?_ ?_ ?_
  · exact ⟨F1, τ1, s1, [], [], [], Sub.refl _, (q1.frame (o := .dK []) hD).wipe _, rfl, rfl, List.nodup_nil, Nat.le_refl _, h1⟩
  · rintro i H2 hi ⟨F2, τ2, s2, ks, acc, ws, e2, q2, _⟩
    exact e2.trans q2.fh
  · rintro i x H2 H3 hi ⟨F2, τ2, s2, ks, acc, ws, e2, q2, ra, hkl, hkn, hal, h2⟩ ⟨d, hd, hy⟩
    have hdrop : ds.drop i = d :: ds.drop (i + 1) := by
      obtain ⟨z, rfl⟩ := List.getElem?_eq_some_iff.mp hd
      exact List.drop_eq_getElem_cons z
    rw [hdrop] at h2
    simp only [dcL] at h2
    obtain ⟨F3, e3, q3, rd⟩ : ∃ F3, Sub F2 F3 ∧ SR Z.T Z.pn (G.upd Dd (.dK (ks.zip ws))) F3 H3 (wipe σ tg.slots) (wipeT τ2 tg.slots) s2 ∧ Rep Z.T F3 d x := by
      rcases hy with ⟨rfl, rd⟩ | ⟨p, d1, d2, v1, v2, rfl, rfl, hp, rfl, r1, r2⟩
      · exact ⟨F2, Sub.refl _, q2, rd.mono e2⟩
      · have hF := q2.fh.none hp
        exact ⟨upd F2 p (.tup [v1, v2]), Sub.new hF, q2.new hp, p, [v1, v2], rfl, SqT.of upd_same, RepL.two ((r1.mono e2).mono (Sub.new hF)) ((r2.mono e2).mono (Sub.new hF))⟩
    have ra3 := ra.mono e3
    replace h2 := Post.mono e3 h2
    cases hbt : bindT tg d (wipeT τ2 tg.slots) with
    | none =>
      have z : body d (wipeT τ2 tg.slots) s2 = .no := by rw [← hb]; simp only [hbt]
      rw [z] at h2; exact h2.elim
    | some τ3 =>
      refine gT_of q3 rd hbt fun σ4 q4 hl4 hs4 => ⟨?_, G.upd Dd (.dK (ks.zip ws)), F3, τ3, s2, q4, ?_⟩
      · rw [wipe_same (σ := wipe σ tg.slots) hl4 hs4, wipe_wipe]
      have hw4 : wipe σ4 tg.slots = wipe σ tg.slots := by rw [wipe_same (σ := wipe σ tg.slots) hl4 hs4, wipe_wipe]
      intro b5 H5 F5 e5 q5 rb
      cases rb
      replace h2 := Post.mono e5 h2
      rw [if_pos rfl]
      refine ⟨G.upd Dd (.dK (ks.zip ws)), F5, τ3, s2, q5, ?_⟩
      cases hk : ev Z.P Z.call Z.make kt τ3 s2 with
      | no =>
        have z : body d (wipeT τ2 tg.slots) s2 = .no := by rw [← hb]; simp only [hbt, hk, Out.bind, Out.nx]
        rw [z] at h2; exact h2.elim
      | exc c fs τ s =>
        have z : body d (wipeT τ2 tg.slots) s2 = .no := by rw [← hb]; simp only [hbt, hk, Out.bind, Out.nx]
        rw [z] at h2; exact h2.elim
      | ok y τ6 s6 =>
        intro yv H6 F6 e6 q6 ry
        replace h2 := Post.mono e6 h2
        refine ⟨G.upd Dd (.dK (ks.zip ws)), F6, τ6, s6, q6, ?_⟩
        cases he : ev Z.P Z.call Z.make vt τ6 s6 with
        | no =>
          have z : body d (wipeT τ2 tg.slots) s2 = .no := by rw [← hb]; simp only [hbt, hk, he, Out.bind, Out.nx]
          rw [z] at h2; exact h2.elim
        | exc c fs τ s =>
          have z : body d (wipeT τ2 tg.slots) s2 = .no := by rw [← hb]; simp only [hbt, hk, he, Out.bind, Out.nx]
          rw [z] at h2; exact h2.elim
        | ok w τ7 s7 =>
          intro wv H7 F7 e7 q7 rw_
          replace h2 := Post.mono e7 h2
          cases hq : keyOf y with
          | none =>
            have z : body d (wipeT τ2 tg.slots) s2 = .no := by rw [← hb]; simp only [hbt, hk, he, hq, Out.bind, Out.nx]
            rw [z] at h2; exact h2.elim
          | some kk =>
            have z : body d (wipeT τ2 tg.slots) s2 = .ok (kk, w) τ7 s7 := by rw [← hb]; simp only [hbt, hk, he, hq, Out.bind, Out.nx]
            rw [z] at h2
            simp only [Out.bind] at h2
            have ra7 := ((ra3.mono e5).mono e6).mono e7
            obtain ⟨ws2, hp1, hp2⟩ := dct_put (k := kk) rw_ hkl hkn ra7
            obtain ⟨hn1, hn2⟩ := dctPut_keys ks acc kk w hkl hkn
            have q8 := (q7.wipe tg.slots).reframe (o' := .dK ((dctPut ks acc kk w).1.zip ws2))
            rw [hw4] at q8
            refine ⟨ks.zip ws, kk, keyOf_v hq ry, (q7.gh Dd _ Fm.upd_same).1, ?_, F7, τ7, s7, (dctPut ks acc kk w).1, (dctPut ks acc kk w).2, ws2, e2.trans (e3.trans (e5.trans (e6.trans e7))), ?_, hp2, dctPut_len ks acc kk w hkl, hn1, ?_, h2⟩
            · rw [List.length_zip]
              have := lim_size hl
              omega
            · rw [hp1]; exact q8
            · have := dctPut_le ks acc kk w
              omega
  · rintro H2 ⟨F2, τ2, s2, ks, acc, ws, e2, q2, ra, hkl, hkn, hal, h2⟩
    rw [List.drop_length] at h2
    simp only [dcL, Out.bind] at h2
    have g1 := (q2.gh Dd _ Fm.upd_same).1
    have q3 : SR Z.T Z.pn G F2 (cut H2 Dd) σ (backT τ1 τ2 tg.slots) s2 := (q2.unframe hG).back q1 e2
    have hF := q3.fh.none (cut_same (H := H2) (p := Dd))
    have q4 := q3.new (o := .dK (ks.zip ws)) (cut_same (H := H2) (p := Dd))
    rw [upd_cut g1] at q4
    exact h2 (.ref Dd) H2 (upd F2 Dd (.dK (ks.zip ws))) (Sub.new hF) q4 ⟨Dd, ws, rfl, upd_same, hkl, ra.mono (Sub.new hF)⟩
theorem de_dcomp {kx vx tg iter : Expr} {pos : Pos} {scope : Scope} {own : List (Str × Nat)} {ctg : Tg} {ci : CI} {ck cv : CE} (hc : X.calm = true) (hN : X.N.Nodup) (hi : PI X tg iter (iD Z G W ci)) (ok : BlkOk X.N X.env.scope scope own) (hv : own.map (·.2) = ctg.slots)
    (hg : ∀ (s : Shared) (H : Hp) (C : Addr) (cl : List (Str × Addr)) (fp : List Addr), PG (X.blk s H scope (compEnvC scope cl C X.env) fp) tg (gT Z.T.K ctg))
    (hk : ∀ (G : Fm) (s : Shared) (H : Hp) (C : Addr) (cl : List (Str × Addr)) (fp : List Addr), PE (X.blk s H scope (compEnvC scope cl C X.env) fp) kx (tD Z G WF ck))
    (he : ∀ (G : Fm) (s : Shared) (H : Hp) (C : Addr) (cl : List (Str × Addr)) (fp : List Addr), PE (X.blk s H scope (compEnvC scope cl C X.env) fp) vx (tD Z G WF cv)) (hs : ∀ x, foldedSetIterable iter X.env x = pure x) :
    PE X (.DictComp kx vx [⟨tg, iter, [], 0⟩] scope pos) (tD Z G W (.dcomp ck cv ctg ci)) :=
  (pe_dc hc hN hi ok hg (fun s H C cl fp => PTs.any fun G => dts_nil) (fun s H C cl fp => PE.any fun G => hk G s H C cl fp) (fun s H C cl fp => PE.any fun G => he G s H C cl fp) hs).imp fun σ H Q h => tDc_of hv h
end
end Rz
end

section
set_option autoImplicit false
set_option Elab.async false
set_option linter.all false
set_option maxHeartbeats 1000000
set_option maxRecDepth 100000
/-! x.extend(l), a[::-1], f(k=v) -/
namespace HT
open PySem PyProof.Rows
section
variable {prog : Program} {w : World} {A : Around} {E : Value → Shared → Prop} {s : Shared}
theorem sliceApplied_rev {sl : Addr} {vl vu vs : Value} {n : Nat} {Q : Int × Int × Nat → Shared → Prop} (hs : s.heap.IsSliceOf sl vl vu vs) (pl : IsPart vl none) (pu : IsPart vu none) (ps : IsPart vs (some (-1)))
    (h : Q ((n : Int) - 1, -1, n) s) : wpAny (model prog w) A (Builtin.Slice.sliceApplied (.ref sl) (pure (n : Int))) Q E s := by
  obtain ⟨os, hos, hcs, hds⟩ := id hs
  unfold Builtin.Slice.sliceApplied Builtin.Slice.sliceFields
  refine wpAny_bind (wpAny_bind (wpAny_field hos hds (x := vl) rfl (wpAny_bind (wpAny_field hos hds (x := vu) rfl (wpAny_bind (wpAny_field hos hds (x := vs) rfl (wpAny_pure ?_)))))))
  refine wpAny_bind (slicePart_ ps ?_)
  show wpAny _ _ (if ((-1 : Int) == 0) = true then _ else _) _ _ s
  rw [if_neg (by decide)]
  refine wpAny_bind (slicePart_ pl (wpAny_bind (slicePart_ pu (wpAny_bind (wpAny_pure ?_)))))
  show wpAny _ _ (pure ((n : Int) - 1, (-1 : Int), Builtin.Slice.slicePlaces ((n : Int) - 1) (-1) (-1))) _ _ s
  have e : Builtin.Slice.slicePlaces ((n : Int) - 1) (-1) (-1) = n := by
    unfold Builtin.Slice.slicePlaces
    have h1 : ¬ ((-1 : Int) > 0) := by decide
    simp only [h1, if_false, show (- -1 : Int) = 1 by decide, Int.ediv_one]
    split <;> omega
  rw [e]
  exact wpAny_pure h
theorem fm_congr {α β : Type} {f g : α → Option β} : ∀ {l : List α}, (∀ x, x ∈ l → f x = g x) → l.filterMap f = l.filterMap g
  | [], _ => rfl
  | a :: l, h => by rw [List.filterMap_cons, List.filterMap_cons, h a List.mem_cons_self, fm_congr fun x hx => h x (List.mem_cons_of_mem _ hx)]
theorem pick_rev (xs : Array Value) : ((List.range xs.size).filterMap fun (m : Nat) => xs[(((xs.size : Int) - 1) + (m : Int) * -1).toNat]?).toArray = xs.toList.reverse.toArray := by
  have e : ((List.range xs.size).filterMap fun (m : Nat) => xs[(((xs.size : Int) - 1) + (m : Int) * -1).toNat]?) = ((List.range xs.size).map fun k => xs.size - 1 - k).filterMap (xs[·]?) := by
    rw [List.filterMap_map]
    refine fm_congr fun m hm => ?_
    have := List.mem_range.mp hm
    have : (((xs.size : Int) - 1) + (m : Int) * -1).toNat = xs.size - 1 - m := by omega
    simp only [Function.comp, this]
  rw [e, PySem.W.krv_range, List.filterMap_reverse, PySem.W.krv_all]
theorem getItem_tuple_rev {t sl : Addr} {items : Array Value} {vl vu vs : Value} {Q : Value → Shared → Prop} (ht : IsTup s.heap t items) (hs : s.heap.IsSliceOf sl vl vu vs) (pl : IsPart vl none) (pu : IsPart vu none) (ps : IsPart vs (some (-1)))
    (h : Q (.ref s.heap.objs.size) { s with heap := s.heap.push { cls := .type "tuple", data := .seq items.toList.reverse.toArray } })
    (hsz : items.size ≤ sizeLine) : wpAny (model prog w) A (getItem (.ref t) (.ref sl)) Q E s := by
  have htake : sizeOk (.seq items.toList.reverse.toArray) := by
    show items.toList.reverse.toArray.size ≤ sizeLine
    rw [List.size_toArray, List.length_reverse, Array.length_toList]
    exact hsz
  obtain ⟨os, hos, hcs, hds⟩ := id hs
  have hTs : s.TypeIs (.ref sl) "slice" := ⟨os, hos, hcs⟩
  unfold getItem
  try with_reducible refine wpAny_holding ?_
  first | refine wpAny_bind (wpAny_pure ?_) | skip
  refine wpAny_bind (wpAny_sequenceKey ht.typeIs (by decide) ?_)
  refine wpAny_bind (wpAny_callSpecial?_slot (name := Str.ofString "__getitem__") ht.typeIs PyProof.Rows.slot_tuple_getitem
    (wpAny_call_entry PyProof.Rows.slot_tuple_getitem ht.typeIs entry_tuple_getitem ?_ (args_tuple_getitem _ _)))
  show wpAny _ _ (Builtin.Tuple.tupleItemsOf (.ref t) >>= _) _ _ s
  refine wpAny_bind (tupleItemsOf_ ht ?_)
  refine wpAny_bind (wpAny_typeOf hTs ?_)
  rw [if_pos (by decide)]
  refine wpAny_bind (sliceApplied_rev hs pl pu ps ?_)
  have hno : ¬ (((((items.size : Int) - 1) == 0) && ((-1 : Int) == 1) && items.size == items.size) = true) := by
    intro q
    rw [Bool.and_eq_true, Bool.and_eq_true] at q
    exact absurd q.1.2 (by decide)
  show wpAny _ _ (if ((((items.size : Int) - 1) == 0) && ((-1 : Int) == 1) && items.size == items.size) = true then _ else _) _ _ s
  rw [if_neg hno, pick_rev]
  first
    | exact wpAny_bind (m := Builtin.Tuple.tupleExact _) (wpAny_newObj_type (wpAny_pure ⟨_, rfl, wpAny_pure h⟩) htake)
    | exact wpAny_bind (m := Builtin.Tuple.tupleExact _) (wpAny_newObj_type (wpAny_bind (wpAny_pure (wpAny_pure ⟨_, rfl, wpAny_pure h⟩))) htake)
    | exact wpAny_bind (wpAny_bind (m := Builtin.Tuple.tupleExact _) (wpAny_newObj_type (wpAny_pure (wpAny_pure ⟨_, rfl, wpAny_pure h⟩)) htake))
    | exact wpAny_bind (wpAny_bind (m := Builtin.Tuple.tupleExact _) (wpAny_newObj_type (wpAny_pure ⟨_, rfl, wpAny_pure h⟩) htake))
end
end HT
namespace L2
open PySem PySem.Spec PyProof.Rows
section
variable {X : Cx}
/-- a[::-1], a list or a tuple -/
def tRevS (K : PySem.W.Frag) (te : TE) : TE := fun σ H Q => te σ H fun x H1 => ∃ a xs, x = .ref a ∧ ((SqL K H1 a xs ∧ ∀ p, H1 p = none → Q (.ref p) (upd H1 p (.lst xs.reverse))) ∨ (SqT K H1 a xs ∧ ∀ p, H1 p = none → Q (.ref p) (upd H1 p (.tup xs.reverse))))
theorem pe_revS {e : Expr} {te : TE} {k : Nat} {p1 p2 p3 pos : Pos} (he : PE X e te) : PE X (.Subscript e (.Slice none none (some (.UnaryOp .USub (.Constant (.int 1) k p1) p2)) p3) pos) (tRevS X.K te) := by
  refine ⟨fun pins s σ H Q I h => ?_⟩
  refine Subscript_ (thn (he.run pins s σ H _ I h) fun v s1 ⟨x, H1, I1, r1, q1⟩ => ?_)
  obtain ⟨a, xs, ex, q⟩ := q1
  subst ex
  cases r1
  have hst : PO X (some (.UnaryOp .USub (.Constant (.int 1) k p1) p2)) (tPart (tUn (rU fun i => .int (-i)) (tC (.int 1)))) := po_some (pe_un un_neg pe_int)
  refine wpAny_Slice (thn (po_none.run pins s1 σ H1 (fun o H2 => o = none ∧ H2 = H1) I1 ⟨rfl, rfl⟩) fun vl s2 ⟨l, H2, I2, pl, el, e2⟩ => ?_)
  subst el e2
  refine thn (po_none.run pins s2 σ H2 (fun o H3 => o = none ∧ H3 = H2) I2 ⟨rfl, rfl⟩) fun vu s3 ⟨u, H3, I3, pu, eu, e3⟩ => ?_
  subst eu e3
  refine thn (hst.run pins s3 σ H3 (fun o H4 => o = some (-1) ∧ H4 = H3) I3 ⟨1, rfl, -1, rfl, rfl, rfl⟩) fun vs s4 ⟨o, H4, I4, ps, eo, e4⟩ => ?_
  subst eo e4
  have I5 : Inv X pins σ H4 { s4 with heap := s4.heap.push { cls := .type "slice", data := .fields #[vl, vu, vs] } } := I4.kept (t' := s4.toks) fun b ob q => Heap.get?_push_of_some _ q
  show wpAny (model X.prog X.w) X.A (subscriptTail e (.Slice none none (some (.UnaryOp .USub (.Constant (.int 1) k p1) p2)) p3) (.ref a) (.ref s4.heap.objs.size)) (EP X pins σ Q) X.xe { s4 with heap := s4.heap.push { cls := .type "slice", data := .fields #[vl, vu, vs] } }
  rcases q with ⟨hx, q⟩ | ⟨hx, q⟩
  · obtain ⟨its, r, ht, hz⟩ := I5.list hx
    have hlen := r.length
    refine tail_any (ops := [.ref a, .ref s4.heap.objs.size]) ht.isList.typeIs (PySem.slot_list_getitem.lookup) ?_ (by with_unfolding_all rfl)
    refine wpAny_getItem_list_slice ht.isList (Heap.IsSliceOf.new _ vl vu vs) pl pu ps (by decide) ?_ (by rw [List.size_toArray]; omega)
    rw [PySem.W.krv_pick]
    refine ⟨.ref _, _, I5.laid (t' := s4.toks) (o := .lst xs.reverse) (fun b ob q => Heap.get?_push_of_some _ q) (Nat.le_refl _) ?_, rfl, q _ (I5.hok.fresh (Nat.le_refl _))⟩
    exact ⟨by rw [List.length_reverse]; exact hz, _, 0, r.reverse, Heap.get?_push_size _ rfl⟩
  · obtain ⟨its, r, ht, hz⟩ := I5.tuple hx
    have hlen := r.length
    refine tail_any (ops := [.ref a, .ref s4.heap.objs.size]) ht.typeIs (PyProof.Rows.slot_tuple_getitem.lookup) ?_ (by with_unfolding_all rfl)
    refine HT.getItem_tuple_rev ht (Heap.IsSliceOf.new _ vl vu vs) pl pu ps ?_ (by rw [List.size_toArray]; omega)
    refine ⟨.ref _, _, I5.laid (t' := s4.toks) (o := .tup xs.reverse) (fun b ob q => Heap.get?_push_of_some _ q) (Nat.le_refl _) ?_, rfl, q _ (I5.hok.fresh (Nat.le_refl _))⟩
    exact ⟨by rw [List.length_reverse]; exact hz, _, r.reverse, IsTup.new _ _⟩
end
end L2
namespace Rz
open PySem PySem.Spec PySem.W PyProof.Rows L2
section
variable {S : Type} [Pen S] {Z : Cz S} {us : List Str} {G : Fm} {F H : Hp} {σ : L2.St} {τ : List Slot} {s : S} {W : WX} {X : Cx} {pins : List (Addr × Obj)} {sh : Shared}
variable {a b e : Expr} {ca cb ce : CE} {pos : Pos}
theorem ds_ext {i : Nat} {x : Str} {p ap cp : Pos} (hv : PE X (.Name x p) (tVar i)) (he : PE X e (tD Z G W ce)) (hst : isStar e = false) (hline : (ap.endLine == cp.line) = true) :
    PS X (.Expr (.Call (.Attribute (.Name x p) "extend" ap) [e] [] cp) pos) (tDS Z G W (.ext i ce)) := by
  have pa : PA X [e] (fun σ H Q => ∃ F τ s, SR Z.T Z.pn G F H σ τ s ∧ Post Z G (fun F d vs => ∃ v, vs = [v] ∧ Rep Z.T F d v) F σ Q W (ev Z.P Z.call Z.make ce τ s)) :=
    (pa_cons he pa_nil (starEach_plain hst)).imp fun σ H Q => by
      rintro ⟨F, τ, s, q, h⟩
      refine ⟨F, τ, s, q, ?_⟩
      revert h
      cases ev Z.P Z.call Z.make ce τ s with
      | no => exact fun h => h
      | exc k fs τ1 s1 => exact fun h => h
      | ok d τ1 s1 => exact fun h v H' F' e1 q1 r1 => h [v] H' F' e1 q1 ⟨v, rfl, r1⟩
  refine (ps_expr (pe_bm F.plainAttrs_list F.slot_list_extend F.type_list_extend mt_extend hv pa rfl (by rw [starEach_plain hst]; rfl) hline (starEach_plain hst) rfl) swaps_call).imp fun E σ H => ?_
  rintro ⟨F, τ, s, q, h⟩
  simp only [ex] at h
  cases hi : τ[i]? with
  | none => rw [hi] at h; exact h.elim
  | some sl =>
    rw [hi] at h
    cases sl with
    | own ds0 =>
      obtain ⟨p, ob, e1, e2, e3, e4, e5, vs0, rfl, r0⟩ := q.sl i _ hi
      refine ⟨.ref p, getD_of e1, .inl ⟨rfl, vs0, SqL.of e2⟩, F, τ, s, q, h.bind fun d vs τ1 s1 F1 H1 k1 q1 r1 h1 => ?_⟩
      obtain ⟨v, rfl, r1⟩ := r1
      cases hj : τ1[i]? with
      | none => rw [hj] at h1; exact h1.elim
      | some sl1 =>
        rw [hj] at h1
        cases sl1 with
        | own ds1 =>
          obtain ⟨p', ob1, f1, f2, f3, f4, f5, vs1, rfl, r2⟩ := q1.sl i _ hj
          rw [e1] at f1
          cases f1
          cases d with
          | lst xs =>
            obtain ⟨b, ws, rfl, hb, rw_⟩ := r1
            cases hl : lim (ds1.length + xs.length) with
            | false => simp only [hl] at h1; exact h1.elim
            | true =>
              simp only [hl] at h1
              refine ⟨p, b, vs1, ws, rfl, rfl, f2, q1.fh _ _ hb, ?_, ?_⟩
              · rw [r2.length, rw_.length]; exact lim_size hl
              · exact h1 σ _ F1 (Sub.refl _) (q1.rewrite hj rfl e1 rfl ⟨_, rfl, r2.append rw_⟩)
          | _ => exact h1.elim
        | _ => exact h1.elim
    | _ => exact h.elim
theorem RepL.rev {T : Tb} {F : Hp} : ∀ {ds : List D} {vs : List V}, RepL T F ds vs → RepL T F ds.reverse vs.reverse
  | [], _, h => by cases h; exact rfl
  | d :: ds, _, ⟨v, r, e, h, t⟩ => by
    subst e
    rw [List.reverse_cons, List.reverse_cons]
    exact (RepL.rev t).append (RepL.one h)
theorem bif_some' {α : Type} {b : Bool} {x y : α} (h : (bif b then none else some x) = some y) : b = false ∧ y = x := by
  cases b with
  | true => cases h
  | false => cases h; exact ⟨rfl, rfl⟩
theorem de_rev {k : Nat} {p1 p2 p3 : Pos} (hK : X.K = Z.T.K) (ha : PE X a (tD Z G W ca)) : PE X (.Subscript a (.Slice none none (some (.UnaryOp .USub (.Constant (.int 1) k p1) p2)) p3) pos) (tD Z G W (.rev ca)) :=
  (pe_revS ha).imp fun σ H Q => by
    rintro ⟨F0, τ, s, q, h⟩
    simp only [ev] at h
    refine ⟨F0, τ, s, q, h.bind fun x v τ1 s1 F1 H1 e1 q1 r1 h1 => ?_⟩
    obtain ⟨d, ed, h1⟩ := h1.of
    cases x with
    | lst ds =>
      cases ed
      obtain ⟨p, vs, rfl, hF, rl⟩ := r1
      refine ⟨p, vs, rfl, .inl ⟨SqL.of (q1.fh _ _ hF), fun n hn => ?_⟩⟩
      have nF := q1.fh.none hn
      exact h1 _ _ _ (Sub.new nF) (q1.new hn) ⟨n, _, rfl, upd_same, rl.rev.mono (Sub.new nF)⟩
    | tup ds =>
      obtain ⟨_, rfl⟩ := bif_some' ed
      obtain ⟨p, vs, rfl, hF, rl⟩ := r1
      refine ⟨p, vs, rfl, .inr ⟨by rw [hK]; exact q1.fh.sqT hF, fun n hn => ?_⟩⟩
      have nF := q1.fh.none hn
      exact h1 _ _ _ (Sub.new nF) (q1.new hn) ⟨n, _, rfl, SqT.of upd_same, rl.rev.mono (Sub.new nF)⟩
    | _ => cases ed
/-- f(.., k=v), f a def of the module -/
theorem de_callF {f : Nat} {x : Str} {args : List Expr} {cs ws : CAs} {kws : List Keyword} {ks : List Str} {p pos : Pos} (hK : X.K = Z.T.K) (Fz : FnZ Z X f) (hk : PySem.W.keepIn X.K (.ref (Z.T.fA f)) = true) (hkw : Z.P.kwn f ≠ [] → KwOk Z.T.K (Z.T.fA f) (Z.P.kwn f)) (tk : Takes X W) (hg : Gl X x) (hm : X.mg x = some (.ref (Z.T.fA f)))
    (hs : args.any isStar = false) (ha : ArgsZ Z G W X args cs) (hw : KwsZ Z G W X kws ks ws) (hd : (x == ("__debug__" : Str)) = false) : PE X (.Call (.Name x p) args kws pos) (tD Z G W (.callF f cs ks ws)) := by
  refine ⟨fun pins sh σ H Q I h => ?_⟩
  obtain ⟨F0, τ, s, q, h⟩ := h
  simp only [ev] at h
  refine wpAny_Call_Name_kw (ld_glob I hg hm ?_ hd)
  refine callWith_zk (first := []) (Kq := fun vs zs H3 => Z.P.kwn f ≠ [] ∧ ∃ vs', spF Z f vs' H3 Q (fun c d H' => W c d σ H') ∧ ∀ us wv, Vals vs us → Vals zs wv → ∃ us', Vals vs' us' ∧ ∀ fd, PlainK fd (Z.P.kwn f) → bindArgs fd ⟨us, ks.zip wv⟩ = bindArgs fd ⟨us', []⟩) hK hk hs ha hw I ⟨F0, τ, s, q, h.bind fun ys vs τ1 s1 F1 H1 e1 q1 r1 h1 => ⟨F1, τ1, s1, q1, h1.bind fun yz zs τ3 s3 F3 H3 e3 q3 r3 h3 => ?_⟩⟩ fun us wv s2 vs zs H2 I2 r r2 ⟨hne, vs', hq, av⟩ => ?_
  · cases ea : arr2 (Z.P.kwn f) ys ks yz with
    | none => rw [ea] at h3; exact h3.elim
    | some xs =>
      rw [ea] at h3
      obtain ⟨vs', rv, av⟩ := arr2_ok ea (r1.mono e3) r3
      refine ⟨fun z => ?_, vs', spF_of q3 rv h3, av⟩
      rw [z] at ea
      unfold arr2 at ea
      split at ea <;> simp [arrG] at ea
  · obtain ⟨us', rv', hb'⟩ := av us wv r r2
    have hko := hkw hne
    rw [← hK] at hko
    exact wpAny_call (run_zk (us := us') (vs := vs') Fz tk I2 rv' hq fun oc od fd osl lk => hb' fd (hko oc od fd osl lk))
/-- xs.clear() -/
theorem ds_clr {i : Nat} {x : Str} {p ap cp : Pos} (hv : PE X (.Name x p) (tVar i)) (hline : (ap.endLine == cp.line) = true) :
    PS X (.Expr (.Call (.Attribute (.Name x p) "clear" ap) [] [] cp) pos) (tDS Z G W (.clr i)) := by
  refine (ps_expr (pe_bm0 F.plainAttrs_list F.slot_list_clear F.type_list_clear mt_clear hv rfl hline) swaps_call).imp fun E σ H => ?_
  rintro ⟨F, τ, s, q, h⟩
  simp only [ex] at h
  cases hi : τ[i]? with
  | none => rw [hi] at h; exact h.elim
  | some sl =>
    rw [hi] at h
    cases sl with
    | own ds =>
      obtain ⟨p, ob, e1, e2, e3, e4, e5, vs, rfl, r⟩ := q.sl i _ hi
      exact ⟨.ref p, getD_of e1, .inl ⟨rfl, vs, SqL.of e2⟩, p, vs, rfl, rfl, e2, h σ _ F (Sub.refl _) (q.rewrite hi rfl e1 rfl ⟨_, rfl, rfl⟩)⟩
    | _ => exact h.elim
theorem RepL.erase {T : Tb} {F : Hp} : ∀ {ds : List D} {vs : List V} (k : Nat), RepL T F ds vs → RepL T F (ds.eraseIdx k) (vs.eraseIdx k)
  | [], _, _, h => by cases h; exact rfl
  | d :: ds, _, 0, ⟨v, r, e, h, t⟩ => by subst e; exact t
  | d :: ds, _, k + 1, ⟨v, r, e, h, t⟩ => by subst e; exact ⟨_, _, rfl, h, RepL.erase k t⟩
/-- y = xs.pop(e) -/
theorem ds_popAt {i j : Nat} {x y : Str} {p py ap cp : Pos} {th : Bool} (hN : X.N.Nodup) (hy : nmOk X j y) (hv : PE X (.Name x p) (tVar i)) (he : PE X e (tD Z G W ce)) (hst : isStar e = false) (hline : (ap.endLine == cp.line) = true)
    (hs : swapsWithSole [.Name y py] (.Call (.Attribute (.Name x p) "pop" ap) [e] [] cp) pos.line X.env = pure false) (hw : swappedStores [.Name y py] (.Call (.Attribute (.Name x p) "pop" ap) [e] [] cp) X.env = pure none) :
    PS X (.Assign [.Name y py] (.Call (.Attribute (.Name x p) "pop" ap) [e] [] cp) pos) (tDS Z G W (.popAt j i th ce)) := by
  have pa : PA X [e] (fun σ H Q => ∃ F τ s, SR Z.T Z.pn G F H σ τ s ∧ Post Z G (fun F d vs => ∃ v, vs = [v] ∧ Rep Z.T F d v) F σ Q W (evX Z.P Z.call Z.make th ce τ s)) :=
    (pa_cons (dx_of (th := th) he) pa_nil (starEach_plain hst)).imp fun σ H Q => by
      rintro ⟨F, τ, s, q, h⟩
      refine ⟨F, τ, s, q, ?_⟩
      revert h
      cases evX Z.P Z.call Z.make th ce τ s with
      | no => exact fun h => h
      | exc k fs τ1 s1 => exact fun h => h
      | ok d τ1 s1 => exact fun h v H' F' e1 q1 r1 => h [v] H' F' e1 q1 ⟨v, rfl, r1⟩
  refine (ps_asg (pe_bm F.plainAttrs_list F.slot_list_pop F.type_list_pop mt_popAt hv pa rfl (by rw [starEach_plain hst]; rfl) hline (starEach_plain hst) rfl) (pg_name hN hy.1 hy.2.1 hy.2.2) hs hw rfl).imp fun E σ H => ?_
  rintro ⟨F, τ, s, q, h⟩
  simp only [ex] at h
  cases hi : τ[i]? with
  | none => rw [hi] at h; exact h.elim
  | some sl =>
    rw [hi] at h
    cases sl with
    | own ds0 =>
      obtain ⟨p, ob, e1, e2, e3, e4, e5, vs0, rfl, r0⟩ := q.sl i _ hi
      refine ⟨.ref p, getD_of e1, .inl ⟨rfl, vs0, SqL.of e2⟩, F, τ, s, q, h.bind fun d vs τ1 s1 F1 H1 k1 q1 r1 h1 => ?_⟩
      obtain ⟨v, rfl, r1⟩ := r1
      cases hj : τ1[i]? with
      | none => rw [hj] at h1; exact h1.elim
      | some sl1 =>
        rw [hj] at h1
        cases sl1 with
        | own ds1 =>
          obtain ⟨p', ob1, f1, f2, f3, f4, f5, vs1, rfl, r2⟩ := q1.sl i _ hj
          rw [e1] at f1
          cases f1
          cases d with
          | int k =>
            cases r1
            cases hb : (decide (0 ≤ k) && decide (k < ds1.length) && lim ds1.length && !(i == j)) with
            | false => simp only [hb] at h1; exact h1.elim
            | true =>
              simp only [hb] at h1
              simp only [Bool.and_eq_true, decide_eq_true_eq] at hb
              obtain ⟨⟨⟨b1, b2⟩, b3⟩, b4⟩ := hb
              cases hd : ds1[k.toNat]? with
              | none => simp only [hd] at h1; exact h1.elim
              | some d =>
                simp only [hd] at h1
                obtain ⟨w, hw, rw_⟩ := r2.get hd
                have b5 : ds1.length ≤ 100000 := of_decide_eq_true b3
                refine ⟨p, vs1, k, k.toNat, w, rfl, rfl, f2, by omega, by omega, ?_, hw, ?_⟩
                · unfold seqIndex?
                  rw [r2.length]
                  have n1 : ¬ k < 0 := by omega
                  simp only [n1, if_false]
                  rw [if_pos (by simp only [Bool.and_eq_true, decide_eq_true_eq]; exact ⟨b1, b2⟩)]
                · exact h1 _ _ F1 (Sub.refl _) ((q1.rewrite (x' := .own (ds1.eraseIdx k.toNat)) (ob' := .lst (vs1.eraseIdx k.toNat)) hj rfl e1 rfl ⟨_, rfl, r2.erase _⟩).setF j rw_)
          | _ => exact h1.elim
        | _ => exact h1.elim
    | _ => exact h.elim
/-! ### dict(l) of pairs -/
theorem pairs_rep {T : Tb} {F : Hp} : ∀ {ds : List D} {ps : List (Key × D)} {vs : List V}, pairsD ds = some ps → RepL T F ds vs → ∃ (as : List Addr) (kvs : List (Key × V)), vs = as.map V.ref ∧ Paired (fun a (kv : Key × V) => SqT T.K F a [kV kv.1, kv.2]) as kvs ∧ kvs.map (·.1) = ps.map (·.1) ∧ RepL T F (ps.map (·.2)) (kvs.map (·.2))
  | [], _, _, h, r => by cases h; cases r; exact ⟨[], [], rfl, .nil, rfl, rfl⟩
  | d :: ds, ps, vs, h, r => by
    obtain ⟨v, vs', rfl, r0, rs⟩ := r
    unfold pairsD at h
    split at h
    · cases ‹_ :: _ = []›
    · rename_i k x rest' e
      cases e
      obtain ⟨a, ws, rfl, hs, y, t, rfl, ry, z, t', rfl, rz, rt⟩ := r0
      cases rt
      split at h
      · rename_i kk ek
        cases hp : pairsD ds with
        | none => rw [hp] at h; cases h
        | some ps0 =>
          rw [hp] at h
          cases h
          obtain ⟨as, kvs, e1, e2, e3, e4⟩ := pairs_rep hp rs
          refine ⟨a :: as, (kk, z) :: kvs, by rw [e1]; rfl, .cons (by rw [← keyOf_v ek ry]; exact hs) e2, by rw [List.map_cons, List.map_cons, e3], z, _, rfl, rz, e4⟩
      · cases h
    · cases h
theorem Paired.imp {α β : Type} {P Q : α → β → Prop} (h : ∀ a b, P a b → Q a b) : ∀ {l : List α} {m : List β}, Paired P l m → Paired Q l m
  | _, _, .nil => .nil
  | _, _, .cons p r => .cons (h _ _ p) (Paired.imp h r)
theorem puts_rep {T : Tb} {F : Hp} : ∀ {ps : List (Key × D)} {kvs : List (Key × V)} {ks : List Key} {acc : List D} {vs : List V}, kvs.map (·.1) = ps.map (·.1) → RepL T F (ps.map (·.2)) (kvs.map (·.2)) → ks.length = acc.length → ks.Nodup → RepL T F acc vs →
    ∃ ws, mergeK (ks.zip vs) kvs = (putsD ps ks acc).1.zip ws ∧ (putsD ps ks acc).1.length = (putsD ps ks acc).2.length ∧ RepL T F (putsD ps ks acc).2 ws
  | [], kvs, ks, acc, vs, e, _, hl, nd, r => by
    have : kvs = [] := by cases kvs with
      | nil => rfl
      | cons a l => cases e
    subst this
    exact ⟨vs, rfl, hl, r⟩
  | p :: ps, [], ks, acc, vs, e, _, hl, nd, r => by cases e
  | p :: ps, kv :: kvs, ks, acc, vs, e, rr, hl, nd, r => by
    rw [List.map_cons, List.map_cons, List.cons.injEq] at e
    obtain ⟨y, t, et, ry, rt⟩ := rr
    rw [List.map_cons, List.cons.injEq] at et
    obtain ⟨et1, et2⟩ := et
    obtain ⟨ws, h1, h2⟩ := dct_put (k := p.1) ry hl nd r
    obtain ⟨ws2, g1, g2, g3⟩ := puts_rep (ps := ps) (kvs := kvs) e.2 (by rw [et2]; exact rt) (dctPut_len ks acc p.1 p.2 hl) (dctPut_keys ks acc p.1 p.2 hl nd).1 h2
    refine ⟨ws2, ?_, g2, g3⟩
    rw [← h1, ← et1, ← e.1] at g1
    show mergeK (putK (ks.zip vs) kv.1 kv.2) kvs = (putsD ps (dctPut ks acc p.1 p.2).1 (dctPut ks acc p.1 p.2).2).1.zip ws2
    rw [← e.1]
    exact g1
theorem de_dof {p p2 : Pos} (hK : X.K = Z.T.K) (calm : X.calm = true) (hg : Gl X "dict") (hm : X.mg "dict" = none) (ha : PE X a (tD Z G W ca)) (hs : isStar a = false) :
    PE X (.Call (.Name "dict" p) [a] [] p2) (tD Z G W (.dof ca)) :=
  (pe_callTy (call_dictP (X := X) calm) (pos := p2) (p := p) hg hm (by decide +kernel) (pa_cons ha pa_nil (starEach_plain hs)) (by decide) (by decide) (starEach_plain hs) rfl).imp fun σ H Q => by
    rintro ⟨F0, τ, s, q, h⟩
    simp only [ev] at h
    refine ⟨F0, τ, s, q, h.bind fun x v τ1 s1 F1 H1 e1 q1 r1 h1 => ?_⟩
    cases x with
    | lst ds =>
      cases hp : pairsD ds with
      | none => simp only [hp] at h1; exact h1.elim
      | some ps =>
        simp only [hp] at h1
        obtain ⟨b, vs, rfl, hF, rl⟩ := r1
        obtain ⟨as, kvs, rfl, e2, e3, e4⟩ := pairs_rep hp rl
        obtain ⟨ws, g1, g2, g3⟩ := puts_rep (T := Z.T) (F := F1) (ks := []) (acc := []) (vs := []) e3 e4 rfl List.nodup_nil rfl
        refine ⟨b, as, kvs, rfl, SqL.of (q1.fh _ _ hF), Paired.imp (fun a kv hh => by rw [hK]; exact q1.fh.sqT hh) e2, fun n hn => ?_⟩
        have nF := q1.fh.none hn
        refine h1 _ _ _ (Sub.new nF) (q1.new hn) ⟨n, ws, rfl, ?_, g2, g3.mono (Sub.new nF)⟩
        rw [upd_same]
        exact congrArg (fun z => some (HO.dK z)) g1
    | _ => exact h1.elim
end
end Rz
end

section
set_option autoImplicit false
set_option Elab.async false
set_option linter.all false
set_option maxHeartbeats 1000000
set_option maxRecDepth 100000
namespace Rz
open PySem PySem.Spec PySem.W PyProof.Rows L2

/-- a key that is written in the program -/
def keyC : Const → D → Bool
  | .int i, .int j => i == j
  | .str a, .str b => decide (a = b)
  | _, _ => false

section
variable {S : Type} [Pen S]
/-- what is promised of the pen's two rules -/
structure PenOk (Z : Cz S) : Prop where
  ix : ∀ {X : Cx} {G : Fm} {W : WX} {e : Expr} {ce : CE} {c : Const} {k : D} {n : Nat} {p pos : Pos}, X.A.units + 2 < cLine → keyC c k = true → PE X e (tD Z G W ce) → PE X (.Subscript e (.Constant c n p) pos) (tD Z G W (.pix ce k))
  put : ∀ {X : Cx} {G : Fm} {W : WX} {x : Str} {i : Nat} {e : Expr} {ce : CE} {c : Const} {k : D} {n : Nat} {px p p2 pos : Pos}, X.A.units + 2 < cLine → keyC c k = true → PE X (.Name x px) (tVar i) → PE X e (tD Z G W ce) →
    swapsWithSole [.Subscript (.Name x px) (.Constant c n p) p2] e pos.line X.env = pure false → swappedStores [.Subscript (.Name x px) (.Constant c n p) p2] e X.env = pure none →
    PS X (.Assign [.Subscript (.Name x px) (.Constant c n p) p2] e pos) (tDS Z G W (.pset i k ce))

/-- the pen is written -/
theorem SR.penPut {T : Tb} {pn : Pn S} {G : Fm} {F H : Hp} {σ : L2.St} {τ : List Slot} {s s' : S} (h : SR T pn G F H σ τ s) (hi : pn.inv F s') : SR T pn G F (upd H T.pen (pn.obj s')) σ τ s' := by
  refine ⟨fun a o e => ?_, upd_same, h.penF, hi, fun a o e => ?_, h.len, fun i x e => ?_, h.ap, h.tb.ext (Sub.refl _) (fun t ht => h.tF ht) (fun t ht o e => by rw [upd_ne (h.tb t ht).1]; exact e), h.tg⟩
  · have n : a ≠ T.pen := fun z => by rw [z, h.penF] at e; cases e
    rw [upd_ne n]; exact h.fh a o e
  · obtain ⟨a1, a2, a3⟩ := h.gh a o e
    exact ⟨by rw [upd_ne a3]; exact a1, a2, a3⟩
  · have w := h.sl i x e
    cases x with
    | none => trivial
    | fz d => exact w
    | own ds =>
      obtain ⟨a, ob, e1, e2, e3, e4, e5, o⟩ := w
      exact ⟨a, ob, e1, by rw [upd_ne e5]; exact e2, e3, e4, e5, o⟩
    | ownI c ds =>
      obtain ⟨a, ob, e1, e2, e3, e4, e5, o⟩ := w
      exact ⟨a, ob, e1, by rw [upd_ne e5]; exact e2, e3, e4, e5, o⟩
end

/-! ### the pen that is a list of cells, place, great -/
structure LP where
  cells : List Int
  at_ : Int
  gr : Int
def LP.get (k : D) (s : LP) : Option D :=
  match k with
  | .int i => if i = 0 then some (.lst (s.cells.map .int)) else if i = 1 then some (.int s.at_) else if i = 2 then some (.int s.gr) else none
  | _ => none
def LP.put (k d : D) (s : LP) : Option LP :=
  match k with
  | .int i => match d with
    | .int v => if i = 1 then some { s with at_ := v } else if i = 2 then some { s with gr := v } else none
    | _ => none
  | _ => none
def LP.same (a b : LP) : Bool := decide (a.cells = b.cells) && decide (a.at_ = b.at_) && decide (a.gr = b.gr)
instance : Pen LP := ⟨LP.get, LP.put, LP.same, fun {a b} h => by
  simp only [LP.same, Bool.and_eq_true, decide_eq_true_eq] at h
  obtain ⟨⟨h1, h2⟩, h3⟩ := h
  cases a; cases b; simp_all⟩
theorem LP.same_self (a : LP) : Pen.same a a = true := by
  show LP.same a a = true
  simp [LP.same]
def lpn (a0 : Addr) (c0 : List Int) : Pn LP where
  obj s := .lst [.ref a0, .int s.at_, .int s.gr]
  inv F s := s.cells = c0 ∧ F a0 = some (.lst (c0.map V.int))
  mono F F' s e h := ⟨h.1, e _ _ h.2⟩
  mid F F' F'' s s' e h k := ⟨k.1, e _ _ h.2⟩
theorem repL_ints {T : Tb} {F : Hp} : ∀ (ns : List Int), RepL T F (ns.map D.int) (ns.map V.int)
  | [] => rfl
  | n :: ns => ⟨.int n, _, rfl, rfl, repL_ints ns⟩
theorem lp_ok {Z : Cz LP} {a0 : Addr} {c0 : List Int} (hp : Z.pn = lpn a0 c0) : PenOk Z where
  ix {X G W e ce c k n p pos} hu hk he := by
    cases c <;> cases k <;> simp only [keyC] at hk <;> first | (cases hk; done) | skip
    · rename_i i j
      have ei : i = j := eq_of_beq hk
      subst ei
      refine (pe_ix ix_list he pe_int (plainIx_of rfl)).imp fun σ H Q => ?_
      rintro ⟨F, τ, s, q, h⟩
      simp only [ev] at h
      refine ⟨F, τ, s, q, h.bind fun x v τ1 s1 F1 H1 e1 q1 r1 h1 => ?_⟩
      cases x with
      | pen =>
        cases r1
        simp only at h1
        obtain ⟨d, ed, h1⟩ := h1.of
        have hpen := q1.pen
        have hinv := q1.pinv
        rw [hp] at hpen hinv
        obtain ⟨hc, hF⟩ := hinv
        have ed' : LP.get (.int i) s1 = some d := ed
        simp only [LP.get] at ed'
        split at ed'
        · rename_i z; subst z; cases ed'
          exact ⟨_, _, 0, _, rfl, rfl, SqL.of hpen, rfl, h1.ok q1 ⟨a0, _, rfl, hF, by rw [hc]; exact repL_ints c0⟩⟩
        · split at ed'
          · rename_i z; subst z; cases ed'
            exact ⟨_, _, 1, _, rfl, rfl, SqL.of hpen, rfl, h1.ok q1 rfl⟩
          · split at ed'
            · rename_i z; subst z; cases ed'
              exact ⟨_, _, 2, _, rfl, rfl, SqL.of hpen, rfl, h1.ok q1 rfl⟩
            · cases ed'
      | _ => exact h1.elim
    · refine (pe_ix ix_list he pe_str (plainIx_of rfl)).imp fun σ H Q => ?_
      rintro ⟨F, τ, s, q, h⟩
      simp only [ev] at h
      refine ⟨F, τ, s, q, h.bind fun x v τ1 s1 F1 H1 e1 q1 r1 h1 => ?_⟩
      cases x <;> first | exact h1.elim | (obtain ⟨d, ed, _⟩ := h1.of; cases ed)
  put {X G W x i e ce c k n px p p2 pos} hu hk hv he hs hw := by
    cases c <;> cases k <;> simp only [keyC] at hk <;> first | (cases hk; done) | skip
    · rename_i a b
      have ei : a = b := eq_of_beq hk
      subst ei
      refine (ps_asg he (pg_sub hv pe_int set_list) hs hw rfl).imp fun E σ H => ?_
      rintro ⟨F, τ, s, q, h⟩
      simp only [ex] at h
      refine ⟨F, τ, s, q, h.bind fun d v τ1 s1 F1 H1 e1 q1 r1 h1 => ?_⟩
      cases hi : τ1[i]? with
      | none => rw [hi] at h1; exact h1.elim
      | some sl =>
        rw [hi] at h1
        cases sl with
        | fz x =>
          cases x with
          | pen =>
            simp only at h1
            obtain ⟨v', ev', rv⟩ := q1.sl i _ hi
            cases rv
            refine ⟨_, getD_of ev', ?_⟩
            have hpen := q1.pen
            have hinv := q1.pinv
            rw [hp] at hpen hinv
            cases eq : Pen.put (.int a) d s1 with
            | none => rw [eq] at h1; exact h1.elim
            | some s2 =>
              rw [eq] at h1
              have eq' : LP.put (.int a) d s1 = some s2 := eq
              cases d <;> simp only [LP.put] at eq' <;> first | (cases eq'; done) | skip
              cases r1
              have fin := fun (hh : Z.pn.inv F1 s2) => h1 σ _ F1 (Sub.refl _) (q1.penPut hh)
              rw [hp] at fin
              split at eq'
              · rename_i z; subst z; cases eq'
                exact ⟨_, _, 1, 1, rfl, rfl, hpen, rfl, fin hinv⟩
              · split at eq'
                · rename_i z; subst z; cases eq'
                  exact ⟨_, _, 2, 2, rfl, rfl, hpen, rfl, fin hinv⟩
                · cases eq'
          | _ => exact h1.elim
        | _ => exact h1.elim
    · refine (ps_asg he (pg_sub hv pe_str set_list) hs hw rfl).imp fun E σ H => ?_
      rintro ⟨F, τ, s, q, h⟩
      simp only [ex] at h
      refine ⟨F, τ, s, q, h.bind fun d v τ1 s1 F1 H1 e1 q1 r1 h1 => ?_⟩
      exfalso
      cases hi : τ1[i]? with
      | none => rw [hi] at h1; exact h1
      | some sl =>
        rw [hi] at h1
        cases sl with
        | fz x => cases x <;> exact h1
        | _ => exact h1
end Rz
end

section
set_option autoImplicit false
set_option Elab.async false
set_option linter.all false
set_option maxHeartbeats 1000000
set_option maxRecDepth 100000
namespace Rz
open PySem PySem.Spec PySem.W PyProof.Rows L2

section
variable {S : Type} [Pen S] {Z : Cz S} {G : Fm} {F H : Hp} {s : S}
open Classical in
/-- what stands outside of a call -/
noncomputable def outG (T : Tb) (F H : Hp) (x : Addr) : Fm := ⟨fun a => if F a = none ∧ a ≠ T.pen ∧ (∀ p ∈ T.tabs, a ≠ p.1) ∧ a ≠ x then H a else none, x⟩
theorem outG_of {T : Tb} {x a : Addr} {o : HO} (h : (outG T F H x) a = some o) : H a = some o ∧ F a = none ∧ a ≠ T.pen ∧ (∀ p ∈ T.tabs, a ≠ p.1) ∧ a ≠ x := by
  by_cases c : F a = none ∧ a ≠ T.pen ∧ (∀ p ∈ T.tabs, a ≠ p.1) ∧ a ≠ x
  · rw [show (outG T F H x) a = H a from if_pos c] at h
    exact ⟨h, c⟩
  · rw [show (outG T F H x) a = none from if_neg c] at h
    cases h
theorem outG_in {T : Tb} {x a : Addr} {o : HO} (h : H a = some o) (c : F a = none ∧ a ≠ T.pen ∧ (∀ p ∈ T.tabs, a ≠ p.1) ∧ a ≠ x) : (outG T F H x) a = some o := by
  rw [show (outG T F H x) a = H a from if_pos c]; exact h
theorem outG_self {T : Tb} {x : Addr} : (outG T F H x) x = none := if_neg (fun c => c.2.2.2 rfl)
theorem outG_tab {T : Tb} {x : Addr} : ∀ p ∈ T.tabs, (outG T F H x) p.1 = none := fun p hp => if_neg (fun c => c.2.2.1 p hp rfl)

theorem start_get {N : List Str} {vs : List V} {i : Nat} {v : V} (h : vs[i]? = some v) : (start N vs).getD i none = some v := by
  have hi : i < vs.length := (List.getElem?_eq_some_iff.mp h).1
  unfold L2.start
  rw [List.getD_eq_getElem?_getD, List.getElem?_append_left (by simpa using hi), List.getElem?_map, h]
  rfl
theorem start_len {N : List Str} {vs : List V} (h : vs.length ≤ N.length) : (start N vs).length = N.length := by
  unfold L2.start
  rw [List.length_append, List.length_map, List.length_replicate]
  omega
theorem start'_get {n : Nat} {xs : List D} {i : Nat} {x : Slot} (h : (start' n xs)[i]? = some x) : (∃ d, x = .fz d ∧ xs[i]? = some d) ∨ x = .none := by
  unfold start' at h
  by_cases hi : i < xs.length
  · rw [List.getElem?_append_left (by simpa using hi), List.getElem?_map, List.getElem?_eq_getElem hi] at h
    cases h
    exact .inl ⟨_, rfl, List.getElem?_eq_getElem hi⟩
  · rw [List.getElem?_append_right (by simpa using hi), List.getElem?_replicate] at h
    split at h <;> cases h
    exact .inr rfl
theorem start'_len {n : Nat} {xs : List D} (h : xs.length ≤ n) : (start' n xs).length = n := by
  unfold start'
  rw [List.length_append, List.length_map, List.length_replicate]
  omega
/-- the state at a def's entry -/
theorem SR.begin {T : Tb} {pn : Pn S} {G : Fm} {N : List Str} {xs : List D} {vs : List V} (fh : Sub F H) (pen : H T.pen = some (pn.obj s)) (penF : F T.pen = none) (pinv : pn.inv F s) (r : RepL T F xs vs) (gh : ∀ a o, G a = some o → H a = some o ∧ F a = none ∧ a ≠ T.pen) (hl : xs.length ≤ N.length) (tb : TabsH T F H) (tg : ∀ p ∈ T.tabs, G p.1 = none) :
    SR T pn G F H (start N vs) (start' N.length xs) s := by
  refine ⟨fh, pen, penF, pinv, gh, ?_, fun i x e => ?_, fun i j x y a _ e1 _ o1 _ _ _ => ?_, tb, tg⟩
  · rw [start_len (by rw [r.length]; exact hl), start'_len hl]
  · rcases start'_get e with ⟨d, rfl, hd⟩ | rfl
    · obtain ⟨v, hv, rv⟩ := r.get hd
      exact ⟨v, start_get hv, rv⟩
    · trivial
  · rcases start'_get e1 with ⟨d, rfl, _⟩ | rfl <;> cases o1

/-- a call's frame out of the body's -/
theorem fr_of {T : Tb} {pn : Pn S} {F0 H0 F' H' : Hp} {σ' : L2.St} {τ' : List Slot} {s' : S} {x : Addr} (q : SR T pn (outG T F0 H0 x) F' H' σ' τ' s') (ff : Sub F0 F') (hx : H0 x = none ∨ F0 x ≠ none ∨ x = T.pen) : Fr T pn F0 H0 F' H' s' :=
  ⟨ff, q.fh, q.pen, q.penF, q.pinv, fun a o e n hp ht => by
    have z := q.gh a o (outG_in e ⟨n, hp, ht, fun z => by
      subst z
      rcases hx with k | k | k
      · rw [e] at k; cases k
      · exact k n
      · exact hp k⟩)
    exact ⟨z.1, z.2.1⟩, q.tb⟩

theorem post_run {P : Pt} {call mk : Nat → List D → S → CRes S} {b : Fn} {xs : List D} {Q : VK} {E : XK} {F0 H0 F1 : Hp} {x : Addr} (Zc : Z.P = P ∧ Z.call = call ∧ Z.make = mk) (e01 : Sub F0 F1) (hx : H0 x = none ∨ F0 x ≠ none ∨ x = Z.T.pen) (h : PostC Z F0 H0 Q E (match exs P call mk b.body (start' b.ns xs) s with
    | .ok .next _ s => .ok .non s
    | .ok (.ret d) _ s => .ok d s
    | .ok _ _ _ => .no
    | .exc c fs _ s => .exc c fs s
    | .no => .no)) : PostS Z (outG Z.T F0 H0 x) F1 { nx := fun _ H' => Q .non H', rt := Q } (fun c d _ H' => E c d H') (exs Z.P Z.call Z.make b.body (start' b.ns xs) s) := by
  obtain ⟨rfl, rfl, rfl⟩ := Zc
  cases hb : exs Z.P Z.call Z.make b.body (start' b.ns xs) s with
  | no => rw [hb] at h; exact h
  | exc c fs τ' s' => rw [hb] at h; exact fun σ' H' F' od e q r => h H' F' od (fr_of q (e01.trans e) hx) r
  | ok fl τ' s' =>
    rw [hb] at h
    cases fl with
    | next => exact fun σ' H' F' e q => h _ H' F' (fr_of q (e01.trans e) hx) rfl
    | ret d => exact fun v σ' H' F' e q r => h v H' F' (fr_of q (e01.trans e) hx) r
    | brk => exact h.elim
    | cont => exact h.elim
end

/-! ### defs -/
section
variable {S : Type} [Pen S] {Z Z' : Cz S} {P : Program} {w : World} {K : PySem.W.Frag} {mg : Str → Option Value} {base : Heap} {k : Nat} {f : Addr} {name qual : Str} {params : Arguments} {body : List Stmt} {scope : Scope} {dV kV doc pm cdv ct oc : Value} {an od : Option Addr}
  {osl : Array (Option Value)} {N ps : List Str} {b : Fn} {fi : Nat}
/-- how a def binds what it is called with -/
def BindZ (K : PySem.W.Frag) (T : Tb) (fd : FuncData) (ps : List Str) (b : Fn) : Prop :=
  match b.star with
  | false => ps.length = b.np ∧ ∀ j, j ≤ b.dfl.length → ∃ dvs us, Vals dvs us ∧ (∀ F, RepL T F (b.dfl.drop j) dvs) ∧ Binds K fd ps us
  | true => ∃ ps' pv, ps = ps' ++ [pv] ∧ ps'.length = b.np ∧ ∀ us rest : List Value, us.length = ps'.length → bindArgs fd ⟨us ++ rest, []⟩ = (newTuple rest >>= fun t => pure (ps'.zip us ++ [(pv, t)]))
/-- the body's rule at every entry -/
def BodyZ (Z : Cz S) (P : Program) (w : World) (K : PySem.W.Frag) (mg : Str → Option Value) (base : Heap) (N : List Str) (qual : Str) (scope : Scope) (f : Addr) (cdv : Value) (k : Nat) (body : List Stmt) (cb : CSs) : Prop :=
  ∀ (A : Around) (outer : List Env) (s : Shared) (H : Hp) (E : XK) (G : Fm), Room k (A.deeper (envOfC qual scope s.heap.objs.size f cdv)) → A.guards = some [] → PSs (cxOf (CX P w) P w K mg base N qual scope f cdv A outer s H E) body (tDSs Z G (fun c d _ H' => E c d H') cb)

theorem bindF_star {ds xs : List D} (hs : b.star = true) (h : bindF b ds = some xs) : b.np ≤ ds.length ∧ ds.length ≤ 100000 ∧ xs = ds.take b.np ++ [.tup (ds.drop b.np)] := by
  unfold bindF at h
  rw [hs] at h
  obtain ⟨h1, h2⟩ := bif_some h
  rw [Bool.and_eq_true, decide_eq_true_eq] at h1
  exact ⟨h1.1, lim_of h1.2, h2.symm⟩
theorem bindF_plain {ds xs : List D} (hs : b.star = false) (h : bindF b ds = some xs) : ds.length ≤ b.np ∧ b.np ≤ ds.length + b.dfl.length ∧ xs = ds ++ b.dfl.drop (ds.length + b.dfl.length - b.np) := by
  unfold bindF at h
  rw [hs] at h
  obtain ⟨h1, h2⟩ := bif_some h
  rw [Bool.and_eq_true, decide_eq_true_eq, decide_eq_true_eq] at h1
  exact ⟨h1.1, h1.2, h2.symm⟩

theorem bindF_head {d d' x : D} {ds xs : List D} (hp : 0 < b.np) (h : bindF b (d :: ds) = some (x :: xs)) : bindF b (d' :: ds) = some (d' :: xs) := by
  unfold bindF at h ⊢
  cases hs : b.star with
  | false =>
    rw [hs] at h
    obtain ⟨h1, h2⟩ := bif_some h
    simp only [List.length_cons] at h1 h2 ⊢
    rw [h1]
    simp only [cond_true, List.cons_append] at h2 ⊢
    rw [List.cons.injEq] at h2
    rw [h2.2]
  | true =>
    rw [hs] at h
    obtain ⟨h1, h2⟩ := bif_some h
    simp only [List.length_cons] at h1 ⊢
    rw [h1]
    obtain ⟨n, hn⟩ : ∃ n, b.np = n + 1 := ⟨b.np - 1, by omega⟩
    rw [hn] at h2 ⊢
    simp only [List.take_succ_cons, List.drop_succ_cons, List.cons_append] at h2 ⊢
    rw [List.cons.injEq] at h2
    rw [cond_true, h2.2]
/-- the binding, then the body -/
theorem run_z0 {ar : Args} {A : Around} {outer : List Env} {sh : Shared} {H F : Hp} {us : List Value} {vs : List V} {ds xs : List D} {Q : VK} {E : XK} (lk : K.lookup f = some ⟨oc, od, .func (PySem.W.fnOf name qual params body scope dV kV doc pm an cdv ct), osl⟩) (hcd : PySem.W.codeIn K cdv qual = true) (Sc : FnScope N ps scope)
    (hb : BindZ K Z.T (PySem.W.fnOf name qual params body scope dV kV doc pm an cdv ct) ps b) (hr : Room (k + 1) A) (e0 : Env0 P w K mg base A outer sh H) (rv : Vals vs us) (har : ArgAs K f ar us) (rl : RepL Z.T F ds vs) (fh : Sub F H) (hx : bindF b ds = some xs)
    (hbody : ∀ (s2 : Shared) (H2 F2 : Hp) (ws : List V), Sub F F2 → Sub F2 H2 → Sub H H2 → (∀ a o, H a = some o → F a = none → F2 a = none) → ws.length = ps.length → RepL Z.T F2 xs ws → Room k (A.deeper (envOfC qual scope s2.heap.objs.size f cdv)) →
      ∃ t, PSs (cxOf (CX P w) P w K mg base N qual scope f cdv A outer s2 H2 E) body t ∧ t { nx := fun _ H' => Q .non H', rt := Q } (L2.start N ws) H2) :
    codeAny (model P w) A (.call (.ref f) ar) (CR (CX P w) outer P w H sh Q E) sh := by
  have hlen := rl.length
  unfold BindZ at hb
  cases hs : b.star with
  | false =>
    rw [hs] at hb
    obtain ⟨hps, hb⟩ := hb
    obtain ⟨b1, b2, rfl⟩ := bindF_plain hs hx
    obtain ⟨dvs, uds, rd, rr, bi⟩ := hb (ds.length + b.dfl.length - b.np) (by omega)
    have hdl : dvs.length = b.np - ds.length := by
      have := (rr F).length
      rw [this, List.length_drop]
      omega
    have r2 : Vals (vs ++ dvs) (us ++ uds) := rv.append rd
    have hl : (us ++ uds).length = ps.length := by
      rw [← r2.length, List.length_append, hlen, hdl, hps]
      omega
    have KX : K.In sh.heap := e0.mod.kin.keeps fun b o e => (e0.bs b o e).1
    refine StX.run_bnd lk hcd Sc hr e0 (G := fun ws H2 => H2 = H ∧ ws = vs ++ dvs) (fun A' Ex Q' h => ?_) fun s2 H2 ws ⟨e1, e2⟩ hr' => ?_
    · rw [har _ _ _ _ lk]
      exact bi sh us KX hl _ A' Ex Q' (h sh H (vs ++ dvs) (us ++ uds) e0 Un.refl rfl (fun _ _ z => z) r2 (by rw [r2.length]; exact hl) ⟨rfl, rfl⟩)
    · subst e1 e2
      exact hbody s2 _ F _ (Sub.refl F) fh (Sub.refl _) (fun a _ _ n => n) (by rw [r2.length]; exact hl) (rl.append (rr F)) hr'
  | true =>
    rw [hs] at hb
    obtain ⟨ps', pv, rfl, hps, hb⟩ := hb
    obtain ⟨b1, b2, rfl⟩ := bindF_star hs hx
    obtain ⟨u1, u2, eu, r1, r2⟩ := StX.vals_split (ws := vs.take b.np) (rest := vs.drop b.np) (us := us) (by rw [List.take_append_drop]; exact rv)
    subst eu
    have hn : H sh.heap.objs.size = none := e0.hok.fresh (Nat.le_refl _)
    have hvl : (vs.take b.np).length = ps'.length := by rw [List.length_take, hlen, hps]; omega
    have hl1 : u1.length = ps'.length := by rw [← r1.length]; exact hvl
    have hz : (vs.drop b.np).length ≤ sizeLine := by
      rw [List.length_drop, hlen, sizeLine_eq]; omega
    have hl2 : u2.length ≤ sizeLine := by rw [← r2.length]; exact hz
    refine StX.run_bnd lk hcd Sc hr e0 (G := fun xs H2 => ∃ p, H p = none ∧ xs = vs.take b.np ++ [V.ref p] ∧ H2 = upd H p (.tup (vs.drop b.np))) (fun A' Ex Q' h => ?_) fun s2 H2 ws ⟨p, hp, e1, e2⟩ hr' => ?_
    · rw [har _ _ _ _ lk, hb u1 u2 hl1]
      refine wpAny_bind (wpAny_newTuple (wpAny_pure ?_) hl2)
      have new : ObjOk P w (upd H sh.heap.objs.size (.tup (vs.drop b.np))) (sh.heap.push ({ cls := .type "tuple", data := .seq u2.toArray } : Obj)) sh.heap.objs.size (.tup (vs.drop b.np)) := ⟨hz, u2, r2, ⟨_, Heap.get?_push_size _ rfl, rfl, _, rfl⟩⟩
      have un := StX.un_laid (fs := frs outer) (s := sh) (o := ({ cls := .type "tuple", data := .seq u2.toArray } : Obj)) (u := .tup (vs.drop b.np)) hn
      have z := h _ _ (vs.take b.np ++ [V.ref sh.heap.objs.size]) (u1 ++ [Value.ref sh.heap.objs.size]) (StX.env0_laid e0 new) un rfl (fun e s' => StX.cxUp outer sh H _ _ E e s' un (fun b o q => Heap.get?_push_of_some _ q) rfl) (r1.append (.cons rfl .nil))
        (by rw [List.length_append, List.length_append, hvl] <;> rfl) ⟨_, hn, rfl, rfl⟩
      rw [List.zip_append hl1.symm] at z
      exact z
    · subst e1 e2
      have hF := fh.none hp
      refine hbody s2 _ (upd F p (.tup (vs.drop b.np))) _ (Sub.new hF) (fun a o e => ?_) (Sub.new hp) (fun a o e n => ?_) (by rw [List.length_append, List.length_append, hvl] <;> rfl) ?_ hr'
      · by_cases z : a = p
        · subst z; rw [upd_same] at e ⊢; exact e
        · rw [upd_ne z] at e ⊢; exact fh a o e
      · rw [upd_ne (ne_of_none e hp)]; exact n
      · exact ((rl.take _).mono (Sub.new hF)).append (RepL.one ⟨p, _, rfl, SqT.of upd_same, (rl.drop _).mono (Sub.new hF)⟩)

/-- a def of the table by its code -/
theorem fn_code (lk : K.lookup f = some ⟨oc, od, .func (PySem.W.fnOf name qual params body scope dV kV doc pm an cdv ct), osl⟩) (hcd : PySem.W.codeIn K cdv qual = true) (Sc : FnScope N ps scope)
    (hb : BindZ K Z.T (PySem.W.fnOf name qual params body scope dV kV doc pm an cdv ct) ps b) (hns : N.length = b.ns) (hpn : ps.length ≤ N.length) (hX : BodyZ Z P w K mg base N qual scope f cdv k body b.body)
    (hT : Z'.T = Z.T ∧ Z'.pn = Z.pn) (hc : ∀ ds s, Z'.call fi ds s = runF Z.P Z.call Z.make b ds s) : FnRg P w K mg base (CX P w) (k + 1) f (spF Z' fi) := by
  intro A outer sh H us vs Q E hr hg e0 rv hsp ar har
  obtain ⟨F, ds, s, fh, pen, penF, pinv, rl, htb, hp⟩ := hsp
  obtain ⟨T', pn', P', call'', make'⟩ := Z'
  obtain ⟨rfl, rfl⟩ := hT
  simp only at hc pen penF pinv rl htb hp
  rw [hc] at hp
  unfold runF at hp
  cases hx : bindF b ds with
  | none => rw [hx] at hp; exact hp.elim
  | some xs =>
    rw [hx] at hp
    simp only at hp
    refine run_z0 lk hcd Sc hb hr e0 rv har rl fh hx fun s2 H2 F2 ws e1 e2 e3 e4 hwl rx hr' => ?_
    refine ⟨_, hX A outer s2 H2 E (outG Z.T F H Z.T.pen) hr' hg, F2, start' b.ns xs, s, ?_, post_run ⟨rfl, rfl, rfl⟩ e1 (.inr (.inr rfl)) hp⟩
    have pF : F2 Z.T.pen = none := e4 _ _ pen penF
    rw [← hns]
    refine SR.begin e2 (e3 _ _ pen) pF (Z.pn.mono _ _ _ e1 pinv) rx (fun a o e => ?_) (by rw [← rx.length, hwl]; exact hpn) (htb.ext e1 (fun p hp => let ⟨_, t2, ps, t3, _⟩ := htb p hp; e4 _ _ t3 t2) (fun p hp o e => e3 _ _ e)) outG_tab
    obtain ⟨g1, g2, g3, _⟩ := outG_of e
    exact ⟨e3 _ _ g1, e4 _ _ g1 g2, g3⟩

/-- the state at the entry of an __init__ -/
theorem SR.beginI {T : Tb} {pn : Pn S} {G : Fm} {F H : Hp} {s : S} {N : List Str} {xs : List D} {ws : List V} {x dx : Addr} {c : Nat} (fh : Sub F H) (pen : H T.pen = some (pn.obj s)) (penF : F T.pen = none) (pinv : pn.inv F s) (r : RepL T F xs ws) (gh : ∀ a o, G a = some o → H a = some o ∧ F a = none ∧ a ≠ T.pen) (hl : xs.length + 1 ≤ N.length)
    (hx : H x = some (.ins (T.cA c) dx [])) (hF : F x = none) (hxp : x ≠ T.pen) (hG : G x = none) (hs : G.slf = x) (tb : TabsH T F H) (tg : ∀ p ∈ T.tabs, G p.1 = none) : SR T pn G F H (L2.start N (.ref x :: ws)) (.ownI c [] :: start' (N.length - 1) xs) s := by
  have h0 : (L2.start N (.ref x :: ws)).getD 0 none = some (.ref x) := start_get (by rfl)
  refine ⟨fh, pen, penF, pinv, gh, ?_, fun i y e => ?_, fun i j y z a hij e1 e2 o1 o2 _ _ => ?_, tb, tg⟩
  · rw [start_len (by simp [r.length]; omega)]
    simp [start'_len (n := N.length - 1) (xs := xs) (by omega)]
    omega
  · cases i with
    | zero =>
      cases e
      exact ⟨x, _, h0, hx, hF, ⟨hG, hs.symm⟩, hxp, dx, [], by simp, by simp, rfl⟩
    | succ i =>
      rw [List.getElem?_cons_succ] at e
      rcases start'_get e with ⟨d, rfl, hd⟩ | rfl
      · obtain ⟨v, hv, rv⟩ := r.get hd
        exact ⟨v, start_get (by simpa using hv), rv⟩
      · trivial
  · have go : ∀ {i : Nat} {y : Slot}, (Slot.ownI c [] :: start' (N.length - 1) xs)[i]? = some y → y.isOwn = true → i = 0 := by
      intro i y e o
      cases i with
      | zero => rfl
      | succ i =>
        rw [List.getElem?_cons_succ] at e
        rcases start'_get e with ⟨d, rfl, _⟩ | rfl <;> cases o
    exact hij ((go e1 o1).trans (go e2 o2).symm)
/-- the __init__ of a class of the table by its code -/
theorem fn_init {c : Nat} (lk : K.lookup f = some ⟨oc, od, .func (PySem.W.fnOf name qual params body scope dV kV doc pm an cdv ct), osl⟩) (hcd : PySem.W.codeIn K cdv qual = true) (Sc : FnScope N ps scope)
    (hb : BindZ K Z.T (PySem.W.fnOf name qual params body scope dV kV doc pm an cdv ct) ps b) (hns : N.length = b.ns) (hpn : ps.length ≤ N.length) (hnp : 0 < b.np) (hX : BodyZ Z P w K mg base N qual scope f cdv k body b.body)
    (hT : Z'.T = Z.T ∧ Z'.pn = Z.pn) (hc : ∀ ds s, Z'.make c ds s = runI Z.P Z.call Z.make b c ds s) : FnRg P w K mg base (CX P w) (k + 1) f (spI Z' c) := by
  intro A outer sh H us vs Q E hr hg e0 rv hsp ar har
  obtain ⟨F, ds, s, x, dx, ws, rfl, hHx, hFx, hxp, fh, pen, penF, pinv, rl, htb, hp⟩ := hsp
  obtain ⟨T', pn', P', call'', make'⟩ := Z'
  obtain ⟨rfl, rfl⟩ := hT
  simp only at hc pen penF pinv rl htb hp hHx hxp
  rw [hc] at hp
  unfold runI at hp
  cases hx : bindF b (.non :: ds) with
  | none => rw [hx] at hp; exact hp.elim
  | some ys =>
    rw [hx] at hp
    cases ys with
    | nil => exact hp.elim
    | cons y xs =>
      simp only at hp
      have rl' : RepL Z.T F (.opq (.ref x) :: ds) (.ref x :: ws) := ⟨.ref x, ws, rfl, rfl, rl⟩
      refine run_z0 lk hcd Sc hb hr e0 rv har rl' fh (bindF_head hnp hx) fun s2 H2 F2 ws2 e1 e2 e3 e4 hwl rx hr' => ?_
      obtain ⟨v0, ws', rfl, r0, rx⟩ := rx
      cases r0
      have pF : F2 Z.T.pen = none := e4 _ _ pen penF
      have hlen : xs.length + 1 ≤ N.length := by
        have h1 := rx.length
        have h2 : (V.ref x :: ws').length = ps.length := hwl
        rw [List.length_cons] at h2
        omega
      have frI : ∀ {F' H' : Hp} {σ' : L2.St} {τ' : List Slot} {s' : S}, Sub F2 F' → SR Z.T Z.pn (outG Z.T F H x) F' H' σ' τ' s' → FrI Z.T Z.pn F H F' H' s' x := fun {F' H' σ' τ' s'} e q =>
        ⟨e1.trans e, q.fh, q.pen, q.penF, q.pinv, fun a o ha n hp' ht hne => by
          have z := q.gh a o (outG_in ha ⟨n, hp', ht, hne⟩)
          exact ⟨z.1, z.2.1⟩, q.tb⟩
      have made : ∀ {F' H' : Hp} {σ' : L2.St} {τ' : List Slot} {s' : S}, Sub F2 F' → SR Z.T Z.pn (outG Z.T F H x) F' H' σ' τ' s' → PostI Z F H Q E x (madeI τ' s') → Q .non H' := by
        intro F' H' σ' τ' s' e q h
        unfold madeI at h
        cases h0 : (τ'[0]? : Option Slot) with
        | none => rw [h0] at h; exact h.elim
        | some sl =>
          rw [h0] at h
          cases sl with
          | ownI c' fs =>
            obtain ⟨a, ob, f1, f2, f3, ⟨f4, f6⟩, f5, dx', vs', rfl, hl, r⟩ := q.sl 0 _ h0
            have ea : a = x := f6
            subst ea
            have k := frI e q
            refine h H' (upd F' a _) ⟨k.ff.trans (Sub.new f3), fun b o eb => ?_, k.pen, by rw [upd_ne (Ne.symm hxp)]; exact k.penF, Z.pn.mono _ _ _ (Sub.new f3) k.pinv, fun b o hb' n hp' ht hne => ?_, k.tb.ext (Sub.new f3) (fun p hp => by rw [upd_ne (k.tb.ne hp f2 (by intro ps z; cases z))]; exact (k.tb p hp).2.1) (fun _ _ _ e => e)⟩ ⟨a, dx', vs', rfl, upd_same, hl, r.mono (Sub.new f3)⟩
            · by_cases z : b = a
              · subst z; rw [upd_same] at eb; cases eb; exact f2
              · rw [upd_ne z] at eb; exact k.fh b o eb
            · obtain ⟨k1, k2⟩ := k.out b o hb' n hp' ht hne
              exact ⟨k1, by rw [upd_ne hne]; exact k2⟩
          | _ => exact h.elim
      refine ⟨_, hX A outer s2 H2 E (outG Z.T F H x) hr' hg, F2, .ownI c [] :: start' (b.ns - 1) xs, s, ?_, ?_⟩
      · rw [← hns]
        refine SR.beginI e2 (e3 _ _ pen) pF (Z.pn.mono _ _ _ e1 pinv) rx (fun a o e => ?_) hlen (e3 _ _ hHx) (e4 _ _ hHx hFx) hxp outG_self rfl (htb.ext e1 (fun p hp => let ⟨_, t2, ps, t3, _⟩ := htb p hp; e4 _ _ t3 t2) (fun p hp o e => e3 _ _ e)) outG_tab
        obtain ⟨g1, g2, g3, _⟩ := outG_of e
        exact ⟨e3 _ _ g1, e4 _ _ g1 g2, g3⟩
      · revert hp
        cases exs Z.P Z.call Z.make b.body (.ownI c [] :: start' (b.ns - 1) xs) s with
        | no => exact fun hp => hp
        | exc c fs τ' s' => exact fun hp σ' H' F' od e q r => hp H' F' od (frI e q) r
        | ok fl τ' s' =>
          intro hp
          cases fl with
          | next => exact fun σ' H' F' e q => made e q hp
          | ret d =>
            cases d with
            | non => exact fun v σ' H' F' e q r => by cases r; exact made e q hp
            | _ => exact hp.elim
          | brk => exact hp.elim
          | cont => exact hp.elim
end
end Rz
end

section
set_option autoImplicit false
set_option Elab.async false
set_option linter.all false
set_option maxHeartbeats 2000000
set_option maxRecDepth 100000
/-! A lambda without parameters, handed to a def of the module that calls it. -/
namespace Rz
open PySem PySem.Spec PySem.W PyProof.Rows L2

theorem upd_comm {H : Hp} {a b : Addr} {x y : HO} (h : a ≠ b) : upd (upd H a x) b y = upd (upd H b y) a x := by
  funext c
  by_cases h1 : c = b
  · subst h1; rw [upd_same, upd_ne (Ne.symm h), upd_same]
  · rw [upd_ne h1]
    by_cases h2 : c = a
    · subst h2; rw [upd_same, upd_same]
    · rw [upd_ne h2, upd_ne h2, upd_ne h1]

section
variable {S : Type} [Pen S] {T : Tb} {pn : Pn S} {G : Fm} {F H : Hp} {σ : L2.St} {τ : List Slot} {s : S}
/-- a table of code objects grows -/
theorem SR.table (h : SR T pn G F H σ τ s) {P : Addr} {q : Str} (hm : (P, q) ∈ T.tabs) (hu : ∀ p ∈ T.tabs, p.1 = P → p.2 = q) {ps : Array Value} (hps : TabF F ps q) : SR T pn G F (upd H P (.tbl ps)) σ τ s := by
  obtain ⟨np, nF, _⟩ := h.tb _ hm
  have nP : ∀ {a : Addr} {o : HO}, F a = some o → a ≠ P := fun e z => by rw [z] at e; rw [show F P = none from nF] at e; cases e
  have gP : G P = none := h.tg _ hm
  have np' : T.pen ≠ P := Ne.symm np
  refine ⟨fun a o e => by rw [upd_ne (nP e)]; exact h.fh a o e, by rw [upd_ne np']; exact h.pen, h.penF, h.pinv, fun a o e => ?_, h.len, fun i x e => ?_, h.ap, fun p hp => ?_, h.tg⟩
  · obtain ⟨a1, a2, a3⟩ := h.gh a o e
    exact ⟨by rw [upd_ne (fun z => by rw [z, gP] at e; cases e)]; exact a1, a2, a3⟩
  · have w := h.sl i x e
    cases x with
    | none => trivial
    | fz d => exact w
    | own ds =>
      obtain ⟨a, ob, e1, e2, e3, e4, e5, o⟩ := w
      exact ⟨a, ob, e1, by rw [upd_ne (Ne.symm (h.ownT e rfl e1 _ hm))]; exact e2, e3, e4, e5, o⟩
    | ownI c ds =>
      obtain ⟨a, ob, e1, e2, e3, e4, e5, o⟩ := w
      exact ⟨a, ob, e1, by rw [upd_ne (Ne.symm (h.ownT e rfl e1 _ hm))]; exact e2, e3, e4, e5, o⟩
  · by_cases z : p.1 = P
    · obtain ⟨k1, k2, _⟩ := h.tb p hp
      exact ⟨k1, k2, ps, by rw [z, upd_same], by rw [hu p hp z]; exact hps⟩
    · obtain ⟨k1, k2, ps1, k3, k4⟩ := h.tb p hp
      exact ⟨k1, k2, ps1, by rw [upd_ne z]; exact k3, k4⟩
/-- the maker's names, seen by the lambda's body at a later heap -/
theorem SR.seen (q : SR T pn G F H σ τ s) {pn2 : Pn S} {G2 : Fm} {F2 HZ : Hp} {σ2 : L2.St} {τ2 : List Slot} (q2 : SR T pn2 G2 F2 HZ σ2 τ2 s) (e : Sub F F2) (ho : pn2.obj s = pn.obj s) (hi : pn.inv F2 s) : SR T pn (outG T F2 HZ T.pen) F2 HZ σ (τ.map Slot.hide) s := by
  have hid : ∀ {i : Nat} {x : Slot}, (τ.map Slot.hide)[i]? = some x → ∃ y, τ[i]? = some y ∧ y.hide = x := fun {i x} ex => by
    rw [List.getElem?_map] at ex
    cases hy : τ[i]? with
    | none => rw [hy] at ex; cases ex
    | some y => rw [hy] at ex; exact ⟨y, rfl, Option.some.inj ex⟩
  refine ⟨q2.fh, by rw [q2.pen, ho], q2.penF, hi, fun a o ea => ?_, by simpa using q.len, fun i x ex => ?_, fun i j x y a _ e1 _ o1 _ _ _ => ?_, q2.tb, outG_tab⟩
  · obtain ⟨g1, g2, g3, _⟩ := outG_of ea
    exact ⟨g1, g2, g3⟩
  · obtain ⟨y, hy, rfl⟩ := hid ex
    cases y with
    | fz d =>
      obtain ⟨v, e1, r⟩ := q.sl i _ hy
      exact ⟨v, e1, r.mono e⟩
    | none => trivial
    | own ds => trivial
    | ownI c ds => trivial
  · obtain ⟨y, hy, rfl⟩ := hid e1
    cases y <;> cases o1

variable {X : Cx} {pins : List (Addr × Obj)} {sh : Shared}
/-- a lambda is made: its code object is new, or the table has it -/
theorem lam_make3 {c P : Addr} {params : Arguments} {body : Expr} {scope : Scope} {pos : Pos} {E : Value → Shared → Prop} {Q : Value → Shared → Prop} (I : Inv X pins σ H sh) (q : SR T pn G F H σ τ s) (TB : LamX.TabB X.base X.mg c P) (hcode : X.env.code = .ref c)
    (hm : (P, X.env.qual ++ "<lambda>") ∈ T.tabs) (hu : ∀ p ∈ T.tabs, p.1 = P → p.2 = X.env.qual ++ "<lambda>") (hdef : defaultsOf params X.env = ([], [])) (hfree : ∀ y ∈ scope.names, y.2 = .free → ∃ c, X.env.cells.lookup y.1 = some c)
    (h : ∀ (f c' : Addr) (pm ctv : Value) (F1 H1 : Hp) (s' : Shared), Inv X pins σ H1 s' → Sub F F1 → SR T pn G F1 H1 σ τ s →
      s'.heap.get? f = some (PySem.W.kla_obj "<lambda>" (X.env.qual ++ "<lambda>") params body scope (cloFrom X.env.cells scope.names []) pm c' ctv) → H1 f = none → f ∉ frs X.stack → F1 c' = some (LamX.CodeO c' (X.env.qual ++ "<lambda>")) → Q (.ref f) s') :
    wpAny (model X.prog X.w) X.A (eval (.Lambda params body scope pos) X.env) Q E sh := by
  obtain ⟨np, nF, ps, hP, ht, ha⟩ := q.tb _ hm
  refine PySem.W.kla_eval hdef ?_
  have bP : sh.heap.BuiltinsAt X.mg P := TB.bm.keeps I.bk
  have hP' : sh.heap.get? P = some { cls := .none, data := .fields ps } := I.hok P _ hP
  have nofr : ∀ f, sh.heap.objs.size ≤ f → f ∉ frs X.stack := fun f hf z => by
    rcases List.mem_cons.mp (I.stkSub _ z) with e | e
    · have h1 := I.lt
      rw [← e] at h1
      exact Nat.lt_irrefl _ (Nat.lt_of_lt_of_le h1 hf)
    · exact I.nofs hf e
  cases hc : codeAmong pos ps.toList with
  | none =>
    refine PySem.W.kla_makeFunction (mg := X.mg) (c := c) (P := P) (ps := ps) (closure_ok hfree) I.ok.glob (I.mod.glob.keeps I.bk) hcode (TB.code.keeps I.bk) hP' ht hc TB.gP bP fun c' ctv h' tk hx hge hlt hrec htb => ?_
    obtain ⟨c2, oc, vs, t, e2, hoc, hd, hv⟩ := hrec
    cases e2
    have hsz : sh.heap.objs.size ≤ h'.objs.size := Nat.le_trans hge (Nat.le_of_lt hlt)
    have nC : H c' = none := I.hok.fresh hge
    have nPc : P ≠ c' := ne_of_none hP nC
    have I1 := LamX.inv_table (t' := tk) (more := #[rawInt pos.line, rawInt pos.col, .ref c']) (h' := h'.push (PySem.W.kla_obj "<lambda>" (X.env.qual ++ "<lambda>") params body scope (cloFrom X.env.cells scope.names []) ((X.mg "__name__").getD .none) c' ctv)) I hP
      (fun b o hb e => Heap.get?_push_of_some _ (hx b o hb e)) (Heap.get?_push_of_some _ htb) hge ⟨oc, vs, t, Heap.get?_push_of_some _ hoc, hd, hv⟩
    rw [upd_comm nPc] at I1
    have q1 : SR T pn G (upd F c' (LamX.CodeO c' (X.env.qual ++ "<lambda>"))) (upd H c' (LamX.CodeO c' (X.env.qual ++ "<lambda>"))) σ τ s := q.new nC
    have sF : Sub F (upd F c' (LamX.CodeO c' (X.env.qual ++ "<lambda>"))) := Sub.new (q.fh.none nC)
    have eL : (ps ++ #[rawInt pos.line, rawInt pos.col, .ref c']).toList = ps.toList ++ [rawInt pos.line, rawInt pos.col, .ref c'] := by simp
    have tf : TabF (upd F c' (LamX.CodeO c' (X.env.qual ++ "<lambda>"))) (ps ++ #[rawInt pos.line, rawInt pos.col, .ref c']) (X.env.qual ++ "<lambda>") := by
      refine ⟨by rw [eL]; exact PySem.TriplesOk_snoc _ _ _ _ ht, fun p' cv hcv => ?_⟩
      rw [eL] at hcv
      rcases LamX.among_app _ ht hcv with z | z
      · obtain ⟨c0, e1, e2⟩ := ha p' cv z
        exact ⟨c0, e1, sF _ _ e2⟩
      · exact ⟨c', z, upd_same⟩
    refine h h'.objs.size c' ((X.mg "__name__").getD .none) ctv _ _ _ I1 sF (q1.table hm hu tf) (Heap.get?_push_size _ rfl) ?_ (nofr _ hsz) upd_same
    have n1 : h'.objs.size ≠ c' := Nat.ne_of_gt hlt
    have n2 : h'.objs.size ≠ P := Nat.ne_of_gt (Nat.lt_of_lt_of_le (Heap.lt_size hP') hsz)
    rw [upd_ne n2, upd_ne n1]
    exact I.hok.fresh hsz
  | some cv =>
    obtain ⟨c', e, hco⟩ := ha pos cv hc
    subst e
    refine PySem.W.kla_makeFunctionHit (mg := X.mg) (c := c) (P := P) (ps := ps) (closure_ok hfree) I.ok.glob (I.mod.glob.keeps I.bk) hcode (TB.code.keeps I.bk) hP' ht hc bP fun ctv h' tk hx hsz => ?_
    have I1 : Inv X pins σ H { sh with heap := h'.push (PySem.W.kla_obj "<lambda>" (X.env.qual ++ "<lambda>") params body scope (cloFrom X.env.cells scope.names []) ((X.mg "__name__").getD .none) c' ctv), toks := tk } := I.kept fun b o e => Heap.get?_push_of_some _ (hx b o e)
    exact h h'.objs.size c' ((X.mg "__name__").getD .none) ctv F H _ I1 (Sub.refl F) q (Heap.get?_push_size _ rfl) (I.hok.fresh hsz) (nofr _ hsz) hco

/-- a() in the def that got the lambda; the callers' guards are told -/
theorem pe_actG {CXg : CXT} {Eg : XK} {Ng : List Str} {qg : Str} {sg : Scope} {g f c' : Addr} {cdg pm ctv : Value} {params : Arguments} {body : Expr} {scope : Scope} {k i : Nat} {a : Str} {pn : List (Addr × Obj)} {xe : Value → Shared → Prop} {W : WX} {tb : XK → TE} {p1 p2 : Pos}
    (I : Inv X pins σ H sh) (L : LamX.LamS X.env.scope scope) (hf : sh.heap.get? f = some (PySem.W.kla_obj "<lambda>" (X.env.qual ++ "<lambda>") params body scope (cloFrom X.env.cells scope.names []) pm c' ctv)) (hfn : H f = none) (hfr : f ∉ frs X.stack)
    (hbind : bindArgs (PySem.W.kla_fn "<lambda>" (X.env.qual ++ "<lambda>") params body scope (cloFrom X.env.cells scope.names []) pm (.ref c') ctv) ⟨[], []⟩ = pure [])
    (tk : Takes ((cxOf CXg X.prog X.w X.K X.mg X.base Ng qg sg g cdg X.A X.stack sh H Eg).tr pn xe) W) (hr : Room (k + 1) (X.A.deeper (envOfC qg sg sh.heap.objs.size g cdg)))
    (hbody : ∀ (A : Around) (outer : List Env) (s : Shared) (H : Hp) (E : XK), A.guards = X.A.guards → Room k (A.deeper (LamX.lamEnv X scope s.heap.objs.size f c')) → PE (LamX.lamCx X A outer s H E scope f c') body (tb E))
    (hN : Ng[i]? = some a) (hv : Vis sg a) (hd : (a == ("__debug__" : Str)) = false) (hcd : (a == ("__classdict__" : Str)) = false) :
    PE ((cxOf CXg X.prog X.w X.K X.mg X.base Ng qg sg g cdg X.A X.stack sh H Eg).tr pn xe) (.Call (.Name a p1) [] [] p2)
      (fun σZ HZ Q => σZ[i]? = some (some (.ref f)) ∧ HZ c' = some (LamX.CodeO c' (X.env.qual ++ "<lambda>")) ∧ tb (fun c d H' => W c d σZ H') σ HZ Q) := by
  refine ⟨fun pinsZ sZ σZ HZ Q IZ h => ?_⟩
  obtain ⟨hs, hc, ht⟩ := h
  refine wpAny_Call_Name_kw (thn ((pe_var (pos := p1) (i := i) hN hv hd hcd).run pinsZ sZ σZ HZ (fun v H1 => v = .ref f ∧ H1 = HZ) IZ ⟨.ref f, hs, rfl, rfl⟩) fun u s1 ⟨v, H1, I1, r1, q1⟩ => ?_)
  obtain ⟨ev, eH⟩ := q1
  subst ev
  rw [eH] at I1
  obtain rfl : u = Value.ref f := r1
  have of1 : s1.heap.get? f = some (PySem.W.kla_obj "<lambda>" (X.env.qual ++ "<lambda>") params body scope (cloFrom X.env.cells scope.names []) pm c' ctv) := I1.base.keep f _ hf hfn hfr (fun z => nomatch (show f ∈ ([] : List Addr) from z))
  refine PySem.W.callWith_F0 ⟨_, _, _, _, of1⟩ ?_
  have un : Un (frs X.stack) [] H HZ sh.heap s1.heap := I1.base
  obtain ⟨⟨oc, vs, t, hoc, hdc, hvc⟩, _, _⟩ := I1.hok c' _ hc
  have rc : codeAny (model X.prog X.w) (X.A.deeper (envOfC qg sg sh.heap.objs.size g cdg)) (.call (.ref f) ⟨[], []⟩) (CR (L2.CX X.prog X.w) (envOfC qg sg sh.heap.objs.size g cdg :: X.stack) X.prog X.w HZ s1 Q (fun c d H' => W c d σZ H')) s1 := by
    refine PySem.W.kla_callFunE hr.depth of1 rfl L.co L.gen rfl ⟨c', oc, vs, t, rfl, hoc, hdc, hvc⟩ ?_
    rw [hbind]
    refine wpAny_pure (wpAny_newFunctionEnv (fun y hy => (L.own y hy).2) (fun y hy => absurd hy (by simp)) (fun h₁ hns hsb => ⟨I1.nolimit.fresh _ hsb, ?_⟩) L.kind)
    show codeAny _ _ (.expr body (LamX.lamEnv X scope s1.heap.objs.size f c')) _ _
    have kp : ∀ b o, s1.heap.get? b = some o → h₁.get? b = some o := fun b o e => hsb.extBut b o (Nat.ne_of_lt (Heap.lt_size e)) (Heap.get?_push_of_some _ e)
    have J : Inv (LamX.lamCx X (X.A.deeper (envOfC qg sg sh.heap.objs.size g cdg)) (envOfC qg sg sh.heap.objs.size g cdg :: X.stack) s1 HZ (fun c d H' => W c d σZ H') scope f c') [] σ HZ { s1 with heap := h₁, toks := s1.toks + ([] : List (Str × Value)).length } :=
      LamX.lam_start2 I L I1.env0 hr.hd un hns kp
    refine PySem.W.kla_codeExpr (wpAny_mono ((hbody (X.A.deeper (envOfC qg sg sh.heap.objs.size g cdg)) _ s1 HZ _ rfl (hr.deeper _)).run [] _ _ HZ Q J ht) (fun v s' hq => ?_) fun e s' hq => hq)
    obtain ⟨w', H', J', rv, q⟩ := hq
    exact ⟨w', H', J'.os, J'.bare, J'.base, J'.hok, rv, q⟩
  refine wpAny_call (codeAny_mono rc fun r s' hq => ?_)
  cases r with
  | error e => exact tk e s' (XE.of_call I1 (fun cls d H' z => z) hq)
  | ok fl =>
    cases fl with
    | ret u => exact I1.after hq
    | next => exact False.elim hq
    | brk => exact False.elim hq
    | cont => exact False.elim hq
end

section
variable {S : Type} [Pen S] {Z : Cz S} {G : Fm} {F H : Hp} {σ : L2.St} {τ : List Slot} {s : S} {W : WX} {X : Cx} {pos : Pos}
/-- in the def that got the lambda at a, entered at F -/
def Zl (Z : Cz S) (F1 : Hp) (o : CRes S) (s0 : S) (a : Addr) : Cz S := ⟨Z.T, ⟨Z.pn.obj, fun F s => Z.pn.inv F s ∧ Sub F1 F, fun F F' s e h => ⟨Z.pn.mono F F' s e h.1, h.2.trans e⟩, fun F F' F'' s s' e h k => ⟨Z.pn.mid F F' F'' s s' e h.1 k.1, h.2.trans e⟩⟩, Z.P, callA o s0 a, makeA⟩
theorem Zl.frame {F0 : Hp} {o : CRes S} {s0 : S} {a : Addr} {F' H' : Hp} {s' : S} (k : Fr (Zl Z F0 o s0 a).T (Zl Z F0 o s0 a).pn F H F' H' s') : Fr Z.T Z.pn F H F' H' s' := ⟨k.ff, k.fh, k.pen, k.penF, k.pinv.1, k.out, k.tb⟩
theorem Zl.post {F0 : Hp} {o : CRes S} {s0 : S} {a : Addr} {Q : VK} {E : XK} {x : CRes S} (h : PostC Z F H Q E x) : PostC (Zl Z F0 o s0 a) F H Q E x := by
  cases x with
  | ok d s' => exact fun v H' F' k r => h v H' F' (Zl.frame k) r
  | exc c fs s' => exact fun H' F' od k r => h H' F' od (Zl.frame k) r
  | no => exact h
/-- what is promised of a def that calls what it got -/
def LamG (Z : Cz S) (P : Program) (w : World) (K : PySem.W.Frag) (mg : Str → Option Value) (base : Heap) (g : Nat) (b : Fn) : Prop :=
  ∃ (a : Str) (Ng : List Str) (qg : Str) (sg : Scope) (cdg : Value), Ng[0]? = some a ∧ Vis sg a ∧ (a == ("__debug__" : Str)) = false ∧ (a == ("__classdict__" : Str)) = false ∧
    ∀ (A : Around) (outer : List Env) (sh : Shared) (H : Hp) (Q : VK) (E : XK) (fa : Addr) (ds : List D) (s0 : S) (F : Hp), Room 5 A → A.guards = some [] → Env0 P w K mg base A outer sh H → Sub F H → H Z.T.pen = some (Z.pn.obj s0) → F Z.T.pen = none → Z.pn.inv F s0 → TabsH Z.T F H →
      (∀ (W : WX) (pn : List (Addr × Obj)) (xe : Value → Shared → Prop) (p1 p2 : Pos) (G : Fm), Takes ((cxOf (CX P w) P w K mg base Ng qg sg (Z.T.fA g) cdg A outer sh H E).tr pn xe) W → PE ((cxOf (CX P w) P w K mg base Ng qg sg (Z.T.fA g) cdg A outer sh H E).tr pn xe) (.Call (.Name a p1) [] [] p2) (tD (Zl Z F (decO s0 ds) s0 fa) G W .ask)) →
      PostC Z F H Q E (runL Z.P b ds s0) → codeAny (model P w) A (.call (.ref (Z.T.fA g)) ⟨[.ref fa], []⟩) (CR (CX P w) outer P w H sh Q E) sh
/-- what is asked where lambdas are made -/
structure LamT (Z : Cz S) (X : Cx) : Prop where
  ex : ∃ k c P, Room (k + 8) X.A ∧ X.A.guards = some [] ∧ (∀ f, FnRg X.prog X.w X.K X.mg X.base (CX X.prog X.w) k (Z.T.fA f) (spF Z f)) ∧ (∀ c, ∃ f, FnRg X.prog X.w X.K X.mg X.base (CX X.prog X.w) k f (spI Z c) ∧ ((∃ ds s, Z.make c ds s ≠ .no) → Mk X.K (Z.T.cA c) f)) ∧
    X.env.code = .ref c ∧ LamX.TabB X.base X.mg c P ∧ (P, X.env.qual ++ "<lambda>") ∈ Z.T.tabs ∧ ∀ p ∈ Z.T.tabs, p.1 = P → p.2 = X.env.qual ++ "<lambda>"
/-- the outcome and what tells it -/
def Told (o : Out S D) (s0 : S) (r : CRes S) : Prop :=
  match o with
  | .ok d _ s' => s' = s0 ∧ r = .ok d s0
  | .exc c fs _ s' => s' = s0 ∧ r = .exc c fs s0
  | .no => False
theorem de_lam {x : Str} {f : Nat} {cb : CE} {params : Arguments} {body : Expr} {scope : Scope} {p lpos : Pos} {k : Nat} {c P : Addr} (hr : Room (k + 8) X.A) (hgd : X.A.guards = some []) (hcode : X.env.code = .ref c) (TB : LamX.TabB X.base X.mg c P) (hm : (P, X.env.qual ++ "<lambda>") ∈ Z.T.tabs) (hu : ∀ p ∈ Z.T.tabs, p.1 = P → p.2 = X.env.qual ++ "<lambda>")
    (hg : Gl X x) (hmg : X.mg x = some (.ref (Z.T.fA f))) (hk : keepIn X.K (.ref (Z.T.fA f)) = true) (hdb : (x == ("__debug__" : Str)) = false) (lg : ∃ b, (∀ ds s, Z.call f ds s = .no ∨ Z.call f ds s = runL Z.P b ds s) ∧ LamG Z X.prog X.w X.K X.mg X.base f b) (L : LamX.LamS X.env.scope scope) (hdef : defaultsOf params X.env = ([], []))
    (hbind : ∀ (q : Str) (cl : List (Str × Addr)) (pm cv ctv : Value), bindArgs (PySem.W.kla_fn "<lambda>" q params body scope cl pm cv ctv) ⟨[], []⟩ = pure []) (tk : Takes X W)
    (hbody : ∀ (A : Around) (outer : List Env) (s : Shared) (H : Hp) (E : XK) (fa c' : Addr) (G : Fm), A.guards = X.A.guards → Room (k + 6) (A.deeper (LamX.lamEnv X scope s.heap.objs.size fa c')) → PE (LamX.lamCx X A outer s H E scope fa c') body (tD Z G (fun c d _ H' => E c d H') cb)) :
    PE X (.Call (.Name x p) [.Lambda params body scope lpos] [] pos) (tD Z G W (.lam f cb)) := by
  refine ⟨fun pins sh σ H Q I h => ?_⟩
  obtain ⟨F, τ, s0, q, h⟩ := h
  simp only [ev] at h
  have key : ∃ ds, Told (ev Z.P Z.call Z.make cb (τ.map Slot.hide) s0) s0 (decO s0 ds) ∧ Post Z G (Rep Z.T) F σ Q W ((Z.call f ds s0).out τ) := by
    cases ho : ev Z.P Z.call Z.make cb (τ.map Slot.hide) s0 with
    | no => rw [ho] at h; exact h.elim
    | ok d τ' s' =>
      rw [ho] at h
      simp only at h
      cases hs : Pen.same s' s0 with
      | false => rw [hs] at h; exact h.elim
      | true =>
        rw [hs] at h
        exact ⟨_, ⟨Pen.same_eq hs, rfl⟩, h⟩
    | exc c fs τ' s' =>
      rw [ho] at h
      simp only at h
      cases hs : Pen.same s' s0 with
      | false => rw [hs] at h; exact h.elim
      | true =>
        rw [hs] at h
        exact ⟨_, ⟨Pen.same_eq hs, rfl⟩, h⟩
  obtain ⟨ds, told, hp⟩ := key
  obtain ⟨b, hcall, a, Ng, qg, sg, cdg, hN, hv, hd1, hd2, go⟩ := lg
  have hrun : Z.call f ds s0 = runL Z.P b ds s0 := by
    rcases hcall ds s0 with e | e
    · rw [e] at hp; exact hp.elim
    · exact e
  refine wpAny_Call_Name_kw (ld_glob I hg hmg ?_ hdb)
  refine PySem.W.callWith_K (h₀ := X.base) I.ok.mod.kin hk ?_ (by rfl) (by rfl)
  show wpAny _ _ (spliced ((false, eval (.Lambda params body scope lpos) X.env) :: backTo pos (starEach [] X.env))) _ _ sh
  refine Calls.spliced_cons (lam_make3 I q TB hcode hm hu hdef (L.has I.ok) fun fa c' pm ctv F1 H1 s' I1 eF q1 hf hfn hfr hco => ?_)
  refine Calls.spliced_nil ⟨I1.kIn, ?_⟩
  refine wpAny_call (codeAny_mono (go X.A X.stack s' H1 Q (fun c d H' => W c d σ H') fa ds s0 F1 (hr.mono (by omega)) hgd I1.env0 q1.fh q1.pen q1.penF q1.pinv q1.tb (fun W' pn xe p1 p2 G' tk' => ?_) (by rw [← hrun]; exact Post.toC q1 (Post.mono eF hp))) fun r s2 hq => ?_)
  · have P0 := pe_actG (i := 0) (p1 := p1) (p2 := p2) (k := k + 6) (tb := fun E σ HZ QZ => ∃ F', tD Z (outG Z.T F' HZ Z.T.pen) (fun c d _ H' => E c d H') cb σ HZ QZ) I1 L hf hfn hfr (hbind _ _ _ _ _) tk' (hr.deeper _)
      (fun A outer s H E hg2 hr2 => ⟨fun pins s σ H Q I ⟨F', h⟩ => (hbody A outer _ _ E fa c' (outG Z.T F' H Z.T.pen) hg2 hr2).run pins s σ H Q I h⟩) hN hv hd1 hd2
    refine P0.imp fun σZ HZ QZ => ?_
    rintro ⟨F2, τ2, s2, q2, h2⟩
    simp only [ev] at h2
    cases h0 : (τ2[0]? : Option Slot) with
    | none => rw [h0] at h2; exact h2.elim
    | some sl =>
      rw [h0] at h2
      cases sl with
      | fz d =>
        cases d with
        | opq v =>
          simp only at h2
          have ec : (Zl Z F1 (decO s0 ds) s0 fa).call askId [askD, .opq v] s2 = bif isAsk fa [askD, .opq v] && Pen.same s2 s0 then decO s0 ds else .no := by
            show (bif askId == askId && isAsk fa [askD, .opq v] && Pen.same s2 s0 then decO s0 ds else CRes.no) = _
            rw [show (askId == askId) = true from beq_self_eq_true _, Bool.true_and]
          rw [ec] at h2
          cases hb : isAsk fa [askD, .opq v] && Pen.same s2 s0 with
          | false => rw [hb] at h2; exact h2.elim
          | true =>
            rw [hb] at h2
            rw [Bool.and_eq_true] at hb
            obtain ⟨hb1, hb2⟩ := hb
            have es := Pen.same_eq hb2
            subst es
            have ev : v = .ref fa := by
              cases v <;> simp only [isAsk, askD] at hb1 <;> first | cases hb1 | exact congrArg _ (of_decide_eq_true hb1)
            subst ev
            obtain ⟨v', e1, r⟩ := q2.sl 0 _ h0
            cases r
            have sF : Sub F1 F2 := q2.pinv.2
            refine ⟨getD_of e1, q2.fh _ _ (sF _ _ hco), F2, F2, τ.map Slot.hide, s2, q.seen q2 (eF.trans sF) rfl q2.pinv.1, ?_⟩
            have fr2 : ∀ {F' H' : Hp} {τ3 : List Slot}, Sub F2 F' → SR Z.T Z.pn (outG Z.T F2 HZ Z.T.pen) F' H' σ τ3 s2 → Fr (Zl Z F1 (decO s2 ds) s2 fa).T (Zl Z F1 (decO s2 ds) s2 fa).pn F2 HZ F' H' s2 := fun {F' H' τ3} e3 q3 => by
              have k := fr_of q3 e3 (.inr (.inr rfl))
              exact ⟨k.ff, k.fh, k.pen, k.penF, ⟨k.pinv, sF.trans e3⟩, k.out, k.tb⟩
            revert told
            cases ho : ev Z.P Z.call Z.make cb (τ.map Slot.hide) s2 with
            | no => exact fun told => told.elim
            | ok d τ' s' =>
              rintro ⟨rfl, er⟩
              rw [er] at h2
              intro v' H' F' e3 q3 r3
              exact h2 v' H' F' e3 (q2.call (fr2 e3 q3)) r3
            | exc c fs τ' s' =>
              rintro ⟨rfl, er⟩
              rw [er] at h2
              intro H' F' od e3 q3 r3
              exact h2 H' F' od e3 (q2.call (fr2 e3 q3)) r3
        | _ => exact h2.elim
      | _ => exact h2.elim
  · cases r with
    | error e => exact tk e s2 (XE.of_call I1 (fun cls d H' z => z) hq)
    | ok fl =>
      cases fl with
      | ret u => exact I1.after hq
      | next => exact False.elim hq
      | brk => exact False.elim hq
      | cont => exact False.elim hq

/-! ### such a def by its code -/
variable {P : Program} {w : World} {K : PySem.W.Frag} {mg : Str → Option Value} {base : Heap} {f : Addr} {name qual : Str} {params : Arguments} {body : List Stmt} {scope : Scope} {dV kV doc pm cdv ct oc : Value} {an od : Option Addr}
  {osl : Array (Option Value)} {N : List Str} {b : Fn} {g : Nat} {a : Str}
theorem bindF_one (h1 : b.np = 1) (h2 : b.star = false) (h3 : b.dfl = []) (x : D) : bindF b [x] = some [x] := by
  unfold bindF
  rw [h2, h1, h3]
  simp
theorem lamG_code (lk : K.lookup (Z.T.fA g) = some ⟨oc, od, .func (PySem.W.fnOf name qual params body scope dV kV doc pm an cdv ct), osl⟩) (hcd : PySem.W.codeIn K cdv qual = true) (Sc : FnScope N [a] scope)
    (hb : BindZ K Z.T (PySem.W.fnOf name qual params body scope dV kV doc pm an cdv ct) [a] b) (hns : N.length = b.ns) (h1 : b.np = 1) (h2 : b.star = false) (h3 : b.dfl = []) (hN : N[0]? = some a) (hv : Vis scope a) (hd1 : (a == ("__debug__" : Str)) = false) (hd2 : (a == ("__classdict__" : Str)) = false) (hl : 1 ≤ N.length)
    (hX : ∀ (A : Around) (outer : List Env) (s : Shared) (H : Hp) (E : XK) (G : Fm) (F : Hp) (o : CRes S) (s0 : S) (fa : Addr), Room 4 (A.deeper (envOfC qual scope s.heap.objs.size (Z.T.fA g) cdv)) → A.guards = some [] →
      (∀ (W : WX) (pn : List (Addr × Obj)) (xe : Value → Shared → Prop) (p1 p2 : Pos) (G : Fm), Takes ((cxOf (CX P w) P w K mg base N qual scope (Z.T.fA g) cdv A outer s H E).tr pn xe) W → PE ((cxOf (CX P w) P w K mg base N qual scope (Z.T.fA g) cdv A outer s H E).tr pn xe) (.Call (.Name a p1) [] [] p2) (tD (Zl Z F o s0 fa) G W .ask)) →
      PSs (cxOf (CX P w) P w K mg base N qual scope (Z.T.fA g) cdv A outer s H E) body (tDSs (Zl Z F o s0 fa) G (fun c d _ H' => E c d H') b.body)) : LamG Z P w K mg base g b := by
  refine ⟨a, N, qual, scope, cdv, hN, hv, hd1, hd2, fun A outer sh H Q E fa ds s0 F hr hg e0 fh pen penF pinv htb asks hp => ?_⟩
  unfold BindZ at hb
  rw [h2] at hb
  obtain ⟨_, hb⟩ := hb
  obtain ⟨dvs, us, rd, rr, bi⟩ := hb 0 (Nat.zero_le _)
  have KX : K.In sh.heap := e0.mod.kin.keeps fun b o e => (e0.bs b o e).1
  have eus : us = [] := by
    have hz := rr F
    rw [h3] at hz
    cases hz
    cases rd
    rfl
  subst eus
  have nn : runL Z.P b ds s0 ≠ .no := fun z => by rw [z] at hp; exact hp
  obtain ⟨er, _⟩ := runL_at nn fa
  refine LamX.run_ofS (CX := CX P w) (ps := [a]) (us := [.ref fa]) (vs := [.ref fa]) lk hcd Sc hr e0 (bi sh [.ref fa] KX rfl) (.cons rfl .nil) rfl fun hr' => ?_
  refine ⟨_, hX A outer sh H E (outG Z.T F H Z.T.pen) F (decO s0 ds) s0 fa hr' hg asks, F, start' b.ns [.opq (.ref fa)], s0, ?_, ?_⟩
  · rw [← hns]
    refine SR.begin (pn := (Zl Z F (decO s0 ds) s0 fa).pn) fh pen penF ⟨pinv, Sub.refl F⟩ (RepL.one rfl) (fun a o e => ?_) hl htb outG_tab
    obtain ⟨g1, g2, g3, _⟩ := outG_of e
    exact ⟨g1, g2, g3⟩
  · have hp2 : PostC (Zl Z F (decO s0 ds) s0 fa) F H Q E (runF Z.P (callA (decO s0 ds) s0 fa) makeA b [.opq (.ref fa)] s0) := by
      rw [er]; exact Zl.post hp
    unfold runF at hp2
    rw [bindF_one h1 h2 h3] at hp2
    exact post_run ⟨rfl, rfl, rfl⟩ (Sub.refl F) (.inr (.inr rfl)) hp2
end
end Rz
end

section
set_option autoImplicit false
set_option Elab.async false
set_option linter.all false
set_option maxHeartbeats 2000000
set_option maxRecDepth 100000
/-! raise C(e, ..): C's own __init__ sets its fields from its parameters, one after the other. -/
namespace Rz
open PySem PySem.Spec PySem.W PyProof.Rows L2

/-- the class stands as an error's class does -/
def oexC (K : Frag) (C : Addr) : Bool :=
  (match K.lookup C with
  | some ⟨.type "type", _, .cls cd, ⟨[_, _, _, _, some (.builtin n), _]⟩⟩ => (match cd.mro with
    | .ref C' :: bm => decide (C' = C) && PySem.HandSPX.refsVE bm
    | _ => false) && decide (n = "ValueError.__new__") && !cd.hasDel && cd.hasDict
  | _ => false) && (findIn K (.ref C) "__setattr__" == some (some (.builtin "object.__setattr__"))) && (subIn K (.ref C) (.type "BaseException") == some true) && (typeIn K (.ref C) == some (.type "type")) && keepIn K (.ref C)
theorem oexC_ok {K : Frag} {C : Addr} (h : oexC K C = true) : OexC K C := by
  unfold oexC at h
  simp only [Bool.and_eq_true, beq_iff_eq] at h
  obtain ⟨⟨⟨⟨h1, h2⟩, h3⟩, h4⟩, h5⟩ := h
  refine ⟨?_, h2, h3, h4, h5⟩
  split at h1
  · rename_i dd cd k0 k1 k2 k3 n k5 lk
    simp only [Bool.and_eq_true, Bool.not_eq_true', decide_eq_true_eq] at h1
    obtain ⟨⟨⟨h6, rfl⟩, h8⟩, h9⟩ := h1
    split at h6
    · rename_i C' bm hm
      rw [Bool.and_eq_true, decide_eq_true_eq] at h6
      obtain ⟨rfl, hr⟩ := h6
      obtain ⟨nm, bs, mro, ns, qn, hd, sn, sub, ab, col, del⟩ := cd
      simp only at hm h8 h9
      subst hm h8 h9
      exact ⟨_, _, _, _, bm, _, _, _, _, _, _, _, _, _, _, lk, hr⟩
    · cases h6
  · cases h1

/-- the fields that an __init__ sets, from the parameters from the i-th on -/
def initPat (N : List Str) (sc : Scope) : Nat → List Stmt → Option (List Str)
  | _, [] => some []
  | i, .Assign [.Attribute (.Name x _) f _] (.Name p _) _ :: r => bif decide (N[0]? = some x) && decide (N[i]? = some p) && (decide (sc.names.lookup x = some .local) || decide (sc.names.lookup x = some .cell)) && (decide (sc.names.lookup p = some .local) || decide (sc.names.lookup p = some .cell)) && (!(x == ("__debug__" : Str)) && !(x == ("__classdict__" : Str))) && (!(p == ("__debug__" : Str)) && !(p == ("__classdict__" : Str))) then (initPat N sc (i + 1) r).map (f :: ·) else none
  | _, _ => none
theorem bif_none {α : Type} {b : Bool} {x : Option α} {y : α} (h : (bif b then x else none) = some y) : b = true ∧ x = some y := by
  cases b with
  | false => cases h
  | true => exact ⟨rfl, h⟩
theorem initPat_cons {N : List Str} {sc : Scope} {i : Nat} {st : Stmt} {r : List Stmt} {fs : List Str} (h : initPat N sc i (st :: r) = some fs) : ∃ (x p f : Str) (p1 p2 p3 p4 : Pos) (gs : List Str), st = .Assign [.Attribute (.Name x p1) f p2] (.Name p p3) p4 ∧ fs = f :: gs ∧ initPat N sc (i + 1) r = some gs ∧ N[0]? = some x ∧ N[i]? = some p ∧ Vis sc x ∧ Vis sc p ∧
    (x == ("__debug__" : Str)) = false ∧ (x == ("__classdict__" : Str)) = false ∧ (p == ("__debug__" : Str)) = false ∧ (p == ("__classdict__" : Str)) = false := by
  unfold initPat at h
  split at h
  · rename_i e; cases e
  · rename_i x p1 f p2 p p3 p4 r' e
    cases e
    obtain ⟨h1, h2⟩ := bif_none h
    simp only [Bool.and_eq_true, decide_eq_true_eq, Bool.or_eq_true, Bool.not_eq_true'] at h1
    obtain ⟨⟨⟨⟨⟨a1, a2⟩, a3⟩, a4⟩, a5⟩, a6⟩ := h1
    obtain ⟨gs, e1, rfl⟩ := Option.map_eq_some_iff.mp h2
    exact ⟨_, _, _, _, _, _, _, gs, rfl, rfl, e1, a1, a2, a3.elim .inl fun z => .inr (.inl z), a4.elim .inl fun z => .inr (.inl z), a5.1, a5.2, a6.1, a6.2⟩
  · cases h

theorem upd_upd {H : Hp} {a : Addr} {x y : HO} : upd (upd H a x) a y = upd H a y := by
  funext c
  by_cases h : c = a
  · subst h; rw [upd_same, upd_same]
  · rw [upd_ne h, upd_ne h, upd_ne h]
theorem upd_id {H : Hp} {a : Addr} {x : HO} (h : H a = some x) : upd H a x = H := by
  funext c
  by_cases e : c = a
  · subst e; rw [upd_same, h]
  · rw [upd_ne e]
theorem upd_del {H H2 : Hp} {a d : Addr} {x : HO} (ha : H a = none) (h : ∀ b, b ≠ a → b ≠ d → H2 b = H b) : upd (del H2 a) d x = upd H d x := by
  funext b
  by_cases h1 : b = d
  · subst h1; rw [upd_same, upd_same]
  · rw [upd_ne h1, upd_ne h1]
    by_cases h2 : b = a
    · subst h2; rw [del_same, ha]
    · rw [del_ne h2, h b h2 h1]
section
variable {X : Cx} {C : Addr}
/-- the rest of an __init__: the error has its dict -/
def tIni (K : Frag) (C : Addr) (i : Nat) (fs : List Str) : TS := fun D σ H => ∃ (a dx : Addr) (gs : List (Str × V)) (ws : List V), OexC K C ∧ (∀ f ∈ fs, findIn K (.ref C) f = some none) ∧ dx ≠ a ∧ σ[0]? = some (some (.ref a)) ∧ H a = some (exo a C (some dx)) ∧ H dx = some (exd dx gs) ∧ gs.length + fs.length ≤ 900 ∧ ws.length = fs.length ∧ (∀ (j : Nat) (v : V), ws[j]? = some v → σ[i + j]? = some (some v)) ∧
  D.nx σ (upd H dx (exd dx ((fs.zip ws).reverse ++ gs)))
theorem ini_rest : ∀ (ss : List Stmt) (i : Nat) (fs : List Str), initPat X.N X.env.scope i ss = some fs → PSs X ss (tIni X.K C i fs)
  | [], i, fs, h => by
    cases h
    refine pss_nil.imp fun D σ H => ?_
    rintro ⟨a, dx, gs, ws, T, hn, ne, h0, ha, hd, hl, hw, hs, q⟩
    cases ws with
    | nil => rw [List.zip_nil_left, List.reverse_nil, List.nil_append, upd_id hd] at q; exact q
    | cons _ _ => cases hw
  | st :: r, i, fs, h => by
    obtain ⟨x, p, f, p1, p2, p3, p4, gs, rfl, rfl, hr, n0, ni, vx, vp, d1, d2, d3, d4⟩ := initPat_cons h
    refine (pss_cons (ps_ost (f := f) (pe_var (i := 0) n0 vx d1 d2) (pe_var (i := i) ni vp d3 d4)) (ini_rest r (i + 1) gs hr)).imp fun D σ H => ?_
    rintro ⟨a, dx, es, ws, T, hn, ne, h0, ha, hd, hl, hw, hs, q⟩
    cases ws with
    | nil => cases hw
    | cons y ws =>
      have hf := hn f List.mem_cons_self
      refine ⟨y, hs 0 y rfl, .ref a, h0, a, C, rfl, T, hf, .inr ⟨dx, es, ha, hd, by simp at hl; omega, a, dx, (f, y) :: es, ws, T, fun g hg => hn g (List.mem_cons_of_mem _ hg), ne, h0, by rw [upd_ne (Ne.symm ne)]; exact ha, upd_same, by simp at hl ⊢; omega, by simpa using hw, fun j v e => ?_, ?_⟩⟩
      · have := hs (j + 1) v (by simpa using e)
        rw [show i + (j + 1) = i + 1 + j by omega] at this; exact this
      · rw [upd_upd]
        rw [List.zip_cons_cons, List.reverse_cons, List.append_assoc] at q
        exact q
/-- an __init__ from its first statement on -/
def tIni0 (K : Frag) (C : Addr) (fs : List Str) : TS := fun D σ H => ∃ (a : Addr) (ws : List V), OexC K C ∧ (∀ f ∈ fs, findIn K (.ref C) f = some none) ∧ σ[0]? = some (some (.ref a)) ∧ H a = some (exo a C none) ∧ fs.length ≤ 900 ∧ ws.length = fs.length ∧ (∀ (j : Nat) (v : V), ws[j]? = some v → σ[1 + j]? = some (some v)) ∧
  ∀ dx, H dx = none → dx ≠ a → D.nx σ (upd (upd H dx (exd dx ((fs.zip ws).reverse))) a (exo a C (some dx)))
theorem ini_all {ss : List Stmt} {fs : List Str} (h : initPat X.N X.env.scope 1 ss = some fs) (hne : fs ≠ []) : PSs X ss (tIni0 X.K C fs) := by
  cases ss with
  | nil => cases h; exact absurd rfl hne
  | cons st r =>
    obtain ⟨x, p, f, p1, p2, p3, p4, gs, rfl, rfl, hr, n0, ni, vx, vp, d1, d2, d3, d4⟩ := initPat_cons h
    refine (pss_cons (ps_ost (f := f) (pe_var (i := 0) n0 vx d1 d2) (pe_var (i := 1) ni vp d3 d4)) (ini_rest (C := C) r 2 gs hr)).imp fun D σ H => ?_
    rintro ⟨a, ws, T, hn, h0, ha, hl, hw, hs, q⟩
    cases ws with
    | nil => cases hw
    | cons y ws =>
      have hf := hn f List.mem_cons_self
      refine ⟨y, hs 0 y rfl, .ref a, h0, a, C, rfl, T, hf, .inl ⟨ha, fun dx hdx ne => ⟨a, dx, [(f, y)], ws, T, fun g hg => hn g (List.mem_cons_of_mem _ hg), ne, h0, upd_same, by rw [upd_ne ne, upd_same], by simp at hl ⊢; omega, by simpa using hw, fun j v e => ?_, ?_⟩⟩⟩
      · have := hs (j + 1) v (by simpa using e)
        rw [show 1 + (j + 1) = 2 + j by omega] at this; exact this
      · have := q dx hdx ne
        rw [List.zip_cons_cons, List.reverse_cons] at this
        rw [upd_comm (Ne.symm ne), upd_upd]
        exact this
end
/-- the promise of an error's __init__ -/
def spX (K : Frag) (C : Addr) (fs : List Str) : Sp := fun vs H Q _ => ∃ (a : Addr) (ws : List V), vs = .ref a :: ws ∧ ws.length = fs.length ∧ H a = some (exo a C none) ∧ ∀ dx, H dx = none → dx ≠ a → Q .non (upd (upd H dx (exd dx ((fs.zip ws).reverse))) a (exo a C (some dx)))
section
variable {P : Program} {w : World} {K : PySem.W.Frag} {mg : Str → Option Value} {base : Heap} {fI C : Addr} {name qual : Str} {params : Arguments} {body : List Stmt} {scope : Scope} {dV kV doc pm cdv ct oc : Value} {an od : Option Addr}
  {osl : Array (Option Value)} {ps fs : List Str}
theorem xinit_ok (lk : K.lookup fI = some ⟨oc, od, .func (PySem.W.fnOf name qual params body scope dV kV doc pm an cdv ct), osl⟩) (hcd : PySem.W.codeIn K cdv qual = true) (Sc : FnScope ps ps scope) (hp : ps.length = fs.length + 1) (T : OexC K C) (hn : ∀ f ∈ fs, findIn K (.ref C) f = some none) (hne : fs ≠ []) (hl : fs.length ≤ 900)
    (hB : initPat ps scope 1 body = some fs) : FnOk P w K mg base (CX P w) 1 fI (PySem.W.fnOf name qual params body scope dV kV doc pm an cdv ct) ps (spX K C fs) := by
  refine ⟨fun vs H Q E h => ?_, fun A outer s H args us vs Q E hr e0 hb rv h => ?_⟩
  · obtain ⟨a, ws, rfl, hw, _⟩ := h
    rw [List.length_cons, hw, hp]
  · obtain ⟨a, ws, rfl, hw, ha, q⟩ := h
    refine LamX.run_ofS (k := 0) lk hcd Sc hr e0 hb rv (by rw [List.length_cons, hw, hp]) fun hr' => ?_
    refine ⟨tIni0 K C fs, ini_all (X := cxOf (CX P w) P w K mg base ps qual scope fI cdv A outer s H E) hB hne, a, ws, T, hn, ?_, ha, hl, hw, fun j v e => ?_, q⟩
    · unfold L2.start; rfl
    · unfold L2.start
      have hj : j < ws.length := (List.getElem?_eq_some_iff.mp e).1
      rw [List.getElem?_append_left (by simp; omega), List.getElem?_map, show 1 + j = j + 1 by omega, List.getElem?_cons_succ, e]; rfl
end
theorem RepL.reverse {T : Tb} {F : Hp} : ∀ {ds : List D} {vs : List V}, RepL T F ds vs → RepL T F ds.reverse vs.reverse
  | [], _, h => by cases h; rfl
  | d :: ds, _, ⟨v, r, e, h, t⟩ => by
    subst e
    rw [List.reverse_cons, List.reverse_cons]
    exact (RepL.reverse t).append (RepL.one h)
theorem zip_rev {α β : Type} : ∀ {a : List α} {b : List β}, a.length = b.length → (a.zip b).reverse = a.reverse.zip b.reverse
  | [], [], _ => rfl
  | x :: a, y :: b, h => by
    rw [List.zip_cons_cons, List.reverse_cons, List.reverse_cons, List.reverse_cons, zip_rev (by simpa using h), List.zip_append (by simpa using h)]; rfl
section
variable {S : Type} [Pen S] {Z : Cz S} {G : Fm} {W : WX} {X : Cx} {pos : Pos}
/-- what is asked of an error class with fields that is raised -/
def XIn (Z : Cz S) (X : Cx) (c : Nat) : Prop := ∃ (fI : Addr) (fd : FuncData) (ps fs : List Str), OexC X.K (Z.T.cA c) ∧ findIn X.K (.ref (Z.T.cA c)) "__init__" = some (some (.ref fI)) ∧ typeIn X.K (.ref fI) = some (.type "function") ∧
  FnOk X.prog X.w X.K X.mg X.base (CX X.prog X.w) 1 fI fd ps (spX X.K (Z.T.cA c) fs) ∧ Room 2 X.A ∧ L2.Binds X.K fd ps [] ∧ fs.length ≤ 900 ∧ Z.T.fld c = fs.reverse ∧ Z.P.exc c = some fs.length
theorem ds_raiseN {c : Nat} {x : Str} {p p2 : Pos} {e : Expr} {es : List Expr} {cs : CAs} (hK : X.K = Z.T.K) (xi : XIn Z X c) (hg : Gl X x) (hm : X.mg x = some (.ref (Z.T.cA c))) (hdb : (x == ("__debug__" : Str)) = false) (hc : X.calm = true) (tk : Takes X W) (ha : ArgsZ Z G W X (e :: es) cs) (hs : (e :: es).any isStar = false) :
    PS X (.Raise (some (.Call (.Name x p) (e :: es) [] p2)) none pos) (tDS Z G W (.raise c cs)) := by
  obtain ⟨fI, fd, ps, fs, T, iC, tI, F1, hr, hb, hl, hfl, hex⟩ := xi
  rw [List.any_cons, Bool.or_eq_false_iff] at hs
  refine (ps_raise hc tk (pmk_oex (p := p) (pos := p2) T iC tI F1 hr hb .nil (passes_call tk fun _ _ _ _ z => z.elim) hg hm (ha.pa hK) hdb (starEach_plain hs.1) (by rw [backTo_any]; exact hs.2))).imp fun D σ H => ?_
  rintro ⟨F, τ, s, q, h⟩
  simp only [ex] at h
  refine ⟨F, τ, s, q, h.bind fun ds vs τ1 s1 F1 H1 e1 q1 rl h1 => ?_⟩
  cases hb : Z.P.exc c == some ds.length with
  | false => rw [hb] at h1; exact h1.elim
  | true =>
    rw [hb] at h1
    rw [beq_iff_eq, hex] at hb
    have hlen : fs.length = ds.length := Option.some.inj hb
    have hlv : vs.length = fs.length := by rw [rl.length, hlen]
    refine ⟨by omega, fun a na => ⟨a, vs, by rw [List.append_nil], hlv, upd_same, fun dx hdx ne => ?_⟩⟩
    have ndx : H1 dx = none := by rw [upd_ne ne] at hdx; exact hdx
    refine ⟨rfl, dx, (fs.zip vs).reverse, upd_same, by rw [upd_ne ne, upd_same], ndx, ?_⟩
    rw [upd_del na (H2 := _) fun b h1 h2 => by rw [upd_ne h1, upd_ne h2, upd_ne h1]]
    have hF : F1 dx = none := q1.fh.none ndx
    refine h1 σ _ _ (some dx) (Sub.new hF) (q1.new (o := .xd (fs.zip vs).reverse) ndx) ⟨vs.reverse, ?_, by rw [List.length_reverse, hfl, List.length_reverse]; omega, (rl.mono (Sub.new hF)).reverse⟩
    rw [upd_same, hfl, ← zip_rev hlv.symm]
end
end Rz
end

section
set_option autoImplicit false
set_option Elab.async false
set_option linter.all false
set_option maxHeartbeats 2000000
set_option maxRecDepth 100000
/-! C(e, ..), C(k=e, ..), C(): an error is made and kept as a value. -/
namespace PySem
namespace XmkP
open Builtin Builtin.ObjectAttr PySem.HandSPX
section
variable {M : Model} {A : Around} {E : Value → Shared → Prop} {h : Heap} {g : Array GenState} {d : Drawn} {t : Nat} {os : OsState}
variable {nm q : Str} {C N : Addr} {bs bm bmB : List Value} {hdct : Bool} {sn : List Str} {sub : List Value} {ab : Bool} {col : Option Bool} {dd : Option Addr} {k0 k1 k2 k3 k5 : Option Value} {B newId initId : String}
theorem check_newK (F : ExcBaseFacts B newId initId bmB) (hT : ∀ X : String, bm.contains (.type X) = bmB.contains (.type X)) {rest : List Value} {kw : List (Str × Value)} {Q : Unit → Shared → Prop}
    (hC : h.get? C = some (excClassObj nm q C N bs bm hdct sn sub ab col dd k0 k1 k2 k3 k5 newId)) (hq : Q () ⟨h, g, d, t, os⟩) : wpAny M A (checkBuiltinCall newId ⟨.ref C :: rest, kw⟩) Q E ⟨h, g, d, t, os⟩ := by
  have hcont : (Value.ref C :: bm).contains (.type B) = true := by rw [List.contains_cons, hT, F.hasB, Bool.or_true]
  have hstar := F.noStar
  simp only [checkBuiltinCall, F.newKind, F.newSplit, F.newRow]
  repeat (first | refine wpAny_loadPart_at hC ?_ | (refine wpAny_isSubtype_exc hC ?_; rw [hcont]) | refine wpAny_staticBase_exc hC ?_ | refine wpAny_madeBy_exc hC ?_ | simp only [bne_self_eq_false, Bool.false_eq_true, if_false] | wp_step)
  exact hq
theorem check_typeK {rest : List Value} {kw : List (Str × Value)} {Q : Unit → Shared → Prop} (hC : h.get? C = some (excClassObj nm q C N bs bm hdct sn sub ab col dd k0 k1 k2 k3 k5 newId))
    (hq : Q () ⟨h, g, d, t, os⟩) : wpAny M A (checkBuiltinCall "type.__call__" ⟨.ref C :: rest, kw⟩) Q E ⟨h, g, d, t, os⟩ := by
  have f3 := tc_sub
  have hT : (⟨h, g, d, t, os⟩ : Shared).TypeIs (.ref C) "type" := ⟨_, hC, rfl⟩
  simp only [checkBuiltinCall, tc_kind, tc_split]
  repeat (any_goals (first | assumption | with_reducible refine wpAny_loadPart_at hC ?_ | with_reducible refine wpAny_onRaise ?_ | with_reducible refine wpAny_map ?_ | wp_step))
end
section
variable {prog : Program} {w : World} {A : Around} {E : Value → Shared → Prop} {R : Result → Shared → Prop} {h : Heap} {g : Array GenState} {d : Drawn} {t : Nat} {os : OsState}
variable {nm q : Str} {C N : Addr} {bs bm bmB : List Value} {hdct : Bool} {sn : List Str} {sub : List Value} {ab : Bool} {col : Option Bool} {dd : Option Addr} {k0 k1 k2 k3 k5 : Option Value} {B newId initId : String}
theorem newK (F : ExcBaseFacts B newId initId bmB) (hT : ∀ X : String, bm.contains (.type X) = bmB.contains (.type X)) {rest : List Value} {kw : List (Str × Value)}
    (hC : h.get? C = some (excClassObj nm q C N bs bm hdct sn sub ab col dd k0 k1 k2 k3 k5 newId))
    (hq : R (.ok (.ret (.ref (h.objs.size + 1)))) ⟨(h.push { cls := .type "tuple", data := .seq rest.toArray }).push
      { cls := .ref C, data := .fields #[.ref h.objs.size, .none, .none, .none, .bool false, .none] }, g, d, t, os⟩) (hrest : rest.length ≤ sizeLine) :
    codeAny (model prog w) A (.builtin newId ⟨.ref C :: rest, kw⟩) R ⟨h, g, d, t, os⟩ := by
  have hends := F.ends
  have hcB : (Value.ref C :: bm).contains (.type B) = true := by rw [List.contains_cons, hT, F.hasB, Bool.or_true]
  have hcA : (Value.ref C :: bm).contains (.type "AttributeError") = false := by rw [List.contains_cons, hT, F.noAttr]; rfl
  have hcN : (Value.ref C :: bm).contains (.type "NameError") = false := by rw [List.contains_cons, hT, F.noName]; rfl
  refine codeAny_builtinAt F.entry ?_
  unfold Builtin.«BaseException.__new__»
  refine wpAt_bind ?_
  show wpAt _ _ _ (stack >>= _) _ _ _
  refine wpAt_bind (wpAt_stack fun p below => wpAt_of_wpAny ?_)
  wp_walk
  refine wpAt_of_wpAny ?_
  rw [F.owner]
  repeat (first | with_reducible refine wpAny_madeHere_exc F.canon hC ?_ | with_reducible refine wpAny_loadPart_at hC ?_ | (with_reducible refine wpAny_isSubtype_exc hC ?_; first | rw [hcB] | rw [hcA] | rw [hcN]) | wp_step)
  show R _ _
  rw [Heap.size_push]
  exact hq
theorem typeCallK (F : ExcBaseFacts B newId initId bmB) (hT : ∀ X : String, bm.contains (.type X) = bmB.contains (.type X)) {rest : List Value} {kw : List (Str × Value)} {fI : Addr} {Q : Fin → Shared → Prop}
    (hC : h.get? C = some (excClassObj nm q C N bs bm hdct sn sub ab col dd k0 k1 k2 k3 k5 newId))
    (hi : W.Looks (model prog w) h (typeLookup (.ref C) "__init__") (some (.ref fI))) (hb : ∀ self, W.Looks (model prog w) h (bindSpecial (.ref fI) self) (.ref fI, [self])) (hrest : rest.length ≤ sizeLine)
    (hq : codeAny (model prog w) A (.call (.ref fI) ⟨.ref (h.objs.size + 1) :: rest, kw⟩)
      (fun r s' => match r with | .ok (.ret v) => v = .none ∧ Q (.done (.ret (.ref (h.objs.size + 1)))) s' | .ok _ => False | .error e => E e s')
      ⟨(h.push (W.kdv_tup rest)).push (excO C h.objs.size), g, d, t, os⟩) :
    wpAny (model prog w) A (Builtin.«type.__call__» ⟨.ref C :: rest, kw⟩) Q E ⟨h, g, d, t, os⟩ := by
  repeat (first | with_reducible refine wpAny_loadPart_at hC ?_ | with_reducible refine wpAny_madeBy_exc hC ?_ | wp_step)
  refine codeAny_call_builtin_code (Code.quiet_builtin _ F.quiet) (check_newK F hT hC ?_)
  refine newK F hT hC ?_ hrest
  show wpAny _ _ _ _ _ _
  have k : ∀ b o, h.get? b = some o → ((h.push (W.kdv_tup rest)).push (excO C h.objs.size)).get? b = some o := fun b o e => Heap.get?_push_of_some _ (Heap.get?_push_of_some _ e)
  have hC₁ := k _ _ hC
  have hget : ((h.push (W.kdv_tup rest)).push (excO C h.objs.size)).get? (h.objs.size + 1) = some (excO C h.objs.size) := by heap_get
  have hcC : (Value.ref C :: bm).contains (.ref C) = true := by simp
  have i1 := hi.keeps k
  have b1 := (hb (.ref (h.objs.size + 1))).keeps k
  unfold isInstance
  repeat (first | with_reducible refine wpAny_loadPart_at hget ?_ | (with_reducible refine wpAny_isSubtype_exc hC₁ ?_; rw [hcC]) | wp_step)
  show wpAny _ _ (typeLookup (.ref C) _) _ _ _
  refine i1.at ?_
  refine wpAny_holding (wpAny_bind (b1.at ?_))
  refine wpAny_bind (wpAny_call (codeAny_mono hq fun r s' z => ?_))
  rcases r with e | (v | _ | _ | _) <;> first | exact z | exact z.elim | skip
  obtain ⟨rfl, z⟩ := z
  first
    | exact wpAny_pure (wpAny_pure z)
    | (wp_walk; exact z)
theorem callK (F : ExcBaseFacts B newId initId bmB) (hT : ∀ X : String, bm.contains (.type X) = bmB.contains (.type X)) {rest : List Value} {kw : List (Str × Value)} {fI : Addr}
    (hC : h.get? C = some (excClassObj nm q C N bs bm hdct sn sub ab col dd k0 k1 k2 k3 k5 newId))
    (hi : W.Looks (model prog w) h (typeLookup (.ref C) "__init__") (some (.ref fI))) (hb : ∀ self, W.Looks (model prog w) h (bindSpecial (.ref fI) self) (.ref fI, [self])) (hrest : rest.length ≤ sizeLine)
    (hq : codeAny (model prog w) (A.under (.builtin "type.__call__" ⟨.ref C :: rest, kw⟩)) (.call (.ref fI) ⟨.ref (h.objs.size + 1) :: rest, kw⟩) (W.InitBack (h.objs.size + 1) R)
      ⟨(h.push (W.kdv_tup rest)).push (excO C h.objs.size), g, d, t, os⟩) :
    codeAny (model prog w) A (.call (.ref C) ⟨rest, kw⟩) R ⟨h, g, d, t, os⟩ := by
  have f1 := tc_lookup
  have f2 := tc_bind (.ref C)
  have hTy : (⟨h, g, d, t, os⟩ : Shared).TypeIs (.ref C) "type" := ⟨_, hC, rfl⟩
  refine codeAny_of_tree ?_
  show wpAny _ _ (callAny (.ref C) _) _ _ _
  repeat (any_goals (first | assumption | with_reducible refine wpAny_loadPart_at hC ?_ | wp_step))
  refine ⟨rfl, ?_⟩
  refine codeAny_call_builtin_at (Code.quiet_builtin _ (by decide +kernel)) entry_typeCall (check_typeK hC (typeCallK F hT hC hi hb hrest ?_))
  refine codeAny_mono hq fun r s' z => ?_
  rcases r with e | (v | _ | _ | _) <;> exact z
end
end XmkP
end PySem
namespace Rz
open PySem PySem.Spec PySem.W PyProof.Rows L2
section
variable {X : Cx} {pins : List (Addr × Obj)} {σ : L2.St}
/-- the error made stays as a value -/
theorem inv_xmk {H1 H2 : Hp} {hp hp2 h2 : Heap} {g1 g2 : Array GenState} {d1 d2 : Drawn} {t1 t2 : Nat} {os1 os2 : OsState} {a C d : Addr} {fs : List (Str × V)} (I1 : L2.Inv X pins σ H1 ⟨hp, g1, d1, t1, os1⟩)
    (ha : hp.objs.size ≤ a) (k : ∀ b o, hp.get? b = some o → hp2.get? b = some o) (un : Un (frs X.stack) [] (upd H1 a (exo a C none)) H2 hp2 h2) (hok : HOk X.prog X.w H2 h2) (ho : os2 = os1) (hb : AllBare g2)
    (ea : H2 a = some (exo a C (some d))) (ed : H2 d = some (exd d fs)) (hd1 : H1 d = none) : L2.Inv X pins σ (upd (upd H2 a (exG a (.ref C) (some d))) d (.xd fs)) ⟨h2, g2, d2, t2, os2⟩ := by
  obtain ⟨t0, hoe⟩ := exo_at hok ea
  obtain ⟨mA, hns, rel⟩ := exd_at hok ed
  have hn : H1 a = none := I1.hok.fresh ha
  have nha : ∀ {b : Addr} {o : Obj}, hp.get? b = some o → b ≠ a := fun {b o} z => Nat.ne_of_lt (Nat.lt_of_lt_of_le (Heap.lt_size z) ha)
  have up : ∀ {b : Addr}, b ≠ a → H1 b = none → upd H1 a (exo a C none) b = none := fun {b} hb n => by rw [upd_ne hb]; exact n
  have nd : ∀ {b : Addr} {o : Obj}, hp.get? b = some o → H1 b = none → b ≠ d := fun {b o} z n e => by
    have y := un.free b o (k b o z) (up (nha z) n) (by simp)
    rw [e, ed] at y
    cases y
  have U : Un (frs X.stack) [] H1 (upd (upd H2 a (exG a (.ref C) (some d))) d (.xd fs)) hp h2 := {
    keep := fun b o z n hf hx => un.keep b o (k b o z) (up (nha z) n) hf hx
    slot := fun b o z n hf hx => un.slot b o (k b o z) (up (nha z) n) hf hx
    free := fun b o z n hx => by
      rw [upd_ne (nd z n), upd_ne (nha z)]
      exact un.free b o (k b o z) (up (nha z) n) hx
    there := fun b o z hx => un.there b o (k b o z) hx
    tups := fun b xs z => by
      rw [upd_ne (ne_of_none z hd1), upd_ne (ne_of_none z hn)]
      exact un.tups b xs (by rw [upd_ne (ne_of_none z hn)]; exact z)
    frzs := fun b o v z => by
      rw [upd_ne (ne_of_none z hd1), upd_ne (ne_of_none z hn)]
      exact un.frzs b o v (by rw [upd_ne (ne_of_none z hn)]; exact z)
    tbls := fun b ps z => by
      rw [upd_ne (ne_of_none z hd1), upd_ne (ne_of_none z hn)]
      exact un.tbls b ps (by rw [upd_ne (ne_of_none z hn)]; exact z) }
  refine I1.call' (ch := []) ho U (fun b o z => ?_) hb (fun b z => absurd z (by simp))
  by_cases hbd : b = d
  · subst hbd
    rw [upd_same] at z
    cases z
    exact ⟨mA, hns, rel⟩
  · rw [upd_ne hbd] at z
    by_cases hba : b = a
    · subst hba
      rw [upd_same] at z
      cases z
      exact exG_ok hoe rfl ⟨rfl, rfl⟩
    · rw [upd_ne hba] at z
      exact (hok b o z).stay (fun c v hc y => y)
        (fun c hc => by rw [upd_ne (at_ne ed hc exd_own), upd_ne (at_ne ea hc exo_own)]; exact hc) (fun c xs hc => by rw [upd_ne (at_ne ed hc exd_tup), upd_ne (at_ne ea hc exo_tup)]; exact hc)
/-- an error class with fields, called -/
theorem call_xmk {CX : CXT} {C fI : Addr} {k : Nat} {fd : FuncData} {ps : List Str} {sp : Sp} {us us' : List Value} {kw : List (Str × Value)} {vs : List V} {H1 : Hp} {s1 : Shared} {Q : VK} (T : OexC X.K C) (iC : PySem.W.findIn X.K (.ref C) "__init__" = some (some (.ref fI))) (tI : PySem.W.typeIn X.K (.ref fI) = some (.type "function"))
    (F1 : FnOk X.prog X.w X.K X.mg X.base CX k fI fd ps sp) (hr : Room (k + 1) X.A) (hx : Passes CX X (fun _ _ _ => False)) (I1 : L2.Inv X pins σ H1 s1) (r1 : Vals vs us') (hus : us.length ≤ sizeLine)
    (hb : ∀ (s : Shared) (x : Value), X.K.In s.heap → BindsTo s fd ⟨x :: us, kw⟩ (ps.zip (x :: us')))
    (h : ∀ a, H1 a = none → sp (.ref a :: vs) (upd H1 a (exo a C none)) (fun v H2 => v = .non ∧ ∃ (d : Addr) (fs : List (Str × V)), H2 a = some (exo a C (some d)) ∧ H2 d = some (exd d fs) ∧ H1 d = none ∧ d ≠ a ∧ Q (.ref a) (upd (upd H2 a (exG a (.ref C) (some d))) d (.xd fs))) (fun _ _ _ => False)) :
    wpAny (model X.prog X.w) X.A (call (.ref C) us kw) (EP X pins σ Q) X.xe s1 := by
  obtain ⟨nm, q, N, bs, bm, sn, sub, ab, col, dd, k0, k1, k2, k3, k5, hC, hbm⟩ := T.cls
  obtain ⟨hp, g, dr, tk, os⟩ := s1
  have hsz : hp.objs.size ≤ hp.objs.size + 1 := Nat.le_succ _
  have hn : H1 (hp.objs.size + 1) = none := I1.hok.fresh hsz
  have hq := h (hp.objs.size + 1) hn
  have kk : ∀ b o, hp.get? b = some o → ((hp.push (PySem.W.kdv_tup us)).push (PySem.HandSPX.excO C hp.objs.size)).get? b = some o := fun b o e => Heap.get?_push_of_some _ (Heap.get?_push_of_some _ e)
  have hget : ((hp.push (PySem.W.kdv_tup us)).push (PySem.HandSPX.excO C hp.objs.size)).get? (hp.objs.size + 1) = some (PySem.HandSPX.excO C hp.objs.size) := by heap_get
  have I2 : L2.Inv X pins σ (upd H1 (hp.objs.size + 1) (exo (hp.objs.size + 1) C none)) ⟨(hp.push (PySem.W.kdv_tup us)).push (PySem.HandSPX.excO C hp.objs.size), g, dr, tk, os⟩ :=
    I1.laid (t' := tk) (a := hp.objs.size + 1) (o := exo (hp.objs.size + 1) C none) (h' := (hp.push (PySem.W.kdv_tup us)).push (PySem.HandSPX.excO C hp.objs.size)) kk hsz (exo_ok hget)
  have r2 : Vals (V.ref (hp.objs.size + 1) :: vs) (Value.ref (hp.objs.size + 1) :: us') := .cons rfl r1
  refine wpAny_call (PySem.XmkP.callK F.excBase_ValueError (fun Y => PySem.HandSPX.refsVE_contains Y bm hbm) (I1.kIn _ _ hC) (PySem.W.looks_findIn I1.kIn iC) (fun self => PySem.W.bind_fn I1.kIn self tI) hus
    (codeAny_mono (F1.run _ X.stack _ _ ⟨Value.ref (hp.objs.size + 1) :: us, kw⟩ (Value.ref (hp.objs.size + 1) :: us') _ _ (fun _ _ _ => False) (hr.make C us kw) (I2.env0.make C us kw) (hb _ _ I2.kIn) r2 hq) fun r s' hq' => ?_))
  cases r with
  | error er => exact hx pins σ _ _ er s' I2 hq'
  | ok fl =>
    cases fl with
    | ret u =>
      obtain ⟨v, H2, os2, bare2, un2, hok2, rv, ev, d, fs, ea, ed, hd1, _, q2⟩ := hq'
      subst ev
      obtain ⟨h2, g2, d2, t2, os'⟩ := s'
      exact ⟨rv, .ref (hp.objs.size + 1), _, inv_xmk I1 hsz kk un2 hok2 os2 bare2 ea ed hd1, rfl, q2⟩
    | next => exact False.elim hq'
    | brk => exact False.elim hq'
    | cont => exact False.elim hq'
end
end Rz
namespace Rz
open PySem PySem.Spec PySem.W PyProof.Rows L2
def veB : List Value := [.type "ValueError", .type "Exception", .type "BaseException", .type "object"]
theorem upd3_mk {H : Hp} {a d : Addr} {x y z u v : HO} (n : d ≠ a) : upd (upd (upd (upd (upd H a x) d y) a z) a u) d v = upd (upd H a u) d v := by
  funext b
  by_cases h1 : b = d
  · subst h1; rw [upd_same, upd_same]
  · rw [upd_ne h1, upd_ne h1]
    by_cases h2 : b = a
    · subst h2; rw [upd_same, upd_same]
    · rw [upd_ne h2, upd_ne h2, upd_ne h1, upd_ne h2, upd_ne h2]
section
variable {S : Type} [Pen S] {Z : Cz S} {G : Fm} {W : WX} {X : Cx} {pos : Pos}
/-- what is asked of an error class that is called -/
def XMk (Z : Cz S) (X : Cx) (c : Nat) : Prop := ∃ (fI : Addr) (fd : FuncData) (n : Str) (ps fs : List Str), OexC X.K (Z.T.cA c) ∧ findIn X.K (.ref (Z.T.cA c)) "__init__" = some (some (.ref fI)) ∧ typeIn X.K (.ref fI) = some (.type "function") ∧
  FnOk X.prog X.w X.K X.mg X.base (CX X.prog X.w) 1 fI fd (n :: ps) (spX X.K (Z.T.cA c) fs) ∧ Room 2 X.A ∧ PlainK fd (n :: ps) ∧ L2.Binds X.K fd (n :: ps) [] ∧ fs.length ≤ 900 ∧ ps.length = fs.length ∧ Z.T.fld c = fs.reverse ∧ Z.P.exc c = some fs.length ∧ Z.P.xps c = ps
theorem de_xmk {c : Nat} {x : Str} {args : List Expr} {cs ws : CAs} {kws : List Keyword} {ks : List Str} {p : Pos} (hK : X.K = Z.T.K) (xm : XMk Z X c) (tk : Takes X W) (hg : Gl X x) (hm : X.mg x = some (.ref (Z.T.cA c))) (hk : keepIn X.K (.ref (Z.T.cA c)) = true)
    (hs : args.any isStar = false) (ha : ArgsZ Z G W X args cs) (hw : KwsZ Z G W X kws ks ws) (hd : (x == ("__debug__" : Str)) = false) : PE X (.Call (.Name x p) args kws pos) (tD Z G W (.xmk c cs ks ws)) := by
  refine ⟨fun pins sh σ H Q I h => ?_⟩
  obtain ⟨F0, τ, s, q, h⟩ := h
  obtain ⟨fI, fd, n, ps, fs, T, iC, tI, F1, hr, hpk, hb, hfl, hlen, hfld, hex, hxp⟩ := xm
  simp only [ev] at h
  refine wpAny_Call_Name_kw (ld_glob I hg hm ?_ hd)
  refine callWith_zk (first := []) (Kq := fun vs zs H1 => vs.length ≤ 900 ∧ ∃ vs', vs'.length = fs.length ∧ (∀ a dx, H1 a = none → H1 dx = none → dx ≠ a → Q (.ref a) (upd (upd H1 a (exG a (.ref (Z.T.cA c)) (some dx))) dx (.xd ((fs.zip vs').reverse)))) ∧
      (∀ us wv, Vals vs us → Vals zs wv → ∃ us', Vals vs' us' ∧ ∀ fd pre (us0 : List Value), us0.length = pre.length → PlainK fd (pre ++ ps) → bindArgs fd ⟨us0 ++ us, ks.zip wv⟩ = bindArgs fd ⟨us0 ++ us', []⟩)) hK hk hs ha hw I
    ⟨F0, τ, s, q, h.bind fun ys vs τ1 s1 F1 H1 e1 q1 r1 h1 => ⟨F1, τ1, s1, q1, h1.bind fun yz zs τ3 s3 F3 H3 e3 q3 r3 h3 => ?_⟩⟩ fun us wv s2 vs zs H2 I2 r r2 ⟨hvl, vs', hl', hq, av⟩ => ?_
  · rw [hxp] at h3
    cases ea : arrG ps ys ks yz with
    | none => rw [ea] at h3; exact h3.elim
    | some xs =>
      rw [ea] at h3
      dsimp only at h3
      obtain ⟨hb2, h3⟩ := h3.bif
      obtain ⟨vs', rv, av⟩ := arrG_ok ea (r1.mono e3) r3
      have hxl : xs.length = fs.length := by
        have := beq_iff_eq.mp hb2
        rw [hex] at this
        exact (Option.some.inj this).symm
      have hvl : vs'.length = fs.length := by rw [rv.length, hxl]
      refine ⟨?_, vs', hvl, fun a dx hna hdx hne => ?_, av⟩
      · have : ys.length ≤ ps.length := by
          unfold arrG at ea
          obtain ⟨h1', _⟩ := bif_some ea
          simp only [Bool.and_eq_true, decide_eq_true_eq] at h1'
          omega
        rw [r1.length]; omega
      · have hF : F3 a = none := q3.fh.none hna
        have q4 := q3.new (o := exG a (.ref (Z.T.cA c)) (some dx)) hna
        have hdx2 : upd H3 a (exG a (.ref (Z.T.cA c)) (some dx)) dx = none := by rw [upd_ne hne]; exact hdx
        have hF2 : upd F3 a (exG a (.ref (Z.T.cA c)) (some dx)) dx = none := q4.fh.none hdx2
        have q5 := q4.new (o := .xd ((fs.zip vs').reverse)) hdx2
        have k : Sub F3 (upd (upd F3 a (exG a (.ref (Z.T.cA c)) (some dx))) dx (.xd ((fs.zip vs').reverse))) := (Sub.new hF).trans (Sub.new hF2)
        refine h3 _ _ _ k q5 ⟨a, some dx, rfl, by rw [upd_ne (Ne.symm hne), upd_same], .inr ⟨dx, vs'.reverse, rfl, ?_, by rw [List.length_reverse, hfld, List.length_reverse]; omega, (rv.mono k).reverse⟩⟩
        rw [upd_same, hfld, ← zip_rev hvl.symm]
  · obtain ⟨us', rv', hb'⟩ := av us wv r r2
    refine call_xmk (CX := CX X.prog X.w) T iC tI F1 hr (passes_call tk fun _ _ _ _ z => z.elim) I2 rv' (by show us.length ≤ sizeLine; rw [← Paired.length r, sizeLine_eq]; omega) (fun s' x' kin => ?_) fun a na => ?_
    · have e : bindArgs fd ⟨x' :: us, ks.zip wv⟩ = bindArgs fd ⟨x' :: us', []⟩ := hb' fd [n] [x'] rfl hpk
      have z := hb s' (x' :: us') kin (by rw [List.append_nil, List.length_cons, List.length_cons, ← Paired.length rv', hl', hlen])
      rw [List.append_nil] at z
      show BindsTo s' fd ⟨x' :: us, ks.zip wv⟩ ((n :: ps).zip (x' :: us'))
      unfold BindsTo at z ⊢
      rw [e]; exact z
    · refine ⟨a, vs', rfl, hl', upd_same, fun dx hdx hne => ?_⟩
      have ndx : H2 dx = none := by rw [upd_ne hne] at hdx; exact hdx
      refine ⟨rfl, dx, (fs.zip vs').reverse, upd_same, by rw [upd_ne hne, upd_same], ndx, hne, ?_⟩
      rw [upd3_mk hne]
      exact hq a dx na ndx hne
/-- C(), an own class without __init__ -/
theorem de_xmk0 {c : Nat} {x : Str} {p : Pos} {bmB : List Value} {B newId initId : String} (Fb : ExcBaseFacts B newId initId bmB) (q : excIn X.K (Z.T.cA c) bmB newId = true) (gC : X.mg x = some (.ref (Z.T.cA c))) (kC : keepIn X.K (.ref (Z.T.cA c)) = true) (hg : Gl X x)
    (hdb : (x == ("__debug__" : Str)) = false) : PE X (.Call (.Name x p) [] [] pos) (tD Z G W (.xmk0 c)) := by
  refine ⟨fun pins sh σ H Q I h => ?_⟩
  obtain ⟨F0, τ, s, q0, h⟩ := h
  simp only [ev] at h
  obtain ⟨hb2, h⟩ := h.bif
  refine wpAny_Call_Name_kw (ld_glob I hg gC ?_ hdb)
  refine PySem.W.callWith_K0 I.kIn kC ?_
  show wpAny _ _ (call (.ref (Z.T.cA c)) []) _ _ _
  obtain ⟨bm, N, nm, qn, bs, hdct, sn, sub, ab, col, dd, k0, k1, k2, k3, k5, mN, hC, hN, hni, T⟩ := exc_obj I.kIn q
  refine wpAny_call_exc_subT Fb T hC hN hni (fun h' e hm => ?_) (Nat.zero_le _)
  obtain ⟨t, he, _, _⟩ := hm.there
  have na : H e = none := I.hok.gone hm.new
  have U : Un X.fs [] H (upd H e (exG e (.ref (Z.T.cA c)) none)) sh.heap h' := {
    keep := fun b u q _ _ _ => hm.keeps b u q
    slot := fun b u q _ _ _ => ⟨u.slots, hm.keeps b u q⟩
    free := fun b u q n _ => by
      rw [upd_ne (fun z => by rw [z, hm.new] at q; cases q)]; exact n
    there := fun b u q _ => ⟨u, hm.keeps b u q⟩
    tups := fun b xs q => by rw [upd_ne (ne_of_none q na)]; exact q
    frzs := fun b u xs q => by rw [upd_ne (ne_of_none q na)]; exact q
    tbls := fun b ps q => ⟨#[], by rw [upd_ne (ne_of_none q na), q]; simp⟩ }
  have hk : HOk X.prog X.w (upd H e (exG e (.ref (Z.T.cA c)) none)) h' := fun b o z => by
    by_cases hb : b = e
    · subst hb
      rw [upd_same] at z
      cases z
      exact exG_ok he rfl ⟨rfl, rfl⟩
    · rw [upd_ne hb] at z
      exact (I.hok b o z).stay (fun c u _ q => hm.keeps c u q) (fun c hc => by rw [upd_ne (ne_of_none hc na)]; exact hc) (fun c xs hc => by rw [upd_ne (ne_of_none hc na)]; exact hc)
  have J := I.un (t' := sh.toks) U hk
  have hF : F0 e = none := q0.fh.none na
  exact ⟨.ref e, _, J, rfl, h _ _ _ (Sub.new hF) (q0.new na) ⟨e, none, rfl, upd_same, .inl ⟨rfl, rfl⟩⟩⟩
end
end Rz
end

section
set_option autoImplicit false
set_option Elab.async false
set_option linter.all false
set_option maxHeartbeats 2000000
set_option maxRecDepth 100000
namespace Rz
open PySem PySem.Spec PySem.W PyProof.Rows L2

/-- the names of the module -/
structure Tab where
  fns : List (Str × Nat)
  cls : List (Str × Nat)
  gls : List (Str × Nat)
  bis : List Str
  us : List Str
  gts : List (Str × Nat)
  lams : List Nat := []
  /-- error classes without fields -/
  rai : List Nat := []
  /-- error classes that take fields -/
  rain : List Nat := []
  /-- error classes that are called -/
  xmks : List Nat := []
/-- the names of a def's body, or of a block in it -/
structure Sta where
  N : List Str
  sc : Scope
  fn : Str → Bool
  /-- in a try of a def that got a lambda -/
  tr : Bool
  /-- in a def that got a lambda -/
  ak : Bool
  /-- lambdas may be made -/
  lm : Bool
def Sta.try (st : Sta) : Sta := ⟨st.N, st.sc, st.fn, st.ak, st.ak, st.lm⟩
def Sta.lamb (st : Sta) (scope : Scope) : Sta := ⟨st.N, scope, fun _ => false, false, st.ak, false⟩
def noPar : Arguments → Bool
  | ⟨[], [], none, [], [], none, []⟩ => true
  | _ => false

section
variable (t : Tab)
def isGl (st : Sta) (x : Str) : Bool := decide (st.sc.names.lookup x = some .globalImplicit)
def isVis (st : Sta) (x : Str) : Bool := decide (st.sc.names.lookup x = some .local) || decide (st.sc.names.lookup x = some .cell) || decide (st.sc.names.lookup x = some .free)
def isLoc (st : Sta) (x : Str) : Bool := decide (st.sc.names.lookup x = some .local) || (decide (st.sc.names.lookup x = some .cell) && st.fn x)
def okNm (x : Str) : Bool := !(x == ("__debug__" : Str)) && !(x == ("__classdict__" : Str))
def Sta.blk (st : Sta) (scope : Scope) : Sta := ⟨st.N, relS scope st.sc, fun x => scope.names.lookup x == some .cell, false, st.ak, false⟩
def isBi (st : Sta) (x y : Str) : Bool := decide (x = y) && isGl st x && t.bis.contains x
def constD : Const → D → Bool
  | .none, .non => true
  | .bool b, .bl c => b == c
  | .int i, .int j => i == j
  | .str a, .str b => decide (a = b)
  | _, _ => false
def chkTn (st : Sta) (e : Expr) (n : Tn) : Bool :=
  match n with
  | .ty n => match e with
    | .Name x _ => isGl st x && t.bis.contains x && decide (bootBuiltins x = some (.type n)) && !(x == ("__debug__" : Str)) && !(x == ("__name__" : Str))
    | _ => false
  | .cl c => match e with
    | .Name x _ => isGl st x && decide (t.cls.lookup x = some c) && okNm x
    | _ => false
def chkTns (st : Sta) : List Expr → List Tn → Bool
  | [], [] => true
  | e :: es, n :: ns => chkTn t st e n && chkTns st es ns
  | _, _ => false
def chkNm (st : Sta) (e : Expr) (i : Nat) : Bool :=
  match e with
  | .Name x _ => decide (st.N[i]? = some x) && isLoc st x
  | _ => false
def chkNms (st : Sta) : List Expr → List Nat → Bool
  | [], [] => true
  | e :: es, i :: is => chkNm st e i && chkNms st es is
  | _, _ => false
def chkTg (st : Sta) (e : Expr) (g : Tg) : Bool :=
  match g with
  | .one i => chkNm st e i
  | .many is => match e with
    | .Tuple es _ _ => chkNms st es is
    | _ => false
  | .two is js => match e with
    | .Tuple [.Tuple e1 _ _, .Tuple e2 _ _] _ _ => chkNms st e1 is && chkNms st e2 js
    | _ => false
def isTup : Expr → Bool
  | .Tuple _ _ _ => true
  | _ => false
def notSet : Expr → Bool
  | .Set _ _ _ => false
  | _ => true
def ownOf (st : Sta) (g : Tg) : List (Str × Nat) := g.slots.map fun i => (st.N.getD i "?", i)

mutual
def chkE : Nat → Sta → Expr → CE → Bool
  | 0, _, _, _ => false
  | n + 1, st, e, c => match c with
    | .never => true
    | .ask => match e with
      | .Call (.Name x _) [] [] _ => st.tr && decide (st.N[0]? = some x) && isVis st x && okNm x
      | _ => false
    | .lam f b => match e with
      | .Call (.Name x _) [.Lambda params body scope _] [] _ => st.lm && isGl st x && decide (t.fns.lookup x = some f) && okNm x && t.lams.contains f && noPar params && LamX.lamSB st.sc scope && chkE n (st.lamb scope) body b
      | _ => false
    | .isx i k => match e with
      | .Call (.Name f _) [.Name x _, y] [] _ => isBi t st f "isinstance" && decide (st.N[i]? = some x) && isVis st x && okNm x && chkTn t st y (.ofX k)
      | _ => false
    | .xat i m => match e with
      | .Attribute (.Name x _) f _ => decide (st.N[i]? = some x) && isVis st x && okNm x && decide (f = nmOf t.us m)
      | _ => false
    | .v i => match e with
      | .Name x _ => decide (st.N[i]? = some x) && isVis st x && okNm x
      | _ => false
    | .k d => match e with
      | .Constant k _ _ => constD k d
      | _ => false
    | .g j => match e with
      | .Name x _ => isGl st x && decide (t.gls.lookup x = some j) && okNm x
      | _ => false
    | .bin o a b => match e with
      | .BinOp l p r _ => decide (p = o) && chkE n st l a && chkE n st r b
      | _ => false
    | .un o a => match e with
      | .UnaryOp p x _ => decide (p = o) && chkE n st x a
      | _ => false
    | .cmp o a b => match e with
      | .Compare x [p] [y] _ => decide (p = o) && !behindInMarks p y && chkE n st x a && chkE n st y b
      | _ => false
    | .chain o p a b c => match e with
      | .Compare x [o', p'] [y, z] _ => decide (o' = o) && decide (p' = p) && !lastMarks [o', p'] [y, z] && chkE n st x a && chkE n st y b && chkE n st z c
      | _ => false
    | .and a b => match e with
      | .BoolOp .And (x :: y :: r) p => chkE n st x a && chkB n .And st (y :: r) p b
      | _ => false
    | .or a b => match e with
      | .BoolOp .Or (x :: y :: r) p => chkE n st x a && chkB n .Or st (y :: r) p b
      | _ => false
    | .tand _ _ => false
    | .tor _ _ => false
    | .not a => match e with
      | .UnaryOp .Not x _ => chkE n st x a
      | _ => false
    | .ite c a b => match e with
      | .IfExp x y z _ => chkT n st x c && chkE n st y a && chkE n st z b
      | _ => false
    | .tup cs => match e with
      | .Tuple es _ _ => chkA n st es cs
      | _ => false
    | .lst cs => match e with
      | .List es _ => chkA n st es cs
      | _ => false
    | .call f cs => match e with
      | .Call (.Name x _) args [] _ => isGl st x && decide (t.fns.lookup x = some f) && okNm x && argsOk args && chkA n st args cs
      | _ => false
    | .make k cs => match e with
      | .Call (.Name x _) args [] _ => isGl st x && decide (t.cls.lookup x = some k) && okNm x && argsOk args && chkA n st args cs
      | _ => false
    | .makeV i k cs => match e with
      | .Call (.Name x _) args [] _ => decide (st.N[i]? = some x) && isVis st x && okNm x && (t.cls.map (·.1)).any (fun y => decide (t.cls.lookup y = some k)) && argsOk args && chkA n st args cs
      | _ => false
    | .meth o m cs => match e with
      | .Call (.Attribute b x ap) args [] p => decide (nmOf t.us m = x) && baseOk b && methOk args ap p && chkE n st b o && chkA n st args cs
      | _ => false
    | .smeth k m cs => match e with
      | .Call (.Attribute (.Name x _) y ap) args [] p => isGl st x && decide (t.cls.lookup x = some k) && okNm x && decide (nmOf t.us m = y) && methOk args ap p && chkA n st args cs
      | _ => false
    | .methK o m cs ks ws => match e with
      | .Call (.Attribute b x ap) args kws p => decide (nmOf t.us m = x) && baseOk b && methOkK args kws ap p && chkE n st b o && chkA n st args cs && chkK n st kws ks ws
      | _ => false
    | .smethK k m cs ks ws => match e with
      | .Call (.Attribute (.Name x _) y ap) args kws p => isGl st x && decide (t.cls.lookup x = some k) && okNm x && decide (nmOf t.us m = y) && methOkK args kws ap p && chkA n st args cs && chkK n st kws ks ws
      | _ => false
    | .attr o m => match e with
      | .Attribute b x _ => decide (nmOf t.us m = x) && baseOk b && chkE n st b o
      | _ => false
    | .bi b cs => match e with
      | .Call (.Name x _) args [] _ => isBi t st x b.nm && !args.isEmpty && !args.any isStar && chkA n st args cs
      | _ => false
    | .isi a ts => match e with
      | .Call (.Name x _) [y, z] [] _ => isBi t st x "isinstance" && !isStar y && chkE n st y a && (match z with
        | .Tuple zs _ _ => !ts.isEmpty && decide (ts.length ≤ 100) && chkTns t st zs ts
        | z => match ts with
          | [u] => chkTn t st z u
          | _ => false)
      | _ => false
    | .ix a b => match e with
      | .Subscript x y _ => ixOk y && chkE n st x a && chkE n st y b
      | _ => false
    | .sl a lo hi => match e with
      | .Subscript x (.Slice l h none _) _ => chkE n st x a && chkO n st l lo && chkO n st h hi
      | _ => false
    | .nl w => chkL n st e w
    | .callO o cs => match e with
      | .Call (.Name x p) args [] _ => !args.isEmpty && !args.any isStar && chkE n st (.Name x p) o && chkA n st args cs
      | .Call (.Call a b c d) args [] _ => !args.isEmpty && !args.any isStar && chkE n st (.Call a b c d) o && chkA n st args cs
      | _ => false
    | .bx b c => match e with
      | .Call (.Name x _) [y] [] _ => (decide (b = .bool) || decide (b = .str)) && isBi t st x b.nm && !isStar y && chkE n st y c
      | _ => false
    | .join a b => match e with
      | .Call (.Attribute x m ap) [y] [] p => decide (m = "join") && baseOk x && (ap.endLine == p.line) && !isStar y && chkE n st x a && chkE n st y b
      | _ => false
    | .split a b => match e with
      | .Call (.Attribute x m ap) [y] [] p => decide (m = "split") && baseOk x && (ap.endLine == p.line) && !isStar y && chkE n st x a && chkE n st y b
      | _ => false
    | .pix a k => match e with
      | .Subscript x (.Constant c _ _) _ => !st.ak && keyC c k && chkE n st x a
      | _ => false
    | .dct kk cs => match e with
      | .Dict ks vs _ => decide (ks.length ≤ 15) && chkD n st ks vs kk cs
      | _ => false
    | .gix j b => match e with
      | .Subscript (.Name x _) y _ => isGl st x && decide (t.gts.lookup x = some j) && okNm x && ixOk y && chkE n st y b
      | _ => false
    | .cl k => match e with
      | .Name x _ => isGl st x && decide (t.cls.lookup x = some k) && okNm x
      | _ => false
    | .callF f cs ks ws => match e with
      | .Call (.Name x _) args kws _ => isGl st x && decide (t.fns.lookup x = some f) && okNm x && !args.any isStar && !kws.isEmpty && chkA n st args cs && chkK n st kws ks ws
      | _ => false
    | .rev a => match e with
      | .Subscript x (.Slice none none (some (.UnaryOp .USub (.Constant (.int 1) _ _) _)) _) _ => chkE n st x a
      | _ => false
    | .xmk c cs ks ws => match e with
      | .Call (.Name x _) args kws _ => isGl st x && decide (t.cls.lookup x = some c) && okNm x && !args.any isStar && t.xmks.contains c && chkA n st args cs && chkK n st kws ks ws
      | _ => false
    | .xmk0 c => match e with
      | .Call (.Name x _) [] [] _ => isGl st x && decide (t.cls.lookup x = some c) && okNm x && t.rai.contains c
      | _ => false
    | .makeK c cs ks ws => match e with
      | .Call (.Name x _) args kws _ => isGl st x && decide (t.cls.lookup x = some c) && okNm x && !args.any isStar && !kws.isEmpty && chkA n st args cs && chkK n st kws ks ws
      | _ => false
    | .dcomp kt vt tg it => match e with
      | .DictComp kx vx [⟨te, iter, ifs, as⟩] scope _ => decide (as = 0) && ifs.isEmpty && notSet iter && chkI n st te iter it && blkC st.N st.sc scope (ownOf st tg) && chkTg (st.blk scope) te tg && chkE n (st.blk scope) kx kt && chkE n (st.blk scope) vx vt
      | _ => false
    | .dof a => match e with
      | .Call (.Name x _) [y] [] _ => isBi t st x "dict" && !isStar y && chkE n st y a
      | _ => false
    | .callK o es ks ws => match e with
      | .Call (.Name x p) [] [⟨some k, v, _⟩] _ => (match es, ws with
        | .nil, .cons false w .nil => decide (ks = [k]) && chkE n st (.Name x p) o && chkE n st v w
        | _, _ => false)
      | _ => false
def chkB : Nat → BoolOp → Sta → List Expr → Pos → CE → Bool
  | 0, _, _, _, _, _ => false
  | n + 1, op, st, es, p, c => match es with
    | [x] => chkE n st x c
    | es => chkE n st (.BoolOp op es p) c
def chkO : Nat → Sta → Option Expr → CO → Bool
  | 0, _, _, _ => false
  | n + 1, st, e, c => match c with
    | .no => e.isNone
    | .yes c => match e with
      | some e => chkE n st e c
      | none => false
def chkT : Nat → Sta → Expr → CE → Bool
  | 0, _, _, _ => false
  | n + 1, st, e, c => match c with
    | .not a => match e with
      | .UnaryOp .Not x _ => chkT n st x a
      | _ => false
    | .tand _ _ => match e with
      | .BoolOp .And es _ => chkW n .And st es c
      | _ => false
    | .tor _ _ => match e with
      | .BoolOp .Or es _ => chkW n .Or st es c
      | _ => false
    | .cmp o a b => match e with
      | .Compare x [p] [y] _ => decide (p = o) && !behindInMarks p y && chkE n st x a && chkE n st y b
      | _ => false
    | .chain o p a b c => match e with
      | .Compare x [o', p'] [y, z] _ => decide (o' = o) && decide (p' = p) && !lastMarks [o', p'] [y, z] && chkE n st x a && chkE n st y b && chkE n st z c
      | _ => false
    | c => plainTest e && chkE n st e c
def chkW : Nat → BoolOp → Sta → List Expr → CE → Bool
  | 0, _, _, _, _ => false
  | n + 1, op, st, es, c => match es with
    | [] => false
    | [x] => chkT n st x c
    | x :: y :: r => match op with
      | .And => match c with
        | .tand a b => chkT n st x a && chkW n .And st (y :: r) b
        | _ => false
      | .Or => match c with
        | .tor a b => chkT n st x a && chkW n .Or st (y :: r) b
        | _ => false
def chkA : Nat → Sta → List Expr → CAs → Bool
  | 0, _, _, _ => false
  | n + 1, st, es, cs => match cs with
    | .nil => es.isEmpty
    | .cons true c r => match es with
      | .Starred e _ :: es => chkE n st e c && chkA n st es r
      | _ => false
    | .cons false c r => match es with
      | e :: es => !isStar e && chkE n st e c && chkA n st es r
      | _ => false
def chkK : Nat → Sta → List Keyword → List Str → CAs → Bool
  | 0, _, _, _, _ => false
  | n + 1, st, kws, ks, ws => match ws with
    | .nil => kws.isEmpty && ks.isEmpty
    | .cons false c r => match kws with
      | ⟨some k, e, _⟩ :: kws => match ks with
        | l :: ks => decide (k = l) && chkE n st e c && chkK n st kws ks r
        | [] => false
      | _ => false
    | .cons true _ _ => false
def chkD : Nat → Sta → List (Option Expr) → List Expr → List Key → CAs → Bool
  | 0, _, _, _, _, _ => false
  | n + 1, st, ks, vs, kk, cs => match cs with
    | .nil => ks.isEmpty && vs.isEmpty && kk.isEmpty
    | .cons false c r => match ks, vs, kk with
      | some (.Constant kc _ _) :: ks, v :: vs, k :: kk => keyC2 kc k && chkE n st v c && chkD n st ks vs kk r
      | _, _, _ => false
    | .cons true _ _ => false
def chkC : Nat → Sta → List Expr → CAs → Bool
  | 0, _, _, _ => false
  | n + 1, st, es, cs => match cs with
    | .nil => es.isEmpty
    | .cons false c .nil => match es with
      | [e] => chkT n st e c
      | _ => false
    | _ => false
def chkI : Nat → Sta → Expr → Expr → CI → Bool
  | 0, _, _, _, _ => false
  | n + 1, st, tg, e, c => match c with
    | .e c => chkE n st e c
    | .r1 a => match e with
      | .Call (.Name x _) [y] [] _ => isBi t st x "range" && !isStar y && chkE n st y a
      | _ => false
    | .r2 a b => match e with
      | .Call (.Name x _) [y, z] [] _ => isBi t st x "range" && !isStar y && !isStar z && chkE n st y a && chkE n st z b
      | _ => false
    | .rd a b => match e with
      | .Call (.Name x _) [y, z, .UnaryOp .USub (.Constant (.int 1) _ _) _] [] _ => isBi t st x "range" && !isStar y && !isStar z && chkE n st y a && chkE n st z b
      | _ => false
    | .en a => match e with
      | .Call (.Name x _) [y] [] _ => isTup tg && isBi t st x "enumerate" && !isStar y && chkE n st y a
      | _ => false
    | .zip a b => match e with
      | .Call (.Name x _) [y, z] [] _ => isTup tg && isBi t st x "zip" && !isStar y && !isStar z && chkE n st y a && chkE n st z b
      | _ => false
def chkL : Nat → Sta → Expr → CW → Bool
  | 0, _, _, _ => false
  | n + 1, st, e, w => match w with
    | .lst cs => match e with
      | .List es _ => chkA n st es cs
      | _ => false
    | .of a => match e with
      | .Call (.Name x _) [y] [] _ => isBi t st x "list" && !isStar y && chkE n st y a
      | _ => false
    | .add a b => match e with
      | .BinOp x .Add y _ => chkE n st x a && chkE n st y b
      | _ => false
    | .lr a => match e with
      | .Call (.Name x _) [.Call (.Name x2 _) [y] [] _] [] _ => isBi t st x "list" && isBi t st x2 "range" && !isStar y && chkE n st y a
      | _ => false
    | .lr2 a b => match e with
      | .Call (.Name x _) [.Call (.Name x2 _) [y, z] [] _] [] _ => isBi t st x "list" && isBi t st x2 "range" && !isStar y && !isStar z && chkE n st y a && chkE n st z b
      | _ => false
    | .mul a b => match e with
      | .BinOp x .Mult y _ => chkE n st x a && chkE n st y b
      | _ => false
    | .sset a => match e with
      | .Call (.Name x _) [.Call (.Name x2 _) [y] [] _] [] _ => isBi t st x "sorted" && isBi t st x2 "set" && !isStar y && chkE n st y a
      | _ => false
    | .lc elt tg it cs => match e with
      | .ListComp el [⟨te, iter, ifs, as⟩] scope _ => decide (as = 0) && notSet iter && chkI n st te iter it && blkC st.N st.sc scope (ownOf st tg) && chkTg (st.blk scope) te tg && chkC n (st.blk scope) ifs cs && chkE n (st.blk scope) el elt
      | _ => false
end
end

/-! ### what is told of a context -/
structure CxZ {S : Type} [Pen S] (Z : Cz S) (t : Tab) (st : Sta) (W : WX) (X : Cx) : Prop where
  z : Sz Z t.us X
  tk : Takes X W
  calm : X.calm = true
  nd : X.N.Nodup
  hN : X.N = st.N
  hsc : X.env.scope = st.sc
  hfn : ∀ x, st.fn x = true → X.fn x = true
  fns : ∀ x f, t.fns.lookup x = some f → X.mg x = some (.ref (Z.T.fA f)) ∧ keepIn X.K (.ref (Z.T.fA f)) = true
  cls : ∀ x c, t.cls.lookup x = some c → X.mg x = some (.ref (Z.T.cA c)) ∧ keepIn X.K (.ref (Z.T.cA c)) = true
  gls : ∀ x j, t.gls.lookup x = some j → ∃ u v, X.mg x = some u ∧ RelV v u ∧ ∀ F, Rep Z.T F (Z.P.gl j) v
  bis : ∀ x, t.bis.contains x = true → X.mg x = none
  gts : ∀ x j, t.gts.lookup x = some j → ∃ a, X.mg x = some (.ref a) ∧ GtZ Z.T a (Z.P.gt j)
  cfi : ∀ c f, Z.P.meth c mCall = some f → fnIn Z.T.K (Z.T.fA f) = true
  kwo : ∀ f, Z.P.kwn f ≠ [] → KwOk Z.T.K (Z.T.fA f) (Z.P.kwn f)
  ini : ∀ c f, Z.P.init c = some f → findIn Z.T.K (.ref (Z.T.cA c)) "__init__" = some (some (.ref (Z.T.fA f)))
  pno : st.ak = false → PenOk Z
  sm : ∀ c m f, Z.P.smeth c m = some (false, f) → SmZ Z.T c (nmOf t.us m) f
  smt : ∀ c m f, Z.P.smeth c m = some (true, f) → CmZ Z.T c (nmOf t.us m) f
  xz : Xz Z t.us X
  xm : ∀ c, t.xmks.contains c = true → XMk Z X c
  xm0 : ∀ c, t.rai.contains c = true → excIn X.K (Z.T.cA c) veB "ValueError.__new__" = true
  askE : st.tr = true → ∀ (a : Str) (p1 p2 : Pos) (G : Fm), st.N[0]? = some a → PE X (.Call (.Name a p1) [] [] p2) (tD Z G W .ask)
  lt : st.lm = true → LamT Z X
  lfs : st.lm = true → ∀ f, t.lams.contains f = true → ∃ b, (∀ ds s, Z.call f ds s = .no ∨ Z.call f ds s = runL Z.P b ds s) ∧ LamG Z X.prog X.w X.K X.mg X.base f b

section
variable {S : Type} [Pen S] {Z : Cz S} {t : Tab} {st : Sta} {W : WX} {X : Cx}
theorem CxZ.gl (h : CxZ Z t st W X) {x : Str} (e : isGl st x = true) : Gl X x := by
  show X.env.scope.names.lookup x = _
  rw [h.hsc]; exact of_decide_eq_true e
theorem CxZ.vis (h : CxZ Z t st W X) {x : Str} (e : isVis st x = true) : Vis X.env.scope x := by
  unfold Vis
  rw [h.hsc]
  simp only [isVis, Bool.or_eq_true, decide_eq_true_eq] at e
  rcases e with (e | e) | e
  · exact .inl e
  · exact .inr (.inl e)
  · exact .inr (.inr e)
theorem CxZ.nm (h : CxZ Z t st W X) {x : Str} {i : Nat} (e : (decide (st.N[i]? = some x) && isLoc st x) = true) : nmOk X i x := by
  simp only [Bool.and_eq_true, decide_eq_true_eq, isLoc, Bool.or_eq_true] at e
  refine ⟨by rw [h.hN]; exact e.1, ?_, ?_⟩
  · unfold L2.Loc
    rw [h.hsc]
    rcases e.2 with k | k
    · exact .inl k
    · exact .inr k.1
  · rw [h.hsc]
    rcases e.2 with k | k
    · exact .inr k
    · exact .inl (h.hfn x k.2)
theorem CxZ.bi (h : CxZ Z t st W X) {x y : Str} (e : isBi t st x y = true) : x = y ∧ Gl X x ∧ X.mg x = none := by
  simp only [isBi, Bool.and_eq_true, decide_eq_true_eq] at e
  exact ⟨e.1.1, h.gl e.1.2, h.bis x e.2⟩
theorem okNm_of {x : Str} (h : okNm x = true) : (x == ("__debug__" : Str)) = false ∧ (x == ("__classdict__" : Str)) = false := by
  simp only [okNm, Bool.and_eq_true, Bool.not_eq_true'] at h
  exact h
theorem CxZ.blk (h : CxZ Z t st W X) (s : Shared) (H : Hp) (scope : Scope) (cl : List (Str × Addr)) (C : Addr) (fp : List Addr) : CxZ Z t (st.blk scope) WF (X.blk s H scope (compEnvC scope cl C X.env) fp) where
  z := ⟨h.z.hK, h.z.fz, h.z.fi, h.z.hu, h.z.meth, h.z.opL, h.z.opR, h.z.cmp, h.z.own, h.z.sub, h.z.fld, h.z.prop, h.z.con⟩
  tk := takes0
  calm := h.calm
  nd := h.nd
  hN := h.hN
  hsc := by
    show relS scope X.env.scope = relS scope st.sc
    rw [h.hsc]
  hfn := fun x e => e
  fns := h.fns
  cls := h.cls
  gls := h.gls
  bis := h.bis
  gts := h.gts
  cfi := h.cfi
  kwo := h.kwo
  ini := h.ini
  pno := h.pno
  sm := h.sm
  smt := h.smt
  xz := ⟨h.xz.ec, h.xz.sub, h.xz.nv, h.xz.fd⟩
  xm := h.xm
  xm0 := h.xm0
  askE := fun z => by cases z
  lt := fun z => by cases z
  lfs := fun z => by cases z
/-- a lambda's body -/
theorem CxZ.lamb (h : CxZ Z t st W X) {k : Nat} {A : Around} {outer : List Env} {s : Shared} {H : Hp} {E : XK} {scope : Scope} {fa c' : Addr} (hg : A.guards = some []) (hr : Room (k + 2) (A.deeper (LamX.lamEnv X scope s.heap.objs.size fa c')))
    (hf : ∀ f, FnRg X.prog X.w X.K X.mg X.base (CX X.prog X.w) k (Z.T.fA f) (spF Z f)) (hm : ∀ c, ∃ f, FnRg X.prog X.w X.K X.mg X.base (CX X.prog X.w) k f (spI Z c) ∧ ((∃ ds s, Z.make c ds s ≠ .no) → Mk X.K (Z.T.cA c) f)) :
    CxZ Z t (st.lamb scope) (fun c d _ H' => E c d H') (LamX.lamCx X A outer s H E scope fa c') where
  z := ⟨h.z.hK, fun f => ⟨k, hr.mono (by omega), hg, hf f⟩, fun c => by
    obtain ⟨f, h1, h2⟩ := hm c
    exact ⟨k, f, hr, hg, h1, h2⟩, hr.units, h.z.meth, h.z.opL, h.z.opR, h.z.cmp, h.z.own, h.z.sub, h.z.fld, h.z.prop, h.z.con⟩
  tk := takes_of rfl rfl rfl rfl
  calm := rfl
  nd := h.nd
  hN := h.hN
  hsc := rfl
  hfn := fun x e => by cases e
  fns := h.fns
  cls := h.cls
  gls := h.gls
  bis := h.bis
  gts := h.gts
  cfi := h.cfi
  kwo := h.kwo
  ini := h.ini
  pno := h.pno
  sm := h.sm
  smt := h.smt
  xz := ⟨h.xz.ec, h.xz.sub, h.xz.nv, h.xz.fd⟩
  xm := fun c hc => by
    obtain ⟨fI, fd, n, ps, fs, h1, h2, h3, h4, _, h6⟩ := h.xm c hc
    exact ⟨fI, fd, n, ps, fs, h1, h2, h3, h4, hr.mono (by omega), h6⟩
  xm0 := h.xm0
  askE := fun z => by cases z
  lt := fun z => by cases z
  lfs := fun z => by cases z
theorem noPar_def {params : Arguments} {env : Env} (h : noPar params = true) : defaultsOf params env = ([], []) := by
  unfold noPar at h
  split at h
  · rfl
  · cases h
theorem noPar_bind {params : Arguments} {body : Expr} {scope : Scope} (h : noPar params = true) (q : Str) (cl : List (Str × Addr)) (pm cv ctv : Value) : bindArgs (PySem.W.kla_fn "<lambda>" q params body scope cl pm cv ctv) ⟨[], []⟩ = pure [] := by
  unfold noPar at h
  split at h
  · rfl
  · cases h
theorem chkTn_ok (h : CxZ Z t st W X) {e : Expr} {n : Tn} (k : chkTn t st e n = true) : isStar e = false ∧ PE X e (tC (n.v Z.T)) := by
  cases n with
  | ty n =>
    cases e <;> simp only [chkTn] at k <;> first | (cases k; done) | skip
    simp only [Bool.and_eq_true, decide_eq_true_eq, Bool.not_eq_true'] at k
    refine ⟨rfl, pe_bltn (h.gl k.1.1.1.1) (h.bis _ k.1.1.1.2) k.1.1.2 rfl ?_ k.1.2⟩
    intro z
    rw [z] at k
    simp at k
  | cl c =>
    cases e <;> simp only [chkTn] at k <;> first | (cases k; done) | skip
    simp only [Bool.and_eq_true, decide_eq_true_eq] at k
    exact ⟨rfl, pe_glob (h.gl k.1.1) (h.cls _ _ k.1.2).1 rfl (okNm_of k.2).1⟩
theorem chkTns_ok (h : CxZ Z t st W X) : ∀ {es : List Expr} {ns : List Tn}, chkTns t st es ns = true → TnsZ X Z.T es ns
  | [], [], _ => .nil
  | e :: es, n :: ns, k => by
    simp only [chkTns, Bool.and_eq_true] at k
    obtain ⟨k1, k2⟩ := chkTn_ok h k.1
    exact .cons k1 k2 (chkTns_ok h k.2)
  | [], _ :: _, k => by cases k
  | _ :: _, [], k => by cases k
theorem chkNms_ok (h : CxZ Z t st W X) : ∀ {es : List Expr} {is : List Nat}, chkNms st es is = true → NmsOk X es is
  | [], [], _ => .nil
  | e :: es, i :: is, k => by
    simp only [chkNms, Bool.and_eq_true] at k
    obtain ⟨k1, k2⟩ := k
    cases e <;> simp only [chkNm] at k1 <;> first | (cases k1; done) | skip
    exact .cons (h.nm k1) (chkNms_ok h k2)
  | [], _ :: _, k => by cases k
  | _ :: _, [], k => by cases k
theorem chkTg_ok (h : CxZ Z t st W X) {e : Expr} {g : Tg} (k : chkTg st e g = true) : PG X e (gT Z.T.K g) := by
  cases g with
  | one i =>
    simp only [chkTg] at k
    cases e <;> simp only [chkNm] at k <;> first | (cases k; done) | skip
    exact dg_one h.nd (h.nm k)
  | many is =>
    cases e <;> simp only [chkTg] at k <;> first | (cases k; done) | skip
    exact dg_many h.z.hK h.calm h.nd (chkNms_ok h k)
  | two is js =>
    simp only [chkTg] at k
    split at k
    · rw [Bool.and_eq_true] at k
      exact dg_two h.z.hK h.calm h.nd (chkNms_ok h k.1) (chkNms_ok h k.2)
    · cases k
theorem notSet_of {e : Expr} {env : Env} (h : notSet e = true) : ∀ x, foldedSetIterable e env x = pure x := by
  intro x
  cases e <;> first | rfl | cases h
end
end Rz
end

section
set_option autoImplicit false
set_option Elab.async false
set_option linter.all false
set_option maxHeartbeats 4000000
set_option maxRecDepth 100000
namespace Rz
open PySem PySem.Spec PySem.W PyProof.Rows L2

section
variable {S : Type} [Pen S] {Z : Cz S} {t : Tab}
structure OkN (Z : Cz S) (t : Tab) (n : Nat) : Prop where
  E : ∀ {st W X e c}, CxZ Z t st W X → chkE t n st e c = true → ∀ G, PE X e (tD Z G W c)
  B : ∀ {op st W X es p c}, CxZ Z t st W X → chkB t n op st es p c = true → ∀ G, PE X (.BoolOp op es p) (tD Z G W c)
  O : ∀ {st W X e c}, CxZ Z t st W X → chkO t n st e c = true → ∀ G, PartZ Z G W X e c
  T : ∀ {st W X e c}, CxZ Z t st W X → chkT t n st e c = true → ∀ G, PT X e (tDT Z G W c)
  W : ∀ {op st W X es p c}, CxZ Z t st W X → chkW t n op st es c = true → ∀ G, PW X (.BoolOp op es p) (tDT Z G W c)
  A : ∀ {st W X es cs}, CxZ Z t st W X → chkA t n st es cs = true → ∀ G, ArgsZ Z G W X es cs
  K : ∀ {st W X kws ks cs}, CxZ Z t st W X → chkK t n st kws ks cs = true → ∀ G, KwsZ Z G W X kws ks cs
  C : ∀ {st W X es cs}, CxZ Z t st W X → chkC t n st es cs = true → ∀ G, PTs X es (tCs Z G W cs)
  I : ∀ {st W X tg e c}, CxZ Z t st W X → chkI t n st tg e c = true → ∀ G, PI X tg e (iD Z G W c)
  L : ∀ {st W X e w}, CxZ Z t st W X → chkL t n st e w = true → ∀ G, PE X e (tDL Z G W w)
  D : ∀ {st W X ks vs kk cs}, CxZ Z t st W X → chkD t n st ks vs kk cs = true → PairsZ Z W X ks vs kk cs

theorem ok_zero : OkN Z t 0 := ⟨fun _ h => (by cases h), fun _ h => (by cases h), fun _ h => (by cases h), fun _ h => (by cases h), fun _ h => (by cases h), fun _ h => (by cases h), fun _ h => (by cases h), fun _ h => (by cases h), fun _ h => (by cases h), fun _ h => (by cases h), fun _ h => (by cases h)⟩

variable {n : Nat}
theorem own_slots {st : Sta} {g : Tg} : (ownOf st g).map (·.2) = g.slots := by
  unfold ownOf
  rw [List.map_map]
  exact List.map_id _
theorem okE (k : OkN Z t n) {st : Sta} {W : WX} {X : Cx} {e : Expr} {c : CE} (h : CxZ Z t st W X) (q : chkE t (n + 1) st e c = true) (G : Fm) : PE X e (tD Z G W c) := by
  cases c with
  | never => exact de_never
  | ask =>
    simp only [chkE] at q
    split at q
    · simp only [Bool.and_eq_true, decide_eq_true_eq] at q
      exact h.askE q.1.1.1 _ _ _ G q.1.1.2
    · cases q
  | lam f b =>
    simp only [chkE] at q
    split at q
    · simp only [Bool.and_eq_true, decide_eq_true_eq] at q
      obtain ⟨⟨⟨⟨⟨⟨⟨q1, q2⟩, q3⟩, q4⟩, q5⟩, q6⟩, q7⟩, q8⟩ := q
      obtain ⟨kk, c, P, hr, hgd, hf, hm, hcode, TB, hmt, hu⟩ := (h.lt q1).ex
      exact de_lam hr hgd hcode TB hmt hu (h.gl q2) (h.fns _ _ q3).1 (h.fns _ _ q3).2 (okNm_of q4).1 (h.lfs q1 f q5) (LamX.lamS_by (by rw [h.hsc]; exact q7)) (noPar_def q6) (noPar_bind q6) h.tk
        fun A outer s H E fa c' G' hg2 hr2 => k.E (h.lamb (hg2.trans hgd) (hr2.mono (by omega)) hf hm) q8 G'
    · cases q
  | isx i kk =>
    simp only [chkE] at q
    split at q
    · simp only [Bool.and_eq_true, decide_eq_true_eq] at q
      obtain ⟨⟨⟨⟨q1, q2⟩, q3⟩, q4⟩, q5⟩ := q
      obtain ⟨rfl, g, m⟩ := h.bi q1
      obtain ⟨s1, s2⟩ := chkTn_ok h q5
      exact de_isx h.xz g m (pe_var (by rw [h.hN]; exact q2) (h.vis q3) (okNm_of q4).1 (okNm_of q4).2) s2 s1
    · cases q
  | xat i m =>
    simp only [chkE] at q
    split at q
    · simp only [Bool.and_eq_true, decide_eq_true_eq] at q
      obtain ⟨⟨⟨q2, q3⟩, q4⟩, q5⟩ := q
      exact de_xat h.xz (pe_var (by rw [h.hN]; exact q2) (h.vis q3) (okNm_of q4).1 (okNm_of q4).2) q5
    · cases q
  | v i =>
    simp only [chkE] at q
    split at q
    · simp only [Bool.and_eq_true, decide_eq_true_eq] at q
      exact de_v (pe_var (by rw [h.hN]; exact q.1.1) (h.vis q.1.2) (okNm_of q.2).1 (okNm_of q.2).2)
    · cases q
  | k d =>
    simp only [chkE] at q
    split at q
    · rename_i c _ _
      cases c <;> cases d <;> simp only [constD] at q <;> first | (cases q; done) | skip
      · exact de_k pe_non fun F => rfl
      · cases beq_iff_eq.mp q; exact de_k pe_bl fun F => rfl
      · cases beq_iff_eq.mp q; exact de_k pe_int fun F => rfl
      · cases of_decide_eq_true q; exact de_k pe_str fun F => rfl
    · cases q
  | g j =>
    simp only [chkE] at q
    split at q
    · simp only [Bool.and_eq_true, decide_eq_true_eq] at q
      obtain ⟨u, v, m, r, rp⟩ := h.gls _ _ q.1.2
      exact de_g (pe_glob (h.gl q.1.1) m r (okNm_of q.2).1) rp
    · cases q
  | bin o a b =>
    simp only [chkE] at q
    split at q
    · simp only [Bool.and_eq_true, decide_eq_true_eq] at q
      obtain ⟨⟨rfl, q1⟩, q2⟩ := q
      exact de_bin h.z h.tk (k.E h q1 G) (k.E h q2 G)
    · cases q
  | un o a =>
    simp only [chkE] at q
    split at q
    · simp only [Bool.and_eq_true, decide_eq_true_eq] at q
      obtain ⟨rfl, q1⟩ := q
      exact de_un h.z h.tk (k.E h q1 G)
    · cases q
  | cmp o a b =>
    simp only [chkE] at q
    split at q
    · simp only [Bool.and_eq_true, decide_eq_true_eq, Bool.not_eq_true'] at q
      obtain ⟨⟨⟨rfl, q0⟩, q1⟩, q2⟩ := q
      exact de_cmp h.z h.tk (k.E h q1 G) (k.E h q2 G) q0
    · cases q
  | chain o p a b c =>
    simp only [chkE] at q
    split at q
    · simp only [Bool.and_eq_true, decide_eq_true_eq, Bool.not_eq_true'] at q
      obtain ⟨⟨⟨⟨⟨rfl, rfl⟩, q0⟩, q1⟩, q2⟩, q3⟩ := q
      exact de_chain h.z h.tk (k.E h q1 G) (k.E h q2 G) (k.E h q3 G) q0
    · cases q
  | and a b =>
    simp only [chkE] at q
    split at q
    · simp only [Bool.and_eq_true] at q
      exact de_and h.z h.tk (k.E h q.1 G) (k.B h q.2 G)
    · cases q
  | or a b =>
    simp only [chkE] at q
    split at q
    · simp only [Bool.and_eq_true] at q
      exact de_or h.z h.tk (k.E h q.1 G) (k.B h q.2 G)
    · cases q
  | tand a b => simp only [chkE] at q; cases q
  | tor a b => simp only [chkE] at q; cases q
  | not a =>
    simp only [chkE] at q
    split at q
    · exact de_not h.z h.tk (k.E h q G)
    · cases q
  | ite c a b =>
    simp only [chkE] at q
    split at q
    · simp only [Bool.and_eq_true] at q
      exact de_ite (k.T h q.1.1 G) (k.E h q.1.2 G) (k.E h q.2 G)
    · cases q
  | tup cs =>
    simp only [chkE] at q
    split at q
    · exact de_tup ((k.A h q G).pa h.z.hK)
    · cases q
  | lst cs =>
    simp only [chkE] at q
    split at q
    · exact de_lst ((k.A h q G).pa h.z.hK)
    · cases q
  | call f cs =>
    simp only [chkE] at q
    split at q
    · simp only [Bool.and_eq_true, decide_eq_true_eq] at q
      obtain ⟨⟨⟨⟨q1, q2⟩, q3⟩, q4⟩, q5⟩ := q
      obtain ⟨m, kp⟩ := h.fns _ _ q2
      exact de_call h.z.hK (h.z.fz f) kp h.tk (h.gl q1) m q4 (k.A h q5 G) (okNm_of q3).1
    · cases q
  | make f cs =>
    simp only [chkE] at q
    split at q
    · simp only [Bool.and_eq_true, decide_eq_true_eq] at q
      obtain ⟨⟨⟨⟨q1, q2⟩, q3⟩, q4⟩, q5⟩ := q
      obtain ⟨m, kp⟩ := h.cls _ _ q2
      exact de_make h.z.hK (h.z.fi f) h.tk (h.gl q1) m kp q4 (k.A h q5 G) (okNm_of q3).1
    · cases q
  | makeV i f cs =>
    simp only [chkE] at q
    split at q
    · simp only [Bool.and_eq_true, decide_eq_true_eq, List.any_eq_true] at q
      obtain ⟨⟨⟨⟨⟨q1, q2⟩, q3⟩, y, _, q4⟩, q5⟩, q6⟩ := q
      exact de_makeV h.z.hK (h.z.fi f) h.tk (pe_var (by rw [h.hN]; exact q1) (h.vis q2) (okNm_of q3).1 (okNm_of q3).2) (h.cls _ _ q4).2 q5 (k.A h q6 G)
    · cases q
  | meth o m cs =>
    simp only [chkE] at q
    split at q
    · simp only [Bool.and_eq_true, decide_eq_true_eq] at q
      obtain ⟨⟨⟨⟨rfl, q2⟩, q3⟩, q4⟩, q5⟩ := q
      exact de_meth h.z.hK h.z.fz (fun c f => h.z.meth c m f) h.tk (k.E h q4 G) (k.A h q5 G) q2 q3
    · cases q
  | smeth c m cs =>
    simp only [chkE] at q
    split at q
    · simp only [Bool.and_eq_true, decide_eq_true_eq] at q
      obtain ⟨⟨⟨⟨⟨q1, q2⟩, q3⟩, rfl⟩, q5⟩, q6⟩ := q
      obtain ⟨m', kp⟩ := h.cls _ _ q2
      exact de_smeth h.z.hK h.z.fz (fun f => h.sm c m f) (fun f => h.smt c m f) h.tk (h.gl q1) m' (okNm_of q3).1 (k.A h q6 G) q5
    · cases q
  | methK o m cs ks ws =>
    simp only [chkE] at q
    split at q
    · simp only [Bool.and_eq_true, decide_eq_true_eq] at q
      obtain ⟨⟨⟨⟨⟨rfl, q2⟩, q3⟩, q4⟩, q5⟩, q6⟩ := q
      exact de_methK h.z.hK h.z.fz (fun c f => h.z.meth c m f) h.kwo h.tk (k.E h q4 G) (k.A h q5 G) (k.K h q6 G) q2 q3
    · cases q
  | smethK c m cs ks ws =>
    simp only [chkE] at q
    split at q
    · simp only [Bool.and_eq_true, decide_eq_true_eq] at q
      obtain ⟨⟨⟨⟨⟨⟨q1, q2⟩, q3⟩, rfl⟩, q5⟩, q6⟩, q7⟩ := q
      obtain ⟨m', kp⟩ := h.cls _ _ q2
      exact de_smethK h.z.hK h.z.fz (fun f => h.sm c m f) (fun f => h.smt c m f) h.kwo h.tk (h.gl q1) m' (okNm_of q3).1 (k.A h q6 G) (k.K h q7 G) q5
    · cases q
  | attr o m =>
    simp only [chkE] at q
    split at q
    · simp only [Bool.and_eq_true, decide_eq_true_eq] at q
      obtain ⟨⟨rfl, q2⟩, q4⟩ := q
      exact de_attr h.z.hK h.z.fz (fun c j => h.z.fld c m j) (fun c j => h.z.prop c m j) (fun c j => h.z.con c m j) (k.E h q4 G) q2
    · cases q
  | bi b cs =>
    simp only [chkE] at q
    split at q
    · simp only [Bool.and_eq_true, Bool.not_eq_true'] at q
      obtain ⟨⟨⟨q1, q2⟩, q3⟩, q4⟩ := q
      obtain ⟨rfl, g, m⟩ := h.bi q1
      exact de_bi h.z h.calm rfl g m (by rintro rfl; cases q2) (k.A h q4 G) q3
    · cases q
  | isi a ts =>
    simp only [chkE] at q
    split at q
    · simp only [Bool.and_eq_true, Bool.not_eq_true'] at q
      obtain ⟨⟨⟨q1, q2⟩, q3⟩, q4⟩ := q
      obtain ⟨rfl, g, m⟩ := h.bi q1
      split at q4
      · simp only [Bool.and_eq_true, Bool.not_eq_true', decide_eq_true_eq] at q4
        exact de_isiT h.z g m (k.E h q3 G) (chkTns_ok h q4.2) q2 (by rintro rfl; cases q4.1.1) q4.1.2
      · split at q4
        · obtain ⟨s1, s2⟩ := chkTn_ok h q4
          exact de_isi h.z g m (k.E h q3 G) s2 q2 s1
        · cases q4
    · cases q
  | ix a b =>
    simp only [chkE] at q
    split at q
    · simp only [Bool.and_eq_true] at q
      exact de_ix h.z (k.E h q.1.2 G) (k.E h q.2 G) q.1.1
    · cases q
  | sl a lo hi =>
    simp only [chkE] at q
    split at q
    · simp only [Bool.and_eq_true] at q
      exact de_sl h.z (k.E h q.1.1 G) (k.O h q.1.2 G) (k.O h q.2 G)
    · cases q
  | nl w =>
    simp only [chkE] at q
    exact de_nl (k.L h q G)
  | callO o cs =>
    simp only [chkE] at q
    split at q
    · simp only [Bool.and_eq_true, Bool.not_eq_true'] at q
      obtain ⟨⟨⟨q1, q2⟩, q3⟩, q4⟩ := q
      exact de_callO h.z h.cfi h.tk (k.E h q3 G) (by rintro rfl; cases q1) (k.A h q4 G) q2 rfl
    · simp only [Bool.and_eq_true, Bool.not_eq_true'] at q
      obtain ⟨⟨⟨q1, q2⟩, q3⟩, q4⟩ := q
      exact de_callO h.z h.cfi h.tk (k.E h q3 G) (by rintro rfl; cases q1) (k.A h q4 G) q2 rfl
    · cases q
  | bx b e =>
    simp only [chkE] at q
    split at q
    · simp only [Bool.and_eq_true, Bool.not_eq_true', Bool.or_eq_true, decide_eq_true_eq] at q
      obtain ⟨⟨⟨q1, q2⟩, q3⟩, q4⟩ := q
      obtain ⟨rfl, g, m⟩ := h.bi q2
      exact de_bx h.z h.calm h.tk rfl q1 g m (k.E h q4 G) q3
    · cases q
  | join a b =>
    simp only [chkE] at q
    split at q
    · simp only [Bool.and_eq_true, Bool.not_eq_true', decide_eq_true_eq] at q
      obtain ⟨⟨⟨⟨⟨rfl, q2⟩, q3⟩, q4⟩, q5⟩, q6⟩ := q
      exact de_join h.z.hK (k.E h q5 G) (k.E h q6 G) q4 q2 q3
    · cases q
  | split a b =>
    simp only [chkE] at q
    split at q
    · simp only [Bool.and_eq_true, Bool.not_eq_true', decide_eq_true_eq] at q
      obtain ⟨⟨⟨⟨⟨rfl, q2⟩, q3⟩, q4⟩, q5⟩, q6⟩ := q
      exact de_split (k.E h q5 G) (k.E h q6 G) q4 q2 q3
    · cases q
  | pix a d =>
    simp only [chkE] at q
    split at q
    · rw [Bool.and_eq_true] at q
      rw [Bool.and_eq_true] at q
      obtain ⟨⟨q0, q1⟩, q2⟩ := q
      exact (h.pno (by simpa using q0)).ix (Nat.lt_of_le_of_lt (Nat.add_le_add_left (by decide) _) h.z.hu) q1 (k.E h q2 G)
    · cases q
  | dct kk cs =>
    simp only [chkE] at q
    split at q
    · rw [Bool.and_eq_true, decide_eq_true_eq] at q
      exact de_dct (k.D h q.2) q.1 G
    · cases q
  | gix j b =>
    simp only [chkE] at q
    split at q
    · simp only [Bool.and_eq_true, decide_eq_true_eq] at q
      obtain ⟨⟨⟨⟨q1, q2⟩, q3⟩, q4⟩, q5⟩ := q
      obtain ⟨a, m, gz⟩ := h.gts _ _ q2
      exact de_gix h.z.hK (h.gl q1) m gz (okNm_of q3).1 (k.E h q5 G) q4
    · cases q
  | cl j =>
    simp only [chkE] at q
    split at q
    · simp only [Bool.and_eq_true, decide_eq_true_eq] at q
      obtain ⟨m, kp⟩ := h.cls _ _ q.1.2
      exact de_cl (h.gl q.1.1) m (okNm_of q.2).1
    · cases q
  | callF f cs ks ws =>
    simp only [chkE] at q
    split at q
    · simp only [Bool.and_eq_true, Bool.not_eq_true', decide_eq_true_eq] at q
      obtain ⟨⟨⟨⟨⟨⟨q1, q2⟩, q3⟩, q4⟩, q5⟩, q6⟩, q7⟩ := q
      obtain ⟨m, kp⟩ := h.fns _ _ q2
      exact de_callF h.z.hK (h.z.fz f) kp (h.kwo f) h.tk (h.gl q1) m q4 (k.A h q6 G) (k.K h q7 G) (okNm_of q3).1
    · cases q
  | rev a =>
    simp only [chkE] at q
    split at q
    · exact de_rev h.z.hK (k.E h q G)
    · cases q
  | xmk c cs ks ws =>
    simp only [chkE] at q
    split at q
    · simp only [Bool.and_eq_true, Bool.not_eq_true', decide_eq_true_eq] at q
      obtain ⟨⟨⟨⟨⟨⟨q1, q2⟩, q3⟩, q4⟩, q5⟩, q6⟩, q7⟩ := q
      obtain ⟨m, kp⟩ := h.cls _ _ q2
      exact de_xmk h.z.hK (h.xm c q5) h.tk (h.gl q1) m kp q4 (k.A h q6 G) (k.K h q7 G) (okNm_of q3).1
    · cases q
  | xmk0 c =>
    simp only [chkE] at q
    split at q
    · simp only [Bool.and_eq_true, decide_eq_true_eq] at q
      obtain ⟨⟨⟨q1, q2⟩, q3⟩, q4⟩ := q
      obtain ⟨m, kp⟩ := h.cls _ _ q2
      exact de_xmk0 PySem.F.excBase_ValueError (h.xm0 c q4) m kp (h.gl q1) (okNm_of q3).1
    · cases q
  | makeK c cs ks ws =>
    simp only [chkE] at q
    split at q
    · simp only [Bool.and_eq_true, Bool.not_eq_true', decide_eq_true_eq] at q
      obtain ⟨⟨⟨⟨⟨⟨q1, q2⟩, q3⟩, q4⟩, q5⟩, q6⟩, q7⟩ := q
      obtain ⟨m, kp⟩ := h.cls _ _ q2
      exact de_makeK h.z.hK (h.z.fi c) (h.ini c) h.kwo h.tk (h.gl q1) m kp q4 (k.A h q6 G) (k.K h q7 G) (okNm_of q3).1
    · cases q
  | dcomp kt vt tg it =>
    simp only [chkE] at q
    split at q
    · simp only [Bool.and_eq_true, decide_eq_true_eq, List.isEmpty_iff] at q
      obtain ⟨⟨⟨⟨⟨⟨⟨rfl, rfl⟩, q1⟩, q2⟩, q3⟩, q4⟩, q5⟩, q6⟩ := q
      exact de_dcomp h.calm h.nd (k.I h q2 G) (blkOk_by (by rw [h.hN, h.hsc]; exact q3)) own_slots (fun s H C cl fp => chkTg_ok (h.blk s H _ cl C fp) q4) (fun G s H C cl fp => k.E (h.blk s H _ cl C fp) q5 G) (fun G s H C cl fp => k.E (h.blk s H _ cl C fp) q6 G) (notSet_of q1)
    · cases q
  | dof a =>
    simp only [chkE] at q
    split at q
    · simp only [Bool.and_eq_true, Bool.not_eq_true'] at q
      obtain ⟨rfl, g, m⟩ := h.bi q.1.1
      exact de_dof h.z.hK h.calm g m (k.E h q.2 G) q.1.2
    · cases q
  | callK o es ks ws =>
    simp only [chkE] at q
    split at q
    · split at q
      · simp only [Bool.and_eq_true, decide_eq_true_eq] at q
        obtain ⟨⟨rfl, q1⟩, q2⟩ := q
        exact de_callK h.z h.cfi h.kwo h.tk (k.E h q1 G) (k.E h q2 G) rfl
      · cases q
    · cases q
theorem okB (k : OkN Z t n) {op : BoolOp} {st : Sta} {W : WX} {X : Cx} {es : List Expr} {p : Pos} {c : CE} (h : CxZ Z t st W X) (q : chkB t (n + 1) op st es p c = true) (G : Fm) : PE X (.BoolOp op es p) (tD Z G W c) := by
  simp only [chkB] at q
  split at q
  · exact pe_one (k.E h q G)
  · exact k.E h q G
theorem okO (k : OkN Z t n) {st : Sta} {W : WX} {X : Cx} {e : Option Expr} {c : CO} (h : CxZ Z t st W X) (q : chkO t (n + 1) st e c = true) (G : Fm) : PartZ Z G W X e c := by
  cases c with
  | no =>
    simp only [chkO] at q
    cases e with
    | none => exact .no
    | some e => cases q
  | yes c =>
    simp only [chkO] at q
    cases e with
    | none => cases q
    | some e => exact .yes (k.E h q G)
theorem okT (k : OkN Z t n) {st : Sta} {W : WX} {X : Cx} {e : Expr} {c : CE} (h : CxZ Z t st W X) (q : chkT t (n + 1) st e c = true) (G : Fm) : PT X e (tDT Z G W c) := by
  have plain : ∀ {c : CE}, (plainTest e && chkE t n st e c) = true → PT X e (tDT Z G W c) := fun {c} q => by
    rw [Bool.and_eq_true] at q
    exact dt_plain h.z h.tk (k.E h q.2 G) q.1
  cases c with
  | not a =>
    simp only [chkT] at q
    split at q
    · exact dt_not (k.T h q G)
    · cases q
  | tand a b =>
    simp only [chkT] at q
    split at q
    · exact (k.W h q G).pt
    · cases q
  | tor a b =>
    simp only [chkT] at q
    split at q
    · exact (k.W h q G).pt
    · cases q
  | cmp o a b =>
    simp only [chkT] at q
    split at q
    · simp only [Bool.and_eq_true, decide_eq_true_eq, Bool.not_eq_true'] at q
      obtain ⟨⟨⟨rfl, q0⟩, q1⟩, q2⟩ := q
      exact dt_cmp h.z h.tk (k.E h q1 G) (k.E h q2 G) q0
    · cases q
  | chain o p a b c =>
    simp only [chkT] at q
    split at q
    · simp only [Bool.and_eq_true, decide_eq_true_eq, Bool.not_eq_true'] at q
      obtain ⟨⟨⟨⟨⟨rfl, rfl⟩, q0⟩, q1⟩, q2⟩, q3⟩ := q
      exact dt_chain h.z h.tk (k.E h q1 G) (k.E h q2 G) (k.E h q3 G) q0
    · cases q
  | _ => exact plain (by simpa only [chkT] using q)
theorem okW (k : OkN Z t n) {op : BoolOp} {st : Sta} {W : WX} {X : Cx} {es : List Expr} {p : Pos} {c : CE} (h : CxZ Z t st W X) (q : chkW t (n + 1) op st es c = true) (G : Fm) : PW X (.BoolOp op es p) (tDT Z G W c) := by
  simp only [chkW] at q
  split at q
  · cases q
  · cases op with
    | And => exact pw_and1 (k.T h q G)
    | Or => exact pw_or1 (k.T h q G)
  · cases op with
    | And =>
      simp only at q
      split at q
      · rw [Bool.and_eq_true] at q
        exact dt_and (k.T h q.1 G) (k.W h q.2 G)
      · cases q
    | Or =>
      simp only at q
      split at q
      · rw [Bool.and_eq_true] at q
        exact dt_or (k.T h q.1 G) (k.W h q.2 G)
      · cases q
theorem okA (k : OkN Z t n) {st : Sta} {W : WX} {X : Cx} {es : List Expr} {cs : CAs} (h : CxZ Z t st W X) (q : chkA t (n + 1) st es cs = true) (G : Fm) : ArgsZ Z G W X es cs := by
  cases cs with
  | nil =>
    simp only [chkA] at q
    cases es with
    | nil => exact .nil
    | cons e es => cases q
  | cons s c r =>
    cases s with
    | true =>
      simp only [chkA] at q
      split at q
      · rw [Bool.and_eq_true] at q
        exact .star (k.E h q.1 G) (k.A h q.2 G)
      · cases q
    | false =>
      simp only [chkA] at q
      split at q
      · simp only [Bool.and_eq_true, Bool.not_eq_true'] at q
        exact .cons q.1.1 (k.E h q.1.2 G) (k.A h q.2 G)
      · cases q
theorem okK (k : OkN Z t n) {st : Sta} {W : WX} {X : Cx} {kws : List Keyword} {ks : List Str} {cs : CAs} (h : CxZ Z t st W X) (q : chkK t (n + 1) st kws ks cs = true) (G : Fm) : KwsZ Z G W X kws ks cs := by
  cases cs with
  | nil =>
    simp only [chkK, Bool.and_eq_true, List.isEmpty_iff] at q
    obtain ⟨rfl, rfl⟩ := q
    exact .nil
  | cons s c r =>
    cases s with
    | true => simp only [chkK] at q; cases q
    | false =>
      simp only [chkK] at q
      split at q
      · split at q
        · simp only [Bool.and_eq_true, decide_eq_true_eq] at q
          obtain ⟨⟨rfl, q1⟩, q2⟩ := q
          exact .cons (k.E h q1 G) (k.K h q2 G)
        · cases q
      · cases q
theorem okC (k : OkN Z t n) {st : Sta} {W : WX} {X : Cx} {es : List Expr} {cs : CAs} (h : CxZ Z t st W X) (q : chkC t (n + 1) st es cs = true) (G : Fm) : PTs X es (tCs Z G W cs) := by
  simp only [chkC] at q
  split at q
  · cases es with
    | nil => exact dts_nil
    | cons e es => cases q
  · split at q
    · exact dts_one (k.T h q G)
    · cases q
  · cases q
theorem isTup_of {e : Expr} (h : isTup e = true) : ∃ es j p, e = .Tuple es j p := by
  cases e <;> first | exact ⟨_, _, _, rfl⟩ | cases h
theorem okI (k : OkN Z t n) {st : Sta} {W : WX} {X : Cx} {tg e : Expr} {c : CI} (h : CxZ Z t st W X) (q : chkI t (n + 1) st tg e c = true) (G : Fm) : PI X tg e (iD Z G W c) := by
  cases c with
  | e c =>
    simp only [chkI] at q
    exact di_e h.z.hK (k.E h q G)
  | r1 a =>
    simp only [chkI] at q
    split at q
    · simp only [Bool.and_eq_true, Bool.not_eq_true'] at q
      obtain ⟨rfl, g, m⟩ := h.bi q.1.1
      exact di_r1 g m (k.E h q.2 G) q.1.2
    · cases q
  | r2 a b =>
    simp only [chkI] at q
    split at q
    · simp only [Bool.and_eq_true, Bool.not_eq_true'] at q
      obtain ⟨⟨⟨⟨q1, q2⟩, q3⟩, q4⟩, q5⟩ := q
      obtain ⟨rfl, g, m⟩ := h.bi q1
      exact di_r2 g m (k.E h q4 G) (k.E h q5 G) q2 q3
    · cases q
  | rd a b =>
    simp only [chkI] at q
    split at q
    · simp only [Bool.and_eq_true, Bool.not_eq_true'] at q
      obtain ⟨⟨⟨⟨q1, q2⟩, q3⟩, q4⟩, q5⟩ := q
      obtain ⟨rfl, g, m⟩ := h.bi q1
      exact di_rd g m (k.E h q4 G) (k.E h q5 G) q2 q3
    · cases q
  | en a =>
    simp only [chkI] at q
    split at q
    · simp only [Bool.and_eq_true, Bool.not_eq_true'] at q
      obtain ⟨⟨⟨q0, q1⟩, q2⟩, q3⟩ := q
      obtain ⟨rfl, g, m⟩ := h.bi q1
      obtain ⟨es, j, p, rfl⟩ := isTup_of q0
      exact di_en h.z.hK g m (k.E h q3 G) q2
    · cases q
  | zip a b =>
    simp only [chkI] at q
    split at q
    · simp only [Bool.and_eq_true, Bool.not_eq_true'] at q
      obtain ⟨⟨⟨⟨⟨q0, q1⟩, q2⟩, q3⟩, q4⟩, q5⟩ := q
      obtain ⟨rfl, g, m⟩ := h.bi q1
      obtain ⟨es, j, p, rfl⟩ := isTup_of q0
      exact di_zip h.z.hK g m (k.E h q4 G) (k.E h q5 G) q2 q3
    · cases q
theorem okL (k : OkN Z t n) {st : Sta} {W : WX} {X : Cx} {e : Expr} {w : CW} (h : CxZ Z t st W X) (q : chkL t (n + 1) st e w = true) (G : Fm) : PE X e (tDL Z G W w) := by
  cases w with
  | lst cs =>
    simp only [chkL] at q
    split at q
    · exact dw_lst ((k.A h q G).pa h.z.hK)
    · cases q
  | of a =>
    simp only [chkL] at q
    split at q
    · simp only [Bool.and_eq_true, Bool.not_eq_true'] at q
      obtain ⟨rfl, g, m⟩ := h.bi q.1.1
      exact dw_of h.z.hK g m (k.E h q.2 G) q.1.2
    · cases q
  | add a b =>
    simp only [chkL] at q
    split at q
    · rw [Bool.and_eq_true] at q
      exact dw_add (k.E h q.1 G) (k.E h q.2 G)
    · cases q
  | lr a =>
    simp only [chkL] at q
    split at q
    · simp only [Bool.and_eq_true, Bool.not_eq_true'] at q
      obtain ⟨⟨⟨q1, q2⟩, q3⟩, q4⟩ := q
      obtain ⟨rfl, g, m⟩ := h.bi q1
      obtain ⟨rfl, g2, m2⟩ := h.bi q2
      exact dw_lr h.calm g m g2 m2 (k.E h q4 G) q3
    · cases q
  | lr2 a b =>
    simp only [chkL] at q
    split at q
    · simp only [Bool.and_eq_true, Bool.not_eq_true'] at q
      obtain ⟨⟨⟨⟨⟨q1, q2⟩, q3⟩, q4⟩, q5⟩, q6⟩ := q
      obtain ⟨rfl, g, m⟩ := h.bi q1
      obtain ⟨rfl, g2, m2⟩ := h.bi q2
      exact dw_lr2 h.calm g m g2 m2 (k.E h q5 G) (k.E h q6 G) q3 q4
    · cases q
  | mul a b =>
    simp only [chkL] at q
    split at q
    · rw [Bool.and_eq_true] at q
      exact dw_mul (k.E h q.1 G) (k.E h q.2 G)
    · cases q
  | sset a =>
    simp only [chkL] at q
    split at q
    · simp only [Bool.and_eq_true, Bool.not_eq_true'] at q
      obtain ⟨⟨⟨q1, q2⟩, q3⟩, q4⟩ := q
      obtain ⟨rfl, g, m⟩ := h.bi q1
      obtain ⟨rfl, g2, m2⟩ := h.bi q2
      exact dw_sset h.z.hK h.calm g m g2 m2 (k.E h q4 G) q3
    · cases q
  | lc elt tg it cs =>
    simp only [chkL] at q
    split at q
    · simp only [Bool.and_eq_true, decide_eq_true_eq] at q
      obtain ⟨⟨⟨⟨⟨⟨rfl, q1⟩, q2⟩, q3⟩, q4⟩, q5⟩, q6⟩ := q
      exact dw_lc h.calm h.nd (k.I h q2 G) (blkOk_by (by rw [h.hN, h.hsc]; exact q3)) own_slots (fun s H C cl fp => chkTg_ok (h.blk s H _ cl C fp) q4) (fun G s H C cl fp => k.C (h.blk s H _ cl C fp) q5 G) (fun G s H C cl fp => k.E (h.blk s H _ cl C fp) q6 G) (notSet_of q1)
    · cases q
theorem okD (k : OkN Z t n) {st : Sta} {W : WX} {X : Cx} {ks : List (Option Expr)} {vs : List Expr} {kk : List Key} {cs : CAs} (h : CxZ Z t st W X) (q : chkD t (n + 1) st ks vs kk cs = true) : PairsZ Z W X ks vs kk cs := by
  cases cs with
  | nil =>
    simp only [chkD, Bool.and_eq_true, List.isEmpty_iff] at q
    obtain ⟨⟨rfl, rfl⟩, rfl⟩ := q
    exact .nil
  | cons star c r =>
    cases star with
    | true => simp only [chkD] at q; cases q
    | false =>
      simp only [chkD] at q
      split at q
      · simp only [Bool.and_eq_true] at q
        exact .cons q.1.1 (fun G => k.E h q.1.2 G) (k.D h q.2)
      · cases q
theorem ok_all : ∀ n, OkN Z t n
  | 0 => ok_zero
  | n + 1 => by
    have k := ok_all n
    exact ⟨okE k, okB k, okO k, okT k, okW k, okA k, okK k, okC k, okI k, okL k, okD k⟩
end
end Rz
end

section
set_option autoImplicit false
set_option Elab.async false
set_option linter.all false
set_option maxHeartbeats 4000000
set_option maxRecDepth 100000
namespace Rz
open PySem PySem.Spec PySem.W PyProof.Rows L2

def notComp : Expr → Bool
  | .ListComp _ _ _ _ => false
  | .SetComp _ _ _ _ => false
  | .DictComp _ _ _ _ _ => false
  | _ => true
theorem notComp_of {e : Expr} {tg : Option Expr} {l : Nat} {env : Env} (h : notComp e = true) : swapsWith e tg l env = pure false := by
  cases e <;> first | rfl | cases h
/-- an environment of the scope alone -/
def dEnv (sc : Scope) : Env := { scope := sc, locals := 0, globals := 0, cells := [] }
def swOf (st : Sta) (ts : List Expr) (e : Expr) : Option (Option (List Str)) := pureOf (swappedStores ts e (dEnv st.sc))
def swW (st : Sta) (e : Expr) (tg : Expr) : Option Bool := pureOf (swapsWith e (some tg) 0 (dEnv st.sc))
theorem swOf_eq {ts : List Expr} {e : Expr} {env : Env} : swappedStores ts e env = swappedStores ts e (dEnv env.scope) := rfl
theorem swOf_of {st : Sta} {ts : List Expr} {e : Expr} {env : Env} {o : Option (List Str)} (hsc : env.scope = st.sc) (h : swOf st ts e = some o) : swappedStores ts e env = pure o := by
  rw [swOf_eq, hsc]; exact of_pureOf h
theorem swW_eq {e tg : Expr} {l : Nat} {env : Env} : swapsWith e (some tg) l env = swapsWith e (some tg) 0 (dEnv env.scope) := by
  cases e <;> first | rfl | (cases tg <;> rfl)
theorem swW_of {st : Sta} {e tg : Expr} {l : Nat} {env : Env} {b : Bool} (hsc : env.scope = st.sc) (h : swW st e tg = some b) : swapsWith e (some tg) l env = pure b := by
  rw [swW_eq, hsc]; exact of_pureOf h
theorem swS_of {st : Sta} {e tg : Expr} {l : Nat} {env : Env} {b : Bool} (hsc : env.scope = st.sc) (h : swW st e tg = some b) : swapsWithSole [tg] e l env = pure b := swW_of (l := l) hsc h
theorem notCompS {e tg : Expr} {l : Nat} {env : Env} (h : notComp e = true) : swapsWithSole [tg] e l env = pure false := notComp_of (tg := some tg) (l := l) h

section
variable (t : Tab)
def chkV (n : Nat) (st : Sta) (e : Expr) (v : CV) : Bool :=
  match v with
  | .f c => chkE t n st e c
  | .w w => chkL t n st e w
  | .x c => chkE t n st e c
/-- x = a comprehension that is stored at once -/
def chkLc (n : Nat) (st : Sta) (i : Nat) (tg e : Expr) (w : CW) : Bool :=
  match tg with
  | .Name x _ => match e with
    | .ListComp el [⟨te, iter, ifs, as⟩] scope _ => match w with
      | .lc elt g it cs => decide (st.N[i]? = some x) && decide (st.sc.names.lookup x = some .local) && decide (swW st e tg = some true) && decide (as = 0) && notSet iter && chkI t n st te iter it && blkC st.N st.sc scope (ownOf st g) && chkTg (st.blk scope) te g && chkC t n (st.blk scope) ifs cs && chkE t n (st.blk scope) el elt
      | _ => false
    | _ => false
  | _ => false
def chkVn (st : Sta) (i : Nat) : Expr → Bool
  | .Name x _ => decide (st.N[i]? = some x) && isVis st x && okNm x
  | _ => false
def chkIsx (st : Sta) (e : Expr) (i : Nat) (k : Option Nat) : Bool :=
  match e with
  | .Call (.Name f _) [.Name x p, y] [] _ => isBi t st f "isinstance" && chkVn st i (.Name x p) && chkTn t st y (.ofX k)
  | _ => false
mutual
def chkQ : Nat → Sta → Expr → CE → Bool
  | 0, _, _, _ => false
  | n + 1, st, e, c => match c with
    | .v j => match e with
      | .Name x p => chkVn st j (.Name x p)
      | _ => false
    | .xat i m => match e with
      | .Attribute (.Name x p) g _ => chkVn st i (.Name x p) && decide (g = nmOf t.us m)
      | _ => false
    | .k (.int a) => match e with
      | .Constant (.int b) _ _ => a == b
      | _ => false
    | .lst cs => match e with
      | .List es _ => chkQs n st es cs
      | _ => false
    | _ => false
def chkQs : Nat → Sta → List Expr → CAs → Bool
  | 0, _, _, _ => false
  | n + 1, st, es, cs => match es with
    | [] => match cs with
      | .nil => true
      | _ => false
    | e :: es => match cs with
      | .cons false c cs => !isStar e && chkQ n st e c && chkQs n st es cs
      | _ => false
end
def chkRx (st : Sta) (e : Expr) (c : CE) : Bool :=
  match e with
  | .Call (.Name f _) [x] [] _ => isBi t st f "repr" && !isStar x && chkQ t 12 st x c
  | _ => false
/-- isinstance(error, C) and repr(error.f) == repr(x), or of lists of these -/
def chkR (st : Sta) (e : Expr) (c : CE) : Bool :=
  match c with
  | .and (.isx i k) (.cmp .Eq (.bi .repr (.cons false c1 .nil)) (.bi .repr (.cons false c2 .nil))) => match e with
    | .BoolOp .And [a, .Compare r1 [.Eq] [r2] _] _ => chkIsx t st a i k && chkRx t st r1 c1 && chkRx t st r2 c2 && !behindInMarks .Eq r2
    | _ => false
  | _ => false
mutual
def chkS : Nat → Sta → Stmt → CS → Bool
  | 0, _, _, _ => false
  | n + 1, st, s, c => match c with
    | .never => true
    | .pass => match s with
      | .Pass _ => true
      | _ => false
    | .brk => match s with
      | .Break _ => true
      | _ => false
    | .cont => match s with
      | .Continue _ => true
      | _ => false
    | .retN => match s with
      | .Return none _ => true
      | _ => false
    | .ret c => match s with
      | .Return (some e) _ => chkE t n st e c
      | _ => false
    | .expr _ c => match s with
      | .Expr e _ => notComp e && chkE t n st e c
      | _ => false
    | .set i th c => match s with
      | .Assign [tg] e _ => (match tg with
        | .Name x _ => decide (st.N[i]? = some x) && isLoc st x && decide (swW st e tg = some false) && decide (swOf st [tg] e = some none) && chkE t n st e c
        | _ => false) || (!th && (match c with
        | .nl w => chkLc t n st i tg e w
        | _ => false))
      | _ => false
    | .own i w => match s with
      | .Assign [tg] e _ => (match tg with
        | .Name x _ => decide (st.N[i]? = some x) && isLoc st x && decide (swW st e tg = some false) && decide (swOf st [tg] e = some none) && chkL t n st e w
        | _ => false) || chkLc t n st i tg e w
      | _ => false
    | .par2 i j va vb => match s with
      | .Assign [.Tuple [.Name x px, .Name y py] kt pt] (.Tuple [a, b] k2 pt2) _ => (decide (st.N[i]? = some x) && isLoc st x) && (decide (st.N[j]? = some y) && isLoc st y) && chkV t n st a va && chkV t n st b vb && !isStar a && !isStar b && !(i == j) &&
          ((decide (swOf st [.Tuple [.Name x px, .Name y py] kt pt] (.Tuple [a, b] k2 pt2) = some (some [x, y])) && decide (st.sc.names.lookup x = some .local) && decide (st.sc.names.lookup y = some .local)) || decide (swOf st [.Tuple [.Name x px, .Name y py] kt pt] (.Tuple [a, b] k2 pt2) = some none))
      | _ => false
    | .unpack is c => match s with
      | .Assign [.Tuple es k p] e _ => chkNms st es is && notComp e && decide (swOf st [.Tuple es k p] e = some none) && chkE t n st e c
      | _ => false
    | .aug i o _ c => match s with
      | .AugAssign (.Name x _) p e _ => decide (p = o) && (decide (st.N[i]? = some x) && isLoc st x) && chkE t n st e c
      | _ => false
    | .ite c a b => match s with
      | .If e p q _ => chkT t n st e c && chkSs n st p a && chkSs n st q b
      | _ => false
    | .while c b => match s with
      | .While e p [] _ => chkT t n st e c && chkSs n st p b
      | _ => false
    | .for g it b => match s with
      | .For te iter p [] _ => notSet iter && chkI t n st te iter it && chkTg st te g && chkSs n st p b
      | _ => false
    | .raise c es => match s with
      | .Raise (some (.Call (.Name x _) [] [] _)) none _ => (match es with
        | .nil => isGl st x && decide (t.cls.lookup x = some c) && okNm x && t.rai.contains c
        | _ => false)
      | .Raise (some (.Call (.Name x _) (e :: args) [] _)) none _ => isGl st x && decide (t.cls.lookup x = some c) && okNm x && t.rain.contains c && !(e :: args).any isStar && chkA t n st (e :: args) es
      | _ => false
    | .tryK b c i j => match s with
      | .Try body [.ExceptHandler (some (.Name x _)) (some nm) [.Assign [.Name m pm] (.Name n2 pn) _] _] [] [] _ => decide (n2 = nm) && decide (st.N[i]? = some nm) && decide (st.sc.names.lookup nm = some .local) && okNm nm && isGl st x && decide (t.cls.lookup x = some c) && okNm x && (decide (st.N[j]? = some m) && isLoc st m) && !(i == j) &&
          decide (swOf st [.Name m pm] (.Name n2 pn) = some none) && chkSs n st.try body b
      | _ => false
    | .tryR b c i e => match s with
      | .Try body [.ExceptHandler (some (.Name x _)) (some nm) [.Return (some E) _] _] [] [] _ => decide (st.N[i]? = some nm) && decide (st.sc.names.lookup nm = some .local) && okNm nm && isGl st x && decide (t.cls.lookup x = some c) && okNm x && chkR t st E e && chkSs n st.try body b
      | _ => false
    | .append i _ c => match s with
      | .Expr (.Call (.Attribute (.Name x _) m ap) [e] [] cp) _ => decide (m = "append") && (ap.endLine == cp.line) && decide (st.N[i]? = some x) && isVis st x && okNm x && !isStar e && chkE t n st e c
      | _ => false
    | .pop i => match s with
      | .Expr (.Call (.Attribute (.Name x _) m ap) [] [] cp) _ => decide (m = "pop") && (ap.endLine == cp.line) && decide (st.N[i]? = some x) && isVis st x && okNm x
      | _ => false
    | .setFld m c => match s with
      | .Assign [.Attribute (.Name x _) f _] e _ => decide (nmOf t.us m = f) && decide (st.N[0]? = some x) && isVis st x && okNm x && notComp e && chkE t n st e c
      | _ => false
    | .copy j i => match s with
      | .Assign [.Name y py] (.Call (.Name l p) [.Name x px] [] p2) _ => (decide (st.N[j]? = some y) && isLoc st y) && decide (st.N[i]? = some x) && isVis st x && okNm x && isBi t st l "list" && decide (swOf st [.Name y py] (.Call (.Name l p) [.Name x px] [] p2) = some none)
      | _ => false
    | .par3 i j l ca cb cc => match s with
      | .Assign [.Tuple [.Name x px, .Name y py, .Name w pz] kt pt] (.Tuple [a, b, c] k2 pt2) _ => (decide (st.N[i]? = some x) && isLoc st x) && (decide (st.N[j]? = some y) && isLoc st y) && (decide (st.N[l]? = some w) && isLoc st w) && chkE t n st a ca && chkE t n st b cb && chkE t n st c cc && (!isStar a && !isStar b && !isStar c && !(i == j) && !(i == l) && !(j == l)) &&
          ((decide (swOf st [.Tuple [.Name x px, .Name y py, .Name w pz] kt pt] (.Tuple [a, b, c] k2 pt2) = some (some [x, y, w])) && decide (st.sc.names.lookup x = some .local) && decide (st.sc.names.lookup y = some .local) && decide (st.sc.names.lookup w = some .local)) || decide (swOf st [.Tuple [.Name x px, .Name y py, .Name w pz] kt pt] (.Tuple [a, b, c] k2 pt2) = some none))
      | _ => false
    | .popTo j i => match s with
      | .Assign [.Name y py] (.Call (.Attribute (.Name x p) m ap) [] [] cp) _ => decide (m = "pop") && (ap.endLine == cp.line) && (decide (st.N[j]? = some y) && isLoc st y) && decide (st.N[i]? = some x) && isVis st x && okNm x && decide (swOf st [.Name y py] (.Call (.Attribute (.Name x p) m ap) [] [] cp) = some none)
      | _ => false
    | .setIx i _ a c => match s with
      | .Assign [.Subscript (.Name x px) ix p2] e _ => ixOk ix && decide (st.N[i]? = some x) && isVis st x && okNm x && notComp e && decide (swOf st [.Subscript (.Name x px) ix p2] e = some none) && chkE t n st ix a && chkE t n st e c
      | _ => false
    | .ins0 i _ c => match s with
      | .Expr (.Call (.Attribute (.Name x _) m ap) [.Constant (.int 0) _ _, e] [] cp) _ => decide (m = "insert") && (ap.endLine == cp.line) && decide (st.N[i]? = some x) && isVis st x && okNm x && !isStar e && chkE t n st e c
      | _ => false
    | .popAt j i _ c => match s with
      | .Assign [.Name y py] (.Call (.Attribute (.Name x p) m ap) [e] [] cp) _ => decide (m = "pop") && (ap.endLine == cp.line) && (decide (st.N[j]? = some y) && isLoc st y) && decide (st.N[i]? = some x) && isVis st x && okNm x && decide (swOf st [.Name y py] (.Call (.Attribute (.Name x p) m ap) [e] [] cp) = some none) && !isStar e && chkE t n st e c
      | _ => false
    | .clr i => match s with
      | .Expr (.Call (.Attribute (.Name x _) m ap) [] [] cp) _ => decide (m = "clear") && (ap.endLine == cp.line) && decide (st.N[i]? = some x) && isVis st x && okNm x
      | _ => false
    | .ext i c => match s with
      | .Expr (.Call (.Attribute (.Name x _) m ap) [e] [] cp) _ => decide (m = "extend") && (ap.endLine == cp.line) && decide (st.N[i]? = some x) && isVis st x && okNm x && !isStar e && chkE t n st e c
      | _ => false
    | .pset i k c => match s with
      | .Assign [.Subscript (.Name x px) (.Constant cn kn p) p2] e _ => !st.ak && keyC cn k && decide (st.N[i]? = some x) && isVis st x && okNm x && notComp e && decide (swOf st [.Subscript (.Name x px) (.Constant cn kn p) p2] e = some none) && chkE t n st e c
      | _ => false
def chkSs : Nat → Sta → List Stmt → CSs → Bool
  | 0, _, _, _ => false
  | n + 1, st, ss, c => match c with
    | .nil => ss.isEmpty
    | .cons c r => match ss with
      | s :: ss => chkS n st s c && chkSs n st ss r
      | _ => false
end
end

/-- what ValueError is derived from -/
structure CxS {S : Type} [Pen S] (Z : Cz S) (t : Tab) (st : Sta) (W : WX) (X : Cx) : Prop extends CxZ Z t st W X where
  po : PassesOwn (model X.prog X.w) X.A X.env X.xe
  ni : ∀ c o f, Z.P.meth c (dun o) = some f → noI Z.T.K (Z.T.cA c) o.info.2 = true
  stk : X.stack = X.env :: X.outer
  frm : X.env.frame = some X.env.locals
  rai : ∀ c, t.rai.contains c = true → excIn X.K (Z.T.cA c) veB "ValueError.__new__" = true ∧ Raises X (.ref (Z.T.cA c))
  raiN : ∀ c, t.rain.contains c = true → XIn Z X c
  askT : st.ak = true → ∀ (a : Str) (p1 p2 : Pos) (G : Fm) (W' : WX) (pn : List (Addr × Obj)) (xe : Value → Shared → Prop), st.N[0]? = some a → Takes (X.tr pn xe) W' → PE (X.tr pn xe) (.Call (.Name a p1) [] [] p2) (tD Z G W' .ask)

section
variable {S : Type} [Pen S] {Z : Cz S} {t : Tab} {n : Nat} {st : Sta} {W : WX} {X : Cx}
theorem CxS.try (h : CxS Z t st W X) {W' : WX} {pn : List (Addr × Obj)} {xe : Value → Shared → Prop} (tk : Takes (X.tr pn xe) W') (po : PassesOwn (model X.prog X.w) X.A X.env xe) : CxS Z t st.try W' (X.tr pn xe) where
  z := ⟨h.z.hK, h.z.fz, h.z.fi, h.z.hu, h.z.meth, h.z.opL, h.z.opR, h.z.cmp, h.z.own, h.z.sub, h.z.fld, h.z.prop, h.z.con⟩
  tk := tk
  calm := h.calm
  nd := h.nd
  hN := h.hN
  hsc := h.hsc
  hfn := h.hfn
  fns := h.fns
  cls := h.cls
  gls := h.gls
  bis := h.bis
  gts := h.gts
  cfi := h.cfi
  kwo := h.kwo
  ini := h.ini
  pno := h.pno
  sm := h.sm
  smt := h.smt
  xz := ⟨h.xz.ec, h.xz.sub, h.xz.nv, h.xz.fd⟩
  xm := h.xm
  xm0 := h.xm0
  askE := fun z a p1 p2 G e => h.askT z a p1 p2 G W' pn xe e tk
  lt := fun z => ⟨(h.lt z).ex⟩
  lfs := h.lfs
  po := po
  ni := h.ni
  stk := h.stk
  frm := h.frm
  rai := h.rai
  raiN := h.raiN
  askT := fun z a p1 p2 G W2 pn2 xe2 e tk2 => h.askT z a p1 p2 G W2 pn2 xe2 e tk2
theorem chkV_ok {e : Expr} {v : CV} (h : CxZ Z t st W X) (q : chkV t n st e v = true) (G : Fm) : CVok Z W X e v G := by
  cases v with
  | f c => exact (ok_all n).E h q G
  | w w => exact (ok_all n).L h q G
  | x c => exact dx_of ((ok_all n).E h q G)
theorem chkLc_ok {i : Nat} {tg e : Expr} {w : CW} {p : Pos} (h : CxZ Z t st W X) (q : chkLc t n st i tg e w = true) (G : Fm) : PS X (.Assign [tg] e p) (tDS Z G W (.own i w)) ∧ PS X (.Assign [tg] e p) (tDS Z G W (.set i false (.nl w))) := by
  have k := ok_all (Z := Z) (t := t) n
  unfold chkLc at q
  split at q
  · split at q
    · split at q
      · simp only [Bool.and_eq_true, decide_eq_true_eq] at q
        obtain ⟨⟨⟨⟨⟨⟨⟨⟨⟨q0, q1⟩, q2⟩, rfl⟩, q4⟩, q5⟩, q6⟩, q7⟩, q8⟩, q9⟩ := q
        exact ds_lc (th := false) h.calm h.nd (by rw [h.hN]; exact q0) (by rw [h.hsc]; exact q1) (swW_of h.hsc q2) (k.I h q5 G) (blkOk_by (by rw [h.hN, h.hsc]; exact q6)) own_slots (fun s H C cl fp => chkTg_ok (h.blk s H _ cl C fp) q7) (fun G s H C cl fp => k.C (h.blk s H _ cl C fp) q8 G) (fun G s H C cl fp => k.E (h.blk s H _ cl C fp) q9 G) (notSet_of q4)
      · cases q
    · cases q
  · cases q

theorem chkVn_ok (h : CxZ Z t st W X) {e : Expr} {i : Nat} (q : chkVn st i e = true) (a : Addr) (pns : List (Addr × Obj)) : ∃ x p, e = .Name x p ∧ PE (X.suite a pns) (.Name x p) (tVar i) := by
  cases e <;> simp only [chkVn] at q <;> first | (cases q; done) | skip
  simp only [Bool.and_eq_true, decide_eq_true_eq] at q
  exact ⟨_, _, rfl, pe_var (X := X.suite a pns) (by rw [← h.hN] at q; exact q.1.1) (h.vis q.1.2) (okNm_of q.2).1 (okNm_of q.2).2⟩
theorem chkTn_suite (h : CxZ Z t st W X) {e : Expr} {n : Tn} (k : chkTn t st e n = true) (a : Addr) (pns : List (Addr × Obj)) : isStar e = false ∧ PE (X.suite a pns) e (tC (n.v Z.T)) := by
  cases n with
  | ty n =>
    cases e <;> simp only [chkTn] at k <;> first | (cases k; done) | skip
    simp only [Bool.and_eq_true, decide_eq_true_eq, Bool.not_eq_true'] at k
    refine ⟨rfl, pe_bltn (X := X.suite a pns) (h.gl k.1.1.1.1) (h.bis _ k.1.1.1.2) k.1.1.2 rfl ?_ k.1.2⟩
    intro z
    rw [z] at k
    simp at k
  | cl c =>
    cases e <;> simp only [chkTn] at k <;> first | (cases k; done) | skip
    simp only [Bool.and_eq_true, decide_eq_true_eq] at k
    exact ⟨rfl, pe_glob (X := X.suite a pns) (h.gl k.1.1) (h.cls _ _ k.1.2).1 rfl (okNm_of k.2).1⟩
theorem chkQ_ok : ∀ n, (∀ {Z : Cz S} {t : Tab} {st : Sta} {W : WX} {X : Cx}, CxZ Z t st W X → ∀ {e : Expr} {c : CE}, chkQ t n st e c = true → ∀ (G : Fm) (a : Addr) (pns : List (Addr × Obj)), PE (X.suite a pns) e (tD Z G WF c)) ∧ (∀ {Z : Cz S} {t : Tab} {st : Sta} {W : WX} {X : Cx}, CxZ Z t st W X → ∀ {es : List Expr} {cs : CAs}, chkQs t n st es cs = true → ∀ (G : Fm) (a : Addr) (pns : List (Addr × Obj)), PA (X.suite a pns) es (tDA Z G WF cs)) := by
  intro n
  induction n with
  | zero =>
    constructor
    · intro Z t st W X h e c q
      unfold chkQ at q
      cases q
    · intro Z t st W X h e c q
      unfold chkQs at q
      cases q
  | succ n ih =>
    refine ⟨fun {Z t st W X} h {e c} q G a pns => ?_, fun {Z t st W X} h {es cs} q G a pns => ?_⟩
    · unfold chkQ at q
      split at q
      · split at q
        · obtain ⟨_, _, e1, v1⟩ := chkVn_ok h q a pns
          cases e1
          exact de_v v1
        · cases q
      · split at q
        · simp only [Bool.and_eq_true, decide_eq_true_eq] at q
          obtain ⟨_, _, e1, v1⟩ := chkVn_ok h q.1 a pns
          cases e1
          exact de_xat (X := X.suite a pns) (h.xz.suite a pns) v1 q.2
        · cases q
      · split at q
        · cases beq_iff_eq.mp q
          exact de_k pe_int fun F => rfl
        · cases q
      · split at q
        · exact de_lst (ih.2 h q G a pns)
        · cases q
      · cases q
    · unfold chkQs at q
      split at q
      · split at q
        · exact da_nil
        · cases q
      · split at q
        · simp only [Bool.and_eq_true, Bool.not_eq_true'] at q
          exact da_cons (ih.1 h q.1.2 G a pns) (ih.2 h q.2 G a pns) (starEach_plain q.1.1)
        · cases q
theorem chkRx_ok (h : CxZ Z t st W X) {e : Expr} {c : CE} (q : chkRx t st e c = true) {G : Fm} (a : Addr) (pns : List (Addr × Obj)) : PE (X.suite a pns) e (tD Z G WF (.bi .repr (.cons false c .nil))) := by
  have hu : (X.suite a pns).A.units + 64 < cLine := h.z.hu
  obtain ⟨_, _, hgd, _⟩ := h.z.fz 0
  have hgd' : (X.suite a pns).A.guards = some [] := hgd
  unfold chkRx at q
  split at q
  · simp only [Bool.and_eq_true, Bool.not_eq_true'] at q
    obtain ⟨⟨j1, j2⟩, j3⟩ := q
    obtain ⟨rfl, g2, m2⟩ := h.bi j1
    exact de_repr (X := X.suite a pns) (Z := Z) (G := G) (W := WF) h.z.hK hu hgd' g2 m2 ((chkQ_ok 12).1 h j3 G a pns) j2
  · cases q
theorem chkR_ok (h : CxZ Z t st W X) {e : Expr} {c : CE} (q : chkR t st e c = true) {G : Fm} (a : Addr) (pns : List (Addr × Obj)) : PE (X.suite a pns) e (tD Z G WF c) := by
  unfold chkR at q
  split at q
  · split at q
    · simp only [Bool.and_eq_true, Bool.not_eq_true'] at q
      obtain ⟨⟨⟨q1, q2⟩, q3⟩, q4⟩ := q
      unfold chkIsx at q1
      split at q1
      · simp only [Bool.and_eq_true] at q1
        obtain ⟨⟨i1, i2⟩, i3⟩ := q1
        obtain ⟨rfl, g1, m1⟩ := h.bi i1
        obtain ⟨_, _, e1, v1⟩ := chkVn_ok h i2 a pns
        cases e1
        obtain ⟨s1, s2⟩ := chkTn_suite h i3 a pns
        exact de_isand (de_isx (X := X.suite a pns) (h.xz.suite a pns) g1 m1 v1 s2 s1) (pe_one (de_repreq (chkRx_ok h q2 a pns) (chkRx_ok h q3 a pns) q4))
      · cases q1
    · cases q
  · cases q
structure OkS (Z : Cz S) (t : Tab) (n : Nat) : Prop where
  S : ∀ {st W X s c}, CxS Z t st W X → chkS t n st s c = true → ∀ G, PS X s (tDS Z G W c)
  Ss : ∀ {st W X ss cs}, CxS Z t st W X → chkSs t n st ss cs = true → ∀ G, PSs X ss (tDSs Z G W cs)
theorem okS (k : OkS Z t n) {s : Stmt} {c : CS} (h : CxS Z t st W X) (q : chkS t (n + 1) st s c = true) (G : Fm) : PS X s (tDS Z G W c) := by
  have kE := ok_all (Z := Z) (t := t) n
  have hz := h.toCxZ
  cases c with
  | never => exact ds_never
  | pass =>
    simp only [chkS] at q
    split at q
    · exact ds_pass
    · cases q
  | brk =>
    simp only [chkS] at q
    split at q
    · exact ds_brk
    · cases q
  | cont =>
    simp only [chkS] at q
    split at q
    · exact ds_cont
    · cases q
  | retN =>
    simp only [chkS] at q
    split at q
    · exact ds_retN
    · cases q
  | ret c =>
    simp only [chkS] at q
    split at q
    · exact ds_ret (kE.E hz q G)
    · cases q
  | expr th c =>
    simp only [chkS] at q
    split at q
    · rw [Bool.and_eq_true] at q
      exact ds_expr (kE.E hz q.2 G) (notComp_of q.1)
    · cases q
  | set i th c =>
    simp only [chkS] at q
    split at q
    · rw [Bool.or_eq_true] at q
      rcases q with q | q
      · split at q
        · simp only [Bool.and_eq_true, decide_eq_true_eq] at q
          obtain ⟨⟨⟨⟨q1, q2⟩, q3⟩, q4⟩, q5⟩ := q
          exact ds_set hz.nd (hz.nm (by simp [q1, q2])) (kE.E hz q5 G) (swS_of hz.hsc q3) (swOf_of hz.hsc q4)
        · cases q
      · rw [Bool.and_eq_true] at q
        obtain ⟨q1, q2⟩ := q
        split at q2
        · cases th with
          | true => cases q1
          | false => exact (chkLc_ok hz q2 G).2
        · cases q2
    · cases q
  | own i w =>
    simp only [chkS] at q
    split at q
    · rw [Bool.or_eq_true] at q
      rcases q with q | q
      · split at q
        · simp only [Bool.and_eq_true, decide_eq_true_eq] at q
          obtain ⟨⟨⟨⟨q1, q2⟩, q3⟩, q4⟩, q5⟩ := q
          exact ds_own hz.nd (hz.nm (by simp [q1, q2])) (kE.L hz q5 G) (swS_of hz.hsc q3) (swOf_of hz.hsc q4)
        · cases q
      · exact (chkLc_ok hz q G).1
    · cases q
  | par2 i j va vb =>
    simp only [chkS] at q
    split at q
    · rw [Bool.and_eq_true, Bool.and_eq_true, Bool.and_eq_true, Bool.and_eq_true, Bool.and_eq_true, Bool.and_eq_true, Bool.and_eq_true, Bool.not_eq_true', Bool.not_eq_true', Bool.not_eq_true', Bool.or_eq_true] at q
      obtain ⟨⟨⟨⟨⟨⟨⟨q1, q2⟩, q3⟩, q4⟩, q5⟩, q6⟩, q7⟩, q8⟩ := q
      refine ds_par2 hz.z.hK hz.calm hz.nd (hz.nm q1) (hz.nm q2) (fun G => chkV_ok hz q3 G) (fun G => chkV_ok hz q4 G) q5 q6 ?_ (by simpa using q7)
      rcases q8 with q8 | q8
      · simp only [Bool.and_eq_true, decide_eq_true_eq] at q8
        exact .inl ⟨swOf_of hz.hsc q8.1.1, by rw [hz.hsc]; exact q8.1.2, by rw [hz.hsc]; exact q8.2⟩
      · exact .inr (swOf_of hz.hsc (of_decide_eq_true q8))
    · cases q
  | unpack is c =>
    simp only [chkS] at q
    split at q
    · simp only [Bool.and_eq_true, decide_eq_true_eq] at q
      obtain ⟨⟨⟨q1, q2⟩, q3⟩, q4⟩ := q
      exact ds_unpack hz.z.hK hz.calm hz.nd (chkNms_ok hz q1) (kE.E hz q4 G) (notCompS q2) (swOf_of hz.hsc q3)
    · cases q
  | aug i o th c =>
    simp only [chkS] at q
    split at q
    · rw [Bool.and_eq_true, Bool.and_eq_true, decide_eq_true_eq] at q
      obtain ⟨⟨rfl, q2⟩, q3⟩ := q
      exact ds_aug hz.z (fun c f => h.ni c _ f) hz.tk hz.nd (hz.nm q2) (kE.E hz q3 G)
    · cases q
  | ite c a b =>
    simp only [chkS] at q
    split at q
    · simp only [Bool.and_eq_true] at q
      exact ds_if (kE.T hz q.1.1 G) (k.Ss h q.1.2 G) (k.Ss h q.2 G)
    · cases q
  | «while» c b =>
    simp only [chkS] at q
    split at q
    · simp only [Bool.and_eq_true] at q
      exact ds_while h.po (kE.T hz q.1 G) (k.Ss h q.2 G)
    · cases q
  | «for» g it b =>
    simp only [chkS] at q
    split at q
    · simp only [Bool.and_eq_true] at q
      obtain ⟨⟨⟨q1, q2⟩, q3⟩, q4⟩ := q
      exact ds_for h.po hz.calm (kE.I hz q2 G) (chkTg_ok hz q3) (k.Ss h q4 G) (notSet_of q1)
    · cases q
  | raise c cs =>
    simp only [chkS] at q
    split at q
    · split at q
      · simp only [Bool.and_eq_true, decide_eq_true_eq] at q
        obtain ⟨⟨⟨q1, q2⟩, q3⟩, q4⟩ := q
        exact ds_raise0 PySem.F.excBase_ValueError (h.rai _ q4).1 (hz.cls _ _ q2).1 (hz.cls _ _ q2).2 (h.rai _ q4).2 (hz.gl q1) (okNm_of q3).1 hz.calm hz.tk
      · cases q
    · simp only [Bool.and_eq_true, decide_eq_true_eq, Bool.not_eq_true'] at q
      obtain ⟨⟨⟨⟨⟨q1, q2⟩, q3⟩, q4⟩, q5⟩, q6⟩ := q
      exact ds_raiseN hz.z.hK (h.raiN _ q4) (hz.gl q1) (hz.cls _ _ q2).1 (okNm_of q3).1 hz.calm hz.tk (kE.A hz q6 G) q5
    · cases q
  | tryR b c i e =>
    simp only [chkS] at q
    split at q
    · simp only [Bool.and_eq_true, decide_eq_true_eq] at q
      obtain ⟨⟨⟨⟨⟨⟨⟨q2, q3⟩, q4⟩, q5⟩, q6⟩, q7⟩, q8⟩, q9⟩ := q
      have q3' := q3
      rw [← hz.hsc] at q3'
      exact ds_tryR hz.xz hz.z.hK h.stk h.frm hz.nd (by rw [hz.hN]; exact q2) q3' ⟨hz.gl q5, (okNm_of q7).1, .inl (hz.cls _ _ q6).1⟩ hz.tk (fun W' pn xe tk po => k.Ss (h.try tk po) q9 G)
        (fun a pns => chkR_ok hz q8 a pns)
    · cases q
  | tryK b c i j =>
    simp only [chkS] at q
    split at q
    · rw [Bool.and_eq_true, Bool.and_eq_true, Bool.and_eq_true, Bool.and_eq_true, Bool.and_eq_true, Bool.and_eq_true, Bool.and_eq_true, Bool.and_eq_true, Bool.and_eq_true, Bool.and_eq_true, decide_eq_true_eq, decide_eq_true_eq, decide_eq_true_eq, decide_eq_true_eq, decide_eq_true_eq] at q
      obtain ⟨⟨⟨⟨⟨⟨⟨⟨⟨⟨rfl, q2⟩, q3⟩, q4⟩, q5⟩, q6⟩, q7⟩, q8⟩, q9⟩, q10⟩, q11⟩ := q
      have q3' := q3
      rw [← hz.hsc] at q3'
      obtain ⟨m1, m2, m3⟩ := hz.nm q8
      exact ds_tryK hz.xz hz.z.hK h.stk h.frm hz.nd (by rw [hz.hN]; exact q2) q3' ⟨hz.gl q5, (okNm_of q7).1, .inl (hz.cls _ _ q6).1⟩ hz.tk (fun W' pn xe tk po => k.Ss (h.try tk po) q11 G)
        (fun a pns => pss_one ((ps_asg (X := X.suite a pns) (pe_var (by rw [← hz.hN] at q2; exact q2) (.inl q3') (okNm_of q4).1 (okNm_of q4).2) (pg_name hz.nd m1 m2 m3) rfl (swOf_of hz.hsc q10) rfl).imp fun D σ H => by
          rintro ⟨v, e1, e2⟩
          exact ⟨v, e1, e2⟩)) (by simpa using q9)
    · cases q
  | append i th c =>
    simp only [chkS] at q
    split at q
    · simp only [Bool.and_eq_true, decide_eq_true_eq, Bool.not_eq_true'] at q
      obtain ⟨⟨⟨⟨⟨⟨rfl, q2⟩, q3⟩, q4⟩, q5⟩, q6⟩, q7⟩ := q
      exact ds_append (pe_var (by rw [hz.hN]; exact q3) (hz.vis q4) (okNm_of q5).1 (okNm_of q5).2) (kE.E hz q7 G) q6 q2
    · cases q
  | pop i =>
    simp only [chkS] at q
    split at q
    · simp only [Bool.and_eq_true, decide_eq_true_eq] at q
      obtain ⟨⟨⟨⟨rfl, q2⟩, q3⟩, q4⟩, q5⟩ := q
      exact ds_pop (pe_var (by rw [hz.hN]; exact q3) (hz.vis q4) (okNm_of q5).1 (okNm_of q5).2) q2
    · cases q
  | setFld m c =>
    simp only [chkS] at q
    split at q
    · simp only [Bool.and_eq_true, decide_eq_true_eq] at q
      obtain ⟨⟨⟨⟨⟨q1, q2⟩, q3⟩, q4⟩, q5⟩, q6⟩ := q
      exact ds_fld hz.z q1 (pe_var (by rw [hz.hN]; exact q2) (hz.vis q3) (okNm_of q4).1 (okNm_of q4).2) (kE.E hz q6 G) (notComp_of q5)
    · cases q
  | copy j i =>
    simp only [chkS] at q
    split at q
    · rw [Bool.and_eq_true, Bool.and_eq_true, Bool.and_eq_true, Bool.and_eq_true, Bool.and_eq_true, decide_eq_true_eq, decide_eq_true_eq] at q
      obtain ⟨⟨⟨⟨⟨q1, q2⟩, q3⟩, q4⟩, q5⟩, q6⟩ := q
      obtain ⟨rfl, g, m⟩ := hz.bi q5
      exact ds_copy hz.nd (hz.nm q1) (pe_var (by rw [hz.hN]; exact q2) (hz.vis q3) (okNm_of q4).1 (okNm_of q4).2) g m rfl (swOf_of hz.hsc q6)
    · cases q
  | par3 i j l ca cb cc =>
    simp only [chkS] at q
    split at q
    · rw [Bool.and_eq_true, Bool.and_eq_true, Bool.and_eq_true, Bool.and_eq_true, Bool.and_eq_true, Bool.and_eq_true, Bool.and_eq_true, Bool.or_eq_true] at q
      obtain ⟨⟨⟨⟨⟨⟨⟨q1, q2⟩, q3⟩, q4⟩, q5⟩, q6⟩, q7⟩, q8⟩ := q
      simp only [Bool.and_eq_true, Bool.not_eq_true', beq_eq_false_iff_ne] at q7
      obtain ⟨⟨⟨⟨⟨s1, s2⟩, s3⟩, s4⟩, s5⟩, s6⟩ := q7
      refine ds_par3 hz.z.hK hz.calm hz.nd (hz.nm q1) (hz.nm q2) (hz.nm q3) (kE.E hz q4 G) (kE.E hz q5 G) (kE.E hz q6 G) s1 s2 s3 s4 s5 s6 ?_
      rcases q8 with q8 | q8
      · simp only [Bool.and_eq_true, decide_eq_true_eq] at q8
        exact .inl ⟨swOf_of hz.hsc q8.1.1.1, by rw [hz.hsc]; exact q8.1.1.2, by rw [hz.hsc]; exact q8.1.2, by rw [hz.hsc]; exact q8.2⟩
      · exact .inr (swOf_of hz.hsc (of_decide_eq_true q8))
    · cases q
  | popTo j i =>
    simp only [chkS] at q
    split at q
    · rw [Bool.and_eq_true, Bool.and_eq_true, Bool.and_eq_true, Bool.and_eq_true, Bool.and_eq_true, Bool.and_eq_true, decide_eq_true_eq, decide_eq_true_eq, decide_eq_true_eq] at q
      obtain ⟨⟨⟨⟨⟨⟨rfl, q2⟩, q3⟩, q4⟩, q5⟩, q6⟩, q7⟩ := q
      exact ds_popTo hz.nd (hz.nm q3) (pe_var (by rw [hz.hN]; exact q4) (hz.vis q5) (okNm_of q6).1 (okNm_of q6).2) q2 rfl (swOf_of hz.hsc q7)
    · cases q
  | setIx i th a c =>
    simp only [chkS] at q
    split at q
    · simp only [Bool.and_eq_true, decide_eq_true_eq] at q
      obtain ⟨⟨⟨⟨⟨⟨⟨q1, q2⟩, q3⟩, q4⟩, q5⟩, q6⟩, q7⟩, q8⟩ := q
      exact ds_setIx q1 (pe_var (by rw [hz.hN]; exact q2) (hz.vis q3) (okNm_of q4).1 (okNm_of q4).2) (kE.E hz q7 G) (kE.E hz q8 G) (notCompS q5) (swOf_of hz.hsc q6)
    · cases q
  | ins0 i th c =>
    simp only [chkS] at q
    split at q
    · simp only [Bool.and_eq_true, decide_eq_true_eq, Bool.not_eq_true'] at q
      obtain ⟨⟨⟨⟨⟨⟨rfl, q2⟩, q3⟩, q4⟩, q5⟩, q6⟩, q7⟩ := q
      exact ds_ins0 (pe_var (by rw [hz.hN]; exact q3) (hz.vis q4) (okNm_of q5).1 (okNm_of q5).2) (kE.E hz q7 G) q6 q2
    · cases q
  | clr i =>
    simp only [chkS] at q
    split at q
    · simp only [Bool.and_eq_true, decide_eq_true_eq] at q
      obtain ⟨⟨⟨⟨rfl, q2⟩, q3⟩, q4⟩, q5⟩ := q
      exact ds_clr (pe_var (by rw [hz.hN]; exact q3) (hz.vis q4) (okNm_of q5).1 (okNm_of q5).2) q2
    · cases q
  | popAt j i th c =>
    simp only [chkS] at q
    split at q
    · rw [Bool.and_eq_true, Bool.and_eq_true, Bool.and_eq_true, Bool.and_eq_true, Bool.and_eq_true, Bool.and_eq_true, Bool.and_eq_true, Bool.and_eq_true, decide_eq_true_eq, decide_eq_true_eq, decide_eq_true_eq, Bool.not_eq_true'] at q
      obtain ⟨⟨⟨⟨⟨⟨⟨⟨rfl, q2⟩, q3⟩, q4⟩, q5⟩, q6⟩, q7⟩, q8⟩, q9⟩ := q
      exact ds_popAt hz.nd (hz.nm q3) (pe_var (by rw [hz.hN]; exact q4) (hz.vis q5) (okNm_of q6).1 (okNm_of q6).2) (kE.E hz q9 G) q8 q2 rfl (swOf_of hz.hsc q7)
    · cases q
  | ext i c =>
    simp only [chkS] at q
    split at q
    · simp only [Bool.and_eq_true, decide_eq_true_eq, Bool.not_eq_true'] at q
      obtain ⟨⟨⟨⟨⟨⟨rfl, q2⟩, q3⟩, q4⟩, q5⟩, q6⟩, q7⟩ := q
      exact ds_ext (pe_var (by rw [hz.hN]; exact q3) (hz.vis q4) (okNm_of q5).1 (okNm_of q5).2) (kE.E hz q7 G) q6 q2
    · cases q
  | pset i d c =>
    simp only [chkS] at q
    split at q
    · simp only [Bool.and_eq_true, decide_eq_true_eq] at q
      obtain ⟨⟨⟨⟨⟨⟨⟨q0, q1⟩, q2⟩, q3⟩, q4⟩, q5⟩, q6⟩, q7⟩ := q
      exact (hz.pno (by simpa using q0)).put (Nat.lt_of_le_of_lt (Nat.add_le_add_left (by decide) _) hz.z.hu) q1 (pe_var (by rw [hz.hN]; exact q2) (hz.vis q3) (okNm_of q4).1 (okNm_of q4).2) (kE.E hz q7 G) (notCompS q5) (swOf_of hz.hsc q6)
    · cases q
theorem okSs (k : OkS Z t n) {ss : List Stmt} {cs : CSs} (h : CxS Z t st W X) (q : chkSs t (n + 1) st ss cs = true) (G : Fm) : PSs X ss (tDSs Z G W cs) := by
  cases cs with
  | nil =>
    simp only [chkSs] at q
    cases ss with
    | nil => exact dss_nil
    | cons a r => cases q
  | cons c r =>
    simp only [chkSs] at q
    split at q
    · rw [Bool.and_eq_true] at q
      exact dss_cons (k.S h q.1 G) (k.Ss h q.2 G)
    · cases q
theorem okS_all : ∀ n, OkS Z t n
  | 0 => ⟨fun _ h => (by cases h), fun _ h => (by cases h)⟩
  | n + 1 => by
    have k := okS_all n
    exact ⟨okS k, okSs k⟩
end
end Rz
end

section
set_option autoImplicit false
set_option Elab.async false
set_option linter.all false
set_option maxHeartbeats 1000000
set_option maxRecDepth 100000
namespace Rz
open PySem PySem.Spec PySem.W PyProof.Rows L2

/-- .. and what is left over in a tuple -/
theorem bind_star {fd : FuncData} {a : Arg} {us rest : List Value} (h1 : fd.params.posonlyargs = []) (h2 : fd.params.kwonlyargs = []) (h3 : fd.params.vararg = some a) (h4 : fd.params.kwarg = none) (h5 : fd.defaults = .none) (nd : (fd.params.args.map (·.arg)).Nodup) (hl : us.length = (fd.params.args.map (·.arg)).length) :
    bindArgs fd ⟨us ++ rest, []⟩ = (newTuple rest >>= fun t => pure ((fd.params.args.map (·.arg)).zip us ++ [(a.arg, t)])) := by
  have hs : seqItems? Value.none = pure none := rfl
  unfold bindArgs
  simp only [h1, h2, h3, h4, h5, hs, List.map_nil, List.nil_append, List.append_nil, List.forIn_nil, pure_bind, Option.getD_none]
  generalize fd.params.args.map (·.arg) = ps at *
  have hz : ps.zip (us ++ rest) = ps.zip us := by
    have e : (ps ++ []).zip (us ++ rest) = ps.zip us ++ ([] : List Str).zip rest := List.zip_append hl.symm
    rw [List.append_nil] at e
    rw [e]; simp
  rw [if_neg (by simp)]
  simp only [hz, List.drop_nil, List.length_nil, Nat.sub_zero, missing_none hl, List.isEmpty_nil, Bool.not_true, Bool.false_eq_true, if_false, List.zip_nil_right, List.forIn_nil, pure_bind, filterMap_zip nd hl]
  rw [show (us ++ rest).drop ps.length = rest from by rw [← hl]; simp]

mutual
/-- a constant of the written part -/
def valC (K : Frag) : D → Value → Bool
  | .non, .none => true
  | .bl b, .bool c => b == c
  | .int i, .int j _ => i == j
  | .str a, .str b _ => decide (a = b)
  | .tup ds, .ref a => match K.lookup a with
    | some ⟨.type "tuple", _, .seq its _, _⟩ => decide (its.size ≤ 100000) && valCs K ds its.toList
    | _ => false
  | _, _ => false
def valCs (K : Frag) : List D → List Value → Bool
  | [], [] => true
  | d :: ds, u :: us => valC K d u && valCs K ds us
  | _, _ => false
end

section
variable {K : Frag}
mutual
theorem valC_ok : ∀ {x : D} {u : Value}, valC K x u = true → ∃ v, RelV v u ∧ ∀ (T : Tb) (F : Hp), T.K = K → Rep T F x v
  | .non, u, h => by
    cases u <;> simp only [valC] at h <;> first | (cases h; done) | exact ⟨.non, rfl, fun _ _ _ => rfl⟩
  | .bl b, u, h => by
    cases u <;> simp only [valC] at h <;> first | (cases h; done) | skip
    have e := eq_of_beq h
    subst e
    exact ⟨.bl b, rfl, fun _ _ _ => rfl⟩
  | .int i, u, h => by
    cases u <;> simp only [valC] at h <;> first | (cases h; done) | skip
    have e := eq_of_beq h
    subst e
    exact ⟨.int i, ⟨_, rfl⟩, fun _ _ _ => rfl⟩
  | .str a, u, h => by
    cases u <;> simp only [valC] at h <;> first | (cases h; done) | skip
    have e := of_decide_eq_true h
    subst e
    exact ⟨.str a, ⟨_, rfl⟩, fun _ _ _ => rfl⟩
  | .tup ds, u, h => by
    cases u <;> simp only [valC] at h <;> first | (cases h; done) | skip
    rename_i a
    split at h
    · rename_i dd its n sl lk
      rw [Bool.and_eq_true, decide_eq_true_eq] at h
      obtain ⟨vs, r, q⟩ := valCs_ok h.2
      exact ⟨.ref a, rfl, fun T F e => ⟨a, vs, rfl, .inr ⟨_, its, n, by rw [e]; exact lk, rfl, rfl, Nat.le_trans h.1 (by rw [sizeLine_eq]; decide), r⟩, q T F e⟩⟩
    · cases h
  | .lst _, u, h => by cases u <;> simp only [valC] at h <;> cases h
  | .ins _ _, u, h => by cases u <;> simp only [valC] at h <;> cases h
  | .dct _ _, u, h => by cases u <;> simp only [valC] at h <;> cases h
  | .cls _, u, h => by cases u <;> simp only [valC] at h <;> cases h
  | .ty _, u, h => by cases u <;> simp only [valC] at h <;> cases h
  | .fn _, u, h => by cases u <;> simp only [valC] at h <;> cases h
  | .pen, u, h => by cases u <;> simp only [valC] at h <;> cases h
  | .opq _, u, h => by cases u <;> simp only [valC] at h <;> cases h
theorem valCs_ok : ∀ {xs : List D} {us : List Value}, valCs K xs us = true → ∃ vs, Vals vs us ∧ ∀ (T : Tb) (F : Hp), T.K = K → RepL T F xs vs
  | [], [], _ => ⟨[], .nil, fun _ _ _ => rfl⟩
  | x :: xs, u :: us, h => by
    have h' : (valC K x u && valCs K xs us) = true := h
    rw [Bool.and_eq_true] at h'
    obtain ⟨v, r, q⟩ := valC_ok h'.1
    obtain ⟨vs, rs, qs⟩ := valCs_ok h'.2
    exact ⟨v :: vs, .cons r rs, fun T F e => ⟨v, vs, rfl, q T F e, qs T F e⟩⟩
  | [], _ :: _, h => by cases h
  | _ :: _, [], h => by cases h
end
end
/-- one default, given or not -/
theorem bind_dfl {fd : FuncData} {us its : List Value} (h1 : fd.params.posonlyargs = []) (h2 : fd.params.kwonlyargs = []) (h3 : fd.params.vararg = none) (h4 : fd.params.kwarg = none) (nd : (fd.params.args.map (·.arg)).Nodup) (hi : its.length = 1) :
    ∃ k, bindArgs fd ⟨us, []⟩ = seqItems? fd.defaults >>= k ∧ (us.length = (fd.params.args.map (·.arg)).length → k (some its.toArray) = pure ((fd.params.args.map (·.arg)).zip us)) ∧ (us.length + 1 = (fd.params.args.map (·.arg)).length → k (some its.toArray) = pure ((fd.params.args.map (·.arg)).zip (us ++ its))) := by
  obtain ⟨d, rfl⟩ : ∃ d, its = [d] := by
    match its, hi with
    | [d], _ => exact ⟨d, rfl⟩
  unfold bindArgs
  simp only [h1, h2, h3, h4, List.map_nil, List.nil_append, List.append_nil, List.forIn_nil, pure_bind]
  generalize fd.params.args.map (·.arg) = ps at *
  refine ⟨_, rfl, fun hl => ?_, fun hl => ?_⟩
  · have hp : 0 < ps.length ∨ ps = [] := by cases ps <;> simp
    simp only [Option.getD_some, List.length_cons, List.length_nil]
    rw [if_neg (by simp; omega)]
    rcases hp with hp | rfl
    · have e0 : 0 + 1 - ps.length = 0 := by omega
      simp only [e0, List.drop_zero, List.length_cons, List.length_nil, missing_none hl, List.isEmpty_nil, Bool.not_true, Bool.false_eq_true, if_false]
      obtain ⟨qs, q, rfl⟩ : ∃ qs q, ps = qs ++ [q] := ⟨ps.dropLast, ps.getLast (by intro z; rw [z] at hp; cases hp), (List.dropLast_concat_getLast _).symm⟩
      have e1 : (qs ++ [q]).drop ((qs ++ [q]).length - (0 + 1)) = [q] := by simp
      rw [e1]
      obtain ⟨v, ev⟩ := lookup_zip_some (n := q) hl (by simp)
      simp only [List.zip_cons_cons, List.zip_nil_right, List.forIn_cons, List.forIn_nil, ev, Option.isNone_some, Bool.false_eq_true, if_false, pure_bind, filterMap_zip nd hl]
    · cases us with
      | nil => simp
      | cons a r => cases hl
  · have hp : 0 < ps.length := by omega
    simp only [Option.getD_some, List.length_cons, List.length_nil]
    rw [if_neg (by simp; omega)]
    have e0 : 0 + 1 - ps.length = 0 := by omega
    obtain ⟨qs, q, rfl⟩ : ∃ qs q, ps = qs ++ [q] := ⟨ps.dropLast, ps.getLast (by intro z; rw [z] at hp; cases hp), (List.dropLast_concat_getLast _).symm⟩
    have hq : us.length = qs.length := by simpa using hl
    have e1 : (qs ++ [q]).drop ((qs ++ [q]).length - (0 + 1)) = [q] := by simp
    have e2 : (qs ++ [q]).take ((qs ++ [q]).length - (0 + 1)) = qs := by simp
    have ez : (qs ++ [q]).zip us = qs.zip us := by
      have z : (qs ++ [q]).zip (us ++ []) = qs.zip us ++ [q].zip ([] : List Value) := List.zip_append hq.symm
      rw [List.append_nil] at z
      rw [z]; simp
    have em : (qs.filter fun n => ((qs.zip us).lookup n).isNone) = [] := by
      have z := missing_none hq qs.length
      rwa [List.take_length] at z
    have en : (qs.zip us).lookup q = none := lookup_zip_none (fun z => by
      rw [List.nodup_append] at nd
      exact nd.2.2 q z q (by simp) rfl)
    have ea : qs.zip us ++ [(q, d)] = (qs ++ [q]).zip (us ++ [d]) := by
      rw [List.zip_append hq.symm]; rfl
    simp only [e0, List.drop_zero, List.length_cons, List.length_nil, e1, e2, ez, em, List.isEmpty_nil, Bool.not_true, Bool.false_eq_true, if_false, List.zip_cons_cons, List.zip_nil_right, List.forIn_cons, List.forIn_nil, en, Option.isNone_none, if_true, pure_bind]
    rw [ea, filterMap_zip nd (by simp [hq])]
/-- the Bool of all -/
def bndC (K : Frag) (fd : FuncData) (b : Fn) : Bool :=
  fd.params.posonlyargs.isEmpty && fd.params.kwonlyargs.isEmpty && fd.params.kwarg.isNone && decide ((fd.params.args.map (·.arg)).Nodup) && decide ((fd.params.args.map (·.arg)).length = b.np) && (fd.params.vararg.isSome == b.star) &&
    ((decide (fd.defaults = .none) && b.dfl.isEmpty) || (!b.star && match fd.defaults, b.dfl with
      | .ref a, [x] => match K.lookup a with
        | some ⟨_, _, .seq its _, _⟩ => match its.toList with
          | [u] => valC K x u
          | _ => false
        | _ => false
      | _, _ => false))
def psOf (fd : FuncData) : List Str := fd.params.args.map (·.arg) ++ (match fd.params.vararg with | some a => [a.arg] | none => [])
theorem looks_dfl {α : Type} {K : Frag} {M : Model} {h : Heap} {a : Addr} {o : Obj} {its : Array Value} {n : Nat} {k : Option (Array Value) → Sem α} {r : α} (X : K.In h) (l : K.lookup a = some o) (e : o.data = .seq its n) (hk : k (some its) = pure r) : PySem.W.Looks M h (seqItems? (.ref a) >>= k) r := fun A Q E s kp q => by
  refine wpAny_bind (wpAny_seqItems (kp _ _ (X _ _ l)) e ?_)
  rw [hk]
  exact wpAny_pure q
theorem bndC_ok {K : PySem.W.Frag} {T : Tb} {fd : FuncData} {b : Fn} (hT : T.K = K) (h : bndC K fd b = true) : BindZ K T fd (psOf fd) b := by
  simp only [bndC, Bool.and_eq_true, decide_eq_true_eq, List.isEmpty_iff, Option.isNone_iff_eq_none, Bool.or_eq_true, Bool.not_eq_true'] at h
  obtain ⟨⟨⟨⟨⟨⟨h1, h2⟩, h4⟩, nd⟩, hn⟩, hv⟩, hd⟩ := h
  unfold BindZ
  cases hs : b.star with
  | false =>
    rw [hs] at hv
    have h3 : fd.params.vararg = none := by
      cases e : fd.params.vararg with
      | none => rfl
      | some a => rw [e] at hv; simp at hv
    have eps : psOf fd = fd.params.args.map (·.arg) := by unfold psOf; rw [h3]; simp
    rw [eps]
    refine ⟨hn, ?_⟩
    rcases hd with ⟨h5, h6⟩ | ⟨_, hd⟩
    · exact fun j _ => ⟨[], [], .nil, fun F => by rw [h6, List.drop_nil]; rfl, Binds.all fun us hl => bind_plain h1 h2 h3 h4 h5 nd hl⟩
    · split at hd
      · rename_i a x ed ex
        split at hd
        · rename_i oc od its n osl lk
          split at hd
          · rename_i u eu
            obtain ⟨v, rv, rp⟩ := valC_ok hd
            have ei : its = #[u] := by rw [← Array.toList_inj]; simpa using eu
            intro j hj
            rw [ex] at hj ⊢
            have looks : ∀ (us : List Value) (r : List (Str × Value)) (k : Option (Array Value) → Sem (List (Str × Value))) (s : Shared), K.In s.heap → bindArgs fd ⟨us, []⟩ = seqItems? fd.defaults >>= k → k (some [u].toArray) = pure r → BindsTo s fd ⟨us, []⟩ r := fun us r k s X e1 e2 M A Q E q => by
              rw [e1, ed]
              exact (looks_dfl (n := n) X lk (by rw [ei]) e2).here q
            have : j = 0 ∨ j = 1 := by simp at hj; omega
            rcases this with rfl | rfl
            · refine ⟨[v], [u], .cons rv .nil, fun F => RepL.one (rp T F hT), fun s us X hl => ?_⟩
              obtain ⟨k, k1, k2, k3⟩ := bind_dfl (us := us) (its := [u]) h1 h2 h3 h4 nd rfl
              exact looks us _ k s X k1 (k3 (by simpa using hl))
            · refine ⟨[], [], .nil, fun F => rfl, fun s us X hl => ?_⟩
              obtain ⟨k, k1, k2, k3⟩ := bind_dfl (us := us) (its := [u]) h1 h2 h3 h4 nd rfl
              rw [List.append_nil] at hl ⊢
              exact looks us _ k s X k1 (k2 hl)
          · cases hd
        · cases hd
      · cases hd
  | true =>
    rw [hs] at hv hd
    have h5 : fd.defaults = .none := by
      rcases hd with ⟨h5, _⟩ | ⟨z, _⟩
      · exact h5
      · cases z
    obtain ⟨a, h3⟩ : ∃ a, fd.params.vararg = some a := by
      cases e : fd.params.vararg with
      | none => rw [e] at hv; simp at hv
      | some a => exact ⟨a, rfl⟩
    refine ⟨fd.params.args.map (·.arg), a.arg, by unfold psOf; rw [h3], hn, fun us rest hl => bind_star h1 h2 h3 h4 h5 nd hl⟩
end Rz
end

section
set_option autoImplicit false
set_option Elab.async false
set_option linter.all false
set_option maxHeartbeats 1000000
set_option maxRecDepth 100000
namespace Rz
open PySem PySem.Spec PySem.W PyProof.Rows L2

/-- a program's tables -/
structure PD (S : Type) where
  cA : List Addr
  fld : List (List Str)
  fA : List Addr
  Ns : List (List Str)
  tab : Tab
  fns : List (FnD S)
  meths : List ((Nat × Nat) × Nat)
  attrs : List ((Nat × Nat) × At)
  inits : List (Nat × Nat)
  gls : List D
  ncl : Nat
  subs : List (Nat × Nat)
  kwns : List (List Str)
  smeths : List ((Nat × Nat) × Nat)
  gts : List (List (Int × D)) := []
  gtA : List Addr := []
  tabs : List (Addr × Str) := []
  exc : List (Nat × Nat) := []
  xfd : List ((Nat × Nat) × Nat) := []
  /-- the names that error classes take -/
  xps : List (Nat × List Str) := []
  /-- class methods -/
  cmeths : List ((Nat × Nat) × Nat) := []
  /-- defs in which lambdas are made: name, code object, table -/
  lcs : List (Str × Addr × Addr) := []

section
variable {S : Type} [Pen S]
def PD.pt (d : PD S) : Pt := ⟨fun c m => d.meths.lookup (c, m), fun c m => (d.attrs.lookup (c, m)).getD .none, fun c m => match d.cmeths.lookup (c, m) with | some f => some (true, f) | none => (d.smeths.lookup (c, m)).map fun f => (false, f), fun c e => d.subs.contains (c, e), d.ncl, fun j => d.gls.getD j .non, fun c => d.inits.lookup c, fun c => d.exc.lookup c, fun f => d.kwns.getD f [], fun j => d.gts.getD j [], fun c m => d.xfd.lookup (c, m), fun c => (d.xps.lookup c).getD []⟩
def PD.prg (d : PD S) : Prg S := { toPt := d.pt, fn := fun f => d.fns.getD f .none }
def PD.C (d : PD S) (c : Nat) : Addr := d.cA.getD c 0
def PD.F (d : PD S) (f : Nat) : Addr := d.fA.getD f 0
def PD.L (d : PD S) (c : Nat) : List Str := d.fld.getD c []
def PD.tb (d : PD S) (K : Frag) (pen : Addr) : Tb := ⟨K, d.C, d.L, d.F, pen, d.tabs⟩

/-! ### the checks -/

variable (K : Frag) (d : PD S)
def clsC (c : Nat) : Bool := plainGet K (d.C c) Str.empty && hasDictIn K (d.C c) && plainOver K (d.C c) && (findIn K (.ref (d.C c)) "__setattr__" == some (some (.builtin "object.__setattr__"))) && decide (d.L c).Nodup && decide ((d.L c).length < 900)
def methC (c : Nat) (m : Str) (f : Nat) : Bool := clsC K d c && (findIn K (.ref (d.C c)) m == some (some (.ref (d.F f)))) && isFn K (.ref (d.F f)) && keepIn K (.ref (d.F f)) && !(d.L c).contains m
def isRef : Option Value → Bool
  | none => true
  | some (.ref _) => true
  | _ => false
def isRefS : Option (Option Value) → Bool
  | some (some (.ref _)) => true
  | _ => false
def rcOk : Option (Option Value) → Bool
  | some o => isRef o
  | none => false
def opLC (c : Nat) (o : Operator) (f : Nat) : Bool :=
  clsC K d c && selfFirst K (d.C c) && (findIn K (.ref (d.C c)) (PySem.dunder o.info.2) == some (some (.ref (d.F f)))) && isFn K (.ref (d.F f)) && rcOk (findIn K (.ref (d.C c)) (dunderR o.info.2)) &&
    tyNs.all (fun n => (findIn K (.type n) (PySem.dunder o.info.2)).isSome && (findIn K (.type n) (dunderR o.info.2)).isSome && (subIn K (.type n) (.ref (d.C c)) == some false)) && noI K (d.C c) o.info.2
def noNum (fo ro : Option (Option Value)) : Bool :=
  match fo, ro with
  | some fo, some ro => !((fo.isSome && !isSeqSlot fo) || (ro.isSome && !isSeqSlot ro))
  | _, _ => false
def opRC (c : Nat) (o : Operator) (f : Nat) : Bool :=
  clsC K d c && selfFirst K (d.C c) && isRefS (findIn K (.ref (d.C c)) (PySem.dunder o.info.2)) && (findIn K (.ref (d.C c)) (dunderR o.info.2) == some (some (.ref (d.F f)))) && isFn K (.ref (d.F f)) &&
    tyNs.all (fun n => (findIn K (.type n) (PySem.dunder o.info.2)).isSome && (findIn K (.type n) (dunderR o.info.2)).isSome && (subIn K (.ref (d.C c)) (.type n) == some false) && (!tyNo.contains n || noNum (findIn K (.type n) (PySem.dunder o.info.2)) (findIn K (.type n) (dunderR o.info.2))))
def cmpC (c : Nat) : Bool := tyNs.all (fun n => subIn K (.type n) (.ref (d.C c)) == some false) && (findIn K (.ref (d.C c)) "__ne__" == some (some (.builtin "object.__ne__"))) && (subIn K (.ref (d.C c)) (.type "object") == some true)
def ownC (c : Nat) : Bool := clsC K d c && (findIn K (.ref (d.C c)) "__class__" == some (some (.builtin "object.__class__"))) && (specialIn K (.builtin "object.__class__") "__get__" == some (some (.builtin "getset_descriptor.__get__"))) && (takesIn K (.builtin "object.__class__") == some true) &&
  (mroIn K (d.C c) (.type "object") == some true) && tyNs.all (fun m => kitOne K (.type m) (.ref (d.C c)) == some false) && tyIs.all (fun n => kitOne K (.ref (d.C c)) (.type n) == some false)
def allOps : List Operator := [.Add, .Sub, .Mult, .MatMult, .Div, .Mod, .Pow, .LShift, .RShift, .BitOr, .BitXor, .BitAnd, .FloorDiv]
theorem allOps_mem (o : Operator) : o ∈ allOps := by cases o <;> simp [allOps]
def entryC (e : (Nat × Nat) × Nat) : Bool := methC K d e.1.1 (nmOf d.tab.us e.1.2) e.2 && cmpC K d e.1.1 && allOps.all (fun o => (!(dun o == e.1.2) || opLC K d e.1.1 o e.2) && (!(dun o + 1 == e.1.2) || opRC K d e.1.1 o e.2)) && (!(mCall == e.1.2) || fnIn K (d.F e.2))
def propC (c : Nat) (m : Str) (f : Nat) : Bool := clsC K d c && (match findIn K (.ref (d.C c)) m with
  | some (some (.ref p)) => (specialIn K (.ref p) "__get__" == some (some (.builtin "property.__get__"))) && (takesIn K (.ref p) == some true) && (match recIn K p "property" with
    | some (.ref g :: _) => g == d.F f
    | _ => false)
  | _ => false)
def conC (c : Nat) (m : Str) (x : D) : Bool := clsC K d c && !(d.L c).contains m && !copiedNames.contains m && (match findIn K (.ref (d.C c)) m with
  | some (some u) => valC K x u && (specialIn K u "__get__" == some none) && (specialIn K (.ref (d.C c)) "__getattribute__" == some (some (.builtin "type.__getattribute__"))) && (match typeIn K (.ref (d.C c)) with
    | some mc => readsIn K (d.C c) mc && (match findCls K (.ref (d.C c)) mc m with
      | some (.val u') => decide (u' = u)
      | _ => false)
    | none => false)
  | _ => false)
def attrC (e : (Nat × Nat) × At) : Bool :=
  match e.2 with
  | .fld k => clsC K d e.1.1 && (findIn K (.ref (d.C e.1.1)) (nmOf d.tab.us e.1.2) == some none) && decide ((d.L e.1.1)[k]? = some (nmOf d.tab.us e.1.2))
  | .prop f => propC K d e.1.1 (nmOf d.tab.us e.1.2) f
  | .con x => conC K d e.1.1 (nmOf d.tab.us e.1.2) x
  | .none => true
def scC (N ps : List Str) (sc : Scope) : Bool :=
  decide (sc.kind = .function) && !sc.isCoroutine && !sc.isGenerator && decide N.Nodup && decide (N.take ps.length = ps) && ps.all (fun x => decide (sc.names.lookup x = some .local) || decide (sc.names.lookup x = some .cell)) && sc.names.all (fun y => !decide (y.2 = .free))
def fuel : Nat := 300
/-- lambdas may be made in the def of this code object -/
def lmC (cd : Value) (q : Str) : Bool :=
  match cd with
  | .ref c => d.lcs.any fun p => decide (p.2.1 = c) && d.tabs.any (fun t => decide (t.1 = p.2.2) && decide (t.2 = (q ++ ".<locals>.") ++ "<lambda>")) && d.tabs.all (fun t => !decide (t.1 = p.2.2) || decide (t.2 = (q ++ ".<locals>.") ++ "<lambda>"))
  | _ => false
/-- a def's body: got a lambda, or not -/
def staC (N : List Str) (sc : Scope) (cd : Value) (q : Str) (ak : Bool) : Sta := ⟨N, sc, fun _ => true, false, ak, !ak && lmC d cd q⟩
def fnC (f : Nat) (b : Fn) (ak : Bool) : Bool :=
  match K.lookup (d.F f) with
  | some ⟨_, _, .func fd, _⟩ => match fd.body with
    | .stmts body => decide (fd.globals = mainGlobals) && fd.closure.isEmpty && decide (fd.builtins = builtinsNs) && codeIn K fd.code fd.qualname && scC (d.Ns.getD f []) (psOf fd) fd.scope && bndC K fd b && decide ((d.Ns.getD f []).length = b.ns) && decide ((psOf fd).length ≤ (d.Ns.getD f []).length) &&
        chkSs d.tab fuel (staC d (d.Ns.getD f []) fd.scope fd.code fd.qualname ak) body b.body
    | _ => false
  | _ => false
/-- a def that got a lambda: one plain parameter -/
def lambC (f : Nat) (b : Fn) : Bool :=
  match K.lookup (d.F f) with
  | some ⟨_, _, .func fd, _⟩ => match psOf fd with
    | [a] => fnC K d f b true && decide (b.np = 1) && !b.star && b.dfl.isEmpty && decide ((d.Ns.getD f [])[0]? = some a) && (decide (fd.scope.names.lookup a = some .local) || decide (fd.scope.names.lookup a = some .cell)) && okNm a
    | _ => false
  | _ => false
def fnsC : Nat → List (FnD S) → Bool
  | _, [] => true
  | f, .code b :: r => fnC K d f b false && fnsC (f + 1) r
  | f, .lamb b :: r => lambC K d f b && fnsC (f + 1) r
  | f, _ :: r => fnsC (f + 1) r
def initC (e : Nat × Nat) : Bool := makesIn K (d.C e.1) && (findIn K (.ref (d.C e.1)) "__init__" == some (some (.ref (d.F e.2)))) && isFn K (.ref (d.F e.2)) && keepIn K (.ref (d.C e.1)) && (match d.fns.getD e.2 .none with
  | .code b => decide (0 < b.np)
  | _ => false)
def glC (u : Option (Option Value)) (x : D) : Bool :=
  match u with
  | some (some u) => valC K x u
  | _ => false
def gtC (a : Addr) (kvs : List (Int × D)) : Bool :=
  match K.lookup a with
  | some ⟨.type "dict", none, .dict es _, ⟨[]⟩⟩ => es.all (fun e => match e.key with
      | .int k _ => decide (e.hash = hashInt k)
      | _ => false) && kvs.all fun p => match findBy Value.isInt es p.1 with
    | some u => valC K p.2 u
    | none => false
  | _ => false
def tabC : Bool := d.tab.fns.all (fun e => (nsIn K mainGlobals e.1 == some (some (.ref (d.F e.2)))) && keepIn K (.ref (d.F e.2))) && d.tab.cls.all (fun e => (nsIn K mainGlobals e.1 == some (some (.ref (d.C e.2)))) && keepIn K (.ref (d.C e.2))) &&
  d.tab.gls.all (fun e => glC K (nsIn K mainGlobals e.1) (d.gls.getD e.2 .non)) && d.tab.gts.all (fun e => (nsIn K mainGlobals e.1 == some (some (.ref (d.gtA.getD e.2 0)))) && gtC K (d.gtA.getD e.2 0) (d.gts.getD e.2 [])) && d.tab.bis.all (fun x => nsIn K mainGlobals x == some none)
def plainC (fd : FuncData) (ps : List Str) : Bool := fd.params.posonlyargs.isEmpty && fd.params.kwonlyargs.isEmpty && fd.params.vararg.isNone && fd.params.kwarg.isNone && decide (fd.defaults = .none) && decide (fd.params.args.map (·.arg) = ps) && decide ps.Nodup
def plainK (fd : FuncData) (ps : List Str) : Bool := fd.params.posonlyargs.isEmpty && fd.params.kwonlyargs.isEmpty && fd.params.vararg.isNone && fd.params.kwarg.isNone && decide (fd.params.args.map (·.arg) = ps) && decide ps.Nodup
def kwC (f : Nat) : Bool := (d.kwns.getD f []).isEmpty || (match K.lookup (d.F f) with
  | some ⟨_, _, .func fd, _⟩ => plainK fd (d.kwns.getD f [])
  | _ => true)
def smC (e : (Nat × Nat) × Nat) : Bool := (specialIn K (.ref (d.C e.1.1)) "__getattribute__" == some (some (.builtin "type.__getattribute__"))) && keepIn K (.ref (d.F e.2)) && (match typeIn K (.ref (d.C e.1.1)) with
  | some mc => readsIn K (d.C e.1.1) mc && (match findCls K (.ref (d.C e.1.1)) mc (nmOf d.tab.us e.1.2) with
    | some (.get g (.ref p) .none (.ref c)) => decide (g = .builtin "staticmethod.__get__") && decide (c = d.C e.1.1) && (match recIn K p "staticmethod" with
      | some (.ref f :: _) => decide (f = d.F e.2)
      | _ => false)
    | _ => false)
  | none => false)
def cmC (e : (Nat × Nat) × Nat) : Bool := (specialIn K (.ref (d.C e.1.1)) "__getattribute__" == some (some (.builtin "type.__getattribute__"))) && fnIn K (d.F e.2) && (match typeIn K (.ref (d.C e.1.1)) with
  | some mc => readsIn K (d.C e.1.1) mc && (match findCls K (.ref (d.C e.1.1)) mc (nmOf d.tab.us e.1.2) with
    | some (.get g (.ref p) .none (.ref c)) => decide (g = .builtin "classmethod.__get__") && decide (c = d.C e.1.1) && (match recIn K p "classmethod" with
      | some (.ref f :: _) => decide (f = d.F e.2)
      | _ => false)
    | _ => false)
  | none => false)
def subC : Bool := (List.range d.ncl).all fun c => (List.range d.ncl).all fun e => kitOne K (.ref (d.C c)) (.ref (d.C e)) == some (d.subs.contains (c, e))
def excC1 (C : Addr) : Bool := (findIn K (.ref C) "__getattribute__" == some (some (.builtin "BaseException.__getattribute__"))) && (findIn K (.ref C) "__getattr__" == some none) && (subIn K (.ref C) (.type "BaseException") == some true) && hasDictIn K C && (findIn K (.ref C) "__class__" == some (some (.builtin "object.__class__"))) &&
  (specialIn K (.builtin "object.__class__") "__get__" == some (some (.builtin "getset_descriptor.__get__"))) && (takesIn K (.builtin "object.__class__") == some true) && (mroIn K C (.type "object") == some true) && (kitOne K (.ref C) (.type "ValueError") == some true) && (kitOne K (.type "NoneType") (.ref C) == some false) && (typeIn K (.ref C) == some (.type "type"))
def excC2 (e g : Nat × Nat) : Bool := (kitOne K (.ref (d.C e.1)) (.ref (d.C g.1)) == some (d.subs.contains (e.1, g.1))) && (exmOne K (.ref (d.C e.1)) (.ref (d.C g.1)) == some (d.subs.contains (e.1, g.1)))
def xfdC (e : (Nat × Nat) × Nat) : Bool := (findIn K (.ref (d.C e.1.1)) (nmOf d.tab.us e.1.2) == some none) && decide (d.L e.1.1).Nodup && decide ((d.L e.1.1)[e.2]? = some (nmOf d.tab.us e.1.2))
def xzC : Bool := d.exc.all (fun e => excC1 K (d.C e.1) && d.exc.all (excC2 K d e)) && d.xfd.all (xfdC K d)
/-- lambdas: the defs that get them, the tables; errors that are raised -/
def lamC : Bool := d.tab.lams.all (fun f => match d.fns.getD f .none with
  | .lamb _ => true
  | _ => false) && d.tab.rai.all (fun c => excC1 K (d.C c) && excIn K (d.C c) veB "ValueError.__new__")
/-- an error class with fields: its __init__ sets them -/
def xinC (c : Nat) : Bool := oexC K (d.C c) && (match findIn K (.ref (d.C c)) "__init__" with
  | some (some (.ref fI)) => (typeIn K (.ref fI) == some (.type "function")) && (match K.lookup fI with
    | some ⟨_, _, .func fd, _⟩ => (match fd.body with
      | .stmts body => decide (fd.globals = mainGlobals) && fd.closure.isEmpty && decide (fd.builtins = builtinsNs) && codeIn K fd.code fd.qualname && scC (psOf fd) (psOf fd) fd.scope && bndC K fd ⟨(psOf fd).length, false, [], 0, .nil⟩ &&
          (match initPat (psOf fd) fd.scope 1 body with
          | some fs => decide (d.L c = fs.reverse) && decide (d.exc.lookup c = some fs.length) && decide ((psOf fd).length = fs.length + 1) && !fs.isEmpty && decide (fs.length ≤ 900) && fs.all (fun f => findIn K (.ref (d.C c)) f == some none)
          | none => false)
      | _ => false)
    | _ => false)
  | _ => false)
/-- an error class that is called -/
def xmkC (c : Nat) : Bool := xinC K d c && (match findIn K (.ref (d.C c)) "__init__" with
  | some (some (.ref fI)) => (match K.lookup fI with
    | some ⟨_, _, .func fd, _⟩ => (match psOf fd with
      | n :: ps => plainK fd (n :: ps) && decide (((d.xps.lookup c).getD []) = ps)
      | [] => false)
    | _ => false)
  | _ => false)
def pdC0 : Bool := d.cmeths.all (cmC K d) && (d.tab.rain.all (xinC K d) && (lamC K d && (xzC K d && (d.meths.all (entryC K d) && d.attrs.all (attrC K d) && (List.range d.ncl).all (ownC K d) && subC K d && fnsC K d 0 d.fns && d.inits.all (initC K d) && tabC K d && (List.range d.kwns.length).all (kwC K d) && d.smeths.all (smC K d)))))
def pdC : Bool := d.tab.xmks.all (xmkC K d) && pdC0 K d
end
end Rz
end

section
set_option autoImplicit false
set_option Elab.async false
set_option linter.all false
set_option maxHeartbeats 1000000
set_option maxRecDepth 100000
namespace Rz
open PySem PySem.Spec PySem.W PyProof.Rows L2

section
variable {S : Type} [Pen S] {K : Frag} {d : PD S} {pen : Addr}
theorem lookup_mem {α β : Type} [BEq α] [LawfulBEq α] {l : List (α × β)} {a : α} {b : β} (h : l.lookup a = some b) : (a, b) ∈ l := by
  induction l with
  | nil => cases h
  | cons p r ih =>
    obtain ⟨x, y⟩ := p
    rw [List.lookup_cons] at h
    cases e : a == x with
    | true => rw [e] at h; cases h; rw [eq_of_beq e]; exact List.mem_cons_self
    | false => rw [e] at h; exact List.mem_cons_of_mem _ (ih h)
theorem clsC_ok {c : Nat} (h : clsC K d c = true) : ClsZ (d.tb K pen) c := by
  simp only [clsC, Bool.and_eq_true, decide_eq_true_eq] at h
  obtain ⟨⟨⟨⟨⟨h1, h2⟩, h3⟩, h4⟩, h5⟩, h6⟩ := h
  exact ⟨⟨h1, h2, h3, beq_iff_eq.mp h4⟩, h5, h6⟩
theorem methC_ok {c f : Nat} {m : Str} (h : methC K d c m f = true) : MethZ (d.tb K pen) c m f := by
  simp only [methC, Bool.and_eq_true, Bool.not_eq_true'] at h
  obtain ⟨⟨⟨⟨h1, h2⟩, h3⟩, h4⟩, h5⟩ := h
  exact ⟨clsC_ok h1, ⟨beq_iff_eq.mp h2, h3, h4⟩, fun (z : m ∈ d.L c) => by rw [List.contains_iff_mem.mpr z] at h5; cases h5⟩
theorem opLC_ok {c f : Nat} {o : Operator} (h : opLC K d c o f = true) : OpL (d.tb K pen) c o f ∧ noI K (d.C c) o.info.2 = true := by
  simp only [opLC, Bool.and_eq_true] at h
  obtain ⟨⟨⟨⟨⟨⟨h1, h2⟩, h3⟩, h4⟩, h5⟩, h6⟩, h7⟩ := h
  refine ⟨⟨clsC_ok h1, h2, beq_iff_eq.mp h3, h4, ?_, fun n hn => ?_⟩, h7⟩
  · cases e : findIn K (.ref (d.C c)) (dunderR o.info.2) with
    | none => rw [e] at h5; cases h5
    | some rc =>
      rw [e] at h5
      refine ⟨rc, e, ?_⟩
      cases rc with
      | none => exact .inl rfl
      | some v => cases v <;> first | exact .inr ⟨_, rfl⟩ | cases h5
  · have q := List.all_eq_true.mp h6 n hn
    simp only [Bool.and_eq_true] at q
    obtain ⟨⟨q1, q2⟩, q3⟩ := q
    obtain ⟨fo, e1⟩ := Option.isSome_iff_exists.mp q1
    obtain ⟨ro, e2⟩ := Option.isSome_iff_exists.mp q2
    exact ⟨fo, ro, e1, e2, beq_iff_eq.mp q3⟩
theorem opRC_ok {c f : Nat} {o : Operator} (h : opRC K d c o f = true) : OpZR (d.tb K pen) c o f := by
  simp only [opRC, Bool.and_eq_true] at h
  obtain ⟨⟨⟨⟨⟨h1, h2⟩, h3⟩, h4⟩, h5⟩, h6⟩ := h
  refine ⟨clsC_ok h1, h2, ?_, beq_iff_eq.mp h4, h5, fun n hn => ?_⟩
  · revert h3
    cases e : findIn K (.ref (d.C c)) (PySem.dunder o.info.2) with
    | none => intro h3; cases h3
    | some rc =>
      intro h3
      cases rc with
      | none => cases h3
      | some v => cases v <;> first | exact ⟨_, e⟩ | cases h3
  · have q := List.all_eq_true.mp h6 n hn
    simp only [Bool.and_eq_true, Bool.or_eq_true, Bool.not_eq_true'] at q
    obtain ⟨⟨⟨q1, q2⟩, q3⟩, q4⟩ := q
    obtain ⟨fo, e1⟩ := Option.isSome_iff_exists.mp q1
    obtain ⟨ro, e2⟩ := Option.isSome_iff_exists.mp q2
    refine ⟨fo, ro, e1, e2, beq_iff_eq.mp q3, fun m => ?_⟩
    rcases q4 with q4 | q4
    · rw [List.contains_iff_mem.mpr m] at q4; cases q4
    · rw [e1, e2] at q4
      simp only [noNum, Bool.not_eq_true'] at q4
      exact q4
theorem cmpC_ok {c : Nat} (h : cmpC K d c = true) : CmpZ (d.tb K pen) c := by
  simp only [cmpC, Bool.and_eq_true] at h
  exact ⟨fun n hn => beq_iff_eq.mp (List.all_eq_true.mp h.1.1 n hn), beq_iff_eq.mp h.1.2, beq_iff_eq.mp h.2⟩
theorem ownC_ok {c : Nat} (h : ownC K d c = true) : OwnT (d.tb K pen) c := by
  simp only [ownC, Bool.and_eq_true] at h
  obtain ⟨⟨⟨⟨⟨⟨h1, h2⟩, h3⟩, h4⟩, h5⟩, h6⟩, h7⟩ := h
  exact ⟨clsC_ok h1, beq_iff_eq.mp h2, beq_iff_eq.mp h3, beq_iff_eq.mp h4, beq_iff_eq.mp h5, fun n hn => beq_iff_eq.mp (List.all_eq_true.mp h6 n hn), fun n hn => beq_iff_eq.mp (List.all_eq_true.mp h7 n hn)⟩
theorem propC_ok {c f : Nat} {m : Str} (h : propC K d c m f = true) : PropZ (d.tb K pen) c m f := by
  simp only [propC, Bool.and_eq_true] at h
  obtain ⟨h1, h2⟩ := h
  refine ⟨clsC_ok h1, ?_⟩
  split at h2
  · rename_i p e
    simp only [Bool.and_eq_true] at h2
    obtain ⟨⟨h3, h4⟩, h5⟩ := h2
    split at h5
    · rename_i g rest er
      refine ⟨p, e, beq_iff_eq.mp h3, beq_iff_eq.mp h4, rest, ?_⟩
      have z : g = d.F f := eq_of_beq h5
      subst z
      exact er
    · cases h5
  · cases h2
theorem conC_ok {c : Nat} {m : Str} {x : D} (h : conC K d c m x = true) : ConZ (d.tb K pen) c m x := by
  simp only [conC, Bool.and_eq_true, Bool.not_eq_true'] at h
  obtain ⟨⟨⟨h1, h2⟩, h3⟩, h4⟩ := h
  refine ⟨clsC_ok h1, fun (z : m ∈ d.L c) => (by rw [List.contains_iff_mem.mpr z] at h2; cases h2), ?_⟩
  split at h4
  · rename_i u e
    simp only [Bool.and_eq_true] at h4
    obtain ⟨⟨⟨h5, h6⟩, h7⟩, h8⟩ := h4
    obtain ⟨v, r, q⟩ := valC_ok h5
    split at h8
    · rename_i mc emc
      rw [Bool.and_eq_true] at h8
      obtain ⟨h8, h9⟩ := h8
      split at h9
      · rename_i u' ec
        have z := of_decide_eq_true h9
        subst z
        exact ⟨v, _, ⟨e, r, beq_iff_eq.mp h6, h3⟩, fun F => q _ F rfl, mc, ⟨h8, beq_iff_eq.mp h7⟩, ec, r⟩
      · cases h9
    · cases h8
  · cases h4
theorem gtC_ok {a : Addr} {kvs : List (Int × D)} (h : gtC K a kvs = true) : GtZ (d.tb K pen) a kvs := by
  unfold gtC at h
  split at h
  · rename_i es n lk
    rw [Bool.and_eq_true] at h
    refine ⟨es, n, lk, fun e he => ?_, fun i x hx => ?_⟩
    · have q := (Array.all_eq_true_iff_forall_mem.mp h.1) e he
      split at q
      · rename_i k tk ek
        exact ⟨k, tk, ek, of_decide_eq_true q⟩
      · cases q
    · have q := List.all_eq_true.mp h.2 _ (lookup_mem hx)
      simp only at q
      split at q
      · rename_i u eu
        obtain ⟨v, r, qq⟩ := valC_ok q
        exact ⟨u, v, eu, r, fun F => qq _ F rfl⟩
      · cases q
  · cases h
theorem scC_ok {N ps : List Str} {sc : Scope} (h : scC N ps sc = true) : FnScope N ps sc := by
  simp only [scC, Bool.and_eq_true, Bool.not_eq_true', decide_eq_true_eq, List.all_eq_true, Bool.or_eq_true] at h
  obtain ⟨⟨⟨⟨⟨⟨h1, h2⟩, h3⟩, h4⟩, h5⟩, h6⟩, h7⟩ := h
  exact ⟨h1, h2, h3, h4, h5, h6, fun y hy z => by have := h7 y hy; simp [z] at this⟩
theorem fnsC_ok : ∀ {l : List (FnD S)} {i f : Nat} {b : Fn}, fnsC K d i l = true → l[f]? = some (.code b) → fnC K d (i + f) b false = true
  | [], _, _, _, _, e => by cases e
  | x :: r, i, 0, b, h, e => by
    have e' : x = .code b := by simpa using e
    subst e'
    simp only [fnsC, Bool.and_eq_true] at h
    exact h.1
  | x :: r, i, f + 1, b, h, e => by
    have e' : r[f]? = some (.code b) := by simpa using e
    have h' : fnsC K d (i + 1) r = true := by
      cases x <;> simp only [fnsC, Bool.and_eq_true] at h <;> first | exact h.2 | exact h
    have z := fnsC_ok h' e'
    rw [show i + (f + 1) = i + 1 + f by omega]
    exact z

theorem fnsC_lamb : ∀ {l : List (FnD S)} {i f : Nat} {b : Fn}, fnsC K d i l = true → l[f]? = some (.lamb b) → lambC K d (i + f) b = true
  | [], _, _, _, _, e => by cases e
  | x :: r, i, 0, b, h, e => by
    have e' : x = .lamb b := by simpa using e
    subst e'
    simp only [fnsC, Bool.and_eq_true] at h
    exact h.1
  | x :: r, i, f + 1, b, h, e => by
    have e' : r[f]? = some (.lamb b) := by simpa using e
    have h' : fnsC K d (i + 1) r = true := by
      cases x <;> simp only [fnsC, Bool.and_eq_true] at h <;> first | exact h.2 | exact h
    have z := fnsC_lamb h' e'
    rw [show i + (f + 1) = i + 1 + f by omega]
    exact z
theorem getD_some {l : List (FnD S)} {f : Nat} {x : FnD S} (e : l.getD f .none = x) (n : x ≠ .none) : l[f]? = some x := by
  rw [List.getD_eq_getElem?_getD] at e
  cases q : l[f]? with
  | none => rw [q] at e; exact absurd e.symm n
  | some y => rw [q] at e; exact congrArg some e
/-- what pdC says -/
structure PdOk (K : Frag) (d : PD S) (pen : Addr) : Prop where
  meth : ∀ c m f, d.pt.meth c m = some f → MethZ (d.tb K pen) c (nmOf d.tab.us m) f
  opL : ∀ c o f, d.pt.meth c (dun o) = some f → OpL (d.tb K pen) c o f
  opR : ∀ c o f, d.pt.meth c (dun o + 1) = some f → OpZR (d.tb K pen) c o f
  ni : ∀ c o f, d.pt.meth c (dun o) = some f → noI K (d.C c) o.info.2 = true
  cmp : ∀ c m f, d.pt.meth c m = some f → CmpZ (d.tb K pen) c
  own : ∀ c, c < d.ncl → OwnT (d.tb K pen) c
  sub : ∀ c e, c < d.ncl → e < d.ncl → kitOne K (.ref (d.C c)) (.ref (d.C e)) = some (d.pt.sub c e)
  fld : ∀ c m k, d.pt.attr c m = .fld k → FldZ (d.tb K pen) c (nmOf d.tab.us m) k
  prop : ∀ c m f, d.pt.attr c m = .prop f → PropZ (d.tb K pen) c (nmOf d.tab.us m) f
  con : ∀ c m x, d.pt.attr c m = .con x → ConZ (d.tb K pen) c (nmOf d.tab.us m) x
  fn : ∀ f b, d.fns.getD f .none = .code b → fnC K d f b false = true
  lamb : ∀ f b, d.fns.getD f .none = .lamb b → lambC K d f b = true
  lams : ∀ f, d.tab.lams.contains f = true → ∃ b, d.fns.getD f .none = .lamb b
  rain : ∀ c, d.tab.rain.contains c = true → xinC K d c = true
  rai : ∀ c, d.tab.rai.contains c = true → excC1 K (d.C c) = true ∧ excIn K (d.C c) veB "ValueError.__new__" = true
  xmks : ∀ c, d.tab.xmks.contains c = true → xmkC K d c = true
  init : ∀ c f, d.pt.init c = some f → Mk K (d.C c) (d.F f) ∧ ∃ b, d.fns.getD f .none = .code b ∧ 0 < b.np
  cfi : ∀ c f, d.pt.meth c mCall = some f → fnIn K (d.F f) = true
  tab : tabC K d = true
  sm : ∀ c m f, d.pt.smeth c m = some (false, f) → SmZ (d.tb K pen) c (nmOf d.tab.us m) f
  smt : ∀ c m f, d.pt.smeth c m = some (true, f) → CmZ (d.tb K pen) c (nmOf d.tab.us m) f
  kwo : ∀ f, d.pt.kwn f ≠ [] → KwOk K (d.F f) (d.pt.kwn f)
  xz : xzC K d = true
theorem excC1_ok {C : Addr} (h : excC1 K C = true) : ExcC K C ∧ XfC K C ∧ kitOne K (.ref C) (.type "ValueError") = some true ∧ kitOne K (.type "NoneType") (.ref C) = some false ∧ typeIn K (.ref C) = some (.type "type") := by
  simp only [excC1, Bool.and_eq_true, beq_iff_eq] at h
  obtain ⟨⟨⟨⟨⟨⟨⟨⟨⟨⟨h1, h2⟩, h3⟩, h4⟩, h5⟩, h6⟩, h7⟩, h8⟩, h9⟩, h10⟩, h11⟩ := h
  exact ⟨⟨h1, h2, h3, h4, h5, h6, h7, h8⟩, ⟨h1, h2, h3, h4⟩, h9, h10, h11⟩
theorem xz_of {X : Cx} {Z : Cz S} (hK : X.K = K) (hP : Z.P = d.pt) (hC : Z.T.cA = d.C) (hL : Z.T.fld = d.L) (h : xzC K d = true) : Xz Z d.tab.us X := by
  simp only [xzC, Bool.and_eq_true, List.all_eq_true] at h
  obtain ⟨h1, h2⟩ := h
  refine ⟨fun c n e => ?_, fun c k n m e1 e2 => ?_, kit_ty (by decide +kernel), fun c m k n e1 e2 => ?_⟩
  · rw [hP] at e
    obtain ⟨a, b, c', d', _⟩ := excC1_ok (h1 _ (lookup_mem e)).1
    rw [hK, hC]; exact ⟨a, b, c', d'⟩
  · rw [hP] at e1 e2 ⊢
    have q := (h1 _ (lookup_mem e1)).2 _ (lookup_mem e2)
    simp only [excC2, Bool.and_eq_true, beq_iff_eq] at q
    rw [hK, hC]; exact q
  · rw [hP] at e2
    have q := h2 _ (lookup_mem e2)
    simp only [xfdC, Bool.and_eq_true, beq_iff_eq, decide_eq_true_eq] at q
    rw [hK, hC, hL]; exact ⟨q.1.1, q.1.2, q.2⟩
theorem pdC_ok (h : pdC K d = true) : PdOk K d pen := by
  simp only [pdC, pdC0, Bool.and_eq_true] at h
  obtain ⟨hxm, hcm, hrain, hlam, hxz, h⟩ := h
  obtain ⟨⟨⟨⟨⟨⟨⟨⟨h1, h2⟩, h3⟩, h4⟩, h5⟩, h6⟩, h7⟩, h8⟩, h9⟩ := h
  have ent : ∀ {c m f}, d.pt.meth c m = some f → entryC K d ((c, m), f) = true := fun {c m f} e => List.all_eq_true.mp h1 _ (lookup_mem e)
  have att : ∀ {c m a}, d.pt.attr c m = a → a ≠ .none → attrC K d ((c, m), a) = true := fun {c m a} e n => by
    have e' : (d.attrs.lookup (c, m)).getD .none = a := e
    cases q : d.attrs.lookup (c, m) with
    | none => rw [q] at e'; exact absurd e'.symm n
    | some x => rw [q] at e'; cases e'; exact List.all_eq_true.mp h2 _ (lookup_mem q)
  refine ⟨fun c m f e => ?_, fun c o f e => ?_, fun c o f e => ?_, fun c o f e => ?_, fun c m f e => ?_, fun c hc => ownC_ok (List.all_eq_true.mp h3 c (List.mem_range.mpr hc)), fun c e hc he => ?_, fun c m k e => ?_, fun c m f e => ?_, fun c m x e => ?_, fun f b e => ?_, fun f b e => ?_, fun f e => ?_, fun c e => List.all_eq_true.mp hrain c (List.contains_iff_mem.mp e), fun c e => ?_, fun c e => List.all_eq_true.mp hxm c (List.contains_iff_mem.mp e), fun c f e => ?_, fun c f e => ?_, h7, fun c m f e => ?_, fun c m f e => ?_, fun f e => ?_, hxz⟩
  · have q := ent e
    simp only [entryC, Bool.and_eq_true] at q
    exact methC_ok q.1.1.1
  · have q := ent e
    simp only [entryC, Bool.and_eq_true] at q
    have z := List.all_eq_true.mp q.1.2 o (allOps_mem o)
    simp only [Bool.and_eq_true, Bool.or_eq_true, Bool.not_eq_true'] at z
    rcases z.1 with k | k
    · simp at k
    · exact (opLC_ok k).1
  · have q := ent e
    simp only [entryC, Bool.and_eq_true] at q
    have z := List.all_eq_true.mp q.1.2 o (allOps_mem o)
    simp only [Bool.and_eq_true, Bool.or_eq_true, Bool.not_eq_true'] at z
    rcases z.2 with k | k
    · simp at k
    · exact opRC_ok k
  · have q := ent e
    simp only [entryC, Bool.and_eq_true] at q
    have z := List.all_eq_true.mp q.1.2 o (allOps_mem o)
    simp only [Bool.and_eq_true, Bool.or_eq_true, Bool.not_eq_true'] at z
    rcases z.1 with k | k
    · simp at k
    · exact (opLC_ok (pen := pen) k).2
  · have q := ent e
    simp only [entryC, Bool.and_eq_true] at q
    exact cmpC_ok q.1.1.2
  · exact beq_iff_eq.mp (List.all_eq_true.mp (List.all_eq_true.mp h4 c (List.mem_range.mpr hc)) e (List.mem_range.mpr he))
  · have q := att e (by intro z; cases z)
    simp only [attrC, Bool.and_eq_true, decide_eq_true_eq] at q
    exact ⟨clsC_ok q.1.1, beq_iff_eq.mp q.1.2, q.2⟩
  · have q := att e (by intro z; cases z)
    simp only [attrC] at q
    exact propC_ok q
  · have q := att e (by intro z; cases z)
    simp only [attrC] at q
    exact conC_ok q
  · have e' : d.fns[f]? = some (.code b) := by
      rw [List.getD_eq_getElem?_getD] at e
      cases q : d.fns[f]? with
      | none => rw [q] at e; cases e
      | some x => rw [q] at e; cases e; rfl
    have z := fnsC_ok h5 e'
    rw [Nat.zero_add] at z
    exact z
  · have z := fnsC_lamb h5 (getD_some e (by intro z; cases z))
    rw [Nat.zero_add] at z
    exact z
  · simp only [lamC, Bool.and_eq_true] at hlam
    have z := List.all_eq_true.mp hlam.1 f (List.contains_iff_mem.mp e)
    split at z
    · rename_i b eb; exact ⟨b, eb⟩
    · cases z
  · simp only [lamC, Bool.and_eq_true] at hlam
    have z := List.all_eq_true.mp hlam.2 c (List.contains_iff_mem.mp e)
    rw [Bool.and_eq_true] at z
    exact z
  · have q := List.all_eq_true.mp h6 _ (lookup_mem e)
    simp only [initC, Bool.and_eq_true] at q
    obtain ⟨⟨⟨⟨q1, q2⟩, q3⟩, q4⟩, q5⟩ := q
    refine ⟨⟨q1, beq_iff_eq.mp q2, q3, q4⟩, ?_⟩
    split at q5
    · rename_i b eb
      exact ⟨b, eb, of_decide_eq_true q5⟩
    · cases q5
  · have q := ent e
    simp only [entryC, Bool.and_eq_true, Bool.or_eq_true, Bool.not_eq_true'] at q
    rcases q.2 with k | k
    · simp at k
    · exact k
  · have e' : (match d.cmeths.lookup (c, m) with | some f => some (true, f) | none => (d.smeths.lookup (c, m)).map fun f => (false, f)) = some (false, f) := e
    cases qc : d.cmeths.lookup (c, m) with
    | some g => rw [qc] at e'; cases e'
    | none =>
    rw [qc] at e'
    simp only at e'
    cases q : d.smeths.lookup (c, m) with
    | none => rw [q] at e'; cases e'
    | some g =>
      rw [q] at e'
      cases e'
      have z := List.all_eq_true.mp h9 _ (lookup_mem q)
      simp only [smC, Bool.and_eq_true] at z
      obtain ⟨⟨z1, z2⟩, z3⟩ := z
      split at z3
      · rename_i mc _
        rw [Bool.and_eq_true] at z3
        obtain ⟨z3, z4⟩ := z3
        split at z4
        · rename_i g' p c' hfc
          simp only [Bool.and_eq_true, decide_eq_true_eq] at z4
          obtain ⟨⟨rfl, rfl⟩, z5⟩ := z4
          split at z5
          · rename_i f' rest hr
            have := of_decide_eq_true z5
            subst this
            exact ⟨beq_iff_eq.mp z1, ⟨mc, p, rest, z3, hfc, hr⟩, z2⟩
          · cases z5
        · cases z4
      · cases z3
  · have e' : (match d.cmeths.lookup (c, m) with | some f => some (true, f) | none => (d.smeths.lookup (c, m)).map fun f => (false, f)) = some (true, f) := e
    cases qc : d.cmeths.lookup (c, m) with
    | none =>
      rw [qc] at e'
      simp only at e'
      cases q : d.smeths.lookup (c, m) with
      | none => rw [q] at e'; cases e'
      | some g => rw [q] at e'; cases e'
    | some g =>
      rw [qc] at e'
      cases e'
      have z := List.all_eq_true.mp hcm _ (lookup_mem qc)
      simp only [cmC, Bool.and_eq_true] at z
      obtain ⟨⟨z1, z2⟩, z3⟩ := z
      split at z3
      · rename_i mc _
        rw [Bool.and_eq_true] at z3
        obtain ⟨z3, z4⟩ := z3
        split at z4
        · rename_i g' p c' hfc
          simp only [Bool.and_eq_true, decide_eq_true_eq] at z4
          obtain ⟨⟨rfl, rfl⟩, z5⟩ := z4
          split at z5
          · rename_i f' rest hr
            have := of_decide_eq_true z5
            subst this
            exact ⟨beq_iff_eq.mp z1, ⟨mc, p, rest, z3, hfc, hr⟩, z2⟩
          · cases z5
        · cases z4
      · cases z3
  · have hf : f < d.kwns.length := by
      rcases Nat.lt_or_ge f d.kwns.length with z | z
      · exact z
      · refine absurd ?_ e
        show d.kwns.getD f [] = []
        rw [List.getD_eq_getElem?_getD, List.getElem?_eq_none z]; rfl
    have q := List.all_eq_true.mp h8 f (List.mem_range.mpr hf)
    simp only [kwC, Bool.or_eq_true] at q
    rcases q with q | q
    · exact absurd (List.isEmpty_iff.mp q) e
    · intro oc od fd osl lk
      rw [lk] at q
      simp only [plainK, Bool.and_eq_true, decide_eq_true_eq, List.isEmpty_iff, Option.isNone_iff_eq_none] at q
      obtain ⟨⟨⟨⟨⟨q1, q2⟩, q3⟩, q4⟩, q6⟩, q7⟩ := q
      exact ⟨q1, q2, q3, q4, q6, q7⟩
end
end Rz
end

section
set_option autoImplicit false
set_option Elab.async false
set_option linter.all false
set_option maxHeartbeats 1000000
set_option maxRecDepth 100000
namespace Rz
open PySem PySem.Spec PySem.W PyProof.Rows L2

section
variable {S : Type} [Pen S] {n : Nat} {K : Frag} {d : PD S} {pen : Addr} {pn : Pn S} {P : Program} {w : World} {mg : Str → Option Value} {base : Heap}
/-- calls n deep -/
noncomputable def PD.Z (d : PD S) (K : Frag) (pen : Addr) (pn : Pn S) (n : Nat) : Cz S := ⟨d.tb K pen, pn, d.pt, callN d.prg n, mkN d.prg n⟩
/-- the module's names as the tables say -/
structure MgOk (K : Frag) (d : PD S) (mg : Str → Option Value) : Prop where
  fns : ∀ x f, d.tab.fns.lookup x = some f → mg x = some (.ref (d.F f)) ∧ keepIn K (.ref (d.F f)) = true
  cls : ∀ x c, d.tab.cls.lookup x = some c → mg x = some (.ref (d.C c)) ∧ keepIn K (.ref (d.C c)) = true
  gls : ∀ x j, d.tab.gls.lookup x = some j → ∃ u v, mg x = some u ∧ RelV v u ∧ ∀ (T : Tb) (F : Hp), T.K = K → Rep T F (d.pt.gl j) v
  bis : ∀ x, d.tab.bis.contains x = true → mg x = none
  gts : ∀ x j, d.tab.gts.lookup x = some j → ∃ a, mg x = some (.ref a) ∧ ∀ pen, GtZ (d.tb K pen) a (d.pt.gt j)
theorem mgOk_of {h : Heap} (t : tabC K d = true) (X : K.In h) (G : h.Ns mainGlobals mg) : MgOk K d mg := by
  simp only [tabC, Bool.and_eq_true] at t
  obtain ⟨⟨⟨⟨t1, t2⟩, t3⟩, t5⟩, t4⟩ := t
  refine ⟨fun x f e => ?_, fun x c e => ?_, fun x j e => ?_, fun x e => ?_, fun x j e => ?_⟩
  · have q := List.all_eq_true.mp t1 _ (lookup_mem e)
    rw [Bool.and_eq_true] at q
    exact ⟨mg_of X G (beq_iff_eq.mp q.1), q.2⟩
  · have q := List.all_eq_true.mp t2 _ (lookup_mem e)
    rw [Bool.and_eq_true] at q
    exact ⟨mg_of X G (beq_iff_eq.mp q.1), q.2⟩
  · have q := List.all_eq_true.mp t3 _ (lookup_mem e)
    simp only at q
    unfold glC at q
    split at q
    · rename_i u eu
      obtain ⟨v, r, qq⟩ := valC_ok q
      exact ⟨u, v, mg_of X G eu, r, fun T F e => qq T F e⟩
    · cases q
  · exact mg_none_of X G (beq_iff_eq.mp (List.all_eq_true.mp t4 x (List.contains_iff_mem.mp e)))
  · have q := List.all_eq_true.mp t5 _ (lookup_mem e)
    simp only [Bool.and_eq_true] at q
    exact ⟨d.gtA.getD j 0, mg_of X G (beq_iff_eq.mp q.1), fun pen => gtC_ok q.2⟩

/-- what is proved of calls n deep -/
structure Deep (d : PD S) (K : Frag) (pen : Addr) (pn : Pn S) (P : Program) (w : World) (mg : Str → Option Value) (base : Heap) (n : Nat) : Prop where
  fn : ∀ f, FnRg P w K mg base (CX P w) (9 * n) (d.F f) (spF (d.Z K pen pn n) f)
  lamb : ∀ f b, d.fns.getD f .none = .lamb b → (∀ ds s, (d.Z K pen pn n).call f ds s = .no ∨ (d.Z K pen pn n).call f ds s = runL (d.Z K pen pn n).P b ds s) ∧ LamG (d.Z K pen pn n) P w K mg base f b
  make : ∀ c, ∃ f, FnRg P w K mg base (CX P w) (9 * n) f (spI (d.Z K pen pn n) c) ∧ ((∃ ds s, (d.Z K pen pn n).make c ds s ≠ .no) → Mk K (d.C c) f)
theorem FnRg.mono {CX : CXT} {j k : Nat} {f : Addr} {sp : Sp} (F : FnRg P w K mg base CX j f sp) (h : j ≤ k) : FnRg P w K mg base CX k f sp := fun A outer sh H us vs Q E hr hg e0 rv hs => F A outer sh H us vs Q E (hr.mono h) hg e0 rv hs
theorem fn_no {Z : Cz S} {f : Nat} {CX : CXT} {k : Nat} {a : Addr} (h : ∀ ds s, Z.call f ds s = .no) : FnRg P w K mg base CX k a (spF Z f) := fun A outer sh H us vs Q E hr hg e0 rv hs ar har => by
  obtain ⟨F, ds, s, _, _, _, _, _, _, hp⟩ := hs
  rw [h] at hp
  exact hp.elim
theorem mk_no {Z : Cz S} {c : Nat} {CX : CXT} {k : Nat} {a : Addr} (h : ∀ ds s, Z.make c ds s = .no) : FnRg P w K mg base CX k a (spI Z c) := fun A outer sh H us vs Q E hr hg e0 rv hs ar har => by
  obtain ⟨F, ds, s, x, dx, ws, _, _, _, _, _, _, _, _, _, _, hp⟩ := hs
  rw [h] at hp
  exact hp.elim
/-- a call whose arguments no value tells -/
theorem fn_noR {Z : Cz S} {f : Nat} {CX : CXT} {k : Nat} {a : Addr} (h : ∀ ds s F vs, RepL Z.T F ds vs → Z.call f ds s = .no) : FnRg P w K mg base CX k a (spF Z f) := fun A outer sh H us vs Q E hr hg e0 rv hs ar har => by
  obtain ⟨F, ds, s, _, _, _, _, r, _, hp⟩ := hs
  rw [h ds s F vs r] at hp
  exact hp.elim
theorem dct_rep {T : Tb} {F : Hp} {k : Key} {ks : List Key} {r : List D} {vs : List V} (h : RepL T F (.dct (k :: ks) [] :: r) vs) : False := by
  obtain ⟨v, t, _, h, _⟩ := h
  obtain ⟨a, ws, _, _, e, _⟩ := h
  cases e
theorem decO_rep {T : Tb} {F : Hp} {s : S} {ds : List D} {vs : List V} (h : RepL T F ds vs) : decO s ds = .no := by
  unfold decO
  split
  · exact (dct_rep h).elim
  · exact (dct_rep h).elim
  · rfl
theorem isAsk_rep {T : Tb} {F : Hp} {a : Addr} {ds : List D} {vs : List V} (h : RepL T F ds vs) : isAsk a ds = false := by
  unfold isAsk
  split
  · exact (dct_rep h).elim
  · rfl
theorem callA_rep {T : Tb} {F : Hp} {o : CRes S} {s0 s : S} {a : Addr} {f : Nat} {ds : List D} {vs : List V} (h : RepL T F ds vs) : callA o s0 a f ds s = .no := by
  unfold callA
  rw [isAsk_rep h, Bool.and_false, Bool.false_and]; rfl
theorem runL_rep {T : Tb} {F : Hp} {p : Pt} {b : Fn} {s : S} {ds : List D} {vs : List V} (h : RepL T F ds vs) : runL p b ds s = .no := by
  cases e : runL p b ds s with
  | no => rfl
  | ok d s' => exact absurd (decO_rep h) (runL_at (by rw [e]; intro z; cases z) 0).2
  | exc c fs s' => exact absurd (decO_rep h) (runL_at (by rw [e]; intro z; cases z) 0).2
/-- where the defs' code objects and tables lie -/
def TabsB (d : PD S) (base : Heap) (mg : Str → Option Value) : Prop := ∀ p ∈ d.lcs, LamX.TabB base mg p.2.1 p.2.2
theorem staC_lm {N : List Str} {sc : Scope} {cd : Value} {q : Str} : (staC d N sc cd q false).lm = lmC d cd q := by
  unfold staC
  simp only [Bool.not_false, Bool.true_and]
theorem lmC_ok {cd : Value} {q : Str} (h : lmC d cd q = true) (hb : TabsB d base mg) : ∃ c P, cd = .ref c ∧ LamX.TabB base mg c P ∧ (P, (q ++ ".<locals>.") ++ "<lambda>") ∈ d.tabs ∧ ∀ p ∈ d.tabs, p.1 = P → p.2 = (q ++ ".<locals>.") ++ "<lambda>" := by
  unfold lmC at h
  split at h
  · rename_i c
    obtain ⟨p, hp, h2⟩ := List.any_eq_true.mp h
    simp only [Bool.and_eq_true, decide_eq_true_eq] at h2
    obtain ⟨⟨h3, h4⟩, h5⟩ := h2
    obtain ⟨t, ht, h6⟩ := List.any_eq_true.mp h4
    simp only [Bool.and_eq_true, decide_eq_true_eq] at h6
    refine ⟨c, p.2.2, rfl, h3 ▸ hb p hp, ?_, fun t ht e => ?_⟩
    · rw [← h6.1, ← h6.2]; exact ht
    · have z := List.all_eq_true.mp h5 t ht
      simp only [Bool.or_eq_true, Bool.not_eq_true', decide_eq_false_iff_not, decide_eq_true_eq] at z
      rcases z with z | z
      · exact absurd e z
      · exact z
  · cases h
theorem rai_ok (ok : PdOk K d pen) {X : Cx} (hK : X.K = K) (c : Nat) (h : d.tab.rai.contains c = true) : excIn X.K (d.C c) veB "ValueError.__new__" = true ∧ Raises X (.ref (d.C c)) := by
  obtain ⟨h1, h2⟩ := ok.rai c h
  obtain ⟨e1, _, _, _, e5⟩ := excC1_ok h1
  rw [hK]
  exact ⟨h2, raises_own (by rw [hK]; exact e1.hs) (by rw [hK]; exact e5)⟩
theorem rain_ok (ok : PdOk K d pen) {X : Cx} {Z : Cz S} (hK : X.K = K) (hP : Z.P = d.pt) (hC : Z.T.cA = d.C) (hL : Z.T.fld = d.L) (hr : Room 2 X.A) (c : Nat) (h : d.tab.rain.contains c = true) : XIn Z X c := by
  have q := ok.rain c h
  unfold xinC at q
  rw [Bool.and_eq_true] at q
  obtain ⟨q0, q⟩ := q
  have T := oexC_ok q0
  split at q
  · rename_i fI hI
    rw [Bool.and_eq_true] at q
    obtain ⟨qt, q⟩ := q
    split at q
    · rename_i oc od fd osl lk
      split at q
      · rename_i body hb
        simp only [Bool.and_eq_true, decide_eq_true_eq, List.isEmpty_iff] at q
        obtain ⟨⟨⟨⟨⟨⟨h1, h2⟩, h3⟩, h4⟩, h5⟩, h6⟩, h7⟩ := q
        split at h7
        · rename_i fs hfs
          simp only [Bool.and_eq_true, decide_eq_true_eq, Bool.not_eq_true', List.all_eq_true, beq_iff_eq] at h7
          obtain ⟨⟨⟨⟨⟨k1, k2⟩, k3⟩, k4⟩, k5⟩, k6⟩ := h7
          obtain ⟨name, qual, params, body', scope, globals, closure, dV, kV, doc, pm, an, cdv, ct, bl⟩ := fd
          simp only at hb h1 h2 h3 h4 h5
          subst hb h1 h2 h3
          have Sc := scC_ok h5
          subst hK
          refine ⟨fI, _, psOf (fnOf name qual params body scope dV kV doc pm an cdv ct), fs, by rw [hC]; exact T, by rw [hC]; exact hI, beq_iff_eq.mp qt, by rw [hC]; exact xinit_ok lk h4 Sc k3 T k6 (fun z => by rw [z] at k4; cases k4) k5 hfs, hr, ?_, k5, by rw [hL]; exact k1, by rw [hP]; exact k2⟩
          have bz := bndC_ok (T := ⟨X.K, Z.T.cA, Z.T.fld, Z.T.fA, Z.T.pen, Z.T.tabs⟩) rfl h6
          obtain ⟨_, bz⟩ := bz
          obtain ⟨dvs, us, rd, rr, bi⟩ := bz 0 (Nat.zero_le _)
          have hz := rr (fun _ => none)
          cases hz
          cases rd
          exact bi
        · cases h7
      · cases q
    · cases q
  · cases q
theorem xmk_ok (ok : PdOk K d pen) {X : Cx} {Z : Cz S} (hK : X.K = K) (hP : Z.P = d.pt) (hC : Z.T.cA = d.C) (hL : Z.T.fld = d.L) (hr : Room 2 X.A) (c : Nat) (h : d.tab.xmks.contains c = true) : XMk Z X c := by
  have q := ok.xmks c h
  unfold xmkC at q
  rw [Bool.and_eq_true] at q
  obtain ⟨q, qx⟩ := q
  unfold xinC at q
  rw [Bool.and_eq_true] at q
  obtain ⟨q0, q⟩ := q
  have T := oexC_ok q0
  split at q
  · rename_i fI hI
    rw [hI] at qx
    dsimp only at qx
    rw [Bool.and_eq_true] at q
    obtain ⟨qt, q⟩ := q
    split at q
    · rename_i oc od fd osl lk
      rw [lk] at qx
      dsimp only at qx
      split at q
      · rename_i body hb
        simp only [Bool.and_eq_true, decide_eq_true_eq, List.isEmpty_iff] at q
        obtain ⟨⟨⟨⟨⟨⟨h1, h2⟩, h3⟩, h4⟩, h5⟩, h6⟩, h7⟩ := q
        split at h7
        · rename_i fs hfs
          simp only [Bool.and_eq_true, decide_eq_true_eq, Bool.not_eq_true', List.all_eq_true, beq_iff_eq] at h7
          obtain ⟨⟨⟨⟨⟨k1, k2⟩, k3⟩, k4⟩, k5⟩, k6⟩ := h7
          split at qx
          · rename_i n ps hps
            rw [Bool.and_eq_true, decide_eq_true_eq] at qx
            obtain ⟨qp, qn⟩ := qx
            simp only [plainK, Bool.and_eq_true, decide_eq_true_eq, List.isEmpty_iff, Option.isNone_iff_eq_none] at qp
            obtain ⟨⟨⟨⟨⟨p1, p2⟩, p3⟩, p4⟩, p6⟩, p7⟩ := qp
            obtain ⟨name, qual, params, body', scope, globals, closure, dV, kV, doc, pm, an, cdv, ct, bl⟩ := fd
            simp only at hb h1 h2 h3 h4 h5
            subst hb h1 h2 h3
            have Sc := scC_ok h5
            subst hK
            have FI := xinit_ok (P := X.prog) (w := X.w) (mg := X.mg) (base := X.base) lk h4 Sc k3 T k6 (fun z => by rw [z] at k4; cases k4) k5 hfs
            have bz := bndC_ok (T := ⟨X.K, Z.T.cA, Z.T.fld, Z.T.fA, Z.T.pen, Z.T.tabs⟩) rfl h6
            obtain ⟨_, bz⟩ := bz
            obtain ⟨dvs, us, rd, rr, bi⟩ := bz 0 (Nat.zero_le _)
            have hz := rr (fun _ => none)
            cases hz
            cases rd
            have bi' : L2.Binds X.K _ (psOf (fnOf name qual params body scope dV kV doc pm an cdv ct)) [] := bi
            rw [hps] at FI bi' k3
            refine ⟨fI, _, n, ps, fs, by rw [hC]; exact T, by rw [hC]; exact hI, beq_iff_eq.mp qt, by rw [hC]; exact FI, hr, ⟨p1, p2, p3, p4, p6, p7⟩, bi', k5, by simpa using k3, by rw [hL]; exact k1, by rw [hP]; exact k2, by rw [hP]; exact qn⟩
          · cases qx
        · cases h7
      · cases q
    · cases q
  · cases q
/-- a body's context -/
theorem body_ok (hpn : PenOk (d.Z K pen pn n)) {f : Nat} {b : Fn} {body : List Stmt} {qual : Str} {scope : Scope} {cdv : Value} {ps N : List Str} {a : Addr} (ok : PdOk K d pen) (mo : MgOk K d mg) (D : Deep d K pen pn P w mg base n) (Sc : FnScope N ps scope) (hTB : TabsB d base mg) (q : chkSs d.tab fuel (staC d N scope cdv qual false) body b.body = true) :
    BodyZ (d.Z K pen pn n) P w K mg base N qual scope a cdv (9 * n + 8) body b.body := by
  intro A outer s H E G hr hg
  refine (okS_all (Z := d.Z K pen pn n) (t := d.tab) fuel).Ss (W := fun c dd _ H' => E c dd H') ?_ q G
  exact {
    z := {
      hK := rfl
      fz := fun f => ⟨9 * n, hr.mono (by omega), hg, D.fn f⟩
      fi := fun c => by
        obtain ⟨f, h1, h2⟩ := D.make c
        exact ⟨9 * n, f, hr.mono (by omega), hg, h1, h2⟩
      hu := hr.units
      meth := ok.meth
      opL := ok.opL
      opR := ok.opR
      cmp := ok.cmp
      own := ok.own
      sub := ok.sub
      fld := ok.fld
      prop := ok.prop
      con := ok.con }
    tk := takes_of rfl rfl rfl rfl
    calm := rfl
    nd := Sc.nd
    hN := rfl
    hsc := rfl
    hfn := fun _ _ => rfl
    fns := mo.fns
    cls := mo.cls
    gls := fun x j e => by
      obtain ⟨u, v, h1, h2, h3⟩ := mo.gls x j e
      exact ⟨u, v, h1, h2, fun F => h3 _ F rfl⟩
    bis := mo.bis
    gts := fun x j e => by
      obtain ⟨a, h1, h2⟩ := mo.gts x j e
      exact ⟨a, h1, h2 pen⟩
    cfi := ok.cfi
    kwo := ok.kwo
    ini := fun c f e => (ok.init c f e).1.init
    pno := fun _ => hpn
    sm := ok.sm
    smt := ok.smt
    xz := xz_of rfl rfl rfl rfl ok.xz
    xm := fun c h => xmk_ok ok rfl rfl rfl rfl (hr.mono (by omega)) c h
    xm0 := fun c h => (rai_ok ok rfl c h).1
    askE := fun z => by cases z
    lt := fun z => ⟨by
      have z' := staC_lm.symm.trans z
      obtain ⟨c, P', e1, e2, e3, e4⟩ := lmC_ok z' hTB
      exact ⟨9 * n, c, P', hr, hg, D.fn, D.make, e1, e2, e3, e4⟩⟩
    lfs := fun _ f hf => by
      obtain ⟨b, hb⟩ := ok.lams f hf
      exact ⟨b, D.lamb f b hb⟩
    po := passes_of rfl
    ni := ok.ni
    stk := rfl
    frm := rfl
    rai := fun c h => rai_ok ok rfl c h
    raiN := fun c h => rain_ok ok rfl rfl rfl rfl (hr.mono (by omega)) c h
    askT := fun z => by cases z }
/-- the body of a def that got a lambda -/
theorem body_okL {g : Nat} {b : Fn} {body : List Stmt} {qual : Str} {scope : Scope} {cdv : Value} {N : List Str} {p : Str} (ok : PdOk K d pen) (mo : MgOk K d mg) (Sc : FnScope N [p] scope) (h0 : N[0]? = some p) (q : chkSs d.tab fuel (staC d N scope cdv qual true) body b.body = true)
    (A : Around) (outer : List Env) (s : Shared) (H : Hp) (E : XK) (G : Fm) (F : Hp) (o : CRes S) (s0 : S) (fa : Addr) (hr : Room 4 (A.deeper (envOfC qual scope s.heap.objs.size (d.F g) cdv))) (hg : A.guards = some [])
    (asks : ∀ (W : WX) (pns : List (Addr × Obj)) (xe : Value → Shared → Prop) (p1 p2 : Pos) (G : Fm), Takes ((cxOf (CX P w) P w K mg base N qual scope (d.F g) cdv A outer s H E).tr pns xe) W → PE ((cxOf (CX P w) P w K mg base N qual scope (d.F g) cdv A outer s H E).tr pns xe) (.Call (.Name p p1) [] [] p2) (tD (Zl (d.Z K pen pn n) F o s0 fa) G W .ask)) :
    PSs (cxOf (CX P w) P w K mg base N qual scope (d.F g) cdv A outer s H E) body (tDSs (Zl (d.Z K pen pn n) F o s0 fa) G (fun c d _ H' => E c d H') b.body) := by
  refine (okS_all (Z := Zl (d.Z K pen pn n) F o s0 fa) (t := d.tab) fuel).Ss (W := fun c dd _ H' => E c dd H') ?_ q G
  exact {
    z := {
      hK := rfl
      fz := fun f => ⟨0, hr.mono (by omega), hg, fn_noR fun ds s F vs r => callA_rep r⟩
      fi := fun c => ⟨0, 0, hr.mono (by omega), hg, mk_no fun _ _ => rfl, fun ⟨_, _, h⟩ => absurd rfl h⟩
      hu := hr.units
      meth := ok.meth
      opL := ok.opL
      opR := ok.opR
      cmp := ok.cmp
      own := ok.own
      sub := ok.sub
      fld := ok.fld
      prop := ok.prop
      con := ok.con }
    tk := takes_of rfl rfl rfl rfl
    calm := rfl
    nd := Sc.nd
    hN := rfl
    hsc := rfl
    hfn := fun _ _ => rfl
    fns := mo.fns
    cls := mo.cls
    gls := fun x j e => by
      obtain ⟨u, v, h1, h2, h3⟩ := mo.gls x j e
      exact ⟨u, v, h1, h2, fun F => h3 _ F rfl⟩
    bis := mo.bis
    gts := fun x j e => by
      obtain ⟨a, h1, h2⟩ := mo.gts x j e
      exact ⟨a, h1, h2 pen⟩
    cfi := ok.cfi
    kwo := ok.kwo
    ini := fun c f e => (ok.init c f e).1.init
    pno := fun z => by cases z
    sm := ok.sm
    smt := ok.smt
    xz := xz_of rfl rfl rfl rfl ok.xz
    xm := fun c h => xmk_ok ok rfl rfl rfl rfl (hr.mono (by omega)) c h
    xm0 := fun c h => (rai_ok ok rfl c h).1
    askE := fun z => by cases z
    lt := fun z => by cases z
    lfs := fun z => by cases z
    po := passes_of rfl
    ni := ok.ni
    stk := rfl
    frm := rfl
    rai := fun c h => rai_ok ok rfl c h
    raiN := fun c h => rain_ok ok rfl rfl rfl rfl (hr.mono (by omega)) c h
    askT := fun _ a p1 p2 G' W' pns xe e tk => by
      have e' : N[0]? = some a := e
      rw [h0] at e'
      cases e'
      exact asks W' pns xe p1 p2 G' tk }
/-- what fnC says of a def -/
theorem fnC_use {f : Nat} {b : Fn} {ak : Bool} (h : fnC K d f b ak = true) : ∃ oc od name qual params body scope dV kV doc pm an cdv ct osl, K.lookup (d.F f) = some ⟨oc, od, .func (fnOf name qual params body scope dV kV doc pm an cdv ct), osl⟩ ∧ codeIn K cdv qual = true ∧
    FnScope (d.Ns.getD f []) (psOf (fnOf name qual params body scope dV kV doc pm an cdv ct)) scope ∧ (∀ T : Tb, T.K = K → BindZ K T (fnOf name qual params body scope dV kV doc pm an cdv ct) (psOf (fnOf name qual params body scope dV kV doc pm an cdv ct)) b) ∧ (d.Ns.getD f []).length = b.ns ∧ (psOf (fnOf name qual params body scope dV kV doc pm an cdv ct)).length ≤ (d.Ns.getD f []).length ∧
    chkSs d.tab fuel (staC d (d.Ns.getD f []) scope cdv qual ak) body b.body = true := by
  unfold fnC at h
  split at h
  · rename_i oc od fd osl lk
    split at h
    · rename_i body hb
      simp only [Bool.and_eq_true, decide_eq_true_eq, List.isEmpty_iff] at h
      obtain ⟨⟨⟨⟨⟨⟨⟨⟨h1, h2⟩, h3⟩, h4⟩, h5⟩, h6⟩, h7⟩, h8⟩, h9⟩ := h
      obtain ⟨name, qual, params, body', scope, globals, closure, dV, kV, doc, pm, an, cdv, ct, bl⟩ := fd
      simp only at hb h1 h2 h3 h4 h5 h9
      subst hb h1 h2 h3
      exact ⟨oc, od, name, qual, params, body, scope, dV, kV, doc, pm, an, cdv, ct, osl, lk, h4, scC_ok h5, fun T hT => bndC_ok hT h6, h7, h8, h9⟩
    · cases h
  · cases h
theorem lamb_ok (ok : PdOk K d pen) (mo : MgOk K d mg) {g : Nat} {b : Fn} (hb : d.fns.getD g .none = .lamb b) : LamG (d.Z K pen pn n) P w K mg base g b := by
  have q := ok.lamb g b hb
  unfold lambC at q
  split at q
  · rename_i oc0 od0 fd0 osl0 lk0
    split at q
    · rename_i p hp
      simp only [Bool.and_eq_true, Bool.or_eq_true, Bool.not_eq_true', decide_eq_true_eq, List.isEmpty_iff] at q
      obtain ⟨⟨⟨⟨⟨⟨q1, q2⟩, q3⟩, q4⟩, q5⟩, q6⟩, q7⟩ := q
      obtain ⟨oc, od, name, qual, params, body, scope, dV, kV, doc, pm, an, cdv, ct, osl, lk, h4, Sc, bz, h7, h8, h9⟩ := fnC_use q1
      rw [lk] at lk0
      cases lk0
      rw [hp] at Sc bz h8
      refine lamG_code (a := p) lk h4 Sc (bz _ rfl) h7 q2 q3 q4 q5 ?_ (okNm_of q7).1 (okNm_of q7).2 h8 fun A outer s H E G F o s0 fa hr hg asks => body_okL ok mo Sc q5 h9 A outer s H E G F o s0 fa hr hg asks
      rcases q6 with z | z
      · exact .inl z
      · exact .inr (.inl z)
    · cases q
  · cases q
/-- calls of every depth -/
theorem deep_all (hTB : TabsB d base mg) (hpn : ∀ n, PenOk (d.Z K pen pn n)) (ok : PdOk K d pen) (mo : MgOk K d mg) (hext : ∀ f g, d.fns.getD f .none = .ext g → ∀ n, FnRg P w K mg base (CX P w) (9 * (n + 1)) (d.F f) (spF (d.Z K pen pn (n + 1)) f)) : ∀ n, Deep d K pen pn P w mg base n
  | 0 => ⟨fun f => fn_no fun _ _ => rfl, fun f b hb => ⟨fun _ _ => .inl rfl, lamb_ok ok mo hb⟩, fun c => ⟨0, mk_no fun _ _ => rfl, fun ⟨_, _, h⟩ => absurd rfl h⟩⟩
  | n + 1 => by
    have D := deep_all hTB hpn ok mo hext n
    refine ⟨fun f => ?_, fun f b hb => ⟨fun ds s => .inr ?_, lamb_ok ok mo hb⟩, fun c => ?_⟩
    · cases hf : d.fns.getD f .none with
      | code b =>
        obtain ⟨oc, od, name, qual, params, body, scope, dV, kV, doc, pm, an, cdv, ct, osl, lk, h4, Sc, bz, h7, h8, h9⟩ := fnC_use (ok.fn f b hf)
        refine fn_code (Z := d.Z K pen pn n) (Z' := d.Z K pen pn (n + 1)) (k := 9 * n + 8) lk h4 Sc (bz _ rfl) h7 h8 (body_ok (hpn n) (f := f) ok mo D Sc hTB h9) ⟨rfl, rfl⟩ fun ds s => ?_
        show callN d.prg (n + 1) f ds s = _
        have e : d.prg.fn f = .code b := hf
        simp only [callN, e]
        rfl
      | ext g => exact hext f g hf n
      | lamb b =>
        refine fn_noR fun ds s F vs r => ?_
        show callN d.prg (n + 1) f ds s = _
        have e : d.prg.fn f = .lamb b := hf
        simp only [callN, e]
        exact runL_rep r
      | none =>
        refine fn_no fun ds s => ?_
        show callN d.prg (n + 1) f ds s = _
        have e : d.prg.fn f = .none := hf
        simp only [callN, e]
    · show callN d.prg (n + 1) f ds s = _
      have e : d.prg.fn f = .lamb b := hb
      simp only [callN, e]
      rfl
    · cases hi : d.pt.init c with
      | none =>
        have no : ∀ ds s, (d.Z K pen pn (n + 1)).make c ds s = .no := fun ds s => by
          show mkN d.prg (n + 1) c ds s = _
          have e : d.prg.init c = none := hi
          simp only [mkN, e]
        exact ⟨0, mk_no no, fun ⟨ds, s, h⟩ => absurd (no ds s) h⟩
      | some f =>
        obtain ⟨M, b, hf, hp⟩ := ok.init c f hi
        obtain ⟨oc, od, name, qual, params, body, scope, dV, kV, doc, pm, an, cdv, ct, osl, lk, h4, Sc, bz, h7, h8, h9⟩ := fnC_use (ok.fn f b hf)
        refine ⟨d.F f, fn_init (Z := d.Z K pen pn n) (Z' := d.Z K pen pn (n + 1)) (k := 9 * n + 8) lk h4 Sc (bz _ rfl) h7 h8 hp (body_ok (hpn n) (f := f) ok mo D Sc hTB h9) ⟨rfl, rfl⟩ fun ds s => ?_, fun _ => M⟩
        show mkN d.prg (n + 1) c ds s = _
        have e : d.prg.init c = some f := hi
        have e2 : d.prg.fn f = .code b := hf
        simp only [mkN, e, e2]
        rfl
end
end Rz
end

section
set_option autoImplicit false
set_option Elab.async false
set_option linter.all false
set_option maxHeartbeats 1000000
set_option maxRecDepth 100000
namespace Rz
open PySem PySem.Spec PyProof.Rows L2

/-! the law's end, by a promise that may use what the caller's frame says of guards -/
theorem law_callG {P : Program} {w : World} {K : PySem.W.Frag} {mg mb : Str → Option Value} {CX : CXT} {k : Nat} {fa a : Addr} {sp : Sp} {s₁ : Shared} {vs : List Value} {ns : List Int}
    (KX : K.In s₁.heap) (hns : s₁.heap.Ns mainGlobals mg) (hb : s₁.heap.Ns builtinsNs mb) (hbb : ∀ x : Str, x ≠ "__name__" → mb x = bootBuiltins x) (hlim : s₁.heap.NoLimit) (hg : s₁.gens = #[])
    (ha : s₁.heap.get? a = some { cls := .type "list", data := .seq vs.toArray }) (hi : IntsAre vs ns) (hl : ns.length ≤ sizeLine) (hr : Room k callerA)
    (F : ∀ base : Heap, K.In base → base.Ns mainGlobals mg → FnRg P w K mg base CX k fa sp)
    (hsp : ∀ H : Hp, Only H → SqL K H a (ns.map V.int) → sp [.ref a] H (fun v _ => v = .bl true) fun _ _ _ => False)
    (hCX : ∀ H e s', CX [] H s₁ (fun _ _ _ => False) e s' → False) :
    codeAny (model P w) callerA (.call (.ref fa) ⟨[.ref a], []⟩) (fun r s' => r = .ok (.ret (.bool true)) ∧ OldK s₁.heap s'.heap ∧ s'.os = s₁.os ∧ AllBare s'.gens) s₁ := by
  have rv := vals_ints hi
  have lenV := hi.length
  -- from an abstract heap in which nothing but the script may be tracked
  have core : ∀ H : Hp, Only H → SqL K H a (ns.map V.int) → HOk P w H s₁.heap → (∀ b, H b ≠ none → b = a) → (H a ≠ none → K.lookup a = none) →
      codeAny (model P w) callerA (.call (.ref fa) ⟨[.ref a], []⟩) (fun r s' => r = .ok (.ret (.bool true)) ∧ OldK s₁.heap s'.heap ∧ s'.os = s₁.os ∧ AllBare s'.gens) s₁ := by
    intro H hO hS hok hA hK
    have base_of : ∀ {b : Addr} {o : Obj}, s₁.heap.get? b = some o → H b = none → (hidT s₁.heap H).get? b = some o := fun e n => hidT_get e n
    have noA : ∀ {b : Addr} {o : Obj} {es : Array DictEntry} {ep : Nat}, s₁.heap.get? b = some o → o.data = .dict es ep → H b = none := fun {b o es ep} e d => by
      cases q : H b with
      | none => rfl
      | some u =>
        have e' : b = a := hA b (by rw [q]; simp)
        subst e'
        rw [ha] at e; cases e
        have d' : Data.seq vs.toArray _ = Data.dict es ep := d
        cases d'
    have nsK : ∀ {b : Addr} {m : Str → Option Value}, s₁.heap.Ns b m → (hidT s₁.heap H).Ns b m := fun {b m} ⟨o, es, ep, e, d, r⟩ => ⟨o, es, ep, base_of e (noA e d), d, r⟩
    have hKb : K.In (hidT s₁.heap H) := fun b o e => base_of (KX b o e) (by
      cases q : H b with
      | none => rfl
      | some u =>
        have e' : b = a := hA b (by rw [q]; simp)
        subst e'
        rw [hK (by rw [q]; simp)] at e; cases e)
    have hM : Mod K mg (hidT s₁.heap H) := ⟨hKb, nsK hns, ⟨mb, nsK hb, hbb⟩, let ⟨mc, h1, h2⟩ := hlim; ⟨mc, nsK h1, h2⟩⟩
    have e0 : Env0 P w K mg (hidT s₁.heap H) callerA [] s₁ H := ⟨rfl, hM, fun b o e => of_hidT e, Nat.le_of_eq (hidT_size _ _), trivial, fun b hb => absurd (show b ∈ ([] : List Addr) from hb) (by simp), hok, .of_eq hg⟩
    refine codeAny_mono ((F _ hKb (nsK hns)) callerA [] s₁ H [.ref a] [.ref a] _ _ hr rfl e0 (.cons rfl .nil) (hsp H hO hS) _ ArgAs.rfl) fun r s' h => ?_
    cases r with
    | error e => exact (hCX H e s' h).elim
    | ok fl =>
      cases fl with
      | next => exact False.elim h
      | brk => exact False.elim h
      | cont => exact False.elim h
      | ret u =>
        obtain ⟨v, H', os, bare, un, hok', r', q⟩ := h
        have q' : v = .bl true := q
        subst q'
        obtain rfl : u = Value.bool true := r'
        refine ⟨rfl, OldK.of_keep fun b o e => ?_, os, bare⟩
        cases q : H b with
        | none => exact un.keep b o e q (by intro z; exact absurd (show b ∈ ([] : List Addr) from z) (by simp)) (by simp)
        | some u =>
          rcases hO b with z | ⟨ob, xs, z⟩
          · rw [q] at z; cases z
          · have z2 := un.frzs b ob _ z
            obtain ⟨e1, _⟩ := hok b _ z
            obtain ⟨e2, _⟩ := hok' b _ z2
            rw [e] at e1; cases e1
            exact e2
  cases hk : K.lookup a with
  | some o =>
    -- the script is one of the module's own objects
    have e := KX a o hk
    rw [ha] at e
    cases e
    refine core (fun _ => none) (fun _ => .inl rfl) (.inr ⟨_, vs.toArray, _, hk, rfl, rfl, rfl, by rw [List.size_toArray, lenV]; exact hl, by simpa using rv⟩) (fun b u z => by have z' : (none : Option HO) = some u := z; cases z') (fun b z => absurd rfl z) fun z => absurd rfl z
  | none =>
    refine core (fun b => if b = a then some (.frz { cls := .type "list", data := .seq vs.toArray } (.lst (ns.map V.int))) else none) (fun b => ?_) (.inl (.inr ⟨{ cls := .type "list", data := .seq vs.toArray }, if_pos rfl⟩)) (fun b u z => ?_) (fun b z => ?_) fun _ => hk
    · by_cases hb : b = a
      · exact .inr ⟨_, _, if_pos hb⟩
      · exact .inl (if_neg hb)
    · by_cases hb : b = a
      · have z' := (if_pos hb).symm.trans z
        cases z'
        subst hb
        exact ⟨ha, by rw [List.length_map]; exact hl, vs, _, rv, ha⟩
      · have z' := (if_neg hb).symm.trans z
        cases z'
    · by_cases hb : b = a
      · exact hb
      · exact absurd (if_neg hb) z
theorem walkG {l : PySem.W.OpenLaw} {n k : Nat} {q : Program} {loose : List Str} {XP : (Str → Option Value) → Heap → Prop} {YP : World → Heap → Prop} {d : DefRec} {K : Params → PySem.W.Frag} {sp : World → Sp}
    (hn : l.most = some n) (hn2 : n ≤ sizeLine) (hdf : d.params.defaults = []) (hr : Room k callerA)
    (hY : ∀ (w : World) (h : Heap), YP w h → (K w.params).In h)
    (F : ∀ (w : World) (mg : Str → Option Value) (fa : Addr) (h : Heap), (K w.params).In h → h.Ns mainGlobals mg → mg d.name = some (.ref fa) →
      ∀ base : Heap, (K w.params).In base → base.Ns mainGlobals mg → FnRg l.prog w (K w.params) mg base (CX l.prog w) k fa (sp w))
    (hsp : ∀ (w : World) (H : Hp) (a : Addr) (ns : List Int), ns.length ≤ n → Only H → SqL (K w.params) H a (ns.map V.int) → sp w [.ref a] H (fun v _ => v = .bl true) fun _ _ _ => False)
    : PySem.W.WalkO q loose XP YP l.row.toRowW d [] (fun f vs => PySem.call f vs) := by
  refine Att.attach_call hn hdf fun w s₀ s₁ mg mb fa o pm cd doc a vs ns G Y ho hd hcd hmg hobj hints hlen hg => ?_
  have KX := hY w _ Y
  exact law_callG KX G.T.g G.T.b G.T.builtins G.T.nolimit hg hobj hints (Nat.le_trans hlen hn2) hr (F w mg fa _ KX G.T.g hmg) (fun H hO hS => hsp w H a ns hlen hO hS) fun H e s' z => by
    obtain ⟨_, _, _, _, _, _, _, _, _, _, _, _, w⟩ := z
    exact w

/-- the same where defs of the law make lambdas: cs, their code objects and tables -/
theorem law_callGT {P : Program} {w : World} {K : PySem.W.Frag} {mg mb : Str → Option Value} {CX : CXT} {k : Nat} {fa a : Addr} {cs : List (Addr × Addr)} {sp : Sp} {s₁ : Shared} {vs : List Value} {ns : List Int}
    (KX : K.In s₁.heap) (hns : s₁.heap.Ns mainGlobals mg) (hb : s₁.heap.Ns builtinsNs mb) (hbb : ∀ x : Str, x ≠ "__name__" → mb x = bootBuiltins x) (hlim : s₁.heap.NoLimit) (hg : s₁.gens = #[])
    (hT : ∀ p ∈ cs, s₁.heap.get? p.2 = some { cls := .none, data := .fields #[] }) (nT : ∀ p ∈ cs, K.lookup p.2 = none) (C : ∀ p ∈ cs, PySem.W.CodeHd s₁.heap p.1 p.2)
    (hbm : ∃ (bm : Addr) (ob : Obj), mg "__builtins__" = some (.ref bm) ∧ bm ≠ builtinsNs ∧ s₁.heap.get? bm = some ob ∧ ob.cls = .type "module" ∧ ob.dict = some builtinsNs ∧ ob.data = .plain)
    (ha : s₁.heap.get? a = some { cls := .type "list", data := .seq vs.toArray }) (hi : IntsAre vs ns) (hl : ns.length ≤ sizeLine) (hr : Room k callerA)
    (F : ∀ base : Heap, K.In base → base.Ns mainGlobals mg → (∀ p ∈ cs, LamX.TabB base mg p.1 p.2) → FnRg P w K mg base CX k fa sp)
    (hsp : ∀ H : Hp, (∀ p ∈ cs, H p.2 = some (.tbl #[])) → SqL K H a (ns.map V.int) → sp [.ref a] H (fun v _ => v = .bl true) fun _ _ _ => False)
    (hCX : ∀ H e s', CX [] H s₁ (fun _ _ _ => False) e s' → False) :
    codeAny (model P w) callerA (.call (.ref fa) ⟨[.ref a], []⟩) (fun r s' => r = .ok (.ret (.bool true)) ∧ OldK s₁.heap s'.heap ∧ s'.os = s₁.os ∧ AllBare s'.gens) s₁ := by
  have rv := vals_ints hi
  have lenV := hi.length
  have isT : ∀ b : Addr, b ∈ cs.map (·.2) → s₁.heap.get? b = some { cls := .none, data := .fields #[] } := fun b hb => by
    obtain ⟨p, hp, e⟩ := List.mem_map.mp hb
    exact e ▸ hT p hp
  have aT : a ∉ cs.map (·.2) := fun z => by
    have q := isT a z
    rw [ha] at q
    have z' : Data.seq vs.toArray _ = Data.fields #[] := congrArg Obj.data (Option.some.inj q)
    cases z'
  have memT : ∀ p ∈ cs, p.2 ∈ cs.map (·.2) := fun p hp => List.mem_map.mpr ⟨p, hp, rfl⟩
  have core : ∀ H : Hp, (∀ p ∈ cs, H p.2 = some (.tbl #[])) → (∀ b, H b = none ∨ b ∈ cs.map (·.2) ∨ ∃ o xs, H b = some (.frz o (.lst xs))) → SqL K H a (ns.map V.int) → HOk P w H s₁.heap → (∀ b, H b ≠ none → b = a ∨ b ∈ cs.map (·.2)) → (H a ≠ none → K.lookup a = none) →
      codeAny (model P w) callerA (.call (.ref fa) ⟨[.ref a], []⟩) (fun r s' => r = .ok (.ret (.bool true)) ∧ OldK s₁.heap s'.heap ∧ s'.os = s₁.os ∧ AllBare s'.gens) s₁ := by
    intro H hH hO hS hok hA hK
    have noD : ∀ {b : Addr} {o : Obj}, s₁.heap.get? b = some o → (∀ vs n, o.data ≠ .seq vs n) → o.data ≠ .fields #[] → H b = none := fun {b o} e h1 h2 => by
      cases q : H b with
      | none => rfl
      | some u =>
        rcases hA b (by rw [q]; simp) with e' | e'
        · rw [e', ha] at e; cases e
          exact (h1 _ _ rfl).elim
        · rw [isT b e'] at e; cases e
          exact (h2 rfl).elim
    have base_of : ∀ {b : Addr} {o : Obj}, s₁.heap.get? b = some o → H b = none → (hidT s₁.heap H).get? b = some o := fun e n => hidT_get e n
    have nsK : ∀ {b : Addr} {m : Str → Option Value}, s₁.heap.Ns b m → (hidT s₁.heap H).Ns b m := fun {b m} ⟨o, es, ep, e, d, r⟩ => ⟨o, es, ep, base_of e (noD e (fun vs n z => by rw [d] at z; cases z) fun z => by rw [d] at z; cases z), d, r⟩
    have hKb : K.In (hidT s₁.heap H) := fun b o e => base_of (KX b o e) (by
      cases q : H b with
      | none => rfl
      | some u =>
        rcases hA b (by rw [q]; simp) with e' | e'
        · rw [e'] at e q
          rw [hK (by rw [q]; simp)] at e; cases e
        · obtain ⟨p, hp, ep⟩ := List.mem_map.mp e'
          rw [← ep, nT p hp] at e; cases e)
    have hM : Mod K mg (hidT s₁.heap H) := ⟨hKb, nsK hns, ⟨mb, nsK hb, hbb⟩, let ⟨mc, h1, h2⟩ := hlim; ⟨mc, nsK h1, h2⟩⟩
    have TB : ∀ p ∈ cs, LamX.TabB (hidT s₁.heap H) mg p.1 p.2 := fun p hp => by
      have hTp := hT p hp
      refine ⟨?_, ?_, fun z => ?_⟩
      · obtain ⟨o, us, file, tf, flags, tg, inF, text, tt, e1, r1, r2, r3, rest⟩ := C p hp
        exact ⟨o, us, file, tf, flags, tg, inF, text, tt, base_of e1 (noD e1 (fun vs n z => by rw [r2] at z; cases z) fun z => by rw [r2] at z; cases z; simp at r3), r1, r2, r3, rest⟩
      · obtain ⟨bm, ob, b1, b2, b3, b4, b5, b6⟩ := hbm
        have nG : bm ≠ mainGlobals := fun q => by
          obtain ⟨o, es, ep, e, hd, _⟩ := hns
          rw [q, e] at b3; cases b3
          rw [hd] at b6; cases b6
        have nP : bm ≠ p.2 := fun q => by
          rw [q, hTp] at b3; cases b3
          cases b6
        exact ⟨bm, ob, b1, b2, nG, nP, base_of b3 (noD b3 (fun vs n z => by rw [b6] at z; cases z) fun z => by rw [b6] at z; cases z), b4, b5, b6⟩
      · obtain ⟨o, es, ep, e, hd, _⟩ := hns
        rw [z, hTp] at e; cases e
        cases hd
    have e0 : Env0 P w K mg (hidT s₁.heap H) callerA [] s₁ H := ⟨rfl, hM, fun b o e => of_hidT e, Nat.le_of_eq (hidT_size _ _), trivial, fun b hb => absurd (show b ∈ ([] : List Addr) from hb) (by simp), hok, .of_eq hg⟩
    refine codeAny_mono ((F _ hKb (nsK hns) TB) callerA [] s₁ H [.ref a] [.ref a] _ _ hr rfl e0 (.cons rfl .nil) (hsp H hH hS) _ ArgAs.rfl) fun r s' h => ?_
    cases r with
    | error e => exact (hCX H e s' h).elim
    | ok fl =>
      cases fl with
      | next => exact False.elim h
      | brk => exact False.elim h
      | cont => exact False.elim h
      | ret u =>
        obtain ⟨v, H', os, bare, un, hok', r', q⟩ := h
        have q' : v = .bl true := q
        subst q'
        obtain rfl : u = Value.bool true := r'
        have key : ∀ b o, b ∉ cs.map (·.2) → s₁.heap.get? b = some o → s'.heap.get? b = some o := fun b o nb e => by
          cases q : H b with
          | none => exact un.keep b o e q (by intro z; exact absurd (show b ∈ ([] : List Addr) from z) (by simp)) (by simp)
          | some u =>
            rcases hO b with z | z | ⟨ob, xs, z⟩
            · rw [q] at z; cases z
            · exact absurd z nb
            · have z2 := un.frzs b ob _ z
              obtain ⟨e1, _⟩ := hok b _ z
              obtain ⟨e2, _⟩ := hok' b _ z2
              rw [e] at e1; cases e1
              exact e2
        have grown : ∀ p ∈ cs, ∃ more : Array Value, s'.heap.get? p.2 = some { cls := .none, data := .fields more } := fun p hp => by
          obtain ⟨more, z⟩ := un.tbls p.2 #[] (hH p hp)
          exact ⟨_, hok' p.2 _ z⟩
        refine ⟨rfl, ⟨fun b o e => ?_, fun b o e => ?_⟩, os, bare⟩
        · by_cases hb : b ∈ cs.map (·.2)
          · obtain ⟨p, hp, ep⟩ := List.mem_map.mp hb
            obtain ⟨more, hm⟩ := grown p hp
            rw [← ep] at e ⊢
            rw [hT p hp] at e; cases e
            exact .inr (.inl ⟨((C p hp).tab (hT p hp)).isCodeTable, rfl, #[], more, rfl, by rw [Array.empty_append]; exact hm⟩)
          · exact .inl (key b o hb e)
        · by_cases hb : b ∈ cs.map (·.2)
          · obtain ⟨p, hp, ep⟩ := List.mem_map.mp hb
            obtain ⟨more, hm⟩ := grown p hp
            exact ⟨_, ep ▸ hm⟩
          · exact ⟨o, key b o hb e⟩
  cases hk : K.lookup a with
  | some o =>
    have e := KX a o hk
    rw [ha] at e
    cases e
    refine core (fun b => if b ∈ cs.map (·.2) then some (.tbl #[]) else none) (fun p hp => if_pos (memT p hp)) (fun b => ?_) (.inr ⟨_, vs.toArray, _, hk, rfl, rfl, rfl, by rw [List.size_toArray, lenV]; exact hl, by simpa using rv⟩) (fun b u z => ?_) (fun b z => ?_) fun z => absurd (show (if a ∈ cs.map (·.2) then some (HO.tbl #[]) else none) = none from if_neg aT) z
    · by_cases hb : b ∈ cs.map (·.2)
      · exact .inr (.inl hb)
      · exact .inl (if_neg hb)
    · by_cases hb : b ∈ cs.map (·.2)
      · have z' := (if_pos hb).symm.trans z
        cases z'
        exact isT b hb
      · have z' := (if_neg hb).symm.trans z
        cases z'
    · by_cases hb : b ∈ cs.map (·.2)
      · exact .inr hb
      · exact absurd (if_neg hb) z
  | none =>
    refine core (fun b => if b = a then some (.frz { cls := .type "list", data := .seq vs.toArray } (.lst (ns.map V.int))) else if b ∈ cs.map (·.2) then some (.tbl #[]) else none) (fun p hp => (if_neg (show ¬ p.2 = a from fun z => aT (by rw [← z]; exact memT p hp))).trans (if_pos (memT p hp))) (fun b => ?_)
      (.inl (.inr ⟨{ cls := .type "list", data := .seq vs.toArray }, if_pos rfl⟩)) (fun b u z => ?_) (fun b z => ?_) fun _ => hk
    · by_cases hb : b = a
      · exact .inr (.inr ⟨_, _, if_pos hb⟩)
      · by_cases hb2 : b ∈ cs.map (·.2)
        · exact .inr (.inl hb2)
        · exact .inl ((if_neg hb).trans (if_neg hb2))
    · by_cases hb : b = a
      · have z' := (if_pos hb).symm.trans z
        cases z'
        rw [hb]
        exact ⟨ha, by rw [List.length_map]; exact hl, vs, _, rv, ha⟩
      · have z1 := (if_neg hb).symm.trans z
        by_cases hb2 : b ∈ cs.map (·.2)
        · have z' := (if_pos hb2).symm.trans z1
          cases z'
          exact isT b hb2
        · have z' := (if_neg hb2).symm.trans z1
          cases z'
    · by_cases hb : b = a
      · exact .inl hb
      · by_cases hb2 : b ∈ cs.map (·.2)
        · exact .inr hb2
        · exact absurd ((if_neg hb).trans (if_neg hb2)) z
theorem walkGT {l : PySem.W.OpenLaw} {n k : Nat} {q : Program} {loose : List Str} {XP : (Str → Option Value) → Heap → Prop} {YP : World → Heap → Prop} {d : DefRec} {K : Params → PySem.W.Frag} {sp : World → Sp} (cs : List (Addr × Addr))
    (hn : l.most = some n) (hn2 : n ≤ sizeLine) (hdf : d.params.defaults = []) (hr : Room k callerA)
    (hY : ∀ (w : World) (h : Heap), YP w h → (K w.params).In h) (hT : ∀ (w : World) (h : Heap), YP w h → ∀ p ∈ cs, h.get? p.2 = some { cls := .none, data := .fields #[] })
    (nT : ∀ (w : World), ∀ p ∈ cs, (K w.params).lookup p.2 = none) (C : ∀ (w : World), ∀ p ∈ cs, PySem.W.codeHdIn (K w.params) p.1 p.2 = true)
    (F : ∀ (w : World) (mg : Str → Option Value) (fa : Addr) (h : Heap), (K w.params).In h → h.Ns mainGlobals mg → mg d.name = some (.ref fa) →
      ∀ base : Heap, (K w.params).In base → base.Ns mainGlobals mg → (∀ p ∈ cs, LamX.TabB base mg p.1 p.2) → FnRg l.prog w (K w.params) mg base (CX l.prog w) k fa (sp w))
    (hsp : ∀ (w : World) (H : Hp) (a : Addr) (ns : List Int), ns.length ≤ n → (∀ p ∈ cs, H p.2 = some (.tbl #[])) → SqL (K w.params) H a (ns.map V.int) → sp w [.ref a] H (fun v _ => v = .bl true) fun _ _ _ => False)
    : PySem.W.WalkO q loose XP YP l.row.toRowW d [] (fun f vs => PySem.call f vs) := by
  refine Att.attach_call hn hdf fun w s₀ s₁ mg mb fa o pm cd doc a vs ns G Y ho hd hcd hmg hobj hints hlen hg => ?_
  have KX := hY w _ Y
  exact law_callGT KX G.T.g G.T.b G.T.builtins G.T.nolimit hg (hT w _ Y) (nT w) (fun p hp => PySem.W.codeHd_of_K KX (C w p hp)) G.T.bmain hobj hints (Nat.le_trans hlen hn2) hr (F w mg fa _ KX G.T.g hmg) (fun H hH hS => hsp w H a ns hlen hH hS) fun H e s' z => by
    obtain ⟨_, _, _, _, _, _, _, _, _, _, _, _, w⟩ := z
    exact w
end Rz
end

section
set_option autoImplicit false
set_option Elab.async false
set_option linter.all false
set_option maxHeartbeats 1000000
set_option maxRecDepth 100000
namespace Rz
open PySem PySem.Spec PySem.W PyProof.Rows L2

theorem _root_.L2.PSs.any {X : Cx} {ι : Type} {ss : List Stmt} {t : ι → TS} (h : ∀ i, PSs X ss (t i)) : PSs X ss (fun D σ H => ∃ i, t i D σ H) := ⟨fun pins s σ H D I ⟨i, q⟩ => (h i).run pins s σ H D I q⟩

section
variable {P : Program} {w : World} {K : PySem.W.Frag} {mg : Str → Option Value} {base : Heap} {k : Nat} {f : Addr} {name qual : Str} {params : Arguments} {body : List Stmt} {scope : Scope} {dV kV doc pm cdv ct oc : Value} {an od : Option Addr}
  {osl : Array (Option Value)} {N ps : List Str}
/-- a def with plain parameters, all given by place -/
theorem run_pl {ar : Args} {A : Around} {outer : List Env} {sh : Shared} {H : Hp} {us : List Value} {vs : List V} {Q : VK} {E : XK} (lk : K.lookup f = some ⟨oc, od, .func (PySem.W.fnOf name qual params body scope dV kV doc pm an cdv ct), osl⟩) (hcd : PySem.W.codeIn K cdv qual = true) (Sc : FnScope N ps scope)
    (hb : PlainFd (PySem.W.fnOf name qual params body scope dV kV doc pm an cdv ct) ps) (hr : Room (k + 1) A) (e0 : Env0 P w K mg base A outer sh H) (rv : Vals vs us) (har : ArgAs K f ar us) (hl : us.length = ps.length)
    (hbody : ∀ s2 : Shared, Room k (A.deeper (envOfC qual scope s2.heap.objs.size f cdv)) →
      ∃ t, PSs (cxOf (CX P w) P w K mg base N qual scope f cdv A outer s2 H E) body t ∧ t { nx := fun _ H' => Q .non H', rt := Q } (L2.start N vs) H) :
    codeAny (model P w) A (.call (.ref f) ar) (CR (CX P w) outer P w H sh Q E) sh := by
  refine StX.run_bnd lk hcd Sc hr e0 (G := fun ws H2 => H2 = H ∧ ws = vs) (fun A' Ex Q' h => ?_) fun s2 H2 ws ⟨e1, e2⟩ hr' => ?_
  · rw [har _ _ _ _ lk, bind_plain hb.h1 hb.h2 hb.h3 hb.h4 hb.h5 (by rw [hb.nm]; exact hb.nd) (by rw [hb.nm]; exact hl), hb.nm]
    exact wpAny_pure (h sh H vs us e0 Un.refl rfl (fun _ _ z => z) rv (by rw [rv.length]; exact hl) ⟨rfl, rfl⟩)
  · subst e1 e2
    exact hbody s2 hr'

/-- `_law_pen`: what it makes of the script -/
def spPen (K : PySem.W.Frag) : Sp := fun vs H Q _ => ∃ (a : Addr) (ns : List Int), vs = [.ref a] ∧ SqL K H a (ns.map V.int) ∧ ns.length ≤ 63 ∧
  ∀ n1 n2 n3 H', H n1 = none → H n2 = none → H n3 = none → n1 ≠ n2 → n1 ≠ n3 → n2 ≠ n3 → H' = upd (upd (upd H n1 (.lst (ns.map V.int))) n2 (.lst (ns.map V.int))) n3 (.lst [.ref n2, .int 0, .int 0]) → Q (.ref n3) H'
structure PenPat where
  l : Str
  x : Str
  n : Int
  i : Int
  j : Int
def penPat : List Stmt → Option PenPat
  | [.Return (some (.List [.Call (.Name l _) [.Subscript (.Name x _) (.Slice none (some (.Constant (.int n) _ _)) none _) _] [] _, .Constant (.int i) _ _, .Constant (.int j) _ _] _)) _] => some ⟨l, x, n, i, j⟩
  | _ => none
theorem penPat_of {b : List Stmt} {p : PenPat} (h : penPat b = some p) : ∃ p1 p2 k3 p3 p4 p5 p6 k7 p7 k8 p8 p9 p10, b = [.Return (some (.List [.Call (.Name p.l p1) [.Subscript (.Name p.x p2) (.Slice none (some (.Constant (.int p.n) k3 p3)) none p4) p5] [] p6, .Constant (.int p.i) k7 p7, .Constant (.int p.j) k8 p8] p9)) p10] := by
  unfold penPat at h
  split at h
  · cases h; exact ⟨_, _, _, _, _, _, _, _, _, _, _, _, _, rfl⟩
  · cases h
theorem cut63 {xs : List V} (h : xs.length ≤ 63) : cutV xs none (some 63) = xs := by
  unfold cutV
  have e1 : HT.sIx xs.length 0 none = 0 := rfl
  have e2 : HT.sIx xs.length xs.length (some 63) = xs.length := by
    simp only [HT.sIx]
    first | omega | (split <;> omega) | skip
  rw [e1, e2]; simp
def visC (sc : Scope) (x : Str) : Bool := decide (sc.names.lookup x = some .local) || decide (sc.names.lookup x = some .cell)
/-- the def's own part of the check -/
def ownFnC (K : Frag) (fd : FuncData) (N ps : List Str) : Bool := decide (fd.globals = mainGlobals) && fd.closure.isEmpty && decide (fd.builtins = builtinsNs) && codeIn K fd.code fd.qualname && scC N ps fd.scope && plainC fd ps && decide (ps.length ≤ N.length)
def penC (K : Frag) (a : Addr) : Bool :=
  match K.lookup a with
  | some ⟨_, _, .func fd, _⟩ => match fd.body with
    | .stmts body => match penPat body with
      | some p => ownFnC K fd [p.x] [p.x] && decide (p.l = ("list" : Str)) && decide (p.n = 63) && decide (p.i = 0) && decide (p.j = 0) && decide (fd.scope.names.lookup ("list" : Str) = some .globalImplicit) && visC fd.scope p.x && okNm p.x && (nsIn K mainGlobals ("list" : Str) == some none)
      | none => false
    | _ => false
  | _ => false
theorem pen_rg (h : penC K f = true) (hm : mg "list" = none) : FnRg P w K mg base (CX P w) 1 f (spPen K) := by
  unfold penC at h
  split at h
  · rename_i oc od fd osl lk
    split at h
    · rename_i body hb
      split at h
      · rename_i p hp
        obtain ⟨p1, p2, k3, p3, p4, p5, p6, k7, p7, k8, p8, p9, p10, rfl⟩ := penPat_of hp
        obtain ⟨l, x, n, i, j⟩ := p
        simp only [Bool.and_eq_true, decide_eq_true_eq, ownFnC, List.isEmpty_iff] at h
        obtain ⟨⟨⟨⟨⟨⟨⟨⟨⟨⟨⟨⟨⟨⟨h1, h2⟩, h3⟩, h4⟩, h5⟩, h6⟩, h7⟩, rfl⟩, rfl⟩, rfl⟩, rfl⟩, hg⟩, hv⟩, ho⟩, _⟩ := h
        obtain ⟨name, qual, params, body', scope, globals, closure, dV, kV, doc, pm, an, cdv, ct, bl⟩ := fd
        simp only at hb h1 h2 h3 h4 h5 h6 hg hv
        subst hb h1 h2 h3
        have Sc := scC_ok h5
        simp only [plainC, Bool.and_eq_true, decide_eq_true_eq, List.isEmpty_iff, Option.isNone_iff_eq_none] at h6
        obtain ⟨⟨⟨⟨⟨⟨g1, g2⟩, g3⟩, g4⟩, g5⟩, g6⟩, g7⟩ := h6
        intro A outer sh H us vs Q E hr hgd e0 rv hsp ar har
        obtain ⟨a, ns, rfl, hS, hlen, hq⟩ := hsp
        refine run_pl (k := 0) lk h4 Sc ⟨g1, g2, g3, g4, g5, g6, g7⟩ hr e0 rv har (by rw [← rv.length]; rfl) fun s2 hr' => ?_
        have vis : Vis scope x := by
          simp only [visC, Bool.or_eq_true, decide_eq_true_eq] at hv
          rcases hv with z | z
          · exact .inl z
          · exact .inr (.inl z)
        have pv0 : ∀ {pos : Pos}, PE (cxOf (CX P w) P w K mg base [x] qual scope f cdv A outer s2 H E) (.Name x pos) (tVar 0) := fun {pos} => pe_var rfl vis (okNm_of ho).1 (okNm_of ho).2
        refine ⟨_, pss_one (ps_ret (pe_lst (pa_cons (pe_callTy call_list_of hg hm Bi.list.boot (pa_cons (pe_slice sl_list pv0 po_none (po_some pe_int)) pa_nil)) (pa_cons pe_int (pa_cons pe_int pa_nil))))), ?_⟩
        refine ⟨.ref a, rfl, 63, rfl, a, ns.map V.int, rfl, hS, fun n1 hn1 => ?_⟩
        rw [cut63 (by simpa using hlen)]
        refine ⟨n1, ns.map V.int, rfl, .inl (SqL.of upd_same), fun n2 hn2 => ⟨by rw [sizeLine_eq]; show 3 ≤ _; decide, fun n3 hn3 => ?_⟩⟩
        have n12 : n1 ≠ n2 := by rintro rfl; rw [upd_same] at hn2; cases hn2
        have n23 : n2 ≠ n3 := by rintro rfl; rw [upd_same] at hn3; cases hn3
        rw [upd_ne (Ne.symm n12)] at hn2
        rw [upd_ne (Ne.symm n23)] at hn3
        have n13 : n1 ≠ n3 := by rintro rfl; rw [upd_same] at hn3; cases hn3
        rw [upd_ne (Ne.symm n13)] at hn3
        exact hq n1 n2 n3 _ hn1 hn2 hn3 n12 n13 n23 rfl
      · cases h
    · cases h
  · cases h

/-! ### the law's own def -/
structure LawPat where
  pn : Str
  fn : Str
  sx : Str
  px : Pos
  p1 : Pos
  p2 : Pos
  p3 : Pos
  p4 : Pos
  rest : List Stmt
def lawPat : List Stmt → Option LawPat
  | .Assign [.Name pn px] (.Call (.Name fn p1) [.Name sx p2] [] p3) p4 :: rest => some ⟨pn, fn, sx, px, p1, p2, p3, p4, rest⟩
  | _ => none
theorem lawPat_of {b : List Stmt} {p : LawPat} (h : lawPat b = some p) : b = .Assign [.Name p.pn p.px] (.Call (.Name p.fn p.p1) [.Name p.sx p.p2] [] p.p3) p.p4 :: p.rest := by
  unfold lawPat at h
  split at h
  · cases h; rfl
  · cases h
/-- the check of the law's def: pa the address of `_law_pen` -/
def lawC (K : Frag) {S : Type} (d : PD S) (fa pa : Addr) (N : List Str) (cs : CSs) : Bool :=
  match K.lookup fa with
  | some ⟨_, _, .func fd, _⟩ => match fd.body with
    | .stmts body => match lawPat body with
      | some p => ownFnC K fd N [p.sx] && decide (N[0]? = some p.sx) && decide (N[1]? = some p.pn) && decide (2 ≤ N.length) && isLoc (staC d N fd.scope fd.code fd.qualname false) p.pn && isVis (staC d N fd.scope fd.code fd.qualname false) p.sx && okNm p.sx && okNm p.fn && isGl (staC d N fd.scope fd.code fd.qualname false) p.fn &&
          (nsIn K mainGlobals p.fn == some (some (.ref pa))) && keepIn K (.ref pa) && penC K pa && (nsIn K mainGlobals ("list" : Str) == some none) && chkSs d.tab fuel (staC d N fd.scope fd.code fd.qualname false) p.rest cs
      | none => false
    | _ => false
  | _ => false
theorem pe_callRg {X : Cx} {W : WX} {sp : Sp} {k : Nat} {f : Addr} {x : Str} {p pos : Pos} {e : Expr} {es : List Expr} {t : TA} (F : FnRg X.prog X.w X.K X.mg X.base (CX X.prog X.w) k f sp) (hr : Room k X.A) (hgd : X.A.guards = some []) (hk : keepIn X.K (.ref f) = true) (tk : Takes X W) (hg : Gl X x) (hm : X.mg x = some (.ref f)) (ha : PA X (e :: es) t)
    (hd : (x == ("__debug__" : Str)) = false) (he : starEach (e :: es) X.env = (false, eval e X.env) :: starEach es X.env) (hpl : (backTo pos (starEach es X.env)).any (·.1) = false) : PE X (.Call (.Name x p) (e :: es) [] pos) (fun σ H Q => t σ H fun vs H1 => sp vs H1 Q (fun c d H' => W c d σ H')) := by
  refine ⟨fun pins s σ H Q I h => ?_⟩
  refine wpAny_Call_Name_kw (ld_glob I hg hm ?_ hd)
  refine PySem.W.callWith_K (h₀ := X.base) I.ok.mod.kin hk (thn (ha.run pos pins s σ H _ I h) fun us s1 ⟨vs, H1, I1, r, q⟩ => ⟨I1.kIn, wpAny_call ?_⟩) he hpl
  refine codeAny_mono (F X.A X.stack s1 H1 us vs Q _ hr hgd I1.env0 r q _ ArgAs.rfl) fun r s' hq => ?_
  cases r with
  | error e => exact tk e s' (XE.of_call I1 (fun cls d H' z => z) hq)
  | ok fl =>
    cases fl with
    | ret u => exact I1.after hq
    | next => exact False.elim hq
    | brk => exact False.elim hq
    | cont => exact False.elim hq
def spLaw (K : PySem.W.Frag) (tb : List Addr := []) : Sp := fun vs H Q _ => ∃ (a : Addr) (ns : List Int), vs = [.ref a] ∧ SqL K H a (ns.map V.int) ∧ ns.length ≤ 63 ∧ (∀ H', Q (.bl true) H') ∧ ∀ p ∈ tb, H p = some (.tbl #[])
/-- the slots at the law's second statement -/
def lawτ (n : Nat) : List Slot := .none :: .fz .pen :: List.replicate (n - 2) .none
/-- what is asked of the interpreter -/
def LawRuns (d : PD LP) (n m : Nat) (cs : CSs) : Prop := ∀ cells : List Int, cells.length ≤ 63 → ∃ τ s, exs d.pt (callN d.prg n) (mkN d.prg n) cs (lawτ m) ⟨cells, 0, 0⟩ = .ok (.ret (.bl true)) τ s
theorem law_rg {d : PD LP} {fa pa : Addr} {cs : CSs} {n : Nat} (hd : pdC K d = true) (hext : ∀ f g, d.fns.getD f .none ≠ .ext g) (h : lawC K d fa pa N cs = true) {hp : Heap} (hK : K.In hp) (hG : hp.Ns mainGlobals mg) (run : LawRuns d n N.length cs) (htb : ∀ t ∈ d.tabs, t.1 ∈ d.lcs.map (·.2.2)) (hTB : TabsB d base mg) :
    FnRg P w K mg base (CX P w) (9 * n + 9) fa (spLaw K (d.lcs.map (·.2.2))) := by
  unfold lawC at h
  split at h
  · rename_i oc od fd osl lk
    split at h
    · rename_i body hb
      split at h
      · rename_i p hpp
        have eb := lawPat_of hpp
        subst eb
        obtain ⟨pn, fn, sx, px, p1, p2, p3, p4, rest⟩ := p
        simp only [Bool.and_eq_true, decide_eq_true_eq, ownFnC, List.isEmpty_iff] at h
        obtain ⟨⟨⟨⟨⟨⟨⟨⟨⟨⟨⟨⟨⟨⟨⟨⟨⟨⟨⟨h1, h2⟩, h3⟩, h4⟩, h5⟩, h6⟩, h7⟩, n0⟩, n1⟩, hN⟩, hloc⟩, hvis⟩, ho⟩, ho2⟩, hgl⟩, hns⟩, hkp⟩, hpen⟩, hlst⟩, hchk⟩ := h
        obtain ⟨name, qual, params, body', scope, globals, closure, dV, kV, doc, pm, an, cdv, ct, bl⟩ := fd
        simp only at hb h1 h2 h3 h4 h5 h6 hloc hvis hgl hchk
        subst hb h1 h2 h3
        have Sc := scC_ok h5
        simp only [plainC, Bool.and_eq_true, decide_eq_true_eq, List.isEmpty_iff, Option.isNone_iff_eq_none] at h6
        obtain ⟨⟨⟨⟨⟨⟨g1, g2⟩, g3⟩, g4⟩, g5⟩, g6⟩, g7⟩ := h6
        have hmp : mg fn = some (.ref pa) := mg_of hK hG (beq_iff_eq.mp hns)
        have hml : mg "list" = none := mg_none_of hK hG (beq_iff_eq.mp hlst)
        intro A outer sh H us vs Q E hr hgd e0 rv hsp ar har
        obtain ⟨a, ns, rfl, hS, hlen, hq, htl⟩ := hsp
        refine run_pl (k := 9 * n + 8) lk h4 Sc ⟨g1, g2, g3, g4, g5, g6, g7⟩ hr e0 rv har (by rw [← rv.length]; rfl) fun s2 hr' => ?_
        have bodyP : ∀ i : Addr × Addr × List Int, PSs (cxOf (CX P w) P w K mg base N qual scope fa cdv A outer s2 H E) rest (tDSs (d.Z K i.1 (lpn i.2.1 i.2.2) n) ⟨fun _ => none, 0⟩ (fun c d _ H' => E c d H') cs) := fun i => by
          have ok : PdOk K d i.1 := pdC_ok hd
          have mo := mgOk_of ok.tab hK hG
          have D := deep_all (P := P) (w := w) (base := base) (pn := lpn i.2.1 i.2.2) hTB (fun n => lp_ok rfl) ok mo (fun f g e => absurd e (hext f g)) n
          exact body_ok (b := ⟨0, false, [], 0, cs⟩) (f := 0) (lp_ok rfl) ok mo D Sc hTB hchk A outer s2 H E _ hr' hgd
        have vis : Vis scope sx := by
          simp only [isVis, Bool.or_eq_true, decide_eq_true_eq] at hvis
          rcases hvis with (z | z) | z
          · exact .inl z
          · exact .inr (.inl z)
          · exact .inr (.inr z)
        have hl1 : N[1]? = some pn := n1
        have loc : L2.Loc scope pn := by
          simp only [isLoc, Bool.or_eq_true, decide_eq_true_eq, Bool.and_eq_true] at hloc
          rcases hloc with z | z
          · exact .inl z
          · exact .inr z.1
        have hgl2 : Gl (cxOf (CX P w) P w K mg base N qual scope fa cdv A outer s2 H E) fn := by
          have z0 : decide (scope.names.lookup fn = some .globalImplicit) = true := hgl
          have z : scope.names.lookup fn = some .globalImplicit := of_decide_eq_true z0
          exact z
        refine ⟨_, pss_cons (ps_asg (pe_callRg (W := fun c d _ H' => E c d H') (k := 1) (pen_rg hpen hml) (hr'.mono (by omega)) hgd hkp (takes_of rfl rfl rfl rfl) hgl2 hmp (pa_cons (pe_var n0 vis (okNm_of ho).1 (okNm_of ho).2) pa_nil rfl) (okNm_of ho2).1 rfl rfl) (pg_name (i := 1) Sc.nd n1 loc (.inl rfl)) rfl rfl rfl) (PSs.any bodyP), ?_⟩
        have s0 : (L2.start N [V.ref a])[0]? = some (some (.ref a)) := by
          unfold L2.start; rfl
        refine ⟨.ref a, s0, a, ns, rfl, hS, hlen, fun b1 b2 b3 H' f1 f2 f3 d12 d13 d23 eH => ?_⟩
        subst eH
        obtain ⟨τ', s', er⟩ := run ns hlen
        refine ⟨(b3, b2, ns), fun x => if x = b2 then some (.lst (ns.map V.int)) else none, lawτ N.length, ⟨ns, 0, 0⟩, ?_, ?_⟩
        · have hlenS : (L2.start N [V.ref a]).length = N.length := start_len (by simp; omega)
          refine ⟨fun x o e => ?_, upd_same, if_neg (Ne.symm d23), ⟨rfl, if_pos rfl⟩, fun x o e => (by cases e), ?_, fun i x e => ?_, fun i j x y b _ e1 _ o1 _ _ _ => ?_, fun t ht => ?_, fun _ _ => rfl⟩
          · by_cases z : x = b2
            · subst z
              rw [if_pos rfl] at e; cases e
              rw [upd_ne d23, upd_same]
            · rw [if_neg z] at e; cases e
          · rw [List.length_set, hlenS]
            simp [lawτ]; omega
          · match i with
            | 0 => cases e; trivial
            | 1 =>
              cases e
              refine ⟨.ref b3, ?_, rfl⟩
              rw [List.getD_eq_getElem?_getD, List.getElem?_set_self (by rw [hlenS]; omega)]; rfl
            | i + 2 =>
              have e' : (List.replicate (N.length - 2) Slot.none)[i]? = some x := e
              rw [List.getElem?_replicate] at e'
              split at e' <;> cases e'
              trivial
          · exfalso
            match i with
            | 0 => cases e1; cases o1
            | 1 => cases e1; cases o1
            | i + 2 =>
              have e' : (List.replicate (N.length - 2) Slot.none)[i]? = some x := e1
              rw [List.getElem?_replicate] at e'
              split at e' <;> cases e'
              cases o1
          · have hP := htl t.1 (htb t ht)
            have n1 : t.1 ≠ b1 := fun z => by rw [z, f1] at hP; cases hP
            have n2 : t.1 ≠ b2 := fun z => by rw [z, f2] at hP; cases hP
            have n3 : t.1 ≠ b3 := fun z => by rw [z, f3] at hP; cases hP
            exact ⟨n3, if_neg n2, #[], by rw [upd_ne n3, upd_ne n2, upd_ne n1]; exact hP, trivial, fun pos cv hc => by
              have z : codeAmong pos [] = some cv := hc
              simp [codeAmong] at z⟩
        · have er' : exs (d.Z K b3 (lpn b2 ns) n).P (d.Z K b3 (lpn b2 ns) n).call (d.Z K b3 (lpn b2 ns) n).make cs (lawτ N.length) ⟨ns, 0, 0⟩ = .ok (.ret (.bl true)) τ' s' := er
          rw [er']
          intro v σ' H' F' _ _ r
          cases r
          exact hq H'
      · cases h
    · cases h
  · cases h
end
end Rz
namespace Rz
open PySem PySem.Spec PySem.W PyProof.Rows L2
def noExt {S : Type} : List (FnD S) → Bool
  | [] => true
  | .ext _ :: _ => false
  | _ :: r => noExt r
theorem noExt_ok {S : Type} : ∀ {l : List (FnD S)}, noExt l = true → ∀ f g, l.getD f .none ≠ .ext g
  | [], _, f, g, e => by cases f <;> cases e
  | .ext _ :: _, h, _, _, _ => by cases h
  | .code b :: r, h, 0, g, e => by cases e
  | .none :: r, h, 0, g, e => by cases e
  | .lamb b :: r, h, 0, g, e => by cases e
  | .lamb b :: r, h, f + 1, g, e => noExt_ok (l := r) h f g (by simpa using e)
  | .code b :: r, h, f + 1, g, e => noExt_ok (l := r) h f g (by simpa using e)
  | .none :: r, h, f + 1, g, e => noExt_ok (l := r) h f g (by simpa using e)
end Rz
end

section
set_option autoImplicit false
set_option Elab.async false
set_option linter.all false
set_option maxHeartbeats 1000000
set_option maxRecDepth 100000
/-! The pen that is a bag: a dict of cells, place, rest, state. -/
namespace Rz
open PySem PySem.Spec PySem.W PyProof.Rows L2
structure BP where
  cells : List Int
  at_ : Int
  rest : Int
  st : Int
def BP.get (k : D) (s : BP) : Option D :=
  match k with
  | .str z => if z = ("cells" : Str) then some (.lst (s.cells.map .int)) else if z = ("at" : Str) then some (.int s.at_) else if z = ("rest" : Str) then some (.int s.rest) else if z = ("state" : Str) then some (.int s.st) else none
  | _ => none
def BP.put (k d : D) (s : BP) : Option BP :=
  match k with
  | .str z => match d with
    | .int v => if z = ("at" : Str) then some { s with at_ := v } else if z = ("rest" : Str) then some { s with rest := v } else if z = ("state" : Str) then some { s with st := v } else none
    | _ => none
  | _ => none
def BP.same (a b : BP) : Bool := decide (a.cells = b.cells) && decide (a.at_ = b.at_) && decide (a.rest = b.rest) && decide (a.st = b.st)
instance : Pen BP := ⟨BP.get, BP.put, BP.same, fun {a b} h => by
  simp only [BP.same, Bool.and_eq_true, decide_eq_true_eq] at h
  obtain ⟨⟨⟨h1, h2⟩, h3⟩, h4⟩ := h
  cases a; cases b; simp_all⟩
theorem BP.same_self (a : BP) : Pen.same a a = true := by
  show BP.same a a = true
  simp [BP.same]
def bpn (a0 : Addr) (c0 : List Int) : Pn BP where
  obj s := .dK [(.inr "cells", .ref a0), (.inr "at", .int s.at_), (.inr "rest", .int s.rest), (.inr "state", .int s.st)]
  inv F s := s.cells = c0 ∧ F a0 = some (.lst (c0.map V.int))
  mono F F' s e h := ⟨h.1, e _ _ h.2⟩
  mid F F' F'' s s' e h k := ⟨k.1, e _ _ h.2⟩
theorem bp_ok {Z : Cz BP} {a0 : Addr} {c0 : List Int} (hp : Z.pn = bpn a0 c0) : PenOk Z where
  ix {X G W e ce c k n p pos} hu hk he := by
    cases c <;> cases k <;> simp only [keyC] at hk <;> first | (cases hk; done) | skip
    · refine (pe_ix ix_list he pe_int (plainIx_of rfl)).imp fun σ H Q => ?_
      rintro ⟨F, τ, s, q, h⟩
      simp only [ev] at h
      refine ⟨F, τ, s, q, h.bind fun x v τ1 s1 F1 H1 e1 q1 r1 h1 => ?_⟩
      cases x <;> first | exact h1.elim | (obtain ⟨d, ed, _⟩ := h1.of; cases ed)
    · rename_i i j
      have ei : i = j := of_decide_eq_true hk
      subst ei
      refine (pe_dget (by omega) he pe_str (fun _ _ => rfl)).imp fun σ H Q => ?_
      rintro ⟨F, τ, s, q, h⟩
      simp only [ev] at h
      refine ⟨F, τ, s, q, h.bind fun x v τ1 s1 F1 H1 e1 q1 r1 h1 => ?_⟩
      cases x with
      | pen =>
        cases r1
        simp only at h1
        obtain ⟨d, ed, h1⟩ := h1.of
        have hpen := q1.pen
        have hinv := q1.pinv
        rw [hp] at hpen hinv
        obtain ⟨hc, hF⟩ := hinv
        have ed' : BP.get (.str i) s1 = some d := ed
        simp only [BP.get] at ed'
        have go := fun (v : V) (e : valV [((.inr "cells" : Key), V.ref a0), (.inr "at", .int s1.at_), (.inr "rest", .int s1.rest), (.inr "state", .int s1.st)] (.inr i) = some v) => (by rw [← e]; exact DGet.k hpen : DGet H1 Z.T.pen (kV (.inr i)) (some v))
        split at ed'
        · rename_i z; subst z; cases ed'
          exact ⟨_, _, rfl, go (.ref a0) rfl, h1.ok q1 ⟨a0, _, rfl, hF, by rw [hc]; exact repL_ints c0⟩⟩
        · split at ed'
          · rename_i z; subst z; cases ed'
            exact ⟨_, _, rfl, go (.int s1.at_) rfl, h1.ok q1 rfl⟩
          · split at ed'
            · rename_i z; subst z; cases ed'
              exact ⟨_, _, rfl, go (.int s1.rest) rfl, h1.ok q1 rfl⟩
            · split at ed'
              · rename_i z; subst z; cases ed'
                exact ⟨_, _, rfl, go (.int s1.st) rfl, h1.ok q1 rfl⟩
              · cases ed'
      | _ => exact h1.elim
  put {X G W x i e ce c k n px p p2 pos} hu hk hv he hs hw := by
    cases c <;> cases k <;> simp only [keyC] at hk <;> first | (cases hk; done) | skip
    · refine (ps_asg he (pg_sub hv pe_int set_list) hs hw rfl).imp fun E σ H => ?_
      rintro ⟨F, τ, s, q, h⟩
      simp only [ex] at h
      refine ⟨F, τ, s, q, h.bind fun d v τ1 s1 F1 H1 e1 q1 r1 h1 => ?_⟩
      exfalso
      cases hi : τ1[i]? with
      | none => rw [hi] at h1; exact h1
      | some sl =>
        rw [hi] at h1
        cases sl with
        | fz x => cases x <;> exact h1
        | _ => exact h1
    · rename_i a b
      have ei : a = b := of_decide_eq_true hk
      subst ei
      refine (ps_dput (by omega) hv pe_str he hs).imp fun E σ H => ?_
      rintro ⟨F, τ, s, q, h⟩
      simp only [ex] at h
      refine ⟨F, τ, s, q, h.bind fun d v τ1 s1 F1 H1 e1 q1 r1 h1 => ?_⟩
      cases hi : τ1[i]? with
      | none => rw [hi] at h1; exact h1.elim
      | some sl =>
        rw [hi] at h1
        cases sl with
        | fz x =>
          cases x with
          | pen =>
            simp only at h1
            obtain ⟨v', ev', rv⟩ := q1.sl i _ hi
            cases rv
            refine ⟨_, getD_of ev', ?_⟩
            have hpen := q1.pen
            have hinv := q1.pinv
            rw [hp] at hpen hinv
            cases eq : Pen.put (.str a) d s1 with
            | none => rw [eq] at h1; exact h1.elim
            | some s2 =>
              rw [eq] at h1
              have eq' : BP.put (.str a) d s1 = some s2 := eq
              cases d <;> simp only [BP.put] at eq' <;> first | (cases eq'; done) | skip
              cases r1
              have fin := fun (hh : Z.pn.inv F1 s2) => h1 σ _ F1 (Sub.refl _) (q1.penPut hh)
              rw [hp] at fin
              split at eq'
              · rename_i z; subst z; cases eq'
                exact ⟨_, _, rfl, DPut.k (k := .inr "at") hpen (by rw [sizeLine_eq]; show 4 < _; decide), fin hinv⟩
              · split at eq'
                · rename_i z; subst z; cases eq'
                  exact ⟨_, _, rfl, DPut.k (k := .inr "rest") hpen (by rw [sizeLine_eq]; show 4 < _; decide), fin hinv⟩
                · split at eq'
                  · rename_i z; subst z; cases eq'
                    exact ⟨_, _, rfl, DPut.k (k := .inr "state") hpen (by rw [sizeLine_eq]; show 4 < _; decide), fin hinv⟩
                  · cases eq'
          | _ => exact h1.elim
        | _ => exact h1.elim
section
variable {P : Program} {w : World} {K : PySem.W.Frag} {mg : Str → Option Value} {base : Heap} {k : Nat} {f : Addr} {name qual : Str} {params : Arguments} {body : List Stmt} {scope : Scope} {dV kV doc pm cdv ct oc : Value} {an od : Option Addr}
  {osl : Array (Option Value)} {N ps : List Str}
/-- `_law_bag`: what it makes of the script -/
def spBag (K : PySem.W.Frag) : Sp := fun vs H Q _ => ∃ (a : Addr) (ns : List Int), vs = [.ref a] ∧ SqL K H a (ns.map V.int) ∧ ns.length ≤ 63 ∧
  ∀ (c p : Addr) (st : Int) (H' : Hp), 0 ≤ st → st < 2147483648 → H' p = some (.dK [(.inr "cells", .ref c), (.inr "at", .int 0), (.inr "rest", .int 0), (.inr "state", .int st)]) → H' c = some (.lst (ns.map V.int)) → c ≠ p → (∀ b o, H b = some o → H' b = some o) → Q (.ref p) H'
structure BagPat where
  s : Str
  c : Str
  x : Str
  k0 : Int
  k1 : Int
  k2 : Int
  m1 : Int
  m2 : Int
  w : List Str
  n : List Int
  ws : List Str
def bagPat : List Stmt → Option BagPat
  | [.Assign [.Name s1 _] (.Constant (.int k0) _ _) _,
     .For (.Name c1 _) (.Subscript (.Name x1 _) (.Slice none (some (.Constant (.int n1) _ _)) none _) _)
       [.Assign [.Name s2 _] (.BinOp (.Call (.Name i1 _) [.BinOp (.BinOp (.BinOp (.Name s3 _) .Mult (.Constant (.int k1) _ _) _) .Add (.BinOp (.Call (.Name a1 _) [.Name c2 _] [] _) .Mod (.Constant (.int m1) _ _) _) _) .Add (.Constant (.int k2) _ _) _] [] _) .Mod (.Constant (.int m2) _ _) _) _] [] _,
     .Return (some (.Dict [some (.Constant (.str w1) _ _), some (.Constant (.str w2) _ _), some (.Constant (.str w3) _ _), some (.Constant (.str w4) _ _)]
       [.Call (.Name l1 _) [.Subscript (.Name x2 _) (.Slice none (some (.Constant (.int n2) _ _)) none _) _] [] _, .Constant (.int n3) _ _, .Constant (.int n4) _ _, .Name s4 _] _)) _] =>
    some ⟨s1, c1, x1, k0, k1, k2, m1, m2, [w1, w2, w3, w4], [n1, n2, n3, n4], [s2, s3, s4, c2, x2, i1, a1, l1]⟩
  | _ => none

def bagC (K : Frag) (a : Addr) : Bool :=
  match K.lookup a with
  | some ⟨_, _, .func fd, _⟩ => match fd.body with
    | .stmts body => match bagPat body with
      | some p => ownFnC K fd [p.x, p.s, p.c] [p.x] && decide (p.w = [("cells" : Str), "at", "rest", "state"]) && decide (p.n = [63, 63, 0, 0]) && decide (p.ws = [p.s, p.s, p.s, p.c, p.x, ("int" : Str), "abs", "list"]) &&
          decide (0 ≤ p.k0) && decide (p.k0 < 2147483648) && decide (-(2 ^ 64) < p.k1) && decide (p.k1 < 2 ^ 64) && decide (0 < p.m1) && decide (0 < p.m2) && decide (p.m2 < 2147483648) &&
          decide (fd.scope.names.lookup ("list" : Str) = some .globalImplicit) && decide (fd.scope.names.lookup ("int" : Str) = some .globalImplicit) && decide (fd.scope.names.lookup ("abs" : Str) = some .globalImplicit) && visC fd.scope p.x && visC fd.scope p.s && visC fd.scope p.c && okNm p.x && okNm p.s && okNm p.c &&
          decide (fd.scope.names.lookup p.s = some .local) && decide (fd.scope.names.lookup p.c = some .local) &&
          (nsIn K mainGlobals ("list" : Str) == some none) && (nsIn K mainGlobals ("int" : Str) == some none) && (nsIn K mainGlobals ("abs" : Str) == some none)
      | none => false
    | _ => false
  | _ => false
theorem pe_pv {X : Cx} {i : Nat} {x : Str} {pos : Pos} (e : X.N[i]? = some x) (v : visC X.env.scope x = true) (o : okNm x = true) : PE X (.Name x pos) (tVar i) := pe_var e (by
  simp only [visC, Bool.or_eq_true, decide_eq_true_eq] at v
  rcases v with z | z
  · exact .inl z
  · exact .inr (.inl z)) (okNm_of o).1 (okNm_of o).2
theorem bag_rg (h : bagC K f = true) {hp : Heap} (hK : K.In hp) (hG : hp.Ns mainGlobals mg) : FnRg P w K mg base (CX P w) 1 f (spBag K) := by
  unfold bagC at h
  split at h
  · rename_i oc od fd osl lk
    split at h
    · rename_i body hb
      split at h
      · rename_i p hp'
        unfold bagPat at hp'
        split at hp'
        · cases hp'
          simp only [Bool.and_eq_true, decide_eq_true_eq, ownFnC, List.isEmpty_iff, List.cons.injEq, and_true, true_and] at h
          obtain ⟨⟨⟨⟨⟨⟨⟨⟨⟨⟨⟨⟨⟨⟨⟨⟨⟨⟨⟨⟨⟨⟨⟨⟨h0, hw⟩, hn⟩, hs⟩, k0a⟩, k0b⟩, k1a⟩, k1b⟩, m1a⟩, m2a⟩, m2b⟩, gl⟩, gi⟩, ga⟩, vx⟩, vs⟩, vc⟩, ox⟩, os⟩, oc'⟩, ls⟩, lc⟩, nl⟩, ni⟩, na⟩ := h
          obtain ⟨⟨⟨⟨⟨⟨h1, h2⟩, h3⟩, h4⟩, h5⟩, h6⟩, h7⟩ := h0
          obtain ⟨rfl, rfl, rfl, rfl⟩ := hw
          obtain ⟨rfl, rfl, rfl, rfl⟩ := hn
          obtain ⟨rfl, rfl, rfl, rfl, rfl, rfl, rfl, rfl⟩ := hs
          obtain ⟨name, qual, params, body', scope, globals, closure, dV, kV, doc, pm, an, cdv, ct, bl⟩ := fd
          simp only at hb h1 h2 h3 h4 h5 h6 gl gi ga vx vs vc ls lc
          subst hb h1 h2 h3
          have Sc := scC_ok h5
          simp only [plainC, Bool.and_eq_true, decide_eq_true_eq, List.isEmpty_iff, Option.isNone_iff_eq_none] at h6
          obtain ⟨⟨⟨⟨⟨⟨g1, g2⟩, g3⟩, g4⟩, g5⟩, g6⟩, g7⟩ := h6
          have ml : mg "list" = none := mg_none_of hK hG (beq_iff_eq.mp nl)
          have mi : mg "int" = none := mg_none_of hK hG (beq_iff_eq.mp ni)
          have ma : mg "abs" = none := mg_none_of hK hG (beq_iff_eq.mp na)
          intro A outer sh H us vs' Q E hr hgd e0 rv hsp ar har
          obtain ⟨a, ns, rfl, hS, hlen, hq⟩ := hsp
          refine run_pl (k := 0) lk h4 Sc ⟨g1, g2, g3, g4, g5, g6, g7⟩ hr e0 rv har (by rw [← rv.length]; rfl) fun s2 hr' => ?_
          refine ⟨_, pss_cons (ps_asg pe_int (pg_name (i := 1) Sc.nd rfl (.inl ls) (.inr ls)) rfl rfl rfl)
            (pss_cons (ps_for (passes_of rfl) rfl (pi_list (pe_slice sl_list (pe_pv (i := 0) rfl vx ox) po_none (po_some pe_int))) (pg_name (i := 2) Sc.nd rfl (.inl lc) (.inr lc))
              (pss_one (ps_asg (pe_op op_mod (pe_callTy call_int1 gi mi (by decide +kernel) (pa_cons (pe_op op_add (pe_op op_add (pe_op op_mul (pe_pv (i := 1) rfl vs os) pe_int) (pe_op op_mod (pe_callB call_abs ga ma (by decide +kernel) (pa_cons (pe_pv (i := 2) rfl vc oc') pa_nil)) pe_int)) pe_int) pa_nil)) pe_int) (pg_name (i := 1) Sc.nd rfl (.inl ls) (.inr ls)) rfl rfl rfl)))
            (pss_one (ps_ret (pe_disp (pps_cons pe_str (pe_callTy call_list_of gl ml Bi.list.boot (pa_cons (pe_slice sl_list (pe_pv (i := 0) rfl vx ox) po_none (po_some pe_int)) pa_nil)) (pps_cons pe_str pe_int (pps_cons pe_str pe_int (pps_cons pe_str (pe_pv (i := 1) rfl vs os) pps_nil)))) rfl rfl (by intro z; cases z) (by show 4 ≤ 15; decide))))), ?_⟩
          have hS1 : ∀ {H' : Hp}, (∀ b o, H b = some o → H' b = some o) → SqL K H' a (ns.map V.int) := fun {H'} k => by
            rcases hS with (z | ⟨o, z⟩) | z
            · exact .inl (.inl (k _ _ z))
            · exact .inl (.inr ⟨o, k _ _ z⟩)
            · exact .inr z
          have cut : cutV (ns.map V.int) none (some 63) = ns.map V.int := cut63 (by simpa using hlen)
          refine ⟨.ref a, rfl, 63, rfl, a, ns.map V.int, rfl, hS, fun n1 hn1 => ?_⟩
          rw [cut]
          refine ⟨n1, rfl, ⟨_, SqL.of upd_same⟩, ?_⟩
          have k1 : ∀ b o, H b = some o → upd H n1 (.lst (ns.map V.int)) b = some o := fun b o e => by rw [upd_ne (ne_of_none e hn1)]; exact e
          refine for_list (xs := ns.map V.int) (fun i σ H2 => H2 = upd H n1 (.lst (ns.map V.int)) ∧ ∃ st x, 0 ≤ st ∧ st < 2147483648 ∧ σ = [some (.ref a), some (.int st), x]) ⟨rfl, _, _, k0a, k0b, rfl⟩ (fun i σ H2 _ ⟨e, _⟩ => by subst e; exact SqL.of upd_same) ?_ ?_
          · rintro i x σ H2 hx ⟨rfl, st, y, st0, st1, rfl⟩
            rw [List.getElem?_map] at hx
            obtain ⟨n, hn, rfl⟩ := Option.map_eq_some_iff.mp hx
            refine ⟨.int st, rfl, _, _, rfl, rfl, .inr ⟨k1a, k1b⟩, .int n, rfl, n, rfl, _, _, rfl, rfl, m1a, _, _, rfl, rfl, _, _, rfl, rfl, .inl ⟨_, rfl, _, _, rfl, rfl, m2a, ?_⟩⟩
            exact ⟨rfl, _, _, Int.emod_nonneg _ (by omega), Int.lt_trans (Int.emod_lt_of_pos _ m2a) m2b, rfl⟩
          · rintro σ H2 ⟨rfl, st, y, st0, st1, rfl⟩
            intro p hp
            have k2 : ∀ b o, H b = some o → upd (upd H n1 (.lst (ns.map V.int))) p (.dK []) b = some o := fun b o e => by rw [upd_ne (ne_of_none (k1 b o e) hp)]; exact k1 b o e
            refine ⟨.ref a, rfl, 63, rfl, a, ns.map V.int, rfl, hS1 k2, fun n2 hn2 => ?_⟩
            rw [cut]
            refine ⟨n2, _, rfl, .inl (SqL.of upd_same), fun l hl => ?_⟩
            have n2p : p ≠ n2 := fun z => by rw [← z, upd_same] at hn2; cases hn2
            have lp : p ≠ l := fun z => by
              rw [← z, upd_ne n2p, upd_same] at hl; cases hl
            refine ⟨.int st, rfl, ?_, [(.inr "cells", .ref l), (.inr "at", .int 0), (.inr "rest", .int 0), (.inr "state", .int st)], rfl, (by show 4 ≤ 15; decide), ?_⟩
            · rw [upd_ne lp, upd_ne n2p, upd_same]
            · refine hq l p st _ st0 st1 upd_same (by rw [upd_ne (Ne.symm lp), upd_same]) (Ne.symm lp) fun b o e => ?_
              have k3 := k2 b o e
              have k4 : upd (upd (upd H n1 (.lst (ns.map V.int))) p (.dK [])) n2 (.lst (ns.map V.int)) b = some o := by rw [upd_ne (ne_of_none k3 hn2)]; exact k3
              rw [upd_ne (ne_of_none (k1 b o e) hp), upd_ne (ne_of_none k4 hl)]
              exact k4
        · cases hp'
      · cases h
    · cases h
  · cases h
/-- the check of the law's def: pa the address of `_law_bag` -/
def lawCB (K : Frag) {S : Type} (d : PD S) (fa pa : Addr) (N : List Str) (cs : CSs) : Bool :=
  match K.lookup fa with
  | some ⟨_, _, .func fd, _⟩ => match fd.body with
    | .stmts body => match lawPat body with
      | some p => ownFnC K fd N [p.sx] && decide (N[0]? = some p.sx) && decide (N[1]? = some p.pn) && decide (2 ≤ N.length) && isLoc (staC d N fd.scope fd.code fd.qualname false) p.pn && isVis (staC d N fd.scope fd.code fd.qualname false) p.sx && okNm p.sx && okNm p.fn && isGl (staC d N fd.scope fd.code fd.qualname false) p.fn &&
          (nsIn K mainGlobals p.fn == some (some (.ref pa))) && keepIn K (.ref pa) && bagC K pa && (nsIn K mainGlobals ("list" : Str) == some none) && chkSs d.tab fuel (staC d N fd.scope fd.code fd.qualname false) p.rest cs
      | none => false
    | _ => false
  | _ => false
/-- what is asked of the interpreter -/
def LawRunsB (d : PD BP) (n m : Nat) (cs : CSs) : Prop := ∀ (cells : List Int) (st : Int), cells.length ≤ 63 → 0 ≤ st → st < 2147483648 → ∃ τ s, exs d.pt (callN d.prg n) (mkN d.prg n) cs (lawτ m) ⟨cells, 0, 0, st⟩ = .ok (.ret (.bl true)) τ s
theorem law_rgB {d : PD BP} {fa pa : Addr} {cs : CSs} {n : Nat} (hd : pdC K d = true) (hext : ∀ f g, d.fns.getD f .none ≠ .ext g) (h : lawCB K d fa pa N cs = true) {hp : Heap} (hK : K.In hp) (hG : hp.Ns mainGlobals mg) (run : LawRunsB d n N.length cs) (htb : ∀ t ∈ d.tabs, t.1 ∈ d.lcs.map (·.2.2)) (hTB : TabsB d base mg) :
    FnRg P w K mg base (CX P w) (9 * n + 9) fa (spLaw K (d.lcs.map (·.2.2))) := by
  unfold lawCB at h
  split at h
  · rename_i oc od fd osl lk
    split at h
    · rename_i body hb
      split at h
      · rename_i p hpp
        have eb := lawPat_of hpp
        subst eb
        obtain ⟨pn, fn, sx, px, p1, p2, p3, p4, rest⟩ := p
        simp only [Bool.and_eq_true, decide_eq_true_eq, ownFnC, List.isEmpty_iff] at h
        obtain ⟨⟨⟨⟨⟨⟨⟨⟨⟨⟨⟨⟨⟨⟨⟨⟨⟨⟨⟨h1, h2⟩, h3⟩, h4⟩, h5⟩, h6⟩, h7⟩, n0⟩, n1⟩, hN⟩, hloc⟩, hvis⟩, ho⟩, ho2⟩, hgl⟩, hns⟩, hkp⟩, hpen⟩, hlst⟩, hchk⟩ := h
        obtain ⟨name, qual, params, body', scope, globals, closure, dV, kV, doc, pm, an, cdv, ct, bl⟩ := fd
        simp only at hb h1 h2 h3 h4 h5 h6 hloc hvis hgl hchk
        subst hb h1 h2 h3
        have Sc := scC_ok h5
        simp only [plainC, Bool.and_eq_true, decide_eq_true_eq, List.isEmpty_iff, Option.isNone_iff_eq_none] at h6
        obtain ⟨⟨⟨⟨⟨⟨g1, g2⟩, g3⟩, g4⟩, g5⟩, g6⟩, g7⟩ := h6
        have hmp : mg fn = some (.ref pa) := mg_of hK hG (beq_iff_eq.mp hns)
        have hml : mg "list" = none := mg_none_of hK hG (beq_iff_eq.mp hlst)
        intro A outer sh H us vs Q E hr hgd e0 rv hsp ar har
        obtain ⟨a, ns, rfl, hS, hlen, hq, htl⟩ := hsp
        refine run_pl (k := 9 * n + 8) lk h4 Sc ⟨g1, g2, g3, g4, g5, g6, g7⟩ hr e0 rv har (by rw [← rv.length]; rfl) fun s2 hr' => ?_
        have bodyP : ∀ i : Addr × Addr × List Int, PSs (cxOf (CX P w) P w K mg base N qual scope fa cdv A outer s2 H E) rest (tDSs (d.Z K i.1 (bpn i.2.1 i.2.2) n) ⟨fun _ => none, 0⟩ (fun c d _ H' => E c d H') cs) := fun i => by
          have ok : PdOk K d i.1 := pdC_ok hd
          have mo := mgOk_of ok.tab hK hG
          have D := deep_all (P := P) (w := w) (base := base) (pn := bpn i.2.1 i.2.2) hTB (fun n => bp_ok rfl) ok mo (fun f g e => absurd e (hext f g)) n
          exact body_ok (b := ⟨0, false, [], 0, cs⟩) (f := 0) (bp_ok rfl) ok mo D Sc hTB hchk A outer s2 H E _ hr' hgd
        have vis : Vis scope sx := by
          simp only [isVis, Bool.or_eq_true, decide_eq_true_eq] at hvis
          rcases hvis with (z | z) | z
          · exact .inl z
          · exact .inr (.inl z)
          · exact .inr (.inr z)
        have hl1 : N[1]? = some pn := n1
        have loc : L2.Loc scope pn := by
          simp only [isLoc, Bool.or_eq_true, decide_eq_true_eq, Bool.and_eq_true] at hloc
          rcases hloc with z | z
          · exact .inl z
          · exact .inr z.1
        have hgl2 : Gl (cxOf (CX P w) P w K mg base N qual scope fa cdv A outer s2 H E) fn := by
          have z0 : decide (scope.names.lookup fn = some .globalImplicit) = true := hgl
          have z : scope.names.lookup fn = some .globalImplicit := of_decide_eq_true z0
          exact z
        refine ⟨_, pss_cons (ps_asg (pe_callRg (W := fun c d _ H' => E c d H') (k := 1) (bag_rg hpen hK hG) (hr'.mono (by omega)) hgd hkp (takes_of rfl rfl rfl rfl) hgl2 hmp (pa_cons (pe_var n0 vis (okNm_of ho).1 (okNm_of ho).2) pa_nil rfl) (okNm_of ho2).1 rfl rfl) (pg_name (i := 1) Sc.nd n1 loc (.inl rfl)) rfl rfl rfl) (PSs.any bodyP), ?_⟩
        have s0 : (L2.start N [V.ref a])[0]? = some (some (.ref a)) := by
          unfold L2.start; rfl
        refine ⟨.ref a, s0, a, ns, rfl, hS, hlen, fun b2 b3 st H' st0 st1 e3 e2 d23 kH => ?_⟩
        obtain ⟨τ', s', er⟩ := run ns st hlen st0 st1
        refine ⟨(b3, b2, ns), fun x => if x = b2 then some (.lst (ns.map V.int)) else none, lawτ N.length, ⟨ns, 0, 0, st⟩, ?_, ?_⟩
        · have hlenS : (L2.start N [V.ref a]).length = N.length := start_len (by simp; omega)
          refine ⟨fun x o e => ?_, e3, if_neg (Ne.symm d23), ⟨rfl, if_pos rfl⟩, fun x o e => (by cases e), ?_, fun i x e => ?_, fun i j x y b _ e1 _ o1 _ _ _ => ?_, fun t ht => ?_, fun _ _ => rfl⟩
          · by_cases z : x = b2
            · subst z
              rw [if_pos rfl] at e; cases e
              exact e2
            · rw [if_neg z] at e; cases e
          · rw [List.length_set, hlenS]
            simp [lawτ]; omega
          · match i with
            | 0 => cases e; trivial
            | 1 =>
              cases e
              refine ⟨.ref b3, ?_, rfl⟩
              rw [List.getD_eq_getElem?_getD, List.getElem?_set_self (by rw [hlenS]; omega)]; rfl
            | i + 2 =>
              have e' : (List.replicate (N.length - 2) Slot.none)[i]? = some x := e
              rw [List.getElem?_replicate] at e'
              split at e' <;> cases e'
              trivial
          · exfalso
            match i with
            | 0 => cases e1; cases o1
            | 1 => cases e1; cases o1
            | i + 2 =>
              have e' : (List.replicate (N.length - 2) Slot.none)[i]? = some x := e1
              rw [List.getElem?_replicate] at e'
              split at e' <;> cases e'
              cases o1
          · have hP := kH _ _ (htl t.1 (htb t ht))
            have n2 : t.1 ≠ b2 := fun z => by rw [z, e2] at hP; cases hP
            have n3 : t.1 ≠ b3 := fun z => by rw [z, e3] at hP; cases hP
            exact ⟨n3, if_neg n2, #[], hP, trivial, fun pos cv hc => by
              have z : codeAmong pos [] = some cv := hc
              simp [codeAmong] at z⟩
        · have er' : exs (d.Z K b3 (bpn b2 ns) n).P (d.Z K b3 (bpn b2 ns) n).call (d.Z K b3 (bpn b2 ns) n).make cs (lawτ N.length) ⟨ns, 0, 0, st⟩ = .ok (.ret (.bl true)) τ' s' := er
          rw [er']
          intro v σ' H' F' _ _ r
          cases r
          exact hq H'
      · cases h
    · cases h
  · cases h
end
end Rz
end

section
set_option autoImplicit false
set_option Elab.async false
set_option linter.all false
set_option maxHeartbeats 1000000
set_option maxRecDepth 100000
/-! Reckoning with the interpreter: loops, comprehensions. -/
namespace Rz
open PySem L2
theorem limR_ok {k : Nat} (h : k ≤ 8000000) : limR k = true := decide_eq_true h
section
variable {S : Type}
/-- a for whose turns all go on -/
theorem forL_inv {b : D → List Slot → S → Out S Fl} (I : Nat → List Slot → S → Prop) : ∀ (ds : List D) (k : Nat) (τ : List Slot) (s : S),
    (∀ i d τ s, ds[i]? = some d → I (k + i) τ s → ∃ τ' s', b d τ s = .ok .next τ' s' ∧ I (k + i + 1) τ' s') → I k τ s → ∃ τ' s', forL b ds τ s = .ok .next τ' s' ∧ I (k + ds.length) τ' s'
  | [], k, τ, s, _, h0 => ⟨τ, s, rfl, h0⟩
  | d :: r, k, τ, s, h, h0 => by
    obtain ⟨τ1, s1, e1, h1⟩ := h 0 d τ s rfl h0
    obtain ⟨τ2, s2, e2, h2⟩ := forL_inv I r (k + 1) τ1 s1 (fun i d' τ s e hi => by
      have := h (i + 1) d' τ s (by simpa using e) (by rw [show k + (i + 1) = k + 1 + i by omega]; exact hi)
      rw [show k + (i + 1) + 1 = k + 1 + i + 1 by omega] at this
      exact this) h1
    refine ⟨τ2, s2, ?_, by rw [List.length_cons, show k + (r.length + 1) = k + 1 + r.length by omega]; exact h2⟩
    simp only [forL, e1, Out.bind]
    exact e2
/-- the same where the state is a function of the turn -/
theorem forL_seq {b : D → List Slot → S → Out S Fl} {s : S} (τs : Nat → List Slot) (ds : List D) (h : ∀ i d, ds[i]? = some d → b d (τs i) s = .ok .next (τs (i + 1)) s) : forL b ds (τs 0) s = .ok .next (τs ds.length) s := by
  obtain ⟨τ', s', e, h1, h2⟩ := forL_inv (b := b) (fun i τ s' => τ = τs i ∧ s' = s) ds 0 (τs 0) s (fun i d τ s' e ⟨e1, e2⟩ => ⟨τs (i + 1), s, by rw [e1, e2, Nat.zero_add]; exact h i d e, by rw [Nat.zero_add], rfl⟩) ⟨rfl, rfl⟩
  rw [e, h1, h2, Nat.zero_add]
/-- a while by its states -/
theorem whileL_seq {c : List Slot → S → Out S Bool} {b : List Slot → S → Out S Fl} {s : S} (τs : Nat → List Slot) : ∀ (k n i : Nat), k < n → (∀ j, j < k → c (τs (i + j)) s = .ok true (τs (i + j)) s ∧ b (τs (i + j)) s = .ok .next (τs (i + j + 1)) s) → c (τs (i + k)) s = .ok false (τs (i + k)) s → whileL c b n (τs i) s = .ok .next (τs (i + k)) s
  | 0, n + 1, i, _, _, he => by
    simp only [Nat.add_zero] at he ⊢
    simp only [whileL, he, Out.bind, cond_false]
  | k + 1, n + 1, i, hn, h, he => by
    obtain ⟨h1, h2⟩ := h 0 (Nat.succ_pos _)
    simp only [Nat.add_zero] at h1 h2
    simp only [whileL, h1, h2, Out.bind, cond_true]
    rw [show i + (k + 1) = i + 1 + k by omega] at he ⊢
    exact whileL_seq τs k n (i + 1) (by omega) (fun j hj => by
      have := h (j + 1) (by omega)
      rw [show i + (j + 1) = i + 1 + j by omega] at this
      exact this) he
theorem wipeT_wipeT (τ : List Slot) : ∀ (is : List Nat), wipeT (wipeT τ is) is = wipeT τ is := by
  have comm : ∀ (is : List Nat) (τ : List Slot) (i : Nat), wipeT (τ.set i .none) is = (wipeT τ is).set i .none := by
    intro is
    induction is with
    | nil => intro τ i; rfl
    | cons j is ih =>
      intro τ i
      show (wipeT (τ.set i .none) is).set j .none = ((wipeT τ is).set j .none).set i .none
      rw [ih]
      by_cases h : i = j
      · subst h; rfl
      · rw [List.set_comm _ _ h]
  intro is
  induction is generalizing τ with
  | nil => rfl
  | cons j is ih =>
    show (wipeT ((wipeT τ is).set j .none) is).set j .none = (wipeT τ is).set j .none
    rw [comm, ih, List.set_set]
theorem backT_wipe (τ0 τ : List Slot) : ∀ (is : List Nat), backT τ0 τ is = backT τ0 (wipeT τ is) is := by
  have comm : ∀ (is : List Nat) (τ : List Slot) (i : Nat) (x : Slot), backT τ0 (τ.set i x) is = (if i ∈ is then backT τ0 τ is else (backT τ0 τ is).set i x) := by
    intro is
    induction is with
    | nil => intro τ i x; rfl
    | cons j is ih =>
      intro τ i x
      show (backT τ0 (τ.set i x) is).set j (Slot.back τ0[j]?) = _
      rw [ih]
      by_cases h : i = j
      · subst h
        simp only [List.mem_cons, true_or, if_true]
        by_cases h2 : i ∈ is
        · rw [if_pos h2]; rfl
        · rw [if_neg h2, List.set_set]; rfl
      · by_cases h2 : i ∈ is
        · rw [if_pos h2, if_pos (List.mem_cons_of_mem _ h2)]; rfl
        · rw [if_neg h2, if_neg (fun z => by rcases List.mem_cons.mp z with z | z; exact h z; exact h2 z), List.set_comm _ _ h]; rfl
  intro is
  induction is generalizing τ with
  | nil => rfl
  | cons j is ih =>
    show (backT τ0 τ is).set j _ = (backT τ0 ((wipeT τ is).set j .none) is).set j _
    rw [comm]
    by_cases h : j ∈ is
    · rw [if_pos h, ← ih]
    · rw [if_neg h, List.set_set, ← ih]
/-- a comprehension whose turns leave the state -/
theorem lcL_map {body : D → List Slot → S → Out S (Option D)} {is : List Nat} {s : S} {τw : List Slot} (g : D → Option D) : ∀ (ds acc : List D) (τ : List Slot), wipeT τ is = τw → (∀ d ∈ ds, ∃ τ', body d τw s = .ok (g d) τ' s ∧ wipeT τ' is = τw) →
    ∃ τ', lcL body is ds acc τ s = .ok (acc ++ ds.filterMap g) τ' s ∧ wipeT τ' is = τw
  | [], acc, τ, h, _ => ⟨τ, by simp [lcL], h⟩
  | d :: r, acc, τ, h, hb => by
    obtain ⟨τ1, e1, h1⟩ := hb d List.mem_cons_self
    cases hg : g d with
    | none =>
      obtain ⟨τ2, e2, h2⟩ := lcL_map g r acc τ1 h1 (fun d' m => hb d' (List.mem_cons_of_mem _ m))
      refine ⟨τ2, ?_, h2⟩
      simp only [lcL, h, e1, Out.bind, hg, List.filterMap_cons]
      exact e2
    | some x =>
      obtain ⟨τ2, e2, h2⟩ := lcL_map g r (acc ++ [x]) τ1 h1 (fun d' m => hb d' (List.mem_cons_of_mem _ m))
      refine ⟨τ2, ?_, h2⟩
      simp only [lcL, h, e1, Out.bind, hg, List.filterMap_cons]
      rw [e2, List.append_assoc]; rfl
/-- the same with the state going on -/
theorem lcL_inv {body : D → List Slot → S → Out S (Option D)} {is : List Nat} {τw : List Slot} (I : Nat → List D → S → Prop) : ∀ (ds acc : List D) (τ : List Slot) (k : Nat) (s : S), wipeT τ is = τw →
    (∀ i d acc s, ds[i]? = some d → I (k + i) acc s → ∃ x τ' s', body d τw s = .ok (some x) τ' s' ∧ wipeT τ' is = τw ∧ I (k + i + 1) (acc ++ [x]) s') → I k acc s →
    ∃ acc' τ' s', lcL body is ds acc τ s = .ok acc' τ' s' ∧ wipeT τ' is = τw ∧ I (k + ds.length) acc' s'
  | [], acc, τ, k, s, h, _, h0 => ⟨acc, τ, s, rfl, h, h0⟩
  | d :: r, acc, τ, k, s, h, hb, h0 => by
    obtain ⟨x, τ1, s1, e1, h1, i1⟩ := hb 0 d acc s rfl h0
    obtain ⟨acc2, τ2, s2, e2, h2, i2⟩ := lcL_inv I r (acc ++ [x]) τ1 (k + 1) s1 h1 (fun i d' a s e hi => by
      have := hb (i + 1) d' a s (by simpa using e) (by rw [show k + (i + 1) = k + 1 + i by omega]; exact hi)
      rw [show k + (i + 1) + 1 = k + 1 + i + 1 by omega] at this
      exact this) i1
    refine ⟨acc2, τ2, s2, ?_, h2, by rw [List.length_cons, show k + (r.length + 1) = k + 1 + r.length by omega]; exact i2⟩
    simp only [lcL, h, e1, Out.bind]
    exact e2
theorem exs_next [Pen S] {P : Pt} {call mk : Nat → List D → S → CRes S} {c : CS} {r : CSs} {τ τ' : List Slot} {s s' : S} (h : ex P call mk c τ s = .ok .next τ' s') : exs P call mk (.cons c r) τ s = exs P call mk r τ' s' := by
  simp only [exs, h, Out.bind]
theorem exs_ret [Pen S] {P : Pt} {call mk : Nat → List D → S → CRes S} {c : CS} {r : CSs} {τ τ' : List Slot} {s s' : S} {d : D} (h : ex P call mk c τ s = .ok (.ret d) τ' s') : exs P call mk (.cons c r) τ s = .ok (.ret d) τ' s' := by
  simp only [exs, h, Out.bind]
theorem runF_ret [Pen S] {P : Pt} {call mk : Nat → List D → S → CRes S} {f : Fn} {ds xs : List D} {τ' : List Slot} {s s' : S} {d : D} (hb : bindF f ds = some xs) (h : exs P call mk f.body (start' f.ns xs) s = .ok (.ret d) τ' s') : runF P call mk f ds s = .ok d s' := by
  simp only [runF, hb, h]
theorem runF_next [Pen S] {P : Pt} {call mk : Nat → List D → S → CRes S} {f : Fn} {ds xs : List D} {τ' : List Slot} {s s' : S} (hb : bindF f ds = some xs) (h : exs P call mk f.body (start' f.ns xs) s = .ok .next τ' s') : runF P call mk f ds s = .ok .non s' := by
  simp only [runF, hb, h]
theorem runI_next [Pen S] {P : Pt} {call mk : Nat → List D → S → CRes S} {f : Fn} {c : Nat} {x : D} {ds xs fs : List D} {τ' : List Slot} {s s' : S} (hb : bindF f (.non :: ds) = some (x :: xs)) (h : exs P call mk f.body (.ownI c [] :: start' (f.ns - 1) xs) s = .ok .next (.ownI c fs :: τ') s') : runI P call mk f c ds s = .ok (.ins c fs) s' := by
  simp only [runI, hb, h, madeI]
  rfl
theorem ex_ite [Pen S] {P : Pt} {call mk : Nat → List D → S → CRes S} {c : CE} {a b : CSs} {τ τ' : List Slot} {s s' : S} {t : Bool} (h : evTs P call mk c τ s = .ok t τ s') : ex P call mk (.ite c a b) τ s = bif t then exs P call mk a τ s' else exs P call mk b τ s' := by
  simp only [ex, h, Out.bind]
theorem ex_for [Pen S] {P : Pt} {call mk : Nat → List D → S → CRes S} {tg : Tg} {it : CI} {b : CSs} {τ τ1 : List Slot} {s s1 : S} {ds : List D} (h : evI P call mk it τ s = .ok ds τ1 s1) : ex P call mk (.for tg it b) τ s = forL (fun d τ s => match bindT tg d τ with
      | some τ => exs P call mk b τ s
      | none => .no) ds τ1 s1 := by
  simp only [ex, h, Out.bind]
  all_goals rfl
/-- a comprehension's turn -/
def lcB [Pen S] (P : Pt) (call mk : Nat → List D → S → CRes S) (elt : CE) (tg : Tg) (cs : CAs) (d : D) (τ : List Slot) (s : S) : Out S (Option D) :=
  match bindT tg d τ with
  | some τ => ((evC P call mk cs τ s).bind fun b τ s => bif b then (ev P call mk elt τ s).bind fun x τ s => .ok (some x) τ s else .ok none τ s).nx
  | none => .no
theorem evW_lc [Pen S] {P : Pt} {call mk : Nat → List D → S → CRes S} {elt : CE} {tg : Tg} {it : CI} {cs : CAs} {τ : List Slot} {s : S} : evW P call mk (.lc elt tg it cs) τ s = (evI P call mk it τ s).bind fun ds τ1 s => bif lim ds.length then (lcL (lcB P call mk elt tg cs) tg.slots ds [] τ1 s).bind (fun acc τ2 s => .ok acc (backT τ1 τ2 tg.slots) s) else .no := by
  simp only [evW]; rfl
theorem evW_map [Pen S] {P : Pt} {call mk : Nat → List D → S → CRes S} {elt : CE} {tg : Tg} {it : CI} {cs : CAs} {τ τ1 τw : List Slot} {s s1 : S} {ds : List D} (g : D → Option D) (hi : evI P call mk it τ s = .ok ds τ1 s1) (hl : ds.length ≤ 100000) (hw : wipeT τ1 tg.slots = τw)
    (hb : ∀ d ∈ ds, ∃ τ', lcB P call mk elt tg cs d τw s1 = .ok (g d) τ' s1 ∧ wipeT τ' tg.slots = τw) : evW P call mk (.lc elt tg it cs) τ s = .ok (ds.filterMap g) (backT τ1 τw tg.slots) s1 := by
  obtain ⟨τ2, e2, h2⟩ := lcL_map (body := lcB P call mk elt tg cs) g ds [] τ1 hw hb
  rw [List.nil_append] at e2
  rw [evW_lc, hi]
  simp only [Out.bind, show lim ds.length = true from decide_eq_true hl, cond_true, e2]
  show Out.ok _ (backT τ1 τ2 tg.slots) s1 = _
  rw [backT_wipe, h2]
theorem evW_inv [Pen S] {P : Pt} {call mk : Nat → List D → S → CRes S} {elt : CE} {tg : Tg} {it : CI} {cs : CAs} {τ τ1 τw : List Slot} {s s1 : S} {ds : List D} (I : Nat → List D → S → Prop) (hi : evI P call mk it τ s = .ok ds τ1 s1) (hl : ds.length ≤ 100000) (hw : wipeT τ1 tg.slots = τw)
    (hb : ∀ i d acc s, ds[i]? = some d → I i acc s → ∃ x τ' s', lcB P call mk elt tg cs d τw s = .ok (some x) τ' s' ∧ wipeT τ' tg.slots = τw ∧ I (i + 1) (acc ++ [x]) s') (h0 : I 0 [] s1) : ∃ acc s2, evW P call mk (.lc elt tg it cs) τ s = .ok acc (backT τ1 τw tg.slots) s2 ∧ I ds.length acc s2 := by
  obtain ⟨acc, τ2, s2, e2, h2, i2⟩ := lcL_inv (body := lcB P call mk elt tg cs) I ds [] τ1 0 s1 hw (fun i d acc s e h => by rw [Nat.zero_add] at h ⊢; exact hb i d acc s e h) h0
  rw [Nat.zero_add] at i2
  refine ⟨acc, s2, ?_, i2⟩
  rw [evW_lc, hi]
  simp only [Out.bind, show lim ds.length = true from decide_eq_true hl, cond_true, e2]
  show Out.ok _ (backT τ1 τ2 tg.slots) s2 = _
  rw [backT_wipe, h2]
end
end Rz
end

section
set_option autoImplicit false
set_option Elab.async false
set_option linter.all false
set_option maxHeartbeats 1000000
set_option maxRecDepth 100000
/-! Facts to reckon with the interpreter, by one word. -/
namespace Rz
open PySem L2
section
variable {S : Type} [Pen S] {P : Pt} {call : Nat → List D → S → CRes S} {τ : List Slot} {s : S}
theorem tr_bl (b : Bool) : truV P call (.bl b) τ s = .ok b τ s := rfl
theorem tr_non : truV P call .non τ s = .ok false τ s := rfl
theorem tr_int (i : Int) : truV P call (.int i) τ s = .ok (i != 0) τ s := rfl
theorem cm_eq (i j : Int) : cmpV P call .Eq (.int i) (.int j) τ s = .ok (.bl (i == j)) τ s := rfl
theorem cm_ne (i j : Int) : cmpV P call .NotEq (.int i) (.int j) τ s = .ok (.bl (!(i == j))) τ s := rfl
theorem cm_lt (i j : Int) : cmpV P call .Lt (.int i) (.int j) τ s = .ok (.bl (decide (i < j))) τ s := rfl
theorem cm_le (i j : Int) : cmpV P call .LtE (.int i) (.int j) τ s = .ok (.bl (decide (i ≤ j))) τ s := rfl
theorem cm_gt (i j : Int) : cmpV P call .Gt (.int i) (.int j) τ s = .ok (.bl (decide (j < i))) τ s := rfl
theorem cm_ge (i j : Int) : cmpV P call .GtE (.int i) (.int j) τ s = .ok (.bl (decide (j ≤ i))) τ s := rfl
theorem cm_isT (b c : Bool) : cmpV P call .Is (.bl b) (.bl c) τ s = .ok (.bl (b == c)) τ s := rfl
theorem cm_isntT (b c : Bool) : cmpV P call .IsNot (.bl b) (.bl c) τ s = .ok (.bl (!(b == c))) τ s := rfl
theorem cm_str (a b : Str) : cmpV P call .Eq (.str a) (.str b) τ s = .ok (.bl (a == b)) τ s := rfl
theorem cm_nestr (a b : Str) : cmpV P call .NotEq (.str a) (.str b) τ s = .ok (.bl (!(a == b))) τ s := rfl
theorem bn_add (i j : Int) : binV P call .Add (.int i) (.int j) τ s = .ok (.int (i + j)) τ s := rfl
theorem bn_sub (i j : Int) : binV P call .Sub (.int i) (.int j) τ s = .ok (.int (i - j)) τ s := rfl
theorem bn_mul {i j : Int} (h : mulOk i j = true) : binV P call .Mult (.int i) (.int j) τ s = .ok (.int (i * j)) τ s := by
  show Out.of ((bif mulOk i j then some (i * j) else none).map D.int) τ s = _
  rw [h]; rfl
theorem bn_mod {i j : Int} (h : 0 < j) : binV P call .Mod (.int i) (.int j) τ s = .ok (.int (i % j)) τ s := by
  show Out.of ((bif decide (0 < j) then some (i % j) else none).map D.int) τ s = _
  rw [decide_eq_true h]; rfl
theorem bn_div {i j : Int} (h : 0 < j) (hb : bg j = true) : binV P call .FloorDiv (.int i) (.int j) τ s = .ok (.int (i / j)) τ s := by
  show Out.of ((bif decide (0 < j) && bg j then some (i / j) else none).map D.int) τ s = _
  rw [decide_eq_true h, hb]; rfl
theorem bn_lst {a b : List D} (h : a.length + b.length ≤ 100000) : binV P call .Add (.lst a) (.lst b) τ s = .ok (.lst (a ++ b)) τ s := by
  show Out.of (bif lim (a.length + b.length) then some (D.lst (a ++ b)) else none) τ s = _
  rw [show lim (a.length + b.length) = true from decide_eq_true h]; rfl
theorem bn_tup {a b : List D} (h : a.length + b.length ≤ 100000) : binV P call .Add (.tup a) (.tup b) τ s = .ok (.tup (a ++ b)) τ s := by
  show Out.of (bif lim (a.length + b.length) then some (D.tup (a ++ b)) else none) τ s = _
  rw [show lim (a.length + b.length) = true from decide_eq_true h]; rfl
theorem un_neg (i : Int) : unV P call .USub (.int i) τ s = .ok (.int (-i)) τ s := rfl
theorem ix_l {ds : List D} {k : Nat} {d : D} (h : ds[k]? = some d) : ixV (.lst ds) (.int (k : Nat)) τ s = .ok d τ s := by
  show Out.of (atI ds (k : Nat)) τ s = _
  rw [atI_nat h]; rfl
theorem ix_t {ds : List D} {k : Nat} {d : D} (h : ds[k]? = some d) : ixV (.tup ds) (.int (k : Nat)) τ s = .ok d τ s := by
  show Out.of (atI ds (k : Nat)) τ s = _
  rw [atI_nat h]; rfl
theorem at_snoc (l : List D) (x : D) : atI (l ++ [x]) (-1) = some x := by
  unfold atI ixN
  rw [List.length_append, List.length_singleton, if_neg (by decide), if_pos (by omega)]
  have e : (-1 + ((l.length + 1 : Nat) : Int)).toNat = l.length := by omega
  show (l ++ [x])[_]? = _
  rw [e, List.getElem?_append_right (Nat.le_refl _), Nat.sub_self]; rfl
theorem ix_lm (l : List D) (x : D) : ixV (.lst (l ++ [x])) (.int (-1)) τ s = .ok x τ s := by
  show Out.of (atI (l ++ [x]) (-1)) τ s = _
  rw [at_snoc]; rfl
theorem ix_tm (l : List D) (x : D) : ixV (.tup (l ++ [x])) (.int (-1)) τ s = .ok x τ s := by
  show Out.of (atI (l ++ [x]) (-1)) τ s = _
  rw [at_snoc]; rfl
/-- equality of plain data -/
theorem cm_eqP {x y : D} {b : Bool} (hx : x.cmpOk = true) (hy : y.cmpOk = true) (h : eqP x y = b) (hi : ∀ c ds, x ≠ .ins c ds) (hs : ∀ a b, x = .str a → y = .str b → False) : cmpV P call .Eq x y τ s = .ok (.bl b) τ s := by
  show eqV' P call x y τ s = _
  unfold eqV'
  split
  · rename_i c ds; exact absurd rfl (hi c ds)
  · rename_i a c; exact (hs a c rfl rfl).elim
  · rw [hx, hy, h]; rfl
theorem cm_neP {x y : D} {b : Bool} (hx : x.cmpOk = true) (hy : y.cmpOk = true) (h : eqP x y = b) (hi : ∀ c ds, x ≠ .ins c ds) (hs : ∀ a b, x = .str a → y = .str b → False) : cmpV P call .NotEq x y τ s = .ok (.bl (!b)) τ s := by
  show (eqV' P call x y τ s).bind _ = _
  have := cm_eqP (P := P) (call := call) (τ := τ) (s := s) hx hy h hi hs
  have e : eqV' P call x y τ s = .ok (.bl b) τ s := this
  rw [e]; rfl
theorem lcB_one {mk : Nat → List D → S → CRes S} {elt : CE} {tg : Tg} {d x : D} {τ' τ2 : List Slot} {s2 : S} (hb : bindT tg d τ = some τ') (he : ev P call mk elt τ' s = .ok x τ2 s2) : lcB P call mk elt tg .nil d τ s = .ok (some x) τ2 s2 := by
  simp only [lcB, hb, evC, Out.bind, cond_true, he, Out.nx]
theorem lcB_if {mk : Nat → List D → S → CRes S} {elt c : CE} {tg : Tg} {d y : D} {τ' τ2 : List Slot} {b : Bool} (hb : bindT tg d τ = some τ') (hc : (ev P call mk c τ' s).bind (fun x τ s => truV P call x τ s) = .ok b τ2 s) (he : b = true → ev P call mk elt τ2 s = .ok y τ2 s) : lcB P call mk elt tg (.cons false c .nil) d τ s = .ok (if b then some y else none) τ2 s := by
  have e : evC P call mk (.cons false c .nil) τ' s = .ok b τ2 s := by
    have : evC P call mk (.cons false c .nil) τ' s = ((ev P call mk c τ' s).bind fun x τ s => truV P call x τ s).bind fun t τ s => bif t then .ok true τ s else .ok false τ s := by
      simp only [evC]
      cases ev P call mk c τ' s <;> rfl
    rw [this, hc]
    cases b <;> rfl
  cases b with
  | true => simp only [lcB, hb, e, Out.bind, cond_true, he rfl, Out.nx, if_true]
  | false => simp only [lcB, hb, e, Out.bind, cond_false, Out.nx]; rfl
end
/-! steps, one by one: nothing is unfolded -/
section
variable {S : Type} [Pen S] {P : Pt} {call mk : Nat → List D → S → CRes S} {τ τ1 τ2 τ3 : List Slot} {s s1 s2 s3 : S} {a b c e o : CE} {x y z d : D} {es : CAs} {ds : List D}
theorem st_bin {p : Operator} {r : Out S D} (h : ev P call mk a τ s = .ok x τ1 s1) (k : ev P call mk b τ1 s1 = .ok y τ2 s2) (hb : binV P call p x y τ2 s2 = r) : ev P call mk (.bin p a b) τ s = r := by simp only [ev, h, k, Out.bind, hb]
theorem st_un {p : UnaryOp} {r : Out S D} (h : ev P call mk a τ s = .ok x τ1 s1) (hb : unV P call p x τ1 s1 = r) : ev P call mk (.un p a) τ s = r := by simp only [ev, h, Out.bind, hb]
theorem st_cmp {p : CmpOp} {r : Out S D} (h : ev P call mk a τ s = .ok x τ1 s1) (k : ev P call mk b τ1 s1 = .ok y τ2 s2) (hb : cmpV P call p x y τ2 s2 = r) : ev P call mk (.cmp p a b) τ s = r := by simp only [ev, h, k, Out.bind, hb]
theorem sa_nil : evA P call mk .nil τ s = .ok [] τ s := rfl
theorem sa_cons (h : ev P call mk a τ s = .ok x τ1 s1) (k : evA P call mk es τ1 s1 = .ok ds τ2 s2) : evA P call mk (.cons false a es) τ s = .ok (x :: ds) τ2 s2 := by simp only [evA, h, k, Out.bind, cond_false]
theorem sa_star {xs : List D} (h : ev P call mk a τ s = .ok x τ1 s1) (hs : starOf x = some xs) (k : evA P call mk es τ1 s1 = .ok ds τ2 s2) : evA P call mk (.cons true a es) τ s = .ok (xs ++ ds) τ2 s2 := by simp only [evA, h, hs, k, Out.bind, cond_true]
theorem st_make {k : Nat} (h : evA P call mk es τ s = .ok ds τ1 s1) (hm : mk k ds s1 = .ok x s2) : ev P call mk (.make k es) τ s = .ok x τ1 s2 := by simp only [ev, h, Out.bind, hm, CRes.out]
theorem st_call {f : Nat} (h : evA P call mk es τ s = .ok ds τ1 s1) (hm : call f ds s1 = .ok x s2) : ev P call mk (.call f es) τ s = .ok x τ1 s2 := by simp only [ev, h, Out.bind, hm, CRes.out]
theorem st_meth {m k f : Nat} {fs : List D} (h : ev P call mk o τ s = .ok (.ins k fs) τ1 s1) (hf : P.meth k m = some f) (ha : evA P call mk es τ1 s1 = .ok ds τ2 s2) (hm : call f (.ins k fs :: ds) s2 = .ok x s3) : ev P call mk (.meth o m es) τ s = .ok x τ2 s3 := by simp only [ev, h, hf, ha, Out.bind, hm, CRes.out]
theorem st_smeth {m k f : Nat} (hf : P.smeth k m = some (false, f)) (ha : evA P call mk es τ s = .ok ds τ1 s1) (hm : call f ds s1 = .ok x s2) : ev P call mk (.smeth k m es) τ s = .ok x τ1 s2 := by simp only [ev, hf, ha, Out.bind, hm, CRes.out]
theorem st_attr {m : Nat} {r : Out S D} (h : ev P call mk o τ s = .ok x τ1 s1) (ha : attrV P call m x τ1 s1 = r) : ev P call mk (.attr o m) τ s = r := by simp only [ev, h, Out.bind, ha]
theorem st_ix {r : Out S D} (h : ev P call mk a τ s = .ok x τ1 s1) (k : ev P call mk b τ1 s1 = .ok y τ2 s2) (hb : ixV x y τ2 s2 = r) : ev P call mk (.ix a b) τ s = r := by simp only [ev, h, k, Out.bind, hb]
theorem st_tup (h : evA P call mk es τ s = .ok ds τ1 s1) (hl : ds.length ≤ 100000) : ev P call mk (.tup es) τ s = .ok (.tup ds) τ1 s1 := by simp only [ev, h, Out.bind, show lim ds.length = true from decide_eq_true hl, cond_true]
theorem st_lst (h : evA P call mk es τ s = .ok ds τ1 s1) (hl : ds.length ≤ 100000) : ev P call mk (.lst es) τ s = .ok (.lst ds) τ1 s1 := by simp only [ev, h, Out.bind, show lim ds.length = true from decide_eq_true hl, cond_true]
theorem st_bi {f : Bi} (h : evA P call mk es τ s = .ok ds τ1 s1) (hb : biD f ds = some x) : ev P call mk (.bi f es) τ s = .ok x τ1 s1 := by simp only [ev, h, Out.bind, hb, Out.of]
theorem st_nl {w : CW} (h : evW P call mk w τ s = .ok ds τ1 s1) : ev P call mk (.nl w) τ s = .ok (.lst ds) τ1 s1 := by simp only [ev, h, Out.bind]
theorem st_not {t : Bool} (h : ev P call mk a τ s = .ok x τ1 s1) (ht : truV P call x τ1 s1 = .ok t τ2 s2) : ev P call mk (.not a) τ s = .ok (.bl (!t)) τ2 s2 := by simp only [ev, h, ht, Out.bind]
theorem st_v {i : Nat} (h : τ[i]? = some (.fz d)) : ev P call mk (.v i) τ s = .ok d τ s := by simp only [ev, h]
theorem st_k : ev P call mk (.k d) τ s = .ok d τ s := rfl
theorem st_ret (h : ev P call mk e τ s = .ok x τ1 s1) : ex P call mk (.ret e) τ s = .ok (.ret x) τ1 s1 := by simp only [ex, h, Out.bind]
theorem st_set {i : Nat} (h : ev P call mk e τ s = .ok x τ1 s1) : ex P call mk (.set i false e) τ s = .ok .next (τ1.set i (.fz x)) s1 := by simp only [ex, evX, h, Out.bind]
theorem st_ts {t : Bool} (h : ev P call mk e (τ.map Slot.frz) s = .ok x τ1 s1) (ht : truV P call x τ1 s1 = .ok t τ2 s2) : evTs P call mk e τ s = .ok t τ s2 := by
  unfold evTs
  rw [h]
  simp only [Out.bind, ht]
theorem st_tandF {t : Bool} (h : ev P call mk a τ s = .ok x τ1 s1) (ht : truV P call x τ1 s1 = .ok false τ2 s2) : ev P call mk (.tand a b) τ s = .ok (.bl false) τ2 s2 := by simp only [ev, h, ht, Out.bind, cond_false]
theorem st_tand {t : Bool} (h : ev P call mk a τ s = .ok x τ1 s1) (ht : truV P call x τ1 s1 = .ok true τ1 s1) (k : ev P call mk b τ1 s1 = .ok y τ2 s2) (hk : truV P call y τ2 s2 = .ok t τ3 s3) : ev P call mk (.tand a b) τ s = .ok (.bl t) τ3 s3 := by simp only [ev, h, ht, k, hk, Out.bind, cond_true]
theorem st_torT (h : ev P call mk a τ s = .ok x τ1 s1) (ht : truV P call x τ1 s1 = .ok true τ2 s2) : ev P call mk (.tor a b) τ s = .ok (.bl true) τ2 s2 := by simp only [ev, h, ht, Out.bind, cond_true]
theorem st_tor {t : Bool} {τ' : List Slot} {s' : S} (h : ev P call mk a τ s = .ok x τ1 s1) (ht : truV P call x τ1 s1 = .ok false τ' s') (k : ev P call mk b τ' s' = .ok y τ2 s2) (hk : truV P call y τ2 s2 = .ok t τ3 s3) : ev P call mk (.tor a b) τ s = .ok (.bl t) τ3 s3 := by simp only [ev, h, ht, k, hk, Out.bind, cond_false]
theorem st_andF (h : ev P call mk a τ s = .ok x τ1 s1) (ht : truV P call x τ1 s1 = .ok false τ2 s2) : ev P call mk (.and a b) τ s = .ok x τ2 s2 := by simp only [ev, h, ht, Out.bind, cond_false]
theorem st_and {r : Out S D} {τ' : List Slot} {s' : S} (h : ev P call mk a τ s = .ok x τ1 s1) (ht : truV P call x τ1 s1 = .ok true τ' s') (k : ev P call mk b τ' s' = r) : ev P call mk (.and a b) τ s = r := by simp only [ev, h, ht, k, Out.bind, cond_true]
theorem st_nexts {t : CS} {r : CSs} {R : Out S Fl} (h : ex P call mk t τ s = .ok .next τ1 s1) (k : exs P call mk r τ1 s1 = R) : exs P call mk (.cons t r) τ s = R := by simp only [exs, h, Out.bind, k]
theorem st_iteF {A B : CSs} {R : Out S Fl} (h : evTs P call mk e τ s = .ok false τ s1) (k : exs P call mk B τ s1 = R) : ex P call mk (.ite e A B) τ s = R := by simp only [ex, h, Out.bind, cond_false, k]
theorem st_iteT {A B : CSs} {R : Out S Fl} (h : evTs P call mk e τ s = .ok true τ s1) (k : exs P call mk A τ s1 = R) : ex P call mk (.ite e A B) τ s = R := by simp only [ex, h, Out.bind, cond_true, k]
end
end Rz
end

section
set_option autoImplicit false
set_option Elab.async false
set_option linter.all false
/-! Step lemmas: lambdas, kept errors, what is raised. -/
namespace Rz
open PySem L2
section
variable {S : Type} [Pen S] {P : Pt} {call mk : Nat → List D → S → CRes S} {τ τ1 τ2 : List Slot} {s s1 s2 : S} {a b e : CE} {es : CAs} {ds fs : List D} {x d : D} {c k : Nat}
theorem st_lamO {f : Nat} (hs : ∀ s : S, Pen.same s s = true) (h : ev P call mk b (τ.map Slot.hide) s = .ok d τ1 s) (hc : call f [askD, .bl true, d] s = .ok x s2) : ev P call mk (.lam f b) τ s = .ok x τ s2 := by
  simp only [ev, h, hs, cond_true, hc, CRes.out]
theorem st_lamX {f : Nat} (hs : ∀ s : S, Pen.same s s = true) (h : ev P call mk b (τ.map Slot.hide) s = .exc c fs τ1 s) (hc : call f [askD, .bl false, .int c, .tup fs] s = .ok x s2) : ev P call mk (.lam f b) τ s = .ok x τ s2 := by
  simp only [ev, h, hs, cond_true, hc, CRes.out]
theorem st_callX {f : Nat} (h : evA P call mk es τ s = .ok ds τ1 s1) (hm : call f ds s1 = .exc c fs s2) : ev P call mk (.call f es) τ s = .exc c fs τ1 s2 := by simp only [ev, h, Out.bind, hm, CRes.out]
theorem st_methX {o : CE} {m kk f : Nat} {gs : List D} {s3 : S} (h : ev P call mk o τ s = .ok (.ins kk gs) τ1 s1) (hf : P.meth kk m = some f) (ha : evA P call mk es τ1 s1 = .ok ds τ2 s2) (hm : call f (.ins kk gs :: ds) s2 = .exc c fs s3) : ev P call mk (.meth o m es) τ s = .exc c fs τ2 s3 := by simp only [ev, h, hf, ha, Out.bind, hm, CRes.out]
theorem st_makeX (h : evA P call mk es τ s = .ok ds τ1 s1) (hm : mk k ds s1 = .exc c fs s2) : ev P call mk (.make k es) τ s = .exc c fs τ1 s2 := by simp only [ev, h, Out.bind, hm, CRes.out]
theorem st_exprX (h : ev P call mk e τ s = .exc c fs τ1 s1) : ex P call mk (.expr false e) τ s = .exc c fs τ1 s1 := by simp only [ex, evX, h, Out.bind]
theorem st_retX (h : ev P call mk e τ s = .exc c fs τ1 s1) : ex P call mk (.ret e) τ s = .exc c fs τ1 s1 := by simp only [ex, h, Out.bind]
theorem st_setX {i : Nat} (h : ev P call mk e τ s = .exc c fs τ1 s1) : ex P call mk (.set i false e) τ s = .exc c fs τ1 s1 := by simp only [ex, evX, h, Out.bind]
theorem exs_exc {t : CS} {r : CSs} (h : ex P call mk t τ s = .exc c fs τ1 s1) : exs P call mk (.cons t r) τ s = .exc c fs τ1 s1 := by simp only [exs, h, Out.bind]
theorem runF_exc {f : Fn} {ds xs : List D} (hb : bindF f ds = some xs) (h : exs P call mk f.body (start' f.ns xs) s = .exc c fs τ1 s1) : runF P call mk f ds s = .exc c fs s1 := by
  unfold runF; rw [hb]; simp only [h]
theorem ex_raise (h : evA P call mk es τ s = .ok ds τ1 s1) (hx : P.exc c = some ds.length) : ex P call mk (.raise c es) τ s = .exc c ds.reverse τ1 s1 := by simp only [ex, h, Out.bind, hx, beq_self_eq_true, cond_true]
theorem ex_tryO {B : CSs} {i j : Nat} {fl : Fl} (h : exs P call mk B τ s = .ok fl τ1 s1) : ex P call mk (.tryK B c i j) τ s = .ok fl τ1 s1 := by simp only [ex, h]
theorem ex_tryX {B : CSs} {i j : Nat} (h : exs P call mk B τ s = .exc k fs τ1 s1) (hk : (P.exc k).isSome = true) (hc : (P.exc c).isSome = true) (hi : i < τ1.length) (hs : P.sub k c = true) : ex P call mk (.tryK B c i j) τ s = .ok .next ((τ1.set j (.fz (.xin k fs))).set i .none) s1 := by
  simp only [ex, h, hk, hc, hi, decide_true, Bool.and_true, cond_true, hs]
theorem st_ask {v : V} {r : Out S D} (h : (τ[0]? : Option Slot) = some (.fz (.opq v))) (hc : (call askId [askD, .opq v] s).out τ = r) : ev P call mk .ask τ s = r := by simp only [ev, h, hc]
theorem st_isx {i : Nat} {t : Nat} (h : τ[i]? = some (.fz (.xin c fs))) (hk : (P.exc c).isSome = true) (ht : (P.exc t).isSome = true) : ev P call mk (.isx i (some t)) τ s = .ok (.bl (P.sub c t)) τ s := by simp only [ev, h, hk, ht, Bool.and_true, cond_true]
theorem st_isxV {i : Nat} (h : τ[i]? = some (.fz (.xin c fs))) (hk : (P.exc c).isSome = true) : ev P call mk (.isx i none) τ s = .ok (.bl true) τ s := by simp only [ev, h, hk, cond_true]
theorem st_isxN {i : Nat} {t : Nat} (h : τ[i]? = some (.fz .non)) (ht : (P.exc t).isSome = true) : ev P call mk (.isx i (some t)) τ s = .ok (.bl false) τ s := by simp only [ev, h, ht, cond_true]
theorem st_xat {i m : Nat} (h : τ[i]? = some (.fz (.xin c fs))) (hm : P.xfd c m = some k) (hk : (P.exc c).isSome = true) (hd : fs[k]? = some d) : ev P call mk (.xat i m) τ s = .ok d τ s := by simp only [ev, h, hm, hk, cond_true, hd, Out.of]
/-- the lambda's outcome, asked for -/
theorem callA_eq {o : CRes S} {s0 : S} {w : Addr} (hs : Pen.same s0 s0 = true) : callA o s0 w askId [askD, .opq (.ref w)] s0 = o := by
  unfold callA
  rw [show (askId == askId) = true from beq_self_eq_true _, show isAsk w [askD, .opq (.ref w)] = true from decide_eq_true rfl, hs]
  rfl
end
section
variable {S : Type}
theorem lcL_invO {body : D → List Slot → S → Out S (Option D)} {is : List Nat} {τw : List Slot} (I : Nat → List D → S → Prop) : ∀ (ds acc : List D) (τ : List Slot) (k : Nat) (s : S), wipeT τ is = τw →
    (∀ i d acc s, ds[i]? = some d → I (k + i) acc s → ∃ x τ' s', body d τw s = .ok x τ' s' ∧ wipeT τ' is = τw ∧ I (k + i + 1) (acc ++ x.toList) s') → I k acc s →
    ∃ acc' τ' s', lcL body is ds acc τ s = .ok acc' τ' s' ∧ wipeT τ' is = τw ∧ I (k + ds.length) acc' s'
  | [], acc, τ, k, s, h, _, h0 => ⟨acc, τ, s, rfl, h, h0⟩
  | d :: r, acc, τ, k, s, h, hb, h0 => by
    obtain ⟨x, τ1, s1, e1, h1, i1⟩ := hb 0 d acc s rfl h0
    obtain ⟨acc2, τ2, s2, e2, h2, i2⟩ := lcL_invO I r (acc ++ x.toList) τ1 (k + 1) s1 h1 (fun i d' a s e hi => by
      have := hb (i + 1) d' a s (by simpa using e) (by rw [show k + (i + 1) = k + 1 + i by omega]; exact hi)
      rw [show k + (i + 1) + 1 = k + 1 + i + 1 by omega] at this
      exact this) i1
    refine ⟨acc2, τ2, s2, ?_, h2, by rw [List.length_cons, show k + (r.length + 1) = k + 1 + r.length by omega]; exact i2⟩
    cases x with
    | none =>
      rw [Option.toList_none, List.append_nil] at e2
      simp only [lcL, h, e1, Out.bind]
      exact e2
    | some x =>
      simp only [lcL, h, e1, Out.bind]
      exact e2
theorem evW_invO [Pen S] {P : Pt} {call mk : Nat → List D → S → CRes S} {elt : CE} {tg : Tg} {it : CI} {cs : CAs} {τ τ1 τw : List Slot} {s s1 : S} {ds : List D} (I : Nat → List D → S → Prop) (hi : evI P call mk it τ s = .ok ds τ1 s1) (hl : ds.length ≤ 100000) (hw : wipeT τ1 tg.slots = τw)
    (hb : ∀ i d acc s, ds[i]? = some d → I i acc s → ∃ x τ' s', lcB P call mk elt tg cs d τw s = .ok x τ' s' ∧ wipeT τ' tg.slots = τw ∧ I (i + 1) (acc ++ x.toList) s') (h0 : I 0 [] s1) : ∃ acc s2, evW P call mk (.lc elt tg it cs) τ s = .ok acc (backT τ1 τw tg.slots) s2 ∧ I ds.length acc s2 := by
  obtain ⟨acc, τ2, s2, e2, h2, i2⟩ := lcL_invO (body := lcB P call mk elt tg cs) I ds [] τ1 0 s1 hw (fun i d acc s e h => by rw [Nat.zero_add] at h ⊢; exact hb i d acc s e h) h0
  rw [Nat.zero_add] at i2
  refine ⟨acc, s2, ?_, i2⟩
  rw [evW_lc, hi]
  simp only [Out.bind, show lim ds.length = true from decide_eq_true hl, cond_true, e2]
  show Out.ok _ (backT τ1 τ2 tg.slots) s2 = _
  rw [backT_wipe, h2]
end
end Rz
end

section
set_option autoImplicit false
set_option Elab.async false
set_option linter.all false
/-! The law's end where its defs make lambdas: the tables' facts by checks. -/
namespace Rz
open PySem PySem.Spec PySem.W PyProof.Rows L2
section
variable {S : Type} [Pen S] {d : PD S}
def PD.cs (d : PD S) : List (Addr × Addr) := d.lcs.map (·.2)
def PD.ts (d : PD S) : List Addr := d.lcs.map (·.2.2)
/-- the code objects and tables lie as told -/
def endC (K : Frag) (d : PD S) : Bool := d.lcs.all fun p => (K.lookup p.2.2).isNone && codeHdIn K p.2.1 p.2.2
theorem endC_n {K : Frag} (h : endC K d = true) : ∀ p ∈ d.cs, K.lookup p.2 = none := fun p hp => by
  obtain ⟨q, hq, rfl⟩ := List.mem_map.mp hp
  have := List.all_eq_true.mp h q hq
  simp only [Bool.and_eq_true, Option.isNone_iff_eq_none] at this
  exact this.1
theorem endC_c {K : Frag} (h : endC K d = true) : ∀ p ∈ d.cs, codeHdIn K p.1 p.2 = true := fun p hp => by
  obtain ⟨q, hq, rfl⟩ := List.mem_map.mp hp
  have := List.all_eq_true.mp h q hq
  simp only [Bool.and_eq_true] at this
  exact this.2
theorem ts_of {H : Hp} {x : Option HO} (h : ∀ p ∈ d.cs, H p.2 = x) : ∀ q ∈ d.lcs.map (·.2.2), H q = x := fun q hq => by
  obtain ⟨p, hp, rfl⟩ := List.mem_map.mp hq
  exact h p.2 (List.mem_map.mpr ⟨p, hp, rfl⟩)
theorem ts_in {ts : List Addr} (h : d.ts.all ts.contains = true) : ∀ p ∈ d.cs, p.2 ∈ ts := fun p hp => by
  obtain ⟨q, hq, rfl⟩ := List.mem_map.mp hp
  exact List.contains_iff_mem.mp (List.all_eq_true.mp h _ (List.mem_map.mpr ⟨q, hq, rfl⟩))
theorem tabs_in (h : d.tabs.all (fun t => d.ts.contains t.1) = true) : ∀ t ∈ d.tabs, t.1 ∈ d.lcs.map (·.2.2) := fun t ht => List.contains_iff_mem.mp (List.all_eq_true.mp h t ht)
theorem tabsB_of {base : Heap} {mg : Str → Option Value} (h : ∀ p ∈ d.cs, LamX.TabB base mg p.1 p.2) : TabsB d base mg := fun p hp => h p.2 (List.mem_map.mpr ⟨p, hp, rfl⟩)
end
end Rz
end

section
set_option Elab.async false
set_option linter.all false
set_option maxRecDepth 100000
namespace K01
open PySem PySem.Spec PySem.W PyProof.Rows L2 Rz
/-! the tables of law_k01_errors, printed by pr.py -/
def f1__law_draw : Fn := ⟨2, false, [], 5, (.cons (.while (.tand (.cmp .Lt (.pix (.v 0) (.str (PySem.Str.ofString "rest"))) (.k (.int 2))) (.cmp .Lt (.pix (.v 0) (.str (PySem.Str.ofString "at"))) (.bi .len (.cons false (.pix (.v 0) (.str (PySem.Str.ofString "cells"))) .nil)))) (.cons (.set 2 false (.bi .abs (.cons false (.ix (.pix (.v 0) (.str (PySem.Str.ofString "cells"))) (.pix (.v 0) (.str (PySem.Str.ofString "at")))) .nil))) (.cons (.pset 0 (.str (PySem.Str.ofString "at")) (.bin .Add (.pix (.v 0) (.str (PySem.Str.ofString "at"))) (.k (.int 1)))) (.cons (.ite (.cmp .Lt (.v 2) (.bin .Pow (.k (.int 10)) (.k (.int 18)))) (.cons (.set 3 false (.bin .Mod (.bi .int (.cons false (.bin .Add (.bin .Pow (.bin .Add (.v 2) (.k (.int 7))) (.k (.int 3))) (.bin .Mult (.pix (.v 0) (.str (PySem.Str.ofString "state"))) (.bin .Add (.pix (.v 0) (.str (PySem.Str.ofString "at"))) (.k (.int 1))))) .nil)) (.k (.int 2147483629)))) (.cons (.ret (.bin .Mod (.v 3) (.v 1))) .nil)) .nil) (.cons (.pset 0 (.str (PySem.Str.ofString "rest")) (.v 2)) .nil))))) (.cons (.ite (.cmp .GtE (.pix (.v 0) (.str (PySem.Str.ofString "rest"))) (.k (.int 2))) (.cons (.set 4 false (.bin .Mod (.bi .int (.cons false (.pix (.v 0) (.str (PySem.Str.ofString "rest"))) .nil)) (.v 1))) (.cons (.pset 0 (.str (PySem.Str.ofString "rest")) (.bin .FloorDiv (.pix (.v 0) (.str (PySem.Str.ofString "rest"))) (.v 1))) (.cons (.ret (.v 4)) .nil))) .nil) (.cons (.pset 0 (.str (PySem.Str.ofString "state")) (.bin .Mod (.bi .int (.cons false (.bin .Add (.bin .Mult (.pix (.v 0) (.str (PySem.Str.ofString "state"))) (.k (.int 16807))) (.k (.int 19))) .nil)) (.k (.int 2147483647)))) (.cons (.ret (.bin .Mod (.bin .Mod (.bi .int (.cons false (.bin .Pow (.pix (.v 0) (.str (PySem.Str.ofString "state"))) (.k (.int 5))) .nil)) (.k (.int 2147483629))) (.v 1))) .nil))))⟩
def f2__law_pick : Fn := ⟨2, false, [], 2, (.cons (.ret (.ix (.v 1) (.call 1 (.cons false (.v 0) (.cons false (.bi .len (.cons false (.v 1) .nil)) .nil))))) .nil)⟩
def f3__law_value : Fn := ⟨1, false, [], 2, (.cons (.set 1 false (.lst (.cons false (.k .non) (.cons false (.k (.bl true)) (.cons false (.k (.bl false)) (.cons false (.k (.int 0)) (.cons false (.un .USub (.k (.int 7))) (.cons false (.bin .Pow (.k (.int 10)) (.k (.int 59))) (.cons false (.k (.str (PySem.Str.ofString ""))) (.cons false (.k (.str (PySem.Str.ofString "word"))) (.cons false (.tup .nil) (.cons false (.tup (.cons false (.k (.int 2)) (.cons false (.k (.str (PySem.Str.ofString "b"))) .nil))) (.cons false (.lst .nil) (.cons false (.lst (.cons false (.k (.int 1)) (.cons false (.lst (.cons false (.k (.int 0)) .nil)) .nil))) (.cons false (.dct [] .nil) (.cons false (.dct [.inr (PySem.Str.ofString "b")] (.cons false (.k (.int 2)) .nil)) (.cons false (.k (.str (PySem.Str.ofString "y z"))) .nil))))))))))))))))) (.cons (.ret (.call 2 (.cons false (.v 0) (.cons false (.v 1) .nil)))) .nil))⟩
def f4__law_ones : Fn := ⟨1, false, [], 2, (.cons (.set 1 false (.lst (.cons false (.tup (.cons false (.xmk 1 (.cons false (.v 0) .nil) [] .nil) (.cons false (.k (.str (PySem.Str.ofString "part"))) .nil))) (.cons false (.tup (.cons false (.xmk 3 (.cons false (.v 0) .nil) [] .nil) (.cons false (.k (.str (PySem.Str.ofString "part"))) .nil))) (.cons false (.tup (.cons false (.xmk 5 (.cons false (.v 0) .nil) [] .nil) (.cons false (.k (.str (PySem.Str.ofString "part"))) .nil))) (.cons false (.tup (.cons false (.xmk 9 (.cons false (.v 0) .nil) [] .nil) (.cons false (.k (.str (PySem.Str.ofString "part"))) .nil))) .nil)))))) (.cons (.set 1 false (.bin .Add (.v 1) (.lst (.cons false (.tup (.cons false (.xmk 10 (.cons false (.v 0) .nil) [] .nil) (.cons false (.k (.str (PySem.Str.ofString "part"))) .nil))) (.cons false (.tup (.cons false (.xmk 11 (.cons false (.v 0) .nil) [] .nil) (.cons false (.k (.str (PySem.Str.ofString "part"))) .nil))) (.cons false (.tup (.cons false (.xmk 12 (.cons false (.v 0) .nil) [] .nil) (.cons false (.k (.str (PySem.Str.ofString "part"))) .nil))) (.cons false (.tup (.cons false (.xmk 13 (.cons false (.v 0) .nil) [] .nil) (.cons false (.k (.str (PySem.Str.ofString "part"))) .nil))) .nil))))))) (.cons (.set 1 false (.bin .Add (.v 1) (.lst (.cons false (.tup (.cons false (.xmk 2 (.cons false (.v 0) .nil) [] .nil) (.cons false (.k (.str (PySem.Str.ofString "value"))) .nil))) (.cons false (.tup (.cons false (.xmk 4 (.cons false (.v 0) .nil) [] .nil) (.cons false (.k (.str (PySem.Str.ofString "value"))) .nil))) (.cons false (.tup (.cons false (.xmk 6 (.cons false (.v 0) .nil) [] .nil) (.cons false (.k (.str (PySem.Str.ofString "value"))) .nil))) .nil)))))) (.cons (.ret (.bin .Add (.v 1) (.lst (.cons false (.tup (.cons false (.xmk 8 (.cons false (.v 0) .nil) [] .nil) (.cons false (.k (.str (PySem.Str.ofString "value"))) .nil))) (.cons false (.tup (.cons false (.xmk 7 (.cons false (.v 0) .nil) [] .nil) (.cons false (.k (.str (PySem.Str.ofString "word"))) .nil))) (.cons false (.tup (.cons false (.xmk 15 (.cons false (.v 0) .nil) [] .nil) (.cons false (.k (.str (PySem.Str.ofString "name"))) .nil))) .nil)))))) .nil))))⟩
def f5__law_named : Fn := ⟨1, false, [], 2, (.cons (.set 1 false (.lst (.cons false (.xmk 1 .nil [(PySem.Str.ofString "part")] (.cons false (.v 0) .nil)) (.cons false (.xmk 3 .nil [(PySem.Str.ofString "part")] (.cons false (.v 0) .nil)) (.cons false (.xmk 5 .nil [(PySem.Str.ofString "part")] (.cons false (.v 0) .nil)) (.cons false (.xmk 9 .nil [(PySem.Str.ofString "part")] (.cons false (.v 0) .nil)) (.cons false (.xmk 10 .nil [(PySem.Str.ofString "part")] (.cons false (.v 0) .nil)) .nil))))))) (.cons (.set 1 false (.bin .Add (.v 1) (.lst (.cons false (.xmk 11 .nil [(PySem.Str.ofString "part")] (.cons false (.v 0) .nil)) (.cons false (.xmk 12 .nil [(PySem.Str.ofString "part")] (.cons false (.v 0) .nil)) (.cons false (.xmk 13 .nil [(PySem.Str.ofString "part")] (.cons false (.v 0) .nil)) (.cons false (.xmk 2 .nil [(PySem.Str.ofString "value")] (.cons false (.v 0) .nil)) (.cons false (.xmk 4 .nil [(PySem.Str.ofString "value")] (.cons false (.v 0) .nil)) .nil)))))))) (.cons (.ret (.bin .Add (.v 1) (.lst (.cons false (.xmk 6 .nil [(PySem.Str.ofString "value")] (.cons false (.v 0) .nil)) (.cons false (.xmk 8 .nil [(PySem.Str.ofString "value")] (.cons false (.v 0) .nil)) (.cons false (.xmk 7 .nil [(PySem.Str.ofString "word")] (.cons false (.v 0) .nil)) (.cons false (.xmk 15 .nil [(PySem.Str.ofString "name")] (.cons false (.v 0) .nil)) .nil))))))) .nil)))⟩
def f6__law_field : Fn := ⟨2, false, [], 2, (.cons (.ite (.cmp .Eq (.v 1) (.k (.str (PySem.Str.ofString "part")))) (.cons (.ret (.xat 0 43)) .nil) .nil) (.cons (.ite (.cmp .Eq (.v 1) (.k (.str (PySem.Str.ofString "value")))) (.cons (.ret (.xat 0 42)) .nil) .nil) (.cons (.ret (.ite (.cmp .Eq (.v 1) (.k (.str (PySem.Str.ofString "word")))) (.xat 0 40) (.xat 0 41))) .nil)))⟩
def f7__law_kinds : Fn := ⟨1, false, [], 4, (.cons (.set 1 false (.lst (.cons false (.isx 0 (some 1)) (.cons false (.isx 0 (some 3)) (.cons false (.isx 0 (some 5)) .nil))))) (.cons (.set 1 false (.bin .Add (.v 1) (.lst (.cons false (.isx 0 (some 9)) (.cons false (.isx 0 (some 10)) (.cons false (.isx 0 (some 11)) .nil)))))) (.cons (.set 1 false (.bin .Add (.v 1) (.lst (.cons false (.isx 0 (some 12)) (.cons false (.isx 0 (some 13)) (.cons false (.isx 0 (some 2)) .nil)))))) (.cons (.set 1 false (.bin .Add (.v 1) (.lst (.cons false (.isx 0 (some 4)) (.cons false (.isx 0 (some 6)) (.cons false (.isx 0 (some 8)) .nil)))))) (.cons (.set 1 false (.bin .Add (.v 1) (.lst (.cons false (.isx 0 (some 7)) (.cons false (.isx 0 (some 15)) (.cons false (.isx 0 (some 14)) .nil)))))) (.cons (.set 1 false (.bin .Add (.v 1) (.lst (.cons false (.isx 0 (some 16)) (.cons false (.isx 0 (some 17)) .nil))))) (.cons (.ret (.nl (.lc (.v 2) (.many [2, 3]) (.en (.v 1)) (.cons false (.v 3) .nil)))) .nil)))))))⟩
def f8__law_two_right : Fn := ⟨2, false, [], 6, (.cons (.set 2 false (.lst (.cons false (.xmk 14 (.cons false (.v 0) (.cons false (.v 1) .nil)) [] .nil) (.cons false (.xmk 16 (.cons false (.v 0) (.cons false (.v 1) .nil)) [] .nil) .nil)))) (.cons (.set 3 false (.lst (.cons false (.xmk 14 .nil [(PySem.Str.ofString "word"), (PySem.Str.ofString "line")] (.cons false (.v 1) (.cons false (.v 0) .nil))) (.cons false (.xmk 16 .nil [(PySem.Str.ofString "most"), (PySem.Str.ofString "what")] (.cons false (.v 1) (.cons false (.v 0) .nil))) .nil)))) (.cons (.for (.many [4, 5]) (.e (.lst (.cons false (.v 2) (.cons false (.v 3) .nil)))) (.cons (.ite (.cmp .NotEq (.bi .repr (.cons false (.lst (.cons false (.xat 4 46) (.cons false (.xat 4 40) (.cons false (.xat 5 45) (.cons false (.xat 5 44) .nil))))) .nil)) (.bi .repr (.cons false (.lst (.cons false (.v 0) (.cons false (.v 1) (.cons false (.v 0) (.cons false (.v 1) .nil))))) .nil))) (.cons (.ret (.k (.bl false))) .nil) .nil) (.cons (.ite (.cmp .NotEq (.lst (.cons false (.call 7 (.cons false (.v 4) .nil)) (.cons false (.call 7 (.cons false (.v 5) .nil)) (.cons false (.call 7 (.cons false (.xmk0 17) .nil)) .nil)))) (.lst (.cons false (.lst (.cons false (.k (.int 14)) .nil)) (.cons false (.lst (.cons false (.k (.int 15)) .nil)) (.cons false (.lst (.cons false (.k (.int 16)) .nil)) .nil))))) (.cons (.ret (.k (.bl false))) .nil) .nil) .nil))) (.cons (.ret (.k (.bl true))) .nil))))⟩
def f9__law_caught : Fn := ⟨1, false, [], 2, (.cons (.tryR (.cons (.raise 14 (.cons false (.v 0) (.cons false (.k (.int 3)) .nil))) .nil) 0 1 (.and (.isx 1 (some 14)) (.cmp .Eq (.bi .repr (.cons false (.lst (.cons false (.xat 1 46) (.cons false (.xat 1 40) .nil))) .nil)) (.bi .repr (.cons false (.lst (.cons false (.v 0) (.cons false (.k (.int 3)) .nil))) .nil))))) .nil)⟩
def lawN : List Str := [(PySem.Str.ofString "_law_script"), (PySem.Str.ofString "_law_bag_here"), (PySem.Str.ofString "_law_turn"), (PySem.Str.ofString "_law_one"), (PySem.Str.ofString "_law_more"), (PySem.Str.ofString "_law_ones_here"), (PySem.Str.ofString "_law_named_here"), (PySem.Str.ofString "_law_k"), (PySem.Str.ofString "_law_error"), (PySem.Str.ofString "_law_kind")]
def lawRest : CSs := (.cons (.for (.one 2) (.r1 (.k (.int 4))) (.cons (.par2 3 4 (.f (.call 3 (.cons false (.v 1) .nil))) (.f (.call 3 (.cons false (.v 1) .nil)))) (.cons (.par2 5 6 (.f (.call 4 (.cons false (.v 3) .nil))) (.f (.call 5 (.cons false (.v 3) .nil)))) (.cons (.ite (.cmp .NotEq (.bi .len (.cons false (.v 6) .nil)) (.bi .len (.cons false (.v 5) .nil))) (.cons (.ret (.k (.bl false))) .nil) .nil) (.cons (.for (.one 7) (.r1 (.bi .len (.cons false (.v 5) .nil))) (.cons (.unpack [8, 9] (.ix (.v 5) (.v 7))) (.cons (.ite (.cmp .NotEq (.bi .repr (.cons false (.lst (.cons false (.call 6 (.cons false (.v 8) (.cons false (.v 9) .nil))) (.cons false (.call 6 (.cons false (.ix (.v 6) (.v 7)) (.cons false (.v 9) .nil))) .nil))) .nil)) (.bi .repr (.cons false (.lst (.cons false (.v 3) (.cons false (.v 3) .nil))) .nil))) (.cons (.ret (.k (.bl false))) .nil) .nil) (.cons (.ite (.cmp .NotEq (.lst (.cons false (.call 7 (.cons false (.v 8) .nil)) (.cons false (.call 7 (.cons false (.ix (.v 6) (.v 7)) .nil)) .nil))) (.lst (.cons false (.lst (.cons false (.v 7) .nil)) (.cons false (.lst (.cons false (.v 7) .nil)) .nil)))) (.cons (.ret (.k (.bl false))) .nil) .nil) .nil)))) (.cons (.for (.one 8) (.e (.bin .Add (.v 6) (.lst (.cons false (.xmk0 17) (.cons false (.xmk 14 (.cons false (.v 3) (.cons false (.v 4) .nil)) [] .nil) (.cons false (.xmk 16 (.cons false (.v 3) (.cons false (.v 4) .nil)) [] .nil) .nil)))))) (.cons (.ite (.tor (.not (.isx 8 (some 0))) (.not (.isx 8 none))) (.cons (.ret (.k (.bl false))) .nil) .nil) .nil)) (.cons (.ite (.tor (.not (.call 8 (.cons false (.v 3) (.cons false (.v 4) .nil)))) (.not (.call 9 (.cons false (.v 4) .nil)))) (.cons (.ret (.k (.bl false))) .nil) .nil) .nil))))))) (.cons (.ret (.k (.bl true))) .nil))
def tab : Tab := ⟨[((PySem.Str.ofString "_law_draw"), 1), ((PySem.Str.ofString "_law_pick"), 2), ((PySem.Str.ofString "_law_value"), 3), ((PySem.Str.ofString "_law_ones"), 4), ((PySem.Str.ofString "_law_named"), 5), ((PySem.Str.ofString "_law_field"), 6), ((PySem.Str.ofString "_law_kinds"), 7), ((PySem.Str.ofString "_law_two_right"), 8), ((PySem.Str.ofString "_law_caught"), 9)], [((PySem.Str.ofString "OpenError"), 0), ((PySem.Str.ofString "BadAmount"), 1), ((PySem.Str.ofString "BadCircle"), 2), ((PySem.Str.ofString "BadClaim"), 3), ((PySem.Str.ofString "BadCount"), 4), ((PySem.Str.ofString "BadCourse"), 5), ((PySem.Str.ofString "BadHeading"), 6), ((PySem.Str.ofString "BadLine"), 7), ((PySem.Str.ofString "BadName"), 8), ((PySem.Str.ofString "BadPlace"), 9), ((PySem.Str.ofString "BadProgram"), 10), ((PySem.Str.ofString "BadRail"), 11), ((PySem.Str.ofString "BadSet"), 12), ((PySem.Str.ofString "BadTable"), 13), ((PySem.Str.ofString "BadText"), 14), ((PySem.Str.ofString "NoName"), 15), ((PySem.Str.ofString "TooMany"), 16), ((PySem.Str.ofString "Unlike"), 17)], [], [(PySem.Str.ofString "ValueError"), (PySem.Str.ofString "abs"), (PySem.Str.ofString "enumerate"), (PySem.Str.ofString "int"), (PySem.Str.ofString "isinstance"), (PySem.Str.ofString "len"), (PySem.Str.ofString "range"), (PySem.Str.ofString "repr")], [(PySem.Str.ofString "word"), (PySem.Str.ofString "name"), (PySem.Str.ofString "value"), (PySem.Str.ofString "part"), (PySem.Str.ofString "most"), (PySem.Str.ofString "what"), (PySem.Str.ofString "line")], [], [], [17], [14], [1, 2, 3, 4, 5, 6, 7, 8, 9, 10, 11, 12, 13, 14, 15, 16]⟩
def pd : PD BP := {
  cA := [24, 44, 63, 82, 101, 120, 139, 158, 177, 196, 215, 234, 253, 272, 291, 310, 329, 341]
  fld := [[], [(PySem.Str.ofString "part")], [(PySem.Str.ofString "value")], [(PySem.Str.ofString "part")], [(PySem.Str.ofString "value")], [(PySem.Str.ofString "part")], [(PySem.Str.ofString "value")], [(PySem.Str.ofString "word")], [(PySem.Str.ofString "value")], [(PySem.Str.ofString "part")], [(PySem.Str.ofString "part")], [(PySem.Str.ofString "part")], [(PySem.Str.ofString "part")], [(PySem.Str.ofString "part")], [(PySem.Str.ofString "word"), (PySem.Str.ofString "line")], [(PySem.Str.ofString "name")], [(PySem.Str.ofString "most"), (PySem.Str.ofString "what")], []]
  fA := [0, 357, 364, 371, 378, 385, 392, 397, 404, 411, 0]
  Ns := [[], [(PySem.Str.ofString "_law_bag_here"), (PySem.Str.ofString "_law_limit"), (PySem.Str.ofString "_law_cell"), (PySem.Str.ofString "_law_mixed"), (PySem.Str.ofString "_law_found")], [(PySem.Str.ofString "_law_bag_here"), (PySem.Str.ofString "_law_some")], [(PySem.Str.ofString "_law_bag_here"), (PySem.Str.ofString "_law_some")], [(PySem.Str.ofString "_law_one"), (PySem.Str.ofString "_law_found")], [(PySem.Str.ofString "_law_one"), (PySem.Str.ofString "_law_found")], [(PySem.Str.ofString "_law_error"), (PySem.Str.ofString "_law_kind")], [(PySem.Str.ofString "_law_error"), (PySem.Str.ofString "_law_found"), (PySem.Str.ofString "_law_k"), (PySem.Str.ofString "_law_is_one")], [(PySem.Str.ofString "_law_one"), (PySem.Str.ofString "_law_more"), (PySem.Str.ofString "_law_first"), (PySem.Str.ofString "_law_later"), (PySem.Str.ofString "_law_text"), (PySem.Str.ofString "_law_many")], [(PySem.Str.ofString "_law_one"), (PySem.Str.ofString "_law_error")], []]
  tab := tab
  fns := [.none, .code f1__law_draw, .code f2__law_pick, .code f3__law_value, .code f4__law_ones, .code f5__law_named, .code f6__law_field, .code f7__law_kinds, .code f8__law_two_right, .code f9__law_caught, .none]
  meths := []
  attrs := []
  inits := []
  gls := []
  ncl := 0
  subs := [(0, 0), (1, 0), (1, 1), (2, 0), (2, 2), (3, 0), (3, 3), (4, 0), (4, 4), (5, 0), (5, 5), (6, 0), (6, 6), (7, 0), (7, 7), (8, 0), (8, 8), (9, 0), (9, 9), (10, 0), (10, 10), (11, 0), (11, 11), (12, 0), (12, 12), (13, 0), (13, 13), (14, 0), (14, 14), (15, 0), (15, 15), (16, 0), (16, 16), (17, 0), (17, 17)]
  exc := [(0, 0), (1, 1), (2, 1), (3, 1), (4, 1), (5, 1), (6, 1), (7, 1), (8, 1), (9, 1), (10, 1), (11, 1), (12, 1), (13, 1), (14, 2), (15, 1), (16, 2), (17, 0)]
  xfd := [((1, 43), 0), ((2, 42), 0), ((3, 43), 0), ((4, 42), 0), ((5, 43), 0), ((6, 42), 0), ((7, 40), 0), ((8, 42), 0), ((9, 43), 0), ((10, 43), 0), ((11, 43), 0), ((12, 43), 0), ((13, 43), 0), ((14, 40), 0), ((14, 46), 1), ((15, 41), 0), ((16, 44), 0), ((16, 45), 1)]
  xps := [(1, [(PySem.Str.ofString "part")]), (2, [(PySem.Str.ofString "value")]), (3, [(PySem.Str.ofString "part")]), (4, [(PySem.Str.ofString "value")]), (5, [(PySem.Str.ofString "part")]), (6, [(PySem.Str.ofString "value")]), (7, [(PySem.Str.ofString "word")]), (8, [(PySem.Str.ofString "value")]), (9, [(PySem.Str.ofString "part")]), (10, [(PySem.Str.ofString "part")]), (11, [(PySem.Str.ofString "part")]), (12, [(PySem.Str.ofString "part")]), (13, [(PySem.Str.ofString "part")]), (14, [(PySem.Str.ofString "line"), (PySem.Str.ofString "word")]), (15, [(PySem.Str.ofString "name")]), (16, [(PySem.Str.ofString "what"), (PySem.Str.ofString "most")])]
  lcs := []
  tabs := []
  kwns := [[], [], [], [], [], [], [], [], [], [], []]
  smeths := []
  gts := []
  gtA := [] }
end K01
end

section
set_option autoImplicit false
set_option Elab.async false
set_option linter.all false
set_option maxHeartbeats 1000000
/-! The mathematics of courses, in plain lists of ints. -/
namespace Crs
def co (a : List Int) (i : Nat) : Int := a.getD i 0
def sz (a : List Int) : Nat → Nat
  | 0 => 0
  | k + 1 => if co a k = 0 then sz a k else k + 1
def trim (a : List Int) : List Int := a.take (sz a a.length)
theorem co_ge {a : List Int} {i : Nat} (h : a.length ≤ i) : co a i = 0 := by
  unfold co; rw [List.getD_eq_getElem?_getD, List.getElem?_eq_none h]; rfl
theorem co_lt {a : List Int} {i : Nat} (h : i < a.length) : a[i]? = some (co a i) := by
  unfold co; rw [List.getD_eq_getElem?_getD, List.getElem?_eq_getElem h]; rfl
theorem sz_le (a : List Int) : ∀ k, sz a k ≤ k
  | 0 => Nat.le_refl _
  | k + 1 => by
    unfold sz
    split
    · exact Nat.le_succ_of_le (sz_le a k)
    · exact Nat.le_refl _
theorem sz_zero (a : List Int) : ∀ k i, sz a k ≤ i → i < k → co a i = 0
  | 0, i, _, h => by omega
  | k + 1, i, h1, h2 => by
    unfold sz at h1
    split at h1
    · rename_i hz
      rcases Nat.lt_or_ge i k with h | h
      · exact sz_zero a k i h1 h
      · have : i = k := by omega
        rw [this]; exact hz
    · omega
theorem sz_congr {a b : List Int} (h : ∀ i, co a i = co b i) : ∀ k, sz a k = sz b k
  | 0 => rfl
  | k + 1 => by unfold sz; rw [h k, sz_congr h k]
theorem sz_stable (a : List Int) : ∀ k, sz a (a.length + k) = sz a a.length
  | 0 => rfl
  | k + 1 => by
    rw [← Nat.add_assoc]
    show (if co a (a.length + k) = 0 then _ else _) = _
    rw [if_pos (co_ge (by omega)), sz_stable a k]
theorem co_take {a : List Int} {n i : Nat} : co (a.take n) i = if i < n then co a i else 0 := by
  unfold co
  rw [List.getD_eq_getElem?_getD, List.getD_eq_getElem?_getD, List.getElem?_take]
  split <;> rfl
theorem co_trim (a : List Int) (i : Nat) : co (trim a) i = co a i := by
  unfold trim
  rw [co_take]
  split
  · rfl
  · rcases Nat.lt_or_ge i a.length with h | h
    · exact (sz_zero a _ i (by omega) h).symm
    · exact (co_ge h).symm
theorem ext_co {a b : List Int} (hl : a.length = b.length) (h : ∀ i, co a i = co b i) : a = b := by
  apply List.ext_getElem? 
  intro i
  rcases Nat.lt_or_ge i a.length with h1 | h1
  · rw [co_lt h1, co_lt (by omega), h i]
  · rw [List.getElem?_eq_none h1, List.getElem?_eq_none (by omega)]
theorem trim_ext {a b : List Int} (h : ∀ i, co a i = co b i) : trim a = trim b := by
  have e : sz a a.length = sz b b.length := by
    have h1 := sz_stable a b.length
    have h2 := sz_stable b a.length
    rw [← h1, ← h2, sz_congr h, Nat.add_comm]
  apply ext_co
  · unfold trim
    rw [List.length_take, List.length_take, e]
    have := sz_le a a.length
    have := sz_le b b.length
    omega
  · intro i; rw [co_trim, co_trim, h i]
theorem trim_trim (a : List Int) : trim (trim a) = trim a := trim_ext (co_trim a)
theorem trim_len (a : List Int) : (trim a).length ≤ a.length := by unfold trim; rw [List.length_take]; omega
theorem mem_trim {a : List Int} {x : Int} (h : x ∈ trim a) : x ∈ a := List.mem_of_mem_take h
theorem trim_eq_iff {a b : List Int} : trim a = trim b ↔ ∀ i, co a i = co b i := ⟨fun h i => by rw [← co_trim a, ← co_trim b, h], trim_ext⟩
/-! ### sums, multiples -/
def addS (a b : List Int) (g : Int) : List Int := (List.range (max a.length b.length)).map fun i => co a i + g * co b i
theorem co_map_range (f : Nat → Int) (n i : Nat) : co ((List.range n).map f) i = if i < n then f i else 0 := by
  unfold co
  rw [List.getD_eq_getElem?_getD, List.getElem?_map]
  split
  · rename_i h; rw [List.getElem?_range h]; rfl
  · rename_i h; rw [List.getElem?_eq_none (by simpa using h)]; rfl
theorem co_addS (a b : List Int) (g : Int) (i : Nat) : co (addS a b g) i = co a i + g * co b i := by
  unfold addS
  rw [co_map_range]
  split
  · rfl
  · rw [co_ge (a := a) (by omega), co_ge (a := b) (by omega)]; simp
theorem co_map {f : Int → Int} (h0 : f 0 = 0) (a : List Int) (i : Nat) : co (a.map f) i = f (co a i) := by
  unfold co
  rw [List.getD_eq_getElem?_getD, List.getD_eq_getElem?_getD, List.getElem?_map]
  cases a[i]? <;> simp [h0]
theorem trim_addS (a b : List Int) (g : Int) : trim (addS (trim a) (trim b) g) = trim (addS a b g) := trim_ext fun i => by simp only [co_addS, co_trim]
theorem trim_mul (a : List Int) (k : Int) : trim ((trim a).map (· * k)) = trim (a.map (k * ·)) := trim_ext fun i => by
  rw [co_map (by simp), co_map (by simp), co_trim, Int.mul_comm]
/-! ### values -/
def wt (t : Int) : Nat → Int
  | 0 => 1
  | k + 1 => wt t k * (t - k) / (k + 1)
def vs (a : List Int) (t : Int) : Nat → Int
  | 0 => 0
  | k + 1 => vs a t k + co a k * wt t k
def val (a : List Int) (t : Int) : Int := vs a t a.length
theorem vs_congr {a b : List Int} (h : ∀ i, co a i = co b i) (t : Int) : ∀ k, vs a t k = vs b t k
  | 0 => rfl
  | k + 1 => by unfold vs; rw [h k, vs_congr h t k]
theorem vs_stable (a : List Int) (t : Int) : ∀ k, vs a t (a.length + k) = vs a t a.length
  | 0 => rfl
  | k + 1 => by
    rw [← Nat.add_assoc]
    show vs a t (a.length + k) + co a (a.length + k) * _ = _
    rw [co_ge (by omega), vs_stable a t k]; simp
theorem val_congr {a b : List Int} (h : ∀ i, co a i = co b i) (t : Int) : val a t = val b t := by
  unfold val
  rw [← vs_stable a t b.length, ← vs_stable b t a.length, vs_congr h, Nat.add_comm]
theorem val_trim (a : List Int) (t : Int) : val (trim a) t = val a t := val_congr (co_trim a) t
/-! ### the table of differences -/
def ch : Nat → Nat → Int
  | _, 0 => 1
  | 0, _ + 1 => 0
  | t + 1, k + 1 => ch t k + ch t (k + 1)
theorem ch_step : ∀ (t k : Nat), ch t k * ((t : Int) - k) = ch t (k + 1) * (k + 1)
  | 0, 0 => by simp [ch]
  | 0, k + 1 => by simp [ch]
  | t + 1, 0 => by
    have h := ch_step t 0
    have e : ch (t + 1) (0 + 1) = ch t 0 + ch t (0 + 1) := rfl
    rw [e]
    have e1 : ch (t + 1) 0 = 1 := by unfold ch; rfl
    have e2 : ch t 0 = 1 := by cases t <;> rfl
    rw [e1]; rw [e2] at h ⊢
    push_cast at h ⊢
    omega
  | t + 1, k + 1 => by
    have h1 := ch_step t k
    have h2 := ch_step t (k + 1)
    have e : ch (t + 1) (k + 1 + 1) = ch t (k + 1) + ch t (k + 1 + 1) := rfl
    have e' : ch (t + 1) (k + 1) = ch t k + ch t (k + 1) := rfl
    rw [e, e']
    push_cast at h1 h2 ⊢
    grind
theorem wt_ch (t : Nat) : ∀ k, wt t k = ch t k
  | 0 => by cases t <;> rfl
  | k + 1 => by
    show wt t k * ((t : Int) - k) / (k + 1) = _
    rw [wt_ch t k, ch_step t k]
    exact Int.mul_ediv_cancel _ (by omega)
def sm (f : Nat → Int) : Nat → Int
  | 0 => 0
  | n + 1 => sm f n + f n
theorem sm_congr {f g : Nat → Int} : ∀ {n : Nat}, (∀ i, i < n → f i = g i) → sm f n = sm g n
  | 0, _ => rfl
  | n + 1, h => by unfold sm; rw [sm_congr fun i hi => h i (by omega), h n (by omega)]
theorem sm_add (f g : Nat → Int) : ∀ n, sm (fun i => f i + g i) n = sm f n + sm g n
  | 0 => rfl
  | n + 1 => by unfold sm; rw [sm_add f g n]; omega
theorem sm_shift (f : Nat → Int) : ∀ n, sm f (n + 1) = f 0 + sm (fun i => f (i + 1)) n
  | 0 => by simp [sm]
  | n + 1 => by
    show sm f (n + 1) + f (n + 1) = f 0 + (sm (fun i => f (i + 1)) n + f (n + 1))
    rw [sm_shift f n]; omega
theorem sm_stable (f : Nat → Int) (m : Nat) (h : ∀ i, m ≤ i → f i = 0) : ∀ k, sm f (m + k) = sm f m
  | 0 => rfl
  | k + 1 => by
    rw [← Nat.add_assoc]
    show sm f (m + k) + f (m + k) = _
    rw [sm_stable f m h k, h _ (by omega)]; simp
/-- the value behind t turns at place i -/
def S (a : List Int) : Nat → Nat → Int
  | 0, i => co a i
  | t + 1, i => S a t i + S a t (i + 1)
theorem S_sum (a : List Int) : ∀ (t i : Nat), S a t i = sm (fun k => ch t k * co a (i + k)) a.length
  | 0, i => by
    cases hn : a.length with
    | zero => show co a i = 0; exact co_ge (by omega)
    | succ n =>
      rw [sm_shift]
      show co a i = 1 * co a (i + 0) + _
      rw [sm_congr (g := fun _ => 0) (fun j _ => by simp [ch])]
      have z : ∀ n, sm (fun _ => 0) n = 0 := by
        intro n; induction n with
        | zero => rfl
        | succ n ih => unfold sm; rw [ih]; rfl
      rw [z]; simp
  | t + 1, i => by
    show S a t i + S a t (i + 1) = _
    rw [S_sum a t i, S_sum a t (i + 1)]
    have e1 : ∀ (u j : Nat), sm (fun k => ch u k * co a (j + k)) a.length = sm (fun k => ch u k * co a (j + k)) (a.length + 1) := fun u j => (sm_stable _ _ (fun k hk => by rw [co_ge (by omega)]; simp) 1).symm
    rw [e1 (t + 1) i, sm_shift, e1 t i, sm_shift]
    have c0 : ∀ u, ch u 0 = 1 := fun u => by cases u <;> rfl
    simp only [c0]
    have : sm (fun k => ch (t + 1) (k + 1) * co a (i + (k + 1))) a.length = sm (fun k => ch t k * co a (i + 1 + k) + ch t (k + 1) * co a (i + (k + 1))) a.length := by
      apply sm_congr
      intro k _
      show (ch t k + ch t (k + 1)) * _ = _
      rw [Int.add_mul, show i + 1 + k = i + (k + 1) by omega]
    rw [this, sm_add]
    omega
theorem vs_sm (a : List Int) (t : Int) : ∀ k, vs a t k = sm (fun i => co a i * wt t i) k
  | 0 => rfl
  | k + 1 => by unfold vs sm; rw [vs_sm a t k]
theorem val_S (a : List Int) (t : Nat) : val a t = S a t 0 := by
  unfold val
  rw [S_sum, vs_sm]
  exact sm_congr fun i _ => by rw [wt_ch, Int.mul_comm, Nat.zero_add]
/-! ### bounds -/
def Bn (n : Nat) (i : Int) : Prop := i.natAbs < 2 ^ n
theorem Bn.mono {n m : Nat} {i : Int} (h : Bn n i) (k : n ≤ m) : Bn m i := Nat.lt_of_lt_of_le h (Nat.pow_le_pow_right (by decide) k)
theorem Bn.mul {n m : Nat} {i j : Int} (h : Bn n i) (k : Bn m j) : Bn (n + m) (i * j) := by
  unfold Bn at *
  rw [Int.natAbs_mul, Nat.pow_add]
  exact Nat.mul_lt_mul'' h k
theorem Bn.add {n : Nat} {i j : Int} (h : Bn n i) (k : Bn n j) : Bn (n + 1) (i + j) := by
  unfold Bn at *
  have := Int.natAbs_add_le i j
  rw [Nat.pow_succ]; omega
theorem Bn.neg {n : Nat} {i : Int} (h : Bn n i) : Bn n (-i) := by unfold Bn at *; rw [Int.natAbs_neg]; exact h
theorem Bn.div {n : Nat} {i : Int} {k : Nat} (h : Bn n i) : Bn (n + 1) (i / ((k : Int) + 1)) := by
  unfold Bn at *
  have e := Int.natAbs_ediv_le_natAbs i ((k : Int) + 1)
  rw [Nat.pow_succ]; omega
theorem wt_bn {m : Nat} {t : Int} (ht : Bn m t) (hm : 4 ≤ m) : ∀ k, k ≤ 8 → Bn (1 + k * (m + 2)) (wt t k)
  | 0, _ => by unfold Bn; show (1 : Int).natAbs < 2 ^ (1 + 0 * (m + 2)); rw [Nat.zero_mul]; decide
  | k + 1, hk => by
    have ih := wt_bn ht hm k (by omega)
    have h1 : Bn (m + 1) (t - k) := by
      have hk' : Bn m (-(k : Int)) := by
        unfold Bn
        rw [Int.natAbs_neg, Int.natAbs_natCast]
        exact Nat.lt_of_lt_of_le (show k < 2 ^ 4 by omega) (Nat.pow_le_pow_right (by decide) hm)
      exact Bn.add ht hk'
    have h2 := (ih.mul h1).div (k := k)
    show Bn _ (wt t k * (t - k) / ((k : Int) + 1))
    refine h2.mono ?_
    rw [Nat.succ_mul]; omega
end Crs
end

section
set_option Elab.async false
set_option linter.all false
set_option maxRecDepth 100000
set_option maxHeartbeats 1000000
namespace Gn
open PySem L2 Rz Crs
abbrev Tu (ns : List Int) : D := .tup (ns.map .int)
abbrev Li (ns : List Int) : D := .lst (ns.map .int)
theorem lim_ok {k : Nat} (h : k ≤ 100000) : lim k = true := decide_eq_true h
theorem allB_map {α : Type} (f : α → Bool) (ns : List α) : allB (ns.map fun x => D.bl (f x)) = some (ns.map f) := by
  induction ns with
  | nil => rfl
  | cons a r ih => show (allB (r.map fun x => D.bl (f x))).map _ = _; rw [ih]; rfl
theorem allI_map (ns : List Int) : allI (ns.map D.int) = some ns := by
  induction ns with
  | nil => rfl
  | cons a r ih => show (allI (r.map D.int)).map _ = _; rw [ih]; rfl
theorem sum_li (ns : List Int) : biD .sum [Li ns] = some (.int ns.sum) := by
  show (allI (ns.map D.int)).map _ = _; rw [allI_map]; rfl
theorem bg_of {m : Nat} {i : Int} (h : Bn m i) (hm : m ≤ 8000) : bg i = true := decide_eq_true (h.mono hm)
theorem mul_of {i j : Int} (h : bg i = true) (k : bg j = true) : mulOk i j = true := by unfold mulOk; rw [h, k]; rfl
def Bs (m : Nat) (a : List Int) : Prop := ∀ x ∈ a, Bn m x
theorem Bn0 {m : Nat} : Bn m 0 := Nat.pow_pos (by decide)
theorem Bs.co {m : Nat} {a : List Int} (h : Bs m a) (i : Nat) : Bn m (co a i) := by
  rcases Nat.lt_or_ge i a.length with k | k
  · exact h _ (List.mem_of_getElem? (co_lt k))
  · rw [co_ge k]; exact Bn0
theorem Bs.mono {m n : Nat} {a : List Int} (h : Bs m a) (k : m ≤ n) : Bs n a := fun x hx => (h x hx).mono k
theorem repD_zero (k : Int) (h : k ≤ 1000) (h' : -1000 ≤ k) : repD [.int 0] k = some ((List.replicate k.toNat (0 : Int)).map D.int) := by
  unfold repD
  rw [decide_eq_true h', decide_eq_true h, decide_eq_true (show [D.int 0].length ≤ 4000 by decide)]
  simp only [Bool.and_true, cond_true]
  congr 1
  generalize k.toNat = k
  induction k with
  | zero => rfl
  | succ k ih => rw [List.replicate_succ, List.replicate_succ, List.flatten_cons, ih]; rfl
theorem bi_add (i j : Int) : Rz.binI .Add i j = some (i + j) := rfl
theorem bi_sub (i j : Int) : Rz.binI .Sub i j = some (i - j) := rfl
theorem bi_mul {i j : Int} (h : mulOk i j = true) : Rz.binI .Mult i j = some (i * j) := by
  show (bif mulOk i j then _ else _) = _; rw [h]; rfl
theorem bi_mulB {m k : Nat} {i j : Int} (h : Bn m i) (h' : Bn k j) (hm : m ≤ 8000) (hk : k ≤ 8000) : Rz.binI .Mult i j = some (i * j) := bi_mul (mul_of (bg_of h hm) (bg_of h' hk))
theorem bi_mulS {i j : Int} (h : i.natAbs < 2 ^ 64) : Rz.binI .Mult i j = some (i * j) := bi_mul (by unfold mulOk; rw [decide_eq_true h]; simp)
theorem bi_mulS2 {i j : Int} (h : j.natAbs < 2 ^ 64) : Rz.binI .Mult i j = some (i * j) := bi_mul (by unfold mulOk; rw [decide_eq_true h]; simp)
theorem bi_mod {i j : Int} (h : 0 < j) : Rz.binI .Mod i j = some (i % j) := by
  show (bif decide (0 < j) then _ else _) = _; rw [decide_eq_true h]; rfl
theorem bi_div {i j : Int} (h : 0 < j) (hb : bg j = true) : Rz.binI .FloorDiv i j = some (i / j) := by
  show (bif decide (0 < j) && bg j then _ else _) = _; rw [decide_eq_true h, hb]; rfl
theorem bi_pow {i : Int} {k : Nat} (h : i.natAbs < 2 ^ 64) (hk : k ≤ 1000) : Rz.binI .Pow i (k : Int) = some (i ^ k) := by
  show (bif decide (0 ≤ (k : Int)) && decide ((k : Int) ≤ 1000) && decide (i.natAbs < 2 ^ 64) then _ else _) = _
  rw [decide_eq_true (show (0 : Int) ≤ k by omega), decide_eq_true (show (k : Int) ≤ 1000 by omega), decide_eq_true h]
  simp
theorem ci_ge (i j : Int) : cmpI .GtE i j = some (decide (j ≤ i)) := rfl
theorem ci_lt (i j : Int) : cmpI .Lt i j = some (decide (i < j)) := rfl
theorem ci_le (i j : Int) : cmpI .LtE i j = some (decide (i ≤ j)) := rfl
theorem plain_ints (a : List Int) : D.plainL (a.map D.int) = true ∧ D.deepL (a.map D.int) = 0 := by
  induction a with
  | nil => exact ⟨rfl, rfl⟩
  | cons x r ih => exact ⟨by show (true && _) = true; rw [ih.1]; rfl, by show max 0 _ = 0; rw [ih.2]; rfl⟩
theorem cmpOk_tu (a : List Int) : (Tu a).cmpOk = true := by
  show (D.plainL (a.map D.int) && decide (D.deepL (a.map D.int) + 1 ≤ 20)) = true
  rw [(plain_ints a).1, (plain_ints a).2]; rfl
theorem cmpOk_li (a : List Int) : (Li a).cmpOk = true := cmpOk_tu a
theorem eqPL_ints : ∀ (a b : List Int), eqPL (a.map D.int) (b.map D.int) = (a == b)
  | [], [] => rfl
  | [], _ :: _ => rfl
  | _ :: _, [] => rfl
  | x :: a, y :: b => by
    show (eqF (.int x) (.int y) && eqPL (a.map D.int) (b.map D.int)) = _
    rw [eqPL_ints a b]; rfl
theorem eqP_tu (a b : List Int) : eqP (Tu a) (Tu b) = (a == b) := eqPL_ints a b
theorem eqP_li (a b : List Int) : eqP (Li a) (Li b) = (a == b) := eqPL_ints a b
theorem range_get {n i : Nat} {d : D} (h : (rangeD 0 n)[i]? = some d) : i < n ∧ d = D.int i := by
  unfold rangeD at h
  rw [List.getElem?_map] at h
  rcases Nat.lt_or_ge i n with k | k
  · rw [List.getElem?_range k] at h
    refine ⟨k, ?_⟩
    simp at h; exact h.symm
  · rw [List.getElem?_eq_none (by simpa using k)] at h; cases h
theorem range_len {n : Nat} : (rangeD 0 n).length = n := by unfold rangeD; simp
theorem ix_li {a : List Int} {k : Nat} (h : k < a.length) : ixD (Li a) (.int k) = some (.int (co a k)) := by
  show atI (a.map D.int) (k : Int) = _
  exact atI_nat (j := k) (v := D.int (co a k)) (by rw [List.getElem?_map, co_lt h]; rfl)
theorem ix_tu {a : List Int} {k : Nat} (h : k < a.length) : ixD (Tu a) (.int k) = some (.int (co a k)) := ix_li h
/-- the text of plain numbers -/
theorem fromLen : ∀ (ts : List Str) (k : Nat) (acc : Str) (B : Nat), (∀ t ∈ ts, t.length ≤ B) → (textFrom k acc ts).length ≤ acc.length + ts.length * (B + 2)
  | [], k, acc, B, _ => by simp [textFrom]
  | t :: r, k, acc, B, h => by
    have h1 := fromLen r (k + 1) (acc ++ (if k > 0 then ", " else "" : String) ++ t) B (fun t m => h t (List.mem_cons_of_mem _ m))
    have h2 := h t List.mem_cons_self
    have e : (acc ++ (if k > 0 then ", " else "" : String) ++ t).length ≤ acc.length + 2 + t.length := by
      rw [strLen_append, strLen_append]
      have : (Str.ofString (if k > 0 then ", " else "" : String)).length ≤ 2 := by split <;> decide
      omega
    show (textFrom (k + 1) (acc ++ (if k > 0 then ", " else "" : String) ++ t) r).length ≤ _
    rw [List.length_cons, Nat.add_mul]
    omega
theorem pyL_ints (a : List Int) : D.pyL (a.map D.int) = some (a.map PyData.int) := by
  induction a with
  | nil => rfl
  | cons x r ih =>
    show (match D.py (.int x) with | some p => (D.pyL (r.map D.int)).map (p :: ·) | none => none) = _
    rw [ih]; rfl
theorem showable_ints (a : List Int) (h : Bs 1920 a) : PyData.showableAll (a.map PyData.int) = true := by
  induction a with
  | nil => simp [PyData.showableAll]
  | cons x r ih =>
    have h1 : x.natAbs.log2 < 1920 := by
      have : x.natAbs < 2 ^ 1920 := h x List.mem_cons_self
      by_cases h0 : x.natAbs = 0
      · rw [h0]; decide
      · exact (Nat.log2_lt h0).mpr this
    simp only [List.map_cons, PyData.showableAll, PyData.showable, decide_eq_true h1, Bool.true_and]
    exact ih fun y m => h y (List.mem_cons_of_mem _ m)
theorem log_of {x : Int} (this : Bn 1920 x) : x.natAbs.log2 < 1920 := by
  have : x.natAbs < 2 ^ 1920 := this
  by_cases h0 : x.natAbs = 0
  · rw [h0]; decide
  · exact (Nat.log2_lt h0).mpr this
theorem text_len {x : Int} (h : Bn 1920 x) : (PyData.shown (.int x)).length ≤ 1921 := by
  rw [PyData.shown]
  exact PyProof.Rows.int_text_len_1921 (log_of h)
theorem piled_le (ts : List Str) (B : Nat) (h : ∀ t ∈ ts, t.length ≤ B) : piled ts ≤ ts.length * (B + 2) := by
  induction ts with
  | nil => simp [piled]
  | cons t r ih =>
    have := h t List.mem_cons_self
    have := ih fun t m => h t (List.mem_cons_of_mem _ m)
    rw [piled_cons, List.length_cons, Nat.add_mul]; omega
theorem tupLen (ts : List Str) (B : Nat) (h : ∀ t ∈ ts, t.length ≤ B) : (tupleText ts).length ≤ ts.length * (B + 2) + 5 := by
  unfold tupleText
  rw [strLen_append, strLen_append]
  have e1 : ((("(" : String) : Str)).length = 1 := rfl
  have e3 : (((if ts.length == 1 then ",)" else ")" : String) : Str)).length ≤ 2 := by split <;> decide
  rw [e1]
  have := piled_le ts B h
  by_cases hn : ts = []
  · subst hn
    have : (Str.join ", " []).length = 0 := rfl
    omega
  · have := join_length_add ts hn
    omega
theorem shownAll_len : ∀ (a : List Int), (PyData.shownAll (a.map PyData.int)).length = a.length
  | [] => by simp [PyData.shownAll]
  | x :: r => by simp [PyData.shownAll, shownAll_len r]
theorem shownAll_le (a : List Int) (h : Bs 1920 a) : ∀ t ∈ PyData.shownAll (a.map PyData.int), t.length ≤ 1921 := by
  induction a with
  | nil => intro t m; simp [PyData.shownAll] at m
  | cons x r ih =>
    intro t m
    rw [List.map_cons, PyData.shownAll] at m
    rcases List.mem_cons.mp m with rfl | m
    · exact text_len (h x List.mem_cons_self)
    · exact ih (fun y k => h y (List.mem_cons_of_mem _ k)) t m
section
variable {S : Type} [Pen S] {P : Pt} {call mk : Nat → List D → S → CRes S} {elt : CE} {tg : Tg} {it : CI} {τ τ1 τw : List Slot} {s s1 : S}
theorem filterMap_map {α : Type} (f : α → D) (g : α → Option Int) (ns : List α) (h : D → Option D) (hh : ∀ x ∈ ns, h (f x) = (g x).map D.int) : (ns.map f).filterMap h = (ns.filterMap g).map D.int := by
  induction ns with
  | nil => rfl
  | cons a r ih =>
    have ih := ih fun x m => hh x (List.mem_cons_of_mem _ m)
    rw [List.map_cons, List.filterMap_cons, hh a List.mem_cons_self, List.filterMap_cons]
    cases g a with
    | none => exact ih
    | some y => simp [ih]
/-- a comprehension over things that have a form -/
theorem evW_form {α : Type} (f : α → D) (hf : ∀ x y, f x = f y → x = y) (g : α → Option Int) (ns : List α) {cs : CAs} (hi : evI P call mk it τ s = .ok (ns.map f) τ1 s1) (hl : ns.length ≤ 100000) (hw : wipeT τ1 tg.slots = τw)
    (hb : ∀ x ∈ ns, ∃ τ', lcB P call mk elt tg cs (f x) τw s1 = .ok ((g x).map D.int) τ' s1 ∧ wipeT τ' tg.slots = τw) : evW P call mk (.lc elt tg it cs) τ s = .ok ((ns.filterMap g).map .int) (backT τ1 τw tg.slots) s1 := by
  have hW := @evW_map S _ P call mk elt tg it cs τ τ1 τw s s1 (ns.map f) (fun d => open Classical in if h : ∃ x, f x = d then (g h.choose).map D.int else none) hi (by simpa using hl) hw (fun d hd => by
    obtain ⟨x, hx, rfl⟩ := List.mem_map.mp hd
    obtain ⟨τ', e, k⟩ := hb x hx
    refine ⟨τ', ?_, k⟩
    have hex : ∃ y, f y = f x := ⟨x, rfl⟩
    rw [dif_pos hex, hf _ _ hex.choose_spec]
    exact e)
  rw [hW, filterMap_map f g ns]
  intro x hx
  have hex : ∃ y, f y = f x := ⟨x, rfl⟩
  simp only [dif_pos hex]
  rw [hf _ _ hex.choose_spec]
theorem evW_li (g : Int → Int) (ns : List Int) (hi : evI P call mk it τ s = .ok (ns.map D.int) τ1 s1) (hl : ns.length ≤ 100000) (hw : wipeT τ1 tg.slots = τw)
    (hb : ∀ x ∈ ns, ∃ τ', lcB P call mk elt tg .nil (.int x) τw s1 = .ok (some (.int (g x))) τ' s1 ∧ wipeT τ' tg.slots = τw) : evW P call mk (.lc elt tg it .nil) τ s = .ok ((ns.map g).map .int) (backT τ1 τw tg.slots) s1 := by
  have := evW_form (P := P) (call := call) (mk := mk) (elt := elt) (tg := tg) (it := it) (cs := .nil) D.int (fun _ _ h => D.int.inj h) (fun x => some (g x)) ns hi hl hw hb
  rw [this, List.filterMap_eq_map']
theorem evW_rng (g : Nat → Int) (n : Nat) (hi : evI P call mk it τ s = .ok (rangeD 0 n) τ1 s1) (hl : n ≤ 100000) (hw : wipeT τ1 tg.slots = τw)
    (hb : ∀ i, i < n → ∃ τ', lcB P call mk elt tg .nil (.int i) τw s1 = .ok (some (.int (g i))) τ' s1 ∧ wipeT τ' tg.slots = τw) : evW P call mk (.lc elt tg it .nil) τ s = .ok (((List.range n).map g).map .int) (backT τ1 τw tg.slots) s1 := by
  have e : rangeD 0 n = (List.range n).map fun i : Nat => D.int i := by unfold rangeD; simp
  have := evW_form (P := P) (call := call) (mk := mk) (elt := elt) (tg := tg) (it := it) (cs := .nil) (fun i : Nat => D.int i) (fun _ _ h => by have := D.int.inj h; omega) (fun x => some (g x)) (List.range n) (by rw [hi, e]) (by simpa using hl) hw (fun i hi => hb i (List.mem_range.mp hi))
  rw [this, List.filterMap_eq_map']
theorem evW_rngF (g : Nat → Int) (q : Nat → Bool) (n : Nat) {cs : CAs} (hi : evI P call mk it τ s = .ok (rangeD 0 n) τ1 s1) (hl : n ≤ 100000) (hw : wipeT τ1 tg.slots = τw)
    (hb : ∀ i, i < n → ∃ τ', lcB P call mk elt tg cs (.int i) τw s1 = .ok (bif q i then some (.int (g i)) else none) τ' s1 ∧ wipeT τ' tg.slots = τw) : evW P call mk (.lc elt tg it cs) τ s = .ok ((((List.range n).filter q).map g).map .int) (backT τ1 τw tg.slots) s1 := by
  have e : rangeD 0 n = (List.range n).map fun i : Nat => D.int i := by unfold rangeD; simp
  have := evW_form (P := P) (call := call) (mk := mk) (elt := elt) (tg := tg) (it := it) (cs := cs) (fun i : Nat => D.int i) (fun _ _ h => by have := D.int.inj h; omega) (fun x => bif q x then some (g x) else none) (List.range n) (by rw [hi, e]) (by simpa using hl) hw (fun i hi => by
    obtain ⟨τ', e, k⟩ := hb i (List.mem_range.mp hi)
    refine ⟨τ', ?_, k⟩
    rw [e]; cases q i <;> rfl)
  rw [this]
  congr 2
  generalize List.range n = l
  induction l with
  | nil => rfl
  | cons a r ih => rw [List.filterMap_cons, List.filter_cons, ih]; cases q a <;> rfl
theorem evW_zip (g : Int → Int → Int) (A B : List Int) (hi : evI P call mk it τ s = .ok (((A.map D.int).zip (B.map D.int)).map fun p => D.tup [p.1, p.2]) τ1 s1) (hl : A.length ≤ 100000) (hw : wipeT τ1 tg.slots = τw)
    (hb : ∀ x y, (x, y) ∈ A.zip B → ∃ τ', lcB P call mk elt tg .nil (.tup [.int x, .int y]) τw s1 = .ok (some (.int (g x y))) τ' s1 ∧ wipeT τ' tg.slots = τw) : evW P call mk (.lc elt tg it .nil) τ s = .ok (((A.zip B).map fun p => g p.1 p.2).map .int) (backT τ1 τw tg.slots) s1 := by
  have e : ((A.map D.int).zip (B.map D.int)).map (fun p => D.tup [p.1, p.2]) = (A.zip B).map fun p => D.tup [.int p.1, .int p.2] := by
    rw [List.zip_map, List.map_map]; rfl
  have := evW_form (P := P) (call := call) (mk := mk) (elt := elt) (tg := tg) (it := it) (cs := .nil) (fun p : Int × Int => D.tup [.int p.1, .int p.2]) (fun x y h => by
    injection h with h
    injection h with h1 h2
    injection h2 with h2 h3
    injection h1 with h1
    injection h2 with h2
    exact Prod.ext h1 h2) (fun p => some (g p.1 p.2)) (A.zip B) (by rw [hi, e]) (by rw [List.length_zip]; omega) hw (fun p hp => hb p.1 p.2 hp)
  rw [this, List.filterMap_eq_map']
end
/-! truths -/
abbrev Bt (bs : List Bool) : D := .tup (bs.map .bl)
abbrev Bl (bs : List Bool) : D := .lst (bs.map .bl)
theorem plain_bools (a : List Bool) : D.plainL (a.map D.bl) = true ∧ D.deepL (a.map D.bl) = 0 := by
  induction a with
  | nil => exact ⟨rfl, rfl⟩
  | cons x r ih => exact ⟨by show (true && _) = true; rw [ih.1]; rfl, by show max 0 _ = 0; rw [ih.2]; rfl⟩
theorem cmpOk_bt (a : List Bool) : (Bt a).cmpOk = true := by
  show (D.plainL (a.map D.bl) && decide (D.deepL (a.map D.bl) + 1 ≤ 20)) = true
  rw [(plain_bools a).1, (plain_bools a).2]; rfl
theorem eqPL_bools : ∀ (a b : List Bool), eqPL (a.map D.bl) (b.map D.bl) = (a == b)
  | [], [] => rfl
  | [], _ :: _ => rfl
  | _ :: _, [] => rfl
  | x :: a, y :: b => by
    show (eqF (.bl x) (.bl y) && eqPL (a.map D.bl) (b.map D.bl)) = _
    rw [eqPL_bools a b]; rfl
theorem eqP_bt (a b : List Bool) : eqP (Bt a) (Bt b) = (a == b) := eqPL_bools a b
theorem allB_bools (a : List Bool) : allB (a.map D.bl) = some a := by
  have := allB_map (fun x : Bool => x) a
  simpa using this
theorem flat_ints (a : List Int) : (a.map D.int).all D.flat = true := by
  induction a with
  | nil => rfl
  | cons x r ih => show (true && _) = true; rw [ih]; rfl
theorem inF_int (x : Int) (a : List Int) : inF (.int x) (a.map D.int) = decide (x ∈ a) := by
  unfold inF
  induction a with
  | nil => rfl
  | cons y r ih =>
    rw [List.map_cons, List.any_cons, ih]
    show ((y == x) || decide (x ∈ r)) = decide (x ∈ y :: r)
    by_cases h : y = x
    · subst h; simp
    · have : (y == x) = false := by simpa using h
      rw [this, Bool.false_or]
      by_cases h2 : x ∈ r
      · simp [h2]
      · simp [h2]; exact fun z => h z.symm
/-! dicts whose values play no part -/
theorem dput_len : ∀ (ks : List Key) (vs : List D) (k : Key) (v : D), ks.length = vs.length → (dctPut ks vs k v).1.length = (dctPut ks vs k v).2.length
  | [], [], _, _, _ => rfl
  | a :: ks, d :: vs, k, v, h => by
    unfold dctPut
    split
    · simpa using h
    · have := dput_len ks vs k v (by simpa using h)
      simp [this]
  | [], _ :: _, _, _, h => by cases h
  | _ :: _, [], _, _, h => by cases h
theorem dput_get : ∀ (ks : List Key) (vs : List D) (k : Key) (v : D) (x : Key), ks.length = vs.length → (dctGet (dctPut ks vs k v).1 (dctPut ks vs k v).2 x).isSome = (decide (x = k) || (dctGet ks vs x).isSome)
  | [], [], k, v, x, _ => by
    show (if k = x then some v else dctGet [] [] x).isSome = _
    by_cases h : k = x
    · rw [if_pos h, decide_eq_true h.symm]; rfl
    · rw [if_neg h, decide_eq_false (fun z => h z.symm)]; rfl
  | a :: ks, d :: vs, k, v, x, h => by
    have ih := dput_get ks vs k v x (by simpa using h)
    unfold dctPut
    split
    · rename_i e
      subst e
      show (if a = x then some v else dctGet ks vs x).isSome = (decide (x = a) || (if a = x then some d else dctGet ks vs x).isSome)
      by_cases q : a = x
      · rw [if_pos q, decide_eq_true q.symm]; rfl
      · rw [if_neg q, if_neg q, decide_eq_false (fun z => q z.symm)]; rfl
    · rename_i e
      show (if a = x then some d else dctGet (dctPut ks vs k v).1 (dctPut ks vs k v).2 x).isSome = (decide (x = k) || (if a = x then some d else dctGet ks vs x).isSome)
      by_cases q : a = x
      · rw [if_pos q, if_pos q]; simp
      · rw [if_neg q, if_neg q]; exact ih
  | [], _ :: _, _, _, _, h => by cases h
  | _ :: _, [], _, _, _, h => by cases h
section
variable {S : Type}
/-- {k: v for k in ints} -/
theorem dcL_ints {body : D → List Slot → S → Out S (Key × D)} {is : List Nat} {s : S} {τw : List Slot} (v : D) : ∀ (ns : List Int) (ks : List Key) (vs : List D) (τ : List Slot), wipeT τ is = τw → ks.length = vs.length →
    (∀ x ∈ ns, ∃ τ', body (.int x) τw s = .ok (.inl x, v) τ' s ∧ wipeT τ' is = τw) →
    ∃ ks' vs' τ', dcL body is (ns.map D.int) ks vs τ s = .ok (ks', vs') τ' s ∧ wipeT τ' is = τw ∧ ks'.length = vs'.length ∧ ∀ x : Int, (dctGet ks' vs' (.inl x)).isSome = (decide (x ∈ ns) || (dctGet ks vs (.inl x)).isSome)
  | [], ks, vs, τ, h, hl, _ => ⟨ks, vs, τ, rfl, h, hl, fun x => by simp⟩
  | y :: r, ks, vs, τ, h, hl, hb => by
    obtain ⟨τ1, e1, h1⟩ := hb y List.mem_cons_self
    obtain ⟨ks', vs', τ2, e2, h2, l2, g2⟩ := dcL_ints v r (dctPut ks vs (.inl y) v).1 (dctPut ks vs (.inl y) v).2 τ1 h1 (dput_len _ _ _ _ hl) (fun x m => hb x (List.mem_cons_of_mem _ m))
    refine ⟨ks', vs', τ2, ?_, h2, l2, fun x => ?_⟩
    · rw [List.map_cons]
      simp only [dcL, h, e1, Out.bind]
      exact e2
    · rw [g2, dput_get _ _ _ _ _ hl]
      by_cases q : x = y
      · subst q; simp
      · have : decide ((Sum.inl x : Key) = Sum.inl y) = false := decide_eq_false (fun z => q (Sum.inl.inj z))
        rw [this, Bool.false_or]
        congr 1
        by_cases m : x ∈ r <;> simp [q, m]
/-- a comprehension over things that have a form -/
theorem lcL_gen {α : Type} {body : D → List Slot → S → Out S (Option D)} {is : List Nat} {s : S} {τw : List Slot} (f : α → D) (g : α → Option D) : ∀ (ns : List α) (acc : List D) (τ : List Slot), wipeT τ is = τw → (∀ x ∈ ns, ∃ τ', body (f x) τw s = .ok (g x) τ' s ∧ wipeT τ' is = τw) →
    ∃ τ', lcL body is (ns.map f) acc τ s = .ok (acc ++ ns.filterMap g) τ' s ∧ wipeT τ' is = τw
  | [], acc, τ, h, _ => ⟨τ, by simp [lcL], h⟩
  | x :: r, acc, τ, h, hb => by
    obtain ⟨τ1, e1, h1⟩ := hb x List.mem_cons_self
    cases hg : g x with
    | none =>
      obtain ⟨τ2, e2, h2⟩ := lcL_gen f g r acc τ1 h1 (fun y m => hb y (List.mem_cons_of_mem _ m))
      refine ⟨τ2, ?_, h2⟩
      rw [List.map_cons]
      simp only [lcL, h, e1, Out.bind, hg, List.filterMap_cons]
      exact e2
    | some y =>
      obtain ⟨τ2, e2, h2⟩ := lcL_gen f g r (acc ++ [y]) τ1 h1 (fun y m => hb y (List.mem_cons_of_mem _ m))
      refine ⟨τ2, ?_, h2⟩
      rw [List.map_cons]
      simp only [lcL, h, e1, Out.bind, hg, List.filterMap_cons]
      rw [e2, List.append_assoc]; rfl
theorem evW_gen {α : Type} [Pen S] {P : Pt} {call mk : Nat → List D → S → CRes S} {elt : CE} {tg : Tg} {it : CI} {cs : CAs} {τ τ1 τw : List Slot} {s s1 : S} (f : α → D) (g : α → Option D) (ns : List α) (hi : evI P call mk it τ s = .ok (ns.map f) τ1 s1) (hl : ns.length ≤ 100000) (hw : wipeT τ1 tg.slots = τw)
    (hb : ∀ x ∈ ns, ∃ τ', lcB P call mk elt tg cs (f x) τw s1 = .ok (g x) τ' s1 ∧ wipeT τ' tg.slots = τw) : evW P call mk (.lc elt tg it cs) τ s = .ok (ns.filterMap g) (backT τ1 τw tg.slots) s1 := by
  obtain ⟨τ2, e2, h2⟩ := lcL_gen (body := lcB P call mk elt tg cs) f g ns [] τ1 hw hb
  rw [List.nil_append] at e2
  rw [evW_lc, hi]
  have h : lim (ns.map f).length = true := lim_ok (by simpa using hl)
  simp only [Out.bind, h, cond_true, e2]
  show Out.ok _ (backT τ1 τ2 tg.slots) s1 = _
  rw [backT_wipe, h2]
theorem nxt [Pen S] {P : Pt} {call mk : Nat → List D → S → CRes S} {c : CS} {r : CSs} {τ τ' : List Slot} {s s' : S} {R : Out S Fl} (h : ex P call mk c τ s = .ok .next τ' s') (k : exs P call mk r τ' s' = R) : exs P call mk (.cons c r) τ s = R := by
  rw [← k]; simp only [exs, h, Out.bind]
end
section
variable {S : Type} [Pen S]
/-- a dict comprehension's turn -/
def dcB (P : Pt) (call mk : Nat → List D → S → CRes S) (kt vt : CE) (tg : Tg) (d : D) (τ : List Slot) (s : S) : Out S (Key × D) :=
  match bindT tg d τ with
  | some τ => ((ev P call mk kt τ s).bind fun k τ s => (ev P call mk vt τ s).bind fun v τ s => match Rz.keyOf k with
    | some k => .ok (k, v) τ s
    | none => .no).nx
  | none => .no
theorem ev_dc {P : Pt} {call mk : Nat → List D → S → CRes S} {kt vt : CE} {tg : Tg} {it : CI} {τ : List Slot} {s : S} : ev P call mk (.dcomp kt vt tg it) τ s = (evI P call mk it τ s).bind fun ds τ1 s => bif lim ds.length then (dcL (dcB P call mk kt vt tg) tg.slots ds [] [] τ1 s).bind fun p τ2 s => .ok (.dct p.1 p.2) (backT τ1 τ2 tg.slots) s else .no := by
  simp only [ev]; rfl
end
theorem wh_false {S : Type} {c : List Slot → S → Out S Bool} {b : List Slot → S → Out S Fl} {k : Nat} {τ τ' : List Slot} {s s' : S} (h : c τ s = .ok false τ' s') : whileL c b (k + 1) τ s = .ok .next τ' s' := by
  simp only [whileL, h, Out.bind, cond_false]
theorem wh_next {S : Type} {c : List Slot → S → Out S Bool} {b : List Slot → S → Out S Fl} {k : Nat} {τ τ' τ2 : List Slot} {s s' s2 : S} (h : c τ s = .ok true τ' s') (hb : b τ' s' = .ok .next τ2 s2) : whileL c b (k + 1) τ s = whileL c b k τ2 s2 := by
  simp only [whileL, h, hb, Out.bind, cond_true]
theorem wh_ret {S : Type} {c : List Slot → S → Out S Bool} {b : List Slot → S → Out S Fl} {k : Nat} {τ τ' τ2 : List Slot} {s s' s2 : S} {d : D} (h : c τ s = .ok true τ' s') (hb : b τ' s' = .ok (.ret d) τ2 s2) : whileL c b (k + 1) τ s = .ok (.ret d) τ2 s2 := by
  simp only [whileL, h, hb, Out.bind, cond_true]
theorem p64 : (2 : Nat) ^ 64 = 18446744073709551616 := by decide
def tl : CSs → CSs
  | .cons _ r => r
  | .nil => .nil
theorem rngD_eq (p : Nat) : rangeD 0 p = (List.range p).map fun (i : Nat) => D.int i := by unfold rangeD; simp
theorem fm_filter {α : Type} (q : α → Bool) (f : α → D) (l : List α) : l.filterMap (fun x => bif q x then some (f x) else none) = (l.filter q).map f := by
  induction l with
  | nil => rfl
  | cons a r ih => rw [List.filterMap_cons, List.filter_cons, ih]; cases q a <;> rfl
theorem fm_map {α : Type} (f : α → D) (l : List α) : l.filterMap (fun x => some (f x)) = l.map f := by
  induction l with
  | nil => rfl
  | cons a r ih => rw [List.filterMap_cons, ih]; rfl
theorem ix_bt {bs : List Bool} {k : Nat} (h : k < bs.length) : ixD (Bt bs) (.int k) = some (.bl (bs.getD k false)) := by
  show atI (bs.map D.bl) (k : Int) = _
  exact atI_nat (j := k) (v := D.bl (bs.getD k false)) (by rw [List.getElem?_map, List.getD_eq_getElem?_getD, List.getElem?_eq_getElem h]; rfl)
theorem ix_bl {bs : List Bool} {k : Nat} (h : k < bs.length) : ixD (Bl bs) (.int k) = some (.bl (bs.getD k false)) := ix_bt h
theorem ins_len (x : Int) : ∀ l : List Int, (insI x l).length ≤ l.length + 1
  | [] => by simp [insI]
  | y :: r => by
    unfold insI
    split
    · simp
    · split
      · simp
      · have := ins_len x r
        simp; omega
theorem sort_len : ∀ l : List Int, (sortI l).length ≤ l.length
  | [] => by simp [sortI]
  | x :: r => by
    have h1 := sort_len r
    have h2 := ins_len x (sortI r)
    show (insI x (sortI r)).length ≤ _
    simp; omega
theorem rep_flat {α : Type} (f : α → D) (bs : List α) : ∀ k, (List.replicate k (bs.map f)).flatten = ((List.replicate k bs).flatten).map f
  | 0 => rfl
  | k + 1 => by rw [List.replicate_succ, List.replicate_succ, List.flatten_cons, List.flatten_cons, List.map_append, rep_flat f bs k]
end Gn
end

section
set_option Elab.async false
set_option linter.all false
set_option maxRecDepth 100000
set_option maxHeartbeats 1000000
namespace K01
open PySem L2 Rz Crs Gn
abbrev G := pd.prg
local macro_rules | `(tactic| walk_at "sx") => `(tactic| simp only [runF, runI, bindF, start', exs, ex, ev, evA, evO, evC, evI, evX, evTs, evV, Out.bind, Out.of, Out.nx, CRes.out, binV, unV, truV, cmpV, eqV', attrV, ixV, bxV, augV, callM, binD, inVv, notD, slD, biD, starOf, itemsV, bindT, bindN, Tg.slots, D.scalar, sameOrBt, declOk, D.tn, Slot.frz, madeI,
  List.map_cons, List.map_nil, List.length_cons, List.length_nil, List.append_nil, List.nil_append, List.cons_append, List.getElem?_cons_zero, List.getElem?_cons_succ, List.set_cons_zero, List.set_cons_succ, List.replicate_zero, List.replicate_succ, List.drop_nil, List.drop_succ_cons, List.drop_zero, List.take_succ_cons, List.take_zero, cond_true, cond_false, decide_true, decide_false, Bool.and_true, Bool.true_and, Bool.and_false, Bool.false_and, Nat.le_refl, Option.map_some, Option.map_none, Bool.not_true, Bool.not_false, Nat.reduceSub, Nat.reduceAdd, Nat.reduceLeDiff, Nat.zero_add, Nat.add_zero, Nat.sub_zero, beq_self_eq_true, Nat.reduceBEq, *])
section
variable {n : Nat}
def tl : CSs → CSs
  | .cons _ r => r
  | .nil => .nil
theorem ixV_li {a : List Int} {k : Nat} (h : k < a.length) {S : Type} (τ : List Slot) (s : S) : ixV (Li a) (.int k) τ s = .ok (.int (co a k)) τ s := by
  show Out.of (ixD (Li a) (.int k)) τ s = _
  rw [ix_li h]
  rfl
/-- the bag between draws -/
def OkB (s : BP) : Prop := s.cells.length ≤ 63 ∧ 0 ≤ s.at_ ∧ s.at_ ≤ s.cells.length ∧ 0 ≤ s.st ∧ s.st < 2147483648
theorem p64 : (2 : Nat) ^ 64 = 18446744073709551616 := by decide
theorem wh_false {S : Type} {c : List Slot → S → Out S Bool} {b : List Slot → S → Out S Fl} {k : Nat} {τ τ' : List Slot} {s s' : S} (h : c τ s = .ok false τ' s') : whileL c b (k + 1) τ s = .ok .next τ' s' := by
  simp only [whileL, h, Out.bind, cond_false]
theorem wh_next {S : Type} {c : List Slot → S → Out S Bool} {b : List Slot → S → Out S Fl} {k : Nat} {τ τ' τ2 : List Slot} {s s' s2 : S} (h : c τ s = .ok true τ' s') (hb : b τ' s' = .ok .next τ2 s2) : whileL c b (k + 1) τ s = whileL c b k τ2 s2 := by
  simp only [whileL, h, hb, Out.bind, cond_true]
theorem wh_ret {S : Type} {c : List Slot → S → Out S Bool} {b : List Slot → S → Out S Fl} {k : Nat} {τ τ' τ2 : List Slot} {s s' s2 : S} {d : D} (h : c τ s = .ok true τ' s') (hb : b τ' s' = .ok (.ret d) τ2 s2) : whileL c b (k + 1) τ s = .ok (.ret d) τ2 s2 := by
  simp only [whileL, h, hb, Out.bind, cond_true]
theorem g0 (cells : List Int) (x y z : Int) : Pen.get (.str (PySem.Str.ofString "cells")) (⟨cells, x, y, z⟩ : BP) = some (Li cells) := rfl
theorem g1 (cells : List Int) (x y z : Int) : Pen.get (.str (PySem.Str.ofString "at")) (⟨cells, x, y, z⟩ : BP) = some (.int x) := rfl
theorem g2 (cells : List Int) (x y z : Int) : Pen.get (.str (PySem.Str.ofString "rest")) (⟨cells, x, y, z⟩ : BP) = some (.int y) := rfl
theorem g3 (cells : List Int) (x y z : Int) : Pen.get (.str (PySem.Str.ofString "state")) (⟨cells, x, y, z⟩ : BP) = some (.int z) := rfl
theorem u1 (cells : List Int) (x y z v : Int) : Pen.put (.str (PySem.Str.ofString "at")) (.int v) (⟨cells, x, y, z⟩ : BP) = some ⟨cells, v, y, z⟩ := rfl
theorem u2 (cells : List Int) (x y z v : Int) : Pen.put (.str (PySem.Str.ofString "rest")) (.int v) (⟨cells, x, y, z⟩ : BP) = some ⟨cells, x, v, z⟩ := rfl
theorem u3 (cells : List Int) (x y z v : Int) : Pen.put (.str (PySem.Str.ofString "state")) (.int v) (⟨cells, x, y, z⟩ : BP) = some ⟨cells, x, y, v⟩ := rfl
theorem pow_bn {x : Int} {m : Nat} (h : Bn m x) : ∀ k, Bn (m * k + 1) (x ^ k)
  | 0 => by rw [Int.pow_zero]; exact Bn.mono (n := 1) (show (1 : Int).natAbs < 2 ^ 1 by decide) (by omega)
  | k + 1 => by
    rw [Int.pow_succ]
    exact ((pow_bn h k).mul h).mono (by rw [Nat.mul_succ]; omega)
theorem st_bound {st : Int} (h2 : 0 ≤ st) (h3 : st < 2147483648) : ∃ v, v = (st * 16807 + 19) % 2147483647 ∧ 0 ≤ v ∧ v < 2147483648 := ⟨_, rfl, Int.emod_nonneg _ (by decide), by have := Int.emod_lt_of_pos (st * 16807 + 19) (show (0 : Int) < 2147483647 by decide); omega⟩
theorem draw_tail (m : Int) (s : BP) (hs : OkB s) (hm : 0 < m) (hm2 : bg m = true) (x2 : Slot) (hx : x2.frz = x2) : ∃ r τ s', exs pd.pt (callN G n) (mkN G n) (tl f1__law_draw.body) [.fz .pen, .fz (.int m), x2, .none, .none] s = .ok (.ret (.int r)) τ s' ∧ 0 ≤ r ∧ r < m ∧ OkB s' := by
  obtain ⟨cells, at_, rest, st⟩ := s
  obtain ⟨hc, h0, h1, h2, h3⟩ := hs
  simp only at hc h0 h1 h2 h3
  have c1 := @ci_ge
  let τ0 : List Slot := [.fz .pen, .fz (.int m), x2, .none, .none]
  have m1 : ∀ i : Int, Rz.binI .Mod i m = some (i % m) := fun i => bi_mod hm
  have d1 : ∀ i : Int, Rz.binI .FloorDiv i m = some (i / m) := fun i => bi_div hm hm2
  have ht : evTs pd.pt (callN G n) (mkN G n) (.cmp .GtE (.pix (.v 0) (.str (PySem.Str.ofString "rest"))) (.k (.int 2))) τ0 ⟨cells, at_, rest, st⟩ = .ok (decide (2 ≤ rest)) τ0 ⟨cells, at_, rest, st⟩ := by
    have := g2 cells at_ rest st
    simp only [τ0]
    clear hc h0 h1 h2 h3
    walk_at "sx"
  by_cases hg : 2 ≤ rest
  · rw [decide_eq_true hg] at ht
    refine ⟨rest % m, [.fz .pen, .fz (.int m), x2, .none, .fz (.int (rest % m))], ⟨cells, at_, rest / m, st⟩, ?_, Int.emod_nonneg _ (by omega), Int.emod_lt_of_pos _ hm, hc, h0, h1, h2, h3⟩
    refine exs_ret ((ex_ite (τ' := []) ht).trans ?_)
    have q1 := g2 cells at_ rest st
    have q2 := u2 cells at_ rest st (rest / m)
    simp only [τ0, cond_true]
    clear ht hc h0 h1 h2 h3
    walk_at "sx"
  · rw [decide_eq_false hg] at ht
    obtain ⟨v, hv, v0, v1⟩ := st_bound h2 h3
    have hpb : v.natAbs < 2 ^ 64 := by rw [p64]; omega
    refine ⟨v ^ 5 % 2147483629 % m, τ0, ⟨cells, at_, rest, v⟩, ?_, Int.emod_nonneg _ (by omega), Int.emod_lt_of_pos _ hm, hc, h0, h1, v0, v1⟩
    refine (exs_next (τ' := τ0) (s' := ⟨cells, at_, rest, st⟩) (ex_ite (τ' := []) ht)).trans ?_
    refine (exs_next (τ' := τ0) (s' := ⟨cells, at_, rest, v⟩) ?_).trans ?_
    · have q1 := g3 cells at_ rest st
      have q2 := u3 cells at_ rest st v
      have q3 := bi_mulS2 (i := st) (j := 16807) (by decide)
      have q4 := bi_add (st * 16807) 19
      have q5 := bi_mod (i := st * 16807 + 19) (j := 2147483647) (by decide)
      rw [← hv] at q5
      simp only [τ0]
      clear ht hc h0 h1 h2 h3 hv v0 v1 m1 d1
      walk_at "sx"
    refine exs_ret ?_
    have q1 := g3 cells at_ rest v
    have q2 : Rz.binI .Pow v 5 = some (v ^ 5) := bi_pow (k := 5) hpb (by decide)
    have q3 := bi_mod (i := v ^ 5) (j := 2147483629) (by decide)
    simp only [τ0]
    clear ht hc h0 h1 h2 h3 hv v0 v1 d1 hpb
    walk_at "sx"
theorem draw_ok (m : Int) (s : BP) (hs : OkB s) (hm : 0 < m) (hm2 : bg m = true) : ∃ r s', callN G (n+1) 1 [.pen, .int m] s = .ok (.int r) s' ∧ 0 ≤ r ∧ r < m ∧ OkB s' := by
  have hs0 := hs
  obtain ⟨cells, at_, rest, st⟩ := s
  obtain ⟨hc, h0, h1, h2, h3⟩ := hs
  simp only at hc h0 h1 h2 h3
  let τ0 : List Slot := [.fz .pen, .fz (.int m), .none, .none, .none]
  let cE : CE := .tand (.cmp .Lt (.pix (.v 0) (.str (PySem.Str.ofString "rest"))) (.k (.int 2))) (.cmp .Lt (.pix (.v 0) (.str (PySem.Str.ofString "at"))) (.bi .len (.cons false (.pix (.v 0) (.str (PySem.Str.ofString "cells"))) .nil)))
  have hcond : ∀ (x2 : Slot) (a r : Int), x2.frz = x2 → evTs pd.pt (callN G n) (mkN G n) cE [.fz .pen, .fz (.int m), x2, .none, .none] ⟨cells, a, r, st⟩ = .ok (decide (r < 2) && decide (a < (cells.length : Int))) [.fz .pen, .fz (.int m), x2, .none, .none] ⟨cells, a, r, st⟩ := by
    intro x2 a r hx
    have q1 := g2 cells a r st
    have q2 := g1 cells a r st
    have q3 := g0 cells a r st
    have q4 : biD .len [Li cells] = some (.int (cells.length : Nat)) := by show some (D.int ((cells.map D.int).length : Nat)) = _; rw [List.length_map]
    have q5 := ci_lt r 2
    have q6 := ci_lt a (cells.length : Int)
    simp only [evTs, ev, evA, cE, List.map_cons, List.map_nil, Slot.frz, hx, List.getElem?_cons_zero, q1, q2, q3, q4, q5, q6, Out.bind, Out.of, cmpV, truV, Option.map_some, cond_false]
    cases hd : decide (r < 2) with
    | true => simp only [cond_true, Bool.true_and]
    | false => simp only [cond_false, Bool.false_and]
  have fin : ∀ {r : Int} {τ : List Slot} {s' : BP}, exs pd.pt (callN G n) (mkN G n) f1__law_draw.body τ0 ⟨cells, at_, rest, st⟩ = .ok (.ret (.int r)) τ s' → callN G (n+1) 1 [.pen, .int m] ⟨cells, at_, rest, st⟩ = .ok (.int r) s' := fun h => by
    show runF pd.pt (callN G n) (mkN G n) f1__law_draw [.pen, .int m] _ = _
    exact runF_ret rfl h
  have h1c := hcond .none at_ rest rfl
  cases hd : (decide (rest < 2) && decide (at_ < (cells.length : Int))) with
  | false =>
    rw [hd] at h1c
    obtain ⟨r, τ, s', e, r0, r1, ok⟩ := draw_tail (n := n) m ⟨cells, at_, rest, st⟩ hs0 hm hm2 .none rfl
    refine ⟨r, s', fin (τ := τ) ?_, r0, r1, ok⟩
    refine Eq.trans (exs_next (r := tl f1__law_draw.body) (τ' := τ0) (s' := ⟨cells, at_, rest, st⟩) ?_) e
    rw [ex]
    exact wh_false (k := 999999) h1c
  | true =>
    rw [hd] at h1c
    simp only [Bool.and_eq_true, decide_eq_true_eq] at hd
    obtain ⟨hr, hlt⟩ := hd
    let cell : Int := if co cells at_.toNat < 0 then -(co cells at_.toNat) else co cells at_.toNat
    have hcell : 0 ≤ cell := by simp only [cell]; split <;> omega
    have hat : ((at_.toNat : Nat) : Int) = at_ := Int.toNat_of_nonneg h0
    let τ1 : List Slot := [.fz .pen, .fz (.int m), .fz (.int cell), .none, .none]
    let s1 : BP := ⟨cells, at_ + 1, rest, st⟩
    have ok1 : OkB s1 := ⟨hc, by simp only [s1]; omega, by simp only [s1]; omega, h2, h3⟩
    let b1 : CSs := match f1__law_draw.body with | .cons (.while _ b) _ => b | _ => .nil
    have e12 : exs pd.pt (callN G n) (mkN G n) b1 τ0 ⟨cells, at_, rest, st⟩ = exs pd.pt (callN G n) (mkN G n) (tl (tl b1)) τ1 s1 := by
      refine (exs_next (τ' := τ1) (s' := ⟨cells, at_, rest, st⟩) ?_).trans (exs_next (τ' := τ1) (s' := s1) ?_)
      · have q1 := g0 cells at_ rest st
        have q2 := g1 cells at_ rest st
        have q3 := ixV_li (s := (⟨cells, at_, rest, st⟩ : BP)) (a := cells) (k := at_.toNat) (by omega)
        rw [hat] at q3
        have q4 : biD .abs [.int (co cells at_.toNat)] = some (.int cell) := rfl
        simp only [ex, evX, ev, evA, Out.bind, Out.of, List.getElem?_cons_zero, q1, q2, q3, q4, cond_false, τ0, τ1, List.set_cons_zero, List.set_cons_succ]
      · have q2 := g1 cells at_ rest st
        have q3 := u1 cells at_ rest st (at_ + 1)
        have q4 := bi_add at_ 1
        simp only [ex, ev, Out.bind, Out.of, List.getElem?_cons_zero, q2, q3, q4, binV, binD, Option.map_some, τ1, s1]
    have hp' : Rz.binI .Pow 10 18 = some (10 ^ 18) := bi_pow (i := 10) (k := 18) (by decide) (by decide)
    have htc : evTs pd.pt (callN G n) (mkN G n) (.cmp .Lt (.v 2) (.bin .Pow (.k (.int 10)) (.k (.int 18)))) τ1 s1 = .ok (decide (cell < 10 ^ 18)) τ1 s1 := by
      have q := ci_lt cell (10 ^ 18)
      simp only [evTs, ev, τ1, List.map_cons, List.map_nil, Slot.frz, List.getElem?_cons_zero, List.getElem?_cons_succ, Out.bind, Out.of, binV, binD, hp', Option.map_some, cmpV, q, truV]
    by_cases hcl : cell < 10 ^ 18
    · rw [decide_eq_true hcl] at htc
      let mixed : Int := ((cell + 7) ^ 3 + st * (at_ + 1 + 1)) % 2147483629
      refine ⟨mixed % m, s1, fin (τ := [.fz .pen, .fz (.int m), .fz (.int cell), .fz (.int mixed), .none]) ?_, Int.emod_nonneg _ (by omega), Int.emod_lt_of_pos _ hm, ok1⟩
      refine exs_ret ?_
      rw [ex]
      refine wh_ret (k := 999999) h1c ?_
      refine e12.trans ?_
      refine exs_ret ((ex_ite (τ' := []) htc).trans ?_)
      have e18 : (10 : Int) ^ 18 = 1000000000000000000 := by decide
      rw [e18] at hcl
      have q1 := g3 cells (at_ + 1) rest st
      have q2 := g1 cells (at_ + 1) rest st
      have q3 := bi_add cell 7
      have q4 : Rz.binI .Pow (cell + 7) 3 = some ((cell + 7) ^ 3) := bi_pow (k := 3) (by rw [p64]; omega) (by decide)
      have q5 := bi_add (at_ + 1) 1
      have q6 := bi_mulS (i := st) (j := at_ + 1 + 1) (by rw [p64]; omega)
      have q7 := bi_add ((cell + 7) ^ 3) (st * (at_ + 1 + 1))
      have q8 := bi_mod (i := (cell + 7) ^ 3 + st * (at_ + 1 + 1)) (j := 2147483629) (by decide)
      have q9 : Rz.binI .Mod mixed m = some (mixed % m) := bi_mod hm
      have q10 : ∀ i : Int, biD .int [.int i] = some (.int i) := fun _ => rfl
      have q8' : Rz.binI .Mod ((cell + 7) ^ 3 + st * (at_ + 1 + 1)) 2147483629 = some mixed := q8
      simp only [cond_true, exs, ex, evX, ev, evA, Out.bind, Out.of, τ1, s1, List.getElem?_cons_zero, List.getElem?_cons_succ, q1, q2, q3, q4, q5, q6, q7, q8', q9, q10, binV, binD, Option.map_some, cond_false, List.set_cons_zero, List.set_cons_succ]
    · rw [decide_eq_false hcl] at htc
      let s2 : BP := ⟨cells, at_ + 1, cell, st⟩
      have ok2 : OkB s2 := ⟨hc, by simp only [s2]; omega, by simp only [s2]; omega, h2, h3⟩
      obtain ⟨r, τ, s', e, r0, r1, ok⟩ := draw_tail (n := n) m s2 ok2 hm hm2 (.fz (.int cell)) rfl
      refine ⟨r, s', fin (τ := τ) ?_, r0, r1, ok⟩
      refine Eq.trans (exs_next (r := tl f1__law_draw.body) (τ' := τ1) (s' := s2) ?_) e
      rw [ex]
      refine (wh_next (k := 999999) h1c (τ2 := τ1) (s2 := s2) ?_).trans (wh_false (k := 999998) ?_)
      · refine e12.trans ((exs_next (τ' := τ1) (s' := s1) (ex_ite (τ' := []) htc)).trans ?_)
        have q := u2 cells (at_ + 1) rest st cell
        simp only [exs, ex, ev, Out.bind, τ1, s1, s2, List.getElem?_cons_zero, List.getElem?_cons_succ, q]
      · have := hcond (.fz (.int cell)) (at_ + 1) cell rfl
        have e18 : (10 : Int) ^ 18 = 1000000000000000000 := by decide
        rw [e18] at hcl
        rw [decide_eq_false (show ¬ cell < 2 by omega), Bool.false_and] at this
        exact this
theorem pick_ok (ds : List D) (s : BP) (hs : OkB s) (hd : ds ≠ []) (hl : ds.length ≤ 1000) : ∃ d s', callN G (n+2) 2 [.pen, .lst ds] s = .ok d s' ∧ d ∈ ds ∧ OkB s' := by
  have hL : 0 < ds.length := List.length_pos_iff.mpr hd
  obtain ⟨r, s', e, r0, r1, ok⟩ := draw_ok (n := n) (ds.length : Int) s hs (by omega) (bg_of (m := 10) (by unfold Bn; rw [show (2 : Nat) ^ 10 = 1024 by decide]; omega) (by decide))
  have hr : r.toNat < ds.length := by omega
  refine ⟨ds[r.toNat], s', ?_, List.getElem_mem hr, ok⟩
  have hix : ixD (.lst ds) (.int r) = some ds[r.toNat] := by
    show atI ds r = _
    have := atI_nat (xs := ds) (j := r.toNat) (v := ds[r.toNat]) (List.getElem?_eq_getElem hr)
    rw [Int.toNat_of_nonneg r0] at this
    exact this
  show runF pd.pt (callN G (n+1)) (mkN G (n+1)) f2__law_pick [.pen, .lst ds] s = _
  simp only [f2__law_pick]
  walk_at "sx"
end
end K01
end

section
set_option Elab.async false
set_option linter.all false
set_option maxRecDepth 100000
set_option maxHeartbeats 1000000
set_option exponentiation.threshold 1000
namespace K01
open PySem L2 Rz Crs Gn
def nthS : Nat → CSs → CS
  | 0, .cons a _ => a
  | n + 1, .cons _ r => nthS n r
  | _, .nil => .never
section
variable {P : Pt} {call mk : Nat → List D → BP → CRes BP} {τ τ1 τ2 τ3 : List Slot} {s s1 s2 s3 : BP}
theorem st_torB {a b : CE} {t u : Bool} (h : ev P call mk a τ s = .ok (.bl t) τ s) (k : t = false → ev P call mk b τ s = .ok (.bl u) τ s) : ev P call mk (.tor a b) τ s = .ok (.bl (t || u)) τ s := by
  cases t with
  | true => exact st_torT h (tr_bl _)
  | false => exact st_tor h (tr_bl _) (k rfl) (tr_bl _)
theorem st_notB {a : CE} {t : Bool} (h : ev P call mk a τ s = .ok (.bl t) τ s) : ev P call mk (.not a) τ s = .ok (.bl (!t)) τ s := st_not h (tr_bl _)
theorem st_repr {e : CE} {x z : D} (h : ev P call mk e τ s = .ok x τ1 s1) (hz : reprD x = some z) : ev P call mk (.bi .repr (.cons false e .nil)) τ s = .ok z τ1 s1 := st_bi (sa_cons h sa_nil) hz
theorem st_unpackT {i j : Nat} {e : CE} {x y : D} (h : ev P call mk e τ s = .ok (.tup [x, y]) τ1 s1) : ex P call mk (.unpack [i, j] e) τ s = .ok .next ((τ1.set i (.fz x)).set j (.fz y)) s1 := by
  simp only [ex, h, Out.bind, bindT, bindN]
theorem st_par2 {i j : Nat} {a b : CE} {x y : D} (h1 : ev P call mk a τ s = .ok x τ s1) (h2 : ev P call mk b τ s1 = .ok y τ s2) (hn : (i == j) = false) : ex P call mk (.par2 i j (.f a) (.f b)) τ s = .ok .next ((τ.set i (.fz x)).set j (.fz y)) s2 := by
  simp only [ex, evV, h1, h2, Out.bind, hn, cond_false]
theorem st_tsF {e : CE} {x : D} {t : Bool} (hf : τ.map Slot.frz = τ) (h : ev P call mk e τ s = .ok x τ1 s1) (ht : truV P call x τ1 s1 = .ok t τ2 s2) : evTs P call mk e τ s = .ok t τ s2 := st_ts (by rw [hf]; exact h) ht
theorem ex_tryR {B : CSs} {i c k : Nat} {e : CE} {fs : List D} {d : D} (h : exs P call mk B τ s = .exc k fs τ1 s1) (hk : (P.exc k).isSome = true) (hc : (P.exc c).isSome = true) (hi : i < τ1.length) (hs : P.sub k c = true) (he : ev P call mk e (τ1.set i (.fz (.xin k fs))) s1 = .ok d τ2 s2) : ex P call mk (.tryR B c i e) τ s = .ok (.ret d) τ2 s2 := by
  simp only [ex, h, hk, hc, decide_eq_true hi, Bool.and_self, cond_true, hs, he]
theorem st_xmk {c : Nat} {es : CAs} {ds : List D} (h : evA P call mk es τ s = .ok ds τ1 s1) (ha : arrG (P.xps c) ds [] [] = some ds) (hx : (P.exc c == some ds.length) = true) : ev P call mk (.xmk c es [] .nil) τ s = .ok (.xin c ds.reverse) τ1 s1 := by
  simp only [ev, h, evA, Out.bind, ha, hx, cond_true]
end
def VAL : List D := [.non, .bl true, .bl false, .int 0, .int (-7), .int (10 ^ 59), .str (Str.ofString ""), .str (Str.ofString "word"), .tup [], .tup [.int 2, .str (Str.ofString "b")], .lst [], .lst [.int 1, .lst [.int 0]], .dct [] [], .dct [.inr (Str.ofString "b")] [.int 2], .str (Str.ofString "y z")]
theorem val2 : (VAL.all fun d => (reprD (.lst [d, d])).isSome && (reprD (.lst [d, .int 3])).isSome) = true := by kernel_rfl
theorem val4 : (VAL.all fun d => VAL.all fun e => (reprD (.lst [d, e, d, e])).isSome) = true := by kernel_rfl
theorem str_of {d : D} (h : (reprD d).isSome = true) : ∃ t, reprD d = some (.str t) := by
  obtain ⟨z, hz⟩ := Option.isSome_iff_exists.mp h
  obtain ⟨t, rfl⟩ := repr_str hz
  exact ⟨t, hz⟩
theorem rp2 {d : D} (h : d ∈ VAL) : ∃ t, reprD (.lst [d, d]) = some (.str t) := by
  have := List.all_eq_true.mp val2 d h
  rw [Bool.and_eq_true] at this
  exact str_of this.1
theorem rp3 {d : D} (h : d ∈ VAL) : ∃ t, reprD (.lst [d, .int 3]) = some (.str t) := by
  have := List.all_eq_true.mp val2 d h
  rw [Bool.and_eq_true] at this
  exact str_of this.2
theorem rp4 {d e : D} (h : d ∈ VAL) (k : e ∈ VAL) : ∃ t, reprD (.lst [d, e, d, e]) = some (.str t) := str_of (List.all_eq_true.mp (List.all_eq_true.mp val4 d h) e k)
def TB : List (Nat × Str) := [(1, Str.ofString "part"), (3, Str.ofString "part"), (5, Str.ofString "part"), (9, Str.ofString "part"), (10, Str.ofString "part"), (11, Str.ofString "part"), (12, Str.ofString "part"), (13, Str.ofString "part"), (2, Str.ofString "value"), (4, Str.ofString "value"), (6, Str.ofString "value"), (8, Str.ofString "value"), (7, Str.ofString "word"), (15, Str.ofString "name")]
def ONES (d : D) : List D := TB.map fun p => .tup [.xin p.1 [d], .str p.2]
def NAMED (d : D) : List D := TB.map fun p => .xin p.1 [d]
theorem tb_ok : ∀ (i c : Nat) (k : Str), TB[i]? = some (c, k) → (∀ n s d, callN G (n+1) 6 [.xin c [d], .str k] s = .ok d s) ∧ (∀ n s fs, callN G (n+1) 7 [.xin c fs] s = .ok (Li [(i : Int)]) s)
  | 0, _, _, h => by cases h; exact ⟨fun _ _ _ => by kernel_rfl, fun _ _ _ => by kernel_rfl⟩
  | 1, _, _, h => by cases h; exact ⟨fun _ _ _ => by kernel_rfl, fun _ _ _ => by kernel_rfl⟩
  | 2, _, _, h => by cases h; exact ⟨fun _ _ _ => by kernel_rfl, fun _ _ _ => by kernel_rfl⟩
  | 3, _, _, h => by cases h; exact ⟨fun _ _ _ => by kernel_rfl, fun _ _ _ => by kernel_rfl⟩
  | 4, _, _, h => by cases h; exact ⟨fun _ _ _ => by kernel_rfl, fun _ _ _ => by kernel_rfl⟩
  | 5, _, _, h => by cases h; exact ⟨fun _ _ _ => by kernel_rfl, fun _ _ _ => by kernel_rfl⟩
  | 6, _, _, h => by cases h; exact ⟨fun _ _ _ => by kernel_rfl, fun _ _ _ => by kernel_rfl⟩
  | 7, _, _, h => by cases h; exact ⟨fun _ _ _ => by kernel_rfl, fun _ _ _ => by kernel_rfl⟩
  | 8, _, _, h => by cases h; exact ⟨fun _ _ _ => by kernel_rfl, fun _ _ _ => by kernel_rfl⟩
  | 9, _, _, h => by cases h; exact ⟨fun _ _ _ => by kernel_rfl, fun _ _ _ => by kernel_rfl⟩
  | 10, _, _, h => by cases h; exact ⟨fun _ _ _ => by kernel_rfl, fun _ _ _ => by kernel_rfl⟩
  | 11, _, _, h => by cases h; exact ⟨fun _ _ _ => by kernel_rfl, fun _ _ _ => by kernel_rfl⟩
  | 12, _, _, h => by cases h; exact ⟨fun _ _ _ => by kernel_rfl, fun _ _ _ => by kernel_rfl⟩
  | 13, _, _, h => by cases h; exact ⟨fun _ _ _ => by kernel_rfl, fun _ _ _ => by kernel_rfl⟩
  | i + 14, _, _, h => by cases h
section
variable {n : Nat}
theorem ones_ok (d : D) (s : BP) : callN G (n+1) 4 [d] s = .ok (.lst (ONES d)) s := by kernel_rfl
theorem named_ok (d : D) (s : BP) : callN G (n+1) 5 [d] s = .ok (.lst (NAMED d)) s := by kernel_rfl
theorem kind14 (fs : List D) (s : BP) : callN G (n+1) 7 [.xin 14 fs] s = .ok (Li [14]) s := by kernel_rfl
theorem kind16 (fs : List D) (s : BP) : callN G (n+1) 7 [.xin 16 fs] s = .ok (Li [15]) s := by kernel_rfl
theorem kind17 (fs : List D) (s : BP) : callN G (n+1) 7 [.xin 17 fs] s = .ok (Li [16]) s := by kernel_rfl
theorem value_ok (s : BP) (hs : OkB s) : ∃ d s', callN G (n+3) 3 [.pen] s = .ok d s' ∧ d ∈ VAL ∧ OkB s' := by
  obtain ⟨d, s', e, hd, ok⟩ := pick_ok (n := n) VAL s hs (by simp [VAL]) (by simp [VAL])
  refine ⟨d, s', ?_, hd, ok⟩
  show runF pd.pt (callN G (n+2)) (mkN G (n+2)) f3__law_value [.pen] s = _
  let τ1 : List Slot := [.fz .pen, .fz (.lst VAL)]
  have i0 : ex pd.pt (callN G (n+2)) (mkN G (n+2)) (nthS 0 f3__law_value.body) [.fz .pen, .none] s = .ok .next τ1 s := by kernel_rfl
  exact runF_ret (τ' := τ1) rfl ((exs_next i0).trans (exs_ret (st_ret (st_call (sa_cons (st_v rfl) (sa_cons (st_v rfl) sa_nil)) e))))
theorem plainLL {a : List (List Int)} : D.plainL (a.map Li) = true ∧ D.deepL (a.map Li) ≤ 1 := by
  induction a with
  | nil => exact ⟨rfl, Nat.zero_le _⟩
  | cons x r ih =>
    obtain ⟨p1, p2⟩ := plain_ints x
    exact ⟨by simp only [List.map_cons, D.plainL, D.plain, p1, ih.1, Bool.and_self], by simp only [List.map_cons, D.deepL, D.deep, p2]; exact Nat.max_le.mpr ⟨Nat.le_refl _, ih.2⟩⟩
theorem cm_neLL {P : Pt} {call : Nat → List D → BP → CRes BP} (a : List (List Int)) (τ : List Slot) (s : BP) : cmpV P call .NotEq (.lst (a.map Li)) (.lst (a.map Li)) τ s = .ok (.bl false) τ s := by
  obtain ⟨p1, p2⟩ := plainLL (a := a)
  have hc : (D.lst (a.map Li)).cmpOk = true := by
    show (D.plainL _ && decide (D.deepL _ + 1 ≤ 20)) = true
    rw [p1, decide_eq_true (by omega)]; rfl
  have he : ∀ b : List (List Int), eqPL (b.map Li) (b.map Li) = true := fun b => by
    induction b with
    | nil => rfl
    | cons x r ih =>
      show (eqP (Li x) (Li x) && eqPL (r.map Li) (r.map Li)) = true
      rw [eqP_li, ih, beq_self_eq_true]; rfl
  exact cm_neP hc hc (he a) (fun _ _ z => by cases z) (fun _ _ z => by cases z)
def tst (d e : D) (x4 x5 : Slot) : List Slot := [.fz d, .fz e, .fz (.lst [.xin 14 [e, d], .xin 16 [e, d]]), .fz (.lst [.xin 14 [e, d], .xin 16 [e, d]]), x4, x5]
def tB : CSs := match nthS 2 f8__law_two_right.body with | .for _ _ b => b | _ => .nil
theorem two_turn {d e : D} (hd : d ∈ VAL) (he : e ∈ VAL) (s : BP) : exs pd.pt (callN G (n+1)) (mkN G (n+1)) tB (tst d e (.fz (.xin 14 [e, d])) (.fz (.xin 16 [e, d]))) s = .ok .next (tst d e (.fz (.xin 14 [e, d])) (.fz (.xin 16 [e, d]))) s := by
  let τ := tst d e (.fz (.xin 14 [e, d])) (.fz (.xin 16 [e, d]))
  obtain ⟨z, hz⟩ := rp4 hd he
  have q1 : ev pd.pt (callN G (n+1)) (mkN G (n+1)) (.lst (.cons false (.xat 4 46) (.cons false (.xat 4 40) (.cons false (.xat 5 45) (.cons false (.xat 5 44) .nil))))) τ s = .ok (.lst [d, e, d, e]) τ s := by kernel_rfl
  have q2 : ev pd.pt (callN G (n+1)) (mkN G (n+1)) (.lst (.cons false (.v 0) (.cons false (.v 1) (.cons false (.v 0) (.cons false (.v 1) .nil))))) τ s = .ok (.lst [d, e, d, e]) τ s := by kernel_rfl
  have c1 : evTs pd.pt (callN G (n+1)) (mkN G (n+1)) (.cmp .NotEq (.bi .repr (.cons false (.lst (.cons false (.xat 4 46) (.cons false (.xat 4 40) (.cons false (.xat 5 45) (.cons false (.xat 5 44) .nil))))) .nil)) (.bi .repr (.cons false (.lst (.cons false (.v 0) (.cons false (.v 1) (.cons false (.v 0) (.cons false (.v 1) .nil))))) .nil))) τ s = .ok false τ s :=
    st_tsF rfl (x := .bl false) ((st_cmp (st_repr q1 hz) (st_repr q2 hz) (cm_nestr _ _)).trans (by rw [beq_self_eq_true]; rfl)) (tr_bl _)
  have q3 : ev pd.pt (callN G (n+1)) (mkN G (n+1)) (.lst (.cons false (.call 7 (.cons false (.v 4) .nil)) (.cons false (.call 7 (.cons false (.v 5) .nil)) (.cons false (.call 7 (.cons false (.xmk0 17) .nil)) .nil)))) τ s = .ok (.lst ([[14], [15], [16]].map Li)) τ s := st_lst (sa_cons (st_call (sa_cons (st_v rfl) sa_nil) (kind14 (n := n) _ _)) (sa_cons (st_call (sa_cons (st_v rfl) sa_nil) (kind16 (n := n) _ _)) (sa_cons (st_call (sa_cons (x := .xin 17 []) (τ1 := τ) (s1 := s) rfl sa_nil) (kind17 (n := n) _ _)) sa_nil))) (by simp)
  have c2 : evTs pd.pt (callN G (n+1)) (mkN G (n+1)) (.cmp .NotEq (.lst (.cons false (.call 7 (.cons false (.v 4) .nil)) (.cons false (.call 7 (.cons false (.v 5) .nil)) (.cons false (.call 7 (.cons false (.xmk0 17) .nil)) .nil)))) (.lst (.cons false (.lst (.cons false (.k (.int 14)) .nil)) (.cons false (.lst (.cons false (.k (.int 15)) .nil)) (.cons false (.lst (.cons false (.k (.int 16)) .nil)) .nil))))) τ s = .ok false τ s := st_tsF rfl (st_cmp q3 (y := .lst ([[14], [15], [16]].map Li)) (τ2 := τ) (s2 := s) rfl (cm_neLL _ _ _)) (tr_bl _)
  exact st_nexts (st_iteF c1 rfl) (st_nexts (st_iteF c2 rfl) rfl)
theorem two_ok {d e : D} (hd : d ∈ VAL) (he : e ∈ VAL) (s : BP) : callN G (n+2) 8 [d, e] s = .ok (.bl true) s := by
  show runF pd.pt (callN G (n+1)) (mkN G (n+1)) f8__law_two_right [d, e] s = _
  let t0 : List Slot := [.fz d, .fz e, .none, .none, .none, .none]
  let t1 : List Slot := [.fz d, .fz e, .fz (.lst [.xin 14 [e, d], .xin 16 [e, d]]), .none, .none, .none]
  have i0 : ex pd.pt (callN G (n+1)) (mkN G (n+1)) (nthS 0 f8__law_two_right.body) t0 s = .ok .next t1 s := by kernel_rfl
  have i1 : ex pd.pt (callN G (n+1)) (mkN G (n+1)) (nthS 1 f8__law_two_right.body) t1 s = .ok .next (tst d e .none .none) s := by kernel_rfl
  have hi : evI pd.pt (callN G (n+1)) (mkN G (n+1)) (.e (.lst (.cons false (.v 2) (.cons false (.v 3) .nil)))) (tst d e .none .none) s = .ok [.lst [.xin 14 [e, d], .xin 16 [e, d]], .lst [.xin 14 [e, d], .xin 16 [e, d]]] (tst d e .none .none) s := by kernel_rfl
  have i2 : ex pd.pt (callN G (n+1)) (mkN G (n+1)) (nthS 2 f8__law_two_right.body) (tst d e .none .none) s = .ok .next (tst d e (.fz (.xin 14 [e, d])) (.fz (.xin 16 [e, d]))) s := by
    refine (ex_for hi).trans ?_
    have ht := two_turn (n := n) hd he s
    show (Out.bind (exs pd.pt (callN G (n+1)) (mkN G (n+1)) tB (tst d e (.fz (.xin 14 [e, d])) (.fz (.xin 16 [e, d]))) s) _) = _
    rw [ht]
    show (Out.bind (exs pd.pt (callN G (n+1)) (mkN G (n+1)) tB (tst d e (.fz (.xin 14 [e, d])) (.fz (.xin 16 [e, d]))) s) _) = _
    rw [ht]; rfl
  exact runF_ret (τ' := tst d e (.fz (.xin 14 [e, d])) (.fz (.xin 16 [e, d]))) rfl ((exs_next i0).trans ((exs_next i1).trans (st_nexts i2 (exs_ret (st_ret st_k)))))
theorem caught_ok {d : D} (hd : d ∈ VAL) (s : BP) : callN G (n+1) 9 [d] s = .ok (.bl true) s := by
  show runF pd.pt (callN G n) (mkN G n) f9__law_caught [d] s = _
  obtain ⟨z, hz⟩ := rp3 hd
  let t0 : List Slot := [.fz d, .none]
  let t1 : List Slot := [.fz d, .fz (.xin 14 [.int 3, d])]
  have hx : exs pd.pt (callN G n) (mkN G n) (.cons (.raise 14 (.cons false (.v 0) (.cons false (.k (.int 3)) .nil))) .nil) t0 s = .exc 14 [.int 3, d] t0 s := exs_exc (ex_raise (sa_cons (st_v rfl) (sa_cons st_k sa_nil)) rfl)
  have q1 : ev pd.pt (callN G n) (mkN G n) (.lst (.cons false (.xat 1 46) (.cons false (.xat 1 40) .nil))) t1 s = .ok (.lst [d, .int 3]) t1 s := by kernel_rfl
  have q2 : ev pd.pt (callN G n) (mkN G n) (.lst (.cons false (.v 0) (.cons false (.k (.int 3)) .nil))) t1 s = .ok (.lst [d, .int 3]) t1 s := by kernel_rfl
  have q0 : ev pd.pt (callN G n) (mkN G n) (.isx 1 (some 14)) t1 s = .ok (.bl true) t1 s := by kernel_rfl
  have he : ev pd.pt (callN G n) (mkN G n) (.and (.isx 1 (some 14)) (.cmp .Eq (.bi .repr (.cons false (.lst (.cons false (.xat 1 46) (.cons false (.xat 1 40) .nil))) .nil)) (.bi .repr (.cons false (.lst (.cons false (.v 0) (.cons false (.k (.int 3)) .nil))) .nil)))) t1 s = .ok (.bl true) t1 s :=
    st_and q0 (tr_bl _) ((st_cmp (st_repr q1 hz) (st_repr q2 hz) (cm_str _ _)).trans (by rw [beq_self_eq_true]))
  exact runF_ret (τ' := t1) rfl (exs_ret (ex_tryR hx rfl rfl (show 1 < 2 by omega) rfl he))
/-! ### the law -/
def lw (x2 x3 x4 x5 x6 x7 x8 x9 : Slot) : List Slot := [.none, .fz .pen, x2, x3, x4, x5, x6, x7, x8, x9]
def lawBody : CSs := match lawRest with | .cons (.for _ _ b) _ => b | _ => .nil
def kB : CSs := match nthS 3 lawBody with | .for _ _ b => b | _ => .nil
def eB : CSs := match nthS 4 lawBody with | .for _ _ b => b | _ => .nil
theorem lw_frz {x2 x3 x4 x5 x6 x7 x8 x9 : Slot} (h2 : x2.frz = x2) (h3 : x3.frz = x3) (h4 : x4.frz = x4) (h5 : x5.frz = x5) (h6 : x6.frz = x6) (h7 : x7.frz = x7) (h8 : x8.frz = x8) (h9 : x9.frz = x9) : (lw x2 x3 x4 x5 x6 x7 x8 x9).map Slot.frz = lw x2 x3 x4 x5 x6 x7 x8 x9 := by
  show [Slot.none.frz, (Slot.fz .pen).frz, x2.frz, x3.frz, x4.frz, x5.frz, x6.frz, x7.frz, x8.frz, x9.frz] = _
  rw [h2, h3, h4, h5, h6, h7, h8, h9]; rfl
theorem k_turn {d e : D} (hd : d ∈ VAL) (x2 x8 x9 : Slot) (h2 : x2.frz = x2) (i c : Nat) (k : Str) (hi : TB[i]? = some (c, k)) (s : BP) : exs pd.pt (callN G (n+2)) (mkN G (n+2)) kB (lw x2 (.fz d) (.fz e) (.fz (.lst (ONES d))) (.fz (.lst (NAMED d))) (.fz (.int (i : Nat))) x8 x9) s = .ok .next (lw x2 (.fz d) (.fz e) (.fz (.lst (ONES d))) (.fz (.lst (NAMED d))) (.fz (.int (i : Nat))) (.fz (.xin c [d])) (.fz (.str k))) s := by
  obtain ⟨hf, hk⟩ := tb_ok i c k hi
  obtain ⟨z, hz⟩ := rp2 hd
  let τ := lw x2 (.fz d) (.fz e) (.fz (.lst (ONES d))) (.fz (.lst (NAMED d))) (.fz (.int (i : Nat))) (.fz (.xin c [d])) (.fz (.str k))
  have o1 : ∀ τ s, ixV (S := BP) (.lst (ONES d)) (.int (i : Nat)) τ s = .ok (.tup [.xin c [d], .str k]) τ s := fun τ s => ix_l (by unfold ONES; rw [List.getElem?_map, hi]; rfl)
  have o2 : ∀ τ s, ixV (S := BP) (.lst (NAMED d)) (.int (i : Nat)) τ s = .ok (.xin c [d]) τ s := fun τ s => ix_l (by unfold NAMED; rw [List.getElem?_map, hi]; rfl)
  have fr : τ.map Slot.frz = τ := lw_frz h2 rfl rfl rfl rfl rfl rfl rfl
  have i0 : ex pd.pt (callN G (n+2)) (mkN G (n+2)) (nthS 0 kB) (lw x2 (.fz d) (.fz e) (.fz (.lst (ONES d))) (.fz (.lst (NAMED d))) (.fz (.int (i : Nat))) x8 x9) s = .ok .next τ s := st_unpackT (st_ix (st_v rfl) (st_v rfl) (o1 _ _))
  have q1 : ev pd.pt (callN G (n+2)) (mkN G (n+2)) (.lst (.cons false (.call 6 (.cons false (.v 8) (.cons false (.v 9) .nil))) (.cons false (.call 6 (.cons false (.ix (.v 6) (.v 7)) (.cons false (.v 9) .nil))) .nil))) τ s = .ok (.lst [d, d]) τ s := st_lst (sa_cons (st_call (sa_cons (st_v rfl) (sa_cons (st_v rfl) sa_nil)) (hf (n+1) _ _)) (sa_cons (st_call (sa_cons (st_ix (st_v rfl) (st_v rfl) (o2 _ _)) (sa_cons (st_v rfl) sa_nil)) (hf (n+1) _ _)) sa_nil)) (by simp)
  have q2 : ev pd.pt (callN G (n+2)) (mkN G (n+2)) (.lst (.cons false (.v 3) (.cons false (.v 3) .nil))) τ s = .ok (.lst [d, d]) τ s := st_lst (sa_cons (st_v rfl) (sa_cons (st_v rfl) sa_nil)) (by simp)
  have c1 : evTs pd.pt (callN G (n+2)) (mkN G (n+2)) (.cmp .NotEq (.bi .repr (.cons false (.lst (.cons false (.call 6 (.cons false (.v 8) (.cons false (.v 9) .nil))) (.cons false (.call 6 (.cons false (.ix (.v 6) (.v 7)) (.cons false (.v 9) .nil))) .nil))) .nil)) (.bi .repr (.cons false (.lst (.cons false (.v 3) (.cons false (.v 3) .nil))) .nil))) τ s = .ok false τ s :=
    st_tsF fr (x := .bl false) ((st_cmp (st_repr q1 hz) (st_repr q2 hz) (cm_nestr _ _)).trans (by rw [beq_self_eq_true]; rfl)) (tr_bl _)
  have q3 : ev pd.pt (callN G (n+2)) (mkN G (n+2)) (.lst (.cons false (.call 7 (.cons false (.v 8) .nil)) (.cons false (.call 7 (.cons false (.ix (.v 6) (.v 7)) .nil)) .nil))) τ s = .ok (.lst ([[(i : Int)], [(i : Int)]].map Li)) τ s := st_lst (sa_cons (st_call (sa_cons (st_v rfl) sa_nil) (hk (n+1) _ _)) (sa_cons (st_call (sa_cons (st_ix (st_v rfl) (st_v rfl) (o2 _ _)) sa_nil) (hk (n+1) _ _)) sa_nil)) (by simp)
  have q4 : ev pd.pt (callN G (n+2)) (mkN G (n+2)) (.lst (.cons false (.lst (.cons false (.v 7) .nil)) (.cons false (.lst (.cons false (.v 7) .nil)) .nil))) τ s = .ok (.lst ([[(i : Int)], [(i : Int)]].map Li)) τ s := st_lst (sa_cons (st_lst (sa_cons (st_v rfl) sa_nil) (by simp)) (sa_cons (st_lst (sa_cons (st_v rfl) sa_nil) (by simp)) sa_nil)) (by simp)
  have c2 : evTs pd.pt (callN G (n+2)) (mkN G (n+2)) (.cmp .NotEq (.lst (.cons false (.call 7 (.cons false (.v 8) .nil)) (.cons false (.call 7 (.cons false (.ix (.v 6) (.v 7)) .nil)) .nil))) (.lst (.cons false (.lst (.cons false (.v 7) .nil)) (.cons false (.lst (.cons false (.v 7) .nil)) .nil)))) τ s = .ok false τ s := st_tsF fr (st_cmp q3 q4 (cm_neLL _ _ _)) (tr_bl _)
  exact (exs_next i0).trans (st_nexts (st_iteF c1 rfl) (st_nexts (st_iteF c2 rfl) rfl))
def ALL3 (d e : D) : List D := NAMED d ++ [.xin 17 [], .xin 14 [e, d], .xin 16 [e, d]]
theorem all3 {d e x : D} (h : x ∈ ALL3 d e) : ∃ c fs, x = .xin c fs ∧ (pd.pt.exc c).isSome = true ∧ pd.pt.sub c 0 = true := by
  have hT : (TB.all fun p => (pd.pt.exc p.1).isSome && pd.pt.sub p.1 0) = true := by kernel_rfl
  rcases List.mem_append.mp h with h | h
  · obtain ⟨p, hp, rfl⟩ := List.mem_map.mp h
    have := List.all_eq_true.mp hT p hp
    rw [Bool.and_eq_true] at this
    exact ⟨_, _, rfl, this.1, this.2⟩
  · simp only [List.mem_cons, List.not_mem_nil, or_false] at h
    rcases h with rfl | rfl | rfl
    · exact ⟨_, _, rfl, by kernel_rfl, by kernel_rfl⟩
    · exact ⟨_, _, rfl, by kernel_rfl, by kernel_rfl⟩
    · exact ⟨_, _, rfl, by kernel_rfl, by kernel_rfl⟩
theorem law_turn (s : BP) (hs : OkB s) (x2 x3 x4 x5 x6 x7 x8 x9 : Slot) (h2 : x2.frz = x2) (h7 : x7.frz = x7) (h8 : x8.frz = x8) (h9 : x9.frz = x9) : ∃ y3 y4 y5 y6 y7 y8 y9 s', exs pd.pt (callN G (n+9)) (mkN G (n+9)) lawBody (lw x2 x3 x4 x5 x6 x7 x8 x9) s = .ok .next (lw x2 y3 y4 y5 y6 y7 y8 y9) s' ∧ y7.frz = y7 ∧ y8.frz = y8 ∧ y9.frz = y9 ∧ OkB s' := by
  obtain ⟨d, s1, e1, hd, ok1⟩ := value_ok (n := n+6) s hs
  obtain ⟨e, s2, e2, he, ok2⟩ := value_ok (n := n+6) s1 ok1
  let t1 := lw x2 (.fz d) (.fz e) x5 x6 x7 x8 x9
  let t2 := lw x2 (.fz d) (.fz e) (.fz (.lst (ONES d))) (.fz (.lst (NAMED d))) x7 x8 x9
  have i0 : ex pd.pt (callN G (n+9)) (mkN G (n+9)) (nthS 0 lawBody) (lw x2 x3 x4 x5 x6 x7 x8 x9) s = .ok .next t1 s2 := st_par2 (st_call (sa_cons (st_v rfl) sa_nil) e1) (st_call (sa_cons (st_v rfl) sa_nil) e2) rfl
  have i1 : ex pd.pt (callN G (n+9)) (mkN G (n+9)) (nthS 1 lawBody) t1 s2 = .ok .next t2 s2 := st_par2 (st_call (sa_cons (st_v rfl) sa_nil) (ones_ok (n := n+8) d s2)) (st_call (sa_cons (st_v rfl) sa_nil) (named_ok (n := n+8) d s2)) rfl
  have f2 : t2.map Slot.frz = t2 := lw_frz h2 rfl rfl rfl rfl h7 h8 h9
  have c2 : evTs pd.pt (callN G (n+9)) (mkN G (n+9)) (.cmp .NotEq (.bi .len (.cons false (.v 6) .nil)) (.bi .len (.cons false (.v 5) .nil))) t2 s2 = .ok false t2 s2 := st_tsF f2 (st_cmp (st_bi (x := .int 14) (sa_cons (st_v rfl) sa_nil) rfl) (st_bi (x := .int 14) (sa_cons (st_v rfl) sa_nil) rfl) (cm_ne _ _)) (tr_bl _)
  have i2 : ex pd.pt (callN G (n+9)) (mkN G (n+9)) (nthS 2 lawBody) t2 s2 = .ok .next t2 s2 := st_iteF c2 rfl
  obtain ⟨τ3, s3, e3, ⟨y7, y8, y9, rfl, g7, g8, g9⟩, es3⟩ := forL_inv (S := BP) (b := fun d τ s => match bindT (.one 7) d τ with
      | some τ => exs pd.pt (callN G (n+9)) (mkN G (n+9)) kB τ s
      | none => .no) (fun i τ s => (∃ y7 y8 y9, τ = lw x2 (.fz d) (.fz e) (.fz (.lst (ONES d))) (.fz (.lst (NAMED d))) y7 y8 y9 ∧ y7.frz = y7 ∧ y8.frz = y8 ∧ y9.frz = y9) ∧ s = s2) (rangeD 0 14) 0 t2 s2 (fun i dd τ s hdd ⟨⟨y7, y8, y9, hτ, g7, g8, g9⟩, hs2⟩ => by
        obtain ⟨hi, rfl⟩ := range_get hdd
        subst hτ hs2
        have hl : TB[i]? = some (TB[i]'(by show i < 14; exact hi)) := List.getElem?_eq_getElem _
        exact ⟨_, _, k_turn (n := n+7) hd x2 y8 y9 h2 i _ _ hl _, ⟨_, _, _, rfl, rfl, rfl, rfl⟩, rfl⟩) ⟨⟨x7, x8, x9, rfl, h7, h8, h9⟩, rfl⟩
  subst es3
  have i3 : ex pd.pt (callN G (n+9)) (mkN G (n+9)) (nthS 3 lawBody) t2 s3 = .ok .next (lw x2 (.fz d) (.fz e) (.fz (.lst (ONES d))) (.fz (.lst (NAMED d))) y7 y8 y9) s3 := (ex_for (tg := .one 7) (it := .r1 (.bi .len (.cons false (.v 5) .nil))) (τ1 := t2) (s1 := s3) (ds := rangeD 0 14) rfl).trans e3
  let t4 := lw x2 (.fz d) (.fz e) (.fz (.lst (ONES d))) (.fz (.lst (NAMED d))) y7 y8 y9
  obtain ⟨τ5, s5, e5, ⟨z8, rfl, k8⟩, es5⟩ := forL_inv (S := BP) (b := fun d τ s => match bindT (.one 8) d τ with
      | some τ => exs pd.pt (callN G (n+9)) (mkN G (n+9)) eB τ s
      | none => .no) (fun i τ s => (∃ y8, τ = lw x2 (.fz d) (.fz e) (.fz (.lst (ONES d))) (.fz (.lst (NAMED d))) y7 y8 y9 ∧ y8.frz = y8) ∧ s = s3) (ALL3 d e) 0 t4 s3 (fun i dd τ s hdd ⟨⟨y8, hτ, g8⟩, hs2⟩ => by
        obtain ⟨c, fs, rfl, hc1, hc2⟩ := all3 (List.mem_of_getElem? hdd)
        subst hτ hs2
        let τ := lw x2 (.fz d) (.fz e) (.fz (.lst (ONES d))) (.fz (.lst (NAMED d))) y7 (.fz (.xin c fs)) y9
        have q1 : ev pd.pt (callN G (n+9)) (mkN G (n+9)) (.isx 8 (some 0)) τ s = .ok (.bl true) τ s := (st_isx (c := c) (fs := fs) rfl hc1 rfl).trans (by rw [hc2])
        have q2 : ev pd.pt (callN G (n+9)) (mkN G (n+9)) (.isx 8 none) τ s = .ok (.bl true) τ s := st_isxV (c := c) (fs := fs) rfl hc1
        have cc : evTs pd.pt (callN G (n+9)) (mkN G (n+9)) (.tor (.not (.isx 8 (some 0))) (.not (.isx 8 none))) τ s = .ok (!true || !true) τ s := st_tsF (lw_frz h2 rfl rfl rfl rfl g7 rfl g9) (st_torB (st_notB q1) (fun _ => st_notB q2)) (tr_bl _)
        exact ⟨_, _, (st_nexts (st_iteF cc rfl) rfl : exs pd.pt (callN G (n+9)) (mkN G (n+9)) eB τ s = .ok .next τ s), ⟨_, rfl, rfl⟩, rfl⟩) ⟨⟨y8, rfl, g8⟩, rfl⟩
  subst es5
  have hI : evI pd.pt (callN G (n+9)) (mkN G (n+9)) (.e (.bin .Add (.v 6) (.lst (.cons false (.xmk0 17) (.cons false (.xmk 14 (.cons false (.v 3) (.cons false (.v 4) .nil)) [] .nil) (.cons false (.xmk 16 (.cons false (.v 3) (.cons false (.v 4) .nil)) [] .nil) .nil)))))) t4 s5 = .ok (ALL3 d e) t4 s5 := by kernel_rfl
  have i4 : ex pd.pt (callN G (n+9)) (mkN G (n+9)) (nthS 4 lawBody) t4 s5 = .ok .next (lw x2 (.fz d) (.fz e) (.fz (.lst (ONES d))) (.fz (.lst (NAMED d))) y7 z8 y9) s5 := (ex_for hI).trans e5
  let t6 := lw x2 (.fz d) (.fz e) (.fz (.lst (ONES d))) (.fz (.lst (NAMED d))) y7 z8 y9
  have c5 : evTs pd.pt (callN G (n+9)) (mkN G (n+9)) (.tor (.not (.call 8 (.cons false (.v 3) (.cons false (.v 4) .nil)))) (.not (.call 9 (.cons false (.v 4) .nil)))) t6 s5 = .ok (!true || !true) t6 s5 := st_tsF (lw_frz h2 rfl rfl rfl rfl g7 k8 g9) (st_torB (st_notB (st_call (sa_cons (st_v rfl) (sa_cons (st_v rfl) sa_nil)) (two_ok (n := n+7) hd he s5))) (fun _ => st_notB (st_call (sa_cons (st_v rfl) sa_nil) (caught_ok (n := n+8) he s5)))) (tr_bl _)
  have i5 : ex pd.pt (callN G (n+9)) (mkN G (n+9)) (nthS 5 lawBody) t6 s5 = .ok .next t6 s5 := st_iteF c5 rfl
  exact ⟨_, _, _, _, y7, z8, y9, s5, (exs_next i0).trans ((exs_next i1).trans (st_nexts i2 (st_nexts i3 (st_nexts i4 (st_nexts i5 rfl))))), g7, k8, g9, ok2⟩
theorem law_all (cells : List Int) (st : Int) (hc : cells.length ≤ 63) (h0 : 0 ≤ st) (h1 : st < 2147483648) : ∃ τ s, exs pd.pt (callN G (n+20)) (mkN G (n+20)) lawRest (lw .none .none .none .none .none .none .none .none) ⟨cells, 0, 0, st⟩ = .ok (.ret (.bl true)) τ s := by
  obtain ⟨τ1, s1, e1, ⟨y2, y3, y4, y5, y6, y7, y8, y9, rfl, _⟩, ok1⟩ := forL_inv (S := BP) (b := fun d τ s => match bindT (.one 2) d τ with
      | some τ => exs pd.pt (callN G (n+20)) (mkN G (n+20)) lawBody τ s
      | none => .no) (fun i τ s => (∃ y2 y3 y4 y5 y6 y7 y8 y9, τ = lw y2 y3 y4 y5 y6 y7 y8 y9 ∧ y7.frz = y7 ∧ y8.frz = y8 ∧ y9.frz = y9) ∧ OkB s) (rangeD 0 4) 0 (lw .none .none .none .none .none .none .none .none) ⟨cells, 0, 0, st⟩ (fun i dd τ s hdd ⟨⟨y2, y3, y4, y5, y6, y7, y8, y9, hτ, g7, g8, g9⟩, ok⟩ => by
        obtain ⟨hi, rfl⟩ := range_get hdd
        subst hτ
        obtain ⟨z3, z4, z5, z6, z7, z8, z9, s', e, f7, f8, f9, ok'⟩ := law_turn (n := n+11) s ok (.fz (.int i)) y3 y4 y5 y6 y7 y8 y9 rfl g7 g8 g9
        exact ⟨_, s', e, ⟨_, _, _, _, _, _, _, _, rfl, f7, f8, f9⟩, ok'⟩) ⟨⟨_, _, _, _, _, _, _, _, rfl, rfl, rfl, rfl⟩, ⟨hc, Int.le_refl _, Int.natCast_nonneg _, h0, h1⟩⟩
  have i0 : ex pd.pt (callN G (n+20)) (mkN G (n+20)) (nthS 0 lawRest) (lw .none .none .none .none .none .none .none .none) ⟨cells, 0, 0, st⟩ = .ok .next (lw y2 y3 y4 y5 y6 y7 y8 y9) s1 := (ex_for (tg := .one 2) (it := .r1 (.k (.int 4))) (τ1 := lw .none .none .none .none .none .none .none .none) (s1 := (⟨cells, 0, 0, st⟩ : BP)) (ds := rangeD 0 4) rfl).trans e1
  exact ⟨_, s1, (exs_next i0).trans (exs_ret (st_ret st_k))⟩
theorem runs : LawRunsB pd 20 lawN.length lawRest := fun cells st hc h0 h1 => law_all (n := 0) cells st hc h0 h1
end
end K01
end

set_option Elab.async false
set_option linter.all false
open PySem PySem.W PyProof.Rows
set_option maxRecDepth 100000 in
set_option maxHeartbeats 0 in
theorem PySem.Challenge.cw_roundsopen_k01_errors_holds : PySem.Challenge.rw_roundsopen_k01_errors.Holds := by
  w_on; o_law; k_head; (case hw => w_witness2)
  k_fill
  refine Rz.walkG (l := PySem.Challenge.rw_roundsopen_k01_errors) (n := 63) (k := 189) (sp := fun w => Rz.spLaw _ []) rfl (by decide) rfl ⟨rfl, by decide, by decide⟩ (fun w h Y => PySem.W.kIn_of Y) ?F (fun _ _ a ns hl _ hS => ⟨a, ns, rfl, hS, hl, fun _ => rfl, fun _ h => by cases h⟩)
  case F =>
    intro w mg fa h KX G hmg base KB GB
    have e := hmg.symm.trans (PySem.W.mg_of KX G (v := .ref 418) (by kernel_rfl))
    cases e
    exact Rz.law_rgB (d := K01.pd) (n := 20) (pa := 350) (N := K01.lawN) (cs := K01.lawRest) (by kernel_rfl) (Rz.noExt_ok (by kernel_rfl)) (by kernel_rfl) KX G K01.runs (fun _ h => by cases h) (fun _ h => by cases h)

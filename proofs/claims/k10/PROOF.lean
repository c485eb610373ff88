import PyProof.Rows.All
import Wide.All
import OpenK.AllK
import Wide.FinOn
import HandS.Words
import HandS.Ends
import HandS.TryOnly
import HandS.Star
import HandS.Flow
import PyProof.NeKinds
import HandS.ForMost
import HandS.Wide
import HandS.WideBits
import HandS.FStr
import HandS.Property
import HandS.ClsMeth
import HandS.OwnEq
import HandS.IsInst
import HandS.Zip
import HandS.MakeKw
import HandS.Style
import HandS.TupAny
import HandS.Deep
import HandS.SortInts
import HandS.Conv
import KE.KSortedM
import KE.IntTextLaws
import PyProof.ReprRoads
import PySem.Syntax
import PySem.Eval
import HandS.Comp
import PyProof.Rows.RegStrFacts
import HandS.New0
import PyProof.DictUpdate
import PyProof.LongRange
import PyProof.Draws
import PyProof.TupleIter
import PyProof.EnumMake
import PyProof.SliceList
import KE.KRevSl
import PySem.Challenge.RW_darklamps_k10_whole_lamps_lit
set_option Elab.async false
/-! Cd -/
section
set_option linter.unusedVariables false
/-! A small language of values as trees, and what its programs do. -/
namespace Dk

inductive D where
  | non | bl (b : Bool) | int (i : Int) | str (s : List Nat)
  | tup (l : List D) | lst (l : List D) | dct (l : List (D × D))
  | ins (c : String) (fs : List (String × D))
  | cell (n : Nat) | cls (c : String) | ty (t : String) | fn (f : String)
  deriving Repr, Inhabited

mutual
def D.beq : D → D → Bool
  | .non, .non => true
  | .bl a, .bl b => a == b
  | .int a, .int b => a == b
  | .str a, .str b => a == b
  | .tup a, .tup b => D.beqs a b
  | .lst a, .lst b => D.beqs a b
  | .dct a, .dct b => D.beqk a b
  | .ins c a, .ins c' b => c == c' && D.beqf a b
  | .cell a, .cell b => a == b
  | .cls a, .cls b => a == b
  | .ty a, .ty b => a == b
  | .fn a, .fn b => a == b
  | _, _ => false
def D.beqs : List D → List D → Bool
  | [], [] => true
  | a :: as, b :: bs => D.beq a b && D.beqs as bs
  | _, _ => false
def D.beqk : List (D × D) → List (D × D) → Bool
  | [], [] => true
  | (a, x) :: as, (b, y) :: bs => D.beq a b && D.beq x y && D.beqk as bs
  | _, _ => false
def D.beqf : List (String × D) → List (String × D) → Bool
  | [], [] => true
  | (a, x) :: as, (b, y) :: bs => a == b && D.beq x y && D.beqf as bs
  | _, _ => false
end

/-- how a value came: it may be shared; it is new and nobody else has it; it is what an own name holds -/
inductive Fl where
  | v | f | p
  deriving Repr, DecidableEq, Inhabited

inductive CO where
  | lst (l : List D) | ins (c : String) (fs : List (String × D))
  deriving Repr, Inhabited

abbrev Env := List (Option (D × Bool))
abbrev Sto := List CO

inductive Res (α : Type) where
  | ok (a : α) | err (x : D)
  deriving Repr

abbrev Ot (α : Type) := Option (Res α × Env × Sto)

@[inline] def bnd {α β : Type} (m : Ot α) (k : α → Env → Sto → Ot β) : Ot β :=
  match m with
  | some (.ok a, E, S) => k a E S
  | some (.err x, E, S) => some (.err x, E, S)
  | none => none
@[inline] def ret {α : Type} (a : α) (E : Env) (S : Sto) : Ot α := some (.ok a, E, S)
/-- what may be nothing -/
@[inline] def opt {α β : Type} (m : Option α) (k : α → Ot β) : Ot β :=
  match m with
  | some a => k a
  | none => none

/-! ### values -/
def LIM : Nat := 1000000
def BIG : Nat := 2 ^ 4000

def b2i (b : Bool) : Int := if b then 1 else 0

mutual
def eqD : D → D → Bool
  | .non, .non => true
  | .bl a, .bl b => a == b
  | .bl a, .int j => b2i a == j
  | .int i, .bl b => i == b2i b
  | .int i, .int j => i == j
  | .str x, .str y => x == y
  | .lst xs, .lst ys => eqDs xs ys
  | .tup xs, .tup ys => eqDs xs ys
  | _, _ => false
def eqDs : List D → List D → Bool
  | [], [] => true
  | x :: xs, y :: ys => eqD x y && eqDs xs ys
  | _, _ => false
end
mutual
/-- none, truths, integers, texts, and lists and tuples of these -/
def plain : D → Bool
  | .non | .bl _ | .int _ => true
  | .str s => s.all fun c => decide (c < 1114112)
  | .tup l | .lst l => plains l
  | _ => false
def plains : List D → Bool
  | [] => true
  | x :: xs => plain x && plains xs
end
mutual
def depth : D → Nat
  | .lst xs | .tup xs => depths xs + 1
  | .dct l => depthk l + 1
  | _ => 0
def depths : List D → Nat
  | [] => 0
  | x :: xs => max (depth x) (depths xs)
def depthk : List (D × D) → Nat
  | [] => 0
  | (a, x) :: xs => max (max (depth a) (depth x)) (depthk xs)
end
def okD (d : D) : Bool := plain d && decide (depth d ≤ 60)

def truth : D → Option Bool
  | .non => some false
  | .bl b => some b
  | .int i => some (i != 0)
  | .str s => if s.length ≤ LIM then some (s.length != 0) else none
  | .lst l => some (!l.isEmpty)
  | .tup l => some (!l.isEmpty)
  | _ => none

inductive Bop where
  | add | sub | mul | mod | fdiv | pow | shl
  deriving Repr, DecidableEq
inductive Cop where
  | eq | ne | nel | nes | lt | le | gt | ge | is | isnot | in_ | notin
  deriving Repr, DecidableEq

def binD : Bop → D → D → Option (D × Fl)
  | .add, .int i, .int j => some (.int (i + j), .v)
  | .add, .str a, .str b => if a.length + b.length ≤ LIM then some (.str (a ++ b), .v) else none
  | .add, .lst a, .lst b => if a.length + b.length ≤ LIM then some (.lst (a ++ b), .f) else none
  | .add, .tup a, .tup b => if a.length + b.length ≤ LIM then some (.tup (a ++ b), .v) else none
  | .sub, .int i, .int j => some (.int (i - j), .v)
  | .mul, .int i, .int j => if i.natAbs < BIG ∧ j.natAbs < BIG then some (.int (i * j), .v) else none
  | .mul, .lst a, .int j => if 0 ≤ j ∧ j ≤ 100 ∧ a.length ≤ 100 then some (.lst ((List.replicate j.toNat a).flatten), .f) else none
  | .mod, .int i, .int j => if 0 < j then some (.int (i % j), .v) else none
  | .fdiv, .int i, .int j => if 0 < j ∧ j.natAbs < BIG then some (.int (i / j), .v) else none
  | .pow, .int i, .int j => if 0 ≤ j ∧ j ≤ 10000 ∧ i.natAbs < 2 ^ 64 then some (.int (i ^ j.toNat), .v) else none
  | .shl, .int i, .int j => if 0 ≤ j ∧ j ≤ 10000 ∧ i.natAbs < 2 ^ 64 then some (.int (i * 2 ^ j.toNat), .v) else none
  | _, _, _ => none

def flat : D → Bool
  | .non | .bl _ | .int _ | .str _ => true
  | _ => false
def keyOk : D → Bool
  | .int _ | .str _ => true
  | _ => false
def lookD (k : D) : List (D × D) → Option D
  | [] => none
  | (a, x) :: r => if D.beq a k then some x else lookD k r
def putD (k v : D) (l : List (D × D)) : List (D × D) :=
  if l.any (fun p => D.beq p.1 k) then l.map (fun p => if D.beq p.1 k then (p.1, v) else p) else l ++ [(k, v)]
def dropD (k : D) (l : List (D × D)) : List (D × D) := l.filter fun p => !D.beq p.1 k

def isNon : D → Bool
  | .non => true
  | _ => false
/-- a tuple beside the empty one -/
def emptyT : D → D → Option Bool
  | .tup l, .tup [] => some l.isEmpty
  | _, _ => none
/-- a list beside the empty one -/
def emptyL : D → D → Option Bool
  | .lst l, .lst [] => some (!l.isEmpty)
  | _, _ => none
def cmpD : Cop → D → D → Option Bool
  | .eq, a, b => if okD a && okD b then some (eqD a b) else emptyT a b
  | .ne, a, b => if okD a && okD b then some (!eqD a b) else none
  | .nel, a, b => emptyL a b
  | .nes, .str a, .str b => some (!(a == b))
  | .lt, .int i, .int j => some (decide (i < j))
  | .le, .int i, .int j => some (decide (i ≤ j))
  | .gt, .int i, .int j => some (decide (j < i))
  | .ge, .int i, .int j => some (decide (j ≤ i))
  | .is, a, .non => some (isNon a)
  | .isnot, a, .non => some (!isNon a)
  | .is, .bl a, .bl b => some (a == b)
  | .is, .non, .bl _ => some false
  | .isnot, .bl a, .bl b => some (!(a == b))
  | .isnot, .non, .bl _ => some true
  | .in_, x, .lst l => if okD x && okD (.lst l) then some (l.any fun z => eqD z x) else none
  | .in_, x, .tup l => if flat x && l.all flat then some (l.any fun z => eqD z x) else none
  | .in_, k, .dct l => if keyOk k then some (lookD k l).isSome else none
  | .in_, .str [c], .str b => some (b.contains c)
  | .notin, x, .lst l => if okD x && okD (.lst l) then some (!(l.any fun z => eqD z x)) else none
  | .notin, x, .tup l => if flat x && l.all flat then some (!(l.any fun z => eqD z x)) else none
  | .notin, k, .dct l => if keyOk k then some (!(lookD k l).isSome) else none
  | _, _, _ => none

def atL {α : Type} (l : List α) (i : Int) : Option α :=
  if 0 ≤ i then l[i.toNat]? else if 0 ≤ i + l.length then l[(i + l.length).toNat]? else none
def idxD : D → D → Option D
  | .lst l, .int i => atL l i
  | .tup l, .int i => atL l i
  | .str s, .int i => if s.length ≤ LIM then (atL s i).map fun c => .str [c] else none
  | .dct l, k => if keyOk k then lookD k l else none
  | _, _ => none

/-- a bound of a slice, brought into 0 .. n -/
def clamp (n : Nat) (dflt : Nat) : Option Int → Nat
  | none => dflt
  | some i => if i < 0 then (i + n).toNat else min i.toNat n
def cutL {α : Type} (l : List α) (lo hi : Nat) : List α := (l.drop lo).take (hi - lo)
def sliceD : D → Option Int → Option Int → Option (D × Fl)
  | .lst l, lo, hi => some (.lst (cutL l (clamp l.length 0 lo) (clamp l.length l.length hi)), .f)
  | .tup l, lo, hi => some (.tup (cutL l (clamp l.length 0 lo) (clamp l.length l.length hi)), .v)
  | _, _, _ => none

/-- each second one -/
def everyL {α : Type} : List α → List α
  | [] => []
  | [a] => [a]
  | a :: _ :: r => a :: everyL r
/-- a part with a step: backwards, or each second one -/
def stepD : D → Nat → Int → Option (D × Fl)
  | .lst l, 0, -1 => some (.lst l.reverse, .f)
  | .lst l, lo, 2 => if lo ≤ 1 then some (.lst (everyL (l.drop lo)), .f) else none
  | _, _, _ => none

/-! ### texts -/
def digs (n : Nat) : List Nat := (Nat.toDigits 10 n).map Char.toNat
def showI (i : Int) : List Nat := if i < 0 then 45 :: digs i.natAbs else digs i.natAbs
def tx (s : String) : List Nat := s.toList.map Char.toNat

def sepL (sep : List Nat) : List (List Nat) → List Nat
  | [] => []
  | [x] => x
  | x :: y :: r => x ++ sep ++ sepL sep (y :: r)
mutual
/-- what repr shows; rep: of a text -/
def showD (rep : List Nat → List Nat) : D → List Nat
  | .non => tx "None"
  | .bl b => if b then tx "True" else tx "False"
  | .int i => showI i
  | .str s => rep s
  | .lst l => 91 :: sepL [44, 32] (showDs rep l) ++ [93]
  | .tup l => 40 :: sepL [44, 32] (showDs rep l) ++ (if l.length = 1 then [44, 41] else [41])
  | .dct l => 123 :: sepL [44, 32] (showDk rep l) ++ [125]
  | _ => []
def showDs (rep : List Nat → List Nat) : List D → List (List Nat)
  | [] => []
  | x :: xs => showD rep x :: showDs rep xs
def showDk (rep : List Nat → List Nat) : List (D × D) → List (List Nat)
  | [] => []
  | (a, x) :: xs => (showD rep a ++ [58, 32] ++ showD rep x) :: showDk rep xs
end
mutual
/-- a bound of its length; none: it is not shown -/
def showN : D → Option Nat
  | .non => some 4
  | .bl _ => some 5
  | .int i => if i.natAbs < 2 ^ 1900 then some 1921 else none
  | .lst l | .tup l => (showNs l).map (· + 3)
  | _ => none
def showNs : List D → Option Nat
  | [] => some 0
  | x :: xs => match showN x, showNs xs with
    | some a, some b => some (a + b + 2)
    | _, _ => none
end

/-- parts between a sign -/
def splitL (c : Nat) : List Nat → List Nat → List (List Nat)
  | acc, [] => [acc]
  | acc, x :: r => if x = c then acc :: splitL c [] r else splitL c (acc ++ [x]) r
def joinL (sep : List Nat) : List (List Nat) → List Nat
  | [] => []
  | [x] => x
  | x :: y :: r => x ++ sep ++ joinL sep (y :: r)
def strsOf : List D → Option (List (List Nat))
  | [] => some []
  | .str s :: r => (strsOf r).map (s :: ·)
  | _ :: _ => none
def intsOf : List D → Option (List Int)
  | [] => some []
  | .int i :: r => (intsOf r).map (i :: ·)
  | _ :: _ => none
def blsOf : List D → Option (List Bool)
  | [] => some []
  | .bl i :: r => (blsOf r).map (i :: ·)
  | _ :: _ => none
/-- the first place of a text -/
def preL (S l : List Nat) : Bool := l.take S.length == S
def partL (S : List Nat) : List Nat → List Nat → Option (List Nat × List Nat)
  | _, [] => none
  | acc, x :: r => if preL S (x :: r) then some (acc, (x :: r).drop S.length) else partL S (acc ++ [x]) r
/-- all places of one text that do not overlap put otherwise -/
def replL (S T : List Nat) : Nat → List Nat → List Nat
  | _, [] => []
  | 0, l => l
  | n + 1, x :: r => if preL S (x :: r) then T ++ replL S T n ((x :: r).drop S.length) else x :: replL S T n r
def digitsVal : List Nat → Nat → Nat
  | [], a => a
  | c :: r, a => digitsVal r (a * 10 + (c - 48))
def allDigits (l : List Nat) : Bool := l.all fun c => decide (48 ≤ c ∧ c ≤ 57)

def insI (x : Int) : List Int → List Int
  | [] => [x]
  | y :: r => if x ≤ y then x :: y :: r else y :: insI x r
def sortI : List Int → List Int
  | [] => []
  | x :: r => insI x (sortI r)
def maxI : Int → List Int → Int
  | m, [] => m
  | m, x :: r => maxI (if x > m then x else m) r
def minI : Int → List Int → Int
  | m, [] => m
  | m, x :: r => minI (if x < m then x else m) r

/-- the type of a value, with the types above it that may be asked for -/
def isTy : D → String → Option Bool
  | .non, _ => some false
  | .bl _, t => some (t == "bool" || t == "int")
  | .int _, t => some (t == "int")
  | .str _, t => some (t == "str")
  | .tup _, t => some (t == "tuple")
  | .lst _, t => some (t == "list")
  | .dct _, t => some (t == "dict")
  | _, _ => none

/-- built-in functions of values alone -/
def callD : String → List D → Option (D × Fl)
  | "len", [.lst l] => some (.int l.length, .v)
  | "len", [.tup l] => some (.int l.length, .v)
  | "len", [.dct l] => some (.int l.length, .v)
  | "len", [.str s] => if s.length ≤ LIM then some (.int s.length, .v) else none
  | "tuple", [.lst l] => some (.tup l, .v)
  | "tuple", [.tup l] => some (.tup l, .v)
  | "list", [.lst l] => some (.lst l, .f)
  | "list", [.tup l] => some (.lst l, .f)
  | "list", [.dct l] => some (.lst (l.map (·.1)), .f)
  | "sorted", [.lst l] => match intsOf l with
    | some xs => if l.length < 64 then some (.lst ((sortI xs).map .int), .f) else none
    | none => none
  | "sum", [.lst l] => (intsOf l).map fun xs => (.int xs.sum, .v)
  | "any", [.lst l] => (blsOf l).map fun xs => (.bl (xs.any id), .v)
  | "all", [.lst l] => (blsOf l).map fun xs => (.bl (xs.all id), .v)
  | "max", [.lst l] => match intsOf l with
    | some (x :: r) => some (.int (maxI x r), .v)
    | _ => none
  | "min", [.lst l] => match intsOf l with
    | some (x :: r) => some (.int (minI x r), .v)
    | _ => none
  | "max", [.int i, .int j] => some (.int (if j > i then j else i), .v)
  | "min", [.int i, .int j] => some (.int (if j < i then j else i), .v)
  | "abs", [.int i] => some (.int (if i < 0 then -i else i), .v)
  | "int", [.int i] => some (.int i, .v)
  | "int", [.bl b] => some (.int (b2i b), .v)
  | "int", [.str s] => if allDigits s && !s.isEmpty && decide (s.length ≤ 600) then some (.int (digitsVal s 0), .v) else none
  | "bool", [.int i] => some (.bl (i != 0), .v)
  | "bool", [.bl b] => some (.bl b, .v)
  | "str", [.int i] => if i.natAbs < 2 ^ 1900 then some (.str (showI i), .v) else none
  | "divmod", [.int i, .int j] => if 0 < j ∧ j.natAbs < BIG then some (.tup [.int (i / j), .int (i % j)], .v) else none
  | _, _ => none

/-- methods of built-in values that change nothing -/
def methD : D → String → List D → Option (D × Fl)
  | .str s, "split", [.str [c]] => if s.length ≤ LIM ∧ c < 128 then some (.lst ((splitL c [] s).map .str), .f) else none
  | .str s, "join", [.lst l] => match strsOf l with
    | some xs => if (joinL s xs).length ≤ LIM ∧ s.length ≤ 1000 then some (.str (joinL s xs), .v) else none
    | none => none
  | .str s, "partition", [.str (a :: b)] => if s.length ≤ LIM then match partL (a :: b) [] s with
      | some (x, y) => some (.tup [.str x, .str (a :: b), .str y], .v)
      | none => some (.tup [.str s, .str [], .str []], .v)
    else none
  | .dct l, "get", [k, dflt] => if keyOk k then some ((lookD k l).getD dflt, .v) else none
  | .lst l, "count", [x] => if okD x && okD (.lst l) then some (.int (l.countP fun z => eqD z x), .v) else none
  | .lst l, "index", [x] => if okD x && okD (.lst l) then (l.findIdx? fun z => eqD z x).map fun (j : Nat) => (.int j, .v) else none
  | _, _, _ => none

/-! ### the language -/
inductive Tg where
  | nm (i : Nat) | tp (l : List Tg)
  deriving Repr

mutual
inductive CE where
  | k (d : D)
  | loc (i : Nat)
  | glob (x : String)
  | bin (o : Bop) (a b : CE)
  | neg (a : CE)
  | not (a : CE)
  | and (a b : CE) | or (a b : CE)
  | cmp (o : Cop) (a b : CE)
  | chain (o o' : Cop) (a b c : CE)
  | ife (c a b : CE)
  | tup (es : CEs) | lst (es : CEs)
  | dct (ks vs : CEs)
  | newcell (es : CEs)
  | call (f : String) (es : CEs)
  | callk (f : String) (es : CEs) (ks : List String) (ves : CEs)
  | bi (f : String) (es : CEs)
  | isi (e : CE) (t : String) (own : Bool)
  | make (c : String) (es : CEs)
  | makek (c : String) (es : CEs) (ks : List String) (ves : CEs)
  | clsm (c : String) (m : String) (es : CEs)
  | clsmk (c : String) (m : String) (es : CEs) (ks : List String) (ves : CEs)
  | callc (i : Nat) (es : CEs)
  | meth (o : CE) (m : String) (es : CEs)
  | attr (o : CE) (f : String)
  | idx (o i : CE)
  | sl (o lo hi : CE)
  | lc (elt : CE) (tg : Tg) (it : CI) (cond : CEs)
  | lc2 (elt : CE) (tg : Tg) (it : CI) (cond : CEs) (tg1 : Tg) (it1 : CI) (cond1 : CEs)
  | lco (elt : CE) (tg : Tg) (i : Nat) (cond : CEs)
  | bm (o : CE) (m : String) (es : CEs)
  | sls (o : CE) (lo : Nat) (st : Int)
  | frz (i : Nat)
  | fs (es : CEs)
  | rpr (e : CE)
  | prop (o : CE) (f : String)
  | dcs (o k v : CE)
  | mk0 (c : String)
  deriving Repr
inductive CEs where
  | nil | cons (e : CE) (es : CEs) | star (e : CE) (es : CEs)
  deriving Repr
inductive CI where
  | seq (e : CE) | enum (e : CE) | zip (a b : CE) | rng (a : CE) | rng2 (a b : CE) | items (e : CE)
  deriving Repr
end

inductive CT where
  | nm (i : Nat) | tp (l : List CT) | sub (o i : CE) | fld (o : CE) (f : String)
  deriving Repr

mutual
inductive CS where
  | asg (t : CT) (e : CE)
  | expr (e : CE)
  | ret (e : CE)
  | retN
  | ite (c : CE) (a b : CSs)
  | for_ (tg : Tg) (it : CI) (body : CSs)
  | wh (c : CE) (body : CSs)
  | pass
  | raise (e : CE)
  | app (i : Nat) (e : CE) | ext (i : Nat) (e : CE)
  | par2 (i j : Nat) (a b : CE)
  deriving Repr
inductive CSs where
  | nil | cons (s : CS) (ss : CSs)
  deriving Repr
end

structure Fn where
  ps : List String
  ns : Nat
  own : List Nat
  body : CSs
  deriving Repr
structure Cls where
  init : Option String
  meths : List (String × String)
  props : List (String × String)
  above : List String
  cells : Bool
  flds : List String
  deriving Repr

structure Prg where
  fn : String → Option Fn
  cl : String → Option Cls
  gl : String → Option D
  shw : D → List Nat

/-- a call: the def's name, how many of its arguments are to be taken as own, the arguments -/
abbrev Calls := String → List D → Sto → Option (Res (D × Fl) × Sto)

section
variable (P : Prg) (K : Calls) (MK : String → List D → Sto → Option (Res D × Sto))

def notP (l : List (D × Fl)) : Option (List D) := if l.all fun x => decide (x.2 ≠ Fl.p) then some (l.map (·.1)) else none
def one (x : D × Fl) : Option D := if x.2 = Fl.p then none else some x.1

def callM (m : Option (Res (D × Fl) × Sto)) (E : Env) : Ot (D × Fl) :=
  match m with
  | some (.ok r, S) => some (.ok r, E, S)
  | some (.err x, S) => some (.err x, E, S)
  | none => none
def makeM (m : Option (Res D × Sto)) (E : Env) : Ot (D × Fl) :=
  match m with
  | some (.ok r, S) => some (.ok (r, .v), E, S)
  | some (.err x, S) => some (.err x, E, S)
  | none => none

/-- the places of the keywords' values, in the order of the parameters -/
def arrI (ps ks : List String) : Option (List Nat) := ps.mapM fun p => ks.findIdx? (· == p)
def pick {α : Type} (vs : List α) : List Nat → Option (List α)
  | [] => some []
  | i :: r => match vs[i]?, pick vs r with
    | some a, some l => some (a :: l)
    | _, _ => none
/-- the arguments of a call by name, in the order of the parameters -/
def arrange {α : Type} (ps : List String) (pos : List α) (ks : List String) (vs : List α) : Option (List α) :=
  if pos.length + ks.length = ps.length ∧ ks.length = vs.length then (arrI (ps.drop pos.length) ks).bind fun l => (pick vs l).map (pos ++ ·) else none

def insC : D → Sto → Option (String × List (String × D))
  | .ins c fs, _ => some (c, fs)
  | .cell n, S => match S[n]? with
    | some (.ins c fs) => some (c, fs)
    | _ => none
  | _, _ => none
/-- the def of a method of an instance -/
def methF (d : D) (S : Sto) (m : String) : Option String :=
  match insC d S with
  | some (c, fs) => if (fs.lookup m).isNone then (P.cl c).bind (·.meths.lookup m) else none
  | none => none
def lookC (d : D) (S : Sto) : D :=
  match d with
  | .cell n => match S[n]? with
    | some (.lst l) => .lst l
    | _ => d
  | _ => d

def setE (E : Env) (i : Nat) (x : D × Bool) : Env := E.set i (some x)

/-- a target of names takes a value -/
def tgt : Tg → D → Env → Option Env
  | .nm i, d, E => some (setE E i (d, false))
  | .tp ts, .tup l, E => go ts l E
  | _, _, _ => none
where go : List Tg → List D → Env → Option Env
  | [], [], E => some E
  | t :: ts, x :: xs, E => match tgt t x E with
    | some E' => go ts xs E'
    | none => none
  | _, _, _ => none
def slots : Tg → List Nat
  | .nm i => [i]
  | .tp ts => go ts
where go : List Tg → List Nat
  | [] => []
  | t :: ts => slots t ++ go ts
def wipeE (E : Env) : List Nat → Env
  | [] => E
  | v :: vs => (wipeE E vs).set v none
def backE (E E' : Env) : List Nat → Env
  | [] => E'
  | v :: vs => (backE E E' vs).set v (E[v]?.getD none)

/-- the turns of a comprehension; vs: its own names -/
def lcL (vs : List Nat) (asg : D → Env → Option Env) (cond : Env → Sto → Ot Bool) (elt : Env → Sto → List D → Ot (List D)) : List D → List D → Env → Sto → Ot (List D)
  | [], acc, E, S => some (.ok acc, E, S)
  | x :: xs, acc, E, S => match asg x (wipeE E vs) with
      | none => none
      | some E1 => bnd (cond E1 S) fun b E2 S2 =>
        if b then bnd (elt E2 S2 acc) fun acc' E3 S3 => lcL vs asg cond elt xs acc' E3 S3
        else lcL vs asg cond elt xs acc E2 S2
/-- none of these names holds a thing of its own -/
def clearE (E : Env) (vs : List Nat) : Bool := vs.all fun i => match E[i]? with
  | some (some (_, true)) => false
  | _ => true

def pushL (acc : List D) (x : D × Fl) (E : Env) (S : Sto) : Ot (List D) :=
  match one x with
  | some d => if acc.length < LIM then some (.ok (acc ++ [d]), E, S) else none
  | none => none

def rngL (lo hi : Int) : List D := (List.range (hi - lo).toNat).map fun (k : Nat) => D.int (lo + (k : Int))
def small62 (i : Int) : Bool := decide (-(2 ^ 62) ≤ i ∧ i < 2 ^ 62)

/-- a value and, or what follows -/
def andV (x : D × Fl) (m : Ot (D × Fl)) (E : Env) (S : Sto) : Ot (D × Fl) := match x.1 with
  | .bl t => if t then m else some (.ok (.bl false, .v), E, S)
  | _ => opt (one x) fun d => opt (truth d) fun t => if t then m else some (.ok (d, .v), E, S)
def orV (x : D × Fl) (m : Ot (D × Fl)) (E : Env) (S : Sto) : Ot (D × Fl) := match x.1 with
  | .bl t => if t then some (.ok (.bl true, .v), E, S) else m
  | _ => opt (one x) fun d => opt (truth d) fun t => if t then some (.ok (d, .v), E, S) else m
def seqItems : D × Fl → Option (List D)
  | (.lst l, .v) => some l
  | (.lst l, .f) => some l
  | (.tup l, .v) => some l
  | (.str s, .v) => some (s.map fun c => .str [c])
  | _ => none

/-- the items that a star puts in -/
def starItems : D × Fl → Option (List D)
  | (.lst l, .v) => some l
  | (.lst l, .f) => some l
  | (.tup l, .v) => some l
  | _ => none
def enumL : Nat → List D → List D
  | _, [] => []
  | k, x :: r => .tup [.int k, x] :: enumL (k + 1) r
def zipL : List D → List D → List D
  | x :: xs, y :: ys => .tup [x, y] :: zipL xs ys
  | _, _ => []

def ownL : Option (Option (D × Bool)) → Option (List D)
  | some (some (.lst l, true)) => some l
  | _ => none
/-- two rows side by side -/
def zipO (x y : D × Fl) : Option (List D) :=
  match one x, one y with
  | some (.tup l), some (.tup m) => some (zipL l m)
  | some (.lst l), some (.lst m) => some (zipL l m)
  | _, _ => none
/-- the items of a dict, each a pair -/
def itemsD (l : List (D × D)) : List D := l.map fun p => .tup [p.1, p.2]
def itemsO : D × Fl → Option (List D)
  | (.dct l, .v) => some (itemsD l)
  | _ => none
/-- the def of a property of an instance -/
def propF (d : D) (S : Sto) (f : String) : Option String :=
  match insC d S with
  | some (c, _) => (P.cl c).bind (·.props.lookup f)
  | none => none
/-- an instance of a class without an __init__ -/
def bare (c : String) : Option D := match P.cl c with
  | some k => if k.init.isNone && !k.cells then some (.ins c []) else none
  | none => none
/-- {**d, k: v} -/
def overD (x : D × Fl) (k v : D) : Option (List (D × D)) := match x with
  | (.dct l, .v) => if keyOk k = true ∧ l.length < LIM then some (putD k v l) else none
  | _ => none
/-- an operand at the time of the operation: what an own name holds is looked up anew -/
def rf (a : CE) (x : D × Fl) (E : Env) : Option (D × Fl) :=
  match x.2 with
  | .v => some x
  | .f => some (x.1, .v)
  | .p => match a with
    | .loc i => match E[i]? with
      | some (some (d, true)) => some (d, .p)
      | _ => none
    | _ => none

/-- a written bound of a part -/
def boundO : CE → D → Option (Option Int)
  | .k .non, _ => some none
  | _, .int i => some (some i)
  | _, _ => none

/-- isinstance; own: the class is one of the program -/
def isiD (d : D) (S : Sto) (t : String) (own : Bool) : Option Bool :=
  match insC d S with
  | some (c, _) => if own then (P.cl c).map fun k => c == t || k.above.contains t else if (P.cl c).isSome then some false else none
  | none => if own then (isTy d "int").map fun _ => false else isTy d t

def cmpO (o : Cop) (a b : D × Fl) (E : Env) (S : Sto) : Ot (D × Fl) := opt (cmpD o a.1 b.1) fun b => some (.ok (.bl b, .v), E, S)

def reprO (d : D) (E : Env) (S : Sto) : Ot (D × Fl) :=
  match showN d with
  | some n => if n ≤ LIM ∧ depth d ≤ 60 then some (.ok (.str (P.shw d), .v), E, S) else none
  | none => none
def strO (d : D) (E : Env) (S : Sto) (m : String) : Ot (D × Fl) :=
  match d with
  | .ins c _ => match (P.cl c).bind (·.meths.lookup m) with
    | some f => callM (K f [d] S) E
    | none => none
  | .int i => if i.natAbs < 2 ^ 1900 then some (.ok (.str (showI i), .v), E, S) else none
  | .str s => if m = "__str__" then if s.length ≤ LIM then some (.ok (.str s, .v), E, S) else none else reprO P d E S
  | d => if m = "__repr__" then reprO P d E S else none

mutual
def ev : CE → Env → Sto → Ot (D × Fl)
  | .k d, E, S => some (.ok (d, .v), E, S)
  | .loc i, E, S => match E[i]? with
    | some (some (d, o)) => some (.ok (d, if o then .p else .v), E, S)
    | _ => none
  | .glob x, E, S => match P.gl x with
    | some d => some (.ok (d, .v), E, S)
    | none => none
  | .bin o a b, E, S => bnd (ev a E S) fun x E S => bnd (ev b E S) fun y E S => opt (rf a x E) fun x => opt (binD o (lookC x.1 S) (lookC y.1 S)) fun r => some (.ok r, E, S)
  | .neg a, E, S => bnd (ev a E S) fun x E S => match x.1 with
    | .int i => some (.ok (.int (-i), .v), E, S)
    | _ => none
  | .not a, E, S => bnd (ev a E S) fun x E S => opt (truth x.1) fun b => some (.ok (.bl (!b), .v), E, S)
  | .and a b, E, S => bnd (ev a E S) fun x E S => andV x (ev b E S) E S
  | .or a b, E, S => bnd (ev a E S) fun x E S => orV x (ev b E S) E S
  | .cmp o a b, E, S => bnd (ev a E S) fun x E S => bnd (ev b E S) fun y E S => opt (rf a x E) fun x => cmpO o x y E S
  | .chain o o' a b c, E, S => bnd (ev a E S) fun x E S => bnd (ev b E S) fun y E S => opt (rf a x E) fun x => opt (one y) fun y => opt (cmpD o x.1 y) fun r =>
    if r then bnd (ev c E S) fun z E S => opt (cmpD o' y z.1) fun r => some (.ok (.bl r, .v), E, S)
    else some (.ok (.bl false, .v), E, S)
  | .ife c a b, E, S => bnd (tst c E S) fun t E S => if t then ev a E S else ev b E S
  | .tup es, E, S => bnd (evs es E S) fun l E S => opt (notP l) fun l => some (.ok (.tup l, .v), E, S)
  | .lst es, E, S => bnd (evs es E S) fun l E S => opt (notP l) fun l => some (.ok (.lst l, .f), E, S)
  | .dct .nil .nil, E, S => some (.ok (.dct [], .f), E, S)
  | .dct ks _, E, S => bnd (evd ks E S) fun ps E S => if ps.length ≤ 15 then some (.ok (.dct (ps.foldl (fun l p => putD p.1 p.2 l) []), .f), E, S) else none
  | .newcell es, E, S => bnd (evs es E S) fun l E S => opt (notP l) fun l => some (.ok (.cell S.length, .v), E, S ++ [.lst l])
  | .call f es, E, S => bnd (evs es E S) fun l E S => opt (notP l) fun l => callM (K f l S) E
  | .callk f es ks ves, E, S => bnd (evs es E S) fun l E S => bnd (evs ves E S) fun v E S => opt (notP l) fun l => opt (notP v) fun v =>
    opt (P.fn f) fun c => opt (arrange c.ps l ks v) fun a => callM (K f a S) E
  | .bi f es, E, S => bnd (evs es E S) fun l E S => opt (callD f (l.map (·.1))) fun r => some (.ok r, E, S)
  | .isi e t own, E, S => bnd (ev e E S) fun x E S => opt (isiD P x.1 S t own) fun b => some (.ok (.bl b, .v), E, S)
  | .make c es, E, S => bnd (evs es E S) fun l E S => opt (notP l) fun l => makeM (MK c l S) E
  | .makek c es ks ves, E, S => bnd (evs es E S) fun l E S => bnd (evs ves E S) fun v E S => opt (notP l) fun l => opt (notP v) fun v =>
    opt ((P.cl c).bind (·.init)) fun f => opt (P.fn f) fun fc => opt (arrange (fc.ps.drop 1) l ks v) fun a => makeM (MK c a S) E
  | .clsm c m es, E, S => bnd (evs es E S) fun l E S => opt (notP l) fun l => opt ((P.cl c).bind (·.meths.lookup m)) fun f => callM (K f (.cls c :: l) S) E
  | .clsmk c m es ks ves, E, S => bnd (evs es E S) fun l E S => bnd (evs ves E S) fun v E S => opt (notP l) fun l => opt (notP v) fun v =>
    opt ((P.cl c).bind (·.meths.lookup m)) fun f => opt (P.fn f) fun fc => opt (arrange (fc.ps.drop 1) l ks v) fun a => callM (K f (.cls c :: a) S) E
  | .callc i es, E, S => match E[i]? with
    | some (some (.cls c, false)) => bnd (evs es E S) fun l E S => opt (notP l) fun l => makeM (MK c l S) E
    | _ => none
  | .meth o m es, E, S => bnd (ev o E S) fun x E S => opt (one x) fun d => opt (methF P d S m) fun f => bnd (evs es E S) fun l E S => opt (notP l) fun l => callM (K f (d :: l) S) E
  | .attr o f, E, S => bnd (ev o E S) fun x E S => opt (insC x.1 S) fun cf => opt (P.cl cf.1) fun kc =>
    match kc.props.lookup f with
    | some g => none
    | none => opt (if kc.flds.contains f then cf.2.lookup f else none) fun d => some (.ok (d, .v), E, S)
  | .idx o i, E, S => bnd (ev o E S) fun x E S => bnd (ev i E S) fun y E S => opt (rf o x E) fun x => opt (idxD (lookC x.1 S) y.1) fun d => some (.ok (d, .v), E, S)
  | .sl o lo hi, E, S => bnd (ev o E S) fun x E S => bnd (ev lo E S) fun a E S => bnd (ev hi E S) fun b E S => opt (rf o x E) fun x => opt (boundO lo a.1) fun l => opt (boundO hi b.1) fun u => opt (sliceD x.1 l u) fun r => some (.ok r, E, S)
  | .lc elt tg it cond, E, S => bnd (itr it E S) fun g E S => if clearE E (slots tg) then
      bnd (lcL (slots tg) (tgt tg) (conds cond) (fun E S acc => bnd (ev elt E S) (pushL acc)) g [] E S) fun l E' S => some (.ok (.lst l, .f), backE E E' (slots tg), S)
    else none
  | .lc2 elt tg it cond tg1 it1 cond1, E, S => bnd (itr it E S) fun g E S => if clearE E (slots tg ++ slots tg1) then
      bnd (lcL (slots tg ++ slots tg1) (tgt tg) (conds cond) (fun E S acc => bnd (itr it1 E S) fun g1 E S => lcL (slots tg1) (tgt tg1) (conds cond1) (fun E S acc => bnd (ev elt E S) (pushL acc)) g1 acc E S) g [] E S) fun l E' S' => some (.ok (.lst l, .f), backE E E' (slots tg ++ slots tg1), S')
    else none
  | .lco elt tg i cond, E, S => opt (ownL E[i]?) fun l => if clearE E (slots tg) && !(slots tg).contains i then
      bnd (lcL (slots tg) (tgt tg) (conds cond) (fun E S acc => bnd (ev elt E S) (pushL acc)) l [] (E.set i none) S) fun r E' S' => some (.ok (.lst r, .f), (backE (E.set i none) E' (slots tg)).set i (some (.lst l, true)), S')
    else none
  | .bm o m es, E, S => bnd (ev o E S) fun x E S => opt (one x) fun d => bnd (evs es E S) fun l E S => opt (notP l) fun l => opt (methD d m l) fun r => some (.ok r, E, S)
  | .frz i, E, S => match E[i]? with
    | some (some (d, _)) => some (.ok (d, .v), setE E i (d, false), S)
    | _ => none
  | .sls o lo st, E, S => bnd (ev o E S) fun x E S => opt (stepD (lookC x.1 S) lo st) fun r => some (.ok r, E, S)
  | .fs es, E, S => bnd (evf es E S) fun s E S => if s.length ≤ LIM then some (.ok (.str s, .v), E, S) else none
  | .rpr e, E, S => bnd (ev e E S) fun x E S => reprO P x.1 E S
  | .prop o f, E, S => bnd (ev o E S) fun x E S => opt (one x) fun d => opt (propF P d S f) fun g => callM (K g [d] S) E
  | .dcs o k v, E, S => bnd (ev o E S) fun x E S => bnd (ev k E S) fun y E S => bnd (ev v E S) fun z E S => opt (one y) fun y => opt (one z) fun z => opt (overD x y z) fun l => some (.ok (.dct l, .f), E, S)
  | .mk0 c, E, S => opt (bare P c) fun d => some (.ok (d, .v), E, S)
def evs : CEs → Env → Sto → Ot (List (D × Fl))
  | .nil, E, S => some (.ok [], E, S)
  | .cons e es, E, S => bnd (ev e E S) fun x E S => match x.2, es with
    | .p, .nil => some (.ok [x], E, S)
    | .p, _ => none
    | _, es => bnd (evs es E S) fun xs E S => some (.ok ((x.1, .v) :: xs), E, S)
  | .star e es, E, S => bnd (ev e E S) fun x E S => opt (starItems x) fun l => bnd (evs es E S) fun xs E S => if l.length + xs.length ≤ LIM then some (.ok (l.map (fun d => (d, .v)) ++ xs), E, S) else none
/-- the pairs of a dict's display: keys and values by turns -/
def evd : CEs → Env → Sto → Ot (List (D × D))
  | .nil, E, S => some (.ok [], E, S)
  | .cons k (.cons v r), E, S => bnd (ev k E S) fun x E S => bnd (ev v E S) fun y E S => opt (one x) fun x => opt (one y) fun y => if keyOk x then bnd (evd r E S) fun l E S => some (.ok ((x, y) :: l), E, S) else none
  | _, _, _ => none
/-- the parts of an f-string -/
def evf : CEs → Env → Sto → Ot (List Nat)
  | .nil, E, S => some (.ok [], E, S)
  | .cons e es, E, S => bnd (ev e E S) fun x E S => bnd (evf es E S) fun r E S => match x.1 with
    | .str s => some (.ok (s ++ r), E, S)
    | .int i => if i.natAbs < 2 ^ 1900 then some (.ok (showI i ++ r), E, S) else none
    | _ => none
  | .star _ _, _, _ => none
def tst : CE → Env → Sto → Ot Bool
  | .not a, E, S => bnd (tst a E S) fun b E S => some (.ok (!b), E, S)
  | .and a b, E, S => bnd (tst a E S) fun t E S => if t then tst b E S else some (.ok false, E, S)
  | .or a b, E, S => bnd (tst a E S) fun t E S => if t then some (.ok true, E, S) else tst b E S
  | .k d, E, S => bnd (ev (.k d) E S) fun x E S => opt (truth x.1) fun b => some (.ok b, E, S)
  | .loc i, E, S => bnd (ev (.loc i) E S) fun x E S => opt (truth x.1) fun b => some (.ok b, E, S)
  | .glob x, E, S => bnd (ev (.glob x) E S) fun x E S => opt (truth x.1) fun b => some (.ok b, E, S)
  | .bin o a b, E, S => bnd (ev (.bin o a b) E S) fun x E S => opt (truth x.1) fun b => some (.ok b, E, S)
  | .neg a, E, S => bnd (ev (.neg a) E S) fun x E S => opt (truth x.1) fun b => some (.ok b, E, S)
  | .cmp o a b, E, S => bnd (ev (.cmp o a b) E S) fun x E S => opt (truth x.1) fun b => some (.ok b, E, S)
  | .chain o o' a b c, E, S => bnd (ev (.chain o o' a b c) E S) fun x E S => opt (truth x.1) fun b => some (.ok b, E, S)
  | .tup es, E, S => bnd (ev (.tup es) E S) fun x E S => opt (truth x.1) fun b => some (.ok b, E, S)
  | .lst es, E, S => bnd (ev (.lst es) E S) fun x E S => opt (truth x.1) fun b => some (.ok b, E, S)
  | .call f es, E, S => bnd (ev (.call f es) E S) fun x E S => opt (truth x.1) fun b => some (.ok b, E, S)
  | .callk f es ks ves, E, S => bnd (ev (.callk f es ks ves) E S) fun x E S => opt (truth x.1) fun b => some (.ok b, E, S)
  | .bi f es, E, S => bnd (ev (.bi f es) E S) fun x E S => opt (truth x.1) fun b => some (.ok b, E, S)
  | .isi a t o, E, S => bnd (ev (.isi a t o) E S) fun x E S => opt (truth x.1) fun b => some (.ok b, E, S)
  | .meth o m es, E, S => bnd (ev (.meth o m es) E S) fun x E S => opt (truth x.1) fun b => some (.ok b, E, S)
  | .attr o f, E, S => bnd (ev (.attr o f) E S) fun x E S => opt (truth x.1) fun b => some (.ok b, E, S)
  | .idx o i, E, S => bnd (ev (.idx o i) E S) fun x E S => opt (truth x.1) fun b => some (.ok b, E, S)
  | .sl o lo hi, E, S => bnd (ev (.sl o lo hi) E S) fun x E S => opt (truth x.1) fun b => some (.ok b, E, S)
  | .lc e t i c, E, S => bnd (ev (.lc e t i c) E S) fun x E S => opt (truth x.1) fun b => some (.ok b, E, S)
  | .fs es, E, S => bnd (ev (.fs es) E S) fun x E S => opt (truth x.1) fun b => some (.ok b, E, S)
  | .prop o f, E, S => bnd (ev (.prop o f) E S) fun x E S => opt (truth x.1) fun b => some (.ok b, E, S)
  | _, _, _ => none
def conds : CEs → Env → Sto → Ot Bool
  | .nil, E, S => some (.ok true, E, S)
  | .cons c .nil, E, S => tst c E S
  | _, _, _ => none
/-- what is walked: the items, and the own name that holds them -/
def itr : CI → Env → Sto → Ot (List D)
  | .seq e, E, S => bnd (ev e E S) fun x E S => opt (seqItems x) fun r => some (.ok r, E, S)
  | .enum e, E, S => bnd (ev e E S) fun x E S => match x.1 with
    | .lst l => if x.2 = .p then none else some (.ok (enumL 0 l), E, S)
    | .tup l => some (.ok (enumL 0 l), E, S)
    | _ => none
  | .zip a b, E, S => bnd (ev a E S) fun x E S => bnd (ev b E S) fun y E S => opt (zipO x y) fun r => some (.ok r, E, S)
  | .rng a, E, S => bnd (ev a E S) fun x E S => match x.1 with
    | .int i => some (.ok (rngL 0 i), E, S)
    | _ => none
  | .rng2 a b, E, S => bnd (ev a E S) fun x E S => bnd (ev b E S) fun y E S => match x.1, y.1 with
    | .int i, .int j => some (.ok (rngL i j), E, S)
    | _, _ => none
  | .items e, E, S => bnd (ev e E S) fun x E S => opt (itemsO x) fun r => some (.ok r, E, S)
end

/-! ### statements -/
inductive Out where
  | nx | ret (x : D × Fl)
  deriving Repr

/-- a value that is stored under a name -/
def asgN (own : List Nat) (i : Nat) (x : D × Fl) (E : Env) : Option Env :=
  if own.contains i then match x with
    | (.lst l, .f) => some (setE E i (.lst l, true))
    | (.dct l, .f) => some (setE E i (.dct l, true))
    | (d, .v) => some (setE E i (d, false))
    | _ => none
  else match one x with
    | some d => some (setE E i (d, false))
    | none => none

/-- the names that a target sets -/
def slT : CT → List Nat
  | .nm i => [i]
  | .tp ts => go ts
  | .sub _ _ => []
  | .fld _ _ => []
where go : List CT → List Nat
  | [] => []
  | t :: ts => slT t ++ go ts

def putAt (l : List D) (i : Int) (v : D) : Option (List D) :=
  if 0 ≤ i ∧ i < l.length then some (l.set i.toNat v) else none

def setF (f : String) (v : D) : List (String × D) → List (String × D)
  | [] => [(f, v)]
  | (g, x) :: r => if g = f then (f, v) :: r else (g, x) :: setF f v r

/-- an attribute that is no method and no property -/
def fldOk (c f : String) : Bool := match P.cl c with
  | some kc => kc.flds.contains f
  | none => false
def asgT (own : List Nat) : CT → D × Fl → Env → Sto → Ot Unit
  | .nm i, x, E, S => match asgN own i x E with
    | some E' => some (.ok (), E', S)
    | none => none
  | .tp ts, (.tup l, _), E, S => go ts l E S
  | .tp ts, (.lst l, fl), E, S => if fl = .p then none else go ts l E S
  | .tp _, _, _, _ => none
  | .sub o i, x, E, S => bnd (ev P K MK o E S) fun ov E S => bnd (ev P K MK i E S) fun iv E S => opt (one x) fun d =>
    match ov, o, iv.1 with
    | (.cell n, .v), _, .int j => match S[n]? with
      | some (.lst l) => opt (putAt l j d) fun l' => some (.ok (), E, S.set n (.lst l'))
      | _ => none
    | (.lst _, .p), .loc k, .int j => match E[k]? with
      | some (some (.lst l, true)) => opt (putAt l j d) fun l' => some (.ok (), setE E k (.lst l', true), S)
      | _ => none
    | (.dct _, .p), .loc k, key => match E[k]? with
      | some (some (.dct l, true)) => if keyOk key ∧ l.length < LIM then some (.ok (), setE E k (.dct (putD key d l), true), S) else none
      | _ => none
    | _, _, _ => none
  | .fld o f, x, E, S => bnd (ev P K MK o E S) fun ov E S => opt (one x) fun d =>
    match ov, o with
    | (.ins _ _, .p), .loc k => match E[k]? with
      | some (some (.ins c fs, true)) => if fldOk P c f && decide (fs.length < 100) then some (.ok (), setE E k (.ins c (setF f d fs), true), S) else none
      | _ => none
    | (.cell n, .v), _ => match S[n]? with
      | some (.ins c fs) => if fldOk P c f && decide (fs.length < 100) then some (.ok (), E, S.set n (.ins c (setF f d fs))) else none
      | _ => none
    | _, _ => none
where go : List CT → List D → Env → Sto → Ot Unit
  | [], [], E, S => some (.ok (), E, S)
  | t :: ts, x :: xs, E, S => bnd (asgT own t (x, .v) E S) fun _ E S => go ts xs E S
  | _, _, _, _ => none

def forL (asg : D → Env → Option Env) (body : Env → Sto → Ot Out) : List D → Env → Sto → Ot Out
  | [], E, S => some (.ok .nx, E, S)
  | x :: xs, E, S => match asg x E with
      | none => none
      | some E1 => bnd (body E1 S) fun r E2 S2 => match r with
        | .nx => forL asg body xs E2 S2
        | .ret x => some (.ok (.ret x), E2, S2)
def whL (c : Env → Sto → Ot Bool) (body : Env → Sto → Ot Out) : Nat → Env → Sto → Ot Out
  | 0, _, _ => none
  | n + 1, E, S => bnd (c E S) fun b E S => if b then bnd (body E S) fun r E S => match r with
      | .nx => whL c body n E S
      | .ret x => some (.ok (.ret x), E, S)
    else some (.ok .nx, E, S)

/-- an own list takes one thing more, a new list's things more -/
def appO (o : Option (Option (D × Bool))) (d : D) : Option (List D) := match o with
  | some (some (.lst l, true)) => if l.length < LIM then some (l ++ [d]) else none
  | _ => none
def extO : Option (Option (D × Bool)) → D × Fl → Option (List D)
  | some (some (.lst l, true)), (.lst m, .f) => if l.length + m.length ≤ LIM then some (l ++ m) else none
  | some (some (.lst l, true)), (.lst m, .v) => if l.length + m.length ≤ LIM then some (l ++ m) else none
  | _, _ => none
variable (W : Nat)
/-- the value that is handed back: what an own name holds is let go -/
def handed (x : D × Fl) : D × Fl := if x.2 = .p then (x.1, .f) else x
mutual
def ex (own : List Nat) : CS → Env → Sto → Ot Out
  | .asg t e, E, S => bnd (ev P K MK e E S) fun x E S => bnd (asgT P K MK own t x E S) fun _ E S => some (.ok .nx, E, S)
  | .expr e, E, S => bnd (ev P K MK e E S) fun _ E S => some (.ok .nx, E, S)
  | .ret e, E, S => bnd (ev P K MK e E S) fun x E S => some (.ok (.ret (handed x)), E, S)
  | .retN, E, S => some (.ok (.ret (.non, .v)), E, S)
  | .ite c a b, E, S => bnd (tst P K MK c E S) fun t E S => if t then exs own a E S else exs own b E S
  | .for_ tg it body, E, S => bnd (itr P K MK it E S) fun g E S => forL (tgt tg) (exs own body) g E S
  | .wh c body, E, S => whL (tst P K MK c) (exs own body) W E S
  | .pass, E, S => some (.ok .nx, E, S)
  | .raise e, E, S => bnd (ev P K MK e E S) fun x E S => some (.err x.1, E, S)
  | .app i e, E, S => opt (ownL E[i]?) fun _ => bnd (ev P K MK e E S) fun x E S => opt (one x) fun d => opt (appO E[i]? d) fun l => some (.ok .nx, setE E i (.lst l, true), S)
  | .ext i e, E, S => opt (ownL E[i]?) fun _ => bnd (ev P K MK e E S) fun x E S => opt (extO E[i]? x) fun l => some (.ok .nx, setE E i (.lst l, true), S)
  | .par2 i j a b, E, S => bnd (ev P K MK a E S) fun x E S => bnd (ev P K MK b E S) fun y E S => opt (asgN own i x E) fun E1 => opt (asgN own j y E1) fun E2 => some (.ok .nx, E2, S)
def exs (own : List Nat) : CSs → Env → Sto → Ot Out
  | .nil, E, S => some (.ok .nx, E, S)
  | .cons s ss, E, S => bnd (ex own s E S) fun r E S => match r with
    | .nx => exs own ss E S
    | .ret x => some (.ok (.ret x), E, S)
end
end

/-! ### calls, by depth -/
section
variable (P : Prg) (W : Nat)
def fnEnd : Ot Out → Option (Res (D × Fl) × Sto)
  | some (.ok .nx, _, S) => some (.ok (.non, .v), S)
  | some (.ok (.ret x), _, S) => some (.ok x, S)
  | some (.err x, _, S) => some (.err x, S)
  | none => none
def entry (c : Fn) (args : List D) : Env := args.map (fun d => some (d, false)) ++ List.replicate (c.ns - args.length) none
def mkEnd (cells : Bool) : Ot Out → Option (Res D × Sto)
  | some (.ok .nx, E, S) => match E[0]? with
    | some (some (D.ins c fs, true)) => if cells then some (.ok (.cell S.length), S ++ [.ins c fs]) else some (.ok (.ins c fs), S)
    | _ => none
  | some (.ok (.ret _), _, _) => none
  | some (.err x, _, S) => some (.err x, S)
  | none => none
structure CM where
  call : Calls
  make : String → List D → Sto → Option (Res D × Sto)
def cm : Nat → CM
  | 0 => ⟨fun _ _ _ => none, fun _ _ _ => none⟩
  | n + 1 => ⟨fun f args S => match P.fn f with
      | some c => if args.length = c.ps.length then fnEnd (exs P (cm n).call (cm n).make W c.own c.body (entry c args) S) else none
      | none => none,
    fun c args S => match P.cl c with
      | some k => match k.init.bind P.fn with
        | some fc => if args.length + 1 = fc.ps.length then
            mkEnd k.cells (exs P (cm n).call (cm n).make W fc.own fc.body (some (.ins c [], true) :: args.map (fun d => some (d, false)) ++ List.replicate (fc.ns - (args.length + 1)) none) S) else none
        | none => none
      | none => none⟩
end
end Dk
end
/-! Cm -/
section
/-! From Python's syntax to the small language. -/
namespace Dk
open PySem (Str NameKind Scope)

/-- a text -/
def st (l : List Nat) : Str := ⟨l.toArray⟩
mutual
/-- trees as the library's data -/
def toPy : D → PySem.PyData
  | .bl b => .bool b
  | .int i => .int i
  | .str s => .str (st s)
  | .tup l => .tuple (toPys l)
  | .lst l => .list (toPys l)
  | _ => .none
def toPys : List D → List PySem.PyData
  | [] => []
  | d :: ds => toPy d :: toPys ds
end
/-- what repr shows -/
def shwPy (d : D) : List Nat := (toPy d).shown.cps.toList

/-- what the compiler knows: the slots' names, the defs, the classes, the def's own names, whether a list that is handed back is a cell -/
structure Cc where
  N : List Str
  defs : List String
  clss : List String
  own : List Nat
  cellRet : Bool
  fix : List Nat
  kws : List (String × Nat × List String)
  mts : List String

def nmOf (x : Str) : Option String := if Str.ofString x.toString = x then some x.toString else none
def ixOf (N : List Str) (x : Str) : Option Nat := (N.findIdx? (· = x))

def bopOf : PySem.Operator → Option Bop
  | .Add => some .add | .Sub => some .sub | .Mult => some .mul | .Mod => some .mod | .FloorDiv => some .fdiv | .Pow => some .pow | .LShift => some .shl
  | _ => none
def copOf : PySem.CmpOp → Cop
  | .Eq => .eq | .NotEq => .ne | .Lt => .lt | .LtE => .le | .Gt => .gt | .GtE => .ge | .Is => .is | .IsNot => .isnot | .In => .in_ | .NotIn => .notin

/-- a test of texts that repr made -/
def isRpr : CE → Bool
  | .rpr _ => true
  | _ => false
/-- the sign 999 stands for a def in which what is not [] is asked of lists of any things -/
def copC (fx : List Nat) (tx : Bool) : PySem.CmpOp → Cop
  | .NotEq => if tx then .nes else if fx.contains 999 then .nel else .ne
  | op => copOf op
def isVis (sc : Scope) (x : Str) : Bool := match sc.names.lookup x with
  | some .local | some .cell | some .free => true
  | _ => false
def isGl (sc : Scope) (x : Str) : Bool := match sc.names.lookup x with
  | some .globalImplicit => true
  | _ => false

/-- a name that is looked up in the usual way -/
def okNm (x : Str) : Bool := !(x == "__debug__") && !(x == "__classdict__") && !(x == "__name__")
def isStar : PySem.Expr → Bool
  | .Starred .. => true
  | _ => false
def isTup : PySem.Expr → Bool
  | .Tuple .. => true
  | _ => false
def isSlice : PySem.Expr → Bool
  | .Slice .. => true
  | _ => false
/-- a test that is the value's truth -/
def plainT : PySem.Expr → Bool
  | .UnaryOp .Not _ _ | .BoolOp .. | .IfExp .. | .Compare .. => false
  | _ => true
def ownOf (N : List Str) (sl : List Nat) : List (Str × Nat) := sl.filterMap fun i => (N[i]?).map fun x => (x, i)
def locIn (sc : Scope) (x : Str) : Bool := sc.names.lookup x == some .local || sc.names.lookup x == some .cell

def builtins : List String := ["len", "tuple", "list", "sorted", "sum", "any", "all", "max", "min", "abs", "int", "divmod"]
def types : List String := ["int", "bool", "str", "tuple", "list", "dict"]

def seqO {α : Type} : List (Option α) → Option (List α)
  | [] => some []
  | some x :: r => (seqO r).map (x :: ·)
  | none :: _ => none
def toEs : List CE → CEs
  | [] => .nil
  | e :: es => .cons e (toEs es)
def toSs : List CS → CSs
  | [] => .nil
  | e :: es => .cons e (toSs es)

/-- the step of a part, its beginning -/
def stepPart : PySem.Expr → Option Int
  | .Constant (.int 2) _ _ => some 2
  | .UnaryOp .USub (.Constant (.int 1) _ _) _ => some (-1)
  | _ => none
def loPart : Option PySem.Expr → Option Nat
  | none => some 0
  | some (.Constant (.int 1) _ _) => some 1
  | _ => none

def cTg : Nat → Cc → Scope → PySem.Expr → Option Tg
  | n + 1, cc, sc, .Name x _ => if locIn sc x then (ixOf cc.N x).map .nm else none
  | n + 1, cc, sc, .Tuple es _ _ => if es.any isStar then none else (seqO (es.map (cTg n cc sc))).map .tp
  | _, _, _, _ => none

/-- a walk over what an own name holds -/
def ownIt (cc : Cc) (sc : Scope) : PySem.Expr → Option Nat
  | .Name x _ => if okNm x && isVis sc x then (ixOf cc.N x).bind fun i => if cc.own.contains i then some i else none else none
  | _ => none

/-- a call without arguments -/
def isCall0 : PySem.Expr → Bool
  | .Call (.Name _ _) [] [] _ => true
  | _ => false

mutual
def cE : Nat → Cc → Scope → PySem.Expr → Option CE
  | 0, _, _, _ => none
  | n + 1, cc, sc, e => match e with
    | .Constant c _ _ => match c with
      | .none => some (.k .non)
      | .bool b => some (.k (.bl b))
      | .int i => some (.k (.int i))
      | .str s => some (.k (.str s.cps.toList))
      | _ => none
    | .Name x _ => if okNm x then if isVis sc x then (ixOf cc.N x).map .loc else if isGl sc x then (nmOf x).map .glob else none else none
    | .BinOp a op b _ => match bopOf op, cE n cc sc a, cE n cc sc b with
      | some o, some a, some b => some (.bin o a b)
      | _, _, _ => none
    | .UnaryOp .USub a _ => (cE n cc sc a).map .neg
    | .UnaryOp .Not a _ => (cE n cc sc a).map .not
    | .BoolOp op (a :: b :: r) _ => cB n cc sc op (a :: b :: r)
    | .Compare a [op] [b] _ => if PySem.behindInMarks op b then none else match cE n cc sc a, cE n cc sc b with
      | some a, some b => some (.cmp (copC cc.fix (isRpr a && isRpr b) op) a b)
      | _, _ => none
    | .Compare a [op, op'] [b, c] _ => if PySem.behindInMarks op' c then none else match cE n cc sc a, cE n cc sc b, cE n cc sc c with
      | some a, some b, some c => some (.chain (copOf op) (copOf op') a b c)
      | _, _, _ => none
    | .IfExp c a b _ => match cE n cc sc c, cE n cc sc a, cE n cc sc b with
      | some c, some a, some b => some (.ife c a b)
      | _, _, _ => none
    | .Tuple es _ _ => if es.length ≤ 1000 then (cDs n cc sc es).map .tup else none
    | .List es _ => if es.length ≤ 1000 then (cDs n cc sc es).map .lst else none
    | .Dict [] [] _ => some (.dct .nil .nil)
    | .Dict [none, some k] [o, v] _ => match cE n cc sc o, cE n cc sc k, cE n cc sc v with
      | some o, some k, some v => some (.dcs o k v)
      | _, _, _ => none
    | .Dict ks vs _ => if ks.length == vs.length && decide (ks.length ≤ 15) then (cDp n cc sc ks vs).bind fun c => match c with
      | .nil => none
      | c => some (.dct c .nil)
      else none
    | .Attribute o f _ => if isCall0 o then none else match cE n cc sc o, nmOf f with
      | some o, some f => if cc.mts.contains ("@" ++ f) then some (.prop o f) else some (.attr o f)
      | _, _ => none
    | .Subscript o (.Slice lo hi none _) _ => match cE n cc sc o, cO n cc sc lo, cO n cc sc hi with
      | some o, some a, some b => some (.sl o a b)
      | _, _, _ => none
    | .Subscript o (.Slice lo none (some st) _) _ => match cE n cc sc o, loPart lo, stepPart st with
      | some o, some l, some s => some (.sls o l s)
      | _, _, _ => none
    | .Subscript o i _ => if isSlice i then none else match cE n cc sc o, cE n cc sc i with
      | some o, some i => some (.idx o i)
      | _, _ => none
    | .Call (.Name f _) [] [] _ => if okNm f && isGl sc f then match nmOf f with
      | some f => if cc.mts.contains ("!" ++ f) && !cc.defs.contains f then some (.mk0 f) else none
      | none => none
      else none
    | .Call (.Name f _) as [] _ =>
      if okNm f && isGl sc f && !as.isEmpty then match nmOf f, as with
        | some "repr", [a] => if cc.defs.contains "repr" || cc.clss.contains "repr" then none else (cE n cc sc a).map .rpr
        | some "isinstance", [a, .Name t _] => if okNm t && isGl sc t then match cE n cc sc a, nmOf t with
          | some a, some t => if types.contains t then some (.isi a t false) else if cc.clss.contains t then some (.isi a t true) else none
          | _, _ => none else none
        | some f, as => if builtins.contains f && !cc.defs.contains f && !cc.clss.contains f then (cEs n cc sc as).map fun as => .bi f as else match cAs n cc sc as with
          | some as =>
            if cc.defs.contains f then some (.call f as)
            else if cc.clss.contains f then some (.make f as) else none
          | none => none
        | none, _ => none
      else none
    | .Call (.Name f _) as (kw :: kws) _ =>
      if okNm f && isGl sc f then match nmOf f, cAs n cc sc as, cKs n cc sc (kw :: kws) with
        | some f, some es, some (ks, vs) =>
          if cc.kws.contains (f, as.length, ks) then
            if cc.defs.contains f then some (.callk f es ks vs)
            else if cc.clss.contains f then some (.makek f es ks vs) else none
          else none
        | _, _, _ => none
      else none
    | .Call (.Attribute o m apos) as [] pos =>
      if apos.endLine == pos.line && as.length < 29 && !isCall0 o then match cE n cc sc o, nmOf m, cAs n cc sc as with
        | some o, some m, some as => if cc.mts.contains m then some (.meth o m as) else if (m == "count" || m == "get") || m == "index" then some (.bm o m as) else none
        | _, _, _ => none
      else none
    | .ListComp elt [⟨t, it, ifs, 0⟩, ⟨t1, it1, ifs1, 0⟩] isc _ => match cTg 9 cc isc t, cI n cc sc t it, cIf n cc isc ifs, cTg 9 cc isc t1, cI n cc isc t1 it1, cIf n cc isc ifs1, cE n cc isc elt with
      | some t, some it, some c, some t1, some it1, some c1, some e => if L2.blkC cc.N sc isc (ownOf cc.N (slots t ++ slots t1)) && (ownOf cc.N (slots t ++ slots t1)).map (·.2) == slots t ++ slots t1 then some (.lc2 e t it c t1 it1 c1) else none
      | _, _, _, _, _, _, _ => none
    | .ListComp elt [⟨t, it, ifs, 0⟩] isc _ => match ownIt cc sc it with
      | some i => match cTg 9 cc isc t, cIf n cc isc ifs, cE n cc isc elt with
        | some t, some c, some e => if L2.blkC cc.N sc isc (ownOf cc.N (slots t)) && (ownOf cc.N (slots t)).map (·.2) == slots t then some (.lco e t i c) else none
        | _, _, _ => none
      | none => match cTg 9 cc isc t, cI n cc sc t it, cIf n cc isc ifs, cE n cc isc elt with
        | some t, some it, some c, some e => if L2.blkC cc.N sc isc (ownOf cc.N (slots t)) && (ownOf cc.N (slots t)).map (·.2) == slots t then some (.lc e t it c) else none
        | _, _, _, _ => none
    | _ => none
/-- a dict's display: keys and values by turns -/
def cDp : Nat → Cc → Scope → List (Option PySem.Expr) → List PySem.Expr → Option CEs
  | _, _, _, [], [] => some .nil
  | 0, _, _, _, _ => none
  | n + 1, cc, sc, some k :: ks, v :: vs => match cE n cc sc k, cE n cc sc v, cDp n cc sc ks vs with
    | some k, some v, some r => some (.cons k (.cons v r))
    | _, _, _ => none
  | _, _, _, _, _ => none
def cO : Nat → Cc → Scope → Option PySem.Expr → Option CE
  | _, _, _, none => some (.k .non)
  | 0, _, _, _ => none
  | n + 1, cc, sc, some e => match cE n cc sc e with
    | some (.k .non) => none
    | r => r
def cEs : Nat → Cc → Scope → List PySem.Expr → Option CEs
  | _, _, _, [] => some .nil
  | 0, _, _, _ => none
  | n + 1, cc, sc, e :: es => match cE n cc sc e, cEs n cc sc es with
    | some a, some b => some (.cons a b)
    | _, _ => none
/-- the parts of a display -/
def cDs : Nat → Cc → Scope → List PySem.Expr → Option CEs
  | _, _, _, [] => some .nil
  | 0, _, _, _ => none
  | n + 1, cc, sc, .Starred e _ :: es => match cE n cc sc e, cDs n cc sc es with
    | some a, some b => some (.star a b)
    | _, _ => none
  | n + 1, cc, sc, e :: es => match (match ownIt cc sc e with | some i => some (.frz i) | none => cE n cc sc e), cDs n cc sc es with
    | some a, some b => some (.cons a b)
    | _, _ => none
/-- the arguments of a def: what an own name holds is let go -/
def cAs : Nat → Cc → Scope → List PySem.Expr → Option CEs
  | _, _, _, [] => some .nil
  | 0, _, _, _ => none
  | n + 1, cc, sc, e :: es => match (match ownIt cc sc e with | some i => some (.frz i) | none => cE n cc sc e), cAs n cc sc es with
    | some a, some b => some (.cons a b)
    | _, _ => none
def cKs : Nat → Cc → Scope → List PySem.Keyword → Option (List String × CEs)
  | _, _, _, [] => some ([], .nil)
  | 0, _, _, _ => none
  | n + 1, cc, sc, ⟨some x, e, _⟩ :: ks => match nmOf x, cE n cc sc e, cKs n cc sc ks with
    | some x, some a, some (xs, b) => some (x :: xs, .cons a b)
    | _, _, _ => none
  | _, _, _, _ => none
def cIf : Nat → Cc → Scope → List PySem.Expr → Option CEs
  | _, _, _, [] => some .nil
  | 0, _, _, _ => none
  | n + 1, cc, sc, [e] => (cE n cc sc e).map fun a => .cons a .nil
  | _, _, _, _ => none
def cB : Nat → Cc → Scope → PySem.BoolOp → List PySem.Expr → Option CE
  | 0, _, _, _, _ => none
  | _, _, _, _, [] => none
  | n + 1, cc, sc, _, [a] => cE n cc sc a
  | n + 1, cc, sc, op, a :: b :: r => match cE n cc sc a, cB n cc sc op (b :: r) with
    | some a, some b => some (match op with | .And => .and a b | .Or => .or a b)
    | _, _ => none
def cI : Nat → Cc → Scope → PySem.Expr → PySem.Expr → Option CI
  | 0, _, _, _, _ => none
  | n + 1, cc, sc, tg, e => match e with
    | .Call (.Name f _) [a] [] _ => if f == "range" && isGl sc "range" then (if isStar a then none else (cE n cc sc a).map .rng)
      else if f == "enumerate" && isGl sc "enumerate" then (if isStar a || !isTup tg then none else (cE n cc sc a).map .enum)
      else (cE n cc sc e).map .seq
    | .Call (.Attribute o m apos) [] [] cpos => if isTup tg && m == "items" && apos.endLine == cpos.line && !isCall0 o then (match ownIt cc sc o with | some i => some (CI.items (.frz i)) | none => (cE n cc sc o).map .items) else (cE n cc sc e).map .seq
    | .Name x px => (match ownIt cc sc (.Name x px) with | some i => some (CI.seq (.frz i)) | none => (cE n cc sc e).map .seq)
    | .Call (.Name f _) [a, b] [] _ => if f == "range" && isGl sc "range" then (if isStar a || isStar b then none else match cE n cc sc a, cE n cc sc b with
        | some a, some b => some (.rng2 a b)
        | _, _ => none)
      else if f == "zip" && isGl sc "zip" then (if isStar a || isStar b || !isTup tg then none else match cE n cc sc a, cE n cc sc b with
        | some a, some b => some (.zip a b)
        | _, _ => none)
      else (cE n cc sc e).map .seq
    | .Set .. => none
    | e => (cE n cc sc e).map .seq
end

def cT : Nat → Cc → Scope → PySem.Expr → Option CT
  | n + 1, cc, sc, .Name x _ => if locIn sc x then (ixOf cc.N x).map .nm else none
  | n + 1, cc, sc, .Tuple es _ _ => if es.any isStar then none else (seqO (es.map (cT n cc sc))).map .tp
  | n + 1, cc, sc, .Subscript o i _ => if isSlice i then none else match cE 99 cc sc o, cE 99 cc sc i with
    | some o, some i => some (.sub o i)
    | _, _ => none
  | n + 1, cc, sc, .Attribute o f _ => match cE 99 cc sc o, nmOf f with
    | some o, some f => some (.fld o f)
    | _, _ => none
  | _, _, _, _ => none

/-- a row of names that takes a row of values: the values are no plain constants, or for sure folded ones -/
def parOk : PySem.Expr → PySem.Expr → Bool
  | .Tuple _ _ _, .Tuple vs _ _ => !(vs.all (PySem.constantsAlone 8)) || vs.all (PySem.foldedForSure 8)
  | _, _ => true
/-- x.append(a), x.extend(a) -/
def appOf : PySem.Expr → Option (Str × Bool × PySem.Expr)
  | .Call (.Attribute (.Name x _) m apos) [a] [] cpos => if apos.endLine == cpos.line then if m == "append" then some (x, true, a) else if m == "extend" then some (x, false, a) else none else none
  | _ => none
/-- two new names that take two values -/
def parOf (cc : Cc) (sc : Scope) : PySem.Expr → PySem.Expr → Option (Nat × Nat × PySem.Expr × PySem.Expr)
  | .Tuple [.Name x px, .Name y py] _ _, .Tuple [a, b] _ _ =>
    if sc.names.lookup x == some .local && sc.names.lookup y == some .local && py.line == px.line && !(x == y) && !isStar a && !isStar b && !([a, b].all (PySem.foldedForSure 8)) && !([a, b].all (PySem.constantsAlone 8)) then
      match ixOf cc.N x, ixOf cc.N y with
      | some i, some j => if (cc.own.contains i || cc.own.contains j) && !cc.fix.contains i && !cc.fix.contains j then some (i, j, a, b) else none
      | _, _ => none
    else none
  | _, _ => none
def isLC : PySem.Expr → Bool
  | .ListComp .. => true
  | _ => false
mutual
def cS : Nat → Cc → Scope → PySem.Stmt → Option CS
  | 0, _, _, _ => none
  | n + 1, cc, sc, s => match s with
    | .Assign [t] e _ => match parOf cc sc t e with
      | some (i, j, a, b) => match cE 99 cc sc a, cE 99 cc sc b with
        | some a, some b => some (.par2 i j a b)
        | _, _ => none
      | none => if parOk t e then match cT 9 cc sc t, cE 99 cc sc e with
      | some t, some e => if cc.fix.any (slT t).contains then none else some (.asg t e)
      | _, _ => none else none
    | .Expr e _ => match appOf e with
      | some (x, m, a) => if locIn sc x && isVis sc x && okNm x && !isStar a then match ixOf cc.N x, cE 99 cc sc a with
        | some i, some a => if cc.fix.contains i then none else some (if m then .app i a else .ext i a)
        | _, _ => none
        else none
      | none => if isLC e then none else (cE 99 cc sc e).map .expr
    | .Return none _ => some .retN
    | .Return (some e) _ => if cc.cellRet then match e with
      | .List es _ => if es.length ≤ 1000 then (cEs 99 cc sc es).map fun es => .ret (.newcell es) else none
      | e => (cE 99 cc sc e).map .ret
      else (cE 99 cc sc e).map .ret
    | .If c a b _ => match cE 99 cc sc c, cSs n cc sc a, cSs n cc sc b with
      | some c, some a, some b => some (.ite c a b)
      | _, _, _ => none
    | .For t it body [] _ => match cTg 9 cc sc t, cI 99 cc sc t it, cSs n cc sc body with
      | some t, some it, some b => if cc.fix.any (slots t).contains then none else some (.for_ t it b)
      | _, _, _ => none
    | .While c body [] _ => match cE 99 cc sc c, cSs n cc sc body with
      | some c, some b => some (.wh c b)
      | _, _ => none
    | .Pass _ => some .pass
    | .Raise (some _) none _ => some (.raise (.k .non))
    | _ => none
def cSs : Nat → Cc → Scope → List PySem.Stmt → Option CSs
  | _, _, _, [] => some .nil
  | 0, _, _, _ => none
  | n + 1, cc, sc, s :: ss => match cS n cc sc s, cSs n cc sc ss with
    | some a, some b => some (.cons a b)
    | _, _ => none
end
end Dk
end
/-! Snd1 -/
section
set_option linter.all false
set_option maxRecDepth 100000
set_option maxHeartbeats 1000000
namespace Dk
open PySem (Str Addr Heap)
open L2 (V Hp HO upd Rd SqL SqT Key St)

abbrev Kx := PySem.W.Frag
def sx (s : String) : Str := Str.ofString s
def keyV : D → Option Key
  | .int i => some (.inl i)
  | .str s => some (.inr (st s))
  | _ => none

/-- a tuple that lies in the written part -/
def WrT (K : Kx) (a : Addr) (xs : List V) : Prop := ∃ (o : PySem.Obj) (its : Array PySem.Value) (n : Nat), K.lookup a = some o ∧ o.cls = .type "tuple" ∧ o.data = .seq its n ∧ its.size ≤ PySem.sizeLine ∧ L2.Vals xs its.toList

/-- a list that lies in the written part -/
def WrL (K : Kx) (a : Addr) (xs : List V) : Prop := ∃ (its : Array PySem.Value) (n : Nat), K.lookup a = some { cls := .type "list", data := .seq its n } ∧ its.size ≤ PySem.sizeLine ∧ L2.Vals xs its.toList
def SqE (K : Kx) (H : Hp) (a : Addr) (xs : List V) : Prop := Rd H a (.lst xs) ∨ WrL K a xs
theorem SqE.sq {K : Kx} {H : Hp} {a : Addr} {xs : List V} (h : SqE K H a xs) : SqL K H a xs := by
  rcases h with h | ⟨its, n, h1, h2, h3⟩
  · exact .inl h
  · exact .inr ⟨_, its, n, h1, rfl, rfl, rfl, h2, h3⟩
section
variable (K : Kx) (cad : String → Option Addr) (X : Addr → Prop) (ρ : List Addr) (H : Hp)
mutual
/-- in the heap H the value stands for the tree; what it is made of lies outside X -/
def Rep : D → V → Prop
  | .non, v => v = .non
  | .bl b, v => v = .bl b
  | .int i, v => v = .int i
  | .str s, v => v = .str (st s)
  | .tup l, v => ∃ p vs, v = .ref p ∧ ((¬ X p ∧ Rd H p (.tup vs)) ∨ WrT K p vs) ∧ Reps l vs
  | .lst l, v => ∃ p vs, v = .ref p ∧ ((¬ X p ∧ Rd H p (.lst vs)) ∨ WrL K p vs) ∧ Reps l vs
  | .dct l, v => ∃ p kvs, v = .ref p ∧ ¬ X p ∧ Rd H p (.dK kvs) ∧ RepK l kvs
  | .ins c fs, v => ∃ p C dx gs, v = .ref p ∧ ¬ X p ∧ cad c = some C ∧ H p = some (.ins C dx gs) ∧ RepF fs gs
  | .cell n, v => ∃ p, v = .ref p ∧ ρ[n]? = some p
  | .cls c, v => ∃ C, v = .ref C ∧ cad c = some C
  | .ty t, v => v = .ty t
  | .fn _, _ => False
def Reps : List D → List V → Prop
  | [], vs => vs = []
  | d :: ds, vs => ∃ v r, vs = v :: r ∧ Rep d v ∧ Reps ds r
def RepK : List (D × D) → List (Key × V) → Prop
  | [], kvs => kvs = []
  | (k, d) :: ds, kvs => ∃ x v r, kvs = (x, v) :: r ∧ keyV k = some x ∧ Rep d v ∧ RepK ds r
def RepF : List (String × D) → List (Str × V) → Prop
  | [], gs => gs = []
  | (f, d) :: ds, gs => ∃ v r, gs = (sx f, v) :: r ∧ Rep d v ∧ RepF ds r
end
/-- what the object at p holds, whoever may change it -/
def Cont (p : Addr) : D → Prop
  | .lst l => ∃ vs, H p = some (.lst vs) ∧ Reps K cad X ρ H l vs
  | .dct l => ∃ kvs, H p = some (.dK kvs) ∧ RepK K cad X ρ H l kvs
  | .ins c fs => ∃ C dx gs, cad c = some C ∧ H p = some (.ins C dx gs) ∧ RepF K cad X ρ H fs gs
  | _ => False
def CellC (p : Addr) : CO → Prop
  | .lst l => Cont K cad X ρ H p (.lst l)
  | .ins c fs => Cont K cad X ρ H p (.ins c fs)
end

/-- a dict may be locked -/
def Lk (o : HO) (r : Option HO) : Prop := r = some o ∨ ∃ u kvs, o = .dK kvs ∧ r = some (.frz u o)
/-- what lies outside X stays, outside X' -/
def Go (X : Addr → Prop) (H : Hp) (X' : Addr → Prop) (H' : Hp) : Prop := ∀ a o, ¬ X a → H a = some o → ¬ X' a ∧ Lk o (H' a)
theorem Go.refl {X : Addr → Prop} {H : Hp} : Go X H X H := fun _ _ n h => ⟨n, .inl h⟩
theorem Go.trans {X X1 X2 : Addr → Prop} {H H1 H2 : Hp} (a : Go X H X1 H1) (b : Go X1 H1 X2 H2) : Go X H X2 H2 := fun c o n h => by
  obtain ⟨n1, h1 | ⟨u, kvs, rfl, h1⟩⟩ := a c o n h
  · exact b c o n1 h1
  · obtain ⟨n2, h2 | ⟨u2, kvs2, e, h2⟩⟩ := b c _ n1 h1
    · exact ⟨n2, .inr ⟨u, kvs, rfl, h2⟩⟩
    · cases e

section
variable {K : Kx} {cad : String → Option Addr} {X X' : Addr → Prop} {ρ ρ' : List Addr} {H H' : Hp}
theorem rd_go (g : Go X H X' H') {p : Addr} {o : HO} (n : ¬ X p) (h : Rd H p o) : ¬ X' p ∧ Rd H' p o := by
  rcases h with h | ⟨u, h⟩
  · refine ⟨(g _ _ n h).1, ?_⟩
    rcases (g _ _ n h).2 with z | ⟨u, kvs, rfl, z⟩
    · exact .inl z
    · exact .inr ⟨u, z⟩
  · refine ⟨(g _ _ n h).1, .inr ⟨u, ?_⟩⟩
    rcases (g _ _ n h).2 with z | ⟨u, kvs, e, z⟩
    · exact z
    · cases e
/-- what is no dict stays as it is -/
theorem go_keep (g : Go X H X' H') {p : Addr} {o : HO} (n : ¬ X p) (h : H p = some o) (hd : ∀ kvs, o ≠ .dK kvs) : ¬ X' p ∧ H' p = some o := by
  refine ⟨(g _ _ n h).1, ?_⟩
  rcases (g _ _ n h).2 with z | ⟨u, kvs, e, z⟩
  · exact z
  · exact absurd e (hd kvs)
theorem pre_get (r : ∃ l, ρ' = ρ ++ l) {n : Nat} {p : Addr} (h : ρ[n]? = some p) : ρ'[n]? = some p := by
  obtain ⟨l, rfl⟩ := r
  rw [List.getElem?_append_left]
  · exact h
  · exact (List.getElem?_eq_some_iff.mp h).1
mutual
theorem Rep.mono (g : Go X H X' H') (r : ∃ l, ρ' = ρ ++ l) : ∀ (d : D) (v : V), Rep K cad X ρ H d v → Rep K cad X' ρ' H' d v
  | .non, v, h => by simp only [Rep] at h ⊢; exact h
  | .bl b, v, h => by simp only [Rep] at h ⊢; exact h
  | .int b, v, h => by simp only [Rep] at h ⊢; exact h
  | .str b, v, h => by simp only [Rep] at h ⊢; exact h
  | .ty b, v, h => by simp only [Rep] at h ⊢; exact h
  | .fn b, v, h => by simp only [Rep] at h
  | .cls b, v, h => by simp only [Rep] at h ⊢; exact h
  | .cell n, v, h => by
    simp only [Rep] at h ⊢
    obtain ⟨p, e, h⟩ := h
    exact ⟨p, e, pre_get r h⟩
  | .tup l, v, h => by
    simp only [Rep] at h ⊢
    obtain ⟨p, vs, e, h, q⟩ := h
    refine ⟨p, vs, e, ?_, Reps.mono g r l vs q⟩
    rcases h with ⟨n, h⟩ | h
    · exact .inl (rd_go g n h)
    · exact .inr h
  | .lst l, v, h => by
    simp only [Rep] at h ⊢
    obtain ⟨p, vs, e, h, q⟩ := h
    refine ⟨p, vs, e, ?_, Reps.mono g r l vs q⟩
    rcases h with ⟨n, h⟩ | h
    · exact .inl (rd_go g n h)
    · exact .inr h
  | .dct l, v, h => by
    simp only [Rep] at h ⊢
    obtain ⟨p, kvs, e, n, h, q⟩ := h
    exact ⟨p, kvs, e, (rd_go g n h).1, (rd_go g n h).2, RepK.mono g r l kvs q⟩
  | .ins c fs, v, h => by
    simp only [Rep] at h ⊢
    obtain ⟨p, C, dx, gs, e, n, c, h, q⟩ := h
    obtain ⟨n', h'⟩ := go_keep g n h (fun _ z => by cases z)
    exact ⟨p, C, dx, gs, e, n', c, h', RepF.mono g r fs gs q⟩
theorem Reps.mono (g : Go X H X' H') (r : ∃ l, ρ' = ρ ++ l) : ∀ (d : List D) (v : List V), Reps K cad X ρ H d v → Reps K cad X' ρ' H' d v
  | [], v, h => by simp only [Reps] at h ⊢; exact h
  | d :: ds, v, h => by
    simp only [Reps] at h ⊢
    obtain ⟨x, t, e, h, q⟩ := h
    exact ⟨x, t, e, Rep.mono g r d x h, Reps.mono g r ds t q⟩
theorem RepK.mono (g : Go X H X' H') (r : ∃ l, ρ' = ρ ++ l) : ∀ (d : List (D × D)) (v : List (Key × V)), RepK K cad X ρ H d v → RepK K cad X' ρ' H' d v
  | [], v, h => by simp only [RepK] at h ⊢; exact h
  | (k, d) :: ds, v, h => by
    simp only [RepK] at h ⊢
    obtain ⟨y, x, t, e, ek, h, q⟩ := h
    exact ⟨y, x, t, e, ek, Rep.mono g r d x h, RepK.mono g r ds t q⟩
theorem RepF.mono (g : Go X H X' H') (r : ∃ l, ρ' = ρ ++ l) : ∀ (d : List (String × D)) (v : List (Str × V)), RepF K cad X ρ H d v → RepF K cad X' ρ' H' d v
  | [], v, h => by simp only [RepF] at h ⊢; exact h
  | (k, d) :: ds, v, h => by
    simp only [RepF] at h ⊢
    obtain ⟨x, t, e, h, q⟩ := h
    exact ⟨x, t, e, Rep.mono g r d x h, RepF.mono g r ds t q⟩
end
theorem Cont.mono (g : Go X H X' H') (r : ∃ l, ρ' = ρ ++ l) {p : Addr} (e : ∀ o, H p = some o → H' p = some o) {d : D} (h : Cont K cad X ρ H p d) : Cont K cad X' ρ' H' p d := by
  cases d <;> simp only [Cont] at h ⊢
  · obtain ⟨vs, a, b⟩ := h; exact ⟨vs, e _ a, b.mono g r⟩
  · obtain ⟨vs, a, b⟩ := h; exact ⟨vs, e _ a, b.mono g r⟩
  · obtain ⟨C, dx, gs, c, a, b⟩ := h; exact ⟨C, dx, gs, c, e _ a, b.mono g r⟩
theorem CellC.mono (g : Go X H X' H') (r : ∃ l, ρ' = ρ ++ l) {p : Addr} (e : ∀ o, H p = some o → H' p = some o) : ∀ d, CellC K cad X ρ H p d → CellC K cad X' ρ' H' p d := fun d h => by
  cases d with
  | lst l => exact Cont.mono (d := .lst l) g r e h
  | ins c fs => exact Cont.mono (d := .ins c fs) g r e h
theorem Cont.there {p : Addr} {d : D} (h : Cont K cad X ρ H p d) : ∃ o, H p = some o := by
  cases d <;> simp only [Cont] at h
  · obtain ⟨vs, a, b⟩ := h; exact ⟨_, a⟩
  · obtain ⟨vs, a, b⟩ := h; exact ⟨_, a⟩
  · obtain ⟨C, dx, gs, c, a, b⟩ := h; exact ⟨_, a⟩

/-! ### lists of represented values -/
theorem Reps.length : ∀ {l : List D} {vs : List V}, Reps K cad X ρ H l vs → vs.length = l.length
  | [], vs, h => by simp only [Reps] at h; subst h; rfl
  | d :: ds, vs, h => by
    simp only [Reps] at h
    obtain ⟨v, r, rfl, _, q⟩ := h
    simp [Reps.length q]
theorem Reps.get : ∀ {l : List D} {vs : List V} {i : Nat} {d : D}, Reps K cad X ρ H l vs → l[i]? = some d → ∃ v, vs[i]? = some v ∧ Rep K cad X ρ H d v
  | [], vs, i, d, _, e => by simp at e
  | x :: xs, vs, i, d, h, e => by
    simp only [Reps] at h
    obtain ⟨v, r, rfl, a, q⟩ := h
    cases i with
    | zero => simp at e; subst e; exact ⟨v, rfl, a⟩
    | succ i => simpa using Reps.get (i := i) q (by simpa using e)
theorem Reps.get' {l : List D} {vs : List V} {i : Nat} {v : V} (h : Reps K cad X ρ H l vs) (e : vs[i]? = some v) : ∃ d, l[i]? = some d ∧ Rep K cad X ρ H d v := by
  have hl := h.length
  have hi : i < vs.length := (List.getElem?_eq_some_iff.mp e).1
  have : i < l.length := by omega
  obtain ⟨w, h1, h2⟩ := Reps.get (i := i) (d := l[i]) h (by simp [this])
  rw [e] at h1; cases h1
  exact ⟨l[i], by simp [this], h2⟩
theorem Reps.append : ∀ {l m : List D} {vs ws : List V}, Reps K cad X ρ H l vs → Reps K cad X ρ H m ws → Reps K cad X ρ H (l ++ m) (vs ++ ws)
  | [], m, vs, ws, h, q => by simp only [Reps] at h; subst h; exact q
  | d :: ds, m, vs, ws, h, q => by
    simp only [Reps] at h
    obtain ⟨v, r, rfl, a, t⟩ := h
    simp only [List.cons_append, Reps]
    exact ⟨v, r ++ ws, rfl, a, Reps.append t q⟩
theorem Reps.nil : Reps K cad X ρ H [] [] := by simp only [Reps]
theorem Reps.cons {d : D} {ds : List D} {v : V} {vs : List V} (a : Rep K cad X ρ H d v) (b : Reps K cad X ρ H ds vs) : Reps K cad X ρ H (d :: ds) (v :: vs) := by
  simp only [Reps]; exact ⟨v, vs, rfl, a, b⟩
theorem Reps.one {d : D} {v : V} (a : Rep K cad X ρ H d v) : Reps K cad X ρ H [d] [v] := Reps.cons a Reps.nil
theorem Reps.take : ∀ {l : List D} {vs : List V} (n : Nat), Reps K cad X ρ H l vs → Reps K cad X ρ H (l.take n) (vs.take n)
  | _, _, 0, _ => by simp [Reps]
  | [], vs, n + 1, h => by simp only [Reps] at h; subst h; simp [Reps]
  | d :: ds, vs, n + 1, h => by
    simp only [Reps] at h
    obtain ⟨v, r, rfl, a, t⟩ := h
    simp only [List.take_succ_cons]
    exact Reps.cons a (Reps.take n t)
theorem Reps.drop : ∀ {l : List D} {vs : List V} (n : Nat), Reps K cad X ρ H l vs → Reps K cad X ρ H (l.drop n) (vs.drop n)
  | _, _, 0, h => by simpa using h
  | [], vs, n + 1, h => by simp only [Reps] at h; subst h; simp [Reps]
  | d :: ds, vs, n + 1, h => by
    simp only [Reps] at h
    obtain ⟨v, r, rfl, a, t⟩ := h
    simpa using Reps.drop n t
theorem Reps.set : ∀ {l : List D} {vs : List V} {d : D} {v : V} (i : Nat), Reps K cad X ρ H l vs → Rep K cad X ρ H d v → Reps K cad X ρ H (l.set i d) (vs.set i v)
  | [], vs, d, v, i, h, _ => by simp only [Reps] at h; subst h; simp [Reps]
  | x :: xs, vs, d, v, 0, h, a => by
    simp only [Reps] at h
    obtain ⟨w, r, rfl, b, t⟩ := h
    exact Reps.cons a t
  | x :: xs, vs, d, v, i + 1, h, a => by
    simp only [Reps] at h
    obtain ⟨w, r, rfl, b, t⟩ := h
    exact Reps.cons b (Reps.set i t a)
theorem Reps.ints : ∀ {l : List D} {vs : List V} {ns : List Int}, Reps K cad X ρ H l vs → intsOf l = some ns → vs = ns.map V.int
  | [], vs, ns, h, e => by simp only [Reps] at h; simp only [intsOf] at e; cases e; subst h; rfl
  | d :: ds, vs, ns, h, e => by
    simp only [Reps] at h
    obtain ⟨v, r, rfl, a, t⟩ := h
    cases d <;> simp only [intsOf] at e <;> try (cases e; done)
    obtain ⟨ms, hm, rfl⟩ := Option.map_eq_some_iff.mp e
    simp only [Rep] at a
    rw [a, Reps.ints t hm]; rfl
theorem Reps.bls : ∀ {l : List D} {vs : List V} {ns : List Bool}, Reps K cad X ρ H l vs → blsOf l = some ns → vs = ns.map V.bl
  | [], vs, ns, h, e => by simp only [Reps] at h; simp only [blsOf] at e; cases e; subst h; rfl
  | d :: ds, vs, ns, h, e => by
    simp only [Reps] at h
    obtain ⟨v, r, rfl, a, t⟩ := h
    cases d <;> simp only [blsOf] at e <;> try (cases e; done)
    obtain ⟨ms, hm, rfl⟩ := Option.map_eq_some_iff.mp e
    simp only [Rep] at a
    rw [a, Reps.bls t hm]; rfl
theorem Reps.strs : ∀ {l : List D} {vs : List V} {ns : List (List Nat)}, Reps K cad X ρ H l vs → strsOf l = some ns → vs = (ns.map st).map V.str
  | [], vs, ns, h, e => by simp only [Reps] at h; simp only [strsOf] at e; cases e; subst h; rfl
  | d :: ds, vs, ns, h, e => by
    simp only [Reps] at h
    obtain ⟨v, r, rfl, a, t⟩ := h
    cases d <;> simp only [strsOf] at e <;> try (cases e; done)
    obtain ⟨ms, hm, rfl⟩ := Option.map_eq_some_iff.mp e
    simp only [Rep] at a
    rw [a, Reps.strs t hm]; rfl
theorem Reps.ofInts : ∀ ns : List Int, Reps K cad X ρ H (ns.map .int) (ns.map V.int)
  | [] => Reps.nil
  | n :: ns => Reps.cons (by simp only [Rep]) (Reps.ofInts ns)
theorem Reps.ofStrs : ∀ ns : List (List Nat), Reps K cad X ρ H (ns.map .str) ((ns.map st).map V.str)
  | [] => Reps.nil
  | n :: ns => Reps.cons (by simp only [Rep]) (Reps.ofStrs ns)

/-! ### new things -/
theorem go_new {p : Addr} {o : HO} (n : H p = none) : Go X H X (upd H p o) := fun a u na h => ⟨na, .inl (by rw [L2.upd_ne (L2.ne_of_none h n)]; exact h)⟩
/-- an object of X is changed -/
theorem go_in {p : Addr} {o : HO} (n : X p) : Go X H X (upd H p o) := fun a u na h => ⟨na, .inl (by rw [L2.upd_ne (by intro e; subst e; exact na n)]; exact h)⟩
theorem go_less (h : ∀ a, X' a → X a) : Go X H X' H := fun a o n e => ⟨fun q => n (h a q), .inl e⟩
end
end Dk
end
/-! Snd2 -/
section
set_option linter.all false
set_option maxRecDepth 100000
set_option maxHeartbeats 1000000
namespace Dk
open PySem (Str Addr Heap)
open L2 (V Hp HO upd Rd SqL SqT Key St VK TE)

/-- the store and what lies outside: W may not be touched, X is nobody's part -/
structure SOk (K : Kx) (cad : String → Option Addr) (W : Addr → Prop) (ρ : List Addr) (X : Addr → Prop) (S : Sto) (H : Hp) : Prop where
  len : S.length = ρ.length
  cells : ∀ (n : Nat) (o : CO) (p : Addr), S[n]? = some o → ρ[n]? = some p → CellC K cad X ρ H p o
  cX : ∀ p, p ∈ ρ → X p ∧ ¬ W p
  nd : ρ.Nodup
  wx : ∀ a, W a → X a
  dom : ∀ a, X a → ∃ o, H a = some o
structure EOk (K : Kx) (cad : String → Option Addr) (W : Addr → Prop) (ρ : List Addr) (X : Addr → Prop) (E : Env) (S : Sto) (σ : St) (H : Hp) : Prop extends SOk K cad W ρ X S H where
  val : ∀ (i : Nat) (d : D), E[i]? = some (some (d, false)) → ∃ v, σ[i]? = some (some v) ∧ Rep K cad X ρ H d v
  own : ∀ (i : Nat) (d : D), E[i]? = some (some (d, true)) → ∃ p, σ[i]? = some (some (V.ref p)) ∧ Cont K cad X ρ H p d ∧ X p ∧ ¬ W p ∧ p ∉ ρ
  sep : ∀ (i j : Nat) (d e : D) (p : Addr), i ≠ j → E[i]? = some (some (d, true)) → E[j]? = some (some (e, true)) → σ[i]? = some (some (V.ref p)) → σ[j]? = some (some (V.ref p)) → False
  ln : E.length = σ.length

/-- from one moment to a later one -/
structure Post (W : Addr → Prop) (ρ : List Addr) (X : Addr → Prop) (H : Hp) (ρ' : List Addr) (X' : Addr → Prop) (H' : Hp) : Prop where
  pre : ∃ l, ρ' = ρ ++ l
  new : ∀ a, a ∈ ρ' → a ∈ ρ ∨ H a = none
  go : Go X H X' H'
  kp : ∀ a o, W a → H a = some o → H' a = some o
  up : ∀ a, H' a = none → H a = none

section
variable {K : Kx} {cad : String → Option Addr} {W : Addr → Prop} {ρ ρ' ρ1 ρ2 : List Addr} {X X' X1 X2 : Addr → Prop} {E E' : Env} {S S' : Sto} {σ : St} {H H' H1 H2 : Hp}
theorem Post.refl : Post W ρ X H ρ X H := ⟨⟨[], by simp⟩, fun _ h => .inl h, Go.refl, fun _ _ _ h => h, fun _ h => h⟩
theorem Post.trans (a : Post W ρ X H ρ1 X1 H1) (b : Post W ρ1 X1 H1 ρ2 X2 H2) : Post W ρ X H ρ2 X2 H2 := by
  refine ⟨?_, fun c h => ?_, a.go.trans b.go, fun c o w h => b.kp c o w (a.kp c o w h), fun c h => a.up c (b.up c h)⟩
  · obtain ⟨l, rfl⟩ := a.pre
    obtain ⟨m, rfl⟩ := b.pre
    exact ⟨l ++ m, by simp⟩
  · rcases b.new c h with h | h
    · exact a.new c h
    · exact .inr (a.up c h)
theorem Rep.post {d : D} {v : V} (h : Rep K cad X ρ H d v) (p : Post W ρ X H ρ' X' H') : Rep K cad X' ρ' H' d v := h.mono p.go p.pre
theorem Reps.post {d : List D} {v : List V} (h : Reps K cad X ρ H d v) (p : Post W ρ X H ρ' X' H') : Reps K cad X' ρ' H' d v := h.mono p.go p.pre

/-- only new things came -/
def Ex (H H' : Hp) : Prop := ∀ a o, H a = some o → H' a = some o
theorem Ex.refl : Ex H H := fun _ _ h => h
theorem Ex.trans (a : Ex H H1) (b : Ex H1 H2) : Ex H H2 := fun c o h => b c o (a c o h)
theorem Ex.new {p : Addr} {o : HO} (n : H p = none) : Ex H (upd H p o) := fun a u h => by rw [L2.upd_ne (L2.ne_of_none h n)]; exact h
theorem Ex.go (e : Ex H H') : Go X H X H' := fun a o n h => ⟨n, .inl (e a o h)⟩
theorem Ex.up (e : Ex H H') : ∀ a, H' a = none → H a = none := fun a h => by
  cases q : H a with
  | none => rfl
  | some o => rw [e a o q] at h; cases h
theorem Ex.post (e : Ex H H') : Post W ρ X H ρ X H' := ⟨⟨[], by simp⟩, fun _ h => .inl h, e.go, fun a o _ h => e a o h, e.up⟩
theorem self_pre : ∃ l, ρ = ρ ++ l := ⟨[], by simp⟩
theorem SOk.ex (ok : SOk K cad W ρ X S H) (e : Ex H H') : SOk K cad W ρ X S H' :=
  ⟨ok.len, fun n o p a b => (ok.cells n o p a b).mono e.go self_pre (fun o h => e p o h), ok.cX, ok.nd, ok.wx, fun a h => let ⟨o, q⟩ := ok.dom a h; ⟨o, e a o q⟩⟩
theorem EOk.ex (ok : EOk K cad W ρ X E S σ H) (e : Ex H H') : EOk K cad W ρ X E S σ H' :=
  ⟨ok.toSOk.ex e, fun i d h => let ⟨v, a, b⟩ := ok.val i d h; ⟨v, a, b.mono e.go self_pre⟩,
   fun i d h => let ⟨p, a, b, c⟩ := ok.own i d h; ⟨p, a, b.mono e.go self_pre (fun o h => e p o h), c⟩, ok.sep, ok.ln⟩
theorem SOk.free (ok : SOk K cad W ρ X S H) {p : Addr} (n : H p = none) : ¬ X p := fun h => by
  obtain ⟨o, q⟩ := ok.dom p h
  rw [n] at q; cases q
/-- X may be less, as long as W and the cells and what is own lie in it -/
theorem SOk.less (ok : SOk K cad W ρ X S H) (h : ∀ a, X' a → X a) (hw : ∀ a, W a → X' a) (hc : ∀ a, a ∈ ρ → X' a) : SOk K cad W ρ X' S H :=
  ⟨ok.len, fun n o p a b => (ok.cells n o p a b).mono (go_less h) self_pre (fun _ q => q), fun p q => ⟨hc p q, (ok.cX p q).2⟩, ok.nd, hw, fun a q => ok.dom a (h a q)⟩
theorem EOk.less (ok : EOk K cad W ρ X E S σ H) (h : ∀ a, X' a → X a) (hw : ∀ a, W a → X' a) (hc : ∀ a, a ∈ ρ → X' a)
    (ho : ∀ (i : Nat) (d : D) (p : Addr), E[i]? = some (some (d, true)) → σ[i]? = some (some (V.ref p)) → X' p) : EOk K cad W ρ X' E S σ H :=
  ⟨ok.toSOk.less h hw hc, fun i d q => let ⟨v, a, b⟩ := ok.val i d q; ⟨v, a, b.mono (go_less h) self_pre⟩,
   fun i d q => let ⟨p, a, b, c⟩ := ok.own i d q; ⟨p, a, b.mono (go_less h) self_pre (fun _ q => q), ho i d p q a, c.2⟩, ok.sep, ok.ln⟩

/-- how the value of an expression lies; H0: the heap ahead of it -/
def VRes (K : Kx) (cad : String → Option Addr) (W : Addr → Prop) (ρ : List Addr) (X : Addr → Prop) (E : Env) (σ : St) (H0 H : Hp) (d : D) (v : V) : Fl → Prop
  | .v => Rep K cad X ρ H d v
  | .f => ∃ p, v = .ref p ∧ Cont K cad X ρ H p d ∧ X p ∧ ¬ W p ∧ p ∉ ρ ∧ H0 p = none ∧ ∀ (i : Nat) (d : D), E[i]? = some (some (d, true)) → σ[i]? ≠ some (some (V.ref p))
  | .p => ∃ i : Nat, E[i]? = some (some (d, true)) ∧ σ[i]? = some (some v)

/-- what may be read: a represented value, or what is held -/
def Rb (K : Kx) (cad : String → Option Addr) (X : Addr → Prop) (ρ : List Addr) (H : Hp) (d : D) (v : V) : Prop := Rep K cad X ρ H d v ∨ ∃ p, v = .ref p ∧ Cont K cad X ρ H p d
theorem VRes.rb {d : D} {v : V} {fl : Fl} {H0 : Hp} (r : VRes K cad W ρ X E σ H0 H d v fl) (ok : EOk K cad W ρ X E S σ H) : Rb K cad X ρ H d v := by
  cases fl with
  | v => exact .inl r
  | f => obtain ⟨p, e, c, _⟩ := r; exact .inr ⟨p, e, c⟩
  | p =>
    obtain ⟨i, a, b⟩ := r
    obtain ⟨p, q, c, _⟩ := ok.own i d a
    rw [b] at q; cases q
    exact .inr ⟨p, rfl, c⟩
theorem Cont.rep {p : Addr} {d : D} (h : Cont K cad X ρ H p d) (n : ¬ X p) : Rep K cad X ρ H d (.ref p) := by
  cases d <;> simp only [Cont] at h <;> simp only [Rep]
  · obtain ⟨vs, a, b⟩ := h; exact ⟨p, vs, rfl, .inl ⟨n, .inl a⟩, b⟩
  · obtain ⟨vs, a, b⟩ := h; exact ⟨p, vs, rfl, n, .inl a, b⟩
  · obtain ⟨C, dx, gs, c, a, b⟩ := h; exact ⟨p, C, dx, gs, rfl, n, c, a, b⟩
/-- what is new may be shared from now on -/
theorem VRes.toV {d : D} {v : V} {H0 : Hp} (r : VRes K cad W ρ' X' E σ H0 H d v .f) (ok : EOk K cad W ρ' X' E S σ H) (po : Post W ρ X H0 ρ' X' H) :
    ∃ X'', Post W ρ X H0 ρ' X'' H ∧ EOk K cad W ρ' X'' E S σ H ∧ Rep K cad X'' ρ' H d v := by
  obtain ⟨p, rfl, c, x, w, r, n, o⟩ := r
  have hl : ∀ a, (X' a ∧ a ≠ p) → X' a := fun a h => h.1
  refine ⟨fun a => X' a ∧ a ≠ p, ⟨po.pre, po.new, po.go.trans (go_less hl), po.kp, po.up⟩, ?_, ?_⟩
  · refine ok.less hl (fun a h => ⟨ok.wx a h, fun e => w (e ▸ h)⟩) (fun a h => ⟨(ok.cX a h).1, fun e => r (e ▸ h)⟩) (fun i d q h1 h2 => ?_)
    obtain ⟨p', h3, _, h4, _⟩ := ok.own i d h1
    rw [h2] at h3; cases h3
    exact ⟨h4, fun e => by subst e; exact o i d h1 h2⟩
  · exact Cont.rep (c.mono (go_less hl) self_pre (fun _ q => q)) (fun h => h.2 rfl)
/-- .. whatever may be shared -/
theorem VRes.share {d d' : D} {v : V} {fl : Fl} {H0 : Hp} (h1 : one (d, fl) = some d') (r : VRes K cad W ρ' X' E σ H0 H d v fl) (ok : EOk K cad W ρ' X' E S σ H) (po : Post W ρ X H0 ρ' X' H) :
    ∃ X'', Post W ρ X H0 ρ' X'' H ∧ EOk K cad W ρ' X'' E S σ H ∧ Rep K cad X'' ρ' H d' v := by
  cases fl with
  | v => cases h1; exact ⟨X', po, ok, r⟩
  | f => cases h1; exact r.toV ok po
  | p => cases h1

/-- the reading of an expression that comes to d -/
def tE (K : Kx) (cad : String → Option Addr) (W : Addr → Prop) (E : Env) (S : Sto) (d : D) (fl : Fl) (E' : Env) (S' : Sto) : TE := fun σ H Q => ∃ ρ X, EOk K cad W ρ X E S σ H ∧
  ∀ ρ' X' H' v, Post W ρ X H ρ' X' H' → EOk K cad W ρ' X' E' S' σ H' → VRes K cad W ρ' X' E' σ H H' d v fl → Q v H'
def tA (K : Kx) (cad : String → Option Addr) (W : Addr → Prop) (E : Env) (S : Sto) (l : List D) (E' : Env) (S' : Sto) : L2.TA := fun σ H Q => ∃ ρ X, EOk K cad W ρ X E S σ H ∧
  ∀ ρ' X' H' vs, Post W ρ X H ρ' X' H' → EOk K cad W ρ' X' E' S' σ H' → Reps K cad X' ρ' H' l vs → Q vs H'
def tB (K : Kx) (cad : String → Option Addr) (W : Addr → Prop) (E : Env) (S : Sto) (b : Bool) (E' : Env) (S' : Sto) : L2.TT := fun σ H Q => ∃ ρ X, EOk K cad W ρ X E S σ H ∧
  ∀ ρ' X' H', Post W ρ X H ρ' X' H' → EOk K cad W ρ' X' E' S' σ H' → Q b H'
end

/-! ### what a run is made of -/
theorem bnd_ok {α β : Type} {m : Ot α} {k : α → Env → Sto → Ot β} {b : β} {E' : Env} {S' : Sto} (h : bnd m k = some (.ok b, E', S')) : ∃ a E1 S1, m = some (.ok a, E1, S1) ∧ k a E1 S1 = some (.ok b, E', S') := by
  unfold bnd at h
  split at h
  · exact ⟨_, _, _, rfl, h⟩
  · cases h
  · cases h
theorem opt_ok {α β : Type} {m : Option α} {k : α → Ot β} {r : Res β × Env × Sto} (h : opt m k = some r) : ∃ a, m = some a ∧ k a = some r := by
  unfold opt at h
  split at h
  · exact ⟨_, rfl, h⟩
  · cases h
section
variable {X : L2.Cx}
theorem PE.sub {e : PySem.Expr} {t t' : TE} (h : L2.PE X e t) (q : ∀ σ H Q, t' σ H Q → t σ H Q) : L2.PE X e t' := ⟨fun pins s σ H Q I z => h.run pins s σ H Q I (q σ H Q z)⟩
theorem PT.sub {e : PySem.Expr} {t t' : L2.TT} (h : L2.PT X e t) (q : ∀ σ H Q, t' σ H Q → t σ H Q) : L2.PT X e t' := ⟨fun pins s σ H Q I z => h.run pins s σ H Q I (q σ H Q z)⟩
theorem PW.sub {e : PySem.Expr} {t t' : L2.TT} (h : L2.PW X e t) (q : ∀ σ H Q, t' σ H Q → t σ H Q) : L2.PW X e t' := ⟨fun whole pins s σ H Q I z => h.run whole pins s σ H Q I (q σ H Q z)⟩
theorem PA.sub {e : List PySem.Expr} {t t' : L2.TA} (h : L2.PA X e t) (q : ∀ σ H Q, t' σ H Q → t σ H Q) : L2.PA X e t' := ⟨fun pos pins s σ H Q I z => h.run pos pins s σ H Q I (q σ H Q z)⟩
theorem PS.sub {e : PySem.Stmt} {t t' : L2.TS} (h : L2.PS X e t) (q : ∀ D σ H, t' D σ H → t D σ H) : L2.PS X e t' := ⟨fun pins s σ H D I z => h.run pins s σ H D I (q D σ H z)⟩
theorem PSs.sub {e : List PySem.Stmt} {t t' : L2.TS} (h : L2.PSs X e t) (q : ∀ D σ H, t' D σ H → t D σ H) : L2.PSs X e t' := ⟨fun pins s σ H D I z => h.run pins s σ H D I (q D σ H z)⟩
end
end Dk
end
/-! Snd3 -/
section
set_option linter.all false
set_option maxRecDepth 100000
set_option maxHeartbeats 1000000
namespace Dk
open PySem (Str Addr Heap Value Shared sizeLine)
open L2 (V Hp HO upd Rd SqL SqT Key St VK TE R2 OpR CallR RelV Vals EP)

/-- what a new object holds, told over the heap ahead of it -/
def Made (K : Kx) (cad : String → Option Addr) (ρ : List Addr) (X : Addr → Prop) (H : Hp) : D → HO → Prop
  | .lst l, .lst vs => Reps K cad X ρ H l vs
  | .dct l, .dK kvs => RepK K cad X ρ H l kvs
  | _, _ => False
/-- a new value of an operation -/
def NRes (K : Kx) (cad : String → Option Addr) (ρ : List Addr) (X : Addr → Prop) (H : Hp) (d : D) (v : V) (H' : Hp) : Fl → Prop
  | .v => Ex H H' ∧ Rep K cad X ρ H' d v
  | .f => ∃ p o, v = .ref p ∧ H p = none ∧ H' = upd H p o ∧ Made K cad ρ X H d o
  | .p => False
/-- all that is excluded stands somewhere -/
def Dom (X : Addr → Prop) (H : Hp) : Prop := ∀ a, X a → ∃ o, H a = some o
section
variable {K : Kx} {cad : String → Option Addr} {W : Addr → Prop} {ρ ρ' : List Addr} {X X' : Addr → Prop} {E E' : Env} {S S' : Sto} {σ : St} {H H' H1 : Hp} {d : D} {v : V} {fl : Fl}
theorem Dom.free (h : Dom X H) {p : Addr} (n : H p = none) : ¬ X p := fun q => by
  obtain ⟨o, e⟩ := h p q
  rw [n] at e; cases e
/-- behind an operation: the moment, the state, the value -/
theorem EOk.aside (ok : EOk K cad W ρ X E S σ H) {p : Addr} {o : HO} (hp : H p = none) :
    Go X H (fun a => X a ∨ a = p) (upd H p o) ∧ Post W ρ X H ρ (fun a => X a ∨ a = p) (upd H p o) ∧ EOk K cad W ρ (fun a => X a ∨ a = p) E S σ (upd H p o) ∧ ¬ W p ∧ p ∉ ρ ∧ (∀ (i : Nat) (d : D), E[i]? = some (some (d, true)) → σ[i]? ≠ some (some (V.ref p))) := by
  have e : Ex H (upd H p o) := Ex.new hp
  have hx : ¬ X p := Dom.free ok.dom hp
  have g : Go X H (fun a => X a ∨ a = p) (upd H p o) := fun a u n h => ⟨fun q => q.elim n (fun z => by subst z; rw [hp] at h; cases h), .inl (e a u h)⟩
  refine ⟨g, ⟨self_pre, fun _ h => .inl h, g, fun a o _ h => e a o h, e.up⟩, ⟨⟨ok.len, fun n o q a b => ?_, fun q h => ⟨.inl (ok.cX q h).1, (ok.cX q h).2⟩, ok.nd, fun a h => .inl (ok.wx a h), fun a h => ?_⟩, fun i d h => ?_, fun i d h => ?_, ok.sep, ok.ln⟩, fun w => hx (ok.wx p w), fun m => hx (ok.cX p m).1, fun i d h1 h2 => ?_⟩
  · exact (ok.cells n o q a b).mono g self_pre (fun o h => e q o h)
  · rcases h with h | h
    · obtain ⟨o, q⟩ := ok.dom a h; exact ⟨o, e a o q⟩
    · subst h; exact ⟨_, L2.upd_same⟩
  · obtain ⟨v, a, b⟩ := ok.val i d h; exact ⟨v, a, b.mono g self_pre⟩
  · obtain ⟨q, a, b, c1, c2, c3⟩ := ok.own i d h; exact ⟨q, a, b.mono g self_pre (fun o h => e q o h), .inl c1, c2, c3⟩
  · obtain ⟨q, a, b, _⟩ := ok.own i d h1
    rw [h2] at a; cases a
    obtain ⟨o, z⟩ := b.there
    rw [hp] at z; cases z
theorem Made.cont (m : ∀ {X' ρ' H'}, Go X H X' H' → (∃ l, ρ' = ρ ++ l) → True) : True := trivial
theorem NRes.to (n : NRes K cad ρ X H d v H' fl) (ok : EOk K cad W ρ X E S σ H) : ∃ X', Post W ρ X H ρ X' H' ∧ EOk K cad W ρ X' E S σ H' ∧ VRes K cad W ρ X' E σ H H' d v fl := by
  cases fl with
  | v => exact ⟨X, n.1.post, ok.ex n.1, n.2⟩
  | p => exact n.elim
  | f =>
    obtain ⟨p, o, rfl, hp, rfl, m⟩ := n
    obtain ⟨g, po, ok', w, r, ow⟩ := ok.aside (o := o) hp
    refine ⟨_, po, ok', p, rfl, ?_, .inr rfl, w, r, hp, ow⟩
    cases d <;> cases o <;> simp only [Made] at m <;> simp only [Cont]
    · exact ⟨_, L2.upd_same, m.mono g self_pre⟩
    · exact ⟨_, L2.upd_same, m.mono g self_pre⟩

theorem st_len (a : List Nat) : (st a).length = a.length := by simp [st, Str.length]
theorem st_app (a b : List Nat) : st a ++ st b = st (a ++ b) := by
  show Str.append _ _ = _
  simp [st, Str.append]
theorem lim_line : LIM ≤ sizeLine := by rw [PySem.sizeLine_eq]; decide
theorem rb_lst {l : List D} (h : Rb K cad X ρ H (.lst l) v) : ∃ p vs, v = .ref p ∧ SqE K H p vs ∧ Reps K cad X ρ H l vs := by
  rcases h with h | ⟨p, e, h⟩
  · simp only [Rep] at h
    obtain ⟨p, vs, e, q, r⟩ := h
    exact ⟨p, vs, e, q.elim (fun q => .inl q.2) .inr, r⟩
  · simp only [Cont] at h
    obtain ⟨vs, q, r⟩ := h
    exact ⟨p, vs, e, .inl (.inl q), r⟩
theorem rb_tup {l : List D} (h : Rb K cad X ρ H (.tup l) v) : ∃ p vs, v = .ref p ∧ SqT K H p vs ∧ Reps K cad X ρ H l vs := by
  rcases h with h | ⟨p, e, h⟩
  · simp only [Rep] at h
    obtain ⟨p, vs, e, q, r⟩ := h
    exact ⟨p, vs, e, q.elim (fun q => .inl q.2) .inr, r⟩
  · simp only [Cont] at h
theorem rb_dct {l : List (D × D)} (h : Rb K cad X ρ H (.dct l) v) : ∃ p kvs, v = .ref p ∧ Rd H p (.dK kvs) ∧ RepK K cad X ρ H l kvs := by
  rcases h with h | ⟨p, e, h⟩
  · simp only [Rep] at h
    obtain ⟨p, vs, e, n, q, r⟩ := h
    exact ⟨p, vs, e, q, r⟩
  · simp only [Cont] at h
    obtain ⟨vs, q, r⟩ := h
    exact ⟨p, vs, e, .inl q, r⟩
theorem rb_int {i : Int} (h : Rb K cad X ρ H (.int i) v) : v = .int i := by
  rcases h with h | ⟨p, e, h⟩
  · simpa only [Rep] using h
  · simp only [Cont] at h
theorem rb_str {i : List Nat} (h : Rb K cad X ρ H (.str i) v) : v = .str (st i) := by
  rcases h with h | ⟨p, e, h⟩
  · simpa only [Rep] using h
  · simp only [Cont] at h
theorem rb_bl {i : Bool} (h : Rb K cad X ρ H (.bl i) v) : v = .bl i := by
  rcases h with h | ⟨p, e, h⟩
  · simpa only [Rep] using h
  · simp only [Cont] at h
theorem rb_non (h : Rb K cad X ρ H .non v) : v = .non := by
  rcases h with h | ⟨p, e, h⟩
  · simpa only [Rep] using h
  · simp only [Cont] at h
theorem rep_tup_new {l : List D} {vs : List V} {p : Addr} (hd : Dom X H) (hp : H p = none) (h : Reps K cad X ρ H l vs) : Rep K cad X ρ (upd H p (.tup vs)) (.tup l) (.ref p) := by
  simp only [Rep]
  exact ⟨p, vs, rfl, .inl ⟨hd.free hp, .inl L2.upd_same⟩, h.mono (go_new hp) self_pre⟩
theorem rep_tup_of {l : List D} {p : Addr} (h : Rb K cad X ρ H (.tup l) (.ref p)) : Rep K cad X ρ H (.tup l) (.ref p) := by
  rcases h with h | ⟨p, e, h⟩
  · exact h
  · simp only [Cont] at h
end

section
variable {X : L2.Cx}
/-- the object of a list that may be read -/
theorem lst_obj {pins σ H s} {p : Addr} {xs : List V} (I : L2.Inv X pins σ H s) (h : SqE X.K H p xs) :
    ∃ (its : List Value) (n : Nat), Vals xs its ∧ xs.length = its.length ∧ s.heap.get? p = some { cls := .type "list", data := .seq its.toArray n } ∧ xs.length ≤ sizeLine := by
  rcases h with h | ⟨its, n, h1, h2, h3⟩
  · have q := h.ok I.hok
    obtain ⟨z, its, n, r, e⟩ := q
    exact ⟨its, n, r, r.length, e, z⟩
  · refine ⟨its.toList, n, h3, h3.length, ?_, ?_⟩
    · have e := I.kIn _ _ h1
      simpa using e
    · rw [h3.length]
      simpa using h2
def rCatL (K : Kx) : R2 := fun x y H Q => ∃ l b xs zs, x = .ref l ∧ y = .ref b ∧ SqE K H l xs ∧ SqE K H b zs ∧ xs.length + zs.length ≤ sizeLine ∧ ∀ p, H p = none → Q (.ref p) (upd H p (.lst (xs ++ zs)))
theorem op_catL : OpR X (PySem.binaryOp .Add) (rCatL X.K) := by
  intro pins s σ H x y v u Q I rx ry ⟨l, b, xs, zs, ex, ey, hl, hb, hz, q⟩
  subst ex ey
  cases rx; cases ry
  obtain ⟨is, n, r, len, e, _⟩ := lst_obj I hl
  obtain ⟨js, m, r2, len2, e2, _⟩ := lst_obj I hb
  refine PySem.P.add_list e e2 ?_ (by simp only [List.size_toArray]; omega)
  have ea : is.toArray ++ js.toArray = (is ++ js).toArray := by simp
  rw [ea]
  exact ⟨.ref _, _, I.lnew (t' := s.toks) (r.append r2) (by rw [List.length_append]; omega), rfl, q _ I.fresh⟩
def rRepL (K : Kx) : R2 := fun x y H Q => ∃ l k xs, x = .ref l ∧ y = .int k ∧ SqE K H l xs ∧ 0 ≤ k ∧ k ≤ 100 ∧ xs.length ≤ 100 ∧ ∀ p, H p = none → Q (.ref p) (upd H p (.lst (List.replicate k.toNat xs).flatten))
open PySem in
theorem op_repL : OpR X (binaryOp .Mult) (rRepL X.K) := by
  intro pins s σ H x y v u Q I rx ry ⟨l, k, xs, ex, ey, hl, k0, k1, hz, q⟩
  subst ex ey
  cases rx
  obtain ⟨t, rfl⟩ := ry
  obtain ⟨js, m, rj, lj, ej, _⟩ := lst_obj I hl
  have lim : js.toArray.size * k.toNat ≤ 10000 := by
    rw [List.size_toArray, ← lj]
    have h1 : k.toNat ≤ 100 := by omega
    exact Nat.le_trans (Nat.mul_le_mul hz h1) (by decide)
  have line : js.toArray.size * k.toNat ≤ sizeLine := Nat.le_trans lim (by rw [sizeLine_eq]; decide)
  have cap : ¬ js.toArray.size * k.toNat > (2 ^ 63 - 1) / 8 := by omega
  have fit : ¬ (!Builtin.List.listFitsIndex k) = true := by
    rw [PySem.fitsIndex_both (by omega) (by omega)]
    exact Bool.false_ne_true
  have long : ¬ Builtin.List.listTooLong (js.toArray.size * k.toNat) = true := by
    rw [L2.notLongL line]
    exact Bool.false_ne_true
  have new : List.foldl (fun x1 x2 => x1 ++ x2) #[] (List.replicate (if js.toArray.isEmpty = true then 0 else k.toNat) js.toArray) = (List.replicate k.toNat js).flatten.toArray := by
    have f0 : ∀ m : Nat, List.foldl (fun x1 x2 => x1 ++ x2) #[] (List.replicate m js.toArray) = (List.replicate m js).flatten.toArray := fun m => by
      have z := L2.foldl_rep js m []
      rwa [List.nil_append] at z
    rw [f0]
    cases js with
    | nil => simp
    | cons a r' => rw [if_neg (by simp)]
  refine wpAny_binaryOp_repeat_ref (T := "list") (U := "int") (by decide) ⟨_, ej, rfl⟩ (fun s' => typeIs_int s' k t) PySem.noFill_list_mul F.fills_int_mul F.slot_int_rmul PySem.repeat_list F.slot_int_index.lookup
    (call_meets F.slot_int_rmul (typeIs_int s k t) F.entry_int_rmul (F.args_int_rmul_2 _ _) (int___rmul___int_list k t l js.toArray m)
      ⟨ej, rfl, ⟨_, ej, rfl⟩, call_meets F.slot_list_mul ⟨_, ej, rfl⟩ F.entry_list_mul (F.args_list_mul_2 _ _) (AutoListH.list___mul___list_int_3 l js.toArray m k t fit cap long) ⟨ej, ?_⟩⟩)
  rw [new]
  refine ⟨.ref _, _, I.lnew (t' := s.toks) (rj.rep k.toNat) ?_, rfl, q _ I.fresh⟩
  rw [PyProof.Rows.lm_len_rep_flat, Nat.mul_comm, lj, ← List.size_toArray]
  exact line

/-- a binary operation of trees -/
def opr : Bop → PySem.Operator
  | .add => .Add | .sub => .Sub | .mul => .Mult | .mod => .Mod | .fdiv => .FloorDiv | .pow => .Pow | .shl => .LShift
def rBin (K : Kx) (cad : String → Option Addr) (o : Bop) : R2 := fun x y H Q => ∃ ρ Y d1 d2 d fl, Dom Y H ∧ Rb K cad Y ρ H d1 x ∧ Rb K cad Y ρ H d2 y ∧ binD o d1 d2 = some (d, fl) ∧ ∀ v H', NRes K cad ρ Y H d v H' fl → Q v H'
theorem big_log {i : Int} (h : i.natAbs < BIG) : i.natAbs.log2 < 4000 := PySem.Flt.log2_lt_of (by decide) h
theorem Reps.rep : ∀ (n : Nat) {l : List D} {vs : List V} {cad : String → Option Addr} {ρ : List Addr} {Y : Addr → Prop} {H : Hp} {K : Kx}, Reps K cad Y ρ H l vs → Reps K cad Y ρ H (List.replicate n l).flatten (List.replicate n vs).flatten
  | 0, _, _, _, _, _, _, _, _ => by simpa using Reps.nil
  | n + 1, _, _, _, _, _, _, _, h => by
    simp only [List.replicate_succ, List.flatten_cons]
    exact h.append (Reps.rep n h)
theorem op_bin (o : Bop) (cad : String → Option Addr) : OpR X (PySem.binaryOp (opr o)) (rBin X.K cad o) := by
  intro pins s σ H x y v u Q I rx ry ⟨ρ, Y, d1, d2, d, fl, dom, h1, h2, e, q⟩
  have ans : ∀ {d : D} {w : V}, Rep X.K cad Y ρ H d w → NRes X.K cad ρ Y H d w H .v := fun h => ⟨Ex.refl, h⟩
  unfold binD at e
  split at e <;> first | (cases e; done) | skip
  · obtain rfl := rb_int h1; obtain rfl := rb_int h2; cases e
    exact L2.op_add pins s σ H _ _ v u Q I rx ry ⟨_, _, rfl, rfl, q _ _ (ans (by simp only [Rep]))⟩
  · obtain rfl := rb_str h1; obtain rfl := rb_str h2
    split at e
    · cases e
      refine L2.op_add_str pins s σ H _ _ v u Q I rx ry ⟨_, _, rfl, rfl, ?_, q _ _ (ans (by simp only [Rep]; rw [st_app]))⟩
      rw [st_len, st_len]
      exact Nat.le_trans (by assumption) lim_line
    · cases e
  · obtain ⟨p, vs, rfl, a, b⟩ := rb_lst h1
    obtain ⟨p', vs', rfl, a', b'⟩ := rb_lst h2
    split at e
    · cases e
      refine op_catL pins s σ H _ _ v u Q I rx ry ⟨_, _, _, _, rfl, rfl, a, a', ?_, fun p hp => q _ _ ⟨p, _, rfl, hp, rfl, b.append b'⟩⟩
      rw [b.length, b'.length]
      exact Nat.le_trans (by assumption) lim_line
    · cases e
  · rename_i l1 l2
    obtain ⟨p, vs, rfl, a, b⟩ := rb_tup h1
    obtain ⟨p', vs', rfl, a', b'⟩ := rb_tup h2
    have t1 : Rep X.K cad Y ρ H _ (V.ref p) := rep_tup_of h1
    have t2 : Rep X.K cad Y ρ H _ (V.ref p') := rep_tup_of h2
    split at e
    · cases e
      refine L2.op_catA pins s σ H _ _ v u Q I rx ry ⟨_, _, _, _, rfl, rfl, a, a', ?_, fun z => ?_, fun z1 z2 => ?_, fun _ _ p hp => q _ _ ⟨Ex.new hp, rep_tup_new dom hp (b.append b')⟩⟩
      · rw [b.length, b'.length]
        exact Nat.le_trans (by assumption) lim_line
      · have len := b.length; subst z
        have nil : l1 = [] := List.length_eq_zero_iff.mp (by simpa using len.symm)
        subst nil
        exact q _ _ (ans t2)
      · have len := b'.length; subst z2
        have nil : l2 = [] := List.length_eq_zero_iff.mp (by simpa using len.symm)
        subst nil
        rw [List.append_nil] at q
        exact q _ _ (ans t1)
    · cases e
  · obtain rfl := rb_int h1; obtain rfl := rb_int h2; cases e
    exact L2.op_sub pins s σ H _ _ v u Q I rx ry ⟨_, _, rfl, rfl, q _ _ (ans (by simp only [Rep]))⟩
  · obtain rfl := rb_int h1; obtain rfl := rb_int h2
    split at e
    · cases e
      rename_i hc
      have a := big_log hc.1
      have b := big_log hc.2
      exact L2.op_mulW pins s σ H _ _ v u Q I rx ry ⟨_, _, rfl, rfl, by unfold L2.CMulW; omega, q _ _ (ans (by simp only [Rep]))⟩
    · cases e
  · obtain ⟨p, vs, rfl, a, b⟩ := rb_lst h1
    obtain rfl := rb_int h2
    split at e
    · cases e
      rename_i hc
      exact op_repL pins s σ H _ _ v u Q I rx ry ⟨_, _, _, rfl, rfl, a, hc.1, hc.2.1, by rw [b.length]; exact hc.2.2, fun p hp => q _ _ ⟨p, _, rfl, hp, rfl, b.rep _⟩⟩
    · cases e
  · obtain rfl := rb_int h1; obtain rfl := rb_int h2
    split at e
    · cases e
      exact L2.op_mod pins s σ H _ _ v u Q I rx ry ⟨_, _, rfl, rfl, by assumption, q _ _ (ans (by simp only [Rep]))⟩
    · cases e
  · obtain rfl := rb_int h1; obtain rfl := rb_int h2
    split at e
    · cases e
      rename_i hc
      have := big_log hc.2
      exact L2.op_fdivW pins s σ H _ _ v u Q I rx ry ⟨_, _, rfl, rfl, ⟨hc.1, by omega⟩, q _ _ (ans (by simp only [Rep]))⟩
    · cases e
  · obtain rfl := rb_int h1; obtain rfl := rb_int h2
    split at e
    · cases e
      rename_i hc
      exact L2.op_pow pins s σ H _ _ v u Q I rx ry ⟨_, _, rfl, rfl, ⟨hc.1, by omega, hc.2.2⟩, q _ _ (ans (by simp only [Rep]))⟩
    · cases e
  · obtain rfl := rb_int h1; obtain rfl := rb_int h2
    split at e
    · cases e
      rename_i hc
      exact L2.op_shl pins s σ H _ _ v u Q I rx ry ⟨_, _, rfl, rfl, ⟨hc.1, by omega, hc.2.2⟩, q _ _ (ans (by simp only [Rep]))⟩
    · cases e
end
end Dk
end
/-! Snd4 -/
section
set_option linter.all false
set_option maxRecDepth 100000
set_option maxHeartbeats 1000000
namespace Dk
open PySem (Str Addr Heap Value Shared sizeLine PyData)
open L2 (V Hp HO upd Rd SqL SqT Key St VK TE R2 OpR CallR RelV Vals EP Dp DpAll)

/-! ### trees as the library's data -/
theorem toPys_map : ∀ l : List D, toPys l = l.map toPy
  | [] => by simp only [toPys, List.map_nil]
  | d :: ds => by simp only [toPys, List.map_cons, toPys_map ds]
theorem st_inj {a b : List Nat} (h : st a = st b) : a = b := by
  have h2 := congrArg Str.cps h
  simpa [st] using h2
theorem st_beq (a b : List Nat) : (st a == st b) = (a == b) := by
  by_cases h : a = b
  · subst h; simp
  · have h2 : ¬ st a = st b := fun q => h (st_inj q)
    rw [beq_eq_false_iff_ne.mpr h, beq_eq_false_iff_ne.mpr h2]
mutual
theorem eqv_toPy : ∀ a b : D, plain a = true → plain b = true → PyData.eqv (toPy a) (toPy b) = eqD a b
  | .non, b, _, hb => by cases b <;> first | (simp only [toPy, PyData.eqv, eqD]; done) | (simp only [plain] at hb; exact absurd hb Bool.false_ne_true)
  | .bl x, b, _, hb => by cases b <;> first | (simp only [toPy, PyData.eqv, eqD, b2i]; done) | (simp only [plain] at hb; exact absurd hb Bool.false_ne_true)
  | .int x, b, _, hb => by cases b <;> first | (simp only [toPy, PyData.eqv, eqD, b2i]; done) | (simp only [plain] at hb; exact absurd hb Bool.false_ne_true)
  | .str x, b, _, hb => by cases b <;> first | (simp only [toPy, PyData.eqv, eqD, st_beq]; done) | (simp only [plain] at hb; exact absurd hb Bool.false_ne_true)
  | .tup l, b, ha, hb => by
    cases b <;> first | (simp only [toPy, PyData.eqv, eqD]; done) | (simp only [plain] at hb; exact absurd hb Bool.false_ne_true) | skip
    simp only [toPy, PyData.eqv, eqD]
    exact eqv_toPys _ _ (by simpa only [plain] using ha) (by simpa only [plain] using hb)
  | .lst l, b, ha, hb => by
    cases b <;> first | (simp only [toPy, PyData.eqv, eqD]; done) | (simp only [plain] at hb; exact absurd hb Bool.false_ne_true) | skip
    simp only [toPy, PyData.eqv, eqD]
    exact eqv_toPys _ _ (by simpa only [plain] using ha) (by simpa only [plain] using hb)
  | .dct _, _, ha, _ => by simp only [plain] at ha; exact absurd ha Bool.false_ne_true
  | .ins _ _, _, ha, _ => by simp only [plain] at ha; exact absurd ha Bool.false_ne_true
  | .cell _, _, ha, _ => by simp only [plain] at ha; exact absurd ha Bool.false_ne_true
  | .cls _, _, ha, _ => by simp only [plain] at ha; exact absurd ha Bool.false_ne_true
  | .ty _, _, ha, _ => by simp only [plain] at ha; exact absurd ha Bool.false_ne_true
  | .fn _, _, ha, _ => by simp only [plain] at ha; exact absurd ha Bool.false_ne_true
theorem eqv_toPys : ∀ a b : List D, plains a = true → plains b = true → PyData.eqvAll (toPys a) (toPys b) = eqDs a b
  | [], [], _, _ => by simp only [toPys, PyData.eqvAll, eqDs]
  | [], _ :: _, _, _ => by simp only [toPys, PyData.eqvAll, eqDs]
  | _ :: _, [], _, _ => by simp only [toPys, PyData.eqvAll, eqDs]
  | x :: xs, y :: ys, ha, hb => by
    simp only [plains, Bool.and_eq_true] at ha hb
    simp only [toPys, PyData.eqvAll, eqDs]
    rw [eqv_toPy x y ha.1 hb.1, eqv_toPys xs ys ha.2 hb.2]
end
mutual
theorem depth_toPy : ∀ a : D, plain a = true → (toPy a).depth = depth a
  | .non, _ => by simp only [toPy, PyData.depth, depth]
  | .bl _, _ => by simp only [toPy, PyData.depth, depth]
  | .int _, _ => by simp only [toPy, PyData.depth, depth]
  | .str _, _ => by simp only [toPy, PyData.depth, depth]
  | .tup l, h => by simp only [toPy, PyData.depth, depth, depth_toPys l (by simpa only [plain] using h)]
  | .lst l, h => by simp only [toPy, PyData.depth, depth, depth_toPys l (by simpa only [plain] using h)]
  | .dct _, ha => by simp only [plain] at ha; exact absurd ha Bool.false_ne_true
  | .ins _ _, ha => by simp only [plain] at ha; exact absurd ha Bool.false_ne_true
  | .cell _, ha => by simp only [plain] at ha; exact absurd ha Bool.false_ne_true
  | .cls _, ha => by simp only [plain] at ha; exact absurd ha Bool.false_ne_true
  | .ty _, ha => by simp only [plain] at ha; exact absurd ha Bool.false_ne_true
  | .fn _, ha => by simp only [plain] at ha; exact absurd ha Bool.false_ne_true
theorem depth_toPys : ∀ a : List D, plains a = true → PyData.depthAll (toPys a) = depths a
  | [], _ => by simp only [toPys, PyData.depthAll, depths]
  | x :: xs, h => by
    simp only [plains, Bool.and_eq_true] at h
    simp only [toPys, PyData.depthAll, depths, depth_toPy x h.1, depth_toPys xs h.2]
end
theorem strOk_st {s : List Nat} (h : (s.all fun c => decide (c < 1114112)) = true) : PyData.strOk (st s) = true := by
  unfold PyData.strOk
  simp only [st, List.all_toArray]
  simpa using h
mutual
theorem lay_toPy : ∀ a : D, plain a = true → (toPy a).canLay0 = true
  | .non, _ => by simp only [toPy, PyData.canLay0]
  | .bl _, _ => by simp only [toPy, PyData.canLay0]
  | .int _, _ => by simp only [toPy, PyData.canLay0]
  | .str _, h => by simp only [toPy, PyData.canLay0]; exact strOk_st (by simpa only [plain] using h)
  | .tup l, h => by simp only [toPy, PyData.canLay0, lay_toPys l (by simpa only [plain] using h)]
  | .lst l, h => by simp only [toPy, PyData.canLay0, lay_toPys l (by simpa only [plain] using h)]
  | .dct _, ha => by simp only [plain] at ha; exact absurd ha Bool.false_ne_true
  | .ins _ _, ha => by simp only [plain] at ha; exact absurd ha Bool.false_ne_true
  | .cell _, ha => by simp only [plain] at ha; exact absurd ha Bool.false_ne_true
  | .cls _, ha => by simp only [plain] at ha; exact absurd ha Bool.false_ne_true
  | .ty _, ha => by simp only [plain] at ha; exact absurd ha Bool.false_ne_true
  | .fn _, ha => by simp only [plain] at ha; exact absurd ha Bool.false_ne_true
theorem lay_toPys : ∀ a : List D, plains a = true → PyData.canLayAll0 (toPys a) = true
  | [], _ => by simp only [toPys, PyData.canLayAll0]
  | x :: xs, h => by
    simp only [plains, Bool.and_eq_true] at h
    simp only [toPys, PyData.canLayAll0, lay_toPy x h.1, lay_toPys xs h.2, Bool.and_self]
end
theorem shaped_toPy {d : D} (h : okD d = true) : PySem.SeqAt.shaped (toPy d) = true := by
  unfold okD at h
  rw [Bool.and_eq_true] at h
  unfold PySem.SeqAt.shaped
  rw [lay_toPy d h.1, depth_toPy d h.1]
  have := of_decide_eq_true h.2
  simp only [Bool.true_and, decide_eq_true_eq]
  omega

section
variable {K : Kx} {cad : String → Option Addr} {ρ : List Addr} {Y : Addr → Prop} {H : Hp}
mutual
theorem rep_dp : ∀ (d : D) (v : V), plain d = true → Rep K cad Y ρ H d v → Dp K H v (toPy d)
  | .non, v, _, h => by simp only [Rep] at h; subst h; simp only [toPy]; exact .non
  | .bl b, v, _, h => by simp only [Rep] at h; subst h; simp only [toPy]; exact .bl b
  | .int b, v, _, h => by simp only [Rep] at h; subst h; simp only [toPy]; exact .int b
  | .str b, v, _, h => by simp only [Rep] at h; subst h; simp only [toPy]; exact .str _
  | .tup l, v, p, h => by
    simp only [Rep] at h
    obtain ⟨a, vs, rfl, q, r⟩ := h
    simp only [toPy]
    exact .tup (q.elim (fun q => .inl q.2) .inr) (reps_dp l vs (by simpa only [plain] using p) r)
  | .lst l, v, p, h => by
    simp only [Rep] at h
    obtain ⟨a, vs, rfl, q, r⟩ := h
    simp only [toPy]
    exact .lst (q.elim (fun q => Or.inl q.2) Or.inr : SqE K H a vs).sq (reps_dp l vs (by simpa only [plain] using p) r)
  | .dct _, _, ha, _ => by simp only [plain] at ha; exact absurd ha Bool.false_ne_true
  | .ins _ _, _, ha, _ => by simp only [plain] at ha; exact absurd ha Bool.false_ne_true
  | .cell _, _, ha, _ => by simp only [plain] at ha; exact absurd ha Bool.false_ne_true
  | .cls _, _, ha, _ => by simp only [plain] at ha; exact absurd ha Bool.false_ne_true
  | .ty _, _, ha, _ => by simp only [plain] at ha; exact absurd ha Bool.false_ne_true
  | .fn _, _, ha, _ => by simp only [plain] at ha; exact absurd ha Bool.false_ne_true
theorem reps_dp : ∀ (l : List D) (vs : List V), plains l = true → Reps K cad Y ρ H l vs → DpAll K H vs (toPys l)
  | [], vs, _, h => by simp only [Reps] at h; subst h; simp only [toPys]; exact .nil
  | d :: ds, vs, p, h => by
    simp only [plains, Bool.and_eq_true] at p
    simp only [Reps] at h
    obtain ⟨v, r, rfl, a, b⟩ := h
    simp only [toPys]
    exact .cons (rep_dp d v p.1 a) (reps_dp ds r p.2 b)
end
theorem rb_dp {d : D} {v : V} (p : plain d = true) (h : Rb K cad Y ρ H d v) : Dp K H v (toPy d) := by
  rcases h with h | ⟨a, rfl, h⟩
  · exact rep_dp d v p h
  · cases d <;> simp only [Cont] at h
    · obtain ⟨vs, q, r⟩ := h
      simp only [toPy]
      exact .lst (.inl (.inl q)) (reps_dp _ _ (by simpa only [plain] using p) r)
    · simp only [plain] at p; exact absurd p Bool.false_ne_true
    · simp only [plain] at p; exact absurd p Bool.false_ne_true
theorem okD_plain {d : D} (h : okD d = true) : plain d = true := by
  unfold okD at h; rw [Bool.and_eq_true] at h; exact h.1

/-! flat values -/
theorem flat_v {d : D} {v : V} (f : flat d = true) (h : Rep K cad Y ρ H d v) : L2.flatV v = true := by
  cases d <;> simp only [flat] at f <;> first | (exact absurd f Bool.false_ne_true) | (simp only [Rep] at h; subst h; rfl)
theorem flat_eq {a b : D} {x y : V} (fa : flat a = true) (fb : flat b = true) (ha : Rep K cad Y ρ H a x) (hb : Rep K cad Y ρ H b y) : L2.eqV x y = eqD a b := by
  cases a <;> simp only [flat] at fa <;> first | (exact absurd fa Bool.false_ne_true) | skip
  all_goals (cases b <;> simp only [flat] at fb <;> first | (exact absurd fb Bool.false_ne_true) | skip)
  all_goals (simp only [Rep] at ha hb; subst ha hb; simp only [L2.eqV, eqD, b2i, st_beq])
theorem flat_all : ∀ {l : List D} {vs : List V}, l.all flat = true → Reps K cad Y ρ H l vs → vs.all L2.flatV = true
  | [], vs, _, h => by simp only [Reps] at h; subst h; rfl
  | d :: ds, vs, f, h => by
    simp only [Reps] at h
    obtain ⟨v, r, rfl, a, b⟩ := h
    rw [List.all_cons, Bool.and_eq_true] at f
    rw [List.all_cons, flat_v f.1 a, flat_all f.2 b]; rfl
theorem flat_in {d : D} {x : V} (fd : flat d = true) (hd : Rep K cad Y ρ H d x) : ∀ {l : List D} {vs : List V}, l.all flat = true → Reps K cad Y ρ H l vs → L2.inV x vs = l.any fun z => eqD z d
  | [], vs, _, h => by simp only [Reps] at h; subst h; rfl
  | e :: ds, vs, f, h => by
    simp only [Reps] at h
    obtain ⟨v, r, rfl, a, b⟩ := h
    rw [List.all_cons, Bool.and_eq_true] at f
    have ih := flat_in fd hd f.2 b
    unfold L2.inV at ih ⊢
    rw [List.any_cons, List.any_cons, flat_eq f.1 fd a hd, ih]
theorem rb_flat {d : D} {v : V} (f : flat d = true) (h : Rb K cad Y ρ H d v) : Rep K cad Y ρ H d v := by
  rcases h with h | ⟨a, rfl, h⟩
  · exact h
  · cases d <;> simp only [Cont] at h <;> simp only [flat] at f <;> exact absurd f Bool.false_ne_true

/-! keys of dicts -/
theorem key_rep {d : D} {v : V} (k : keyOk d = true) (h : Rb K cad Y ρ H d v) : ∃ x, keyV d = some x ∧ v = L2.kV x := by
  cases d <;> simp only [keyOk] at k <;> first | (exact absurd k Bool.false_ne_true) | skip
  · exact ⟨.inl _, by simp only [keyV], rb_int h⟩
  · exact ⟨.inr _, by simp only [keyV], rb_str h⟩
theorem keyV_inj {a b : D} {x : Key} (ha : keyV a = some x) (hb : keyV b = some x) : a = b := by
  rw [← ha] at hb
  cases a <;> cases b <;> simp only [keyV, Option.some.injEq, Sum.inl.injEq, Sum.inr.injEq, reduceCtorEq] at ha hb <;> first | (rw [hb]; done) | (rw [st_inj hb]; done) | (cases ha; done) | skip
end
mutual
theorem beq_eq : ∀ a b : D, D.beq a b = true → a = b
  | .non, b, h => by cases b <;> simp only [D.beq] at h <;> first | rfl | exact absurd h Bool.false_ne_true
  | .bl x, b, h => by cases b <;> simp only [D.beq] at h <;> first | (rw [eq_of_beq h]) | exact absurd h Bool.false_ne_true
  | .int x, b, h => by cases b <;> simp only [D.beq] at h <;> first | (rw [eq_of_beq h]) | exact absurd h Bool.false_ne_true
  | .str x, b, h => by cases b <;> simp only [D.beq] at h <;> first | (rw [eq_of_beq h]) | exact absurd h Bool.false_ne_true
  | .cell x, b, h => by cases b <;> simp only [D.beq] at h <;> first | (rw [eq_of_beq h]) | exact absurd h Bool.false_ne_true
  | .cls x, b, h => by cases b <;> simp only [D.beq] at h <;> first | (rw [eq_of_beq h]) | exact absurd h Bool.false_ne_true
  | .ty x, b, h => by cases b <;> simp only [D.beq] at h <;> first | (rw [eq_of_beq h]) | exact absurd h Bool.false_ne_true
  | .fn x, b, h => by cases b <;> simp only [D.beq] at h <;> first | (rw [eq_of_beq h]) | exact absurd h Bool.false_ne_true
  | .tup x, b, h => by cases b <;> simp only [D.beq] at h <;> first | (rw [beqs_eq _ _ h]) | exact absurd h Bool.false_ne_true
  | .lst x, b, h => by cases b <;> simp only [D.beq] at h <;> first | (rw [beqs_eq _ _ h]) | exact absurd h Bool.false_ne_true
  | .dct x, b, h => by cases b <;> simp only [D.beq] at h <;> first | (rw [beqk_eq _ _ h]) | exact absurd h Bool.false_ne_true
  | .ins c x, b, h => by
    cases b <;> simp only [D.beq] at h <;> first | (exact absurd h Bool.false_ne_true) | skip
    rw [Bool.and_eq_true] at h
    rw [eq_of_beq h.1, beqf_eq _ _ h.2]
theorem beqs_eq : ∀ a b : List D, D.beqs a b = true → a = b
  | [], [], _ => rfl
  | [], _ :: _, h => by simp only [D.beqs] at h; exact absurd h Bool.false_ne_true
  | _ :: _, [], h => by simp only [D.beqs] at h; exact absurd h Bool.false_ne_true
  | x :: xs, y :: ys, h => by
    simp only [D.beqs, Bool.and_eq_true] at h
    rw [beq_eq x y h.1, beqs_eq xs ys h.2]
theorem beqk_eq : ∀ a b : List (D × D), D.beqk a b = true → a = b
  | [], [], _ => rfl
  | [], _ :: _, h => by simp only [D.beqk] at h; exact absurd h Bool.false_ne_true
  | _ :: _, [], h => by simp only [D.beqk] at h; exact absurd h Bool.false_ne_true
  | (a, x) :: xs, (b, y) :: ys, h => by
    simp only [D.beqk, Bool.and_eq_true] at h
    rw [beq_eq a b h.1.1, beq_eq x y h.1.2, beqk_eq xs ys h.2]
theorem beqf_eq : ∀ a b : List (String × D), D.beqf a b = true → a = b
  | [], [], _ => rfl
  | [], _ :: _, h => by simp only [D.beqf] at h; exact absurd h Bool.false_ne_true
  | _ :: _, [], h => by simp only [D.beqf] at h; exact absurd h Bool.false_ne_true
  | (a, x) :: xs, (b, y) :: ys, h => by
    simp only [D.beqf, Bool.and_eq_true] at h
    rw [eq_of_beq h.1.1, beq_eq x y h.1.2, beqf_eq xs ys h.2]
end
mutual
theorem beq_refl : ∀ a : D, D.beq a a = true
  | .non => by simp only [D.beq]
  | .bl x => by simp [D.beq]
  | .int x => by simp [D.beq]
  | .str x => by simp [D.beq]
  | .cell x => by simp [D.beq]
  | .cls x => by simp [D.beq]
  | .ty x => by simp [D.beq]
  | .fn x => by simp [D.beq]
  | .tup x => by simp only [D.beq]; exact beqs_refl x
  | .lst x => by simp only [D.beq]; exact beqs_refl x
  | .dct x => by simp only [D.beq]; exact beqk_refl x
  | .ins c x => by simp only [D.beq, beqf_refl x, beq_self_eq_true, Bool.and_self]
theorem beqs_refl : ∀ a : List D, D.beqs a a = true
  | [] => by simp only [D.beqs]
  | x :: xs => by simp only [D.beqs, beq_refl x, beqs_refl xs, Bool.and_self]
theorem beqk_refl : ∀ a : List (D × D), D.beqk a a = true
  | [] => by simp only [D.beqk]
  | (a, x) :: xs => by simp only [D.beqk, beq_refl a, beq_refl x, beqk_refl xs, Bool.and_self]
theorem beqf_refl : ∀ a : List (String × D), D.beqf a a = true
  | [] => by simp only [D.beqf]
  | (a, x) :: xs => by simp only [D.beqf, beq_self_eq_true, beq_refl x, beqf_refl xs, Bool.and_self]
end
theorem beq_iff (a b : D) : D.beq a b = true ↔ a = b := ⟨beq_eq a b, fun h => by subst h; exact beq_refl a⟩
section
variable {K : Kx} {cad : String → Option Addr} {ρ : List Addr} {Y : Addr → Prop} {H : Hp}
/-- looking a key up, in the tree and in the dict -/
theorem look_rep {k : D} {x : Key} (hk : keyV k = some x) : ∀ {l : List (D × D)} {kvs : List (Key × V)}, RepK K cad Y ρ H l kvs →
    (match lookD k l with
      | some d => ∃ v, L2.valV kvs x = some v ∧ Rep K cad Y ρ H d v
      | none => L2.valV kvs x = none)
  | [], kvs, h => by
    simp only [RepK] at h; subst h
    simp only [lookD]; rfl
  | (a, d) :: r, kvs, h => by
    simp only [RepK] at h
    obtain ⟨y, v, t, rfl, ha, hd, hr⟩ := h
    simp only [lookD]
    by_cases e : D.beq a k = true
    · rw [if_pos e]
      have e2 := beq_eq a k e
      subst e2
      rw [hk] at ha; cases ha
      exact ⟨v, L2.valV_pos rfl, hd⟩
    · rw [if_neg e]
      have ne : ¬ y = x := fun q => e (by subst q; rw [keyV_inj ha hk]; exact beq_refl _)
      have ih := look_rep hk hr
      have z : L2.valV ((y, v) :: t) x = L2.valV t x := L2.valV_neg (p := (y, v)) ne
      rw [z]
      exact ih
theorem look_some {k : D} {x : Key} (hk : keyV k = some x) {l : List (D × D)} {kvs : List (Key × V)} (h : RepK K cad Y ρ H l kvs) : (L2.valV kvs x).isSome = (lookD k l).isSome := by
  have := look_rep hk h
  split at this
  · rename_i e2
    obtain ⟨v, e, _⟩ := this
    rw [e, e2]; rfl
  · rename_i e2
    rw [this, e2]; rfl
end

/-! ### comparisons -/
def copr : Cop → PySem.CmpOp
  | .eq => .Eq | .ne => .NotEq | .nel => .NotEq | .nes => .NotEq | .lt => .Lt | .le => .LtE | .gt => .Gt | .ge => .GtE | .is => .Is | .isnot => .IsNot | .in_ => .In | .notin => .NotIn
def rCmp (K : Kx) (cad : String → Option Addr) (o : Cop) : R2 := fun x y H Q => ∃ ρ Y d1 d2 b, Rb K cad Y ρ H d1 x ∧ Rb K cad Y ρ H d2 y ∧ cmpD o d1 d2 = some b ∧ Q (.bl b) H
section
variable {X : L2.Cx}
theorem rb_isN {K : Kx} {cad : String → Option Addr} {ρ : List Addr} {Y : Addr → Prop} {H : Hp} {d : D} {v : V} (h : Rb K cad Y ρ H d v) : decide (v = .non) = isNon d := by
  cases d with
  | non => obtain rfl := rb_non h; rfl
  | bl b => obtain rfl := rb_bl h; rfl
  | int i => obtain rfl := rb_int h; rfl
  | str i => obtain rfl := rb_str h; rfl
  | tup l => obtain ⟨p, vs, rfl, _⟩ := rb_tup h; rfl
  | lst l => obtain ⟨p, vs, rfl, _⟩ := rb_lst h; rfl
  | dct l => obtain ⟨p, vs, rfl, _⟩ := rb_dct h; rfl
  | ins c l =>
    rcases h with h | ⟨p, rfl, h⟩
    · simp only [Rep] at h; obtain ⟨p, _, _, _, rfl, _⟩ := h; rfl
    · rfl
  | cell n =>
    rcases h with h | ⟨p, rfl, h⟩
    · simp only [Rep] at h; obtain ⟨p, rfl, _⟩ := h; rfl
    · rfl
  | cls n =>
    rcases h with h | ⟨p, rfl, h⟩
    · simp only [Rep] at h; obtain ⟨p, rfl, _⟩ := h; rfl
    · rfl
  | ty n =>
    rcases h with h | ⟨p, rfl, h⟩
    · simp only [Rep] at h; subst h; rfl
    · rfl
  | fn n =>
    rcases h with h | ⟨p, rfl, h⟩
    · simp only [Rep] at h
    · rfl
theorem op_cmp (o : Cop) (cad : String → Option Addr) (hu : X.A.units + 65 < PySem.cLine) : OpR X (PySem.compareOp (copr o)) (rCmp X.K cad o) := by
  intro pins s σ H x y v u Q I rx ry ⟨ρ, Y, d1, d2, b, h1, h2, e, q⟩
  have hu1 : X.A.units + 64 < PySem.cLine := by omega
  have hu2 : X.A.units + 1 < PySem.cLine := by omega
  unfold cmpD at e
  split at e
  · split at e
    · rename_i hc
      rw [Bool.and_eq_true] at hc
      cases e
      refine L2.op_eqD hu1 pins s σ H _ _ v u Q I rx ry ⟨_, _, rb_dp (okD_plain hc.1) h1, rb_dp (okD_plain hc.2) h2, shaped_toPy hc.1, shaped_toPy hc.2, ?_⟩
      rw [eqv_toPy _ _ (okD_plain hc.1) (okD_plain hc.2)]
      exact q
    · unfold emptyT at e
      split at e
      · rename_i l _
        cases e
        obtain ⟨p1, vs, rfl, a1, r1⟩ := rb_tup h1
        obtain ⟨p2, ws, rfl, a2, r2⟩ := rb_tup h2
        have r2' : ws = [] := r2
        subst r2'
        cases rx
        cases ry
        obtain ⟨its, t1, t2, _⟩ := I.tuple a1
        obtain ⟨its2, t3, t4, _⟩ := I.tuple a2
        cases t3
        refine PySem.SeqAt.eq_tupleAt (e := fun _ => true) t2 t4 (by omega) (fun j _ hj => absurd hj (Nat.not_lt_zero j)) ⟨.bl _, H, I, rfl, ?_⟩
        have hl : l.length = its.length := by rw [← r1.length]; exact t1.length
        have he : ((List.range (min its.toArray.size ([] : List Value).toArray.size)).all (fun _ => true) && its.toArray.size == ([] : List Value).toArray.size) = l.isEmpty := by
          cases l with
          | nil =>
            cases its with
            | nil => rfl
            | cons => simp at hl
          | cons =>
            cases its with
            | nil => simp at hl
            | cons => simp
        rw [he]
        exact q
      · cases e
  · split at e
    · rename_i hc
      rw [Bool.and_eq_true] at hc
      cases e
      refine L2.op_neD hu1 pins s σ H _ _ v u Q I rx ry ⟨_, _, rb_dp (okD_plain hc.1) h1, rb_dp (okD_plain hc.2) h2, shaped_toPy hc.1, shaped_toPy hc.2, ?_⟩
      rw [eqv_toPy _ _ (okD_plain hc.1) (okD_plain hc.2)]
      exact q
    · cases e
  · unfold emptyL at e
    split at e
    · rename_i l
      cases e
      obtain ⟨p1, vs, rfl, a1, r1⟩ := rb_lst h1
      obtain ⟨p2, ws, rfl, a2, r2⟩ := rb_lst h2
      have r2' : ws = [] := r2
      subst r2'
      cases rx
      cases ry
      obtain ⟨its, t1, t2, _⟩ := I.list a1.sq
      obtain ⟨its2, t3, t4, _⟩ := I.list a2.sq
      cases t3
      have hl : l.length = its.length := by rw [← r1.length]; exact t1.length
      cases its with
      | nil =>
        obtain rfl : l = [] := List.length_eq_zero_iff.mp hl
        exact PySem.SeqAt.RcNeAt.lists (e := fun _ => true) t2.isList t4.isList rfl (by omega) (fun j hj _ => absurd hj (Nat.not_lt_zero j)) _ _ _ _ ⟨.bl _, H, I, rfl, q⟩
      | cons i0 its =>
        have hne : (!l.isEmpty) = true := by cases l with
          | nil => simp at hl
          | cons => rfl
        rw [hne] at q
        exact PySem.SeqAt.RcNeAt.lists_lengths t2.isList t4.isList (by simp) (by omega) _ _ _ _ ⟨.bl _, H, I, rfl, q⟩
    · cases e
  · obtain rfl := rb_str h1; obtain rfl := rb_str h2; cases e
    refine L2.op_ne pins s σ H _ _ v u Q I rx ry ⟨rfl, ?_⟩
    rw [L2.dec_str, st_beq]
    exact q
  · obtain rfl := rb_int h1; obtain rfl := rb_int h2; cases e
    exact L2.op_lt pins s σ H _ _ v u Q I rx ry ⟨_, _, rfl, rfl, q⟩
  · obtain rfl := rb_int h1; obtain rfl := rb_int h2; cases e
    exact L2.op_le pins s σ H _ _ v u Q I rx ry ⟨_, _, rfl, rfl, q⟩
  · obtain rfl := rb_int h1; obtain rfl := rb_int h2; cases e
    exact L2.op_gt pins s σ H _ _ v u Q I rx ry ⟨_, _, rfl, rfl, q⟩
  · obtain rfl := rb_int h1; obtain rfl := rb_int h2; cases e
    exact L2.op_ge pins s σ H _ _ v u Q I rx ry ⟨_, _, rfl, rfl, q⟩
  · obtain rfl := rb_non h2; cases e
    exact L2.op_isN pins s σ H _ _ v u Q I rx ry ⟨rfl, by rw [rb_isN h1]; exact q⟩
  · obtain rfl := rb_non h2; cases e
    refine L2.op_notN pins s σ H _ _ v u Q I rx ry ⟨rfl, ?_⟩
    rw [rb_isN h1]
    exact q
  · obtain rfl := rb_bl h1; obtain rfl := rb_bl h2; cases e
    refine L2.op_isBl pins s σ H _ _ v u Q I rx ry ⟨_, _, rfl, rfl, ?_⟩
    rename_i a b
    have : decide (a = b) = (a == b) := by cases a <;> cases b <;> rfl
    rw [this]; exact q
  · obtain rfl := rb_non h1; obtain rfl := rb_bl h2; cases e
    cases (show v = Value.none from rx)
    rename_i b
    cases (show u = Value.bool b from ry)
    exact PySem.wpAny_is_other rfl (fun z => by cases z) ⟨.bl false, H, I, rfl, q⟩
  · obtain rfl := rb_bl h1; obtain rfl := rb_bl h2; cases e
    refine L2.op_notBl pins s σ H _ _ v u Q I rx ry ⟨_, _, rfl, rfl, ?_⟩
    rename_i a b
    have : decide (a = b) = (a == b) := by cases a <;> cases b <;> rfl
    rw [this]; exact q
  · obtain rfl := rb_non h1; obtain rfl := rb_bl h2; cases e
    cases (show v = Value.none from rx)
    rename_i b
    cases (show u = Value.bool b from ry)
    exact PySem.wpAny_isNot_other rfl (fun z => by cases z) ⟨.bl true, H, I, rfl, q⟩
  · rename_i l
    split at e
    · rename_i hc
      rw [Bool.and_eq_true] at hc
      cases e
      refine L2.op_inD hu pins s σ H _ _ v u Q I rx ry ⟨toPy d1, toPys l, rb_dp (okD_plain hc.1) h1, ?_, shaped_toPy hc.1, ?_, ?_⟩
      · have := rb_dp (okD_plain hc.2) h2
        simpa only [toPy] using this
      · have := shaped_toPy hc.2
        simpa only [toPy] using this
      · have pl : plains l = true := by simpa only [plain] using okD_plain hc.2
        have p1 := okD_plain hc.1
        have : ((toPys l).any fun z => PyData.eqv z (toPy d1)) = l.any fun z => eqD z d1 := by
          clear q h2 hc
          induction l with
          | nil => simp only [toPys, List.any_nil]
          | cons z zs ih =>
            simp only [plains, Bool.and_eq_true] at pl
            simp only [toPys, List.any_cons]
            rw [eqv_toPy z d1 pl.1 p1, ih pl.2]
        rw [this]; exact q
    · cases e
  · split at e
    · rename_i hc
      rw [Bool.and_eq_true] at hc
      cases e
      obtain ⟨p, vs, rfl, a, b⟩ := rb_tup h2
      have r1 := rb_flat hc.1 h1
      refine L2.op_in_seq pins s σ H _ _ v u Q I rx ry ⟨_, _, rfl, .inr a, flat_v hc.1 r1, flat_all hc.2 b, ?_⟩
      rw [flat_in hc.1 r1 hc.2 b]
      exact q
    · cases e
  · split at e
    · rename_i hc
      cases e
      obtain ⟨p, kvs, rfl, a, b⟩ := rb_dct h2
      obtain ⟨z, hz, rfl⟩ := key_rep hc h1
      cases ry
      refine L2.d_in (y := L2.kV z) hu2 I (.inl ⟨_, _, a, rfl, rfl⟩) rx fun s' I' => ⟨.bl _, H, I', rfl, ?_⟩
      rw [look_some hz b]
      exact q
    · cases e
  · obtain rfl := rb_str h1; obtain rfl := rb_str h2; cases e
    refine L2.op_in_sign pins s σ H _ _ v u Q I rx ry ⟨_, _, rfl, rfl, ?_⟩
    rw [show ((st _).cps.toList) = _ from rfl]
    rw [← List.contains_eq_mem]
    exact q
  · rename_i l
    split at e
    · rename_i hc
      rw [Bool.and_eq_true] at hc
      cases e
      refine L2.op_notInD hu pins s σ H _ _ v u Q I rx ry ⟨toPy d1, toPys l, rb_dp (okD_plain hc.1) h1, ?_, shaped_toPy hc.1, ?_, ?_⟩
      · have := rb_dp (okD_plain hc.2) h2
        simpa only [toPy] using this
      · have := shaped_toPy hc.2
        simpa only [toPy] using this
      · have pl : plains l = true := by simpa only [plain] using okD_plain hc.2
        have p1 := okD_plain hc.1
        have : ((toPys l).any fun z => PyData.eqv z (toPy d1)) = l.any fun z => eqD z d1 := by
          clear q h2 hc
          induction l with
          | nil => simp only [toPys, List.any_nil]
          | cons z zs ih =>
            simp only [plains, Bool.and_eq_true] at pl
            simp only [toPys, List.any_cons]
            rw [eqv_toPy z d1 pl.1 p1, ih pl.2]
        rw [this]; exact q
    · cases e
  · split at e
    · rename_i hc
      rw [Bool.and_eq_true] at hc
      cases e
      obtain ⟨p, vs, rfl, a, b⟩ := rb_tup h2
      have r1 := rb_flat hc.1 h1
      refine L2.op_notIn_seq pins s σ H _ _ v u Q I rx ry ⟨_, _, rfl, .inr a, flat_v hc.1 r1, flat_all hc.2 b, ?_⟩
      rw [flat_in hc.1 r1 hc.2 b]
      exact q
    · cases e
  · split at e
    · rename_i hc
      cases e
      obtain ⟨p, kvs, rfl, a, b⟩ := rb_dct h2
      obtain ⟨z, hz, rfl⟩ := key_rep hc h1
      cases ry
      refine L2.d_notIn (y := L2.kV z) hu2 I (.inl ⟨_, _, a, rfl, rfl⟩) rx fun s' I' => ⟨.bl _, H, I', rfl, ?_⟩
      rw [look_some hz b]
      exact q
    · cases e
  · cases e
end
end Dk
end
/-! Snd5 -/
section
set_option linter.all false
set_option maxRecDepth 100000
set_option maxHeartbeats 1000000
namespace Dk
open PySem (Str Addr Heap Value Shared sizeLine PyData)
open L2 (V Hp HO upd Rd SqL SqT Key St VK TE R2 OpR CallR MtR IxR RelV Vals EP Dp DpAll)

/-! ### an item -/
theorem atL_eq {α : Type} (l : List α) (i : Int) : atL l i = L2.atI l i := by
  unfold atL L2.atI L2.ixN
  by_cases h0 : 0 ≤ i
  · rw [if_pos h0, if_pos h0]
    by_cases h1 : i < l.length
    · rw [if_pos h1]; rfl
    · rw [if_neg h1, List.getElem?_eq_none (by omega)]; rfl
  · rw [if_neg h0, if_neg h0]
    by_cases h1 : -(l.length : Int) ≤ i
    · rw [if_pos h1, if_pos (by omega)]; rfl
    · rw [if_neg h1, if_neg (by omega)]; rfl
section
variable {K : Kx} {cad : String → Option Addr} {ρ : List Addr} {Y : Addr → Prop} {H : Hp}
theorem Reps.atI {l : List D} {vs : List V} {i : Int} {d : D} (h : Reps K cad Y ρ H l vs) (e : atL l i = some d) : ∃ v, L2.atI vs i = some v ∧ Rep K cad Y ρ H d v := by
  rw [atL_eq] at e
  unfold L2.atI at e ⊢
  rw [h.length]
  cases q : L2.ixN l.length i with
  | none => rw [q] at e; cases e
  | some j =>
    rw [q] at e
    exact h.get e
theorem rb_any {d : D} {v : V} (h : Rep K cad Y ρ H d v) : Rb K cad Y ρ H d v := .inl h
end
def rIdx (K : Kx) (cad : String → Option Addr) : R2 := fun x y H Q => ∃ ρ Y d1 d2 d, Rb K cad Y ρ H d1 x ∧ Rb K cad Y ρ H d2 y ∧ idxD d1 d2 = some d ∧ ∀ v, Rep K cad Y ρ H d v → Q v H
section
variable {X : L2.Cx}
theorem ix_any (cad : String → Option Addr) (hu : X.A.units + 1 < PySem.cLine) : IxR X (rIdx X.K cad) := by
  intro value slice pins s σ H x y v u Q I rx ry ⟨ρ, Y, d1, d2, d, h1, h2, e, q⟩ hs
  unfold idxD at e
  split at e
  · obtain ⟨p, vs, rfl, a, b⟩ := rb_lst h1
    obtain rfl := rb_int h2
    obtain ⟨w, hw, r⟩ := b.atI e
    exact L2.ix_list value slice pins s σ H _ _ v u Q I rx ry ⟨_, _, _, _, rfl, rfl, a.sq, hw, q _ r⟩ hs
  · obtain ⟨p, vs, rfl, a, b⟩ := rb_tup h1
    obtain rfl := rb_int h2
    obtain ⟨w, hw, r⟩ := b.atI e
    exact L2.ix_tup value slice pins s σ H _ _ v u Q I rx ry ⟨_, _, _, _, rfl, rfl, a, hw, q _ r⟩ hs
  · rename_i z i
    obtain rfl := rb_str h1
    obtain rfl := rb_int h2
    split at e
    · rename_i hc
      obtain ⟨c, hc1, rfl⟩ := Option.map_eq_some_iff.mp e
      rw [atL_eq] at hc1
      exact L2.ix_str value slice pins s σ H _ _ v u Q I rx ry ⟨_, _, _, rfl, rfl, by rw [st_len]; exact Nat.le_trans hc lim_line, hc1, q _ (by simp only [Rep, st])⟩ hs
    · cases e
  · split at e
    · rename_i hc
      obtain ⟨p, kvs, rfl, a, b⟩ := rb_dct h1
      obtain ⟨z, hz, rfl⟩ := key_rep hc h2
      cases rx
      have lk := look_rep hz b
      rw [e] at lk
      obtain ⟨w, hw, r⟩ := lk
      have g : L2.DGet H p (L2.kV z) (some w) := by rw [← hw]; exact .inl ⟨_, _, a, rfl, rfl⟩
      exact PyProof.Rows.tail_any (L2.dict_typeIs I g) PySem.F.slot_dict_getitem.lookup (L2.d_getItem hu I g ry fun w' s' I' rw' => ⟨w, H, I', rw', q _ r⟩) hs
    · cases e
  · cases e
end

/-! ### built-in functions -/
theorem call_lenD' {X : L2.Cx} : CallR X (.builtin "len") (fun xs H Q => ∃ a kvs, xs = [V.ref a] ∧ Rd H a (.dK kvs) ∧ Q (.int kvs.length) H) := by
  intro pins s σ H xs us Q I r h
  obtain ⟨a, kvs, rfl, ha, q⟩ := h
  obtain ⟨u, rfl, ru⟩ := L2.vals1 r
  cases ru
  exact L2.d_len I ha fun t s' I' => ⟨.int kvs.length, H, I', ⟨t, rfl⟩, q⟩
theorem call_list_dK' {X : L2.Cx} (hc : X.calm = true) : CallR X (.type "list") (fun xs H Q => ∃ p kvs, xs = [V.ref p] ∧ Rd H p (.dK kvs) ∧ ∀ q, H q = none → Q (.ref q) (upd H q (.lst (kvs.map fun kv => L2.kV kv.1)))) := by
  intro pins s σ H xs us Q I r h
  obtain ⟨p, kvs, e, hk, q⟩ := h
  subst e
  obtain ⟨u, eu, rx⟩ := L2.vals1 r
  subst eu
  obtain rfl : u = Value.ref p := rx
  obtain ⟨z, lo, vs, rk, hd⟩ := L2.dk_rd I.hok hk
  obtain ⟨ep, hat⟩ := hd.dictAt
  have hl : kvs.length = vs.length := PySem.Paired.length rk
  refine PySem.W.kdl_call (PySem.W.kdl_dict (knd := L2.mixKind X.prog X.w) (kvs := vs) (ep := ep) lo) (I.ok.hd hc) hat (by rw [← hl]; exact z) fun h' tk acc' c' hkeep hS hacc => ?_
  refine ⟨.ref s.heap.objs.size, upd H s.heap.objs.size (.lst (kvs.map fun kv => L2.kV kv.1)), I.laid hkeep (Nat.le_refl _) (show L2.ObjOk X.prog X.w _ _ _ (.lst (kvs.map fun kv => L2.kV kv.1)) from ⟨?_, acc'.toList, c', ?_, ?_⟩), rfl, q _ (I.hok.fresh (Nat.le_refl _))⟩
  · rw [List.length_map]; exact z
  · have el : acc'.toList.length = acc'.size := by simp
    refine L2.vals_of_at (by rw [List.length_map, el, hacc.1, hl]) fun j x w h1 h2 => ?_
    obtain ⟨k, y, hky, hi⟩ := hacc.2 j w (by rw [← Array.getElem?_toList]; exact h2)
    have e1 : (kvs.map (·.1))[j]? = some k := by
      rw [L2.KV.keys rk, List.getElem?_map, hky] <;> rfl
    have e2 : (kvs.map fun kv => L2.kV kv.1)[j]? = some (L2.kV k) := by
      have e3 : (kvs.map fun kv => L2.kV kv.1) = (kvs.map (·.1)).map L2.kV := by rw [List.map_map] <;> rfl
      rw [e3, List.getElem?_map, e1] <;> rfl
    rw [e2] at h1
    cases h1
    exact L2.keyIs_rel hi
  · rw [Array.toArray_toList]; exact hS
def Rbs (K : Kx) (cad : String → Option Addr) (Y : Addr → Prop) (ρ : List Addr) (H : Hp) : List D → List V → Prop
  | [], vs => vs = []
  | d :: ds, vs => ∃ v r, vs = v :: r ∧ Rb K cad Y ρ H d v ∧ Rbs K cad Y ρ H ds r
def biV (f : String) : Value := if f = "tuple" ∨ f = "list" ∨ f = "int" ∨ f = "bool" ∨ f = "str" then .type f else .builtin f
def rCall (K : Kx) (cad : String → Option Addr) (f : String) : List V → Hp → VK → Prop := fun xs H Q => ∃ ρ Y l d fl, Dom Y H ∧ Rbs K cad Y ρ H l xs ∧ callD f l = some (d, fl) ∧ ∀ v H', NRes K cad ρ Y H d v H' fl → Q v H'

theorem sortI_perm (l : List Int) : (sortI l).Perm l := by
  have ins : ∀ (x : Int) (m : List Int), (insI x m).Perm (x :: m) := fun x m => by
    induction m with
    | nil => exact List.Perm.refl _
    | cons y r ih =>
      unfold insI
      split
      · exact List.Perm.refl _
      · exact ((ih.cons y).trans (List.Perm.swap x y r))
  induction l with
  | nil => exact List.Perm.refl _
  | cons x r ih => exact (ins x _).trans (ih.cons x)
theorem sortI_sorted (l : List Int) : (sortI l).Pairwise (· ≤ ·) := by
  have mem : ∀ (x : Int) (m : List Int) (z : Int), z ∈ insI x m → z = x ∨ z ∈ m := fun x m => by
    induction m with
    | nil => intro z h; simp only [insI, List.mem_singleton] at h; exact .inl h
    | cons y r ih =>
      intro z h
      unfold insI at h
      split at h
      · simpa using h
      · rcases List.mem_cons.mp h with h | h
        · exact .inr (by simp [h])
        · rcases ih z h with h | h
          · exact .inl h
          · exact .inr (List.mem_cons_of_mem _ h)
  have ins : ∀ (x : Int) (m : List Int), m.Pairwise (· ≤ ·) → (insI x m).Pairwise (· ≤ ·) := fun x m => by
    induction m with
    | nil => intro _; simp [insI]
    | cons y r ih =>
      intro h
      obtain ⟨h1, h2⟩ := List.pairwise_cons.mp h
      unfold insI
      split
      · rename_i hx
        refine List.pairwise_cons.mpr ⟨fun z hz => ?_, h⟩
        rcases List.mem_cons.mp hz with rfl | hz
        · exact hx
        · exact Int.le_trans hx (h1 z hz)
      · rename_i hx
        refine List.pairwise_cons.mpr ⟨fun z hz => ?_, ih h2⟩
        rcases mem x r z hz with rfl | hz
        · omega
        · exact h1 z hz
  induction l with
  | nil => exact List.Pairwise.nil
  | cons x r ih => exact ins x _ ih
theorem maxI_spec : ∀ (l : List Int) (m : Int), (maxI m l = m ∨ maxI m l ∈ l) ∧ m ≤ maxI m l ∧ ∀ y, y ∈ l → y ≤ maxI m l
  | [], m => ⟨.inl rfl, Int.le_refl _, fun _ h => by cases h⟩
  | x :: r, m => by
    obtain ⟨h1, h2, h3⟩ := maxI_spec r (if x > m then x else m)
    simp only [maxI]
    by_cases hx : x > m
    · rw [if_pos hx] at h1 h2 h3 ⊢
      refine ⟨.inr ?_, by omega, fun y hy => ?_⟩
      · rcases h1 with h1 | h1
        · rw [h1]; exact List.mem_cons_self
        · exact List.mem_cons_of_mem _ h1
      · rcases List.mem_cons.mp hy with rfl | hy
        · exact h2
        · exact h3 y hy
    · rw [if_neg hx] at h1 h2 h3 ⊢
      refine ⟨h1.imp id (List.mem_cons_of_mem _), h2, fun y hy => ?_⟩
      rcases List.mem_cons.mp hy with rfl | hy
      · omega
      · exact h3 y hy
theorem minI_spec : ∀ (l : List Int) (m : Int), (minI m l = m ∨ minI m l ∈ l) ∧ minI m l ≤ m ∧ ∀ y, y ∈ l → minI m l ≤ y
  | [], m => ⟨.inl rfl, Int.le_refl _, fun _ h => by cases h⟩
  | x :: r, m => by
    obtain ⟨h1, h2, h3⟩ := minI_spec r (if x < m then x else m)
    simp only [minI]
    by_cases hx : x < m
    · rw [if_pos hx] at h1 h2 h3 ⊢
      refine ⟨.inr ?_, by omega, fun y hy => ?_⟩
      · rcases h1 with h1 | h1
        · rw [h1]; exact List.mem_cons_self
        · exact List.mem_cons_of_mem _ h1
      · rcases List.mem_cons.mp hy with rfl | hy
        · exact h2
        · exact h3 y hy
    · rw [if_neg hx] at h1 h2 h3 ⊢
      refine ⟨h1.imp id (List.mem_cons_of_mem _), h2, fun y hy => ?_⟩
      rcases List.mem_cons.mp hy with rfl | hy
      · omega
      · exact h3 y hy
theorem tl_st (l : List Nat) : TL.tl (st l) = l := rfl
theorem st_tl (x : Str) : st (TL.tl x) = x := TL.mk_tl x
theorem st_eq {l : List Nat} {x : Str} (h : TL.tl x = l) : x = st l := by rw [← h, st_tl]
theorem digs_num (n : Nat) : digs n = TL.numL n := rfl
theorem showI_eq (i : Int) : Str.ofString (toString i) = st (showI i) := by
  unfold showI
  cases i with
  | ofNat n =>
    rw [if_neg (by simp)]
    exact st_eq (TL.tl_num n)
  | negSucc n =>
    rw [if_pos (by simp [Int.negSucc_lt_zero])]
    apply st_eq
    rw [TL.tl_ofString]
    show (String.toList ("-" ++ Nat.repr (n + 1))).map Char.toNat = _
    rw [String.toList_append, List.map_append]
    show 45 :: _ = _
    congr 1
    simp only [digs, Int.natAbs_negSucc, Nat.repr]
    rw [String.toList_ofList]
    rfl
theorem log_of {i : Int} (h : i.natAbs < 2 ^ 1900) : i.natAbs.log2 < 1920 := Nat.lt_trans (PySem.Flt.log2_lt_of (by decide) h) (by decide)
theorem val_eq : ∀ (l : List Nat) (a : Nat), digitsVal l a = l.foldl (fun acc c => acc * 10 + (c - 48)) a
  | [], _ => rfl
  | c :: r, a => by simp only [digitsVal, List.foldl_cons]; exact val_eq r _
section
variable {K : Kx} {cad : String → Option Addr} {ρ : List Addr} {Y : Addr → Prop} {H : Hp}
theorem rbs1 {d : D} {vs : List V} (h : Rbs K cad Y ρ H [d] vs) : ∃ v, vs = [v] ∧ Rb K cad Y ρ H d v := by
  simp only [Rbs] at h
  obtain ⟨v, r, rfl, a, rfl⟩ := h
  exact ⟨v, rfl, a⟩
theorem rbs2 {d e : D} {vs : List V} (h : Rbs K cad Y ρ H [d, e] vs) : ∃ v w, vs = [v, w] ∧ Rb K cad Y ρ H d v ∧ Rb K cad Y ρ H e w := by
  simp only [Rbs] at h
  obtain ⟨v, r, rfl, a, w, r', rfl, b, rfl⟩ := h
  exact ⟨v, w, rfl, a, b⟩
theorem repk_len : ∀ {l : List (D × D)} {kvs : List (Key × V)}, RepK K cad Y ρ H l kvs → kvs.length = l.length
  | [], kvs, h => by simp only [RepK] at h; subst h; rfl
  | (a, d) :: r, kvs, h => by
    simp only [RepK] at h
    obtain ⟨y, v, t, rfl, _, _, hr⟩ := h
    simp [repk_len hr]
theorem repk_keys : ∀ {l : List (D × D)} {kvs : List (Key × V)}, RepK K cad Y ρ H l kvs → Reps K cad Y ρ H (l.map (·.1)) (kvs.map fun kv => L2.kV kv.1)
  | [], kvs, h => by simp only [RepK] at h; subst h; exact Reps.nil
  | (a, d) :: r, kvs, h => by
    simp only [RepK] at h
    obtain ⟨y, v, t, rfl, ka, _, hr⟩ := h
    refine Reps.cons ?_ (repk_keys hr)
    cases a <;> simp only [keyV] at ka <;> first | (cases ka; done) | skip
    · cases ka; simp only [Rep]; rfl
    · cases ka; simp only [Rep]; rfl
end
section
variable {X : L2.Cx}
theorem call_any (f : String) (cad : String → Option Addr) (hc : X.calm = true) : CallR X (biV f) (rCall X.K cad f) := by
  intro pins s σ H xs us Q I rs ⟨ρ, Y, l, d, fl, dom, hl, e, q⟩
  have ans : ∀ {d : D} {w : V}, Rep X.K cad Y ρ H d w → NRes X.K cad ρ Y H d w H .v := fun h => ⟨Ex.refl, h⟩
  unfold callD at e
  split at e
  · -- len
    obtain ⟨v, rfl, h⟩ := rbs1 hl; cases e
    obtain ⟨p, vs, rfl, a, b⟩ := rb_lst h
    exact L2.call_len_seq pins s σ H _ us Q I rs ⟨_, _, rfl, .inl a.sq, by rw [b.length]; exact q _ _ (ans (by simp only [Rep]))⟩
  · obtain ⟨v, rfl, h⟩ := rbs1 hl; cases e
    obtain ⟨p, vs, rfl, a, b⟩ := rb_tup h
    exact L2.call_len_seq pins s σ H _ us Q I rs ⟨_, _, rfl, .inr a, by rw [b.length]; exact q _ _ (ans (by simp only [Rep]))⟩
  · obtain ⟨v, rfl, h⟩ := rbs1 hl; cases e
    obtain ⟨p, vs, rfl, a, b⟩ := rb_dct h
    exact call_lenD' pins s σ H _ us Q I rs ⟨_, _, rfl, a, by rw [repk_len b]; exact q _ _ (ans (by simp only [Rep]))⟩
  · obtain ⟨v, rfl, h⟩ := rbs1 hl
    obtain rfl := rb_str h
    split at e
    · cases e
      refine L2.call_len_str pins s σ H _ us Q I rs ⟨_, rfl, ?_, ?_⟩
      · rw [st_len]; exact Nat.le_trans (by assumption) lim_line
      · rw [st_len]; exact q _ _ (ans (by simp only [Rep]))
    · cases e
  · -- tuple
    obtain ⟨v, rfl, h⟩ := rbs1 hl; cases e
    obtain ⟨p, vs, rfl, a, b⟩ := rb_lst h
    exact L2.call_tuple_of pins s σ H _ us Q I rs ⟨_, _, rfl, .inl ⟨a.sq, fun p hp => q _ _ ⟨Ex.new hp, rep_tup_new dom hp b⟩⟩⟩
  · obtain ⟨v, rfl, h⟩ := rbs1 hl; cases e
    obtain ⟨p, vs, rfl, a, b⟩ := rb_tup h
    exact L2.call_tuple_of pins s σ H _ us Q I rs ⟨_, _, rfl, .inr ⟨a, q _ _ (ans (rep_tup_of h))⟩⟩
  · -- list
    obtain ⟨v, rfl, h⟩ := rbs1 hl; cases e
    obtain ⟨p, vs, rfl, a, b⟩ := rb_lst h
    exact L2.call_list_of pins s σ H _ us Q I rs ⟨_, _, rfl, .inl a.sq, fun p hp => q _ _ ⟨p, _, rfl, hp, rfl, b⟩⟩
  · obtain ⟨v, rfl, h⟩ := rbs1 hl; cases e
    obtain ⟨p, vs, rfl, a, b⟩ := rb_tup h
    exact L2.call_list_of pins s σ H _ us Q I rs ⟨_, _, rfl, .inr a, fun p hp => q _ _ ⟨p, _, rfl, hp, rfl, b⟩⟩
  · obtain ⟨v, rfl, h⟩ := rbs1 hl; cases e
    obtain ⟨p, vs, rfl, a, b⟩ := rb_dct h
    exact call_list_dK' hc pins s σ H _ us Q I rs ⟨_, _, rfl, a, fun p hp => q _ _ ⟨p, _, rfl, hp, rfl, repk_keys b⟩⟩
  · -- sorted
    obtain ⟨v, rfl, h⟩ := rbs1 hl
    obtain ⟨p, vs, rfl, a, b⟩ := rb_lst h
    split at e
    · rename_i ns hns
      have ev := b.ints hns
      split at e
      · cases e
        rename_i hlt
        have hn : ns.length < 64 := by
          have := b.length
          rw [ev, List.length_map] at this
          omega
        refine L2.cr_sorted pins s σ H _ us Q I rs ⟨_, ns, rfl, by rw [← ev]; exact a.sq, hn, fun ms p per srt hp => ?_⟩
        have same : ms = sortI ns := PySem.W.ksm_same (per.trans (sortI_perm ns).symm) srt (sortI_sorted ns)
        rw [same]
        exact q _ _ ⟨p, _, rfl, hp, rfl, Reps.ofInts _⟩
      · cases e
    · cases e
  · -- sum
    obtain ⟨v, rfl, h⟩ := rbs1 hl
    obtain ⟨p, vs, rfl, a, b⟩ := rb_lst h
    obtain ⟨ns, hns, z⟩ := Option.map_eq_some_iff.mp e
    cases z
    exact L2.cr_sum hc pins s σ H _ us Q I rs ⟨_, ns, rfl, by rw [← b.ints hns]; exact a.sq, q _ _ (ans (by simp only [Rep]))⟩
  · obtain ⟨v, rfl, h⟩ := rbs1 hl
    obtain ⟨p, vs, rfl, a, b⟩ := rb_lst h
    obtain ⟨ns, hns, z⟩ := Option.map_eq_some_iff.mp e
    cases z
    exact L2.cr_any hc pins s σ H _ us Q I rs ⟨_, ns, rfl, by rw [← b.bls hns]; exact a.sq, q _ _ (ans (by simp only [Rep]))⟩
  · obtain ⟨v, rfl, h⟩ := rbs1 hl
    obtain ⟨p, vs, rfl, a, b⟩ := rb_lst h
    obtain ⟨ns, hns, z⟩ := Option.map_eq_some_iff.mp e
    cases z
    exact L2.cr_all hc pins s σ H _ us Q I rs ⟨_, ns, rfl, by rw [← b.bls hns]; exact a.sq, q _ _ (ans (by simp only [Rep]))⟩
  · -- max
    obtain ⟨v, rfl, h⟩ := rbs1 hl
    obtain ⟨p, vs, rfl, a, b⟩ := rb_lst h
    split at e
    · rename_i x r hns
      cases e
      refine L2.cr_max hc pins s σ H _ us Q I rs ⟨_, x :: r, rfl, by rw [← b.ints hns]; exact a.sq, by simp, fun m hm hb => ?_⟩
      obtain ⟨h1, h2, h3⟩ := maxI_spec r x
      have : m = maxI x r := by
        have up : maxI x r ≤ m := hb _ (h1.elim (fun z => by rw [z]; exact List.mem_cons_self) (List.mem_cons_of_mem _))
        rcases List.mem_cons.mp hm with rfl | hm
        · omega
        · have := h3 m hm; omega
      rw [this]
      exact q _ _ (ans (by simp only [Rep]))
    · cases e
  · obtain ⟨v, rfl, h⟩ := rbs1 hl
    obtain ⟨p, vs, rfl, a, b⟩ := rb_lst h
    split at e
    · rename_i x r hns
      cases e
      refine L2.cr_min hc pins s σ H _ us Q I rs ⟨_, x :: r, rfl, by rw [← b.ints hns]; exact a.sq, by simp, fun m hm hb => ?_⟩
      obtain ⟨h1, h2, h3⟩ := minI_spec r x
      have : m = minI x r := by
        have up : m ≤ minI x r := hb _ (h1.elim (fun z => by rw [z]; exact List.mem_cons_self) (List.mem_cons_of_mem _))
        rcases List.mem_cons.mp hm with rfl | hm
        · omega
        · have := h3 m hm; omega
      rw [this]
      exact q _ _ (ans (by simp only [Rep]))
    · cases e
  · obtain ⟨v, w, rfl, h1, h2⟩ := rbs2 hl; cases e
    obtain rfl := rb_int h1; obtain rfl := rb_int h2
    exact L2.call_max2 hc pins s σ H _ us Q I rs ⟨_, _, rfl, q _ _ (ans (by simp only [Rep]))⟩
  · obtain ⟨v, w, rfl, h1, h2⟩ := rbs2 hl; cases e
    obtain rfl := rb_int h1; obtain rfl := rb_int h2
    exact L2.call_min2 hc pins s σ H _ us Q I rs ⟨_, _, rfl, q _ _ (ans (by simp only [Rep]))⟩
  · obtain ⟨v, rfl, h⟩ := rbs1 hl; cases e
    obtain rfl := rb_int h
    exact L2.call_abs pins s σ H _ us Q I rs ⟨_, rfl, q _ _ (ans (by simp only [Rep]))⟩
  · obtain ⟨v, rfl, h⟩ := rbs1 hl; cases e
    obtain rfl := rb_int h
    exact L2.call_int1 pins s σ H _ us Q I rs (.inl ⟨_, rfl, q _ _ (ans (by simp only [Rep]))⟩)
  · obtain ⟨v, rfl, h⟩ := rbs1 hl; cases e
    obtain rfl := rb_bl h
    exact L2.call_int1 pins s σ H _ us Q I rs (.inr ⟨_, rfl, q _ _ (ans (by simp only [Rep, b2i]))⟩)
  · obtain ⟨v, rfl, h⟩ := rbs1 hl
    obtain rfl := rb_str h
    split at e
    · rename_i z hc
      cases e
      simp only [Bool.and_eq_true, decide_eq_true_eq, Bool.not_eq_true'] at hc
      have ad : PySem.NumText.AllDigits z := fun c hcm => by
        have := List.all_eq_true.mp (show z.all (fun c => decide (48 ≤ c ∧ c ≤ 57)) = true from hc.1.1) c hcm
        simpa using this
      have nn : z ≠ [] := fun q => by rw [q] at hc; simp at hc
      have v := PySem.intText_digits (x := st z) ad nn (by rw [st_len]; omega)
      refine L2.call_int_str pins s σ H _ us Q I rs ⟨_, _, rfl, v, by rw [st_len]; omega, q _ _ (ans ?_)⟩
      simp only [Rep]
      rw [val_eq]; rfl
    · cases e
  · obtain ⟨v, rfl, h⟩ := rbs1 hl; cases e
    obtain rfl := rb_int h
    exact L2.call_bool1 pins s σ H _ us Q I rs (.inl ⟨_, rfl, q _ _ (ans (by simp only [Rep]))⟩)
  · obtain ⟨v, rfl, h⟩ := rbs1 hl; cases e
    obtain rfl := rb_bl h
    exact L2.call_bool1 pins s σ H _ us Q I rs (.inr ⟨_, rfl, q _ _ (ans (by simp only [Rep]))⟩)
  · obtain ⟨v, rfl, h⟩ := rbs1 hl
    obtain rfl := rb_int h
    split at e
    · cases e
      rename_i hc
      exact L2.call_str_int pins s σ H _ us Q I rs ⟨_, rfl, log_of hc, q _ _ (ans (by simp only [Rep]; rw [showI_eq]))⟩
    · cases e
  · obtain ⟨v, w, rfl, h1, h2⟩ := rbs2 hl
    obtain rfl := rb_int h1; obtain rfl := rb_int h2
    split at e
    · rename_i i j hc
      cases e
      refine L2.call_divmodW pins s σ H _ us Q I rs ⟨_, _, rfl, ⟨hc.1, PyProof.noPylong_of_log2 (Nat.lt_trans (big_log hc.2) (by decide))⟩, fun p hp => q _ _ ⟨Ex.new hp, ?_⟩⟩
      exact rep_tup_new dom hp (Reps.cons (by simp only [Rep]) (Reps.one (by simp only [Rep])))
    · cases e
  · cases e
end
end Dk
end
/-! Snd6 -/
section
set_option linter.all false
set_option maxRecDepth 100000
set_option maxHeartbeats 1000000
/-! Promises of defs that hold where no repr is under way, and the calls of these. -/
namespace Dk
open PySem (Str Addr Heap Value Shared sizeLine Around Args Obj Env FuncData Program World codeAny wpAny model BindsTo Expr Pos Keyword Code)
open L2 (V Hp HO upd Rd SqL SqT Key St VK TE Room Env0 Vals Inv EP Cx)

abbrev SpG := List V → Hp → VK → Prop
structure FnG (pr : Program) (w : World) (K : Kx) (mg : Str → Option Value) (base : Heap) (k : Nat) (f : Addr) (fd : FuncData) (ps : List Str) (sp : SpG) : Prop where
  len : ∀ vs H Q, sp vs H Q → vs.length = ps.length
  run : ∀ (R : Around) (st : List PySem.Env) (z : Shared) (H : Hp) (args : Args) (us : List Value) (vs : List V) (Q : VK), Room k R → R.guards = some [] →
    Env0 pr w K mg base R st z H → BindsTo z fd args (ps.zip us) → Vals vs us → sp vs H Q →
    codeAny (model pr w) R (.call (.ref f) args) (fun r z' => ∃ u, r = .ok (.ret u) ∧ L2.CE st pr w H z Q u z') z
theorem FnG.mono {pr : Program} {w : World} {K : Kx} {mg : Str → Option Value} {base : Heap} {j k : Nat} {f : Addr} {fd : FuncData} {ps : List Str} {sp : SpG} (F : FnG pr w K mg base j f fd ps sp) (h : j ≤ k) : FnG pr w K mg base k f fd ps sp :=
  ⟨F.len, fun R st z H args us vs Q hr => F.run R st z H args us vs Q (hr.mono h)⟩

section
variable {X : Cx} {k n : Nat} {f C : Addr} {fd : FuncData} {ps ks : List Str} {sp : SpG} {x m : Str} {p pos apos : Pos} {e o : Expr} {es : List Expr} {ta : TE} {t tk : L2.TA} {pins : List (Addr × Obj)} {σ : St} {H : Hp} {s : Shared} {Q : VK} {us : List Value} {vs : List V} {args : Args}

theorem end_of {X : Cx} {σ : St} {H : Hp} {s : Shared} {Q Q' : VK} {pins : List (Addr × Obj)} (I : Inv X pins σ H s) (g : ∀ v H', Q v H' → Q' v H') :
    ∀ (r : PySem.Result) (z : Shared), (∃ u, r = .ok (.ret u) ∧ L2.CE X.stack X.prog X.w H s Q u z) → (match r with | .ok (.ret u) => EP X pins σ Q' u z | .ok _ => False | .error e => X.xe e z) := by
  rintro r z ⟨u, rfl, h⟩
  obtain ⟨v, H', J, rv, q⟩ := I.after h
  exact ⟨v, H', J, rv, g v H' q⟩
/-- what is called runs -/
theorem run_g (F : FnG X.prog X.w X.K X.mg X.base k f fd ps sp) (hr : Room k X.A) (hg : X.A.guards = some []) (I : Inv X pins σ H s) (hb : BindsTo s fd args (ps.zip us)) (r : Vals vs us) (h : sp vs H Q) :
    wpAny (model X.prog X.w) X.A (PySem.call (.ref f) args.pos args.kw) (EP X pins σ Q) X.xe s := by
  refine PySem.wpAny_call (PySem.codeAny_mono (F.run X.A X.stack s H args us vs Q hr hg I.env0 hb r h) fun r z q => ?_)
  obtain ⟨u, rfl, q⟩ := q
  exact I.after q
/-- the parameters are all given, one by one -/
def All (fd : FuncData) (ps : List Str) : Prop := ∀ us : List Value, us.length = ps.length → PySem.bindArgs fd ⟨us, []⟩ = pure (ps.zip us)
theorem All.to (h : All fd ps) (hl : us.length = ps.length) : BindsTo s fd ⟨us, []⟩ (ps.zip us) := .of_eq (h us hl)

def tCg (sp : SpG) (t : L2.TA) : TE := fun σ H Q => t σ H fun vs H1 => sp vs H1 Q
def tMg (C : Addr) (sp : SpG) (t : L2.TA) : TE := fun σ H Q => t σ H fun vs H1 => ∀ x dx, H1 x = none → H1 dx = none → dx ≠ x → sp (.ref x :: vs) (upd (upd H1 dx (.own x)) x (.ins C dx [])) (fun v H2 => v = .non ∧ Q (.ref x) H2)

theorem pe_callG (F : FnG X.prog X.w X.K X.mg X.base k f fd ps sp) (hr : Room k X.A) (gd : X.A.guards = some []) (gl : L2.Gl X x) (hm : X.mg x = some (.ref f)) (hk : PySem.W.keepIn X.K (.ref f) = true) (hb : All fd ps)
    (ha : L2.PA X (e :: es) t) (nd : (x == ("__debug__" : Str)) = false) (he : PySem.starEach (e :: es) X.env = (false, PySem.eval e X.env) :: PySem.starEach es X.env)
    (hp : (PySem.backTo pos (PySem.starEach es X.env)).any (·.1) = false) : L2.PE X (.Call (.Name x p) (e :: es) [] pos) (tCg sp t) := by
  constructor
  intro pins s σ H Q I h
  refine PySem.wpAny_Call_Name_kw (L2.ld_glob I gl hm ?_ nd)
  refine PySem.W.callWith_K (h₀ := X.base) I.ok.mod.kin hk ?_ he hp
  refine L2.thn (ha.run pos pins s σ H _ I h) fun us z hz => ?_
  obtain ⟨vs, H1, J, r, q⟩ := hz
  refine ⟨J.kIn, ?_⟩
  exact run_g (args := ⟨us, []⟩) F hr gd J (hb.to (by rw [← r.length]; exact F.len _ _ _ q)) r q
theorem pe_call0G (F : FnG X.prog X.w X.K X.mg X.base k f fd ps sp) (hr : Room k X.A) (gd : X.A.guards = some []) (gl : L2.Gl X x) (hm : X.mg x = some (.ref f)) (hk : PySem.W.keepIn X.K (.ref f) = true) (hb : All fd ps)
    (nd : (x == ("__debug__" : Str)) = false) : L2.PE X (.Call (.Name x p) [] [] pos) (tCg sp L2.tNil) := by
  constructor
  intro pins s σ H Q I h
  refine PySem.wpAny_Call_Name_kw (L2.ld_glob I gl hm ?_ nd)
  refine PySem.W.callWith_K0 I.kIn hk ?_
  exact run_g (us := []) (args := ⟨[], []⟩) F hr gd I (hb.to (by rw [← F.len _ _ _ h]; rfl)) .nil h

/-- a new instance: its place, then its def -/
theorem make_g (M : L2.Mk X.K C f) (F : FnG X.prog X.w X.K X.mg X.base k f fd ps sp) (hr : Room (k + 1) X.A) (gd : X.A.guards = some []) (I : Inv X pins σ H s) (r : Vals vs args.pos)
    {us : List Value} {ws : List V} {a : Addr} (ea : a = s.heap.objs.size + 1)
    (hb : ∀ s' : Shared, X.K.In s'.heap → BindsTo s' fd ⟨.ref a :: args.pos, args.kw⟩ (ps.zip us)) (rw' : Vals ws us)
    (h : sp ws (upd (upd H s.heap.objs.size (.own a)) a (.ins C s.heap.objs.size [])) (fun v H2 => v = .non ∧ Q (.ref a) H2)) :
    wpAny (model X.prog X.w) X.A (PySem.call (.ref C) args.pos args.kw) (EP X pins σ Q) X.xe s := by
  subst ea
  have J := L2.Inv.made (C := C) I
  refine PySem.wpAny_call (L2.make_map (f := f) I.kIn M.makes M.init (beq_iff_eq.mp M.fn) ?_)
  have go := F.run _ X.stack _ _ ⟨Value.ref (s.heap.objs.size + 1) :: args.pos, args.kw⟩ us ws _ (hr.make C args.pos args.kw) gd (J.env0.make C args.pos args.kw) (hb _ J.kIn) rw' h
  refine PySem.codeAny_mono go fun r z q => ?_
  obtain ⟨u, rfl, q⟩ := q
  obtain ⟨v, H', J3, rv, ev, q3⟩ := J.after q
  subst ev
  exact ⟨rv, V.ref (s.heap.objs.size + 1), H', J3, rfl, q3⟩
theorem pe_makeG (M : L2.Mk X.K C f) (F : FnG X.prog X.w X.K X.mg X.base k f fd ps sp) (hr : Room (k + 1) X.A) (gd : X.A.guards = some []) (gl : L2.Gl X x) (hm : X.mg x = some (.ref C)) (hb : All fd ps)
    (ha : L2.PA X (e :: es) t) (nd : (x == ("__debug__" : Str)) = false) (he : PySem.starEach (e :: es) X.env = (false, PySem.eval e X.env) :: PySem.starEach es X.env)
    (hp : (PySem.backTo pos (PySem.starEach es X.env)).any (·.1) = false) : L2.PE X (.Call (.Name x p) (e :: es) [] pos) (tMg C sp t) := by
  constructor
  intro pins s σ H Q I h
  refine PySem.wpAny_Call_Name_kw (L2.ld_glob I gl hm ?_ nd)
  refine PySem.W.callWith_K (h₀ := X.base) I.ok.mod.kin M.kp ?_ he hp
  refine L2.thn (ha.run pos pins s σ H _ I h) fun us z hz => ?_
  obtain ⟨vs, H1, J, r, q⟩ := hz
  have q1 := q (z.heap.objs.size + 1) z.heap.objs.size (J.hok.fresh (Nat.le_succ _)) (J.hok.fresh (Nat.le_refl _)) (Nat.ne_of_lt (Nat.lt_succ_self _))
  refine ⟨J.kIn, ?_⟩
  have r1 : Vals (V.ref (z.heap.objs.size + 1) :: vs) (Value.ref (z.heap.objs.size + 1) :: us) := .cons rfl r
  exact make_g (args := ⟨us, []⟩) M F hr gd J r rfl (fun s' _ => hb.to (by rw [← r1.length]; exact F.len _ _ _ q1)) r1 q1
/-! ### keywords -/
theorem pick_vals : ∀ {is : List Nat} {vs : List V} {us : List Value} {b : List V}, Vals vs us → pick vs is = some b → ∃ a, pick us is = some a ∧ Vals b a
  | [], vs, us, b, _, h => by simp only [pick] at h; cases h; exact ⟨[], rfl, .nil⟩
  | i :: r, vs, us, b, hv, h => by
    simp only [pick] at h
    split at h
    · rename_i x l h1 h2
      cases h
      obtain ⟨u, hu, ru⟩ := Vals.get hv h1
      obtain ⟨a, ha, ra⟩ := pick_vals hv h2
      exact ⟨u :: a, by simp only [pick, hu, ha], .cons ru ra⟩
    · cases h
theorem arrange_vals {cps ks : List String} {vs zs b : List V} {us ws : List Value} (r : Vals vs us) (rz : Vals zs ws) (h : arrange cps vs ks zs = some b) : ∃ a, arrange cps us ks ws = some a ∧ Vals b a := by
  unfold arrange at h ⊢
  rw [r.length, rz.length] at h
  split at h
  · rename_i hc
    rw [if_pos hc]
    obtain ⟨is, h1, h2⟩ := Option.bind_eq_some_iff.mp h
    obtain ⟨l, h3, rfl⟩ := Option.map_eq_some_iff.mp h2
    obtain ⟨a, ha, ra⟩ := pick_vals rz h3
    exact ⟨us ++ a, by rw [h1]; simp [ha], r.append ra⟩
  · cases h
/-- how n arguments by position and some by name bind -/
def AllK (fd : FuncData) (ps : List Str) (cps : List String) (m n : Nat) (ks : List String) : Prop := ∀ us ws : List Value, us.length = n + m → ws.length = ks.length → ∃ a, arrange cps (us.drop m) ks ws = some a ∧ PySem.bindArgs fd ⟨us, (ks.map sx).zip ws⟩ = pure (ps.zip (us.take m ++ a))
def tCKg (cps ks : List String) (n : Nat) (sp : SpG) (t tk : L2.TA) : TE := fun σ H Q => t σ H fun vs H1 => tk σ H1 fun zs H2 => vs.length = n ∧ zs.length = ks.length ∧ ∀ b, arrange cps vs ks zs = some b → sp b H2 Q
def tMKg (C : Addr) (cps ks : List String) (n : Nat) (sp : SpG) (t tk : L2.TA) : TE := fun σ H Q => t σ H fun vs H1 => tk σ H1 fun zs H2 => vs.length = n ∧ zs.length = ks.length ∧ ∀ b, arrange cps vs ks zs = some b → ∀ x dx, H2 x = none → H2 dx = none → dx ≠ x → sp (.ref x :: b) (upd (upd H2 dx (.own x)) x (.ins C dx [])) (fun v H3 => v = .non ∧ Q (.ref x) H3)
theorem arrange_back {cps kn : List String} {vs zs : List V} {us ws a : List Value} (r : Vals vs us) (rz : Vals zs ws) (h1 : arrange cps us kn ws = some a) : ∃ b, arrange cps vs kn zs = some b ∧ Vals b a := by
  have key : ∀ {is : List Nat} {zs : List V} {ws a : List Value}, Vals zs ws → pick ws is = some a → ∃ b, pick zs is = some b ∧ Vals b a := by
    intro is
    induction is with
    | nil => intro zs ws a _ h; simp only [pick] at h; cases h; exact ⟨[], rfl, .nil⟩
    | cons i r ih =>
      intro zs ws a hv h
      simp only [pick] at h
      split at h
      · rename_i x l e1 e2
        cases h
        obtain ⟨b, hb1, hb2⟩ := ih hv e2
        have hlt := (List.getElem?_eq_some_iff.mp e1).1
        have hz : zs[i]? = some (zs[i]'(by rw [hv.length]; exact hlt)) := List.getElem?_eq_getElem _
        obtain ⟨u, hu, ru⟩ := Vals.get hv hz
        rw [e1] at hu; cases hu
        exact ⟨_ :: b, by simp only [pick, hz, hb1], .cons ru hb2⟩
      · cases h
  unfold arrange at h1 ⊢
  rw [← r.length, ← rz.length] at h1
  split at h1
  · rename_i hc
    rw [if_pos hc]
    obtain ⟨is, e1, e2⟩ := Option.bind_eq_some_iff.mp h1
    obtain ⟨l, e3, rfl⟩ := Option.map_eq_some_iff.mp e2
    obtain ⟨b, hb1, hb2⟩ := key rz e3
    exact ⟨vs ++ b, by rw [e1]; simp [hb1], r.append hb2⟩
  · cases h1
section
variable {cps kn : List String} {kws : List Keyword} {m : Nat}
theorem callK_fin (F : FnG X.prog X.w X.K X.mg X.base k f fd ps sp) (hr : Room k X.A) (gd : X.A.guards = some []) (hb : AllK fd ps cps 0 m kn) (hkw : L2.PK X kws tk) (hks : (PySem.backToKw pos (PySem.keywordEach kws X.env)).filterMap (·.1) = kn.map sx)
    {s1 : Shared} {H1 : Hp} {us : List Value} {vs : List V} (I1 : Inv X pins σ H1 s1) (r : Vals vs us) (q : tk σ H1 (fun zs H2 => vs.length = m ∧ zs.length = kn.length ∧ ∀ b, arrange cps vs kn zs = some b → sp b H2 Q)) :
    wpAny (model X.prog X.w) X.A (PySem.evalAll ((PySem.backToKw pos (PySem.keywordEach kws X.env)).map (·.2))) (fun ws s2 => X.K.In s2.heap ∧ wpAny (model X.prog X.w) X.A (PySem.call (.ref f) ([] ++ us) (((PySem.backToKw pos (PySem.keywordEach kws X.env)).filterMap (·.1)).zip ws)) (EP X pins σ Q) X.xe s2) X.xe s1 := by
  refine L2.thn (hkw.run pos pins s1 σ H1 _ I1 q) fun ws s2 hz => ?_
  obtain ⟨zs, H2, I2, rz, l1, l2, q2⟩ := hz
  refine ⟨I2.kIn, ?_⟩
  rw [hks, List.nil_append]
  obtain ⟨a, h1, h2⟩ := hb us ws (by rw [← r.length]; omega) (by rw [← rz.length]; exact l2)
  simp only [List.drop_zero, List.take_zero, List.nil_append] at h1 h2
  obtain ⟨b, b1, b2⟩ := arrange_back r rz h1
  exact run_g (args := ⟨us, (kn.map sx).zip ws⟩) F hr gd I2 (.of_eq h2) b2 (q2 b b1)
theorem makeK_fin (M : L2.Mk X.K C f) (F : FnG X.prog X.w X.K X.mg X.base k f fd ps sp) (hr : Room (k + 1) X.A) (gd : X.A.guards = some []) (hb : AllK fd ps cps 1 m kn) (hkw : L2.PK X kws tk) (hks : (PySem.backToKw pos (PySem.keywordEach kws X.env)).filterMap (·.1) = kn.map sx)
    {s1 : Shared} {H1 : Hp} {us : List Value} {vs : List V} (I1 : Inv X pins σ H1 s1) (r : Vals vs us)
    (q : tk σ H1 (fun zs H2 => vs.length = m ∧ zs.length = kn.length ∧ ∀ b, arrange cps vs kn zs = some b → ∀ x dx, H2 x = none → H2 dx = none → dx ≠ x → sp (.ref x :: b) (upd (upd H2 dx (.own x)) x (.ins C dx [])) (fun v H3 => v = .non ∧ Q (.ref x) H3))) :
    wpAny (model X.prog X.w) X.A (PySem.evalAll ((PySem.backToKw pos (PySem.keywordEach kws X.env)).map (·.2))) (fun ws s2 => X.K.In s2.heap ∧ wpAny (model X.prog X.w) X.A (PySem.call (.ref C) ([] ++ us) (((PySem.backToKw pos (PySem.keywordEach kws X.env)).filterMap (·.1)).zip ws)) (EP X pins σ Q) X.xe s2) X.xe s1 := by
  refine L2.thn (hkw.run pos pins s1 σ H1 _ I1 q) fun ws s2 hz => ?_
  obtain ⟨zs, H2, I2, rz, l1, l2, q2⟩ := hz
  refine ⟨I2.kIn, ?_⟩
  rw [hks, List.nil_append]
  have any := hb (.ref (s2.heap.objs.size + 1) :: us) ws (by rw [List.length_cons, ← r.length]; omega) (by rw [← rz.length]; exact l2)
  obtain ⟨a, h1, h2⟩ := any
  have h1' : arrange cps us kn ws = some a := h1
  obtain ⟨b, b1, b2⟩ := arrange_back r rz h1'
  have q1 := q2 b b1 (s2.heap.objs.size + 1) s2.heap.objs.size (I2.hok.fresh (Nat.le_succ _)) (I2.hok.fresh (Nat.le_refl _)) (Nat.ne_of_lt (Nat.lt_succ_self _))
  have r1 : Vals (V.ref (s2.heap.objs.size + 1) :: b) (Value.ref (s2.heap.objs.size + 1) :: a) := .cons rfl b2
  exact make_g (args := ⟨us, (kn.map sx).zip ws⟩) M F hr gd I2 r rfl (fun s' _ => .of_eq h2) r1 q1
variable (gl : L2.Gl X x) (nd : (x == ("__debug__" : Str)) = false) (hall : (PySem.backToKw pos (PySem.keywordEach kws X.env)).all (·.1.isSome) = true) (hks : (PySem.backToKw pos (PySem.keywordEach kws X.env)).filterMap (·.1) = kn.map sx)
include gl nd hall hks
theorem pe_callKG (F : FnG X.prog X.w X.K X.mg X.base k f fd ps sp) (hr : Room k X.A) (gd : X.A.guards = some []) (hm : X.mg x = some (.ref f)) (hk : PySem.W.keepIn X.K (.ref f) = true) (hb : AllK fd ps cps 0 m kn)
    (ha : L2.PA X (e :: es) t) (hkw : L2.PK X kws tk) (he : PySem.starEach (e :: es) X.env = (false, PySem.eval e X.env) :: PySem.starEach es X.env)
    (hpl : ((PySem.backTo pos (PySem.starEach (e :: es) X.env)).any (·.1) || (PySem.backToKw pos (PySem.keywordEach kws X.env)).any (·.1.isNone)) = false) : L2.PE X (.Call (.Name x p) (e :: es) kws pos) (tCKg cps kn m sp t tk) := by
  constructor
  intro pins s σ H Q I h
  refine PySem.wpAny_Call_Name_kw (L2.ld_glob I gl hm ?_ nd)
  refine PySem.W.callWith_KW (h₀ := X.base) I.ok.mod.kin hk hall (L2.thn (ha.run pos pins s σ H _ I h) fun us s1 hz => ?_) hpl he
  obtain ⟨vs, H1, I1, r, q⟩ := hz
  exact callK_fin F hr gd hb hkw hks I1 r q
theorem pe_callK0G (F : FnG X.prog X.w X.K X.mg X.base k f fd ps sp) (hr : Room k X.A) (gd : X.A.guards = some []) (hm : X.mg x = some (.ref f)) (hk : PySem.W.keepIn X.K (.ref f) = true) (hb : AllK fd ps cps 0 m kn)
    (hkw : L2.PK X kws tk) (hpl : ((PySem.backTo pos (PySem.starEach [] X.env)).any (·.1) || (PySem.backToKw pos (PySem.keywordEach kws X.env)).any (·.1.isNone)) = false) : L2.PE X (.Call (.Name x p) [] kws pos) (tCKg cps kn m sp L2.tNil tk) := by
  constructor
  intro pins s σ H Q I h
  refine PySem.wpAny_Call_Name_kw (L2.ld_glob I gl hm ?_ nd)
  exact PySem.W.callWith_KW0 (h₀ := X.base) I.ok.mod.kin hk hall (callK_fin F hr gd hb hkw hks I .nil h) hpl
theorem pe_makeKG (M : L2.Mk X.K C f) (F : FnG X.prog X.w X.K X.mg X.base k f fd ps sp) (hr : Room (k + 1) X.A) (gd : X.A.guards = some []) (hm : X.mg x = some (.ref C)) (hb : AllK fd ps cps 1 m kn)
    (ha : L2.PA X (e :: es) t) (hkw : L2.PK X kws tk) (he : PySem.starEach (e :: es) X.env = (false, PySem.eval e X.env) :: PySem.starEach es X.env)
    (hpl : ((PySem.backTo pos (PySem.starEach (e :: es) X.env)).any (·.1) || (PySem.backToKw pos (PySem.keywordEach kws X.env)).any (·.1.isNone)) = false) : L2.PE X (.Call (.Name x p) (e :: es) kws pos) (tMKg C cps kn m sp t tk) := by
  constructor
  intro pins s σ H Q I h
  refine PySem.wpAny_Call_Name_kw (L2.ld_glob I gl hm ?_ nd)
  refine PySem.W.callWith_KW (h₀ := X.base) I.ok.mod.kin M.kp hall (L2.thn (ha.run pos pins s σ H _ I h) fun us s1 hz => ?_) hpl he
  obtain ⟨vs, H1, I1, r, q⟩ := hz
  exact makeK_fin M F hr gd hb hkw hks I1 r q
theorem pe_makeK0G (M : L2.Mk X.K C f) (F : FnG X.prog X.w X.K X.mg X.base k f fd ps sp) (hr : Room (k + 1) X.A) (gd : X.A.guards = some []) (hm : X.mg x = some (.ref C)) (hb : AllK fd ps cps 1 m kn)
    (hkw : L2.PK X kws tk) (hpl : ((PySem.backTo pos (PySem.starEach [] X.env)).any (·.1) || (PySem.backToKw pos (PySem.keywordEach kws X.env)).any (·.1.isNone)) = false) : L2.PE X (.Call (.Name x p) [] kws pos) (tMKg C cps kn m sp L2.tNil tk) := by
  constructor
  intro pins s σ H Q I h
  refine PySem.wpAny_Call_Name_kw (L2.ld_glob I gl hm ?_ nd)
  exact PySem.W.callWith_KW0 (h₀ := X.base) I.ok.mod.kin M.kp hall (makeK_fin M F hr gd hb hkw hks I .nil h) hpl
end
/-! ### methods -/
theorem meth_eq {pl : PySem.Sem Bool} {env : PySem.Env} {kws : List Keyword} (h1 : PySem.attributeBase o m env (PySem.eval o env) = PySem.eval o env) (h2 : PySem.methodCallForm (es.length + kws.length) (PySem.backTo pos (PySem.starEach es env)) (PySem.backToKw pos (PySem.keywordEach kws env)) = true)
    (h3 : (apos.endLine == pos.line) = true) (hpl : pl = (do return (← PySem.importBound o env).getD true)) : PySem.eval (.Call (.Attribute o m apos) es kws pos) env = (do
      let ov ← PySem.eval o env
      PySem.standAt apos.atName
      let (f, first) ← PySem.holding [ov] (PySem.getMethod ov m pl)
      PySem.callWith pos f first (PySem.backTo pos (PySem.starEach es env)) (PySem.backToKw pos (PySem.keywordEach kws env))) := by
  subst hpl
  show (do
    let ov ← PySem.attributeBase o m env (PySem.eval o env)
    PySem.standAt apos.atName
    PySem.methodCall o m apos pos env ov (es.length + kws.length) (PySem.backTo pos (PySem.starEach es env)) (PySem.backToKw pos (PySem.keywordEach kws env))) = _
  rw [h1]
  unfold PySem.methodCall PySem.calleeOf PySem.methodCallPos
  simp only [h2, h3, if_true, Bool.not_true, Bool.false_or, pure_bind]
theorem pe_methG (he : L2.PE X o ta) (hc : L2.Cls X.K C) (hm : L2.Meth X.K C m f) (F : FnG X.prog X.w X.K X.mg X.base k f fd ps sp) (hr : Room k X.A) (gd : X.A.guards = some []) (hb : All fd ps) (ha : L2.PA X (e :: es) t)
    (hst : PySem.starEach (e :: es) X.env = (false, PySem.eval e X.env) :: PySem.starEach es X.env) (hpl : (PySem.backTo pos (PySem.starEach es X.env)).any (·.1) = false)
    (h1 : PySem.attributeBase o m X.env (PySem.eval o X.env) = PySem.eval o X.env) (h2 : PySem.methodCallForm ((e :: es).length + 0) (PySem.backTo pos (PySem.starEach (e :: es) X.env)) (PySem.backToKw pos (PySem.keywordEach [] X.env)) = true) (h3 : (apos.endLine == pos.line) = true) :
    L2.PE X (.Call (.Attribute o m apos) (e :: es) [] pos) (fun σ H Q => ta σ H fun x H1 => ∃ a dx fs, x = .ref a ∧ H1 a = some (.ins C dx fs) ∧ fs.lookup m = none ∧ t σ H1 fun vs H2 => sp (x :: vs) H2 Q) := by
  constructor
  intro pins s σ H Q I h
  refine PySem.W.methodCall_KW (L2.thn (he.run pins s σ H _ I h) fun u s1 hz => ?_) (meth_eq h1 h2 h3 rfl)
  obtain ⟨x, H1, I1, rx, a, dx, fs, ex, ea, l, q⟩ := hz
  subst ex
  obtain rfl : u = Value.ref a := rx
  refine L2.getmeth_ok I1 ea hc hm l ?_
  refine PySem.W.callWith_K (first := [.ref a]) (h₀ := X.base) I.ok.mod.kin hm.kp (L2.thn (ha.run pos pins s1 σ H1 _ I1 q) fun us s2 hz => ?_) hst hpl
  obtain ⟨vs, H2, I2, r, q2⟩ := hz
  refine ⟨I2.kIn, ?_⟩
  have r1 : Vals (V.ref a :: vs) (Value.ref a :: us) := .cons rfl r
  exact run_g (us := .ref a :: us) (args := ⟨.ref a :: us, []⟩) F hr gd I2 (hb.to (by rw [← r1.length]; exact F.len _ _ _ q2)) r1 q2
theorem pe_meth0G (he : L2.PE X o ta) (hc : L2.Cls X.K C) (hm : L2.Meth X.K C m f) (F : FnG X.prog X.w X.K X.mg X.base k f fd ps sp) (hr : Room k X.A) (gd : X.A.guards = some []) (hb : All fd ps)
    (h1 : PySem.attributeBase o m X.env (PySem.eval o X.env) = PySem.eval o X.env) (h3 : (apos.endLine == pos.line) = true) :
    L2.PE X (.Call (.Attribute o m apos) [] [] pos) (fun σ H Q => ta σ H fun x H1 => ∃ a dx fs, x = .ref a ∧ H1 a = some (.ins C dx fs) ∧ fs.lookup m = none ∧ sp [x] H1 Q) := by
  constructor
  intro pins s σ H Q I h
  refine PySem.W.methodCall_KW (L2.thn (he.run pins s σ H _ I h) fun u s1 hz => ?_) (meth_eq h1 (by rfl) h3 rfl)
  obtain ⟨x, H1, I1, rx, a, dx, fs, ex, ea, l, q⟩ := hz
  subst ex
  obtain rfl : u = Value.ref a := rx
  refine L2.getmeth_ok I1 ea hc hm l ?_
  have r1 : Vals [V.ref a] [Value.ref a] := .cons rfl .nil
  exact PySem.W.callWith_K0 (first := [.ref a]) I1.kIn hm.kp (run_g (us := [.ref a]) (args := ⟨[.ref a], []⟩) F hr gd I1 (hb.to (by rw [← r1.length]; exact F.len _ _ _ q)) r1 q)
theorem pe_methNo (he : L2.PE X o ta) (h1 : PySem.attributeBase o m X.env (PySem.eval o X.env) = PySem.eval o X.env) (h2 : PySem.methodCallForm (es.length + 0) (PySem.backTo pos (PySem.starEach es X.env)) (PySem.backToKw pos (PySem.keywordEach [] X.env)) = true) (h3 : (apos.endLine == pos.line) = true) :
    L2.PE X (.Call (.Attribute o m apos) es [] pos) (fun σ H Q => ta σ H fun _ _ => False) := by
  constructor
  intro pins s σ H Q I h
  refine PySem.W.methodCall_KW (L2.thn (he.run pins s σ H _ I h) fun u s1 hz => ?_) (meth_eq h1 h2 h3 rfl)
  obtain ⟨x, H1, I1, rx, hf⟩ := hz
  exact hf.elim
end
end Dk
end
/-! Snd7 -/
section
set_option linter.all false
set_option maxRecDepth 100000
set_option maxHeartbeats 1000000
/-! Readings of code, operands, calls of defs. -/
namespace Dk
open PySem (Str Addr Heap Value Shared sizeLine)
open L2 (V Hp HO upd Rd SqL SqT Key St VK TE)

section
variable (K : Kx) (cad : String → Option Addr) (W : Addr → Prop)
/-- the reading of code that comes to d -/
def rE (c : CE) (E : Env) (S : Sto) (d : D) (fl : Fl) (E' : Env) (S' : Sto) : TE := fun σ H Q => ∃ ρ X, EOk K cad W ρ X E S σ H ∧
  ∀ ρ' X' H' v, Post W ρ X H ρ' X' H' → EOk K cad W ρ' X' E' S' σ H' → VRes K cad W ρ' X' E' σ H H' d v fl → (∀ i, c = .loc i → σ[i]? = some (some v)) → Q v H'
def rB (E : Env) (S : Sto) (b : Bool) (E' : Env) (S' : Sto) : L2.TT := fun σ H Q => ∃ ρ X, EOk K cad W ρ X E S σ H ∧
  ∀ ρ' X' H', Post W ρ X H ρ' X' H' → EOk K cad W ρ' X' E' S' σ H' → Q b H'
/-- values that are told: shared ones, and what an own name holds -/
def VRs (ρ : List Addr) (X : Addr → Prop) (E : Env) (σ : St) (H : Hp) : List (D × Fl) → List V → Prop
  | [], vs => vs = []
  | x :: xs, vs => ∃ v r, vs = v :: r ∧ (match x.2 with | .v => Rep K cad X ρ H x.1 v | .p => ∃ i : Nat, E[i]? = some (some (x.1, true)) ∧ σ[i]? = some (some v) | .f => False) ∧ VRs ρ X E σ H xs r
def rA (E : Env) (S : Sto) (l : List (D × Fl)) (E' : Env) (S' : Sto) : L2.TA := fun σ H Q => ∃ ρ X, EOk K cad W ρ X E S σ H ∧
  ∀ ρ' X' H' vs, Post W ρ X H ρ' X' H' → EOk K cad W ρ' X' E' S' σ H' → VRs K cad ρ' X' E' σ H' l vs → Q vs H'
/-- an operand that waits -/
def Held (ρ : List Addr) (X : Addr → Prop) (H : Hp) (σ : St) (c : CE) (x : D × Fl) (v : V) : Prop :=
  match x.2 with
  | .p => ∀ i, c = .loc i → σ[i]? = some (some v)
  | _ => Rep K cad X ρ H x.1 v
end

section
variable {K : Kx} {cad : String → Option Addr} {W : Addr → Prop} {ρ ρ1 ρ2 : List Addr} {X X1 X2 : Addr → Prop} {E E1 E2 : Env} {S S1 S2 : Sto} {σ : St} {H H1 H2 : Hp} {c : CE} {x y : D × Fl} {v : V} {d : D} {fl : Fl}
theorem VRes.base (u : ∀ a, H1 a = none → H a = none) (r : VRes K cad W ρ X E σ H1 H2 d v fl) : VRes K cad W ρ X E σ H H2 d v fl := by
  cases fl with
  | v => exact r
  | p => exact r
  | f =>
    obtain ⟨p, a, b, c, d, e, f, g⟩ := r
    exact ⟨p, a, b, c, d, e, u p f, g⟩
theorem hold (po : Post W ρ X H ρ1 X1 H1) (ok : EOk K cad W ρ1 X1 E1 S1 σ H1) (r : VRes K cad W ρ1 X1 E1 σ H H1 x.1 v x.2) (l : ∀ i, c = .loc i → σ[i]? = some (some v)) :
    ∃ X', Post W ρ X H ρ1 X' H1 ∧ EOk K cad W ρ1 X' E1 S1 σ H1 ∧ Held K cad ρ1 X' H1 σ c x v := by
  obtain ⟨d, fl⟩ := x
  cases fl with
  | v => exact ⟨X1, po, ok, r⟩
  | p => exact ⟨X1, po, ok, l⟩
  | f =>
    obtain ⟨X', a, b, c⟩ := r.toV ok po
    exact ⟨X', a, b, c⟩
theorem Held.later (h : Held K cad ρ1 X1 H1 σ c x v) (po : Post W ρ1 X1 H1 ρ2 X2 H2) : Held K cad ρ2 X2 H2 σ c x v := by
  obtain ⟨d, fl⟩ := x
  cases fl with
  | v => exact Rep.post h po
  | p => exact h
  | f => exact Rep.post h po
theorem Held.now (h : Held K cad ρ1 X1 H1 σ c x v) (e : rf c x E1 = some y) : VRes K cad W ρ1 X1 E1 σ H H1 y.1 v y.2 := by
  obtain ⟨d, fl⟩ := x
  cases fl with
  | v => simp only [rf] at e; cases e; exact h
  | f => simp only [rf] at e; cases e; exact h
  | p =>
    simp only [rf] at e
    split at e
    · rename_i i
      split at e
      · cases e
        exact ⟨i, by assumption, h i rfl⟩
      · cases e
    · cases e
theorem rb_lookC (ok : SOk K cad W ρ X S H) {d : D} (h : Rb K cad X ρ H d v) : Rb K cad X ρ H (lookC d S) v := by
  unfold lookC
  split
  · rename_i n
    split
    · rename_i l hs
      rcases h with h | ⟨p, _, h⟩
      · simp only [Rep] at h
        obtain ⟨p, rfl, hp⟩ := h
        exact .inr ⟨p, rfl, ok.cells n (.lst l) p hs hp⟩
      · simp only [Cont] at h
    · exact h
  · exact h
theorem VRs.later : ∀ {l : List (D × Fl)} {vs : List V}, (∀ x ∈ l, x.2 = .v) → VRs K cad ρ1 X1 E1 σ H1 l vs → ∀ (po : Post W ρ1 X1 H1 ρ2 X2 H2), VRs K cad ρ2 X2 E2 σ H2 l vs
  | [], vs, _, h, _ => by simp only [VRs] at h ⊢; exact h
  | (d, fl) :: l, vs, a, h, po => by
    simp only [VRs] at h ⊢
    obtain ⟨v, r, e, h, q⟩ := h
    have := a _ List.mem_cons_self
    subst this
    exact ⟨v, r, e, Rep.post h po, VRs.later (fun x m => a x (List.mem_cons_of_mem _ m)) q po⟩
theorem VRs.reps : ∀ {l : List (D × Fl)} {m : List D} {vs : List V}, notP l = some m → VRs K cad ρ X E σ H l vs → Reps K cad X ρ H m vs
  | [], m, vs, e, h => by
    simp only [notP, List.all_nil, if_true, List.map_nil] at e
    cases e
    simp only [VRs] at h
    subst h
    exact Reps.nil
  | (d, fl) :: l, m, vs, e, h => by
    simp only [VRs] at h
    obtain ⟨v, r, rfl, h, q⟩ := h
    unfold notP at e
    split at e
    · rename_i ha
      cases e
      rw [List.all_cons, Bool.and_eq_true] at ha
      obtain ⟨h1, h2⟩ := ha
      refine Reps.cons ?_ (VRs.reps (by unfold notP; rw [if_pos h2]) q)
      cases fl with
      | v => exact h
      | f => exact h.elim
      | p => simp at h1
    · cases e
theorem VRs.rbs (ok : EOk K cad W ρ X E S σ H) : ∀ {l : List (D × Fl)} {vs : List V}, VRs K cad ρ X E σ H l vs → Rbs K cad X ρ H (l.map (·.1)) vs
  | [], vs, h => by simp only [VRs] at h; subst h; simp only [List.map_nil, Rbs]
  | (d, fl) :: l, vs, h => by
    simp only [VRs] at h
    obtain ⟨v, r, rfl, h, q⟩ := h
    simp only [List.map_cons, Rbs]
    refine ⟨v, r, rfl, ?_, VRs.rbs ok q⟩
    cases fl with
    | v => exact .inl h
    | f => exact h.elim
    | p => exact VRes.rb (fl := .p) (H0 := H) h ok

/-! ### defs -/
/-- what a callee may not touch -/
def Wof (ρ : List Addr) (X : Addr → Prop) : Addr → Prop := fun a => X a ∧ a ∉ ρ
theorem wof_ok (ok : SOk K cad W ρ X S H) : SOk K cad (Wof ρ X) ρ X S H :=
  ⟨ok.len, ok.cells, fun p h => ⟨(ok.cX p h).1, fun q => q.2 h⟩, ok.nd, fun a h => h.1, ok.dom⟩
/-- how the value of a call lies -/
def CRes (K : Kx) (cad : String → Option Addr) (W : Addr → Prop) (ρ : List Addr) (X : Addr → Prop) (H0 H : Hp) (d : D) (v : V) : Fl → Prop
  | .v => Rep K cad X ρ H d v
  | .f => ∃ p, v = .ref p ∧ Cont K cad X ρ H p d ∧ X p ∧ ¬ W p ∧ p ∉ ρ ∧ H0 p = none
  | .p => False
theorem EOk.call (ok : EOk K cad W ρ X E S σ H) (po : Post (Wof ρ X) ρ X H ρ1 X1 H1) (s : SOk K cad (Wof ρ X) ρ1 X1 S1 H1) :
    Post W ρ X H ρ1 X1 H1 ∧ EOk K cad W ρ1 X1 E S1 σ H1 := by
  have wo : ∀ a, W a → Wof ρ X a := fun a h => ⟨ok.wx a h, fun q => (ok.cX a q).2 h⟩
  have nw : ∀ p, p ∈ ρ1 → ¬ W p := fun p h q => by
    rcases po.new p h with z | z
    · exact (ok.cX p z).2 q
    · obtain ⟨o, e⟩ := ok.dom p (ok.wx p q)
      rw [e] at z; cases z
  refine ⟨⟨po.pre, po.new, po.go, fun a o h => po.kp a o (wo a h), po.up⟩, ⟨⟨s.len, s.cells, fun p h => ⟨(s.cX p h).1, nw p h⟩, s.nd, fun a h => s.wx a (wo a h), s.dom⟩, fun i d h => ?_, fun i d h => ?_, ok.sep, ok.ln⟩⟩
  · obtain ⟨v, a, b⟩ := ok.val i d h
    exact ⟨v, a, b.post po⟩
  · obtain ⟨p, a, b, x, w, r⟩ := ok.own i d h
    have pw : Wof ρ X p := ⟨x, r⟩
    refine ⟨p, a, b.mono po.go po.pre (fun o e => po.kp p o pw e), s.wx p pw, w, fun q => ?_⟩
    rcases po.new p q with z | z
    · exact r z
    · obtain ⟨o, e⟩ := b.there
      rw [e] at z; cases z
theorem CRes.to (ok : EOk K cad W ρ X E S σ H) (po : Post (Wof ρ X) ρ X H ρ1 X1 H1) (r : CRes K cad (Wof ρ X) ρ1 X1 H H1 d v fl) : VRes K cad W ρ1 X1 E σ H H1 d v fl := by
  cases fl with
  | v => exact r
  | p => exact r.elim
  | f =>
    obtain ⟨p, rfl, c, x, w, m, n⟩ := r
    refine ⟨p, rfl, c, x, fun q => ?_, m, n, fun i d h1 h2 => ?_⟩
    · obtain ⟨o, e⟩ := ok.dom p (ok.wx p q)
      rw [e] at n; cases n
    · obtain ⟨q, a, b, _⟩ := ok.own i d h1
      rw [h2] at a; cases a
      obtain ⟨o, e⟩ := b.there
      rw [e] at n; cases n
/-- a def's promise, by what the small language does -/
def spF (K : Kx) (cad : String → Option Addr) (P : Prg) (M : CM) (f : String) : SpG := fun vs H Q => ∃ ρ X l S d fl S', Reps K cad X ρ H l vs ∧ SOk K cad (Wof ρ X) ρ X S H ∧ M.call f l S = some (.ok (d, fl), S') ∧ (∃ c, P.fn f = some c ∧ l.length = c.ps.length) ∧
  ∀ ρ' X' H' v, Post (Wof ρ X) ρ X H ρ' X' H' → SOk K cad (Wof ρ X) ρ' X' S' H' → CRes K cad (Wof ρ X) ρ' X' H H' d v fl → Q v H'
def spM (K : Kx) (cad : String → Option Addr) (M : CM) (c : String) (C : Addr) (n : Nat) : SpG := fun ws H1 Q => ∃ H x dx vs, ws = .ref x :: vs ∧ H x = none ∧ H dx = none ∧ dx ≠ x ∧ H1 = upd (upd H dx (.own x)) x (.ins C dx []) ∧
  ∃ ρ X l S d S', Reps K cad X ρ H l vs ∧ SOk K cad (Wof ρ X) ρ X S H ∧ M.make c l S = some (.ok d, S') ∧ l.length + 1 = n ∧
  ∀ ρ' X' H', Post (Wof ρ X) ρ X H ρ' X' H' → SOk K cad (Wof ρ X) ρ' X' S' H' → Rep K cad X' ρ' H' d (.ref x) → Q .non H'
end

/-! ### what a body may lean on -/
/-- what a class without an __init__ must have to be made -/
structure Mk0 (K : Kx) (C : Addr) : Prop where
  makes : PySem.W.makesIn K C = true
  init : PySem.W.findIn K (.ref C) "__init__" = some (some (.builtin "object.__init__"))
  kp : PySem.W.keepIn K (.ref C) = true
  top : PySem.W.mroIn K C (.type "object") = some true
structure Wd (P : Prg) (M : CM) (cad : String → Option Addr) (k : Nat) (cc : Cc) (pr : PySem.Program) (w : PySem.World) (K : Kx) (mg : Str → Option Value) (base : Heap) : Prop where
  shw : P.shw = shwPy
  gl : ∀ x d, P.gl x = some d → ∃ v u, mg (sx x) = some u ∧ L2.RelV v u ∧ ∀ ρ X H, Rep K cad X ρ H d v
  bi : ∀ x, x ∈ "isinstance" :: "range" :: "enumerate" :: "zip" :: "repr" :: (builtins ++ types) → mg (sx x) = none
  fn : ∀ x, x ∈ cc.defs → ∃ f fd ps, mg (sx x) = some (.ref f) ∧ PySem.W.keepIn K (.ref f) = true ∧ All fd ps ∧ FnG pr w K mg base k f fd ps (spF K cad P M x)
  cl : ∀ c, c ∈ cc.clss → ∃ C f fd ps, cad c = some C ∧ mg (sx c) = some (.ref C) ∧ L2.Cls K C ∧ L2.Mk K C f ∧ All fd ps ∧ FnG pr w K mg base k f fd ps (spM K cad M c C ps.length) ∧ ∀ l S r, M.make c l S = some r → l.length + 1 = ps.length
  ln : ∀ f l S r, M.call f l S = some r → ∃ c, P.fn f = some c ∧ l.length = c.ps.length
  kw : ∀ x n ks, (x, n, ks) ∈ cc.kws → x ∈ cc.defs → ∃ f fd ps c, mg (sx x) = some (.ref f) ∧ PySem.W.keepIn K (.ref f) = true ∧ P.fn x = some c ∧ AllK fd ps c.ps 0 n ks ∧ FnG pr w K mg base k f fd ps (spF K cad P M x)
  kwc : ∀ x n ks, (x, n, ks) ∈ cc.kws → x ∈ cc.clss → ∃ C f fd ps kc y c, cad x = some C ∧ mg (sx x) = some (.ref C) ∧ L2.Mk K C f ∧ P.cl x = some kc ∧ kc.init = some y ∧ P.fn y = some c ∧ AllK fd ps (c.ps.drop 1) 1 n ks ∧ FnG pr w K mg base k f fd ps (spM K cad M x C ps.length) ∧ ∀ l S r, M.make x l S = some r → l.length + 1 = ps.length
  mt : ∀ c kc C m q, m ∈ cc.mts → P.cl c = some kc → cad c = some C → kc.meths.lookup m = some q → ∃ f fd ps, L2.Meth K C (sx m) f ∧ All fd ps ∧ FnG pr w K mg base k f fd ps (spF K cad P M q)
  at_ : ∀ c kc C, P.cl c = some kc → cad c = some C → L2.Cls K C ∧ ∀ f, f ∈ kc.flds → L2.NoAttr K C (sx f)
  tyc : ∀ c C, cad c = some C → (P.cl c).isSome → L2.Cls K C ∧ PySem.W.findIn K (.ref C) "__class__" = some (some (.builtin "object.__class__")) ∧
    PySem.W.specialIn K (.builtin "object.__class__") "__get__" = some (some (.builtin "getset_descriptor.__get__")) ∧ PySem.W.takesIn K (.builtin "object.__class__") = some true ∧ PySem.W.mroIn K C (.type "object") = some true
  isb : ∀ a c T, a ∈ ["NoneType", "bool", "int", "str", "tuple", "list", "dict"] → c ∈ cc.clss → cad c = some T → PySem.W.kitOne K (.type a) (.ref T) = some false
  isc : ∀ c C t, cad c = some C → (P.cl c).isSome → t ∈ types → PySem.W.kitOne K (.ref C) (.type t) = some false
  isi : ∀ c C t T, cad c = some C → cad t = some T → t ∈ cc.clss → ∀ kc, P.cl c = some kc → PySem.W.kitOne K (.ref C) (.ref T) = some (c == t || kc.above.contains t)
  pr : ∀ c kc C f q, ("@" ++ f) ∈ cc.mts → P.cl c = some kc → cad c = some C → kc.props.lookup f = some q → ∃ p fn fd ps, L2.Cls K C ∧ L2.PropOf K C (sx f) p fn ∧ All fd ps ∧ FnG pr w K mg base k fn fd ps (spF K cad P M q)
  mk0 : ∀ c, ("!" ++ c) ∈ cc.mts → ∃ C, cad c = some C ∧ mg (sx c) = some (.ref C) ∧ Mk0 K C
structure Gd (P : Prg) (M : CM) (cad : String → Option Addr) (k : Nat) (cc : Cc) (sc : PySem.Scope) (X : L2.Cx) : Prop where
  wd : Wd P M cad k cc X.prog X.w X.K X.mg X.base
  nm : X.N = cc.N
  nd : cc.N.Nodup
  calm : X.calm = true
  gu : X.A.guards = some []
  room : L2.Room (k + 1) X.A
  vis : ∀ x, isVis sc x = true → L2.Vis X.env.scope x
  gl : ∀ x, isGl sc x = true → L2.Gl X x
  free : ∀ x, (sc.names.lookup x = some .cell ∨ sc.names.lookup x = some .free) → X.env.scope.names.lookup x = some .cell ∨ X.env.scope.names.lookup x = some .free
  loc : ∀ x, locIn sc x = true → L2.Loc X.env.scope x ∧ (X.fn x = true ∨ X.env.scope.names.lookup x = some .local)
end Dk
end
/-! Snd8 -/
section
set_option linter.all false
set_option maxRecDepth 100000
set_option maxHeartbeats 1000000
/-! Each form of the code keeps to its reading. -/
namespace Dk
open PySem (Str Addr Heap Value Shared sizeLine Expr Pos)
open L2 (V Hp HO upd Rd SqL SqT Key St VK TE PE PT PW PA)

section
variable {P : Prg} {M : CM} {cad : String → Option Addr} {k : Nat} {cc : Cc} {sc : PySem.Scope} {X : L2.Cx} {W : Addr → Prop} {E E' : Env} {S S' : Sto} {d : D} {fl : Fl} {σ : St} {H : Hp} {Q : VK} {e e1 e2 e3 : Expr} {a b c : CE} {pos : Pos} {n : Nat}
abbrev SoundE (P : Prg) (M : CM) (cad : String → Option Addr) (X : L2.Cx) (e : Expr) (c : CE) : Prop := ∀ (W : Addr → Prop) (E : Env) (S : Sto) (d : D) (fl : Fl) (E' : Env) (S' : Sto), ev P M.call M.make c E S = some (.ok (d, fl), E', S') → PE X e (rE X.K cad W c E S d fl E' S')
abbrev SoundT (P : Prg) (M : CM) (cad : String → Option Addr) (X : L2.Cx) (e : Expr) (c : CE) : Prop := ∀ (W : Addr → Prop) (E : Env) (S : Sto) (t : Bool) (E' : Env) (S' : Sto), tst P M.call M.make c E S = some (.ok t, E', S') → PT X e (rB X.K cad W E S t E' S')
abbrev SoundA (P : Prg) (M : CM) (cad : String → Option Addr) (X : L2.Cx) (e : List Expr) (c : CEs) : Prop := ∀ (W : Addr → Prop) (E : Env) (S : Sto) (l : List (D × Fl)) (E' : Env) (S' : Sto), evs P M.call M.make c E S = some (.ok l, E', S') → PA X e (rA X.K cad W E S l E' S')

theorem Gd.hu (g : Gd P M cad k cc sc X) : X.A.units + 65 < PySem.cLine := by have := g.room.un; omega

theorem rE_pure {v : V} {c : CE} (h : rE X.K cad W c E S d .v E S σ H Q) (r : ∀ ρ Y, EOk X.K cad W ρ Y E S σ H → Rep X.K cad Y ρ H d v) (nl : ∀ i, c ≠ .loc i) : Q v H := by
  obtain ⟨ρ, Y, ok, q⟩ := h
  exact q _ _ _ _ Post.refl ok (r ρ Y ok) (fun i e => absurd e (nl i))

theorem s_const {v : V} (hp : PE X e (L2.tC v)) (r : ∀ ρ Y H, Rep X.K cad Y ρ H d v) : SoundE P M cad X e (.k d) := by
  intro W E S d' fl E' S' h
  simp only [ev] at h
  cases h
  exact PE.sub hp fun σ H Q z => rE_pure z (fun ρ Y _ => r ρ Y H) (fun i e => by cases e)
theorem s_loc {x : Str} {i : Nat} (g : Gd P M cad k cc sc X) (hx : cc.N[i]? = some x) (hv : isVis sc x = true) (ho : okNm x = true) : SoundE P M cad X (.Name x pos) (.loc i) := by
  intro W E S d' fl E' S' h
  simp only [ev] at h
  have ho' : (x == ("__debug__" : Str)) = false ∧ (x == ("__classdict__" : Str)) = false := by
    unfold okNm at ho
    simp only [Bool.and_eq_true, Bool.not_eq_true'] at ho
    exact ⟨ho.1.1, ho.1.2⟩
  refine PE.sub (L2.pe_var (i := i) (by rw [g.nm]; exact hx) (g.vis x hv) ho'.1 ho'.2) fun σ H Q z => ?_
  obtain ⟨ρ, Y, ok, q⟩ := z
  split at h
  · rename_i d o he
    cases h
    cases o with
    | false =>
      obtain ⟨v, a, b⟩ := ok.val i _ he
      exact ⟨v, a, q _ _ _ _ Post.refl ok b (fun j e => by cases e; exact a)⟩
    | true =>
      obtain ⟨p, a, b⟩ := ok.own i _ he
      exact ⟨.ref p, a, q _ _ _ _ Post.refl ok ⟨i, he, a⟩ (fun j e => by cases e; exact a)⟩
  · cases h
theorem s_glob {x : Str} {y : String} (g : Gd P M cad k cc sc X) (hx : nmOf x = some y) (hv : isGl sc x = true) (ho : okNm x = true) : SoundE P M cad X (.Name x pos) (.glob y) := by
  intro W E S d' fl E' S' h
  simp only [ev] at h
  have ho' : (x == ("__debug__" : Str)) = false := by
    unfold okNm at ho
    simp only [Bool.and_eq_true, Bool.not_eq_true'] at ho
    exact ho.1.1
  have hs : sx y = x := by
    unfold nmOf at hx
    split at hx
    · cases hx; assumption
    · cases hx
  split at h
  · rename_i d hg
    cases h
    obtain ⟨v, u, a, b, r⟩ := g.wd.gl y _ hg
    rw [hs] at a
    exact PE.sub (L2.pe_glob (g.gl x hv) a b ho') fun σ H Q z => rE_pure z (fun ρ Y _ => r ρ Y H) (fun i e => by cases e)
  · cases h

theorem s_bin {op : PySem.Operator} {o : Bop} (g : Gd P M cad k cc sc X) (ho : bopOf op = some o) (ha : SoundE P M cad X e1 a) (hb : SoundE P M cad X e2 b) : SoundE P M cad X (.BinOp e1 op e2 pos) (.bin o a b) := by
  intro W E S d fl E' S' h
  simp only [ev] at h
  obtain ⟨x, E1, S1, h1, h⟩ := bnd_ok h
  obtain ⟨y, E2, S2, h2, h⟩ := bnd_ok h
  obtain ⟨x', hx, h⟩ := opt_ok h
  obtain ⟨r, hr, h⟩ := opt_ok h
  cases h
  have eo : op = opr o := by cases op <;> simp only [bopOf] at ho <;> first | (cases ho; rfl) | cases ho
  subst eo
  refine PE.sub (L2.pe_op (op_bin o cad) (ha W _ _ _ _ _ _ h1) (hb W _ _ _ _ _ _ h2)) fun σ H Q z => ?_
  obtain ⟨ρ, Y, ok, q⟩ := z
  refine ⟨ρ, Y, ok, fun ρ1 Y1 H1 v1 p1 ok1 r1 l1 => ?_⟩
  obtain ⟨Y1', p1', ok1', hd⟩ := hold p1 ok1 r1 l1
  refine ⟨ρ1, Y1', ok1', fun ρ2 Y2 H2 v2 p2 ok2 r2 l2 => ?_⟩
  have b1 := rb_lookC ok2.toSOk (((hd.later p2).now (W := W) (H := H) hx).rb ok2)
  have b2 := rb_lookC ok2.toSOk (r2.rb ok2)
  refine ⟨ρ2, Y2, _, _, d, fl, ok2.dom, b1, b2, hr, fun v H' nr => ?_⟩
  obtain ⟨Y3, p3, ok3, r3⟩ := nr.to ok2
  have po := (p1'.trans p2).trans p3
  exact q _ _ _ _ po ok3 (r3.base (p1'.trans p2).up) (fun i e => by cases e)
theorem s_neg (g : Gd P M cad k cc sc X) (ha : SoundE P M cad X e1 a) : SoundE P M cad X (.UnaryOp .USub e1 pos) (.neg a) := by
  intro W E S d fl E' S' h
  simp only [ev] at h
  obtain ⟨x, E1, S1, h1, h⟩ := bnd_ok h
  split at h
  · rename_i i hi
    cases h
    refine PE.sub (L2.pe_un L2.un_neg (ha W _ _ _ _ _ _ h1)) fun σ H Q z => ?_
    obtain ⟨ρ, Y, ok, q⟩ := z
    refine ⟨ρ, Y, ok, fun ρ1 Y1 H1 v1 p1 ok1 r1 l1 => ?_⟩
    have b1 := r1.rb ok1
    rw [hi] at b1
    obtain rfl := rb_int b1
    exact ⟨i, rfl, q _ _ _ _ p1 ok1 (by simp only [VRes, Rep]) (fun i e => by cases e)⟩
  · cases h
/-- the truth of a value -/
theorem truth_of {ρ : List Addr} {Y : Addr → Prop} {v : V} {t : Bool} (h : Rb X.K cad Y ρ H d v) (e : truth d = some t) : L2.TruV X.K v H t := by
  cases d <;> simp only [truth] at e
  · cases e; obtain rfl := rb_non h; rfl
  · cases e; obtain rfl := rb_bl h; rfl
  · cases e; obtain rfl := rb_int h; rfl
  · split at e
    · cases e
      obtain rfl := rb_str h
      refine ⟨by rw [st_len]; exact Nat.le_trans (by assumption) lim_line, ?_⟩
      rw [st_len]
      rename_i s _
      cases s <;> simp
      omega
    · cases e
  · cases e
    obtain ⟨p, vs, rfl, a, b⟩ := rb_tup h
    refine .inr (.inl ⟨vs, a, ?_⟩)
    have := b.length
    rename_i l
    cases l <;> cases vs <;> simp_all
  · cases e
    obtain ⟨p, vs, rfl, a, b⟩ := rb_lst h
    refine .inl ⟨vs, a.sq, ?_⟩
    have := b.length
    rename_i l
    cases l <;> cases vs <;> simp_all
  all_goals cases e
theorem s_truth (ha : SoundE P M cad X e c) (hw : ∀ whole : PySem.Sem Value, PySem.isTrue e X.env whole = (do let v ← whole; PySem.standAt e.pos; PySem.holding [v] (PySem.truthy v))) {t : Bool} {x : D × Fl} {E1 : Env} {S1 : Sto}
    (h1 : ev P M.call M.make c E S = some (.ok x, E1, S1)) (ht : truth x.1 = some t) : PT X e (rB X.K cad W E S t E1 S1) := by
  refine PT.sub (L2.pt_truth (ha W _ _ _ _ _ _ h1) hw) fun σ H Q z => ?_
  obtain ⟨ρ, Y, ok, q⟩ := z
  exact ⟨ρ, Y, ok, fun ρ1 Y1 H1 v1 p1 ok1 r1 l1 => ⟨t, truth_of (r1.rb ok1) ht, q _ _ _ p1 ok1⟩⟩
theorem s_notV (g : Gd P M cad k cc sc X) (ha : SoundE P M cad X e1 a) : SoundE P M cad X (.UnaryOp .Not e1 pos) (.not a) := by
  intro W E S d fl E' S' h
  simp only [ev] at h
  obtain ⟨x, E1, S1, h1, h⟩ := bnd_ok h
  obtain ⟨t, ht, h⟩ := opt_ok h
  cases h
  refine PE.sub (L2.pe_notT (ha W _ _ _ _ _ _ h1)) fun σ H Q z => ?_
  obtain ⟨ρ, Y, ok, q⟩ := z
  exact ⟨ρ, Y, ok, fun ρ1 Y1 H1 v1 p1 ok1 r1 l1 => ⟨t, truth_of (r1.rb ok1) ht, q _ _ _ _ p1 ok1 (by simp only [VRes, Rep]) (fun i e => by cases e)⟩⟩
end
end Dk
end
/-! Snd9 -/
section
set_option linter.all false
set_option maxRecDepth 100000
set_option maxHeartbeats 1000000
namespace Dk
open PySem (Str Addr Heap Value Shared sizeLine Expr Pos)
open L2 (V Hp HO upd Rd SqL SqT Key St VK TE PE PT PW PA)

section
variable {P : Prg} {M : CM} {cad : String → Option Addr} {k : Nat} {cc : Cc} {sc : PySem.Scope} {X : L2.Cx} {W : Addr → Prop} {E E' : Env} {S S' : Sto} {d : D} {fl : Fl} {σ : St} {H : Hp} {Q : VK} {e e1 e2 e3 : Expr} {es : List Expr} {cs : CEs} {a b c : CE} {pos p : Pos} {n : Nat}

/-! ### comparisons -/
theorem cop_eq (op : PySem.CmpOp) : copr (copOf op) = op := by cases op <;> rfl
theorem cop_eqC (fx : List Nat) (tx : Bool) (op : PySem.CmpOp) : copr (copC fx tx op) = op := by
  cases op <;> simp only [copC] <;> first | rfl | (split <;> first | rfl | (split <;> rfl))
theorem cmp_sub {oc : Cop} {E1 E2 : Env} {S1 S2 : Sto} {x y x' : D × Fl} {r : Bool} (h1 : ev P M.call M.make a E S = some (.ok x, E1, S1)) (h2 : ev P M.call M.make b E1 S1 = some (.ok y, E2, S2)) (hx : rf a x E2 = some x') (hr : cmpD oc x'.1 y.1 = some r) {σ : St} {H : Hp} {Q : VK}
    (q : ∃ ρ Y, EOk X.K cad W ρ Y E S σ H ∧ ∀ ρ' Y' H', Post W ρ Y H ρ' Y' H' → EOk X.K cad W ρ' Y' E2 S2 σ H' → Q (.bl r) H') :
    L2.tOp (rCmp X.K cad oc) (rE X.K cad W a E S x.1 x.2 E1 S1) (rE X.K cad W b E1 S1 y.1 y.2 E2 S2) σ H Q := by
  obtain ⟨ρ, Y, ok, q⟩ := q
  refine ⟨ρ, Y, ok, fun ρ1 Y1 H1 v1 p1 ok1 r1 l1 => ?_⟩
  obtain ⟨Y1', p1', ok1', hd⟩ := hold p1 ok1 r1 l1
  refine ⟨ρ1, Y1', ok1', fun ρ2 Y2 H2 v2 p2 ok2 r2 l2 => ?_⟩
  exact ⟨ρ2, Y2, _, _, r, ((hd.later p2).now (W := W) (H := H) hx).rb ok2, r2.rb ok2, hr, q _ _ _ (p1'.trans p2) ok2⟩
theorem s_cmp {op : PySem.CmpOp} {oc : Cop} (ho : copr oc = op) (g : Gd P M cad k cc sc X) (hm : PySem.behindInMarks op e2 = false) (ha : SoundE P M cad X e1 a) (hb : SoundE P M cad X e2 b) :
    SoundE P M cad X (.Compare e1 [op] [e2] pos) (.cmp oc a b) ∧ SoundT P M cad X (.Compare e1 [op] [e2] pos) (.cmp oc a b) := by
  have rule : L2.OpR X (PySem.compareOp op) (rCmp X.K cad oc) := by
    have := op_cmp (X := X) oc cad g.hu
    rw [ho] at this
    exact this
  constructor
  · intro W E S d fl E' S' h
    simp only [ev, cmpO] at h
    obtain ⟨x, E1, S1, h1, h⟩ := bnd_ok h
    obtain ⟨y, E2, S2, h2, h⟩ := bnd_ok h
    obtain ⟨x', hx, h⟩ := opt_ok h
    obtain ⟨r, hr, h⟩ := opt_ok h
    cases h
    refine PE.sub (L2.pe_cmpR rule (ha W _ _ _ _ _ _ h1) (hb W _ _ _ _ _ _ h2) hm) fun σ H Q z => ?_
    obtain ⟨ρ, Y, ok, q⟩ := z
    exact cmp_sub h1 h2 hx hr ⟨ρ, Y, ok, fun ρ' Y' H' po ok' => q _ _ _ _ po ok' (by simp only [VRes, Rep]) (fun i e => by cases e)⟩
  · intro W E S t E' S' h
    simp only [tst, ev, cmpO] at h
    obtain ⟨z, E0, S0, h0, h⟩ := bnd_ok h
    obtain ⟨x, E1, S1, h1, h0⟩ := bnd_ok h0
    obtain ⟨y, E2, S2, h2, h0⟩ := bnd_ok h0
    obtain ⟨x', hx, h0⟩ := opt_ok h0
    obtain ⟨r, hr, h0⟩ := opt_ok h0
    cases h0
    obtain ⟨t', ht, h⟩ := opt_ok h
    simp only [truth] at ht
    cases ht
    cases h
    refine PT.sub (L2.pt_cmpR rule (ha W _ _ _ _ _ _ h1) (hb W _ _ _ _ _ _ h2) hm) fun σ H Q z => ?_
    obtain ⟨ρ, Y, ok, q⟩ := z
    exact cmp_sub h1 h2 hx hr ⟨ρ, Y, ok, fun ρ' Y' H' po ok' => ⟨_, rfl, q _ _ _ po ok'⟩⟩
theorem chain_sub {op op' : PySem.CmpOp} {t : Bool} {E3 : Env} {S3 : Sto}
    (h : ev P M.call M.make (.chain (copOf op) (copOf op') a b c) E S = some (.ok (d, fl), E3, S3)) :
    ∃ t, d = .bl t ∧ fl = .v ∧ ∃ (x y x' : D × Fl) (E1 E2 : Env) (S1 S2 : Sto) (y' : D) (r : Bool), ev P M.call M.make a E S = some (.ok x, E1, S1) ∧ ev P M.call M.make b E1 S1 = some (.ok y, E2, S2) ∧ rf a x E2 = some x' ∧ one y = some y' ∧ cmpD (copOf op) x'.1 y' = some r ∧
      (r = false → t = false ∧ E3 = E2 ∧ S3 = S2) ∧ (r = true → ∃ z : D × Fl, ev P M.call M.make c E2 S2 = some (.ok z, E3, S3) ∧ cmpD (copOf op') y' z.1 = some t) := by
  simp only [ev] at h
  obtain ⟨x, E1, S1, h1, h⟩ := bnd_ok h
  obtain ⟨y, E2, S2, h2, h⟩ := bnd_ok h
  obtain ⟨x', hx, h⟩ := opt_ok h
  obtain ⟨y', hy, h⟩ := opt_ok h
  obtain ⟨r, hr, h⟩ := opt_ok h
  cases r with
  | false =>
    cases h
    exact ⟨false, rfl, rfl, x, y, x', E1, _, S1, _, y', false, h1, h2, hx, hy, hr, fun _ => ⟨rfl, rfl, rfl⟩, fun z => by cases z⟩
  | true =>
    simp only [if_true] at h
    obtain ⟨z, E4, S4, h3, h⟩ := bnd_ok h
    obtain ⟨t, ht, h⟩ := opt_ok h
    cases h
    exact ⟨t, rfl, rfl, x, y, x', E1, E2, S1, S2, y', true, h1, h2, hx, hy, hr, (fun z => by cases z), fun _ => ⟨z, h3, ht⟩⟩
theorem s_chain {op op' : PySem.CmpOp} (g : Gd P M cad k cc sc X) (hm : PySem.behindInMarks op' e3 = false) (ha : SoundE P M cad X e1 a) (hb : SoundE P M cad X e2 b) (hc : SoundE P M cad X e3 c) :
    SoundE P M cad X (.Compare e1 [op, op'] [e2, e3] pos) (.chain (copOf op) (copOf op') a b c) ∧ SoundT P M cad X (.Compare e1 [op, op'] [e2, e3] pos) (.chain (copOf op) (copOf op') a b c) := by
  have rule : ∀ op, L2.OpR X (PySem.compareOp op) (rCmp X.K cad (copOf op)) := fun op => by
    have := op_cmp (X := X) (copOf op) cad g.hu
    rw [cop_eq] at this
    exact this
  have core : ∀ (W : Addr → Prop) (E : Env) (S : Sto) (t : Bool) (E3 : Env) (S3 : Sto) (x y x' : D × Fl) (E1 E2 : Env) (S1 S2 : Sto) (y' : D) (r : Bool), ev P M.call M.make a E S = some (.ok x, E1, S1) → ev P M.call M.make b E1 S1 = some (.ok y, E2, S2) → rf a x E2 = some x' → one y = some y' → cmpD (copOf op) x'.1 y' = some r →
      (r = false → t = false ∧ E3 = E2 ∧ S3 = S2) → ∀ z : D × Fl, (r = true → ev P M.call M.make c E2 S2 = some (.ok z, E3, S3) ∧ cmpD (copOf op') y' z.1 = some t) →
      ∀ tc : TE, (r = true → tc = rE X.K cad W c E2 S2 z.1 z.2 E3 S3) → ∀ σ H (Q : VK), (∃ ρ Y, EOk X.K cad W ρ Y E S σ H ∧ ∀ ρ' Y' H', Post W ρ Y H ρ' Y' H' → EOk X.K cad W ρ' Y' E3 S3 σ H' → Q (.bl t) H') →
      L2.tChain (rCmp X.K cad (copOf op)) (rCmp X.K cad (copOf op')) (rE X.K cad W a E S x.1 x.2 E1 S1) (rE X.K cad W b E1 S1 y.1 y.2 E2 S2) tc σ H Q := by
    intro W E S t E3 S3 x y x' E1 E2 S1 S2 y' r h1 h2 hx hy hr hf z hz tc htc σ H Q q
    obtain ⟨ρ, Y, ok, q⟩ := q
    refine ⟨ρ, Y, ok, fun ρ1 Y1 H1 v1 p1 ok1 r1 l1 => ?_⟩
    obtain ⟨Y1', p1', ok1', hd⟩ := hold p1 ok1 r1 l1
    refine ⟨ρ1, Y1', ok1', fun ρ2 Y2 H2 v2 p2 ok2 r2 l2 => ?_⟩
    have b1 := ((hd.later p2).now (W := W) (H := H) hx).rb ok2
    obtain ⟨Y2', p2', ok2', ry⟩ := VRes.share (d := y.1) (fl := y.2) hy r2 ok2 p2
    have b1 := ((hd.later p2').now (W := W) (H := H) hx).rb ok2'
    refine ⟨ρ2, Y2', _, _, r, b1, .inl ry, hr, r, rfl, ?_⟩
    cases r with
    | false =>
      obtain ⟨rfl, rfl, rfl⟩ := hf rfl
      exact q _ _ _ (p1'.trans p2') ok2'
    | true =>
      rw [if_pos rfl, htc rfl]
      refine ⟨ρ2, Y2', ok2', fun ρ3 Y3 H3 v3 p3 ok3 r3 l3 => ?_⟩
      exact ⟨ρ3, Y3, _, _, t, .inl (ry.post p3), r3.rb ok3, (hz rfl).2, q _ _ _ ((p1'.trans p2').trans p3) ok3⟩
  have hl : PySem.lastMarks [op, op'] [e2, e3] = false := hm
  have both : ∀ (W : Addr → Prop) (E : Env) (S : Sto) (d : D) (fl : Fl) (E3 : Env) (S3 : Sto), ev P M.call M.make (.chain (copOf op) (copOf op') a b c) E S = some (.ok (d, fl), E3, S3) →
      ∃ t, d = .bl t ∧ fl = .v ∧ ∃ (x y : D × Fl) (E1 E2 : Env) (S1 S2 : Sto) (tc : TE), PE X e1 (rE X.K cad W a E S x.1 x.2 E1 S1) ∧ PE X e2 (rE X.K cad W b E1 S1 y.1 y.2 E2 S2) ∧ PE X e3 tc ∧
        ∀ σ H (Q : VK), (∃ ρ Y, EOk X.K cad W ρ Y E S σ H ∧ ∀ ρ' Y' H', Post W ρ Y H ρ' Y' H' → EOk X.K cad W ρ' Y' E3 S3 σ H' → Q (.bl t) H') →
          L2.tChain (rCmp X.K cad (copOf op)) (rCmp X.K cad (copOf op')) (rE X.K cad W a E S x.1 x.2 E1 S1) (rE X.K cad W b E1 S1 y.1 y.2 E2 S2) tc σ H Q := by
    intro W E S d fl E3 S3 h
    obtain ⟨t, rfl, rfl, x, y, x', E1, E2, S1, S2, y', r, h1, h2, hx, hy, hr, hf, ht⟩ := chain_sub (t := true) h
    refine ⟨t, rfl, rfl, x, y, E1, E2, S1, S2, ?_⟩
    cases r with
    | false =>
      refine ⟨fun _ _ _ => False, ha W _ _ _ _ _ _ h1, hb W _ _ _ _ _ _ h2, ⟨fun _ _ _ _ _ _ z => z.elim⟩, ?_⟩
      exact core W E S t E3 S3 x y x' E1 E2 S1 S2 y' false h1 h2 hx hy hr hf x (fun z => by cases z) _ (fun z => by cases z)
    | true =>
      obtain ⟨z, hz1, hz2⟩ := ht rfl
      refine ⟨_, ha W _ _ _ _ _ _ h1, hb W _ _ _ _ _ _ h2, hc W _ _ _ _ _ _ hz1, ?_⟩
      exact core W E S t E3 S3 x y x' E1 E2 S1 S2 y' true h1 h2 hx hy hr hf z (fun _ => ⟨hz1, hz2⟩) _ (fun _ => rfl)
  constructor
  · intro W E S d fl E' S' h
    obtain ⟨t, rfl, rfl, x, y, E1, E2, S1, S2, tc, pa, pb, pc, sub⟩ := both W E S d fl E' S' h
    refine PE.sub (L2.pe_chain (rule op) (rule op') pa pb pc hl) fun σ H Q z => sub σ H Q ?_
    obtain ⟨ρ, Y, ok, q⟩ := z
    exact ⟨ρ, Y, ok, fun ρ' Y' H' po ok' => q _ _ _ _ po ok' (by simp only [VRes, Rep]) (fun i e => by cases e)⟩
  · intro W E S t E' S' h
    simp only [tst] at h
    obtain ⟨⟨d, fl⟩, E0, S0, h0, h⟩ := bnd_ok h
    obtain ⟨t', rfl, rfl, x, y, E1, E2, S1, S2, tc, pa, pb, pc, sub⟩ := both W E S d fl E0 S0 h0
    obtain ⟨t2, ht, h⟩ := opt_ok h
    simp only [truth] at ht
    cases ht
    cases h
    refine PT.sub (L2.pt_chain (rule op) (rule op') pa pb pc hl) fun σ H Q z => ?_
    obtain ⟨ρ, Y, ok, q⟩ := z
    exact sub σ H _ ⟨ρ, Y, ok, fun ρ' Y' H' po ok' => ⟨_, rfl, q _ _ _ po ok'⟩⟩

/-! ### choices -/
theorem s_ife {c : CE} (g : Gd P M cad k cc sc X) (hc : SoundT P M cad X e c) (ha : SoundE P M cad X e1 a) (hb : SoundE P M cad X e2 b) : SoundE P M cad X (.IfExp e e1 e2 pos) (.ife c a b) := by
  intro W E S d fl E' S' h
  simp only [ev] at h
  obtain ⟨t, E1, S1, h1, h⟩ := bnd_ok h
  have dead : ∀ e' : Expr, PE X e' (fun _ _ _ => False) := fun e' => ⟨fun _ _ _ _ _ _ z => z.elim⟩
  cases t with
  | true =>
    simp only [if_true] at h
    refine PE.sub (L2.pe_ifExp (hc W _ _ _ _ _ h1) (ha W _ _ _ _ _ _ h) (dead e2)) fun σ H Q z => ?_
    obtain ⟨ρ, Y, ok, q⟩ := z
    refine ⟨ρ, Y, ok, fun ρ1 Y1 H1 p1 ok1 => ?_⟩
    show rE X.K cad W a E1 S1 d fl E' S' σ H1 Q
    exact ⟨ρ1, Y1, ok1, fun ρ2 Y2 H2 v p2 ok2 r2 l2 => q _ _ _ _ (p1.trans p2) ok2 (r2.base p1.up) (fun i e => by cases e)⟩
  | false =>
    simp only [Bool.false_eq_true, if_false] at h
    refine PE.sub (L2.pe_ifExp (hc W _ _ _ _ _ h1) (dead e1) (hb W _ _ _ _ _ _ h)) fun σ H Q z => ?_
    obtain ⟨ρ, Y, ok, q⟩ := z
    refine ⟨ρ, Y, ok, fun ρ1 Y1 H1 p1 ok1 => ?_⟩
    show rE X.K cad W b E1 S1 d fl E' S' σ H1 Q
    exact ⟨ρ1, Y1, ok1, fun ρ2 Y2 H2 v p2 ok2 r2 l2 => q _ _ _ _ (p1.trans p2) ok2 (r2.base p1.up) (fun i e => by cases e)⟩

/-! ### displays -/
theorem s_nil : SoundA P M cad X [] .nil := by
  intro W E S l E' S' h
  simp only [evs] at h
  cases h
  refine PA.sub L2.pa_nil fun σ H Q z => ?_
  obtain ⟨ρ, Y, ok, q⟩ := z
  exact q _ _ _ _ Post.refl ok (by simp only [VRs])
theorem s_cons (hs : PySem.starEach (e :: es) X.env = (false, PySem.eval e X.env) :: PySem.starEach es X.env) (hn : cs = .nil → es = []) (ha : SoundE P M cad X e a) (hb : SoundA P M cad X es cs) : SoundA P M cad X (e :: es) (.cons a cs) := by
  intro W E S l E' S' h
  simp only [evs] at h
  obtain ⟨⟨d, fl⟩, E1, S1, h1, h⟩ := bnd_ok h
  have pa := ha W _ _ _ _ _ _ h1
  have more : ∀ (hfl : fl ≠ .p) (xs : List (D × Fl)), evs P M.call M.make cs E1 S1 = some (.ok xs, E', S') → PA X (e :: es) (rA X.K cad W E S ((d, .v) :: xs) E' S') := by
    intro hfl xs h2
    refine PA.sub (L2.pa_cons pa (hb W _ _ _ _ _ h2) hs) fun σ H Q z => ?_
    obtain ⟨ρ, Y, ok, q⟩ := z
    refine ⟨ρ, Y, ok, fun ρ1 Y1 H1 v1 p1 ok1 r1 l1 => ?_⟩
    have ho : one (d, fl) = some d := by unfold one; rw [if_neg hfl]
    obtain ⟨Y1', p1', ok1', rv⟩ := VRes.share ho r1 ok1 p1
    refine ⟨ρ1, Y1', ok1', fun ρ2 Y2 H2 vs p2 ok2 r2 => q _ _ _ _ (p1'.trans p2) ok2 ?_⟩
    simp only [VRs]
    exact ⟨v1, vs, rfl, rv.post p2, r2⟩
  cases fl with
  | v =>
    obtain ⟨xs, E2, S2, h2, h⟩ := bnd_ok h
    cases h
    exact more (by decide) xs h2
  | f =>
    obtain ⟨xs, E2, S2, h2, h⟩ := bnd_ok h
    cases h
    exact more (by decide) xs h2
  | p =>
    cases cs with
    | cons => cases h
    | star => cases h
    | nil =>
      obtain rfl := hn rfl
      cases h
      refine PA.sub (L2.pa_cons pa L2.pa_nil hs) fun σ H Q z => ?_
      obtain ⟨ρ, Y, ok, q⟩ := z
      refine ⟨ρ, Y, ok, fun ρ1 Y1 H1 v1 p1 ok1 r1 l1 => q _ _ _ _ p1 ok1 ?_⟩
      simp only [VRs]
      exact ⟨v1, [], rfl, r1, rfl⟩
theorem s_tup {n : Nat} (hl : es.length ≤ 1000) (hlen : ∀ (W : Addr → Prop) E S l E' S', evs P M.call M.make cs E S = some (.ok l, E', S') → l.length ≤ LIM + es.length) (ha : SoundA P M cad X es cs) : SoundE P M cad X (.Tuple es n pos) (.tup cs) := by
  intro W E S d fl E' S' h
  simp only [ev] at h
  obtain ⟨l, E1, S1, h1, h⟩ := bnd_ok h
  obtain ⟨m, hm, h⟩ := opt_ok h
  cases h
  refine PE.sub (L2.pe_tup (ha W _ _ _ _ _ h1)) fun σ H Q z => ?_
  obtain ⟨ρ, Y, ok, q⟩ := z
  refine ⟨ρ, Y, ok, fun ρ1 Y1 H1 vs p1 ok1 r1 => ?_⟩
  have rs := r1.reps hm
  have ll : m.length ≤ LIM + es.length := by
    have q9 := hlen W _ _ _ _ _ h1
    unfold notP at hm
    split at hm
    · cases hm; simpa using q9
    · cases hm
  refine ⟨by rw [rs.length, PySem.sizeLine_eq]; unfold LIM at ll; omega, fun p hp => ?_⟩
  exact q _ _ _ _ (p1.trans (Ex.new hp).post) (ok1.ex (Ex.new hp)) (rep_tup_new ok1.dom hp rs) (fun i e => by cases e)
theorem s_lst (hl : es.length ≤ 1000) (hlen : ∀ (W : Addr → Prop) E S l E' S', evs P M.call M.make cs E S = some (.ok l, E', S') → l.length ≤ LIM + es.length) (ha : SoundA P M cad X es cs) : SoundE P M cad X (.List es pos) (.lst cs) := by
  intro W E S d fl E' S' h
  simp only [ev] at h
  obtain ⟨l, E1, S1, h1, h⟩ := bnd_ok h
  obtain ⟨m, hm, h⟩ := opt_ok h
  cases h
  refine PE.sub (L2.pe_lst (ha W _ _ _ _ _ h1)) fun σ H Q z => ?_
  obtain ⟨ρ, Y, ok, q⟩ := z
  refine ⟨ρ, Y, ok, fun ρ1 Y1 H1 vs p1 ok1 r1 => ?_⟩
  have rs := r1.reps hm
  have ll : m.length ≤ LIM + es.length := by
    have q9 := hlen W _ _ _ _ _ h1
    unfold notP at hm
    split at hm
    · cases hm; simpa using q9
    · cases hm
  refine ⟨by rw [rs.length, PySem.sizeLine_eq]; unfold LIM at ll; omega, fun p hp => ?_⟩
  have nr : NRes X.K cad ρ1 Y1 H1 (.lst m) (.ref p) (upd H1 p (.lst vs)) .f := ⟨p, _, rfl, hp, rfl, rs⟩
  obtain ⟨Y3, p3, ok3, r3⟩ := nr.to ok1
  exact q _ _ _ _ (p1.trans p3) ok3 (r3.base p1.up) (fun i e => by cases e)
theorem s_dct : SoundE P M cad X (.Dict [] [] pos) (.dct .nil .nil) := by
  intro W E S d fl E' S' h
  simp only [ev] at h
  cases h
  refine PE.sub L2.pe_dnewK fun σ H Q z => ?_
  obtain ⟨ρ, Y, ok, q⟩ := z
  intro p hp
  have nr : NRes X.K cad ρ Y H (.dct []) (.ref p) (upd H p (.dK [])) .f := ⟨p, _, rfl, hp, rfl, by simp only [Made, RepK]⟩
  obtain ⟨Y3, p3, ok3, r3⟩ := nr.to ok
  exact q _ _ _ _ p3 ok3 r3 (fun i e => by cases e)
end
end Dk
end
/-! Snd10 -/
section
set_option linter.all false
set_option maxRecDepth 100000
set_option maxHeartbeats 1000000
/-! Attributes, items, parts, isinstance, calls. -/
namespace Dk
open PySem (Str Addr Heap Value Shared sizeLine Expr Pos)
open L2 (V Hp HO upd Rd SqL SqT Key St VK TE PE PT PW PA)

section
variable {P : Prg} {M : CM} {cad : String → Option Addr} {k : Nat} {cc : Cc} {sc : PySem.Scope} {X : L2.Cx} {W : Addr → Prop} {E E' : Env} {S S' : Sto} {d : D} {fl : Fl} {σ : St} {H : Hp} {Q : VK} {e e1 e2 e3 : Expr} {es : List Expr} {cs : CEs} {a b c : CE} {pos p : Pos} {n : Nat}

theorem nm_sx {x : Str} {y : String} (hx : nmOf x = some y) : x = sx y := by
  unfold nmOf at hx
  split at hx
  · cases hx
    rename_i h
    exact h.symm
  · cases hx

theorem s_idx (g : Gd P M cad k cc sc X) (hp : L2.PlainIx e2) (ha : SoundE P M cad X e1 a) (hb : SoundE P M cad X e2 b) : SoundE P M cad X (.Subscript e1 e2 pos) (.idx a b) := by
  intro W E S d fl E' S' h
  simp only [ev] at h
  obtain ⟨x, E1, S1, h1, h⟩ := bnd_ok h
  obtain ⟨y, E2, S2, h2, h⟩ := bnd_ok h
  obtain ⟨x', hx, h⟩ := opt_ok h
  obtain ⟨r, hr, h⟩ := opt_ok h
  cases h
  have hu := g.hu
  refine PE.sub (L2.pe_ix (ix_any cad (by omega)) (ha W _ _ _ _ _ _ h1) (hb W _ _ _ _ _ _ h2) hp) fun σ H Q z => ?_
  obtain ⟨ρ, Y, ok, q⟩ := z
  refine ⟨ρ, Y, ok, fun ρ1 Y1 H1 v1 p1 ok1 r1 l1 => ?_⟩
  obtain ⟨Y1', p1', ok1', hd⟩ := hold p1 ok1 r1 l1
  refine ⟨ρ1, Y1', ok1', fun ρ2 Y2 H2 v2 p2 ok2 r2 l2 => ?_⟩
  refine ⟨ρ2, Y2, _, _, _, rb_lookC ok2.toSOk (((hd.later p2).now (W := W) (H := H) hx).rb ok2), r2.rb ok2, hr, fun v rv => ?_⟩
  exact q _ _ _ _ (p1'.trans p2) ok2 rv (fun i e => by cases e)

/-! ### parts -/
/-- a bound's reading -/
def rO (K : Kx) (cad : String → Option Addr) (W : Addr → Prop) (E : Env) (S : Sto) (o : Option Int) (E' : Env) (S' : Sto) : L2.TO := fun σ H Q => ∃ ρ X, EOk K cad W ρ X E S σ H ∧
  ∀ ρ' X' H', Post W ρ X H ρ' X' H' → EOk K cad W ρ' X' E' S' σ H' → Q o H'
theorem po_sub {eo : Option Expr} {t t' : L2.TO} (h : L2.PO X eo t) (q : ∀ σ H Q, t' σ H Q → t σ H Q) : L2.PO X eo t' := ⟨fun pins s σ H Q I z => h.run pins s σ H Q I (q σ H Q z)⟩
abbrev SoundO (P : Prg) (M : CM) (cad : String → Option Addr) (X : L2.Cx) (e : Option Expr) (c : CE) : Prop := ∀ (W : Addr → Prop) (E : Env) (S : Sto) (x : D × Fl) (o : Option Int) (E' : Env) (S' : Sto), ev P M.call M.make c E S = some (.ok x, E', S') → boundO c x.1 = some o → L2.PO X e (rO X.K cad W E S o E' S')
theorem s_noPart : SoundO P M cad X none (.k .non) := by
  intro W E S x o E' S' h ho
  simp only [ev] at h
  cases h
  simp only [boundO] at ho
  cases ho
  exact po_sub L2.po_none fun σ H Q ⟨ρ, Y, ok, q⟩ => q _ _ _ Post.refl ok
theorem bound_int {o : Option Int} (h : boundO c d = some o) (hc : c ≠ .k .non) : ∃ i, d = .int i ∧ o = some i := by
  unfold boundO at h
  split at h
  · exact absurd rfl hc
  · cases h; exact ⟨_, rfl, rfl⟩
  · cases h
theorem s_part (hc : c ≠ .k .non) (ha : SoundE P M cad X e c) : SoundO P M cad X (some e) c := by
  intro W E S x o E' S' h ho
  refine po_sub (L2.po_some (ha W _ _ _ _ _ _ h)) fun σ H Q ⟨ρ, Y, ok, q⟩ => ?_
  refine ⟨ρ, Y, ok, fun ρ1 Y1 H1 v1 p1 ok1 r1 l1 => ?_⟩
  have b := r1.rb ok1
  obtain ⟨i, e1, rfl⟩ := bound_int ho hc
  rw [e1] at b
  obtain rfl := rb_int b
  exact ⟨_, rfl, q _ _ _ p1 ok1⟩
theorem clamp_eq (n m : Nat) (o : Option Int) : clamp n m o = HT.sIx n m o := by cases o <;> rfl
theorem Reps.cut {K : Kx} {cad : String → Option Addr} {ρ : List Addr} {Y : Addr → Prop} {H : Hp} {l : List D} {vs : List V} (h : Reps K cad Y ρ H l vs) (lo hi : Option Int) :
    Reps K cad Y ρ H (cutL l (clamp l.length 0 lo) (clamp l.length l.length hi)) (L2.cutV vs lo hi) := by
  unfold cutL L2.cutV
  rw [clamp_eq, clamp_eq, h.length]
  exact (h.drop _).take _
def rSl (K : Kx) (cad : String → Option Addr) : V → Option Int → Option Int → Hp → VK → Prop := fun x lo hi H Q => ∃ ρ Y d1 d fl, Dom Y H ∧ Rb K cad Y ρ H d1 x ∧ sliceD d1 lo hi = some (d, fl) ∧ ∀ v H', NRes K cad ρ Y H d v H' fl → Q v H'
theorem sl_any (cad : String → Option Addr) : L2.SlR X (rSl X.K cad) := by
  intro pins s σ H x v vl vu lo hi sl Q I rx hs pl pu h
  obtain ⟨ρ, Y, d1, d, fl, dom, hb, e, q⟩ := h
  unfold sliceD at e
  split at e
  · cases e
    obtain ⟨p, vs, rfl, a, b⟩ := rb_lst hb
    exact L2.sl_list pins s σ H _ v vl vu lo hi sl Q I rx hs pl pu ⟨p, vs, rfl, a.sq, fun p hp => q _ _ ⟨p, _, rfl, hp, rfl, b.cut lo hi⟩⟩
  · cases e
    have hb' := hb
    obtain ⟨p, vs, rfl, a, b⟩ := rb_tup hb
    refine L2.sl_tupA pins s σ H _ v vl vu lo hi sl Q I rx hs pl pu ⟨p, vs, rfl, a, fun z => ?_, fun z p hp => q _ _ ⟨Ex.new hp, rep_tup_new dom hp (b.cut lo hi)⟩⟩
    rename_i l
    have hl : cutL l (clamp l.length 0 lo) (clamp l.length l.length hi) = l := by
      rw [b.length] at z
      unfold cutL
      rw [clamp_eq, clamp_eq, z.1, z.2]
      simp
    refine q _ _ ⟨Ex.refl, ?_⟩
    rw [hl]
    exact rep_tup_of hb'
  · cases e
theorem s_sl {lo hi : Option Expr} {p2 : Pos} (g : Gd P M cad k cc sc X) (ha : SoundE P M cad X e1 a) (hb : SoundO P M cad X lo b) (hc : SoundO P M cad X hi c) : SoundE P M cad X (.Subscript e1 (.Slice lo hi none p2) pos) (.sl a b c) := by
  intro W E S d fl E' S' h
  simp only [ev] at h
  obtain ⟨x, E1, S1, h1, h⟩ := bnd_ok h
  obtain ⟨y, E2, S2, h2, h⟩ := bnd_ok h
  obtain ⟨z, E3, S3, h3, h⟩ := bnd_ok h
  obtain ⟨x', hx, h⟩ := opt_ok h
  obtain ⟨ol, hol, h⟩ := opt_ok h
  obtain ⟨oh, hoh, h⟩ := opt_ok h
  obtain ⟨r, hr, h⟩ := opt_ok h
  cases h
  refine PE.sub (L2.pe_slice (sl_any cad) (ha W _ _ _ _ _ _ h1) (hb W _ _ _ _ _ _ h2 hol) (hc W _ _ _ _ _ _ h3 hoh)) fun σ H Q z => ?_
  obtain ⟨ρ, Y, ok, q⟩ := z
  refine ⟨ρ, Y, ok, fun ρ1 Y1 H1 v1 p1 ok1 r1 l1 => ?_⟩
  obtain ⟨Y1', p1', ok1', hd⟩ := hold p1 ok1 r1 l1
  refine ⟨ρ1, Y1', ok1', fun ρ2 Y2 H2 p2 ok2 => ⟨ρ2, Y2, ok2, fun ρ3 Y3 H3 p3 ok3 => ?_⟩⟩
  refine ⟨ρ3, Y3, _, d, fl, ok3.dom, ((hd.later (p2.trans p3)).now (W := W) (H := H) hx).rb ok3, hr, fun v H' nr => ?_⟩
  obtain ⟨Y4, p4, ok4, r4⟩ := nr.to ok3
  have po := (p1'.trans p2).trans p3
  exact q _ _ _ _ (po.trans p4) ok4 (r4.base po.up) (fun i e => by cases e)

/-! ### built-in functions and defs -/
theorem s_bi {x : Str} {f : String} (g : Gd P M cad k cc sc X) (hx : nmOf x = some f) (hg : isGl sc x = true) (ho : okNm x = true) (hf : f ∈ builtins) (hne : es ≠ []) (hs : ∀ e r, es = e :: r → PySem.starEach (e :: r) X.env = (false, PySem.eval e X.env) :: PySem.starEach r X.env ∧ (PySem.backTo pos (PySem.starEach r X.env)).any (·.1) = false)
    (ha : SoundA P M cad X es cs) : SoundE P M cad X (.Call (.Name x p) es [] pos) (.bi f cs) := by
  intro W E S d fl E' S' h
  simp only [ev] at h
  obtain ⟨l, E1, S1, h1, h⟩ := bnd_ok h
  obtain ⟨r, hr, h⟩ := opt_ok h
  cases h
  obtain rfl := nm_sx hx
  have pa := ha W _ _ _ _ _ h1
  have nn : sx f ≠ ("__name__" : Str) := by
    unfold okNm at ho
    simp only [Bool.and_eq_true, Bool.not_eq_true', beq_eq_false_iff_ne] at ho
    exact ho.2
  have nd : (sx f == ("__debug__" : Str)) = false := by
    unfold okNm at ho
    simp only [Bool.and_eq_true, Bool.not_eq_true'] at ho
    exact ho.1.1
  have hm : X.mg (sx f) = none := g.wd.bi f (by simp [hf])
  have fin : ∀ σ H Q, rE X.K cad W (.bi f cs) E S d fl E' S' σ H Q → L2.tCB (rCall X.K cad f) (rA X.K cad W E S l E' S') σ H Q := by
    intro σ H Q ⟨ρ, Y, ok, q⟩
    refine ⟨ρ, Y, ok, fun ρ1 Y1 H1 vs p1 ok1 r1 => ?_⟩
    refine ⟨ρ1, Y1, _, d, fl, ok1.dom, r1.rbs ok1, hr, fun v H' nr => ?_⟩
    obtain ⟨Y4, p4, ok4, r4⟩ := nr.to ok1
    exact q _ _ _ _ (p1.trans p4) ok4 (r4.base p1.up) (fun i e => by cases e)
  obtain ⟨e, r, rfl⟩ := List.exists_cons_of_ne_nil hne
  obtain ⟨s1, s2⟩ := hs e r rfl
  have rule := call_any (X := X) f cad g.calm
  have gl := g.gl (sx f) hg
  have bt : (biV f = .type f ∧ PySem.bootBuiltins (sx f) = some (.type f)) ∨ (biV f = .builtin f ∧ PySem.bootBuiltins (sx f) = some (.builtin f)) := by
    revert hf
    unfold builtins
    simp only [List.mem_cons, List.not_mem_nil, or_false]
    rintro (rfl | rfl | rfl | rfl | rfl | rfl | rfl | rfl | rfl | rfl | rfl | rfl)
    all_goals first | exact .inr ⟨by decide, by rfl⟩ | exact .inl ⟨by decide, by rfl⟩
  rcases bt with ⟨b1, b2⟩ | ⟨b1, b2⟩
  · rw [b1] at rule
    exact PE.sub (L2.pe_callTy rule gl hm b2 pa nn nd s1 s2) fin
  · rw [b1] at rule
    exact PE.sub (L2.pe_callB rule gl hm b2 pa nn nd s1 s2) fin
theorem s_call {x : Str} {f : String} (g : Gd P M cad k cc sc X) (hx : nmOf x = some f) (hg : isGl sc x = true) (ho : okNm x = true) (hf : f ∈ cc.defs) (hne : es ≠ []) (hs : ∀ e r, es = e :: r → PySem.starEach (e :: r) X.env = (false, PySem.eval e X.env) :: PySem.starEach r X.env ∧ (PySem.backTo pos (PySem.starEach r X.env)).any (·.1) = false)
    (ha : SoundA P M cad X es cs) : SoundE P M cad X (.Call (.Name x p) es [] pos) (.call f cs) := by
  intro W E S d fl E' S' h
  simp only [ev] at h
  obtain ⟨l, E1, S1, h1, h⟩ := bnd_ok h
  obtain ⟨m, hm, h⟩ := opt_ok h
  obtain rfl := nm_sx hx
  have pa := ha W _ _ _ _ _ h1
  have nd : (sx f == ("__debug__" : Str)) = false := by
    unfold okNm at ho
    simp only [Bool.and_eq_true, Bool.not_eq_true'] at ho
    exact ho.1.1
  have hc : ∃ S2, M.call f m S1 = some (.ok (d, fl), S2) ∧ E' = E1 ∧ S' = S2 := by
    unfold callM at h
    split at h
    · cases h
      exact ⟨_, by assumption, rfl, rfl⟩
    · cases h
    · cases h
  obtain ⟨S2, hc, rfl, rfl⟩ := hc
  obtain ⟨ff, fd, ps, a1, a2, a3, a4⟩ := g.wd.fn f hf
  have fin : ∀ σ H Q, rE X.K cad W (.call f cs) E S d fl E' S' σ H Q → tCg (spF X.K cad P M f) (rA X.K cad W E S l E' S1) σ H Q := by
    intro σ H Q ⟨ρ, Y, ok, q⟩
    refine ⟨ρ, Y, ok, fun ρ1 Y1 H1 vs p1 ok1 r1 => ?_⟩
    refine ⟨ρ1, Y1, m, S1, d, fl, S', r1.reps hm, wof_ok ok1.toSOk, hc, g.wd.ln _ _ _ _ hc, fun ρ2 Y2 H2 v p2 s2 c2 => ?_⟩
    obtain ⟨p3, ok3⟩ := ok1.call p2 s2
    exact q _ _ _ _ (p1.trans p3) ok3 ((c2.to ok1 p2).base p1.up) (fun i e => by cases e)
  have room : L2.Room k X.A := g.room.mono (Nat.le_succ k)
  obtain ⟨e, r, rfl⟩ := List.exists_cons_of_ne_nil hne
  obtain ⟨s1, s2⟩ := hs e r rfl
  exact PE.sub (pe_callG a4 room g.gu (g.gl _ hg) a1 a2 a3 pa nd s1 s2) fin
theorem s_make {x : Str} {f : String} (g : Gd P M cad k cc sc X) (hx : nmOf x = some f) (hg : isGl sc x = true) (ho : okNm x = true) (hf : f ∈ cc.clss) (hne : es ≠ []) (hs : ∀ e r, es = e :: r → PySem.starEach (e :: r) X.env = (false, PySem.eval e X.env) :: PySem.starEach r X.env ∧ (PySem.backTo pos (PySem.starEach r X.env)).any (·.1) = false)
    (ha : SoundA P M cad X es cs) : SoundE P M cad X (.Call (.Name x p) es [] pos) (.make f cs) := by
  intro W E S d fl E' S' h
  simp only [ev] at h
  obtain ⟨l, E1, S1, h1, h⟩ := bnd_ok h
  obtain ⟨m, hm, h⟩ := opt_ok h
  obtain rfl := nm_sx hx
  have pa := ha W _ _ _ _ _ h1
  have nd : (sx f == ("__debug__" : Str)) = false := by
    unfold okNm at ho
    simp only [Bool.and_eq_true, Bool.not_eq_true'] at ho
    exact ho.1.1
  have hc : ∃ S2, M.make f m S1 = some (.ok d, S2) ∧ E' = E1 ∧ S' = S2 ∧ fl = .v := by
    unfold makeM at h
    split at h
    · cases h
      exact ⟨_, by assumption, rfl, rfl, rfl⟩
    · cases h
    · cases h
  obtain ⟨S2, hc, rfl, rfl, rfl⟩ := hc
  obtain ⟨C, ff, fd, ps, a1, a2, a3, a4, a5, a6, a7⟩ := g.wd.cl f hf
  have fin : ∀ σ H Q, rE X.K cad W (.make f cs) E S d .v E' S' σ H Q → tMg C (spM X.K cad M f C ps.length) (rA X.K cad W E S l E' S1) σ H Q := by
    intro σ H Q ⟨ρ, Y, ok, q⟩
    refine ⟨ρ, Y, ok, fun ρ1 Y1 H1 vs p1 ok1 r1 => fun x dx hx hdx hne => ?_⟩
    refine ⟨H1, x, dx, vs, rfl, hx, hdx, hne, rfl, ρ1, Y1, m, S1, d, S', r1.reps hm, wof_ok ok1.toSOk, hc, a7 _ _ _ hc, fun ρ2 Y2 H2 p2 s2 c2 => ?_⟩
    obtain ⟨p3, ok3⟩ := ok1.call p2 s2
    exact ⟨rfl, q _ _ _ _ (p1.trans p3) ok3 c2 (fun i e => by cases e)⟩
  obtain ⟨e, r, rfl⟩ := List.exists_cons_of_ne_nil hne
  obtain ⟨s1, s2⟩ := hs e r rfl
  exact PE.sub (pe_makeG a4 a6 g.room g.gu (g.gl _ hg) a2 a5 pa nd s1 s2) fin

/-! ### attributes -/
theorem sx_inj {f g : String} (h : sx f = sx g) : f = g := by
  have e : TL.tl (sx f) = TL.tl (sx g) := by rw [h]
  unfold sx at e
  rw [TL.tl_ofString, TL.tl_ofString] at e
  have q := (List.map_inj_right (fun a b h => Char.toNat_inj.mp h)).mp e
  exact String.toList_inj.mp q
theorem repf_look {K : Kx} {ρ : List Addr} {Y : Addr → Prop} {H : Hp} {f : String} {d : D} : ∀ {fs : List (String × D)} {gs : List (Str × V)}, RepF K cad Y ρ H fs gs → fs.lookup f = some d → ∃ v, gs.lookup (sx f) = some v ∧ Rep K cad Y ρ H d v
  | [], gs, h, e => by simp at e
  | (g, x) :: fs, gs, h, e => by
    simp only [RepF] at h
    obtain ⟨v, r, rfl, hv, q⟩ := h
    by_cases hg : f = g
    · subst hg
      rw [List.lookup_cons, beq_self_eq_true] at e
      cases e
      exact ⟨v, by rw [List.lookup_cons, beq_self_eq_true], hv⟩
    · rw [List.lookup_cons, beq_eq_false_iff_ne.mpr hg] at e
      have hn : (sx f == sx g) = false := beq_eq_false_iff_ne.mpr fun z => hg (sx_inj z)
      obtain ⟨v', a, b⟩ := repf_look q e
      exact ⟨v', by rw [List.lookup_cons, hn]; exact a, b⟩
theorem rb_ins {K : Kx} {ρ : List Addr} {Y : Addr → Prop} {H : Hp} {d : D} {v : V} {S : Sto} {c : String} {fs : List (String × D)} (ok : SOk K cad W ρ Y S H) (h : Rb K cad Y ρ H d v) (e : insC d S = some (c, fs)) :
    ∃ p C dx gs, v = .ref p ∧ cad c = some C ∧ H p = some (.ins C dx gs) ∧ RepF K cad Y ρ H fs gs := by
  cases d <;> simp only [insC] at e <;> first | (cases e; done) | skip
  · cases e
    rcases h with h | ⟨p, ep, h⟩
    · simp only [Rep] at h
      obtain ⟨p, C, dx, gs, a, b, c, d, e⟩ := h
      exact ⟨p, C, dx, gs, a, c, d, e⟩
    · simp only [Cont] at h
      obtain ⟨C, dx, gs, a, b, c⟩ := h
      exact ⟨p, C, dx, gs, ep, a, b, c⟩
  · rename_i n
    split at e
    · rename_i hs
      cases e
      rcases h with h | ⟨p, _, h⟩
      · simp only [Rep] at h
        obtain ⟨p, rfl, hp⟩ := h
        have := ok.cells n _ p hs hp
        simp only [CellC, Cont] at this
        obtain ⟨C, dx, gs, a, b, c⟩ := this
        exact ⟨p, C, dx, gs, rfl, a, b, c⟩
      · simp only [Cont] at h
    · cases e
theorem s_attr {x : Str} {f : String} (g : Gd P M cad k cc sc X) (hx : nmOf x = some f) (hb : PySem.attributeBase e x X.env (PySem.eval e X.env) = PySem.eval e X.env) (ha : SoundE P M cad X e a) : SoundE P M cad X (.Attribute e x pos) (.attr a f) := by
  intro W E S d fl E' S' h
  simp only [ev] at h
  obtain ⟨x1, E1, S1, h1, h⟩ := bnd_ok h
  obtain ⟨⟨c, fs⟩, hc, h⟩ := opt_ok h
  obtain ⟨kc, hk, h⟩ := opt_ok h
  obtain rfl := nm_sx hx
  cases hp : kc.props.lookup f with
  | some q => rw [hp] at h; cases h
  | none =>
  rw [hp] at h
  obtain ⟨d1, hd, h⟩ := opt_ok h
  cases h
  split at hd
  · rename_i hm
    refine PE.sub (L2.pe_fld (ha W _ _ _ _ _ _ h1) hb) fun σ H Q z => ?_
    obtain ⟨ρ, Y, ok, q⟩ := z
    refine ⟨ρ, Y, ok, fun ρ1 Y1 H1 v1 p1 ok1 r1 l1 => ?_⟩
    obtain ⟨p, C, dx, gs, rfl, a1, a2, a3⟩ := rb_ins ok1.toSOk (r1.rb ok1) hc
    obtain ⟨v, b1, b2⟩ := repf_look a3 hd
    obtain ⟨n1, n2⟩ := g.wd.at_ c kc C hk a1
    exact ⟨p, C, dx, gs, v, rfl, a2, n1, n2 f (by simpa using hm), b1, q _ _ _ _ p1 ok1 b2 (fun i e => by cases e)⟩
  · cases hd

/-! ### isinstance -/
theorem ty_of {K : Kx} {ρ : List Addr} {Y : Addr → Prop} {H : Hp} {d : D} {v : V} {t : String} {b : Bool} (ht : t ∈ types) (h : Rb K cad Y ρ H d v) (e : isTy d t = some b) : ∃ a, a ∈ ["NoneType", "bool", "int", "str", "tuple", "list", "dict"] ∧ L2.TyX K H v (.type a) ∧ PySem.W.kitOne K (.type a) (.type t) = some b := by
  have ht' := ht
  unfold types at ht'
  simp only [List.mem_cons, List.not_mem_nil, or_false] at ht'
  have key : ∀ a, (∀ t, t ∈ types → isTy d t = some b → L2.kitB a t = some b) → a ∈ ["NoneType", "bool", "int", "str", "tuple", "list", "dict"] → L2.TyX K H v (.type a) → ∃ a, a ∈ ["NoneType", "bool", "int", "str", "tuple", "list", "dict"] ∧ L2.TyX K H v (.type a) ∧ PySem.W.kitOne K (.type a) (.type t) = some b :=
    fun a h1 h2 h3 => ⟨a, h2, h3, L2.kit_ty (h1 t ht e)⟩
  have each : ∀ (a : String) (f : String → Bool), ((∀ t ∈ types, L2.kitB a t = some (f t))) → (∀ t, isTy d t = some (f t)) → (∀ t, t ∈ types → isTy d t = some b → L2.kitB a t = some b) := by
    intro a f h1 h2 t ht e
    rw [h2 t] at e
    cases e
    exact h1 t ht
  cases d with
  | non =>
    obtain rfl := rb_non h
    exact key "NoneType" (each _ (fun t => false) (by decide) (fun t => rfl)) (by decide) (.base .non)
  | bl x =>
    obtain rfl := rb_bl h
    exact key "bool" (each _ (fun t => (t == "bool" || t == "int")) (by decide) (fun t => rfl)) (by decide) (.base (.bl x))
  | int x =>
    obtain rfl := rb_int h
    exact key "int" (each _ (fun t => t == "int") (by decide) (fun t => rfl)) (by decide) (.base (.int x))
  | str x =>
    obtain rfl := rb_str h
    exact key "str" (each _ (fun t => t == "str") (by decide) (fun t => rfl)) (by decide) (.base (.str _))
  | tup l =>
    refine key "tuple" (each _ (fun t => t == "tuple") (by decide) (fun t => rfl)) (by decide) ?_
    rcases h with h | ⟨p, _, h⟩
    · simp only [Rep] at h
      obtain ⟨p, vs, rfl, h, _⟩ := h
      rcases h with ⟨_, h | ⟨u, h⟩⟩ | h
      · exact .base (.tup h)
      · exact .fTuple h
      · obtain ⟨o, its, n, a, b, _⟩ := h
        exact .kTuple a b
    · simp only [Cont] at h
  | lst l =>
    obtain ⟨p, vs, rfl, h, _⟩ := rb_lst h
    refine key "list" (each _ (fun t => t == "list") (by decide) (fun t => rfl)) (by decide) ?_
    rcases h with (h | ⟨u, h⟩) | ⟨its, n, h, _⟩
    · exact .base (.lst h)
    · exact .base (.frz h)
    · exact .kList h rfl
  | dct l =>
    obtain ⟨p, vs, rfl, h, _⟩ := rb_dct h
    refine key "dict" (each _ (fun t => t == "dict") (by decide) (fun t => rfl)) (by decide) ?_
    rcases h with h | ⟨o, h⟩
    · exact .base (.dK h)
    · exact .fDict h
  | _ => simp only [isTy] at e; cases e
end
end Dk
end
/-! Snd11 -/
section
set_option linter.all false
set_option maxRecDepth 100000
set_option maxHeartbeats 1000000
/-! isinstance, and, or. -/
namespace Dk
open PySem (Str Addr Heap Value Shared sizeLine Expr Pos)
open L2 (V Hp HO upd Rd SqL SqT Key St VK TE PE PT PW PA)

section
variable {P : Prg} {M : CM} {cad : String → Option Addr} {k : Nat} {cc : Cc} {sc : PySem.Scope} {X : L2.Cx} {W : Addr → Prop} {E E' : Env} {S S' : Sto} {d : D} {fl : Fl} {σ : St} {H : Hp} {Q : VK} {e e1 e2 e3 : Expr} {es : List Expr} {cs : CEs} {a b c : CE} {pos p : Pos} {n : Nat}

theorem okNm_n {x : Str} (ho : okNm x = true) : x ≠ ("__name__" : Str) := by
  unfold okNm at ho
  simp only [Bool.and_eq_true, Bool.not_eq_true', beq_eq_false_iff_ne] at ho
  exact ho.2
theorem okNm_d {x : Str} (ho : okNm x = true) : (x == ("__debug__" : Str)) = false := by
  unfold okNm at ho
  simp only [Bool.and_eq_true, Bool.not_eq_true'] at ho
  exact ho.1.1
theorem isTy_mem {d : D} {t : String} {b : Bool} (t0 : t ∈ types) (h : isTy d t = some b) {K : Kx} {ρ : List Addr} {Y : Addr → Prop} {H : Hp} {v : V} (r : Rb K cad Y ρ H d v) : ∃ a, a ∈ ["NoneType", "bool", "int", "str", "tuple", "list", "dict"] ∧ L2.TyX K H v (.type a) :=
  let ⟨a, m, x, _⟩ := ty_of t0 r h
  ⟨a, m, x⟩
theorem s_isi {x t : Str} {p2 : Pos} {ty : String} {own : Bool} (g : Gd P M cad k cc sc X) (hx : x = sx "isinstance") (hg : isGl sc x = true) (ht : nmOf t = some ty) (hgt : isGl sc t = true) (ho : okNm t = true)
    (hm : (own = false ∧ ty ∈ types) ∨ (own = true ∧ ty ∈ cc.clss)) (hs : PySem.starEach [e, Expr.Name t p2] X.env = (false, PySem.eval e X.env) :: PySem.starEach [Expr.Name t p2] X.env)
    (ha : SoundE P M cad X e a) : SoundE P M cad X (.Call (.Name x p) [e, .Name t p2] [] pos) (.isi a ty own) := by
  intro W E S d fl E' S' h
  simp only [ev] at h
  obtain ⟨x1, E1, S1, h1, h⟩ := bnd_ok h
  obtain ⟨r, hr, h⟩ := opt_ok h
  cases h
  subst hx
  obtain rfl := nm_sx ht
  have hmi : X.mg (sx "isinstance") = none := g.wd.bi "isinstance" (by simp)
  -- the class
  have cls : ∃ (cv : V) (cu : Value), L2.ClsV cv cu ∧ PE X (.Name (sx ty) p2) (L2.tC cv) ∧ ((own = false ∧ cu = .type ty) ∨ (own = true ∧ ∃ T, cad ty = some T ∧ cu = .ref T)) := by
    rcases hm with ⟨e1, e2⟩ | ⟨e1, e2⟩
    · refine ⟨.ty ty, .type ty, .ty ty, ?_, .inl ⟨e1, rfl⟩⟩
      have hb : PySem.bootBuiltins (sx ty) = some (.type ty) := by
        revert e2
        unfold types
        simp only [List.mem_cons, List.not_mem_nil, or_false]
        rintro (rfl | rfl | rfl | rfl | rfl | rfl) <;> rfl
      exact L2.pe_bltn (g.gl _ hgt) (g.wd.bi ty (by simp [e2])) hb rfl (okNm_n ho) (okNm_d ho)
    · obtain ⟨C, f, fd, ps, c1, c2, _⟩ := g.wd.cl ty e2
      exact ⟨.ref C, .ref C, .own C, L2.pe_glob (g.gl _ hgt) c2 rfl (okNm_d ho), .inr ⟨e1, C, c1, rfl⟩⟩
  obtain ⟨cv, cu, c1, c2, c3⟩ := cls
  refine PE.sub (L2.pe_callB L2.call_isi (g.gl _ hg) hmi (by rfl) (L2.pa_cons (ha W _ _ _ _ _ _ h1) (L2.pa_cons c2 L2.pa_nil (by rfl)) hs) (by decide) (by decide) hs (by rfl)) fun σ H Q z => ?_
  obtain ⟨ρ, Y, ok, q⟩ := z
  refine ⟨ρ, Y, ok, fun ρ1 Y1 H1 v1 p1 ok1 r1 l1 => ?_⟩
  have rb := r1.rb ok1
  have fin : ∀ tv : Value, L2.TyX X.K H1 v1 tv → PySem.W.kitOne X.K tv cu = some r → L2.rIsi X.K [v1, cv] H1 Q := fun tv h1 h2 => ⟨v1, cv, tv, cu, r, rfl, c1, h1, h2, q _ _ _ _ p1 ok1 (by simp only [VRes, Rep]) (fun i e => by cases e)⟩
  show L2.rIsi X.K [v1, cv] H1 Q
  unfold isiD at hr
  split at hr
  · rename_i c fs hi
    obtain ⟨p, C, dx, gs, rfl, a1, a2, a3⟩ := rb_ins ok1.toSOk rb hi
    have some_cl : (P.cl c).isSome := by
      cases hq : P.cl c with
      | some kc => rfl
      | none => rw [hq] at hr; cases own <;> simp at hr
    obtain ⟨t1, t2, t3, t4, t5⟩ := g.wd.tyc c C a1 some_cl
    refine fin (.ref C) (.base (.ins a2 t1 t2 t3 t4 t5)) ?_
    rcases c3 with ⟨rfl, rfl⟩ | ⟨rfl, T, b1, rfl⟩
    · simp only [Bool.false_eq_true, if_false, some_cl, if_true] at hr
      cases hr
      refine g.wd.isc c C ty a1 some_cl ?_
      rcases hm with ⟨_, h⟩ | ⟨h, _⟩
      · exact h
      · cases h
    · simp only [if_true] at hr
      obtain ⟨kc, k1, k2⟩ := Option.map_eq_some_iff.mp hr
      rw [← k2]
      refine g.wd.isi c C ty T a1 b1 ?_ kc k1
      rcases hm with ⟨h, _⟩ | ⟨_, h⟩
      · cases h
      · exact h
  · rcases c3 with ⟨rfl, rfl⟩ | ⟨rfl, T, b1, rfl⟩
    · simp only [Bool.false_eq_true, if_false] at hr
      have tm : ty ∈ types := by
        rcases hm with ⟨_, h⟩ | ⟨h, _⟩
        · exact h
        · cases h
      obtain ⟨a, _, h2, h3⟩ := ty_of tm rb hr
      exact fin _ h2 h3
    · simp only [if_true] at hr
      obtain ⟨b, k1, k2⟩ := Option.map_eq_some_iff.mp hr
      cases k2
      obtain ⟨a, h1, h2⟩ := isTy_mem (t := "int") (by decide) k1 rb
      refine fin _ h2 (g.wd.isb a ty T h1 ?_ b1)
      rcases hm with ⟨h, _⟩ | ⟨_, h⟩
      · cases h
      · exact h

/-! ### and, or -/
abbrev SoundW (P : Prg) (M : CM) (cad : String → Option Addr) (X : L2.Cx) (e : Expr) (c : CE) : Prop := ∀ (W : Addr → Prop) (E : Env) (S : Sto) (t : Bool) (E' : Env) (S' : Sto), tst P M.call M.make c E S = some (.ok t, E', S') → PW X e (rB X.K cad W E S t E' S')
theorem pt_of_pw {t : L2.TT} (h : PW X e t) : PT X e t := ⟨fun pins s σ H Q I z => h.run _ pins s σ H Q I z⟩
theorem noPE {e : Expr} : PE X e (fun _ _ _ => False) := ⟨fun _ _ _ _ _ _ z => z.elim⟩
theorem noPT {e : Expr} : PT X e (fun _ _ _ => False) := ⟨fun _ _ _ _ _ _ z => z.elim⟩
theorem noPW {e : Expr} : PW X e (fun _ _ _ => False) := ⟨fun _ _ _ _ _ _ _ z => z.elim⟩
theorem andV_ok {x : D × Fl} {m : Ot (D × Fl)} {E : Env} {S : Sto} {r : Res (D × Fl) × Env × Sto} (h : andV x m E S = some r) : ∃ t, truth x.1 = some t ∧ ((t = true ∧ m = some r) ∨ (t = false ∧ ∃ d, ((x.1 = d ∧ d = .bl false) ∨ one x = some d) ∧ r = (.ok (d, .v), E, S))) := by
  unfold andV at h
  split at h
  · rename_i t heq
    refine ⟨t, by rw [heq]; rfl, ?_⟩
    cases t with
    | true => exact .inl ⟨rfl, h⟩
    | false => cases h; exact .inr ⟨rfl, _, .inl ⟨heq, rfl⟩, rfl⟩
  · obtain ⟨d, hd, h⟩ := opt_ok h
    obtain ⟨t, ht, h⟩ := opt_ok h
    have e : x.1 = d := by
      obtain ⟨y, fl⟩ := x
      cases fl <;> cases hd <;> rfl
    refine ⟨t, by rw [e]; exact ht, ?_⟩
    cases t with
    | true => exact .inl ⟨rfl, h⟩
    | false => cases h; exact .inr ⟨rfl, d, .inr hd, rfl⟩
theorem orV_ok {x : D × Fl} {m : Ot (D × Fl)} {E : Env} {S : Sto} {r : Res (D × Fl) × Env × Sto} (h : orV x m E S = some r) : ∃ t, truth x.1 = some t ∧ ((t = false ∧ m = some r) ∨ (t = true ∧ ∃ d, ((x.1 = d ∧ d = .bl true) ∨ one x = some d) ∧ r = (.ok (d, .v), E, S))) := by
  unfold orV at h
  split at h
  · rename_i t heq
    refine ⟨t, by rw [heq]; rfl, ?_⟩
    cases t with
    | false => exact .inl ⟨rfl, h⟩
    | true => cases h; exact .inr ⟨rfl, _, .inl ⟨heq, rfl⟩, rfl⟩
  · obtain ⟨d, hd, h⟩ := opt_ok h
    obtain ⟨t, ht, h⟩ := opt_ok h
    have e : x.1 = d := by
      obtain ⟨y, fl⟩ := x
      cases fl <;> cases hd <;> rfl
    refine ⟨t, by rw [e]; exact ht, ?_⟩
    cases t with
    | false => exact .inl ⟨rfl, h⟩
    | true => cases h; exact .inr ⟨rfl, d, .inr hd, rfl⟩
theorem bl_or_one {K : Kx} {ρ ρ1 : List Addr} {Y Y1 : Addr → Prop} {H H1 : Hp} {x : D × Fl} {v : V} {b : Bool} (h : (x.1 = d ∧ d = .bl b) ∨ one x = some d) (p1 : Post W ρ Y H ρ1 Y1 H1) (ok1 : EOk K cad W ρ1 Y1 E S σ H1) (r1 : VRes K cad W ρ1 Y1 E σ H H1 x.1 v x.2) :
    ∃ Y2, Post W ρ Y H ρ1 Y2 H1 ∧ EOk K cad W ρ1 Y2 E S σ H1 ∧ Rep K cad Y2 ρ1 H1 d v := by
  rcases h with ⟨h1, h2⟩ | h
  · have b1 := r1.rb ok1
    rw [h1, h2] at b1
    obtain rfl := rb_bl b1
    exact ⟨Y1, p1, ok1, by rw [h2]; simp only [Rep]⟩
  · exact VRes.share h r1 ok1 p1
theorem s_andE (g : Gd P M cad k cc sc X) (ha : SoundE P M cad X e1 a) (hb : SoundE P M cad X (.BoolOp .And (e2 :: es) pos) b) : SoundE P M cad X (.BoolOp .And (e1 :: e2 :: es) pos) (.and a b) := by
  intro W E S d fl E' S' h
  simp only [ev] at h
  obtain ⟨x, E1, S1, h1, h⟩ := bnd_ok h
  obtain ⟨t, ht, ⟨rfl, h⟩ | ⟨rfl, d', hd, h⟩⟩ := andV_ok h
  · refine PE.sub (L2.pe_andT (ha W _ _ _ _ _ _ h1) (hb W _ _ _ _ _ _ h)) fun σ H Q z => ?_
    obtain ⟨ρ, Y, ok, q⟩ := z
    refine ⟨ρ, Y, ok, fun ρ1 Y1 H1 v1 p1 ok1 r1 l1 => ⟨true, truth_of (r1.rb ok1) ht, ?_⟩⟩
    rw [if_pos rfl]
    exact ⟨ρ1, Y1, ok1, fun ρ2 Y2 H2 v p2 ok2 r2 l2 => q _ _ _ _ (p1.trans p2) ok2 (r2.base p1.up) (fun i e => by cases e)⟩
  · cases h
    refine PE.sub (L2.pe_andT (ha W _ _ _ _ _ _ h1) noPE) fun σ H Q z => ?_
    obtain ⟨ρ, Y, ok, q⟩ := z
    refine ⟨ρ, Y, ok, fun ρ1 Y1 H1 v1 p1 ok1 r1 l1 => ⟨false, truth_of (r1.rb ok1) ht, ?_⟩⟩
    rw [if_neg (by simp)]
    obtain ⟨Y2, p2, ok2, r2⟩ := bl_or_one hd p1 ok1 r1
    exact q _ _ _ _ p2 ok2 r2 (fun i e => by cases e)
theorem s_orE (g : Gd P M cad k cc sc X) (ha : SoundE P M cad X e1 a) (hb : SoundE P M cad X (.BoolOp .Or (e2 :: es) pos) b) : SoundE P M cad X (.BoolOp .Or (e1 :: e2 :: es) pos) (.or a b) := by
  intro W E S d fl E' S' h
  simp only [ev] at h
  obtain ⟨x, E1, S1, h1, h⟩ := bnd_ok h
  obtain ⟨t, ht, ⟨rfl, h⟩ | ⟨rfl, d', hd, h⟩⟩ := orV_ok h
  · refine PE.sub (L2.pe_orT (ha W _ _ _ _ _ _ h1) (hb W _ _ _ _ _ _ h)) fun σ H Q z => ?_
    obtain ⟨ρ, Y, ok, q⟩ := z
    refine ⟨ρ, Y, ok, fun ρ1 Y1 H1 v1 p1 ok1 r1 l1 => ⟨false, truth_of (r1.rb ok1) ht, ?_⟩⟩
    rw [if_neg (by simp)]
    exact ⟨ρ1, Y1, ok1, fun ρ2 Y2 H2 v p2 ok2 r2 l2 => q _ _ _ _ (p1.trans p2) ok2 (r2.base p1.up) (fun i e => by cases e)⟩
  · cases h
    refine PE.sub (L2.pe_orT (ha W _ _ _ _ _ _ h1) noPE) fun σ H Q z => ?_
    obtain ⟨ρ, Y, ok, q⟩ := z
    refine ⟨ρ, Y, ok, fun ρ1 Y1 H1 v1 p1 ok1 r1 l1 => ⟨true, truth_of (r1.rb ok1) ht, ?_⟩⟩
    rw [if_pos rfl]
    obtain ⟨Y2, p2, ok2, r2⟩ := bl_or_one hd p1 ok1 r1
    exact q _ _ _ _ p2 ok2 r2 (fun i e => by cases e)
theorem s_andT (ha : SoundT P M cad X e1 a) (hb : SoundW P M cad X (.BoolOp .And (e2 :: es) pos) b) : SoundW P M cad X (.BoolOp .And (e1 :: e2 :: es) pos) (.and a b) := by
  intro W E S t E' S' h
  simp only [tst] at h
  obtain ⟨x, E1, S1, h1, h⟩ := bnd_ok h
  cases x with
  | true =>
    simp only [if_true] at h
    refine PW.sub (L2.pw_and (ha W _ _ _ _ _ h1) (hb W _ _ _ _ _ h)) fun σ H Q z => ?_
    obtain ⟨ρ, Y, ok, q⟩ := z
    refine ⟨ρ, Y, ok, fun ρ1 Y1 H1 p1 ok1 => ?_⟩
    show rB X.K cad W E1 S1 t E' S' σ H1 Q
    exact ⟨ρ1, Y1, ok1, fun ρ2 Y2 H2 p2 ok2 => q _ _ _ (p1.trans p2) ok2⟩
  | false =>
    cases h
    refine PW.sub (L2.pw_and (ha W _ _ _ _ _ h1) noPW) fun σ H Q z => ?_
    obtain ⟨ρ, Y, ok, q⟩ := z
    exact ⟨ρ, Y, ok, fun ρ1 Y1 H1 p1 ok1 => q _ _ _ p1 ok1⟩
theorem s_orT (ha : SoundT P M cad X e1 a) (hb : SoundW P M cad X (.BoolOp .Or (e2 :: es) pos) b) : SoundW P M cad X (.BoolOp .Or (e1 :: e2 :: es) pos) (.or a b) := by
  intro W E S t E' S' h
  simp only [tst] at h
  obtain ⟨x, E1, S1, h1, h⟩ := bnd_ok h
  cases x with
  | false =>
    simp only [Bool.false_eq_true, if_false] at h
    refine PW.sub (L2.pw_or (ha W _ _ _ _ _ h1) (hb W _ _ _ _ _ h)) fun σ H Q z => ?_
    obtain ⟨ρ, Y, ok, q⟩ := z
    refine ⟨ρ, Y, ok, fun ρ1 Y1 H1 p1 ok1 => ?_⟩
    show rB X.K cad W E1 S1 t E' S' σ H1 Q
    exact ⟨ρ1, Y1, ok1, fun ρ2 Y2 H2 p2 ok2 => q _ _ _ (p1.trans p2) ok2⟩
  | true =>
    cases h
    refine PW.sub (L2.pw_or (ha W _ _ _ _ _ h1) noPW) fun σ H Q z => ?_
    obtain ⟨ρ, Y, ok, q⟩ := z
    exact ⟨ρ, Y, ok, fun ρ1 Y1 H1 p1 ok1 => q _ _ _ p1 ok1⟩
theorem s_notT (ha : SoundT P M cad X e1 a) : SoundT P M cad X (.UnaryOp .Not e1 pos) (.not a) := by
  intro W E S t E' S' h
  simp only [tst] at h
  obtain ⟨x, E1, S1, h1, h⟩ := bnd_ok h
  cases h
  refine PT.sub (L2.pt_not (ha W _ _ _ _ _ h1)) fun σ H Q z => ?_
  obtain ⟨ρ, Y, ok, q⟩ := z
  exact ⟨ρ, Y, ok, fun ρ1 Y1 H1 p1 ok1 => q _ _ _ p1 ok1⟩
end
end Dk
end
/-! Snd11b -/
section
set_option linter.all false
set_option maxRecDepth 100000
set_option maxHeartbeats 1000000
/-! Calls by name, of methods; stars in displays. -/
namespace Dk
open PySem (Str Addr Heap Value Shared sizeLine Expr Pos Keyword)
open L2 (V Hp HO upd Rd SqL SqT Key St VK TE PE PT PW PA)

section
variable {P : Prg} {M : CM} {cad : String → Option Addr} {k : Nat} {cc : Cc} {sc : PySem.Scope} {X : L2.Cx} {W : Addr → Prop} {E E' : Env} {S S' : Sto} {d : D} {fl : Fl} {σ : St} {H : Hp} {Q : VK} {e e1 e2 e3 o : Expr} {es : List Expr} {cs ds : CEs} {a b c : CE} {pos p apos : Pos} {n : Nat} {kws : List Keyword} {kn : List String}
/-- the values of keywords keep to what their code says -/
abbrev SoundK (P : Prg) (M : CM) (cad : String → Option Addr) (X : L2.Cx) (e : List Keyword) (c : CEs) : Prop := ∀ (W : Addr → Prop) (E : Env) (S : Sto) (l : List (D × Fl)) (m : List D) (E' : Env) (S' : Sto), evs P M.call M.make c E S = some (.ok l, E', S') → notP l = some m → L2.PK X e (tA X.K cad W E S m E' S')
theorem PK.sub {e : List Keyword} {t t' : L2.TA} (h : L2.PK X e t) (q : ∀ σ H Q, t' σ H Q → t σ H Q) : L2.PK X e t' := ⟨fun pos pins s σ H Q I z => h.run pos pins s σ H Q I (q σ H Q z)⟩
theorem notP_cons {x : D × Fl} {l : List (D × Fl)} {m : List D} (h : notP (x :: l) = some m) : ∃ r, notP l = some r ∧ m = x.1 :: r ∧ x.2 ≠ .p := by
  unfold notP at h ⊢
  split at h
  · rename_i ha
    cases h
    rw [List.all_cons, Bool.and_eq_true] at ha
    exact ⟨_, if_pos ha.2, rfl, by simpa using ha.1⟩
  · cases h
theorem sk_nil : SoundK P M cad X [] .nil := by
  intro W E S l m E' S' h hm
  simp only [evs] at h
  cases h
  cases hm
  refine PK.sub L2.pk_nil fun σ H Q ⟨ρ, Y, ok, q⟩ => q _ _ _ _ Post.refl ok Reps.nil
theorem sk_cons {x : Option Str} {kp : Pos} (ha : SoundE P M cad X e a) (hb : SoundK P M cad X kws cs) : SoundK P M cad X (⟨x, e, kp⟩ :: kws) (.cons a cs) := by
  intro W E S l m E' S' h hm
  simp only [evs] at h
  obtain ⟨⟨d, fl⟩, E1, S1, h1, h⟩ := bnd_ok h
  have pa := ha W _ _ _ _ _ _ h1
  have main : ∀ (hfl : fl ≠ .p) (xs : List (D × Fl)), evs P M.call M.make cs E1 S1 = some (.ok xs, E', S') → l = (d, .v) :: xs → L2.PK X (⟨x, e, kp⟩ :: kws) (tA X.K cad W E S m E' S') := by
    intro hfl xs h2 el
    subst el
    obtain ⟨r, hr, rfl, _⟩ := notP_cons hm
    refine PK.sub (L2.pk_cons pa (hb W _ _ _ _ _ _ h2 hr)) fun σ H Q ⟨ρ, Y, ok, q⟩ => ?_
    refine ⟨ρ, Y, ok, fun ρ1 Y1 H1 v1 p1 ok1 r1 l1 => ?_⟩
    have ho : one (d, fl) = some d := by unfold one; rw [if_neg hfl]
    obtain ⟨Y1', p1', ok1', rv⟩ := VRes.share ho r1 ok1 p1
    exact ⟨ρ1, Y1', ok1', fun ρ2 Y2 H2 vs p2 ok2 r2 => q _ _ _ _ (p1'.trans p2) ok2 (Reps.cons (rv.post p2) r2)⟩
  cases fl with
  | v => obtain ⟨xs, E2, S2, h2, h⟩ := bnd_ok h; cases h; exact main (by decide) xs h2 rfl
  | f => obtain ⟨xs, E2, S2, h2, h⟩ := bnd_ok h; cases h; exact main (by decide) xs h2 rfl
  | p =>
    cases cs with
    | cons => cases h
    | star => cases h
    | nil =>
      cases h
      obtain ⟨r, _, _, hp⟩ := notP_cons hm
      exact absurd rfl hp
theorem pick_reps {K : Kx} {ρ : List Addr} {Y : Addr → Prop} : ∀ {is : List Nat} {l : List D} {vs : List V} {a : List D}, Reps K cad Y ρ H l vs → pick l is = some a → ∃ b, pick vs is = some b ∧ Reps K cad Y ρ H a b
  | [], l, vs, a, _, h => by simp only [pick] at h; cases h; exact ⟨[], rfl, Reps.nil⟩
  | i :: r, l, vs, a, hv, h => by
    simp only [pick] at h
    split at h
    · rename_i x t h1 h2
      cases h
      obtain ⟨v, e1, r1⟩ := hv.get h1
      obtain ⟨b, e2, r2⟩ := pick_reps hv h2
      exact ⟨v :: b, by simp only [pick, e1, e2], Reps.cons r1 r2⟩
    · cases h
theorem arrange_reps {K : Kx} {ρ : List Addr} {Y : Addr → Prop} {cps : List String} {l m a : List D} {vs zs : List V} (r : Reps K cad Y ρ H l vs) (rz : Reps K cad Y ρ H m zs) (h : arrange cps l kn m = some a) : ∃ b, arrange cps vs kn zs = some b ∧ Reps K cad Y ρ H a b := by
  unfold arrange at h ⊢
  rw [← r.length, ← rz.length] at h
  split at h
  · rename_i hc
    rw [if_pos hc]
    obtain ⟨is, e1, e2⟩ := Option.bind_eq_some_iff.mp h
    obtain ⟨t, e3, rfl⟩ := Option.map_eq_some_iff.mp e2
    obtain ⟨b, hb1, hb2⟩ := pick_reps rz e3
    exact ⟨vs ++ b, by rw [e1]; simp [hb1], r.append hb2⟩
  · cases h
theorem arrange_len {α : Type} {cps : List String} {l m a : List α} (h : arrange cps l kn m = some a) : l.length + kn.length = cps.length ∧ m.length = kn.length := by
  unfold arrange at h
  split at h
  · rename_i hc; exact ⟨hc.1, hc.2.symm⟩
  · cases h
/-- f(a, .., k = b, ..) -/
theorem s_callk {x : Str} {f : String} (g : Gd P M cad k cc sc X) (hx : nmOf x = some f) (hg : isGl sc x = true) (ho : okNm x = true) (hf : f ∈ cc.defs) (hkw : (f, es.length, kn) ∈ cc.kws) (hn : es = [] → cs = .nil)
    (hlen : ∀ (W : Addr → Prop) E S l E' S', evs P M.call M.make cs E S = some (.ok l, E', S') → l.length = es.length)
    (hs : ∀ e r, es = e :: r → PySem.starEach (e :: r) X.env = (false, PySem.eval e X.env) :: PySem.starEach r X.env)
    (hall : (PySem.backToKw pos (PySem.keywordEach kws X.env)).all (·.1.isSome) = true) (hks : (PySem.backToKw pos (PySem.keywordEach kws X.env)).filterMap (·.1) = kn.map sx)
    (hpl : ((PySem.backTo pos (PySem.starEach es X.env)).any (·.1) || (PySem.backToKw pos (PySem.keywordEach kws X.env)).any (·.1.isNone)) = false)
    (ha : SoundA P M cad X es cs) (hb : SoundK P M cad X kws ds) : SoundE P M cad X (.Call (.Name x p) es kws pos) (.callk f cs kn ds) := by
  intro W E S d fl E' S' h
  simp only [ev] at h
  obtain ⟨l, E1, S1, h1, h⟩ := bnd_ok h
  obtain ⟨v, E2, S2, h2, h⟩ := bnd_ok h
  obtain ⟨l', hl, h⟩ := opt_ok h
  obtain ⟨v', hv, h⟩ := opt_ok h
  obtain ⟨c, hc, h⟩ := opt_ok h
  obtain ⟨a, har, h⟩ := opt_ok h
  obtain rfl := nm_sx hx
  have hcall : ∃ S3, M.call f a S2 = some (.ok (d, fl), S3) ∧ E' = E2 ∧ S' = S3 := by
    unfold callM at h
    split at h
    · cases h; exact ⟨_, by assumption, rfl, rfl⟩
    · cases h
    · cases h
  obtain ⟨S3, hcall, rfl, rfl⟩ := hcall
  obtain ⟨ff, fd, ps, c', a1, a2, a3, a4, a5⟩ := g.wd.kw f _ _ hkw hf
  rw [hc] at a3; cases a3
  have room : L2.Room k X.A := g.room.mono (Nat.le_succ k)
  have al := arrange_len har
  have ll : l'.length = es.length := by
    rw [← hlen W _ _ _ _ _ h1]
    unfold notP at hl
    split at hl
    · cases hl; simp
    · cases hl
  have fin : ∀ σ H Q, rE X.K cad W (.callk f cs kn ds) E S d fl E' S' σ H Q → tCKg c.ps kn es.length (spF X.K cad P M f) (rA X.K cad W E S l E1 S1) (tA X.K cad W E1 S1 v' E' S2) σ H Q := by
    intro σ H Q ⟨ρ, Y, ok, q⟩
    refine ⟨ρ, Y, ok, fun ρ1 Y1 H1 vs p1 ok1 r1 => ⟨ρ1, Y1, ok1, fun ρ2 Y2 H2 zs p2 ok2 r2 => ?_⟩⟩
    have rl := (r1.reps hl).post p2
    refine ⟨by rw [rl.length, ll], by rw [r2.length, al.2], fun b hb' => ?_⟩
    obtain ⟨b', e1, rb⟩ := arrange_reps rl r2 har
    rw [e1] at hb'; cases hb'
    refine ⟨ρ2, Y2, a, S2, d, fl, S', rb, wof_ok ok2.toSOk, hcall, g.wd.ln _ _ _ _ hcall, fun ρ3 Y3 H3 v p3 s3 c3 => ?_⟩
    obtain ⟨p4, ok4⟩ := ok2.call p3 s3
    exact q _ _ _ _ ((p1.trans p2).trans p4) ok4 ((c3.to ok2 p3).base (p1.trans p2).up) (fun i e => by cases e)
  cases es with
  | nil =>
    have hl0 : l = [] := List.length_eq_zero_iff.mp (hlen W _ _ _ _ _ h1)
    subst hl0
    refine PE.sub (pe_callK0G (g.gl _ hg) (okNm_d ho) hall hks a5 room g.gu a1 a2 a4 (hb W _ _ _ _ _ _ h2 hv) hpl) fun σ H Q z => ?_
    obtain ⟨ρ, Y, ok, q⟩ := fin σ H Q z
    -- nothing is told ahead of the keywords
    have nil_run := (ha W _ _ _ _ _ h1)
    have hE : E1 = E ∧ S1 = S := by
      obtain rfl := hn rfl
      simp only [evs] at h1
      cases h1
      exact ⟨rfl, rfl⟩
    obtain ⟨rfl, rfl⟩ := hE
    exact q ρ Y H [] Post.refl ok (by simp only [VRs])
  | cons e r => exact PE.sub (pe_callKG (g.gl _ hg) (okNm_d ho) hall hks a5 room g.gu a1 a2 a4 (ha W _ _ _ _ _ h1) (hb W _ _ _ _ _ _ h2 hv) (hs e r rfl) hpl) fin
/-- C(a, .., k = b, ..) -/
theorem s_makek {x : Str} {f : String} (g : Gd P M cad k cc sc X) (hx : nmOf x = some f) (hg : isGl sc x = true) (ho : okNm x = true) (hf : f ∈ cc.clss) (hkw : (f, es.length, kn) ∈ cc.kws) (hn : es = [] → cs = .nil)
    (hlen : ∀ (W : Addr → Prop) E S l E' S', evs P M.call M.make cs E S = some (.ok l, E', S') → l.length = es.length)
    (hs : ∀ e r, es = e :: r → PySem.starEach (e :: r) X.env = (false, PySem.eval e X.env) :: PySem.starEach r X.env)
    (hall : (PySem.backToKw pos (PySem.keywordEach kws X.env)).all (·.1.isSome) = true) (hks : (PySem.backToKw pos (PySem.keywordEach kws X.env)).filterMap (·.1) = kn.map sx)
    (hpl : ((PySem.backTo pos (PySem.starEach es X.env)).any (·.1) || (PySem.backToKw pos (PySem.keywordEach kws X.env)).any (·.1.isNone)) = false)
    (ha : SoundA P M cad X es cs) (hb : SoundK P M cad X kws ds) : SoundE P M cad X (.Call (.Name x p) es kws pos) (.makek f cs kn ds) := by
  intro W E S d fl E' S' h
  simp only [ev] at h
  obtain ⟨l, E1, S1, h1, h⟩ := bnd_ok h
  obtain ⟨v, E2, S2, h2, h⟩ := bnd_ok h
  obtain ⟨l', hl, h⟩ := opt_ok h
  obtain ⟨v', hv, h⟩ := opt_ok h
  obtain ⟨y, hy, h⟩ := opt_ok h
  obtain ⟨c, hc, h⟩ := opt_ok h
  obtain ⟨a, har, h⟩ := opt_ok h
  obtain rfl := nm_sx hx
  have hcall : ∃ S3, M.make f a S2 = some (.ok d, S3) ∧ E' = E2 ∧ S' = S3 ∧ fl = .v := by
    unfold makeM at h
    split at h
    · cases h; exact ⟨_, by assumption, rfl, rfl, rfl⟩
    · cases h
    · cases h
  obtain ⟨S3, hcall, rfl, rfl, rfl⟩ := hcall
  obtain ⟨C, ff, fd, ps, kc, y', c', a0, a1, a2, a3, a4, a5, a6, a7, a8⟩ := g.wd.kwc f _ _ hkw hf
  rw [a3] at hy
  have hy' : kc.init = some y := hy
  rw [a4] at hy'; cases hy'
  rw [hc] at a5; cases a5
  have al := arrange_len har
  have ll : l'.length = es.length := by
    rw [← hlen W _ _ _ _ _ h1]
    unfold notP at hl
    split at hl
    · cases hl; simp
    · cases hl
  have fin : ∀ σ H Q, rE X.K cad W (.makek f cs kn ds) E S d .v E' S' σ H Q → tMKg C (c.ps.drop 1) kn es.length (spM X.K cad M f C ps.length) (rA X.K cad W E S l E1 S1) (tA X.K cad W E1 S1 v' E' S2) σ H Q := by
    intro σ H Q ⟨ρ, Y, ok, q⟩
    refine ⟨ρ, Y, ok, fun ρ1 Y1 H1 vs p1 ok1 r1 => ⟨ρ1, Y1, ok1, fun ρ2 Y2 H2 zs p2 ok2 r2 => ?_⟩⟩
    have rl := (r1.reps hl).post p2
    refine ⟨by rw [rl.length, ll], by rw [r2.length, al.2], fun b hb' => fun x dx hx hdx hne => ?_⟩
    obtain ⟨b', e1, rb⟩ := arrange_reps rl r2 har
    rw [e1] at hb'; cases hb'
    refine ⟨H2, x, dx, _, rfl, hx, hdx, hne, rfl, ρ2, Y2, a, S2, d, S', rb, wof_ok ok2.toSOk, hcall, a8 _ _ _ hcall, fun ρ3 Y3 H3 p3 s3 c3 => ?_⟩
    obtain ⟨p4, ok4⟩ := ok2.call p3 s3
    exact ⟨rfl, q _ _ _ _ ((p1.trans p2).trans p4) ok4 c3 (fun i e => by cases e)⟩
  cases es with
  | nil =>
    have hl0 : l = [] := List.length_eq_zero_iff.mp (hlen W _ _ _ _ _ h1)
    subst hl0
    refine PE.sub (pe_makeK0G (g.gl _ hg) (okNm_d ho) hall hks a2 a7 g.room g.gu a1 a6 (hb W _ _ _ _ _ _ h2 hv) hpl) fun σ H Q z => ?_
    obtain ⟨ρ, Y, ok, q⟩ := fin σ H Q z
    have hE : E1 = E ∧ S1 = S := by
      obtain rfl := hn rfl
      simp only [evs] at h1
      cases h1
      exact ⟨rfl, rfl⟩
    obtain ⟨rfl, rfl⟩ := hE
    exact q ρ Y H [] Post.refl ok (by simp only [VRs])
  | cons e r => exact PE.sub (pe_makeKG (g.gl _ hg) (okNm_d ho) hall hks a2 a7 g.room g.gu a1 a6 (ha W _ _ _ _ _ h1) (hb W _ _ _ _ _ _ h2 hv) (hs e r rfl) hpl) fin
/-! ### methods -/
theorem repf_none {K : Kx} {ρ : List Addr} {Y : Addr → Prop} {f : String} : ∀ {fs : List (String × D)} {gs : List (Str × V)}, RepF K cad Y ρ H fs gs → fs.lookup f = none → gs.lookup (sx f) = none
  | [], gs, h, _ => by simp only [RepF] at h; subst h; rfl
  | (g, x) :: fs, gs, h, e => by
    simp only [RepF] at h
    obtain ⟨v, r, rfl, hv, q⟩ := h
    by_cases hg : f = g
    · subst hg
      rw [List.lookup_cons, beq_self_eq_true] at e
      cases e
    · rw [List.lookup_cons, beq_eq_false_iff_ne.mpr hg] at e
      have hn : (sx f == sx g) = false := beq_eq_false_iff_ne.mpr fun z => hg (sx_inj z)
      rw [List.lookup_cons, hn]
      exact repf_none q e
theorem s_meth {m : Str} {mm : String} (g : Gd P M cad k cc sc X) (hx : nmOf m = some mm) (hmt : mm ∈ cc.mts) (h0 : PySem.attributeBase o m X.env (PySem.eval o X.env) = PySem.eval o X.env) (h3 : (apos.endLine == pos.line) = true) (hn : es = [] → cs = .nil)
    (h2 : PySem.methodCallForm (es.length + 0) (PySem.backTo pos (PySem.starEach es X.env)) (PySem.backToKw pos (PySem.keywordEach [] X.env)) = true)
    (hs : ∀ e r, es = e :: r → PySem.starEach (e :: r) X.env = (false, PySem.eval e X.env) :: PySem.starEach r X.env ∧ (PySem.backTo pos (PySem.starEach r X.env)).any (·.1) = false)
    (ha : SoundE P M cad X o a) (hb : SoundA P M cad X es cs) : SoundE P M cad X (.Call (.Attribute o m apos) es [] pos) (.meth a mm cs) := by
  intro W E S d fl E' S' h
  simp only [ev] at h
  obtain ⟨⟨d0, f0⟩, E1, S1, h1, h⟩ := bnd_ok h
  obtain ⟨d1, hone, h⟩ := opt_ok h
  obtain ⟨q, hq, h⟩ := opt_ok h
  obtain ⟨l, E2, S2, hl, h⟩ := bnd_ok h
  obtain ⟨l', hl', h⟩ := opt_ok h
  obtain rfl := nm_sx hx
  have hcall : ∃ S3, M.call q (d1 :: l') S2 = some (.ok (d, fl), S3) ∧ E' = E2 ∧ S' = S3 := by
    unfold callM at h
    split at h
    · cases h; exact ⟨_, by assumption, rfl, rfl⟩
    · cases h
    · cases h
  obtain ⟨S3, hcall, rfl, rfl⟩ := hcall
  have h01 : d0 = d1 := by unfold one at hone; split at hone <;> cases hone; rfl
  subst h01
  unfold methF at hq
  split at hq
  · rename_i c fs hi
    split at hq
    · rename_i hnone
      obtain ⟨kc, k1, k2⟩ := Option.bind_eq_some_iff.mp hq
      have hno : fs.lookup mm = none := Option.isNone_iff_eq_none.mp hnone
      have room : L2.Room k X.A := g.room.mono (Nat.le_succ k)
      cases hC : cad c with
      | none =>
        refine PE.sub (pe_methNo (ha W _ _ _ _ _ _ h1) h0 h2 h3) fun σ H Q ⟨ρ, Y, ok, q'⟩ => ?_
        refine ⟨ρ, Y, ok, fun ρ1 Y1 H1 v1 p1 ok1 r1 l1 => ?_⟩
        obtain ⟨p, C', dx, gs, rfl, b1, b2, b3⟩ := rb_ins ok1.toSOk (r1.rb ok1) hi
        rw [hC] at b1; cases b1
      | some C =>
        obtain ⟨ff, fd, ps, a1, a2, a3⟩ := g.wd.mt c kc C mm q hmt k1 hC k2
        obtain ⟨clsC, _⟩ := g.wd.at_ c kc C k1 hC
        have fin : ∀ σ H Q, rE X.K cad W (.meth a mm cs) E S d fl E' S' σ H Q → rE X.K cad W a E S d0 f0 E1 S1 σ H (fun x H1 => ∃ p dx gs, x = .ref p ∧ H1 p = some (.ins C dx gs) ∧ gs.lookup (sx mm) = none ∧ rA X.K cad W E1 S1 l E' S2 σ H1 fun vs H2 => spF X.K cad P M q (x :: vs) H2 Q) := by
          intro σ H Q ⟨ρ, Y, ok, q'⟩
          refine ⟨ρ, Y, ok, fun ρ1 Y1 H1 v1 p1 ok1 r1 l1 => ?_⟩
          obtain ⟨Y1', p1', ok1', rv⟩ := VRes.share hone r1 ok1 p1
          obtain ⟨p, C', dx, gs, rfl, b1, b2, b3⟩ := rb_ins ok1'.toSOk (.inl rv) hi
          rw [hC] at b1; cases b1
          refine ⟨p, dx, gs, rfl, b2, repf_none b3 hno, ρ1, Y1', ok1', fun ρ2 Y2 H2 vs p2 ok2 r2 => ?_⟩
          refine ⟨ρ2, Y2, d0 :: l', S2, d, fl, S', Reps.cons (rv.post p2) (r2.reps hl'), wof_ok ok2.toSOk, hcall, g.wd.ln _ _ _ _ hcall, fun ρ3 Y3 H3 v p3 s3 c3 => ?_⟩
          obtain ⟨p4, ok4⟩ := ok2.call p3 s3
          exact q' _ _ _ _ ((p1'.trans p2).trans p4) ok4 ((c3.to ok2 p3).base (p1'.trans p2).up) (fun i e => by cases e)
        cases es with
        | nil =>
          refine PE.sub (pe_meth0G (ha W _ _ _ _ _ _ h1) clsC a1 a3 room g.gu a2 h0 h3) fun σ H Q z => ?_
          obtain ⟨ρ, Y, ok, z⟩ := fin σ H Q z
          refine ⟨ρ, Y, ok, fun ρ1 Y1 H1 v1 p1 ok1 r1 l1 => ?_⟩
          obtain ⟨p, dx, gs, e1, e2, e3, ρ', Y', ok', z'⟩ := z ρ1 Y1 H1 v1 p1 ok1 r1 l1
          obtain rfl := hn rfl
          simp only [evs] at hl
          cases hl
          exact ⟨p, dx, gs, e1, e2, e3, by have := z' ρ' Y' H1 [] Post.refl ok' (by simp only [VRs]); exact this⟩
        | cons e r =>
          obtain ⟨s1, s2⟩ := hs e r rfl
          exact PE.sub (pe_methG (ha W _ _ _ _ _ _ h1) clsC a1 a3 room g.gu a2 (hb W _ _ _ _ _ hl) s1 s2 h0 h2 h3) fin
    · cases hq
  · cases hq
/-! ### stars -/
theorem s_star (hb : SoundA P M cad X es cs) (ha : SoundE P M cad X e a) : SoundA P M cad X (.Starred e pos :: es) (.star a cs) := by
  intro W E S l E' S' h
  simp only [evs] at h
  obtain ⟨⟨d, fl⟩, E1, S1, h1, h⟩ := bnd_ok h
  obtain ⟨its, hi, h⟩ := opt_ok h
  obtain ⟨xs, E2, S2, h2, h⟩ := bnd_ok h
  split at h
  · rename_i hlen
    cases h
    refine PA.sub (StX.pa_star (ha W _ _ _ _ _ _ h1) (hb W _ _ _ _ _ h2)) fun σ H Q ⟨ρ, Y, ok, q⟩ => ?_
    refine ⟨ρ, Y, ok, fun ρ1 Y1 H1 v1 p1 ok1 r1 l1 => ?_⟩
    have hfl : one (d, fl) = some d := by
      cases fl with
      | p => cases d <;> simp [starItems] at hi
      | v => rfl
      | f => rfl
    obtain ⟨Y1', p1', ok1', rv⟩ := VRes.share hfl r1 ok1 p1
    have key : ∃ p vs, v1 = V.ref p ∧ (SqT X.K H1 p vs ∨ SqL X.K H1 p vs) ∧ Reps X.K cad Y1' ρ1 H1 its vs := by
      cases d <;> cases fl <;> simp only [starItems] at hi <;> first | (cases hi; done) | skip
      · cases hi
        simp only [Rep] at rv
        obtain ⟨p, vs, rfl, hr, rs⟩ := rv
        exact ⟨p, vs, rfl, .inl (hr.elim (fun q => .inl q.2) .inr), rs⟩
      · cases hi
        simp only [Rep] at rv
        obtain ⟨p, vs, rfl, hr, rs⟩ := rv
        exact ⟨p, vs, rfl, .inr (hr.elim (fun z => Or.inl z.2) Or.inr : SqE X.K H1 p vs).sq, rs⟩
      · cases hi
        simp only [Rep] at rv
        obtain ⟨p, vs, rfl, hr, rs⟩ := rv
        exact ⟨p, vs, rfl, .inr (hr.elim (fun z => Or.inl z.2) Or.inr : SqE X.K H1 p vs).sq, rs⟩
    obtain ⟨p, vs, rfl, hsq, rs⟩ := key
    refine ⟨p, vs, rfl, hsq, ρ1, Y1', ok1', fun ρ2 Y2 H2 ws p2 ok2 r2 => q _ _ _ _ (p1'.trans p2) ok2 ?_⟩
    have go : ∀ {m : List D} {us : List V}, Reps X.K cad Y2 ρ2 H2 m us → VRs X.K cad ρ2 Y2 E' σ H2 (m.map (fun d => (d, .v)) ++ xs) (us ++ ws) := by
      intro m
      induction m with
      | nil => intro us h; simp only [Reps] at h; subst h; exact r2
      | cons d m ih =>
        intro us h
        simp only [Reps] at h
        obtain ⟨v, r, rfl, hv, hr⟩ := h
        simp only [List.map_cons, List.cons_append, VRs]
        exact ⟨v, r ++ ws, rfl, hv, ih hr⟩
    exact go (rs.post p2)
  · cases h
end
end Dk
end
/-! Snd10c -/
section
set_option linter.all false
set_option maxRecDepth 100000
set_option maxHeartbeats 4000000
/-! Properties, instances without __init__, repr, dicts over others: rules. -/
namespace PySem
open Sem (wp)
section
variable {prog : Program} {w : World} {K : Type} [DecidableEq K] {knd : KeyKind prog w K} {A : Around} {E : Value → Shared → Prop} {s : Shared}
theorem wpAny_dictPut_pairs {d : Addr} {kvs : List (K × Value)} {k : K} {key v : Value} {Q : Unit → Shared → Prop} (hkey : knd.is k key = true) (hm : s.heap.DictOf knd d kvs)
    (hQ : ∀ h', h'.DictOf knd d (stored kvs k v) → Heap.SameBut d s.heap h' → Q () { s with heap := h' })
    (hsz : kvs.length ≤ sizeLine) :
    wpAny (model prog w) A (dictPut d (knd.hash k) key v) Q E s := by
  obtain ⟨o, es, ep, ho, hc, hd, hk, hp, hn⟩ := hm
  have hes : es.size ≤ sizeLine := by have e1 := hp.length; have e2 : es.toList.length = es.size := by simp
                                      omega
  unfold dictPut
  refine wpAny_bind (wpAny_dictFind_of hkey ho hd hk ?_)
  have hidx : (es.findIdx? fun e => knd.is k e.key) = kvs.findIdx? fun kv => decide (kv.1 = k) := by
    rw [← hp.findIdx k]; obtain ⟨l⟩ := es; simp
  cases hi : es.findIdx? fun e => knd.is k e.key with
  | some i =>
    refine wpAny_updateDict ho hd (hQ _ ⟨_, _, ep, Heap.get?_update_self _ ho (Obj.isFreed_of_dict (Obj.data_mapDict hd _)),
      hc.mapDict _, Obj.data_mapDict hd _, hk.modify _ _, ?_, ?_⟩ (Heap.SameBut.update ..))
    · rw [stored, if_pos (any_of_findIdx_some (hidx ▸ hi))]
      have hl : (es.toList.findIdx? fun e => knd.is k e.key) = some i := by rw [← hi]; obtain ⟨l⟩ := es; simp
      have := hp.modify hn hl v
      obtain ⟨l⟩ := es
      simpa using this
    · rw [stored, if_pos (any_of_findIdx_some (hidx ▸ hi)), keys_map_store]; exact hn
  | none =>
    have hnot : k ∉ kvs.map (·.1) := not_mem_of_findIdx_none (hidx ▸ hi)
    have hany : ¬ (kvs.any fun kv => decide (kv.1 = k)) = true := by
      rw [List.any_eq_true]; rintro ⟨kv, hkv, he⟩
      exact hnot (List.mem_map.mpr ⟨kv, hkv, of_decide_eq_true he⟩)
    refine wpAny_updateDictKeys (hz := hes) ho hd (hQ _ ⟨_, _, ep + 1, Heap.get?_update_self _ ho (Obj.isFreed_of_dict (Obj.data_mapDictKeys hd _)),
      hc.mapDictKeys _, Obj.data_mapDictKeys hd _, hk.push hkey _, ?_, ?_⟩ (Heap.SameBut.update ..))
    · rw [stored, if_neg hany]
      have := hp.append hkey (knd.hash k) v
      obtain ⟨l⟩ := es
      simpa using this
    · rw [stored, if_neg hany, List.map_append, List.nodup_append]
      refine ⟨hn, by simp, ?_⟩
      intro a ha b hb
      simp only [List.map_cons, List.map_nil, List.mem_singleton] at hb
      subst hb
      exact fun e => hnot (e ▸ ha)

theorem wpAny_mergeMapping {d o : Addr} {kvs more : List (K × Value)} {Q : Unit → Shared → Prop} (hdo : d ≠ o) (hoS : (o == sysModules) = false)
    (hd : s.heap.DictOf knd d kvs) (ho : s.heap.DictOf knd o more) (hnr : ∀ k v, knd.is k v = true → ∀ b, v ≠ .ref b)
    (hQ : ∀ h', h'.DictOf knd d (merged kvs more) → h'.DictOf knd o more → Heap.SameBut d s.heap h' → Q () { s with heap := h' })
    (hsz : kvs.length + more.length ≤ sizeLine) :
    wpAny (model prog w) A (mergeMapping d (.ref o) false) Q E s := by
  obtain ⟨od, esd, epd, hod, hcd, hdd, hkd, hpd, hnd⟩ := id hd
  obtain ⟨oo, eso, epo, hoo, hco, hdo', hko, hpo, hno⟩ := id ho
  have hlen : more.length = eso.size := by rw [← hpo.length]; simp
  have loop : ∀ (j : PUnit → Sem Unit), j = (fun _ => pure ()) → wpAny (model prog w) A (do
      let l ← dictEntries o
      let epoch ← dictEpoch o
      let r ← forIn (List.range l.size) PUnit.unit fun i (_ : PUnit) => (do
          let l' ← dictEntries o
          match l'[i]? with
            | some e => do
              holding [e.key, e.val] (dictPut d e.hash e.key e.val)
              let ep' ← dictEpoch o
              if (ep' != epoch) = true then do
                  (unsupported "dict.changed-during-merge" : Sem PUnit)
                  pure (ForInStep.yield PUnit.unit)
                else pure (ForInStep.yield PUnit.unit)
            | _ => do
              (unsupported "dict.changed-during-merge" : Sem PUnit)
              pure (ForInStep.yield PUnit.unit) : Sem (ForInStep PUnit))
      j r) Q E s := by
    intro j hj
    subst hj
    refine wpAny_bind (wpAny_dictEntries hoo hdo' ?_)
    refine wpAny_bind (wpAny_dictEpoch hoo hdo' ?_)
    refine wpAny_bind ?_
    rw [List.range_eq_range']
    refine wpAny_forIn_list _
      (fun rest _ s' => ∃ h' i, s' = { s with heap := h' } ∧ rest = List.range' i (eso.size - i) ∧ i ≤ eso.size ∧ h'.DictOf knd d (merged kvs (more.take i)) ∧ h'.get? o = some oo ∧ Heap.SameBut d s.heap h')
      _ ?_ ?_ _ _ ⟨s.heap, 0, rfl, by simp, Nat.zero_le _, by simpa [merged] using hd, hoo, Heap.SameBut.refl _ _⟩
    · rintro x rest b s' ⟨h', i, rfl, hr, hi, hd', hoo', hs'⟩
      have hlt : i < eso.size := by
        rcases Nat.lt_or_ge i eso.size with h | h
        · exact h
        · rw [Nat.sub_eq_zero_of_le h] at hr; simp at hr
      obtain ⟨rfl, hrest⟩ : x = i ∧ rest = List.range' (i + 1) (eso.size - (i + 1)) := by
        have e : eso.size - i = (eso.size - (i + 1)) + 1 := by omega
        rw [e, List.range'_succ] at hr
        injection hr with h1 h2
        exact ⟨h1, h2⟩
      refine wpAny_bind (wpAny_dictEntries hoo' hdo' ?_)
      rw [Array.getElem?_eq_getElem hlt]
      obtain ⟨kv, hkv⟩ : ∃ kv, more[x]? = some kv := ⟨more[x]'(by rw [hlen]; exact hlt), List.getElem?_eq_getElem _⟩
      obtain ⟨k, v⟩ := kv
      obtain ⟨hkey, hval⟩ := hpo.get? (e := eso[x]) (by simp [hlt]) hkv
      obtain ⟨k', hkey', hhash⟩ := hko eso[x] (Array.getElem_mem hlt)
      obtain rfl : k' = k := knd.inj _ _ _ hkey' hkey
      show wpAny _ _ (holding [eso[x].key, eso[x].val] (dictPut d eso[x].hash eso[x].key eso[x].val) >>= _) _ _ _
      rw [hhash, hval]
      have hmx : (merged kvs (more.take x)).length ≤ sizeLine := by
        have e1 := merged_length_le kvs (more.take x)
        have e2 : (more.take x).length ≤ more.length := by rw [List.length_take]; omega
        omega
      refine wpAny_bind (wpAny_holding (wpAny_dictPut_pairs (hsz := hmx) hkey hd' fun h'' hd'' hs'' => ?_))
      have hoo'' : h''.get? o = some oo := (hs''.2 o (Ne.symm hdo)).trans hoo'
      refine wpAny_bind (wpAny_dictEpoch hoo'' hdo' ?_)
      rw [if_neg (by simp)]
      exact wpAny_pure ⟨h'', x + 1, rfl, hrest, hlt, by rw [merged_take_succ kvs more x (k', v) hkv]; exact hd'', hoo'', hs'.trans hs''⟩
    · rintro b s' ⟨h', i, rfl, hr, hi, hd', hoo', hs'⟩
      have hin : i = eso.size := by
        rcases Nat.lt_or_ge i eso.size with h | h
        · have e : eso.size - i = (eso.size - (i + 1)) + 1 := by omega
          rw [e, List.range'_succ] at hr; exact nomatch hr
        · exact Nat.le_antisymm hi h
      refine wpAny_pure (hQ h' ?_ ⟨oo, eso, epo, hoo', hco, hdo', hko, hpo, hno⟩ hs')
      rw [hin, ← hlen, List.take_length] at hd'; exact hd'
  unfold mergeMapping
  refine wpAny_bind (wpAny_isInstance (b := true) ho.typeIs (by rfl) ?_)
  dsimp only
  rw [if_pos rfl]
  refine wpAny_bind (wpAny_specialOf ho.typeIs F.slot_dict_iter.lookup ?_)
  refine wpAny_bind (wpAny_pure ?_)
  rw [show (some (Value.builtin "dict.__iter__") == some (Value.builtin "dict.__iter__")) = true from beq_self_eq_true _]
  dsimp only
  rw [if_neg (by rw [hoS]; exact Bool.false_ne_true)]
  refine wpAny_bind (wpAny_dictEntries hod hdd ?_)
  split
  · refine wpAny_bind (wpAny_dictEntries hoo hdo' ?_)
    refine wpAny_bind ?_
    rw [← Array.forIn_toList]
    refine wpAny_forIn_list _ (fun rest _ s' => s' = s ∧ ∀ e ∈ rest, e ∈ eso) _ ?_ ?_ _ _ ⟨rfl, fun e he => by simpa using he⟩
    · rintro x rest b s' ⟨rfl, hr⟩
      obtain ⟨k, hk, _⟩ := hko x (hr x List.mem_cons_self)
      have nr := hnr k x.key hk
      have go : wpAny (model prog w) A (pure (ForInStep.yield PUnit.unit) : Sem (ForInStep PUnit)) (fun r s'' => match r with | .yield b' => s'' = s' ∧ ∀ e ∈ rest, e ∈ eso | .done b' => False) E s' := wpAny_pure ⟨rfl, fun e he => hr e (List.mem_cons_of_mem _ he)⟩
      cases hx : x.key with
      | ref b => exact absurd hx (nr b)
      | _ => exact wpAny_mono go (fun r s'' q => by cases r <;> simp_all) (fun _ _ h => h)
    · rintro b s' ⟨rfl, _⟩
      exact loop _ rfl
  · exact loop _ rfl
end
section
variable {M : Model} {A : Around} {E : Value → Shared → Prop} {s : Shared}
/-- {**m, k: v}: the new dict, what is taken over, then the pair in a dict of its own -/
theorem wpAny_dictDisplay_over {tv k v : Sem Value} {Q : Value → Shared → Prop}
    (h : wpAny M A tv (fun m s1 => ∀ E2, wpAny M A (mergeMapping s.heap.objs.size m false) (fun _ s2 => wpAny M A (subDict [(k, v)]) (fun sub s3 => ∀ E3, wpAny M A (mergeMapping s.heap.objs.size (.ref sub) false) (fun _ s4 => Q (.ref s.heap.objs.size) s4) E3 s3) E s2) E2 s1)
      E { s with heap := s.heap.push { cls := .type "dict", data := .dict #[] } }) :
    wpAny M A (dictDisplay [(none, tv), (some k, v)]) Q E s := by
  unfold dictDisplay
  simp only [List.forIn_cons, List.forIn_nil, List.isEmpty_nil, List.nil_append, List.length_cons, List.length_nil, pure_bind, bind_assoc, if_true, List.isEmpty_cons, Bool.false_eq_true, if_false, show (0 + 1 == 17) = false from rfl]
  refine wpAny_bind (wpAny_alloc ?_)
  refine wpAny_bind (wpAny_holding ?_)
  refine wpAny_mono h (fun m s1 h1 => ?_) fun _ _ e => e
  refine wpAny_bind (wpAny_onRaise (wpAny_tryCatch (wpAny_onRaise (wpAny_holding (wpAny_mono (h1 _) (fun _ s2 h2 => ?_) fun _ _ e => e)))))
  refine wpAny_bind (wpAny_holding (wpAny_mono h2 (fun sub s3 h3 => ?_) fun _ _ e => e))
  exact wpAny_bind (wpAny_onRaise (wpAny_holding (wpAny_mono (h3 _) (fun _ s4 h4 => wpAny_pure h4) fun _ _ e => e)))
end
end PySem

namespace Dk
open PySem (Str Addr Heap Value Shared sizeLine Expr Pos Obj wpAny model codeAny)
open L2 (V Hp HO upd Rd SqL SqT Key St VK TE PE PT PW PA Inv EP RelV Vals)
section
variable {X : L2.Cx} {pins : List (Addr × Obj)} {σ : St} {H : Hp} {s : Shared}
/-- {**o, k: v} -/
def tDcs (to tk tv : TE) : TE := fun σ H Q => ∀ D, H D = none → to σ (upd H D (.dK [])) fun x H1 => ∃ a kvs, x = .ref a ∧ D ≠ a ∧ Rd H1 a (.dK kvs) ∧ H1 D = some (.dK []) ∧ kvs.length < sizeLine ∧
  ∀ S, (upd H1 D (.dK kvs)) S = none → tk σ (upd (upd H1 D (.dK kvs)) S (.dK [])) fun y H2 => tv σ H2 fun z H3 => ∃ k, y = L2.kV k ∧ H3 D = some (.dK kvs) ∧ H3 S = some (.dK []) ∧ D ≠ S ∧ Q (.ref D) (upd (upd H3 S (.dK [(k, z)])) D (.dK (L2.putK kvs k z)))
theorem pe_dcs {o k v : Expr} {to tk tv : TE} {pos : Pos} (ho : PE X o to) (hk : PE X k tk) (hv : PE X v tv) : PE X (.Dict [none, some k] [o, v] pos) (tDcs to tk tv) := by
  refine ⟨fun pins s σ H Q I q => ?_⟩
  have hn := I.hok.fresh (Nat.le_refl s.heap.objs.size)
  have I1 := I.laid (a := s.heap.objs.size) (o := .dK []) (h' := s.heap.push { cls := .type "dict", data := .dict #[] }) (t' := s.toks) (fun _ _ q => Heap.get?_push_of_some _ q) (Nat.le_refl _) (L2.dk_empty s.heap I.big)
  show wpAny _ _ (do PySem.standAt pos; PySem.dictDisplay [(none, do let x ← PySem.eval o X.env; PySem.standAt pos; pure x), (some (PySem.eval k X.env), do let x ← PySem.eval v X.env; PySem.standAt pos; pure x)]) _ _ _
  refine PySem.wpAny_bind (PySem.wpAny_standAt (PySem.wpAny_dictDisplay_over ?_))
  refine PySem.wpAny_bind (L2.thn (ho.run pins _ σ _ _ I1 (q _ hn)) fun u s1 ⟨x, H1, I2, rx, a, kvs, ex, hne, hr, hD, hz, q1⟩ => PySem.wpAny_bind (PySem.wpAny_standAt (PySem.wpAny_pure ?_)))
  subst ex
  obtain rfl : u = Value.ref a := rx
  obtain ⟨z1, d1, vs, rel, dd⟩ := L2.dk_rd I2.hok hr
  obtain ⟨z0, d0, vs0, r0, dd0⟩ := L2.dk_of I2.hok hD
  cases r0
  have hl : kvs.length = vs.length := rel.length
  have nr : ∀ (k : Key) (v : Value), (L2.mixKind X.prog X.w).is k v = true → ∀ b, v ≠ .ref b := by
    intro k v h b e
    subst e
    rcases L2.keyIs_shape (show L2.keyIs k (.ref b) = true from h) with ⟨i, t, e1, e2⟩ | ⟨x, t, e1, e2⟩ <;> cases e2
  refine fun E2 => PySem.wpAny_mergeMapping (knd := L2.mixKind X.prog X.w) hne d1 dd0 dd nr (fun h1 dm da hs => ?_) (by simp only [List.length_nil]; omega)
  rw [PySem.merged_nil_of_nodup vs (by obtain ⟨_, _, _, _, _, _, _, _, nd⟩ := dd; exact nd)] at dm
  have he : ∃ q, h1.get? s.heap.objs.size = some q := let ⟨q, _, _, hq, _⟩ := dm; ⟨q, hq⟩
  have I3 := L2.d_write (t' := s1.toks) I2 (by rw [hD]; exact True.intro) hs he (L2.dk_new (H' := upd H1 s.heap.objs.size (.dK kvs)) z1 d0 rel dm)
  have hn2 := I3.hok.fresh (Nat.le_refl h1.objs.size)
  have I4 := I3.laid (a := h1.objs.size) (o := .dK []) (h' := h1.push { cls := .type "dict", data := .dict #[] }) (t' := s1.toks) (fun _ _ q => Heap.get?_push_of_some _ q) (Nat.le_refl _) (L2.dk_empty h1 I3.big)
  refine PySem.wpAny_subDict (knd := L2.mixKind X.prog X.w) (by simp) ?_
  refine PySem.evalPairs_cons ?_
  refine L2.thn (hk.run pins _ σ _ _ I4 (q1 _ hn2)) fun u2 s2 ⟨y, H2, I5, ry, q2⟩ => ?_
  refine PySem.wpAny_bind (L2.thn (hv.run pins s2 σ H2 _ I5 q2) fun w3 s3 ⟨zz, H3, I6, rz, kk, ey, hD3, hS3, hDS, q3⟩ => PySem.wpAny_bind (PySem.wpAny_standAt (PySem.wpAny_pure (PySem.evalPairs_nil ?_))))
  subst ey
  obtain ⟨z6, d6, vs6, r6, dd6⟩ := L2.dk_of I6.hok hS3
  cases r6
  refine ⟨[(kk, w3)], ⟨L2.kV_is ry, rfl, True.intro⟩, dd6, fun h2 dm2 hs2 E3 => ?_⟩
  have one : L2.KV [(kk, zz)] [(kk, w3)] := .cons ⟨rfl, rz⟩ .nil
  have he2 : ∃ q, h2.get? h1.objs.size = some q := let ⟨q, _, _, hq, _⟩ := dm2; ⟨q, hq⟩
  have I7 := L2.d_write (t' := s3.toks + 1) I6 (by rw [hS3]; exact True.intro) hs2 he2 (L2.dk_new (H' := upd H3 h1.objs.size (.dK [(kk, zz)])) (by rw [PySem.sizeLine_eq, List.length_singleton]; decide) d6 one dm2)
  have hD7 : (upd H3 h1.objs.size (.dK [(kk, zz)])) s.heap.objs.size = some (.dK kvs) := by rw [L2.upd_ne hDS]; exact hD3
  obtain ⟨z7, d7, vs7, r7, dd7⟩ := L2.dk_of I7.hok hD7
  have hl7 : kvs.length = vs7.length := r7.length
  have dsub : h2.DictOf (L2.mixKind X.prog X.w) h1.objs.size [(kk, w3)] := dm2
  refine PySem.wpAny_mergeMapping (knd := L2.mixKind X.prog X.w) hDS d6 dd7 dsub nr (fun h3 dm3 da3 hs3 => ?_) (by simp only [List.length_cons, List.length_nil]; omega)
  have he3 : ∃ q, h3.get? s.heap.objs.size = some q := let ⟨q, _, _, hq, _⟩ := dm3; ⟨q, hq⟩
  have hlp : (L2.putK kvs kk zz).length ≤ sizeLine := by have := L2.length_putK kvs kk zz; omega
  have I8 := L2.d_write (t' := s3.toks + 1) I7 (by rw [hD7]; exact True.intro) hs3 he3 (L2.dk_new (H' := upd (upd H3 h1.objs.size (.dK [(kk, zz)])) s.heap.objs.size (.dK (L2.putK kvs kk zz))) hlp d0 (r7.put kk rz) dm3)
  exact ⟨.ref s.heap.objs.size, _, I8, rfl, q3⟩

/-! ### a property -/
def tPropG (C : Addr) (sp : SpG) (ta : TE) : TE := fun σ H Q => ta σ H fun x H1 => ∃ a dx fs, x = .ref a ∧ H1 a = some (.ins C dx fs) ∧ sp [.ref a] H1 Q
variable {k n : Nat} {C p g a dx : Addr} {fs : List (Str × V)} {f x : Str} {fd : PySem.FuncData} {ps : List Str} {sp : SpG} {e : Expr} {pos p2 : Pos} {ta : TE} {Q : VK}
theorem getprop_g {b : Bool} {E' : Value → Shared → Prop} (I : Inv X pins σ H s) (ea : H a = some (.ins C dx fs)) (c : L2.Cls X.K C) (hp : L2.PropOf X.K C f p g)
    (F : FnG X.prog X.w X.K X.mg X.base k g fd ps sp) (hr : L2.Room (k + 1) X.A) (hg : X.A.guards = some []) (hb : All fd ps) (h : sp [.ref a] H Q) :
    wpAny (model X.prog X.w) X.A (PySem.getAttr (.ref a) f b) (EP X pins σ Q) E' s := by
  obtain ⟨mA, O, _, _, _, _⟩ := L2.ins_get I.hok ea
  obtain ⟨od, J, _⟩ := O.look
  obtain ⟨rest, hrec⟩ := hp.rec_
  have I1 := I.tok (s.toks + 1)
  have hl : ([Value.ref a] : List Value).length = ps.length := F.len _ _ _ h
  have hc : (PySem.W.clsIn X.K C).isSome = true := by
    obtain ⟨cd, hc, _⟩ := PySem.W.any_some c.hd
    rw [hc]
    rfl
  refine PySem.W.get_bind I.kIn J (PySem.W.plainGet_of (c.get f)).1 (PySem.W.findObj_data hc hp.at_ hp.get hp.tak) (PySem.W.plainGet_of (c.get f)).2 (PySem.wpAny_call (PySem.W.prop_get (s := { s with toks := s.toks + 1 }) I.kIn hrec ?_))
  refine PySem.codeAny_mono (F.run X.A.in1 X.stack { s with toks := s.toks + 1 } H ⟨[.ref a], []⟩ [.ref a] [.ref a] Q hr.in1 hg I1.env0.in1 (hb.to hl) (.cons rfl .nil) h) fun r s' hq => ?_
  obtain ⟨u, rfl, hq⟩ := hq
  obtain ⟨v, H', I3, rv, q3⟩ := I1.after hq
  show wpAny _ _ (PySem.handedOut u) _ _ _
  rw [PySem.W.handedOut_of (L2.handed_of rv)]
  exact PySem.wpAny_pure ⟨v, H', I3, rv, q3⟩
theorem pe_propG (he : PE X e ta) (c : L2.Cls X.K C) (hp : L2.PropOf X.K C f p g) (F : FnG X.prog X.w X.K X.mg X.base k g fd ps sp) (hr : L2.Room (k + 1) X.A) (hg : X.A.guards = some []) (hb : All fd ps)
    (hab : PySem.attributeBase e f X.env (PySem.eval e X.env) = PySem.eval e X.env) : PE X (.Attribute e f pos) (tPropG C sp ta) := by
  refine ⟨fun pins s σ H Q I h => ?_⟩
  refine L2.attr_of hab (L2.thn (he.run pins s σ H _ I h) fun u s1 ⟨x, H1, I1, rx, a, dx, fs, ex, ea, q⟩ => ?_)
  subst ex
  obtain rfl : u = Value.ref a := rx
  exact getprop_g I1 ea c hp F hr hg hb q
/-! ### an instance of a class without an __init__ -/
theorem pe_mk0 (M : Mk0 X.K C) (hg : L2.Gl X x) (hm : X.mg x = some (.ref C)) (nd : (x == ("__debug__" : Str)) = false) :
    PE X (.Call (.Name x p2) [] [] pos) (fun σ H Q => ∀ y dx, H y = none → H dx = none → dx ≠ y → Q (.ref y) (upd (upd H dx (.own y)) y (.ins C dx []))) := by
  refine ⟨fun pins s σ H Q I h => ?_⟩
  refine PySem.wpAny_Call_Name_kw (L2.ld_glob I hg hm ?_ nd)
  refine PySem.W.callWith_K0 I.kIn M.kp ?_
  have hq := h (s.heap.objs.size + 1) s.heap.objs.size (I.hok.fresh (Nat.le_succ _)) (I.hok.fresh (Nat.le_refl _)) (Nat.ne_of_lt (Nat.lt_succ_self _))
  have I2 := L2.Inv.made (C := C) I
  refine PySem.wpAny_call (L2.make_map0 I.kIn M.makes M.init (fun self => PySem.W.Looks.of_pure (PySem.W.oi_bind _)) ?_)
  have ob : ((s.heap.push PySem.W.emptyDict).push (PySem.W.instObj C s.heap.objs.size)).get? (s.heap.objs.size + 1) = some (PySem.W.instObj C s.heap.objs.size) := by
    have := Heap.get?_push_size (s.heap.push PySem.W.emptyDict) (o := PySem.W.instObj C s.heap.objs.size) rfl
    rwa [Heap.size_push] at this
  have t1 := NwA.type_at (M := model X.prog X.w) ob rfl
  have t2 : PySem.W.Looks (model X.prog X.w) ((s.heap.push PySem.W.emptyDict).push (PySem.W.instObj C s.heap.objs.size)) (PySem.isInstance (.ref (s.heap.objs.size + 1)) (.type "object")) true := t1.andThen (PySem.W.looks_mroIn I2.kIn M.top)
  refine PySem.codeAny_call_builtin PySem.W.oi_plain PySem.W.entry_oi (@PySem.W.check_slot (model X.prog X.w) _ _ _ "object.__init__" "object" "__init__" (.ref (s.heap.objs.size + 1)) [] [] _ PySem.W.oi_kind PySem.W.oi_split t2 (NwA.oi_args_any (.ref (s.heap.objs.size + 1)) [] []) ?_)
  rw [PySem.W.oi_run]
  exact PySem.wpAny_pure (And.intro rfl ⟨V.ref (s.heap.objs.size + 1), _, I2, rfl, hq⟩)
end
end Dk
end
/-! Snd10d -/
section
set_option linter.all false
set_option maxRecDepth 100000
set_option maxHeartbeats 4000000
/-! repr of data. -/
namespace Dk
open PySem (Str Addr Heap Value Shared sizeLine Expr Pos Obj wpAny model codeAny PyData)
open L2 (V Hp HO upd Rd SqL SqT Key St VK TE PE PT PW PA Inv EP RelV Vals CallR Dp DpAll)
theorem textFrom_le : ∀ (ts : List Str) (k : Nat) (acc : Str), (PySem.textFrom k acc ts).length ≤ acc.length + PySem.piled ts
  | [], k, acc => by show acc.length ≤ _; omega
  | t :: ts, k, acc => by
    have h := textFrom_le ts (k + 1) (acc ++ (if k > 0 then ", " else "" : String) ++ t)
    rw [PySem.piled_cons]
    show (PySem.textFrom (k + 1) (acc ++ (if k > 0 then ", " else "" : String) ++ t) ts).length ≤ _
    have e : ((if k > 0 then ", " else "" : String) : Str).length ≤ 2 := by split <;> decide
    rw [PySem.strLen_append, PySem.strLen_append] at h
    omega
theorem join_le : ∀ ts : List Str, (Str.join ", " ts).length ≤ PySem.piled ts
  | [] => by decide
  | t :: ts => by
    have := PySem.join_length_add (t :: ts) (by simp)
    omega
theorem log_lt {i : Int} (h : i.natAbs < 2 ^ 1900) : i.natAbs.log2 < 1920 := by
  by_cases h0 : i.natAbs = 0
  · rw [h0]; decide
  · exact (Nat.log2_lt h0).mpr (Nat.lt_of_lt_of_le h (Nat.pow_le_pow_right (by decide) (by decide)))
mutual
theorem shown_le : ∀ (d : D) (n : Nat), showN d = some n → (toPy d).shown.length ≤ n ∧ (toPy d).showable = true ∧ (toPy d).hasDict = false ∧ plain d = true
  | .non, n, h => by simp only [showN] at h; cases h; simp only [toPy, PyData.shown, PyData.showable, PyData.hasDict, plain]; exact ⟨by decide, by trivial, by trivial, by trivial⟩
  | .bl b, n, h => by simp only [showN] at h; cases h; simp only [toPy, PyData.shown, PyData.showable, PyData.hasDict, plain]; exact ⟨by cases b <;> decide, by trivial, by trivial, by trivial⟩
  | .int i, n, h => by
    simp only [showN] at h
    split at h
    · rename_i hi
      cases h
      simp only [toPy, PyData.shown, PyData.showable, PyData.hasDict, plain]
      exact ⟨PyProof.Rows.int_text_len_1921 (log_lt hi), by rw [decide_eq_true_eq]; exact log_lt hi, by trivial, by trivial⟩
    · cases h
  | .lst l, n, h => by
    simp only [showN] at h
    obtain ⟨m, hm, rfl⟩ := Option.map_eq_some_iff.mp h
    obtain ⟨a, b, c, d⟩ := showns_le l m hm
    simp only [toPy, PyData.shown, PyData.showable, PyData.hasDict, plain]
    refine ⟨?_, b, c, d⟩
    have := textFrom_le (PyData.shownAll (toPys l)) 0 "["
    unfold PySem.listText
    rw [PySem.strLen_append]
    have e1 : (("[" : String) : Str).length = 1 := rfl
    have e2 : (("]" : String) : Str).length = 1 := rfl
    omega
  | .tup l, n, h => by
    simp only [showN] at h
    obtain ⟨m, hm, rfl⟩ := Option.map_eq_some_iff.mp h
    obtain ⟨a, b, c, d⟩ := showns_le l m hm
    simp only [toPy, PyData.shown, PyData.showable, PyData.hasDict, plain]
    refine ⟨?_, b, c, d⟩
    have := join_le (PyData.shownAll (toPys l))
    unfold PySem.tupleText
    rw [PySem.strLen_append, PySem.strLen_append]
    have e1 : (("(" : Str)).length = 1 := rfl
    have e2 : ((if (PyData.shownAll (toPys l)).length == 1 then ",)" else ")" : String) : Str).length ≤ 2 := by split <;> decide
    omega
  | .str _, n, h => by simp [showN] at h
  | .dct _, n, h => by simp [showN] at h
  | .ins _ _, n, h => by simp [showN] at h
  | .cell _, n, h => by simp [showN] at h
  | .cls _, n, h => by simp [showN] at h
  | .ty _, n, h => by simp [showN] at h
  | .fn _, n, h => by simp [showN] at h
theorem showns_le : ∀ (l : List D) (n : Nat), showNs l = some n → PySem.piled (PyData.shownAll (toPys l)) ≤ n ∧ PyData.showableAll (toPys l) = true ∧ PyData.hasDictAll (toPys l) = false ∧ plains l = true
  | [], n, h => by simp only [showNs] at h; cases h; simp only [toPys, PyData.shownAll, PyData.showableAll, PyData.hasDictAll, plains]; exact ⟨by decide, by trivial, by trivial, by trivial⟩
  | x :: xs, n, h => by
    simp only [showNs] at h
    split at h
    · rename_i a b ha hb
      cases h
      obtain ⟨a1, a2, a3, a4⟩ := shown_le x _ ha
      obtain ⟨b1, b2, b3, b4⟩ := showns_le xs _ hb
      simp only [toPys, PyData.shownAll, PyData.showableAll, PyData.hasDictAll, plains, PySem.piled_cons, a2, a3, a4, b2, b3, b4, Bool.and_self, Bool.or_self]
      exact ⟨by omega, trivial, trivial, trivial⟩
    · cases h
end
/-- repr(x), x data -/
def rRepr (K : Kx) (cad : String → Option Addr) : List V → Hp → VK → Prop := fun xs H Q => ∃ ρ Y d v n, xs = [v] ∧ Rb K cad Y ρ H d v ∧ showN d = some n ∧ n ≤ LIM ∧ depth d ≤ 60 ∧ Q (.str (st (shwPy d))) H
theorem call_repr {X : L2.Cx} (cad : String → Option Addr) (hg : X.A.guards = some []) (hu : X.A.units + 65 < PySem.cLine) : CallR X (.builtin "repr") (rRepr X.K cad) := by
  rintro pins s σ H xs us Q I r ⟨ρ, Y, d, v, n, rfl, hr, hn, hl, hd, q⟩
  obtain ⟨u, rfl, ru⟩ := L2.vals1 r
  obtain ⟨a1, a2, a3, a4⟩ := shown_le d n hn
  have es : ∀ x : Str, st x.cps.toList = x := fun x => by cases x; simp [st]
  have eq : st (shwPy d) = (toPy d).shown := es _
  rw [eq] at q
  have sz : (toPy d).shown.length ≤ sizeLine := Nat.le_trans a1 (Nat.le_trans hl lim_line)
  have byRef : ∀ p, u = Value.ref p → wpAny (model X.prog X.w) X.A (PySem.call (.builtin "repr") [u]) (EP X pins σ Q) X.xe s := by
    intro p e
    subst e
    obtain ⟨as, rd⟩ := Dp.reads I (toPy d) v (.ref p) (rb_dp a4 hr) ru
    refine PySem.repr_of_reads' rd a2 (fun h => by rw [a3] at h; cases h) hg (by rw [depth_toPy d a4]; omega) (fun _ _ e => e) (fun h' t tk hk => ?_) sz
    exact ⟨.str (toPy d).shown, H, I.kept (t' := tk) hk, ⟨_, rfl⟩, q⟩
  cases d with
  | non =>
    obtain rfl := rb_non hr
    cases ru
    exact PySem.P.repr_of_none ⟨.str _, H, I.tok _, ⟨_, rfl⟩, q⟩
  | bl b =>
    obtain rfl := rb_bl hr
    cases ru
    exact PySem.P.repr_of_bool ⟨.str _, H, I.tok _, ⟨_, rfl⟩, q⟩
  | int i =>
    obtain rfl := rb_int hr
    obtain ⟨t, rfl⟩ := ru
    have hi : i.natAbs < 2 ^ 1900 := by
      simp only [showN] at hn
      split at hn
      · assumption
      · cases hn
    exact PySem.P.repr_of_int (log_lt hi) ⟨.str _, H, I.tok _, ⟨_, rfl⟩, q⟩
  | tup l =>
    obtain ⟨p, vs, rfl, _⟩ := rb_tup hr
    exact byRef p ru
  | lst l =>
    obtain ⟨p, vs, rfl, _⟩ := rb_lst hr
    exact byRef p ru
  | str => simp [showN] at hn
  | dct => simp [showN] at hn
  | ins => simp [showN] at hn
  | cell => simp [showN] at hn
  | cls => simp [showN] at hn
  | ty => simp [showN] at hn
  | fn => simp [showN] at hn
end Dk
end
/-! Snd12 -/
section
set_option linter.all false
set_option maxRecDepth 100000
set_option maxHeartbeats 1000000
/-! Targets. -/
namespace Dk
open PySem (Str Addr Heap Value Shared sizeLine Expr Pos)
open L2 (V Hp HO upd Rd SqL SqT Key St VK TE PE PT PW PA PG PGs)

section
variable {K : Kx} {P : Prg} {M : CM} {cad : String → Option Addr} {k : Nat} {cc : Cc} {sc : PySem.Scope} {X : L2.Cx} {W : Addr → Prop} {ρ : List Addr} {Y : Addr → Prop} {E E' E1 : Env} {S S' : Sto} {d : D} {fl : Fl} {σ σ' : St} {H : Hp} {Q : VK} {e e1 e2 e3 : Expr} {es : List Expr} {cs : CEs} {a b c : CE} {pos p : Pos} {n : Nat}
theorem EOk.slots (ok : EOk K cad W ρ Y E S σ H) (hl : E'.length = σ'.length)
    (h : ∀ (i : Nat) x, E'[i]? = some (some x) → (E[i]? = some (some x) ∧ σ'[i]? = σ[i]?) ∨ (∃ d v, x = (d, false) ∧ σ'[i]? = some (some v) ∧ Rep K cad Y ρ H d v)) : EOk K cad W ρ Y E' S σ' H := by
  have ow : ∀ (i : Nat) d, E'[i]? = some (some (d, true)) → E[i]? = some (some (d, true)) ∧ σ'[i]? = σ[i]? := fun i d q => by
    rcases h i _ q with z | ⟨_, _, z, _⟩
    · exact z
    · cases z
  refine ⟨ok.toSOk, fun i d q => ?_, fun i d q => ?_, fun i j d e p hij q1 q2 s1 s2 => ?_, hl⟩
  · rcases h i _ q with ⟨z1, z2⟩ | ⟨d', v, z, s, r⟩
    · rw [z2]; exact ok.val i d z1
    · cases z; exact ⟨v, s, r⟩
  · obtain ⟨z1, z2⟩ := ow i d q
    rw [z2]; exact ok.own i d z1
  · obtain ⟨a1, a2⟩ := ow i d q1
    obtain ⟨b1, b2⟩ := ow j e q2
    rw [a2] at s1; rw [b2] at s2
    exact ok.sep i j d e p hij a1 b1 s1 s2
theorem EOk.put (ok : EOk K cad W ρ Y E S σ H) {i : Nat} {v : V} (r : Rep K cad Y ρ H d v) : EOk K cad W ρ Y (setE E i (d, false)) S (σ.set i (some v)) H := by
  refine ok.slots (by unfold setE; rw [List.length_set, List.length_set]; exact ok.ln) fun j x q => ?_
  unfold setE at q
  by_cases hij : i = j
  · subst hij
    have hi : i < E.length := by
      have := (List.getElem?_eq_some_iff.mp q).1
      rwa [List.length_set] at this
    rw [List.getElem?_set_self hi] at q
    cases q
    exact .inr ⟨d, v, rfl, List.getElem?_set_self (by rw [← ok.ln]; exact hi), r⟩
  · rw [List.getElem?_set_ne hij] at q
    exact .inl ⟨q, List.getElem?_set_ne hij⟩

/-- a target of names takes what stands for d -/
def rG (K : Kx) (cad : String → Option Addr) (W : Addr → Prop) (sl : List Nat) (d : D) (E E1 : Env) : L2.TG := fun v σ H Q => ∃ ρ Y S, EOk K cad W ρ Y E S σ H ∧ Rep K cad Y ρ H d v ∧
  ∀ σ', EOk K cad W ρ Y E1 S σ' H → (∀ i, i ∉ sl → σ'[i]? = σ[i]?) → σ'.length = σ.length → Q σ' H
def rGs (K : Kx) (cad : String → Option Addr) (W : Addr → Prop) (sl : List Nat) (l : List D) (E E1 : Env) : L2.TGs := fun vs σ H Q => ∃ ρ Y S, EOk K cad W ρ Y E S σ H ∧ Reps K cad Y ρ H l vs ∧
  ∀ σ', EOk K cad W ρ Y E1 S σ' H → (∀ i, i ∉ sl → σ'[i]? = σ[i]?) → σ'.length = σ.length → Q σ' H
theorem PG.sub {e : Expr} {t t' : L2.TG} (h : PG X e t) (q : ∀ v σ H Q, t' v σ H Q → t v σ H Q) : PG X e t' := ⟨fun pins s σ H v u Q I r z => h.run pins s σ H v u Q I r (q v σ H Q z)⟩
theorem PGs.sub {e : List Expr} {t t' : L2.TGs} (h : PGs X e t) (q : ∀ v σ H Q, t' v σ H Q → t v σ H Q) : PGs X e t' := by
  constructor
  intro pins s σ H vs us Q I r z
  exact h.run pins s σ H vs us Q I r (q vs σ H Q z)
abbrev SoundG (cad : String → Option Addr) (X : L2.Cx) (e : Expr) (t : Tg) : Prop := ∀ (W : Addr → Prop) (d : D) (E E1 : Env), tgt t d E = some E1 → PG X e (rG X.K cad W (slots t) d E E1)
theorem seqO_cons {α : Type} {a : Option α} {l : List (Option α)} {r : List α} (h : seqO (a :: l) = some r) : ∃ x r', a = some x ∧ seqO l = some r' ∧ r = x :: r' := by
  cases a with
  | none => simp [seqO] at h
  | some x =>
    simp only [seqO] at h
    obtain ⟨r', a, b⟩ := Option.map_eq_some_iff.mp h
    exact ⟨x, r', rfl, a, b.symm⟩
theorem assign_len (env : PySem.Env) : ∀ es : List Expr, (PySem.assignEach es env).length = es.length
  | [] => rfl
  | e :: es => by
    have := assign_len env es
    cases e <;> simp only [PySem.assignEach, List.length_cons, this]
theorem assign_nostar (env : PySem.Env) : ∀ es : List Expr, es.any isStar = false → (PySem.assignEach es env).findIdx? (·.1) = none
  | [], _ => rfl
  | e :: es, h => by
    rw [List.any_cons, Bool.or_eq_false_iff] at h
    have := assign_nostar env es h.2
    cases e <;> first | (simp [isStar] at h; done) | (simp only [PySem.assignEach, List.findIdx?_cons]; rw [this]; rfl)
theorem assign_map (env : PySem.Env) {e : Expr} {es : List Expr} (h : isStar e = false) : (PySem.assignEach (e :: es) env).map (·.2) = PySem.assign e env :: (PySem.assignEach es env).map (·.2) := by
  cases e <;> first | (simp [isStar] at h; done) | rfl
theorem ix_get {N : List Str} {x : Str} {i : Nat} (h : ixOf N x = some i) : N[i]? = some x := by
  unfold ixOf at h
  obtain ⟨hi, hp, _⟩ := List.findIdx?_eq_some_iff_getElem.mp h
  rw [List.getElem?_eq_getElem hi]
  simpa using hp
theorem g_sound (g : Gd P M cad k cc sc X) : ∀ (n : Nat) (e : Expr) (t : Tg), cTg n cc sc e = some t → SoundG cad X e t
  | 0, e, t, h => by simp [cTg] at h
  | n + 1, e, t, h => by
    intro W d E E1 ht
    cases e <;> simp only [cTg] at h <;> first | (cases h; done) | skip
    · rename_i x pos
      split at h
      · rename_i hl
        obtain ⟨i, hi, rfl⟩ := Option.map_eq_some_iff.mp h
        simp only [tgt] at ht
        cases ht
        obtain ⟨l1, l2⟩ := g.loc x hl
        refine PG.sub (L2.pg_name (by rw [g.nm]; exact g.nd) (by rw [g.nm]; exact ix_get hi) l1 l2) fun v σ H Q z => ?_
        obtain ⟨ρ, Y, S, ok, r, q⟩ := z
        exact q _ (ok.put r) (fun j hj => List.getElem?_set_ne (by intro q; subst q; exact hj (by simp [slots]))) List.length_set
      · cases h
    · rename_i es k' pos
      split at h
      · cases h
      · rename_i hns
        obtain ⟨ts, hts, rfl⟩ := Option.map_eq_some_iff.mp h
        have hns' : es.any isStar = false := by simpa using hns
        cases d <;> simp only [tgt] at ht <;> first | (cases ht; done) | skip
        rename_i l
        have main : ∀ (es : List Expr) (ts : List Tg) (l : List D) (E E1 : Env), es.any isStar = false → seqO (es.map (cTg n cc sc)) = some ts → tgt.go ts l E = some E1 → PGs X es (rGs X.K cad W (slots.go ts) l E E1) ∧ l.length = es.length := by
          intro es
          induction es with
          | nil =>
            intro ts l E E1 _ h1 h2
            simp only [List.map_nil, seqO] at h1
            cases h1
            cases l with
            | nil =>
              simp only [tgt.go] at h2
              cases h2
              refine ⟨PGs.sub L2.pgs_nil fun v σ H Q z => ?_, rfl⟩
              obtain ⟨ρ, Y, S, ok, r, q⟩ := z
              simp only [Reps] at r
              exact ⟨r, q _ ok (fun _ _ => rfl) rfl⟩
            | cons => simp [tgt.go] at h2
          | cons e es ih =>
            intro ts l E E1 h0 h1 h2
            rw [List.any_cons, Bool.or_eq_false_iff] at h0
            obtain ⟨t, ts', a1, a2, rfl⟩ := seqO_cons h1
            cases l with
            | nil => simp [tgt.go] at h2
            | cons d l =>
              simp only [tgt.go] at h2
              split at h2
              · rename_i E2 hE2
                obtain ⟨i1, i2⟩ := ih ts' l E2 E1 h0.2 a2 h2
                have hd := g_sound g n e t a1 W d E E2 hE2
                refine ⟨PGs.sub (L2.pgs_cons hd i1 (assign_map _ h0.1)) fun vs σ H Q z => ?_, by simp [i2]⟩
                obtain ⟨ρ, Y, S, ok, r, q⟩ := z
                simp only [Reps] at r
                obtain ⟨v, r', rfl, r1, r2⟩ := r
                refine ⟨v, r', rfl, ρ, Y, S, ok, r1, fun σ1 ok1 s1 n1 => ⟨ρ, Y, S, ok1, r2, fun σ2 ok2 s2 n2 => q σ2 ok2 (fun i hi => ?_) (n2.trans n1)⟩⟩
                simp only [slots.go, List.mem_append, not_or] at hi
                rw [s2 i hi.2, s1 i hi.1]
              · cases h2
        obtain ⟨m1, m2⟩ := main es ts l E E1 hns' hts ht
        refine PG.sub (L2.pg_tup g.calm m1 (assign_len _ es) (assign_nostar _ es hns')) fun v σ H Q z => ?_
        obtain ⟨ρ, Y, S, ok, r, q⟩ := z
        obtain ⟨p, vs, rfl, h1, h2⟩ := rb_tup (.inl r)
        refine ⟨p, vs, rfl, h1, by rw [h2.length, m2], ρ, Y, S, ok, h2, fun σ' ok' s n => q σ' ok' (by simpa only [slots] using s) n⟩
end
end Dk
end
/-! Snd12b -/
section
set_option linter.all false
set_option maxRecDepth 100000
set_option maxHeartbeats 1000000
/-! Ranges of any size. -/
namespace Dk
open PySem
open L2 (V Hp HO upd Rd SqL SqT Key St VK TE PE PA PI It Inv)
theorem turn_long {pr : Program} {w : World} {K : Kx} {tg : Expr} (it : Addr) (lo : Int) (n : Nat) : L2.Turn pr w K tg (L2.Itr lo n) [it] it (fun i h => IsLongIter h it (lo + (i : Nat) * 1) ((n : Int) - (i : Nat)) 1) where
  mem := by simp
  obj := fun i h st b hb => by
    obtain rfl : b = it := by simpa using hb
    exact ⟨_, st, fun v q => nomatch (show Data.fields _ = Data.cell v from q)⟩
  keep := fun i h h' st k => k it (by simp) _ st
  item := by
    intro X hP hw hK hc i pins s σ H E I hf st hg
    subst hP hw hK
    obtain ⟨f0, f1, f2, f3, f4, f5⟩ := hf it (by simp)
    have lt : (0 : Int) < (n : Int) - (i : Nat) := by have : i < n := hg; omega
    refine wpAny_pyNext_long_item st lt fun g st' sb => ?_
    have st2 : IsLongIter g it (lo + ((i + 1 : Nat) : Int) * 1) ((n : Int) - ((i + 1 : Nat) : Int)) 1 := by
      have e1 : lo + ((i + 1 : Nat) : Int) * 1 = lo + (i : Nat) * 1 + 1 := by omega
      have e2 : (n : Int) - ((i + 1 : Nat) : Int) = (n : Int) - (i : Nat) - 1 := by omega
      rw [e1, e2]
      exact st'
    have I1 : Inv X pins σ H { s with heap := g, toks := s.toks + 1 } := I.turned (fun b o hb e => (sb.2 b hb).trans e) f0 f1 f3 f4 f5
    refine ⟨_, rfl, L2.go_of (s := { s with heap := g, toks := s.toks + 1 }) (n := "longrange_iterator") st2 rfl rfl (by decide) ⟨.int (lo + i), H, I1, ⟨s.toks, ?_⟩, ⟨rfl, rfl⟩, st2, fun b hb => (hf b hb).1⟩⟩
    rw [Int.mul_one]
  done := by
    intro X hP hw hK hc i pins s σ H E I hf st hg
    subst hP hw hK
    obtain ⟨f0, f1, f2, f3, f4, f5⟩ := hf it (by simp)
    refine wpAny_pyNext_long_end (I.ok.hd hc) st (by have : n ≤ i := hg; omega) fun g eb => ⟨rfl, ?_⟩
    exact I.turned (t' := s.toks) (fun b o hb e => eb b o hb e) f0 f1 f3 f4 f5
  self := fun _ _ _ _ _ st h => wpAny_pyIter_longiter st h
/-- a range object just made is walked, whatever its size -/
theorem rg_it {X : L2.Cx} {tg : Expr} {pins : List (Addr × Obj)} {σ : St} {H : Hp} {s : Shared} {R : It → Hp → Prop} {E : Value → Shared → Prop} {lo hi : Int} {t u v : Tok} {tk : Nat} (I : Inv X pins σ H s) (q : R (L2.Itr lo (hi - lo).toNat) H) :
    wpAny (model X.prog X.w) X.A (pyIter (.ref s.heap.objs.size)) (L2.PIE X pins σ tg R) E { s with heap := s.heap.push { cls := .type "range", data := .fields #[.int lo t, .int hi u, .int 1 v] }, toks := tk } := by
  generalize ho : ({ cls := .type "range", data := .fields #[.int lo t, .int hi u, .int 1 v] } : Obj) = ob
  have hr : PySem.IsRange (s.heap.push ob) s.heap.objs.size lo hi 1 t u v := by subst ho; exact IsRange.new ..
  have I1 : Inv X pins σ H { s with heap := s.heap.push ob, toks := tk } := I.kept fun b o e => Heap.get?_push_of_some _ e
  have e1 : lo + ((0 : Nat) : Int) * 1 = lo := by simp
  have e2 : (((hi - lo).toNat : Nat) : Int) - ((0 : Nat) : Int) = Builtin.Range.rangeSize lo hi 1 := by rw [rangeSize_one]; split <;> omega
  have fin : ∀ (T : String) (tn : Nat → Heap → Prop), L2.Turn X.prog X.w X.K tg (L2.Itr lo (hi - lo).toNat) [(s.heap.push ob).objs.size] (s.heap.push ob).objs.size tn → (tn 0 ((s.heap.push ob).push { cls := .type T, data := .fields #[rawInt lo, rawInt (Builtin.Range.rangeSize lo hi 1), rawInt 1] })) →
      L2.PIE X pins σ tg R (.ref (s.heap.push ob).objs.size) { s with heap := (s.heap.push ob).push { cls := .type T, data := .fields #[rawInt lo, rawInt (Builtin.Range.rangeSize lo hi 1), rawInt 1] }, toks := tk } := by
    intro T tn ht h0
    refine ⟨_, [(s.heap.push ob).objs.size], tn, _, H, rfl, I1.kept (t' := tk) fun b o e => Heap.get?_push_of_some _ e, ht, h0, fun b hb => ?_, q⟩
    obtain rfl : b = (s.heap.push ob).objs.size := by simpa using hb
    exact I1.fpOk (Nat.le_refl _) (I1.hok.fresh (Nat.le_refl _))
  cases hs : Builtin.Range.small lo hi 1 with
  | true =>
    refine wpAny_pyIter_range hr hs (fin "range_iterator" _ (L2.turn_range _ lo (hi - lo).toNat) ?_)
    show IsRangeIter _ _ (lo + ((0 : Nat) : Int) * 1) ((((hi - lo).toNat : Nat) : Int) - ((0 : Nat) : Int)) 1
    rw [e1, e2]
    exact Heap.get?_push_size _ rfl
  | false =>
    refine wpAny_pyIter_longrange hr hs (fin "longrange_iterator" _ (turn_long _ lo (hi - lo).toNat) ?_)
    show IsLongIter _ _ (lo + ((0 : Nat) : Int) * 1) ((((hi - lo).toNat : Nat) : Int) - ((0 : Nat) : Int)) 1
    rw [e1, e2]
    exact Heap.get?_push_size _ rfl
def iRg1 (ta : L2.TA) : L2.TI := fun σ H R => ta σ H fun vs H1 => ∃ j : Int, vs = [.int j] ∧ R (L2.Itr 0 j.toNat) H1
def iRg2 (ta : L2.TA) : L2.TI := fun σ H R => ta σ H fun vs H1 => ∃ i j : Int, vs = [.int i, .int j] ∧ R (L2.Itr i (j - i).toNat) H1
section
variable {X : L2.Cx} {tg a b : Expr} {ta : L2.TA} {p pos : Pos}
theorem pi_rg1 (hg : L2.Gl X "range") (hm : X.mg "range" = none) (ha : PA X [a] ta) (hs : starEach [a] X.env = [(false, eval a X.env)]) : PI X tg (.Call (.Name "range" p) [a] [] pos) (iRg1 ta) := by
  constructor
  intro pins s σ H T I h
  refine PyProof.Rows.Call_ (L2.ld_blt I hg hm PyProof.Rows.boot_range (PyProof.Rows.callWith_type1 (L2.thn (ha.run pos pins s σ H _ I h) fun us s1 hu => ?_) hs rfl))
  obtain ⟨vs, H1, I1, r1, j, ex, q⟩ := hu
  subst ex
  cases r1 with
  | cons r rr =>
    cases rr
    obtain ⟨t, rfl⟩ := r
    exact PySem.call_range_1 (rg_it I1 (by simpa using q))
theorem pi_rg2 (hg : L2.Gl X "range") (hm : X.mg "range" = none) (ha : PA X [a, b] ta) (hs : starEach [a, b] X.env = [(false, eval a X.env), (false, eval b X.env)]) (hs2 : starEach [b] X.env = [(false, eval b X.env)]) :
    PI X tg (.Call (.Name "range" p) [a, b] [] pos) (iRg2 ta) := by
  constructor
  intro pins s σ H T I h
  refine PyProof.Rows.Call_ (L2.ld_blt I hg hm PyProof.Rows.boot_range (PyProof.Rows.callWith_type1 (L2.thn (ha.run pos pins s σ H _ I h) fun us s1 hu => ?_) (by rw [hs, hs2]) (by rw [hs2]; rfl)))
  obtain ⟨vs, H1, I1, r1, i, j, ex, q⟩ := hu
  subst ex
  cases r1 with
  | cons r rr =>
    cases rr with
    | cons r' rr =>
      cases rr
      obtain ⟨t, rfl⟩ := r
      obtain ⟨t', rfl⟩ := r'
      exact PySem.call_range_2 (rg_it I1 q)
end
end Dk
end
/-! Snd13 -/
section
set_option linter.all false
set_option maxRecDepth 100000
set_option maxHeartbeats 1000000
/-! What is walked. -/
namespace Dk
open PySem (Str Addr Heap Value Shared sizeLine Expr Pos)
open L2 (V Hp HO upd Rd SqL SqT Key St VK TE PE PT PW PA PG PGs PI It)

/-- at each later moment the walk gives the items one by one -/
def IOk (K : Kx) (cad : String → Option Addr) (xs : List D) (J : It) (ρ : List Addr) (Y : Addr → Prop) (H : Hp) : Prop :=
  ∀ ρ' Y' H', (∃ l, ρ' = ρ ++ l) → Go Y H Y' H' → Dom Y' H' → ∀ i, i ≤ xs.length → (i = xs.length → J.stop i H') ∧ (∀ d, xs[i]? = some d → J.go i H' ∧ ∀ v H'', J.yld i H' v H'' → Ex H' H'' ∧ Rep K cad Y' ρ' H'' d v)
def rI (K : Kx) (cad : String → Option Addr) (W : Addr → Prop) (xs : List D) (E : Env) (S : Sto) (E' : Env) (S' : Sto) : L2.TI := fun σ H R => ∃ ρ Y, EOk K cad W ρ Y E S σ H ∧
  ∀ ρ' Y' H' J, Post W ρ Y H ρ' Y' H' → EOk K cad W ρ' Y' E' S' σ H' → IOk K cad xs J ρ' Y' H' → R J H'
section
variable {K : Kx} {P : Prg} {M : CM} {cad : String → Option Addr} {k : Nat} {cc : Cc} {sc : PySem.Scope} {X : L2.Cx} {W : Addr → Prop} {ρ : List Addr} {Y : Addr → Prop} {E E' E1 : Env} {S S' : Sto} {d : D} {fl : Fl} {σ σ' : St} {H : Hp} {Q : VK} {e e1 e2 e3 tg : Expr} {es : List Expr} {cs : CEs} {a b c : CE} {pos p : Pos} {n : Nat}
theorem PI.sub {t t' : L2.TI} (h : PI X tg e t) (q : ∀ σ H R, t' σ H R → t σ H R) : PI X tg e t' := ⟨fun pins s σ H R I z => h.run pins s σ H R I (q σ H R z)⟩
abbrev SoundI (P : Prg) (M : CM) (cad : String → Option Addr) (X : L2.Cx) (tg e : Expr) (c : CI) : Prop := ∀ (W : Addr → Prop) (E : Env) (S : Sto) (xs : List D) (E' : Env) (S' : Sto), itr P M.call M.make c E S = some (.ok xs, E', S') → PI X tg e (rI X.K cad W xs E S E' S')

theorem iok_list {p : Addr} {l : List D} {vs : List V} (h : (¬ Y p ∧ Rd H p (.lst vs)) ∨ WrL K p vs) (r : Reps K cad Y ρ H l vs) : IOk K cad l (L2.Itl K p) ρ Y H := by
  intro ρ' Y' H' pr g dm i hi
  have r' := r.mono g pr
  have h' : SqL K H' p vs := (h.elim (fun z => Or.inl (rd_go g z.1 z.2).2) Or.inr : SqE K H' p vs).sq
  refine ⟨fun e => ⟨vs, h', by rw [r.length]; omega⟩, fun d hd => ?_⟩
  obtain ⟨v, hv, rv⟩ := r'.get hd
  refine ⟨⟨vs, v, h', hv⟩, fun w H'' y => ?_⟩
  obtain ⟨rfl, q⟩ := y
  have := q vs h'
  rw [hv] at this; cases this
  exact ⟨Ex.refl, rv⟩
theorem iok_tup {p : Addr} {l : List D} {vs : List V} (h : (¬ Y p ∧ Rd H p (.tup vs)) ∨ WrT K p vs) (r : Reps K cad Y ρ H l vs) : IOk K cad l (L2.Itt K p) ρ Y H := by
  intro ρ' Y' H' pr g dm i hi
  have r' := r.mono g pr
  have h' : SqT K H' p vs := by
    rcases h with ⟨n, h⟩ | h
    · exact .inl (rd_go g n h).2
    · exact .inr h
  refine ⟨fun e => ⟨vs, h', by rw [r.length]; omega⟩, fun d hd => ?_⟩
  obtain ⟨v, hv, rv⟩ := r'.get hd
  refine ⟨⟨vs, v, h', hv⟩, fun w H'' y => ?_⟩
  obtain ⟨rfl, q⟩ := y
  have := q vs h'
  rw [hv] at this; cases this
  exact ⟨Ex.refl, rv⟩
theorem iok_str {s : List Nat} : IOk K cad (s.map fun c => .str [c]) (L2.Its (st s)) ρ Y H := by
  intro ρ' Y' H' pr g dm i hi
  rw [List.length_map] at hi ⊢
  have hz : (st s).cps.size = s.length := by simp [st]
  refine ⟨fun e => by show (st s).cps.size ≤ i; omega, fun d hd => ?_⟩
  rw [List.getElem?_map] at hd
  obtain ⟨c, hc, rfl⟩ := Option.map_eq_some_iff.mp hd
  have hi' : i < s.length := (List.getElem?_eq_some_iff.mp hc).1
  refine ⟨by show i < (st s).cps.size; omega, fun w H'' y => ?_⟩
  obtain ⟨rfl, c', hc', rfl⟩ := y
  refine ⟨Ex.refl, ?_⟩
  have : (st s).cps[i]? = some c := by simp [st, hc]
  rw [this] at hc'
  cases hc'
  simp only [Rep, st]
theorem iok_rng {lo : Int} {n : Nat} : IOk K cad ((List.range n).map fun (j : Nat) => D.int (lo + (j : Int))) (L2.Itr lo n) ρ Y H := by
  intro ρ' Y' H' pr g dm i hi
  rw [List.length_map, List.length_range] at hi ⊢
  refine ⟨fun e => by show n ≤ i; omega, fun d hd => ?_⟩
  rw [List.getElem?_map] at hd
  obtain ⟨c, hc, rfl⟩ := Option.map_eq_some_iff.mp hd
  have hi' : i < n := by have := (List.getElem?_eq_some_iff.mp hc).1; rwa [List.length_range] at this
  have hc' : c = i := by rw [List.getElem?_range hi'] at hc; cases hc; rfl
  subst hc'
  refine ⟨hi', fun w H'' y => ?_⟩
  obtain ⟨rfl, rfl⟩ := y
  exact ⟨Ex.refl, by simp only [Rep]⟩
theorem enum_get : ∀ (l : List D) (k i : Nat), (enumL k l)[i]? = (l[i]?).map fun x => .tup [.int ((k + i : Nat) : Int), x]
  | [], _, _ => by simp [enumL]
  | x :: r, k, 0 => by simp [enumL]
  | x :: r, k, i + 1 => by
    simp only [enumL, List.getElem?_cons_succ]
    rw [enum_get r (k + 1) i]
    congr 1
    funext x
    congr 4
    omega
theorem enum_len (l : List D) (k : Nat) : (enumL k l).length = l.length := by
  induction l generalizing k with
  | nil => rfl
  | cons x r ih => simp [enumL, ih]
theorem iok_enum {p : Addr} {l : List D} {vs : List V} (h : (¬ Y p ∧ Rd H p (.lst vs)) ∨ WrL K p vs) (r : Reps K cad Y ρ H l vs) : IOk K cad (enumL 0 l) (L2.Ite K p) ρ Y H := by
  intro ρ' Y' H' pr g dm i hi
  rw [enum_len] at hi ⊢
  have r' := r.mono g pr
  have h' : SqL K H' p vs := (h.elim (fun z => Or.inl (rd_go g z.1 z.2).2) Or.inr : SqE K H' p vs).sq
  refine ⟨fun e => ⟨vs, h', by rw [r.length]; omega⟩, fun d hd => ?_⟩
  rw [enum_get] at hd
  obtain ⟨x, hx, rfl⟩ := Option.map_eq_some_iff.mp hd
  obtain ⟨v, hv, rv⟩ := r'.get hx
  refine ⟨⟨vs, v, h', hv⟩, fun w H'' y => ?_⟩
  obtain ⟨T, x', rfl, hT, rfl, q⟩ := y
  have := q vs h'
  rw [hv] at this; cases this
  refine ⟨Ex.new hT, rep_tup_new dm hT ?_⟩
  rw [Nat.zero_add]
  exact Reps.cons (by simp only [Rep]) (Reps.one rv)

/-- a row that is walked -/
theorem s_seq (g : Gd P M cad k cc sc X) (ha : SoundE P M cad X e a) : SoundI P M cad X tg e (.seq a) := by
  intro W E S xs E' S' h
  simp only [itr] at h
  obtain ⟨⟨d, fl⟩, E1, S1, h1, h⟩ := bnd_ok h
  obtain ⟨l, hl, h⟩ := opt_ok h
  cases h
  have pe := ha W _ _ _ _ _ _ h1
  have lists : ∀ l, one (d, fl) = some (.lst l) → l = xs → PI X tg e (rI X.K cad W xs E S E' S') := by
    intro l ho e1
    subst e1
    refine PI.sub (L2.pi_list pe) fun σ H R z => ?_
    obtain ⟨ρ, Y, ok, q⟩ := z
    refine ⟨ρ, Y, ok, fun ρ1 Y1 H1 v1 p1 ok1 r1 l1 => ?_⟩
    obtain ⟨Y2, p2, ok2, r2⟩ := VRes.share ho r1 ok1 p1
    simp only [Rep] at r2
    obtain ⟨p, vs, rfl, hr, rs⟩ := r2
    have sq : SqL X.K H1 p vs := (hr.elim (fun z => Or.inl z.2) Or.inr : SqE X.K H1 p vs).sq
    exact ⟨p, rfl, ⟨vs, sq⟩, q _ _ _ _ p2 ok2 (iok_list hr rs)⟩
  cases fl with
  | p => cases d <;> simp [seqItems] at hl
  | f =>
    cases d <;> simp only [seqItems] at hl <;> first | (cases hl; done) | skip
    cases hl
    exact lists _ rfl rfl
  | v =>
    cases d <;> simp only [seqItems] at hl <;> first | (cases hl; done) | skip
    · rename_i s
      cases hl
      refine PI.sub (L2.pi_str pe) fun σ H R z => ?_
      obtain ⟨ρ, Y, ok, q⟩ := z
      refine ⟨ρ, Y, ok, fun ρ1 Y1 H1 v1 p1 ok1 r1 l1 => ?_⟩
      obtain rfl := rb_str (r1.rb ok1)
      exact ⟨_, rfl, q _ _ _ _ p1 ok1 iok_str⟩
    · rename_i l'
      cases hl
      refine PI.sub (L2.pi_tup pe) fun σ H R z => ?_
      obtain ⟨ρ, Y, ok, q⟩ := z
      refine ⟨ρ, Y, ok, fun ρ1 Y1 H1 v1 p1 ok1 r1 l1 => ?_⟩
      have r2 : Rep X.K cad Y1 ρ1 H1 _ v1 := r1
      simp only [Rep] at r2
      obtain ⟨p, vs, rfl, hr, rs⟩ := r2
      have sq : SqT X.K H1 p vs := hr.elim (fun q => .inl q.2) .inr
      exact ⟨p, rfl, ⟨vs, sq⟩, q _ _ _ _ p1 ok1 (iok_tup hr rs)⟩
    · cases hl
      exact lists _ rfl rfl
theorem star_one (env : PySem.Env) (h : isStar e = false) : PySem.starEach (e :: es) env = (false, PySem.eval e env) :: PySem.starEach es env := by
  cases e <;> first | (simp [isStar] at h; done) | rfl
theorem star_all (env : PySem.Env) : ∀ es : List Expr, es.any isStar = false → (PySem.backTo pos (PySem.starEach es env)).any (·.1) = false
  | [], _ => rfl
  | e :: es, h => by
    rw [List.any_cons, Bool.or_eq_false_iff] at h
    have q := star_all env es h.2
    rw [star_one env h.1]
    show ((false, _) :: PySem.backTo pos (PySem.starEach es env)).any (·.1) = false
    rw [List.any_cons, q]
    rfl
theorem s_rng (g : Gd P M cad k cc sc X) (hg : isGl sc "range" = true) (hs : isStar e = false) (ha : SoundE P M cad X e a) : SoundI P M cad X tg (.Call (.Name "range" p) [e] [] pos) (.rng a) := by
  intro W E S xs E' S' h
  simp only [itr] at h
  obtain ⟨⟨d, fl⟩, E1, S1, h1, h⟩ := bnd_ok h
  split at h
  · rename_i i hi
    cases h
    have st : PySem.starEach [e] X.env = [(false, PySem.eval e X.env)] := star_one _ hs
    refine PI.sub (pi_rg1 (g.gl _ hg) (g.wd.bi "range" (by simp)) (L2.pa_cons (ha W _ _ _ _ _ _ h1) L2.pa_nil st) st) fun σ H R z => ?_
    obtain ⟨ρ, Y, ok, q⟩ := z
    refine ⟨ρ, Y, ok, fun ρ1 Y1 H1 v1 p1 ok1 r1 l1 => ?_⟩
    have b1 := r1.rb ok1
    have hi' : d = .int i := hi
    rw [hi'] at b1
    obtain rfl := rb_int b1
    refine ⟨i, rfl, q _ _ _ _ p1 ok1 ?_⟩
    have e0 : rngL 0 i = (List.range i.toNat).map fun (j : Nat) => D.int (0 + (j : Int)) := by unfold rngL; simp
    rw [e0]
    exact iok_rng
  · cases h
theorem s_rng2 (g : Gd P M cad k cc sc X) (hg : isGl sc "range" = true) (hs1 : isStar e1 = false) (hs2 : isStar e2 = false) (ha : SoundE P M cad X e1 a) (hb : SoundE P M cad X e2 b) : SoundI P M cad X tg (.Call (.Name "range" p) [e1, e2] [] pos) (.rng2 a b) := by
  intro W E S xs E' S' h
  simp only [itr] at h
  obtain ⟨⟨d, fl⟩, E1, S1, h1, h⟩ := bnd_ok h
  obtain ⟨⟨d2, fl2⟩, E2, S2, h2, h⟩ := bnd_ok h
  split at h
  · rename_i i j hi hj
    cases h
    have st1 : PySem.starEach [e1, e2] X.env = (false, PySem.eval e1 X.env) :: PySem.starEach [e2] X.env := star_one _ hs1
    have st2 : PySem.starEach [e2] X.env = [(false, PySem.eval e2 X.env)] := star_one _ hs2
    refine PI.sub (pi_rg2 (g.gl _ hg) (g.wd.bi "range" (by simp)) (L2.pa_cons (ha W _ _ _ _ _ _ h1) (L2.pa_cons (hb W _ _ _ _ _ _ h2) L2.pa_nil st2) st1) (by rw [st1, st2]) st2) fun σ H R z => ?_
    obtain ⟨ρ, Y, ok, q⟩ := z
    refine ⟨ρ, Y, ok, fun ρ1 Y1 H1 v1 p1 ok1 r1 l1 => ?_⟩
    have b1 := r1.rb ok1
    have hi' : d = .int i := hi
    rw [hi'] at b1
    obtain rfl := rb_int b1
    -- the first is a number: it waits as it is
    refine ⟨ρ1, Y1, ok1, fun ρ2 Y2 H2 v2 p2 ok2 r2 l2 => ?_⟩
    have b2 := r2.rb ok2
    have hj' : d2 = .int j := hj
    rw [hj'] at b2
    obtain rfl := rb_int b2
    exact ⟨i, j, rfl, q _ _ _ _ (p1.trans p2) ok2 iok_rng⟩
  · cases h
end
end Dk
end
/-! Snd14 -/
section
set_option linter.all false
set_option maxRecDepth 100000
set_option maxHeartbeats 1000000
/-! enumerate over a tuple. -/
namespace Dk
open PySem
open L2 (V Hp HO upd Rd SqL SqT Key St VK TE PE PA PI It Inv)

section
variable {pr : Program} {w : World} {R : Around} {G : Value → Shared → Prop} {z : Shared}
/-- a tuple's iterator is asked: an item -/
theorem nx_tup {c t : Addr} {j : Nat} {ys : Array Value} {y : Value} {Q : Value → Shared → Prop} (hc : z.heap.IsTupleIter c t j) (ht : z.heap.IsTuple t ys) (hy : ys[j]? = some y)
    (q : ∀ g, g.IsTupleIter c t (j + 1) → Heap.SameBut c z.heap g → Q y { z with heap := g }) : wpAny (model pr w) R (Builtin.SmallTypes.nextOf (.ref c)) Q G z := by
  obtain ⟨ob, e1, e2, e3⟩ := id hc
  obtain ⟨tb, t1, _, m, t2⟩ := ht
  unfold Builtin.SmallTypes.nextOf
  have sl := F.slot_tuple_iterator_next
  refine wpAny_bind (wpAny_callSpecial?_slot (name := Str.ofString "__next__") hc.typeIs sl (wpAny_call_entry sl hc.typeIs F.entry_tuple_iterator_next ?_ (F.args_tuple_iterator_next_1 _)))
  show wpAny _ _ (field (.ref c) 0 >>= _) _ _ z
  refine wpAny_bind (wpAny_field e1 e3 (x := .ref t) rfl ?_)
  show wpAny _ _ (if (Value.ref t == Value.none) = true then _ else _) _ _ z
  have nn : ¬ ((Value.ref t == Value.none) = true) := Bool.false_ne_true
  rw [if_neg nn]
  show wpAny _ _ (field (.ref c) 1 >>= _) _ _ z
  refine wpAny_bind (wpAny_field e1 e3 (x := .int j 0) rfl ?_)
  show wpAny _ _ (seqItems? (.ref t) >>= _) _ _ z
  refine wpAny_bind (wpAny_seqItems t1 t2 ?_)
  simp only [Int.toNat_natCast, hy]
  refine wpAny_bind (wpAny_setField e1 e3 (by simp) (wpAny_pure ⟨y, rfl, wpAny_pure (q _ ?_ (Heap.SameBut.update ..))⟩))
  refine ⟨_, Heap.get?_update_self _ e1 (Obj.isFreed_of_fields (Obj.data_mapFields e3 _)), (Obj.cls_mapFields ..).trans e2, ?_⟩
  rw [Obj.data_mapFields e3]
  simp [rawInt]
/-- .. no more -/
theorem nx_tup_end {c t : Addr} {j : Nat} {ys : Array Value} {Q : Value → Shared → Prop} (hh : R.handled = none) (hc : z.heap.IsTupleIter c t j) (ht : z.heap.IsTuple t ys) (hy : ys[j]? = none)
    (q : ∀ g x, Heap.ExtBut c z.heap g → (∃ o, g.get? x = some o ∧ o.cls = .type "StopIteration") → G (.ref x) { z with heap := g }) : wpAny (model pr w) R (Builtin.SmallTypes.nextOf (.ref c)) Q G z := by
  obtain ⟨ob, e1, e2, e3⟩ := id hc
  obtain ⟨tb, t1, _, m, t2⟩ := ht
  unfold Builtin.SmallTypes.nextOf
  have sl := F.slot_tuple_iterator_next
  refine wpAny_bind (wpAny_callSpecial?_slot (name := Str.ofString "__next__") hc.typeIs sl (wpAny_call_entry sl hc.typeIs F.entry_tuple_iterator_next ?_ (F.args_tuple_iterator_next_1 _)))
  show wpAny _ _ (field (.ref c) 0 >>= _) _ _ z
  refine wpAny_bind (wpAny_field e1 e3 (x := .ref t) rfl ?_)
  show wpAny _ _ (if (Value.ref t == Value.none) = true then _ else _) _ _ z
  have nn : ¬ ((Value.ref t == Value.none) = true) := Bool.false_ne_true
  rw [if_neg nn]
  show wpAny _ _ (field (.ref c) 1 >>= _) _ _ z
  refine wpAny_bind (wpAny_field e1 e3 (x := .int j 0) rfl ?_)
  show wpAny _ _ (seqItems? (.ref t) >>= _) _ _ z
  refine wpAny_bind (wpAny_seqItems t1 t2 ?_)
  simp only [Int.toNat_natCast, hy]
  refine wpAny_bind (wpAny_rule (wpAny_bind (wpAny_setField e1 e3 (by simp) ?_)))
  show wpAny _ _ ((newExc (.type "StopIteration") []) >>= _) _ _ _
  apply wpAny_bind
  simp only [newExc, newTuple]
  apply wpAny_bind
  refine wpAny_newObj_type ?_ (by size_fits)
  have fm : firstArgMember (.type "StopIteration") [] = pure Value.none := by first | rfl | (simp only [firstArgMember]; rfl)
  refine wpAny_bind (m := firstArgMember _ _) (wpAny_of_eq (a := Value.none) fm ?_)
  refine wpAny_newObj_type ?_ (by size_fits)
  simp only [raiseNew]
  apply wpAny_bind
  apply wpAny_handled
  first | rw [show R.in1.handled = none from hh] | rw [hh]
  refine wpAny_bind (wpAny_pure (wpAny_throw (q _ _ ?_ ?_)))
  · exact ((Heap.SameBut.update ..).extBut.push _).push _
  · exact ⟨_, Heap.get?_push_size _ rfl, rfl⟩
theorem draws_tup (hh : R.handled = none) (c t : Addr) (hne : t ≠ c) (ys : Array Value) :
    Draws pr w R c [c, t] ys.size (fun j v => ys[j]? = some v) (fun j h => h.IsTupleIter c t j ∧ h.IsTuple t ys) where
  live := fun _ _ st => let ⟨o, ho, _⟩ := st.1; ⟨o, ho⟩
  frame := fun _ _ _ st hk => by
    obtain ⟨⟨o, ho, r⟩, ⟨o2, ho2, r2⟩⟩ := st
    exact ⟨⟨o, hk c (by simp) o ho, r⟩, ⟨o2, hk t (by simp) o2 ho2, r2⟩⟩
  item := fun j s Q E hj st hQ => nx_tup st.1 st.2 (y := ys[j]) (by simp [hj]) fun g a b => hQ _ g s.toks (by simp [hj]) ⟨a, st.2.extBut b.extBut hne⟩ b
  done := fun s Q E st hE => nx_tup_end hh st.1 st.2 (by simp) hE

theorem enum_new_tup (t : Addr) (ys : Array Value) (n : Nat) (dct : Option Addr) (sl : Array (Option Value)) :
    Meets (Builtin.«enumerate.__new__» ⟨[.type "enumerate", .ref t], []⟩) (fun _ R s => s.heap.get? t = some { cls := .type "tuple", dict := dct, data := .seq ys n, slots := sl } ∧
      R (.ok (.ret (.ref (s.heap.push { cls := .type "tuple_iterator", data := .fields #[.ref t, .int 0 0] }).objs.size)))
        { s with heap := (s.heap.push { cls := .type "tuple_iterator", data := .fields #[.ref t, .int 0 0] }).push { cls := .type "enumerate", data := .fields #[.none, .bool false, .ref s.heap.objs.size, rawInt 0, .none, .none] } }) :=
  .of_wp fun prog w A R s h => by
    obtain ⟨hp, g, d, tk, os⟩ := s; obtain ⟨ht, h⟩ := h
    have hsub := sub_enumerate
    have hT : Heap.IsTuple (Shared.heap ⟨hp, g, d, tk, os⟩) t ys := ⟨_, ht, rfl, n, rfl⟩
    wp_walk using AutoSeq1.wpAny_loadPart' ht
    refine wpAny_stack_any fun st => wpAny_pure ?_
    split
    · rename_i c _ _ _ _ _
      cases (c == Value.type "enumerate")
      · wp_walk using AutoSeq1.wpAny_loadPart' ht, wpAny_pyIter_tuple hT
        exact ⟨_, rfl, h⟩
      · wp_walk using AutoSeq1.wpAny_loadPart' ht, wpAny_pyIter_tuple hT
        exact ⟨_, rfl, h⟩
    · wp_walk using AutoSeq1.wpAny_loadPart' ht, wpAny_pyIter_tuple hT
      exact ⟨_, rfl, h⟩
theorem enum_call_tup {t : Addr} {ys : Array Value} {Q : Value → Shared → Prop} (ht : z.heap.IsTuple t ys)
    (h : ∀ g, IsEnum g (z.heap.objs.size + 1) z.heap.objs.size 0 .none → g.IsTupleIter z.heap.objs.size t 0 → (∀ b o, z.heap.get? b = some o → g.get? b = some o) → Q (.ref (z.heap.objs.size + 1)) { z with heap := g }) :
    wpAny (model pr w) R (PySem.call (.type "enumerate") [.ref t]) Q G z := by
  obtain ⟨⟨c, dct, dt, sl⟩, hl, hc, n, hd⟩ := ht
  replace hc : c = .type "tuple" := hc
  replace hd : dt = .seq ys n := hd
  subst hc hd
  refine callType_new F.called_enumerate (by decide) (F.typeCall_enumerate_1 _) (F.newCall_enumerate_1 _) (fun ob => F.args_object_init_2 ob _) F.entry_enumerate_new (enum_new_tup t ys n dct sl) ⟨hl, ?_⟩
  generalize ho1 : ({ cls := .type "tuple_iterator", data := .fields #[.ref t, .int 0 0] } : Obj) = o1
  generalize ho2 : ({ cls := .type "enumerate", data := .fields #[.none, .bool false, .ref z.heap.objs.size, rawInt 0, .none, .none] } : Obj) = o2
  have f1 : o1.isFreed = false := by subst ho1; rfl
  have f2 : o2.isFreed = false := by subst ho2; rfl
  have hz : (z.heap.push o1).objs.size = z.heap.objs.size + 1 := Heap.size_push ..
  have he : ((z.heap.push o1).push o2).get? (z.heap.objs.size + 1) = some o2 := by
    have := Heap.get?_push_size (z.heap.push o1) (o := o2) f2
    rwa [hz] at this
  have hi : ((z.heap.push o1).push o2).get? z.heap.objs.size = some o1 := Heap.get?_push_of_some _ (Heap.get?_push_size _ f1)
  show _ ∧ _
  rw [hz]
  subst ho1 ho2
  exact ⟨⟨_, he, rfl⟩, h _ he ⟨_, hi, rfl, rfl⟩ fun b o x => Heap.get?_push_of_some _ (Heap.get?_push_of_some _ x)⟩
end
/-- the tuple at a, each item in a new pair -/
def Iet (K : Kx) (a : Addr) : It :=
  ⟨fun i H => ∃ xs x, SqT K H a xs ∧ xs[i]? = some x, fun i H v H' => ∃ T x, v = .ref T ∧ H T = none ∧ H' = upd H T (.tup [.int (i : Nat), x]) ∧ ∀ xs, SqT K H a xs → xs[i]? = some x, fun i H => ∃ xs, SqT K H a xs ∧ xs.length ≤ i⟩
theorem turn_enumT {pr : Program} {w : World} {K : Kx} {elts : List Expr} {kk : Nat} {tp : Pos} (a e c : Addr) :
    L2.Turn pr w K (.Tuple elts kk tp) (Iet K a) [e, c] e (fun i h => (∃ old, IsEnum h e c ((i : Nat) : Int) old) ∧ h.IsTupleIter c a i ∧ e ≠ c) where
  mem := by simp
  obj := fun i h st b hb => by
    obtain ⟨⟨old, he⟩, ⟨o, ho, hc, hd⟩, _⟩ := st
    rcases (show b = e ∨ b = c by simpa using hb) with z | z
    · subst z; exact ⟨_, he, fun v q => nomatch q⟩
    · subst z; exact ⟨o, ho, fun v q => by rw [hd] at q; cases q⟩
  keep := fun i h h' st k => by
    obtain ⟨⟨old, he⟩, ⟨o, ho, r⟩, hne⟩ := st
    exact ⟨⟨old, k e (by simp) _ he⟩, ⟨o, k c (by simp) o ho, r⟩, hne⟩
  item := by
    intro X hP hw hK hc i pins s σ H E I hf st hg
    subst hP hw hK
    obtain ⟨⟨old, he⟩, hit, hne⟩ := st
    obtain ⟨xs, x, hq, hx⟩ := hg
    obtain ⟨its, rv, p, hz⟩ := I.tuple hq
    obtain ⟨u, hu, ru⟩ := rv.get hx
    have hel : e < s.heap.objs.size := Heap.lt_size he
    have hcl : c < s.heap.objs.size := by obtain ⟨_, q, _⟩ := hit; exact Heap.lt_size q
    have pt : s.heap.IsTuple a its.toArray := p
    have hac : a ≠ c := by
      rintro rfl
      obtain ⟨o1, g1, g2, _⟩ := pt
      obtain ⟨o2, g3, g4, _⟩ := hit
      rw [g1] at g3; cases g3
      rw [g2] at g4
      injection g4 with g4
      exact absurd g4 (by decide)
    have hae : e ∉ [c, a] := by
      intro hm
      rcases (show e = c ∨ e = a by simpa using hm) with q | q
      · exact hne q
      · subst q
        obtain ⟨o1, g1, g2, _⟩ := pt
        rw [he] at g1; cases g1
        injection g2 with g2
        exact absurd g2 (by decide)
    have hlt : i < its.toArray.size := by
      have := (List.getElem?_eq_some_iff.mp hu).1
      simpa using this
    refine wpAny_pyNext_enum_itemD (draws_tup (R := X.A.in1) (I.ok.hd hc) c a hac its.toArray) he ⟨hit, pt⟩ hlt hne hae fun y g tk hy ho st' hT hsz hk => ?_
    have hy' : y = u := by
      have h1 : its.toArray[i]? = some y := hy
      rw [List.getElem?_toArray, hu] at h1
      cases h1; rfl
    subst hy'
    refine ⟨_, rfl, wpAny_letOwnedTupleGo_enum (s := { s with heap := g, toks := tk + 1 }) ho fun g2 he2 sb => ?_⟩
    have hT2 : g2.get? s.heap.objs.size = some { cls := .type "tuple", data := .seq #[.int i tk, y] } := (sb.2 _ (Nat.ne_of_gt hel)).trans hT
    have new : L2.ObjOk X.prog X.w (upd H s.heap.objs.size (.tup [.int (i : Nat), x])) g2 s.heap.objs.size (.tup [.int (i : Nat), x]) := by
      refine ⟨by show 2 ≤ sizeLine; decide, [.int i tk, y], .cons ⟨_, rfl⟩ (.cons ru .nil), ?_⟩
      exact ⟨_, hT2, rfl, _, rfl⟩
    have I1 := I.turnedNew (ch := [e, c]) (h' := g2) (t' := tk + 1) (fun b ob hb q => (sb.2 b (fun z => hb (by simp [z]))).trans (hk b ob (fun z => hb (by simp [z])) (fun z => hb (by simp [z])) q)) hf (Nat.le_refl _) new
    have e1 : ((i + 1 : Nat) : Int) = (i : Int) + 1 := by omega
    obtain ⟨oc, q1, q2, q3⟩ := st'.1
    refine ⟨.ref s.heap.objs.size, _, I1, rfl, ⟨_, x, rfl, I.hok.fresh (Nat.le_refl _), rfl, fun ys hy => by rw [I.tuple_inj hy hq]; exact hx⟩, ⟨⟨y, by rw [e1]; exact he2⟩, ⟨oc, (sb.2 c (Ne.symm hne)).trans q1, q2, q3⟩, hne⟩, fun b hb => ?_⟩
    have hb' : b < s.heap.objs.size := by
      rcases (show b = e ∨ b = c by simpa using hb) with z | z
      · rw [z]; exact hel
      · rw [z]; exact hcl
    rw [L2.upd_ne (Nat.ne_of_lt hb')]
    exact (hf b hb).1
  done := by
    intro X hP hw hK hc i pins s σ H E I hf st hg
    subst hP hw hK
    obtain ⟨⟨old, he⟩, hit, hne⟩ := st
    obtain ⟨xs, hq, hx⟩ := hg
    obtain ⟨its, rv, p, hz⟩ := I.tuple hq
    obtain ⟨f0, f1, f2, f3, f4, f5⟩ := hf c (by simp)
    have hl := rv.length
    have pt : s.heap.IsTuple a its.toArray := p
    have hac : a ≠ c := by
      rintro rfl
      obtain ⟨o1, g1, g2, _⟩ := pt
      obtain ⟨o2, g3, g4, _⟩ := hit
      rw [g1] at g3; cases g3
      rw [g2] at g4
      injection g4 with g4
      exact absurd g4 (by decide)
    have hd : (X.A.in1).handled = none := I.ok.hd hc
    have hT : s.TypeIs (.ref e) "enumerate" := ⟨_, he, rfl⟩
    -- the iterator is asked at i, behind the last
    unfold pyNext
    refine wpAny_bind (wpAny_attempt (wpAny_callSpecial?_slot (name := Str.ofString "__next__") hT F.slot_enumerate_next (wpAny_call_entry F.slot_enumerate_next hT F.entry_enumerate_next ?_ (F.args_enumerate_next_1 _))))
    show wpAny _ _ (field (.ref e) 2 >>= _) _ _ _
    refine wpAny_bind (wpAny_field he rfl (x := .ref c) rfl ?_)
    refine wpAny_bind (nx_tup_end hd hit pt (by simp; omega) fun g x ge gx => ?_)
    obtain ⟨o, ho, hc'⟩ := gx
    refine wpAny_bind (wpAny_isInstance (T := "StopIteration") (b := true) ⟨o, ho, hc'⟩ isSubtype_stop ?_)
    exact wpAny_pure ⟨rfl, I.turned (t' := s.toks) (fun b o hb q => ge b o hb q) f0 f1 f3 f4 f5⟩
  self := fun A i s Q E st h => let ⟨⟨_, he⟩, _⟩ := st; wpAny_pyIter_enum he h
def iEnumT (K : Kx) (ta : L2.TA) : L2.TI := fun σ H R => ta σ H fun vs H1 => ∃ a xs, vs = [.ref a] ∧ SqT K H1 a xs ∧ R (Iet K a) H1
theorem pi_enumT {X : L2.Cx} {e : Expr} {ta : L2.TA} {p pos tp : Pos} {elts : List Expr} {kk : Nat} (hg : L2.Gl X "enumerate") (hm : X.mg "enumerate" = none) (ha : PA X [e] ta) (hs : starEach [e] X.env = [(false, eval e X.env)]) :
    PI X (.Tuple elts kk tp) (.Call (.Name "enumerate" p) [e] [] pos) (iEnumT X.K ta) := by
  constructor
  intro pins s σ H T I h
  refine PySem.wpAny_Call_Name_kw (L2.ld_blt I hg hm PyProof.Rows.boot_enumerate (PyProof.Rows.callWith_type1 (L2.thn (ha.run pos pins s σ H _ I h) fun us s1 hu => ?_) hs rfl))
  obtain ⟨vs, H1, I1, r1, a, xs, ex, hq, q⟩ := hu
  subst ex
  cases r1 with
  | cons r rr =>
    cases rr
    cases r
    obtain ⟨its, rv, p', hz⟩ := I1.tuple hq
    have pt : s1.heap.IsTuple a its.toArray := p'
    refine enum_call_tup pt fun g he hit hk => wpAny_pyIter_enum he ?_
    have I2 : Inv X pins σ H1 { s1 with heap := g } := I1.kept (t' := s1.toks) hk
    refine ⟨s1.heap.objs.size + 1, [s1.heap.objs.size + 1, s1.heap.objs.size], _, _, H1, rfl, I2, turn_enumT a (s1.heap.objs.size + 1) s1.heap.objs.size, ⟨⟨.none, he⟩, hit, Nat.succ_ne_self _⟩, fun b hb => ?_, q⟩
    have hle : s1.heap.objs.size ≤ b := by
      rcases (show b = s1.heap.objs.size + 1 ∨ b = s1.heap.objs.size by simpa using hb) with z | z
      · rw [z]; exact Nat.le_succ _
      · exact Nat.le_of_eq z.symm
    exact I1.fpOk hle (I1.hok.fresh hle)
end Dk
end
/-! Snd15 -/
section
set_option linter.all false
set_option maxRecDepth 100000
set_option maxHeartbeats 1000000
/-! enumerate; comprehensions. -/
namespace Dk
open PySem (Str Addr Heap Value Shared sizeLine Expr Pos)
open L2 (V Hp HO upd Rd SqL SqT Key St VK TE PE PT PW PA PG PGs PI It)

section
variable {K : Kx} {P : Prg} {M : CM} {cad : String → Option Addr} {k : Nat} {cc : Cc} {sc isc : PySem.Scope} {X : L2.Cx} {W W' : Addr → Prop} {ρ ρ1 : List Addr} {Y Y1 : Addr → Prop} {E E' E1 E2 : Env} {S S' S1 S2 : Sto} {d : D} {fl : Fl} {σ σ' σ2 : St} {H H1 : Hp} {Q : VK} {e e1 e2 e3 tg elt iter : Expr} {es ifs : List Expr} {cs : CEs} {a b c : CE} {pos p tp : Pos} {n kk : Nat}

theorem iok_enumT {p : Addr} {l : List D} {vs : List V} (h : (¬ Y p ∧ Rd H p (.tup vs)) ∨ WrT K p vs) (r : Reps K cad Y ρ H l vs) : IOk K cad (enumL 0 l) (Iet K p) ρ Y H := by
  intro ρ' Y' H' pr g dm i hi
  rw [enum_len] at hi ⊢
  have r' := r.mono g pr
  have h' : SqT K H' p vs := by
    rcases h with ⟨n, h⟩ | h
    · exact .inl (rd_go g n h).2
    · exact .inr h
  refine ⟨fun e => ⟨vs, h', by rw [r.length]; omega⟩, fun d hd => ?_⟩
  rw [enum_get] at hd
  obtain ⟨x, hx, rfl⟩ := Option.map_eq_some_iff.mp hd
  obtain ⟨v, hv, rv⟩ := r'.get hx
  refine ⟨⟨vs, v, h', hv⟩, fun w H'' y => ?_⟩
  obtain ⟨T, x', rfl, hT, rfl, q⟩ := y
  have := q vs h'
  rw [hv] at this; cases this
  refine ⟨Ex.new hT, rep_tup_new dm hT ?_⟩
  rw [Nat.zero_add]
  exact Reps.cons (by simp only [Rep]) (Reps.one rv)
theorem s_enum (g : Gd P M cad k cc sc X) (hg : isGl sc "enumerate" = true) (hs : isStar e = false) (ha : SoundE P M cad X e a) : SoundI P M cad X (.Tuple es kk tp) (.Call (.Name "enumerate" p) [e] [] pos) (.enum a) := by
  intro W E S xs E' S' h
  simp only [itr] at h
  obtain ⟨⟨d, fl⟩, E1, S1, h1, h⟩ := bnd_ok h
  have st : PySem.starEach [e] X.env = [(false, PySem.eval e X.env)] := star_one _ hs
  have pa := L2.pa_cons (ha W _ _ _ _ _ _ h1) L2.pa_nil st
  have mg0 := g.wd.bi "enumerate" (by simp)
  split at h
  · rename_i l hl
    split at h
    · cases h
    · rename_i hp
      cases h
      have hd : d = .lst l := hl
      subst hd
      have ho : one (D.lst l, fl) = some (D.lst l) := by unfold one; rw [if_neg hp]
      refine PI.sub (L2.pi_enum (g.gl _ hg) mg0 pa st) fun σ H R z => ?_
      obtain ⟨ρ, Y, ok, q⟩ := z
      refine ⟨ρ, Y, ok, fun ρ1 Y1 H1 v1 p1 ok1 r1 l1 => ?_⟩
      obtain ⟨Y2, p2, ok2, r2⟩ := VRes.share ho r1 ok1 p1
      simp only [Rep] at r2
      obtain ⟨p, vs, rfl, hr, rs⟩ := r2
      have sq : SqL X.K H1 p vs := (hr.elim (fun z => Or.inl z.2) Or.inr : SqE X.K H1 p vs).sq
      exact ⟨p, vs, rfl, sq, q _ _ _ _ p2 ok2 (iok_enum hr rs)⟩
  · rename_i l hl
    cases h
    have hd : d = .tup l := hl
    subst hd
    refine PI.sub (pi_enumT (g.gl _ hg) mg0 pa st) fun σ H R z => ?_
    obtain ⟨ρ, Y, ok, q⟩ := z
    refine ⟨ρ, Y, ok, fun ρ1 Y1 H1 v1 p1 ok1 r1 l1 => ?_⟩
    have r2 : Rep X.K cad Y1 ρ1 H1 (.tup l) v1 := by
      rcases r1.rb ok1 with r | ⟨p, rfl, c⟩
      · exact r
      · simp only [Cont] at c
    simp only [Rep] at r2
    obtain ⟨p, vs, rfl, hr, rs⟩ := r2
    have sq : SqT X.K H1 p vs := hr.elim (fun q => .inl q.2) .inr
    exact ⟨p, vs, rfl, sq, q _ _ _ _ p1 ok1 (iok_enumT hr rs)⟩
  · cases h

/-! ### names that are wiped -/
def wg {α : Type} (l : List (Option α)) : List Nat → List (Option α)
  | [] => l
  | v :: vs => (wg l vs).set v none
theorem wg_wipe (σ : St) : ∀ vs, L2.wipe σ vs = wg σ vs
  | [] => rfl
  | v :: vs => by
    show (L2.wipe σ vs).set v none = _
    rw [wg_wipe σ vs]
    rfl
theorem wg_E (E : Env) : ∀ vs, wipeE E vs = wg E vs
  | [] => rfl
  | v :: vs => by
    show (wipeE E vs).set v none = _
    rw [wg_E E vs]
    rfl
theorem wg_len {α : Type} (l : List (Option α)) : ∀ vs, (wg l vs).length = l.length
  | [] => rfl
  | v :: vs => by show ((wg l vs).set v none).length = _; rw [List.length_set, wg_len l vs]
theorem wg_ne {α : Type} {l : List (Option α)} {i : Nat} : ∀ {vs : List Nat}, i ∉ vs → (wg l vs)[i]? = l[i]?
  | [], _ => rfl
  | v :: vs, h => by
    rw [List.mem_cons, not_or] at h
    show ((wg l vs).set v none)[i]? = _
    rw [List.getElem?_set_ne (Ne.symm h.1), wg_ne h.2]
theorem wg_in {α : Type} {l : List (Option α)} {i : Nat} : ∀ {vs : List Nat}, i ∈ vs → i < l.length → (wg l vs)[i]? = some none
  | v :: vs, h, hi => by
    show ((wg l vs).set v none)[i]? = _
    by_cases hv : v = i
    · subst hv
      rw [List.getElem?_set_self (by rw [wg_len]; exact hi)]
    · rw [List.getElem?_set_ne hv]
      rcases List.mem_cons.mp h with z | z
      · exact absurd z.symm hv
      · exact wg_in z hi
theorem wg_some {α : Type} {l : List (Option α)} {i : Nat} {x : α} {vs : List Nat} (h : (wg l vs)[i]? = some (some x)) : i ∉ vs ∧ l[i]? = some (some x) := by
  by_cases hv : i ∈ vs
  · have hi : i < l.length := by
      have := (List.getElem?_eq_some_iff.mp h).1
      rwa [wg_len] at this
    rw [wg_in hv hi] at h
    cases h
  · exact ⟨hv, by rwa [wg_ne hv] at h⟩
theorem wg_eq {α : Type} {l m : List (Option α)} {vs : List Nat} (hl : l.length = m.length) (h : ∀ i, i ∉ vs → l[i]? = m[i]?) : wg l vs = wg m vs := by
  refine List.ext_getElem? fun i => ?_
  by_cases hv : i ∈ vs
  · by_cases hi : i < l.length
    · rw [wg_in hv hi, wg_in hv (by omega)]
    · rw [List.getElem?_eq_none (by rw [wg_len]; omega), List.getElem?_eq_none (by rw [wg_len]; omega)]
  · rw [wg_ne hv, wg_ne hv, h i hv]
theorem back_len (E E' : Env) : ∀ vs, (backE E E' vs).length = E'.length
  | [] => rfl
  | v :: vs => by show ((backE E E' vs).set v _).length = _; rw [List.length_set, back_len E E' vs]
theorem back_ne {i : Nat} : ∀ {vs : List Nat}, i ∉ vs → (backE E E' vs)[i]? = E'[i]?
  | [], _ => rfl
  | v :: vs, h => by
    rw [List.mem_cons, not_or] at h
    show ((backE E E' vs).set v _)[i]? = _
    rw [List.getElem?_set_ne (Ne.symm h.1), back_ne h.2]
theorem back_in {i : Nat} : ∀ {vs : List Nat}, i ∈ vs → i < E'.length → (backE E E' vs)[i]? = some (E[i]?.getD none)
  | v :: vs, h, hi => by
    show ((backE E E' vs).set v _)[i]? = _
    by_cases hv : v = i
    · subst hv
      rw [List.getElem?_set_self (by rw [back_len]; exact hi)]
    · rw [List.getElem?_set_ne hv]
      rcases List.mem_cons.mp h with z | z
      · exact absurd z.symm hv
      · exact back_in z hi
theorem EOk.wipe (ok : EOk K cad W ρ Y E S σ H) (vs : List Nat) : EOk K cad W ρ Y (wipeE E vs) S (L2.wipe σ vs) H := by
  rw [wg_wipe, wg_E]
  refine ok.slots (by rw [wg_len, wg_len]; exact ok.ln) fun i x h => ?_
  obtain ⟨h1, h2⟩ := wg_some h
  exact .inl ⟨h2, wg_ne h1⟩
theorem EOk.weak (ok : EOk K cad W' ρ Y E S σ H) (h : ∀ a, W a → W' a) : EOk K cad W ρ Y E S σ H :=
  ⟨⟨ok.len, ok.cells, fun p q => ⟨(ok.cX p q).1, fun z => (ok.cX p q).2 (h p z)⟩, ok.nd, fun a q => ok.wx a (h a q), ok.dom⟩, ok.val,
    fun i d q => let ⟨p, a, b, c, e, f⟩ := ok.own i d q; ⟨p, a, b, c, fun z => e (h p z), f⟩, ok.sep, ok.ln⟩
theorem Post.weak {ρ' : List Addr} {Y' : Addr → Prop} {H' : Hp} (p : Post W' ρ Y H ρ' Y' H') (h : ∀ a, W a → W' a) : Post W ρ Y H ρ' Y' H' := ⟨p.pre, p.new, p.go, fun a o w e => p.kp a o (h a w) e, p.up⟩
/-- one more thing that may not be touched -/
theorem EOk.block (ok : EOk K cad W ρ Y E S σ H) {p : Addr} (hy : Y p) (hr : p ∉ ρ) (ho : ∀ (i : Nat) (d : D), E[i]? = some (some (d, true)) → σ[i]? ≠ some (some (V.ref p))) : EOk K cad (fun a => W a ∨ a = p) ρ Y E S σ H := by
  refine ⟨⟨ok.len, ok.cells, fun q h => ⟨(ok.cX q h).1, fun z => z.elim (ok.cX q h).2 fun e => hr (e ▸ h)⟩, ok.nd, fun a z => z.elim (ok.wx a) fun e => e ▸ hy, ok.dom⟩, ok.val, fun i d h => ?_, ok.sep, ok.ln⟩
  obtain ⟨q, a, b, c, e, f⟩ := ok.own i d h
  exact ⟨q, a, b, c, fun z => z.elim e fun z => ho i d h (z ▸ a), f⟩
/-- what may not be touched by the rest is changed -/
theorem EOk.touch (ok : EOk K cad W ρ Y E S σ H) {p : Addr} {o : HO} (hw : W p) : EOk K cad W ρ Y E S σ (upd H p o) := by
  have hy := ok.wx p hw
  have g : Go Y H Y (upd H p o) := go_in hy
  refine ⟨⟨ok.len, fun n o' q h1 h2 => ?_, ok.cX, ok.nd, ok.wx, fun a h => ?_⟩, fun i d h => ?_, fun i d h => ?_, ok.sep, ok.ln⟩
  · have hq : q ≠ p := fun z => (ok.cX q (List.mem_of_getElem? h2)).2 (z ▸ hw)
    exact (ok.cells n o' q h1 h2).mono g self_pre fun o z => by rw [L2.upd_ne hq]; exact z
  · by_cases z : a = p
    · subst z; exact ⟨_, L2.upd_same⟩
    · obtain ⟨u, e⟩ := ok.dom a h; exact ⟨u, by rw [L2.upd_ne z]; exact e⟩
  · obtain ⟨v, a, b⟩ := ok.val i d h; exact ⟨v, a, b.mono g self_pre⟩
  · obtain ⟨q, a, b, c, e, f⟩ := ok.own i d h
    have hq : q ≠ p := fun z => e (z ▸ hw)
    exact ⟨q, a, b.mono g self_pre (fun o z => by rw [L2.upd_ne hq]; exact z), c, e, f⟩
theorem Post.touch {p : Addr} {o : HO} (hw : ¬ W p) (hy : Y p) : Post W ρ Y H ρ Y (upd H p o) := by
  refine ⟨self_pre, fun _ h => .inl h, go_in hy, fun a u w e => ?_, fun a e => ?_⟩
  · rw [L2.upd_ne (fun z => hw (by rw [← z]; exact w))]; exact e
  · by_cases z : a = p
    · subst z; rw [L2.upd_same] at e; cases e
    · rwa [L2.upd_ne z] at e

/-! ### readings that take what comes -/
def aE (P : Prg) (M : CM) (K : Kx) (cad : String → Option Addr) (c : CE) : TE := fun σ H Q => ∃ W E S d fl E' S', ev P M.call M.make c E S = some (.ok (d, fl), E', S') ∧ rE K cad W c E S d fl E' S' σ H Q
def aC (P : Prg) (M : CM) (K : Kx) (cad : String → Option Addr) (cs : CEs) : L2.TT := fun σ H Q => ∃ W E S b E' S', conds P M.call M.make cs E S = some (.ok b, E', S') ∧ rB K cad W E S b E' S' σ H Q
def aG (K : Kx) (cad : String → Option Addr) (t : Tg) : L2.TG := fun v σ H Q => ∃ W d E E1, tgt t d E = some E1 ∧ rG K cad W (slots t) d E E1 v σ H Q
theorem any_E (h : SoundE P M cad X e c) : PE X e (aE P M X.K cad c) := by
  constructor
  intro pins s σ H Q I z
  obtain ⟨W, E, S, d, fl, E', S', h1, z⟩ := z
  exact (h W _ _ _ _ _ _ h1).run pins s σ H Q I z
theorem any_G {t : Tg} (h : SoundG cad X e t) : PG X e (aG X.K cad t) := by
  constructor
  intro pins s σ H v u Q I r z
  obtain ⟨W, d, E, E1, h1, z⟩ := z
  exact (h W _ _ _ h1).run pins s σ H v u Q I r z
theorem any_C0 : L2.PTs X [] (aC P M X.K cad .nil) := by
  constructor
  intro pins s σ H Q I z
  obtain ⟨W, E, S, b, E', S', h1, ρ, Y, ok, q⟩ := z
  simp only [conds] at h1
  cases h1
  exact L2.pts_nil.run pins s σ H Q I (q _ _ _ Post.refl ok)
theorem any_C1 (h : SoundT P M cad X e c) : L2.PTs X [e] (aC P M X.K cad (.cons c .nil)) := by
  constructor
  intro pins s σ H Q I z
  obtain ⟨W, E, S, b, E', S', h1, z⟩ := z
  simp only [conds] at h1
  exact (L2.pts_one (h W _ _ _ _ _ h1)).run pins s σ H Q I z

/-! ### comprehensions -/
theorem lc_sub {t : Tg} {ci : CI} {xs l : List D} (hlc : lcL (slots t) (tgt t) (conds P M.call M.make cs) (fun E S acc => bnd (ev P M.call M.make c E S) (pushL acc)) xs [] E1 S1 = some (.ok l, E2, S2))
    (hcl : clearE E1 (slots t) = true) (z : rE K cad W (.lc c t ci cs) E S (.lst l) .f (backE E1 E2 (slots t)) S2 σ H Q) :
    L2.tLc (rI K cad W xs E S E1 S1) (aG K cad t) (aC P M K cad cs) (aE P M K cad c) (slots t) σ H Q := by
  obtain ⟨ρ, Y, ok, q⟩ := z
  refine ⟨ρ, Y, ok, fun ρ1 Y1 H1 J p1 ok1 iok D hD => ?_⟩
  generalize hvs : slots t = vs at *
  obtain ⟨g0, p0, ok0, wD, rD, oD⟩ := ok1.aside (o := .lst []) hD
  have okD := ok0.block (p := D) (.inr rfl) rD oD
  refine ⟨fun i m Hc => m = xs.length - i ∧ i ≤ xs.length ∧ ∃ ρc Yc Ec Sc acc accV, EOk K cad (fun a => W a ∨ a = D) ρc Yc (wipeE Ec vs) Sc (L2.wipe σ vs) Hc ∧ Post W ρ1 (fun a => Y1 a ∨ a = D) (upd H1 D (.lst [])) ρc Yc Hc ∧
    Hc D = some (.lst accV) ∧ Reps K cad Yc ρc Hc acc accV ∧ lcL vs (tgt t) (conds P M.call M.make cs) (fun E S acc => bnd (ev P M.call M.make c E S) (pushL acc)) (xs.drop i) acc Ec Sc = some (.ok l, E2, S2), ⟨xs.length, rfl, Nat.zero_le _, ρ1, _, E1, S1, [], [], okD.wipe vs, Post.refl, L2.upd_same, Reps.nil, hlc⟩, ?_⟩
  intro i m Hc hw
  obtain ⟨hm, hi, ρc, Yc, Ec, Sc, acc, accV, okc, pc, hDc, rc, hl⟩ := hw
  have w1 : ∀ a, W a → W a ∨ a = D := fun a h => .inl h
  have it := iok ρc Yc Hc (p0.trans pc).pre (p0.trans pc).go okc.dom i hi
  by_cases hlt : i < xs.length
  · refine .inr ?_
    obtain ⟨go, yld⟩ := it.2 xs[i] (List.getElem?_eq_getElem hlt)
    refine ⟨go, _, fun H' w => ⟨xs.length - (i + 1), by omega, w⟩, fun v H' y => ?_⟩
    obtain ⟨ex, rv⟩ := yld v H' y
    have okx := okc.ex ex
    rw [List.drop_eq_getElem_cons hlt] at hl
    simp only [lcL] at hl
    split at hl
    · cases hl
    · rename_i Ea hEa
      obtain ⟨b, Eb, Sb, hb, hl⟩ := bnd_ok hl
      refine ⟨_, xs[i], wipeE Ec vs, Ea, hEa, ρc, Yc, Sc, okx, rv, fun σ' ok' ag ln => ?_⟩
      rw [hvs] at ag
      have wq : L2.wipe σ' vs = L2.wipe σ vs := by
        rw [wg_wipe, wg_wipe]
        refine wg_eq (by rw [ln, wg_wipe, wg_len]) fun j hj => ?_
        rw [ag j hj, wg_wipe, wg_ne hj]
      refine ⟨wq, _, Ea, Sc, b, Eb, Sb, hb, ρc, Yc, ok', fun ρd Yd Hd pd okd => ?_⟩
      have hDd := pd.kp D _ (.inr rfl) (ex D _ hDc)
      have px : Post W ρ1 (fun a => Y1 a ∨ a = D) (upd H1 D (.lst [])) ρd Yd Hd := (pc.trans ex.post).trans (pd.weak w1)
      have rd := (rc.mono ex.go self_pre).mono pd.go pd.pre
      cases b with
      | true =>
        show aE P M K cad c σ' Hd _
        simp only [if_true] at hl
        obtain ⟨acc', E3, S3, h3, hl⟩ := bnd_ok hl
        obtain ⟨y', E4, S4, h4, h3⟩ := bnd_ok h3
        obtain ⟨dy, fy⟩ := y'
        unfold pushL at h3
        split at h3
        · rename_i yd hone
          split at h3
          · rename_i hlen
            cases h3
            refine ⟨_, Eb, Sb, dy, fy, E3, S3, h4, ρd, Yd, okd, fun ρe Ye He yv pe oke re le => ?_⟩
            obtain ⟨Yf, pf, okf, rf⟩ := VRes.share hone re oke pe
            have hDe := pe.kp D _ (.inr rfl) hDd
            have dY : Yf D := okf.wx D (.inr rfl)
            refine ⟨accV, hDe, ?_, rfl, by omega, ρe, Yf, E3, S3, acc ++ [yd], accV ++ [yv], ?_, (px.trans (pf.weak w1)).trans (Post.touch wD dY), L2.upd_same, ?_, hl⟩
            · rw [rd.length]
              exact Nat.lt_of_lt_of_le hlen lim_line
            · rw [← wq]
              exact (okf.wipe vs).touch (.inr rfl)
            · exact ((rd.mono pf.go pf.pre).append (Reps.one rf)).mono (go_in dY) self_pre
          · cases h3
        · cases h3
      | false =>
        simp only [Bool.false_eq_true, if_false] at hl
        refine ⟨rfl, by omega, ρd, Yd, Eb, Sb, acc, accV, ?_, px, hDd, rd, hl⟩
        rw [← wq]
        exact okd.wipe vs
  · refine .inl ⟨it.1 (by omega), ?_⟩
    have hi' : i = xs.length := by omega
    subst hi'
    rw [List.drop_length] at hl
    simp only [lcL] at hl
    cases hl
    have lnE : E2.length = σ.length := by
      have := okc.ln
      rwa [wg_wipe, wg_E, wg_len, wg_len] at this
    have own_of : ∀ (j : Nat) (d : Dk.D), (backE E1 E2 vs)[j]? = some (some (d, true)) → (wipeE E2 vs)[j]? = some (some (d, true)) ∧ σ[j]? = (L2.wipe σ vs)[j]? := by
      intro j d hj
      by_cases hv : j ∈ vs
      · exfalso
        have hlt : j < E2.length := by
          have := (List.getElem?_eq_some_iff.mp hj).1
          rwa [back_len] at this
        rw [back_in hv hlt] at hj
        unfold clearE at hcl
        rw [List.all_eq_true] at hcl
        have := hcl j hv
        cases hE : E1[j]? with
        | none => rw [hE] at hj; cases hj
        | some o =>
          rw [hE] at hj this
          simp only [Option.getD_some, Option.some.injEq] at hj
          subst hj
          simp at this
      · rw [back_ne hv] at hj
        rw [wg_E, wg_ne hv, wg_wipe, wg_ne hv]
        exact ⟨hj, rfl⟩
    refine q ρc Yc Hc (.ref D) ((p1.trans p0).trans pc) ?_ ⟨D, rfl, ?_, okc.wx D (.inr rfl), wD, ?_, p1.up D hD, fun j d hj hs => ?_⟩ (fun i e => by cases e)
    · refine (okc.weak w1).slots (by rw [back_len]; exact lnE) fun j x hj => ?_
      by_cases hv : j ∈ vs
      · have hlt : j < E2.length := by
          have := (List.getElem?_eq_some_iff.mp hj).1
          rwa [back_len] at this
        obtain ⟨d, o⟩ := x
        cases o with
        | true =>
          obtain ⟨h1, h2⟩ := own_of j d hj
          exact .inl ⟨h1, h2⟩
        | false =>
          rw [back_in hv hlt] at hj
          cases hE : E1[j]? with
          | none => rw [hE] at hj; cases hj
          | some o =>
            rw [hE] at hj
            simp only [Option.getD_some, Option.some.injEq] at hj
            subst hj
            obtain ⟨v, a, b⟩ := ok1.val j d hE
            exact .inr ⟨d, v, rfl, a, b.post (p0.trans pc)⟩
      · rw [back_ne hv] at hj
        rw [wg_E, wg_ne hv, wg_wipe, wg_ne hv]
        exact .inl ⟨hj, rfl⟩
    · simp only [Cont]
      exact ⟨accV, hDc, rc⟩
    · exact fun z => (okc.cX D z).2 (.inr rfl)
    · obtain ⟨h1, h2⟩ := own_of j d hj
      obtain ⟨p, a, b, c', e, f⟩ := okc.own j d h1
      rw [← h2, hs] at a
      cases a
      exact e (.inr rfl)
end
end Dk
end
/-! Snd15b -/
section
set_option linter.all false
set_option maxRecDepth 100000
set_option maxHeartbeats 1000000
/-! zip. -/
namespace Dk
open PySem (Str Addr Heap Value Shared sizeLine Expr Pos)
open L2 (V Hp HO upd Rd SqL SqT Key St VK TE PE PT PW PA PG PGs PI It)
section
variable {K : Kx} {P : Prg} {M : CM} {cad : String → Option Addr} {k : Nat} {cc : Cc} {sc isc : PySem.Scope} {X : L2.Cx} {W W' : Addr → Prop} {ρ ρ1 : List Addr} {Y Y1 : Addr → Prop} {E E' E1 E2 : Env} {S S' S1 S2 : Sto} {d : D} {fl : Fl} {σ σ' σ2 : St} {H H1 : Hp} {Q : VK} {e e1 e2 e3 tg elt iter : Expr} {es ifs : List Expr} {cs : CEs} {a b c : CE} {pos p tp : Pos} {n kk : Nat}
theorem zip_get : ∀ (l m : List D) (i : Nat), (zipL l m)[i]? = (match l[i]?, m[i]? with | some x, some y => some (.tup [x, y]) | _, _ => none)
  | [], m, i => by cases m <;> simp [zipL]
  | x :: l, [], i => by simp only [zipL, List.getElem?_nil]; split <;> simp_all
  | x :: l, y :: m, 0 => by simp [zipL]
  | x :: l, y :: m, i + 1 => by simp only [zipL, List.getElem?_cons_succ]; exact zip_get l m i
theorem zip_len : ∀ (l m : List D), (zipL l m).length = min l.length m.length
  | [], m => by cases m <;> simp [zipL]
  | x :: l, [] => by simp [zipL]
  | x :: l, y :: m => by simp only [zipL, List.length_cons, zip_len l m]; omega
theorem iok_zipL {p q : Addr} {l m : List D} {vs ws : List V} (h : (¬ Y p ∧ Rd H p (.lst vs)) ∨ WrL K p vs) (r : Reps K cad Y ρ H l vs) (h2 : (¬ Y q ∧ Rd H q (.lst ws)) ∨ WrL K q ws) (r2 : Reps K cad Y ρ H m ws) : IOk K cad (zipL l m) (L2.Itz K p q) ρ Y H := by
  intro ρ' Y' H' pr g dm i hi
  rw [zip_len] at hi ⊢
  have r' := r.mono g pr
  have r2' := r2.mono g pr
  have h' : SqL K H' p vs := (h.elim (fun z => Or.inl (rd_go g z.1 z.2).2) Or.inr : SqE K H' p vs).sq
  have h2' : SqL K H' q ws := (h2.elim (fun z => Or.inl (rd_go g z.1 z.2).2) Or.inr : SqE K H' q ws).sq
  refine ⟨fun e => ⟨vs, ws, h', h2', by rw [r.length, r2.length]; omega⟩, fun d hd => ?_⟩
  rw [zip_get] at hd
  split at hd
  · rename_i x y hx hy
    cases hd
    obtain ⟨v, hv, rv⟩ := r'.get hx
    obtain ⟨w, hw, rw'⟩ := r2'.get hy
    refine ⟨⟨vs, ws, v, w, h', h2', hv, hw⟩, fun u H'' yy => ?_⟩
    obtain ⟨T, x', y', rfl, hT, rfl, q1, q2⟩ := yy
    have a1 := q1 vs h'
    have a2 := q2 ws h2'
    rw [hv] at a1; cases a1
    rw [hw] at a2; cases a2
    exact ⟨Ex.new hT, rep_tup_new dm hT (Reps.cons rv (Reps.one rw'))⟩
  · cases hd
theorem iok_zipT {p q : Addr} {l m : List D} {vs ws : List V} (h : (¬ Y p ∧ Rd H p (.tup vs)) ∨ WrT K p vs) (r : Reps K cad Y ρ H l vs) (h2 : (¬ Y q ∧ Rd H q (.tup ws)) ∨ WrT K q ws) (r2 : Reps K cad Y ρ H m ws) : IOk K cad (zipL l m) (RZ.ItzT K p q) ρ Y H := by
  intro ρ' Y' H' pr g dm i hi
  rw [zip_len] at hi ⊢
  have r' := r.mono g pr
  have r2' := r2.mono g pr
  have h' : SqT K H' p vs := h.elim (fun z => .inl (rd_go g z.1 z.2).2) .inr
  have h2' : SqT K H' q ws := h2.elim (fun z => .inl (rd_go g z.1 z.2).2) .inr
  refine ⟨fun e => ⟨vs, ws, h', h2', by rw [r.length, r2.length]; omega⟩, fun d hd => ?_⟩
  rw [zip_get] at hd
  split at hd
  · rename_i x y hx hy
    cases hd
    obtain ⟨v, hv, rv⟩ := r'.get hx
    obtain ⟨w, hw, rw'⟩ := r2'.get hy
    refine ⟨⟨vs, ws, v, w, h', h2', hv, hw⟩, fun u H'' yy => ?_⟩
    obtain ⟨T, x', y', rfl, hT, rfl, q1, q2⟩ := yy
    have a1 := q1 vs h'
    have a2 := q2 ws h2'
    rw [hv] at a1; cases a1
    rw [hw] at a2; cases a2
    exact ⟨Ex.new hT, rep_tup_new dm hT (Reps.cons rv (Reps.one rw'))⟩
  · cases hd
theorem s_zip (g : Gd P M cad k cc sc X) (hg : isGl sc "zip" = true) (hs1 : isStar e1 = false) (hs2 : isStar e2 = false) (ha : SoundE P M cad X e1 a) (hb : SoundE P M cad X e2 b) : SoundI P M cad X (.Tuple es kk tp) (.Call (.Name "zip" p) [e1, e2] [] pos) (.zip a b) := by
  intro W E S xs E' S' h
  simp only [itr] at h
  obtain ⟨⟨d, fl⟩, E1, S1, h1, h⟩ := bnd_ok h
  obtain ⟨⟨d2, fl2⟩, E2, S2, h2, h⟩ := bnd_ok h
  obtain ⟨r, hr, h⟩ := opt_ok h
  cases h
  have st1 : PySem.starEach [e1, e2] X.env = (false, PySem.eval e1 X.env) :: PySem.starEach [e2] X.env := star_one _ hs1
  have st2 : PySem.starEach [e2] X.env = [(false, PySem.eval e2 X.env)] := star_one _ hs2
  have pa := L2.pa_cons (ha W _ _ _ _ _ _ h1) (L2.pa_cons (hb W _ _ _ _ _ _ h2) L2.pa_nil st2) st1
  refine PI.sub (RZ.pi_zipA (g.gl _ hg) (g.wd.bi "zip" (by simp)) pa st1 (by rw [st2]; rfl)) fun σ H R z => ?_
  obtain ⟨ρ, Y, ok, q⟩ := z
  refine ⟨ρ, Y, ok, fun ρ1 Y1 H1 v1 p1 ok1 r1 l1 => ?_⟩
  unfold zipO at hr
  split at hr
  · rename_i l m o1 o2
    cases hr
    obtain ⟨Y1', p1', ok1', rv⟩ := VRes.share o1 r1 ok1 p1
    refine ⟨ρ1, Y1', ok1', fun ρ2 Y2 H2 v2 p2 ok2 r2 l2 => ?_⟩
    obtain ⟨Y2', p2', ok2', rw'⟩ := VRes.share o2 r2 ok2 p2
    have rv' := rv.post p2'
    simp only [Rep] at rv' rw'
    obtain ⟨x, vs, rfl, hx, rs⟩ := rv'
    obtain ⟨y, ws, rfl, hy, rs2⟩ := rw'
    exact ⟨x, y, vs, ws, rfl, .inr ⟨hx.elim (fun q => .inl q.2) .inr, hy.elim (fun q => .inl q.2) .inr, q _ _ _ _ (p1'.trans p2') ok2' (iok_zipT hx rs hy rs2)⟩⟩
  · rename_i l m o1 o2
    cases hr
    obtain ⟨Y1', p1', ok1', rv⟩ := VRes.share o1 r1 ok1 p1
    refine ⟨ρ1, Y1', ok1', fun ρ2 Y2 H2 v2 p2 ok2 r2 l2 => ?_⟩
    obtain ⟨Y2', p2', ok2', rw'⟩ := VRes.share o2 r2 ok2 p2
    have rv' := rv.post p2'
    simp only [Rep] at rv' rw'
    obtain ⟨x, vs, rfl, hx, rs⟩ := rv'
    obtain ⟨y, ws, rfl, hy, rs2⟩ := rw'
    exact ⟨x, y, vs, ws, rfl, .inl ⟨(hx.elim (fun z => Or.inl z.2) Or.inr : SqE X.K H2 x vs).sq, (hy.elim (fun z => Or.inl z.2) Or.inr : SqE X.K H2 y ws).sq, q _ _ _ _ (p1'.trans p2') ok2' (iok_zipL hx rs hy rs2)⟩⟩
  · cases hr
end
end Dk
end
/-! Snd15c -/
section
set_option linter.all false
set_option maxRecDepth 100000
set_option maxHeartbeats 2000000
/-! Comprehensions over an own list; of two clauses. -/
namespace Dk
open PySem (Str Addr Heap Value Shared sizeLine Expr Pos)
open L2 (V Hp HO upd Rd SqL SqT Key St VK TE PE PT PW PA PG PGs PI It)
section
variable {K : Kx} {P : Prg} {M : CM} {cad : String → Option Addr} {k : Nat} {cc : Cc} {sc isc : PySem.Scope} {X : L2.Cx} {W W' : Addr → Prop} {ρ ρ1 : List Addr} {Y Y1 : Addr → Prop} {E E' E1 E2 : Env} {S S' S1 S2 : Sto} {d : D} {fl : Fl} {σ σ' σ2 : St} {H H1 : Hp} {Q : VK} {e e1 e2 e3 tg elt iter : Expr} {es ifs : List Expr} {cs cs1 : CEs} {a b c : CE} {pos p tp : Pos} {n kk : Nat}
theorem ownL_ok {o : Option (Option (D × Bool))} {l : List D} (h : ownL o = some l) : o = some (some (.lst l, true)) := by
  unfold ownL at h
  split at h
  · cases h; rfl
  · cases h
/-- a name that is hidden -/
theorem EOk.hide (ok : EOk K cad W ρ Y E S σ H) (i : Nat) : EOk K cad W ρ Y (E.set i none) S σ H := by
  refine ok.slots (by rw [List.length_set]; exact ok.ln) fun j x hj => ?_
  by_cases hij : i = j
  · subst hij
    have hi : i < E.length := by
      have := (List.getElem?_eq_some_iff.mp hj).1
      rwa [List.length_set] at this
    rw [List.getElem?_set_self hi] at hj
    cases hj
  · rw [List.getElem?_set_ne hij] at hj
    exact .inl ⟨hj, rfl⟩
theorem set_none {i j : Nat} {x : D × Bool} (h : (E.set i none)[j]? = some (some x)) : i ≠ j ∧ E[j]? = some (some x) := by
  by_cases hij : i = j
  · subst hij
    have hi : i < E.length := by
      have := (List.getElem?_eq_some_iff.mp h).1
      rwa [List.length_set] at this
    rw [List.getElem?_set_self hi] at h
    cases h
  · rw [List.getElem?_set_ne hij] at h
    exact ⟨hij, h⟩
/-- a hidden name holds its own thing again -/
theorem EOk.regain (ok : EOk K cad W ρ Y E S σ H) {i : Nat} {p : Addr} (hs : σ[i]? = some (some (V.ref p))) (c : Cont K cad Y ρ H p d) (y : Y p) (w : ¬ W p) (r : p ∉ ρ)
    (o : ∀ (j : Nat) (e : D), i ≠ j → E[j]? = some (some (e, true)) → σ[j]? ≠ some (some (V.ref p))) : EOk K cad W ρ Y (E.set i (some (d, true))) S σ H := by
  have hi : i < E.length := by rw [ok.ln]; exact (List.getElem?_eq_some_iff.mp hs).1
  have cas : ∀ {j : Nat} {x : D × Bool}, (E.set i (some (d, true)))[j]? = some (some x) → (i = j ∧ x = (d, true)) ∨ (i ≠ j ∧ E[j]? = some (some x)) := fun {j x} h => by
    by_cases hij : i = j
    · subst hij
      rw [List.getElem?_set_self hi] at h
      cases h
      exact .inl ⟨rfl, rfl⟩
    · rw [List.getElem?_set_ne hij] at h
      exact .inr ⟨hij, h⟩
  refine ⟨ok.toSOk, fun j e h => ?_, fun j e h => ?_, fun j j' e e' q hne h1 h2 s1 s2 => ?_, by rw [List.length_set]; exact ok.ln⟩
  · rcases cas h with ⟨_, z⟩ | ⟨_, z⟩
    · cases z
    · exact ok.val j e z
  · rcases cas h with ⟨rfl, z⟩ | ⟨_, z⟩
    · cases z
      exact ⟨p, hs, c, y, w, r⟩
    · exact ok.own j e z
  · rcases cas h1 with ⟨rfl, z1⟩ | ⟨n1, z1⟩
    · rcases cas h2 with ⟨rfl, z2⟩ | ⟨n2, z2⟩
      · exact hne rfl
      · rw [hs] at s1; cases s1
        exact o j' e' n2 z2 s2
    · rcases cas h2 with ⟨rfl, z2⟩ | ⟨n2, z2⟩
      · rw [hs] at s2; cases s2
        exact o j e n1 z1 s1
      · exact ok.sep j j' e e' q hne z1 z2 s1 s2
def rOwnI (K : Kx) (cad : String → Option Addr) (W : Addr → Prop) (i : Nat) (E : Env) (S : Sto) : L2.TI := fun σ H R => ∃ ρ Y, EOk K cad W ρ Y E S σ H ∧
  ∀ ρ' Y' H' p, Post W ρ Y H ρ' Y' H' → EOk K cad W ρ' Y' E S σ H' → σ[i]? = some (some (V.ref p)) → R (L2.Itl K p) H'
theorem s_ownI {x : Str} {i : Nat} {l : List D} (g : Gd P M cad k cc sc X) (hx : cc.N[i]? = some x) (hv : isVis sc x = true) (ho : okNm x = true) (he : E[i]? = some (some (.lst l, true))) : PI X tg (.Name x pos) (rOwnI X.K cad W i E S) := by
  have pe := s_loc (pos := pos) (P := P) (M := M) g hx hv ho W E S (.lst l) .p E S (by simp only [ev, he]; rfl)
  refine PI.sub (L2.pi_list pe) fun σ H R z => ?_
  obtain ⟨ρ, Y, ok, q⟩ := z
  refine ⟨ρ, Y, ok, fun ρ1 Y1 H1 v1 p1 ok1 r1 l1 => ?_⟩
  have hs := l1 i rfl
  obtain ⟨p, hp, c, _⟩ := ok1.own i _ he
  rw [hs] at hp; cases hp
  simp only [Cont] at c
  obtain ⟨vs, hq, _⟩ := c
  exact ⟨p, rfl, ⟨vs, .inl (.inl hq)⟩, q _ _ _ _ p1 ok1 hs⟩
theorem lco_sub {t : Tg} {l r : List D} {i : Nat} (he : E[i]? = some (some (.lst l, true))) (hlc : lcL (slots t) (tgt t) (conds P M.call M.make cs) (fun E S acc => bnd (ev P M.call M.make c E S) (pushL acc)) l [] (E.set i none) S = some (.ok r, E2, S2))
    (hcl : clearE E (slots t) = true) (hni : i ∉ slots t) (z : rE K cad W (.lco c t i cs) E S (.lst r) .f ((backE (E.set i none) E2 (slots t)).set i (some (.lst l, true))) S2 σ H Q) :
    L2.tLc (rOwnI K cad W i E S) (aG K cad t) (aC P M K cad cs) (aE P M K cad c) (slots t) σ H Q := by
  obtain ⟨ρ, Y, ok, q⟩ := z
  refine ⟨ρ, Y, ok, fun ρ1 Y1 H1 p p1 ok1 hp D hD => ?_⟩
  generalize hvs : slots t = vs at *
  obtain ⟨pp, hpp, cp, yp, wp, rp⟩ := ok1.own i _ he
  rw [hp] at hpp; cases hpp
  simp only [Cont] at cp
  obtain ⟨lv, hpl, rpl⟩ := cp
  obtain ⟨g0, p0, ok0, wD, rD, oD⟩ := ok1.aside (o := .lst []) hD
  have hDp : p ≠ D := fun z => by rw [z, hD] at hpl; cases hpl
  have okD := ((ok0.hide i).block (p := D) (.inr rfl) rD (fun j d h1 => oD j d (set_none h1).2)).block (p := p) (.inl yp) rp (fun j d h1 h2 => ok1.sep i j _ d p (set_none h1).1 he (set_none h1).2 hp h2)
  refine ⟨fun i' m Hc => m = l.length - i' ∧ i' ≤ l.length ∧ ∃ ρc Yc Ec Sc acc accV, EOk K cad (fun a => (W a ∨ a = D) ∨ a = p) ρc Yc (wipeE Ec vs) Sc (L2.wipe σ vs) Hc ∧ Post W ρ1 (fun a => Y1 a ∨ a = D) (upd H1 D (.lst [])) ρc Yc Hc ∧
    Hc D = some (.lst accV) ∧ Hc p = some (.lst lv) ∧ Reps K cad Yc ρc Hc acc accV ∧ lcL vs (tgt t) (conds P M.call M.make cs) (fun E S acc => bnd (ev P M.call M.make c E S) (pushL acc)) (l.drop i') acc Ec Sc = some (.ok r, E2, S2), ⟨l.length, rfl, Nat.zero_le _, ρ1, _, E.set i none, S, [], [], okD.wipe vs, Post.refl, L2.upd_same, by rw [L2.upd_ne hDp]; exact hpl, Reps.nil, hlc⟩, ?_⟩
  intro i' m Hc hw
  obtain ⟨hm, hi, ρc, Yc, Ec, Sc, acc, accV, okc, pc, hDc, hpc, rc, hl⟩ := hw
  have w1 : ∀ a, W a → (W a ∨ a = D) ∨ a = p := fun a h => .inl (.inl h)
  have sq : SqL K Hc p lv := .inl (.inl hpc)
  by_cases hlt : i' < l.length
  · refine .inr ?_
    obtain ⟨lvv, hv, rv0⟩ := (rpl.mono (p0.trans pc).go (p0.trans pc).pre).get (List.getElem?_eq_getElem hlt)
    refine ⟨⟨lv, lvv, sq, hv⟩, _, fun H' w => ⟨l.length - (i' + 1), by omega, w⟩, fun v H' y => ?_⟩
    obtain ⟨rfl, qy⟩ := y
    have hvv := qy lv sq
    rw [hv] at hvv; cases hvv
    rw [List.drop_eq_getElem_cons hlt] at hl
    simp only [lcL] at hl
    split at hl
    · cases hl
    · rename_i Ea hEa
      obtain ⟨b, Eb, Sb, hb, hl⟩ := bnd_ok hl
      refine ⟨_, l[i'], wipeE Ec vs, Ea, hEa, ρc, Yc, Sc, okc, rv0, fun σ' ok' ag ln => ?_⟩
      rw [hvs] at ag
      have wq : L2.wipe σ' vs = L2.wipe σ vs := by
        rw [wg_wipe, wg_wipe]
        refine wg_eq (by rw [ln, wg_wipe, wg_len]) fun j hj => ?_
        rw [ag j hj, wg_wipe, wg_ne hj]
      refine ⟨wq, _, Ea, Sc, b, Eb, Sb, hb, ρc, Yc, ok', fun ρd Yd Hd pd okd => ?_⟩
      have hDd := pd.kp D _ (.inl (.inr rfl)) hDc
      have hpd := pd.kp p _ (.inr rfl) hpc
      have px : Post W ρ1 (fun a => Y1 a ∨ a = D) (upd H1 D (.lst [])) ρd Yd Hd := pc.trans (pd.weak w1)
      have rd := rc.mono pd.go pd.pre
      cases b with
      | true =>
        show aE P M K cad c σ' Hd _
        simp only [if_true] at hl
        obtain ⟨acc', E3, S3, h3, hl⟩ := bnd_ok hl
        obtain ⟨y', E4, S4, h4, h3⟩ := bnd_ok h3
        obtain ⟨dy, fy⟩ := y'
        unfold pushL at h3
        split at h3
        · rename_i yd hone
          split at h3
          · rename_i hlen
            cases h3
            refine ⟨_, Eb, Sb, dy, fy, E3, S3, h4, ρd, Yd, okd, fun ρe Ye He yv pe oke re le => ?_⟩
            obtain ⟨Yf, pf, okf, rf⟩ := VRes.share hone re oke pe
            have hDe := pe.kp D _ (.inl (.inr rfl)) hDd
            have hpe := pe.kp p _ (.inr rfl) hpd
            have dY : Yf D := okf.wx D (.inl (.inr rfl))
            refine ⟨accV, hDe, ?_, rfl, by omega, ρe, Yf, E3, S3, acc ++ [yd], accV ++ [yv], ?_, (px.trans (pf.weak w1)).trans (Post.touch wD dY), L2.upd_same, by rw [L2.upd_ne hDp]; exact hpe, ?_, hl⟩
            · rw [rd.length]
              exact Nat.lt_of_lt_of_le hlen lim_line
            · rw [← wq]
              exact (okf.wipe vs).touch (.inl (.inr rfl))
            · exact ((rd.mono pf.go pf.pre).append (Reps.one rf)).mono (go_in dY) self_pre
          · cases h3
        · cases h3
      | false =>
        simp only [Bool.false_eq_true, if_false] at hl
        refine ⟨rfl, by omega, ρd, Yd, Eb, Sb, acc, accV, ?_, px, hDd, hpd, rd, hl⟩
        rw [← wq]
        exact okd.wipe vs
  · have hi' : i' = l.length := by omega
    refine .inl ⟨⟨lv, sq, by rw [rpl.length]; omega⟩, ?_⟩
    subst hi'
    rw [List.drop_length] at hl
    simp only [lcL] at hl
    cases hl
    have lnE : E2.length = σ.length := by
      have := okc.ln
      rwa [wg_wipe, wg_E, wg_len, wg_len] at this
    have own_of : ∀ (j : Nat) (d : Dk.D), (backE (E.set i none) E2 vs)[j]? = some (some (d, true)) → (wipeE E2 vs)[j]? = some (some (d, true)) ∧ σ[j]? = (L2.wipe σ vs)[j]? := by
      intro j d hj
      by_cases hv : j ∈ vs
      · exfalso
        have hlt : j < E2.length := by
          have := (List.getElem?_eq_some_iff.mp hj).1
          rwa [back_len] at this
        rw [back_in hv hlt] at hj
        unfold clearE at hcl
        rw [List.all_eq_true] at hcl
        have hc := hcl j hv
        cases hE : (E.set i none)[j]? with
        | none => rw [hE] at hj; cases hj
        | some o =>
          rw [hE] at hj
          simp only [Option.getD_some, Option.some.injEq] at hj
          subst hj
          rw [(set_none hE).2] at hc
          simp at hc
      · rw [back_ne hv] at hj
        rw [wg_E, wg_ne hv, wg_wipe, wg_ne hv]
        exact ⟨hj, rfl⟩
    have okB : EOk K cad W ρc Yc (backE (E.set i none) E2 vs) S2 σ Hc := by
      refine (okc.weak w1).slots (by rw [back_len]; exact lnE) fun j x hj => ?_
      by_cases hv : j ∈ vs
      · have hlt : j < E2.length := by
          have := (List.getElem?_eq_some_iff.mp hj).1
          rwa [back_len] at this
        obtain ⟨d, o⟩ := x
        cases o with
        | true =>
          obtain ⟨h1, h2⟩ := own_of j d hj
          exact .inl ⟨h1, h2⟩
        | false =>
          rw [back_in hv hlt] at hj
          cases hE : (E.set i none)[j]? with
          | none => rw [hE] at hj; cases hj
          | some o =>
            rw [hE] at hj
            simp only [Option.getD_some, Option.some.injEq] at hj
            subst hj
            obtain ⟨v, a, b⟩ := ok1.val j d (set_none hE).2
            exact .inr ⟨d, v, rfl, a, b.post (p0.trans pc)⟩
      · rw [back_ne hv] at hj
        rw [wg_E, wg_ne hv, wg_wipe, wg_ne hv]
        exact .inl ⟨hj, rfl⟩
    have notp : ∀ (j : Nat) (d : Dk.D) (x : Addr), x = D ∨ x = p → (backE (E.set i none) E2 vs)[j]? = some (some (d, true)) → σ[j]? ≠ some (some (V.ref x)) := fun j d x hx hj hs => by
      obtain ⟨h1, h2⟩ := own_of j d hj
      obtain ⟨p', a, b, c', e, f⟩ := okc.own j d h1
      rw [← h2, hs] at a
      cases a
      rcases hx with rfl | rfl
      · exact e (.inl (.inr rfl))
      · exact e (.inr rfl)
    have yc := okc.wx p (.inr rfl)
    have nrc : p ∉ ρc := fun z => (okc.cX p z).2 (.inr rfl)
    have cont : Cont K cad Yc ρc Hc p (.lst l) := by
      simp only [Cont]
      exact ⟨lv, hpc, rpl.mono (p0.trans pc).go (p0.trans pc).pre⟩
    refine q ρc Yc Hc (.ref D) ((p1.trans p0).trans pc) (okB.regain hp cont yc wp nrc fun j e hij hj => notp j e p (.inr rfl) hj) ⟨D, rfl, ?_, okc.wx D (.inl (.inr rfl)), wD, ?_, p1.up D hD, fun j d hj hs => ?_⟩ (fun i e => by cases e)
    · simp only [Cont]
      exact ⟨accV, hDc, rc⟩
    · exact fun z => (okc.cX D z).2 (.inl (.inr rfl))
    · by_cases hij : i = j
      · subst hij
        rw [hp] at hs
        cases hs
        exact hDp rfl
      · rw [List.getElem?_set_ne hij] at hj
        exact notp j d D (.inl rfl) hj hs
def aI (P : Prg) (M : CM) (K : Kx) (cad : String → Option Addr) (ci : CI) : L2.TI := fun σ H R => ∃ W E S xs E' S', itr P M.call M.make ci E S = some (.ok xs, E', S') ∧ rI K cad W xs E S E' S' σ H R
theorem any_I {ci : CI} (h : SoundI P M cad X tg e ci) : PI X tg e (aI P M X.K cad ci) := by
  constructor
  intro pins s σ H R I z
  obtain ⟨W, E, S, xs, E', S', h1, z⟩ := z
  exact (h W _ _ _ _ _ h1).run pins s σ H R I z
theorem wg_wg {α : Type} {l : List (Option α)} {vs ws : List Nat} (h : ∀ i, i ∈ ws → i ∈ vs) : wg (wg l ws) vs = wg l vs :=
  wg_eq (by rw [wg_len]) fun i hi => wg_ne fun z => hi (h i z)
/-- two clauses -/
theorem lc2_sub {t t1 : Tg} {ci ci1 : CI} {xs l : List D}
    (hlc : lcL (slots t ++ slots t1) (tgt t) (conds P M.call M.make cs) (fun E S acc => bnd (itr P M.call M.make ci1 E S) fun g1 E S => lcL (slots t1) (tgt t1) (conds P M.call M.make cs1) (fun E S acc => bnd (ev P M.call M.make c E S) (pushL acc)) g1 acc E S) xs [] E1 S1 = some (.ok l, E2, S2))
    (hcl : clearE E1 (slots t ++ slots t1) = true) (z : rE K cad W (.lc2 c t ci cs t1 ci1 cs1) E S (.lst l) .f (backE E1 E2 (slots t ++ slots t1)) S2 σ H Q) :
    L2.tLc2 (rI K cad W xs E S E1 S1) (aG K cad t) (aC P M K cad cs) (aI P M K cad ci1) (aG K cad t1) (aC P M K cad cs1) (aE P M K cad c) (slots t ++ slots t1) (slots t1) σ H Q := by
  obtain ⟨ρ, Y, ok, q⟩ := z
  refine ⟨ρ, Y, ok, fun ρ1 Y1 H1 J p1 ok1 iok D hD => ?_⟩
  have sub0 : ∀ i, i ∈ slots t → i ∈ slots t ++ slots t1 := fun i h => List.mem_append_left _ h
  have sub1 : ∀ i, i ∈ slots t1 → i ∈ slots t ++ slots t1 := fun i h => List.mem_append_right _ h
  generalize hvs : slots t ++ slots t1 = vs at *
  generalize hvs1 : slots t1 = vs1 at *
  obtain ⟨g0, p0, ok0, wD, rD, oD⟩ := ok1.aside (o := .lst []) hD
  have okD := ok0.block (p := D) (.inr rfl) rD oD
  have w1 : ∀ a, W a → W a ∨ a = D := fun a h => .inl h
  generalize hin : (fun E S acc => bnd (itr P M.call M.make ci1 E S) fun g1 E S => lcL vs1 (tgt t1) (conds P M.call M.make cs1) (fun E S acc => bnd (ev P M.call M.make c E S) (pushL acc)) g1 acc E S : Env → Sto → List Dk.D → Ot (List Dk.D)) = inner at *
  refine ⟨fun i m Hc => m = xs.length - i ∧ i ≤ xs.length ∧ ∃ ρc Yc Ec Sc acc accV, EOk K cad (fun a => W a ∨ a = D) ρc Yc (wipeE Ec vs) Sc (L2.wipe σ vs) Hc ∧ Post W ρ1 (fun a => Y1 a ∨ a = D) (upd H1 D (.lst [])) ρc Yc Hc ∧
    Hc D = some (.lst accV) ∧ Reps K cad Yc ρc Hc acc accV ∧ lcL vs (tgt t) (conds P M.call M.make cs) inner (xs.drop i) acc Ec Sc = some (.ok l, E2, S2), ⟨xs.length, rfl, Nat.zero_le _, ρ1, _, E1, S1, [], [], okD.wipe vs, Post.refl, L2.upd_same, Reps.nil, hlc⟩, ?_⟩
  intro i m Hc hw
  obtain ⟨hm, hi, ρc, Yc, Ec, Sc, acc, accV, okc, pc, hDc, rc, hl⟩ := hw
  have it := iok ρc Yc Hc (p0.trans pc).pre (p0.trans pc).go okc.dom i hi
  by_cases hlt : i < xs.length
  · refine .inr ?_
    obtain ⟨go, yld⟩ := it.2 xs[i] (List.getElem?_eq_getElem hlt)
    refine ⟨go, _, fun H' w => ⟨xs.length - (i + 1), by omega, w⟩, fun v H' y => ?_⟩
    obtain ⟨ex, rv⟩ := yld v H' y
    have okx := okc.ex ex
    rw [List.drop_eq_getElem_cons hlt] at hl
    simp only [lcL] at hl
    split at hl
    · cases hl
    · rename_i Ea hEa
      obtain ⟨b, Eb, Sb, hb, hl⟩ := bnd_ok hl
      refine ⟨_, xs[i], wipeE Ec vs, Ea, hEa, ρc, Yc, Sc, okx, rv, fun σ' ok' ag ln => ?_⟩
      have wq : L2.wipe σ' vs = L2.wipe σ vs := by
        rw [wg_wipe, wg_wipe]
        refine wg_eq (by rw [ln, wg_wipe, wg_len]) fun j hj => ?_
        rw [ag j (fun z => hj (sub0 j z)), wg_wipe, wg_ne hj]
      refine ⟨wq, _, Ea, Sc, b, Eb, Sb, hb, ρc, Yc, ok', fun ρd Yd Hd pd okd => ?_⟩
      have hDd := pd.kp D _ (.inr rfl) (ex D _ hDc)
      have px : Post W ρ1 (fun a => Y1 a ∨ a = D) (upd H1 D (.lst [])) ρd Yd Hd := (pc.trans ex.post).trans (pd.weak w1)
      have rd := (rc.mono ex.go self_pre).mono pd.go pd.pre
      cases b with
      | true =>
        show aI P M K cad ci1 σ' Hd _
        simp only [if_true] at hl
        obtain ⟨acc', E3, S3, h3, hl⟩ := bnd_ok hl
        rw [← hin] at h3
        obtain ⟨ys, E4, S4, h4, h3⟩ := bnd_ok h3
        refine ⟨_, Eb, Sb, ys, E4, S4, h4, ρd, Yd, okd, fun ρe Ye He J1 pe oke iok1 => ?_⟩
        have hDe := pe.kp D _ (.inr rfl) hDd
        have pxe := px.trans (pe.weak w1)
        have re := rd.mono pe.go pe.pre
        refine ⟨fun j k' Hf => k' = ys.length - j ∧ j ≤ ys.length ∧ ∃ ρf Yf Ef Sf acc0 accV0, EOk K cad (fun a => W a ∨ a = D) ρf Yf (wipeE Ef vs1) Sf (L2.wipe σ' vs1) Hf ∧ Post W ρ1 (fun a => Y1 a ∨ a = D) (upd H1 D (.lst [])) ρf Yf Hf ∧ Post W ρe Ye He ρf Yf Hf ∧
          Hf D = some (.lst accV0) ∧ Reps K cad Yf ρf Hf acc0 accV0 ∧ lcL vs1 (tgt t1) (conds P M.call M.make cs1) (fun E S acc => bnd (ev P M.call M.make c E S) (pushL acc)) (ys.drop j) acc0 Ef Sf = some (.ok acc', E3, S3), ⟨ys.length, rfl, Nat.zero_le _, ρe, Ye, E4, S4, acc, accV, oke.wipe vs1, pxe, Post.refl, hDe, re, h3⟩, ?_⟩
        intro j k' Hf hwf
        obtain ⟨hk, hj, ρf, Yf, Ef, Sf, acc0, accV0, okf, pf, pef, hDf, rf, hlf⟩ := hwf
        have itf := iok1 ρf Yf Hf pef.pre pef.go okf.dom j hj
        by_cases hjlt : j < ys.length
        · refine .inr ?_
          obtain ⟨go1, yld1⟩ := itf.2 ys[j] (List.getElem?_eq_getElem hjlt)
          refine ⟨go1, _, fun H' w => ⟨ys.length - (j + 1), by omega, w⟩, fun v1 H' y1 => ?_⟩
          obtain ⟨ex1, rv1⟩ := yld1 v1 H' y1
          have okg := okf.ex ex1
          rw [List.drop_eq_getElem_cons hjlt] at hlf
          simp only [lcL] at hlf
          split at hlf
          · cases hlf
          · rename_i Eg hEg
            obtain ⟨b1, Eh, Sh, hb1, hlf⟩ := bnd_ok hlf
            refine ⟨_, ys[j], wipeE Ef vs1, Eg, hEg, ρf, Yf, Sf, okg, rv1, fun σ3 ok3 ag3 ln3 => ?_⟩
            rw [hvs1] at ag3
            have wq1 : L2.wipe σ3 vs1 = L2.wipe σ' vs1 := by
              rw [wg_wipe, wg_wipe]
              refine wg_eq (by rw [ln3, wg_wipe, wg_len]) fun j hj => ?_
              rw [ag3 j hj, wg_wipe, wg_ne hj]
            refine ⟨wq1, _, Eg, Sf, b1, Eh, Sh, hb1, ρf, Yf, ok3, fun ρh Yh Hh ph okh => ?_⟩
            have hDh := ph.kp D _ (.inr rfl) (ex1 D _ hDf)
            have phx : Post W ρ1 (fun a => Y1 a ∨ a = D) (upd H1 D (.lst [])) ρh Yh Hh := (pf.trans ex1.post).trans (ph.weak w1)
            have phe : Post W ρe Ye He ρh Yh Hh := (pef.trans ex1.post).trans (ph.weak w1)
            have rh := (rf.mono ex1.go self_pre).mono ph.go ph.pre
            cases b1 with
            | true =>
              show aE P M K cad c σ3 Hh _
              simp only [if_true] at hlf
              obtain ⟨acc2, E5, S5, h5, hlf⟩ := bnd_ok hlf
              obtain ⟨y', E6, S6, h6, h5⟩ := bnd_ok h5
              obtain ⟨dy, fy⟩ := y'
              unfold pushL at h5
              split at h5
              · rename_i yd hone
                split at h5
                · rename_i hlen
                  cases h5
                  refine ⟨_, Eh, Sh, dy, fy, E5, S5, h6, ρh, Yh, okh, fun ρi Yi Hi yv pi' oki ri li => ?_⟩
                  obtain ⟨Yj, pj, okj, rj⟩ := VRes.share hone ri oki pi'
                  have hDi := pi'.kp D _ (.inr rfl) hDh
                  have dY : Yj D := okj.wx D (.inr rfl)
                  refine ⟨accV0, hDi, ?_, rfl, by omega, ρi, Yj, E5, S5, acc0 ++ [yd], accV0 ++ [yv], ?_, (phx.trans (pj.weak w1)).trans (Post.touch wD dY), (phe.trans (pj.weak w1)).trans (Post.touch wD dY), L2.upd_same, ?_, hlf⟩
                  · rw [rh.length]
                    exact Nat.lt_of_lt_of_le hlen lim_line
                  · rw [← wq1]
                    exact (okj.wipe vs1).touch (.inr rfl)
                  · exact ((rh.mono pj.go pj.pre).append (Reps.one rj)).mono (go_in dY) self_pre
                · cases h5
              · cases h5
            | false =>
              simp only [Bool.false_eq_true, if_false] at hlf
              refine ⟨rfl, by omega, ρh, Yh, Eh, Sh, acc0, accV0, ?_, phx, phe, hDh, rh, hlf⟩
              rw [← wq1]
              exact okh.wipe vs1
        · have hj' : j = ys.length := by omega
          refine .inl ⟨itf.1 hj', ?_⟩
          subst hj'
          rw [List.drop_length] at hlf
          simp only [lcL] at hlf
          cases hlf
          refine ⟨rfl, by omega, ρf, Yf, E3, S3, acc', accV0, ?_, pf, hDf, rf, hl⟩
          have z1 := okf.wipe vs
          have e1 : wipeE (wipeE E3 vs1) vs = wipeE E3 vs := by rw [wg_E, wg_E, wg_E]; exact wg_wg sub1
          have e2 : L2.wipe (L2.wipe σ' vs1) vs = L2.wipe σ vs := by rw [← wq, wg_wipe, wg_wipe, wg_wipe]; exact wg_wg sub1
          rw [e1, e2] at z1
          exact z1
      | false =>
        simp only [Bool.false_eq_true, if_false] at hl
        refine ⟨rfl, by omega, ρd, Yd, Eb, Sb, acc, accV, ?_, px, hDd, rd, hl⟩
        rw [← wq]
        exact okd.wipe vs
  · refine .inl ⟨it.1 (by omega), ?_⟩
    have hi' : i = xs.length := by omega
    subst hi'
    rw [List.drop_length] at hl
    simp only [lcL] at hl
    cases hl
    have lnE : E2.length = σ.length := by
      have := okc.ln
      rwa [wg_wipe, wg_E, wg_len, wg_len] at this
    have own_of : ∀ (j : Nat) (d : Dk.D), (backE E1 E2 vs)[j]? = some (some (d, true)) → (wipeE E2 vs)[j]? = some (some (d, true)) ∧ σ[j]? = (L2.wipe σ vs)[j]? := by
      intro j d hj
      by_cases hv : j ∈ vs
      · exfalso
        have hlt : j < E2.length := by
          have := (List.getElem?_eq_some_iff.mp hj).1
          rwa [back_len] at this
        rw [back_in hv hlt] at hj
        unfold clearE at hcl
        rw [List.all_eq_true] at hcl
        have := hcl j hv
        cases hE : E1[j]? with
        | none => rw [hE] at hj; cases hj
        | some o =>
          rw [hE] at hj this
          simp only [Option.getD_some, Option.some.injEq] at hj
          subst hj
          simp at this
      · rw [back_ne hv] at hj
        rw [wg_E, wg_ne hv, wg_wipe, wg_ne hv]
        exact ⟨hj, rfl⟩
    refine q ρc Yc Hc (.ref D) ((p1.trans p0).trans pc) ?_ ⟨D, rfl, ?_, okc.wx D (.inr rfl), wD, ?_, p1.up D hD, fun j d hj hs => ?_⟩ (fun i e => by cases e)
    · refine (okc.weak w1).slots (by rw [back_len]; exact lnE) fun j x hj => ?_
      by_cases hv : j ∈ vs
      · have hlt : j < E2.length := by
          have := (List.getElem?_eq_some_iff.mp hj).1
          rwa [back_len] at this
        obtain ⟨d, o⟩ := x
        cases o with
        | true =>
          obtain ⟨h1, h2⟩ := own_of j d hj
          exact .inl ⟨h1, h2⟩
        | false =>
          rw [back_in hv hlt] at hj
          cases hE : E1[j]? with
          | none => rw [hE] at hj; cases hj
          | some o =>
            rw [hE] at hj
            simp only [Option.getD_some, Option.some.injEq] at hj
            subst hj
            obtain ⟨v, a, b⟩ := ok1.val j d hE
            exact .inr ⟨d, v, rfl, a, b.post (p0.trans pc)⟩
      · rw [back_ne hv] at hj
        rw [wg_E, wg_ne hv, wg_wipe, wg_ne hv]
        exact .inl ⟨hj, rfl⟩
    · simp only [Cont]
      exact ⟨accV, hDc, rc⟩
    · exact fun z => (okc.cX D z).2 (.inr rfl)
    · obtain ⟨h1, h2⟩ := own_of j d hj
      obtain ⟨p, a, b, c', e, f⟩ := okc.own j d h1
      rw [← h2, hs] at a
      cases a
      exact e (.inr rfl)
end
end Dk
end
/-! Snd10b -/
section
set_option linter.all false
set_option maxRecDepth 100000
set_option maxHeartbeats 1000000
/-! Parts with a step; count; extend; dict displays. -/
namespace Dk
open PySem
open L2 (V Hp HO upd Rd SqL SqT Key St VK TE PE PA PO OpR CallR MtR MtM Vals EP RelV Dp DpAll)
section
variable {X : L2.Cx}
/-! ### steps -/
theorem every_pick {α : Type} : ∀ (l : List α) (c : Nat), l.length ≤ 2 * c → (List.range c).filterMap (fun k => l[2 * k]?) = everyL l
  | [], c, _ => by simp [everyL]
  | [a], c, h => by
    obtain ⟨c, rfl⟩ : ∃ d, c = d + 1 := ⟨c - 1, by simp at h; omega⟩
    rw [List.range_succ_eq_map, List.filterMap_cons]
    simp [everyL, List.filterMap_map, Function.comp_def]
  | a :: b :: r, c, h => by
    obtain ⟨c, rfl⟩ : ∃ d, c = d + 1 := ⟨c - 1, by simp at h; omega⟩
    have ih := every_pick r c (by simp at h; omega)
    rw [List.range_succ_eq_map, List.filterMap_cons]
    simp only [Nat.mul_zero, List.getElem?_cons_zero, List.filterMap_map, everyL]
    congr 1
theorem step_pick (items : Array Value) (lo : Nat) (o : Option Int) (ho : (o = none ∧ lo = 0) ∨ (o = some (lo : Int) ∧ lo ≤ 1)) : slicePick items o none (some 2) = (everyL (items.toList.drop lo)).toArray := by
  unfold slicePick
  have hb : sliceBounds o none (some 2) items.size = (((min lo items.size : Nat) : Int), (items.size : Int), 2) := by
    rcases ho with ⟨rfl, rfl⟩ | ⟨rfl, h1⟩
    · simp [sliceBounds]
    · have h01 : lo = 0 ∨ lo = 1 := by omega
      rcases h01 with rfl | rfl
      · simp [sliceBounds]; omega
      · simp [sliceBounds]; omega
  rw [hb]
  congr 1
  show (sliceRange ((min lo items.size : Nat) : Int) (items.size : Int) 2).filterMap (items[·]?) = _
  unfold sliceRange
  simp only [show (2 : Int) > 0 by decide, if_true]
  by_cases hlt : lo < items.size
  · rw [Nat.min_eq_left (by omega), if_pos (by omega)]
    rw [List.filterMap_map]
    rw [← every_pick (items.toList.drop lo) ((items.size - lo + 1) / 2) (by rw [List.length_drop, Array.length_toList]; omega)]
    rw [show (((items.size : Int) - (lo : Int) + 2 - 1) / 2).toNat = (items.size - lo + 1) / 2 by omega]
    congr 1
    funext k
    simp only [Function.comp_def, List.getElem?_drop, Array.getElem?_toList]
    congr 1
  · rw [if_neg (by omega), List.drop_of_length_le (by rw [Array.length_toList]; omega)]
    simp [everyL]
theorem vals_every : ∀ {vs : List V} {us : List Value}, Vals vs us → Vals (everyL vs) (everyL us)
  | _, _, .nil => .nil
  | _, _, .cons h .nil => .cons h .nil
  | _, _, .cons h (.cons _ r) => .cons h (vals_every r)
theorem vals_drop {vs : List V} {us : List Value} (h : Vals vs us) (n : Nat) : Vals (vs.drop n) (us.drop n) := by
  induction n generalizing vs us with
  | zero => exact h
  | succ n ih => cases h with
    | nil => exact .nil
    | cons a r => exact ih r
theorem every_le {α : Type} : ∀ l : List α, (everyL l).length ≤ l.length
  | [] => Nat.le_refl _
  | [a] => Nat.le_refl _
  | a :: b :: r => by have := every_le r; simp only [everyL, List.length_cons]; omega
def rSls (K : Kx) (lo : Nat) (st : Int) : V → Hp → VK → Prop := fun x H Q => ∃ a xs, x = .ref a ∧ SqL K H a xs ∧ ((lo = 0 ∧ st = -1 ∧ ∀ p, H p = none → Q (.ref p) (upd H p (.lst xs.reverse))) ∨ (st = 2 ∧ lo ≤ 1 ∧ ∀ p, H p = none → Q (.ref p) (upd H p (.lst (everyL (xs.drop lo))))))
theorem pe_sls {e : Expr} {te : TE} {lo : Option Expr} {sp : Expr} {p3 pos : Pos} {n : Nat} {st : Int} (hlo : loPart lo = some n) (hsp : stepPart sp = some st) (he : PE X e te) : PE X (.Subscript e (.Slice lo none (some sp) p3) pos) (fun σ H Q => te σ H fun x H1 => rSls X.K n st x H1 Q) := by
  refine ⟨fun pins s σ H Q I h => ?_⟩
  refine PyProof.Rows.Subscript_ (L2.thn (he.run pins s σ H _ I h) fun v s1 ⟨x, H1, I1, r1, q1⟩ => ?_)
  obtain ⟨a, xs, ex, hx, q⟩ := q1
  subst ex
  cases r1
  obtain ⟨ol, tl, plo, qlo, hol⟩ : ∃ (ol : Option Int) (tl : L2.TO), PO X lo tl ∧ (∀ σ H, tl σ H fun o H' => o = ol ∧ H' = H) ∧ ((ol = none ∧ n = 0) ∨ (ol = some (n : Int) ∧ n = 1)) := by
    unfold loPart at hlo
    split at hlo
    · cases hlo; exact ⟨none, _, L2.po_none, fun _ _ => ⟨rfl, rfl⟩, .inl ⟨rfl, rfl⟩⟩
    · cases hlo; exact ⟨some 1, _, L2.po_some L2.pe_int, fun _ _ => ⟨1, rfl, rfl, rfl⟩, .inr ⟨rfl, rfl⟩⟩
    · cases hlo
  obtain ⟨ts, pst, qst, hst⟩ : ∃ (ts : L2.TO), PO X (some sp) ts ∧ (∀ σ H, ts σ H fun o H' => o = some st ∧ H' = H) ∧ (st = 2 ∨ st = -1) := by
    unfold stepPart at hsp
    split at hsp
    · cases hsp; exact ⟨_, L2.po_some L2.pe_int, fun _ _ => ⟨2, rfl, rfl, rfl⟩, .inl rfl⟩
    · cases hsp; exact ⟨_, L2.po_some (L2.pe_un L2.un_neg L2.pe_int), fun _ _ => ⟨1, rfl, -1, rfl, rfl, rfl⟩, .inr rfl⟩
    · cases hsp
  refine wpAny_Slice (L2.thn (plo.run pins s1 σ H1 (fun o H2 => o = ol ∧ H2 = H1) I1 (qlo _ _)) fun vl s2 ⟨l, H2, I2, pl, el, e2⟩ => ?_)
  subst el e2
  refine L2.thn (L2.po_none.run pins s2 σ H2 (fun o H3 => o = none ∧ H3 = H2) I2 ⟨rfl, rfl⟩) fun vu s3 ⟨u, H3, I3, pu, eu, e3⟩ => ?_
  subst eu e3
  refine L2.thn (pst.run pins s3 σ H3 (fun o H4 => o = some st ∧ H4 = H3) I3 (qst _ _)) fun vs s4 ⟨o, H4, I4, ps, eo, e4⟩ => ?_
  subst eo e4
  have I5 : L2.Inv X pins σ H4 { s4 with heap := s4.heap.push { cls := .type "slice", data := .fields #[vl, vu, vs] } } := I4.kept (t' := s4.toks) fun b ob q => Heap.get?_push_of_some _ q
  obtain ⟨its, r, ht, hz⟩ := I5.list hx
  have hlen := r.length
  show wpAny (model X.prog X.w) X.A (PyProof.Rows.subscriptTail e (.Slice lo none (some sp) p3) (.ref a) (.ref s4.heap.objs.size)) (EP X pins σ Q) X.xe { s4 with heap := s4.heap.push { cls := .type "slice", data := .fields #[vl, vu, vs] } }
  refine PyProof.Rows.tail_any (ops := [.ref a, .ref s4.heap.objs.size]) ht.isList.typeIs (PySem.slot_list_getitem.lookup) ?_ (by with_unfolding_all rfl)
  refine wpAny_getItem_list_slice ht.isList (Heap.IsSliceOf.new _ vl vu vs) pl pu ps (by rcases hst with rfl | rfl <;> decide) ?_ (by rw [List.size_toArray]; omega)
  rcases q with ⟨rfl, rfl, q⟩ | ⟨rfl, hn, q⟩
  · have hl0 : l = none := by
      rcases hol with ⟨h, _⟩ | ⟨_, h⟩
      · exact h
      · cases h
    subst hl0
    rw [PySem.W.krv_pick]
    refine ⟨.ref _, _, I5.laid (t' := s4.toks) (o := .lst xs.reverse) (fun b ob q => Heap.get?_push_of_some _ q) (Nat.le_refl _) ?_, rfl, q _ (I5.hok.fresh (Nat.le_refl _))⟩
    exact ⟨by rw [List.length_reverse]; exact hz, _, 0, r.reverse, Heap.get?_push_size _ rfl⟩
  · rw [step_pick _ n l (hol.imp id fun z => ⟨z.1, by omega⟩)]
    refine ⟨.ref _, _, I5.laid (t' := s4.toks) (o := .lst (everyL (xs.drop n))) (fun b ob q => Heap.get?_push_of_some _ q) (Nat.le_refl _) ?_, rfl, q _ (I5.hok.fresh (Nat.le_refl _))⟩
    exact ⟨by have := every_le (xs.drop n); rw [List.length_drop] at this; omega, _, 0, vals_every (vals_drop r n), Heap.get?_push_size _ rfl⟩
/-! ### count -/
def rCountD (K : Kx) : V → List V → Hp → VK → Prop := fun x xs H Q => ∃ (a : Addr) (y : V) (d : PyData) (ds : List PyData), x = V.ref a ∧ xs = [y] ∧ Dp K H (V.ref a) (.list ds) ∧ Dp K H y d ∧ SeqAt.shaped (.list ds) = true ∧ SeqAt.shaped d = true ∧ Q (.int ((ds.countP fun z => PyData.eqv z d : Nat) : Int)) H
theorem mt_countD (hu : X.A.units + 65 < cLine) : MtR X "list.count" (rCountD X.K) := by
  intro pins s σ H x xs v us Q I rx rxs h
  obtain ⟨a, y, d, ds, rfl, rfl, hl, hy, sl, sd, q⟩ := h
  cases rx
  cases rxs with
  | cons ry rt =>
    rename_i uy ut
    cases rt
    obtain ⟨bs, r1⟩ := Dp.reads I d y uy hy ry
    have hxs : PyData.canLayAll0 ds = true := SeqAt.canLay_of_shaped sl
    have hroom : X.A.units + 1 + min (PyData.depthAll ds) d.depth < cLine := PyProof.Rows.room_in_shaped sd hu
    cases hl with
    | lst hs ha =>
      obtain ⟨its, rv, ⟨⟨cls, dd, data, sls⟩, n, ho, hc, hdn, hdt⟩, hlen⟩ := I.list hs
      simp only at hc hdt
      subst hc hdt
      obtain ⟨as, h4⟩ := Dp.readsAll I ds _ its ha rv
      have hmap : its.map (SeqAt.readOf s.heap) = ds := SeqAt.readsAll_map ds its as hxs h4
      refine call_meets PySem.F.slot_list_count ⟨_, ho, rfl⟩ PySem.F.entry_list_count (PySem.F.args_list_count_2 _ _)
        (SeqAt.list_countAt a its.toArray n dd sls uy (fun u => PyData.eqv (SeqAt.readOf s.heap u) d)) ⟨ho, SeqAt.items_eqAt (vs := its.toArray) (show ReadsAll s.heap its.toArray.toList ds as from h4) r1 hxs (SeqAt.canLay_of_shaped sd) hroom, ?_⟩
      have ec : its.toArray.toList.countP (fun u => PyData.eqv (SeqAt.readOf s.heap u) d) = ds.countP fun z => PyData.eqv z d := by
        rw [← hmap, List.countP_map]
        rfl
      refine ⟨.int ((ds.countP fun z => PyData.eqv z d : Nat) : Int), H, I.tok _, ⟨s.toks, ?_⟩, q⟩
      show Value.int _ s.toks = Value.int _ s.toks
      rw [ec]
/-! ### extend -/
def rExtL (K : Kx) : V → List V → Hp → VK → Prop := fun x vs H Q => ∃ l b xs zs, x = .ref l ∧ vs = [.ref b] ∧ H l = some (.lst xs) ∧ SqE K H b zs ∧ xs.length + zs.length ≤ sizeLine ∧ Q .non (upd H l (.lst (xs ++ zs)))
theorem mt_extL : MtM X "list.extend" (rExtL X.K) := by
  intro pins s σ H x vs v us Q I rx rv h
  obtain ⟨l, b, xs, zs, rfl, rfl, hH, hB, hz, q⟩ := h
  cases rx
  obtain ⟨u, rfl, ru⟩ := rv.one
  cases ru
  obtain ⟨z, its, n, r, hl, e⟩ := I.lstM hH
  obtain ⟨its2, n2, r2, hl2, e2, z2⟩ := lst_obj I hB
  have hsz : its.toArray.size + its2.toArray.size ≤ sizeLine := by rw [List.size_toArray, List.size_toArray]; omega
  have hlong : ¬ (!its.toArray.isEmpty && Builtin.List.listTooLong (its.toArray.size + its2.toArray.size)) = true := by
    rw [L2.notLongL hsz, Bool.and_false]
    exact Bool.false_ne_true
  refine call_meets F.slot_list_extend ⟨_, e, rfl⟩ F.entry_list_extend (F.args_list_extend_2 _ _)
    (AutoSeq1.list_extend_list_list_0 l its.toArray n b its2.toArray n2 hlong (by rw [List.size_toArray]; omega) (by omega)) ⟨e, e2, ?_⟩
  refine ⟨.non, _, I.lset (its' := its ++ its2) hH e (by simp) (r.append r2) ?_, rfl, q⟩
  rw [List.length_append]
  omega
end
end Dk
end
/-! Snd15d -/
section
set_option linter.all false
set_option maxRecDepth 100000
set_option maxHeartbeats 2000000
/-! Parts with a step, methods of built-in values, dict displays. -/
namespace Dk
open PySem (Str Addr Heap Value Shared sizeLine Expr Pos)
open L2 (V Hp HO upd Rd SqL SqT Key St VK TE PE PT PW PA PG PGs PI It)
section
variable {K : Kx} {P : Prg} {M : CM} {cad : String → Option Addr} {k : Nat} {cc : Cc} {sc isc : PySem.Scope} {X : L2.Cx} {W W' : Addr → Prop} {ρ ρ1 : List Addr} {Y Y1 : Addr → Prop} {E E' E1 E2 : Env} {S S' S1 S2 : Sto} {d : D} {fl : Fl} {σ σ' σ2 : St} {H H1 : Hp} {Q : VK} {e e1 e2 e3 tg elt iter o : Expr} {es ifs : List Expr} {cs cs1 : CEs} {a b c : CE} {pos p tp apos cpos : Pos} {n kk : Nat} {v : V}
theorem RepK.mem {l : List (D × D)} {kvs : List (Key × V)} {k : D} {x : Key} (hk : keyV k = some x) (h : RepK K cad Y ρ H l kvs) : (l.any fun p => D.beq p.1 k) = kvs.any fun kv => decide (kv.1 = x) := by
  induction l generalizing kvs with
  | nil => simp only [RepK] at h; subst h; rfl
  | cons q l ih =>
    obtain ⟨k', d'⟩ := q
    simp only [RepK] at h
    obtain ⟨y, w, r, rfl, e1, e2, e3⟩ := h
    rw [List.any_cons, List.any_cons, ih e3]
    congr 1
    by_cases z : y = x
    · subst z
      have := keyV_inj e1 hk
      subst this
      simp [beq_refl]
    · have : k' ≠ k := fun q => by subst q; rw [e1] at hk; cases hk; exact z rfl
      have hb : D.beq k' k = false := by
        cases hq : D.beq k' k with
        | false => rfl
        | true => exact absurd (beq_eq _ _ hq) this
      simp [hb, z]
theorem repk_map {k : D} {x : Key} (hk : keyV k = some x) (r : Rep K cad Y ρ H d v) : ∀ {l : List (D × D)} {kvs : List (Key × V)}, RepK K cad Y ρ H l kvs →
    RepK K cad Y ρ H (l.map fun p => if D.beq p.1 k then (p.1, d) else p) (kvs.map fun kv => if kv.1 = x then (kv.1, v) else kv)
  | [], kvs, h => by simp only [RepK] at h; subst h; simp only [List.map_nil, RepK]
  | (k', d') :: l, kvs, h => by
    simp only [RepK] at h
    obtain ⟨y, w, r', rfl, e1, e2, e3⟩ := h
    simp only [List.map_cons]
    by_cases z : y = x
    · subst z
      have := keyV_inj e1 hk
      subst this
      rw [if_pos (beq_refl _), if_pos rfl]
      simp only [RepK]
      exact ⟨y, v, _, rfl, hk, r, repk_map hk r e3⟩
    · have : k' ≠ k := fun q => by subst q; rw [e1] at hk; cases hk; exact z rfl
      have hb : ¬ D.beq k' k = true := fun hq => this (beq_eq _ _ hq)
      rw [if_neg hb, if_neg z]
      simp only [RepK]
      exact ⟨y, w, _, rfl, e1, e2, repk_map hk r e3⟩
theorem repk_app {k : D} {x : Key} (hk : keyV k = some x) (r : Rep K cad Y ρ H d v) : ∀ {l : List (D × D)} {kvs : List (Key × V)}, RepK K cad Y ρ H l kvs → RepK K cad Y ρ H (l ++ [(k, d)]) (kvs ++ [(x, v)])
  | [], kvs, h => by simp only [RepK] at h; subst h; simp only [List.nil_append, RepK]; exact ⟨x, v, [], rfl, hk, r, rfl⟩
  | (k', d') :: l, kvs, h => by
    simp only [RepK] at h
    obtain ⟨y, w, r', rfl, e1, e2, e3⟩ := h
    simp only [List.cons_append, RepK]
    exact ⟨y, w, _, rfl, e1, e2, repk_app hk r e3⟩
theorem repk_put {k : D} {x : Key} (hk : keyV k = some x) (r : Rep K cad Y ρ H d v) {l : List (D × D)} {kvs : List (Key × V)} (h : RepK K cad Y ρ H l kvs) : RepK K cad Y ρ H (putD k d l) (L2.putK kvs x v) := by
  unfold putD L2.putK
  rw [RepK.mem hk h]
  by_cases z : (kvs.any fun kv => decide (kv.1 = x)) = true
  · rw [if_pos z, if_pos z]; exact repk_map hk r h
  · rw [if_neg z, if_neg z]; exact repk_app hk r h

theorem Reps.reverse {l : List D} {vs : List V} (h : Reps K cad Y ρ H l vs) : Reps K cad Y ρ H l.reverse vs.reverse := by
  induction l generalizing vs with
  | nil => simp only [Reps] at h; subst h; exact Reps.nil
  | cons d l ih =>
    simp only [Reps] at h
    obtain ⟨v, r, rfl, a, q⟩ := h
    rw [List.reverse_cons, List.reverse_cons]
    exact (ih q).append (Reps.one a)
theorem Reps.every : ∀ {l : List D} {vs : List V}, Reps K cad Y ρ H l vs → Reps K cad Y ρ H (everyL l) (everyL vs)
  | [], vs, h => by simp only [Reps] at h; subst h; exact Reps.nil
  | [d], vs, h => by
    simp only [Reps] at h
    obtain ⟨v, r, rfl, a, rfl⟩ := h
    exact Reps.one a
  | d :: e :: l, vs, h => by
    simp only [Reps] at h
    obtain ⟨v, r, rfl, a, v2, r2, rfl, b, q⟩ := h
    exact Reps.cons a (Reps.every q)
theorem stepD_ok {d : D} {lo : Nat} {st : Int} {r : D × Fl} (h : stepD d lo st = some r) : ∃ l, d = .lst l ∧ ((lo = 0 ∧ st = -1 ∧ r = (.lst l.reverse, .f)) ∨ (st = 2 ∧ lo ≤ 1 ∧ r = (.lst (everyL (l.drop lo)), .f))) := by
  unfold stepD at h
  split at h
  · cases h; exact ⟨_, rfl, .inl ⟨rfl, rfl, rfl⟩⟩
  · split at h
    · cases h; exact ⟨_, rfl, .inr ⟨rfl, by assumption, rfl⟩⟩
    · cases h
  · cases h
theorem s_sls {lo : Option Expr} {sp : Expr} {st : Int} {p2 : Pos} (hlo : loPart lo = some n) (hsp : stepPart sp = some st) (ha : SoundE P M cad X e a) : SoundE P M cad X (.Subscript e (.Slice lo none (some sp) p2) pos) (.sls a n st) := by
  intro W E S d fl E' S' h
  simp only [ev] at h
  obtain ⟨x, E1, S1, h1, h⟩ := bnd_ok h
  obtain ⟨r, hr, h⟩ := opt_ok h
  cases h
  refine PE.sub (pe_sls hlo hsp (ha W _ _ _ _ _ _ h1)) fun σ H Q z => ?_
  obtain ⟨ρ, Y, ok, q⟩ := z
  refine ⟨ρ, Y, ok, fun ρ1 Y1 H1 v1 p1 ok1 r1 l1 => ?_⟩
  have b1 := rb_lookC ok1.toSOk (r1.rb ok1)
  obtain ⟨l, hd, hc⟩ := stepD_ok hr
  rw [hd] at b1
  obtain ⟨p, vs, rfl, a1, b⟩ := rb_lst b1
  rcases hc with ⟨rfl, rfl, er⟩ | ⟨rfl, hn, er⟩
  · cases er
    refine ⟨p, vs, rfl, a1.sq, .inl ⟨rfl, rfl, fun p' hp => ?_⟩⟩
    have nr : NRes X.K cad ρ1 Y1 H1 (.lst l.reverse) (.ref p') (upd H1 p' (.lst vs.reverse)) .f := ⟨p', _, rfl, hp, rfl, b.reverse⟩
    obtain ⟨Y3, p3, ok3, r3⟩ := nr.to ok1
    exact q _ _ _ _ (p1.trans p3) ok3 (r3.base p1.up) (fun i e => by cases e)
  · cases er
    refine ⟨p, vs, rfl, a1.sq, .inr ⟨rfl, hn, fun p' hp => ?_⟩⟩
    have nr : NRes X.K cad ρ1 Y1 H1 (.lst (everyL (l.drop n))) (.ref p') (upd H1 p' (.lst (everyL (vs.drop n)))) .f := ⟨p', _, rfl, hp, rfl, (b.drop n).every⟩
    obtain ⟨Y3, p3, ok3, r3⟩ := nr.to ok1
    exact q _ _ _ _ (p1.trans p3) ok3 (r3.base p1.up) (fun i e => by cases e)
theorem count_toPys {l : List D} {x : D} (hx : plain x = true) (hl : plains l = true) : ((toPys l).countP fun z => PySem.PyData.eqv z (toPy x)) = l.countP fun z => eqD z x := by
  induction l with
  | nil => simp only [toPys, List.countP_nil]
  | cons z zs ih =>
    simp only [plains, Bool.and_eq_true] at hl
    simp only [toPys, List.countP_cons]
    rw [eqv_toPy z x hl.1 hx, ih hl.2]
theorem methD_count {d : D} {l : List D} {r : D × Fl} (h : methD d "count" l = some r) : ∃ ls y, d = .lst ls ∧ l = [y] ∧ okD y = true ∧ okD (.lst ls) = true ∧ r = (.int (ls.countP fun z => eqD z y), .v) := by
  cases d with
  | lst ls =>
    match l, h with
    | [y], h =>
      simp only [methD] at h
      split at h
      · rename_i hc
        rw [Bool.and_eq_true] at hc
        cases h
        exact ⟨ls, y, rfl, rfl, hc.1, hc.2, rfl⟩
      · cases h
    | [], h => simp [methD] at h
    | _ :: _ :: _, h => simp [methD] at h
  | _ => simp [methD] at h
theorem plains_mem : ∀ {l : List D}, plains l = true → ∀ z ∈ l, plain z = true
  | [], _, z, h => by simp at h
  | a :: r, hp, z, h => by
    simp only [plains, Bool.and_eq_true] at hp
    rcases List.mem_cons.mp h with e | e
    · rw [e]; exact hp.1
    · exact plains_mem hp.2 z e
theorem methD_index {d : D} {l : List D} {r : D × Fl} (h : methD d "index" l = some r) : ∃ ls y j, d = .lst ls ∧ l = [y] ∧ okD y = true ∧ okD (.lst ls) = true ∧ (ls.findIdx? fun z => eqD z y) = some j ∧ r = (.int (j : Nat), .v) := by
  cases d with
  | lst ls =>
    match l, h with
    | [y], h =>
      simp only [methD] at h
      split at h
      · rename_i hc
        rw [Bool.and_eq_true] at hc
        obtain ⟨j, hj, rfl⟩ := Option.map_eq_some_iff.mp h
        exact ⟨ls, y, j, rfl, rfl, hc.1, hc.2, hj, rfl⟩
      · cases h
    | [], h => simp [methD] at h
    | _ :: _ :: _, h => simp [methD] at h
  | _ => simp [methD] at h
theorem methD_get {d : D} {l : List D} {r : D × Fl} (h : methD d "get" l = some r) : ∃ ls k dflt, d = .dct ls ∧ l = [k, dflt] ∧ keyOk k = true ∧ r = ((lookD k ls).getD dflt, .v) := by
  cases d with
  | dct ls =>
    match l, h with
    | [k, y], h =>
      simp only [methD] at h
      split at h
      · cases h
        exact ⟨ls, k, y, rfl, rfl, by assumption, rfl⟩
      · cases h
    | [], h => simp [methD] at h
    | [_], h => simp [methD] at h
    | _ :: _ :: _ :: _, h => simp [methD] at h
  | _ => simp [methD] at h
def rGet2 : V → List V → Hp → VK → Prop := fun x xs H Q => ∃ a y z o, x = V.ref a ∧ xs = [y, z] ∧ L2.DGet H a y o ∧ Q (o.getD z) H
theorem mt_get2 (hu : X.A.units + 1 < PySem.cLine) : L2.MtR X "dict.get" rGet2 := by
  intro pins s σ H x xs v us Q I rx rxs h
  obtain ⟨a, y, z, o, rfl, rfl, g, q⟩ := h
  cases rx
  cases rxs with
  | cons ry rt =>
    cases rt with
    | cons rz rn =>
      cases rn
      exact L2.d_get2 hu I g ry rz fun w' s4 I4 rw' => ⟨_, H, I4, rw', q⟩
/-- a method of a dict, locked or not -/
theorem pe_bmD {id : String} {name : Str} {r : V → List V → Hp → VK → Prop} {o' e' : Expr} {es' : List Expr} {to : TE} {t : L2.TA} {ap cp : Pos} (slot : PySem.Slot "dict" name id) (hty : PySem.typeOf (.builtin id) = pure (.type "method_descriptor")) (hm : L2.MtR X id r) (ho : PE X o' to) (ha : PA X (e' :: es') t)
    (hbase : PySem.attributeBase o' name X.env (PySem.eval o' X.env) = PySem.eval o' X.env)
    (hfew : ((PySem.backTo cp (PySem.starEach (e' :: es') X.env)).all (fun x => !x.1) && (PySem.backToKw cp (PySem.keywordEach [] X.env)).all (fun x => x.1.isSome)
      && decide ((e' :: es').length + ([] : List PySem.Keyword).length + (if ([] : List PySem.Keyword).isEmpty then 0 else 1) < 30)) = true)
    (hline : (ap.endLine == cp.line) = true) (hs : PySem.starEach (e' :: es') X.env = (false, PySem.eval e' X.env) :: PySem.starEach es' X.env) (hplain : (PySem.backTo cp (PySem.starEach es' X.env)).any (·.1) = false) :
    PE X (.Call (.Attribute o' name ap) (e' :: es') [] cp) (fun σ H Q => to σ H fun x H1 => ∃ a, x = .ref a ∧ L2.IsD H1 a ∧ t σ H1 fun vs H2 => r x vs H2 Q) := by
  refine ⟨fun pins s σ H Q I h => ?_⟩
  refine PySem.wpAny_Call_method_late hbase hfew hline rfl (L2.thn (ho.run pins s σ H _ I h) fun v s1 ⟨x, H1, I1, r1, a, ex, ty, q1⟩ => ?_)
  subst ex
  cases r1
  obtain ⟨h1, h2, _⟩ := L2.isD_at I1 ty
  refine ⟨"dict", id, PySem.F.plainAttrs_dict, slot, hty, h1, h2, ?_⟩
  have hA := ha.run cp pins s1 σ H1 _ I1 q1
  rw [hs] at hA ⊢
  refine PySem.Calls.callWith_builtin (by show (false || (PySem.backTo cp (PySem.starEach es' X.env)).any (·.1)) = false; rw [hplain] <;> rfl) (PySem.Calls.evalArgs_plain ?_)
  exact L2.thn hA fun us s2 ⟨vs, H2, I2, r2, q2⟩ => hm pins s2 σ H2 (.ref a) vs (.ref a) us Q I2 rfl r2 q2
theorem s_bm {m : Str} {mm : String} (g : Gd P M cad k cc sc X) (hx : nmOf m = some mm) (hmm : (mm = "count" ∨ mm = "get") ∨ mm = "index") (h0 : PySem.attributeBase o m X.env (PySem.eval o X.env) = PySem.eval o X.env) (h3 : (apos.endLine == pos.line) = true) (hl1 : es.length < 29) (hnn : es = [] → cs = .nil)
    (hst : es.any isStar = false) (ha : SoundE P M cad X o a) (hb : SoundA P M cad X es cs) (hlen : ∀ E S l E' S', evs P M.call M.make cs E S = some (.ok l, E', S') → l.length = es.length) : SoundE P M cad X (.Call (.Attribute o m apos) es [] pos) (.bm a mm cs) := by
  intro W E S d fl E' S' h
  simp only [ev] at h
  obtain ⟨⟨d0, f0⟩, E1, S1, h1, h⟩ := bnd_ok h
  obtain ⟨d1, hone, h⟩ := opt_ok h
  obtain ⟨l, E2, S2, hl, h⟩ := bnd_ok h
  obtain ⟨l', hl', h⟩ := opt_ok h
  obtain ⟨r, hr, h⟩ := opt_ok h
  cases h
  obtain rfl := nm_sx hx
  have h01 : d0 = d1 := by unfold one at hone; split at hone <;> cases hone; rfl
  subst h01
  have stars : (PySem.starEach es X.env).all (fun x => !x.1) = true ∧ (PySem.backTo pos (PySem.starEach es X.env)).all (fun x => !x.1) = true := by
    refine ⟨?_, ?_⟩
    · rw [List.all_eq_true]
      intro x hx
      have := star_all (pos := pos) X.env es hst
      clear hlen hl hb
      induction es with
      | nil => simp [PySem.starEach] at hx
      | cons e r ih =>
        rw [List.any_cons, Bool.or_eq_false_iff] at hst
        rw [star_one X.env hst.1] at hx
        rcases List.mem_cons.mp hx with rfl | hx
        · rfl
        · exact ih (by simp only [List.length_cons] at hl1; omega) (fun z => by subst z; simp [PySem.starEach] at hx) hst.2 hx (star_all (pos := pos) X.env r hst.2)
    · rw [List.all_eq_true]
      intro x hx
      have := List.any_eq_false.mp (star_all (pos := pos) X.env es hst) x hx
      simpa using this
  have few : ∀ e r, es = e :: r → ((PySem.backTo pos (PySem.starEach (e :: r) X.env)).all (fun x => !x.1) && (PySem.backToKw pos (PySem.keywordEach [] X.env)).all (fun x => x.1.isSome) && decide ((e :: r).length + ([] : List PySem.Keyword).length + (if ([] : List PySem.Keyword).isEmpty then 0 else 1) < 30)) = true := by
    rintro e r rfl
    rw [stars.2]
    simp only [List.length_cons] at hl1
    show (true && true && _) = true
    simp
    omega
  rcases hmm with (rfl | rfl) | rfl
  · obtain ⟨ls, y, rfl, rfl, hc1, hc2, er⟩ := methD_count hr
    cases er
    have hne : ∃ e r, es = e :: r := by
      cases es with
      | nil =>
        obtain rfl := hnn rfl
        simp only [evs] at hl
        cases hl
        simp [notP] at hl'
      | cons e r => exact ⟨e, r, rfl⟩
    obtain ⟨e, r, rfl⟩ := hne
    have hst' := hst
    rw [List.any_cons, Bool.or_eq_false_iff] at hst'
    refine PE.sub (L2.pe_bm PySem.F.plainAttrs_list PySem.F.slot_list_count PySem.F.type_list_count (mt_countD g.hu) (ha W _ _ _ _ _ _ h1) (hb W _ _ _ _ _ hl) h0 (few e r rfl) h3 (star_one _ hst'.1) (star_all X.env r hst'.2)) fun σ H Q z => ?_
    obtain ⟨ρ, Y, ok, q⟩ := z
    refine ⟨ρ, Y, ok, fun ρ1 Y1 H1 v1 p1 ok1 r1 l1 => ?_⟩
    obtain ⟨Y1', p1', ok1', rv⟩ := VRes.share hone r1 ok1 p1
    have rv' := rv
    simp only [Rep] at rv'
    obtain ⟨p, vs, rfl, hp, rs⟩ := rv'
    refine ⟨.inl ⟨rfl, vs, (hp.elim (fun z => Or.inl z.2) Or.inr : SqE X.K H1 p vs).sq⟩, ρ1, Y1', ok1', fun ρ2 Y2 H2 ws p2 ok2 r2 => ?_⟩
    have rl := r2.reps hl'
    simp only [Reps] at rl
    obtain ⟨w, wr, rfl, rw1, rfl⟩ := rl
    refine ⟨p, w, toPy y, toPys ls, rfl, rfl, ?_, rep_dp _ _ (okD_plain hc1) rw1, ?_, shaped_toPy hc1, ?_⟩
    · have := rep_dp _ _ (okD_plain hc2) (rv.post p2)
      simpa only [toPy] using this
    · have := shaped_toPy hc2
      simpa only [toPy] using this
    · have pl : plains ls = true := by simpa only [plain] using okD_plain hc2
      rw [count_toPys (okD_plain hc1) pl]
      exact q _ _ _ _ (p1'.trans p2) ok2 (by simp only [VRes, Rep]) (fun i e => by cases e)
  · obtain ⟨ls, k', dflt, rfl, rfl, hk, er⟩ := methD_get hr
    cases er
    have h2len : l.length = 2 := by
      unfold notP at hl'
      split at hl'
      · have := congrArg List.length (Option.some.inj hl')
        simpa using this
      · cases hl'
    have he2 := hlen _ _ _ _ _ hl
    rw [h2len] at he2
    obtain ⟨ea, eb, rfl⟩ : ∃ ea eb, es = [ea, eb] := by
      match es, he2 with
      | [a, b], _ => exact ⟨a, b, rfl⟩
    have hst' := hst
    rw [List.any_cons, Bool.or_eq_false_iff] at hst'
    refine PE.sub (pe_bmD PySem.F.slot_dict_get PySem.F.type_dict_get (mt_get2 (by have := g.hu; omega)) (ha W _ _ _ _ _ _ h1) (hb W _ _ _ _ _ hl) h0 (few _ _ rfl) h3 (star_one _ hst'.1) (star_all X.env _ hst'.2)) fun σ H Q z => ?_
    obtain ⟨ρ, Y, ok, q⟩ := z
    refine ⟨ρ, Y, ok, fun ρ1 Y1 H1 v1 p1 ok1 r1 l1 => ?_⟩
    obtain ⟨Y1', p1', ok1', rv⟩ := VRes.share hone r1 ok1 p1
    have rv' := rv
    simp only [Rep] at rv'
    obtain ⟨p, kvs, rfl, hnp, hp, rk⟩ := rv'
    refine ⟨p, rfl, .inl ⟨kvs, hp⟩, ρ1, Y1', ok1', fun ρ2 Y2 H2 ws p2 ok2 r2 => ?_⟩
    have rl := r2.reps hl'
    simp only [Reps] at rl
    obtain ⟨w, wr, rfl, rw1, w2, wr2, rfl, rw2, rfl⟩ := rl
    have rk2 := rv.post p2
    simp only [Rep] at rk2
    obtain ⟨p', kvs', e', hnp', hp', rk'⟩ := rk2
    cases e'
    obtain ⟨x, hx1, rfl⟩ := key_rep hk (.inl rw1)
    have lk := look_rep hx1 rk'
    refine ⟨p, _, w2, L2.valV kvs' x, rfl, rfl, .inl ⟨kvs', x, hp', rfl, rfl⟩, ?_⟩
    refine q _ _ _ _ (p1'.trans p2) ok2 ?_ (fun i e => by cases e)
    show Rep _ _ _ _ _ _ _
    cases hl3 : lookD k' ls with
    | none =>
      rw [hl3] at lk
      have : L2.valV kvs' x = none := lk
      rw [this]
      exact rw2
    | some d =>
      rw [hl3] at lk
      obtain ⟨w3, hw3, rw3⟩ := lk
      rw [hw3]
      exact rw3
  · obtain ⟨ls, y, j, rfl, rfl, hc1, hc2, hj, er⟩ := methD_index hr
    cases er
    have hne : ∃ e r, es = e :: r := by
      cases es with
      | nil =>
        obtain rfl := hnn rfl
        simp only [evs] at hl
        cases hl
        simp [notP] at hl'
      | cons e r => exact ⟨e, r, rfl⟩
    obtain ⟨e, r, rfl⟩ := hne
    have hst' := hst
    rw [List.any_cons, Bool.or_eq_false_iff] at hst'
    refine PE.sub (L2.pe_bm PySem.F.plainAttrs_list PySem.F.slot_list_index PySem.F.type_list_index (L2.mt_indexD g.hu) (ha W _ _ _ _ _ _ h1) (hb W _ _ _ _ _ hl) h0 (few e r rfl) h3 (star_one _ hst'.1) (star_all X.env r hst'.2)) fun σ H Q z => ?_
    obtain ⟨ρ, Y, ok, q⟩ := z
    refine ⟨ρ, Y, ok, fun ρ1 Y1 H1 v1 p1 ok1 r1 l1 => ?_⟩
    obtain ⟨Y1', p1', ok1', rv⟩ := VRes.share hone r1 ok1 p1
    have rv' := rv
    simp only [Rep] at rv'
    obtain ⟨p, vs, rfl, hp, rs⟩ := rv'
    refine ⟨.inl ⟨rfl, vs, (hp.elim (fun z => Or.inl z.2) Or.inr : SqE X.K H1 p vs).sq⟩, ρ1, Y1', ok1', fun ρ2 Y2 H2 ws p2 ok2 r2 => ?_⟩
    have rl := r2.reps hl'
    simp only [Reps] at rl
    obtain ⟨w, wr, rfl, rw1, rfl⟩ := rl
    obtain ⟨hjl, hj1, hj2⟩ := List.findIdx?_eq_some_iff_getElem.mp hj
    have pl : plains ls = true := by simpa only [plain] using okD_plain hc2
    have pz : ∀ z ∈ ls, plain z = true := plains_mem pl
    refine ⟨p, w, toPy y, toPys ls, j, toPy ls[j], rfl, rfl, ?_, rep_dp _ _ (okD_plain hc1) rw1, ?_, shaped_toPy hc1, ?_, ?_, ?_, ?_⟩
    · have := rep_dp _ _ (okD_plain hc2) (rv.post p2)
      simpa only [toPy] using this
    · have := shaped_toPy hc2
      simpa only [toPy] using this
    · rw [toPys_map, List.getElem?_map, List.getElem?_eq_getElem hjl]; rfl
    · rw [eqv_toPy _ _ (pz _ (List.getElem_mem _)) (okD_plain hc1)]; exact hj1
    · intro m z' hm hz'
      rw [toPys_map, List.getElem?_map, List.getElem?_eq_getElem (show m < ls.length by omega)] at hz'
      cases hz'
      rw [eqv_toPy _ _ (pz _ (List.getElem_mem _)) (okD_plain hc1)]
      simpa using hj2 m hm
    · exact q _ _ _ _ (p1'.trans p2) ok2 (by simp only [VRes, Rep]) (fun i e => by cases e)
/-! ### an own thing is let go -/
theorem s_frz {x : Str} {i : Nat} (g : Gd P M cad k cc sc X) (hx : cc.N[i]? = some x) (hv : isVis sc x = true) (ho : okNm x = true) : SoundE P M cad X (.Name x pos) (.frz i) := by
  intro W E S d' fl E' S' h
  simp only [ev] at h
  have ho' : (x == ("__debug__" : Str)) = false ∧ (x == ("__classdict__" : Str)) = false := by
    unfold okNm at ho
    simp only [Bool.and_eq_true, Bool.not_eq_true'] at ho
    exact ⟨ho.1.1, ho.1.2⟩
  refine PE.sub (L2.pe_var (i := i) (by rw [g.nm]; exact hx) (g.vis x hv) ho'.1 ho'.2) fun σ H Q z => ?_
  obtain ⟨ρ, Y, ok, q⟩ := z
  split at h
  · rename_i d o he
    cases h
    have hi : i < E.length := (List.getElem?_eq_some_iff.mp he).1
    cases o with
    | false =>
      obtain ⟨v, a, b⟩ := ok.val i _ he
      refine ⟨v, a, q _ _ _ _ Post.refl ?_ b (fun j e => by cases e)⟩
      refine ok.slots (by unfold setE; rw [List.length_set]; exact ok.ln) fun j x hj => ?_
      unfold setE at hj
      by_cases hij : i = j
      · subst hij
        rw [List.getElem?_set_self hi] at hj
        cases hj
        exact .inl ⟨he, rfl⟩
      · rw [List.getElem?_set_ne hij] at hj
        exact .inl ⟨hj, rfl⟩
    | true =>
      obtain ⟨p, a, c, y, w, r⟩ := ok.own i _ he
      have hl : ∀ a, (Y a ∧ a ≠ p) → Y a := fun a h => h.1
      have po : Post W ρ Y H ρ (fun a => Y a ∧ a ≠ p) H := ⟨self_pre, fun _ h => .inl h, go_less hl, fun _ _ _ e => e, fun _ e => e⟩
      have rep : Rep X.K cad (fun a => Y a ∧ a ≠ p) ρ H d' (.ref p) := Cont.rep (c.mono (go_less hl) self_pre (fun _ q => q)) (fun h => h.2 rfl)
      -- first the name is hidden, then it holds what may be shared
      have okh := (ok.hide i).less hl (fun a h => ⟨ok.wx a h, fun e => w (e ▸ h)⟩) (fun a h => ⟨(ok.cX a h).1, fun e => r (e ▸ h)⟩) (fun j d p' q h1 => by
        obtain ⟨n1, q1⟩ := set_none q
        obtain ⟨p2, h3, _, h4, _⟩ := ok.own j d q1
        rw [h1] at h3; cases h3
        exact ⟨h4, fun e => by subst e; exact ok.sep i j _ d p' n1 he q1 a h1⟩)
      refine ⟨.ref p, a, q _ _ _ _ po ?_ rep (fun j e => by cases e)⟩
      refine okh.slots (by unfold setE; rw [List.length_set]; exact ok.ln) fun j x hj => ?_
      unfold setE at hj
      by_cases hij : i = j
      · subst hij
        rw [List.getElem?_set_self hi] at hj
        cases hj
        exact .inr ⟨d', .ref p, rfl, a, rep⟩
      · rw [List.getElem?_set_ne hij] at hj
        exact .inl ⟨by rw [List.getElem?_set_ne hij]; exact hj, rfl⟩
  · cases h
/-! ### dict displays -/
theorem repk_fold (ps : List (D × D)) : ∀ {l : List (D × D)} {kvs acc : List (Key × V)}, RepK K cad Y ρ H ps kvs → RepK K cad Y ρ H l acc → RepK K cad Y ρ H (ps.foldl (fun l p => putD p.1 p.2 l) l) (L2.mergeK acc kvs) := by
  induction ps with
  | nil => intro l kvs acc h r; simp only [RepK] at h; subst h; exact r
  | cons q ps ih =>
    obtain ⟨k, d⟩ := q
    intro l kvs acc h r
    simp only [RepK] at h
    obtain ⟨x, v, t, rfl, hk, hd, ht⟩ := h
    have := ih ht (repk_put hk hd r)
    exact this
abbrev SoundP (P : Prg) (M : CM) (cad : String → Option Addr) (X : L2.Cx) (pos : Pos) (ks : List (Option Expr)) (vs : List Expr) (c : CEs) : Prop :=
  ∃ trs, L2.PPs X pos ks vs trs ∧ ∀ (W : Addr → Prop) (E : Env) (S : Sto) (ps : List (D × D)) (E' : Env) (S' : Sto), evd P M.call M.make c E S = some (.ok ps, E', S') → ps.length = ks.length ∧ ∀ σ H Q, (∃ ρ Y, EOk X.K cad W ρ Y E S σ H ∧ ∀ ρ' Y' H' kvs, Post W ρ Y H ρ' Y' H' → EOk X.K cad W ρ' Y' E' S' σ H' → RepK X.K cad Y' ρ' H' ps kvs → Q (kvs.map fun kv => (L2.kV kv.1, kv.2)) H') → L2.tPairs trs σ H Q
theorem sp_nil : SoundP P M cad X pos [] [] .nil := by
  refine ⟨[], L2.pps_nil, fun W E S ps E' S' h => ?_⟩
  simp only [evd] at h
  cases h
  refine ⟨rfl, fun σ H Q ⟨ρ, Y, ok, q⟩ => ?_⟩
  exact q _ _ _ [] Post.refl ok (by simp only [RepK])
theorem sp_cons {ks : List (Option Expr)} {vs : List Expr} (ha : SoundE P M cad X e1 a) (hb : SoundE P M cad X e2 b) (hr : SoundP P M cad X pos ks vs cs) : SoundP P M cad X pos (some e1 :: ks) (e2 :: vs) (.cons a (.cons b cs)) := by
  obtain ⟨trs, hp, sub⟩ := hr
  refine ⟨_ :: trs, L2.pps_cons (any_E ha) (any_E hb) hp, fun W E S ps E' S' h => ?_⟩
  simp only [evd] at h
  obtain ⟨⟨dk, fk⟩, E1, S1, h1, h⟩ := bnd_ok h
  obtain ⟨⟨dv, fv⟩, E2, S2, h2, h⟩ := bnd_ok h
  obtain ⟨k', ok1, h⟩ := opt_ok h
  obtain ⟨v', ov1, h⟩ := opt_ok h
  split at h
  · rename_i hk
    obtain ⟨r, E3, S3, h3, h⟩ := bnd_ok h
    cases h
    obtain ⟨hlen, sub⟩ := sub W _ _ _ _ _ h3
    refine ⟨by simp [hlen], fun σ H Q ⟨ρ, Y, ok, q⟩ => ?_⟩
    refine ⟨W, E, S, dk, fk, E1, S1, h1, ρ, Y, ok, fun ρ1 Y1 H1 v1 p1 okA r1 l1 => ?_⟩
    obtain ⟨Y1', p1', okA', rk⟩ := VRes.share ok1 r1 okA p1
    refine ⟨W, E1, S1, dv, fv, E2, S2, h2, ρ1, Y1', okA', fun ρ2 Y2 H2 v2 p2 okB r2 l2 => ?_⟩
    obtain ⟨Y2', p2', okB', rv⟩ := VRes.share ov1 r2 okB p2
    refine sub σ H2 _ ⟨ρ2, Y2', okB', fun ρ3 Y3 H3 kvs p3 okC r3 => ?_⟩
    obtain ⟨x, hx1, rfl⟩ := key_rep hk (.inl rk)
    exact q _ _ _ ((x, v2) :: kvs) ((p1'.trans p2').trans p3) okC (by simp only [RepK]; exact ⟨x, v2, kvs, rfl, hx1, rv.post p3, r3⟩)
  · cases h
theorem s_dctp {ks : List (Option Expr)} {vs : List Expr} (hp : SoundP P M cad X pos ks vs cs) (hall : ks.all (·.isSome) = true) (hl : ks.length = vs.length) (h0 : ks ≠ []) (h15 : ks.length ≤ 15) (hcs : cs ≠ .nil) : SoundE P M cad X (.Dict ks vs pos) (.dct cs .nil) := by
  intro W E S d fl E' S' h
  have h : (bnd (evd P M.call M.make cs E S) fun ps E S => if ps.length ≤ 15 then some (.ok (.dct (ps.foldl (fun l p => putD p.1 p.2 l) []), .f), E, S) else none) = some (.ok (d, fl), E', S') := by
    cases cs with
    | nil => exact absurd rfl hcs
    | cons => simpa only [ev] using h
    | star => simpa only [ev] using h
  obtain ⟨ps, E1, S1, h1, h⟩ := bnd_ok h
  split at h
  · rename_i hl15
    cases h
    obtain ⟨trs, hpp, sub⟩ := hp
    refine PE.sub (L2.pe_disp hpp hall hl h0 h15) fun σ H Q z => ?_
    obtain ⟨ρ, Y, ok, q⟩ := z
    intro p hp
    obtain ⟨g0, p0, ok0, wD, rD, oD⟩ := ok.aside (o := .dK []) hp
    have okD := ok0.block (p := p) (.inr rfl) rD oD
    refine (sub (fun a => W a ∨ a = p) _ _ _ _ _ h1).2 σ _ _ ⟨ρ, _, okD, fun ρ1 Y1 H1 kvs p1 ok1 rk => ?_⟩
    have w1 : ∀ a, W a → W a ∨ a = p := fun a h => .inl h
    have hpp := p1.kp p _ (.inr rfl) L2.upd_same
    refine ⟨hpp, kvs, rfl, by rw [repk_len rk]; exact hl15, ?_⟩
    have yp := ok1.wx p (.inr rfl)
    refine q ρ1 Y1 _ (.ref p) ((p0.trans (p1.weak w1)).trans (Post.touch wD yp)) ((ok1.touch (.inr rfl)).weak w1) ⟨p, rfl, ?_, yp, wD, fun z => (ok1.cX p z).2 (.inr rfl), hp, fun j d hj hs => ?_⟩ (fun i e => by cases e)
    · simp only [Cont]
      exact ⟨_, L2.upd_same, (repk_fold ps rk (by simp only [RepK])).mono (go_in yp) self_pre⟩
    · obtain ⟨p', a, b, c', e, f⟩ := ok1.own j d hj
      rw [hs] at a
      cases a
      exact e (.inr rfl)
  · cases h
end
end Dk
end
/-! Snd15e -/
section
set_option linter.all false
set_option maxRecDepth 100000
set_option maxHeartbeats 2000000
/-! Properties, instances without an __init__, repr, dicts over others, walks over a dict's items. -/
namespace Dk
open PySem (Str Addr Heap Value Shared sizeLine Expr Pos)
open L2 (V Hp HO upd Rd SqL SqT Key St VK TE PE PT PW PA PG PGs PI It)
section
variable {K : Kx} {P : Prg} {M : CM} {cad : String → Option Addr} {k : Nat} {cc : Cc} {sc isc : PySem.Scope} {X : L2.Cx} {W W' : Addr → Prop} {ρ ρ1 : List Addr} {Y Y1 : Addr → Prop} {E E' E1 E2 : Env} {S S' S1 S2 : Sto} {d : D} {fl : Fl} {σ σ' σ2 : St} {H H1 : Hp} {Q : VK} {e e1 e2 e3 tg o : Expr} {es : List Expr} {cs : CEs} {a b c : CE} {pos p p2 tp apos cpos : Pos} {n kk : Nat}
theorem s_prop {x : Str} {f : String} (g : Gd P M cad k cc sc X) (hx : nmOf x = some f) (hmt : ("@" ++ f) ∈ cc.mts) (hb : PySem.attributeBase e x X.env (PySem.eval e X.env) = PySem.eval e X.env) (ha : SoundE P M cad X e a) : SoundE P M cad X (.Attribute e x pos) (.prop a f) := by
  intro W E S d fl E' S' h
  simp only [ev] at h
  obtain ⟨⟨d0, f0⟩, E1, S1, h1, h⟩ := bnd_ok h
  obtain ⟨d1, hone, h⟩ := opt_ok h
  obtain ⟨q, hq, h⟩ := opt_ok h
  obtain rfl := nm_sx hx
  have hcall : ∃ S3, M.call q [d1] S1 = some (.ok (d, fl), S3) ∧ E' = E1 ∧ S' = S3 := by
    unfold callM at h
    split at h
    · cases h; exact ⟨_, by assumption, rfl, rfl⟩
    · cases h
    · cases h
  obtain ⟨S3, hcall, rfl, rfl⟩ := hcall
  have h01 : d0 = d1 := by unfold one at hone; split at hone <;> cases hone; rfl
  subst h01
  unfold propF at hq
  split at hq
  · rename_i c fs hi
    obtain ⟨kc, k1, k2⟩ := Option.bind_eq_some_iff.mp hq
    cases hC : cad c with
    | none =>
      have no : PE X (.Attribute e (sx f) pos) (fun σ H Q => rE X.K cad W a E S d0 f0 E' S1 σ H fun v H1 => False) := ⟨fun pins s σ H Q I z => by
        have base : PySem.attributeBase e (sx f) X.env (PySem.eval e X.env) = PySem.eval e X.env := hb
        exact L2.attr_of base (L2.thn ((ha W _ _ _ _ _ _ h1).run pins s σ H _ I z) fun u s1 ⟨_, _, _, _, z⟩ => z.elim)⟩
      refine PE.sub no fun σ H Q ⟨ρ, Y, ok, q'⟩ => ?_
      refine ⟨ρ, Y, ok, fun ρ1 Y1 H1 v1 p1 ok1 r1 l1 => ?_⟩
      obtain ⟨p, C', dx, gs, rfl, b1, b2, b3⟩ := rb_ins ok1.toSOk (r1.rb ok1) hi
      rw [hC] at b1; cases b1
    | some C =>
      obtain ⟨pp, fn, fd, ps, a1, a2, a3, a4⟩ := g.wd.pr c kc C f q hmt k1 hC k2
      refine PE.sub (pe_propG (ha W _ _ _ _ _ _ h1) a1 a2 a4 g.room g.gu a3 hb) fun σ H Q ⟨ρ, Y, ok, q'⟩ => ?_
      refine ⟨ρ, Y, ok, fun ρ1 Y1 H1 v1 p1 ok1 r1 l1 => ?_⟩
      obtain ⟨Y1', p1', ok1', rv⟩ := VRes.share hone r1 ok1 p1
      obtain ⟨p, C', dx, gs, rfl, b1, b2, b3⟩ := rb_ins ok1'.toSOk (.inl rv) hi
      rw [hC] at b1; cases b1
      refine ⟨p, dx, gs, rfl, b2, ρ1, Y1', [d0], S1, d, fl, S', Reps.one rv, wof_ok ok1'.toSOk, hcall, g.wd.ln _ _ _ _ hcall, fun ρ3 Y3 H3 v p3 s3 c3 => ?_⟩
      obtain ⟨p4, ok4⟩ := ok1'.call p3 s3
      exact q' _ _ _ _ (p1'.trans p4) ok4 ((c3.to ok1' p3).base p1'.up) (fun i e => by cases e)
  · cases hq
theorem s_rpr (g : Gd P M cad k cc sc X) (hg : isGl sc "repr" = true) (hs : isStar e = false) (ha : SoundE P M cad X e a) : SoundE P M cad X (.Call (.Name "repr" p) [e] [] pos) (.rpr a) := by
  intro W E S d fl E' S' h
  simp only [ev] at h
  obtain ⟨⟨d0, f0⟩, E1, S1, h1, h⟩ := bnd_ok h
  unfold reprO at h
  split at h
  · rename_i n hn
    split at h
    · rename_i hc
      cases h
      refine PE.sub (L2.pe_callB (call_repr cad g.gu g.hu) (g.gl _ hg) (g.wd.bi "repr" (by simp)) (by decide +kernel) (L2.pa_cons (ha W _ _ _ _ _ _ h1) L2.pa_nil (star_one _ hs)) (by decide) (by decide) (star_one _ hs) rfl) fun σ H Q ⟨ρ, Y, ok, q⟩ => ?_
      refine ⟨ρ, Y, ok, fun ρ1 Y1 H1 v1 p1 ok1 r1 l1 => ?_⟩
      refine ⟨ρ1, Y1, d0, v1, n, rfl, r1.rb ok1, hn, hc.1, hc.2, q _ _ _ _ p1 ok1 ?_ (fun i e => by cases e)⟩
      rw [g.wd.shw]
      simp only [VRes, Rep]
    · cases h
  · cases h
theorem s_mk0 {x : Str} {f : String} (g : Gd P M cad k cc sc X) (hx : nmOf x = some f) (hg : isGl sc x = true) (ho : okNm x = true) (hm : ("!" ++ f) ∈ cc.mts) : SoundE P M cad X (.Call (.Name x p) [] [] pos) (.mk0 f) := by
  intro W E S d fl E' S' h
  simp only [ev] at h
  obtain ⟨d1, h1, h⟩ := opt_ok h
  cases h
  obtain rfl := nm_sx hx
  have hd : d = .ins f [] := by
    unfold bare at h1
    split at h1
    · split at h1
      · cases h1; rfl
      · cases h1
    · cases h1
  subst hd
  obtain ⟨C, c1, c2, c3⟩ := g.wd.mk0 f hm
  refine PE.sub (pe_mk0 c3 (g.gl _ hg) c2 (okNm_d ho)) fun σ H Q ⟨ρ, Y, ok, q⟩ => ?_
  intro y dx hy hdx hne
  have e1 : Ex H (upd H dx (.own y)) := Ex.new hdx
  have hy1 : (upd H dx (HO.own y)) y = none := by rw [L2.upd_ne (Ne.symm hne)]; exact hy
  have e2 : Ex (upd H dx (.own y)) (upd (upd H dx (.own y)) y (.ins C dx [])) := Ex.new hy1
  have ok' := ok.ex (e1.trans e2)
  refine q _ _ _ _ (e1.trans e2).post ok' ?_ (fun i e => by cases e)
  simp only [VRes, Rep, RepF]
  exact ⟨y, C, dx, [], rfl, (fun z => absurd (ok.dom y z) (by rw [hy]; rintro ⟨o, h⟩; cases h)), c1, L2.upd_same, rfl⟩
theorem overD_ok {x : D × Fl} {k v : D} {r : List (D × D)} (h : overD x k v = some r) : ∃ l, x = (.dct l, .v) ∧ keyOk k = true ∧ l.length < LIM ∧ r = putD k v l := by
  obtain ⟨d, fl⟩ := x
  cases d <;> cases fl <;> simp only [overD] at h <;> first | (cases h; done) | skip
  split at h
  · rename_i hk
    cases h
    exact ⟨_, rfl, hk.1, hk.2, rfl⟩
  · cases h
theorem itemsO_ok {x : D × Fl} {r : List D} (h : itemsO x = some r) : ∃ l, x = (.dct l, .v) ∧ r = itemsD l := by
  obtain ⟨d, fl⟩ := x
  cases d <;> cases fl <;> simp only [itemsO] at h <;> first | (cases h; done) | skip
  cases h
  exact ⟨_, rfl, rfl⟩
theorem s_dcs (ha : SoundE P M cad X e1 a) (hb : SoundE P M cad X e2 b) (hc : SoundE P M cad X e3 c) : SoundE P M cad X (.Dict [none, some e2] [e1, e3] pos) (.dcs a b c) := by
  intro W E S d fl E' S' h
  simp only [ev] at h
  obtain ⟨x, E1, S1, h1, h⟩ := bnd_ok h
  obtain ⟨⟨dy, fy⟩, E2, S2, h2, h⟩ := bnd_ok h
  obtain ⟨⟨dz, fz⟩, E3, S3, h3, h⟩ := bnd_ok h
  obtain ⟨y', hy, h⟩ := opt_ok h
  obtain ⟨z', hz, h⟩ := opt_ok h
  obtain ⟨l', hl, h⟩ := opt_ok h
  cases h
  obtain ⟨l, rfl, hk1', hk2', rfl⟩ := overD_ok hl
  have hk := And.intro hk1' hk2'
  · · refine PE.sub (pe_dcs (any_E ha) (any_E hb) (any_E hc)) fun σ H Q ⟨ρ, Y, ok, q⟩ => ?_
      intro D hD
      obtain ⟨g0, p0, ok0, wD, rD, oD⟩ := ok.aside (o := .dK []) hD
      have okD := ok0.block (p := D) (.inr rfl) rD oD
      have w1 : ∀ a, W a → W a ∨ a = D := fun a h => .inl h
      refine ⟨fun a => W a ∨ a = D, E, S, _, _, E1, S1, h1, ρ, _, okD, fun ρ1 Y1 H1 v1 p1 ok1 r1 l1 => ?_⟩
      have r1' : Rep X.K cad Y1 ρ1 H1 (.dct l) v1 := r1
      simp only [Rep] at r1'
      obtain ⟨a, kvs, rfl, na, hra, rk⟩ := r1'
      have yD := ok1.wx D (.inr rfl)
      have hne : D ≠ a := fun z => na (z ▸ yD)
      have hD1 := p1.kp D _ (.inr rfl) L2.upd_same
      refine ⟨a, kvs, rfl, hne, hra, hD1, by rw [repk_len rk]; exact Nat.lt_of_lt_of_le hk.2 lim_line, fun T hT => ?_⟩
      have okt := ok1.touch (p := D) (o := .dK kvs) (.inr rfl)
      have rk1 := rk.mono (go_in (o := .dK kvs) yD) self_pre
      obtain ⟨g2, p2, ok2, wT, rT, oT⟩ := okt.aside (o := .dK []) hT
      have okT := ok2.block (p := T) (.inr rfl) rT oT
      have w2 : ∀ a, (W a ∨ a = D) → (W a ∨ a = D) ∨ a = T := fun a h => .inl h
      have w3 : ∀ a, W a → (W a ∨ a = D) ∨ a = T := fun a h => .inl (.inl h)
      have hDT : D ≠ T := fun z => wT (.inr z.symm)
      refine ⟨fun a => (W a ∨ a = D) ∨ a = T, E1, S1, dy, fy, E2, S2, h2, ρ1, _, okT, fun ρ2 Y2 H2 v2 p3 ok3 r3 l3 => ?_⟩
      obtain ⟨Y2', p3', ok3', ry⟩ := VRes.share hy r3 ok3 p3
      refine ⟨fun a => (W a ∨ a = D) ∨ a = T, E2, S2, dz, fz, E', S', h3, ρ2, Y2', ok3', fun ρ3 Y3 H3 v3 p4 ok4 r4 l4 => ?_⟩
      obtain ⟨Y3', p4', ok4', rz⟩ := VRes.share hz r4 ok4 p4
      obtain ⟨kx, hk1, rfl⟩ := key_rep hk.1 (.inl ry)
      have pp := p3'.trans p4'
      have hD3 := pp.kp D _ (.inl (.inr rfl)) (by rw [L2.upd_ne hDT]; exact L2.upd_same)
      have hT3 := pp.kp T _ (.inr rfl) L2.upd_same
      refine ⟨kx, rfl, hD3, hT3, hDT, ?_⟩
      have yD3 := ok4'.wx D (.inl (.inr rfl))
      have yT3 := ok4'.wx T (.inr rfl)
      have wT' : ¬ W T := fun z => wT (.inl z)
      have fin := ((ok4'.touch (p := T) (o := .dK [(kx, v3)]) (.inr rfl)).touch (p := D) (o := .dK (L2.putK kvs kx v3)) (.inl (.inr rfl)))
      have po : Post W ρ Y H ρ3 Y3' (upd (upd H3 T (.dK [(kx, v3)])) D (.dK (L2.putK kvs kx v3))) :=
        (((((p0.trans (p1.weak w1)).trans (Post.touch (o := .dK kvs) wD yD)).trans (p2.weak w1)).trans (pp.weak w3)).trans (Post.touch (o := .dK [(kx, v3)]) wT' yT3)).trans (Post.touch (o := .dK (L2.putK kvs kx v3)) wD yD3)
      refine q ρ3 Y3' _ (.ref D) po (fin.weak w3) ⟨D, rfl, ?_, yD3, wD, fun z => (ok4'.cX D z).2 (.inl (.inr rfl)), hD, fun j d hj hs => ?_⟩ (fun i e => by cases e)
      · have rk3 := ((((rk1.mono g2 self_pre).mono pp.go pp.pre).mono (go_in (o := .dK [(kx, v3)]) yT3) self_pre).mono (go_in (o := .dK (L2.putK kvs kx v3)) yD3) self_pre)
        have rz3 := (rz.mono (go_in (o := .dK [(kx, v3)]) yT3) self_pre).mono (go_in (o := .dK (L2.putK kvs kx v3)) yD3) self_pre
        simp only [Cont]
        exact ⟨_, L2.upd_same, repk_put hk1 rz3 rk3⟩
      · obtain ⟨p', a', b', c', e', f'⟩ := ok4'.own j d hj
        rw [hs] at a'
        cases a'
        exact e' (.inl (.inr rfl))

/-! ### the items of a dict -/
theorem items_get {l : List (D × D)} {i : Nat} : (itemsD l)[i]? = (l[i]?).map fun p => .tup [p.1, p.2] := by unfold itemsD; rw [List.getElem?_map]
theorem repk_get : ∀ {l : List (D × D)} {kvs : List (Key × V)} {i : Nat} {q : D × D}, RepK K cad Y ρ H l kvs → l[i]? = some q → ∃ x v, kvs[i]? = some (x, v) ∧ keyV q.1 = some x ∧ Rep K cad Y ρ H q.2 v
  | [], kvs, i, q, _, e => by simp at e
  | (a, d) :: r, kvs, i, q, h, e => by
    simp only [RepK] at h
    obtain ⟨y, v, t, rfl, ha, hd, hr⟩ := h
    cases i with
    | zero => simp at e; subst e; exact ⟨y, v, rfl, ha, hd⟩
    | succ i => simpa using repk_get (i := i) hr (by simpa using e)
theorem rep_key {d : D} {x : Key} (h : keyV d = some x) : Rep K cad Y ρ H d (L2.kV x) := by
  cases d <;> simp only [keyV] at h <;> first | (cases h; done) | skip
  · cases h; simp only [Rep]; rfl
  · cases h; simp only [Rep]; rfl
theorem iok_items {p : Addr} {od : PySem.Obj} {l : List (D × D)} {kvs : List (Key × V)} (n : ¬ Y p) (h : H p = some (.frz od (.dK kvs))) (r : RepK K cad Y ρ H l kvs) : IOk K cad (itemsD l) (L2.Iti p od kvs) ρ Y H := by
  intro ρ' Y' H' pr g dm i hi
  obtain ⟨n', h'⟩ := go_keep g n h (fun _ z => by cases z)
  have r' := r.mono g pr
  have hl : (itemsD l).length = l.length := by unfold itemsD; rw [List.length_map]
  rw [hl] at hi ⊢
  refine ⟨fun e => ⟨h', by rw [repk_len r]; omega⟩, fun d hd => ?_⟩
  rw [items_get] at hd
  obtain ⟨q, hq, rfl⟩ := Option.map_eq_some_iff.mp hd
  obtain ⟨x, v, hx, hk, rv⟩ := repk_get r' hq
  refine ⟨⟨h', by have := (List.getElem?_eq_some_iff.mp hx).1; exact this⟩, fun w H'' y => ?_⟩
  obtain ⟨T, k2, v2, e1, rfl, hT, rfl⟩ := y
  rw [hx] at e1
  cases e1
  exact ⟨Ex.new hT, rep_tup_new dm hT (Reps.cons (rep_key hk) (Reps.one rv))⟩
/-- a dict is locked from now on -/
def tLockD (td : TE) : TE := fun σ H Q => td σ H fun x H1 => ∃ d kvs, x = .ref d ∧ Rd H1 d (.dK kvs) ∧ ∀ od H2, ((H2 = H1 ∧ H1 d = some (.frz od (.dK kvs))) ∨ (H1 d = some (.dK kvs) ∧ H2 = upd H1 d (.frz od (.dK kvs)))) → Q x H2
theorem pe_lockD {td : TE} (he : PE X e td) : PE X e (tLockD td) := by
  refine ⟨fun pins s σ H Q I h => ?_⟩
  refine L2.thn (he.run pins s σ H _ I h) fun u s1 ⟨x, H1, I1, rx, d, kvs, ex, hr, q⟩ => ?_
  rcases hr with hr | ⟨od, hr⟩
  · obtain ⟨od, I2⟩ := I1.lock hr True.intro
    exact ⟨x, _, I2, rx, q od _ (.inr ⟨hr, rfl⟩)⟩
  · exact ⟨x, _, I1, rx, q od _ (.inl ⟨rfl, hr⟩)⟩
theorem EOk.lockD (ok : EOk K cad W ρ Y E S σ H) {p : Addr} {od : PySem.Obj} {kvs : List (Key × V)} (n : ¬ Y p) (h : H p = some (.dK kvs)) : Post W ρ Y H ρ Y (upd H p (.frz od (.dK kvs))) ∧ EOk K cad W ρ Y E S σ (upd H p (.frz od (.dK kvs))) := by
  have g : Go Y H Y (upd H p (.frz od (.dK kvs))) := fun a o na ha => by
    refine ⟨na, ?_⟩
    by_cases z : a = p
    · subst z
      rw [h] at ha
      cases ha
      exact .inr ⟨od, kvs, rfl, L2.upd_same⟩
    · exact .inl (by rw [L2.upd_ne z]; exact ha)
  have ex : ∀ a, Y a → ∀ o, H a = some o → (upd H p (.frz od (.dK kvs))) a = some o := fun a ya o ha => by
    have z : a ≠ p := fun z => n (z ▸ ya)
    rw [L2.upd_ne z]; exact ha
  refine ⟨⟨self_pre, fun _ h => .inl h, g, fun a o w ha => ex a (ok.wx a w) o ha, fun a ha => ?_⟩, ⟨⟨ok.len, fun n o q a b => (ok.cells n o q a b).mono g self_pre (ex q (ok.cX q (List.mem_of_getElem? b)).1), ok.cX, ok.nd, ok.wx, fun a ya => ?_⟩, fun i d h => ?_, fun i d h => ?_, ok.sep, ok.ln⟩⟩
  · by_cases z : a = p
    · subst z; rw [L2.upd_same] at ha; cases ha
    · rwa [L2.upd_ne z] at ha
  · obtain ⟨o, q⟩ := ok.dom a ya
    exact ⟨o, ex a ya o q⟩
  · obtain ⟨v, a, b⟩ := ok.val i d h; exact ⟨v, a, b.mono g self_pre⟩
  · obtain ⟨q, a, b, c1, c2, c3⟩ := ok.own i d h; exact ⟨q, a, b.mono g self_pre (ex q c1), c1, c2, c3⟩
theorem s_items (hb : PySem.attributeBase e "items" X.env (PySem.eval e X.env) = PySem.eval e X.env) (hline : (apos.endLine == cpos.line) = true) (ha : SoundE P M cad X e a) : SoundI P M cad X (.Tuple es kk tp) (.Call (.Attribute e "items" apos) [] [] cpos) (.items a) := by
  intro W E S xs E' S' h
  simp only [itr] at h
  obtain ⟨x, E1, S1, h1, h⟩ := bnd_ok h
  obtain ⟨r, hr, h⟩ := opt_ok h
  cases h
  obtain ⟨l, rfl, rfl⟩ := itemsO_ok hr
  · refine PI.sub (L2.pi_items (pe_lockD (ha W _ _ _ _ _ _ h1)) hb hline) fun σ H R ⟨ρ, Y, ok, q⟩ => ?_
    refine ⟨ρ, Y, ok, fun ρ1 Y1 H1 v1 p1 ok1 r1 l1 => ?_⟩
    have r1' : Rep X.K cad Y1 ρ1 H1 (.dct l) v1 := r1
    simp only [Rep] at r1'
    obtain ⟨p, kvs, rfl, np, hp, rk⟩ := r1'
    refine ⟨p, kvs, rfl, hp, fun od H2 hh => ?_⟩
    rcases hh with ⟨rfl, h2⟩ | ⟨h2, rfl⟩
    · exact ⟨p, od, kvs, rfl, h2, q _ _ _ _ p1 ok1 (iok_items np h2 rk)⟩
    · obtain ⟨p2, ok2⟩ := ok1.lockD (od := od) np h2
      exact ⟨p, od, kvs, rfl, L2.upd_same, q _ _ _ _ (p1.trans p2) ok2 (iok_items np L2.upd_same (rk.mono p2.go p2.pre))⟩
end
end Dk
end
/-! Snd16 -/
section
set_option linter.all false
set_option maxRecDepth 100000
set_option maxHeartbeats 4000000
/-! The compiler's code keeps to its readings: expressions. -/
namespace Dk
open PySem (Str Addr Heap Value Shared sizeLine Expr Pos)
open L2 (V Hp HO upd Rd SqL SqT Key St VK TE PE PT PW PA PG PGs PI It)

section
variable {K : Kx} {P : Prg} {M : CM} {cad : String → Option Addr} {k : Nat} {cc : Cc} {sc isc : PySem.Scope} {X : L2.Cx} {W : Addr → Prop} {E E' E1 E2 : Env} {S S' S1 S2 : Sto} {d : D} {fl : Fl} {σ : St} {H : Hp} {Q : VK} {e e1 e2 e3 tg elt iter : Expr} {es ifs : List Expr} {cs : CEs} {a b c : CE} {pos p tp : Pos} {n kk : Nat}

theorem relabel_look {env : PySem.Env} {x : Str} {q : PySem.NameKind} : ∀ {l : List (Str × PySem.NameKind)}, l.lookup x = some q →
    ∃ q', (l.map fun (n, k) => if (k == PySem.NameKind.free && env.scope.kind == .function && env.kindOf n == some .cell) then (n, PySem.NameKind.cell) else (n, k)).lookup x = some q' ∧ (q' = q ∨ (q = .free ∧ q' = .cell))
  | [], h => by simp at h
  | (n, kd) :: l, h => by
    by_cases hn : x = n
    · subst hn
      rw [List.lookup_cons, beq_self_eq_true] at h
      cases h
      simp only [List.map_cons]
      split
      · rename_i hc
        simp only [Bool.and_eq_true, beq_iff_eq] at hc
        refine ⟨.cell, by rw [List.lookup_cons, beq_self_eq_true], .inr ⟨hc.1.1, rfl⟩⟩
      · exact ⟨_, by rw [List.lookup_cons, beq_self_eq_true], .inl rfl⟩
    · have hb : (x == n) = false := beq_eq_false_iff_ne.mpr hn
      rw [List.lookup_cons, hb] at h
      obtain ⟨q', h1, h2⟩ := relabel_look (env := env) h
      refine ⟨q', ?_, h2⟩
      simp only [List.map_cons]
      split
      · rw [List.lookup_cons, hb]; exact h1
      · rw [List.lookup_cons, hb]; exact h1
theorem vis_of {sc : PySem.Scope} {x : Str} (h : isVis sc x = true) : sc.names.lookup x = some .local ∨ sc.names.lookup x = some .cell ∨ sc.names.lookup x = some .free := by
  unfold isVis at h
  split at h
  · exact .inl (by assumption)
  · exact .inr (.inl (by assumption))
  · exact .inr (.inr (by assumption))
  · cases h
theorem gl_of {sc : PySem.Scope} {x : Str} (h : isGl sc x = true) : sc.names.lookup x = some .globalImplicit := by
  unfold isGl at h
  split at h
  · assumption
  · cases h
theorem loc_of {sc : PySem.Scope} {x : Str} (h : locIn sc x = true) : sc.names.lookup x = some .local ∨ sc.names.lookup x = some .cell := by
  unfold locIn at h
  simpa only [Bool.or_eq_true, beq_iff_eq] using h
theorem Gd.blk (g : Gd P M cad k cc sc X) (s : Shared) (H : Hp) (C : Addr) (cl : List (Str × Addr)) (fp : List Addr) : Gd P M cad k cc isc (X.blk s H isc (PySem.compEnvC isc cl C X.env) fp) := by
  refine ⟨g.wd, g.nm, g.nd, g.calm, g.gu, g.room, fun x h => ?_, fun x h => ?_, fun x h => ?_, fun x h => ?_⟩
  · rcases vis_of h with h | h | h <;> obtain ⟨q, h1, h2⟩ := relabel_look (env := X.env) h
    · rcases h2 with rfl | ⟨z, _⟩
      · exact .inl h1
      · cases z
    · rcases h2 with rfl | ⟨z, _⟩
      · exact .inr (.inl h1)
      · cases z
    · rcases h2 with rfl | ⟨z, rfl⟩
      · exact .inr (.inr h1)
      · exact .inr (.inl h1)
  · obtain ⟨q, h1, h2⟩ := relabel_look (env := X.env) (gl_of h)
    rcases h2 with rfl | ⟨z, _⟩
    · exact h1
    · cases z
  · rcases h with h | h <;> obtain ⟨q, h1, h2⟩ := relabel_look (env := X.env) h
    · rcases h2 with rfl | ⟨z, _⟩
      · exact .inl h1
      · cases z
    · rcases h2 with rfl | ⟨z, rfl⟩
      · exact .inr h1
      · exact .inl h1
  · rcases loc_of h with h | h <;> obtain ⟨q, h1, h2⟩ := relabel_look (env := X.env) h
    · rcases h2 with rfl | ⟨z, _⟩
      · exact ⟨.inl h1, .inr h1⟩
      · cases z
    · rcases h2 with rfl | ⟨z, _⟩
      · exact ⟨.inr h1, .inl (by show (List.lookup x isc.names == some PySem.NameKind.cell) = true; rw [h]; rfl)⟩
      · cases z
theorem not_folded {e : Expr} (env : PySem.Env) (h : ∀ a b c, e ≠ .Set a b c) (x : Value) : PySem.foldedSetIterable e env x = pure x := by
  cases e <;> first | exact absurd rfl (h _ _ _) | rfl
theorem blk_ok (g : Gd P M cad k cc sc X) {own : List (Str × Nat)} (h : L2.blkC cc.N sc isc own = true) : L2.BlkOk X.N X.env.scope isc own := by
  have q := L2.blkOk_by h
  refine ⟨q.kind, q.uniq, ?_, fun y hy hf => g.free y.1 (q.free y hy hf), ?_⟩
  · rw [g.nm]; exact q.ix
  · rw [g.nm]; exact q.own
theorem s_lc {t : Tg} {ci : CI} (g : Gd P M cad k cc sc X) (hb : L2.blkC cc.N sc isc (ownOf cc.N (slots t)) = true) (ho : (ownOf cc.N (slots t)).map (·.2) = slots t) (hi : SoundI P M cad X tg iter ci)
    (hg : ∀ (s : Shared) (H : Hp) (C : Addr) (cl : List (Str × Addr)) (fp : List Addr), PG (X.blk s H isc (PySem.compEnvC isc cl C X.env) fp) tg (aG X.K cad t))
    (ht : ∀ (s : Shared) (H : Hp) (C : Addr) (cl : List (Str × Addr)) (fp : List Addr), L2.PTs (X.blk s H isc (PySem.compEnvC isc cl C X.env) fp) ifs (aC P M X.K cad cs))
    (he : ∀ (s : Shared) (H : Hp) (C : Addr) (cl : List (Str × Addr)) (fp : List Addr), PE (X.blk s H isc (PySem.compEnvC isc cl C X.env) fp) elt (aE P M X.K cad c))
    (hs : ∀ a b c, iter ≠ .Set a b c) : SoundE P M cad X (.ListComp elt [⟨tg, iter, ifs, 0⟩] isc pos) (.lc c t ci cs) := by
  intro W E S d fl E' S' h
  simp only [ev] at h
  obtain ⟨xs, E1, S1, h1, h⟩ := bnd_ok h
  split at h
  · rename_i hcl
    obtain ⟨l, E2, S2, h2, h⟩ := bnd_ok h
    cases h
    have pl := L2.pe_lc (pos := pos) g.calm (by rw [g.nm]; exact g.nd) (hi W _ _ _ _ _ h1) (blk_ok g hb) hg ht he (not_folded _ hs)
    rw [ho] at pl
    exact PE.sub pl fun σ H Q z => lc_sub h2 hcl z
  · cases h

theorem s_lco {t : Tg} {x : Str} {i : Nat} {ip : Pos} (g : Gd P M cad k cc sc X) (hx : cc.N[i]? = some x) (hv : isVis sc x = true) (hok : okNm x = true) (hb : L2.blkC cc.N sc isc (ownOf cc.N (slots t)) = true) (ho : (ownOf cc.N (slots t)).map (·.2) = slots t)
    (hg : ∀ (s : Shared) (H : Hp) (C : Addr) (cl : List (Str × Addr)) (fp : List Addr), PG (X.blk s H isc (PySem.compEnvC isc cl C X.env) fp) tg (aG X.K cad t))
    (ht : ∀ (s : Shared) (H : Hp) (C : Addr) (cl : List (Str × Addr)) (fp : List Addr), L2.PTs (X.blk s H isc (PySem.compEnvC isc cl C X.env) fp) ifs (aC P M X.K cad cs))
    (he : ∀ (s : Shared) (H : Hp) (C : Addr) (cl : List (Str × Addr)) (fp : List Addr), PE (X.blk s H isc (PySem.compEnvC isc cl C X.env) fp) elt (aE P M X.K cad c)) :
    SoundE P M cad X (.ListComp elt [⟨tg, .Name x ip, ifs, 0⟩] isc pos) (.lco c t i cs) := by
  intro W E S d fl E' S' h
  simp only [ev] at h
  obtain ⟨l, hl, h⟩ := opt_ok h
  have hE := ownL_ok hl
  split at h
  · rename_i hcl
    rw [Bool.and_eq_true, Bool.not_eq_true'] at hcl
    obtain ⟨r, E2, S2, h2, h⟩ := bnd_ok h
    cases h
    have pl := L2.pe_lc (pos := pos) g.calm (by rw [g.nm]; exact g.nd) (s_ownI (W := W) (S := S) (tg := tg) (pos := ip) g hx hv hok hE) (blk_ok g hb) hg ht he (not_folded _ (fun _ _ _ z => by cases z))
    rw [ho] at pl
    refine PE.sub pl fun σ H Q z => lco_sub hE h2 hcl.1 ?_ z
    intro hm
    have := hcl.2
    rw [List.contains_iff_mem.mpr hm] at this
    cases this
  · cases h
theorem s_lc2 {t t1 : Tg} {ci ci1 : CI} {tg1 iter1 : Expr} {ifs1 : List Expr} {cs1 : CEs} (g : Gd P M cad k cc sc X) (hb : L2.blkC cc.N sc isc (ownOf cc.N (slots t ++ slots t1)) = true) (ho : (ownOf cc.N (slots t ++ slots t1)).map (·.2) = slots t ++ slots t1) (hi : SoundI P M cad X tg iter ci)
    (hg : ∀ (s : Shared) (H : Hp) (C : Addr) (cl : List (Str × Addr)) (fp : List Addr), PG (X.blk s H isc (PySem.compEnvC isc cl C X.env) fp) tg (aG X.K cad t))
    (ht : ∀ (s : Shared) (H : Hp) (C : Addr) (cl : List (Str × Addr)) (fp : List Addr), L2.PTs (X.blk s H isc (PySem.compEnvC isc cl C X.env) fp) ifs (aC P M X.K cad cs))
    (hi1 : ∀ (s : Shared) (H : Hp) (C : Addr) (cl : List (Str × Addr)) (fp : List Addr), PI (X.blk s H isc (PySem.compEnvC isc cl C X.env) fp) tg1 iter1 (aI P M X.K cad ci1))
    (hg1 : ∀ (s : Shared) (H : Hp) (C : Addr) (cl : List (Str × Addr)) (fp : List Addr), PG (X.blk s H isc (PySem.compEnvC isc cl C X.env) fp) tg1 (aG X.K cad t1))
    (ht1 : ∀ (s : Shared) (H : Hp) (C : Addr) (cl : List (Str × Addr)) (fp : List Addr), L2.PTs (X.blk s H isc (PySem.compEnvC isc cl C X.env) fp) ifs1 (aC P M X.K cad cs1))
    (he : ∀ (s : Shared) (H : Hp) (C : Addr) (cl : List (Str × Addr)) (fp : List Addr), PE (X.blk s H isc (PySem.compEnvC isc cl C X.env) fp) elt (aE P M X.K cad c))
    (hs : ∀ a b c, iter ≠ .Set a b c) (hs1 : ∀ a b c, iter1 ≠ .Set a b c) : SoundE P M cad X (.ListComp elt [⟨tg, iter, ifs, 0⟩, ⟨tg1, iter1, ifs1, 0⟩] isc pos) (.lc2 c t ci cs t1 ci1 cs1) := by
  intro W E S d fl E' S' h
  simp only [ev] at h
  obtain ⟨xs, E1, S1, h1, h⟩ := bnd_ok h
  split at h
  · rename_i hcl
    obtain ⟨l, E2, S2, h2, h⟩ := bnd_ok h
    cases h
    have pl := L2.pe_lc2 (pos := pos) g.calm (by rw [g.nm]; exact g.nd) (hi W _ _ _ _ _ h1) (blk_ok g hb) (vs1 := slots t1) (by rw [ho]; exact fun i hi => List.mem_append_right _ hi) hg ht hi1 hg1 ht1 he (not_folded _ hs) (fun env x => not_folded env hs1 x)
    rw [ho] at pl
    exact PE.sub pl fun σ H Q z => lc2_sub h2 hcl z
  · cases h

theorem plain_T (hE : SoundE P M cad X e c) (hw : ∀ whole : PySem.Sem Value, PySem.isTrue e X.env whole = (do let v ← whole; PySem.standAt e.pos; PySem.holding [v] (PySem.truthy v)))
    (ht : ∀ E S r, tst P M.call M.make c E S = some r → (bnd (ev P M.call M.make c E S) fun x E S => opt (truth x.1) fun b => some (.ok b, E, S)) = some r) : SoundT P M cad X e c := by
  intro W E S t E' S' h
  have h := ht _ _ _ h
  obtain ⟨x, E1, S1, h1, h⟩ := bnd_ok h
  obtain ⟨b, hb, h⟩ := opt_ok h
  cases h
  exact s_truth hE hw h1 hb
theorem none_T (ht : ∀ E S, tst P M.call M.make c E S = none) : SoundT P M cad X e c := by
  intro W E S t E' S' h
  rw [ht] at h
  cases h

theorem star_of {n : Nat} (h : cE n cc sc e = some c) : isStar e = false := by
  cases n with
  | zero => simp [cE] at h
  | succ n => cases e <;> first | rfl | (simp [cE] at h; done)
theorem stars_of : ∀ {es : List Expr} {cs : CEs} {n : Nat}, cEs n cc sc es = some cs → es.any isStar = false
  | [], _, _, _ => rfl
  | e :: es, cs, 0, h => by simp [cEs] at h
  | e :: es, cs, n + 1, h => by
    simp only [cEs] at h
    split at h
    · rename_i a b ha hb
      rw [List.any_cons, star_of ha, stars_of hb]
      rfl
    · cases h
theorem nil_of {es : List Expr} {n : Nat} (h : cEs n cc sc es = some .nil) : es = [] := by
  cases es with
  | nil => rfl
  | cons e es =>
    cases n with
    | zero => simp [cEs] at h
    | succ n =>
      simp only [cEs] at h
      split at h
      · cases h
      · cases h
theorem evs_len : ∀ (es : List Expr) (cs : CEs) (n : Nat), cEs n cc sc es = some cs → ∀ E S l E' S', evs P M.call M.make cs E S = some (.ok l, E', S') → l.length = es.length
  | [], cs, n, h, E, S, l, E', S', q => by
    unfold cEs at h
    cases h
    simp only [evs] at q
    cases q
    rfl
  | e :: es, cs, 0, h, E, S, l, E', S', q => by simp [cEs] at h
  | e :: es, cs, n + 1, h, E, S, l, E', S', q => by
    simp only [cEs] at h
    split at h
    · rename_i a b ha hb
      cases h
      simp only [evs] at q
      obtain ⟨⟨d, fl⟩, E1, S1, h1, q⟩ := bnd_ok q
      have rest : ∀ xs E2 S2, evs P M.call M.make b E1 S1 = some (.ok xs, E2, S2) → xs.length = es.length := fun xs E2 S2 z => evs_len es b n hb _ _ _ _ _ z
      cases fl with
      | v =>
        obtain ⟨xs, E2, S2, h2, q⟩ := bnd_ok q
        cases q
        simp [rest xs _ _ h2]
      | f =>
        obtain ⟨xs, E2, S2, h2, q⟩ := bnd_ok q
        cases q
        simp [rest xs _ _ h2]
      | p =>
        cases b with
        | nil =>
          cases q
          rw [nil_of hb]
          rfl
        | cons => cases q
        | star => cases q
    · cases h
theorem own_it {i : Nat} (h : ownIt cc sc e = some i) : ∃ x p, e = .Name x p ∧ cc.N[i]? = some x ∧ isVis sc x = true ∧ okNm x = true := by
  unfold ownIt at h
  split at h
  · split at h
    · rename_i hx
      rw [Bool.and_eq_true] at hx
      obtain ⟨j, hj, h⟩ := Option.bind_eq_some_iff.mp h
      split at h
      · cases h
        exact ⟨_, _, rfl, ix_get hj, hx.2, hx.1⟩
      · cases h
    · cases h
  · cases h
theorem star_el {n : Nat} (h : (match ownIt cc sc e with | some i => some (.frz i) | none => cE n cc sc e) = some c) : isStar e = false := by
  split at h
  · rename_i i hi
    obtain ⟨x, p, rfl, _⟩ := own_it hi
    rfl
  · exact star_of h
theorem starsA_of : ∀ {es : List Expr} {cs : CEs} {n : Nat}, cAs n cc sc es = some cs → es.any isStar = false
  | [], _, _, _ => rfl
  | e :: es, cs, 0, h => by simp [cAs] at h
  | e :: es, cs, n + 1, h => by
    simp only [cAs] at h
    split at h
    · rename_i a b ha hb
      rw [List.any_cons, star_el ha, starsA_of hb]
      rfl
    · cases h
theorem nilA_of {es : List Expr} {n : Nat} (h : cAs n cc sc es = some .nil) : es = [] := by
  cases es with
  | nil => rfl
  | cons e es =>
    cases n with
    | zero => simp [cAs] at h
    | succ n =>
      simp only [cAs] at h
      split at h
      · cases h
      · cases h
theorem evs_lenA : ∀ (es : List Expr) (cs : CEs) (n : Nat), cAs n cc sc es = some cs → ∀ E S l E' S', evs P M.call M.make cs E S = some (.ok l, E', S') → l.length = es.length
  | [], cs, n, h, E, S, l, E', S', q => by
    unfold cAs at h
    cases h
    simp only [evs] at q
    cases q
    rfl
  | e :: es, cs, 0, h, E, S, l, E', S', q => by simp [cAs] at h
  | e :: es, cs, n + 1, h, E, S, l, E', S', q => by
    simp only [cAs] at h
    split at h
    · rename_i a b ha hb
      cases h
      simp only [evs] at q
      obtain ⟨⟨d, fl⟩, E1, S1, h1, q⟩ := bnd_ok q
      have rest : ∀ xs E2 S2, evs P M.call M.make b E1 S1 = some (.ok xs, E2, S2) → xs.length = es.length := fun xs E2 S2 z => evs_lenA es b n hb _ _ _ _ _ z
      cases fl with
      | v =>
        obtain ⟨xs, E2, S2, h2, q⟩ := bnd_ok q
        cases q
        simp [rest xs _ _ h2]
      | f =>
        obtain ⟨xs, E2, S2, h2, q⟩ := bnd_ok q
        cases q
        simp [rest xs _ _ h2]
      | p =>
        cases b with
        | nil =>
          cases q
          rw [nilA_of hb]
          rfl
        | cons => cases q
        | star => cases q
    · cases h
theorem nilD_of {es : List Expr} {n : Nat} (h : cDs n cc sc es = some .nil) : es = [] := by
  cases es with
  | nil => rfl
  | cons e es =>
    cases n with
    | zero => simp [cDs] at h
    | succ n => cases e <;> simp only [cDs] at h <;> split at h <;> cases h
theorem evs_lenD : ∀ (es : List Expr) (cs : CEs) (n : Nat), cDs n cc sc es = some cs → ∀ E S l E' S', evs P M.call M.make cs E S = some (.ok l, E', S') → l.length ≤ LIM + es.length
  | [], cs, n, h, E, S, l, E', S', q => by
    unfold cDs at h
    cases h
    simp only [evs] at q
    cases q
    exact Nat.zero_le _
  | e :: es, cs, 0, h, E, S, l, E', S', q => by simp [cDs] at h
  | e :: es, cs, n + 1, h, E, S, l, E', S', q => by
    have key : ∀ a b, cDs n cc sc es = some b → (cs = .cons a b ∨ cs = .star a b) → l.length ≤ LIM + (e :: es).length := by
      intro a b hb hcs
      have rest : ∀ xs E1 S1 E2 S2, evs P M.call M.make b E1 S1 = some (.ok xs, E2, S2) → xs.length ≤ LIM + es.length := fun xs E1 S1 E2 S2 z => evs_lenD es b n hb _ _ _ _ _ z
      rcases hcs with rfl | rfl
      · simp only [evs] at q
        obtain ⟨⟨d, fl⟩, E1, S1, h1, q⟩ := bnd_ok q
        cases fl with
        | v =>
          obtain ⟨xs, E2, S2, h2, q⟩ := bnd_ok q
          cases q
          have := rest xs _ _ _ _ h2
          simp only [List.length_cons]; omega
        | f =>
          obtain ⟨xs, E2, S2, h2, q⟩ := bnd_ok q
          cases q
          have := rest xs _ _ _ _ h2
          simp only [List.length_cons]; omega
        | p =>
          cases b with
          | nil => cases q; simp only [List.length_cons, List.length_nil]; omega
          | cons => cases q
          | star => cases q
      · simp only [evs] at q
        obtain ⟨x, E1, S1, h1, q⟩ := bnd_ok q
        obtain ⟨its, hi, q⟩ := opt_ok q
        obtain ⟨xs, E2, S2, h2, q⟩ := bnd_ok q
        split at q
        · cases q
          simp only [List.length_append, List.length_map]; omega
        · cases q
    cases e <;> simp only [cDs] at h <;> split at h <;> first | (cases h; done) | skip
    all_goals
      rename_i a b ha hb
      cases h
      first | exact key _ _ hb (.inl rfl) | exact key _ _ hb (.inr rfl)
theorem kw_each (env : PySem.Env) : ∀ (kws : List PySem.Keyword) (ks : List String) (cs : CEs) (n : Nat), cKs n cc sc kws = some (ks, cs) → (PySem.backToKw pos (PySem.keywordEach kws env)).all (·.1.isSome) = true ∧ (PySem.backToKw pos (PySem.keywordEach kws env)).filterMap (·.1) = ks.map sx ∧ (PySem.backToKw pos (PySem.keywordEach kws env)).any (·.1.isNone) = false
  | [], ks, cs, n, h => by unfold cKs at h; cases h; exact ⟨rfl, rfl, rfl⟩
  | kw :: kws, ks, cs, 0, h => by simp [cKs] at h
  | ⟨none, e, q⟩ :: kws, ks, cs, n + 1, h => by simp [cKs] at h
  | ⟨some x, e, q⟩ :: kws, ks, cs, n + 1, h => by
    simp only [cKs] at h
    split at h
    · rename_i x' a xs b h1 h2 h3
      cases h
      obtain ⟨i1, i2, i3⟩ := kw_each env kws xs b n h3
      obtain rfl := nm_sx h1
      refine ⟨?_, ?_, ?_⟩
      · show (true && (PySem.backToKw pos (PySem.keywordEach kws env)).all (·.1.isSome)) = true
        rw [i1]; rfl
      · show sx x' :: (PySem.backToKw pos (PySem.keywordEach kws env)).filterMap (·.1) = _
        rw [i2]; rfl
      · show (false || (PySem.backToKw pos (PySem.keywordEach kws env)).any (·.1.isNone)) = false
        rw [i3]; rfl
    · cases h
theorem form_ok {es : List Expr} (env : PySem.Env) (h : es.any isStar = false) (hl : es.length < 29) : PySem.methodCallForm (es.length + 0) (PySem.backTo pos (PySem.starEach es env)) (PySem.backToKw pos (PySem.keywordEach [] env)) = true := by
  have s := star_all (pos := pos) env es h
  unfold PySem.methodCallForm
  have e1 : (PySem.backTo pos (PySem.starEach es env)).all (fun x => !x.1) = true := by
    rw [List.all_eq_true]
    intro x hx
    have := List.any_eq_false.mp s x hx
    simpa using this
  rw [e1]
  have e2 : PySem.backToKw pos (PySem.keywordEach [] env) = [] := rfl
  rw [e2]
  simp
  omega
theorem call_stars {es : List Expr} (h : es.any isStar = false) (env : PySem.Env) : ∀ e r, es = e :: r → PySem.starEach (e :: r) env = (false, PySem.eval e env) :: PySem.starEach r env ∧ (PySem.backTo pos (PySem.starEach r env)).any (·.1) = false := by
  rintro e r rfl
  rw [List.any_cons, Bool.or_eq_false_iff] at h
  exact ⟨star_one env h.1, star_all env r h.2⟩
theorem no_super {e : Expr} (env : PySem.Env) (x : Str) (h : ∀ y p q, e ≠ .Call (.Name y p) [] [] q) : PySem.attributeBase e x env (PySem.eval e env) = PySem.eval e env := by
  unfold PySem.attributeBase
  split
  · exact absurd rfl (h _ _ _)
  · rfl
theorem no_call0 {e : Expr} (h : isCall0 e = false) : ∀ y p q, e ≠ .Call (.Name y p) [] [] q := by
  rintro y p q rfl
  simp [isCall0] at h
theorem plain_ix {e : Expr} (h : isSlice e = false) : L2.PlainIx e := by
  intro o i
  cases e <;> first | (simp [isSlice] at h; done) | rfl

/-- what one step of the compiler's fuel gives -/
structure Snd (P : Prg) (M : CM) (cad : String → Option Addr) (k : Nat) (cc : Cc) (n : Nat) : Prop where
  e : ∀ {X : L2.Cx} {sc : PySem.Scope} {e : Expr} {c : CE}, Gd P M cad k cc sc X → cE n cc sc e = some c → SoundE P M cad X e c
  t : ∀ {X : L2.Cx} {sc : PySem.Scope} {e : Expr} {c : CE}, Gd P M cad k cc sc X → cE n cc sc e = some c → SoundT P M cad X e c
  a : ∀ {X : L2.Cx} {sc : PySem.Scope} {es : List Expr} {cs : CEs}, Gd P M cad k cc sc X → cEs n cc sc es = some cs → SoundA P M cad X es cs
  fa : ∀ {X : L2.Cx} {sc : PySem.Scope} {es : List Expr} {cs : CEs}, Gd P M cad k cc sc X → cAs n cc sc es = some cs → SoundA P M cad X es cs
  d : ∀ {X : L2.Cx} {sc : PySem.Scope} {es : List Expr} {cs : CEs}, Gd P M cad k cc sc X → cDs n cc sc es = some cs → SoundA P M cad X es cs
  dp : ∀ {X : L2.Cx} {sc : PySem.Scope} {ks : List (Option Expr)} {vs : List Expr} {cs : CEs} {pos : Pos}, Gd P M cad k cc sc X → cDp n cc sc ks vs = some cs → SoundP P M cad X pos ks vs cs ∧ ks.all (·.isSome) = true
  kw : ∀ {X : L2.Cx} {sc : PySem.Scope} {kws : List PySem.Keyword} {ks : List String} {cs : CEs}, Gd P M cad k cc sc X → cKs n cc sc kws = some (ks, cs) → SoundK P M cad X kws cs
  o : ∀ {X : L2.Cx} {sc : PySem.Scope} {e : Option Expr} {c : CE}, Gd P M cad k cc sc X → cO n cc sc e = some c → SoundO P M cad X e c
  f : ∀ {X : L2.Cx} {sc : PySem.Scope} {es : List Expr} {cs : CEs}, Gd P M cad k cc sc X → cIf n cc sc es = some cs → L2.PTs X es (aC P M X.K cad cs)
  b : ∀ {X : L2.Cx} {sc : PySem.Scope} {op : PySem.BoolOp} {es : List Expr} {c : CE} {pos : Pos}, Gd P M cad k cc sc X → cB n cc sc op es = some c → SoundE P M cad X (.BoolOp op es pos) c ∧ SoundW P M cad X (.BoolOp op es pos) c
  i : ∀ {X : L2.Cx} {sc : PySem.Scope} {tg e : Expr} {c : CI}, Gd P M cad k cc sc X → cI n cc sc tg e = some c → SoundI P M cad X tg e c ∧ ∀ a b c, e ≠ .Set a b c
theorem snd_zero : Snd P M cad k cc 0 := by
  refine ⟨fun _ h => by simp [cE] at h, fun _ h => by simp [cE] at h, fun {X sc es cs} g h => ?_, fun {X sc es cs} g h => ?_, fun {X sc es cs} g h => ?_, fun {X sc ks vs cs pos} g h => ?_, fun {X sc kws ks cs} g h => ?_, fun {X sc e c} g h => ?_, fun {X sc es cs} g h => ?_, fun _ h => by simp [cB] at h, fun _ h => by simp [cI] at h⟩
  · cases es with
    | nil => simp only [cEs] at h; cases h; exact s_nil
    | cons => simp [cEs] at h
  · cases es with
    | nil => simp only [cAs] at h; cases h; exact s_nil
    | cons => simp [cAs] at h
  · cases es with
    | nil => simp only [cDs] at h; cases h; exact s_nil
    | cons => simp [cDs] at h
  · cases ks with
    | nil =>
      cases vs with
      | nil => simp only [cDp] at h; cases h; exact ⟨sp_nil, rfl⟩
      | cons => simp [cDp] at h
    | cons => simp [cDp] at h
  · cases kws with
    | nil => simp only [cKs] at h; cases h; exact sk_nil
    | cons => simp [cKs] at h
  · cases e with
    | none => simp only [cO] at h; cases h; exact s_noPart
    | some e => simp [cO] at h
  · cases es with
    | nil => simp only [cIf] at h; cases h; exact any_C0
    | cons => simp [cIf] at h
theorem cI_noset {n : Nat} {ci : CI} (h : cI n cc sc tg e = some ci) : ∀ a b c, e ≠ .Set a b c := by
  rintro a b c rfl
  cases n with
  | zero => simp [cI] at h
  | succ n => simp [cI] at h
theorem s_el {n : Nat} (g : Gd P M cad k cc sc X) (ih : Snd P M cad k cc n) (h : (match ownIt cc sc e with | some i => some (.frz i) | none => cE n cc sc e) = some c) : SoundE P M cad X e c := by
  split at h
  · rename_i i hi
    cases h
    obtain ⟨x, p, rfl, h1, h2, h3⟩ := own_it hi
    exact s_frz g h1 h2 h3
  · exact ih.e g h
theorem seq_walk {n : Nat} (g : Gd P M cad k cc sc X) (ih : Snd P M cad k cc n) {ci : CI} (h : (cE n cc sc e).map CI.seq = some ci) : SoundI P M cad X tg e ci := by
  obtain ⟨a, ha, rfl⟩ := Option.map_eq_some_iff.mp h
  exact s_seq g (ih.e g ha)
theorem snd_succ {n : Nat} (ih : Snd P M cad k cc n) : Snd P M cad k cc (n + 1) := by
  have both : ∀ {X : L2.Cx} {sc : PySem.Scope} {e : Expr} {c : CE}, Gd P M cad k cc sc X → cE (n + 1) cc sc e = some c → SoundE P M cad X e c ∧ SoundT P M cad X e c := by
    intro X sc e c g h
    have pl : ∀ {e : Expr} {c : CE}, SoundE P M cad X e c → (∀ whole : PySem.Sem Value, PySem.isTrue e X.env whole = (do let v ← whole; PySem.standAt e.pos; PySem.holding [v] (PySem.truthy v))) →
        ((∀ E S, tst P M.call M.make c E S = (bnd (ev P M.call M.make c E S) fun x E S => opt (truth x.1) fun b => some (.ok b, E, S))) ∨ (∀ E S, tst P M.call M.make c E S = none)) → SoundE P M cad X e c ∧ SoundT P M cad X e c := by
      intro e c h1 h2 h3
      refine ⟨h1, ?_⟩
      rcases h3 with h3 | h3
      · exact plain_T h1 h2 fun E S r q => by rw [h3] at q; exact q
      · exact none_T h3
    simp only [cE] at h
    split at h
    -- a constant
    · split at h
      · cases h
        exact pl (s_const L2.pe_non (fun _ _ _ => by simp only [Rep])) (fun _ => rfl) (.inl fun E S => by simp only [tst])
      · cases h
        exact pl (s_const L2.pe_bl (fun _ _ _ => by simp only [Rep])) (fun _ => rfl) (.inl fun E S => by simp only [tst])
      · cases h
        exact pl (s_const L2.pe_int (fun _ _ _ => by simp only [Rep])) (fun _ => rfl) (.inl fun E S => by simp only [tst])
      · cases h
        exact pl (s_const L2.pe_str (fun _ _ _ => by simp only [Rep]; rfl)) (fun _ => rfl) (.inl fun E S => by simp only [tst])
      · cases h
    -- a name
    · split at h
      · rename_i ho
        split at h
        · rename_i hv
          obtain ⟨i, hi, rfl⟩ := Option.map_eq_some_iff.mp h
          exact pl (s_loc g (ix_get hi) hv ho) (fun _ => rfl) (.inl fun E S => by simp only [tst])
        · split at h
          · rename_i hv
            obtain ⟨y, hy, rfl⟩ := Option.map_eq_some_iff.mp h
            exact pl (s_glob g hy hv ho) (fun _ => rfl) (.inl fun E S => by simp only [tst])
          · cases h
      · cases h
    -- a binary operation
    · split at h
      · rename_i h1 h2 h3
        cases h
        exact pl (s_bin g h1 (ih.e g h2) (ih.e g h3)) (fun _ => rfl) (.inl fun E S => by simp only [tst])
      · cases h
    · obtain ⟨a, ha, rfl⟩ := Option.map_eq_some_iff.mp h
      exact pl (s_neg g (ih.e g ha)) (fun _ => rfl) (.inl fun E S => by simp only [tst])
    · obtain ⟨a, ha, rfl⟩ := Option.map_eq_some_iff.mp h
      exact ⟨s_notV g (ih.e g ha), s_notT (ih.t g ha)⟩
    · obtain ⟨q1, q2⟩ := ih.b g h
      exact ⟨q1, fun W E S t E' S' z => pt_of_pw (q2 W E S t E' S' z)⟩
    · split at h
      · cases h
      · rename_i hm
        split at h
        · rename_i h1 h2
          cases h
          exact s_cmp (cop_eqC cc.fix _ _) g (by simpa using hm) (ih.e g h1) (ih.e g h2)
        · cases h
    · split at h
      · cases h
      · rename_i hm
        split at h
        · rename_i h1 h2 h3
          cases h
          exact s_chain g (by simpa using hm) (ih.e g h1) (ih.e g h2) (ih.e g h3)
        · cases h
    · split at h
      · rename_i h1 h2 h3
        cases h
        exact ⟨s_ife g (ih.t g h1) (ih.e g h2) (ih.e g h3), none_T fun E S => by simp only [tst]⟩
      · cases h
    · split at h
      · rename_i hl
        obtain ⟨a, ha, rfl⟩ := Option.map_eq_some_iff.mp h
        exact pl (s_tup hl (fun W => evs_lenD _ _ _ ha) (ih.d g ha)) (fun _ => rfl) (.inl fun E S => by simp only [tst])
      · cases h
    · split at h
      · rename_i hl
        obtain ⟨a, ha, rfl⟩ := Option.map_eq_some_iff.mp h
        exact pl (s_lst hl (fun W => evs_lenD _ _ _ ha) (ih.d g ha)) (fun _ => rfl) (.inl fun E S => by simp only [tst])
      · cases h
    · cases h
      exact pl s_dct (fun _ => rfl) (.inr fun E S => by simp only [tst])
    · split at h
      · rename_i h1 h2 h3
        cases h
        exact pl (s_dcs (ih.e g h1) (ih.e g h2) (ih.e g h3)) (fun _ => rfl) (.inr fun E S => by simp only [tst])
      · cases h
    · rename_i ks vs pos0 hn hn2
      split at h
      · rename_i hl
        rw [Bool.and_eq_true, beq_iff_eq, decide_eq_true_eq] at hl
        obtain ⟨c1, h1, h⟩ := Option.bind_eq_some_iff.mp h
        obtain ⟨d1, d2⟩ := ih.dp (pos := pos0) g h1
        have hks : ks ≠ [] := fun z => by
          subst z
          have : vs = [] := List.length_eq_zero_iff.mp hl.1.symm
          subst this
          exact hn rfl rfl
        cases c1 with
        | nil => cases h
        | cons a b =>
          cases h
          exact pl (s_dctp d1 d2 hl.1 hks hl.2 (by simp)) (fun _ => rfl) (.inr fun E S => by simp only [tst])
        | star a b =>
          cases h
          exact pl (s_dctp d1 d2 hl.1 hks hl.2 (by simp)) (fun _ => rfl) (.inr fun E S => by simp only [tst])
      · cases h
    · split at h
      · cases h
      · rename_i h0
        rw [Bool.not_eq_true] at h0
        split at h
        · rename_i h1 h2
          split at h
          · rename_i hm
            cases h
            exact pl (s_prop g h2 (by simpa using hm) (no_super _ _ (no_call0 h0)) (ih.e g h1)) (fun _ => rfl) (.inl fun E S => by simp only [tst])
          · cases h
            exact pl (s_attr g h2 (no_super _ _ (no_call0 h0)) (ih.e g h1)) (fun _ => rfl) (.inl fun E S => by simp only [tst])
        · cases h
    · split at h
      · rename_i h1 h2 h3
        cases h
        exact pl (s_sl g (ih.e g h1) (ih.o g h2) (ih.o g h3)) (fun _ => rfl) (.inl fun E S => by simp only [tst])
      · cases h
    · split at h
      · rename_i h1 h2 h3
        cases h
        exact pl (s_sls h2 h3 (ih.e g h1)) (fun _ => rfl) (.inr fun E S => by simp only [tst])
      · cases h
    · split at h
      · cases h
      · rename_i hs
        split at h
        · rename_i h1 h2
          cases h
          exact pl (s_idx g (plain_ix (by simpa using hs)) (ih.e g h1) (ih.e g h2)) (fun _ => rfl) (.inl fun E S => by simp only [tst])
        · cases h
    -- a call without arguments
    · split at h
      · rename_i hc
        rw [Bool.and_eq_true] at hc
        split at h
        · rename_i hf
          split at h
          · rename_i hm
            rw [Bool.and_eq_true] at hm
            cases h
            exact pl (s_mk0 g hf hc.2 hc.1 (by simpa using hm.1)) (fun _ => rfl) (.inr fun E S => by simp only [tst])
          · cases h
        · cases h
      · cases h
    -- a call
    · split at h
      · rename_i hc
        simp only [Bool.and_eq_true, Bool.not_eq_true'] at hc
        obtain ⟨⟨ho, hg⟩, hne⟩ := hc
        split at h
        · rename_i hf _
          split at h
          · cases h
          · obtain ⟨a, ha, rfl⟩ := Option.map_eq_some_iff.mp h
            have hf' := nm_sx hf
            subst hf'
            exact pl (s_rpr g hg (star_of ha) (ih.e g ha)) (fun _ => rfl) (.inr fun E S => by simp only [tst])
        · rename_i hf _
          split at h
          · rename_i hc2
            rw [Bool.and_eq_true] at hc2
            split at h
            · rename_i h1 h2
              split at h
              · rename_i ht
                cases h
                refine pl (s_isi g (nm_sx hf) hg h2 hc2.2 hc2.1 (.inl ⟨rfl, by simpa using ht⟩) (star_one _ (star_of h1)) (ih.e g h1)) (fun _ => rfl) (.inl fun E S => by simp only [tst])
              · split at h
                · rename_i ht
                  cases h
                  refine pl (s_isi g (nm_sx hf) hg h2 hc2.2 hc2.1 (.inr ⟨rfl, by simpa using ht⟩) (star_one _ (star_of h1)) (ih.e g h1)) (fun _ => rfl) (.inl fun E S => by simp only [tst])
                · cases h
            · cases h
          · cases h
        · rename_i hf _ _ _
          split at h
          · rename_i hbl
            rw [Bool.and_eq_true, Bool.and_eq_true] at hbl
            obtain ⟨cs, hcs, rfl⟩ := Option.map_eq_some_iff.mp h
            have hs := fun q : Pos => call_stars (pos := q) (stars_of hcs) X.env
            have hne' := fun z => (Bool.eq_false_iff.mp hne) (List.isEmpty_iff.mpr z)
            exact pl (s_bi g hf hg ho (by simpa using hbl.1.1) hne' (hs _) (ih.a g hcs)) (fun _ => rfl) (.inl fun E S => by simp only [tst])
          · split at h
            · rename_i cs hcs
              have hs := fun q : Pos => call_stars (pos := q) (starsA_of hcs) X.env
              have hne' := fun z => (Bool.eq_false_iff.mp hne) (List.isEmpty_iff.mpr z)
              split at h
              · rename_i hd
                cases h
                exact pl (s_call g hf hg ho (by simpa using hd) hne' (hs _) (ih.fa g hcs)) (fun _ => rfl) (.inl fun E S => by simp only [tst])
              · split at h
                · rename_i hd
                  cases h
                  exact pl (s_make g hf hg ho (by simpa using hd) hne' (hs _) (ih.fa g hcs)) (fun _ => rfl) (.inr fun E S => by simp only [tst])
                · cases h
            · cases h
        · cases h
      · cases h
    -- a call by name
    · split at h
      · rename_i hc
        rw [Bool.and_eq_true] at hc
        split at h
        · rename_i hf h1 h2
          have hs := starsA_of h1
          have hpl : ∀ q : Pos, ∀ es' : List Expr, es'.any isStar = false → (PySem.backTo q (PySem.starEach es' X.env)).any (·.1) = false := fun q es' h => star_all X.env es' h
          split at h
          · rename_i hk
            split at h
            · rename_i hd
              cases h
              refine pl (s_callk g hf hc.2 hc.1 (by simpa using hd) (by simpa using hk) (fun z => by subst z; unfold cAs at h1; cases h1; rfl) (fun W => evs_lenA _ _ _ h1) (fun e r z => by subst z; rw [List.any_cons, Bool.or_eq_false_iff] at hs; exact star_one _ hs.1) (kw_each X.env _ _ _ _ h2).1 (kw_each X.env _ _ _ _ h2).2.1 ?_ (ih.fa g h1) (ih.kw g h2)) (fun _ => rfl) (.inl fun E S => by simp only [tst])
              rw [hpl _ _ hs, (kw_each X.env _ _ _ _ h2).2.2]; rfl
            · split at h
              · rename_i hd
                cases h
                refine pl (s_makek g hf hc.2 hc.1 (by simpa using hd) (by simpa using hk) (fun z => by subst z; unfold cAs at h1; cases h1; rfl) (fun W => evs_lenA _ _ _ h1) (fun e r z => by subst z; rw [List.any_cons, Bool.or_eq_false_iff] at hs; exact star_one _ hs.1) (kw_each X.env _ _ _ _ h2).1 (kw_each X.env _ _ _ _ h2).2.1 ?_ (ih.fa g h1) (ih.kw g h2)) (fun _ => rfl) (.inr fun E S => by simp only [tst])
                rw [hpl _ _ hs, (kw_each X.env _ _ _ _ h2).2.2]; rfl
              · cases h
          · cases h
        · cases h
      · cases h
    -- a method
    · split at h
      · rename_i hc
        rw [Bool.and_eq_true, Bool.and_eq_true, decide_eq_true_eq, Bool.not_eq_true'] at hc
        obtain ⟨hc, h0⟩ := hc
        split at h
        · rename_i h1 hm h2
          split at h
          · rename_i hmt
            cases h
            have hs := starsA_of h2
            exact pl (s_meth g hm (by simpa using hmt) (no_super _ _ (no_call0 h0)) hc.1 (fun z => by subst z; unfold cAs at h2; cases h2; rfl) (form_ok _ hs hc.2) (call_stars hs X.env) (ih.e g h1) (ih.fa g h2)) (fun _ => rfl) (.inl fun E S => by simp only [tst])
          · split at h
            · rename_i hmm
              cases h
              have hs := starsA_of h2
              exact pl (s_bm g hm (by simpa using hmm) (no_super _ _ (no_call0 h0)) hc.1 hc.2 (fun z => by subst z; unfold cAs at h2; cases h2; rfl) hs (ih.e g h1) (ih.fa g h2) (evs_lenA _ _ _ h2)) (fun _ => rfl) (.inr fun E S => by simp only [tst])
            · cases h
        · cases h
      · cases h
    -- a comprehension of two clauses
    · split at h
      · rename_i h1 h2 h3 h4 h5 h6 h7
        split at h
        · rename_i hb
          cases h
          rw [Bool.and_eq_true] at hb
          obtain ⟨i1, i2⟩ := ih.i g h2
          refine pl (s_lc2 g hb.1 (by simpa using hb.2) i1 (fun s H C cl fp => any_G (g_sound (g.blk s H C cl fp) _ _ _ h1)) (fun s H C cl fp => ih.f (g.blk s H C cl fp) h3) (fun s H C cl fp => any_I (ih.i (g.blk s H C cl fp) h5).1) (fun s H C cl fp => any_G (g_sound (g.blk s H C cl fp) _ _ _ h4)) (fun s H C cl fp => ih.f (g.blk s H C cl fp) h6) (fun s H C cl fp => any_E (ih.e (g.blk s H C cl fp) h7)) i2 (cI_noset h5)) (fun _ => rfl) (.inr fun E S => by simp only [tst])
        · cases h
      · cases h
    -- a comprehension
    · split at h
      · rename_i hown
        unfold ownIt at hown
        split at hown
        · split at hown
          · rename_i hx
            rw [Bool.and_eq_true] at hx
            obtain ⟨i, hi, hown⟩ := Option.bind_eq_some_iff.mp hown
            split at hown
            · cases hown
              split at h
              · rename_i h1 h3 h4
                split at h
                · rename_i hb
                  cases h
                  rw [Bool.and_eq_true] at hb
                  exact pl (s_lco g (ix_get hi) hx.2 hx.1 hb.1 (by simpa using hb.2) (fun s H C cl fp => any_G (g_sound (g.blk s H C cl fp) _ _ _ h1)) (fun s H C cl fp => ih.f (g.blk s H C cl fp) h3) (fun s H C cl fp => any_E (ih.e (g.blk s H C cl fp) h4))) (fun _ => rfl) (.inr fun E S => by simp only [tst])
                · cases h
              · cases h
            · cases hown
          · cases hown
        · cases hown
      · split at h
        · rename_i h1 h2 h3 h4
          split at h
          · rename_i hb
            cases h
            rw [Bool.and_eq_true] at hb
            obtain ⟨i1, i2⟩ := ih.i g h2
            refine pl (s_lc g hb.1 (by simpa using hb.2) i1 (fun s H C cl fp => any_G (g_sound (g.blk s H C cl fp) _ _ _ h1)) (fun s H C cl fp => ih.f (g.blk s H C cl fp) h3) (fun s H C cl fp => any_E (ih.e (g.blk s H C cl fp) h4)) i2) (fun _ => rfl) (.inl fun E S => by simp only [tst])
          · cases h
        · cases h
    · cases h
  refine ⟨fun g h => (both g h).1, fun g h => (both g h).2, fun {X sc es cs} g h => ?_, fun {X sc es cs} g h => ?_, fun {X sc es cs} g h => ?_, fun {X sc ks vs cs pos} g h => ?_, fun {X sc kws ks cs} g h => ?_, fun {X sc e c} g h => ?_, fun {X sc es cs} g h => ?_, fun {X sc op es c pos} g h => ?_, fun {X sc tg e c} g h => ?_⟩
  · cases es with
    | nil => simp only [cEs] at h; cases h; exact s_nil
    | cons e es =>
      simp only [cEs] at h
      split at h
      · rename_i a b h1 h2
        cases h
        exact s_cons (star_one _ (star_of h1)) (fun z => by subst z; exact nil_of h2) (ih.e g h1) (ih.a g h2)
      · cases h
  · cases es with
    | nil => simp only [cAs] at h; cases h; exact s_nil
    | cons e es =>
      simp only [cAs] at h
      split at h
      · rename_i a b h1 h2
        cases h
        exact s_cons (star_one _ (star_el h1)) (fun z => by subst z; exact nilA_of h2) (s_el g ih h1) (ih.fa g h2)
      · cases h
  · cases es with
    | nil => simp only [cDs] at h; cases h; exact s_nil
    | cons e es =>
      have plain : ∀ a b, (match ownIt cc sc e with | some i => some (.frz i) | none => cE n cc sc e) = some a → cDs n cc sc es = some b → SoundA P M cad X (e :: es) (.cons a b) := fun a b h1 h2 => s_cons (star_one _ (star_el h1)) (fun z => by subst z; exact nilD_of h2) (s_el g ih h1) (ih.d g h2)
      cases e <;> simp only [cDs] at h <;> split at h <;> first | (cases h; done) | skip
      all_goals
        rename_i a b h1 h2
        cases h
        first | exact plain _ _ h1 h2 | exact s_star (ih.d g h2) (ih.e g h1)
  · cases ks with
    | nil =>
      cases vs with
      | nil => simp only [cDp] at h; cases h; exact ⟨sp_nil, rfl⟩
      | cons => simp [cDp] at h
    | cons k0 ks =>
      cases k0 with
      | none => simp [cDp] at h
      | some k0 =>
        cases vs with
        | nil => simp [cDp] at h
        | cons v0 vs =>
          simp only [cDp] at h
          split at h
          · rename_i h1 h2 h3
            cases h
            obtain ⟨d1, d2⟩ := ih.dp (pos := pos) g h3
            exact ⟨sp_cons (ih.e g h1) (ih.e g h2) d1, by simpa using d2⟩
          · cases h
  · cases kws with
    | nil => simp only [cKs] at h; cases h; exact sk_nil
    | cons kw kws =>
      obtain ⟨x, e, q⟩ := kw
      cases x with
      | none => simp [cKs] at h
      | some x =>
        simp only [cKs] at h
        split at h
        · rename_i h1 h2 h3
          cases h
          exact sk_cons (ih.e g h2) (ih.kw g h3)
        · cases h
  · cases e with
    | none => simp only [cO] at h; cases h; exact s_noPart
    | some e =>
      simp only [cO] at h
      split at h
      · cases h
      · rename_i hn
        exact s_part (fun z => by subst z; exact hn h) (ih.e g h)
  · cases es with
    | nil => simp only [cIf] at h; cases h; exact any_C0
    | cons e es =>
      cases es with
      | nil =>
        simp only [cIf] at h
        obtain ⟨a, ha, rfl⟩ := Option.map_eq_some_iff.mp h
        exact any_C1 (ih.t g ha)
      | cons => simp [cIf] at h
  · cases es with
    | nil => simp [cB] at h
    | cons a es =>
      cases es with
      | nil =>
        simp only [cB] at h
        refine ⟨fun W E S d fl E' S' z => ?_, fun W E S t E' S' z => ?_⟩
        · exact L2.pe_one (ih.e g h W E S d fl E' S' z)
        · cases op
          · exact L2.pw_and1 (ih.t g h W E S t E' S' z)
          · exact L2.pw_or1 (ih.t g h W E S t E' S' z)
      | cons b r =>
        simp only [cB] at h
        split at h
        · rename_i x y h1 h2
          cases h
          obtain ⟨q1, q2⟩ := ih.b (pos := pos) g h2
          cases op
          · exact ⟨s_andE g (ih.e g h1) q1, s_andT (ih.t g h1) q2⟩
          · exact ⟨s_orE g (ih.e g h1) q1, s_orT (ih.t g h1) q2⟩
        · cases h
  · simp only [cI] at h
    split at h
    · rename_i f p a pos
      split at h
      · rename_i hr
        rw [Bool.and_eq_true] at hr
        split at h
        · cases h
        · rename_i hs
          obtain ⟨c1, h1, rfl⟩ := Option.map_eq_some_iff.mp h
          have e1 : f = ("range" : Str) := beq_iff_eq.mp hr.1
          subst e1
          exact ⟨s_rng g hr.2 (by simpa using hs) (ih.e g h1), fun _ _ _ z => by cases z⟩
      · split at h
        · rename_i hr
          rw [Bool.and_eq_true] at hr
          split at h
          · cases h
          · rename_i hs
            obtain ⟨c1, h1, rfl⟩ := Option.map_eq_some_iff.mp h
            have e1 : f = ("enumerate" : Str) := beq_iff_eq.mp hr.1
            subst e1
            simp only [Bool.or_eq_true, Bool.not_eq_true', not_or, Bool.not_eq_true, Bool.not_eq_false] at hs
            have ht : ∃ es kk tp, tg = Expr.Tuple es kk tp := by
              cases tg <;> first | (simp [isTup] at hs; done) | exact ⟨_, _, _, rfl⟩
            obtain ⟨es, kk, tp, rfl⟩ := ht
            exact ⟨s_enum g hr.2 hs.1 (ih.e g h1), fun _ _ _ z => by cases z⟩
        · exact ⟨seq_walk g ih h, fun _ _ _ z => by cases z⟩
    · rename_i o m apos cpos
      split at h
      · rename_i hc
        simp only [Bool.and_eq_true, Bool.not_eq_true'] at hc
        obtain ⟨⟨⟨ht, hm⟩, hl⟩, h0⟩ := hc
        have ht : ∃ es kk tp, tg = Expr.Tuple es kk tp := by
          cases tg <;> first | (simp [isTup] at ht; done) | exact ⟨_, _, _, rfl⟩
        obtain ⟨es, kk, tp, rfl⟩ := ht
        have e1 : m = ("items" : Str) := beq_iff_eq.mp hm
        subst e1
        refine ⟨?_, fun _ _ _ z => by cases z⟩
        split at h
        · rename_i i hi
          cases h
          obtain ⟨x, p, rfl, q1, q2, q3⟩ := own_it hi
          exact s_items (no_super _ _ (no_call0 h0)) hl (s_frz g q1 q2 q3)
        · obtain ⟨a, ha, rfl⟩ := Option.map_eq_some_iff.mp h
          exact s_items (no_super _ _ (no_call0 h0)) hl (ih.e g ha)
      · exact ⟨seq_walk g ih h, fun _ _ _ z => by cases z⟩
    · refine ⟨?_, fun _ _ _ z => by cases z⟩
      split at h
      · rename_i i hi
        cases h
        obtain ⟨x, p, ex, q1, q2, q3⟩ := own_it hi
        cases ex
        exact s_seq g (s_frz g q1 q2 q3)
      · exact seq_walk g ih h
    · rename_i f p a b pos
      split at h
      · rename_i hr
        rw [Bool.and_eq_true] at hr
        split at h
        · cases h
        · rename_i hs
          simp only [Bool.or_eq_true, not_or, Bool.not_eq_true] at hs
          split at h
          · rename_i h1 h2
            cases h
            have e1 : f = ("range" : Str) := beq_iff_eq.mp hr.1
            subst e1
            exact ⟨s_rng2 g hr.2 hs.1 hs.2 (ih.e g h1) (ih.e g h2), fun _ _ _ z => by cases z⟩
          · cases h
      · split at h
        · rename_i hr
          rw [Bool.and_eq_true] at hr
          split at h
          · cases h
          · rename_i hs
            simp only [Bool.or_eq_true, Bool.not_eq_true', not_or, Bool.not_eq_true, Bool.not_eq_false] at hs
            split at h
            · rename_i h1 h2
              cases h
              have e1 : f = ("zip" : Str) := beq_iff_eq.mp hr.1
              subst e1
              have ht : ∃ es kk tp, tg = Expr.Tuple es kk tp := by
                cases tg <;> first | (simp [isTup] at hs; done) | exact ⟨_, _, _, rfl⟩
              obtain ⟨es, kk, tp, rfl⟩ := ht
              exact ⟨s_zip g hr.2 hs.1.1 hs.1.2 (ih.e g h1) (ih.e g h2), fun _ _ _ z => by cases z⟩
            · cases h
        · exact ⟨seq_walk g ih h, fun _ _ _ z => by cases z⟩
    · cases h
    · rename_i h1 h2 h3
      exact ⟨seq_walk g ih h, fun a b c z => h3 a b c z⟩
theorem snd_all : ∀ n, Snd P M cad k cc n
  | 0 => snd_zero
  | n + 1 => snd_succ (snd_all n)
end
end Dk
end
/-! Snd17 -/
section
set_option linter.all false
set_option maxRecDepth 100000
set_option maxHeartbeats 1000000
/-! Assignment. -/
namespace Dk
open PySem (Str Addr Heap Value Shared sizeLine Expr Pos)
open L2 (V Hp HO upd Rd SqL SqT Key St VK TE PE PT PW PA PG PGs PI It)

section
variable {K : Kx} {P : Prg} {M : CM} {cad : String → Option Addr} {k : Nat} {cc : Cc} {sc isc : PySem.Scope} {X : L2.Cx} {W : Addr → Prop} {ρ ρ1 : List Addr} {Y Y1 : Addr → Prop} {E E' E1 E2 : Env} {S S' S1 S2 : Sto} {d d0 : D} {fl : Fl} {σ σ' : St} {H H0 H1 : Hp} {Q : VK} {e e1 e2 e3 tg : Expr} {es ifs : List Expr} {cs : CEs} {a b c : CE} {pos p tp : Pos} {n kk : Nat} {v : V}
abbrev Hnil : Hp := fun _ => none
theorem VRes.nil (r : VRes K cad W ρ Y E σ H0 H d v fl) : VRes K cad W ρ Y E σ Hnil H d v fl := r.base fun a h => by cases fl <;> rfl
theorem share' {d' : D} (h1 : one (d, fl) = some d') (r : VRes K cad W ρ Y E σ Hnil H d v fl) (ok : EOk K cad W ρ Y E S σ H) : ∃ Y', Post W ρ Y H ρ Y' H ∧ EOk K cad W ρ Y' E S σ H ∧ Rep K cad Y' ρ H d' v := by
  cases fl with
  | v => cases h1; exact ⟨Y, Post.refl, ok, r⟩
  | p => cases h1
  | f =>
    cases h1
    obtain ⟨p, rfl, c, x, w, m, _, o⟩ := r
    have hl : ∀ a, (Y a ∧ a ≠ p) → Y a := fun a h => h.1
    refine ⟨fun a => Y a ∧ a ≠ p, ⟨self_pre, fun _ h => .inl h, go_less hl, fun _ _ _ e => e, fun _ e => e⟩, ?_, Cont.rep (c.mono (go_less hl) self_pre (fun _ q => q)) (fun h => h.2 rfl)⟩
    refine ok.less hl (fun a h => ⟨ok.wx a h, fun e => w (e ▸ h)⟩) (fun a h => ⟨(ok.cX a h).1, fun e => m (e ▸ h)⟩) fun i d q h1 h2 => ?_
    obtain ⟨p', h3, _, h4, _⟩ := ok.own i d h1
    rw [h2] at h3; cases h3
    exact ⟨h4, fun e => by subst e; exact o i d h1 h2⟩
/-- a new thing gets an own name -/
theorem EOk.putOwn (ok : EOk K cad W ρ Y E S σ H) {i : Nat} (r : VRes K cad W ρ Y E σ Hnil H d v .f) : EOk K cad W ρ Y (setE E i (d, true)) S (σ.set i (some v)) H := by
  obtain ⟨p, rfl, c, x, w, m, _, o⟩ := r
  have low : ∀ (j : Nat) (y : D × Bool), (setE E i (d, true))[j]? = some (some y) → (j = i ∧ y = (d, true) ∧ (σ.set i (some (V.ref p)))[j]? = some (some (V.ref p))) ∨ (j ≠ i ∧ E[j]? = some (some y) ∧ (σ.set i (some (V.ref p)))[j]? = σ[j]?) := by
    intro j y h
    unfold setE at h
    by_cases hij : i = j
    · subst hij
      have hi : i < E.length := by
        have := (List.getElem?_eq_some_iff.mp h).1
        rwa [List.length_set] at this
      rw [List.getElem?_set_self hi] at h
      cases h
      exact .inl ⟨rfl, rfl, List.getElem?_set_self (by rw [← ok.ln]; exact hi)⟩
    · rw [List.getElem?_set_ne hij] at h
      exact .inr ⟨fun z => hij z.symm, h, List.getElem?_set_ne hij⟩
  refine ⟨ok.toSOk, fun j d' h => ?_, fun j d' h => ?_, fun j1 j2 d1 d2 q hne h1 h2 s1 s2 => ?_, by unfold setE; rw [List.length_set, List.length_set]; exact ok.ln⟩
  · rcases low j _ h with ⟨_, z, _⟩ | ⟨_, z1, z2⟩
    · cases z
    · rw [z2]; exact ok.val j d' z1
  · rcases low j _ h with ⟨_, z, z2⟩ | ⟨_, z1, z2⟩
    · cases z
      exact ⟨p, z2, c, x, w, m⟩
    · rw [z2]; exact ok.own j d' z1
  · rcases low j1 _ h1 with ⟨a1, a2, a3⟩ | ⟨a1, a2, a3⟩ <;> rcases low j2 _ h2 with ⟨b1, b2, b3⟩ | ⟨b1, b2, b3⟩
    · exact hne (a1.trans b1.symm)
    · rw [a3] at s1; cases s1
      rw [b3] at s2
      exact o j2 d2 b2 s2
    · rw [b3] at s2; cases s2
      rw [a3] at s1
      exact o j1 d1 a2 s1
    · rw [a3] at s1; rw [b3] at s2
      exact ok.sep j1 j2 d1 d2 q hne a2 b2 s1 s2
/-- what an own name holds is changed -/
theorem EOk.own_set (ok : EOk K cad W ρ Y E S σ H) {i : Nat} {p : Addr} {o : HO} (hE : E[i]? = some (some (d0, true))) (hs : σ[i]? = some (some (V.ref p))) (hc : Cont K cad Y ρ (upd H p o) p d) :
    Post W ρ Y H ρ Y (upd H p o) ∧ EOk K cad W ρ Y (setE E i (d, true)) S σ (upd H p o) := by
  obtain ⟨q, h1, c, x, w, m⟩ := ok.own i d0 hE
  rw [hs] at h1; cases h1
  have g : Go Y H Y (upd H p o) := go_in x
  have low : ∀ (j : Nat) (y : D × Bool), (setE E i (d, true))[j]? = some (some y) → (j = i ∧ y = (d, true)) ∨ (j ≠ i ∧ E[j]? = some (some y)) := by
    intro j y h
    unfold setE at h
    by_cases hij : i = j
    · subst hij
      have hi : i < E.length := (List.getElem?_eq_some_iff.mp hE).1
      rw [List.getElem?_set_self hi] at h
      cases h
      exact .inl ⟨rfl, rfl⟩
    · rw [List.getElem?_set_ne hij] at h
      exact .inr ⟨fun z => hij z.symm, h⟩
  refine ⟨Post.touch w x, ⟨⟨ok.len, fun n o' q h1 h2 => ?_, ok.cX, ok.nd, ok.wx, fun a h => ?_⟩, fun j d' h => ?_, fun j d' h => ?_, fun j1 j2 d1 d2 q hne h1 h2 s1 s2 => ?_, by unfold setE; rw [List.length_set]; exact ok.ln⟩⟩
  · have hq : q ≠ p := fun z => m (z ▸ List.mem_of_getElem? h2)
    exact (ok.cells n o' q h1 h2).mono g self_pre fun o z => by rw [L2.upd_ne hq]; exact z
  · by_cases z : a = p
    · subst z; exact ⟨_, L2.upd_same⟩
    · obtain ⟨u, e⟩ := ok.dom a h; exact ⟨u, by rw [L2.upd_ne z]; exact e⟩
  · rcases low j _ h with ⟨_, z⟩ | ⟨_, z⟩
    · cases z
    · obtain ⟨v, a, b⟩ := ok.val j d' z; exact ⟨v, a, b.mono g self_pre⟩
  · rcases low j _ h with ⟨z1, z⟩ | ⟨z1, z⟩
    · cases z; subst z1
      exact ⟨p, hs, hc, x, w, m⟩
    · obtain ⟨q, a, b, c, e, f⟩ := ok.own j d' z
      have hq : q ≠ p := fun y => ok.sep j i d' d0 p z1 z hE (y ▸ a) hs
      exact ⟨q, a, b.mono g self_pre (fun o z => by rw [L2.upd_ne hq]; exact z), c, e, f⟩
  · have old : ∀ (j : Nat) (y : D), (setE E i (d, true))[j]? = some (some (y, true)) → ∃ y', E[j]? = some (some (y', true)) := by
      intro j y h
      rcases low j _ h with ⟨z1, z⟩ | ⟨z1, z⟩
      · subst z1; exact ⟨d0, hE⟩
      · exact ⟨y, z⟩
    obtain ⟨y1, a1⟩ := old j1 d1 h1
    obtain ⟨y2, a2⟩ := old j2 d2 h2
    exact ok.sep j1 j2 y1 y2 q hne a1 a2 s1 s2
theorem nodup_ix {l : List Addr} (nd : l.Nodup) {i j : Nat} {p : Addr} (hi : l[i]? = some p) (hj : l[j]? = some p) : i = j := by
  obtain ⟨h1, e1⟩ := List.getElem?_eq_some_iff.mp hi
  obtain ⟨h2, e2⟩ := List.getElem?_eq_some_iff.mp hj
  have pw := List.pairwise_iff_getElem.mp nd
  rcases Nat.lt_trichotomy i j with h | h | h
  · exact absurd (e1.trans e2.symm) (pw i j h1 h2 h)
  · exact h
  · exact absurd (e2.trans e1.symm) (pw j i h2 h1 h)
/-- a cell is changed -/
theorem EOk.cell_set (ok : EOk K cad W ρ Y E S σ H) {n : Nat} {p : Addr} {o : HO} {co : CO} (hp : ρ[n]? = some p) (hc : CellC K cad Y ρ (upd H p o) p co) :
    Post W ρ Y H ρ Y (upd H p o) ∧ EOk K cad W ρ Y E (S.set n co) σ (upd H p o) := by
  have hm := List.mem_of_getElem? hp
  obtain ⟨x, w⟩ := ok.cX p hm
  have g : Go Y H Y (upd H p o) := go_in x
  refine ⟨Post.touch w x, ⟨⟨by rw [List.length_set]; exact ok.len, fun n' o' q h1 h2 => ?_, ok.cX, ok.nd, ok.wx, fun a h => ?_⟩, fun j d' h => ?_, fun j d' h => ?_, ok.sep, ok.ln⟩⟩
  · by_cases hn : n = n'
    · subst hn
      rw [hp] at h2; cases h2
      have hi : n < S.length := by
        have := (List.getElem?_eq_some_iff.mp h1).1
        rwa [List.length_set] at this
      rw [List.getElem?_set_self hi] at h1
      cases h1
      exact hc
    · rw [List.getElem?_set_ne hn] at h1
      have hq : q ≠ p := by
        intro z
        subst z
        exact hn (nodup_ix ok.nd hp h2)
      exact (ok.cells n' o' q h1 h2).mono g self_pre fun o z => by rw [L2.upd_ne hq]; exact z
  · by_cases z : a = p
    · subst z; exact ⟨_, L2.upd_same⟩
    · obtain ⟨u, e⟩ := ok.dom a h; exact ⟨u, by rw [L2.upd_ne z]; exact e⟩
  · obtain ⟨v, a, b⟩ := ok.val j d' h; exact ⟨v, a, b.mono g self_pre⟩
  · obtain ⟨q, a, b, c, e, f⟩ := ok.own j d' h
    have hq : q ≠ p := fun z => f (z ▸ hm)
    exact ⟨q, a, b.mono g self_pre (fun o z => by rw [L2.upd_ne hq]; exact z), c, e, f⟩

/-! ### what is put -/
theorem repf_set {f : String} : ∀ {fs : List (String × D)} {gs : List (Str × V)}, RepF K cad Y ρ H fs gs → Rep K cad Y ρ H d v → RepF K cad Y ρ H (setF f d fs) (L2.putF (sx f) v gs)
  | [], gs, h, r => by
    simp only [RepF] at h
    subst h
    simp only [setF, L2.putF, RepF]
    exact ⟨v, [], rfl, r, rfl⟩
  | (g, x) :: fs, gs, h, r => by
    simp only [RepF] at h
    obtain ⟨w, gs', rfl, hw, q⟩ := h
    simp only [setF, L2.putF]
    by_cases hg : g = f
    · subst hg
      rw [if_pos rfl, if_pos rfl]
      simp only [RepF]
      exact ⟨v, gs', rfl, r, q⟩
    · rw [if_neg hg, if_neg (fun z => hg (sx_inj z))]
      simp only [RepF]
      exact ⟨w, _, rfl, hw, repf_set q r⟩
theorem repf_len : ∀ {fs : List (String × D)} {gs : List (Str × V)}, RepF K cad Y ρ H fs gs → gs.length = fs.length
  | [], gs, h => by simp only [RepF] at h; subst h; rfl
  | (g, x) :: fs, gs, h => by
    simp only [RepF] at h
    obtain ⟨w, gs', rfl, hw, q⟩ := h
    simp [repf_len q]
/-! ### targets of any kind -/
def rT (K : Kx) (cad : String → Option Addr) (W : Addr → Prop) (sl : List Nat) (x : D × Fl) (E : Env) (S : Sto) (E' : Env) (S' : Sto) : L2.TG := fun v σ H Q => ∃ ρ Y, EOk K cad W ρ Y E S σ H ∧ VRes K cad W ρ Y E σ Hnil H x.1 v x.2 ∧
  ∀ ρ' Y' H' σ', Post W ρ Y H ρ' Y' H' → EOk K cad W ρ' Y' E' S' σ' H' → (∀ i, i ∉ sl → σ'[i]? = σ[i]?) → Q σ' H'
def rTs (K : Kx) (cad : String → Option Addr) (W : Addr → Prop) (sl : List Nat) (l : List D) (E : Env) (S : Sto) (E' : Env) (S' : Sto) : L2.TGs := fun vs σ H Q => ∃ ρ Y, EOk K cad W ρ Y E S σ H ∧ Reps K cad Y ρ H l vs ∧
  ∀ ρ' Y' H' σ', Post W ρ Y H ρ' Y' H' → EOk K cad W ρ' Y' E' S' σ' H' → (∀ i, i ∉ sl → σ'[i]? = σ[i]?) → Q σ' H'
abbrev SoundTg (P : Prg) (M : CM) (cad : String → Option Addr) (X : L2.Cx) (own : List Nat) (e : Expr) (t : CT) : Prop := ∀ (W : Addr → Prop) (x : D × Fl) (E : Env) (S : Sto) (E' : Env) (S' : Sto), asgT P M.call M.make own t x E S = some (.ok (), E', S') → PG X e (rT X.K cad W (slT t) x E S E' S')
theorem asgN_cases {own : List Nat} {i : Nat} (h : asgN own i (d, fl) E = some E') : (fl = .f ∧ E' = setE E i (d, true)) ∨ ∃ d', one (d, fl) = some d' ∧ E' = setE E i (d', false) := by
  unfold asgN at h
  split at h
  · split at h
    · rename_i q; cases q; cases h; exact .inl ⟨rfl, rfl⟩
    · rename_i q; cases q; cases h; exact .inl ⟨rfl, rfl⟩
    · rename_i q; cases q; cases h; exact .inr ⟨_, rfl, rfl⟩
    · cases h
  · split at h
    · rename_i ho; cases h; exact .inr ⟨_, ho, rfl⟩
    · cases h
theorem tg_name {own : List Nat} {x : Str} {i : Nat} (g : Gd P M cad k cc sc X) (hl : locIn sc x = true) (hi : cc.N[i]? = some x) : SoundTg P M cad X own (.Name x pos) (.nm i) := by
  intro W y E S E' S' h
  obtain ⟨d, fl⟩ := y
  simp only [asgT] at h
  obtain ⟨l1, l2⟩ := g.loc x hl
  refine PG.sub (L2.pg_name (by rw [g.nm]; exact g.nd) (by rw [g.nm]; exact hi) l1 l2) fun v σ H Q z => ?_
  obtain ⟨ρ, Y, ok, r, q⟩ := z
  split at h
  · rename_i Ea hE
    cases h
    rcases asgN_cases hE with ⟨rfl, rfl⟩ | ⟨d', ho, rfl⟩
    · exact q _ _ _ _ Post.refl (ok.putOwn r) (fun j hj => List.getElem?_set_ne (by intro q; subst q; exact hj (by simp [slT])))
    · obtain ⟨Y', p', ok', r'⟩ := share' ho r ok
      exact q _ _ _ _ p' (ok'.put r') (fun j hj => List.getElem?_set_ne (by intro q; subst q; exact hj (by simp [slT])))
  · cases h
theorem pg_fld {o : Expr} {f : Str} {to : TE} (ho : PE X o to) : PG X (.Attribute o f pos) (fun v σ H Q => to σ H fun x H1 => ∃ a C dx fs, x = .ref a ∧ H1 a = some (.ins C dx fs) ∧ L2.Cls X.K C ∧ L2.NoAttr X.K C f ∧ fs.length < 1000 ∧ Q σ (upd H1 a (.ins C dx (L2.putF f v fs)))) := by
  constructor
  intro pins s σ H v u Q I r h
  show PySem.wpAny _ _ (do
    let ov ← PySem.holding [u] (PySem.eval o X.env)
    PySem.standAt pos.atName
    PySem.holding [u, ov] (PySem.setAttr ov f u)
    PySem.release [u, ov] []) _ _ s
  refine PySem.wpAny_bind (PySem.wpAny_holding (L2.thn (ho.run pins s σ H _ I h) fun ov s1 hz => ?_))
  obtain ⟨x, H1, I1, r1, a, C, dx, fs, rfl, ea, c, n, l, q⟩ := hz
  obtain rfl : ov = Value.ref a := r1
  refine PySem.wpAny_bind (PySem.wpAny_standAt (PySem.wpAny_bind (PySem.wpAny_holding (L2.setattr_ok I1 ea c n l r fun s2 I2 => ?_))))
  exact PySem.wpAny_release ⟨σ, _, I2, q⟩
theorem pset_dict (hu : X.A.units + 1 < PySem.cLine) : L2.PSet X (fun o i v H Q => ∃ a H4, o = .ref a ∧ L2.DPut H a i v H4 ∧ Q H4) := by
  intro pins s σ H o i v ov iv u Q I ro ri rv h
  obtain ⟨a, H4, rfl, g, q⟩ := h
  obtain rfl : ov = Value.ref a := ro
  exact L2.d_setItem hu I g ri rv fun s4 I4 => ⟨H4, I4, q⟩
theorem pset_any (hu : X.A.units + 1 < PySem.cLine) : L2.PSet X (fun o i v H Q => L2.rSetL o i v H Q ∨ ∃ a H4, o = .ref a ∧ L2.DPut H a i v H4 ∧ Q H4) := by
  intro pins s σ H o i v ov iv u Q I ro ri rv h
  rcases h with h | h
  · exact L2.set_list pins s σ H o i v ov iv u Q I ro ri rv h
  · exact pset_dict hu pins s σ H o i v ov iv u Q I ro ri rv h
theorem put_at {l l' : List D} {j : Int} {vs : List V} (h : putAt l j d = some l') (r : Reps K cad Y ρ H l vs) : ∃ i, L2.ixN vs.length j = some i ∧ l' = l.set i d := by
  unfold putAt at h
  split at h
  · rename_i hc
    cases h
    refine ⟨j.toNat, ?_, rfl⟩
    unfold L2.ixN
    rw [if_pos hc.1, if_pos (by rw [r.length]; exact hc.2)]
  · cases h
theorem tg_sub {own : List Nat} {o i : Expr} {co ci : CE} (g : Gd P M cad k cc sc X) (hs : isSlice i = false) (ho : SoundE P M cad X o co) (hi : SoundE P M cad X i ci) : SoundTg P M cad X own (.Subscript o i pos) (.sub co ci) := by
  intro W y E S E' S' h
  obtain ⟨d0, fl0⟩ := y
  simp only [asgT] at h
  obtain ⟨⟨ov, of⟩, E1, S1, h1, h⟩ := bnd_ok h
  obtain ⟨⟨iv, if_⟩, E2, S2, h2, h⟩ := bnd_ok h
  obtain ⟨d, hd, h⟩ := opt_ok h
  have hu := g.hu
  refine PG.sub (L2.pg_sub (ho W _ _ _ _ _ _ h1) (hi W _ _ _ _ _ _ h2) (pset_any (by omega)) (fun v => by cases i <;> first | (simp [isSlice] at hs; done) | rfl)) fun v σ H Q z => ?_
  obtain ⟨ρ, Y, ok, r, q⟩ := z
  obtain ⟨Y', p', ok', r'⟩ := share' hd r ok
  refine ⟨ρ, Y', ok', fun ρ1 Y1 H1 w p1 ok1 r1 l1 => ?_⟩
  obtain ⟨Y1', p1', ok1', hh⟩ := hold (x := (ov, of)) p1 ok1 r1 l1
  refine ⟨ρ1, Y1', ok1', fun ρ2 Y2 H2 u p2 ok2 r2 l2 => ?_⟩
  have rv := (r'.post p1').post p2
  have hh2 := hh.later p2
  have pall := (p'.trans p1').trans p2
  have bi := r2.rb ok2
  split at h
  · rename_i n j heq hj g1 g2 g3
    clear g1 g2 g3
    cases heq
    have hj : iv = .int j := hj
    rw [hj] at bi
    obtain rfl := rb_int bi
    split at h
    · rename_i l hS
      obtain ⟨l', hl', h⟩ := opt_ok h
      cases h
      have hr : Rep X.K cad Y2 ρ2 H2 (.cell n) w := hh2
      simp only [Rep] at hr
      obtain ⟨p, rfl, hp⟩ := hr
      have hc := ok2.cells n _ p hS hp
      simp only [CellC, Cont] at hc
      obtain ⟨vs, hH, rs⟩ := hc
      obtain ⟨jn, e1, rfl⟩ := put_at hl' rs
      refine .inl ⟨p, vs, j, jn, rfl, rfl, hH, e1, ?_⟩
      have px := (ok2.cX p (List.mem_of_getElem? hp)).1
      obtain ⟨t1, t2⟩ := ok2.cell_set (o := .lst (vs.set jn v)) (co := .lst (l.set jn d)) hp (by
        simp only [CellC, Cont]
        exact ⟨_, L2.upd_same, (rs.set jn rv).mono (go_in px) self_pre⟩)
      exact q _ _ _ _ (pall.trans t1) t2 (fun _ _ => rfl)
    · cases h
  · rename_i kk j heq hj g1 g2 g3
    clear g1 g2 g3
    cases heq
    have hj : iv = .int j := hj
    rw [hj] at bi
    obtain rfl := rb_int bi
    split at h
    · rename_i l hE
      obtain ⟨l', hl', h⟩ := opt_ok h
      cases h
      have hw : σ[kk]? = some (some w) := hh2 kk rfl
      obtain ⟨p, a1, a2, a3, a4, a5⟩ := ok2.own kk _ hE
      rw [hw] at a1; cases a1
      simp only [Cont] at a2
      obtain ⟨vs, hH, rs⟩ := a2
      obtain ⟨jn, e1, rfl⟩ := put_at hl' rs
      refine .inl ⟨p, vs, j, jn, rfl, rfl, hH, e1, ?_⟩
      obtain ⟨t1, t2⟩ := ok2.own_set (o := .lst (vs.set jn v)) (d := .lst (l.set jn d)) hE hw (by
        simp only [Cont]
        exact ⟨_, L2.upd_same, (rs.set jn rv).mono (go_in a3) self_pre⟩)
      exact q _ _ _ _ (pall.trans t1) t2 (fun _ _ => rfl)
    · cases h
  · rename_i kk heq g1 g2 g3
    clear g1 g2 g3
    cases heq
    split at h
    · rename_i l hE
      split at h
      · rename_i hc
        cases h
        have hw : σ[kk]? = some (some w) := hh2 kk rfl
        obtain ⟨p, a1, a2, a3, a4, a5⟩ := ok2.own kk _ hE
        rw [hw] at a1; cases a1
        simp only [Cont] at a2
        obtain ⟨kvs, hH, rs⟩ := a2
        obtain ⟨x, hx, rfl⟩ := key_rep hc.1 bi
        refine .inr ⟨p, _, rfl, L2.DPut.k hH (by rw [repk_len rs]; exact Nat.lt_of_lt_of_le hc.2 lim_line), ?_⟩
        obtain ⟨t1, t2⟩ := ok2.own_set (o := .dK (L2.putK kvs x v)) (d := .dct (putD iv d l)) hE hw (by
          simp only [Cont]
          exact ⟨_, L2.upd_same, (repk_put hx rv rs).mono (go_in a3) self_pre⟩)
        exact q _ _ _ _ (pall.trans t1) t2 (fun _ _ => rfl)
      · cases h
    · cases h
  · cases h
theorem fld_facts {c f : String} {C : Addr} (g : Gd P M cad k cc sc X) (h : fldOk P c f = true) (hc : cad c = some C) : L2.Cls X.K C ∧ L2.NoAttr X.K C (sx f) := by
  unfold fldOk at h
  split at h
  · rename_i kc hk
    obtain ⟨n1, n2⟩ := g.wd.at_ c kc C hk hc
    exact ⟨n1, n2 f (by simpa using h)⟩
  · cases h
theorem tg_fld {own : List Nat} {o : Expr} {x : Str} {f : String} {co : CE} (g : Gd P M cad k cc sc X) (hx : nmOf x = some f) (ho : SoundE P M cad X o co) : SoundTg P M cad X own (.Attribute o x pos) (.fld co f) := by
  intro W y E S E' S' h
  obtain ⟨d0, fl0⟩ := y
  obtain rfl := nm_sx hx
  simp only [asgT] at h
  obtain ⟨⟨ov, of⟩, E1, S1, h1, h⟩ := bnd_ok h
  obtain ⟨d, hd, h⟩ := opt_ok h
  refine PG.sub (pg_fld (ho W _ _ _ _ _ _ h1)) fun v σ H Q z => ?_
  obtain ⟨ρ, Y, ok, r, q⟩ := z
  obtain ⟨Y', p', ok', r'⟩ := share' hd r ok
  refine ⟨ρ, Y', ok', fun ρ1 Y1 H1 w p1 ok1 r1 l1 => ?_⟩
  have rv := r'.post p1
  split at h
  · rename_i kk heq g1 g2
    clear g1 g2
    cases heq
    split at h
    · rename_i c fs hE
      split at h
      · rename_i hc
        cases h
        rw [Bool.and_eq_true] at hc
        have hw : σ[kk]? = some (some w) := l1 kk rfl
        obtain ⟨p, a1, a2, a3, a4, a5⟩ := ok1.own kk _ hE
        rw [hw] at a1; cases a1
        simp only [Cont] at a2
        obtain ⟨C, dx, gs, b1, hH, rs⟩ := a2
        obtain ⟨n1, n2⟩ := fld_facts g hc.1 b1
        have hlt : fs.length < 100 := of_decide_eq_true hc.2
        refine ⟨p, C, dx, gs, rfl, hH, n1, n2, by rw [repf_len rs]; omega, ?_⟩
        obtain ⟨t1, t2⟩ := ok1.own_set (o := .ins C dx (L2.putF (sx f) v gs)) (d := .ins c (setF f d fs)) hE hw (by
          simp only [Cont]
          exact ⟨C, dx, _, b1, L2.upd_same, (repf_set rs rv).mono (go_in a3) self_pre⟩)
        exact q _ _ _ _ ((p'.trans p1).trans t1) t2 (fun _ _ => rfl)
      · cases h
    · cases h
  · rename_i n heq g1 g2
    clear g1 g2
    cases heq
    split at h
    · rename_i c fs hS
      split at h
      · rename_i hc
        cases h
        rw [Bool.and_eq_true] at hc
        have hr : Rep X.K cad Y1 ρ1 H1 (.cell n) w := r1
        simp only [Rep] at hr
        obtain ⟨p, rfl, hp⟩ := hr
        have a2 := ok1.cells n _ p hS hp
        simp only [CellC, Cont] at a2
        obtain ⟨C, dx, gs, b1, hH, rs⟩ := a2
        obtain ⟨n1, n2⟩ := fld_facts g hc.1 b1
        have hlt : fs.length < 100 := of_decide_eq_true hc.2
        have px := (ok1.cX p (List.mem_of_getElem? hp)).1
        refine ⟨p, C, dx, gs, rfl, hH, n1, n2, by rw [repf_len rs]; omega, ?_⟩
        obtain ⟨t1, t2⟩ := ok1.cell_set (o := .ins C dx (L2.putF (sx f) v gs)) (co := .ins c (setF f d fs)) hp (by
          simp only [CellC, Cont]
          exact ⟨C, dx, _, b1, L2.upd_same, (repf_set rs rv).mono (go_in px) self_pre⟩)
        exact q _ _ _ _ ((p'.trans p1).trans t1) t2 (fun _ _ => rfl)
      · cases h
    · cases h
  · cases h
theorem tg_sound {own : List Nat} (g : Gd P M cad k cc sc X) : ∀ (n : Nat) (e : Expr) (t : CT), cT n cc sc e = some t → SoundTg P M cad X own e t
  | 0, e, t, h => by simp [cT] at h
  | n + 1, e, t, h => by
    have all := snd_all (P := P) (M := M) (cad := cad) (k := k) (cc := cc) 99
    cases e <;> simp only [cT] at h <;> first | (cases h; done) | skip
    · rename_i o x pos
      split at h
      · rename_i h1 h2
        cases h
        exact tg_fld g h2 (all.e g h1)
      · cases h
    · rename_i o i pos
      split at h
      · cases h
      · rename_i hs
        split at h
        · rename_i h1 h2
          cases h
          exact tg_sub g (by simpa using hs) (all.e g h1) (all.e g h2)
        · cases h
    · rename_i x pos
      split at h
      · rename_i hl
        obtain ⟨i, hi, rfl⟩ := Option.map_eq_some_iff.mp h
        exact tg_name g hl (ix_get hi)
      · cases h
    · rename_i es k' pos
      split at h
      · cases h
      · rename_i hns
        obtain ⟨ts, hts, rfl⟩ := Option.map_eq_some_iff.mp h
        have hns' : es.any isStar = false := by simpa using hns
        intro W x E S E' S' hx
        obtain ⟨d, fl⟩ := x
        have main : ∀ (es : List Expr) (ts : List CT) (l : List D) (E : Env) (S : Sto) (E1 : Env) (S1 : Sto), es.any isStar = false → seqO (es.map (cT n cc sc)) = some ts → asgT.go P M.call M.make own ts l E S = some (.ok (), E1, S1) → PGs X es (rTs X.K cad W (slT.go ts) l E S E1 S1) ∧ l.length = es.length := by
          intro es
          induction es with
          | nil =>
            intro ts l E S E1 S1 _ h1 h2
            simp only [List.map_nil, seqO] at h1
            cases h1
            cases l with
            | nil =>
              simp only [asgT.go] at h2
              cases h2
              refine ⟨PGs.sub L2.pgs_nil fun v σ H Q z => ?_, rfl⟩
              obtain ⟨ρ, Y, ok, r, q⟩ := z
              simp only [Reps] at r
              exact ⟨r, q _ _ _ _ Post.refl ok (fun _ _ => rfl)⟩
            | cons => simp [asgT.go] at h2
          | cons e es ih =>
            intro ts l E S E1 S1 h0 h1 h2
            rw [List.any_cons, Bool.or_eq_false_iff] at h0
            obtain ⟨t, ts', a1, a2, rfl⟩ := seqO_cons h1
            cases l with
            | nil => simp [asgT.go] at h2
            | cons d l =>
              simp only [asgT.go] at h2
              obtain ⟨u, E2, S2, hE2, h2⟩ := bnd_ok h2
              obtain ⟨i1, i2⟩ := ih ts' l E2 S2 E1 S1 h0.2 a2 h2
              have hd := tg_sound (own := own) g n e t a1 W (d, .v) E S E2 S2 hE2
              refine ⟨PGs.sub (L2.pgs_cons hd i1 (assign_map _ h0.1)) fun vs σ H Q z => ?_, by simp [i2]⟩
              obtain ⟨ρ, Y, ok, r, q⟩ := z
              simp only [Reps] at r
              obtain ⟨v, r', rfl, r1, r2⟩ := r
              exact ⟨v, r', rfl, ρ, Y, ok, r1, fun ρ1 Y1 H1 σ1 p1 ok1 s1 => ⟨ρ1, Y1, ok1, r2.post p1, fun ρ2 Y2 H2 σ2 p2 ok2 s2 => q _ _ _ _ (p1.trans p2) ok2 (fun i hi => by
                simp only [slT.go, List.mem_append, not_or] at hi
                rw [s2 i hi.2, s1 i hi.1])⟩⟩
        cases d <;> simp only [asgT] at hx <;> first | (cases hx; done) | skip
        rotate_left
        · rename_i l
          split at hx
          · cases hx
          · rename_i hfl
            have ho : one (.lst l, fl) = some (.lst l) := by cases fl <;> first | rfl | exact absurd rfl hfl
            obtain ⟨m1, m2⟩ := main es ts l E S E' S' hns' hts hx
            refine PG.sub (L2.pg_lst g.calm m1 (assign_len _ es) (assign_nostar _ es hns')) fun v σ H Q z => ?_
            obtain ⟨ρ, Y, ok, r, q⟩ := z
            obtain ⟨Y', p', ok', r'⟩ := share' ho r ok
            simp only [Rep] at r'
            obtain ⟨p, vs, rfl, h1, h2⟩ := r'
            exact ⟨p, vs, rfl, (h1.elim (fun z => Or.inl z.2) Or.inr : SqE X.K H p vs).sq, by rw [h2.length, m2], ρ, Y', ok', h2, fun ρ2 Y2 H2 σ2 p2 ok2 s => q ρ2 Y2 H2 σ2 (p'.trans p2) ok2 (by simpa only [slT] using s)⟩
        rename_i l
        obtain ⟨m1, m2⟩ := main es ts l E S E' S' hns' hts hx
        refine PG.sub (L2.pg_tup g.calm m1 (assign_len _ es) (assign_nostar _ es hns')) fun v σ H Q z => ?_
        obtain ⟨ρ, Y, ok, r, q⟩ := z
        have rr : Rb X.K cad Y ρ H (.tup l) v := VRes.rb r ok
        obtain ⟨p, vs, rfl, h1, h2⟩ := rb_tup rr
        exact ⟨p, vs, rfl, h1, by rw [h2.length, m2], ρ, Y, ok, h2, fun ρ' Y' H' σ' p' ok' s => q ρ' Y' H' σ' p' ok' (by simpa only [slT] using s)⟩
end
end Dk
end
/-! Snd18 -/
section
set_option linter.all false
set_option maxRecDepth 100000
set_option maxHeartbeats 4000000
/-! Statements. -/
namespace Dk
open PySem (Str Addr Heap Value Shared sizeLine Expr Pos Stmt)
open L2 (V Hp HO upd Rd SqL SqT Key St VK TE PE PT PW PA PG PGs PI It PS PSs TS)

/-- how a value that is handed back lies -/
def RRes (K : Kx) (cad : String → Option Addr) (W : Addr → Prop) (ρ : List Addr) (Y : Addr → Prop) (H : Hp) (d : D) (v : V) : Fl → Prop
  | .v => Rep K cad Y ρ H d v
  | .f => ∃ p, v = .ref p ∧ Cont K cad Y ρ H p d ∧ Y p ∧ ¬ W p ∧ p ∉ ρ
  | .p => False
section
variable (K : Kx) (cad : String → Option Addr) (W : Addr → Prop)
def rS (fx : List Nat) (E : Env) (S : Sto) (out : Out) (E' : Env) (S' : Sto) : TS := fun D σ H => ∃ ρ Y, EOk K cad W ρ Y E S σ H ∧
  match out with
  | .nx => ∀ ρ' Y' H' σ', Post W ρ Y H ρ' Y' H' → EOk K cad W ρ' Y' E' S' σ' H' → (∀ i, i ∈ fx → σ'[i]? = σ[i]?) → D.nx σ' H'
  | .ret x => ∀ ρ' Y' H' v, Post W ρ Y H ρ' Y' H' → SOk K cad W ρ' Y' S' H' → RRes K cad W ρ' Y' H' x.1 v x.2 → D.rt v H'
end
section
variable {K : Kx} {P : Prg} {M : CM} {cad : String → Option Addr} {k : Nat} {cc : Cc} {sc isc : PySem.Scope} {X : L2.Cx} {W : Addr → Prop} {ρ ρ1 : List Addr} {Y Y1 : Addr → Prop} {E E' E1 E2 : Env} {S S' S1 S2 : Sto} {d d0 : D} {fl : Fl} {σ σ' : St} {H H0 H1 : Hp} {Q : VK} {e e1 e2 e3 tg : Expr} {es ifs : List Expr} {cs : CEs} {a b c : CE} {pos p tp : Pos} {n kk F : Nat} {v : V} {own fx : List Nat}
abbrev SoundS (P : Prg) (M : CM) (cad : String → Option Addr) (X : L2.Cx) (F : Nat) (own fx : List Nat) (s : Stmt) (c : CS) : Prop := ∀ (W : Addr → Prop) (E : Env) (S : Sto) (out : Out) (E' : Env) (S' : Sto), ex P M.call M.make F own c E S = some (.ok out, E', S') → PS X s (rS X.K cad W fx E S out E' S')
abbrev SoundSs (P : Prg) (M : CM) (cad : String → Option Addr) (X : L2.Cx) (F : Nat) (own fx : List Nat) (s : List Stmt) (c : CSs) : Prop := ∀ (W : Addr → Prop) (E : Env) (S : Sto) (out : Out) (E' : Env) (S' : Sto), exs P M.call M.make F own c E S = some (.ok out, E', S') → PSs X s (rS X.K cad W fx E S out E' S')

theorem noPS {s : Stmt} : PS X s (fun _ _ _ => False) := ⟨fun _ _ _ _ _ _ z => z.elim⟩
theorem noPSs {s : List Stmt} : PSs X s (fun _ _ _ => False) := ⟨fun _ _ _ _ _ _ z => z.elim⟩
theorem hand (r : VRes K cad W ρ Y E σ H0 H d v fl) (ok : EOk K cad W ρ Y E S σ H) : RRes K cad W ρ Y H (handed (d, fl)).1 v (handed (d, fl)).2 := by
  cases fl with
  | v => exact r
  | f =>
    obtain ⟨p, rfl, a, b, c, e, _⟩ := r
    exact ⟨p, rfl, a, b, c, e⟩
  | p =>
    obtain ⟨i, h1, h2⟩ := r
    obtain ⟨p, a, b, c, e, f⟩ := ok.own i d h1
    rw [h2] at a; cases a
    exact ⟨p, rfl, b, c, e, f⟩
theorem q_ret (ha : SoundE P M cad X e c) : SoundS P M cad X F own fx (.Return (some e) pos) (.ret c) := by
  intro W E S out E' S' h
  simp only [ex] at h
  obtain ⟨⟨d, fl⟩, E1, S1, h1, h⟩ := bnd_ok h
  cases h
  refine PS.sub (L2.ps_ret (ha W _ _ _ _ _ _ h1)) fun D σ H z => ?_
  obtain ⟨ρ, Y, ok, q⟩ := z
  exact ⟨ρ, Y, ok, fun ρ1 Y1 H1 v1 p1 ok1 r1 l1 => q ρ1 Y1 H1 v1 p1 ok1.toSOk (hand r1 ok1)⟩
theorem q_retN : SoundS P M cad X F own fx (.Return none pos) .retN := by
  intro W E S out E' S' h
  simp only [ex] at h
  cases h
  refine PS.sub L2.ps_retN fun D σ H z => ?_
  obtain ⟨ρ, Y, ok, q⟩ := z
  exact q ρ Y H .non Post.refl ok.toSOk (by simp only [RRes, Rep])
theorem q_pass : SoundS P M cad X F own fx (.Pass pos) .pass := by
  intro W E S out E' S' h
  simp only [ex] at h
  cases h
  refine PS.sub L2.ps_pass fun D σ H z => ?_
  obtain ⟨ρ, Y, ok, q⟩ := z
  exact q ρ Y H σ Post.refl ok (fun _ _ => rfl)
theorem q_expr (hl : isLC e = false) (hd : ∀ a b c d, e ≠ .SetComp a b c d) (hd2 : ∀ a b c d f, e ≠ .DictComp a b c d f) (ha : SoundE P M cad X e c) : SoundS P M cad X F own fx (.Expr e pos) (.expr c) := by
  intro W E S out E' S' h
  simp only [ex] at h
  obtain ⟨⟨d, fl⟩, E1, S1, h1, h⟩ := bnd_ok h
  cases h
  have sw : PySem.swapsWith e none pos.line X.env = pure false := by
    cases e <;> first | (simp [isLC] at hl; done) | exact absurd rfl (hd _ _ _ _) | exact absurd rfl (hd2 _ _ _ _ _) | rfl
  refine PS.sub (L2.ps_expr (ha W _ _ _ _ _ _ h1) sw) fun D σ H z => ?_
  obtain ⟨ρ, Y, ok, q⟩ := z
  exact ⟨ρ, Y, ok, fun ρ1 Y1 H1 v1 p1 ok1 r1 l1 => q ρ1 Y1 H1 σ p1 ok1 (fun _ _ => rfl)⟩
theorem q_raise {s : Stmt} : SoundS P M cad X F own fx s (.raise a) := by
  intro W E S out E' S' h
  simp only [ex] at h
  obtain ⟨x, E1, S1, h1, h⟩ := bnd_ok h
  cases h
theorem q_if {l1 l2 : List Stmt} {c1 c2 : CSs} (hc : SoundT P M cad X e c) (ha : SoundSs P M cad X F own fx l1 c1) (hb : SoundSs P M cad X F own fx l2 c2) : SoundS P M cad X F own fx (.If e l1 l2 pos) (.ite c c1 c2) := by
  intro W E S out E' S' h
  simp only [ex] at h
  obtain ⟨t, E1, S1, h1, h⟩ := bnd_ok h
  have go : ∀ (t' : Bool) (ts : TS), t' = t → (∀ D σ H, rS X.K cad W fx E1 S1 out E' S' D σ H → ts D σ H) → ∀ D σ H, rS X.K cad W fx E S out E' S' D σ H → rB X.K cad W E S t E1 S1 σ H (fun b H1 => b = t ∧ ts D σ H1) := by
    intro t' ts et hts D σ H z
    obtain ⟨ρ, Y, ok, q⟩ := z
    refine ⟨ρ, Y, ok, fun ρ1 Y1 H1 p1 ok1 => ⟨rfl, hts D σ H1 ⟨ρ1, Y1, ok1, ?_⟩⟩⟩
    cases out with
    | nx => exact fun ρ2 Y2 H2 σ2 p2 ok2 s2 => q ρ2 Y2 H2 σ2 (p1.trans p2) ok2 s2
    | ret x => exact fun ρ2 Y2 H2 v2 p2 ok2 r2 => q ρ2 Y2 H2 v2 (p1.trans p2) ok2 r2
  cases t with
  | true =>
    simp only [if_true] at h
    refine PS.sub (L2.ps_if (hc W _ _ _ _ _ h1) (ha W _ _ _ _ _ h) noPSs) fun D σ H z => ?_
    obtain ⟨ρ, Y, ok, q⟩ := go true _ rfl (fun _ _ _ z => z) D σ H z
    exact ⟨ρ, Y, ok, fun ρ1 Y1 H1 p1 ok1 => (q ρ1 Y1 H1 p1 ok1).2⟩
  | false =>
    simp only [Bool.false_eq_true, if_false] at h
    refine PS.sub (L2.ps_if (hc W _ _ _ _ _ h1) noPSs (hb W _ _ _ _ _ h)) fun D σ H z => ?_
    obtain ⟨ρ, Y, ok, q⟩ := go false _ rfl (fun _ _ _ z => z) D σ H z
    exact ⟨ρ, Y, ok, fun ρ1 Y1 H1 p1 ok1 => (q ρ1 Y1 H1 p1 ok1).2⟩
theorem q_nil : SoundSs P M cad X F own fx [] .nil := by
  intro W E S out E' S' h
  simp only [exs] at h
  cases h
  refine PSs.sub L2.pss_nil fun D σ H z => ?_
  obtain ⟨ρ, Y, ok, q⟩ := z
  exact q ρ Y H σ Post.refl ok (fun _ _ => rfl)
theorem q_cons {s : Stmt} {ss : List Stmt} {c : CS} {cs : CSs} (ha : SoundS P M cad X F own fx s c) (hb : SoundSs P M cad X F own fx ss cs) : SoundSs P M cad X F own fx (s :: ss) (.cons c cs) := by
  intro W E S out E' S' h
  simp only [exs] at h
  obtain ⟨o1, E1, S1, h1, h⟩ := bnd_ok h
  cases o1 with
  | nx =>
    refine PSs.sub (L2.pss_cons (ha W _ _ _ _ _ h1) (hb W _ _ _ _ _ h)) fun D σ H z => ?_
    obtain ⟨ρ, Y, ok, q⟩ := z
    refine ⟨ρ, Y, ok, fun ρ1 Y1 H1 σ1 p1 ok1 s1 => ⟨ρ1, Y1, ok1, ?_⟩⟩
    cases out with
    | nx => exact fun ρ2 Y2 H2 σ2 p2 ok2 s2 => q ρ2 Y2 H2 σ2 (p1.trans p2) ok2 (fun i hi => (s2 i hi).trans (s1 i hi))
    | ret x => exact fun ρ2 Y2 H2 v2 p2 ok2 r2 => q ρ2 Y2 H2 v2 (p1.trans p2) ok2 r2
  | ret x =>
    cases h
    refine PSs.sub (L2.pss_cons (ha W _ _ _ _ _ h1) noPSs) fun D σ H z => ?_
    obtain ⟨ρ, Y, ok, q⟩ := z
    exact ⟨ρ, Y, ok, q⟩

/-! ### loops -/
def aT (P : Prg) (M : CM) (K : Kx) (cad : String → Option Addr) (c : CE) : L2.TT := fun σ H Q => ∃ W E S b E' S', tst P M.call M.make c E S = some (.ok b, E', S') ∧ rB K cad W E S b E' S' σ H Q
def aS (P : Prg) (M : CM) (K : Kx) (cad : String → Option Addr) (F : Nat) (own fx : List Nat) (cs : CSs) : TS := fun D σ H => ∃ W E S out E' S', exs P M.call M.make F own cs E S = some (.ok out, E', S') ∧ rS K cad W fx E S out E' S' D σ H
theorem any_T (h : SoundT P M cad X e c) : PT X e (aT P M X.K cad c) := by
  constructor
  intro pins s σ H Q I z
  obtain ⟨W, E, S, b, E', S', h1, z⟩ := z
  exact (h W _ _ _ _ _ h1).run pins s σ H Q I z
theorem any_S {ss : List Stmt} {cs : CSs} (h : SoundSs P M cad X F own fx ss cs) : PSs X ss (aS P M X.K cad F own fx cs) := by
  constructor
  intro pins s σ H D I z
  obtain ⟨W, E, S, out, E', S', h1, z⟩ := z
  exact (h W _ _ _ _ _ h1).run pins s σ H D I z
theorem q_while {body : List Stmt} {cs : CSs} (hp : PySem.PassesOwn (PySem.model X.prog X.w) X.A X.env X.xe) (hc : SoundT P M cad X e c) (hb : SoundSs P M cad X F own fx body cs) : SoundS P M cad X F own fx (.While e body [] pos) (.wh c cs) := by
  intro W E S out E' S' h
  simp only [ex] at h
  refine PS.sub (L2.ps_while hp (any_T hc) (any_S hb)) fun D σ H z => ?_
  obtain ⟨ρ, Y, ok, q⟩ := z
  refine ⟨fun m σc Hc => ∃ ρc Yc Ec Sc, EOk X.K cad W ρc Yc Ec Sc σc Hc ∧ Post W ρ Y H ρc Yc Hc ∧ (∀ i, i ∈ fx → σc[i]? = σ[i]?) ∧ whL (tst P M.call M.make c) (exs P M.call M.make F own cs) m Ec Sc = some (.ok out, E', S'), ⟨F, ρ, Y, E, S, ok, Post.refl, fun _ _ => rfl, h⟩, fun m σc Hc hw => ?_⟩
  obtain ⟨ρc, Yc, Ec, Sc, okc, pc, sc, hr⟩ := hw
  cases m with
  | zero => simp only [whL] at hr; cases hr
  | succ m =>
    simp only [whL] at hr
    obtain ⟨t, Et, St, ht, hr⟩ := bnd_ok hr
    refine ⟨W, Ec, Sc, t, Et, St, ht, ρc, Yc, okc, fun ρ1 Y1 H1 p1 ok1 => ?_⟩
    cases t with
    | true =>
      simp only [if_true] at hr ⊢
      obtain ⟨o1, E2, S2, h2, hr⟩ := bnd_ok hr
      refine ⟨fun σ' H' => ∃ ρc Yc Ec Sc, EOk X.K cad W ρc Yc Ec Sc σ' H' ∧ Post W ρ Y H ρc Yc H' ∧ (∀ i, i ∈ fx → σ'[i]? = σ[i]?) ∧ whL (tst P M.call M.make c) (exs P M.call M.make F own cs) m Ec Sc = some (.ok out, E', S'), fun σ' H' z => ⟨m, Nat.lt_succ_self m, z⟩, W, Et, St, o1, E2, S2, h2, ρ1, Y1, ok1, ?_⟩
      cases o1 with
      | nx => exact fun ρ2 Y2 H2 σ2 p2 ok2 s2 => ⟨ρ2, Y2, E2, S2, ok2, (pc.trans p1).trans p2, fun i hi => (s2 i hi).trans (sc i hi), hr⟩
      | ret x =>
        cases hr
        exact fun ρ2 Y2 H2 v2 p2 ok2 r2 => q ρ2 Y2 H2 v2 ((pc.trans p1).trans p2) ok2 r2
    | false =>
      simp only [Bool.false_eq_true, if_false] at hr ⊢
      cases hr
      exact q ρ1 Y1 H1 σc (pc.trans p1) ok1 sc
theorem q_for {body : List Stmt} {cs : CSs} {t : Tg} {ci : CI} (hp : PySem.PassesOwn (PySem.model X.prog X.w) X.A X.env X.xe) (hcalm : X.calm = true) (hi : SoundI P M cad X tg e ci) (hs : ∀ a b c, e ≠ .Set a b c) (hfx : ∀ i, i ∈ fx → i ∉ slots t) (hg : SoundG cad X tg t) (hb : SoundSs P M cad X F own fx body cs) :
    SoundS P M cad X F own fx (.For tg e body [] pos) (.for_ t ci cs) := by
  intro W E S out E' S' h
  simp only [ex] at h
  obtain ⟨xs, E1, S1, h1, h⟩ := bnd_ok h
  refine PS.sub (L2.ps_for hp hcalm (hi W _ _ _ _ _ h1) (any_G hg) (any_S hb) (not_folded _ hs)) fun D σ H z => ?_
  obtain ⟨ρ, Y, ok, q⟩ := z
  refine ⟨ρ, Y, ok, fun ρ1 Y1 H1 J p1 ok1 iok => ?_⟩
  refine ⟨fun i m σc Hc => m = xs.length - i ∧ i ≤ xs.length ∧ ∃ ρc Yc Ec Sc, EOk X.K cad W ρc Yc Ec Sc σc Hc ∧ Post W ρ1 Y1 H1 ρc Yc Hc ∧ (∀ i, i ∈ fx → σc[i]? = σ[i]?) ∧ forL (tgt t) (exs P M.call M.make F own cs) (xs.drop i) Ec Sc = some (.ok out, E', S'), ⟨xs.length, rfl, Nat.zero_le _, ρ1, Y1, E1, S1, ok1, Post.refl, fun _ _ => rfl, h⟩, fun i m σc Hc hw => ?_⟩
  obtain ⟨hm, hi', ρc, Yc, Ec, Sc, okc, pc, sc, hl⟩ := hw
  have it := iok ρc Yc Hc pc.pre pc.go okc.dom i hi'
  by_cases hlt : i < xs.length
  · refine .inr ?_
    obtain ⟨go, yld⟩ := it.2 xs[i] (List.getElem?_eq_getElem hlt)
    rw [List.drop_eq_getElem_cons hlt] at hl
    simp only [forL] at hl
    split at hl
    · cases hl
    · rename_i Ea hEa
      obtain ⟨o1, E2, S2, h2, hl⟩ := bnd_ok hl
      refine ⟨go, fun σ' H' => xs.length - (i + 1) = xs.length - (i + 1) ∧ i + 1 ≤ xs.length ∧ ∃ ρc Yc Ec Sc, EOk X.K cad W ρc Yc Ec Sc σ' H' ∧ Post W ρ1 Y1 H1 ρc Yc H' ∧ (∀ i, i ∈ fx → σ'[i]? = σ[i]?) ∧ forL (tgt t) (exs P M.call M.make F own cs) (xs.drop (i + 1)) Ec Sc = some (.ok out, E', S'), fun σ' H' z => ⟨xs.length - (i + 1), by omega, z⟩, fun v H' y => ?_⟩
      obtain ⟨ex, rv⟩ := yld v H' y
      refine ⟨W, xs[i], Ec, Ea, hEa, ρc, Yc, Sc, okc.ex ex, rv, fun σ' ok' ag ln => ?_⟩
      have px := pc.trans (ex.post (W := W) (ρ := ρc) (X := Yc))
      refine ⟨W, Ea, Sc, o1, E2, S2, h2, ρc, Yc, ok', ?_⟩
      cases o1 with
      | nx => exact fun ρ2 Y2 H2 σ2 p2 ok2 s2 => ⟨rfl, by omega, ρ2, Y2, E2, S2, ok2, px.trans p2, fun j hj => ((s2 j hj).trans (ag j (hfx j hj))).trans (sc j hj), hl⟩
      | ret x =>
        cases hl
        exact fun ρ2 Y2 H2 v2 p2 ok2 r2 => q ρ2 Y2 H2 v2 ((p1.trans px).trans p2) ok2 r2
  · refine .inl ⟨it.1 (by omega), ?_⟩
    have hi2 : i = xs.length := by omega
    subst hi2
    rw [List.drop_length] at hl
    simp only [forL] at hl
    cases hl
    exact q ρc Yc Hc σc (p1.trans pc) okc sc
end
end Dk
end
/-! Snd19 -/
section
set_option linter.all false
set_option maxRecDepth 100000
set_option maxHeartbeats 4000000
/-! Assignment as a statement; the compiler's statements. -/
namespace Dk
open PySem (Str Addr Heap Value Shared sizeLine Expr Pos Stmt)
open L2 (V Hp HO upd Rd SqL SqT Key St VK TE PE PT PW PA PG PGs PI It PS PSs TS)

section
variable {K : Kx} {P : Prg} {M : CM} {cad : String → Option Addr} {k : Nat} {cc : Cc} {sc isc : PySem.Scope} {X : L2.Cx} {W W' : Addr → Prop} {ρ ρ1 : List Addr} {Y Y1 : Addr → Prop} {E E' E1 E2 : Env} {S S' S1 S2 : Sto} {d d0 : D} {fl : Fl} {σ σ' : St} {H H0 H1 : Hp} {Q : VK} {e e1 e2 e3 tg : Expr} {es ifs : List Expr} {cs : CEs} {a b c : CE} {pos p tp : Pos} {n kk F : Nat} {v : V} {own fx : List Nat}

theorem asg_plain {t : CT} (hs : PySem.swapsWithSole [tg] e pos.line X.env = pure false) (hw : PySem.swappedStores [tg] e X.env = pure none) (hfx : ∀ i, i ∈ fx → i ∉ slT t) (h1 : isStar tg = false) (ha : SoundE P M cad X e c) (ht : SoundTg P M cad X own tg t) : SoundS P M cad X F own fx (.Assign [tg] e pos) (.asg t c) := by
  intro W E S out E' S' h
  simp only [ex] at h
  obtain ⟨x, E1, S1, hx, h⟩ := bnd_ok h
  obtain ⟨u, E2, S2, hy, h⟩ := bnd_ok h
  cases h
  refine PS.sub (L2.ps_asg (ha W _ _ _ _ _ _ hx) (ht W _ _ _ _ _ hy) hs hw (assign_map _ h1)) fun D σ H z => ?_
  obtain ⟨ρ, Y, ok, q⟩ := z
  exact ⟨ρ, Y, ok, fun ρ1 Y1 H1 v1 p1 ok1 r1 l1 => ⟨ρ1, Y1, ok1, r1.nil, fun ρ2 Y2 H2 σ2 p2 ok2 s2 => q ρ2 Y2 H2 σ2 (p1.trans p2) ok2 (fun i hi => s2 i (hfx i hi))⟩⟩
theorem nm_sub {i : Nat} {x : D × Fl} {T : St → Hp → Prop} (h : asgT P M.call M.make own (.nm i) x E S = some (.ok (), E', S')) (z : rT K cad W [i] x E S E' S' v σ H T) : T (σ.set i (some v)) H := by
  obtain ⟨d, fl⟩ := x
  simp only [asgT] at h
  obtain ⟨ρ, Y, ok, r, q⟩ := z
  split at h
  · rename_i Ea hE
    cases h
    rcases asgN_cases hE with ⟨rfl, rfl⟩ | ⟨d', ho, rfl⟩
    · exact q _ _ _ _ Post.refl (ok.putOwn r) (fun j hj => List.getElem?_set_ne (by intro q; subst q; exact hj (by simp)))
    · obtain ⟨Y', p', ok', r'⟩ := share' ho r ok
      exact q _ _ _ _ p' (ok'.put r') (fun j hj => List.getElem?_set_ne (by intro q; subst q; exact hj (by simp)))
  · cases h
theorem swap_bool {isc : PySem.Scope} {gs : List PySem.Comprehension} {y : Str} {py : Pos} {l : Nat} {env : PySem.Env} : (PySem.swapsWith (.ListComp elt gs isc pos) (some (.Name y py)) l env = pure false) ∨ (PySem.swapsWith (.ListComp elt gs isc pos) (some (.Name y py)) l env = pure true ∧ env.kindOf y = some .local) := by
  show (pure (env.blockKind == .function && env.kindOf y == some .local && py.line == pos.line && !(isc.names.any fun (n, k) => n == y && (k == .local || k == .cell))) : PySem.Sem Bool) = pure false ∨ ((pure (env.blockKind == .function && env.kindOf y == some .local && py.line == pos.line && !(isc.names.any fun (n, k) => n == y && (k == .local || k == .cell))) : PySem.Sem Bool) = pure true ∧ _)
  cases hq : (env.blockKind == .function && env.kindOf y == some .local && py.line == pos.line && !(isc.names.any fun (n, k) => n == y && (k == .local || k == .cell))) with
  | false => exact .inl rfl
  | true =>
    simp only [Bool.and_eq_true, beq_iff_eq] at hq
    exact .inr ⟨rfl, hq.1.1.2⟩
theorem asg_lc {t : Tg} {ci : CI} {i : Nat} {y : Str} {py spos : Pos} (g : Gd P M cad k cc sc X) (hy : cc.N[i]? = some y) (hloc : X.env.kindOf y = some .local)
    (sw : PySem.swapsWith (.ListComp elt [⟨tg, iter, ifs, 0⟩] isc pos) (some (.Name y py)) spos.line X.env = pure true) (hb : L2.blkC cc.N sc isc (ownOf cc.N (slots t)) = true) (ho : (ownOf cc.N (slots t)).map (·.2) = slots t) (hi : SoundI P M cad X tg iter ci)
    (hg : ∀ (s : Shared) (H : Hp) (C : Addr) (cl : List (Str × Addr)) (fp : List Addr), PG (X.blk s H isc (PySem.compEnvC isc cl C X.env) fp) tg (aG X.K cad t))
    (ht : ∀ (s : Shared) (H : Hp) (C : Addr) (cl : List (Str × Addr)) (fp : List Addr), L2.PTs (X.blk s H isc (PySem.compEnvC isc cl C X.env) fp) ifs (aC P M X.K cad cs))
    (he : ∀ (s : Shared) (H : Hp) (C : Addr) (cl : List (Str × Addr)) (fp : List Addr), PE (X.blk s H isc (PySem.compEnvC isc cl C X.env) fp) elt (aE P M X.K cad c))
    (hs : ∀ a b c, iter ≠ .Set a b c) (hfx : i ∉ fx) : SoundS P M cad X F own fx (.Assign [.Name y py] (.ListComp elt [⟨tg, iter, ifs, 0⟩] isc pos) spos) (.asg (.nm i) (.lc c t ci cs)) := by
  intro W E S out E' S' h
  simp only [ex] at h
  obtain ⟨x, Ex, Sx, hx, hr⟩ := bnd_ok h
  obtain ⟨u, E3, S3, h3, hr2⟩ := bnd_ok hr
  clear h hr
  cases hr2
  simp only [ev] at hx
  obtain ⟨xs, E1, S1, h1, hz⟩ := bnd_ok hx
  clear hx
  split at hz
  · rename_i hcl
    obtain ⟨l, E2, S2, h2, hz2⟩ := bnd_ok hz
    clear hz
    cases hz2
    have pl := L2.ps_setLc (pos := pos) g.calm (by rw [g.nm]; exact g.nd) (by rw [g.nm]; exact hy) hloc sw (hi W _ _ _ _ _ h1) (blk_ok g hb) hg ht he (not_folded _ hs)
    rw [ho] at pl
    refine PS.sub pl fun D σ H z => ?_
    refine lc_sub (ci := ci) h2 hcl ?_
    obtain ⟨ρ, Y, ok, q⟩ := z
    refine ⟨ρ, Y, ok, fun ρ1 Y1 H1 v1 p1 ok1 r1 l1 => ?_⟩
    exact nm_sub h3 ⟨ρ1, Y1, ok1, r1.nil, fun ρ2 Y2 H2 σ2 p2 ok2 s2 => q ρ2 Y2 H2 σ2 (p1.trans p2) ok2 (fun j hj => s2 j (by intro q; simp at q; subst q; exact hfx hj))⟩
  · cases hz

theorem asg_lco {t : Tg} {i i0 : Nat} {y x : Str} {py spos ip : Pos} (g : Gd P M cad k cc sc X) (hy : cc.N[i]? = some y) (hloc : X.env.kindOf y = some .local) (hx0 : cc.N[i0]? = some x) (hv : isVis sc x = true) (hok : okNm x = true)
    (sw : PySem.swapsWith (.ListComp elt [⟨tg, .Name x ip, ifs, 0⟩] isc pos) (some (.Name y py)) spos.line X.env = pure true) (hb : L2.blkC cc.N sc isc (ownOf cc.N (slots t)) = true) (ho : (ownOf cc.N (slots t)).map (·.2) = slots t)
    (hg : ∀ (s : Shared) (H : Hp) (C : Addr) (cl : List (Str × Addr)) (fp : List Addr), PG (X.blk s H isc (PySem.compEnvC isc cl C X.env) fp) tg (aG X.K cad t))
    (ht : ∀ (s : Shared) (H : Hp) (C : Addr) (cl : List (Str × Addr)) (fp : List Addr), L2.PTs (X.blk s H isc (PySem.compEnvC isc cl C X.env) fp) ifs (aC P M X.K cad cs))
    (he : ∀ (s : Shared) (H : Hp) (C : Addr) (cl : List (Str × Addr)) (fp : List Addr), PE (X.blk s H isc (PySem.compEnvC isc cl C X.env) fp) elt (aE P M X.K cad c))
    (hfx : i ∉ fx) : SoundS P M cad X F own fx (.Assign [.Name y py] (.ListComp elt [⟨tg, .Name x ip, ifs, 0⟩] isc pos) spos) (.asg (.nm i) (.lco c t i0 cs)) := by
  intro W E S out E' S' h
  simp only [ex] at h
  obtain ⟨x', Ex, Sx, hx, hr⟩ := bnd_ok h
  obtain ⟨u, E3, S3, h3, hr2⟩ := bnd_ok hr
  clear h hr
  cases hr2
  simp only [ev] at hx
  obtain ⟨l, hl, hz⟩ := opt_ok hx
  have hE := ownL_ok hl
  clear hx
  split at hz
  · rename_i hcl
    rw [Bool.and_eq_true, Bool.not_eq_true'] at hcl
    obtain ⟨r, E2, S2, h2, hz2⟩ := bnd_ok hz
    clear hz
    cases hz2
    have pl := L2.ps_setLc (pos := pos) g.calm (by rw [g.nm]; exact g.nd) (by rw [g.nm]; exact hy) hloc sw (s_ownI (W := W) (S := S) (tg := tg) (pos := ip) g hx0 hv hok hE) (blk_ok g hb) hg ht he (not_folded _ (fun _ _ _ z => by cases z))
    rw [ho] at pl
    refine PS.sub pl fun D σ H z => ?_
    refine lco_sub hE h2 hcl.1 (fun hm => by have := hcl.2; rw [List.contains_iff_mem.mpr hm] at this; cases this) ?_
    obtain ⟨ρ, Y, ok, q⟩ := z
    refine ⟨ρ, Y, ok, fun ρ1 Y1 H1 v1 p1 ok1 r1 l1 => ?_⟩
    exact nm_sub h3 ⟨ρ1, Y1, ok1, r1.nil, fun ρ2 Y2 H2 σ2 p2 ok2 s2 => q ρ2 Y2 H2 σ2 (p1.trans p2) ok2 (fun j hj => s2 j (by intro q; simp at q; subst q; exact hfx hj))⟩
  · cases hz
theorem asg_lc2 {t t1 : Tg} {ci ci1 : CI} {tg1 iter1 : Expr} {ifs1 : List Expr} {cs1 : CEs} {i : Nat} {y : Str} {py spos : Pos} (g : Gd P M cad k cc sc X) (hy : cc.N[i]? = some y) (hloc : X.env.kindOf y = some .local)
    (sw : PySem.swapsWith (.ListComp elt [⟨tg, iter, ifs, 0⟩, ⟨tg1, iter1, ifs1, 0⟩] isc pos) (some (.Name y py)) spos.line X.env = pure true) (hb : L2.blkC cc.N sc isc (ownOf cc.N (slots t ++ slots t1)) = true) (ho : (ownOf cc.N (slots t ++ slots t1)).map (·.2) = slots t ++ slots t1) (hi : SoundI P M cad X tg iter ci)
    (hg : ∀ (s : Shared) (H : Hp) (C : Addr) (cl : List (Str × Addr)) (fp : List Addr), PG (X.blk s H isc (PySem.compEnvC isc cl C X.env) fp) tg (aG X.K cad t))
    (ht : ∀ (s : Shared) (H : Hp) (C : Addr) (cl : List (Str × Addr)) (fp : List Addr), L2.PTs (X.blk s H isc (PySem.compEnvC isc cl C X.env) fp) ifs (aC P M X.K cad cs))
    (hi1 : ∀ (s : Shared) (H : Hp) (C : Addr) (cl : List (Str × Addr)) (fp : List Addr), PI (X.blk s H isc (PySem.compEnvC isc cl C X.env) fp) tg1 iter1 (aI P M X.K cad ci1))
    (hg1 : ∀ (s : Shared) (H : Hp) (C : Addr) (cl : List (Str × Addr)) (fp : List Addr), PG (X.blk s H isc (PySem.compEnvC isc cl C X.env) fp) tg1 (aG X.K cad t1))
    (ht1 : ∀ (s : Shared) (H : Hp) (C : Addr) (cl : List (Str × Addr)) (fp : List Addr), L2.PTs (X.blk s H isc (PySem.compEnvC isc cl C X.env) fp) ifs1 (aC P M X.K cad cs1))
    (he : ∀ (s : Shared) (H : Hp) (C : Addr) (cl : List (Str × Addr)) (fp : List Addr), PE (X.blk s H isc (PySem.compEnvC isc cl C X.env) fp) elt (aE P M X.K cad c))
    (hs : ∀ a b c, iter ≠ .Set a b c) (hs1 : ∀ a b c, iter1 ≠ .Set a b c) (hfx : i ∉ fx) : SoundS P M cad X F own fx (.Assign [.Name y py] (.ListComp elt [⟨tg, iter, ifs, 0⟩, ⟨tg1, iter1, ifs1, 0⟩] isc pos) spos) (.asg (.nm i) (.lc2 c t ci cs t1 ci1 cs1)) := by
  intro W E S out E' S' h
  simp only [ex] at h
  obtain ⟨x, Ex, Sx, hx, hr⟩ := bnd_ok h
  obtain ⟨u, E3, S3, h3, hr2⟩ := bnd_ok hr
  clear h hr
  cases hr2
  simp only [ev] at hx
  obtain ⟨xs, E1, S1, h1, hz⟩ := bnd_ok hx
  clear hx
  split at hz
  · rename_i hcl
    obtain ⟨l, E2, S2, h2, hz2⟩ := bnd_ok hz
    clear hz
    cases hz2
    have pl := L2.ps_setLc2 (pos := pos) g.calm (by rw [g.nm]; exact g.nd) (by rw [g.nm]; exact hy) hloc sw (hi W _ _ _ _ _ h1) (blk_ok g hb) (vs1 := slots t1) (by rw [ho]; exact fun i hi => List.mem_append_right _ hi) hg ht hi1 hg1 ht1 he (not_folded _ hs) (fun env x => not_folded env hs1 x)
    rw [ho] at pl
    refine PS.sub pl fun D σ H z => ?_
    refine lc2_sub (ci := ci) h2 hcl ?_
    obtain ⟨ρ, Y, ok, q⟩ := z
    refine ⟨ρ, Y, ok, fun ρ1 Y1 H1 v1 p1 ok1 r1 l1 => ?_⟩
    exact nm_sub h3 ⟨ρ1, Y1, ok1, r1.nil, fun ρ2 Y2 H2 σ2 p2 ok2 s2 => q ρ2 Y2 H2 σ2 (p1.trans p2) ok2 (fun j hj => s2 j (by intro q; simp at q; subst q; exact hfx hj))⟩
  · cases hz

/-- how a row of names takes a row of values -/
def swNames (ts : List Expr) (env : PySem.Env) : List Str := ts.filterMap fun
    | .Name id pos => if env.kindOf id == some .local && pos.line == (ts.head?.map (·.pos.line)).getD 0 then some id else none
    | _ => none
theorem swap_cases {ts vs : List Expr} {k1 k2 : Nat} {p1 p2 : Pos} (env : PySem.Env) (h : parOk (.Tuple ts k1 p1) (.Tuple vs k2 p2) = true) :
    PySem.swappedStores [.Tuple ts k1 p1] (.Tuple vs k2 p2) env = pure none ∨
    (PySem.swappedStores [.Tuple ts k1 p1] (.Tuple vs k2 p2) env = pure (some (swNames ts env)) ∧ (ts.length = 2 ∨ ts.length = 3) ∧ vs.length = ts.length ∧ (swNames ts env).length = ts.length ∧ (swNames ts env).eraseDups.length = (swNames ts env).length) := by
  unfold parOk at h
  simp only [Bool.or_eq_true, Bool.not_eq_true'] at h
  unfold PySem.swappedStores
  simp only []
  split
  · exact .inl rfl
  · rename_i h1
    split
    · exact .inl rfl
    · split
      · exact .inl rfl
      · rename_i h3
        split
        · exact .inl rfl
        · rename_i h4
          split
          · rename_i h5
            rcases h with h | h
            · rw [h] at h5; cases h5
            · exact absurd h h4
          · simp only [Bool.or_eq_true, Bool.not_eq_true', bne_iff_ne, not_or, Bool.not_eq_false, ne_eq, Decidable.not_not, beq_iff_eq, Bool.or_eq_false_iff, beq_eq_false_iff_ne, not_and] at h1 h3
            refine .inr ⟨rfl, ?_, h1.1.2, h3.1, h3.2⟩
            have := h1.1.1
            by_cases z : ts.length = 2
            · exact .inl z
            · exact .inr (this z)
theorem sw_some {env : PySem.Env} {l : Nat} {t : Expr} {x : Str} (h : (match t with | .Name id pos => if (env.kindOf id == some .local && pos.line == l) = true then some id else none | _ => none) = some x) : ∃ px, t = .Name x px ∧ env.kindOf x = some .local := by
  split at h
  · split at h
    · rename_i hc
      cases h
      simp only [Bool.and_eq_true, beq_iff_eq] at hc
      exact ⟨_, rfl, hc.1⟩
    · cases h
  · cases h
theorem sw_two {t1 t2 : Expr} {env : PySem.Env} (h : (swNames [t1, t2] env).length = 2) : ∃ x y px py, t1 = .Name x px ∧ t2 = .Name y py ∧ env.kindOf x = some .local ∧ env.kindOf y = some .local ∧ swNames [t1, t2] env = [x, y] := by
  have gen : ∀ f : Expr → Option Str, ([t1, t2].filterMap f).length = 2 → ∃ x y, f t1 = some x ∧ f t2 = some y ∧ [t1, t2].filterMap f = [x, y] := by
    intro f h
    simp only [List.filterMap_cons, List.filterMap_nil] at h ⊢
    cases h1 : f t1 <;> cases h2 : f t2 <;> simp [h1, h2] at h ⊢
  unfold swNames at h ⊢
  obtain ⟨x, y, h1, h2, h3⟩ := gen _ h
  obtain ⟨px, rfl, k1⟩ := sw_some h1
  obtain ⟨py, rfl, k2⟩ := sw_some h2
  exact ⟨x, y, px, py, rfl, rfl, k1, k2, h3⟩
theorem sw_three {t1 t2 t3 : Expr} {env : PySem.Env} (h : (swNames [t1, t2, t3] env).length = 3) : ∃ x y z px py pz, t1 = .Name x px ∧ t2 = .Name y py ∧ t3 = .Name z pz ∧ env.kindOf x = some .local ∧ env.kindOf y = some .local ∧ env.kindOf z = some .local ∧ swNames [t1, t2, t3] env = [x, y, z] := by
  have gen : ∀ f : Expr → Option Str, ([t1, t2, t3].filterMap f).length = 3 → ∃ x y z, f t1 = some x ∧ f t2 = some y ∧ f t3 = some z ∧ [t1, t2, t3].filterMap f = [x, y, z] := by
    intro f h
    simp only [List.filterMap_cons, List.filterMap_nil] at h ⊢
    cases h1 : f t1 <;> cases h2 : f t2 <;> cases h3 : f t3 <;> simp [h1, h2, h3] at h ⊢
  unfold swNames at h ⊢
  obtain ⟨x, y, z, h1, h2, h3, h4⟩ := gen _ h
  obtain ⟨px, rfl, k1⟩ := sw_some h1
  obtain ⟨py, rfl, k2⟩ := sw_some h2
  obtain ⟨pz, rfl, k3⟩ := sw_some h3
  exact ⟨x, y, z, px, py, pz, rfl, rfl, rfl, k1, k2, k3, h4⟩
theorem asgN_v {i : Nat} (h : asgN own i (d, .v) E = some E') : E' = setE E i (d, false) := by
  rcases asgN_cases h with ⟨q, _⟩ | ⟨d', ho, rfl⟩
  · cases q
  · cases ho; rfl
theorem go_one {t : CT} {ts : List CT} {l : List D} (h : asgT.go P M.call M.make own (t :: ts) l E S = some (.ok (), E', S')) : ∃ x r E1 S1, l = x :: r ∧ asgT P M.call M.make own t (x, .v) E S = some (.ok (), E1, S1) ∧ asgT.go P M.call M.make own ts r E1 S1 = some (.ok (), E', S') := by
  cases l with
  | nil => simp [asgT.go] at h
  | cons x r =>
    simp only [asgT.go] at h
    obtain ⟨u, E1, S1, h1, h2⟩ := bnd_ok h
    exact ⟨x, r, E1, S1, rfl, h1, h2⟩
theorem nm_v {i : Nat} (h : asgT P M.call M.make own (.nm i) (d, .v) E S = some (.ok (), E', S')) : E' = setE E i (d, false) ∧ S' = S := by
  simp only [asgT] at h
  split at h
  · rename_i Ea hE
    cases h
    exact ⟨asgN_v hE, rfl⟩
  · cases h
theorem q_par2 {x y : Str} {px py p1 p2 : Pos} {k1 k2 i j : Nat} (g : Gd P M cad k cc sc X) (hi : cc.N[i]? = some x) (hj : cc.N[j]? = some y) (hk1 : X.env.kindOf x = some .local) (hk2 : X.env.kindOf y = some .local) (hne : x ≠ y)
    (sw : PySem.swappedStores [.Tuple [.Name x px, .Name y py] k1 p1] (.Tuple [e1, e2] k2 p2) X.env = pure (some [x, y])) (hfx1 : i ∉ fx) (hfx2 : j ∉ fx) (ha : SoundA P M cad X [e1, e2] cs) :
    SoundS P M cad X F own fx (.Assign [.Tuple [.Name x px, .Name y py] k1 p1] (.Tuple [e1, e2] k2 p2) pos) (.asg (.tp [.nm i, .nm j]) (.tup cs)) := by
  intro W E S out E' S' h
  simp only [ex, ev] at h
  obtain ⟨w, E1, S1, hw, hr⟩ := bnd_ok h
  obtain ⟨u, E2, S2, hy, hr2⟩ := bnd_ok hr
  clear h hr
  cases hr2
  obtain ⟨l, E3, S3, h1, hz⟩ := bnd_ok hw
  obtain ⟨m, hm, hz⟩ := opt_ok hz
  clear hw
  cases hz
  simp only [asgT] at hy
  obtain ⟨d1, r1, Ea, Sa, rfl, ha1, hy1⟩ := go_one hy
  obtain ⟨d2, r2, Eb, Sb, rfl, ha2, hy2⟩ := go_one hy1
  clear hy hy1
  obtain ⟨rfl, rfl⟩ := nm_v ha1
  obtain ⟨rfl, rfl⟩ := nm_v ha2
  have hr2 : r2 = [] ∧ E' = setE (setE E1 i (d1, false)) j (d2, false) ∧ S' = Sb := by
    cases r2 with
    | nil => simp only [asgT.go] at hy2; cases hy2; exact ⟨rfl, rfl, rfl⟩
    | cons => simp [asgT.go] at hy2
  obtain ⟨rfl, rfl, rfl⟩ := hr2
  have hij : i ≠ j := fun z => by subst z; rw [hi] at hj; cases hj; exact hne rfl
  refine PS.sub (L2.ps_par g.calm (by rw [g.nm]; exact g.nd) (by rw [g.nm]; exact hi) (by rw [g.nm]; exact hj) hij hk1 hk2 (ha W _ _ _ _ _ h1) sw (by rfl)) fun D σ H z => ?_
  obtain ⟨ρ, Y, ok, q⟩ := z
  refine ⟨ρ, Y, ok, fun ρ1 Y1 H1 vs p1 ok1 r1 => ?_⟩
  have rs := r1.reps hm
  simp only [Reps] at rs
  obtain ⟨v, r, rfl, rv, w, r', rfl, rw', rfl⟩ := rs
  exact ⟨v, w, rfl, q ρ1 Y1 H1 _ p1 ((ok1.put rv).put rw') (fun l hl => by rw [List.getElem?_set_ne (fun z => hfx2 (by rw [z]; exact hl)), List.getElem?_set_ne (fun z => hfx1 (by rw [z]; exact hl))])⟩
theorem q_par3 {x y z : Str} {px py pz p1 p2 : Pos} {k1 k2 i j l : Nat} (g : Gd P M cad k cc sc X) (hi : cc.N[i]? = some x) (hj : cc.N[j]? = some y) (hl : cc.N[l]? = some z) (hk1 : X.env.kindOf x = some .local) (hk2 : X.env.kindOf y = some .local) (hk3 : X.env.kindOf z = some .local) (n1 : x ≠ y) (n2 : x ≠ z) (n3 : y ≠ z)
    (sw : PySem.swappedStores [.Tuple [.Name x px, .Name y py, .Name z pz] k1 p1] (.Tuple [e1, e2, e3] k2 p2) X.env = pure (some [x, y, z])) (hfx1 : i ∉ fx) (hfx2 : j ∉ fx) (hfx3 : l ∉ fx) (ha : SoundA P M cad X [e1, e2, e3] cs) :
    SoundS P M cad X F own fx (.Assign [.Tuple [.Name x px, .Name y py, .Name z pz] k1 p1] (.Tuple [e1, e2, e3] k2 p2) pos) (.asg (.tp [.nm i, .nm j, .nm l]) (.tup cs)) := by
  intro W E S out E' S' h
  simp only [ex, ev] at h
  obtain ⟨w, E1, S1, hw, hr⟩ := bnd_ok h
  obtain ⟨u, E2, S2, hy, hr2⟩ := bnd_ok hr
  clear h hr
  cases hr2
  obtain ⟨ll, E3, S3, h1, hz⟩ := bnd_ok hw
  obtain ⟨m, hm, hz⟩ := opt_ok hz
  clear hw
  cases hz
  simp only [asgT] at hy
  obtain ⟨d1, r1, Ea, Sa, rfl, ha1, hy1⟩ := go_one hy
  obtain ⟨d2, r2, Eb, Sb, rfl, ha2, hy3⟩ := go_one hy1
  obtain ⟨d3, r3, Ec, Sc, rfl, ha3, hy2⟩ := go_one hy3
  clear hy hy1 hy3
  obtain ⟨rfl, rfl⟩ := nm_v ha1
  obtain ⟨rfl, rfl⟩ := nm_v ha2
  obtain ⟨rfl, rfl⟩ := nm_v ha3
  have hr2 : r3 = [] ∧ E' = setE (setE (setE E1 i (d1, false)) j (d2, false)) l (d3, false) ∧ S' = Sc := by
    cases r3 with
    | nil => simp only [asgT.go] at hy2; cases hy2; exact ⟨rfl, rfl, rfl⟩
    | cons => simp [asgT.go] at hy2
  obtain ⟨rfl, rfl, rfl⟩ := hr2
  have ne : ∀ {a b : Nat} {x y : Str}, cc.N[a]? = some x → cc.N[b]? = some y → x ≠ y → a ≠ b := fun h1 h2 n z => by subst z; rw [h1] at h2; cases h2; exact n rfl
  refine PS.sub (L2.ps_par3 g.calm (by rw [g.nm]; exact g.nd) (by rw [g.nm]; exact hi) (by rw [g.nm]; exact hj) (by rw [g.nm]; exact hl) (ne hi hj n1) (ne hi hl n2) (ne hj hl n3) hk1 hk2 hk3 (ha W _ _ _ _ _ h1) sw (by rfl)) fun D σ H z => ?_
  obtain ⟨ρ, Y, ok, q⟩ := z
  refine ⟨ρ, Y, ok, fun ρ1 Y1 H1 vs p1 ok1 r1 => ?_⟩
  have rs := r1.reps hm
  simp only [Reps] at rs
  obtain ⟨v, r, rfl, rv, w, r', rfl, rw', w2, r'', rfl, rw2, rfl⟩ := rs
  exact ⟨v, w, w2, rfl, q ρ1 Y1 H1 _ p1 (((ok1.put rv).put rw').put rw2) (fun q hq => by rw [List.getElem?_set_ne (fun z => hfx3 (by rw [z]; exact hq)), List.getElem?_set_ne (fun z => hfx2 (by rw [z]; exact hq)), List.getElem?_set_ne (fun z => hfx1 (by rw [z]; exact hq))])⟩
theorem dups2 {x y : Str} (h : [x, y].eraseDups.length = [x, y].length) : x ≠ y := by
  rintro rfl
  simp [List.eraseDups_cons] at h
theorem dups3 {x y z : Str} (h : [x, y, z].eraseDups.length = [x, y, z].length) : x ≠ y ∧ x ≠ z ∧ y ≠ z := by
  refine ⟨?_, ?_, ?_⟩ <;> rintro rfl
  · by_cases q : z = x <;> simp [List.eraseDups_cons, q] at h
  · by_cases q : y = x <;> simp [List.eraseDups_cons, q] at h
  · by_cases q : y = x <;> simp [List.eraseDups_cons, q] at h
/-! two new names -/
theorem asgN_p {i : Nat} (h : asgN own i (d, fl) E = some E') : fl ≠ .p := by
  rintro rfl
  rcases asgN_cases h with ⟨q, _⟩ | ⟨d', ho, _⟩
  · cases q
  · cases ho
theorem asgN_ok {i : Nat} (h : asgN own i (d, fl) E = some E') (ok : EOk K cad W ρ Y E S σ H) (r : VRes K cad W ρ Y E σ Hnil H d v fl) : ∃ Y', Post W ρ Y H ρ Y' H ∧ EOk K cad W ρ Y' E' S (σ.set i (some v)) H := by
  rcases asgN_cases h with ⟨rfl, rfl⟩ | ⟨d', ho, rfl⟩
  · exact ⟨Y, Post.refl, ok.putOwn r⟩
  · obtain ⟨Y', p', ok', r'⟩ := share' ho r ok
    exact ⟨Y', p', ok'.put r'⟩
theorem VRes.slots {E' : Env} {σ' : St} (r : VRes K cad W' ρ Y E σ H0 H d v fl) (hf : fl ≠ .p) (hw : ∀ a, W a → W' a) (h : ∀ (j : Nat) (e : D), E'[j]? = some (some (e, true)) → (E[j]? = some (some (e, true)) ∧ σ'[j]? = σ[j]?) ∨ ∃ p, σ'[j]? = some (some (V.ref p)) ∧ W' p) : VRes K cad W ρ Y E' σ' Hnil H d v fl := by
  cases fl with
  | v => exact r
  | p => exact absurd rfl hf
  | f =>
    obtain ⟨p, rfl, c, x, w, m, _, o⟩ := r
    refine ⟨p, rfl, c, x, fun z => w (hw p z), m, rfl, fun j e he z => ?_⟩
    rcases h j e he with ⟨a1, a2⟩ | ⟨p', a1, a2⟩
    · rw [a2] at z; exact o j e a1 z
    · rw [a1] at z; cases z; exact w a2
theorem setE_own {i : Nat} {z : D × Bool} (j : Nat) (e : D) (h : (setE E i z)[j]? = some (some (e, true))) : (j = i ∧ z = (e, true) ∧ i < E.length) ∨ (j ≠ i ∧ E[j]? = some (some (e, true))) := by
  unfold setE at h
  by_cases hij : i = j
  · subst hij
    have hi : i < E.length := by
      have := (List.getElem?_eq_some_iff.mp h).1
      rwa [List.length_set] at this
    rw [List.getElem?_set_self hi] at h
    cases h
    exact .inl ⟨rfl, rfl, hi⟩
  · rw [List.getElem?_set_ne hij] at h
    exact .inr ⟨fun z => hij z.symm, h⟩
theorem par_first {i : Nat} {S2 : Sto} {d2 : D} {f2 : Fl} {E3 : Env} (h3 : asgN own i (d, fl) E2 = some E3) (ok1 : EOk K cad W ρ1 Y1 E1 S1 σ H1) (r1 : VRes K cad W ρ1 Y1 E1 σ H0 H1 d v fl) :
    ∃ W' Y1', (∀ a, W a → W' a) ∧ Post W ρ1 Y1 H1 ρ1 Y1' H1 ∧ EOk K cad W' ρ1 Y1' E1 S1 σ H1 ∧ ∀ (ρ2 : List Addr) (Y2 : Addr → Prop) (H2 : Hp) (v2 : V), Post W' ρ1 Y1' H1 ρ2 Y2 H2 → EOk K cad W' ρ2 Y2 E2 S2 σ H2 → VRes K cad W' ρ2 Y2 E2 σ H1 H2 d2 v2 f2 → f2 ≠ .p → EOk K cad W ρ2 Y2 E3 S2 (σ.set i (some v)) H2 ∧ VRes K cad W ρ2 Y2 E3 (σ.set i (some v)) Hnil H2 d2 v2 f2 := by
  have key : (∃ d', one (d, fl) = some d' ∧ E3 = setE E2 i (d', false)) ∨ (fl = .f ∧ E3 = setE E2 i (d, true)) := by
    rcases asgN_cases h3 with z | z
    · exact .inr z
    · exact .inl z
  rcases key with ⟨d', ho, rfl⟩ | ⟨rfl, rfl⟩
  · obtain ⟨Y', p', ok', r'⟩ := share' ho r1.nil ok1
    refine ⟨W, Y', fun _ z => z, p', ok', fun ρ2 Y2 H2 v2 p2 ok2 r2 hf => ⟨ok2.put (r'.post p2), r2.slots hf (fun _ z => z) fun j e h => ?_⟩⟩
    rcases setE_own j e h with ⟨_, z, _⟩ | ⟨z1, z2⟩
    · cases z
    · exact .inl ⟨z2, List.getElem?_set_ne (fun q => z1 q.symm)⟩
  · obtain ⟨p, rfl, c, x, w, m, n, o⟩ := r1
    refine ⟨fun a => W a ∨ a = p, Y1, fun _ z => .inl z, Post.refl, ok1.block x m o, fun ρ2 Y2 H2 v2 p2 ok2 r2 hf => ⟨(ok2.weak (W := W) fun _ z => .inl z).putOwn ⟨p, rfl, c.mono p2.go p2.pre (fun o z => p2.kp p o (.inr rfl) z), ok2.wx p (.inr rfl), w, fun z => (ok2.cX p z).2 (.inr rfl), rfl, fun j e he z => ?_⟩, r2.slots hf (fun _ z => .inl z) fun j e h => ?_⟩⟩
    · obtain ⟨q, a1, _, _, a4, _⟩ := ok2.own j e he
      rw [a1] at z; cases z
      exact a4 (.inr rfl)
    · rcases setE_own j e h with ⟨rfl, z, hl⟩ | ⟨z1, z2⟩
      · exact .inr ⟨p, List.getElem?_set_self (by rw [← ok2.ln]; exact hl), .inr rfl⟩
      · exact .inl ⟨z2, List.getElem?_set_ne (fun q => z1 q.symm)⟩
theorem q_par2f {x y : Str} {px py p1 p2 : Pos} {k1 k2 i j : Nat} (g : Gd P M cad k cc sc X) (hi : cc.N[i]? = some x) (hj : cc.N[j]? = some y) (hk1 : X.env.kindOf x = some .local) (hk2 : X.env.kindOf y = some .local) (hne : x ≠ y) (hs1 : isStar e1 = false) (hs2 : isStar e2 = false)
    (sw : PySem.swappedStores [.Tuple [.Name x px, .Name y py] k1 p1] (.Tuple [e1, e2] k2 p2) X.env = pure (some [x, y])) (hfx1 : i ∉ fx) (hfx2 : j ∉ fx) (ha : SoundE P M cad X e1 a) (hb : SoundE P M cad X e2 b) :
    SoundS P M cad X F own fx (.Assign [.Tuple [.Name x px, .Name y py] k1 p1] (.Tuple [e1, e2] k2 p2) pos) (.par2 i j a b) := by
  intro W E S out E' S' h
  simp only [ex] at h
  obtain ⟨⟨d1, f1⟩, E1, S1, h1, h⟩ := bnd_ok h
  obtain ⟨⟨d2, f2⟩, E2, S2, h2, h⟩ := bnd_ok h
  obtain ⟨E3, h3, h⟩ := opt_ok h
  obtain ⟨E4, h4, h⟩ := opt_ok h
  cases h
  have hij : i ≠ j := fun z => by subst z; rw [hi] at hj; cases hj; exact hne rfl
  have st1 : PySem.starEach [e1, e2] X.env = (false, PySem.eval e1 X.env) :: PySem.starEach [e2] X.env := star_one _ hs1
  have st2 : PySem.starEach [e2] X.env = [(false, PySem.eval e2 X.env)] := star_one _ hs2
  have hb' : PE X e2 (fun σ H Q => ∃ W', rE X.K cad W' b E1 S1 d2 f2 E2 S' σ H Q) := ⟨fun pins s σ H Q I z => by
    obtain ⟨W', z⟩ := z
    exact (hb W' _ _ _ _ _ _ h2).run pins s σ H Q I z⟩
  have pa := L2.pa_cons (ha W _ _ _ _ _ _ h1) (L2.pa_cons hb' L2.pa_nil st2) st1
  refine PS.sub (L2.ps_par g.calm (by rw [g.nm]; exact g.nd) (by rw [g.nm]; exact hi) (by rw [g.nm]; exact hj) hij hk1 hk2 pa sw (by rfl)) fun D σ H z => ?_
  obtain ⟨ρ, Y, ok, q⟩ := z
  refine ⟨ρ, Y, ok, fun ρ1 Y1 H1 v1 p1 ok1 r1 l1 => ?_⟩
  obtain ⟨W', Y1', hW, p1', ok1', after⟩ := par_first (d2 := d2) (f2 := f2) (S2 := S') h3 ok1 r1
  refine ⟨W', ρ1, Y1', ok1', fun ρ2 Y2 H2 v2 p2 ok2 r2 l2 => ?_⟩
  obtain ⟨ok3, r3⟩ := after ρ2 Y2 H2 v2 p2 ok2 r2 (asgN_p h4)
  obtain ⟨Y3, p3, ok4⟩ := asgN_ok h4 ok3 r3
  exact ⟨v1, v2, rfl, q ρ2 Y3 H2 _ ((p1.trans p1').trans ((p2.weak hW).trans p3)) ok4 (fun l hl => by rw [List.getElem?_set_ne (fun z => hfx2 (by rw [z]; exact hl)), List.getElem?_set_ne (fun z => hfx1 (by rw [z]; exact hl))])⟩
theorem star_m {e1 e2 : Expr} (h1 : isStar e1 = false) (h2 : isStar e2 = false) : ([e1, e2].any fun | .Starred .. => true | _ => false) = false := by
  cases e1 <;> first | (cases h1; done) | (cases e2 <;> first | (cases h2; done) | rfl)
theorem par_inv {t e : Expr} {i j : Nat} {e1 e2 : Expr} (h : parOf cc sc t e = some (i, j, e1, e2)) (hsc : X.env.scope = sc) (hbk : X.env.blockKind = .function) : ∃ x y px py k1 p1 k2 p2, t = .Tuple [.Name x px, .Name y py] k1 p1 ∧ e = .Tuple [e1, e2] k2 p2 ∧ cc.N[i]? = some x ∧ cc.N[j]? = some y ∧ X.env.kindOf x = some .local ∧ X.env.kindOf y = some .local ∧ x ≠ y ∧ isStar e1 = false ∧ isStar e2 = false ∧
    PySem.swappedStores [t] e X.env = pure (some [x, y]) ∧ i ∉ cc.fix ∧ j ∉ cc.fix := by
  unfold parOf at h
  split at h
  · rename_i x px y py k1 p1 a b k2 p2
    split at h
    · rename_i hc
      split at h
      · rename_i i' j' hi hj
        split at h
        · rename_i hf
          cases h
          simp only [Bool.and_eq_true, Bool.not_eq_true', beq_iff_eq, beq_eq_false_iff_ne] at hc hf
          obtain ⟨⟨⟨⟨⟨⟨⟨c1, c2⟩, c3⟩, c4⟩, c5⟩, c6⟩, c7⟩, c8⟩ := hc
          have kx : X.env.kindOf x = some .local := by rw [← hsc] at c1; exact c1
          have ky : X.env.kindOf y = some .local := by rw [← hsc] at c2; exact c2
          refine ⟨x, y, px, py, k1, p1, k2, p2, rfl, rfl, ix_get hi, ix_get hj, kx, ky, c4, c5, c6, ?_, ?_, ?_⟩
          · have hxy : (y == x) = false := by simp only [beq_eq_false_iff_ne]; exact fun z => c4 z.symm
            have e56 : ([e1, e2].any fun | .Starred .. => true | _ => false) = false := star_m c5 c6
            unfold PySem.swappedStores
            simp only [c7, c8]
            simp [hbk, kx, ky, c3, hxy, List.eraseDups_cons, PySem.Expr.pos]
            cases e1 <;> first | (cases c5; done) | (cases e2 <;> first | (cases c6; done) | simp)
          · have := hf.1.2; simpa using this
          · have := hf.2; simpa using this
        · cases h
      · cases h
    · cases h
  · cases h
end
end Dk
end
/-! Snd19b -/
section
set_option linter.all false
set_option maxRecDepth 100000
set_option maxHeartbeats 4000000
/-! append, extend. -/
namespace Dk
open PySem (Str Addr Heap Value Shared sizeLine Expr Pos Stmt)
open L2 (V Hp HO upd Rd SqL SqT Key St VK TE PE PT PW PA PG PGs PI It PS PSs TS)
section
variable {K : Kx} {P : Prg} {M : CM} {cad : String → Option Addr} {k : Nat} {cc : Cc} {sc isc : PySem.Scope} {X : L2.Cx} {W : Addr → Prop} {ρ ρ1 : List Addr} {Y Y1 : Addr → Prop} {E E' E1 E2 : Env} {S S' S1 S2 : Sto} {d d0 : D} {fl : Fl} {σ σ' : St} {H H0 H1 : Hp} {Q : VK} {e e1 e2 e3 tg : Expr} {es ifs : List Expr} {cs : CEs} {a b c : CE} {pos p tp apos cpos : Pos} {n kk F i : Nat} {v : V} {own fx : List Nat}
theorem app_of {e : Expr} {x : Str} {m : Bool} {a : Expr} (h : appOf e = some (x, m, a)) : ∃ p apos cpos, (apos.endLine == cpos.line) = true ∧ e = .Call (.Attribute (.Name x p) (if m then "append" else "extend") apos) [a] [] cpos := by
  unfold appOf at h
  split at h
  · rename_i x' p m' apos a' cpos
    split at h
    · rename_i hl
      split at h
      · rename_i hm
        cases h
        exact ⟨p, apos, cpos, hl, by rw [beq_iff_eq.mp hm]; rfl⟩
      · split at h
        · rename_i hm
          cases h
          exact ⟨p, apos, cpos, hl, by rw [beq_iff_eq.mp hm]; rfl⟩
        · cases h
    · cases h
  · cases h
theorem own_list (ok : EOk K cad W ρ Y E S σ H) {l : List D} (h : ownL E[i]? = some l) : ∃ p vs, σ[i]? = some (some (V.ref p)) ∧ H p = some (.lst vs) ∧ Y p := by
  unfold ownL at h
  split at h
  · rename_i l' he
    obtain ⟨p, a1, a2, a3, _⟩ := ok.own i _ he
    simp only [Cont] at a2
    obtain ⟨vs, h1, h2⟩ := a2
    exact ⟨p, vs, a1, h1, a3⟩
  · cases h
theorem q_appx {x : Str} {m : Bool} {ae : Expr} (g : Gd P M cad k cc sc X) (hap : appOf e = some (x, m, ae)) (hv : isVis sc x = true) (ho : okNm x = true) (hst : isStar ae = false) (hi : cc.N[i]? = some x) (hfx : i ∉ fx) (ha : SoundE P M cad X ae a) :
    SoundS P M cad X F own fx (.Expr e pos) (if m then .app i a else .ext i a) := by
  obtain ⟨p, apos, cpos, hline, rfl⟩ := app_of hap
  intro W E S out E' S' h
  have st1 : PySem.starEach [ae] X.env = [(false, PySem.eval ae X.env)] := star_one _ hst
  have few : ((PySem.backTo cpos (PySem.starEach [ae] X.env)).all (fun x => !x.1) && (PySem.backToKw cpos (PySem.keywordEach [] X.env)).all (fun x => x.1.isSome) && decide ([ae].length + ([] : List PySem.Keyword).length + (if ([] : List PySem.Keyword).isEmpty then 0 else 1) < 30)) = true := by rw [st1]; rfl
  have ho' : (x == ("__debug__" : Str)) = false ∧ (x == ("__classdict__" : Str)) = false := by
    unfold okNm at ho
    simp only [Bool.and_eq_true, Bool.not_eq_true'] at ho
    exact ⟨ho.1.1, ho.1.2⟩
  have pv : PE X (.Name x p) (L2.tVar i) := L2.pe_var (i := i) (by rw [g.nm]; exact hi) (g.vis x hv) ho'.1 ho'.2
  cases m with
  | true =>
    simp only [if_true, ex] at h
    obtain ⟨l0, h0, h⟩ := opt_ok h
    obtain ⟨⟨d, fl⟩, E1, S1, h1, h⟩ := bnd_ok h
    obtain ⟨d', hd, h⟩ := opt_ok h
    obtain ⟨l, hl, h⟩ := opt_ok h
    cases h
    have pa := L2.pa_cons (ha W _ _ _ _ _ _ h1) L2.pa_nil st1
    refine PS.sub (L2.ps_expr (L2.pe_bm PySem.F.plainAttrs_list PySem.F.slot_list_append PySem.F.type_list_append L2.mt_append pv pa rfl few hline st1 (by rfl)) rfl) fun D σ H z => ?_
    obtain ⟨ρ, Y, ok, q⟩ := z
    obtain ⟨p0, vs0, s0, hp0, _⟩ := own_list ok h0
    refine ⟨_, s0, .inl ⟨rfl, _, .inl (.inl hp0)⟩, ρ, Y, ok, fun ρ1 Y1 H1 v1 p1 ok1 r1 l1 => ?_⟩
    obtain ⟨Y2, p2, ok2, r2⟩ := VRes.share hd r1 ok1 p1
    unfold appO at hl
    split at hl
    · rename_i l' hE
      split at hl
      · rename_i hlen
        cases hl
        obtain ⟨p', a1, a2, a3, a4, a5⟩ := ok2.own i _ hE
        rw [s0] at a1; cases a1
        simp only [Cont] at a2
        obtain ⟨vs, hH, rs⟩ := a2
        refine ⟨_, _, _, rfl, rfl, hH, Nat.lt_of_lt_of_le (by rw [rs.length]; exact hlen) lim_line, ?_⟩
        obtain ⟨t1, t2⟩ := ok2.own_set (o := .lst (vs ++ [v1])) (d := .lst (l' ++ [d'])) hE s0 (by
          simp only [Cont]
          exact ⟨_, L2.upd_same, (rs.append (Reps.one r2)).mono (go_in a3) self_pre⟩)
        exact q _ _ _ _ (p2.trans t1) t2 (fun _ _ => rfl)
      · cases hl
    · cases hl
  | false =>
    simp only [Bool.false_eq_true, if_false, ex] at h
    obtain ⟨l0, h0, h⟩ := opt_ok h
    obtain ⟨⟨d, fl⟩, E1, S1, h1, h⟩ := bnd_ok h
    obtain ⟨l, hl, h⟩ := opt_ok h
    cases h
    have pa := L2.pa_cons (ha W _ _ _ _ _ _ h1) L2.pa_nil st1
    refine PS.sub (L2.ps_expr (L2.pe_bm PySem.F.plainAttrs_list PySem.F.slot_list_extend PySem.F.type_list_extend mt_extL pv pa rfl few hline st1 (by rfl)) rfl) fun D σ H z => ?_
    obtain ⟨ρ, Y, ok, q⟩ := z
    obtain ⟨p0, vs0, s0, hp0, _⟩ := own_list ok h0
    refine ⟨_, s0, .inl ⟨rfl, _, .inl (.inl hp0)⟩, ρ, Y, ok, fun ρ1 Y1 H1 v1 p1 ok1 r1 l1 => ?_⟩
    unfold extO at hl
    split at hl
    · rename_i l' m' hE heq
      cases heq
      split at hl
      · rename_i hlen
        cases hl
        obtain ⟨p', a1, a2, a3, a4, a5⟩ := ok1.own i _ hE
        rw [s0] at a1; cases a1
        simp only [Cont] at a2
        obtain ⟨vs, hH, rs⟩ := a2
        have r1f : VRes X.K cad W ρ1 Y1 E1 σ H H1 (.lst m') v1 .f := r1
        obtain ⟨pf, rfl, c, x, w, m, nn, oo⟩ := r1f
        simp only [Cont] at c
        obtain ⟨ws, hW, rw'⟩ := c
        refine ⟨_, _, _, _, rfl, rfl, hH, .inl (.inl hW), Nat.le_trans (by rw [rs.length, rw'.length]; exact hlen) lim_line, ?_⟩
        obtain ⟨t1, t2⟩ := ok1.own_set (o := .lst (vs ++ ws)) (d := .lst (l' ++ m')) hE s0 (by
          simp only [Cont]
          exact ⟨_, L2.upd_same, (rs.append rw').mono (go_in a3) self_pre⟩)
        exact q _ _ _ _ (p1.trans t1) t2 (fun _ _ => rfl)
      · cases hl
    · rename_i l' m' hE heq
      cases heq
      split at hl
      · rename_i hlen
        cases hl
        obtain ⟨p', a1, a2, a3, a4, a5⟩ := ok1.own i _ hE
        rw [s0] at a1; cases a1
        simp only [Cont] at a2
        obtain ⟨vs, hH, rs⟩ := a2
        have r1f : Rep X.K cad Y1 ρ1 H1 (.lst m') v1 := r1
        simp only [Rep] at r1f
        obtain ⟨pf, ws, rfl, hW, rw'⟩ := r1f
        refine ⟨_, _, _, _, rfl, rfl, hH, hW.elim (fun z => Or.inl z.2) Or.inr, Nat.le_trans (by rw [rs.length, rw'.length]; exact hlen) lim_line, ?_⟩
        obtain ⟨t1, t2⟩ := ok1.own_set (o := .lst (vs ++ ws)) (d := .lst (l' ++ m')) hE s0 (by
          simp only [Cont]
          exact ⟨_, L2.upd_same, (rs.append rw').mono (go_in a3) self_pre⟩)
        exact q _ _ _ _ (p1.trans t1) t2 (fun _ _ => rfl)
      · cases hl
    · cases hl
end
end Dk
end
/-! Snd20 -/
section
set_option linter.all false
set_option maxRecDepth 100000
set_option maxHeartbeats 4000000
/-! The compiler's statements keep to their readings. -/
namespace Dk
open PySem (Str Addr Heap Value Shared sizeLine Expr Pos Stmt)
open L2 (V Hp HO upd Rd SqL SqT Key St VK TE PE PT PW PA PG PGs PI It PS PSs TS)

section
variable {K : Kx} {P : Prg} {M : CM} {cad : String → Option Addr} {k : Nat} {cc : Cc} {sc isc : PySem.Scope} {X : L2.Cx} {W : Addr → Prop} {ρ ρ1 : List Addr} {Y Y1 : Addr → Prop} {E E' E1 E2 : Env} {S S' S1 S2 : Sto} {d d0 : D} {fl : Fl} {σ σ' : St} {H H0 H1 : Hp} {Q : VK} {e e1 e2 e3 tg : Expr} {es ifs : List Expr} {cs : CEs} {a b c : CE} {pos p tp : Pos} {n kk F : Nat} {v : V} {own fx : List Nat}
theorem no_set (h : cE n cc sc e = some c) : (∀ a b c d, e ≠ .SetComp a b c d) ∧ (∀ a b c d f, e ≠ .DictComp a b c d f) := by
  cases n with
  | zero => simp [cE] at h
  | succ n => exact ⟨by rintro _ _ _ _ rfl; simp [cE] at h, by rintro _ _ _ _ _ rfl; simp [cE] at h⟩
theorem nms {ts : List Expr} {x : Str} {px : Pos} {r : List Expr} {n : Nat} {cts : List CT} (h : seqO ((Expr.Name x px :: r).map (cT (n + 1) cc sc)) = some cts) : ∃ i cr, cc.N[i]? = some x ∧ cts = .nm i :: cr ∧ seqO (r.map (cT (n + 1) cc sc)) = some cr := by
  obtain ⟨t, cr, h1, h2, rfl⟩ := seqO_cons h
  simp only [cT] at h1
  split at h1
  · obtain ⟨i, hi, rfl⟩ := Option.map_eq_some_iff.mp h1
    exact ⟨i, cr, ix_get hi, rfl, h2⟩
  · cases h1
theorem len2 {α : Type} {l : List α} (h : l.length = 2) : ∃ a b, l = [a, b] := by
  match l, h with
  | [a, b], _ => exact ⟨a, b, rfl⟩
theorem len3 {α : Type} {l : List α} (h : l.length = 3) : ∃ a b c, l = [a, b, c] := by
  match l, h with
  | [a, b, c], _ => exact ⟨a, b, c, rfl⟩
theorem cE_tup {vs : List Expr} {q : Nat} (h : cE (n + 1) cc sc (.Tuple vs q p) = some c) : ∃ cs, cDs n cc sc vs = some cs ∧ c = .tup cs := by
  simp only [cE] at h
  split at h
  · obtain ⟨cs, hcs, rfl⟩ := Option.map_eq_some_iff.mp h
    exact ⟨cs, hcs, rfl⟩
  · cases h
theorem cE_lc {gs : List PySem.Comprehension} (h : cE (n + 1) cc sc (.ListComp elt gs isc p) = some c) : (∃ t it ifs tg ci cs el, gs = [⟨t, it, ifs, 0⟩] ∧ c = .lc el tg ci cs ∧ cTg 9 cc isc t = some tg ∧ cI n cc sc t it = some ci ∧ cIf n cc isc ifs = some cs ∧ cE n cc isc elt = some el ∧
    L2.blkC cc.N sc isc (ownOf cc.N (slots tg)) = true ∧ (ownOf cc.N (slots tg)).map (·.2) = slots tg) ∨
    (∃ t x ip ifs tg i cs el, gs = [⟨t, .Name x ip, ifs, 0⟩] ∧ c = .lco el tg i cs ∧ cc.N[i]? = some x ∧ isVis sc x = true ∧ okNm x = true ∧ cTg 9 cc isc t = some tg ∧ cIf n cc isc ifs = some cs ∧ cE n cc isc elt = some el ∧
    L2.blkC cc.N sc isc (ownOf cc.N (slots tg)) = true ∧ (ownOf cc.N (slots tg)).map (·.2) = slots tg) ∨
    (∃ t it ifs t1 it1 ifs1 tg ci cs tg1 ci1 cs1 el, gs = [⟨t, it, ifs, 0⟩, ⟨t1, it1, ifs1, 0⟩] ∧ c = .lc2 el tg ci cs tg1 ci1 cs1 ∧ cTg 9 cc isc t = some tg ∧ cI n cc sc t it = some ci ∧ cIf n cc isc ifs = some cs ∧ cTg 9 cc isc t1 = some tg1 ∧ cI n cc isc t1 it1 = some ci1 ∧ cIf n cc isc ifs1 = some cs1 ∧ cE n cc isc elt = some el ∧
    L2.blkC cc.N sc isc (ownOf cc.N (slots tg ++ slots tg1)) = true ∧ (ownOf cc.N (slots tg ++ slots tg1)).map (·.2) = slots tg ++ slots tg1) := by
  unfold cE at h
  split at h <;> first | (rename_i q; cases q; done) | skip
  · rename_i heq
    cases heq
    split at h
    · rename_i h1 h2 h3 h4 h5 h6 h7
      split at h
      · rename_i hb
        cases h
        rw [Bool.and_eq_true] at hb
        exact .inr (.inr ⟨_, _, _, _, _, _, _, _, _, _, _, _, _, rfl, rfl, h1, h2, h3, h4, h5, h6, h7, hb.1, by simpa using hb.2⟩)
      · cases h
    · cases h
  · rename_i heq
    cases heq
    split at h
    · rename_i hown
      unfold ownIt at hown
      split at hown
      · split at hown
        · rename_i hx
          rw [Bool.and_eq_true] at hx
          obtain ⟨i, hi, hown⟩ := Option.bind_eq_some_iff.mp hown
          split at hown
          · cases hown
            split at h
            · rename_i h1 h3 h4
              split at h
              · rename_i hb
                cases h
                rw [Bool.and_eq_true] at hb
                exact .inr (.inl ⟨_, _, _, _, _, _, _, _, rfl, rfl, ix_get hi, hx.2, hx.1, h1, h3, h4, hb.1, by simpa using hb.2⟩)
              · cases h
            · cases h
          · cases hown
        · cases hown
      · cases hown
    · split at h
      · rename_i h1 h2 h3 h4
        split at h
        · rename_i hb
          cases h
          rw [Bool.and_eq_true] at hb
          exact .inl ⟨_, _, _, _, _, _, _, rfl, rfl, h1, h2, h3, h4, hb.1, by simpa using hb.2⟩
        · cases h
      · cases h
  · cases h
theorem cT_nm {y : Str} {ct : CT} (h : cT (n + 1) cc sc (.Name y p) = some ct) : ∃ i, cc.N[i]? = some y ∧ ct = .nm i := by
  simp only [cT] at h
  split at h
  · obtain ⟨i, hi, rfl⟩ := Option.map_eq_some_iff.mp h
    exact ⟨i, ix_get hi, rfl⟩
  · cases h
theorem cT_tup {ts : List Expr} {q : Nat} {ct : CT} (h : cT (n + 1) cc sc (.Tuple ts q p) = some ct) : ∃ cts, seqO (ts.map (cT n cc sc)) = some cts ∧ ct = .tp cts := by
  simp only [cT] at h
  split at h
  · cases h
  · obtain ⟨cts, hcts, rfl⟩ := Option.map_eq_some_iff.mp h
    exact ⟨cts, hcts, rfl⟩
theorem q_asg {t : Expr} {ct : CT} (g : Gd P M cad k cc sc X) (hp : parOk t e = true) (ht : cT 9 cc sc t = some ct) (he : cE 99 cc sc e = some c) (hfx : ∀ i, i ∈ fx → i ∉ slT ct) : SoundS P M cad X F own fx (.Assign [t] e pos) (.asg ct c) := by
  have all := snd_all (P := P) (M := M) (cad := cad) (k := k) (cc := cc)
  have se := (all 99).e g he
  have st := tg_sound (P := P) (M := M) (own := own) g 9 t ct ht
  obtain ⟨ns, nd⟩ := no_set he
  cases t with
  | Name y py =>
    have w0 : PySem.swappedStores [.Name y py] e X.env = pure none := by first | rfl | (cases e <;> rfl)
    by_cases hl : isLC e = true
    · cases e <;> first | (simp [isLC] at hl; done) | skip
      rename_i elt gs isc lpos
      rcases swap_bool (elt := elt) (gs := gs) (isc := isc) (pos := lpos) (y := y) (py := py) (l := pos.line) (env := X.env) with sw | ⟨sw, hk⟩
      · exact asg_plain sw w0 hfx rfl se st
      · rcases cE_lc (n := 98) he with ⟨t, it, ifs, tg, ci, cs, el, rfl, rfl, h1, h2, h3, h4, h5, h6⟩ | ⟨t, x, ip, ifs, tg, i0, cs, el, rfl, rfl, hx0, hxv, hxo, h1, h3, h4, h5, h6⟩ | ⟨t, it, ifs, t1, it1, ifs1, tg, ci, cs, tg1, ci1, cs1, el, rfl, rfl, h1, h2, h3, k1, k2, k3, h4, h5, h6⟩
        rotate_left
        · obtain ⟨i, hi, rfl⟩ := cT_nm (n := 8) ht
          exact asg_lco g hi hk hx0 hxv hxo sw h5 h6 (fun s H C cl fp => any_G (g_sound (g.blk s H C cl fp) _ _ _ h1)) (fun s H C cl fp => (all 98).f (g.blk s H C cl fp) h3) (fun s H C cl fp => any_E ((all 98).e (g.blk s H C cl fp) h4)) (fun z => hfx i z (by simp [slT]))
        · obtain ⟨i1, i2⟩ := (all 98).i g h2
          obtain ⟨i, hi, rfl⟩ := cT_nm (n := 8) ht
          exact asg_lc2 g hi hk sw h5 h6 i1 (fun s H C cl fp => any_G (g_sound (g.blk s H C cl fp) _ _ _ h1)) (fun s H C cl fp => (all 98).f (g.blk s H C cl fp) h3) (fun s H C cl fp => any_I ((all 98).i (g.blk s H C cl fp) k2).1) (fun s H C cl fp => any_G (g_sound (g.blk s H C cl fp) _ _ _ k1)) (fun s H C cl fp => (all 98).f (g.blk s H C cl fp) k3) (fun s H C cl fp => any_E ((all 98).e (g.blk s H C cl fp) h4)) i2 (cI_noset k2) (fun z => hfx i z (by simp [slT]))
        obtain ⟨i1, i2⟩ := (all 98).i g h2
        obtain ⟨i, hi, rfl⟩ := cT_nm (n := 8) ht
        exact asg_lc g hi hk sw h5 h6 i1 (fun s H C cl fp => any_G (g_sound (g.blk s H C cl fp) _ _ _ h1)) (fun s H C cl fp => (all 98).f (g.blk s H C cl fp) h3) (fun s H C cl fp => any_E ((all 98).e (g.blk s H C cl fp) h4)) i2 (fun z => hfx i z (by simp [slT]))
    · have sw : PySem.swapsWithSole [.Name y py] e pos.line X.env = pure false := by
        cases e <;> first | (simp [isLC] at hl; done) | exact absurd rfl (ns _ _ _ _) | exact absurd rfl (nd _ _ _ _ _) | rfl
      exact asg_plain sw w0 hfx rfl se st
  | Tuple ts tk tp =>
    have sw : PySem.swapsWithSole [.Tuple ts tk tp] e pos.line X.env = pure false := by cases e <;> rfl
    by_cases hv : ∃ vs k2 p2, e = .Tuple vs k2 p2
    · obtain ⟨vs, k2, p2, rfl⟩ := hv
      rcases swap_cases (ts := ts) (vs := vs) (k1 := tk) (k2 := k2) (p1 := tp) (p2 := p2) X.env hp with w0 | ⟨w1, hlen, hvl, hnl, hdup⟩
      · exact asg_plain sw w0 hfx rfl se st
      · obtain ⟨cs, hcs, rfl⟩ := cE_tup (n := 98) he
        have sa := (all 98).d g hcs
        obtain ⟨cts, hts, rfl⟩ := cT_tup (n := 8) ht
        rcases hlen with h2 | h3
        · obtain ⟨t1, t2, rfl⟩ := len2 h2
          obtain ⟨e1, e2, rfl⟩ := len2 (hvl.trans h2)
          obtain ⟨x, y, px, py, rfl, rfl, kx, ky, hsw⟩ := sw_two (env := X.env) (hnl.trans h2)
          rw [hsw] at w1 hdup
          obtain ⟨i, cr1, hi, rfl, hr1⟩ := nms (ts := []) hts
          obtain ⟨j, cr2, hj, rfl, hr2⟩ := nms (ts := []) hr1
          simp only [List.map_nil, seqO] at hr2
          cases hr2
          exact q_par2 g hi hj kx ky (dups2 hdup) w1 (fun z => hfx _ z (by simp [slT, slT.go])) (fun z => hfx _ z (by simp [slT, slT.go])) sa
        · obtain ⟨t1, t2, t3, rfl⟩ := len3 h3
          obtain ⟨e1, e2, e3, rfl⟩ := len3 (hvl.trans h3)
          obtain ⟨x, y, z, px, py, pz, rfl, rfl, rfl, kx, ky, kz, hsw⟩ := sw_three (env := X.env) (hnl.trans h3)
          rw [hsw] at w1 hdup
          obtain ⟨i, cr1, hi, rfl, hr1⟩ := nms (ts := []) hts
          obtain ⟨j, cr2, hj, rfl, hr2⟩ := nms (ts := []) hr1
          obtain ⟨l, cr3, hl, rfl, hr3⟩ := nms (ts := []) hr2
          simp only [List.map_nil, seqO] at hr3
          cases hr3
          obtain ⟨n1, n2, n3⟩ := dups3 hdup
          exact q_par3 g hi hj hl kx ky kz n1 n2 n3 w1 (fun z => hfx _ z (by simp [slT, slT.go])) (fun z => hfx _ z (by simp [slT, slT.go])) (fun z => hfx _ z (by simp [slT, slT.go])) sa
    · have w0 : PySem.swappedStores [.Tuple ts tk tp] e X.env = pure none := by
        cases e <;> first | exact absurd ⟨_, _, _, rfl⟩ hv | rfl
      exact asg_plain sw w0 hfx rfl se st
  | Attribute o f fp =>
    exact asg_plain (by cases e <;> rfl) (by first | rfl | (cases e <;> rfl)) hfx rfl se st
  | Subscript o i fp =>
    exact asg_plain (by cases e <;> rfl) (by first | rfl | (cases e <;> rfl)) hfx rfl se st
  | _ => simp [cT] at ht
/-- a list that is handed back as a cell -/
theorem s_newcell (hl : es.length ≤ 1000) (hlen : ∀ (W : Addr → Prop) E S l E' S', evs P M.call M.make cs E S = some (.ok l, E', S') → l.length = es.length) (ha : SoundA P M cad X es cs) : SoundE P M cad X (.List es pos) (.newcell cs) := by
  intro W E S d fl E' S' h
  simp only [ev] at h
  obtain ⟨l, E1, S1, h1, h⟩ := bnd_ok h
  obtain ⟨m, hm, h⟩ := opt_ok h
  cases h
  refine PE.sub (L2.pe_lst (ha W _ _ _ _ _ h1)) fun σ H Q z => ?_
  obtain ⟨ρ, Y, ok, q⟩ := z
  refine ⟨ρ, Y, ok, fun ρ1 Y1 H1 vs p1 ok1 r1 => ?_⟩
  have rs := r1.reps hm
  have ll : m.length = es.length := by
    rw [← hlen W _ _ _ _ _ h1]
    unfold notP at hm
    split at hm
    · cases hm; simp
    · cases hm
  refine ⟨by rw [rs.length, ll]; exact Nat.le_trans hl (by rw [PySem.sizeLine_eq]; decide), fun p hp => ?_⟩
  obtain ⟨g0, p0, ok0, wD, rD, oD⟩ := ok1.aside (o := .lst vs) hp
  have pre : ∃ l, ρ1 ++ [p] = ρ1 ++ l := ⟨_, rfl⟩
  have id0 : Go (fun a => Y1 a ∨ a = p) (upd H1 p (.lst vs)) (fun a => Y1 a ∨ a = p) (upd H1 p (.lst vs)) := Go.refl
  have okc : EOk X.K cad W (ρ1 ++ [p]) (fun a => Y1 a ∨ a = p) E' (S1 ++ [.lst m]) σ (upd H1 p (.lst vs)) := by
    refine ⟨⟨by simp [ok0.len], fun n o q h2 h3 => ?_, fun q hq => ?_, ?_, ok0.wx, ok0.dom⟩, fun i d h2 => ?_, fun i d h2 => ?_, ok0.sep, ok0.ln⟩
    · by_cases hn : n < ρ1.length
      · rw [List.getElem?_append_left hn] at h3
        rw [List.getElem?_append_left (by rw [ok0.len]; exact hn)] at h2
        exact (ok0.cells n o q h2 h3).mono id0 pre (fun _ z => z)
      · rw [List.getElem?_append_right (by omega)] at h3
        rw [List.getElem?_append_right (by rw [ok0.len]; omega)] at h2
        rw [ok0.len] at h2
        have hz : n - ρ1.length = 0 := by
          have := (List.getElem?_eq_some_iff.mp h3).1
          simp at this
          omega
        rw [hz] at h2 h3
        cases h2
        cases h3
        simp only [CellC, Cont]
        exact ⟨vs, L2.upd_same, (rs.mono g0 self_pre).mono id0 pre⟩
    · rcases List.mem_append.mp hq with z | z
      · exact ok0.cX q z
      · simp at z; subst z; exact ⟨.inr rfl, wD⟩
    · rw [List.nodup_append]
      refine ⟨ok0.nd, by simp, fun a ha b hb z => ?_⟩
      simp at hb
      subst hb
      subst z
      exact rD ha
    · obtain ⟨v, x, y⟩ := ok0.val i d h2
      exact ⟨v, x, y.mono id0 pre⟩
    · obtain ⟨q, x1, x2, x3, x4, x5⟩ := ok0.own i d h2
      refine ⟨q, x1, x2.mono id0 pre (fun _ z => z), x3, x4, fun z => ?_⟩
      rcases List.mem_append.mp z with z | z
      · exact x5 z
      · simp at z; subst z; exact oD i d h2 x1
  have pc : Post W ρ1 Y1 H1 (ρ1 ++ [p]) (fun a => Y1 a ∨ a = p) (upd H1 p (.lst vs)) := by
    refine ⟨pre, fun a h => ?_, p0.go, p0.kp, p0.up⟩
    rcases List.mem_append.mp h with z | z
    · exact .inl z
    · simp at z; subst z; exact .inr hp
  refine q _ _ _ _ (p1.trans pc) okc ?_ (fun i e => by cases e)
  simp only [VRes, Rep]
  exact ⟨p, rfl, by rw [ok1.len]; simp⟩

structure SndS (P : Prg) (M : CM) (cad : String → Option Addr) (k : Nat) (cc : Cc) (F : Nat) (own fx : List Nat) (n : Nat) : Prop where
  s : ∀ {X : L2.Cx} {sc : PySem.Scope} {s : Stmt} {c : CS}, Gd P M cad k cc sc X → X.env.scope = sc ∧ X.env.blockKind = .function → PySem.PassesOwn (PySem.model X.prog X.w) X.A X.env X.xe → cS n cc sc s = some c → SoundS P M cad X F own fx s c
  ss : ∀ {X : L2.Cx} {sc : PySem.Scope} {s : List Stmt} {c : CSs}, Gd P M cad k cc sc X → X.env.scope = sc ∧ X.env.blockKind = .function → PySem.PassesOwn (PySem.model X.prog X.w) X.A X.env X.xe → cSs n cc sc s = some c → SoundSs P M cad X F own fx s c
theorem fx_of {l m : List Nat} (h : ¬ (l.any m.contains = true)) : ∀ i, i ∈ l → i ∉ m := fun i hi hm => h (List.any_eq_true.mpr ⟨i, hi, by simpa using hm⟩)
theorem sndS_all : ∀ n, SndS P M cad k cc F own cc.fix n
  | 0 => by
    refine ⟨fun _ _ _ h => by simp [cS] at h, fun {X sc s c} g hb hp h => ?_⟩
    cases s with
    | nil => simp only [cSs] at h; cases h; exact q_nil
    | cons => simp [cSs] at h
  | n + 1 => by
    have ih := sndS_all n
    have all := snd_all (P := P) (M := M) (cad := cad) (k := k) (cc := cc)
    refine ⟨fun {X sc s c} g hb hp h => ?_, fun {X sc s c} g hb hp h => ?_⟩
    · simp only [cS] at h
      split at h
      · split at h
        · rename_i hpar
          obtain ⟨x, y, px, py, k1, p1, k2, p2, rfl, rfl, hi, hj, kx, ky, hne, s1, s2, sw, f1, f2⟩ := par_inv hpar hb.1 hb.2
          split at h
          · rename_i h1 h2
            cases h
            exact q_par2f g hi hj kx ky hne s1 s2 sw f1 f2 ((all 99).e g h1) ((all 99).e g h2)
          · cases h
        · split at h
          · rename_i hpo
            split at h
            · rename_i h1 h2
              split at h
              · cases h
              · rename_i hfx
                cases h
                exact q_asg g hpo h1 h2 (fx_of hfx)
            · cases h
          · cases h
      · split at h
        · rename_i x m a hap
          split at h
          · rename_i hc
            simp only [Bool.and_eq_true, Bool.not_eq_true'] at hc
            obtain ⟨⟨⟨c1, c2⟩, c3⟩, c4⟩ := hc
            split at h
            · rename_i i ac hi ha
              split at h
              · cases h
              · rename_i hfx
                cases h
                exact q_appx g hap c2 c3 c4 (ix_get hi) (fun z => by simp at hfx; exact hfx z) ((all 99).e g ha)
            · cases h
          · cases h
        · split at h
          · cases h
          · rename_i hl
            obtain ⟨a, ha, rfl⟩ := Option.map_eq_some_iff.mp h
            obtain ⟨ns, nd⟩ := no_set ha
            exact q_expr (by simpa using hl) ns nd ((all 99).e g ha)
      · cases h; exact q_retN
      · split at h
        · split at h
          · split at h
            · rename_i hl
              obtain ⟨a, ha, rfl⟩ := Option.map_eq_some_iff.mp h
              exact q_ret (s_newcell hl (fun W => evs_len _ _ _ ha) ((all 99).a g ha))
            · cases h
          · obtain ⟨a, ha, rfl⟩ := Option.map_eq_some_iff.mp h
            exact q_ret ((all 99).e g ha)
        · obtain ⟨a, ha, rfl⟩ := Option.map_eq_some_iff.mp h
          exact q_ret ((all 99).e g ha)
      · split at h
        · rename_i h1 h2 h3
          cases h
          exact q_if ((all 99).t g h1) (ih.ss g hb hp h2) (ih.ss g hb hp h3)
        · cases h
      · split at h
        · rename_i h1 h2 h3
          split at h
          · cases h
          · rename_i hfx
            cases h
            obtain ⟨i1, i2⟩ := (all 99).i g h2
            exact q_for hp g.calm i1 i2 (fx_of hfx) (g_sound g _ _ _ h1) (ih.ss g hb hp h3)
        · cases h
      · split at h
        · rename_i h1 h2
          cases h
          exact q_while hp ((all 99).t g h1) (ih.ss g hb hp h2)
        · cases h
      · cases h; exact q_pass
      · cases h; exact q_raise
      · cases h
    · cases s with
      | nil => simp only [cSs] at h; cases h; exact q_nil
      | cons s ss =>
        simp only [cSs] at h
        split at h
        · rename_i h1 h2
          cases h
          exact q_cons (ih.s g hb hp h1) (ih.ss g hb hp h2)
        · cases h
end
end Dk
end
/-! Snd21 -/
section
set_option linter.all false
set_option maxRecDepth 100000
set_option maxHeartbeats 4000000
/-! Defs keep their promises. -/
namespace Dk
open PySem (Str Addr Heap Value Shared sizeLine Expr Pos Stmt Around Args Obj FuncData Program World codeAny wpAny model BindsTo Scope)
open L2 (V Hp HO upd Rd SqL SqT Key St VK TE PE PT PW PA PG PGs PI It PS PSs TS Inv Vals Room)

/-- the context of a body that lets no exception out -/
def cxG (pr : Program) (w : World) (K : Kx) (mg : Str → Option Value) (base : Heap) (N : List Str) (qual : Str) (scope : Scope) (f : Addr) (cd : Value) (R : Around) (st : List PySem.Env) (z : Shared) (H : Hp) : L2.Cx :=
  (L2.cxOf (fun _ _ _ _ _ _ => False) pr w K mg base N qual scope f cd R st z H (fun _ _ _ => False)).nox
section
variable {pr : Program} {w : World} {K : Kx} {mg : Str → Option Value} {base : Heap} {k : Nat} {f : Addr} {name qual : Str} {params : PySem.Arguments} {body : List Stmt} {scope : Scope} {dV kV doc pm cdv ct oc : Value} {an od : Option Addr}
    {osl : Array (Option Value)} {N ps : List Str} {sp : SpG}
theorem fn_g (lk : K.lookup f = some ⟨oc, od, .func (PySem.W.fnOf name qual params body scope dV kV doc pm an cdv ct), osl⟩) (hcd : PySem.W.codeIn K cdv qual = true) (sc : L2.FnScope N ps scope) (len : ∀ vs H Q, sp vs H Q → vs.length = ps.length)
    (hbody : ∀ (R : Around) (st : List PySem.Env) (z : Shared) (H : Hp) (vs : List V) (Q : VK), Room k (R.deeper (PyProof.Rows.envOfC qual scope z.heap.objs.size f cdv)) → R.guards = some [] → sp vs H Q →
      ∃ t, PSs (cxG pr w K mg base N qual scope f cdv R st z H) body t ∧ t { nx := fun _ H' => Q .non H', rt := Q } (L2.start N vs) H) :
    FnG pr w K mg base (k + 1) f (PySem.W.fnOf name qual params body scope dV kV doc pm an cdv ct) ps sp := by
  refine ⟨len, fun R st z H args us vs Q hr hg e0 hb rv hsp => ?_⟩
  have ln := len _ _ _ hsp
  have kin : K.In z.heap := e0.mod.kin.keeps fun b o q => (e0.bs b o q).1
  have nol : z.heap.NoLimit := e0.mod.nolimit.keeps fun b o q => (e0.bs b o q).1
  have kd : ∀ y ∈ ps.zip us, scope.names.lookup y.1 = some .local ∨ (scope.names.lookup y.1 = some .cell ∧ ((PySem.cellsFrom (z.heap.objs.size + 1) scope.names []).lookup y.1).isSome = true) := by
    rintro ⟨x, u⟩ hy
    rcases sc.par x (List.of_mem_zip hy).1 with q | q
    · exact .inl q
    · exact .inr ⟨q, PySem.W.cellsFrom_some _ _ _ (.inl q)⟩
  refine PySem.codeAny_call_function hr.depth (kin _ _ lk) rfl sc.co sc.gen rfl (PySem.W.codeRec_of kin hcd) (hb _ _ _ _ ?_)
  refine PySem.wpAny_newFunctionEnv_cells sc.kind kd fun env he z1 x => ?_
  subst he
  refine ⟨nol.keeps x.toInCall.keep, PySem.codeAny_func ?_⟩
  obtain ⟨t, ht, hq⟩ := hbody R st z H vs Q (hr.deeper _) hg hsp
  have I0 := L2.inv_start (CX := fun _ _ _ _ _ _ => False) (E := fun _ _ _ => False) sc hr.hd e0 ln rv x
  have I : Inv (cxG pr w K mg base N qual scope f cdv R st z H) [] (L2.start N vs) H z1 := I0.wish _
  refine PySem.wpAny_mono (ht.run [] z1 (L2.start N vs) H _ I hq) (fun fl z2 hs => ?_) fun e z2 hs => False.elim hs
  have fin : ∀ {σ' : St} {H' : Hp} {v : V} {u : Value}, Inv (cxG pr w K mg base N qual scope f cdv R st z H) [] σ' H' z2 → L2.RelV v u → Q v H' → L2.CE st pr w H z Q u z2 := fun J r q => ⟨_, _, J.os, J.bare, J.base, J.hok, r, q⟩
  cases fl with
  | ret u =>
    obtain ⟨v, σ', H', J, r, q⟩ := hs
    exact ⟨u, rfl, fin J r q⟩
  | next =>
    obtain ⟨σ', H', J, q⟩ := hs
    exact ⟨Value.none, rfl, fin (v := V.non) J rfl q⟩
  | brk => obtain ⟨_, _, _, q⟩ := hs; exact q.elim
  | cont => obtain ⟨_, _, _, q⟩ := hs; exact q.elim
end
section
variable {pr : Program} {w : World} {K : Kx} {P : Prg} {M : CM} {cad : String → Option Addr} {mg : Str → Option Value} {base : Heap} {k : Nat} {cc : Cc} {f : Addr} {name qual : Str} {params : PySem.Arguments} {body : List Stmt} {scope : Scope} {dV kV doc pm cdv ct oc : Value} {an od : Option Addr}
    {osl : Array (Option Value)} {ps : List Str} {fn : String} {c : Fn} {F : Nat} {W : Addr → Prop} {ρ ρ' : List Addr} {Y Y' : Addr → Prop} {S S' : Sto} {H H' : Hp} {d : D} {v : V} {fl : Fl}
theorem gd_fn {R : Around} {st : List PySem.Env} {z : Shared} (wd : Wd P M cad k cc pr w K mg base) (nd : cc.N.Nodup) (hr : Room (k + 1) (R.deeper (PyProof.Rows.envOfC qual scope z.heap.objs.size f cdv))) (hg : R.guards = some []) :
    Gd P M cad k cc scope (cxG pr w K mg base cc.N qual scope f cdv R st z H) := by
  refine ⟨wd, rfl, nd, rfl, hg, hr, fun x h => vis_of h, fun x h => gl_of h, fun x h => h, fun x h => ⟨?_, .inl rfl⟩⟩
  exact loc_of h
theorem blk_fn {env : PySem.Env} (h : env.scope.kind = .function) : env.blockKind = .function := by
  unfold PySem.Env.blockKind
  rw [h]
  rfl
theorem entry_ok {l : List D} {vs : List V} (ok : SOk K cad (Wof ρ Y) ρ Y S H) (hl : l.length ≤ cc.N.length) (hns : c.ns = cc.N.length) (r : Reps K cad Y ρ H l vs) : EOk K cad (Wof ρ Y) ρ Y (entry c l) S (L2.start cc.N vs) H := by
  have none_of : ∀ (i : Nat) (x : D × Bool), (entry c l)[i]? = some (some x) → ∃ d, l[i]? = some d ∧ x = (d, false) := by
    intro i x h
    unfold entry at h
    by_cases hi : i < l.length
    · rw [List.getElem?_append_left (by simpa using hi), List.getElem?_map] at h
      cases hq : l[i]? with
      | none => rw [hq] at h; cases h
      | some d => rw [hq] at h; cases h; exact ⟨d, rfl, rfl⟩
    · rw [List.getElem?_append_right (by simpa using hi), List.getElem?_replicate] at h
      split at h <;> cases h
  refine ⟨ok, fun i d h => ?_, fun i d h => ?_, fun i j d e p _ h => ?_, ?_⟩
  · obtain ⟨d', h1, h2⟩ := none_of i _ h
    cases h2
    obtain ⟨v, hv, rv⟩ := r.get h1
    refine ⟨v, ?_, rv⟩
    have hi := (List.getElem?_eq_some_iff.mp hv).1
    unfold L2.start
    rw [List.getElem?_append_left (by simpa using hi), List.getElem?_map, hv]
    rfl
  · obtain ⟨d', h1, h2⟩ := none_of i _ h
    cases h2
  · obtain ⟨d', h1, h2⟩ := none_of i _ h
    cases h2
  · unfold entry L2.start
    rw [List.length_append, List.length_append, List.length_map, List.length_map, List.length_replicate, List.length_replicate, r.length, hns]
theorem back_res (ok : SOk K cad (Wof ρ Y) ρ Y S H) (po : Post (Wof ρ Y) ρ Y H ρ' Y' H') (r : RRes K cad (Wof ρ Y) ρ' Y' H' d v fl) : CRes K cad (Wof ρ Y) ρ' Y' H H' d v fl := by
  cases fl with
  | v => exact r
  | p => exact r
  | f =>
    obtain ⟨p, rfl, c, x, w, m⟩ := r
    refine ⟨p, rfl, c, x, w, m, ?_⟩
    cases hq : H p with
    | none => rfl
    | some o =>
      exfalso
      by_cases hy : Y p
      · refine w ⟨hy, fun z => m ?_⟩
        obtain ⟨l, rfl⟩ := po.pre
        exact List.mem_append_left _ z
      · exact (po.go p o hy hq).1 x
/-- a def of the text: its promise at one level more -/
theorem def_ok {n : Nat} (hM : M = cm P F n) (wd : Wd P M cad k cc pr w K mg base) (lk : K.lookup f = some ⟨oc, od, .func (PySem.W.fnOf name qual params body scope dV kV doc pm an cdv ct), osl⟩) (hcd : PySem.W.codeIn K cdv qual = true) (sc : L2.FnScope cc.N ps scope)
    (hf : P.fn fn = some c) (hps : c.ps.length = ps.length) (hns : c.ns = cc.N.length) (hown : c.own = cc.own) (hc : cSs 99 cc scope body = some c.body) :
    FnG pr w K mg base (k + 2) f (PySem.W.fnOf name qual params body scope dV kV doc pm an cdv ct) ps (spF K cad P (cm P F (n + 1)) fn) := by
  subst hM
  refine fn_g lk hcd sc (fun vs H Q h => ?_) fun R st z H vs Q hr hg h => ?_
  · obtain ⟨ρ, Y, l, S, d, fl, S', hl, _, _, ⟨c', hc', hlen⟩, _⟩ := h
    rw [hl.length, hlen]
    rw [hf] at hc'
    cases hc'
    exact hps
  · obtain ⟨ρ, Y, l, S, d, fl, S', hl, hs, hcall, ⟨c', hc', hlen⟩, q⟩ := h
    rw [hf] at hc'
    cases hc'
    have gd := gd_fn (H := H) (st := st) (cdv := cdv) (f := f) (qual := qual) (scope := scope) wd sc.nd hr hg
    have npl : ps.length ≤ cc.N.length := by
      have := congrArg List.length sc.pre
      rw [List.length_take] at this
      omega
    simp only [cm] at hcall
    rw [hf] at hcall
    simp only [hlen, if_true] at hcall
    have eok := entry_ok (c := c) hs (by omega) hns hl
    have snd := (sndS_all (P := P) (M := cm P F n) (cad := cad) (k := k) (cc := cc) (F := F) (own := c.own) 99).ss gd ⟨rfl, blk_fn sc.kind⟩ PySem.PassesOwn.never hc
    unfold fnEnd at hcall
    split at hcall
    · rename_i E' S'' hex
      cases hcall
      refine ⟨_, snd (Wof ρ Y) _ _ _ _ _ hex, ρ, Y, eok, fun ρ' Y' H' σ' po ok' _ => ?_⟩
      exact q ρ' Y' H' .non po ok'.toSOk (by simp only [CRes, Rep])
    · rename_i x E' S'' hex
      cases hcall
      refine ⟨_, snd (Wof ρ Y) _ _ _ _ _ hex, ρ, Y, eok, fun ρ' Y' H' v po ok' r => ?_⟩
      exact q ρ' Y' H' v po ok' (back_res hs po r)
    · cases hcall
    · cases hcall
end
end Dk
end
/-! Snd22 -/
section
set_option linter.all false
set_option maxRecDepth 100000
set_option maxHeartbeats 4000000
/-! New instances. -/
namespace Dk
open PySem (Str Addr Heap Value Shared sizeLine Expr Pos Stmt Around Args Obj FuncData Program World codeAny wpAny model BindsTo Scope)
open L2 (V Hp HO upd Rd SqL SqT Key St VK TE PE PT PW PA PG PGs PI It PS PSs TS Inv Vals Room)
section
variable {pr : Program} {w : World} {K : Kx} {P : Prg} {M : CM} {cad : String → Option Addr} {mg : Str → Option Value} {base : Heap} {k : Nat} {cc : Cc} {f : Addr} {name qual : Str} {params : PySem.Arguments} {body : List Stmt} {scope : Scope} {dV kV doc pm cdv ct oc : Value} {an od : Option Addr}
    {osl : Array (Option Value)} {ps : List Str} {fn cl : String} {c : Fn} {kc : Cls} {F : Nat} {W : Addr → Prop} {ρ ρ' : List Addr} {Y Y' : Addr → Prop} {S S' : Sto} {H H' : Hp} {d : D} {v : V} {fl : Fl} {E : Env} {σ : St} {C : Addr}
/-- at the entry of __init__: the first name holds the new instance -/
theorem init_entry {l : List D} {vs : List V} {x dx : Addr} (ok : SOk K cad (Wof ρ Y) ρ Y S H) (hx : H x = none) (hdx : H dx = none) (hne : dx ≠ x) (hC : cad cl = some C) (hl : l.length + 1 ≤ cc.N.length) (r : Reps K cad Y ρ H l vs) :
    Post (Wof ρ Y) ρ Y H ρ (fun a => Y a ∨ a = x) (upd (upd H dx (.own x)) x (.ins C dx [])) ∧
    EOk K cad (Wof ρ Y) ρ (fun a => Y a ∨ a = x) (some (.ins cl [], true) :: l.map (fun d => some (d, false)) ++ List.replicate (cc.N.length - (l.length + 1)) none) S (L2.start cc.N (.ref x :: vs)) (upd (upd H dx (.own x)) x (.ins C dx [])) := by
  have e1 : Ex H (upd H dx (.own x)) := Ex.new hdx
  have hx1 : (upd H dx (HO.own x)) x = none := by rw [L2.upd_ne (Ne.symm hne)]; exact hx
  have r1 : Reps K cad Y ρ (upd H dx (.own x)) l vs := r.mono e1.go self_pre
  have low : ∀ (i : Nat) (y : D × Bool), (none :: l.map (fun d => some (d, false)) ++ List.replicate (cc.N.length - (l.length + 1)) none : Env)[i]? = some (some y) → ∃ j d, i = j + 1 ∧ l[j]? = some d ∧ y = (d, false) := by
    intro i y h
    cases i with
    | zero => simp at h
    | succ j =>
      rw [List.cons_append, List.getElem?_cons_succ] at h
      by_cases hj : j < l.length
      · rw [List.getElem?_append_left (by simpa using hj), List.getElem?_map] at h
        cases hq : l[j]? with
        | none => rw [hq] at h; cases h
        | some d => rw [hq] at h; cases h; exact ⟨j, d, rfl, hq, rfl⟩
      · rw [List.getElem?_append_right (by simpa using hj), List.getElem?_replicate] at h
        split at h <;> cases h
  have st0 : (L2.start cc.N (V.ref x :: vs))[0]? = some (some (V.ref x)) := by simp [L2.start]
  have eb : EOk K cad (Wof ρ Y) ρ Y (none :: l.map (fun d => some (d, false)) ++ List.replicate (cc.N.length - (l.length + 1)) none) S (L2.start cc.N (.ref x :: vs)) (upd H dx (.own x)) := by
    refine ⟨ok.ex e1, fun i d h => ?_, fun i d h => ?_, fun i j d e p _ h => ?_, ?_⟩
    · obtain ⟨j, d', rfl, h1, h2⟩ := low i _ h
      cases h2
      obtain ⟨v, hv, rv⟩ := r1.get h1
      refine ⟨v, ?_, rv⟩
      have hj := (List.getElem?_eq_some_iff.mp hv).1
      unfold L2.start
      rw [List.map_cons, List.cons_append, List.getElem?_cons_succ, List.getElem?_append_left (by simpa using hj), List.getElem?_map, hv]
      rfl
    · obtain ⟨j, d', rfl, h1, h2⟩ := low i _ h
      cases h2
    · obtain ⟨j, d', rfl, h1, h2⟩ := low i _ h
      cases h2
    · unfold L2.start
      simp only [List.length_append, List.length_cons, List.length_map, List.length_replicate, r.length]
  obtain ⟨g0, p0, ok0, wD, rD, oD⟩ := eb.aside (o := .ins C dx []) hx1
  have vr : VRes K cad (Wof ρ Y) ρ (fun a => Y a ∨ a = x) (none :: l.map (fun d => some (d, false)) ++ List.replicate (cc.N.length - (l.length + 1)) none) (L2.start cc.N (.ref x :: vs)) Hnil (upd (upd H dx (.own x)) x (.ins C dx [])) (.ins cl []) (.ref x) .f := by
    refine ⟨x, rfl, ?_, .inr rfl, wD, rD, rfl, oD⟩
    simp only [Cont]
    exact ⟨C, dx, [], hC, L2.upd_same, by simp only [RepF]⟩
  have fin := ok0.putOwn (i := 0) vr
  have s1 : (L2.start cc.N (V.ref x :: vs)).set 0 (some (V.ref x)) = L2.start cc.N (V.ref x :: vs) := by simp [L2.start]
  rw [s1] at fin
  exact ⟨(e1.post (W := Wof ρ Y) (ρ := ρ) (X := Y)).trans p0, fin⟩
theorem init_ok {n : Nat} (hM : M = cm P F n) (wd : Wd P M cad k cc pr w K mg base) (lk : K.lookup f = some ⟨oc, od, .func (PySem.W.fnOf name qual params body scope dV kV doc pm an cdv ct), osl⟩) (hcd : PySem.W.codeIn K cdv qual = true) (sc : L2.FnScope cc.N ps scope)
    (hk : P.cl cl = some kc) (hi : kc.init = some fn) (hf : P.fn fn = some c) (hps : c.ps.length = ps.length) (hns : c.ns = cc.N.length) (hc : cSs 99 cc scope body = some c.body) (h0 : 0 ∈ cc.fix) (hC : cad cl = some C) :
    FnG pr w K mg base (k + 2) f (PySem.W.fnOf name qual params body scope dV kV doc pm an cdv ct) ps (spM K cad (cm P F (n + 1)) cl C ps.length) := by
  subst hM
  refine fn_g lk hcd sc (fun vs H Q h => ?_) fun R st z H vs Q hr hg h => ?_
  · obtain ⟨H0, x, dx, vs', rfl, _, _, _, _, ρ, Y, l, S, d, S', hl, _, _, hlen, _⟩ := h
    rw [List.length_cons, hl.length, hlen]
  · obtain ⟨H0, x, dx, vs', rfl, hx, hdx, hne, rfl, ρ, Y, l, S, d, S', hl, hs, hmake, hlen, q⟩ := h
    have gd := gd_fn (H := upd (upd H0 dx (.own x)) x (.ins C dx [])) (st := st) (cdv := cdv) (f := f) (qual := qual) (scope := scope) wd sc.nd hr hg
    have npl : ps.length ≤ cc.N.length := by
      have := congrArg List.length sc.pre
      rw [List.length_take] at this
      omega
    simp only [cm, hk, hi, Option.bind_some, hf] at hmake
    have hlen' : l.length + 1 = c.ps.length := hlen.trans hps.symm
    simp only [hlen', if_true] at hmake
    have hcn : c.ns - c.ps.length = cc.N.length - (l.length + 1) := by rw [hns, ← hlen']
    rw [hcn] at hmake
    obtain ⟨pe, eok⟩ := init_entry (cc := cc) hs hx hdx hne hC (by omega) hl
    have snd := (sndS_all (P := P) (M := cm P F n) (cad := cad) (k := k) (cc := cc) (F := F) (own := c.own) 99).ss gd ⟨rfl, blk_fn sc.kind⟩ PySem.PassesOwn.never hc
    unfold mkEnd at hmake
    split at hmake
    · rename_i E' S'' hex
      refine ⟨_, snd (Wof ρ Y) _ _ _ _ _ hex, ρ, _, eok, fun ρ' Y' H' σ' po ok' hfx => ?_⟩
      have s0 : σ'[0]? = some (some (V.ref x)) := by
        rw [hfx 0 h0]
        simp [L2.start]
      split at hmake
      · rename_i c' fs hE
        obtain ⟨p, a1, a2, a3, a4, a5⟩ := ok'.own 0 _ hE
        rw [s0] at a1
        cases a1
        have pall := pe.trans po
        split at hmake
        · -- the instance becomes a cell
          cases hmake
          have pre : ∃ l, ρ' ++ [x] = ρ' ++ l := ⟨_, rfl⟩
          have sok : SOk K cad (Wof ρ Y) (ρ' ++ [x]) Y' (S'' ++ [.ins c' fs]) H' := by
            refine ⟨by simp [ok'.len], fun m o q h2 h3 => ?_, fun q hq => ?_, ?_, ok'.wx, ok'.dom⟩
            · by_cases hn : m < ρ'.length
              · rw [List.getElem?_append_left hn] at h3
                rw [List.getElem?_append_left (by rw [ok'.len]; exact hn)] at h2
                exact (ok'.cells m o q h2 h3).mono Go.refl pre (fun _ z => z)
              · rw [List.getElem?_append_right (by omega)] at h3
                rw [List.getElem?_append_right (by rw [ok'.len]; omega)] at h2
                rw [ok'.len] at h2
                have hz : m - ρ'.length = 0 := by
                  have := (List.getElem?_eq_some_iff.mp h3).1
                  simp at this
                  omega
                rw [hz] at h2 h3
                cases h2
                cases h3
                exact Cont.mono (d := .ins c' fs) Go.refl pre (fun _ z => z) a2
            · rcases List.mem_append.mp hq with z | z
              · exact ok'.cX q z
              · simp at z; subst z; exact ⟨a3, a4⟩
            · rw [List.nodup_append]
              refine ⟨ok'.nd, by simp, fun a ha b hb z => ?_⟩
              simp at hb
              subst hb
              subst z
              exact a5 ha
          refine q (ρ' ++ [x]) Y' H' ?_ sok ?_
          · refine ⟨?_, fun a h => ?_, pall.go, pall.kp, pall.up⟩
            · obtain ⟨l', e⟩ := pall.pre
              exact ⟨l' ++ [x], by rw [e, List.append_assoc]⟩
            · rcases List.mem_append.mp h with z | z
              · exact pall.new a z
              · simp at z; subst z; exact .inr hx
          · simp only [Rep]
            exact ⟨x, rfl, by rw [ok'.len]; simp⟩
        · cases hmake
          have hl2 : ∀ a, (Y' a ∧ a ≠ x) → Y' a := fun a h => h.1
          have notW : ¬ (Wof ρ Y) x := a4
          refine q ρ' (fun a => Y' a ∧ a ≠ x) H' ⟨pall.pre, pall.new, pall.go.trans (go_less hl2), pall.kp, pall.up⟩ ?_ ?_
          · exact ok'.toSOk.less hl2 (fun a h => ⟨ok'.wx a h, fun e => notW (e ▸ h)⟩) (fun a h => ⟨(ok'.cX a h).1, fun e => a5 (e ▸ h)⟩)
          · exact Cont.rep (a2.mono (go_less hl2) self_pre (fun _ q => q)) (fun h => h.2 rfl)
      · cases hmake
    · cases hmake
    · cases hmake
    · cases hmake
end
end Dk
end
/-! Snd23 -/
section
set_option linter.all false
set_option maxRecDepth 100000
set_option maxHeartbeats 4000000
/-! The end: the law's promise at the top of the run. -/
namespace Dk
open PySem PySem.Spec PyProof.Rows
open L2 (V Hp HO upd Rd SqL SqT Key St VK Room Env0 Vals Only HOk Mod)

theorem law_g {pr : Program} {w : World} {K : Kx} {mg mb : Str → Option Value} {k : Nat} {fa a : Addr} {fd : FuncData} {x : Str} {sp : SpG} {z : Shared} {us : List Value} {ns : List Int}
    (kin : K.In z.heap) (hns : z.heap.Ns mainGlobals mg) (hb : z.heap.Ns builtinsNs mb) (hbb : ∀ x : Str, x ≠ "__name__" → mb x = bootBuiltins x) (nol : z.heap.NoLimit) (hg : z.gens = #[])
    (ha : z.heap.get? a = some { cls := .type "list", data := .seq us.toArray }) (hi : IntsAre us ns) (hl : ns.length ≤ sizeLine) (hr : Room k callerA)
    (F : ∀ base : Heap, K.In base → base.Ns mainGlobals mg → FnG pr w K mg base k fa fd [x] sp) (hbind : ∀ (s : Shared) (u : Value), BindsTo s fd ⟨[u], []⟩ [(x, u)])
    (hsp : ∀ H : Hp, Only H → SqE K H a (ns.map V.int) → sp [.ref a] H (fun v _ => v = .bl true)) :
    codeAny (model pr w) callerA (.call (.ref fa) ⟨[.ref a], []⟩) (fun r s' => r = .ok (.ret (.bool true)) ∧ OldK z.heap s'.heap ∧ s'.os = z.os ∧ AllBare s'.gens) z := by
  have rv := L2.vals_ints hi
  have len := hi.length
  have main : ∀ H : Hp, Only H → SqE K H a (ns.map V.int) → HOk pr w H z.heap → (∀ b, H b ≠ none → b = a) → (H a ≠ none → K.lookup a = none) →
      codeAny (model pr w) callerA (.call (.ref fa) ⟨[.ref a], []⟩) (fun r s' => r = .ok (.ret (.bool true)) ∧ OldK z.heap s'.heap ∧ s'.os = z.os ∧ AllBare s'.gens) z := by
    intro H hO hS hok hA hK
    have low : ∀ {b : Addr} {o : Obj}, z.heap.get? b = some o → H b = none → (L2.hidT z.heap H).get? b = some o := fun e n => L2.hidT_get e n
    have free : ∀ {b : Addr} {o : Obj} {es : Array DictEntry} {ep : Nat}, z.heap.get? b = some o → o.data = .dict es ep → H b = none := by
      intro b o es ep e d
      cases q : H b with
      | none => rfl
      | some u =>
        have e' : b = a := hA b (by rw [q]; exact fun h => nomatch h)
        subst e'
        rw [ha] at e
        cases e
        have d' : Data.seq us.toArray _ = Data.dict es ep := d
        cases d'
    have nsK : ∀ {b : Addr} {m : Str → Option Value}, z.heap.Ns b m → (L2.hidT z.heap H).Ns b m := fun {b m} h => by
      obtain ⟨o, es, ep, e, d, r⟩ := h
      exact ⟨o, es, ep, low e (free e d), d, r⟩
    have kb : K.In (L2.hidT z.heap H) := by
      intro b o e
      refine low (kin b o e) ?_
      cases q : H b with
      | none => rfl
      | some u =>
        have e' : b = a := hA b (by rw [q]; exact fun h => nomatch h)
        subst e'
        rw [hK (by rw [q]; exact fun h => nomatch h)] at e
        cases e
    have md : Mod K mg (L2.hidT z.heap H) := by
      obtain ⟨mc, c1, c2⟩ := nol
      exact ⟨kb, nsK hns, ⟨mb, nsK hb, hbb⟩, ⟨mc, nsK c1, c2⟩⟩
    have e0 : Env0 pr w K mg (L2.hidT z.heap H) callerA [] z H := by
      refine ⟨rfl, md, fun b o e => L2.of_hidT e, Nat.le_of_eq (L2.hidT_size _ _), trivial, fun b hb => ?_, hok, .of_eq hg⟩
      exact absurd (show b ∈ ([] : List Addr) from hb) (by simp)
    refine codeAny_mono ((F _ kb (nsK hns)).run callerA [] z H ⟨[.ref a], []⟩ [.ref a] [.ref a] _ hr rfl e0 (hbind z (.ref a)) (.cons rfl .nil) (hsp H hO hS)) fun r s' h => ?_
    obtain ⟨u, rfl, v, H', os, bare, un, hok', r', q⟩ := h
    have q' : v = .bl true := q
    subst q'
    obtain rfl : u = Value.bool true := r'
    refine ⟨rfl, OldK.of_keep fun b o e => ?_, os, bare⟩
    cases q : H b with
    | none => exact un.keep b o e q (fun t => absurd (show b ∈ ([] : List Addr) from t) (by simp)) (by simp)
    | some u =>
      rcases hO b with t | ⟨ob, xs, t⟩
      · rw [q] at t; cases t
      · have t2 := un.frzs b ob _ t
        obtain ⟨e1, _⟩ := hok b _ t
        obtain ⟨e2, _⟩ := hok' b _ t2
        rw [e] at e1
        cases e1
        exact e2
  cases hk : K.lookup a with
  | some o =>
    have e := kin a o hk
    rw [ha] at e
    cases e
    refine main (fun _ => none) (fun _ => .inl rfl) (.inr ⟨us.toArray, _, hk, ?_, by simpa using rv⟩) (fun b u t => nomatch (show (none : Option HO) = some u from t)) (fun b t => absurd rfl t) fun t => absurd rfl t
    rw [List.size_toArray, len]
    exact hl
  | none =>
    generalize hfo : ({ cls := .type "list", data := .seq us.toArray } : Obj) = fo at ha
    refine main (fun b => if b = a then some (.frz fo (.lst (ns.map V.int))) else none) (fun b => ?_) (.inl (.inr ⟨fo, if_pos rfl⟩)) (fun b u t => ?_) (fun b t => ?_) fun _ => hk
    · by_cases q : b = a
      · exact .inr ⟨fo, _, if_pos q⟩
      · exact .inl (if_neg q)
    · by_cases q : b = a
      · have t' := (if_pos q).symm.trans t
        cases t'
        subst q
        subst hfo
        exact ⟨ha, by rw [List.length_map]; exact hl, us, _, rv, ha⟩
      · have t' := (if_neg q).symm.trans t
        cases t'
    · by_cases q : b = a
      · exact q
      · exact absurd (if_neg q) t
theorem walk_g {l : PySem.W.OpenLaw} {n k : Nat} {q : Program} {loose : List Str} {XP : (Str → Option Value) → Heap → Prop} {YP : World → Heap → Prop} {d : DefRec} {K : Params → Kx} {sp : World → SpG} {x : Str}
    (hn : l.most = some n) (hn2 : n ≤ sizeLine) (hdf : d.params.defaults = []) (hr : Room k callerA) (hY : ∀ (w : World) (h : Heap), YP w h → (K w.params).In h)
    (F : ∀ (w : World) (mg : Str → Option Value) (fa : Addr) (h : Heap), (K w.params).In h → h.Ns mainGlobals mg → mg d.name = some (.ref fa) →
      ∃ fd : FuncData, (∀ (s : Shared) (u : Value), BindsTo s fd ⟨[u], []⟩ [(x, u)]) ∧ ∀ base : Heap, (K w.params).In base → base.Ns mainGlobals mg → FnG l.prog w (K w.params) mg base k fa fd [x] (sp w))
    (hsp : ∀ (w : World) (H : Hp) (a : Addr) (ns : List Int), ns.length ≤ n → Only H → SqE (K w.params) H a (ns.map V.int) → sp w [.ref a] H (fun v _ => v = .bl true)) :
    PySem.W.WalkO q loose XP YP l.row.toRowW d [] (fun f vs => PySem.call f vs) := by
  refine Att.attach_call hn hdf fun w s₀ z mg mb fa o pm cd doc a us ns G Y ho hd hcd hmg hobj hints hlen hg => ?_
  obtain ⟨fd, hb, hF⟩ := F w mg fa _ (hY w _ Y) G.T.g hmg
  exact law_g (hY w _ Y) G.T.g G.T.b G.T.builtins G.T.nolimit hg hobj hints (Nat.le_trans hlen hn2) hr hF hb fun H hO hS => hsp w H a ns hlen hO hS
end Dk
end
/-! Snd24 -/
section
set_option linter.all false
set_option maxRecDepth 100000
set_option maxHeartbeats 4000000
/-! From what the top has written: all defs keep their promises at each depth; the law. -/
namespace Dk
open PySem (Str Addr Heap Value Shared sizeLine Expr Pos Stmt Obj FuncData Program World Scope)
open L2 (V Hp HO upd Rd SqL SqT Key St VK)

/-- a def of the text, compiled -/
structure DefS (P : Prg) (dfs clss : List String) (kws : List (String × Nat × List String)) (mts : List String) (K : Kx) (x : String) (f : Addr) (fd : FuncData) (ps : List Str) (fixed : Bool) : Prop where
  ex : ∃ (oc : Value) (od : Option Addr) (name qual : Str) (params : PySem.Arguments) (body : List Stmt) (scope : Scope) (dV kV doc pm : Value) (an : Option Addr) (cdv ct : Value) (osl : Array (Option Value)) (cc : Cc) (c : Fn),
    fd = PySem.W.fnOf name qual params body scope dV kV doc pm an cdv ct ∧ K.lookup f = some ⟨oc, od, .func (PySem.W.fnOf name qual params body scope dV kV doc pm an cdv ct), osl⟩ ∧ PySem.W.codeIn K cdv qual = true ∧ L2.FnScope cc.N ps scope ∧
    P.fn x = some c ∧ c.ps.length = ps.length ∧ c.ns = cc.N.length ∧ cSs 99 cc scope body = some c.body ∧ c.own = cc.own ∧ cc.defs = dfs ∧ cc.clss = clss ∧ cc.kws = kws ∧ cc.mts = mts ∧ (fixed = true → 0 ∈ cc.fix)
structure Sta (P : Prg) (cad : String → Option Addr) (dfs clss : List String) (kws : List (String × Nat × List String)) (mts : List String) (K : Kx) (mg : Str → Option Value) : Prop where
  shw : P.shw = shwPy
  gl : ∀ x d, P.gl x = some d → ∃ v u, mg (sx x) = some u ∧ L2.RelV v u ∧ ∀ ρ X H, Rep K cad X ρ H d v
  bi : ∀ x, x ∈ "isinstance" :: "range" :: "enumerate" :: "zip" :: "repr" :: (builtins ++ types) → mg (sx x) = none
  fn : ∀ x, x ∈ dfs → ∃ f fd ps, mg (sx x) = some (.ref f) ∧ PySem.W.keepIn K (.ref f) = true ∧ All fd ps ∧ DefS P dfs clss kws mts K x f fd ps false
  cl : ∀ c, c ∈ clss → ∃ C f fd ps kc y, cad c = some C ∧ mg (sx c) = some (.ref C) ∧ L2.Cls K C ∧ L2.Mk K C f ∧ All fd ps ∧ P.cl c = some kc ∧ kc.init = some y ∧ DefS P dfs clss kws mts K y f fd ps true
  kw : ∀ x n ks, (x, n, ks) ∈ kws → x ∈ dfs → ∃ f fd ps c, mg (sx x) = some (.ref f) ∧ PySem.W.keepIn K (.ref f) = true ∧ P.fn x = some c ∧ AllK fd ps c.ps 0 n ks ∧ DefS P dfs clss kws mts K x f fd ps false
  kwc : ∀ x n ks, (x, n, ks) ∈ kws → x ∈ clss → ∃ C f fd ps kc y c, cad x = some C ∧ mg (sx x) = some (.ref C) ∧ L2.Mk K C f ∧ P.cl x = some kc ∧ kc.init = some y ∧ P.fn y = some c ∧ AllK fd ps (c.ps.drop 1) 1 n ks ∧ DefS P dfs clss kws mts K y f fd ps true
  mt : ∀ c kc C m q, m ∈ mts → P.cl c = some kc → cad c = some C → kc.meths.lookup m = some q → ∃ f fd ps, L2.Meth K C (sx m) f ∧ All fd ps ∧ DefS P dfs clss kws mts K q f fd ps false
  at_ : ∀ c kc C, P.cl c = some kc → cad c = some C → L2.Cls K C ∧ ∀ f, f ∈ kc.flds → L2.NoAttr K C (sx f)
  tyc : ∀ c C, cad c = some C → (P.cl c).isSome → L2.Cls K C ∧ PySem.W.findIn K (.ref C) "__class__" = some (some (.builtin "object.__class__")) ∧
    PySem.W.specialIn K (.builtin "object.__class__") "__get__" = some (some (.builtin "getset_descriptor.__get__")) ∧ PySem.W.takesIn K (.builtin "object.__class__") = some true ∧ PySem.W.mroIn K C (.type "object") = some true
  isb : ∀ a c T, a ∈ ["NoneType", "bool", "int", "str", "tuple", "list", "dict"] → c ∈ clss → cad c = some T → PySem.W.kitOne K (.type a) (.ref T) = some false
  isc : ∀ c C t, cad c = some C → (P.cl c).isSome → t ∈ types → PySem.W.kitOne K (.ref C) (.type t) = some false
  isi : ∀ c C t T, cad c = some C → cad t = some T → t ∈ clss → ∀ kc, P.cl c = some kc → PySem.W.kitOne K (.ref C) (.ref T) = some (c == t || kc.above.contains t)
  pr : ∀ c kc C f q, ("@" ++ f) ∈ mts → P.cl c = some kc → cad c = some C → kc.props.lookup f = some q → ∃ p fn fd ps, L2.Cls K C ∧ L2.PropOf K C (sx f) p fn ∧ All fd ps ∧ DefS P dfs clss kws mts K q fn fd ps false
  mk0 : ∀ c, ("!" ++ c) ∈ mts → ∃ C, cad c = some C ∧ mg (sx c) = some (.ref C) ∧ Mk0 K C

section
variable {P : Prg} {cad : String → Option Addr} {dfs clss : List String} {kws : List (String × Nat × List String)} {mts : List String} {K : Kx} {mg : Str → Option Value} {pr : Program} {w : World} {base : Heap} {F : Nat}
theorem Wd.cc {M : CM} {k : Nat} {cc cc' : Cc} (h : Wd P M cad k cc pr w K mg base) (h1 : cc.defs = cc'.defs) (h2 : cc.clss = cc'.clss) (h3 : cc.kws = cc'.kws) (h4 : cc.mts = cc'.mts) : Wd P M cad k cc' pr w K mg base :=
  ⟨h.shw, h.gl, h.bi, fun x q => h.fn x (by rw [h1]; exact q), fun x q => h.cl x (by rw [h2]; exact q), h.ln, fun x n ks q1 q2 => h.kw x n ks (by rw [h3]; exact q1) (by rw [h1]; exact q2), fun x n ks q1 q2 => h.kwc x n ks (by rw [h3]; exact q1) (by rw [h2]; exact q2),
   fun c kc C m q q1 => h.mt c kc C m q (by rw [h4]; exact q1), h.at_, h.tyc, fun a c T q1 q2 => h.isb a c T q1 (by rw [h2]; exact q2), h.isc, fun c C t T q1 q2 q3 => h.isi c C t T q1 q2 (by rw [h2]; exact q3), fun c kc C f q q1 => h.pr c kc C f q (by rw [h4]; exact q1), fun c q => h.mk0 c (by rw [h4]; exact q)⟩
theorem g0 {k : Nat} {f : Addr} {fd : FuncData} {ps : List Str} {x : String} : FnG pr w K mg base k f fd ps (spF K cad P (cm P F 0) x) := by
  refine ⟨fun vs H Q h => ?_, fun R st z H args us vs Q _ _ _ _ _ h => ?_⟩
  all_goals
    obtain ⟨ρ, X, l, S, d, fl, S', _, _, h3, _⟩ := h
    simp [cm] at h3
theorem m0 {k : Nat} {f C : Addr} {fd : FuncData} {ps : List Str} {x : String} {n : Nat} : FnG pr w K mg base k f fd ps (spM K cad (cm P F 0) x C n) := by
  refine ⟨fun vs H Q h => ?_, fun R st z H args us vs Q _ _ _ _ _ h => ?_⟩
  all_goals
    obtain ⟨_, x, dx, vs', _, _, _, _, _, ρ, X, l, S, d, S', _, _, h3, _⟩ := h
    simp [cm] at h3
theorem wd_all (s : Sta P cad dfs clss kws mts K mg) : ∀ n : Nat, Wd P (cm P F n) cad (2 * n) ⟨[], dfs, clss, [], false, [], kws, mts⟩ pr w K mg base
  | 0 => by
    refine ⟨s.shw, s.gl, s.bi, fun x hx => ?_, fun c hc => ?_, fun f l S r h => ?_, fun x n ks h1 h2 => ?_, fun x n ks h1 h2 => ?_, fun c kc C m q h1 h2 h3 h4 => ?_, s.at_, s.tyc, s.isb, s.isc, s.isi, fun c kc C f q h1 h2 h3 h4 => ?_, s.mk0⟩
    · obtain ⟨f, fd, ps, a1, a2, a3, a4⟩ := s.fn x hx
      exact ⟨f, fd, ps, a1, a2, a3, g0⟩
    · obtain ⟨C, f, fd, ps, kc, y, a1, a2, a3, a4, a5, a6, a7, a8⟩ := s.cl c hc
      exact ⟨C, f, fd, ps, a1, a2, a3, a4, a5, m0, fun l S r h => by simp [cm] at h⟩
    · simp [cm] at h
    · obtain ⟨f, fd, ps, c, a1, a2, a3, a4, a5⟩ := s.kw x n ks h1 h2
      exact ⟨f, fd, ps, c, a1, a2, a3, a4, g0⟩
    · obtain ⟨C, f, fd, ps, kc, y, c, a1, a2, a3, a4, a5, a6, a7, a8⟩ := s.kwc x n ks h1 h2
      exact ⟨C, f, fd, ps, kc, y, c, a1, a2, a3, a4, a5, a6, a7, m0, fun l S r h => by simp [cm] at h⟩
    · obtain ⟨f, fd, ps, a1, a2, a3⟩ := s.mt c kc C m q h1 h2 h3 h4
      exact ⟨f, fd, ps, a1, a2, g0⟩
    · obtain ⟨p, fn, fd, ps, a1, a2, a3, a4⟩ := s.pr c kc C f q h1 h2 h3 h4
      exact ⟨p, fn, fd, ps, a1, a2, a3, g0⟩
  | n + 1 => by
    have ih := wd_all s n
    have dok : ∀ {x f fd ps}, DefS P dfs clss kws mts K x f fd ps false → FnG pr w K mg base (2 * (n + 1)) f fd ps (spF K cad P (cm P F (n + 1)) x) := by
      rintro x f fd ps ⟨oc, od, name, qual, params, body, scope, dV, kV, doc, pm, an, cdv, ct, osl, cc, c, rfl, b1, b2, b3, b4, b5, b6, b7, b8, b9, b10, b11, b12, _⟩
      exact def_ok rfl (ih.cc b9.symm b10.symm b11.symm b12.symm) b1 b2 b3 b4 b5 b6 b8 b7
    have mok : ∀ {x y C f fd ps kc}, DefS P dfs clss kws mts K y f fd ps true → P.cl x = some kc → kc.init = some y → cad x = some C → FnG pr w K mg base (2 * (n + 1)) f fd ps (spM K cad (cm P F (n + 1)) x C ps.length) ∧ ∀ l S r, (cm P F (n + 1)).make x l S = some r → l.length + 1 = ps.length := by
      rintro x y C f fd ps kc ⟨oc, od, name, qual, params, body, scope, dV, kV, doc, pm, an, cdv, ct, osl, cc, c', rfl, b1, b2, b3, b4, b5, b6, b7, b8, b9, b10, b11, b12, b13⟩ a6 a7 a1
      refine ⟨init_ok rfl (ih.cc b9.symm b10.symm b11.symm b12.symm) b1 b2 b3 a6 a7 b4 b5 b6 b7 (b13 rfl) a1, fun l S r h => ?_⟩
      simp only [cm, a6, a7, Option.bind_some, b4] at h
      split at h
      · rename_i hl
        exact hl.trans b5
      · cases h
    refine ⟨s.shw, s.gl, s.bi, fun x hx => ?_, fun c hc => ?_, fun f l S r h => ?_, fun x n ks h1 h2 => ?_, fun x n ks h1 h2 => ?_, fun c kc C m q h1 h2 h3 h4 => ?_, s.at_, s.tyc, s.isb, s.isc, s.isi, fun c kc C f q h1 h2 h3 h4 => ?_, s.mk0⟩
    · obtain ⟨f, fd, ps, a1, a2, a3, a4⟩ := s.fn x hx
      exact ⟨f, _, ps, a1, a2, a3, dok a4⟩
    · obtain ⟨C, f, fd, ps, kc, y, a1, a2, a3, a4, a5, a6, a7, a8⟩ := s.cl c hc
      obtain ⟨m1, m2⟩ := mok a8 a6 a7 a1
      exact ⟨C, f, _, ps, a1, a2, a3, a4, a5, m1, m2⟩
    · simp only [cm] at h
      split at h
      · rename_i c hc
        split at h
        · rename_i hl
          exact ⟨c, hc, hl⟩
        · cases h
      · cases h
    · obtain ⟨f, fd, ps, c, a1, a2, a3, a4, a5⟩ := s.kw x n ks h1 h2
      exact ⟨f, fd, ps, c, a1, a2, a3, a4, dok a5⟩
    · obtain ⟨C, f, fd, ps, kc, y, c, a1, a2, a3, a4, a5, a6, a7, a8⟩ := s.kwc x n ks h1 h2
      obtain ⟨m1, m2⟩ := mok a8 a4 a5 a1
      exact ⟨C, f, fd, ps, kc, y, c, a1, a2, a3, a4, a5, a6, a7, m1, m2⟩
    · obtain ⟨f, fd, ps, a1, a2, a3⟩ := s.mt c kc C m q h1 h2 h3 h4
      exact ⟨f, fd, ps, a1, a2, dok a3⟩
    · obtain ⟨p, fn, fd, ps, a1, a2, a3, a4⟩ := s.pr c kc C f q h1 h2 h3 h4
      exact ⟨p, fn, fd, ps, a1, a2, a3, dok a4⟩
end
end Dk
end
/-! Snd25 -/
section
set_option linter.all false
set_option maxRecDepth 100000
set_option maxHeartbeats 4000000
/-! What a law's own text says of its program, in short. -/
namespace Dk
open PySem (Str Addr Heap Value Shared sizeLine Expr Pos Stmt Obj FuncData Program World Scope)
open L2 (V Hp HO upd Rd SqL SqT Key St VK)
def AllS {α : Type} (p : α → Prop) : List α → Prop
  | [] => True
  | x :: r => p x ∧ AllS p r
theorem AllS.mem {α : Type} {p : α → Prop} : ∀ {l : List α}, AllS p l → ∀ x, x ∈ l → p x
  | y :: r, h, x, m => by
    rcases List.mem_cons.mp m with e | e
    · subst e; exact h.1
    · exact AllS.mem h.2 x e
section
variable {P : Prg} {cad : String → Option Addr} {dfs clss : List String} {kws : List (String × Nat × List String)} {mts : List String} {K : Kx} {mg : Str → Option Value} {nm qual : Str} {st : Stmt} {f : Addr} {fd : FuncData} {ps : List Str} {y : String}
theorem all_of (F : L2.Fun K nm qual st f fd)
    (h : ∀ (kV doc pm : Value) (an : Option Addr) (cdv ct : Value) (us : List Value), us.length = ps.length → PySem.bindArgs (PySem.W.fnOf nm qual (L2.defArgs st) (L2.defBody st) (L2.defScope st) .none kV doc pm an cdv ct) ⟨us, []⟩ = pure (ps.zip us)) : All fd ps := by
  obtain ⟨oc, od, kV, doc, pm, an, cdv, ct, osl, rfl, lk, hcd⟩ := F.ex
  exact h kV doc pm an cdv ct
theorem defS_of (F : L2.Fun K nm qual st f fd) (cc : Cc) (c : Fn) {fixed : Bool} (sc : L2.FnScope cc.N ps (L2.defScope st)) (hP : P.fn y = some c) (h1 : c.ps.length = ps.length) (h2 : c.ns = cc.N.length) (h3 : cSs 99 cc (L2.defScope st) (L2.defBody st) = some c.body)
    (h4 : c.own = cc.own) (h5 : cc.defs = dfs) (h6 : cc.clss = clss) (h8 : cc.kws = kws) (h9 : cc.mts = mts) (h7 : fixed = true → 0 ∈ cc.fix) : DefS P dfs clss kws mts K y f fd ps fixed := by
  obtain ⟨oc, od, kV, doc, pm, an, cdv, ct, osl, rfl, lk, hcd⟩ := F.ex
  exact ⟨⟨oc, od, nm, qual, _, _, _, _, kV, doc, pm, an, cdv, ct, osl, cc, c, rfl, lk, hcd, sc, hP, h1, h2, h3, h4, h5, h6, h8, h9, h7⟩⟩
theorem allK_of {cps : List String} {m n : Nat} {ks : List String} (F : L2.Fun K nm qual st f fd)
    (h : ∀ (kV doc pm : Value) (an : Option Addr) (cdv ct : Value) (us ws : List Value), us.length = n + m → ws.length = ks.length → ∃ a, arrange cps (us.drop m) ks ws = some a ∧ PySem.bindArgs (PySem.W.fnOf nm qual (L2.defArgs st) (L2.defBody st) (L2.defScope st) .none kV doc pm an cdv ct) ⟨us, (ks.map sx).zip ws⟩ = pure (ps.zip (us.take m ++ a))) : AllK fd ps cps m n ks := by
  obtain ⟨oc, od, kV, doc, pm, an, cdv, ct, osl, rfl, lk, hcd⟩ := F.ex
  exact h kV doc pm an cdv ct
end
/-- what the written part says of a def at the top -/
structure TopF (K : Kx) (mg : Str → Option Value) (nm : Str) (st : Stmt) (f : Addr) (fd : FuncData) : Prop where
  mg : mg nm = some (.ref f)
  F : L2.Fun K nm nm st f fd
theorem topF {K : Kx} {h : Heap} {mg : Str → Option Value} {nm : Str} {st : Stmt} {f : Addr} (X : K.In h) (G : h.Ns PySem.mainGlobals mg) (e : PySem.W.nsIn K PySem.mainGlobals nm = some (some (.ref f)))
    {oc : Value} {od an : Option Addr} {osl : Array (Option Value)} {kV doc pm cdv ct : Value} (l : K.lookup f = some ⟨oc, od, .func (PySem.W.fnOf nm nm (L2.defArgs st) (L2.defBody st) (L2.defScope st) .none kV doc pm an cdv ct), osl⟩)
    (c : PySem.W.codeIn K cdv nm = true) (k : PySem.W.keepIn K (.ref f) = true) : ∃ fd, TopF K mg nm st f fd := ⟨_, PySem.W.mg_of X G e, L2.fun_mk l c k⟩
/-! ### classes -/
theorem kit_bt {K : Kx} {C : Addr} (h1 : PySem.W.isClsIn K C = true) (h2 : PySem.W.typeIn K (.ref C) = some (.type "type")) : ∀ a, a ∈ ["NoneType", "bool", "int", "str", "tuple", "list", "dict"] → PySem.W.kitOne K (.type a) (.ref C) = some false := by
  have c1 : ((PySem.W.clsIn K C).isSome && PySem.W.typeIn K (.ref C) == some (.type "type")) = true := by
    have : (PySem.W.clsIn K C).isSome = true := h1
    rw [this, h2]; rfl
  have go : ∀ a, ((PySem.fastBuiltinMro a).map (·.all fun v => match v with | .type _ => true | _ => false)) = some true → PySem.W.kitOne K (.type a) (.ref C) = some false := by
    intro a h
    unfold PySem.W.kitOne PySem.W.kitCls
    rw [if_neg (by simp)]
    simp only [c1, if_true, PySem.W.subIn]
    cases hm : PySem.fastBuiltinMro a with
    | none => rw [hm] at h; cases h
    | some l =>
      rw [hm] at h
      simp only [Option.map_some, Option.some.injEq] at h ⊢
      cases hc : l.contains (Value.ref C) with
      | false => rfl
      | true =>
        have hm := List.contains_iff_mem.mp hc
        have := List.all_eq_true.mp h _ hm
        simp at this
  intro a ha
  refine go a ?_
  simp only [List.mem_cons, List.not_mem_nil, or_false] at ha
  rcases ha with rfl | rfl | rfl | rfl | rfl | rfl | rfl <;> decide +kernel
theorem kit_cb {K : Kx} {C : Addr} {t : String} (ht : t ∈ types) (h : PySem.W.mroIn K C (.type t) = some false) : PySem.W.kitOne K (.ref C) (.type t) = some false := by
  have hm : PySem.W.kitMeta t = true := by
    unfold types at ht
    simp only [List.mem_cons, List.not_mem_nil, or_false] at ht
    rcases ht with rfl | rfl | rfl | rfl | rfl | rfl <;> decide +kernel
  unfold PySem.W.kitOne PySem.W.kitCls
  rw [if_neg (by simp)]
  simp only [hm, if_true, PySem.W.subIn]
  exact h
theorem kit_cc {K : Kx} {C T : Addr} {b : Bool} (h1 : PySem.W.isClsIn K T = true) (h2 : PySem.W.typeIn K (.ref T) = some (.type "type")) (h : PySem.W.mroIn K C (.ref T) = some b) (hs : C = T → b = true) : PySem.W.kitOne K (.ref C) (.ref T) = some b := by
  have c1 : ((PySem.W.clsIn K T).isSome && PySem.W.typeIn K (.ref T) == some (.type "type")) = true := by
    have : (PySem.W.clsIn K T).isSome = true := h1
    rw [this, h2]; rfl
  unfold PySem.W.kitOne PySem.W.kitCls
  by_cases e : C = T
  · subst e
    rw [if_pos (by simp), hs rfl]
  · rw [if_neg (by simpa using e)]
    simp only [c1, if_true, PySem.W.subIn]
    exact h
/-- what the written part says of a class -/
structure ClsF (K : Kx) (mg : Str → Option Value) (c : String) (C : Addr) : Prop where
  mg : mg (sx c) = some (.ref C)
  cls : L2.Cls K C
  ic : PySem.W.isClsIn K C = true
  ty : PySem.W.typeIn K (.ref C) = some (.type "type")
  dc : PySem.W.findIn K (.ref C) "__class__" = some (some (.builtin "object.__class__"))
  ob : PySem.W.mroIn K C (.type "object") = some true
  no : ∀ t ∈ types, PySem.W.mroIn K C (.type t) = some false
theorem clsF {K : Kx} {h : Heap} {mg : Str → Option Value} {c : String} {C : Addr} (X : K.In h) (G : h.Ns PySem.mainGlobals mg) (e : PySem.W.nsIn K PySem.mainGlobals (sx c) = some (some (.ref C)))
    (pg : PySem.W.plainGet K C Str.empty = true) (hd : PySem.W.hasDictIn K C = true) (po : PySem.W.plainOver K C = true) (sa : PySem.W.findIn K (.ref C) "__setattr__" = some (some (.builtin "object.__setattr__")))
    (ic : PySem.W.isClsIn K C = true) (ty : PySem.W.typeIn K (.ref C) = some (.type "type")) (dc : PySem.W.findIn K (.ref C) "__class__" = some (some (.builtin "object.__class__"))) (ob : PySem.W.mroIn K C (.type "object") = some true)
    (n1 : PySem.W.mroIn K C (.type "int") = some false) (n2 : PySem.W.mroIn K C (.type "bool") = some false) (n3 : PySem.W.mroIn K C (.type "str") = some false) (n4 : PySem.W.mroIn K C (.type "tuple") = some false)
    (n5 : PySem.W.mroIn K C (.type "list") = some false) (n6 : PySem.W.mroIn K C (.type "dict") = some false) : ClsF K mg c C := by
  refine ⟨PySem.W.mg_of X G e, ⟨pg, hd, po, sa⟩, ic, ty, dc, ob, fun t ht => ?_⟩
  unfold types at ht
  simp only [List.mem_cons, List.not_mem_nil, or_false] at ht
  rcases ht with rfl | rfl | rfl | rfl | rfl | rfl <;> assumption
theorem gl_int {K : Kx} {h : Heap} {mg : Str → Option Value} {x : String} {i : Int} {t : PySem.Tok} {cad : String → Option Addr} (X : K.In h) (G : h.Ns PySem.mainGlobals mg) (e : PySem.W.nsIn K PySem.mainGlobals (sx x) = some (some (.int i t))) :
    ∃ v u, mg (sx x) = some u ∧ L2.RelV v u ∧ ∀ ρ Y H, Rep K cad Y ρ H (.int i) v := ⟨.int i, _, PySem.W.mg_of X G e, ⟨_, rfl⟩, fun _ _ _ => by simp only [Rep]⟩
theorem gl_str {K : Kx} {h : Heap} {mg : Str → Option Value} {x : String} {s : List Nat} {t : PySem.Tok} {cad : String → Option Addr} (X : K.In h) (G : h.Ns PySem.mainGlobals mg) (e : PySem.W.nsIn K PySem.mainGlobals (sx x) = some (some (.str (st s) t))) :
    ∃ v u, mg (sx x) = some u ∧ L2.RelV v u ∧ ∀ ρ Y H, Rep K cad Y ρ H (.str s) v := ⟨.str (st s), _, PySem.W.mg_of X G e, ⟨_, rfl⟩, fun _ _ _ => by simp only [Rep]⟩
theorem look_mem {α : Type} {x : String} {d : α} : ∀ {l : List (String × α)}, l.lookup x = some d → (x, d) ∈ l
  | (y, e) :: r, h => by
    rw [List.lookup_cons] at h
    split at h
    · rename_i q
      cases h
      rw [beq_iff_eq.mp q]
      exact List.mem_cons_self
    · exact List.mem_cons_of_mem _ (look_mem h)
theorem bang_e (c : String) : ("!" ++ c).toList = '!' :: c.toList := by simp
theorem bang_no {c : String} (l : List String) (h : (l.all fun m => m.toList.head? != some '!') = true) : ¬ (("!" ++ c) ∈ l) := fun m => by
  have := List.all_eq_true.mp h _ m
  rw [bang_e] at this
  simp at this
theorem bang_mem {c : String} {l m : List String} (h : (m.all fun x => x.toList.head? != some '!' || l.contains (String.ofList (x.toList.drop 1))) = true) (hm : ("!" ++ c) ∈ m) : c ∈ l := by
  have := List.all_eq_true.mp h _ hm
  rw [bang_e] at this
  simpa using this
/-! ### the law's def -/
theorem FnG.sub {pr : Program} {w : World} {K : Kx} {mg : Str → Option Value} {base : Heap} {k : Nat} {f : Addr} {fd : FuncData} {ps : List Str} {sp' : SpG} (hl : ∀ vs H Q, sp' vs H Q → vs.length = ps.length)
    (h : ∀ vs H Q, sp' vs H Q → ∃ sp, FnG pr w K mg base k f fd ps sp ∧ sp vs H Q) : FnG pr w K mg base k f fd ps sp' := by
  refine ⟨hl, fun R st z H args us vs Q hr hg e0 hb rv hsp => ?_⟩
  obtain ⟨sp, F, q⟩ := h _ _ _ hsp
  exact F.run R st z H args us vs Q hr hg e0 hb rv q
def spLaw (K : Kx) : SpG := fun vs H Q => ∃ (a : Addr) (ns : List Int), vs = [.ref a] ∧ SqE K H a (ns.map V.int) ∧ ns.length ≤ 63 ∧ ∀ H', Q (.bl true) H'
theorem law_all {P : Prg} {cad : String → Option Addr} {dfs clss : List String} {kws : List (String × Nat × List String)} {mts : List String} {K : Kx} {mg : Str → Option Value} {pr : Program} {w : World} {base : Heap} {n : Nat} {fa : Addr} {fd : FuncData} {x : Str} (s : Sta P cad dfs clss kws mts K mg)
    (D : DefS P dfs clss kws mts K "law" fa fd [x] false) (hrun : ∀ ns : List Int, ns.length ≤ 63 → ∃ F S', (cm P F (n + 1)).call "law" [.lst (ns.map .int)] [] = some (.ok (.bl true, .v), S')) :
    FnG pr w K mg base (2 * n + 2) fa fd [x] (spLaw K) := by
  refine FnG.sub (fun vs H Q h => ?_) fun vs H Q h => ?_
  · obtain ⟨a, ns, rfl, _⟩ := h; rfl
  · obtain ⟨a, ns, rfl, hS, hl, q⟩ := h
    obtain ⟨F, S', hr⟩ := hrun ns hl
    obtain ⟨oc, od, name, qual, params, body, scope, dV, kV, doc, pm, an, cdv, ct, osl, cc, c, rfl, b1, b2, b3, b4, b5, b6, b7, b8, b9, b10, b11, b12, _⟩ := D
    refine ⟨spF K cad P (cm P F (n + 1)) "law", def_ok rfl ((wd_all s n).cc b9.symm b10.symm b11.symm b12.symm) b1 b2 b3 b4 b5 b6 b8 b7, ?_⟩
    have none_in : ∀ a : Addr, a ∉ ([] : List Addr) := fun a h => by cases h
    have ok : SOk K cad (Wof [] (fun _ => False)) [] (fun _ => False) [] H := by
      refine ⟨rfl, fun n o p h => by simp at h, fun p h => absurd h (none_in p), List.nodup_nil, fun a h => h.1, fun a h => h.elim⟩
    refine ⟨[], fun _ => False, [.lst (ns.map .int)], [], .bl true, .v, S', ?_, ok, hr, ⟨c, b4, by rw [b5]; rfl⟩, fun ρ' Y' H' v _ _ r => ?_⟩
    · refine Reps.one ?_
      simp only [Rep]
      exact ⟨a, ns.map V.int, rfl, hS.elim (fun z => .inl ⟨fun q => q, z⟩) .inr, Reps.ofInts ns⟩
    · have r' : v = .bl true := by simpa only [CRes, Rep] using r
      subst r'
      exact q _
open PySem PySem.Spec PyProof.Rows in
theorem walk63 {l : PySem.W.OpenLaw} {k : Nat} {q : Program} {loose : List Str} {XP : (Str → Option Value) → Heap → Prop} {YP : World → Heap → Prop} {d : DefRec} {K : Params → Kx} {x : Str}
    (hn : l.most = some 63) (hdf : d.params.defaults = []) (hr : L2.Room k callerA) (hY : ∀ (w : World) (h : Heap), YP w h → (K w.params).In h)
    (F : ∀ (w : World) (mg : Str → Option Value) (fa : Addr) (h : Heap), (K w.params).In h → h.Ns mainGlobals mg → mg d.name = some (.ref fa) →
      ∃ fd : FuncData, (∀ (s : Shared) (u : Value), BindsTo s fd ⟨[u], []⟩ [(x, u)]) ∧ ∀ base : Heap, (K w.params).In base → base.Ns mainGlobals mg → FnG l.prog w (K w.params) mg base k fa fd [x] (spLaw (K w.params))) :
    PySem.W.WalkO q loose XP YP l.row.toRowW d [] (fun f vs => PySem.call f vs) :=
  walk_g (sp := fun w => spLaw (K w.params)) hn (by decide) hdf hr hY F (fun _ _ a ns hl _ hS => ⟨a, ns, rfl, hS, hl, fun _ => rfl⟩)
end Dk
end
/-! Ptab -/
section
set_option maxRecDepth 100000
set_option linter.all false
namespace Dk
/-- a def, a class of P -/
class Has (P : Prg) (x : String) (f : outParam Fn) : Prop where
  h : P.fn x = some f
class HasC (P : Prg) (x : String) (f : outParam Cls) : Prop where
  h : P.cl x = some f
theorem pf {P : Prg} {x : String} {f : Fn} [h : Has P x f] : P.fn x = some f := h.h
theorem pk {P : Prg} {x : String} {f : Cls} [h : HasC P x f] : P.cl x = some f := h.h
def f_Free_lets : Fn := ⟨["self", "place", "phase", "chosen"], 4, [],
Dk.CSs.cons (Dk.CS.ret (Dk.CE.k (Dk.D.bl true))) (Dk.CSs.nil)⟩
def f_Lamp___init__ : Fn := ⟨["self", "period", "lights"], 4, [0],
Dk.CSs.cons
  (Dk.CS.ite
    (Dk.CE.not
      (Dk.CE.call
        "is_between"
        (Dk.CEs.cons
          (Dk.CE.loc 1)
          (Dk.CEs.cons (Dk.CE.k (Dk.D.int 1)) (Dk.CEs.cons (Dk.CE.glob "MOST_PERIOD") (Dk.CEs.nil))))))
    (Dk.CSs.cons (Dk.CS.raise (Dk.CE.k (Dk.D.non))) (Dk.CSs.nil))
    (Dk.CSs.nil))
  (Dk.CSs.cons
    (Dk.CS.asg
      (Dk.CT.nm 3)
      (Dk.CE.call "wrong_light" (Dk.CEs.cons (Dk.CE.loc 1) (Dk.CEs.cons (Dk.CE.loc 2) (Dk.CEs.nil)))))
    (Dk.CSs.cons
      (Dk.CS.ite
        (Dk.CE.cmp (Dk.Cop.ne) (Dk.CE.loc 3) (Dk.CE.lst (Dk.CEs.nil)))
        (Dk.CSs.cons (Dk.CS.raise (Dk.CE.k (Dk.D.non))) (Dk.CSs.nil))
        (Dk.CSs.nil))
      (Dk.CSs.cons
        (Dk.CS.asg
          (Dk.CT.tp [Dk.CT.fld (Dk.CE.loc 0) "round", Dk.CT.fld (Dk.CE.loc 0) "on"])
          (Dk.CE.tup (Dk.CEs.cons (Dk.CE.loc 1) (Dk.CEs.cons (Dk.CE.loc 2) (Dk.CEs.nil)))))
        (Dk.CSs.nil))))⟩
def f_Left___init__ : Fn := ⟨["self", "lamps", "most"], 3, [0],
Dk.CSs.cons
  (Dk.CS.asg
    (Dk.CT.tp [Dk.CT.fld (Dk.CE.loc 0) "crew", Dk.CT.fld (Dk.CE.loc 0) "most"])
    (Dk.CE.tup (Dk.CEs.cons (Dk.CE.loc 1) (Dk.CEs.cons (Dk.CE.loc 2) (Dk.CEs.nil)))))
  (Dk.CSs.nil)⟩
def f_Left_is_enough : Fn := ⟨["self", "out"], 6, [],
Dk.CSs.cons
  (Dk.CS.asg
    (Dk.CT.nm 2)
    (Dk.CE.lc
      (Dk.CE.loc 5)
      (Dk.Tg.tp [Dk.Tg.nm 4, Dk.Tg.nm 5])
      (Dk.CI.enum (Dk.CE.attr (Dk.CE.loc 0) "crew"))
      (Dk.CEs.cons (Dk.CE.cmp (Dk.Cop.notin) (Dk.CE.loc 4) (Dk.CE.loc 1)) (Dk.CEs.nil))))
  (Dk.CSs.cons
    (Dk.CS.asg
      (Dk.CT.nm 3)
      (Dk.CE.call "greatest" (Dk.CEs.cons (Dk.CE.loc 2) (Dk.CEs.cons (Dk.CE.mk0 "Free") (Dk.CEs.nil)))))
    (Dk.CSs.cons
      (Dk.CS.ret
        (Dk.CE.ife
          (Dk.CE.cmp (Dk.Cop.nel) (Dk.CE.loc 2) (Dk.CE.lst (Dk.CEs.nil)))
          (Dk.CE.and
            (Dk.CE.cmp (Dk.Cop.isnot) (Dk.CE.loc 3) (Dk.CE.k (Dk.D.non)))
            (Dk.CE.cmp (Dk.Cop.le) (Dk.CE.loc 3) (Dk.CE.attr (Dk.CE.loc 0) "most")))
          (Dk.CE.k (Dk.D.bl true))))
      (Dk.CSs.nil)))⟩
def f_Night___init__ : Fn := ⟨["self", "lamps", "phases"], 3, [0],
Dk.CSs.cons
  (Dk.CS.expr
    (Dk.CE.call "check_lamps" (Dk.CEs.cons (Dk.CE.loc 1) (Dk.CEs.cons (Dk.CE.glob "MOST_TOLD") (Dk.CEs.nil)))))
  (Dk.CSs.cons
    (Dk.CS.expr (Dk.CE.call "check_phases" (Dk.CEs.cons (Dk.CE.loc 1) (Dk.CEs.cons (Dk.CE.loc 2) (Dk.CEs.nil)))))
    (Dk.CSs.cons
      (Dk.CS.asg
        (Dk.CT.tp [Dk.CT.fld (Dk.CE.loc 0) "row", Dk.CT.fld (Dk.CE.loc 0) "turned"])
        (Dk.CE.tup (Dk.CEs.cons (Dk.CE.loc 1) (Dk.CEs.cons (Dk.CE.loc 2) (Dk.CEs.nil)))))
      (Dk.CSs.nil)))⟩
def f_Night_lamps : Fn := ⟨["self"], 1, [],
Dk.CSs.cons (Dk.CS.ret (Dk.CE.attr (Dk.CE.loc 0) "row")) (Dk.CSs.nil)⟩
def f_Night_phases : Fn := ⟨["self"], 1, [],
Dk.CSs.cons (Dk.CS.ret (Dk.CE.attr (Dk.CE.loc 0) "turned")) (Dk.CSs.nil)⟩
def f_Rest___init__ : Fn := ⟨["self", "night", "most"], 3, [0],
Dk.CSs.cons
  (Dk.CS.asg
    (Dk.CT.tp [Dk.CT.fld (Dk.CE.loc 0) "night", Dk.CT.fld (Dk.CE.loc 0) "most"])
    (Dk.CE.tup (Dk.CEs.cons (Dk.CE.loc 1) (Dk.CEs.cons (Dk.CE.loc 2) (Dk.CEs.nil)))))
  (Dk.CSs.nil)⟩
def f_Rest_is_enough : Fn := ⟨["self", "out"], 5, [],
Dk.CSs.cons
  (Dk.CS.asg
    (Dk.CT.nm 2)
    (Dk.CE.lc
      (Dk.CE.loc 4)
      (Dk.Tg.nm 4)
      (Dk.CI.rng (Dk.CE.bi "len" (Dk.CEs.cons (Dk.CE.attr (Dk.CE.attr (Dk.CE.loc 0) "night") "row") (Dk.CEs.nil))))
      (Dk.CEs.cons (Dk.CE.cmp (Dk.Cop.notin) (Dk.CE.loc 4) (Dk.CE.loc 1)) (Dk.CEs.nil))))
  (Dk.CSs.cons
    (Dk.CS.asg
      (Dk.CT.nm 3)
      (Dk.CE.call
        "longest_of"
        (Dk.CEs.cons
          (Dk.CE.lc
            (Dk.CE.idx (Dk.CE.attr (Dk.CE.attr (Dk.CE.loc 0) "night") "row") (Dk.CE.loc 4))
            (Dk.Tg.nm 4)
            (Dk.CI.seq (Dk.CE.loc 2))
            (Dk.CEs.nil))
          (Dk.CEs.cons
            (Dk.CE.lc
              (Dk.CE.idx (Dk.CE.attr (Dk.CE.attr (Dk.CE.loc 0) "night") "turned") (Dk.CE.loc 4))
              (Dk.Tg.nm 4)
              (Dk.CI.seq (Dk.CE.loc 2))
              (Dk.CEs.nil))
            (Dk.CEs.nil)))))
    (Dk.CSs.cons
      (Dk.CS.ret
        (Dk.CE.ife
          (Dk.CE.cmp (Dk.Cop.ne) (Dk.CE.loc 2) (Dk.CE.lst (Dk.CEs.nil)))
          (Dk.CE.and
            (Dk.CE.cmp (Dk.Cop.isnot) (Dk.CE.loc 3) (Dk.CE.k (Dk.D.non)))
            (Dk.CE.cmp (Dk.Cop.le) (Dk.CE.loc 3) (Dk.CE.attr (Dk.CE.loc 0) "most")))
          (Dk.CE.k (Dk.D.bl true))))
      (Dk.CSs.nil)))⟩
def f_Told___init__ : Fn := ⟨["self", "lamps", "notes", "minute"], 5, [0],
Dk.CSs.cons
  (Dk.CS.asg
    (Dk.CT.tp [Dk.CT.fld (Dk.CE.loc 0) "crew", Dk.CT.fld (Dk.CE.loc 0) "start"])
    (Dk.CE.tup (Dk.CEs.cons (Dk.CE.loc 1) (Dk.CEs.cons (Dk.CE.loc 3) (Dk.CEs.nil)))))
  (Dk.CSs.cons
    (Dk.CS.asg
      (Dk.CT.fld (Dk.CE.loc 0) "told")
      (Dk.CE.lc
        (Dk.CE.call "own_notes" (Dk.CEs.cons (Dk.CE.loc 2) (Dk.CEs.cons (Dk.CE.loc 4) (Dk.CEs.nil))))
        (Dk.Tg.nm 4)
        (Dk.CI.rng (Dk.CE.bi "len" (Dk.CEs.cons (Dk.CE.loc 1) (Dk.CEs.nil))))
        (Dk.CEs.nil)))
    (Dk.CSs.nil))⟩
def f_Told_case_of : Fn := ⟨["self", "chosen"], 5, [2],
Dk.CSs.cons
  (Dk.CS.asg (Dk.CT.nm 2) (Dk.CE.lst (Dk.CEs.nil)))
  (Dk.CSs.cons
    (Dk.CS.for_
      (Dk.Tg.tp [Dk.Tg.nm 3, Dk.Tg.nm 4])
      (Dk.CI.enum (Dk.CE.attr (Dk.CE.loc 0) "crew"))
      (Dk.CSs.cons
        (Dk.CS.app
          2
          (Dk.CE.ife
            (Dk.CE.cmp (Dk.Cop.in_) (Dk.CE.loc 3) (Dk.CE.loc 1))
            (Dk.CE.meth
              (Dk.CE.loc 0)
              "phase_of"
              (Dk.CEs.cons (Dk.CE.loc 3) (Dk.CEs.cons (Dk.CE.idx (Dk.CE.loc 1) (Dk.CE.loc 3)) (Dk.CEs.nil))))
            (Dk.CE.call
              "least_phase"
              (Dk.CEs.cons
                (Dk.CE.loc 4)
                (Dk.CEs.cons (Dk.CE.idx (Dk.CE.attr (Dk.CE.loc 0) "told") (Dk.CE.loc 3)) (Dk.CEs.nil))))))
        (Dk.CSs.nil)))
    (Dk.CSs.cons (Dk.CS.ret (Dk.CE.bi "tuple" (Dk.CEs.cons (Dk.CE.loc 2) (Dk.CEs.nil)))) (Dk.CSs.nil)))⟩
def f_Told_lets : Fn := ⟨["self", "place", "phase", "chosen"], 4, [],
Dk.CSs.cons
  (Dk.CS.ret
    (Dk.CE.call
      "keeps"
      (Dk.CEs.cons
        (Dk.CE.idx (Dk.CE.attr (Dk.CE.loc 0) "crew") (Dk.CE.loc 1))
        (Dk.CEs.cons
          (Dk.CE.meth (Dk.CE.loc 0) "phase_of" (Dk.CEs.cons (Dk.CE.loc 1) (Dk.CEs.cons (Dk.CE.loc 2) (Dk.CEs.nil))))
          (Dk.CEs.cons (Dk.CE.idx (Dk.CE.attr (Dk.CE.loc 0) "told") (Dk.CE.loc 1)) (Dk.CEs.nil))))))
  (Dk.CSs.nil)⟩
def f_Told_phase_of : Fn := ⟨["self", "place", "phase"], 3, [],
Dk.CSs.cons
  (Dk.CS.ret
    (Dk.CE.bin
      (Dk.Bop.mod)
      (Dk.CE.bin (Dk.Bop.sub) (Dk.CE.loc 2) (Dk.CE.attr (Dk.CE.loc 0) "start"))
      (Dk.CE.attr (Dk.CE.idx (Dk.CE.attr (Dk.CE.loc 0) "crew") (Dk.CE.loc 1)) "round")))
  (Dk.CSs.nil)⟩
def f_Tree___init__ : Fn := ⟨["self", "lamps", "rule"], 3, [0],
Dk.CSs.cons
  (Dk.CS.asg
    (Dk.CT.tp [Dk.CT.fld (Dk.CE.loc 0) "crew", Dk.CT.fld (Dk.CE.loc 0) "rule", Dk.CT.fld (Dk.CE.loc 0) "most"])
    (Dk.CE.tup
      (Dk.CEs.cons
        (Dk.CE.loc 1)
        (Dk.CEs.cons
          (Dk.CE.loc 2)
          (Dk.CEs.cons (Dk.CE.call "bound_of" (Dk.CEs.cons (Dk.CE.loc 1) (Dk.CEs.nil))) (Dk.CEs.nil))))))
  (Dk.CSs.nil)⟩
def f_Tree_choices : Fn := ⟨["self", "chosen", "at"], 7, [3],
Dk.CSs.cons
  (Dk.CS.asg (Dk.CT.nm 3) (Dk.CE.lst (Dk.CEs.nil)))
  (Dk.CSs.cons
    (Dk.CS.for_
      (Dk.Tg.tp [Dk.Tg.nm 4, Dk.Tg.nm 5])
      (Dk.CI.enum (Dk.CE.attr (Dk.CE.loc 0) "crew"))
      (Dk.CSs.cons
        (Dk.CS.ite
          (Dk.CE.cmp (Dk.Cop.notin) (Dk.CE.loc 4) (Dk.CE.loc 1))
          (Dk.CSs.cons
            (Dk.CS.ext
              3
              (Dk.CE.lc
                (Dk.CE.tup
                  (Dk.CEs.cons
                    (Dk.CE.loc 4)
                    (Dk.CEs.cons
                      (Dk.CE.bin
                        (Dk.Bop.mod)
                        (Dk.CE.bin (Dk.Bop.sub) (Dk.CE.loc 6) (Dk.CE.loc 2))
                        (Dk.CE.attr (Dk.CE.loc 5) "round"))
                      (Dk.CEs.nil))))
                (Dk.Tg.nm 6)
                (Dk.CI.seq (Dk.CE.attr (Dk.CE.loc 5) "on"))
                (Dk.CEs.nil)))
            (Dk.CSs.nil))
          (Dk.CSs.nil))
        (Dk.CSs.nil)))
    (Dk.CSs.cons (Dk.CS.ret (Dk.CE.loc 3)) (Dk.CSs.nil)))⟩
def f_Tree_lit_to : Fn := ⟨["self", "chosen", "at", "goal"], 8, [],
Dk.CSs.cons
  (Dk.CS.asg
    (Dk.CT.nm 4)
    (Dk.CE.lc
      (Dk.CE.tup
        (Dk.CEs.cons
          (Dk.CE.idx (Dk.CE.attr (Dk.CE.loc 0) "crew") (Dk.CE.loc 5))
          (Dk.CEs.cons (Dk.CE.loc 6) (Dk.CEs.nil))))
      (Dk.Tg.tp [Dk.Tg.nm 5, Dk.Tg.nm 6])
      (Dk.CI.items (Dk.CE.loc 1))
      (Dk.CEs.nil)))
  (Dk.CSs.cons
    (Dk.CS.wh
      (Dk.CE.and
        (Dk.CE.cmp (Dk.Cop.lt) (Dk.CE.loc 2) (Dk.CE.loc 3))
        (Dk.CE.bi
          "any"
          (Dk.CEs.cons
            (Dk.CE.lc
              (Dk.CE.cmp
                (Dk.Cop.in_)
                (Dk.CE.bin
                  (Dk.Bop.mod)
                  (Dk.CE.bin (Dk.Bop.add) (Dk.CE.loc 2) (Dk.CE.loc 6))
                  (Dk.CE.attr (Dk.CE.loc 7) "round"))
                (Dk.CE.attr (Dk.CE.loc 7) "on"))
              (Dk.Tg.tp [Dk.Tg.nm 7, Dk.Tg.nm 6])
              (Dk.CI.seq (Dk.CE.loc 4))
              (Dk.CEs.nil))
            (Dk.CEs.nil))))
      (Dk.CSs.cons (Dk.CS.asg (Dk.CT.nm 2) (Dk.CE.bin (Dk.Bop.add) (Dk.CE.loc 2) (Dk.CE.k (Dk.D.int 1)))) (Dk.CSs.nil)))
    (Dk.CSs.cons (Dk.CS.ret (Dk.CE.loc 2)) (Dk.CSs.nil)))⟩
def f_Tree_longest : Fn := ⟨["self", "chosen", "begin", "goal"], 9, [],
Dk.CSs.cons
  (Dk.CS.asg
    (Dk.CT.nm 4)
    (Dk.CE.meth
      (Dk.CE.loc 0)
      "lit_to"
      (Dk.CEs.cons (Dk.CE.loc 1) (Dk.CEs.cons (Dk.CE.loc 2) (Dk.CEs.cons (Dk.CE.loc 3) (Dk.CEs.nil))))))
  (Dk.CSs.cons
    (Dk.CS.asg (Dk.CT.nm 5) (Dk.CE.tup (Dk.CEs.cons (Dk.CE.loc 4) (Dk.CEs.cons (Dk.CE.loc 1) (Dk.CEs.nil)))))
    (Dk.CSs.cons
      (Dk.CS.for_
        (Dk.Tg.tp [Dk.Tg.nm 6, Dk.Tg.nm 7])
        (Dk.CI.seq
          (Dk.CE.meth (Dk.CE.loc 0) "choices" (Dk.CEs.cons (Dk.CE.loc 1) (Dk.CEs.cons (Dk.CE.loc 4) (Dk.CEs.nil)))))
        (Dk.CSs.cons
          (Dk.CS.ite
            (Dk.CE.and
              (Dk.CE.cmp (Dk.Cop.lt) (Dk.CE.idx (Dk.CE.loc 5) (Dk.CE.k (Dk.D.int 0))) (Dk.CE.loc 3))
              (Dk.CE.meth
                (Dk.CE.attr (Dk.CE.loc 0) "rule")
                "lets"
                (Dk.CEs.cons (Dk.CE.loc 6) (Dk.CEs.cons (Dk.CE.loc 7) (Dk.CEs.cons (Dk.CE.loc 1) (Dk.CEs.nil))))))
            (Dk.CSs.cons
              (Dk.CS.asg
                (Dk.CT.nm 8)
                (Dk.CE.meth
                  (Dk.CE.loc 0)
                  "longest"
                  (Dk.CEs.cons
                    (Dk.CE.dcs (Dk.CE.loc 1) (Dk.CE.loc 6) (Dk.CE.loc 7))
                    (Dk.CEs.cons
                      (Dk.CE.bin (Dk.Bop.add) (Dk.CE.loc 4) (Dk.CE.k (Dk.D.int 1)))
                      (Dk.CEs.cons (Dk.CE.loc 3) (Dk.CEs.nil))))))
              (Dk.CSs.cons
                (Dk.CS.asg
                  (Dk.CT.nm 5)
                  (Dk.CE.ife
                    (Dk.CE.cmp
                      (Dk.Cop.gt)
                      (Dk.CE.idx (Dk.CE.loc 8) (Dk.CE.k (Dk.D.int 0)))
                      (Dk.CE.idx (Dk.CE.loc 5) (Dk.CE.k (Dk.D.int 0))))
                    (Dk.CE.loc 8)
                    (Dk.CE.loc 5)))
                (Dk.CSs.nil)))
            (Dk.CSs.nil))
          (Dk.CSs.nil)))
      (Dk.CSs.cons (Dk.CS.ret (Dk.CE.loc 5)) (Dk.CSs.nil))))⟩
def f_Turns___init__ : Fn := ⟨["self", "lamps", "phases"], 3, [0],
Dk.CSs.cons
  (Dk.CS.asg
    (Dk.CT.tp [Dk.CT.fld (Dk.CE.loc 0) "crew", Dk.CT.fld (Dk.CE.loc 0) "base"])
    (Dk.CE.tup (Dk.CEs.cons (Dk.CE.loc 1) (Dk.CEs.cons (Dk.CE.loc 2) (Dk.CEs.nil)))))
  (Dk.CSs.nil)⟩
def f_Turns_lets : Fn := ⟨["self", "place", "phase", "chosen"], 8, [],
Dk.CSs.cons
  (Dk.CS.asg
    (Dk.CT.nm 4)
    (Dk.CE.bin (Dk.Bop.sub) (Dk.CE.loc 2) (Dk.CE.idx (Dk.CE.attr (Dk.CE.loc 0) "base") (Dk.CE.loc 1))))
  (Dk.CSs.cons
    (Dk.CS.for_
      (Dk.Tg.tp [Dk.Tg.nm 5, Dk.Tg.nm 6])
      (Dk.CI.items (Dk.CE.loc 3))
      (Dk.CSs.cons
        (Dk.CS.asg
          (Dk.CT.nm 7)
          (Dk.CE.call
            "gcd"
            (Dk.CEs.cons
              (Dk.CE.attr (Dk.CE.idx (Dk.CE.attr (Dk.CE.loc 0) "crew") (Dk.CE.loc 1)) "round")
              (Dk.CEs.cons
                (Dk.CE.attr (Dk.CE.idx (Dk.CE.attr (Dk.CE.loc 0) "crew") (Dk.CE.loc 5)) "round")
                (Dk.CEs.nil)))))
        (Dk.CSs.cons
          (Dk.CS.ite
            (Dk.CE.cmp
              (Dk.Cop.ne)
              (Dk.CE.bin
                (Dk.Bop.mod)
                (Dk.CE.bin
                  (Dk.Bop.add)
                  (Dk.CE.bin (Dk.Bop.sub) (Dk.CE.loc 4) (Dk.CE.loc 6))
                  (Dk.CE.idx (Dk.CE.attr (Dk.CE.loc 0) "base") (Dk.CE.loc 5)))
                (Dk.CE.loc 7))
              (Dk.CE.k (Dk.D.int 0)))
            (Dk.CSs.cons (Dk.CS.ret (Dk.CE.k (Dk.D.bl false))) (Dk.CSs.nil))
            (Dk.CSs.nil))
          (Dk.CSs.nil))))
    (Dk.CSs.cons (Dk.CS.ret (Dk.CE.k (Dk.D.bl true))) (Dk.CSs.nil)))⟩
def f_alike : Fn := ⟨["one", "other"], 2, [],
Dk.CSs.cons
  (Dk.CS.expr (Dk.CE.call "check_both" (Dk.CEs.cons (Dk.CE.loc 0) (Dk.CEs.cons (Dk.CE.loc 1) (Dk.CEs.nil)))))
  (Dk.CSs.cons
    (Dk.CS.ret
      (Dk.CE.cmp
        (Dk.Cop.is)
        (Dk.CE.call "unlike_from" (Dk.CEs.cons (Dk.CE.loc 0) (Dk.CEs.cons (Dk.CE.loc 1) (Dk.CEs.nil))))
        (Dk.CE.k (Dk.D.non))))
    (Dk.CSs.nil))⟩
def f_all_lit : Fn := ⟨["night", "minute"], 4, [],
Dk.CSs.cons
  (Dk.CS.ret
    (Dk.CE.lc
      (Dk.CE.loc 2)
      (Dk.Tg.tp [Dk.Tg.nm 2, Dk.Tg.nm 3])
      (Dk.CI.enum (Dk.CE.attr (Dk.CE.loc 0) "row"))
      (Dk.CEs.cons
        (Dk.CE.call
          "lit_by"
          (Dk.CEs.cons
            (Dk.CE.loc 3)
            (Dk.CEs.cons
              (Dk.CE.idx (Dk.CE.attr (Dk.CE.loc 0) "turned") (Dk.CE.loc 2))
              (Dk.CEs.cons (Dk.CE.loc 1) (Dk.CEs.nil)))))
        (Dk.CEs.nil))))
  (Dk.CSs.nil)⟩
def f_all_lots : Fn := ⟨["night"], 7, [1],
Dk.CSs.cons
  (Dk.CS.asg
    (Dk.CT.nm 1)
    (Dk.CE.lst
      (Dk.CEs.cons
        (Dk.CE.tup
          (Dk.CEs.cons
            (Dk.CE.k (Dk.D.int 0))
            (Dk.CEs.cons
              (Dk.CE.tup (Dk.CEs.cons (Dk.CE.k (Dk.D.int 0)) (Dk.CEs.cons (Dk.CE.k (Dk.D.int 1)) (Dk.CEs.nil))))
              (Dk.CEs.nil))))
        (Dk.CEs.nil))))
  (Dk.CSs.cons
    (Dk.CS.for_
      (Dk.Tg.nm 2)
      (Dk.CI.seq (Dk.CE.call "step_rows" (Dk.CEs.cons (Dk.CE.loc 0) (Dk.CEs.nil))))
      (Dk.CSs.cons
        (Dk.CS.asg
          (Dk.CT.nm 3)
          (Dk.CE.lco
            (Dk.CE.tup
              (Dk.CEs.cons
                (Dk.CE.bin (Dk.Bop.add) (Dk.CE.loc 4) (Dk.CE.k (Dk.D.int 1)))
                (Dk.CEs.cons
                  (Dk.CE.call "met" (Dk.CEs.cons (Dk.CE.loc 5) (Dk.CEs.cons (Dk.CE.loc 2) (Dk.CEs.nil))))
                  (Dk.CEs.nil))))
            (Dk.Tg.tp [Dk.Tg.nm 4, Dk.Tg.nm 5])
            1
            (Dk.CEs.nil)))
        (Dk.CSs.cons
          (Dk.CS.ext
            1
            (Dk.CE.lc
              (Dk.CE.loc 6)
              (Dk.Tg.nm 6)
              (Dk.CI.seq (Dk.CE.loc 3))
              (Dk.CEs.cons
                (Dk.CE.cmp (Dk.Cop.isnot) (Dk.CE.idx (Dk.CE.loc 6) (Dk.CE.k (Dk.D.int 1))) (Dk.CE.k (Dk.D.non)))
                (Dk.CEs.nil))))
          (Dk.CSs.nil))))
    (Dk.CSs.cons (Dk.CS.ret (Dk.CE.loc 1)) (Dk.CSs.nil)))⟩
def f_all_pictures : Fn := ⟨["night"], 2, [],
Dk.CSs.cons
  (Dk.CS.ret
    (Dk.CE.lc
      (Dk.CE.loc 1)
      (Dk.Tg.nm 1)
      (Dk.CI.seq
        (Dk.CE.call
          "ordered_parts"
          (Dk.CEs.cons (Dk.CE.bi "len" (Dk.CEs.cons (Dk.CE.attr (Dk.CE.loc 0) "row") (Dk.CEs.nil))) (Dk.CEs.nil))))
      (Dk.CEs.cons
        (Dk.CE.cmp
          (Dk.Cop.isnot)
          (Dk.CE.call
            "picture_from"
            (Dk.CEs.cons (Dk.CE.loc 0) (Dk.CEs.cons (Dk.CE.k (Dk.D.int 0)) (Dk.CEs.cons (Dk.CE.loc 1) (Dk.CEs.nil)))))
          (Dk.CE.k (Dk.D.non)))
        (Dk.CEs.nil))))
  (Dk.CSs.nil)⟩
def f_always_meet : Fn := ⟨["lamp", "mate"], 4, [],
Dk.CSs.cons
  (Dk.CS.expr (Dk.CE.call "check_pair" (Dk.CEs.cons (Dk.CE.loc 0) (Dk.CEs.cons (Dk.CE.loc 1) (Dk.CEs.nil)))))
  (Dk.CSs.cons
    (Dk.CS.asg
      (Dk.CT.tp [Dk.CT.nm 2, Dk.CT.nm 3])
      (Dk.CE.call "meeting" (Dk.CEs.cons (Dk.CE.loc 0) (Dk.CEs.cons (Dk.CE.loc 1) (Dk.CEs.nil)))))
    (Dk.CSs.cons
      (Dk.CS.ret (Dk.CE.cmp (Dk.Cop.eq) (Dk.CE.bi "len" (Dk.CEs.cons (Dk.CE.loc 3) (Dk.CEs.nil))) (Dk.CE.loc 2)))
      (Dk.CSs.nil)))⟩
def f_apart_phase : Fn := ⟨["lamp", "mate"], 5, [],
Dk.CSs.cons
  (Dk.CS.expr (Dk.CE.call "check_pair" (Dk.CEs.cons (Dk.CE.loc 0) (Dk.CEs.cons (Dk.CE.loc 1) (Dk.CEs.nil)))))
  (Dk.CSs.cons
    (Dk.CS.asg
      (Dk.CT.tp [Dk.CT.nm 2, Dk.CT.nm 3])
      (Dk.CE.call "meeting" (Dk.CEs.cons (Dk.CE.loc 0) (Dk.CEs.cons (Dk.CE.loc 1) (Dk.CEs.nil)))))
    (Dk.CSs.cons
      (Dk.CS.ite
        (Dk.CE.cmp (Dk.Cop.eq) (Dk.CE.bi "len" (Dk.CEs.cons (Dk.CE.loc 3) (Dk.CEs.nil))) (Dk.CE.loc 2))
        (Dk.CSs.cons (Dk.CS.ret (Dk.CE.k (Dk.D.non))) (Dk.CSs.nil))
        (Dk.CSs.nil))
      (Dk.CSs.cons
        (Dk.CS.asg (Dk.CT.nm 4) (Dk.CE.k (Dk.D.int 0)))
        (Dk.CSs.cons
          (Dk.CS.wh
            (Dk.CE.cmp (Dk.Cop.in_) (Dk.CE.loc 4) (Dk.CE.loc 3))
            (Dk.CSs.cons
              (Dk.CS.asg (Dk.CT.nm 4) (Dk.CE.bin (Dk.Bop.add) (Dk.CE.loc 4) (Dk.CE.k (Dk.D.int 1))))
              (Dk.CSs.nil)))
          (Dk.CSs.cons (Dk.CS.ret (Dk.CE.loc 4)) (Dk.CSs.nil))))))⟩
def f_are_indexes : Fn := ⟨["value", "many"], 3, [],
Dk.CSs.cons
  (Dk.CS.ite
    (Dk.CE.or
      (Dk.CE.not (Dk.CE.isi (Dk.CE.loc 0) "tuple" false))
      (Dk.CE.or
        (Dk.CE.cmp (Dk.Cop.eq) (Dk.CE.loc 0) (Dk.CE.tup (Dk.CEs.nil)))
        (Dk.CE.not
          (Dk.CE.bi
            "all"
            (Dk.CEs.cons
              (Dk.CE.lc
                (Dk.CE.call
                  "is_between"
                  (Dk.CEs.cons
                    (Dk.CE.loc 2)
                    (Dk.CEs.cons
                      (Dk.CE.k (Dk.D.int 0))
                      (Dk.CEs.cons (Dk.CE.bin (Dk.Bop.sub) (Dk.CE.loc 1) (Dk.CE.k (Dk.D.int 1))) (Dk.CEs.nil)))))
                (Dk.Tg.nm 2)
                (Dk.CI.seq (Dk.CE.loc 0))
                (Dk.CEs.nil))
              (Dk.CEs.nil))))))
    (Dk.CSs.cons (Dk.CS.ret (Dk.CE.k (Dk.D.bl false))) (Dk.CSs.nil))
    (Dk.CSs.nil))
  (Dk.CSs.cons
    (Dk.CS.ret
      (Dk.CE.bi
        "all"
        (Dk.CEs.cons
          (Dk.CE.lc
            (Dk.CE.cmp
              (Dk.Cop.lt)
              (Dk.CE.idx (Dk.CE.loc 0) (Dk.CE.bin (Dk.Bop.sub) (Dk.CE.loc 2) (Dk.CE.k (Dk.D.int 1))))
              (Dk.CE.idx (Dk.CE.loc 0) (Dk.CE.loc 2)))
            (Dk.Tg.nm 2)
            (Dk.CI.rng2 (Dk.CE.k (Dk.D.int 1)) (Dk.CE.bi "len" (Dk.CEs.cons (Dk.CE.loc 0) (Dk.CEs.nil))))
            (Dk.CEs.nil))
          (Dk.CEs.nil))))
    (Dk.CSs.nil))⟩
def f_bars : Fn := ⟨["lamp", "told"], 6, [2],
Dk.CSs.cons
  (Dk.CS.asg (Dk.CT.nm 2) (Dk.CE.dct (Dk.CEs.nil) (Dk.CEs.nil)))
  (Dk.CSs.cons
    (Dk.CS.for_
      (Dk.Tg.tp [Dk.Tg.nm 3, Dk.Tg.nm 4])
      (Dk.CI.seq (Dk.CE.loc 1))
      (Dk.CSs.cons
        (Dk.CS.for_
          (Dk.Tg.nm 5)
          (Dk.CI.seq (Dk.CE.attr (Dk.CE.loc 0) "on"))
          (Dk.CSs.cons
            (Dk.CS.asg
              (Dk.CT.sub
                (Dk.CE.loc 2)
                (Dk.CE.bin
                  (Dk.Bop.mod)
                  (Dk.CE.bin (Dk.Bop.sub) (Dk.CE.loc 5) (Dk.CE.loc 3))
                  (Dk.CE.attr (Dk.CE.loc 0) "round")))
              (Dk.CE.k (Dk.D.bl true)))
            (Dk.CSs.nil)))
        (Dk.CSs.nil)))
    (Dk.CSs.cons (Dk.CS.ret (Dk.CE.bi "list" (Dk.CEs.cons (Dk.CE.loc 2) (Dk.CEs.nil)))) (Dk.CSs.nil)))⟩
def f_bound_of : Fn := ⟨["lamps"], 1, [],
Dk.CSs.cons
  (Dk.CS.ret
    (Dk.CE.bin
      (Dk.Bop.shl)
      (Dk.CE.k (Dk.D.int 1))
      (Dk.CE.call "light_number" (Dk.CEs.cons (Dk.CE.loc 0) (Dk.CEs.nil)))))
  (Dk.CSs.nil)⟩
def f_can_be : Fn := ⟨["lamps", "notes", "index", "minute", "lit"], 5, [],
Dk.CSs.cons
  (Dk.CS.ret
    (Dk.CE.cmp
      (Dk.Cop.gt)
      (Dk.CE.call
        "count_phases"
        (Dk.CEs.cons
          (Dk.CE.idx (Dk.CE.loc 0) (Dk.CE.loc 2))
          (Dk.CEs.cons
            (Dk.CE.lst
              (Dk.CEs.star
                (Dk.CE.call "own_notes" (Dk.CEs.cons (Dk.CE.loc 1) (Dk.CEs.cons (Dk.CE.loc 2) (Dk.CEs.nil))))
                (Dk.CEs.cons
                  (Dk.CE.tup (Dk.CEs.cons (Dk.CE.loc 3) (Dk.CEs.cons (Dk.CE.loc 4) (Dk.CEs.nil))))
                  (Dk.CEs.nil))))
            (Dk.CEs.nil))))
      (Dk.CE.k (Dk.D.int 0))))
  (Dk.CSs.nil)⟩
def f_case_for_ever : Fn := ⟨["lamps"], 1, [],
Dk.CSs.cons
  (Dk.CS.expr
    (Dk.CE.call "check_lamps" (Dk.CEs.cons (Dk.CE.loc 0) (Dk.CEs.cons (Dk.CE.glob "MOST_FREE") (Dk.CEs.nil)))))
  (Dk.CSs.cons
    (Dk.CS.ret
      (Dk.CE.call
        "case_with"
        (Dk.CEs.cons
          (Dk.CE.loc 0)
          (Dk.CEs.cons (Dk.CE.call "bound_of" (Dk.CEs.cons (Dk.CE.loc 0) (Dk.CEs.nil))) (Dk.CEs.nil)))))
    (Dk.CSs.nil))⟩
def f_case_from : Fn := ⟨["lamps", "notes", "minute", "length"], 7, [],
Dk.CSs.cons
  (Dk.CS.expr (Dk.CE.call "check_notes" (Dk.CEs.cons (Dk.CE.loc 0) (Dk.CEs.cons (Dk.CE.loc 1) (Dk.CEs.nil)))))
  (Dk.CSs.cons
    (Dk.CS.expr (Dk.CE.call "check_minute" (Dk.CEs.cons (Dk.CE.loc 2) (Dk.CEs.nil))))
    (Dk.CSs.cons
      (Dk.CS.expr (Dk.CE.call "check_length" (Dk.CEs.cons (Dk.CE.loc 3) (Dk.CEs.nil))))
      (Dk.CSs.cons
        (Dk.CS.expr (Dk.CE.call "check_case" (Dk.CEs.cons (Dk.CE.loc 0) (Dk.CEs.cons (Dk.CE.loc 1) (Dk.CEs.nil)))))
        (Dk.CSs.cons
          (Dk.CS.asg
            (Dk.CT.nm 4)
            (Dk.CE.make
              "Told"
              (Dk.CEs.cons (Dk.CE.loc 0) (Dk.CEs.cons (Dk.CE.loc 1) (Dk.CEs.cons (Dk.CE.loc 2) (Dk.CEs.nil))))))
          (Dk.CSs.cons
            (Dk.CS.asg
              (Dk.CT.tp [Dk.CT.nm 5, Dk.CT.nm 6])
              (Dk.CE.call
                "grown"
                (Dk.CEs.cons (Dk.CE.loc 0) (Dk.CEs.cons (Dk.CE.loc 4) (Dk.CEs.cons (Dk.CE.loc 3) (Dk.CEs.nil))))))
            (Dk.CSs.cons
              (Dk.CS.ret
                (Dk.CE.ife
                  (Dk.CE.cmp
                    (Dk.Cop.ge)
                    (Dk.CE.loc 5)
                    (Dk.CE.bi
                      "min"
                      (Dk.CEs.cons
                        (Dk.CE.loc 3)
                        (Dk.CEs.cons (Dk.CE.call "bound_of" (Dk.CEs.cons (Dk.CE.loc 0) (Dk.CEs.nil))) (Dk.CEs.nil)))))
                  (Dk.CE.meth (Dk.CE.loc 4) "case_of" (Dk.CEs.cons (Dk.CE.loc 6) (Dk.CEs.nil)))
                  (Dk.CE.k (Dk.D.non))))
              (Dk.CSs.nil)))))))⟩
def f_case_lit : Fn := ⟨["lamps", "length"], 2, [],
Dk.CSs.cons
  (Dk.CS.expr
    (Dk.CE.call "check_lamps" (Dk.CEs.cons (Dk.CE.loc 0) (Dk.CEs.cons (Dk.CE.glob "MOST_FREE") (Dk.CEs.nil)))))
  (Dk.CSs.cons
    (Dk.CS.expr (Dk.CE.call "check_length" (Dk.CEs.cons (Dk.CE.loc 1) (Dk.CEs.nil))))
    (Dk.CSs.cons
      (Dk.CS.ret (Dk.CE.call "case_with" (Dk.CEs.cons (Dk.CE.loc 0) (Dk.CEs.cons (Dk.CE.loc 1) (Dk.CEs.nil)))))
      (Dk.CSs.nil)))⟩
def f_case_with : Fn := ⟨["lamps", "length"], 5, [],
Dk.CSs.cons
  (Dk.CS.asg
    (Dk.CT.tp [Dk.CT.nm 2, Dk.CT.nm 3])
    (Dk.CE.call
      "grown"
      (Dk.CEs.cons (Dk.CE.loc 0) (Dk.CEs.cons (Dk.CE.mk0 "Free") (Dk.CEs.cons (Dk.CE.loc 1) (Dk.CEs.nil))))))
  (Dk.CSs.cons
    (Dk.CS.ite
      (Dk.CE.cmp
        (Dk.Cop.lt)
        (Dk.CE.loc 2)
        (Dk.CE.bi
          "min"
          (Dk.CEs.cons
            (Dk.CE.loc 1)
            (Dk.CEs.cons (Dk.CE.call "bound_of" (Dk.CEs.cons (Dk.CE.loc 0) (Dk.CEs.nil))) (Dk.CEs.nil)))))
      (Dk.CSs.cons (Dk.CS.ret (Dk.CE.k (Dk.D.non))) (Dk.CSs.nil))
      (Dk.CSs.nil))
    (Dk.CSs.cons
      (Dk.CS.ret
        (Dk.CE.bi
          "tuple"
          (Dk.CEs.cons
            (Dk.CE.lc
              (Dk.CE.bm
                (Dk.CE.loc 3)
                "get"
                (Dk.CEs.cons (Dk.CE.loc 4) (Dk.CEs.cons (Dk.CE.k (Dk.D.int 0)) (Dk.CEs.nil))))
              (Dk.Tg.nm 4)
              (Dk.CI.rng (Dk.CE.bi "len" (Dk.CEs.cons (Dk.CE.loc 0) (Dk.CEs.nil))))
              (Dk.CEs.nil))
            (Dk.CEs.nil))))
      (Dk.CSs.nil)))⟩
def f_check_both : Fn := ⟨["one", "other"], 2, [],
Dk.CSs.cons
  (Dk.CS.expr (Dk.CE.call "check_night" (Dk.CEs.cons (Dk.CE.loc 0) (Dk.CEs.nil))))
  (Dk.CSs.cons (Dk.CS.expr (Dk.CE.call "check_night" (Dk.CEs.cons (Dk.CE.loc 1) (Dk.CEs.nil)))) (Dk.CSs.nil))⟩
def f_check_case : Fn := ⟨["lamps", "notes"], 2, [],
Dk.CSs.cons
  (Dk.CS.ite
    (Dk.CE.cmp
      (Dk.Cop.eq)
      (Dk.CE.call "many_cases" (Dk.CEs.cons (Dk.CE.loc 0) (Dk.CEs.cons (Dk.CE.loc 1) (Dk.CEs.nil))))
      (Dk.CE.k (Dk.D.int 0)))
    (Dk.CSs.cons (Dk.CS.raise (Dk.CE.k (Dk.D.non))) (Dk.CSs.nil))
    (Dk.CSs.nil))
  (Dk.CSs.nil)⟩
def f_check_lamp : Fn := ⟨["value"], 1, [],
Dk.CSs.cons
  (Dk.CS.ite
    (Dk.CE.not (Dk.CE.isi (Dk.CE.loc 0) "Lamp" true))
    (Dk.CSs.cons (Dk.CS.raise (Dk.CE.k (Dk.D.non))) (Dk.CSs.nil))
    (Dk.CSs.nil))
  (Dk.CSs.nil)⟩
def f_check_lamps : Fn := ⟨["lamps", "most"], 5, [],
Dk.CSs.cons
  (Dk.CS.ite
    (Dk.CE.or
      (Dk.CE.not (Dk.CE.isi (Dk.CE.loc 0) "tuple" false))
      (Dk.CE.cmp (Dk.Cop.eq) (Dk.CE.loc 0) (Dk.CE.tup (Dk.CEs.nil))))
    (Dk.CSs.cons (Dk.CS.raise (Dk.CE.k (Dk.D.non))) (Dk.CSs.nil))
    (Dk.CSs.nil))
  (Dk.CSs.cons
    (Dk.CS.asg (Dk.CT.nm 2) (Dk.CE.k (Dk.D.int 0)))
    (Dk.CSs.cons
      (Dk.CS.for_
        (Dk.Tg.tp [Dk.Tg.nm 3, Dk.Tg.nm 4])
        (Dk.CI.enum (Dk.CE.loc 0))
        (Dk.CSs.cons
          (Dk.CS.ite
            (Dk.CE.or
              (Dk.CE.cmp (Dk.Cop.eq) (Dk.CE.loc 3) (Dk.CE.glob "MOST_LAMPS"))
              (Dk.CE.not (Dk.CE.isi (Dk.CE.loc 4) "Lamp" true)))
            (Dk.CSs.cons (Dk.CS.raise (Dk.CE.k (Dk.D.non))) (Dk.CSs.nil))
            (Dk.CSs.nil))
          (Dk.CSs.cons
            (Dk.CS.asg
              (Dk.CT.nm 2)
              (Dk.CE.bin
                (Dk.Bop.add)
                (Dk.CE.loc 2)
                (Dk.CE.bi "len" (Dk.CEs.cons (Dk.CE.attr (Dk.CE.loc 4) "on") (Dk.CEs.nil)))))
            (Dk.CSs.cons
              (Dk.CS.ite
                (Dk.CE.cmp (Dk.Cop.gt) (Dk.CE.loc 2) (Dk.CE.loc 1))
                (Dk.CSs.cons (Dk.CS.raise (Dk.CE.k (Dk.D.non))) (Dk.CSs.nil))
                (Dk.CSs.nil))
              (Dk.CSs.nil)))))
      (Dk.CSs.nil)))⟩
def f_check_length : Fn := ⟨["length"], 1, [],
Dk.CSs.cons
  (Dk.CS.ite
    (Dk.CE.not
      (Dk.CE.call
        "is_between"
        (Dk.CEs.cons
          (Dk.CE.loc 0)
          (Dk.CEs.cons (Dk.CE.k (Dk.D.int 0)) (Dk.CEs.cons (Dk.CE.glob "MOST_LENGTH") (Dk.CEs.nil))))))
    (Dk.CSs.cons (Dk.CS.raise (Dk.CE.k (Dk.D.non))) (Dk.CSs.nil))
    (Dk.CSs.nil))
  (Dk.CSs.nil)⟩
def f_check_minute : Fn := ⟨["minute"], 1, [],
Dk.CSs.cons
  (Dk.CS.ite
    (Dk.CE.not
      (Dk.CE.call
        "is_between"
        (Dk.CEs.cons
          (Dk.CE.loc 0)
          (Dk.CEs.cons (Dk.CE.k (Dk.D.int 0)) (Dk.CEs.cons (Dk.CE.glob "MOST_MINUTE") (Dk.CEs.nil))))))
    (Dk.CSs.cons (Dk.CS.raise (Dk.CE.k (Dk.D.non))) (Dk.CSs.nil))
    (Dk.CSs.nil))
  (Dk.CSs.nil)⟩
def f_check_night : Fn := ⟨["value"], 1, [],
Dk.CSs.cons
  (Dk.CS.ite
    (Dk.CE.not (Dk.CE.isi (Dk.CE.loc 0) "Night" true))
    (Dk.CSs.cons (Dk.CS.raise (Dk.CE.k (Dk.D.non))) (Dk.CSs.nil))
    (Dk.CSs.nil))
  (Dk.CSs.nil)⟩
def f_check_notes : Fn := ⟨["lamps", "notes"], 4, [],
Dk.CSs.cons
  (Dk.CS.expr
    (Dk.CE.call "check_lamps" (Dk.CEs.cons (Dk.CE.loc 0) (Dk.CEs.cons (Dk.CE.glob "MOST_FREE") (Dk.CEs.nil)))))
  (Dk.CSs.cons
    (Dk.CS.ite
      (Dk.CE.not (Dk.CE.isi (Dk.CE.loc 1) "tuple" false))
      (Dk.CSs.cons (Dk.CS.raise (Dk.CE.k (Dk.D.non))) (Dk.CSs.nil))
      (Dk.CSs.nil))
    (Dk.CSs.cons
      (Dk.CS.for_
        (Dk.Tg.tp [Dk.Tg.nm 2, Dk.Tg.nm 3])
        (Dk.CI.enum (Dk.CE.loc 1))
        (Dk.CSs.cons
          (Dk.CS.ite
            (Dk.CE.or
              (Dk.CE.cmp (Dk.Cop.eq) (Dk.CE.loc 2) (Dk.CE.glob "MOST_NOTES"))
              (Dk.CE.not (Dk.CE.call "is_note" (Dk.CEs.cons (Dk.CE.loc 0) (Dk.CEs.cons (Dk.CE.loc 3) (Dk.CEs.nil))))))
            (Dk.CSs.cons (Dk.CS.raise (Dk.CE.k (Dk.D.non))) (Dk.CSs.nil))
            (Dk.CSs.nil))
          (Dk.CSs.nil)))
      (Dk.CSs.nil)))⟩
def f_check_pair : Fn := ⟨["lamp", "mate"], 2, [],
Dk.CSs.cons
  (Dk.CS.expr (Dk.CE.call "check_lamp" (Dk.CEs.cons (Dk.CE.loc 0) (Dk.CEs.nil))))
  (Dk.CSs.cons (Dk.CS.expr (Dk.CE.call "check_lamp" (Dk.CEs.cons (Dk.CE.loc 1) (Dk.CEs.nil)))) (Dk.CSs.nil))⟩
def f_check_phases : Fn := ⟨["lamps", "phases"], 4, [],
Dk.CSs.cons
  (Dk.CS.ite
    (Dk.CE.or
      (Dk.CE.not (Dk.CE.isi (Dk.CE.loc 1) "tuple" false))
      (Dk.CE.cmp
        (Dk.Cop.ne)
        (Dk.CE.bi "len" (Dk.CEs.cons (Dk.CE.loc 1) (Dk.CEs.nil)))
        (Dk.CE.bi "len" (Dk.CEs.cons (Dk.CE.loc 0) (Dk.CEs.nil)))))
    (Dk.CSs.cons (Dk.CS.raise (Dk.CE.k (Dk.D.non))) (Dk.CSs.nil))
    (Dk.CSs.nil))
  (Dk.CSs.cons
    (Dk.CS.for_
      (Dk.Tg.tp [Dk.Tg.nm 2, Dk.Tg.nm 3])
      (Dk.CI.enum (Dk.CE.loc 1))
      (Dk.CSs.cons
        (Dk.CS.ite
          (Dk.CE.not
            (Dk.CE.call
              "is_between"
              (Dk.CEs.cons
                (Dk.CE.loc 3)
                (Dk.CEs.cons
                  (Dk.CE.k (Dk.D.int 0))
                  (Dk.CEs.cons
                    (Dk.CE.bin
                      (Dk.Bop.sub)
                      (Dk.CE.attr (Dk.CE.idx (Dk.CE.loc 0) (Dk.CE.loc 2)) "round")
                      (Dk.CE.k (Dk.D.int 1)))
                    (Dk.CEs.nil))))))
          (Dk.CSs.cons (Dk.CS.raise (Dk.CE.k (Dk.D.non))) (Dk.CSs.nil))
          (Dk.CSs.nil))
        (Dk.CSs.nil)))
    (Dk.CSs.nil))⟩
def f_choose : Fn := ⟨["many", "some"], 4, [],
Dk.CSs.cons
  (Dk.CS.asg (Dk.CT.nm 2) (Dk.CE.k (Dk.D.int 1)))
  (Dk.CSs.cons
    (Dk.CS.for_
      (Dk.Tg.nm 3)
      (Dk.CI.rng (Dk.CE.loc 1))
      (Dk.CSs.cons
        (Dk.CS.asg
          (Dk.CT.nm 2)
          (Dk.CE.bin
            (Dk.Bop.fdiv)
            (Dk.CE.bin (Dk.Bop.mul) (Dk.CE.loc 2) (Dk.CE.bin (Dk.Bop.sub) (Dk.CE.loc 0) (Dk.CE.loc 3)))
            (Dk.CE.bin (Dk.Bop.add) (Dk.CE.loc 3) (Dk.CE.k (Dk.D.int 1)))))
        (Dk.CSs.nil)))
    (Dk.CSs.cons (Dk.CS.ret (Dk.CE.loc 2)) (Dk.CSs.nil)))⟩
def f_common_minute : Fn := ⟨["night", "indexes"], 9, [],
Dk.CSs.cons
  (Dk.CS.expr (Dk.CE.call "check_night" (Dk.CEs.cons (Dk.CE.loc 0) (Dk.CEs.nil))))
  (Dk.CSs.cons
    (Dk.CS.ite
      (Dk.CE.not
        (Dk.CE.call
          "are_indexes"
          (Dk.CEs.cons
            (Dk.CE.loc 1)
            (Dk.CEs.cons (Dk.CE.bi "len" (Dk.CEs.cons (Dk.CE.attr (Dk.CE.loc 0) "row") (Dk.CEs.nil))) (Dk.CEs.nil)))))
      (Dk.CSs.cons (Dk.CS.raise (Dk.CE.k (Dk.D.non))) (Dk.CSs.nil))
      (Dk.CSs.nil))
    (Dk.CSs.cons
      (Dk.CS.asg
        (Dk.CT.nm 2)
        (Dk.CE.lst
          (Dk.CEs.cons
            (Dk.CE.tup (Dk.CEs.cons (Dk.CE.k (Dk.D.int 0)) (Dk.CEs.cons (Dk.CE.k (Dk.D.int 1)) (Dk.CEs.nil))))
            (Dk.CEs.nil))))
      (Dk.CSs.cons
        (Dk.CS.for_
          (Dk.Tg.nm 3)
          (Dk.CI.seq (Dk.CE.loc 1))
          (Dk.CSs.cons
            (Dk.CS.asg
              (Dk.CT.tp [Dk.CT.nm 4, Dk.CT.nm 5])
              (Dk.CE.tup
                (Dk.CEs.cons
                  (Dk.CE.attr (Dk.CE.idx (Dk.CE.attr (Dk.CE.loc 0) "row") (Dk.CE.loc 3)) "round")
                  (Dk.CEs.cons (Dk.CE.idx (Dk.CE.attr (Dk.CE.loc 0) "turned") (Dk.CE.loc 3)) (Dk.CEs.nil)))))
            (Dk.CSs.cons
              (Dk.CS.asg
                (Dk.CT.nm 6)
                (Dk.CE.lc2
                  (Dk.CE.call
                    "met"
                    (Dk.CEs.cons
                      (Dk.CE.loc 7)
                      (Dk.CEs.cons
                        (Dk.CE.tup
                          (Dk.CEs.cons
                            (Dk.CE.bin (Dk.Bop.mod) (Dk.CE.bin (Dk.Bop.sub) (Dk.CE.loc 8) (Dk.CE.loc 5)) (Dk.CE.loc 4))
                            (Dk.CEs.cons (Dk.CE.loc 4) (Dk.CEs.nil))))
                        (Dk.CEs.nil))))
                  (Dk.Tg.nm 7)
                  (Dk.CI.seq (Dk.CE.loc 2))
                  (Dk.CEs.nil)
                  (Dk.Tg.nm 8)
                  (Dk.CI.seq (Dk.CE.attr (Dk.CE.idx (Dk.CE.attr (Dk.CE.loc 0) "row") (Dk.CE.loc 3)) "on"))
                  (Dk.CEs.nil)))
              (Dk.CSs.cons
                (Dk.CS.asg
                  (Dk.CT.nm 2)
                  (Dk.CE.lc
                    (Dk.CE.loc 7)
                    (Dk.Tg.nm 7)
                    (Dk.CI.seq (Dk.CE.loc 6))
                    (Dk.CEs.cons (Dk.CE.cmp (Dk.Cop.isnot) (Dk.CE.loc 7) (Dk.CE.k (Dk.D.non))) (Dk.CEs.nil))))
                (Dk.CSs.nil)))))
        (Dk.CSs.cons
          (Dk.CS.ret
            (Dk.CE.ife
              (Dk.CE.cmp (Dk.Cop.ne) (Dk.CE.loc 2) (Dk.CE.lst (Dk.CEs.nil)))
              (Dk.CE.bi
                "min"
                (Dk.CEs.cons
                  (Dk.CE.lc
                    (Dk.CE.idx (Dk.CE.loc 7) (Dk.CE.k (Dk.D.int 0)))
                    (Dk.Tg.nm 7)
                    (Dk.CI.seq (Dk.CE.loc 2))
                    (Dk.CEs.nil))
                  (Dk.CEs.nil)))
              (Dk.CE.k (Dk.D.non))))
          (Dk.CSs.nil)))))⟩
def f_count_cases : Fn := ⟨["lamps", "notes"], 2, [],
Dk.CSs.cons
  (Dk.CS.expr (Dk.CE.call "check_notes" (Dk.CEs.cons (Dk.CE.loc 0) (Dk.CEs.cons (Dk.CE.loc 1) (Dk.CEs.nil)))))
  (Dk.CSs.cons
    (Dk.CS.ret (Dk.CE.call "many_cases" (Dk.CEs.cons (Dk.CE.loc 0) (Dk.CEs.cons (Dk.CE.loc 1) (Dk.CEs.nil)))))
    (Dk.CSs.nil))⟩
def f_count_dark : Fn := ⟨["night", "first", "last"], 4, [],
Dk.CSs.cons
  (Dk.CS.expr (Dk.CE.call "check_night" (Dk.CEs.cons (Dk.CE.loc 0) (Dk.CEs.nil))))
  (Dk.CSs.cons
    (Dk.CS.expr (Dk.CE.call "check_minute" (Dk.CEs.cons (Dk.CE.loc 1) (Dk.CEs.nil))))
    (Dk.CSs.cons
      (Dk.CS.ite
        (Dk.CE.not
          (Dk.CE.call
            "is_between"
            (Dk.CEs.cons
              (Dk.CE.loc 2)
              (Dk.CEs.cons (Dk.CE.loc 1) (Dk.CEs.cons (Dk.CE.glob "MOST_MINUTE") (Dk.CEs.nil))))))
        (Dk.CSs.cons (Dk.CS.raise (Dk.CE.k (Dk.D.non))) (Dk.CSs.nil))
        (Dk.CSs.nil))
      (Dk.CSs.cons
        (Dk.CS.asg (Dk.CT.nm 3) (Dk.CE.call "all_lots" (Dk.CEs.cons (Dk.CE.loc 0) (Dk.CEs.nil))))
        (Dk.CSs.cons
          (Dk.CS.ret
            (Dk.CE.bin
              (Dk.Bop.sub)
              (Dk.CE.call "dark_below" (Dk.CEs.cons (Dk.CE.loc 3) (Dk.CEs.cons (Dk.CE.loc 2) (Dk.CEs.nil))))
              (Dk.CE.call "dark_below" (Dk.CEs.cons (Dk.CE.loc 3) (Dk.CEs.cons (Dk.CE.loc 1) (Dk.CEs.nil))))))
          (Dk.CSs.nil)))))⟩
def f_count_phases : Fn := ⟨["lamp", "told"], 6, [],
Dk.CSs.cons
  (Dk.CS.asg
    (Dk.CT.nm 2)
    (Dk.CE.lc
      (Dk.CE.loc 3)
      (Dk.Tg.tp [Dk.Tg.nm 3, Dk.Tg.nm 4])
      (Dk.CI.seq (Dk.CE.loc 1))
      (Dk.CEs.cons (Dk.CE.loc 4) (Dk.CEs.nil))))
  (Dk.CSs.cons
    (Dk.CS.ite
      (Dk.CE.cmp (Dk.Cop.eq) (Dk.CE.loc 2) (Dk.CE.lst (Dk.CEs.nil)))
      (Dk.CSs.cons
        (Dk.CS.ret
          (Dk.CE.bin
            (Dk.Bop.sub)
            (Dk.CE.attr (Dk.CE.loc 0) "round")
            (Dk.CE.bi
              "len"
              (Dk.CEs.cons
                (Dk.CE.call "bars" (Dk.CEs.cons (Dk.CE.loc 0) (Dk.CEs.cons (Dk.CE.loc 1) (Dk.CEs.nil))))
                (Dk.CEs.nil)))))
        (Dk.CSs.nil))
      (Dk.CSs.nil))
    (Dk.CSs.cons
      (Dk.CS.ret
        (Dk.CE.bi
          "len"
          (Dk.CEs.cons
            (Dk.CE.lc
              (Dk.CE.loc 5)
              (Dk.Tg.nm 5)
              (Dk.CI.seq
                (Dk.CE.call
                  "phases_lit"
                  (Dk.CEs.cons
                    (Dk.CE.loc 0)
                    (Dk.CEs.cons (Dk.CE.idx (Dk.CE.loc 2) (Dk.CE.k (Dk.D.int 0))) (Dk.CEs.nil)))))
              (Dk.CEs.cons
                (Dk.CE.call
                  "keeps"
                  (Dk.CEs.cons (Dk.CE.loc 0) (Dk.CEs.cons (Dk.CE.loc 5) (Dk.CEs.cons (Dk.CE.loc 1) (Dk.CEs.nil)))))
                (Dk.CEs.nil)))
            (Dk.CEs.nil))))
      (Dk.CSs.nil)))⟩
def f_dark_along : Fn := ⟨["night", "first", "step"], 4, [],
Dk.CSs.cons
  (Dk.CS.for_
    (Dk.Tg.nm 3)
    (Dk.CI.rng (Dk.CE.call "bound_of" (Dk.CEs.cons (Dk.CE.attr (Dk.CE.loc 0) "row") (Dk.CEs.nil))))
    (Dk.CSs.cons
      (Dk.CS.ite
        (Dk.CE.cmp
          (Dk.Cop.eq)
          (Dk.CE.call
            "all_lit"
            (Dk.CEs.cons
              (Dk.CE.loc 0)
              (Dk.CEs.cons
                (Dk.CE.bin (Dk.Bop.add) (Dk.CE.loc 1) (Dk.CE.bin (Dk.Bop.mul) (Dk.CE.loc 2) (Dk.CE.loc 3)))
                (Dk.CEs.nil))))
          (Dk.CE.lst (Dk.CEs.nil)))
        (Dk.CSs.cons
          (Dk.CS.ret (Dk.CE.bin (Dk.Bop.add) (Dk.CE.loc 1) (Dk.CE.bin (Dk.Bop.mul) (Dk.CE.loc 2) (Dk.CE.loc 3))))
          (Dk.CSs.nil))
        (Dk.CSs.nil))
      (Dk.CSs.nil)))
  (Dk.CSs.cons (Dk.CS.ret (Dk.CE.k (Dk.D.non))) (Dk.CSs.nil))⟩
def f_dark_below : Fn := ⟨["lots", "minute"], 4, [],
Dk.CSs.cons
  (Dk.CS.ret
    (Dk.CE.bi
      "sum"
      (Dk.CEs.cons
        (Dk.CE.lc
          (Dk.CE.ife
            (Dk.CE.cmp (Dk.Cop.eq) (Dk.CE.bin (Dk.Bop.mod) (Dk.CE.loc 2) (Dk.CE.k (Dk.D.int 2))) (Dk.CE.k (Dk.D.int 0)))
            (Dk.CE.call "held_below" (Dk.CEs.cons (Dk.CE.loc 3) (Dk.CEs.cons (Dk.CE.loc 1) (Dk.CEs.nil))))
            (Dk.CE.neg (Dk.CE.call "held_below" (Dk.CEs.cons (Dk.CE.loc 3) (Dk.CEs.cons (Dk.CE.loc 1) (Dk.CEs.nil))))))
          (Dk.Tg.tp [Dk.Tg.nm 2, Dk.Tg.nm 3])
          (Dk.CI.seq (Dk.CE.loc 0))
          (Dk.CEs.nil))
        (Dk.CEs.nil))))
  (Dk.CSs.nil)⟩
def f_dark_from : Fn := ⟨["night", "minute"], 3, [],
Dk.CSs.cons
  (Dk.CS.for_
    (Dk.Tg.nm 2)
    (Dk.CI.rng (Dk.CE.call "bound_of" (Dk.CEs.cons (Dk.CE.attr (Dk.CE.loc 0) "row") (Dk.CEs.nil))))
    (Dk.CSs.cons
      (Dk.CS.ite
        (Dk.CE.cmp
          (Dk.Cop.eq)
          (Dk.CE.call
            "all_lit"
            (Dk.CEs.cons (Dk.CE.loc 0) (Dk.CEs.cons (Dk.CE.bin (Dk.Bop.add) (Dk.CE.loc 1) (Dk.CE.loc 2)) (Dk.CEs.nil))))
          (Dk.CE.lst (Dk.CEs.nil)))
        (Dk.CSs.cons (Dk.CS.ret (Dk.CE.bin (Dk.Bop.add) (Dk.CE.loc 1) (Dk.CE.loc 2))) (Dk.CSs.nil))
        (Dk.CSs.nil))
      (Dk.CSs.nil)))
  (Dk.CSs.cons (Dk.CS.ret (Dk.CE.k (Dk.D.non))) (Dk.CSs.nil))⟩
def f_fewest_lit : Fn := ⟨["night"], 1, [],
Dk.CSs.cons
  (Dk.CS.expr (Dk.CE.call "check_night" (Dk.CEs.cons (Dk.CE.loc 0) (Dk.CEs.nil))))
  (Dk.CSs.cons
    (Dk.CS.ret
      (Dk.CE.bi
        "len"
        (Dk.CEs.cons
          (Dk.CE.idx (Dk.CE.call "all_pictures" (Dk.CEs.cons (Dk.CE.loc 0) (Dk.CEs.nil))) (Dk.CE.k (Dk.D.int 0)))
          (Dk.CEs.nil))))
    (Dk.CSs.nil))⟩
def f_first_along : Fn := ⟨["night", "row", "minute", "indexes"], 6, [],
Dk.CSs.cons
  (Dk.CS.asg
    (Dk.CT.nm 4)
    (Dk.CE.bin
      (Dk.Bop.add)
      (Dk.CE.loc 2)
      (Dk.CE.bin
        (Dk.Bop.mod)
        (Dk.CE.bin (Dk.Bop.sub) (Dk.CE.idx (Dk.CE.loc 1) (Dk.CE.k (Dk.D.int 0))) (Dk.CE.loc 2))
        (Dk.CE.idx (Dk.CE.loc 1) (Dk.CE.k (Dk.D.int 1))))))
  (Dk.CSs.cons
    (Dk.CS.for_
      (Dk.Tg.nm 5)
      (Dk.CI.rng (Dk.CE.call "bound_of" (Dk.CEs.cons (Dk.CE.attr (Dk.CE.loc 0) "row") (Dk.CEs.nil))))
      (Dk.CSs.cons
        (Dk.CS.ite
          (Dk.CE.cmp
            (Dk.Cop.eq)
            (Dk.CE.call
              "all_lit"
              (Dk.CEs.cons
                (Dk.CE.loc 0)
                (Dk.CEs.cons
                  (Dk.CE.bin
                    (Dk.Bop.add)
                    (Dk.CE.loc 4)
                    (Dk.CE.bin (Dk.Bop.mul) (Dk.CE.idx (Dk.CE.loc 1) (Dk.CE.k (Dk.D.int 1))) (Dk.CE.loc 5)))
                  (Dk.CEs.nil))))
            (Dk.CE.bi "list" (Dk.CEs.cons (Dk.CE.loc 3) (Dk.CEs.nil))))
          (Dk.CSs.cons
            (Dk.CS.ret
              (Dk.CE.bin
                (Dk.Bop.add)
                (Dk.CE.loc 4)
                (Dk.CE.bin (Dk.Bop.mul) (Dk.CE.idx (Dk.CE.loc 1) (Dk.CE.k (Dk.D.int 1))) (Dk.CE.loc 5))))
            (Dk.CSs.nil))
          (Dk.CSs.nil))
        (Dk.CSs.nil)))
    (Dk.CSs.cons (Dk.CS.ret (Dk.CE.k (Dk.D.non))) (Dk.CSs.nil)))⟩
def f_first_dark : Fn := ⟨["night", "minute"], 2, [],
Dk.CSs.cons
  (Dk.CS.expr (Dk.CE.call "check_night" (Dk.CEs.cons (Dk.CE.loc 0) (Dk.CEs.nil))))
  (Dk.CSs.cons
    (Dk.CS.expr (Dk.CE.call "check_minute" (Dk.CEs.cons (Dk.CE.loc 1) (Dk.CEs.nil))))
    (Dk.CSs.cons
      (Dk.CS.ret (Dk.CE.call "dark_from" (Dk.CEs.cons (Dk.CE.loc 0) (Dk.CEs.cons (Dk.CE.loc 1) (Dk.CEs.nil)))))
      (Dk.CSs.nil)))⟩
def f_first_lacking : Fn := ⟨["one", "other"], 7, [],
Dk.CSs.cons
  (Dk.CS.asg
    (Dk.CT.nm 2)
    (Dk.CE.lc
      (Dk.CE.call
        "dark_along"
        (Dk.CEs.cons (Dk.CE.loc 1) (Dk.CEs.cons (Dk.CE.loc 4) (Dk.CEs.cons (Dk.CE.loc 5) (Dk.CEs.nil)))))
      (Dk.Tg.tp [Dk.Tg.nm 4, Dk.Tg.nm 5])
      (Dk.CI.seq (Dk.CE.call "step_rows" (Dk.CEs.cons (Dk.CE.loc 0) (Dk.CEs.nil))))
      (Dk.CEs.nil)))
  (Dk.CSs.cons
    (Dk.CS.asg
      (Dk.CT.nm 3)
      (Dk.CE.lc
        (Dk.CE.loc 6)
        (Dk.Tg.nm 6)
        (Dk.CI.seq (Dk.CE.loc 2))
        (Dk.CEs.cons (Dk.CE.cmp (Dk.Cop.isnot) (Dk.CE.loc 6) (Dk.CE.k (Dk.D.non))) (Dk.CEs.nil))))
    (Dk.CSs.cons
      (Dk.CS.ret
        (Dk.CE.ife
          (Dk.CE.cmp (Dk.Cop.ne) (Dk.CE.loc 3) (Dk.CE.lst (Dk.CEs.nil)))
          (Dk.CE.bi "min" (Dk.CEs.cons (Dk.CE.loc 3) (Dk.CEs.nil)))
          (Dk.CE.k (Dk.D.non))))
      (Dk.CSs.nil)))⟩
def f_first_picture : Fn := ⟨["night", "minute", "indexes"], 3, [],
Dk.CSs.cons
  (Dk.CS.expr (Dk.CE.call "check_night" (Dk.CEs.cons (Dk.CE.loc 0) (Dk.CEs.nil))))
  (Dk.CSs.cons
    (Dk.CS.expr (Dk.CE.call "check_minute" (Dk.CEs.cons (Dk.CE.loc 1) (Dk.CEs.nil))))
    (Dk.CSs.cons
      (Dk.CS.ite
        (Dk.CE.or
          (Dk.CE.and
            (Dk.CE.cmp (Dk.Cop.ne) (Dk.CE.loc 2) (Dk.CE.tup (Dk.CEs.nil)))
            (Dk.CE.not
              (Dk.CE.call
                "are_indexes"
                (Dk.CEs.cons
                  (Dk.CE.loc 2)
                  (Dk.CEs.cons
                    (Dk.CE.bi "len" (Dk.CEs.cons (Dk.CE.attr (Dk.CE.loc 0) "row") (Dk.CEs.nil)))
                    (Dk.CEs.nil))))))
          (Dk.CE.not (Dk.CE.isi (Dk.CE.loc 2) "tuple" false)))
        (Dk.CSs.cons (Dk.CS.raise (Dk.CE.k (Dk.D.non))) (Dk.CSs.nil))
        (Dk.CSs.nil))
      (Dk.CSs.cons
        (Dk.CS.ret
          (Dk.CE.call
            "picture_from"
            (Dk.CEs.cons (Dk.CE.loc 0) (Dk.CEs.cons (Dk.CE.loc 1) (Dk.CEs.cons (Dk.CE.loc 2) (Dk.CEs.nil))))))
        (Dk.CSs.nil))))⟩
def f_first_unlike : Fn := ⟨["one", "other"], 2, [],
Dk.CSs.cons
  (Dk.CS.expr (Dk.CE.call "check_both" (Dk.CEs.cons (Dk.CE.loc 0) (Dk.CEs.cons (Dk.CE.loc 1) (Dk.CEs.nil)))))
  (Dk.CSs.cons
    (Dk.CS.ret (Dk.CE.call "unlike_from" (Dk.CEs.cons (Dk.CE.loc 0) (Dk.CEs.cons (Dk.CE.loc 1) (Dk.CEs.nil)))))
    (Dk.CSs.nil))⟩
def f_first_with : Fn := ⟨["night", "minute", "number"], 7, [],
Dk.CSs.cons
  (Dk.CS.expr (Dk.CE.call "check_night" (Dk.CEs.cons (Dk.CE.loc 0) (Dk.CEs.nil))))
  (Dk.CSs.cons
    (Dk.CS.expr (Dk.CE.call "check_minute" (Dk.CEs.cons (Dk.CE.loc 1) (Dk.CEs.nil))))
    (Dk.CSs.cons
      (Dk.CS.ite
        (Dk.CE.not
          (Dk.CE.call
            "is_between"
            (Dk.CEs.cons
              (Dk.CE.loc 2)
              (Dk.CEs.cons
                (Dk.CE.k (Dk.D.int 0))
                (Dk.CEs.cons
                  (Dk.CE.bi "len" (Dk.CEs.cons (Dk.CE.attr (Dk.CE.loc 0) "row") (Dk.CEs.nil)))
                  (Dk.CEs.nil))))))
        (Dk.CSs.cons (Dk.CS.raise (Dk.CE.k (Dk.D.non))) (Dk.CSs.nil))
        (Dk.CSs.nil))
      (Dk.CSs.cons
        (Dk.CS.asg
          (Dk.CT.nm 4)
          (Dk.CE.lc
            (Dk.CE.loc 3)
            (Dk.Tg.nm 3)
            (Dk.CI.seq
              (Dk.CE.call
                "ordered_parts"
                (Dk.CEs.cons
                  (Dk.CE.bi "len" (Dk.CEs.cons (Dk.CE.attr (Dk.CE.loc 0) "row") (Dk.CEs.nil)))
                  (Dk.CEs.nil))))
            (Dk.CEs.cons
              (Dk.CE.cmp (Dk.Cop.eq) (Dk.CE.bi "len" (Dk.CEs.cons (Dk.CE.loc 3) (Dk.CEs.nil))) (Dk.CE.loc 2))
              (Dk.CEs.nil))))
        (Dk.CSs.cons
          (Dk.CS.asg
            (Dk.CT.nm 5)
            (Dk.CE.lc
              (Dk.CE.call
                "picture_from"
                (Dk.CEs.cons (Dk.CE.loc 0) (Dk.CEs.cons (Dk.CE.loc 1) (Dk.CEs.cons (Dk.CE.loc 3) (Dk.CEs.nil)))))
              (Dk.Tg.nm 3)
              (Dk.CI.seq (Dk.CE.loc 4))
              (Dk.CEs.nil)))
          (Dk.CSs.cons
            (Dk.CS.asg
              (Dk.CT.nm 3)
              (Dk.CE.lc
                (Dk.CE.loc 6)
                (Dk.Tg.nm 6)
                (Dk.CI.seq (Dk.CE.loc 5))
                (Dk.CEs.cons (Dk.CE.cmp (Dk.Cop.isnot) (Dk.CE.loc 6) (Dk.CE.k (Dk.D.non))) (Dk.CEs.nil))))
            (Dk.CSs.cons
              (Dk.CS.ret
                (Dk.CE.ife
                  (Dk.CE.cmp (Dk.Cop.ne) (Dk.CE.loc 3) (Dk.CE.lst (Dk.CEs.nil)))
                  (Dk.CE.bi "min" (Dk.CEs.cons (Dk.CE.loc 3) (Dk.CEs.nil)))
                  (Dk.CE.k (Dk.D.non))))
              (Dk.CSs.nil)))))))⟩
def f_fits : Fn := ⟨["lamps", "notes"], 2, [],
Dk.CSs.cons
  (Dk.CS.expr (Dk.CE.call "check_notes" (Dk.CEs.cons (Dk.CE.loc 0) (Dk.CEs.cons (Dk.CE.loc 1) (Dk.CEs.nil)))))
  (Dk.CSs.cons
    (Dk.CS.ret
      (Dk.CE.cmp
        (Dk.Cop.gt)
        (Dk.CE.call "many_cases" (Dk.CEs.cons (Dk.CE.loc 0) (Dk.CEs.cons (Dk.CE.loc 1) (Dk.CEs.nil))))
        (Dk.CE.k (Dk.D.int 0))))
    (Dk.CSs.nil))⟩
def f_gcd : Fn := ⟨["one", "other"], 2, [],
Dk.CSs.cons
  (Dk.CS.wh
    (Dk.CE.cmp (Dk.Cop.gt) (Dk.CE.loc 1) (Dk.CE.k (Dk.D.int 0)))
    (Dk.CSs.cons
      (Dk.CS.asg
        (Dk.CT.tp [Dk.CT.nm 0, Dk.CT.nm 1])
        (Dk.CE.tup
          (Dk.CEs.cons (Dk.CE.loc 1) (Dk.CEs.cons (Dk.CE.bin (Dk.Bop.mod) (Dk.CE.loc 0) (Dk.CE.loc 1)) (Dk.CEs.nil)))))
      (Dk.CSs.nil)))
  (Dk.CSs.cons (Dk.CS.ret (Dk.CE.loc 0)) (Dk.CSs.nil))⟩
def f_greatest : Fn := ⟨["lamps", "rule"], 4, [],
Dk.CSs.cons
  (Dk.CS.asg (Dk.CT.nm 2) (Dk.CE.call "bound_of" (Dk.CEs.cons (Dk.CE.loc 0) (Dk.CEs.nil))))
  (Dk.CSs.cons
    (Dk.CS.asg
      (Dk.CT.nm 3)
      (Dk.CE.idx
        (Dk.CE.call
          "grown"
          (Dk.CEs.cons (Dk.CE.loc 0) (Dk.CEs.cons (Dk.CE.loc 1) (Dk.CEs.cons (Dk.CE.loc 2) (Dk.CEs.nil)))))
        (Dk.CE.k (Dk.D.int 0))))
    (Dk.CSs.cons
      (Dk.CS.ret (Dk.CE.ife (Dk.CE.cmp (Dk.Cop.eq) (Dk.CE.loc 3) (Dk.CE.loc 2)) (Dk.CE.k (Dk.D.non)) (Dk.CE.loc 3)))
      (Dk.CSs.nil)))⟩
def f_grown : Fn := ⟨["lamps", "rule", "length"], 4, [],
Dk.CSs.cons
  (Dk.CS.asg (Dk.CT.nm 3) (Dk.CE.make "Tree" (Dk.CEs.cons (Dk.CE.loc 0) (Dk.CEs.cons (Dk.CE.loc 1) (Dk.CEs.nil)))))
  (Dk.CSs.cons
    (Dk.CS.ret
      (Dk.CE.meth
        (Dk.CE.loc 3)
        "longest"
        (Dk.CEs.cons
          (Dk.CE.dct (Dk.CEs.nil) (Dk.CEs.nil))
          (Dk.CEs.cons
            (Dk.CE.k (Dk.D.int 0))
            (Dk.CEs.cons
              (Dk.CE.bi "min" (Dk.CEs.cons (Dk.CE.loc 2) (Dk.CEs.cons (Dk.CE.attr (Dk.CE.loc 3) "most") (Dk.CEs.nil))))
              (Dk.CEs.nil))))))
    (Dk.CSs.nil))⟩
def f_held_below : Fn := ⟨["row", "minute"], 2, [],
Dk.CSs.cons
  (Dk.CS.ret
    (Dk.CE.bin
      (Dk.Bop.add)
      (Dk.CE.bin
        (Dk.Bop.fdiv)
        (Dk.CE.bin
          (Dk.Bop.sub)
          (Dk.CE.bin (Dk.Bop.sub) (Dk.CE.loc 1) (Dk.CE.idx (Dk.CE.loc 0) (Dk.CE.k (Dk.D.int 0))))
          (Dk.CE.k (Dk.D.int 1)))
        (Dk.CE.idx (Dk.CE.loc 0) (Dk.CE.k (Dk.D.int 1))))
      (Dk.CE.k (Dk.D.int 1))))
  (Dk.CSs.nil)⟩
def f_inverse : Fn := ⟨["number", "base"], 7, [],
Dk.CSs.cons
  (Dk.CS.asg
    (Dk.CT.tp [Dk.CT.nm 2, Dk.CT.nm 3, Dk.CT.nm 4, Dk.CT.nm 5])
    (Dk.CE.tup
      (Dk.CEs.cons
        (Dk.CE.loc 1)
        (Dk.CEs.cons
          (Dk.CE.bin (Dk.Bop.mod) (Dk.CE.loc 0) (Dk.CE.loc 1))
          (Dk.CEs.cons (Dk.CE.k (Dk.D.int 0)) (Dk.CEs.cons (Dk.CE.k (Dk.D.int 1)) (Dk.CEs.nil)))))))
  (Dk.CSs.cons
    (Dk.CS.wh
      (Dk.CE.cmp (Dk.Cop.gt) (Dk.CE.loc 3) (Dk.CE.k (Dk.D.int 0)))
      (Dk.CSs.cons
        (Dk.CS.asg (Dk.CT.nm 6) (Dk.CE.bin (Dk.Bop.fdiv) (Dk.CE.loc 2) (Dk.CE.loc 3)))
        (Dk.CSs.cons
          (Dk.CS.asg
            (Dk.CT.tp [Dk.CT.nm 2, Dk.CT.nm 3])
            (Dk.CE.tup
              (Dk.CEs.cons
                (Dk.CE.loc 3)
                (Dk.CEs.cons
                  (Dk.CE.bin (Dk.Bop.sub) (Dk.CE.loc 2) (Dk.CE.bin (Dk.Bop.mul) (Dk.CE.loc 6) (Dk.CE.loc 3)))
                  (Dk.CEs.nil)))))
          (Dk.CSs.cons
            (Dk.CS.asg
              (Dk.CT.tp [Dk.CT.nm 4, Dk.CT.nm 5])
              (Dk.CE.tup
                (Dk.CEs.cons
                  (Dk.CE.loc 5)
                  (Dk.CEs.cons
                    (Dk.CE.bin (Dk.Bop.sub) (Dk.CE.loc 4) (Dk.CE.bin (Dk.Bop.mul) (Dk.CE.loc 6) (Dk.CE.loc 5)))
                    (Dk.CEs.nil)))))
            (Dk.CSs.nil)))))
    (Dk.CSs.cons (Dk.CS.ret (Dk.CE.bin (Dk.Bop.mod) (Dk.CE.loc 4) (Dk.CE.loc 1))) (Dk.CSs.nil)))⟩
def f_is_between : Fn := ⟨["value", "low", "high"], 3, [],
Dk.CSs.cons
  (Dk.CS.ret
    (Dk.CE.and
      (Dk.CE.call "is_integer" (Dk.CEs.cons (Dk.CE.loc 0) (Dk.CEs.nil)))
      (Dk.CE.chain (Dk.Cop.le) (Dk.Cop.le) (Dk.CE.loc 1) (Dk.CE.loc 0) (Dk.CE.loc 2))))
  (Dk.CSs.nil)⟩
def f_is_integer : Fn := ⟨["value"], 1, [],
Dk.CSs.cons
  (Dk.CS.ret (Dk.CE.and (Dk.CE.isi (Dk.CE.loc 0) "int" false) (Dk.CE.not (Dk.CE.isi (Dk.CE.loc 0) "bool" false))))
  (Dk.CSs.nil)⟩
def f_is_lit : Fn := ⟨["lamp", "phase", "minute"], 3, [],
Dk.CSs.cons
  (Dk.CS.expr (Dk.CE.call "check_lamp" (Dk.CEs.cons (Dk.CE.loc 0) (Dk.CEs.nil))))
  (Dk.CSs.cons
    (Dk.CS.ite
      (Dk.CE.not
        (Dk.CE.call
          "is_between"
          (Dk.CEs.cons
            (Dk.CE.loc 1)
            (Dk.CEs.cons
              (Dk.CE.k (Dk.D.int 0))
              (Dk.CEs.cons
                (Dk.CE.bin (Dk.Bop.sub) (Dk.CE.attr (Dk.CE.loc 0) "round") (Dk.CE.k (Dk.D.int 1)))
                (Dk.CEs.nil))))))
      (Dk.CSs.cons (Dk.CS.raise (Dk.CE.k (Dk.D.non))) (Dk.CSs.nil))
      (Dk.CSs.nil))
    (Dk.CSs.cons
      (Dk.CS.expr (Dk.CE.call "check_minute" (Dk.CEs.cons (Dk.CE.loc 2) (Dk.CEs.nil))))
      (Dk.CSs.cons
        (Dk.CS.ret
          (Dk.CE.call
            "lit_by"
            (Dk.CEs.cons (Dk.CE.loc 0) (Dk.CEs.cons (Dk.CE.loc 1) (Dk.CEs.cons (Dk.CE.loc 2) (Dk.CEs.nil))))))
        (Dk.CSs.nil))))⟩
def f_is_note : Fn := ⟨["lamps", "value"], 2, [],
Dk.CSs.cons
  (Dk.CS.ite
    (Dk.CE.or
      (Dk.CE.not (Dk.CE.isi (Dk.CE.loc 1) "tuple" false))
      (Dk.CE.or
        (Dk.CE.cmp (Dk.Cop.ne) (Dk.CE.bi "len" (Dk.CEs.cons (Dk.CE.loc 1) (Dk.CEs.nil))) (Dk.CE.k (Dk.D.int 3)))
        (Dk.CE.not (Dk.CE.isi (Dk.CE.idx (Dk.CE.loc 1) (Dk.CE.k (Dk.D.int 2))) "bool" false))))
    (Dk.CSs.cons (Dk.CS.ret (Dk.CE.k (Dk.D.bl false))) (Dk.CSs.nil))
    (Dk.CSs.nil))
  (Dk.CSs.cons
    (Dk.CS.ret
      (Dk.CE.and
        (Dk.CE.call
          "is_between"
          (Dk.CEs.cons
            (Dk.CE.idx (Dk.CE.loc 1) (Dk.CE.k (Dk.D.int 0)))
            (Dk.CEs.cons
              (Dk.CE.k (Dk.D.int 0))
              (Dk.CEs.cons
                (Dk.CE.bin
                  (Dk.Bop.sub)
                  (Dk.CE.bi "len" (Dk.CEs.cons (Dk.CE.loc 0) (Dk.CEs.nil)))
                  (Dk.CE.k (Dk.D.int 1)))
                (Dk.CEs.nil)))))
        (Dk.CE.call
          "is_between"
          (Dk.CEs.cons
            (Dk.CE.idx (Dk.CE.loc 1) (Dk.CE.k (Dk.D.int 1)))
            (Dk.CEs.cons (Dk.CE.k (Dk.D.int 0)) (Dk.CEs.cons (Dk.CE.glob "MOST_MINUTE") (Dk.CEs.nil)))))))
    (Dk.CSs.nil))⟩
def f_keeps : Fn := ⟨["lamp", "phase", "told"], 5, [],
Dk.CSs.cons
  (Dk.CS.ret
    (Dk.CE.bi
      "all"
      (Dk.CEs.cons
        (Dk.CE.lc
          (Dk.CE.cmp
            (Dk.Cop.eq)
            (Dk.CE.call
              "lit_by"
              (Dk.CEs.cons (Dk.CE.loc 0) (Dk.CEs.cons (Dk.CE.loc 1) (Dk.CEs.cons (Dk.CE.loc 3) (Dk.CEs.nil)))))
            (Dk.CE.loc 4))
          (Dk.Tg.tp [Dk.Tg.nm 3, Dk.Tg.nm 4])
          (Dk.CI.seq (Dk.CE.loc 2))
          (Dk.CEs.nil))
        (Dk.CEs.nil))))
  (Dk.CSs.nil)⟩
def f_law_burn_c40a : Fn := ⟨["_law_wick_here", "_law_many"], 4, [],
Dk.CSs.cons
  (Dk.CS.ite
    (Dk.CE.cmp (Dk.Cop.gt) (Dk.CE.idx (Dk.CE.loc 0) (Dk.CE.k (Dk.D.int 0))) (Dk.CE.k (Dk.D.int 0)))
    (Dk.CSs.cons
      (Dk.CS.asg
        (Dk.CT.tp [Dk.CT.sub (Dk.CE.loc 0) (Dk.CE.k (Dk.D.int 0)), Dk.CT.nm 2])
        (Dk.CE.bi
          "divmod"
          (Dk.CEs.cons (Dk.CE.idx (Dk.CE.loc 0) (Dk.CE.k (Dk.D.int 0))) (Dk.CEs.cons (Dk.CE.loc 1) (Dk.CEs.nil)))))
      (Dk.CSs.cons (Dk.CS.ret (Dk.CE.loc 2)) (Dk.CSs.nil)))
    (Dk.CSs.nil))
  (Dk.CSs.cons
    (Dk.CS.asg
      (Dk.CT.sub (Dk.CE.loc 0) (Dk.CE.k (Dk.D.int 2)))
      (Dk.CE.bin (Dk.Bop.add) (Dk.CE.idx (Dk.CE.loc 0) (Dk.CE.k (Dk.D.int 2))) (Dk.CE.k (Dk.D.int 1))))
    (Dk.CSs.cons
      (Dk.CS.asg
        (Dk.CT.nm 3)
        (Dk.CE.bin
          (Dk.Bop.add)
          (Dk.CE.bin
            (Dk.Bop.mul)
            (Dk.CE.idx (Dk.CE.loc 0) (Dk.CE.k (Dk.D.int 1)))
            (Dk.CE.k (Dk.D.int 4768777513237032717)))
          (Dk.CE.bin (Dk.Bop.mul) (Dk.CE.k (Dk.D.int 472882027)) (Dk.CE.idx (Dk.CE.loc 0) (Dk.CE.k (Dk.D.int 2))))))
      (Dk.CSs.cons
        (Dk.CS.asg
          (Dk.CT.sub (Dk.CE.loc 0) (Dk.CE.k (Dk.D.int 1)))
          (Dk.CE.bin
            (Dk.Bop.mod)
            (Dk.CE.bi "int" (Dk.CEs.cons (Dk.CE.loc 3) (Dk.CEs.nil)))
            (Dk.CE.k (Dk.D.int 18446744073709551533))))
        (Dk.CSs.cons
          (Dk.CS.ret
            (Dk.CE.bin
              (Dk.Bop.mod)
              (Dk.CE.bi
                "int"
                (Dk.CEs.cons
                  (Dk.CE.bin
                    (Dk.Bop.fdiv)
                    (Dk.CE.idx (Dk.CE.loc 0) (Dk.CE.k (Dk.D.int 1)))
                    (Dk.CE.k (Dk.D.int 134217728)))
                  (Dk.CEs.nil)))
              (Dk.CE.loc 1)))
          (Dk.CSs.nil)))))⟩
def f_law_cases_47fe : Fn := ⟨["_law_crew"], 7, [],
Dk.CSs.cons
  (Dk.CS.asg (Dk.CT.nm 1) (Dk.CE.lst (Dk.CEs.cons (Dk.CE.tup (Dk.CEs.nil)) (Dk.CEs.nil))))
  (Dk.CSs.cons
    (Dk.CS.for_
      (Dk.Tg.tp [Dk.Tg.nm 2, Dk.Tg.nm 3])
      (Dk.CI.seq (Dk.CE.loc 0))
      (Dk.CSs.cons
        (Dk.CS.asg (Dk.CT.nm 4) (Dk.CE.lst (Dk.CEs.nil)))
        (Dk.CSs.cons
          (Dk.CS.for_
            (Dk.Tg.nm 5)
            (Dk.CI.seq (Dk.CE.loc 1))
            (Dk.CSs.cons
              (Dk.CS.asg
                (Dk.CT.nm 4)
                (Dk.CE.bin
                  (Dk.Bop.add)
                  (Dk.CE.loc 4)
                  (Dk.CE.lc
                    (Dk.CE.bin (Dk.Bop.add) (Dk.CE.loc 5) (Dk.CE.tup (Dk.CEs.cons (Dk.CE.loc 6) (Dk.CEs.nil))))
                    (Dk.Tg.nm 6)
                    (Dk.CI.rng (Dk.CE.loc 2))
                    (Dk.CEs.nil))))
              (Dk.CSs.nil)))
          (Dk.CSs.cons (Dk.CS.asg (Dk.CT.nm 1) (Dk.CE.loc 4)) (Dk.CSs.nil)))))
    (Dk.CSs.cons (Dk.CS.ret (Dk.CE.loc 1)) (Dk.CSs.nil)))⟩
def f_law_cell_59b4 : Fn := ⟨["_law_cells", "_law_spot"], 4, [],
Dk.CSs.cons
  (Dk.CS.ite
    (Dk.CE.cmp (Dk.Cop.lt) (Dk.CE.loc 1) (Dk.CE.bi "len" (Dk.CEs.cons (Dk.CE.loc 0) (Dk.CEs.nil))))
    (Dk.CSs.cons
      (Dk.CS.ret (Dk.CE.bi "int" (Dk.CEs.cons (Dk.CE.idx (Dk.CE.loc 0) (Dk.CE.loc 1)) (Dk.CEs.nil))))
      (Dk.CSs.nil))
    (Dk.CSs.nil))
  (Dk.CSs.cons
    (Dk.CS.asg
      (Dk.CT.nm 2)
      (Dk.CE.bin
        (Dk.Bop.add)
        (Dk.CE.bin (Dk.Bop.mul) (Dk.CE.k (Dk.D.int 7919)) (Dk.CE.loc 1))
        (Dk.CE.k (Dk.D.int 4021))))
    (Dk.CSs.cons
      (Dk.CS.for_
        (Dk.Tg.nm 3)
        (Dk.CI.seq (Dk.CE.sl (Dk.CE.loc 0) (Dk.CE.k (Dk.D.non)) (Dk.CE.k (Dk.D.int 4))))
        (Dk.CSs.cons
          (Dk.CS.asg
            (Dk.CT.nm 2)
            (Dk.CE.bin
              (Dk.Bop.mod)
              (Dk.CE.bi
                "int"
                (Dk.CEs.cons
                  (Dk.CE.bin
                    (Dk.Bop.add)
                    (Dk.CE.bin
                      (Dk.Bop.add)
                      (Dk.CE.bin (Dk.Bop.mul) (Dk.CE.loc 2) (Dk.CE.k (Dk.D.int 48337)))
                      (Dk.CE.loc 3))
                    (Dk.CE.k (Dk.D.int 59)))
                  (Dk.CEs.nil)))
              (Dk.CE.k (Dk.D.int 2147483587))))
          (Dk.CSs.nil)))
      (Dk.CSs.cons (Dk.CS.ret (Dk.CE.loc 2)) (Dk.CSs.nil))))⟩
def f_law_common_9d1d : Fn := ⟨["_law_a", "_law_b"], 2, [],
Dk.CSs.cons
  (Dk.CS.wh
    (Dk.CE.cmp (Dk.Cop.gt) (Dk.CE.loc 1) (Dk.CE.k (Dk.D.int 0)))
    (Dk.CSs.cons
      (Dk.CS.asg
        (Dk.CT.tp [Dk.CT.nm 0, Dk.CT.nm 1])
        (Dk.CE.tup
          (Dk.CEs.cons
            (Dk.CE.loc 1)
            (Dk.CEs.cons
              (Dk.CE.bin (Dk.Bop.mod) (Dk.CE.bi "int" (Dk.CEs.cons (Dk.CE.loc 0) (Dk.CEs.nil))) (Dk.CE.loc 1))
              (Dk.CEs.nil)))))
      (Dk.CSs.nil)))
  (Dk.CSs.cons (Dk.CS.ret (Dk.CE.loc 0)) (Dk.CSs.nil))⟩
def f_law_crew_36a2 : Fn := ⟨["_law_wick_here", "_law_many", "_law_most_here"], 8, [3],
Dk.CSs.cons
  (Dk.CS.par2 3 4 (Dk.CE.lst (Dk.CEs.nil)) (Dk.CE.loc 2))
  (Dk.CSs.cons
    (Dk.CS.for_
      (Dk.Tg.nm 5)
      (Dk.CI.rng
        (Dk.CE.bin
          (Dk.Bop.add)
          (Dk.CE.k (Dk.D.int 1))
          (Dk.CE.call "_law_burn" (Dk.CEs.cons (Dk.CE.loc 0) (Dk.CEs.cons (Dk.CE.loc 1) (Dk.CEs.nil))))))
      (Dk.CSs.cons
        (Dk.CS.ite
          (Dk.CE.cmp (Dk.Cop.gt) (Dk.CE.loc 4) (Dk.CE.k (Dk.D.int 0)))
          (Dk.CSs.cons
            (Dk.CS.asg (Dk.CT.nm 6) (Dk.CE.call "_law_size" (Dk.CEs.cons (Dk.CE.loc 0) (Dk.CEs.nil))))
            (Dk.CSs.cons
              (Dk.CS.asg
                (Dk.CT.nm 7)
                (Dk.CE.call
                  "_law_glow"
                  (Dk.CEs.cons
                    (Dk.CE.loc 0)
                    (Dk.CEs.cons
                      (Dk.CE.loc 6)
                      (Dk.CEs.cons
                        (Dk.CE.bi
                          "min"
                          (Dk.CEs.cons
                            (Dk.CE.call
                              "_law_from"
                              (Dk.CEs.cons
                                (Dk.CE.loc 0)
                                (Dk.CEs.cons
                                  (Dk.CE.lst
                                    (Dk.CEs.cons
                                      (Dk.CE.k (Dk.D.int 1))
                                      (Dk.CEs.cons
                                        (Dk.CE.k (Dk.D.int 2))
                                        (Dk.CEs.cons
                                          (Dk.CE.k (Dk.D.int 4))
                                          (Dk.CEs.cons (Dk.CE.k (Dk.D.int 8)) (Dk.CEs.nil))))))
                                  (Dk.CEs.nil))))
                            (Dk.CEs.cons (Dk.CE.loc 4) (Dk.CEs.nil))))
                        (Dk.CEs.nil))))))
              (Dk.CSs.cons
                (Dk.CS.app
                  3
                  (Dk.CE.tup
                    (Dk.CEs.cons
                      (Dk.CE.loc 6)
                      (Dk.CEs.cons
                        (Dk.CE.loc 7)
                        (Dk.CEs.cons
                          (Dk.CE.call "_law_burn" (Dk.CEs.cons (Dk.CE.loc 0) (Dk.CEs.cons (Dk.CE.loc 6) (Dk.CEs.nil))))
                          (Dk.CEs.nil))))))
                (Dk.CSs.cons
                  (Dk.CS.asg
                    (Dk.CT.nm 4)
                    (Dk.CE.bin (Dk.Bop.sub) (Dk.CE.loc 4) (Dk.CE.bi "len" (Dk.CEs.cons (Dk.CE.loc 7) (Dk.CEs.nil)))))
                  (Dk.CSs.nil)))))
          (Dk.CSs.nil))
        (Dk.CSs.nil)))
    (Dk.CSs.cons (Dk.CS.ret (Dk.CE.bi "tuple" (Dk.CEs.cons (Dk.CE.loc 3) (Dk.CEs.nil)))) (Dk.CSs.nil)))⟩
def f_law_dig_6f2b : Fn := ⟨["_law_jar_here", "_law_many"], 4, [],
Dk.CSs.cons
  (Dk.CS.asg
    (Dk.CT.sub (Dk.CE.loc 0) (Dk.CE.k (Dk.D.int 2)))
    (Dk.CE.bin (Dk.Bop.add) (Dk.CE.idx (Dk.CE.loc 0) (Dk.CE.k (Dk.D.int 2))) (Dk.CE.k (Dk.D.int 1))))
  (Dk.CSs.cons
    (Dk.CS.asg
      (Dk.CT.nm 2)
      (Dk.CE.bi "int" (Dk.CEs.cons (Dk.CE.idx (Dk.CE.loc 0) (Dk.CE.k (Dk.D.int 1))) (Dk.CEs.nil))))
    (Dk.CSs.cons
      (Dk.CS.asg
        (Dk.CT.sub (Dk.CE.loc 0) (Dk.CE.k (Dk.D.int 1)))
        (Dk.CE.bin
          (Dk.Bop.mod)
          (Dk.CE.bi
            "int"
            (Dk.CEs.cons
              (Dk.CE.bin
                (Dk.Bop.add)
                (Dk.CE.bin
                  (Dk.Bop.add)
                  (Dk.CE.bin
                    (Dk.Bop.mul)
                    (Dk.CE.loc 2)
                    (Dk.CE.bin
                      (Dk.Bop.add)
                      (Dk.CE.bin
                        (Dk.Bop.mod)
                        (Dk.CE.bi "int" (Dk.CEs.cons (Dk.CE.loc 2) (Dk.CEs.nil)))
                        (Dk.CE.k (Dk.D.int 29989)))
                      (Dk.CE.k (Dk.D.int 40013))))
                  (Dk.CE.bin (Dk.Bop.mul) (Dk.CE.idx (Dk.CE.loc 0) (Dk.CE.k (Dk.D.int 2))) (Dk.CE.k (Dk.D.int 65521))))
                (Dk.CE.k (Dk.D.int 7)))
              (Dk.CEs.nil)))
          (Dk.CE.k (Dk.D.int 2147483587))))
      (Dk.CSs.cons
        (Dk.CS.ite
          (Dk.CE.cmp (Dk.Cop.gt) (Dk.CE.idx (Dk.CE.loc 0) (Dk.CE.k (Dk.D.int 0))) (Dk.CE.k (Dk.D.int 0)))
          (Dk.CSs.cons
            (Dk.CS.asg
              (Dk.CT.tp [Dk.CT.sub (Dk.CE.loc 0) (Dk.CE.k (Dk.D.int 0)), Dk.CT.nm 3])
              (Dk.CE.bi
                "divmod"
                (Dk.CEs.cons
                  (Dk.CE.idx (Dk.CE.loc 0) (Dk.CE.k (Dk.D.int 0)))
                  (Dk.CEs.cons (Dk.CE.loc 1) (Dk.CEs.nil)))))
            (Dk.CSs.cons (Dk.CS.ret (Dk.CE.loc 3)) (Dk.CSs.nil)))
          (Dk.CSs.nil))
        (Dk.CSs.cons
          (Dk.CS.ret
            (Dk.CE.bin
              (Dk.Bop.mod)
              (Dk.CE.bi
                "int"
                (Dk.CEs.cons
                  (Dk.CE.bin (Dk.Bop.fdiv) (Dk.CE.idx (Dk.CE.loc 0) (Dk.CE.k (Dk.D.int 1))) (Dk.CE.k (Dk.D.int 128)))
                  (Dk.CEs.nil)))
              (Dk.CE.loc 1)))
          (Dk.CSs.nil)))))⟩
def f_law_eve_9b14 : Fn := ⟨["_law_crew_here"], 4, [],
Dk.CSs.cons
  (Dk.CS.ret
    (Dk.CE.make
      "Night"
      (Dk.CEs.cons
        (Dk.CE.call "_law_made" (Dk.CEs.cons (Dk.CE.loc 0) (Dk.CEs.nil)))
        (Dk.CEs.cons
          (Dk.CE.bi
            "tuple"
            (Dk.CEs.cons
              (Dk.CE.lc
                (Dk.CE.loc 3)
                (Dk.Tg.tp [Dk.Tg.nm 1, Dk.Tg.nm 2, Dk.Tg.nm 3])
                (Dk.CI.seq (Dk.CE.loc 0))
                (Dk.CEs.nil))
              (Dk.CEs.nil)))
          (Dk.CEs.nil)))))
  (Dk.CSs.nil)⟩
def f_law_from_4b3d : Fn := ⟨["_law_wick_here", "_law_some"], 2, [],
Dk.CSs.cons
  (Dk.CS.ret
    (Dk.CE.idx
      (Dk.CE.loc 1)
      (Dk.CE.call
        "_law_burn"
        (Dk.CEs.cons
          (Dk.CE.loc 0)
          (Dk.CEs.cons (Dk.CE.bi "len" (Dk.CEs.cons (Dk.CE.loc 1) (Dk.CEs.nil))) (Dk.CEs.nil))))))
  (Dk.CSs.nil)⟩
def f_law_glow_a436 : Fn := ⟨["_law_wick_here", "_law_size", "_law_most_here"], 5, [3],
Dk.CSs.cons
  (Dk.CS.asg (Dk.CT.nm 3) (Dk.CE.dct (Dk.CEs.nil) (Dk.CEs.nil)))
  (Dk.CSs.cons
    (Dk.CS.for_
      (Dk.Tg.nm 4)
      (Dk.CI.rng
        (Dk.CE.bin
          (Dk.Bop.add)
          (Dk.CE.k (Dk.D.int 1))
          (Dk.CE.call "_law_burn" (Dk.CEs.cons (Dk.CE.loc 0) (Dk.CEs.cons (Dk.CE.loc 2) (Dk.CEs.nil))))))
      (Dk.CSs.cons
        (Dk.CS.asg
          (Dk.CT.sub
            (Dk.CE.loc 3)
            (Dk.CE.call "_law_burn" (Dk.CEs.cons (Dk.CE.loc 0) (Dk.CEs.cons (Dk.CE.loc 1) (Dk.CEs.nil)))))
          (Dk.CE.k (Dk.D.bl true)))
        (Dk.CSs.nil)))
    (Dk.CSs.cons
      (Dk.CS.ret
        (Dk.CE.bi
          "tuple"
          (Dk.CEs.cons
            (Dk.CE.bi "sorted" (Dk.CEs.cons (Dk.CE.bi "list" (Dk.CEs.cons (Dk.CE.loc 3) (Dk.CEs.nil))) (Dk.CEs.nil)))
            (Dk.CEs.nil))))
      (Dk.CSs.nil)))⟩
def f_law_glow_e4a0 : Fn := ⟨["_law_wick_here", "_law_size_here", "_law_most_here"], 5, [3],
Dk.CSs.cons
  (Dk.CS.asg (Dk.CT.nm 3) (Dk.CE.dct (Dk.CEs.nil) (Dk.CEs.nil)))
  (Dk.CSs.cons
    (Dk.CS.for_
      (Dk.Tg.nm 4)
      (Dk.CI.rng
        (Dk.CE.bin
          (Dk.Bop.add)
          (Dk.CE.k (Dk.D.int 1))
          (Dk.CE.call "_law_burn" (Dk.CEs.cons (Dk.CE.loc 0) (Dk.CEs.cons (Dk.CE.loc 2) (Dk.CEs.nil))))))
      (Dk.CSs.cons
        (Dk.CS.asg
          (Dk.CT.sub
            (Dk.CE.loc 3)
            (Dk.CE.call "_law_burn" (Dk.CEs.cons (Dk.CE.loc 0) (Dk.CEs.cons (Dk.CE.loc 1) (Dk.CEs.nil)))))
          (Dk.CE.k (Dk.D.bl true)))
        (Dk.CSs.nil)))
    (Dk.CSs.cons
      (Dk.CS.ret
        (Dk.CE.bi
          "tuple"
          (Dk.CEs.cons
            (Dk.CE.bi "sorted" (Dk.CEs.cons (Dk.CE.bi "list" (Dk.CEs.cons (Dk.CE.loc 3) (Dk.CEs.nil))) (Dk.CEs.nil)))
            (Dk.CEs.nil))))
      (Dk.CSs.nil)))⟩
def f_law_great_2635 : Fn := ⟨["_law_jar_here", "_law_deep"], 5, [2],
Dk.CSs.cons
  (Dk.CS.asg
    (Dk.CT.nm 2)
    (Dk.CE.call
      "_law_lamps"
      (Dk.CEs.cons
        (Dk.CE.loc 0)
        (Dk.CEs.cons
          (Dk.CE.k (Dk.D.int 3))
          (Dk.CEs.cons (Dk.CE.loc 1) (Dk.CEs.cons (Dk.CE.k (Dk.D.int 5)) (Dk.CEs.nil)))))))
  (Dk.CSs.cons
    (Dk.CS.for_
      (Dk.Tg.nm 3)
      (Dk.CI.rng
        (Dk.CE.bin
          (Dk.Bop.add)
          (Dk.CE.k (Dk.D.int 1))
          (Dk.CE.call "_law_dig" (Dk.CEs.cons (Dk.CE.loc 0) (Dk.CEs.cons (Dk.CE.k (Dk.D.int 2)) (Dk.CEs.nil))))))
      (Dk.CSs.cons
        (Dk.CS.asg
          (Dk.CT.nm 4)
          (Dk.CE.call
            "_law_take"
            (Dk.CEs.cons
              (Dk.CE.loc 0)
              (Dk.CEs.cons
                (Dk.CE.lst
                  (Dk.CEs.cons
                    (Dk.CE.bin (Dk.Bop.pow) (Dk.CE.k (Dk.D.int 10)) (Dk.CE.k (Dk.D.int 30)))
                    (Dk.CEs.cons
                      (Dk.CE.bin
                        (Dk.Bop.sub)
                        (Dk.CE.bin (Dk.Bop.pow) (Dk.CE.k (Dk.D.int 10)) (Dk.CE.k (Dk.D.int 30)))
                        (Dk.CE.k (Dk.D.int 11)))
                      (Dk.CEs.cons
                        (Dk.CE.bin
                          (Dk.Bop.add)
                          (Dk.CE.bin (Dk.Bop.pow) (Dk.CE.k (Dk.D.int 10)) (Dk.CE.k (Dk.D.int 20)))
                          (Dk.CE.k (Dk.D.int 39)))
                        (Dk.CEs.cons
                          (Dk.CE.bin (Dk.Bop.pow) (Dk.CE.k (Dk.D.int 2)) (Dk.CE.k (Dk.D.int 60)))
                          (Dk.CEs.cons
                            (Dk.CE.bin (Dk.Bop.pow) (Dk.CE.k (Dk.D.int 3)) (Dk.CE.k (Dk.D.int 40)))
                            (Dk.CEs.cons
                              (Dk.CE.bin
                                (Dk.Bop.add)
                                (Dk.CE.bin (Dk.Bop.pow) (Dk.CE.k (Dk.D.int 10)) (Dk.CE.k (Dk.D.int 12)))
                                (Dk.CE.k (Dk.D.int 39)))
                              (Dk.CEs.nil))))))))
                (Dk.CEs.nil)))))
        (Dk.CSs.cons
          (Dk.CS.app
            2
            (Dk.CE.tup
              (Dk.CEs.cons
                (Dk.CE.loc 4)
                (Dk.CEs.cons
                  (Dk.CE.bi
                    "tuple"
                    (Dk.CEs.cons
                      (Dk.CE.sl
                        (Dk.CE.bi
                          "sorted"
                          (Dk.CEs.cons
                            (Dk.CE.lst
                              (Dk.CEs.cons
                                (Dk.CE.call
                                  "_law_dig"
                                  (Dk.CEs.cons (Dk.CE.loc 0) (Dk.CEs.cons (Dk.CE.k (Dk.D.int 9)) (Dk.CEs.nil))))
                                (Dk.CEs.cons
                                  (Dk.CE.bin
                                    (Dk.Bop.sub)
                                    (Dk.CE.bin (Dk.Bop.sub) (Dk.CE.loc 4) (Dk.CE.k (Dk.D.int 1)))
                                    (Dk.CE.call
                                      "_law_dig"
                                      (Dk.CEs.cons (Dk.CE.loc 0) (Dk.CEs.cons (Dk.CE.k (Dk.D.int 9)) (Dk.CEs.nil)))))
                                  (Dk.CEs.nil))))
                            (Dk.CEs.nil)))
                        (Dk.CE.k (Dk.D.non))
                        (Dk.CE.bin
                          (Dk.Bop.add)
                          (Dk.CE.k (Dk.D.int 1))
                          (Dk.CE.call
                            "_law_dig"
                            (Dk.CEs.cons (Dk.CE.loc 0) (Dk.CEs.cons (Dk.CE.k (Dk.D.int 2)) (Dk.CEs.nil))))))
                      (Dk.CEs.nil)))
                  (Dk.CEs.nil)))))
          (Dk.CSs.nil))))
    (Dk.CSs.cons (Dk.CS.ret (Dk.CE.loc 2)) (Dk.CSs.nil)))⟩
def f_law_head_ee47 : Fn := ⟨["_law_row_here"], 1, [],
Dk.CSs.cons
  (Dk.CS.ret
    (Dk.CE.ife
      (Dk.CE.cmp (Dk.Cop.in_) (Dk.CE.k (Dk.D.bl false)) (Dk.CE.loc 0))
      (Dk.CE.bm (Dk.CE.loc 0) "index" (Dk.CEs.cons (Dk.CE.k (Dk.D.bl false)) (Dk.CEs.nil)))
      (Dk.CE.k (Dk.D.non))))
  (Dk.CSs.nil)⟩
def f_law_jar_5fde : Fn := ⟨["_law_cells", "_law_spot"], 3, [],
Dk.CSs.cons
  (Dk.CS.asg
    (Dk.CT.nm 2)
    (Dk.CE.bi
      "abs"
      (Dk.CEs.cons
        (Dk.CE.call "_law_cell" (Dk.CEs.cons (Dk.CE.loc 0) (Dk.CEs.cons (Dk.CE.loc 1) (Dk.CEs.nil))))
        (Dk.CEs.nil))))
  (Dk.CSs.cons
    (Dk.CS.ret
      (Dk.CE.newcell
        (Dk.CEs.cons
          (Dk.CE.loc 2)
          (Dk.CEs.cons
            (Dk.CE.bin
              (Dk.Bop.mod)
              (Dk.CE.bi
                "int"
                (Dk.CEs.cons
                  (Dk.CE.bin (Dk.Bop.add) (Dk.CE.loc 2) (Dk.CE.bin (Dk.Bop.mul) (Dk.CE.k (Dk.D.int 907)) (Dk.CE.loc 1)))
                  (Dk.CEs.nil)))
              (Dk.CE.k (Dk.D.int 2147483587)))
            (Dk.CEs.cons (Dk.CE.k (Dk.D.int 0)) (Dk.CEs.nil))))))
    (Dk.CSs.nil))⟩
def f_law_kept_aaa0 : Fn := ⟨["_law_crew", "_law_some", "_law_rows"], 4, [],
Dk.CSs.cons
  (Dk.CS.ret
    (Dk.CE.cmp
      (Dk.Cop.eq)
      (Dk.CE.lc
        (Dk.CE.loc 3)
        (Dk.Tg.nm 3)
        (Dk.CI.seq (Dk.CE.loc 2))
        (Dk.CEs.cons
          (Dk.CE.cmp
            (Dk.Cop.ne)
            (Dk.CE.cmp
              (Dk.Cop.in_)
              (Dk.CE.idx (Dk.CE.loc 3) (Dk.CE.k (Dk.D.int 0)))
              (Dk.CE.call
                "_law_on"
                (Dk.CEs.cons
                  (Dk.CE.loc 0)
                  (Dk.CEs.cons
                    (Dk.CE.loc 1)
                    (Dk.CEs.cons (Dk.CE.idx (Dk.CE.loc 3) (Dk.CE.k (Dk.D.int 1))) (Dk.CEs.nil))))))
            (Dk.CE.idx (Dk.CE.loc 3) (Dk.CE.k (Dk.D.int 2))))
          (Dk.CEs.nil)))
      (Dk.CE.lst (Dk.CEs.nil))))
  (Dk.CSs.nil)⟩
def f_law_lamps_14ad : Fn := ⟨["_law_jar_here", "_law_many", "_law_deep", "_law_most"], 8, [4],
Dk.CSs.cons
  (Dk.CS.par2 4 5 (Dk.CE.lst (Dk.CEs.nil)) (Dk.CE.loc 3))
  (Dk.CSs.cons
    (Dk.CS.for_
      (Dk.Tg.nm 6)
      (Dk.CI.rng
        (Dk.CE.bin
          (Dk.Bop.add)
          (Dk.CE.k (Dk.D.int 1))
          (Dk.CE.call "_law_dig" (Dk.CEs.cons (Dk.CE.loc 0) (Dk.CEs.cons (Dk.CE.loc 1) (Dk.CEs.nil))))))
      (Dk.CSs.cons
        (Dk.CS.ite
          (Dk.CE.cmp (Dk.Cop.gt) (Dk.CE.loc 5) (Dk.CE.k (Dk.D.int 0)))
          (Dk.CSs.cons
            (Dk.CS.asg
              (Dk.CT.nm 7)
              (Dk.CE.bin
                (Dk.Bop.add)
                (Dk.CE.k (Dk.D.int 1))
                (Dk.CE.call "_law_dig" (Dk.CEs.cons (Dk.CE.loc 0) (Dk.CEs.cons (Dk.CE.loc 2) (Dk.CEs.nil))))))
            (Dk.CSs.cons
              (Dk.CS.app
                4
                (Dk.CE.tup
                  (Dk.CEs.cons
                    (Dk.CE.loc 7)
                    (Dk.CEs.cons
                      (Dk.CE.call
                        "_law_lights"
                        (Dk.CEs.cons
                          (Dk.CE.loc 0)
                          (Dk.CEs.cons
                            (Dk.CE.loc 7)
                            (Dk.CEs.cons
                              (Dk.CE.bi
                                "min"
                                (Dk.CEs.cons (Dk.CE.k (Dk.D.int 3)) (Dk.CEs.cons (Dk.CE.loc 5) (Dk.CEs.nil))))
                              (Dk.CEs.nil)))))
                      (Dk.CEs.nil)))))
              (Dk.CSs.cons
                (Dk.CS.asg
                  (Dk.CT.nm 5)
                  (Dk.CE.bin
                    (Dk.Bop.sub)
                    (Dk.CE.loc 5)
                    (Dk.CE.bi
                      "len"
                      (Dk.CEs.cons
                        (Dk.CE.idx (Dk.CE.idx (Dk.CE.loc 4) (Dk.CE.neg (Dk.CE.k (Dk.D.int 1)))) (Dk.CE.k (Dk.D.int 1)))
                        (Dk.CEs.nil)))))
                (Dk.CSs.nil))))
          (Dk.CSs.nil))
        (Dk.CSs.nil)))
    (Dk.CSs.cons (Dk.CS.ret (Dk.CE.loc 4)) (Dk.CSs.nil)))⟩
def f_law_lamps_7838 : Fn := ⟨["_law_jar_here", "_law_many", "_law_deep", "_law_most_here"], 8, [4],
Dk.CSs.cons
  (Dk.CS.par2 4 5 (Dk.CE.lst (Dk.CEs.nil)) (Dk.CE.loc 3))
  (Dk.CSs.cons
    (Dk.CS.for_
      (Dk.Tg.nm 6)
      (Dk.CI.rng
        (Dk.CE.bin
          (Dk.Bop.add)
          (Dk.CE.k (Dk.D.int 1))
          (Dk.CE.call "_law_dig" (Dk.CEs.cons (Dk.CE.loc 0) (Dk.CEs.cons (Dk.CE.loc 1) (Dk.CEs.nil))))))
      (Dk.CSs.cons
        (Dk.CS.ite
          (Dk.CE.cmp (Dk.Cop.gt) (Dk.CE.loc 5) (Dk.CE.k (Dk.D.int 0)))
          (Dk.CSs.cons
            (Dk.CS.asg
              (Dk.CT.nm 7)
              (Dk.CE.bin
                (Dk.Bop.add)
                (Dk.CE.k (Dk.D.int 1))
                (Dk.CE.call "_law_dig" (Dk.CEs.cons (Dk.CE.loc 0) (Dk.CEs.cons (Dk.CE.loc 2) (Dk.CEs.nil))))))
            (Dk.CSs.cons
              (Dk.CS.app
                4
                (Dk.CE.tup
                  (Dk.CEs.cons
                    (Dk.CE.loc 7)
                    (Dk.CEs.cons
                      (Dk.CE.call
                        "_law_lights"
                        (Dk.CEs.cons
                          (Dk.CE.loc 0)
                          (Dk.CEs.cons
                            (Dk.CE.loc 7)
                            (Dk.CEs.cons
                              (Dk.CE.bi
                                "min"
                                (Dk.CEs.cons (Dk.CE.k (Dk.D.int 3)) (Dk.CEs.cons (Dk.CE.loc 5) (Dk.CEs.nil))))
                              (Dk.CEs.nil)))))
                      (Dk.CEs.nil)))))
              (Dk.CSs.cons
                (Dk.CS.asg
                  (Dk.CT.nm 5)
                  (Dk.CE.bin
                    (Dk.Bop.sub)
                    (Dk.CE.loc 5)
                    (Dk.CE.bi
                      "len"
                      (Dk.CEs.cons
                        (Dk.CE.idx (Dk.CE.idx (Dk.CE.loc 4) (Dk.CE.neg (Dk.CE.k (Dk.D.int 1)))) (Dk.CE.k (Dk.D.int 1)))
                        (Dk.CEs.nil)))))
                (Dk.CSs.nil))))
          (Dk.CSs.nil))
        (Dk.CSs.nil)))
    (Dk.CSs.cons (Dk.CS.ret (Dk.CE.loc 4)) (Dk.CSs.nil)))⟩
def f_law_lights_663c : Fn := ⟨["_law_jar_here", "_law_p", "_law_most"], 5, [3],
Dk.CSs.cons
  (Dk.CS.asg (Dk.CT.nm 3) (Dk.CE.dct (Dk.CEs.nil) (Dk.CEs.nil)))
  (Dk.CSs.cons
    (Dk.CS.for_
      (Dk.Tg.nm 4)
      (Dk.CI.rng
        (Dk.CE.bin
          (Dk.Bop.add)
          (Dk.CE.k (Dk.D.int 1))
          (Dk.CE.call "_law_dig" (Dk.CEs.cons (Dk.CE.loc 0) (Dk.CEs.cons (Dk.CE.loc 2) (Dk.CEs.nil))))))
      (Dk.CSs.cons
        (Dk.CS.asg
          (Dk.CT.sub
            (Dk.CE.loc 3)
            (Dk.CE.call "_law_dig" (Dk.CEs.cons (Dk.CE.loc 0) (Dk.CEs.cons (Dk.CE.loc 1) (Dk.CEs.nil)))))
          (Dk.CE.k (Dk.D.bl true)))
        (Dk.CSs.nil)))
    (Dk.CSs.cons
      (Dk.CS.ret
        (Dk.CE.bi
          "tuple"
          (Dk.CEs.cons
            (Dk.CE.bi "sorted" (Dk.CEs.cons (Dk.CE.bi "list" (Dk.CEs.cons (Dk.CE.loc 3) (Dk.CEs.nil))) (Dk.CEs.nil)))
            (Dk.CEs.nil))))
      (Dk.CSs.nil)))⟩
def f_law_lights_9a81 : Fn := ⟨["_law_jar_here", "_law_p", "_law_most_here"], 5, [3],
Dk.CSs.cons
  (Dk.CS.asg (Dk.CT.nm 3) (Dk.CE.dct (Dk.CEs.nil) (Dk.CEs.nil)))
  (Dk.CSs.cons
    (Dk.CS.for_
      (Dk.Tg.nm 4)
      (Dk.CI.rng
        (Dk.CE.bin
          (Dk.Bop.add)
          (Dk.CE.k (Dk.D.int 1))
          (Dk.CE.call "_law_dig" (Dk.CEs.cons (Dk.CE.loc 0) (Dk.CEs.cons (Dk.CE.loc 2) (Dk.CEs.nil))))))
      (Dk.CSs.cons
        (Dk.CS.asg
          (Dk.CT.sub
            (Dk.CE.loc 3)
            (Dk.CE.call "_law_dig" (Dk.CEs.cons (Dk.CE.loc 0) (Dk.CEs.cons (Dk.CE.loc 1) (Dk.CEs.nil)))))
          (Dk.CE.k (Dk.D.bl true)))
        (Dk.CSs.nil)))
    (Dk.CSs.cons
      (Dk.CS.ret
        (Dk.CE.bi
          "tuple"
          (Dk.CEs.cons
            (Dk.CE.bi "sorted" (Dk.CEs.cons (Dk.CE.bi "list" (Dk.CEs.cons (Dk.CE.loc 3) (Dk.CEs.nil))) (Dk.CEs.nil)))
            (Dk.CEs.nil))))
      (Dk.CSs.nil)))⟩
def f_law_lots_2ad3 : Fn := ⟨["_law_many"], 5, [],
Dk.CSs.cons
  (Dk.CS.asg (Dk.CT.nm 1) (Dk.CE.lst (Dk.CEs.cons (Dk.CE.tup (Dk.CEs.nil)) (Dk.CEs.nil))))
  (Dk.CSs.cons
    (Dk.CS.for_
      (Dk.Tg.nm 2)
      (Dk.CI.rng (Dk.CE.loc 0))
      (Dk.CSs.cons
        (Dk.CS.asg
          (Dk.CT.nm 1)
          (Dk.CE.bin
            (Dk.Bop.add)
            (Dk.CE.loc 1)
            (Dk.CE.lc
              (Dk.CE.bin (Dk.Bop.add) (Dk.CE.loc 3) (Dk.CE.tup (Dk.CEs.cons (Dk.CE.loc 2) (Dk.CEs.nil))))
              (Dk.Tg.nm 3)
              (Dk.CI.seq (Dk.CE.loc 1))
              (Dk.CEs.nil))))
        (Dk.CSs.nil)))
    (Dk.CSs.cons
      (Dk.CS.ret
        (Dk.CE.lc
          (Dk.CE.idx (Dk.CE.loc 4) (Dk.CE.k (Dk.D.int 1)))
          (Dk.Tg.nm 4)
          (Dk.CI.seq
            (Dk.CE.bi
              "sorted"
              (Dk.CEs.cons
                (Dk.CE.lc
                  (Dk.CE.tup
                    (Dk.CEs.cons
                      (Dk.CE.bi "len" (Dk.CEs.cons (Dk.CE.loc 3) (Dk.CEs.nil)))
                      (Dk.CEs.cons (Dk.CE.loc 3) (Dk.CEs.nil))))
                  (Dk.Tg.nm 3)
                  (Dk.CI.seq (Dk.CE.loc 1))
                  (Dk.CEs.nil))
                (Dk.CEs.nil))))
          (Dk.CEs.nil)))
      (Dk.CSs.nil)))⟩
def f_law_made_1e85 : Fn := ⟨["_law_crew_here"], 4, [],
Dk.CSs.cons
  (Dk.CS.ret
    (Dk.CE.bi
      "tuple"
      (Dk.CEs.cons
        (Dk.CE.lc
          (Dk.CE.make "Lamp" (Dk.CEs.cons (Dk.CE.loc 1) (Dk.CEs.cons (Dk.CE.loc 2) (Dk.CEs.nil))))
          (Dk.Tg.tp [Dk.Tg.nm 1, Dk.Tg.nm 2, Dk.Tg.nm 3])
          (Dk.CI.seq (Dk.CE.loc 0))
          (Dk.CEs.nil))
        (Dk.CEs.nil))))
  (Dk.CSs.nil)⟩
def f_law_made_e031 : Fn := ⟨["_law_crew"], 3, [],
Dk.CSs.cons
  (Dk.CS.ret
    (Dk.CE.bi
      "tuple"
      (Dk.CEs.cons
        (Dk.CE.lc
          (Dk.CE.make "Lamp" (Dk.CEs.cons (Dk.CE.loc 1) (Dk.CEs.cons (Dk.CE.loc 2) (Dk.CEs.nil))))
          (Dk.Tg.tp [Dk.Tg.nm 1, Dk.Tg.nm 2])
          (Dk.CI.seq (Dk.CE.loc 0))
          (Dk.CEs.nil))
        (Dk.CEs.nil))))
  (Dk.CSs.nil)⟩
def f_law_most_bff7 : Fn := ⟨["_law_some"], 1, [],
Dk.CSs.cons
  (Dk.CS.ret
    (Dk.CE.ife
      (Dk.CE.cmp (Dk.Cop.in_) (Dk.CE.k (Dk.D.non)) (Dk.CE.loc 0))
      (Dk.CE.k (Dk.D.non))
      (Dk.CE.bi "max" (Dk.CEs.cons (Dk.CE.loc 0) (Dk.CEs.nil)))))
  (Dk.CSs.nil)⟩
def f_law_on_6f80 : Fn := ⟨["_law_crew", "_law_turns", "_law_t"], 4, [],
Dk.CSs.cons
  (Dk.CS.ret
    (Dk.CE.lc
      (Dk.CE.loc 3)
      (Dk.Tg.nm 3)
      (Dk.CI.rng (Dk.CE.bi "len" (Dk.CEs.cons (Dk.CE.loc 0) (Dk.CEs.nil))))
      (Dk.CEs.cons
        (Dk.CE.cmp
          (Dk.Cop.in_)
          (Dk.CE.bin
            (Dk.Bop.mod)
            (Dk.CE.bi
              "int"
              (Dk.CEs.cons (Dk.CE.bin (Dk.Bop.add) (Dk.CE.loc 2) (Dk.CE.idx (Dk.CE.loc 1) (Dk.CE.loc 3))) (Dk.CEs.nil)))
            (Dk.CE.idx (Dk.CE.idx (Dk.CE.loc 0) (Dk.CE.loc 3)) (Dk.CE.k (Dk.D.int 0))))
          (Dk.CE.idx (Dk.CE.idx (Dk.CE.loc 0) (Dk.CE.loc 3)) (Dk.CE.k (Dk.D.int 1))))
        (Dk.CEs.nil))))
  (Dk.CSs.nil)⟩
def f_law_phases_0bb7 : Fn := ⟨["_law_jar_here", "_law_crew"], 4, [],
Dk.CSs.cons
  (Dk.CS.ret
    (Dk.CE.lc
      (Dk.CE.call "_law_dig" (Dk.CEs.cons (Dk.CE.loc 0) (Dk.CEs.cons (Dk.CE.loc 2) (Dk.CEs.nil))))
      (Dk.Tg.tp [Dk.Tg.nm 2, Dk.Tg.nm 3])
      (Dk.CI.seq (Dk.CE.loc 1))
      (Dk.CEs.nil)))
  (Dk.CSs.nil)⟩
def f_law_round_0b70 : Fn := ⟨["_law_crew"], 5, [],
Dk.CSs.cons
  (Dk.CS.asg (Dk.CT.nm 1) (Dk.CE.k (Dk.D.int 1)))
  (Dk.CSs.cons
    (Dk.CS.for_
      (Dk.Tg.tp [Dk.Tg.nm 2, Dk.Tg.nm 3])
      (Dk.CI.seq (Dk.CE.loc 0))
      (Dk.CSs.cons
        (Dk.CS.asg (Dk.CT.nm 4) (Dk.CE.loc 1))
        (Dk.CSs.cons
          (Dk.CS.wh
            (Dk.CE.cmp
              (Dk.Cop.ne)
              (Dk.CE.bin (Dk.Bop.mod) (Dk.CE.bi "int" (Dk.CEs.cons (Dk.CE.loc 4) (Dk.CEs.nil))) (Dk.CE.loc 2))
              (Dk.CE.k (Dk.D.int 0)))
            (Dk.CSs.cons (Dk.CS.asg (Dk.CT.nm 4) (Dk.CE.bin (Dk.Bop.add) (Dk.CE.loc 4) (Dk.CE.loc 1))) (Dk.CSs.nil)))
          (Dk.CSs.cons (Dk.CS.asg (Dk.CT.nm 1) (Dk.CE.loc 4)) (Dk.CSs.nil)))))
    (Dk.CSs.cons (Dk.CS.ret (Dk.CE.loc 1)) (Dk.CSs.nil)))⟩
def f_law_row_1578 : Fn := ⟨["_law_crew", "_law_turns", "_law_first", "_law_many"], 5, [],
Dk.CSs.cons
  (Dk.CS.ret
    (Dk.CE.lc
      (Dk.CE.cmp
        (Dk.Cop.ne)
        (Dk.CE.call
          "_law_on"
          (Dk.CEs.cons (Dk.CE.loc 0) (Dk.CEs.cons (Dk.CE.loc 1) (Dk.CEs.cons (Dk.CE.loc 4) (Dk.CEs.nil)))))
        (Dk.CE.lst (Dk.CEs.nil)))
      (Dk.Tg.nm 4)
      (Dk.CI.rng2 (Dk.CE.loc 2) (Dk.CE.bin (Dk.Bop.add) (Dk.CE.loc 2) (Dk.CE.loc 3)))
      (Dk.CEs.nil)))
  (Dk.CSs.nil)⟩
def f_law_run_c4ea : Fn := ⟨["_law_row_here"], 4, [],
Dk.CSs.cons
  (Dk.CS.ite
    (Dk.CE.cmp (Dk.Cop.notin) (Dk.CE.k (Dk.D.bl false)) (Dk.CE.loc 0))
    (Dk.CSs.cons (Dk.CS.ret (Dk.CE.k (Dk.D.non))) (Dk.CSs.nil))
    (Dk.CSs.nil))
  (Dk.CSs.cons
    (Dk.CS.asg
      (Dk.CT.tp [Dk.CT.nm 1, Dk.CT.nm 2])
      (Dk.CE.tup (Dk.CEs.cons (Dk.CE.k (Dk.D.int 0)) (Dk.CEs.cons (Dk.CE.k (Dk.D.int 0)) (Dk.CEs.nil)))))
    (Dk.CSs.cons
      (Dk.CS.for_
        (Dk.Tg.nm 3)
        (Dk.CI.seq (Dk.CE.bin (Dk.Bop.add) (Dk.CE.loc 0) (Dk.CE.loc 0)))
        (Dk.CSs.cons
          (Dk.CS.asg
            (Dk.CT.nm 2)
            (Dk.CE.ife
              (Dk.CE.loc 3)
              (Dk.CE.bin (Dk.Bop.add) (Dk.CE.loc 2) (Dk.CE.k (Dk.D.int 1)))
              (Dk.CE.k (Dk.D.int 0))))
          (Dk.CSs.cons
            (Dk.CS.asg
              (Dk.CT.nm 1)
              (Dk.CE.bi "max" (Dk.CEs.cons (Dk.CE.loc 1) (Dk.CEs.cons (Dk.CE.loc 2) (Dk.CEs.nil)))))
            (Dk.CSs.nil))))
      (Dk.CSs.cons (Dk.CS.ret (Dk.CE.loc 1)) (Dk.CSs.nil))))⟩
def f_law_size_ec97 : Fn := ⟨["_law_wick_here"], 1, [],
Dk.CSs.cons
  (Dk.CS.ret
    (Dk.CE.bin
      (Dk.Bop.add)
      (Dk.CE.k (Dk.D.int 1))
      (Dk.CE.call
        "_law_burn"
        (Dk.CEs.cons
          (Dk.CE.loc 0)
          (Dk.CEs.cons
            (Dk.CE.call
              "_law_from"
              (Dk.CEs.cons
                (Dk.CE.loc 0)
                (Dk.CEs.cons
                  (Dk.CE.lst
                    (Dk.CEs.cons
                      (Dk.CE.k (Dk.D.int 3))
                      (Dk.CEs.cons
                        (Dk.CE.k (Dk.D.int 9))
                        (Dk.CEs.cons
                          (Dk.CE.k (Dk.D.int 12))
                          (Dk.CEs.cons
                            (Dk.CE.k (Dk.D.int 60))
                            (Dk.CEs.cons
                              (Dk.CE.bin (Dk.Bop.pow) (Dk.CE.k (Dk.D.int 10)) (Dk.CE.k (Dk.D.int 6)))
                              (Dk.CEs.cons
                                (Dk.CE.bin (Dk.Bop.pow) (Dk.CE.k (Dk.D.int 10)) (Dk.CE.k (Dk.D.int 30)))
                                (Dk.CEs.nil))))))))
                  (Dk.CEs.nil))))
            (Dk.CEs.nil))))))
  (Dk.CSs.nil)⟩
def f_law_take_4af2 : Fn := ⟨["_law_jar_here", "_law_some"], 2, [],
Dk.CSs.cons
  (Dk.CS.ret
    (Dk.CE.idx
      (Dk.CE.loc 1)
      (Dk.CE.call
        "_law_dig"
        (Dk.CEs.cons
          (Dk.CE.loc 0)
          (Dk.CEs.cons (Dk.CE.bi "len" (Dk.CEs.cons (Dk.CE.loc 1) (Dk.CEs.nil))) (Dk.CEs.nil))))))
  (Dk.CSs.nil)⟩
def f_law_wick_fecc : Fn := ⟨["_law_script", "_law_at"], 5, [],
Dk.CSs.cons
  (Dk.CS.asg
    (Dk.CT.nm 2)
    (Dk.CE.ife
      (Dk.CE.cmp (Dk.Cop.lt) (Dk.CE.loc 1) (Dk.CE.bi "len" (Dk.CEs.cons (Dk.CE.loc 0) (Dk.CEs.nil))))
      (Dk.CE.idx (Dk.CE.loc 0) (Dk.CE.loc 1))
      (Dk.CE.bin (Dk.Bop.add) (Dk.CE.bin (Dk.Bop.mul) (Dk.CE.k (Dk.D.int 71)) (Dk.CE.loc 1)) (Dk.CE.k (Dk.D.int 37)))))
  (Dk.CSs.cons
    (Dk.CS.asg
      (Dk.CT.nm 3)
      (Dk.CE.bin
        (Dk.Bop.mul)
        (Dk.CE.k (Dk.D.int 7046029254))
        (Dk.CE.bin (Dk.Bop.add) (Dk.CE.loc 1) (Dk.CE.k (Dk.D.int 11)))))
    (Dk.CSs.cons
      (Dk.CS.for_
        (Dk.Tg.nm 4)
        (Dk.CI.seq
          (Dk.CE.bin
            (Dk.Bop.add)
            (Dk.CE.sl (Dk.CE.loc 0) (Dk.CE.k (Dk.D.non)) (Dk.CE.k (Dk.D.int 5)))
            (Dk.CE.lst (Dk.CEs.cons (Dk.CE.loc 2) (Dk.CEs.nil)))))
        (Dk.CSs.cons
          (Dk.CS.asg
            (Dk.CT.nm 3)
            (Dk.CE.bin
              (Dk.Bop.mod)
              (Dk.CE.bi
                "int"
                (Dk.CEs.cons
                  (Dk.CE.bin
                    (Dk.Bop.add)
                    (Dk.CE.bin (Dk.Bop.mul) (Dk.CE.loc 3) (Dk.CE.k (Dk.D.int 3935559000370003845)))
                    (Dk.CE.loc 4))
                  (Dk.CEs.nil)))
              (Dk.CE.k (Dk.D.int 18446744073709551533))))
          (Dk.CSs.nil)))
      (Dk.CSs.cons
        (Dk.CS.ret
          (Dk.CE.newcell
            (Dk.CEs.cons
              (Dk.CE.ife
                (Dk.CE.cmp
                  (Dk.Cop.ge)
                  (Dk.CE.bi "abs" (Dk.CEs.cons (Dk.CE.loc 2) (Dk.CEs.nil)))
                  (Dk.CE.bin (Dk.Bop.pow) (Dk.CE.k (Dk.D.int 10)) (Dk.CE.k (Dk.D.int 18))))
                (Dk.CE.bi "abs" (Dk.CEs.cons (Dk.CE.loc 2) (Dk.CEs.nil)))
                (Dk.CE.k (Dk.D.int 0)))
              (Dk.CEs.cons (Dk.CE.loc 3) (Dk.CEs.cons (Dk.CE.k (Dk.D.int 0)) (Dk.CEs.nil))))))
        (Dk.CSs.nil))))⟩
def f_least_parts : Fn := ⟨["many", "wish"], 6, [2],
Dk.CSs.cons
  (Dk.CS.asg (Dk.CT.nm 2) (Dk.CE.lst (Dk.CEs.nil)))
  (Dk.CSs.cons
    (Dk.CS.for_
      (Dk.Tg.nm 3)
      (Dk.CI.seq (Dk.CE.call "ordered_parts" (Dk.CEs.cons (Dk.CE.loc 0) (Dk.CEs.nil))))
      (Dk.CSs.cons
        (Dk.CS.ite
          (Dk.CE.and
            (Dk.CE.not
              (Dk.CE.bi
                "any"
                (Dk.CEs.cons
                  (Dk.CE.lco
                    (Dk.CE.bi
                      "all"
                      (Dk.CEs.cons
                        (Dk.CE.lc
                          (Dk.CE.cmp (Dk.Cop.in_) (Dk.CE.loc 5) (Dk.CE.loc 3))
                          (Dk.Tg.nm 5)
                          (Dk.CI.seq (Dk.CE.loc 4))
                          (Dk.CEs.nil))
                        (Dk.CEs.nil)))
                    (Dk.Tg.nm 4)
                    2
                    (Dk.CEs.nil))
                  (Dk.CEs.nil))))
            (Dk.CE.meth (Dk.CE.loc 1) "is_enough" (Dk.CEs.cons (Dk.CE.loc 3) (Dk.CEs.nil))))
          (Dk.CSs.cons (Dk.CS.app 2 (Dk.CE.loc 3)) (Dk.CSs.nil))
          (Dk.CSs.nil))
        (Dk.CSs.nil)))
    (Dk.CSs.cons (Dk.CS.ret (Dk.CE.bi "tuple" (Dk.CEs.cons (Dk.CE.loc 2) (Dk.CEs.nil)))) (Dk.CSs.nil)))⟩
def f_least_phase : Fn := ⟨["lamp", "told"], 7, [],
Dk.CSs.cons
  (Dk.CS.asg
    (Dk.CT.nm 2)
    (Dk.CE.lc
      (Dk.CE.loc 5)
      (Dk.Tg.tp [Dk.Tg.nm 5, Dk.Tg.nm 6])
      (Dk.CI.seq (Dk.CE.loc 1))
      (Dk.CEs.cons (Dk.CE.loc 6) (Dk.CEs.nil))))
  (Dk.CSs.cons
    (Dk.CS.ite
      (Dk.CE.cmp (Dk.Cop.ne) (Dk.CE.loc 2) (Dk.CE.lst (Dk.CEs.nil)))
      (Dk.CSs.cons
        (Dk.CS.ret
          (Dk.CE.bi
            "min"
            (Dk.CEs.cons
              (Dk.CE.lc
                (Dk.CE.loc 3)
                (Dk.Tg.nm 3)
                (Dk.CI.seq
                  (Dk.CE.call
                    "phases_lit"
                    (Dk.CEs.cons
                      (Dk.CE.loc 0)
                      (Dk.CEs.cons (Dk.CE.idx (Dk.CE.loc 2) (Dk.CE.k (Dk.D.int 0))) (Dk.CEs.nil)))))
                (Dk.CEs.cons
                  (Dk.CE.call
                    "keeps"
                    (Dk.CEs.cons (Dk.CE.loc 0) (Dk.CEs.cons (Dk.CE.loc 3) (Dk.CEs.cons (Dk.CE.loc 1) (Dk.CEs.nil)))))
                  (Dk.CEs.nil)))
              (Dk.CEs.nil))))
        (Dk.CSs.nil))
      (Dk.CSs.nil))
    (Dk.CSs.cons
      (Dk.CS.asg
        (Dk.CT.tp [Dk.CT.nm 4, Dk.CT.nm 3])
        (Dk.CE.tup
          (Dk.CEs.cons
            (Dk.CE.call "bars" (Dk.CEs.cons (Dk.CE.loc 0) (Dk.CEs.cons (Dk.CE.loc 1) (Dk.CEs.nil))))
            (Dk.CEs.cons (Dk.CE.k (Dk.D.int 0)) (Dk.CEs.nil)))))
      (Dk.CSs.cons
        (Dk.CS.wh
          (Dk.CE.cmp (Dk.Cop.in_) (Dk.CE.loc 3) (Dk.CE.loc 4))
          (Dk.CSs.cons
            (Dk.CS.asg (Dk.CT.nm 3) (Dk.CE.bin (Dk.Bop.add) (Dk.CE.loc 3) (Dk.CE.k (Dk.D.int 1))))
            (Dk.CSs.nil)))
        (Dk.CSs.cons (Dk.CS.ret (Dk.CE.loc 3)) (Dk.CSs.nil)))))⟩
def f_light_number : Fn := ⟨["lamps"], 2, [],
Dk.CSs.cons
  (Dk.CS.ret
    (Dk.CE.bi
      "sum"
      (Dk.CEs.cons
        (Dk.CE.lc
          (Dk.CE.bi "len" (Dk.CEs.cons (Dk.CE.attr (Dk.CE.loc 1) "on") (Dk.CEs.nil)))
          (Dk.Tg.nm 1)
          (Dk.CI.seq (Dk.CE.loc 0))
          (Dk.CEs.nil))
        (Dk.CEs.nil))))
  (Dk.CSs.nil)⟩
def f_lit_at : Fn := ⟨["night", "minute"], 2, [],
Dk.CSs.cons
  (Dk.CS.expr (Dk.CE.call "check_night" (Dk.CEs.cons (Dk.CE.loc 0) (Dk.CEs.nil))))
  (Dk.CSs.cons
    (Dk.CS.expr (Dk.CE.call "check_minute" (Dk.CEs.cons (Dk.CE.loc 1) (Dk.CEs.nil))))
    (Dk.CSs.cons
      (Dk.CS.ret
        (Dk.CE.bi
          "tuple"
          (Dk.CEs.cons
            (Dk.CE.call "all_lit" (Dk.CEs.cons (Dk.CE.loc 0) (Dk.CEs.cons (Dk.CE.loc 1) (Dk.CEs.nil))))
            (Dk.CEs.nil))))
      (Dk.CSs.nil)))⟩
def f_lit_by : Fn := ⟨["lamp", "phase", "minute"], 3, [],
Dk.CSs.cons
  (Dk.CS.ret
    (Dk.CE.cmp
      (Dk.Cop.in_)
      (Dk.CE.bin (Dk.Bop.mod) (Dk.CE.bin (Dk.Bop.add) (Dk.CE.loc 2) (Dk.CE.loc 1)) (Dk.CE.attr (Dk.CE.loc 0) "round"))
      (Dk.CE.attr (Dk.CE.loc 0) "on")))
  (Dk.CSs.nil)⟩
def f_lit_stretch : Fn := ⟨["night", "length"], 2, [],
Dk.CSs.cons
  (Dk.CS.expr (Dk.CE.call "check_night" (Dk.CEs.cons (Dk.CE.loc 0) (Dk.CEs.nil))))
  (Dk.CSs.cons
    (Dk.CS.expr (Dk.CE.call "check_length" (Dk.CEs.cons (Dk.CE.loc 1) (Dk.CEs.nil))))
    (Dk.CSs.cons
      (Dk.CS.ret (Dk.CE.call "stretch_from" (Dk.CEs.cons (Dk.CE.loc 0) (Dk.CEs.cons (Dk.CE.loc 1) (Dk.CEs.nil)))))
      (Dk.CSs.nil)))⟩
def f_longest_dark : Fn := ⟨["lamps"], 2, [],
Dk.CSs.cons
  (Dk.CS.expr
    (Dk.CE.call "check_lamps" (Dk.CEs.cons (Dk.CE.loc 0) (Dk.CEs.cons (Dk.CE.glob "MOST_FREE") (Dk.CEs.nil)))))
  (Dk.CSs.cons
    (Dk.CS.ret
      (Dk.CE.bi
        "min"
        (Dk.CEs.cons
          (Dk.CE.lc
            (Dk.CE.call "longest_gap" (Dk.CEs.cons (Dk.CE.loc 1) (Dk.CEs.nil)))
            (Dk.Tg.nm 1)
            (Dk.CI.seq (Dk.CE.loc 0))
            (Dk.CEs.nil))
          (Dk.CEs.nil))))
    (Dk.CSs.nil))⟩
def f_longest_gap : Fn := ⟨["lamp"], 4, [],
Dk.CSs.cons
  (Dk.CS.asg
    (Dk.CT.nm 1)
    (Dk.CE.lst
      (Dk.CEs.star
        (Dk.CE.sl (Dk.CE.attr (Dk.CE.loc 0) "on") (Dk.CE.k (Dk.D.int 1)) (Dk.CE.k (Dk.D.non)))
        (Dk.CEs.cons
          (Dk.CE.bin
            (Dk.Bop.add)
            (Dk.CE.idx (Dk.CE.attr (Dk.CE.loc 0) "on") (Dk.CE.k (Dk.D.int 0)))
            (Dk.CE.attr (Dk.CE.loc 0) "round"))
          (Dk.CEs.nil)))))
  (Dk.CSs.cons
    (Dk.CS.ret
      (Dk.CE.bi
        "max"
        (Dk.CEs.cons
          (Dk.CE.lc
            (Dk.CE.bin (Dk.Bop.sub) (Dk.CE.bin (Dk.Bop.sub) (Dk.CE.loc 3) (Dk.CE.loc 2)) (Dk.CE.k (Dk.D.int 1)))
            (Dk.Tg.tp [Dk.Tg.nm 2, Dk.Tg.nm 3])
            (Dk.CI.zip (Dk.CE.attr (Dk.CE.loc 0) "on") (Dk.CE.loc 1))
            (Dk.CEs.nil))
          (Dk.CEs.nil))))
    (Dk.CSs.nil))⟩
def f_longest_lit : Fn := ⟨["night"], 1, [],
Dk.CSs.cons
  (Dk.CS.expr (Dk.CE.call "check_night" (Dk.CEs.cons (Dk.CE.loc 0) (Dk.CEs.nil))))
  (Dk.CSs.cons
    (Dk.CS.ret
      (Dk.CE.call
        "longest_of"
        (Dk.CEs.cons (Dk.CE.attr (Dk.CE.loc 0) "row") (Dk.CEs.cons (Dk.CE.attr (Dk.CE.loc 0) "turned") (Dk.CEs.nil)))))
    (Dk.CSs.nil))⟩
def f_longest_of : Fn := ⟨["lamps", "phases"], 2, [],
Dk.CSs.cons
  (Dk.CS.ret
    (Dk.CE.call
      "greatest"
      (Dk.CEs.cons
        (Dk.CE.loc 0)
        (Dk.CEs.cons
          (Dk.CE.make "Turns" (Dk.CEs.cons (Dk.CE.loc 0) (Dk.CEs.cons (Dk.CE.loc 1) (Dk.CEs.nil))))
          (Dk.CEs.nil)))))
  (Dk.CSs.nil)⟩
def f_longest_wait : Fn := ⟨["lamps"], 1, [],
Dk.CSs.cons
  (Dk.CS.expr
    (Dk.CE.call "check_lamps" (Dk.CEs.cons (Dk.CE.loc 0) (Dk.CEs.cons (Dk.CE.glob "MOST_FREE") (Dk.CEs.nil)))))
  (Dk.CSs.cons
    (Dk.CS.ret (Dk.CE.call "greatest" (Dk.CEs.cons (Dk.CE.loc 0) (Dk.CEs.cons (Dk.CE.mk0 "Free") (Dk.CEs.nil)))))
    (Dk.CSs.nil))⟩
def f_lowest : Fn := ⟨["top", "bottom"], 3, [],
Dk.CSs.cons
  (Dk.CS.asg (Dk.CT.nm 2) (Dk.CE.call "gcd" (Dk.CEs.cons (Dk.CE.loc 0) (Dk.CEs.cons (Dk.CE.loc 1) (Dk.CEs.nil)))))
  (Dk.CSs.cons
    (Dk.CS.ret
      (Dk.CE.tup
        (Dk.CEs.cons
          (Dk.CE.bin (Dk.Bop.fdiv) (Dk.CE.loc 0) (Dk.CE.loc 2))
          (Dk.CEs.cons (Dk.CE.bin (Dk.Bop.fdiv) (Dk.CE.loc 1) (Dk.CE.loc 2)) (Dk.CEs.nil)))))
    (Dk.CSs.nil))⟩
def f_many_cases : Fn := ⟨["lamps", "notes"], 5, [],
Dk.CSs.cons
  (Dk.CS.asg (Dk.CT.nm 2) (Dk.CE.k (Dk.D.int 1)))
  (Dk.CSs.cons
    (Dk.CS.for_
      (Dk.Tg.tp [Dk.Tg.nm 3, Dk.Tg.nm 4])
      (Dk.CI.enum (Dk.CE.loc 0))
      (Dk.CSs.cons
        (Dk.CS.asg
          (Dk.CT.nm 2)
          (Dk.CE.bin
            (Dk.Bop.mul)
            (Dk.CE.loc 2)
            (Dk.CE.call
              "count_phases"
              (Dk.CEs.cons
                (Dk.CE.loc 4)
                (Dk.CEs.cons
                  (Dk.CE.call "own_notes" (Dk.CEs.cons (Dk.CE.loc 1) (Dk.CEs.cons (Dk.CE.loc 3) (Dk.CEs.nil))))
                  (Dk.CEs.nil))))))
        (Dk.CSs.nil)))
    (Dk.CSs.cons (Dk.CS.ret (Dk.CE.loc 2)) (Dk.CSs.nil)))⟩
def f_meeting : Fn := ⟨["lamp", "mate"], 6, [3],
Dk.CSs.cons
  (Dk.CS.par2
    2
    3
    (Dk.CE.call
      "gcd"
      (Dk.CEs.cons (Dk.CE.attr (Dk.CE.loc 0) "round") (Dk.CEs.cons (Dk.CE.attr (Dk.CE.loc 1) "round") (Dk.CEs.nil))))
    (Dk.CE.dct (Dk.CEs.nil) (Dk.CEs.nil)))
  (Dk.CSs.cons
    (Dk.CS.for_
      (Dk.Tg.nm 4)
      (Dk.CI.seq (Dk.CE.attr (Dk.CE.loc 0) "on"))
      (Dk.CSs.cons
        (Dk.CS.for_
          (Dk.Tg.nm 5)
          (Dk.CI.seq (Dk.CE.attr (Dk.CE.loc 1) "on"))
          (Dk.CSs.cons
            (Dk.CS.asg
              (Dk.CT.sub
                (Dk.CE.loc 3)
                (Dk.CE.bin (Dk.Bop.mod) (Dk.CE.bin (Dk.Bop.sub) (Dk.CE.loc 5) (Dk.CE.loc 4)) (Dk.CE.loc 2)))
              (Dk.CE.k (Dk.D.bl true)))
            (Dk.CSs.nil)))
        (Dk.CSs.nil)))
    (Dk.CSs.cons
      (Dk.CS.ret
        (Dk.CE.tup
          (Dk.CEs.cons
            (Dk.CE.loc 2)
            (Dk.CEs.cons (Dk.CE.bi "list" (Dk.CEs.cons (Dk.CE.loc 3) (Dk.CEs.nil))) (Dk.CEs.nil)))))
      (Dk.CSs.nil)))⟩
def f_met : Fn := ⟨["one", "other"], 8, [],
Dk.CSs.cons
  (Dk.CS.asg
    (Dk.CT.tp [Dk.CT.tp [Dk.CT.nm 2, Dk.CT.nm 3], Dk.CT.tp [Dk.CT.nm 4, Dk.CT.nm 5]])
    (Dk.CE.tup (Dk.CEs.cons (Dk.CE.loc 0) (Dk.CEs.cons (Dk.CE.loc 1) (Dk.CEs.nil)))))
  (Dk.CSs.cons
    (Dk.CS.asg (Dk.CT.nm 6) (Dk.CE.call "gcd" (Dk.CEs.cons (Dk.CE.loc 3) (Dk.CEs.cons (Dk.CE.loc 5) (Dk.CEs.nil)))))
    (Dk.CSs.cons
      (Dk.CS.ite
        (Dk.CE.cmp
          (Dk.Cop.ne)
          (Dk.CE.bin (Dk.Bop.mod) (Dk.CE.bin (Dk.Bop.sub) (Dk.CE.loc 4) (Dk.CE.loc 2)) (Dk.CE.loc 6))
          (Dk.CE.k (Dk.D.int 0)))
        (Dk.CSs.cons (Dk.CS.ret (Dk.CE.k (Dk.D.non))) (Dk.CSs.nil))
        (Dk.CSs.nil))
      (Dk.CSs.cons
        (Dk.CS.asg
          (Dk.CT.nm 7)
          (Dk.CE.bin
            (Dk.Bop.mod)
            (Dk.CE.bin
              (Dk.Bop.mul)
              (Dk.CE.bin (Dk.Bop.fdiv) (Dk.CE.bin (Dk.Bop.sub) (Dk.CE.loc 4) (Dk.CE.loc 2)) (Dk.CE.loc 6))
              (Dk.CE.call
                "inverse"
                (Dk.CEs.cons
                  (Dk.CE.bin (Dk.Bop.fdiv) (Dk.CE.loc 3) (Dk.CE.loc 6))
                  (Dk.CEs.cons (Dk.CE.bin (Dk.Bop.fdiv) (Dk.CE.loc 5) (Dk.CE.loc 6)) (Dk.CEs.nil)))))
            (Dk.CE.bin (Dk.Bop.fdiv) (Dk.CE.loc 5) (Dk.CE.loc 6))))
        (Dk.CSs.cons
          (Dk.CS.ret
            (Dk.CE.tup
              (Dk.CEs.cons
                (Dk.CE.bin
                  (Dk.Bop.mod)
                  (Dk.CE.bin (Dk.Bop.add) (Dk.CE.loc 2) (Dk.CE.bin (Dk.Bop.mul) (Dk.CE.loc 3) (Dk.CE.loc 7)))
                  (Dk.CE.bin (Dk.Bop.mul) (Dk.CE.bin (Dk.Bop.fdiv) (Dk.CE.loc 3) (Dk.CE.loc 6)) (Dk.CE.loc 5)))
                (Dk.CEs.cons
                  (Dk.CE.bin (Dk.Bop.mul) (Dk.CE.bin (Dk.Bop.fdiv) (Dk.CE.loc 3) (Dk.CE.loc 6)) (Dk.CE.loc 5))
                  (Dk.CEs.nil)))))
          (Dk.CSs.nil)))))⟩
def f_most_lit : Fn := ⟨["night"], 3, [],
Dk.CSs.cons
  (Dk.CS.expr (Dk.CE.call "check_night" (Dk.CEs.cons (Dk.CE.loc 0) (Dk.CEs.nil))))
  (Dk.CSs.cons
    (Dk.CS.ret
      (Dk.CE.bi
        "max"
        (Dk.CEs.cons
          (Dk.CE.lc
            (Dk.CE.loc 1)
            (Dk.Tg.tp [Dk.Tg.nm 1, Dk.Tg.nm 2])
            (Dk.CI.seq (Dk.CE.call "all_lots" (Dk.CEs.cons (Dk.CE.loc 0) (Dk.CEs.nil))))
            (Dk.CEs.nil))
          (Dk.CEs.nil))))
    (Dk.CSs.nil))⟩
def f_nth_dark : Fn := ⟨["night", "minute", "number"], 8, [],
Dk.CSs.cons
  (Dk.CS.expr (Dk.CE.call "check_night" (Dk.CEs.cons (Dk.CE.loc 0) (Dk.CEs.nil))))
  (Dk.CSs.cons
    (Dk.CS.expr (Dk.CE.call "check_minute" (Dk.CEs.cons (Dk.CE.loc 1) (Dk.CEs.nil))))
    (Dk.CSs.cons
      (Dk.CS.expr (Dk.CE.call "check_minute" (Dk.CEs.cons (Dk.CE.loc 2) (Dk.CEs.nil))))
      (Dk.CSs.cons
        (Dk.CS.ite
          (Dk.CE.cmp
            (Dk.Cop.is)
            (Dk.CE.call "dark_from" (Dk.CEs.cons (Dk.CE.loc 0) (Dk.CEs.cons (Dk.CE.loc 1) (Dk.CEs.nil))))
            (Dk.CE.k (Dk.D.non)))
          (Dk.CSs.cons (Dk.CS.ret (Dk.CE.k (Dk.D.non))) (Dk.CSs.nil))
          (Dk.CSs.nil))
        (Dk.CSs.cons
          (Dk.CS.asg (Dk.CT.nm 3) (Dk.CE.call "all_lots" (Dk.CEs.cons (Dk.CE.loc 0) (Dk.CEs.nil))))
          (Dk.CSs.cons
            (Dk.CS.asg
              (Dk.CT.nm 4)
              (Dk.CE.bin
                (Dk.Bop.add)
                (Dk.CE.bin
                  (Dk.Bop.add)
                  (Dk.CE.call "dark_below" (Dk.CEs.cons (Dk.CE.loc 3) (Dk.CEs.cons (Dk.CE.loc 1) (Dk.CEs.nil))))
                  (Dk.CE.loc 2))
                (Dk.CE.k (Dk.D.int 1))))
            (Dk.CSs.cons
              (Dk.CS.asg
                (Dk.CT.tp [Dk.CT.nm 5, Dk.CT.nm 6])
                (Dk.CE.tup
                  (Dk.CEs.cons
                    (Dk.CE.loc 1)
                    (Dk.CEs.cons
                      (Dk.CE.bin
                        (Dk.Bop.add)
                        (Dk.CE.loc 1)
                        (Dk.CE.bin
                          (Dk.Bop.mul)
                          (Dk.CE.bin (Dk.Bop.add) (Dk.CE.loc 2) (Dk.CE.k (Dk.D.int 1)))
                          (Dk.CE.call "bound_of" (Dk.CEs.cons (Dk.CE.attr (Dk.CE.loc 0) "row") (Dk.CEs.nil)))))
                      (Dk.CEs.nil)))))
              (Dk.CSs.cons
                (Dk.CS.wh
                  (Dk.CE.cmp (Dk.Cop.lt) (Dk.CE.loc 5) (Dk.CE.loc 6))
                  (Dk.CSs.cons
                    (Dk.CS.asg
                      (Dk.CT.nm 7)
                      (Dk.CE.bin
                        (Dk.Bop.fdiv)
                        (Dk.CE.bin (Dk.Bop.add) (Dk.CE.loc 5) (Dk.CE.loc 6))
                        (Dk.CE.k (Dk.D.int 2))))
                    (Dk.CSs.cons
                      (Dk.CS.ite
                        (Dk.CE.cmp
                          (Dk.Cop.ge)
                          (Dk.CE.call
                            "dark_below"
                            (Dk.CEs.cons
                              (Dk.CE.loc 3)
                              (Dk.CEs.cons (Dk.CE.bin (Dk.Bop.add) (Dk.CE.loc 7) (Dk.CE.k (Dk.D.int 1))) (Dk.CEs.nil))))
                          (Dk.CE.loc 4))
                        (Dk.CSs.cons (Dk.CS.asg (Dk.CT.nm 6) (Dk.CE.loc 7)) (Dk.CSs.nil))
                        (Dk.CSs.cons
                          (Dk.CS.asg (Dk.CT.nm 5) (Dk.CE.bin (Dk.Bop.add) (Dk.CE.loc 7) (Dk.CE.k (Dk.D.int 1))))
                          (Dk.CSs.nil)))
                      (Dk.CSs.nil))))
                (Dk.CSs.cons (Dk.CS.ret (Dk.CE.loc 5)) (Dk.CSs.nil)))))))))⟩
def f_ordered_parts : Fn := ⟨["many"], 6, [1],
Dk.CSs.cons
  (Dk.CS.par2
    1
    2
    (Dk.CE.lst (Dk.CEs.cons (Dk.CE.tup (Dk.CEs.nil)) (Dk.CEs.nil)))
    (Dk.CE.lst (Dk.CEs.cons (Dk.CE.tup (Dk.CEs.nil)) (Dk.CEs.nil))))
  (Dk.CSs.cons
    (Dk.CS.for_
      (Dk.Tg.nm 3)
      (Dk.CI.rng (Dk.CE.loc 0))
      (Dk.CSs.cons
        (Dk.CS.asg
          (Dk.CT.nm 2)
          (Dk.CE.lc2
            (Dk.CE.tup (Dk.CEs.star (Dk.CE.loc 4) (Dk.CEs.cons (Dk.CE.loc 5) (Dk.CEs.nil))))
            (Dk.Tg.nm 4)
            (Dk.CI.seq (Dk.CE.loc 2))
            (Dk.CEs.nil)
            (Dk.Tg.nm 5)
            (Dk.CI.rng (Dk.CE.loc 0))
            (Dk.CEs.cons
              (Dk.CE.or
                (Dk.CE.cmp (Dk.Cop.eq) (Dk.CE.loc 4) (Dk.CE.tup (Dk.CEs.nil)))
                (Dk.CE.cmp (Dk.Cop.gt) (Dk.CE.loc 5) (Dk.CE.idx (Dk.CE.loc 4) (Dk.CE.neg (Dk.CE.k (Dk.D.int 1))))))
              (Dk.CEs.nil))))
        (Dk.CSs.cons (Dk.CS.ext 1 (Dk.CE.loc 2)) (Dk.CSs.nil))))
    (Dk.CSs.cons (Dk.CS.ret (Dk.CE.loc 1)) (Dk.CSs.nil)))⟩
def f_own_notes : Fn := ⟨["notes", "index"], 5, [],
Dk.CSs.cons
  (Dk.CS.ret
    (Dk.CE.lc
      (Dk.CE.tup (Dk.CEs.cons (Dk.CE.loc 3) (Dk.CEs.cons (Dk.CE.loc 4) (Dk.CEs.nil))))
      (Dk.Tg.tp [Dk.Tg.nm 2, Dk.Tg.nm 3, Dk.Tg.nm 4])
      (Dk.CI.seq (Dk.CE.loc 0))
      (Dk.CEs.cons (Dk.CE.cmp (Dk.Cop.eq) (Dk.CE.loc 2) (Dk.CE.loc 1)) (Dk.CEs.nil))))
  (Dk.CSs.nil)⟩
def f_phases_lit : Fn := ⟨["lamp", "minute"], 3, [],
Dk.CSs.cons
  (Dk.CS.ret
    (Dk.CE.lc
      (Dk.CE.bin (Dk.Bop.mod) (Dk.CE.bin (Dk.Bop.sub) (Dk.CE.loc 2) (Dk.CE.loc 1)) (Dk.CE.attr (Dk.CE.loc 0) "round"))
      (Dk.Tg.nm 2)
      (Dk.CI.seq (Dk.CE.attr (Dk.CE.loc 0) "on"))
      (Dk.CEs.nil)))
  (Dk.CSs.nil)⟩
def f_picture_from : Fn := ⟨["night", "minute", "indexes"], 7, [],
Dk.CSs.cons
  (Dk.CS.asg
    (Dk.CT.nm 3)
    (Dk.CE.lc
      (Dk.CE.call
        "first_along"
        (Dk.CEs.cons
          (Dk.CE.loc 0)
          (Dk.CEs.cons (Dk.CE.loc 5) (Dk.CEs.cons (Dk.CE.loc 1) (Dk.CEs.cons (Dk.CE.loc 2) (Dk.CEs.nil))))))
      (Dk.Tg.nm 5)
      (Dk.CI.seq (Dk.CE.call "rows_together" (Dk.CEs.cons (Dk.CE.loc 0) (Dk.CEs.cons (Dk.CE.loc 2) (Dk.CEs.nil)))))
      (Dk.CEs.nil)))
  (Dk.CSs.cons
    (Dk.CS.asg
      (Dk.CT.nm 4)
      (Dk.CE.lc
        (Dk.CE.loc 6)
        (Dk.Tg.nm 6)
        (Dk.CI.seq (Dk.CE.loc 3))
        (Dk.CEs.cons (Dk.CE.cmp (Dk.Cop.isnot) (Dk.CE.loc 6) (Dk.CE.k (Dk.D.non))) (Dk.CEs.nil))))
    (Dk.CSs.cons
      (Dk.CS.ret
        (Dk.CE.ife
          (Dk.CE.cmp (Dk.Cop.ne) (Dk.CE.loc 4) (Dk.CE.lst (Dk.CEs.nil)))
          (Dk.CE.bi "min" (Dk.CEs.cons (Dk.CE.loc 4) (Dk.CEs.nil)))
          (Dk.CE.k (Dk.D.non))))
      (Dk.CSs.nil)))⟩
def f_pictures : Fn := ⟨["night"], 1, [],
Dk.CSs.cons
  (Dk.CS.expr (Dk.CE.call "check_night" (Dk.CEs.cons (Dk.CE.loc 0) (Dk.CEs.nil))))
  (Dk.CSs.cons
    (Dk.CS.ret
      (Dk.CE.bi
        "tuple"
        (Dk.CEs.cons (Dk.CE.call "all_pictures" (Dk.CEs.cons (Dk.CE.loc 0) (Dk.CEs.nil))) (Dk.CEs.nil))))
    (Dk.CSs.nil))⟩
def f_put_out : Fn := ⟨["night", "most"], 2, [],
Dk.CSs.cons
  (Dk.CS.expr (Dk.CE.call "check_night" (Dk.CEs.cons (Dk.CE.loc 0) (Dk.CEs.nil))))
  (Dk.CSs.cons
    (Dk.CS.expr (Dk.CE.call "check_length" (Dk.CEs.cons (Dk.CE.loc 1) (Dk.CEs.nil))))
    (Dk.CSs.cons
      (Dk.CS.ret
        (Dk.CE.call
          "least_parts"
          (Dk.CEs.cons
            (Dk.CE.bi "len" (Dk.CEs.cons (Dk.CE.attr (Dk.CE.loc 0) "row") (Dk.CEs.nil)))
            (Dk.CEs.cons
              (Dk.CE.make "Rest" (Dk.CEs.cons (Dk.CE.loc 0) (Dk.CEs.cons (Dk.CE.loc 1) (Dk.CEs.nil))))
              (Dk.CEs.nil)))))
      (Dk.CSs.nil)))⟩
def f_rows_together : Fn := ⟨["night", "indexes"], 9, [],
Dk.CSs.cons
  (Dk.CS.asg
    (Dk.CT.nm 2)
    (Dk.CE.lst
      (Dk.CEs.cons
        (Dk.CE.tup (Dk.CEs.cons (Dk.CE.k (Dk.D.int 0)) (Dk.CEs.cons (Dk.CE.k (Dk.D.int 1)) (Dk.CEs.nil))))
        (Dk.CEs.nil))))
  (Dk.CSs.cons
    (Dk.CS.for_
      (Dk.Tg.nm 3)
      (Dk.CI.seq (Dk.CE.loc 1))
      (Dk.CSs.cons
        (Dk.CS.asg
          (Dk.CT.tp [Dk.CT.nm 4, Dk.CT.nm 5])
          (Dk.CE.tup
            (Dk.CEs.cons
              (Dk.CE.attr (Dk.CE.idx (Dk.CE.attr (Dk.CE.loc 0) "row") (Dk.CE.loc 3)) "round")
              (Dk.CEs.cons (Dk.CE.idx (Dk.CE.attr (Dk.CE.loc 0) "turned") (Dk.CE.loc 3)) (Dk.CEs.nil)))))
        (Dk.CSs.cons
          (Dk.CS.asg
            (Dk.CT.nm 6)
            (Dk.CE.lc2
              (Dk.CE.call
                "met"
                (Dk.CEs.cons
                  (Dk.CE.loc 7)
                  (Dk.CEs.cons
                    (Dk.CE.tup
                      (Dk.CEs.cons
                        (Dk.CE.bin (Dk.Bop.mod) (Dk.CE.bin (Dk.Bop.sub) (Dk.CE.loc 8) (Dk.CE.loc 5)) (Dk.CE.loc 4))
                        (Dk.CEs.cons (Dk.CE.loc 4) (Dk.CEs.nil))))
                    (Dk.CEs.nil))))
              (Dk.Tg.nm 7)
              (Dk.CI.seq (Dk.CE.loc 2))
              (Dk.CEs.nil)
              (Dk.Tg.nm 8)
              (Dk.CI.seq (Dk.CE.attr (Dk.CE.idx (Dk.CE.attr (Dk.CE.loc 0) "row") (Dk.CE.loc 3)) "on"))
              (Dk.CEs.nil)))
          (Dk.CSs.cons
            (Dk.CS.asg
              (Dk.CT.nm 2)
              (Dk.CE.lc
                (Dk.CE.loc 7)
                (Dk.Tg.nm 7)
                (Dk.CI.seq (Dk.CE.loc 6))
                (Dk.CEs.cons (Dk.CE.cmp (Dk.Cop.isnot) (Dk.CE.loc 7) (Dk.CE.k (Dk.D.non))) (Dk.CEs.nil))))
            (Dk.CSs.nil)))))
    (Dk.CSs.cons (Dk.CS.ret (Dk.CE.loc 2)) (Dk.CSs.nil)))⟩
def f_shares : Fn := ⟨["night"], 11, [7],
Dk.CSs.cons
  (Dk.CS.expr (Dk.CE.call "check_night" (Dk.CEs.cons (Dk.CE.loc 0) (Dk.CEs.nil))))
  (Dk.CSs.cons
    (Dk.CS.asg
      (Dk.CT.tp [Dk.CT.nm 1, Dk.CT.nm 2, Dk.CT.nm 3])
      (Dk.CE.tup
        (Dk.CEs.cons
          (Dk.CE.call "all_lots" (Dk.CEs.cons (Dk.CE.loc 0) (Dk.CEs.nil)))
          (Dk.CEs.cons
            (Dk.CE.k (Dk.D.int 1))
            (Dk.CEs.cons (Dk.CE.bi "len" (Dk.CEs.cons (Dk.CE.attr (Dk.CE.loc 0) "row") (Dk.CEs.nil))) (Dk.CEs.nil))))))
    (Dk.CSs.cons
      (Dk.CS.for_
        (Dk.Tg.nm 4)
        (Dk.CI.seq (Dk.CE.attr (Dk.CE.loc 0) "row"))
        (Dk.CSs.cons
          (Dk.CS.asg
            (Dk.CT.nm 2)
            (Dk.CE.bin
              (Dk.Bop.mul)
              (Dk.CE.bin
                (Dk.Bop.fdiv)
                (Dk.CE.loc 2)
                (Dk.CE.call
                  "gcd"
                  (Dk.CEs.cons (Dk.CE.loc 2) (Dk.CEs.cons (Dk.CE.attr (Dk.CE.loc 4) "round") (Dk.CEs.nil)))))
              (Dk.CE.attr (Dk.CE.loc 4) "round")))
          (Dk.CSs.nil)))
      (Dk.CSs.cons
        (Dk.CS.asg
          (Dk.CT.nm 6)
          (Dk.CE.lc
            (Dk.CE.bi
              "sum"
              (Dk.CEs.cons
                (Dk.CE.lc
                  (Dk.CE.bin (Dk.Bop.fdiv) (Dk.CE.loc 2) (Dk.CE.idx (Dk.CE.loc 10) (Dk.CE.k (Dk.D.int 1))))
                  (Dk.Tg.tp [Dk.Tg.nm 9, Dk.Tg.nm 10])
                  (Dk.CI.seq (Dk.CE.loc 1))
                  (Dk.CEs.cons (Dk.CE.cmp (Dk.Cop.eq) (Dk.CE.loc 9) (Dk.CE.loc 5)) (Dk.CEs.nil)))
                (Dk.CEs.nil)))
            (Dk.Tg.nm 5)
            (Dk.CI.rng (Dk.CE.bin (Dk.Bop.add) (Dk.CE.loc 3) (Dk.CE.k (Dk.D.int 1))))
            (Dk.CEs.nil)))
        (Dk.CSs.cons
          (Dk.CS.asg (Dk.CT.nm 7) (Dk.CE.lst (Dk.CEs.nil)))
          (Dk.CSs.cons
            (Dk.CS.for_
              (Dk.Tg.nm 5)
              (Dk.CI.rng (Dk.CE.bin (Dk.Bop.add) (Dk.CE.loc 3) (Dk.CE.k (Dk.D.int 1))))
              (Dk.CSs.cons
                (Dk.CS.asg
                  (Dk.CT.nm 8)
                  (Dk.CE.lc
                    (Dk.CE.bin
                      (Dk.Bop.mul)
                      (Dk.CE.call "choose" (Dk.CEs.cons (Dk.CE.loc 9) (Dk.CEs.cons (Dk.CE.loc 5) (Dk.CEs.nil))))
                      (Dk.CE.idx (Dk.CE.loc 6) (Dk.CE.loc 9)))
                    (Dk.Tg.nm 9)
                    (Dk.CI.rng2 (Dk.CE.loc 5) (Dk.CE.bin (Dk.Bop.add) (Dk.CE.loc 3) (Dk.CE.k (Dk.D.int 1))))
                    (Dk.CEs.nil)))
                (Dk.CSs.cons
                  (Dk.CS.app
                    7
                    (Dk.CE.call
                      "lowest"
                      (Dk.CEs.cons
                        (Dk.CE.bin
                          (Dk.Bop.sub)
                          (Dk.CE.bi "sum" (Dk.CEs.cons (Dk.CE.sls (Dk.CE.loc 8) 0 2) (Dk.CEs.nil)))
                          (Dk.CE.bi "sum" (Dk.CEs.cons (Dk.CE.sls (Dk.CE.loc 8) 1 2) (Dk.CEs.nil))))
                        (Dk.CEs.cons (Dk.CE.loc 2) (Dk.CEs.nil)))))
                  (Dk.CSs.nil))))
            (Dk.CSs.cons (Dk.CS.ret (Dk.CE.bi "tuple" (Dk.CEs.cons (Dk.CE.loc 7) (Dk.CEs.nil)))) (Dk.CSs.nil)))))))⟩
def f_step_rows : Fn := ⟨["night"], 5, [1],
Dk.CSs.cons
  (Dk.CS.asg (Dk.CT.nm 1) (Dk.CE.lst (Dk.CEs.nil)))
  (Dk.CSs.cons
    (Dk.CS.for_
      (Dk.Tg.tp [Dk.Tg.nm 2, Dk.Tg.nm 3])
      (Dk.CI.zip (Dk.CE.attr (Dk.CE.loc 0) "row") (Dk.CE.attr (Dk.CE.loc 0) "turned"))
      (Dk.CSs.cons
        (Dk.CS.ext
          1
          (Dk.CE.lc
            (Dk.CE.tup
              (Dk.CEs.cons
                (Dk.CE.bin
                  (Dk.Bop.mod)
                  (Dk.CE.bin (Dk.Bop.sub) (Dk.CE.loc 4) (Dk.CE.loc 3))
                  (Dk.CE.attr (Dk.CE.loc 2) "round"))
                (Dk.CEs.cons (Dk.CE.attr (Dk.CE.loc 2) "round") (Dk.CEs.nil))))
            (Dk.Tg.nm 4)
            (Dk.CI.seq (Dk.CE.attr (Dk.CE.loc 2) "on"))
            (Dk.CEs.nil)))
        (Dk.CSs.nil)))
    (Dk.CSs.cons (Dk.CS.ret (Dk.CE.loc 1)) (Dk.CSs.nil)))⟩
def f_stretch_from : Fn := ⟨["night", "length"], 8, [],
Dk.CSs.cons
  (Dk.CS.asg
    (Dk.CT.tp [Dk.CT.nm 2, Dk.CT.nm 3])
    (Dk.CE.call
      "grown"
      (Dk.CEs.cons
        (Dk.CE.attr (Dk.CE.loc 0) "row")
        (Dk.CEs.cons
          (Dk.CE.make
            "Turns"
            (Dk.CEs.cons
              (Dk.CE.attr (Dk.CE.loc 0) "row")
              (Dk.CEs.cons (Dk.CE.attr (Dk.CE.loc 0) "turned") (Dk.CEs.nil))))
          (Dk.CEs.cons (Dk.CE.loc 1) (Dk.CEs.nil))))))
  (Dk.CSs.cons
    (Dk.CS.ite
      (Dk.CE.cmp
        (Dk.Cop.lt)
        (Dk.CE.loc 2)
        (Dk.CE.bi
          "min"
          (Dk.CEs.cons
            (Dk.CE.loc 1)
            (Dk.CEs.cons
              (Dk.CE.call "bound_of" (Dk.CEs.cons (Dk.CE.attr (Dk.CE.loc 0) "row") (Dk.CEs.nil)))
              (Dk.CEs.nil)))))
      (Dk.CSs.cons (Dk.CS.ret (Dk.CE.k (Dk.D.non))) (Dk.CSs.nil))
      (Dk.CSs.nil))
    (Dk.CSs.cons
      (Dk.CS.asg
        (Dk.CT.nm 4)
        (Dk.CE.tup (Dk.CEs.cons (Dk.CE.k (Dk.D.int 0)) (Dk.CEs.cons (Dk.CE.k (Dk.D.int 1)) (Dk.CEs.nil)))))
      (Dk.CSs.cons
        (Dk.CS.for_
          (Dk.Tg.tp [Dk.Tg.nm 5, Dk.Tg.nm 6])
          (Dk.CI.items (Dk.CE.loc 3))
          (Dk.CSs.cons
            (Dk.CS.asg (Dk.CT.nm 7) (Dk.CE.attr (Dk.CE.idx (Dk.CE.attr (Dk.CE.loc 0) "row") (Dk.CE.loc 5)) "round"))
            (Dk.CSs.cons
              (Dk.CS.asg
                (Dk.CT.nm 4)
                (Dk.CE.call
                  "met"
                  (Dk.CEs.cons
                    (Dk.CE.loc 4)
                    (Dk.CEs.cons
                      (Dk.CE.tup
                        (Dk.CEs.cons
                          (Dk.CE.bin
                            (Dk.Bop.mod)
                            (Dk.CE.bin
                              (Dk.Bop.sub)
                              (Dk.CE.loc 6)
                              (Dk.CE.idx (Dk.CE.attr (Dk.CE.loc 0) "turned") (Dk.CE.loc 5)))
                            (Dk.CE.loc 7))
                          (Dk.CEs.cons (Dk.CE.loc 7) (Dk.CEs.nil))))
                      (Dk.CEs.nil)))))
              (Dk.CSs.nil))))
        (Dk.CSs.cons (Dk.CS.ret (Dk.CE.idx (Dk.CE.loc 4) (Dk.CE.k (Dk.D.int 0)))) (Dk.CSs.nil)))))⟩
def f_struck : Fn := ⟨["lamps", "most"], 2, [],
Dk.CSs.cons
  (Dk.CS.expr
    (Dk.CE.call "check_lamps" (Dk.CEs.cons (Dk.CE.loc 0) (Dk.CEs.cons (Dk.CE.glob "MOST_FREE") (Dk.CEs.nil)))))
  (Dk.CSs.cons
    (Dk.CS.expr (Dk.CE.call "check_length" (Dk.CEs.cons (Dk.CE.loc 1) (Dk.CEs.nil))))
    (Dk.CSs.cons
      (Dk.CS.ret
        (Dk.CE.call
          "least_parts"
          (Dk.CEs.cons
            (Dk.CE.bi "len" (Dk.CEs.cons (Dk.CE.loc 0) (Dk.CEs.nil)))
            (Dk.CEs.cons
              (Dk.CE.make "Left" (Dk.CEs.cons (Dk.CE.loc 0) (Dk.CEs.cons (Dk.CE.loc 1) (Dk.CEs.nil))))
              (Dk.CEs.nil)))))
      (Dk.CSs.nil)))⟩
def f_sure_lamp : Fn := ⟨["lamps", "notes", "index", "minute"], 4, [],
Dk.CSs.cons
  (Dk.CS.expr (Dk.CE.call "check_notes" (Dk.CEs.cons (Dk.CE.loc 0) (Dk.CEs.cons (Dk.CE.loc 1) (Dk.CEs.nil)))))
  (Dk.CSs.cons
    (Dk.CS.ite
      (Dk.CE.not
        (Dk.CE.call
          "is_between"
          (Dk.CEs.cons
            (Dk.CE.loc 2)
            (Dk.CEs.cons
              (Dk.CE.k (Dk.D.int 0))
              (Dk.CEs.cons
                (Dk.CE.bin
                  (Dk.Bop.sub)
                  (Dk.CE.bi "len" (Dk.CEs.cons (Dk.CE.loc 0) (Dk.CEs.nil)))
                  (Dk.CE.k (Dk.D.int 1)))
                (Dk.CEs.nil))))))
      (Dk.CSs.cons (Dk.CS.raise (Dk.CE.k (Dk.D.non))) (Dk.CSs.nil))
      (Dk.CSs.nil))
    (Dk.CSs.cons
      (Dk.CS.expr (Dk.CE.call "check_minute" (Dk.CEs.cons (Dk.CE.loc 3) (Dk.CEs.nil))))
      (Dk.CSs.cons
        (Dk.CS.expr (Dk.CE.call "check_case" (Dk.CEs.cons (Dk.CE.loc 0) (Dk.CEs.cons (Dk.CE.loc 1) (Dk.CEs.nil)))))
        (Dk.CSs.cons
          (Dk.CS.ite
            (Dk.CE.not
              (Dk.CE.call
                "can_be"
                (Dk.CEs.cons
                  (Dk.CE.loc 0)
                  (Dk.CEs.cons
                    (Dk.CE.loc 1)
                    (Dk.CEs.cons
                      (Dk.CE.loc 2)
                      (Dk.CEs.cons (Dk.CE.loc 3) (Dk.CEs.cons (Dk.CE.k (Dk.D.bl false)) (Dk.CEs.nil))))))))
            (Dk.CSs.cons (Dk.CS.ret (Dk.CE.k (Dk.D.bl true))) (Dk.CSs.nil))
            (Dk.CSs.nil))
          (Dk.CSs.cons
            (Dk.CS.ret
              (Dk.CE.ife
                (Dk.CE.call
                  "can_be"
                  (Dk.CEs.cons
                    (Dk.CE.loc 0)
                    (Dk.CEs.cons
                      (Dk.CE.loc 1)
                      (Dk.CEs.cons
                        (Dk.CE.loc 2)
                        (Dk.CEs.cons (Dk.CE.loc 3) (Dk.CEs.cons (Dk.CE.k (Dk.D.bl true)) (Dk.CEs.nil)))))))
                (Dk.CE.k (Dk.D.non))
                (Dk.CE.k (Dk.D.bl false))))
            (Dk.CSs.nil))))))⟩
def f_surely_dark : Fn := ⟨["lamps", "notes", "minute"], 4, [],
Dk.CSs.cons
  (Dk.CS.expr (Dk.CE.call "check_notes" (Dk.CEs.cons (Dk.CE.loc 0) (Dk.CEs.cons (Dk.CE.loc 1) (Dk.CEs.nil)))))
  (Dk.CSs.cons
    (Dk.CS.expr (Dk.CE.call "check_minute" (Dk.CEs.cons (Dk.CE.loc 2) (Dk.CEs.nil))))
    (Dk.CSs.cons
      (Dk.CS.expr (Dk.CE.call "check_case" (Dk.CEs.cons (Dk.CE.loc 0) (Dk.CEs.cons (Dk.CE.loc 1) (Dk.CEs.nil)))))
      (Dk.CSs.cons
        (Dk.CS.ret
          (Dk.CE.not
            (Dk.CE.bi
              "any"
              (Dk.CEs.cons
                (Dk.CE.lc
                  (Dk.CE.call
                    "can_be"
                    (Dk.CEs.cons
                      (Dk.CE.loc 0)
                      (Dk.CEs.cons
                        (Dk.CE.loc 1)
                        (Dk.CEs.cons
                          (Dk.CE.loc 3)
                          (Dk.CEs.cons (Dk.CE.loc 2) (Dk.CEs.cons (Dk.CE.k (Dk.D.bl true)) (Dk.CEs.nil)))))))
                  (Dk.Tg.nm 3)
                  (Dk.CI.rng (Dk.CE.bi "len" (Dk.CEs.cons (Dk.CE.loc 0) (Dk.CEs.nil))))
                  (Dk.CEs.nil))
                (Dk.CEs.nil)))))
        (Dk.CSs.nil))))⟩
def f_surely_lit : Fn := ⟨["lamps", "notes", "minute"], 4, [],
Dk.CSs.cons
  (Dk.CS.expr (Dk.CE.call "check_notes" (Dk.CEs.cons (Dk.CE.loc 0) (Dk.CEs.cons (Dk.CE.loc 1) (Dk.CEs.nil)))))
  (Dk.CSs.cons
    (Dk.CS.expr (Dk.CE.call "check_minute" (Dk.CEs.cons (Dk.CE.loc 2) (Dk.CEs.nil))))
    (Dk.CSs.cons
      (Dk.CS.expr (Dk.CE.call "check_case" (Dk.CEs.cons (Dk.CE.loc 0) (Dk.CEs.cons (Dk.CE.loc 1) (Dk.CEs.nil)))))
      (Dk.CSs.cons
        (Dk.CS.ret
          (Dk.CE.not
            (Dk.CE.bi
              "all"
              (Dk.CEs.cons
                (Dk.CE.lc
                  (Dk.CE.call
                    "can_be"
                    (Dk.CEs.cons
                      (Dk.CE.loc 0)
                      (Dk.CEs.cons
                        (Dk.CE.loc 1)
                        (Dk.CEs.cons
                          (Dk.CE.loc 3)
                          (Dk.CEs.cons (Dk.CE.loc 2) (Dk.CEs.cons (Dk.CE.k (Dk.D.bl false)) (Dk.CEs.nil)))))))
                  (Dk.Tg.nm 3)
                  (Dk.CI.rng (Dk.CE.bi "len" (Dk.CEs.cons (Dk.CE.loc 0) (Dk.CEs.nil))))
                  (Dk.CEs.nil))
                (Dk.CEs.nil)))))
        (Dk.CSs.nil))))⟩
def f_unlike_from : Fn := ⟨["one", "other"], 4, [],
Dk.CSs.cons
  (Dk.CS.asg
    (Dk.CT.nm 2)
    (Dk.CE.lc
      (Dk.CE.loc 3)
      (Dk.Tg.nm 3)
      (Dk.CI.seq
        (Dk.CE.tup
          (Dk.CEs.cons
            (Dk.CE.call "first_lacking" (Dk.CEs.cons (Dk.CE.loc 0) (Dk.CEs.cons (Dk.CE.loc 1) (Dk.CEs.nil))))
            (Dk.CEs.cons
              (Dk.CE.call "first_lacking" (Dk.CEs.cons (Dk.CE.loc 1) (Dk.CEs.cons (Dk.CE.loc 0) (Dk.CEs.nil))))
              (Dk.CEs.nil)))))
      (Dk.CEs.cons (Dk.CE.cmp (Dk.Cop.isnot) (Dk.CE.loc 3) (Dk.CE.k (Dk.D.non))) (Dk.CEs.nil))))
  (Dk.CSs.cons
    (Dk.CS.ret
      (Dk.CE.ife
        (Dk.CE.cmp (Dk.Cop.ne) (Dk.CE.loc 2) (Dk.CE.lst (Dk.CEs.nil)))
        (Dk.CE.bi "min" (Dk.CEs.cons (Dk.CE.loc 2) (Dk.CEs.nil)))
        (Dk.CE.k (Dk.D.non))))
    (Dk.CSs.nil))⟩
def f_wait_from : Fn := ⟨["lamps", "notes", "minute"], 3, [],
Dk.CSs.cons
  (Dk.CS.expr (Dk.CE.call "check_notes" (Dk.CEs.cons (Dk.CE.loc 0) (Dk.CEs.cons (Dk.CE.loc 1) (Dk.CEs.nil)))))
  (Dk.CSs.cons
    (Dk.CS.expr (Dk.CE.call "check_minute" (Dk.CEs.cons (Dk.CE.loc 2) (Dk.CEs.nil))))
    (Dk.CSs.cons
      (Dk.CS.expr (Dk.CE.call "check_case" (Dk.CEs.cons (Dk.CE.loc 0) (Dk.CEs.cons (Dk.CE.loc 1) (Dk.CEs.nil)))))
      (Dk.CSs.cons
        (Dk.CS.ret
          (Dk.CE.call
            "greatest"
            (Dk.CEs.cons
              (Dk.CE.loc 0)
              (Dk.CEs.cons
                (Dk.CE.make
                  "Told"
                  (Dk.CEs.cons (Dk.CE.loc 0) (Dk.CEs.cons (Dk.CE.loc 1) (Dk.CEs.cons (Dk.CE.loc 2) (Dk.CEs.nil)))))
                (Dk.CEs.nil)))))
        (Dk.CSs.nil))))⟩
def f_within : Fn := ⟨["one", "other"], 2, [],
Dk.CSs.cons
  (Dk.CS.expr (Dk.CE.call "check_both" (Dk.CEs.cons (Dk.CE.loc 0) (Dk.CEs.cons (Dk.CE.loc 1) (Dk.CEs.nil)))))
  (Dk.CSs.cons
    (Dk.CS.ret
      (Dk.CE.cmp
        (Dk.Cop.is)
        (Dk.CE.call "first_lacking" (Dk.CEs.cons (Dk.CE.loc 0) (Dk.CEs.cons (Dk.CE.loc 1) (Dk.CEs.nil))))
        (Dk.CE.k (Dk.D.non))))
    (Dk.CSs.nil))⟩
def f_wrong_light : Fn := ⟨["period", "lights"], 4, [],
Dk.CSs.cons
  (Dk.CS.ite
    (Dk.CE.or
      (Dk.CE.not (Dk.CE.isi (Dk.CE.loc 1) "tuple" false))
      (Dk.CE.cmp (Dk.Cop.eq) (Dk.CE.loc 1) (Dk.CE.tup (Dk.CEs.nil))))
    (Dk.CSs.cons (Dk.CS.ret (Dk.CE.lst (Dk.CEs.cons (Dk.CE.k (Dk.D.non)) (Dk.CEs.nil)))) (Dk.CSs.nil))
    (Dk.CSs.nil))
  (Dk.CSs.cons
    (Dk.CS.for_
      (Dk.Tg.tp [Dk.Tg.nm 2, Dk.Tg.nm 3])
      (Dk.CI.enum (Dk.CE.loc 1))
      (Dk.CSs.cons
        (Dk.CS.ite
          (Dk.CE.or
            (Dk.CE.cmp (Dk.Cop.eq) (Dk.CE.loc 2) (Dk.CE.glob "MOST_LIGHTS"))
            (Dk.CE.or
              (Dk.CE.not
                (Dk.CE.call
                  "is_between"
                  (Dk.CEs.cons
                    (Dk.CE.loc 3)
                    (Dk.CEs.cons
                      (Dk.CE.k (Dk.D.int 0))
                      (Dk.CEs.cons (Dk.CE.bin (Dk.Bop.sub) (Dk.CE.loc 0) (Dk.CE.k (Dk.D.int 1))) (Dk.CEs.nil))))))
              (Dk.CE.and
                (Dk.CE.cmp (Dk.Cop.gt) (Dk.CE.loc 2) (Dk.CE.k (Dk.D.int 0)))
                (Dk.CE.cmp
                  (Dk.Cop.ge)
                  (Dk.CE.idx (Dk.CE.loc 1) (Dk.CE.bin (Dk.Bop.sub) (Dk.CE.loc 2) (Dk.CE.k (Dk.D.int 1))))
                  (Dk.CE.loc 3)))))
          (Dk.CSs.cons (Dk.CS.ret (Dk.CE.lst (Dk.CEs.cons (Dk.CE.loc 2) (Dk.CEs.nil)))) (Dk.CSs.nil))
          (Dk.CSs.nil))
        (Dk.CSs.nil)))
    (Dk.CSs.cons (Dk.CS.ret (Dk.CE.lst (Dk.CEs.nil))) (Dk.CSs.nil)))⟩
def k_Free : Cls := ⟨none, [("lets", "Free.lets")], [], [], false, []⟩
def k_Lamp : Cls := ⟨some "Lamp.__init__", [("read", "Lamp.read"), ("__eq__", "Lamp.__eq__"), ("__str__", "Lamp.__str__"), ("__repr__", "Lamp.__repr__")], [("period", "Lamp.period"), ("lights", "Lamp.lights"), ("text", "Lamp.text")], [], false, ["on", "round"]⟩
def k_Left : Cls := ⟨some "Left.__init__", [("is_enough", "Left.is_enough")], [], [], false, ["crew", "most"]⟩
def k_Night : Cls := ⟨some "Night.__init__", [("read", "Night.read"), ("__eq__", "Night.__eq__"), ("__str__", "Night.__str__"), ("__repr__", "Night.__repr__")], [("lamps", "Night.lamps"), ("phases", "Night.phases"), ("text", "Night.text")], [], false, ["row", "turned"]⟩
def k_Rest : Cls := ⟨some "Rest.__init__", [("is_enough", "Rest.is_enough")], [], [], false, ["most", "night"]⟩
def k_Told : Cls := ⟨some "Told.__init__", [("lets", "Told.lets"), ("phase_of", "Told.phase_of"), ("case_of", "Told.case_of")], [], [], false, ["crew", "start", "told"]⟩
def k_Tree : Cls := ⟨some "Tree.__init__", [("lit_to", "Tree.lit_to"), ("longest", "Tree.longest"), ("choices", "Tree.choices")], [], [], false, ["crew", "most", "rule"]⟩
def k_Turns : Cls := ⟨some "Turns.__init__", [("lets", "Turns.lets")], [], [], false, ["base", "crew"]⟩
def ptab : List (String × Fn) := [("Free.lets", f_Free_lets), ("Lamp.__init__", f_Lamp___init__), ("Left.__init__", f_Left___init__), ("Left.is_enough", f_Left_is_enough), ("Night.__init__", f_Night___init__), ("Night.lamps", f_Night_lamps), ("Night.phases", f_Night_phases), ("Rest.__init__", f_Rest___init__), ("Rest.is_enough", f_Rest_is_enough), ("Told.__init__", f_Told___init__), ("Told.case_of", f_Told_case_of), ("Told.lets", f_Told_lets), ("Told.phase_of", f_Told_phase_of), ("Tree.__init__", f_Tree___init__), ("Tree.choices", f_Tree_choices), ("Tree.lit_to", f_Tree_lit_to), ("Tree.longest", f_Tree_longest), ("Turns.__init__", f_Turns___init__), ("Turns.lets", f_Turns_lets), ("alike", f_alike), ("all_lit", f_all_lit), ("all_lots", f_all_lots), ("all_pictures", f_all_pictures), ("always_meet", f_always_meet), ("apart_phase", f_apart_phase), ("are_indexes", f_are_indexes), ("bars", f_bars), ("bound_of", f_bound_of), ("can_be", f_can_be), ("case_for_ever", f_case_for_ever), ("case_from", f_case_from), ("case_lit", f_case_lit), ("case_with", f_case_with), ("check_both", f_check_both), ("check_case", f_check_case), ("check_lamp", f_check_lamp), ("check_lamps", f_check_lamps), ("check_length", f_check_length), ("check_minute", f_check_minute), ("check_night", f_check_night), ("check_notes", f_check_notes), ("check_pair", f_check_pair), ("check_phases", f_check_phases), ("choose", f_choose), ("common_minute", f_common_minute), ("count_cases", f_count_cases), ("count_dark", f_count_dark), ("count_phases", f_count_phases), ("dark_along", f_dark_along), ("dark_below", f_dark_below), ("dark_from", f_dark_from), ("fewest_lit", f_fewest_lit), ("first_along", f_first_along), ("first_dark", f_first_dark), ("first_lacking", f_first_lacking), ("first_picture", f_first_picture), ("first_unlike", f_first_unlike), ("first_with", f_first_with), ("fits", f_fits), ("gcd", f_gcd), ("greatest", f_greatest), ("grown", f_grown), ("held_below", f_held_below), ("inverse", f_inverse), ("is_between", f_is_between), ("is_integer", f_is_integer), ("is_lit", f_is_lit), ("is_note", f_is_note), ("keeps", f_keeps), ("least_parts", f_least_parts), ("least_phase", f_least_phase), ("light_number", f_light_number), ("lit_at", f_lit_at), ("lit_by", f_lit_by), ("lit_stretch", f_lit_stretch), ("longest_dark", f_longest_dark), ("longest_gap", f_longest_gap), ("longest_lit", f_longest_lit), ("longest_of", f_longest_of), ("longest_wait", f_longest_wait), ("lowest", f_lowest), ("many_cases", f_many_cases), ("meeting", f_meeting), ("met", f_met), ("most_lit", f_most_lit), ("nth_dark", f_nth_dark), ("ordered_parts", f_ordered_parts), ("own_notes", f_own_notes), ("phases_lit", f_phases_lit), ("picture_from", f_picture_from), ("pictures", f_pictures), ("put_out", f_put_out), ("rows_together", f_rows_together), ("shares", f_shares), ("step_rows", f_step_rows), ("stretch_from", f_stretch_from), ("struck", f_struck), ("sure_lamp", f_sure_lamp), ("surely_dark", f_surely_dark), ("surely_lit", f_surely_lit), ("unlike_from", f_unlike_from), ("wait_from", f_wait_from), ("within", f_within), ("wrong_light", f_wrong_light)]
def ctab : List (String × Cls) := [("Free", k_Free), ("Lamp", k_Lamp), ("Left", k_Left), ("Night", k_Night), ("Rest", k_Rest), ("Told", k_Told), ("Tree", k_Tree), ("Turns", k_Turns)]
theorem mem_look {α : Type} {x : String} {d : α} : ∀ {l : List (String × α)}, l.lookup x = some d → (x, d) ∈ l
  | (y, e) :: r, h => by
    rw [List.lookup_cons] at h
    split at h
    · rename_i q; cases h; rw [beq_iff_eq.mp q]; exact List.mem_cons_self
    · exact List.mem_cons_of_mem _ (mem_look h)
/-- the program stands in P -/
class Fns (P : Prg) : Prop where
  fn : ∀ x c, ptab.lookup x = some c → P.fn x = some c
  cl : ∀ x c, ctab.lookup x = some c → P.cl x = some c
instance {P : Prg} [h : Fns P] : Has P "Free.lets" f_Free_lets := ⟨h.fn _ _ rfl⟩
instance {P : Prg} [h : Fns P] : Has P "Lamp.__init__" f_Lamp___init__ := ⟨h.fn _ _ rfl⟩
instance {P : Prg} [h : Fns P] : Has P "Left.__init__" f_Left___init__ := ⟨h.fn _ _ rfl⟩
instance {P : Prg} [h : Fns P] : Has P "Left.is_enough" f_Left_is_enough := ⟨h.fn _ _ rfl⟩
instance {P : Prg} [h : Fns P] : Has P "Night.__init__" f_Night___init__ := ⟨h.fn _ _ rfl⟩
instance {P : Prg} [h : Fns P] : Has P "Night.lamps" f_Night_lamps := ⟨h.fn _ _ rfl⟩
instance {P : Prg} [h : Fns P] : Has P "Night.phases" f_Night_phases := ⟨h.fn _ _ rfl⟩
instance {P : Prg} [h : Fns P] : Has P "Rest.__init__" f_Rest___init__ := ⟨h.fn _ _ rfl⟩
instance {P : Prg} [h : Fns P] : Has P "Rest.is_enough" f_Rest_is_enough := ⟨h.fn _ _ rfl⟩
instance {P : Prg} [h : Fns P] : Has P "Told.__init__" f_Told___init__ := ⟨h.fn _ _ rfl⟩
instance {P : Prg} [h : Fns P] : Has P "Told.case_of" f_Told_case_of := ⟨h.fn _ _ rfl⟩
instance {P : Prg} [h : Fns P] : Has P "Told.lets" f_Told_lets := ⟨h.fn _ _ rfl⟩
instance {P : Prg} [h : Fns P] : Has P "Told.phase_of" f_Told_phase_of := ⟨h.fn _ _ rfl⟩
instance {P : Prg} [h : Fns P] : Has P "Tree.__init__" f_Tree___init__ := ⟨h.fn _ _ rfl⟩
instance {P : Prg} [h : Fns P] : Has P "Tree.choices" f_Tree_choices := ⟨h.fn _ _ rfl⟩
instance {P : Prg} [h : Fns P] : Has P "Tree.lit_to" f_Tree_lit_to := ⟨h.fn _ _ rfl⟩
instance {P : Prg} [h : Fns P] : Has P "Tree.longest" f_Tree_longest := ⟨h.fn _ _ rfl⟩
instance {P : Prg} [h : Fns P] : Has P "Turns.__init__" f_Turns___init__ := ⟨h.fn _ _ rfl⟩
instance {P : Prg} [h : Fns P] : Has P "Turns.lets" f_Turns_lets := ⟨h.fn _ _ rfl⟩
instance {P : Prg} [h : Fns P] : Has P "alike" f_alike := ⟨h.fn _ _ rfl⟩
instance {P : Prg} [h : Fns P] : Has P "all_lit" f_all_lit := ⟨h.fn _ _ rfl⟩
instance {P : Prg} [h : Fns P] : Has P "all_lots" f_all_lots := ⟨h.fn _ _ rfl⟩
instance {P : Prg} [h : Fns P] : Has P "all_pictures" f_all_pictures := ⟨h.fn _ _ rfl⟩
instance {P : Prg} [h : Fns P] : Has P "always_meet" f_always_meet := ⟨h.fn _ _ rfl⟩
instance {P : Prg} [h : Fns P] : Has P "apart_phase" f_apart_phase := ⟨h.fn _ _ rfl⟩
instance {P : Prg} [h : Fns P] : Has P "are_indexes" f_are_indexes := ⟨h.fn _ _ rfl⟩
instance {P : Prg} [h : Fns P] : Has P "bars" f_bars := ⟨h.fn _ _ rfl⟩
instance {P : Prg} [h : Fns P] : Has P "bound_of" f_bound_of := ⟨h.fn _ _ rfl⟩
instance {P : Prg} [h : Fns P] : Has P "can_be" f_can_be := ⟨h.fn _ _ rfl⟩
instance {P : Prg} [h : Fns P] : Has P "case_for_ever" f_case_for_ever := ⟨h.fn _ _ rfl⟩
instance {P : Prg} [h : Fns P] : Has P "case_from" f_case_from := ⟨h.fn _ _ rfl⟩
instance {P : Prg} [h : Fns P] : Has P "case_lit" f_case_lit := ⟨h.fn _ _ rfl⟩
instance {P : Prg} [h : Fns P] : Has P "case_with" f_case_with := ⟨h.fn _ _ rfl⟩
instance {P : Prg} [h : Fns P] : Has P "check_both" f_check_both := ⟨h.fn _ _ rfl⟩
instance {P : Prg} [h : Fns P] : Has P "check_case" f_check_case := ⟨h.fn _ _ rfl⟩
instance {P : Prg} [h : Fns P] : Has P "check_lamp" f_check_lamp := ⟨h.fn _ _ rfl⟩
instance {P : Prg} [h : Fns P] : Has P "check_lamps" f_check_lamps := ⟨h.fn _ _ rfl⟩
instance {P : Prg} [h : Fns P] : Has P "check_length" f_check_length := ⟨h.fn _ _ rfl⟩
instance {P : Prg} [h : Fns P] : Has P "check_minute" f_check_minute := ⟨h.fn _ _ rfl⟩
instance {P : Prg} [h : Fns P] : Has P "check_night" f_check_night := ⟨h.fn _ _ rfl⟩
instance {P : Prg} [h : Fns P] : Has P "check_notes" f_check_notes := ⟨h.fn _ _ rfl⟩
instance {P : Prg} [h : Fns P] : Has P "check_pair" f_check_pair := ⟨h.fn _ _ rfl⟩
instance {P : Prg} [h : Fns P] : Has P "check_phases" f_check_phases := ⟨h.fn _ _ rfl⟩
instance {P : Prg} [h : Fns P] : Has P "choose" f_choose := ⟨h.fn _ _ rfl⟩
instance {P : Prg} [h : Fns P] : Has P "common_minute" f_common_minute := ⟨h.fn _ _ rfl⟩
instance {P : Prg} [h : Fns P] : Has P "count_cases" f_count_cases := ⟨h.fn _ _ rfl⟩
instance {P : Prg} [h : Fns P] : Has P "count_dark" f_count_dark := ⟨h.fn _ _ rfl⟩
instance {P : Prg} [h : Fns P] : Has P "count_phases" f_count_phases := ⟨h.fn _ _ rfl⟩
instance {P : Prg} [h : Fns P] : Has P "dark_along" f_dark_along := ⟨h.fn _ _ rfl⟩
instance {P : Prg} [h : Fns P] : Has P "dark_below" f_dark_below := ⟨h.fn _ _ rfl⟩
instance {P : Prg} [h : Fns P] : Has P "dark_from" f_dark_from := ⟨h.fn _ _ rfl⟩
instance {P : Prg} [h : Fns P] : Has P "fewest_lit" f_fewest_lit := ⟨h.fn _ _ rfl⟩
instance {P : Prg} [h : Fns P] : Has P "first_along" f_first_along := ⟨h.fn _ _ rfl⟩
instance {P : Prg} [h : Fns P] : Has P "first_dark" f_first_dark := ⟨h.fn _ _ rfl⟩
instance {P : Prg} [h : Fns P] : Has P "first_lacking" f_first_lacking := ⟨h.fn _ _ rfl⟩
instance {P : Prg} [h : Fns P] : Has P "first_picture" f_first_picture := ⟨h.fn _ _ rfl⟩
instance {P : Prg} [h : Fns P] : Has P "first_unlike" f_first_unlike := ⟨h.fn _ _ rfl⟩
instance {P : Prg} [h : Fns P] : Has P "first_with" f_first_with := ⟨h.fn _ _ rfl⟩
instance {P : Prg} [h : Fns P] : Has P "fits" f_fits := ⟨h.fn _ _ rfl⟩
instance {P : Prg} [h : Fns P] : Has P "gcd" f_gcd := ⟨h.fn _ _ rfl⟩
instance {P : Prg} [h : Fns P] : Has P "greatest" f_greatest := ⟨h.fn _ _ rfl⟩
instance {P : Prg} [h : Fns P] : Has P "grown" f_grown := ⟨h.fn _ _ rfl⟩
instance {P : Prg} [h : Fns P] : Has P "held_below" f_held_below := ⟨h.fn _ _ rfl⟩
instance {P : Prg} [h : Fns P] : Has P "inverse" f_inverse := ⟨h.fn _ _ rfl⟩
instance {P : Prg} [h : Fns P] : Has P "is_between" f_is_between := ⟨h.fn _ _ rfl⟩
instance {P : Prg} [h : Fns P] : Has P "is_integer" f_is_integer := ⟨h.fn _ _ rfl⟩
instance {P : Prg} [h : Fns P] : Has P "is_lit" f_is_lit := ⟨h.fn _ _ rfl⟩
instance {P : Prg} [h : Fns P] : Has P "is_note" f_is_note := ⟨h.fn _ _ rfl⟩
instance {P : Prg} [h : Fns P] : Has P "keeps" f_keeps := ⟨h.fn _ _ rfl⟩
instance {P : Prg} [h : Fns P] : Has P "least_parts" f_least_parts := ⟨h.fn _ _ rfl⟩
instance {P : Prg} [h : Fns P] : Has P "least_phase" f_least_phase := ⟨h.fn _ _ rfl⟩
instance {P : Prg} [h : Fns P] : Has P "light_number" f_light_number := ⟨h.fn _ _ rfl⟩
instance {P : Prg} [h : Fns P] : Has P "lit_at" f_lit_at := ⟨h.fn _ _ rfl⟩
instance {P : Prg} [h : Fns P] : Has P "lit_by" f_lit_by := ⟨h.fn _ _ rfl⟩
instance {P : Prg} [h : Fns P] : Has P "lit_stretch" f_lit_stretch := ⟨h.fn _ _ rfl⟩
instance {P : Prg} [h : Fns P] : Has P "longest_dark" f_longest_dark := ⟨h.fn _ _ rfl⟩
instance {P : Prg} [h : Fns P] : Has P "longest_gap" f_longest_gap := ⟨h.fn _ _ rfl⟩
instance {P : Prg} [h : Fns P] : Has P "longest_lit" f_longest_lit := ⟨h.fn _ _ rfl⟩
instance {P : Prg} [h : Fns P] : Has P "longest_of" f_longest_of := ⟨h.fn _ _ rfl⟩
instance {P : Prg} [h : Fns P] : Has P "longest_wait" f_longest_wait := ⟨h.fn _ _ rfl⟩
instance {P : Prg} [h : Fns P] : Has P "lowest" f_lowest := ⟨h.fn _ _ rfl⟩
instance {P : Prg} [h : Fns P] : Has P "many_cases" f_many_cases := ⟨h.fn _ _ rfl⟩
instance {P : Prg} [h : Fns P] : Has P "meeting" f_meeting := ⟨h.fn _ _ rfl⟩
instance {P : Prg} [h : Fns P] : Has P "met" f_met := ⟨h.fn _ _ rfl⟩
instance {P : Prg} [h : Fns P] : Has P "most_lit" f_most_lit := ⟨h.fn _ _ rfl⟩
instance {P : Prg} [h : Fns P] : Has P "nth_dark" f_nth_dark := ⟨h.fn _ _ rfl⟩
instance {P : Prg} [h : Fns P] : Has P "ordered_parts" f_ordered_parts := ⟨h.fn _ _ rfl⟩
instance {P : Prg} [h : Fns P] : Has P "own_notes" f_own_notes := ⟨h.fn _ _ rfl⟩
instance {P : Prg} [h : Fns P] : Has P "phases_lit" f_phases_lit := ⟨h.fn _ _ rfl⟩
instance {P : Prg} [h : Fns P] : Has P "picture_from" f_picture_from := ⟨h.fn _ _ rfl⟩
instance {P : Prg} [h : Fns P] : Has P "pictures" f_pictures := ⟨h.fn _ _ rfl⟩
instance {P : Prg} [h : Fns P] : Has P "put_out" f_put_out := ⟨h.fn _ _ rfl⟩
instance {P : Prg} [h : Fns P] : Has P "rows_together" f_rows_together := ⟨h.fn _ _ rfl⟩
instance {P : Prg} [h : Fns P] : Has P "shares" f_shares := ⟨h.fn _ _ rfl⟩
instance {P : Prg} [h : Fns P] : Has P "step_rows" f_step_rows := ⟨h.fn _ _ rfl⟩
instance {P : Prg} [h : Fns P] : Has P "stretch_from" f_stretch_from := ⟨h.fn _ _ rfl⟩
instance {P : Prg} [h : Fns P] : Has P "struck" f_struck := ⟨h.fn _ _ rfl⟩
instance {P : Prg} [h : Fns P] : Has P "sure_lamp" f_sure_lamp := ⟨h.fn _ _ rfl⟩
instance {P : Prg} [h : Fns P] : Has P "surely_dark" f_surely_dark := ⟨h.fn _ _ rfl⟩
instance {P : Prg} [h : Fns P] : Has P "surely_lit" f_surely_lit := ⟨h.fn _ _ rfl⟩
instance {P : Prg} [h : Fns P] : Has P "unlike_from" f_unlike_from := ⟨h.fn _ _ rfl⟩
instance {P : Prg} [h : Fns P] : Has P "wait_from" f_wait_from := ⟨h.fn _ _ rfl⟩
instance {P : Prg} [h : Fns P] : Has P "within" f_within := ⟨h.fn _ _ rfl⟩
instance {P : Prg} [h : Fns P] : Has P "wrong_light" f_wrong_light := ⟨h.fn _ _ rfl⟩
instance {P : Prg} [h : Fns P] : HasC P "Free" k_Free := ⟨h.cl _ _ rfl⟩
instance {P : Prg} [h : Fns P] : HasC P "Lamp" k_Lamp := ⟨h.cl _ _ rfl⟩
instance {P : Prg} [h : Fns P] : HasC P "Left" k_Left := ⟨h.cl _ _ rfl⟩
instance {P : Prg} [h : Fns P] : HasC P "Night" k_Night := ⟨h.cl _ _ rfl⟩
instance {P : Prg} [h : Fns P] : HasC P "Rest" k_Rest := ⟨h.cl _ _ rfl⟩
instance {P : Prg} [h : Fns P] : HasC P "Told" k_Told := ⟨h.cl _ _ rfl⟩
instance {P : Prg} [h : Fns P] : HasC P "Tree" k_Tree := ⟨h.cl _ _ rfl⟩
instance {P : Prg} [h : Fns P] : HasC P "Turns" k_Turns := ⟨h.cl _ _ rfl⟩
end Dk
end
/-! T_k10 -/
section
set_option maxRecDepth 100000
set_option linter.all false
namespace Dk
namespace K10
def dfs : List String := ["law", "_law_right", "_law_wick", "_law_size", "_law_glow", "_law_from", "_law_burn", "_law_times", "is_lit", "is_between", "wrong_light", "check_lamp", "check_minute", "lit_by", "is_integer"]
def clss : List String := ["Lamp"]
def kws : List (String × Nat × List String) := [("is_lit", 0, ["minute", "phase", "lamp"])]
def mts : List String := []
def cc_is_integer : Cc := ⟨["value"], dfs, clss, [], false, [], kws, mts⟩
def cc_is_between : Cc := ⟨["value", "low", "high"], dfs, clss, [], false, [], kws, mts⟩
def cc_check_minute : Cc := ⟨["minute"], dfs, clss, [], false, [], kws, mts⟩
def cc_wrong_light : Cc := ⟨["period", "lights", "at", "light"], dfs, clss, [], false, [], kws, mts⟩
def cc_check_lamp : Cc := ⟨["value"], dfs, clss, [], false, [], kws, mts⟩
def cc_lit_by : Cc := ⟨["lamp", "phase", "minute"], dfs, clss, [], false, [], kws, mts⟩
def cc_is_lit : Cc := ⟨["lamp", "phase", "minute"], dfs, clss, [], false, [], kws, mts⟩
def cc__law_wick : Cc := ⟨["_law_script", "_law_at", "_law_own", "_law_stirred", "_law_each"], dfs, clss, [], true, [], kws, mts⟩
def cc__law_burn : Cc := ⟨["_law_wick_here", "_law_many", "_law_digit", "_law_stirred"], dfs, clss, [], false, [], kws, mts⟩
def cc__law_from : Cc := ⟨["_law_wick_here", "_law_some"], dfs, clss, [], false, [], kws, mts⟩
def cc__law_glow : Cc := ⟨["_law_wick_here", "_law_size_here", "_law_most_here", "_law_found", "_law_k"], dfs, clss, [3], false, [], kws, mts⟩
def cc__law_size : Cc := ⟨["_law_wick_here"], dfs, clss, [], false, [], kws, mts⟩
def cc__law_times : Cc := ⟨["_law_wick_here", "_law_size_here", "_law_shine", "_law_turned", "_law_found", "_law_spot", "_law_first", "_law_rounds_here", "_law_each"], dfs, clss, [], false, [], kws, mts⟩
def cc__law_right : Cc := ⟨["_law_wick_here", "_law_turn", "_law_size_here", "_law_shine", "_law_turned", "_law_here", "_law_t", "_law_spot", "_law_due"], dfs, clss, [], false, [], kws, mts⟩
def cc_law : Cc := ⟨["_law_script", "_law_at"], dfs, clss, [], false, [], kws, mts⟩
def cc_Lamp___init__ : Cc := ⟨["self", "period", "lights", "wrong"], dfs, clss, [0], false, [0], kws, mts⟩
abbrev f__law_wick : Fn := Dk.f_law_wick_fecc
abbrev f__law_burn : Fn := Dk.f_law_burn_c40a
abbrev f__law_from : Fn := Dk.f_law_from_4b3d
abbrev f__law_glow : Fn := Dk.f_law_glow_e4a0
abbrev f__law_size : Fn := Dk.f_law_size_ec97
def f__law_times : Fn := ⟨["_law_wick_here", "_law_size_here", "_law_shine", "_law_turned"], 9, [],
Dk.CSs.cons
  (Dk.CS.asg
    (Dk.CT.nm 4)
    (Dk.CE.lst
      (Dk.CEs.cons
        (Dk.CE.k (Dk.D.int 0))
        (Dk.CEs.cons
          (Dk.CE.bin (Dk.Bop.pow) (Dk.CE.k (Dk.D.int 10)) (Dk.CE.k (Dk.D.int 40)))
          (Dk.CEs.cons
            (Dk.CE.call
              "_law_burn"
              (Dk.CEs.cons
                (Dk.CE.loc 0)
                (Dk.CEs.cons (Dk.CE.bin (Dk.Bop.pow) (Dk.CE.k (Dk.D.int 10)) (Dk.CE.k (Dk.D.int 40))) (Dk.CEs.nil))))
            (Dk.CEs.cons
              (Dk.CE.call
                "_law_burn"
                (Dk.CEs.cons
                  (Dk.CE.loc 0)
                  (Dk.CEs.cons (Dk.CE.bin (Dk.Bop.mul) (Dk.CE.k (Dk.D.int 2)) (Dk.CE.loc 1)) (Dk.CEs.nil))))
              (Dk.CEs.nil)))))))
  (Dk.CSs.cons
    (Dk.CS.for_
      (Dk.Tg.nm 5)
      (Dk.CI.seq (Dk.CE.loc 2))
      (Dk.CSs.cons
        (Dk.CS.asg
          (Dk.CT.nm 6)
          (Dk.CE.bin
            (Dk.Bop.mod)
            (Dk.CE.bi "int" (Dk.CEs.cons (Dk.CE.bin (Dk.Bop.sub) (Dk.CE.loc 5) (Dk.CE.loc 3)) (Dk.CEs.nil)))
            (Dk.CE.loc 1)))
        (Dk.CSs.cons
          (Dk.CS.asg
            (Dk.CT.nm 7)
            (Dk.CE.call
              "_law_burn"
              (Dk.CEs.cons
                (Dk.CE.loc 0)
                (Dk.CEs.cons
                  (Dk.CE.bin
                    (Dk.Bop.fdiv)
                    (Dk.CE.bin (Dk.Bop.pow) (Dk.CE.k (Dk.D.int 10)) (Dk.CE.k (Dk.D.int 40)))
                    (Dk.CE.loc 1))
                  (Dk.CEs.nil)))))
          (Dk.CSs.cons
            (Dk.CS.asg
              (Dk.CT.nm 4)
              (Dk.CE.bin
                (Dk.Bop.add)
                (Dk.CE.loc 4)
                (Dk.CE.lst
                  (Dk.CEs.cons
                    (Dk.CE.loc 6)
                    (Dk.CEs.cons
                      (Dk.CE.bin (Dk.Bop.add) (Dk.CE.loc 6) (Dk.CE.k (Dk.D.int 1)))
                      (Dk.CEs.cons
                        (Dk.CE.bin (Dk.Bop.add) (Dk.CE.loc 6) (Dk.CE.bin (Dk.Bop.mul) (Dk.CE.loc 1) (Dk.CE.loc 7)))
                        (Dk.CEs.nil)))))))
            (Dk.CSs.nil)))))
    (Dk.CSs.cons
      (Dk.CS.ret
        (Dk.CE.lc
          (Dk.CE.loc 8)
          (Dk.Tg.nm 8)
          (Dk.CI.seq (Dk.CE.loc 4))
          (Dk.CEs.cons
            (Dk.CE.cmp
              (Dk.Cop.le)
              (Dk.CE.loc 8)
              (Dk.CE.bin (Dk.Bop.pow) (Dk.CE.k (Dk.D.int 10)) (Dk.CE.k (Dk.D.int 40))))
            (Dk.CEs.nil))))
      (Dk.CSs.nil)))⟩
def f__law_right : Fn := ⟨["_law_wick_here"], 9, [],
Dk.CSs.cons
  (Dk.CS.for_
    (Dk.Tg.nm 1)
    (Dk.CI.rng (Dk.CE.k (Dk.D.int 5)))
    (Dk.CSs.cons
      (Dk.CS.asg (Dk.CT.nm 2) (Dk.CE.call "_law_size" (Dk.CEs.cons (Dk.CE.loc 0) (Dk.CEs.nil))))
      (Dk.CSs.cons
        (Dk.CS.asg
          (Dk.CT.tp [Dk.CT.nm 3, Dk.CT.nm 4])
          (Dk.CE.tup
            (Dk.CEs.cons
              (Dk.CE.call
                "_law_glow"
                (Dk.CEs.cons
                  (Dk.CE.loc 0)
                  (Dk.CEs.cons (Dk.CE.loc 2) (Dk.CEs.cons (Dk.CE.k (Dk.D.int 8)) (Dk.CEs.nil)))))
              (Dk.CEs.cons
                (Dk.CE.call
                  "_law_from"
                  (Dk.CEs.cons
                    (Dk.CE.loc 0)
                    (Dk.CEs.cons
                      (Dk.CE.lst
                        (Dk.CEs.cons
                          (Dk.CE.k (Dk.D.int 0))
                          (Dk.CEs.cons
                            (Dk.CE.bin (Dk.Bop.sub) (Dk.CE.loc 2) (Dk.CE.k (Dk.D.int 1)))
                            (Dk.CEs.cons
                              (Dk.CE.call
                                "_law_burn"
                                (Dk.CEs.cons (Dk.CE.loc 0) (Dk.CEs.cons (Dk.CE.loc 2) (Dk.CEs.nil))))
                              (Dk.CEs.nil)))))
                      (Dk.CEs.nil))))
                (Dk.CEs.nil)))))
        (Dk.CSs.cons
          (Dk.CS.asg
            (Dk.CT.nm 5)
            (Dk.CE.make "Lamp" (Dk.CEs.cons (Dk.CE.loc 2) (Dk.CEs.cons (Dk.CE.loc 3) (Dk.CEs.nil)))))
          (Dk.CSs.cons
            (Dk.CS.for_
              (Dk.Tg.nm 6)
              (Dk.CI.seq
                (Dk.CE.call
                  "_law_times"
                  (Dk.CEs.cons
                    (Dk.CE.loc 0)
                    (Dk.CEs.cons (Dk.CE.loc 2) (Dk.CEs.cons (Dk.CE.loc 3) (Dk.CEs.cons (Dk.CE.loc 4) (Dk.CEs.nil)))))))
              (Dk.CSs.cons
                (Dk.CS.asg
                  (Dk.CT.nm 8)
                  (Dk.CE.cmp
                    (Dk.Cop.ne)
                    (Dk.CE.lc
                      (Dk.CE.loc 7)
                      (Dk.Tg.nm 7)
                      (Dk.CI.seq (Dk.CE.loc 3))
                      (Dk.CEs.cons
                        (Dk.CE.cmp
                          (Dk.Cop.eq)
                          (Dk.CE.bin
                            (Dk.Bop.mod)
                            (Dk.CE.bi
                              "int"
                              (Dk.CEs.cons
                                (Dk.CE.bin
                                  (Dk.Bop.add)
                                  (Dk.CE.bin (Dk.Bop.sub) (Dk.CE.loc 6) (Dk.CE.loc 7))
                                  (Dk.CE.loc 4))
                                (Dk.CEs.nil)))
                            (Dk.CE.loc 2))
                          (Dk.CE.k (Dk.D.int 0)))
                        (Dk.CEs.nil)))
                    (Dk.CE.lst (Dk.CEs.nil))))
                (Dk.CSs.cons
                  (Dk.CS.ite
                    (Dk.CE.cmp
                      (Dk.Cop.nes)
                      (Dk.CE.rpr
                        (Dk.CE.lst
                          (Dk.CEs.cons
                            (Dk.CE.call
                              "is_lit"
                              (Dk.CEs.cons
                                (Dk.CE.loc 5)
                                (Dk.CEs.cons (Dk.CE.loc 4) (Dk.CEs.cons (Dk.CE.loc 6) (Dk.CEs.nil)))))
                            (Dk.CEs.cons
                              (Dk.CE.callk
                                "is_lit"
                                (Dk.CEs.nil)
                                ["minute", "phase", "lamp"]
                                (Dk.CEs.cons
                                  (Dk.CE.loc 6)
                                  (Dk.CEs.cons (Dk.CE.loc 4) (Dk.CEs.cons (Dk.CE.loc 5) (Dk.CEs.nil)))))
                              (Dk.CEs.nil)))))
                      (Dk.CE.rpr (Dk.CE.lst (Dk.CEs.cons (Dk.CE.loc 8) (Dk.CEs.cons (Dk.CE.loc 8) (Dk.CEs.nil))))))
                    (Dk.CSs.cons (Dk.CS.ret (Dk.CE.k (Dk.D.bl false))) (Dk.CSs.nil))
                    (Dk.CSs.nil))
                  (Dk.CSs.nil))))
            (Dk.CSs.cons
              (Dk.CS.ite
                (Dk.CE.cmp (Dk.Cop.lt) (Dk.CE.loc 2) (Dk.CE.k (Dk.D.int 40)))
                (Dk.CSs.cons
                  (Dk.CS.asg (Dk.CT.nm 7) (Dk.CE.loc 4))
                  (Dk.CSs.cons
                    (Dk.CS.for_
                      (Dk.Tg.nm 6)
                      (Dk.CI.rng (Dk.CE.bin (Dk.Bop.mul) (Dk.CE.k (Dk.D.int 3)) (Dk.CE.loc 2)))
                      (Dk.CSs.cons
                        (Dk.CS.ite
                          (Dk.CE.cmp
                            (Dk.Cop.nes)
                            (Dk.CE.rpr
                              (Dk.CE.call
                                "is_lit"
                                (Dk.CEs.cons
                                  (Dk.CE.loc 5)
                                  (Dk.CEs.cons (Dk.CE.loc 4) (Dk.CEs.cons (Dk.CE.loc 6) (Dk.CEs.nil))))))
                            (Dk.CE.rpr (Dk.CE.cmp (Dk.Cop.in_) (Dk.CE.loc 7) (Dk.CE.loc 3))))
                          (Dk.CSs.cons (Dk.CS.ret (Dk.CE.k (Dk.D.bl false))) (Dk.CSs.nil))
                          (Dk.CSs.nil))
                        (Dk.CSs.cons
                          (Dk.CS.asg
                            (Dk.CT.nm 7)
                            (Dk.CE.ife
                              (Dk.CE.cmp
                                (Dk.Cop.lt)
                                (Dk.CE.bin (Dk.Bop.add) (Dk.CE.loc 7) (Dk.CE.k (Dk.D.int 1)))
                                (Dk.CE.loc 2))
                              (Dk.CE.bin (Dk.Bop.add) (Dk.CE.loc 7) (Dk.CE.k (Dk.D.int 1)))
                              (Dk.CE.k (Dk.D.int 0))))
                          (Dk.CSs.nil))))
                    (Dk.CSs.nil)))
                (Dk.CSs.nil))
              (Dk.CSs.nil)))))))
  (Dk.CSs.cons (Dk.CS.ret (Dk.CE.k (Dk.D.bl true))) (Dk.CSs.nil))⟩
def f_law : Fn := ⟨["_law_script"], 2, [],
Dk.CSs.cons
  (Dk.CS.for_
    (Dk.Tg.nm 1)
    (Dk.CI.rng
      (Dk.CE.bi
        "max"
        (Dk.CEs.cons
          (Dk.CE.k (Dk.D.int 2))
          (Dk.CEs.cons
            (Dk.CE.bi
              "min"
              (Dk.CEs.cons
                (Dk.CE.bi "len" (Dk.CEs.cons (Dk.CE.loc 0) (Dk.CEs.nil)))
                (Dk.CEs.cons (Dk.CE.k (Dk.D.int 6)) (Dk.CEs.nil))))
            (Dk.CEs.nil)))))
    (Dk.CSs.cons
      (Dk.CS.ite
        (Dk.CE.not
          (Dk.CE.call
            "_law_right"
            (Dk.CEs.cons
              (Dk.CE.call "_law_wick" (Dk.CEs.cons (Dk.CE.loc 0) (Dk.CEs.cons (Dk.CE.loc 1) (Dk.CEs.nil))))
              (Dk.CEs.nil))))
        (Dk.CSs.cons (Dk.CS.ret (Dk.CE.k (Dk.D.bl false))) (Dk.CSs.nil))
        (Dk.CSs.nil))
      (Dk.CSs.nil)))
  (Dk.CSs.cons (Dk.CS.ret (Dk.CE.k (Dk.D.bl true))) (Dk.CSs.nil))⟩
def gls : List (String × D) := [("MOST_MINUTE", Dk.D.int 10000000000000000000000000000000000000000),
 ("MOST_PERIOD", Dk.D.int 1000000000000000000000000000000),
 ("MOST_LIGHTS", Dk.D.int 8),
 ("DIGITS", Dk.D.str [48, 49, 50, 51, 52, 53, 54, 55, 56, 57])]
def ltab : List (String × Fn) := [("_law_wick", f__law_wick), ("_law_burn", f__law_burn), ("_law_from", f__law_from), ("_law_glow", f__law_glow), ("_law_size", f__law_size), ("_law_times", f__law_times), ("_law_right", f__law_right), ("law", f_law)]
def P : Prg := ⟨fun x => (ltab ++ ptab).lookup x, fun x => ctab.lookup x, fun x => gls.lookup x, shwPy⟩
theorem apart : (ptab.all fun p => (ltab.lookup p.1).isNone) = true := by decide +kernel
instance : Fns P := ⟨fun x c h => by have q := List.all_eq_true.mp apart _ (mem_look h); show (ltab ++ ptab).lookup x = some c; rw [List.lookup_append, Option.isNone_iff_eq_none.mp q]; exact h, fun x c h => h⟩
instance : Has P "_law_wick" f__law_wick := ⟨rfl⟩
instance : Has P "_law_burn" f__law_burn := ⟨rfl⟩
instance : Has P "_law_from" f__law_from := ⟨rfl⟩
instance : Has P "_law_glow" f__law_glow := ⟨rfl⟩
instance : Has P "_law_size" f__law_size := ⟨rfl⟩
instance : Has P "_law_times" f__law_times := ⟨rfl⟩
instance : Has P "_law_right" f__law_right := ⟨rfl⟩
instance : Has P "law" f_law := ⟨rfl⟩
theorem p_is_integer : P.fn "is_integer" = some f_is_integer := pf
theorem p_is_between : P.fn "is_between" = some f_is_between := pf
theorem p_check_minute : P.fn "check_minute" = some f_check_minute := pf
theorem p_wrong_light : P.fn "wrong_light" = some f_wrong_light := pf
theorem p_check_lamp : P.fn "check_lamp" = some f_check_lamp := pf
theorem p_lit_by : P.fn "lit_by" = some f_lit_by := pf
theorem p_is_lit : P.fn "is_lit" = some f_is_lit := pf
theorem p__law_wick : P.fn "_law_wick" = some f__law_wick := pf
theorem p__law_burn : P.fn "_law_burn" = some f__law_burn := pf
theorem p__law_from : P.fn "_law_from" = some f__law_from := pf
theorem p__law_glow : P.fn "_law_glow" = some f__law_glow := pf
theorem p__law_size : P.fn "_law_size" = some f__law_size := pf
theorem p__law_times : P.fn "_law_times" = some f__law_times := pf
theorem p__law_right : P.fn "_law_right" = some f__law_right := pf
theorem p_law : P.fn "law" = some f_law := pf
theorem p_Lamp___init__ : P.fn "Lamp.__init__" = some f_Lamp___init__ := pf
theorem pc_Lamp : P.cl "Lamp" = some k_Lamp := pk
theorem pg_MOST_MINUTE : P.gl "MOST_MINUTE" = some (Dk.D.int 10000000000000000000000000000000000000000) := by rfl
theorem pg_MOST_PERIOD : P.gl "MOST_PERIOD" = some (Dk.D.int 1000000000000000000000000000000) := by rfl
theorem pg_MOST_LIGHTS : P.gl "MOST_LIGHTS" = some (Dk.D.int 8) := by rfl
theorem pg_DIGITS : P.gl "DIGITS" = some (Dk.D.str [48, 49, 50, 51, 52, 53, 54, 55, 56, 57]) := by rfl
end K10
end Dk
end
/-! S_k10 -/
section
set_option maxRecDepth 100000
set_option linter.all false
namespace Dk
namespace K10
open PySem (Str Addr Heap Value)
def top (i : Nat) : PySem.Stmt := PySem.Challenge.pw_darklamps_k10_whole_lamps_lit.main.body.getD i (.Pass ⟨0, 0, 0, 0⟩)
def g_MOST_MINUTE (t : PySem.Tok) : Value := .int (10000000000000000000000000000000000000000) t
def g_MOST_PERIOD (t : PySem.Tok) : Value := .int (1000000000000000000000000000000) t
def g_MOST_LIGHTS (t : PySem.Tok) : Value := .int (8) t
def g_DIGITS (t : PySem.Tok) : Value := .str (st [48, 49, 50, 51, 52, 53, 54, 55, 56, 57]) t
abbrev s_law : PySem.Stmt := top 32
theorem sc_law : L2.FnScope cc_law.N ["_law_script"] (L2.defScope s_law) := ⟨rfl, rfl, rfl, by decide +kernel, rfl, by decide +kernel, by decide +kernel⟩
theorem cs_law : cSs 99 cc_law (L2.defScope s_law) (L2.defBody s_law) = some f_law.body := by kernel_rfl
abbrev s__law_right : PySem.Stmt := top 31
theorem sc__law_right : L2.FnScope cc__law_right.N ["_law_wick_here"] (L2.defScope s__law_right) := ⟨rfl, rfl, rfl, by decide +kernel, rfl, by decide +kernel, by decide +kernel⟩
theorem cs__law_right : cSs 99 cc__law_right (L2.defScope s__law_right) (L2.defBody s__law_right) = some f__law_right.body := by kernel_rfl
abbrev s__law_wick : PySem.Stmt := top 25
theorem sc__law_wick : L2.FnScope cc__law_wick.N ["_law_script", "_law_at"] (L2.defScope s__law_wick) := ⟨rfl, rfl, rfl, by decide +kernel, rfl, by decide +kernel, by decide +kernel⟩
theorem cs__law_wick : cSs 99 cc__law_wick (L2.defScope s__law_wick) (L2.defBody s__law_wick) = some f__law_wick.body := by kernel_rfl
abbrev s__law_size : PySem.Stmt := top 29
theorem sc__law_size : L2.FnScope cc__law_size.N ["_law_wick_here"] (L2.defScope s__law_size) := ⟨rfl, rfl, rfl, by decide +kernel, rfl, by decide +kernel, by decide +kernel⟩
theorem cs__law_size : cSs 99 cc__law_size (L2.defScope s__law_size) (L2.defBody s__law_size) = some f__law_size.body := by kernel_rfl
abbrev s__law_glow : PySem.Stmt := top 28
theorem sc__law_glow : L2.FnScope cc__law_glow.N ["_law_wick_here", "_law_size_here", "_law_most_here"] (L2.defScope s__law_glow) := ⟨rfl, rfl, rfl, by decide +kernel, rfl, by decide +kernel, by decide +kernel⟩
theorem cs__law_glow : cSs 99 cc__law_glow (L2.defScope s__law_glow) (L2.defBody s__law_glow) = some f__law_glow.body := by kernel_rfl
abbrev s__law_from : PySem.Stmt := top 27
theorem sc__law_from : L2.FnScope cc__law_from.N ["_law_wick_here", "_law_some"] (L2.defScope s__law_from) := ⟨rfl, rfl, rfl, by decide +kernel, rfl, by decide +kernel, by decide +kernel⟩
theorem cs__law_from : cSs 99 cc__law_from (L2.defScope s__law_from) (L2.defBody s__law_from) = some f__law_from.body := by kernel_rfl
abbrev s__law_burn : PySem.Stmt := top 26
theorem sc__law_burn : L2.FnScope cc__law_burn.N ["_law_wick_here", "_law_many"] (L2.defScope s__law_burn) := ⟨rfl, rfl, rfl, by decide +kernel, rfl, by decide +kernel, by decide +kernel⟩
theorem cs__law_burn : cSs 99 cc__law_burn (L2.defScope s__law_burn) (L2.defBody s__law_burn) = some f__law_burn.body := by kernel_rfl
abbrev s__law_times : PySem.Stmt := top 30
theorem sc__law_times : L2.FnScope cc__law_times.N ["_law_wick_here", "_law_size_here", "_law_shine", "_law_turned"] (L2.defScope s__law_times) := ⟨rfl, rfl, rfl, by decide +kernel, rfl, by decide +kernel, by decide +kernel⟩
theorem cs__law_times : cSs 99 cc__law_times (L2.defScope s__law_times) (L2.defBody s__law_times) = some f__law_times.body := by kernel_rfl
abbrev s_is_lit : PySem.Stmt := top 23
theorem sc_is_lit : L2.FnScope cc_is_lit.N ["lamp", "phase", "minute"] (L2.defScope s_is_lit) := ⟨rfl, rfl, rfl, by decide +kernel, rfl, by decide +kernel, by decide +kernel⟩
theorem cs_is_lit : cSs 99 cc_is_lit (L2.defScope s_is_lit) (L2.defBody s_is_lit) = some f_is_lit.body := by kernel_rfl
abbrev s_is_between : PySem.Stmt := top 12
theorem sc_is_between : L2.FnScope cc_is_between.N ["value", "low", "high"] (L2.defScope s_is_between) := ⟨rfl, rfl, rfl, by decide +kernel, rfl, by decide +kernel, by decide +kernel⟩
theorem cs_is_between : cSs 99 cc_is_between (L2.defScope s_is_between) (L2.defBody s_is_between) = some f_is_between.body := by kernel_rfl
abbrev s_wrong_light : PySem.Stmt := top 16
theorem sc_wrong_light : L2.FnScope cc_wrong_light.N ["period", "lights"] (L2.defScope s_wrong_light) := ⟨rfl, rfl, rfl, by decide +kernel, rfl, by decide +kernel, by decide +kernel⟩
theorem cs_wrong_light : cSs 99 cc_wrong_light (L2.defScope s_wrong_light) (L2.defBody s_wrong_light) = some f_wrong_light.body := by kernel_rfl
abbrev s_check_lamp : PySem.Stmt := top 21
theorem sc_check_lamp : L2.FnScope cc_check_lamp.N ["value"] (L2.defScope s_check_lamp) := ⟨rfl, rfl, rfl, by decide +kernel, rfl, by decide +kernel, by decide +kernel⟩
theorem cs_check_lamp : cSs 99 cc_check_lamp (L2.defScope s_check_lamp) (L2.defBody s_check_lamp) = some f_check_lamp.body := by kernel_rfl
abbrev s_check_minute : PySem.Stmt := top 14
theorem sc_check_minute : L2.FnScope cc_check_minute.N ["minute"] (L2.defScope s_check_minute) := ⟨rfl, rfl, rfl, by decide +kernel, rfl, by decide +kernel, by decide +kernel⟩
theorem cs_check_minute : cSs 99 cc_check_minute (L2.defScope s_check_minute) (L2.defBody s_check_minute) = some f_check_minute.body := by kernel_rfl
abbrev s_lit_by : PySem.Stmt := top 22
theorem sc_lit_by : L2.FnScope cc_lit_by.N ["lamp", "phase", "minute"] (L2.defScope s_lit_by) := ⟨rfl, rfl, rfl, by decide +kernel, rfl, by decide +kernel, by decide +kernel⟩
theorem cs_lit_by : cSs 99 cc_lit_by (L2.defScope s_lit_by) (L2.defBody s_lit_by) = some f_lit_by.body := by kernel_rfl
abbrev s_is_integer : PySem.Stmt := top 11
theorem sc_is_integer : L2.FnScope cc_is_integer.N ["value"] (L2.defScope s_is_integer) := ⟨rfl, rfl, rfl, by decide +kernel, rfl, by decide +kernel, by decide +kernel⟩
theorem cs_is_integer : cSs 99 cc_is_integer (L2.defScope s_is_integer) (L2.defBody s_is_integer) = some f_is_integer.body := by kernel_rfl
abbrev s_Lamp___init__ : PySem.Stmt := L2.inClass (top 20) 0
theorem sc_Lamp___init__ : L2.FnScope cc_Lamp___init__.N ["self", "period", "lights"] (L2.defScope s_Lamp___init__) := ⟨rfl, rfl, rfl, by decide +kernel, rfl, by decide +kernel, by decide +kernel⟩
theorem cs_Lamp___init__ : cSs 99 cc_Lamp___init__ (L2.defScope s_Lamp___init__) (L2.defBody s_Lamp___init__) = some f_Lamp___init__.body := by kernel_rfl
set_option maxHeartbeats 0 in
theorem sta {K : Kx} {h : Heap} {mg : Str → Option Value} (X : K.In h) (G : h.Ns PySem.mainGlobals mg)
    {a_law : Addr} {fd_law : PySem.FuncData} (F_law : TopF K mg (sx "law") s_law a_law fd_law)
    {a__law_right : Addr} {fd__law_right : PySem.FuncData} (F__law_right : TopF K mg (sx "_law_right") s__law_right a__law_right fd__law_right)
    {a__law_wick : Addr} {fd__law_wick : PySem.FuncData} (F__law_wick : TopF K mg (sx "_law_wick") s__law_wick a__law_wick fd__law_wick)
    {a__law_size : Addr} {fd__law_size : PySem.FuncData} (F__law_size : TopF K mg (sx "_law_size") s__law_size a__law_size fd__law_size)
    {a__law_glow : Addr} {fd__law_glow : PySem.FuncData} (F__law_glow : TopF K mg (sx "_law_glow") s__law_glow a__law_glow fd__law_glow)
    {a__law_from : Addr} {fd__law_from : PySem.FuncData} (F__law_from : TopF K mg (sx "_law_from") s__law_from a__law_from fd__law_from)
    {a__law_burn : Addr} {fd__law_burn : PySem.FuncData} (F__law_burn : TopF K mg (sx "_law_burn") s__law_burn a__law_burn fd__law_burn)
    {a__law_times : Addr} {fd__law_times : PySem.FuncData} (F__law_times : TopF K mg (sx "_law_times") s__law_times a__law_times fd__law_times)
    {a_is_lit : Addr} {fd_is_lit : PySem.FuncData} (F_is_lit : TopF K mg (sx "is_lit") s_is_lit a_is_lit fd_is_lit)
    {a_is_between : Addr} {fd_is_between : PySem.FuncData} (F_is_between : TopF K mg (sx "is_between") s_is_between a_is_between fd_is_between)
    {a_wrong_light : Addr} {fd_wrong_light : PySem.FuncData} (F_wrong_light : TopF K mg (sx "wrong_light") s_wrong_light a_wrong_light fd_wrong_light)
    {a_check_lamp : Addr} {fd_check_lamp : PySem.FuncData} (F_check_lamp : TopF K mg (sx "check_lamp") s_check_lamp a_check_lamp fd_check_lamp)
    {a_check_minute : Addr} {fd_check_minute : PySem.FuncData} (F_check_minute : TopF K mg (sx "check_minute") s_check_minute a_check_minute fd_check_minute)
    {a_lit_by : Addr} {fd_lit_by : PySem.FuncData} (F_lit_by : TopF K mg (sx "lit_by") s_lit_by a_lit_by fd_lit_by)
    {a_is_integer : Addr} {fd_is_integer : PySem.FuncData} (F_is_integer : TopF K mg (sx "is_integer") s_is_integer a_is_integer fd_is_integer)
    {C_Lamp a_Lamp___init__ : Addr} {fd_Lamp___init__ : PySem.FuncData} (F_Lamp : ClsF K mg "Lamp" C_Lamp) (F_Lamp___init__ : L2.Fun K "__init__" "Lamp.__init__" s_Lamp___init__ a_Lamp___init__ fd_Lamp___init__) (M_Lamp : L2.Mk K C_Lamp a_Lamp___init__) (A_Lamp : AllS (fun f => L2.NoAttr K C_Lamp (sx f)) k_Lamp.flds)
    (m_Lamp_Lamp : PySem.W.mroIn K C_Lamp (.ref C_Lamp) = some ("Lamp" == "Lamp" || k_Lamp.above.contains "Lamp"))
    (tk1 : PySem.W.specialIn K (.builtin "object.__class__") "__get__" = some (some (.builtin "getset_descriptor.__get__"))) (tk2 : PySem.W.takesIn K (.builtin "object.__class__") = some true)
    (bi : AllS (fun x => PySem.W.nsIn K PySem.mainGlobals (sx x) = some none) ("isinstance" :: "range" :: "enumerate" :: "zip" :: "repr" :: (builtins ++ types)))
    (gl : AllS (fun p : String × D => ∃ v u, mg (sx p.1) = some u ∧ L2.RelV v u ∧ ∀ ρ Y H, Rep K (fun c => [("Lamp", C_Lamp)].lookup c) Y ρ H p.2 v) gls) :
    Sta P (fun c => [("Lamp", C_Lamp)].lookup c) dfs clss kws mts K mg := by
  have cinv : ∀ c C, (fun c => [("Lamp", C_Lamp)].lookup c) c = some C → (c, C) ∈ [("Lamp", C_Lamp)] := fun c C h => look_mem h
  refine ⟨rfl, fun x d hx => gl.mem _ (look_mem hx), fun x hx => PySem.W.mg_none_of X G (bi.mem x hx), ?_, ?_, ?_, ?_, ?_, ?_, ?_, ?_, ?_, ?_, ?_, ?_⟩
  · refine fun x hx => AllS.mem (p := fun x => ∃ f fd ps, mg (sx x) = some (.ref f) ∧ PySem.W.keepIn K (.ref f) = true ∧ All fd ps ∧ DefS P dfs clss kws mts K x f fd ps false) (l := dfs) ?_ x hx
    exact ⟨⟨a_law, fd_law, ["_law_script"], F_law.mg, F_law.F.kp, all_of F_law.F (fun _ _ _ _ _ _ us hl => match us, hl with | [_], _ => rfl), defS_of F_law.F cc_law f_law sc_law p_law rfl rfl cs_law rfl rfl rfl rfl rfl (fun z => by cases z)⟩,
      ⟨a__law_right, fd__law_right, ["_law_wick_here"], F__law_right.mg, F__law_right.F.kp, all_of F__law_right.F (fun _ _ _ _ _ _ us hl => match us, hl with | [_], _ => rfl), defS_of F__law_right.F cc__law_right f__law_right sc__law_right p__law_right rfl rfl cs__law_right rfl rfl rfl rfl rfl (fun z => by cases z)⟩,
      ⟨a__law_wick, fd__law_wick, ["_law_script", "_law_at"], F__law_wick.mg, F__law_wick.F.kp, all_of F__law_wick.F (fun _ _ _ _ _ _ us hl => match us, hl with | [_, _], _ => rfl), defS_of F__law_wick.F cc__law_wick f__law_wick sc__law_wick p__law_wick rfl rfl cs__law_wick rfl rfl rfl rfl rfl (fun z => by cases z)⟩,
      ⟨a__law_size, fd__law_size, ["_law_wick_here"], F__law_size.mg, F__law_size.F.kp, all_of F__law_size.F (fun _ _ _ _ _ _ us hl => match us, hl with | [_], _ => rfl), defS_of F__law_size.F cc__law_size f__law_size sc__law_size p__law_size rfl rfl cs__law_size rfl rfl rfl rfl rfl (fun z => by cases z)⟩,
      ⟨a__law_glow, fd__law_glow, ["_law_wick_here", "_law_size_here", "_law_most_here"], F__law_glow.mg, F__law_glow.F.kp, all_of F__law_glow.F (fun _ _ _ _ _ _ us hl => match us, hl with | [_, _, _], _ => rfl), defS_of F__law_glow.F cc__law_glow f__law_glow sc__law_glow p__law_glow rfl rfl cs__law_glow rfl rfl rfl rfl rfl (fun z => by cases z)⟩,
      ⟨a__law_from, fd__law_from, ["_law_wick_here", "_law_some"], F__law_from.mg, F__law_from.F.kp, all_of F__law_from.F (fun _ _ _ _ _ _ us hl => match us, hl with | [_, _], _ => rfl), defS_of F__law_from.F cc__law_from f__law_from sc__law_from p__law_from rfl rfl cs__law_from rfl rfl rfl rfl rfl (fun z => by cases z)⟩,
      ⟨a__law_burn, fd__law_burn, ["_law_wick_here", "_law_many"], F__law_burn.mg, F__law_burn.F.kp, all_of F__law_burn.F (fun _ _ _ _ _ _ us hl => match us, hl with | [_, _], _ => rfl), defS_of F__law_burn.F cc__law_burn f__law_burn sc__law_burn p__law_burn rfl rfl cs__law_burn rfl rfl rfl rfl rfl (fun z => by cases z)⟩,
      ⟨a__law_times, fd__law_times, ["_law_wick_here", "_law_size_here", "_law_shine", "_law_turned"], F__law_times.mg, F__law_times.F.kp, all_of F__law_times.F (fun _ _ _ _ _ _ us hl => match us, hl with | [_, _, _, _], _ => rfl), defS_of F__law_times.F cc__law_times f__law_times sc__law_times p__law_times rfl rfl cs__law_times rfl rfl rfl rfl rfl (fun z => by cases z)⟩,
      ⟨a_is_lit, fd_is_lit, ["lamp", "phase", "minute"], F_is_lit.mg, F_is_lit.F.kp, all_of F_is_lit.F (fun _ _ _ _ _ _ us hl => match us, hl with | [_, _, _], _ => rfl), defS_of F_is_lit.F cc_is_lit f_is_lit sc_is_lit p_is_lit rfl rfl cs_is_lit rfl rfl rfl rfl rfl (fun z => by cases z)⟩,
      ⟨a_is_between, fd_is_between, ["value", "low", "high"], F_is_between.mg, F_is_between.F.kp, all_of F_is_between.F (fun _ _ _ _ _ _ us hl => match us, hl with | [_, _, _], _ => rfl), defS_of F_is_between.F cc_is_between f_is_between sc_is_between p_is_between rfl rfl cs_is_between rfl rfl rfl rfl rfl (fun z => by cases z)⟩,
      ⟨a_wrong_light, fd_wrong_light, ["period", "lights"], F_wrong_light.mg, F_wrong_light.F.kp, all_of F_wrong_light.F (fun _ _ _ _ _ _ us hl => match us, hl with | [_, _], _ => rfl), defS_of F_wrong_light.F cc_wrong_light f_wrong_light sc_wrong_light p_wrong_light rfl rfl cs_wrong_light rfl rfl rfl rfl rfl (fun z => by cases z)⟩,
      ⟨a_check_lamp, fd_check_lamp, ["value"], F_check_lamp.mg, F_check_lamp.F.kp, all_of F_check_lamp.F (fun _ _ _ _ _ _ us hl => match us, hl with | [_], _ => rfl), defS_of F_check_lamp.F cc_check_lamp f_check_lamp sc_check_lamp p_check_lamp rfl rfl cs_check_lamp rfl rfl rfl rfl rfl (fun z => by cases z)⟩,
      ⟨a_check_minute, fd_check_minute, ["minute"], F_check_minute.mg, F_check_minute.F.kp, all_of F_check_minute.F (fun _ _ _ _ _ _ us hl => match us, hl with | [_], _ => rfl), defS_of F_check_minute.F cc_check_minute f_check_minute sc_check_minute p_check_minute rfl rfl cs_check_minute rfl rfl rfl rfl rfl (fun z => by cases z)⟩,
      ⟨a_lit_by, fd_lit_by, ["lamp", "phase", "minute"], F_lit_by.mg, F_lit_by.F.kp, all_of F_lit_by.F (fun _ _ _ _ _ _ us hl => match us, hl with | [_, _, _], _ => rfl), defS_of F_lit_by.F cc_lit_by f_lit_by sc_lit_by p_lit_by rfl rfl cs_lit_by rfl rfl rfl rfl rfl (fun z => by cases z)⟩,
      ⟨a_is_integer, fd_is_integer, ["value"], F_is_integer.mg, F_is_integer.F.kp, all_of F_is_integer.F (fun _ _ _ _ _ _ us hl => match us, hl with | [_], _ => rfl), defS_of F_is_integer.F cc_is_integer f_is_integer sc_is_integer p_is_integer rfl rfl cs_is_integer rfl rfl rfl rfl rfl (fun z => by cases z)⟩, trivial⟩
  · refine fun x hx => AllS.mem (p := fun c => ∃ C f fd ps kc y, (fun c => [("Lamp", C_Lamp)].lookup c) c = some C ∧ mg (sx c) = some (.ref C) ∧ L2.Cls K C ∧ L2.Mk K C f ∧ All fd ps ∧ P.cl c = some kc ∧ kc.init = some y ∧ DefS P dfs clss kws mts K y f fd ps true) (l := clss) ?_ x hx
    exact ⟨⟨C_Lamp, a_Lamp___init__, fd_Lamp___init__, ["self", "period", "lights"], k_Lamp, "Lamp.__init__", rfl, F_Lamp.mg, F_Lamp.cls, M_Lamp, all_of F_Lamp___init__ (fun _ _ _ _ _ _ us hl => match us, hl with | [_, _, _], _ => rfl), pc_Lamp, rfl, defS_of F_Lamp___init__ cc_Lamp___init__ f_Lamp___init__ sc_Lamp___init__ p_Lamp___init__ rfl rfl cs_Lamp___init__ rfl rfl rfl rfl rfl (fun _ => by decide)⟩, trivial⟩
  · refine fun x n ks h1 h2 => AllS.mem (p := fun t : String × Nat × List String => t.1 ∈ dfs → ∃ f fd ps c, mg (sx t.1) = some (.ref f) ∧ PySem.W.keepIn K (.ref f) = true ∧ P.fn t.1 = some c ∧ AllK fd ps c.ps 0 t.2.1 t.2.2 ∧ DefS P dfs clss kws mts K t.1 f fd ps false) (l := kws) ?_ (x, n, ks) h1 h2
    exact ⟨fun _ => ⟨a_is_lit, fd_is_lit, ["lamp", "phase", "minute"], f_is_lit, F_is_lit.mg, F_is_lit.F.kp, p_is_lit, allK_of F_is_lit.F (fun _ _ _ _ _ _ us ws hl hw => match us, ws, hl, hw with | [], [w0, w1, w2], _, _ => ⟨[w2, w1, w0], by rfl, by rfl⟩), defS_of F_is_lit.F cc_is_lit f_is_lit sc_is_lit p_is_lit rfl rfl cs_is_lit rfl rfl rfl rfl rfl (fun z => by cases z)⟩, trivial⟩
  · refine fun x n ks h1 h2 => AllS.mem (p := fun t : String × Nat × List String => t.1 ∈ clss → ∃ C f fd ps kc y c, (fun c => [("Lamp", C_Lamp)].lookup c) t.1 = some C ∧ mg (sx t.1) = some (.ref C) ∧ L2.Mk K C f ∧ P.cl t.1 = some kc ∧ kc.init = some y ∧ P.fn y = some c ∧ AllK fd ps (c.ps.drop 1) 1 t.2.1 t.2.2 ∧ DefS P dfs clss kws mts K y f fd ps true) (l := kws) ?_ (x, n, ks) h1 h2
    exact ⟨fun h => absurd h (by decide), trivial⟩
  · intro c kc C m q hm hk hC hq
    cases hm
  · intro c kc C hk hC
    have hm := cinv _ _ hC
    simp only [List.mem_cons, List.not_mem_nil, or_false, Prod.mk.injEq] at hm
    rcases hm with ⟨rfl, rfl⟩
    · rw [pc_Lamp] at hk; cases hk; exact ⟨F_Lamp.cls, fun f hf => A_Lamp.mem f hf⟩
  · intro c C hC _
    have hm := cinv _ _ hC
    simp only [List.mem_cons, List.not_mem_nil, or_false, Prod.mk.injEq] at hm
    rcases hm with ⟨rfl, rfl⟩
    · exact ⟨F_Lamp.cls, F_Lamp.dc, tk1, tk2, F_Lamp.ob⟩
  · intro a c C ha _ hC
    have hm := cinv _ _ hC
    simp only [List.mem_cons, List.not_mem_nil, or_false, Prod.mk.injEq] at hm
    rcases hm with ⟨rfl, rfl⟩
    · exact kit_bt F_Lamp.ic F_Lamp.ty a ha
  · intro c C t hC _ ht
    have hm := cinv _ _ hC
    simp only [List.mem_cons, List.not_mem_nil, or_false, Prod.mk.injEq] at hm
    rcases hm with ⟨rfl, rfl⟩
    · exact kit_cb ht (F_Lamp.no t ht)
  · intro c C t T hC hT ht kc hk
    have hm := cinv _ _ hC
    have hn := cinv _ _ hT
    simp only [List.mem_cons, List.not_mem_nil, or_false, Prod.mk.injEq] at hm hn
    rcases hm with ⟨rfl, rfl⟩ <;> rcases hn with ⟨rfl, rfl⟩
    · rw [pc_Lamp] at hk; cases hk; exact kit_cc F_Lamp.ic F_Lamp.ty m_Lamp_Lamp (fun _ => by decide)
  · intro c kc C f q hm hk hC hq
    have hm2 := cinv _ _ hC
    simp only [List.mem_cons, List.not_mem_nil, or_false, Prod.mk.injEq] at hm2
    rcases hm2 with ⟨rfl, rfl⟩
    · rw [pc_Lamp] at hk; cases hk
      refine AllS.mem (p := fun t : String × String => ("@" ++ t.1) ∈ mts → ∃ p fn fd ps, L2.Cls K C ∧ L2.PropOf K C (sx t.1) p fn ∧ All fd ps ∧ DefS P dfs clss kws mts K t.2 fn fd ps false) (l := k_Lamp.props) ?_ (f, q) (look_mem hq) hm
      exact ⟨fun hm => absurd hm (by decide),
        fun hm => absurd hm (by decide),
        fun hm => absurd hm (by decide), trivial⟩
  · intro c hm
    exact absurd hm (bang_no _ (by decide))
set_option maxHeartbeats 0 in
theorem fin {pr : PySem.Program} {w : PySem.World} {K : Kx} {h : Heap} {mg : Str → Option Value} {fa : Addr} {n : Nat} (X : K.In h) (G : h.Ns PySem.mainGlobals mg) (hfa : mg (sx "law") = some (.ref fa))
    {a_law : Addr} {oc_law : Value} {od_law an_law : Option Addr} {sl_law : Array (Option Value)} {kV_law dc_law pm_law cd_law ct_law : Value} (e_law : PySem.W.nsIn K PySem.mainGlobals (sx "law") = some (some (.ref a_law))) (l_law : K.lookup a_law = some ⟨oc_law, od_law, .func (PySem.W.fnOf (sx "law") (sx "law") (L2.defArgs s_law) (L2.defBody s_law) (L2.defScope s_law) .none kV_law dc_law pm_law an_law cd_law ct_law), sl_law⟩) (c_law : PySem.W.codeIn K cd_law (sx "law") = true) (k_law : PySem.W.keepIn K (.ref a_law) = true)
    {a__law_right : Addr} {oc__law_right : Value} {od__law_right an__law_right : Option Addr} {sl__law_right : Array (Option Value)} {kV__law_right dc__law_right pm__law_right cd__law_right ct__law_right : Value} (e__law_right : PySem.W.nsIn K PySem.mainGlobals (sx "_law_right") = some (some (.ref a__law_right))) (l__law_right : K.lookup a__law_right = some ⟨oc__law_right, od__law_right, .func (PySem.W.fnOf (sx "_law_right") (sx "_law_right") (L2.defArgs s__law_right) (L2.defBody s__law_right) (L2.defScope s__law_right) .none kV__law_right dc__law_right pm__law_right an__law_right cd__law_right ct__law_right), sl__law_right⟩) (c__law_right : PySem.W.codeIn K cd__law_right (sx "_law_right") = true) (k__law_right : PySem.W.keepIn K (.ref a__law_right) = true)
    {a__law_wick : Addr} {oc__law_wick : Value} {od__law_wick an__law_wick : Option Addr} {sl__law_wick : Array (Option Value)} {kV__law_wick dc__law_wick pm__law_wick cd__law_wick ct__law_wick : Value} (e__law_wick : PySem.W.nsIn K PySem.mainGlobals (sx "_law_wick") = some (some (.ref a__law_wick))) (l__law_wick : K.lookup a__law_wick = some ⟨oc__law_wick, od__law_wick, .func (PySem.W.fnOf (sx "_law_wick") (sx "_law_wick") (L2.defArgs s__law_wick) (L2.defBody s__law_wick) (L2.defScope s__law_wick) .none kV__law_wick dc__law_wick pm__law_wick an__law_wick cd__law_wick ct__law_wick), sl__law_wick⟩) (c__law_wick : PySem.W.codeIn K cd__law_wick (sx "_law_wick") = true) (k__law_wick : PySem.W.keepIn K (.ref a__law_wick) = true)
    {a__law_size : Addr} {oc__law_size : Value} {od__law_size an__law_size : Option Addr} {sl__law_size : Array (Option Value)} {kV__law_size dc__law_size pm__law_size cd__law_size ct__law_size : Value} (e__law_size : PySem.W.nsIn K PySem.mainGlobals (sx "_law_size") = some (some (.ref a__law_size))) (l__law_size : K.lookup a__law_size = some ⟨oc__law_size, od__law_size, .func (PySem.W.fnOf (sx "_law_size") (sx "_law_size") (L2.defArgs s__law_size) (L2.defBody s__law_size) (L2.defScope s__law_size) .none kV__law_size dc__law_size pm__law_size an__law_size cd__law_size ct__law_size), sl__law_size⟩) (c__law_size : PySem.W.codeIn K cd__law_size (sx "_law_size") = true) (k__law_size : PySem.W.keepIn K (.ref a__law_size) = true)
    {a__law_glow : Addr} {oc__law_glow : Value} {od__law_glow an__law_glow : Option Addr} {sl__law_glow : Array (Option Value)} {kV__law_glow dc__law_glow pm__law_glow cd__law_glow ct__law_glow : Value} (e__law_glow : PySem.W.nsIn K PySem.mainGlobals (sx "_law_glow") = some (some (.ref a__law_glow))) (l__law_glow : K.lookup a__law_glow = some ⟨oc__law_glow, od__law_glow, .func (PySem.W.fnOf (sx "_law_glow") (sx "_law_glow") (L2.defArgs s__law_glow) (L2.defBody s__law_glow) (L2.defScope s__law_glow) .none kV__law_glow dc__law_glow pm__law_glow an__law_glow cd__law_glow ct__law_glow), sl__law_glow⟩) (c__law_glow : PySem.W.codeIn K cd__law_glow (sx "_law_glow") = true) (k__law_glow : PySem.W.keepIn K (.ref a__law_glow) = true)
    {a__law_from : Addr} {oc__law_from : Value} {od__law_from an__law_from : Option Addr} {sl__law_from : Array (Option Value)} {kV__law_from dc__law_from pm__law_from cd__law_from ct__law_from : Value} (e__law_from : PySem.W.nsIn K PySem.mainGlobals (sx "_law_from") = some (some (.ref a__law_from))) (l__law_from : K.lookup a__law_from = some ⟨oc__law_from, od__law_from, .func (PySem.W.fnOf (sx "_law_from") (sx "_law_from") (L2.defArgs s__law_from) (L2.defBody s__law_from) (L2.defScope s__law_from) .none kV__law_from dc__law_from pm__law_from an__law_from cd__law_from ct__law_from), sl__law_from⟩) (c__law_from : PySem.W.codeIn K cd__law_from (sx "_law_from") = true) (k__law_from : PySem.W.keepIn K (.ref a__law_from) = true)
    {a__law_burn : Addr} {oc__law_burn : Value} {od__law_burn an__law_burn : Option Addr} {sl__law_burn : Array (Option Value)} {kV__law_burn dc__law_burn pm__law_burn cd__law_burn ct__law_burn : Value} (e__law_burn : PySem.W.nsIn K PySem.mainGlobals (sx "_law_burn") = some (some (.ref a__law_burn))) (l__law_burn : K.lookup a__law_burn = some ⟨oc__law_burn, od__law_burn, .func (PySem.W.fnOf (sx "_law_burn") (sx "_law_burn") (L2.defArgs s__law_burn) (L2.defBody s__law_burn) (L2.defScope s__law_burn) .none kV__law_burn dc__law_burn pm__law_burn an__law_burn cd__law_burn ct__law_burn), sl__law_burn⟩) (c__law_burn : PySem.W.codeIn K cd__law_burn (sx "_law_burn") = true) (k__law_burn : PySem.W.keepIn K (.ref a__law_burn) = true)
    {a__law_times : Addr} {oc__law_times : Value} {od__law_times an__law_times : Option Addr} {sl__law_times : Array (Option Value)} {kV__law_times dc__law_times pm__law_times cd__law_times ct__law_times : Value} (e__law_times : PySem.W.nsIn K PySem.mainGlobals (sx "_law_times") = some (some (.ref a__law_times))) (l__law_times : K.lookup a__law_times = some ⟨oc__law_times, od__law_times, .func (PySem.W.fnOf (sx "_law_times") (sx "_law_times") (L2.defArgs s__law_times) (L2.defBody s__law_times) (L2.defScope s__law_times) .none kV__law_times dc__law_times pm__law_times an__law_times cd__law_times ct__law_times), sl__law_times⟩) (c__law_times : PySem.W.codeIn K cd__law_times (sx "_law_times") = true) (k__law_times : PySem.W.keepIn K (.ref a__law_times) = true)
    {a_is_lit : Addr} {oc_is_lit : Value} {od_is_lit an_is_lit : Option Addr} {sl_is_lit : Array (Option Value)} {kV_is_lit dc_is_lit pm_is_lit cd_is_lit ct_is_lit : Value} (e_is_lit : PySem.W.nsIn K PySem.mainGlobals (sx "is_lit") = some (some (.ref a_is_lit))) (l_is_lit : K.lookup a_is_lit = some ⟨oc_is_lit, od_is_lit, .func (PySem.W.fnOf (sx "is_lit") (sx "is_lit") (L2.defArgs s_is_lit) (L2.defBody s_is_lit) (L2.defScope s_is_lit) .none kV_is_lit dc_is_lit pm_is_lit an_is_lit cd_is_lit ct_is_lit), sl_is_lit⟩) (c_is_lit : PySem.W.codeIn K cd_is_lit (sx "is_lit") = true) (k_is_lit : PySem.W.keepIn K (.ref a_is_lit) = true)
    {a_is_between : Addr} {oc_is_between : Value} {od_is_between an_is_between : Option Addr} {sl_is_between : Array (Option Value)} {kV_is_between dc_is_between pm_is_between cd_is_between ct_is_between : Value} (e_is_between : PySem.W.nsIn K PySem.mainGlobals (sx "is_between") = some (some (.ref a_is_between))) (l_is_between : K.lookup a_is_between = some ⟨oc_is_between, od_is_between, .func (PySem.W.fnOf (sx "is_between") (sx "is_between") (L2.defArgs s_is_between) (L2.defBody s_is_between) (L2.defScope s_is_between) .none kV_is_between dc_is_between pm_is_between an_is_between cd_is_between ct_is_between), sl_is_between⟩) (c_is_between : PySem.W.codeIn K cd_is_between (sx "is_between") = true) (k_is_between : PySem.W.keepIn K (.ref a_is_between) = true)
    {a_wrong_light : Addr} {oc_wrong_light : Value} {od_wrong_light an_wrong_light : Option Addr} {sl_wrong_light : Array (Option Value)} {kV_wrong_light dc_wrong_light pm_wrong_light cd_wrong_light ct_wrong_light : Value} (e_wrong_light : PySem.W.nsIn K PySem.mainGlobals (sx "wrong_light") = some (some (.ref a_wrong_light))) (l_wrong_light : K.lookup a_wrong_light = some ⟨oc_wrong_light, od_wrong_light, .func (PySem.W.fnOf (sx "wrong_light") (sx "wrong_light") (L2.defArgs s_wrong_light) (L2.defBody s_wrong_light) (L2.defScope s_wrong_light) .none kV_wrong_light dc_wrong_light pm_wrong_light an_wrong_light cd_wrong_light ct_wrong_light), sl_wrong_light⟩) (c_wrong_light : PySem.W.codeIn K cd_wrong_light (sx "wrong_light") = true) (k_wrong_light : PySem.W.keepIn K (.ref a_wrong_light) = true)
    {a_check_lamp : Addr} {oc_check_lamp : Value} {od_check_lamp an_check_lamp : Option Addr} {sl_check_lamp : Array (Option Value)} {kV_check_lamp dc_check_lamp pm_check_lamp cd_check_lamp ct_check_lamp : Value} (e_check_lamp : PySem.W.nsIn K PySem.mainGlobals (sx "check_lamp") = some (some (.ref a_check_lamp))) (l_check_lamp : K.lookup a_check_lamp = some ⟨oc_check_lamp, od_check_lamp, .func (PySem.W.fnOf (sx "check_lamp") (sx "check_lamp") (L2.defArgs s_check_lamp) (L2.defBody s_check_lamp) (L2.defScope s_check_lamp) .none kV_check_lamp dc_check_lamp pm_check_lamp an_check_lamp cd_check_lamp ct_check_lamp), sl_check_lamp⟩) (c_check_lamp : PySem.W.codeIn K cd_check_lamp (sx "check_lamp") = true) (k_check_lamp : PySem.W.keepIn K (.ref a_check_lamp) = true)
    {a_check_minute : Addr} {oc_check_minute : Value} {od_check_minute an_check_minute : Option Addr} {sl_check_minute : Array (Option Value)} {kV_check_minute dc_check_minute pm_check_minute cd_check_minute ct_check_minute : Value} (e_check_minute : PySem.W.nsIn K PySem.mainGlobals (sx "check_minute") = some (some (.ref a_check_minute))) (l_check_minute : K.lookup a_check_minute = some ⟨oc_check_minute, od_check_minute, .func (PySem.W.fnOf (sx "check_minute") (sx "check_minute") (L2.defArgs s_check_minute) (L2.defBody s_check_minute) (L2.defScope s_check_minute) .none kV_check_minute dc_check_minute pm_check_minute an_check_minute cd_check_minute ct_check_minute), sl_check_minute⟩) (c_check_minute : PySem.W.codeIn K cd_check_minute (sx "check_minute") = true) (k_check_minute : PySem.W.keepIn K (.ref a_check_minute) = true)
    {a_lit_by : Addr} {oc_lit_by : Value} {od_lit_by an_lit_by : Option Addr} {sl_lit_by : Array (Option Value)} {kV_lit_by dc_lit_by pm_lit_by cd_lit_by ct_lit_by : Value} (e_lit_by : PySem.W.nsIn K PySem.mainGlobals (sx "lit_by") = some (some (.ref a_lit_by))) (l_lit_by : K.lookup a_lit_by = some ⟨oc_lit_by, od_lit_by, .func (PySem.W.fnOf (sx "lit_by") (sx "lit_by") (L2.defArgs s_lit_by) (L2.defBody s_lit_by) (L2.defScope s_lit_by) .none kV_lit_by dc_lit_by pm_lit_by an_lit_by cd_lit_by ct_lit_by), sl_lit_by⟩) (c_lit_by : PySem.W.codeIn K cd_lit_by (sx "lit_by") = true) (k_lit_by : PySem.W.keepIn K (.ref a_lit_by) = true)
    {a_is_integer : Addr} {oc_is_integer : Value} {od_is_integer an_is_integer : Option Addr} {sl_is_integer : Array (Option Value)} {kV_is_integer dc_is_integer pm_is_integer cd_is_integer ct_is_integer : Value} (e_is_integer : PySem.W.nsIn K PySem.mainGlobals (sx "is_integer") = some (some (.ref a_is_integer))) (l_is_integer : K.lookup a_is_integer = some ⟨oc_is_integer, od_is_integer, .func (PySem.W.fnOf (sx "is_integer") (sx "is_integer") (L2.defArgs s_is_integer) (L2.defBody s_is_integer) (L2.defScope s_is_integer) .none kV_is_integer dc_is_integer pm_is_integer an_is_integer cd_is_integer ct_is_integer), sl_is_integer⟩) (c_is_integer : PySem.W.codeIn K cd_is_integer (sx "is_integer") = true) (k_is_integer : PySem.W.keepIn K (.ref a_is_integer) = true)
    {C_Lamp : Addr} {a_Lamp___init__ : Addr} {oc_Lamp___init__ : Value} {od_Lamp___init__ an_Lamp___init__ : Option Addr} {sl_Lamp___init__ : Array (Option Value)} {kV_Lamp___init__ dc_Lamp___init__ pm_Lamp___init__ cd_Lamp___init__ ct_Lamp___init__ : Value} (e_Lamp : PySem.W.nsIn K PySem.mainGlobals (sx "Lamp") = some (some (.ref C_Lamp))) (pg_Lamp : PySem.W.plainGet K C_Lamp Str.empty = true) (hd_Lamp : PySem.W.hasDictIn K C_Lamp = true) (po_Lamp : PySem.W.plainOver K C_Lamp = true) (sa_Lamp : PySem.W.findIn K (.ref C_Lamp) "__setattr__" = some (some (.builtin "object.__setattr__")))
    (ic_Lamp : PySem.W.isClsIn K C_Lamp = true) (ty_Lamp : PySem.W.typeIn K (.ref C_Lamp) = some (.type "type")) (dc_Lamp : PySem.W.findIn K (.ref C_Lamp) "__class__" = some (some (.builtin "object.__class__"))) (ob_Lamp : PySem.W.mroIn K C_Lamp (.type "object") = some true)
    (n0_Lamp : PySem.W.mroIn K C_Lamp (.type "int") = some false) (n1_Lamp : PySem.W.mroIn K C_Lamp (.type "bool") = some false) (n2_Lamp : PySem.W.mroIn K C_Lamp (.type "str") = some false) (n3_Lamp : PySem.W.mroIn K C_Lamp (.type "tuple") = some false) (n4_Lamp : PySem.W.mroIn K C_Lamp (.type "list") = some false) (n5_Lamp : PySem.W.mroIn K C_Lamp (.type "dict") = some false)
    (mm_Lamp : PySem.W.makesIn K C_Lamp = true) (mi_Lamp : PySem.W.findIn K (.ref C_Lamp) "__init__" = some (some (.ref a_Lamp___init__))) (mf_Lamp : PySem.W.isFn K (.ref a_Lamp___init__) = true) (mk_Lamp : PySem.W.keepIn K (.ref C_Lamp) = true) (l_Lamp___init__ : K.lookup a_Lamp___init__ = some ⟨oc_Lamp___init__, od_Lamp___init__, .func (PySem.W.fnOf "__init__"  "Lamp.__init__"  (L2.defArgs s_Lamp___init__) (L2.defBody s_Lamp___init__) (L2.defScope s_Lamp___init__) .none kV_Lamp___init__ dc_Lamp___init__ pm_Lamp___init__ an_Lamp___init__ cd_Lamp___init__ ct_Lamp___init__), sl_Lamp___init__⟩) (c_Lamp___init__ : PySem.W.codeIn K cd_Lamp___init__ "Lamp.__init__"  = true) (k_Lamp___init__ : PySem.W.keepIn K (.ref a_Lamp___init__) = true)
    (no_Lamp_on : PySem.W.findIn K (.ref C_Lamp) (sx "on") = some none) (no_Lamp_round : PySem.W.findIn K (.ref C_Lamp) (sx "round") = some none)
    (m_Lamp_Lamp : PySem.W.mroIn K C_Lamp (.ref C_Lamp) = some ("Lamp" == "Lamp" || k_Lamp.above.contains "Lamp"))
    (tk1 : PySem.W.specialIn K (.builtin "object.__class__") "__get__" = some (some (.builtin "getset_descriptor.__get__"))) (tk2 : PySem.W.takesIn K (.builtin "object.__class__") = some true)
    (bi0 : PySem.W.nsIn K PySem.mainGlobals (sx "isinstance") = some none)
    (bi1 : PySem.W.nsIn K PySem.mainGlobals (sx "range") = some none)
    (bi2 : PySem.W.nsIn K PySem.mainGlobals (sx "enumerate") = some none)
    (bi3 : PySem.W.nsIn K PySem.mainGlobals (sx "zip") = some none)
    (bi4 : PySem.W.nsIn K PySem.mainGlobals (sx "repr") = some none)
    (bi5 : PySem.W.nsIn K PySem.mainGlobals (sx "len") = some none)
    (bi6 : PySem.W.nsIn K PySem.mainGlobals (sx "tuple") = some none)
    (bi7 : PySem.W.nsIn K PySem.mainGlobals (sx "list") = some none)
    (bi8 : PySem.W.nsIn K PySem.mainGlobals (sx "sorted") = some none)
    (bi9 : PySem.W.nsIn K PySem.mainGlobals (sx "sum") = some none)
    (bi10 : PySem.W.nsIn K PySem.mainGlobals (sx "any") = some none)
    (bi11 : PySem.W.nsIn K PySem.mainGlobals (sx "all") = some none)
    (bi12 : PySem.W.nsIn K PySem.mainGlobals (sx "max") = some none)
    (bi13 : PySem.W.nsIn K PySem.mainGlobals (sx "min") = some none)
    (bi14 : PySem.W.nsIn K PySem.mainGlobals (sx "abs") = some none)
    (bi15 : PySem.W.nsIn K PySem.mainGlobals (sx "int") = some none)
    (bi16 : PySem.W.nsIn K PySem.mainGlobals (sx "divmod") = some none)
    (bi17 : PySem.W.nsIn K PySem.mainGlobals (sx "int") = some none)
    (bi18 : PySem.W.nsIn K PySem.mainGlobals (sx "bool") = some none)
    (bi19 : PySem.W.nsIn K PySem.mainGlobals (sx "str") = some none)
    (bi20 : PySem.W.nsIn K PySem.mainGlobals (sx "tuple") = some none)
    (bi21 : PySem.W.nsIn K PySem.mainGlobals (sx "list") = some none)
    (bi22 : PySem.W.nsIn K PySem.mainGlobals (sx "dict") = some none)
    {t_MOST_MINUTE : PySem.Tok} (gl_MOST_MINUTE : PySem.W.nsIn K PySem.mainGlobals (sx "MOST_MINUTE") = some (some (g_MOST_MINUTE t_MOST_MINUTE)))
    {t_MOST_PERIOD : PySem.Tok} (gl_MOST_PERIOD : PySem.W.nsIn K PySem.mainGlobals (sx "MOST_PERIOD") = some (some (g_MOST_PERIOD t_MOST_PERIOD)))
    {t_MOST_LIGHTS : PySem.Tok} (gl_MOST_LIGHTS : PySem.W.nsIn K PySem.mainGlobals (sx "MOST_LIGHTS") = some (some (g_MOST_LIGHTS t_MOST_LIGHTS)))
    {t_DIGITS : PySem.Tok} (gl_DIGITS : PySem.W.nsIn K PySem.mainGlobals (sx "DIGITS") = some (some (g_DIGITS t_DIGITS)))
    (hrun : ∀ ns : List Int, ns.length ≤ 63 → ∃ F S', (cm P F (n + 1)).call "law" [.lst (ns.map .int)] [] = some (.ok (.bl true, .v), S')) :
    ∃ fd : PySem.FuncData, (∀ (s : PySem.Shared) (u : Value), PySem.BindsTo s fd ⟨[u], []⟩ [("_law_script", u)]) ∧ ∀ base : Heap, K.In base → base.Ns PySem.mainGlobals mg → FnG pr w K mg base (2 * n + 2) fa fd ["_law_script"] (spLaw K) := by
  have e := hfa.symm.trans (PySem.W.mg_of X G e_law)
  cases e
  have F_law := L2.fun_mk (st := s_law) l_law c_law k_law
  have F__law_right := L2.fun_mk (st := s__law_right) l__law_right c__law_right k__law_right
  have F__law_wick := L2.fun_mk (st := s__law_wick) l__law_wick c__law_wick k__law_wick
  have F__law_size := L2.fun_mk (st := s__law_size) l__law_size c__law_size k__law_size
  have F__law_glow := L2.fun_mk (st := s__law_glow) l__law_glow c__law_glow k__law_glow
  have F__law_from := L2.fun_mk (st := s__law_from) l__law_from c__law_from k__law_from
  have F__law_burn := L2.fun_mk (st := s__law_burn) l__law_burn c__law_burn k__law_burn
  have F__law_times := L2.fun_mk (st := s__law_times) l__law_times c__law_times k__law_times
  have F_is_lit := L2.fun_mk (st := s_is_lit) l_is_lit c_is_lit k_is_lit
  have F_is_between := L2.fun_mk (st := s_is_between) l_is_between c_is_between k_is_between
  have F_wrong_light := L2.fun_mk (st := s_wrong_light) l_wrong_light c_wrong_light k_wrong_light
  have F_check_lamp := L2.fun_mk (st := s_check_lamp) l_check_lamp c_check_lamp k_check_lamp
  have F_check_minute := L2.fun_mk (st := s_check_minute) l_check_minute c_check_minute k_check_minute
  have F_lit_by := L2.fun_mk (st := s_lit_by) l_lit_by c_lit_by k_lit_by
  have F_is_integer := L2.fun_mk (st := s_is_integer) l_is_integer c_is_integer k_is_integer
  have F_Lamp___init__ := L2.fun_mk (st := s_Lamp___init__) l_Lamp___init__ c_Lamp___init__ k_Lamp___init__
  have F_Lamp := clsF (c := "Lamp") X G e_Lamp pg_Lamp hd_Lamp po_Lamp sa_Lamp ic_Lamp ty_Lamp dc_Lamp ob_Lamp n0_Lamp n1_Lamp n2_Lamp n3_Lamp n4_Lamp n5_Lamp
  have s := sta X G
    (F_law := ⟨PySem.W.mg_of X G e_law, F_law⟩)
    (F__law_right := ⟨PySem.W.mg_of X G e__law_right, F__law_right⟩)
    (F__law_wick := ⟨PySem.W.mg_of X G e__law_wick, F__law_wick⟩)
    (F__law_size := ⟨PySem.W.mg_of X G e__law_size, F__law_size⟩)
    (F__law_glow := ⟨PySem.W.mg_of X G e__law_glow, F__law_glow⟩)
    (F__law_from := ⟨PySem.W.mg_of X G e__law_from, F__law_from⟩)
    (F__law_burn := ⟨PySem.W.mg_of X G e__law_burn, F__law_burn⟩)
    (F__law_times := ⟨PySem.W.mg_of X G e__law_times, F__law_times⟩)
    (F_is_lit := ⟨PySem.W.mg_of X G e_is_lit, F_is_lit⟩)
    (F_is_between := ⟨PySem.W.mg_of X G e_is_between, F_is_between⟩)
    (F_wrong_light := ⟨PySem.W.mg_of X G e_wrong_light, F_wrong_light⟩)
    (F_check_lamp := ⟨PySem.W.mg_of X G e_check_lamp, F_check_lamp⟩)
    (F_check_minute := ⟨PySem.W.mg_of X G e_check_minute, F_check_minute⟩)
    (F_lit_by := ⟨PySem.W.mg_of X G e_lit_by, F_lit_by⟩)
    (F_is_integer := ⟨PySem.W.mg_of X G e_is_integer, F_is_integer⟩)
    (F_Lamp := F_Lamp) (F_Lamp___init__ := F_Lamp___init__) (M_Lamp := ⟨mm_Lamp, mi_Lamp, mf_Lamp, mk_Lamp⟩) (A_Lamp := ⟨no_Lamp_on, no_Lamp_round, trivial⟩)
    (m_Lamp_Lamp := m_Lamp_Lamp)
    (tk1 := tk1) (tk2 := tk2) (bi := ⟨bi0, bi1, bi2, bi3, bi4, bi5, bi6, bi7, bi8, bi9, bi10, bi11, bi12, bi13, bi14, bi15, bi16, bi17, bi18, bi19, bi20, bi21, bi22, trivial⟩)
    (gl := ⟨gl_int X G gl_MOST_MINUTE, gl_int X G gl_MOST_PERIOD, gl_int X G gl_MOST_LIGHTS, gl_str X G gl_DIGITS, trivial⟩)
  exact ⟨PySem.W.fnOf (sx "law") (sx "law") (L2.defArgs s_law) (L2.defBody s_law) (L2.defScope s_law) .none kV_law dc_law pm_law an_law cd_law ct_law, fun s v => .of_eq rfl, fun base _ _ => law_all s (defS_of F_law cc_law f_law sc_law p_law rfl rfl cs_law rfl rfl rfl rfl rfl (fun z => by cases z)) hrun⟩
end K10
end Dk
end
/-! W0 -/
section
set_option maxRecDepth 100000
set_option linter.all false
/-! Wishes of runs of the small language: each construct gives its part; for the pure half of a proof. -/
namespace Dk
/-- the run ends well, as wished -/
def Wp0 {α : Type} (m : Ot α) (Q : α → Env → Sto → Prop) : Prop := ∃ a E S, m = some (.ok a, E, S) ∧ Q a E S
def Wc0 {α : Type} (m : Option (Res α × Sto)) (Q : α → Sto → Prop) : Prop := ∃ a S, m = some (.ok a, S) ∧ Q a S
def WO0 {α : Type} (m : Option α) (k : α → Prop) : Prop := ∃ a, m = some a ∧ k a
def WG0 (o : Option (Option (D × Bool))) (k : D → Fl → Prop) : Prop := ∃ d b, o = some (some (d, b)) ∧ k d (if b then .p else .v)
def WT0 (o : Option Bool) (k : Bool → Prop) : Prop := ∃ b, o = some b ∧ k b
def WI0 (d : D) (k : Int → Prop) : Prop := ∃ i, d = .int i ∧ k i
def WB0 (d : D) (k : Bool → Prop) : Prop := ∃ i, d = .bl i ∧ k i
theorem wi_int_0 {i : Int} {k : Int → Prop} : WI0 (.int i) k = k i := by simp [WI0]
theorem wb_bl_0 {i : Bool} {k : Bool → Prop} : WB0 (.bl i) k = k i := by simp [WB0]
section
variable {α β : Type}
theorem wp_ok_0 {a : α} {E : Env} {S : Sto} {Q : α → Env → Sto → Prop} : Wp0 (some (.ok a, E, S)) Q = Q a E S :=
  propext ⟨fun ⟨_, _, _, e, q⟩ => by cases e; exact q, fun q => ⟨_, _, _, rfl, q⟩⟩
theorem wc_ok_0 {a : α} {S : Sto} {Q : α → Sto → Prop} : Wc0 (some (.ok a, S)) Q = Q a S :=
  propext ⟨fun ⟨_, _, e, q⟩ => by cases e; exact q, fun q => ⟨_, _, rfl, q⟩⟩
theorem wo_some_0 {a : α} {k : α → Prop} : WO0 (some a) k = k a := propext ⟨fun ⟨_, e, q⟩ => by cases e; exact q, fun q => ⟨_, rfl, q⟩⟩
theorem wo_if_0 {c : Prop} [Decidable c] {a : α} {k : α → Prop} : WO0 (if c then some a else none) k = (c ∧ k a) := by
  by_cases h : c
  · simp only [h, if_true, wo_some_0, true_and]
  · simp only [h, if_false, false_and, eq_iff_iff, iff_false]; rintro ⟨_, e, _⟩; cases e
theorem wg_v_0 {d : D} {k : D → Fl → Prop} : WG0 (some (some (d, false))) k = k d .v := propext ⟨fun ⟨_, _, e, q⟩ => by cases e; exact q, fun q => ⟨_, _, rfl, q⟩⟩
theorem wg_p_0 {d : D} {k : D → Fl → Prop} : WG0 (some (some (d, true))) k = k d .p := propext ⟨fun ⟨_, _, e, q⟩ => by cases e; exact q, fun q => ⟨_, _, rfl, q⟩⟩
theorem wt_some_0 {b : Bool} {k : Bool → Prop} : WT0 (some b) k = k b := propext ⟨fun ⟨_, e, q⟩ => by cases e; exact q, fun q => ⟨_, rfl, q⟩⟩
theorem wp_bnd_0 {m : Ot α} {f : α → Env → Sto → Ot β} {Q : β → Env → Sto → Prop} : Wp0 (bnd m f) Q = Wp0 m (fun a E S => Wp0 (f a E S) Q) := by
  refine propext ⟨fun ⟨b, E, S, e, q⟩ => ?_, fun ⟨a, E, S, e, b, E', S', e', q⟩ => ⟨b, E', S', by rw [e]; exact e', q⟩⟩
  unfold bnd at e
  split at e
  · exact ⟨_, _, _, rfl, b, E, S, e, q⟩
  · cases e
  · cases e
theorem wp_opt_0 {m : Option α} {f : α → Ot β} {Q : β → Env → Sto → Prop} : Wp0 (opt m f) Q = WO0 m (fun a => Wp0 (f a) Q) := by
  refine propext ⟨fun ⟨b, E, S, e, q⟩ => ?_, fun ⟨a, e, b, E', S', e', q⟩ => ⟨b, E', S', by rw [e]; exact e', q⟩⟩
  unfold opt at e
  split at e
  · exact ⟨_, rfl, b, E, S, e, q⟩
  · cases e
theorem wp_callM_0 {m : Option (Res (D × Fl) × Sto)} {E : Env} {Q : D × Fl → Env → Sto → Prop} : Wp0 (callM m E) Q = Wc0 m (fun r S => Q r E S) := by
  refine propext ⟨fun ⟨b, E', S, e, q⟩ => ?_, fun ⟨a, S, e, q⟩ => ⟨a, E, S, by rw [e]; rfl, q⟩⟩
  unfold callM at e
  split at e
  · cases e; exact ⟨_, _, rfl, q⟩
  · cases e
  · cases e
theorem wp_makeM_0 {m : Option (Res D × Sto)} {E : Env} {Q : D × Fl → Env → Sto → Prop} : Wp0 (makeM m E) Q = Wc0 m (fun r S => Q (r, .v) E S) := by
  refine propext ⟨fun ⟨b, E', S, e, q⟩ => ?_, fun ⟨a, S, e, q⟩ => ⟨(a, .v), E, S, by rw [e]; rfl, q⟩⟩
  unfold makeM at e
  split at e
  · cases e; exact ⟨_, _, rfl, q⟩
  · cases e
  · cases e
end

section
variable {P : Prg} {K : Calls} {MK : String → List D → Sto → Option (Res D × Sto)} {E : Env} {S : Sto} {Q : D × Fl → Env → Sto → Prop} {a b c o i lo hi e : CE} {es : CEs}
theorem w_k_0 {d : D} : Wp0 (ev P K MK (.k d) E S) Q = Q (d, .v) E S := by simp only [ev, wp_ok_0]
theorem w_loc_0 {i : Nat} : Wp0 (ev P K MK (.loc i) E S) Q = WG0 E[i]? (fun d f => Q (d, f) E S) := by
  simp only [ev]
  refine propext ⟨fun ⟨x, E', S', h, q⟩ => ?_, fun ⟨d, b, h, q⟩ => ⟨_, _, _, by rw [h], q⟩⟩
  split at h
  · cases h; exact ⟨_, _, by assumption, q⟩
  · cases h
theorem w_glob_0 {x : String} : Wp0 (ev P K MK (.glob x) E S) Q = WO0 (P.gl x) (fun d => Q (d, .v) E S) := by
  simp only [ev]
  refine propext ⟨fun ⟨y, E', S', h, q⟩ => ?_, fun ⟨d, h, q⟩ => ⟨_, _, _, by rw [h], q⟩⟩
  split at h
  · cases h; exact ⟨_, by assumption, q⟩
  · cases h
theorem w_bin_0 {p : Bop} : Wp0 (ev P K MK (.bin p a b) E S) Q = Wp0 (ev P K MK a E S) (fun x E S => Wp0 (ev P K MK b E S) fun y E S => WO0 (rf a x E) fun x => WO0 (binD p (lookC x.1 S) (lookC y.1 S)) fun r => Q r E S) := by
  simp only [ev, wp_bnd_0, wp_opt_0, wp_ok_0]
theorem w_neg_0 : Wp0 (ev P K MK (.neg a) E S) Q = Wp0 (ev P K MK a E S) (fun x E S => WI0 x.1 fun i => Q (.int (-i), .v) E S) := by
  simp only [ev, wp_bnd_0]
  congr 1; funext x E S
  refine propext ⟨fun ⟨y, E', S', h, q⟩ => ?_, fun ⟨i, h, q⟩ => ⟨_, _, _, by rw [h], q⟩⟩
  split at h
  · cases h; exact ⟨_, by assumption, q⟩
  · cases h
theorem w_not_0 : Wp0 (ev P K MK (.not a) E S) Q = Wp0 (ev P K MK a E S) (fun x E S => WO0 (truth x.1) fun b => Q (.bl (!b), .v) E S) := by simp only [ev, wp_bnd_0, wp_opt_0, wp_ok_0]
theorem w_and_0 : Wp0 (ev P K MK (.and a b) E S) Q = Wp0 (ev P K MK a E S) (fun x E S => Wp0 (andV x (ev P K MK b E S) E S) Q) := by simp only [ev, wp_bnd_0]
theorem w_or_0 : Wp0 (ev P K MK (.or a b) E S) Q = Wp0 (ev P K MK a E S) (fun x E S => Wp0 (orV x (ev P K MK b E S) E S) Q) := by simp only [ev, wp_bnd_0]
theorem w_cmp_0 {p : Cop} : Wp0 (ev P K MK (.cmp p a b) E S) Q = Wp0 (ev P K MK a E S) (fun x E S => Wp0 (ev P K MK b E S) fun y E S => WO0 (rf a x E) fun x => WO0 (cmpD p x.1 y.1) fun r => Q (.bl r, .v) E S) := by
  simp only [ev, wp_bnd_0, wp_opt_0, wp_ok_0, cmpO]
theorem w_chain_0 {p p' : Cop} : Wp0 (ev P K MK (.chain p p' a b c) E S) Q = Wp0 (ev P K MK a E S) (fun x E S => Wp0 (ev P K MK b E S) fun y E S => WO0 (rf a x E) fun x => WO0 (one y) fun y => WO0 (cmpD p x.1 y) fun r =>
    Wp0 (if r then bnd (ev P K MK c E S) fun z E S => opt (cmpD p' y z.1) fun r => some (.ok (.bl r, .v), E, S) else some (.ok (.bl false, .v), E, S)) Q) := by
  simp only [ev, wp_bnd_0, wp_opt_0]
theorem w_chain2_0 {p' : Cop} {y : D} : Wp0 (bnd (ev P K MK c E S) fun z E S => opt (cmpD p' y z.1) fun r => some (.ok (.bl r, .v), E, S)) Q = Wp0 (ev P K MK c E S) (fun z E S => WO0 (cmpD p' y z.1) fun r => Q (.bl r, .v) E S) := by
  simp only [wp_bnd_0, wp_opt_0, wp_ok_0]
theorem w_ife_0 : Wp0 (ev P K MK (.ife c a b) E S) Q = Wp0 (tst P K MK c E S) (fun t E S => Wp0 (if t then ev P K MK a E S else ev P K MK b E S) Q) := by simp only [ev, wp_bnd_0]
theorem w_tup_0 : Wp0 (ev P K MK (.tup es) E S) Q = Wp0 (evs P K MK es E S) (fun l E S => WO0 (notP l) fun l => Q (.tup l, .v) E S) := by simp only [ev, wp_bnd_0, wp_opt_0, wp_ok_0]
theorem w_lst_0 : Wp0 (ev P K MK (.lst es) E S) Q = Wp0 (evs P K MK es E S) (fun l E S => WO0 (notP l) fun l => Q (.lst l, .f) E S) := by simp only [ev, wp_bnd_0, wp_opt_0, wp_ok_0]
theorem w_dct0_0 : Wp0 (ev P K MK (.dct .nil .nil) E S) Q = Q (.dct [], .f) E S := by simp only [ev, wp_ok_0]
theorem w_newcell_0 : Wp0 (ev P K MK (.newcell es) E S) Q = Wp0 (evs P K MK es E S) (fun l E S => WO0 (notP l) fun l => Q (.cell S.length, .v) E (S ++ [.lst l])) := by simp only [ev, wp_bnd_0, wp_opt_0, wp_ok_0]
theorem w_call_0 {f : String} : Wp0 (ev P K MK (.call f es) E S) Q = Wp0 (evs P K MK es E S) (fun l E S => WO0 (notP l) fun l => Wc0 (K f l S) fun r S => Q r E S) := by simp only [ev, wp_bnd_0, wp_opt_0, wp_callM_0]
theorem w_make_0 {f : String} : Wp0 (ev P K MK (.make f es) E S) Q = Wp0 (evs P K MK es E S) (fun l E S => WO0 (notP l) fun l => Wc0 (MK f l S) fun r S => Q (r, .v) E S) := by simp only [ev, wp_bnd_0, wp_opt_0, wp_makeM_0]
theorem w_bi_0 {f : String} : Wp0 (ev P K MK (.bi f es) E S) Q = Wp0 (evs P K MK es E S) (fun l E S => WO0 (callD f (l.map (·.1))) fun r => Q r E S) := by simp only [ev, wp_bnd_0, wp_opt_0, wp_ok_0]
theorem w_isi_0 {t : String} {own : Bool} : Wp0 (ev P K MK (.isi a t own) E S) Q = Wp0 (ev P K MK a E S) (fun x E S => WO0 (isiD P x.1 S t own) fun b => Q (.bl b, .v) E S) := by simp only [ev, wp_bnd_0, wp_opt_0, wp_ok_0]
theorem w_idx_0 : Wp0 (ev P K MK (.idx o i) E S) Q = Wp0 (ev P K MK o E S) (fun x E S => Wp0 (ev P K MK i E S) fun y E S => WO0 (rf o x E) fun x => WO0 (idxD (lookC x.1 S) y.1) fun d => Q (d, .v) E S) := by simp only [ev, wp_bnd_0, wp_opt_0, wp_ok_0]
theorem w_sl_0 : Wp0 (ev P K MK (.sl o lo hi) E S) Q = Wp0 (ev P K MK o E S) (fun x E S => Wp0 (ev P K MK lo E S) fun a E S => Wp0 (ev P K MK hi E S) fun b E S => WO0 (rf o x E) fun x => WO0 (boundO lo a.1) fun l => WO0 (boundO hi b.1) fun u => WO0 (sliceD x.1 l u) fun r => Q r E S) := by
  simp only [ev, wp_bnd_0, wp_opt_0, wp_ok_0]
/-- an attribute of a value -/
def attrD (P : Prg) (d : D) (S : Sto) (f : String) : Option D := (insC d S).bind fun cf => (P.cl cf.1).bind fun kc => match kc.props.lookup f with
  | some _ => none
  | none => if kc.flds.contains f then cf.2.lookup f else none
theorem w_attr_0 {f : String} : Wp0 (ev P K MK (.attr a f) E S) Q = Wp0 (ev P K MK a E S) (fun x E S => WO0 (attrD P x.1 S f) fun d => Q (d, .v) E S) := by
  simp only [ev, wp_bnd_0]
  congr 1; funext x E S
  unfold attrD
  cases h1 : insC x.1 S with
  | none => simp [opt, WO0, Wp0]
  | some cf =>
    cases h2 : P.cl cf.1 with
    | none => simp [opt, WO0, Wp0, h2]
    | some kc =>
      simp only [opt, h2, Option.bind_some]
      cases hl : kc.props.lookup f with
      | some v => simp [WO0, Wp0]
      | none =>
        by_cases hc : kc.flds.contains f = true
        · simp only [hc, if_true]
          cases hd : cf.2.lookup f with
          | none => simp [WO0, Wp0]
          | some d => simp only [wp_ok_0, wo_some_0]
        · simp only [hc]; simp [WO0, Wp0]
theorem w_lc_0 {elt : CE} {tg : Tg} {it : CI} {cond : CEs} : Wp0 (ev P K MK (.lc elt tg it cond) E S) Q = Wp0 (itr P K MK it E S) (fun g E S => clearE E (slots tg) = true ∧
      Wp0 (lcL (slots tg) (tgt tg) (conds P K MK cond) (fun E S acc => bnd (ev P K MK elt E S) (pushL acc)) g [] E S) fun l E' S => Q (.lst l, .f) (backE E E' (slots tg)) S) := by
  simp only [ev, wp_bnd_0]
  congr 1; funext x E S
  by_cases h : clearE E (slots tg) = true
  · simp only [h, if_true, wp_bnd_0, wp_ok_0, true_and]
  · simp [h, Wp0]
theorem w_lco_0 {elt : CE} {tg : Tg} {i : Nat} {cond : CEs} : Wp0 (ev P K MK (.lco elt tg i cond) E S) Q = WO0 (ownL E[i]?) (fun l => (clearE E (slots tg) && !(slots tg).contains i) = true ∧
      Wp0 (lcL (slots tg) (tgt tg) (conds P K MK cond) (fun E S acc => bnd (ev P K MK elt E S) (pushL acc)) l [] (E.set i none) S) fun r E' S' => Q (.lst r, .f) ((backE (E.set i none) E' (slots tg)).set i (some (.lst l, true))) S') := by
  simp only [ev, wp_opt_0]
  congr 1; funext l
  by_cases h : (clearE E (slots tg) && !(slots tg).contains i) = true
  · simp only [h, if_true, wp_bnd_0, wp_ok_0, true_and]
  · rw [if_neg h]
    refine propext ⟨fun ⟨_, _, _, e, _⟩ => (by cases e), fun z => absurd z.1 h⟩
theorem w_lc2_0 {elt : CE} {tg tg1 : Tg} {it it1 : CI} {cond cond1 : CEs} : Wp0 (ev P K MK (.lc2 elt tg it cond tg1 it1 cond1) E S) Q = Wp0 (itr P K MK it E S) (fun g E S => clearE E (slots tg ++ slots tg1) = true ∧
      Wp0 (lcL (slots tg ++ slots tg1) (tgt tg) (conds P K MK cond) (fun E S acc => bnd (itr P K MK it1 E S) fun g1 E S => lcL (slots tg1) (tgt tg1) (conds P K MK cond1) (fun E S acc => bnd (ev P K MK elt E S) (pushL acc)) g1 acc E S) g [] E S) fun l E' S' => Q (.lst l, .f) (backE E E' (slots tg ++ slots tg1)) S') := by
  simp only [ev, wp_bnd_0]
  congr 1; funext x E S
  by_cases h : clearE E (slots tg ++ slots tg1) = true
  · simp only [h, if_true, wp_bnd_0, wp_ok_0, true_and]
  · simp [h, Wp0]
theorem w_bm_0 {m : String} : Wp0 (ev P K MK (.bm o m es) E S) Q = Wp0 (ev P K MK o E S) (fun x E S => WO0 (one x) fun d => Wp0 (evs P K MK es E S) fun l E S => WO0 (notP l) fun l => WO0 (methD d m l) fun r => Q r E S) := by
  simp only [ev, wp_bnd_0, wp_opt_0, wp_ok_0]
theorem w_sls_0 {n : Nat} {st : Int} : Wp0 (ev P K MK (.sls o n st) E S) Q = Wp0 (ev P K MK o E S) (fun x E S => WO0 (stepD (lookC x.1 S) n st) fun r => Q r E S) := by
  simp only [ev, wp_bnd_0, wp_opt_0, wp_ok_0]
theorem w_dctp_0 {r : CEs} : Wp0 (ev P K MK (.dct (.cons a r) .nil) E S) Q = Wp0 (evd P K MK (.cons a r) E S) (fun ps E S => ps.length ≤ 15 ∧ Q (.dct (ps.foldl (fun l p => putD p.1 p.2 l) []), .f) E S) := by
  simp only [ev, wp_bnd_0]
  congr 1; funext ps E S
  by_cases h : ps.length ≤ 15
  · simp only [h, if_true, wp_ok_0, true_and]
  · simp [h, Wp0]
theorem wd_nil_0 {Q : List (D × D) → Env → Sto → Prop} : Wp0 (evd P K MK .nil E S) Q = Q [] E S := by simp only [evd, wp_ok_0]
theorem wd_cons_0 {r : CEs} {Q : List (D × D) → Env → Sto → Prop} : Wp0 (evd P K MK (.cons a (.cons b r)) E S) Q = Wp0 (ev P K MK a E S) (fun x E S => Wp0 (ev P K MK b E S) fun y E S => WO0 (one x) fun x => WO0 (one y) fun y => keyOk x = true ∧ Wp0 (evd P K MK r E S) fun l E S => Q ((x, y) :: l) E S) := by
  simp only [evd, wp_bnd_0, wp_opt_0]
  congr 1; funext x E S
  congr 1; funext y E S
  congr 1; funext x
  congr 1; funext y
  by_cases h : keyOk x = true
  · simp only [h, if_true, wp_bnd_0, wp_ok_0, true_and]
  · simp [h, Wp0]
theorem w_rpr_0 : Wp0 (ev P K MK (.rpr a) E S) Q = Wp0 (ev P K MK a E S) (fun x E S => WO0 (showN x.1) fun n => (n ≤ LIM ∧ depth x.1 ≤ 60) ∧ Q (.str (P.shw x.1), .v) E S) := by
  simp only [ev, wp_bnd_0]
  congr 1; funext x E S
  unfold reprO
  cases h : showN x.1 with
  | none => simp [WO0, Wp0]
  | some n =>
    simp only [wo_some_0]
    by_cases hc : n ≤ LIM ∧ depth x.1 ≤ 60
    · simp only [hc, and_self, if_true, wp_ok_0, true_and]
    · rw [if_neg hc]
      exact propext ⟨fun ⟨_, _, _, e, _⟩ => (by cases e), fun z => absurd z.1 hc⟩
theorem w_prop_0 {f : String} : Wp0 (ev P K MK (.prop a f) E S) Q = Wp0 (ev P K MK a E S) (fun x E S => WO0 (one x) fun d => WO0 (propF P d S f) fun g => Wc0 (K g [d] S) fun r S => Q r E S) := by simp only [ev, wp_bnd_0, wp_opt_0, wp_callM_0]
theorem w_dcs_0 : Wp0 (ev P K MK (.dcs a b c) E S) Q = Wp0 (ev P K MK a E S) (fun x E S => Wp0 (ev P K MK b E S) fun y E S => Wp0 (ev P K MK c E S) fun z E S => WO0 (one y) fun y => WO0 (one z) fun z => WO0 (overD x y z) fun l => Q (.dct l, .f) E S) := by
  simp only [ev, wp_bnd_0, wp_opt_0, wp_ok_0]
theorem w_mk0_0 {f : String} : Wp0 (ev P K MK (.mk0 f) E S) Q = WO0 (bare P f) (fun d => Q (d, .v) E S) := by simp only [ev, wp_opt_0, wp_ok_0]
theorem w_frz_0 {i : Nat} : Wp0 (ev P K MK (.frz i) E S) Q = WG0 E[i]? (fun d _ => Q (d, .v) (setE E i (d, false)) S) := by
  simp only [ev]
  refine propext ⟨fun ⟨x, E', S', h, q⟩ => ?_, fun ⟨d, b, h, q⟩ => ⟨_, _, _, by rw [h], q⟩⟩
  split at h
  · cases h; exact ⟨_, _, by assumption, q⟩
  · cases h
theorem ws_nil_0 {Q : List (D × Fl) → Env → Sto → Prop} : Wp0 (evs P K MK .nil E S) Q = Q [] E S := by simp only [evs, wp_ok_0]
/-- a list of values goes on -/
def consF (x : D × Fl) (es : CEs) (m : Ot (List (D × Fl))) (E : Env) (S : Sto) : Ot (List (D × Fl)) := match x.2, es with
    | .p, .nil => some (.ok [x], E, S)
    | .p, _ => none
    | _, _ => bnd m fun xs E S => some (.ok ((x.1, .v) :: xs), E, S)
theorem ws_cons_0 {Q : List (D × Fl) → Env → Sto → Prop} : Wp0 (evs P K MK (.cons e es) E S) Q = Wp0 (ev P K MK e E S) (fun x E S => Wp0 (consF x es (evs P K MK es E S) E S) Q) := by
  simp only [evs, wp_bnd_0]
  congr 1; funext x E S
  obtain ⟨d, fl⟩ := x
  cases fl <;> cases es <;> simp only [consF]
theorem ws_v_0 {d : D} {m : Ot (List (D × Fl))} {Q : List (D × Fl) → Env → Sto → Prop} : Wp0 (consF (d, .v) es m E S) Q = Wp0 m (fun xs E S => Q ((d, .v) :: xs) E S) := by simp only [consF, wp_bnd_0, wp_ok_0]
theorem ws_f_0 {d : D} {m : Ot (List (D × Fl))} {Q : List (D × Fl) → Env → Sto → Prop} : Wp0 (consF (d, .f) es m E S) Q = Wp0 m (fun xs E S => Q ((d, .v) :: xs) E S) := by simp only [consF, wp_bnd_0, wp_ok_0]
theorem ws_p_0 {d : D} {m : Ot (List (D × Fl))} {Q : List (D × Fl) → Env → Sto → Prop} : Wp0 (consF (d, .p) .nil m E S) Q = Q [(d, .p)] E S := by simp only [consF, wp_ok_0]
end
/-! ### tests -/
section
variable {P : Prg} {K : Calls} {MK : String → List D → Sto → Option (Res D × Sto)} {E : Env} {S : Sto} {Q : Bool → Env → Sto → Prop} {a b c o i lo hi e : CE} {es : CEs}
theorem wt_not_0 : Wp0 (tst P K MK (.not a) E S) Q = Wp0 (tst P K MK a E S) (fun b E S => Q (!b) E S) := by simp only [tst, wp_bnd_0, wp_ok_0]
theorem wt_and_0 : Wp0 (tst P K MK (.and a b) E S) Q = Wp0 (tst P K MK a E S) (fun t E S => Wp0 (if t then tst P K MK b E S else some (.ok false, E, S)) Q) := by simp only [tst, wp_bnd_0]
theorem wt_or_0 : Wp0 (tst P K MK (.or a b) E S) Q = Wp0 (tst P K MK a E S) (fun t E S => Wp0 (if t then some (.ok true, E, S) else tst P K MK b E S) Q) := by simp only [tst, wp_bnd_0]
theorem wt_k_0 {d : D} : Wp0 (tst P K MK (.k d) E S) Q = WO0 (truth d) (fun b => Q b E S) := by simp only [tst, wp_bnd_0, wp_opt_0, wp_ok_0, w_k_0]
theorem wt_loc_0 {j : Nat} : Wp0 (tst P K MK (.loc j) E S) Q = Wp0 (ev P K MK (.loc j) E S) (fun x E S => WO0 (truth x.1) fun b => Q b E S) := by simp only [tst, wp_bnd_0, wp_opt_0, wp_ok_0]
theorem wt_glob_0 {x : String} : Wp0 (tst P K MK (.glob x) E S) Q = Wp0 (ev P K MK (.glob x) E S) (fun x E S => WO0 (truth x.1) fun b => Q b E S) := by simp only [tst, wp_bnd_0, wp_opt_0, wp_ok_0]
theorem wt_bin_0 {p : Bop} : Wp0 (tst P K MK (.bin p a b) E S) Q = Wp0 (ev P K MK (.bin p a b) E S) (fun x E S => WO0 (truth x.1) fun b => Q b E S) := by simp only [tst, wp_bnd_0, wp_opt_0, wp_ok_0]
theorem wt_cmp_0 {p : Cop} : Wp0 (tst P K MK (.cmp p a b) E S) Q = Wp0 (ev P K MK (.cmp p a b) E S) (fun x E S => WO0 (truth x.1) fun b => Q b E S) := by simp only [tst, wp_bnd_0, wp_opt_0, wp_ok_0]
theorem wt_chain_0 {p p' : Cop} : Wp0 (tst P K MK (.chain p p' a b c) E S) Q = Wp0 (ev P K MK (.chain p p' a b c) E S) (fun x E S => WO0 (truth x.1) fun b => Q b E S) := by simp only [tst, wp_bnd_0, wp_opt_0, wp_ok_0]
theorem wt_call_0 {f : String} : Wp0 (tst P K MK (.call f es) E S) Q = Wp0 (ev P K MK (.call f es) E S) (fun x E S => WO0 (truth x.1) fun b => Q b E S) := by simp only [tst, wp_bnd_0, wp_opt_0, wp_ok_0]
theorem wt_bi_0 {f : String} : Wp0 (tst P K MK (.bi f es) E S) Q = Wp0 (ev P K MK (.bi f es) E S) (fun x E S => WO0 (truth x.1) fun b => Q b E S) := by simp only [tst, wp_bnd_0, wp_opt_0, wp_ok_0]
theorem wt_isi_0 {t : String} {own : Bool} : Wp0 (tst P K MK (.isi a t own) E S) Q = Wp0 (ev P K MK (.isi a t own) E S) (fun x E S => WO0 (truth x.1) fun b => Q b E S) := by simp only [tst, wp_bnd_0, wp_opt_0, wp_ok_0]
theorem wt_idx_0 : Wp0 (tst P K MK (.idx o i) E S) Q = Wp0 (ev P K MK (.idx o i) E S) (fun x E S => WO0 (truth x.1) fun b => Q b E S) := by simp only [tst, wp_bnd_0, wp_opt_0, wp_ok_0]
theorem wt_attr_0 {f : String} : Wp0 (tst P K MK (.attr o f) E S) Q = Wp0 (ev P K MK (.attr o f) E S) (fun x E S => WO0 (truth x.1) fun b => Q b E S) := by simp only [tst, wp_bnd_0, wp_opt_0, wp_ok_0]
theorem wc_nil_0 : Wp0 (conds P K MK .nil E S) Q = Q true E S := by simp only [conds, wp_ok_0]
theorem wc_one_0 : Wp0 (conds P K MK (.cons c .nil) E S) Q = Wp0 (tst P K MK c E S) Q := by simp only [conds]
end
/-! ### what is walked -/
def enumO (x : D × Fl) : Option (List D) := match x.1 with
  | .lst l => if x.2 = .p then none else some (enumL 0 l)
  | .tup l => some (enumL 0 l)
  | _ => none
section
variable {P : Prg} {K : Calls} {MK : String → List D → Sto → Option (Res D × Sto)} {E : Env} {S : Sto} {Q : List D → Env → Sto → Prop} {a b : CE}
theorem wi_seq_0 : Wp0 (itr P K MK (.seq a) E S) Q = Wp0 (ev P K MK a E S) (fun x E S => WO0 (seqItems x) fun r => Q r E S) := by simp only [itr, wp_bnd_0, wp_opt_0, wp_ok_0]
theorem wi_rng_0 : Wp0 (itr P K MK (.rng a) E S) Q = Wp0 (ev P K MK a E S) (fun x E S => WI0 x.1 fun i => Q (rngL 0 i) E S) := by
  simp only [itr, wp_bnd_0]
  congr 1; funext x E S
  obtain ⟨d, fl⟩ := x
  cases d with
  | int t => simp only [wp_ok_0, wi_int_0]
  | _ => simp [WI0, Wp0]
theorem wi_rng2_0 : Wp0 (itr P K MK (.rng2 a b) E S) Q = Wp0 (ev P K MK a E S) (fun x E S => Wp0 (ev P K MK b E S) fun y E S => WI0 x.1 fun i => WI0 y.1 fun j => Q (rngL i j) E S) := by
  simp only [itr, wp_bnd_0]
  congr 1; funext x E S
  congr 1; funext y E S
  obtain ⟨d, fl⟩ := x
  obtain ⟨d2, fl2⟩ := y
  cases d with
  | int t => cases d2 with
    | int u => simp only [wp_ok_0, wi_int_0]
    | _ => simp [WI0, Wp0]
  | _ => simp [WI0, Wp0]
theorem wi_enum_0 : Wp0 (itr P K MK (.enum a) E S) Q = Wp0 (ev P K MK a E S) (fun x E S => WO0 (enumO x) fun r => Q r E S) := by
  simp only [itr, wp_bnd_0]
  congr 1; funext x E S
  obtain ⟨d, fl⟩ := x
  cases d with
  | lst l => cases fl <;> simp [enumO, wp_ok_0, wo_some_0] <;> simp [WO0, Wp0]
  | tup l => simp [enumO, wp_ok_0, wo_some_0]
  | _ => simp [enumO, WO0, Wp0]
end
/-! ### statements -/
def nxt (r : Out) (m : Ot Out) (E : Env) (S : Sto) : Ot Out := match r with
  | .nx => m
  | .ret x => some (.ok (.ret x), E, S)
/-- an item of a thing takes a value -/
def subS (o : CE) (ov iv : D × Fl) (d : D) (E : Env) (S : Sto) : Ot Unit := match ov, o, iv.1 with
    | (.cell n, .v), _, .int j => match S[n]? with
      | some (.lst l) => opt (putAt l j d) fun l' => some (.ok (), E, S.set n (.lst l'))
      | _ => none
    | (.lst _, .p), .loc k, .int j => match E[k]? with
      | some (some (.lst l, true)) => opt (putAt l j d) fun l' => some (.ok (), setE E k (.lst l', true), S)
      | _ => none
    | (.dct _, .p), .loc k, key => match E[k]? with
      | some (some (.dct l, true)) => if keyOk key ∧ l.length < LIM then some (.ok (), setE E k (.dct (putD key d l), true), S) else none
      | _ => none
    | _, _, _ => none
def fldS (P : Prg) (o : CE) (ov : D × Fl) (f : String) (d : D) (E : Env) (S : Sto) : Ot Unit := match ov, o with
    | (.ins _ _, .p), .loc k => match E[k]? with
      | some (some (.ins c fs, true)) => if fldOk P c f && decide (fs.length < 100) then some (.ok (), setE E k (.ins c (setF f d fs), true), S) else none
      | _ => none
    | (.cell n, .v), _ => match S[n]? with
      | some (.ins c fs) => if fldOk P c f && decide (fs.length < 100) then some (.ok (), E, S.set n (.ins c (setF f d fs))) else none
      | _ => none
    | _, _ => none
def endQ (Q : D × Fl → Sto → Prop) (o : Out) (S : Sto) : Prop := match o with
  | .nx => Q (.non, .v) S
  | .ret x => Q x S
section
variable {P : Prg} {K : Calls} {MK : String → List D → Sto → Option (Res D × Sto)} {W : Nat} {own : List Nat} {E : Env} {S : Sto} {Q : Out → Env → Sto → Prop} {QU : Unit → Env → Sto → Prop} {o i c e : CE} {s : CS} {ss aa bb body : CSs} {tg : Tg} {it : CI} {t : CT} {x : D × Fl}
theorem wx_nil_0 : Wp0 (exs P K MK W own .nil E S) Q = Q .nx E S := by simp only [exs, wp_ok_0]
theorem wx_cons_0 : Wp0 (exs P K MK W own (.cons s ss) E S) Q = Wp0 (ex P K MK W own s E S) (fun r E S => Wp0 (nxt r (exs P K MK W own ss E S) E S) Q) := by
  simp only [exs, wp_bnd_0]
  rfl
theorem wx_nx_0 {m : Ot Out} : Wp0 (nxt .nx m E S) Q = Wp0 m Q := rfl
theorem wx_rt_0 {m : Ot Out} : Wp0 (nxt (.ret x) m E S) Q = Q (.ret x) E S := by simp only [nxt, wp_ok_0]
theorem wx_asg_0 : Wp0 (ex P K MK W own (.asg t e) E S) Q = Wp0 (ev P K MK e E S) (fun x E S => Wp0 (asgT P K MK own t x E S) fun _ E S => Q .nx E S) := by simp only [ex, wp_bnd_0, wp_ok_0]
theorem wx_expr_0 : Wp0 (ex P K MK W own (.expr e) E S) Q = Wp0 (ev P K MK e E S) (fun x E S => Q .nx E S) := by simp only [ex, wp_bnd_0, wp_ok_0]
theorem wx_ret_0 : Wp0 (ex P K MK W own (.ret e) E S) Q = Wp0 (ev P K MK e E S) (fun x E S => Q (.ret (handed x)) E S) := by simp only [ex, wp_bnd_0, wp_ok_0]
theorem wx_retN_0 : Wp0 (ex P K MK W own .retN E S) Q = Q (.ret (.non, .v)) E S := by simp only [ex, wp_ok_0]
theorem wx_pass_0 : Wp0 (ex P K MK W own .pass E S) Q = Q .nx E S := by simp only [ex, wp_ok_0]
theorem wx_ite_0 : Wp0 (ex P K MK W own (.ite c aa bb) E S) Q = Wp0 (tst P K MK c E S) (fun t E S => Wp0 (if t then exs P K MK W own aa E S else exs P K MK W own bb E S) Q) := by simp only [ex, wp_bnd_0]
theorem wx_for_0 : Wp0 (ex P K MK W own (.for_ tg it body) E S) Q = Wp0 (itr P K MK it E S) (fun g E S => Wp0 (forL (tgt tg) (exs P K MK W own body) g E S) Q) := by simp only [ex, wp_bnd_0]
theorem wx_wh_0 : Wp0 (ex P K MK W own (.wh c body) E S) Q = Wp0 (whL (tst P K MK c) (exs P K MK W own body) W E S) Q := by simp only [ex]
theorem wx_raise_0 : Wp0 (ex P K MK W own (.raise e) E S) Q = False := by
  simp only [ex, wp_bnd_0]
  refine propext ⟨?_, False.elim⟩
  rintro ⟨_, _, _, _, _, _, _, h, _⟩
  cases h
theorem wa_nm_0 {j : Nat} : Wp0 (asgT P K MK own (.nm j) x E S) QU = WO0 (asgN own j x E) (fun E' => QU () E' S) := by
  simp only [asgT]
  refine propext ⟨fun ⟨u, E', S', h, q⟩ => ?_, fun ⟨d, h, q⟩ => ⟨(), d, S, by rw [h], q⟩⟩
  split at h
  · cases h; exact ⟨_, by assumption, q⟩
  · cases h
theorem wa_tp_0 {ts : List CT} {l : List D} {fl : Fl} : Wp0 (asgT P K MK own (.tp ts) (.tup l, fl) E S) QU = Wp0 (asgT.go P K MK own ts l E S) QU := by simp only [asgT]
theorem wa_go0_0 : Wp0 (asgT.go P K MK own [] [] E S) QU = QU () E S := by simp only [asgT.go, wp_ok_0]
theorem wa_go1_0 {ts : List CT} {d : D} {l : List D} : Wp0 (asgT.go P K MK own (t :: ts) (d :: l) E S) QU = Wp0 (asgT P K MK own t (d, .v) E S) (fun _ E S => Wp0 (asgT.go P K MK own ts l E S) QU) := by simp only [asgT.go, wp_bnd_0]
theorem wa_sub_0 : Wp0 (asgT P K MK own (.sub o i) x E S) QU = Wp0 (ev P K MK o E S) (fun ov E S => Wp0 (ev P K MK i E S) fun iv E S => WO0 (one x) fun d => Wp0 (subS o ov iv d E S) QU) := by
  simp only [asgT, wp_bnd_0, wp_opt_0]; rfl
theorem wa_fld_0 {f : String} : Wp0 (asgT P K MK own (.fld o f) x E S) QU = Wp0 (ev P K MK o E S) (fun ov E S => WO0 (one x) fun d => Wp0 (fldS P o ov f d E S) QU) := by
  simp only [asgT, wp_bnd_0, wp_opt_0]; rfl
theorem wc_fnEnd_0 {m : Ot Out} {QC : D × Fl → Sto → Prop} : Wc0 (fnEnd m) QC = Wp0 m (fun o E S => endQ QC o S) := by
  refine propext ⟨fun ⟨a, S', h, q⟩ => ?_, fun ⟨o, E, S, h, q⟩ => ?_⟩
  · unfold fnEnd at h
    split at h
    · cases h; exact ⟨_, _, _, rfl, q⟩
    · cases h; exact ⟨_, _, _, rfl, q⟩
    · cases h
    · cases h
  · rw [h]
    cases o with
    | nx => exact ⟨_, _, rfl, q⟩
    | ret x => exact ⟨_, _, rfl, q⟩
theorem end_nx_0 {QC : D × Fl → Sto → Prop} : endQ QC .nx S = QC (.non, .v) S := rfl
theorem end_rt_0 {QC : D × Fl → Sto → Prop} : endQ QC (.ret x) S = QC x S := rfl
end
/-- the new instance is told -/
def insQ (cells : Bool) (Q : D → Sto → Prop) (o : Out) (E : Env) (S : Sto) : Prop := match o, E[0]? with
  | Out.nx, some (some (D.ins c fs, true)) => if cells then Q (.cell S.length) (S ++ [.ins c fs]) else Q (.ins c fs) S
  | _, _ => False
section
variable {P : Prg} {K : Calls} {MK : String → List D → Sto → Option (Res D × Sto)} {W : Nat} {own : List Nat} {E : Env} {S : Sto} {Q : D × Fl → Env → Sto → Prop} {QO : Out → Env → Sto → Prop} {QL : List D → Env → Sto → Prop} {a b o e : CE} {es ves : CEs}
theorem w_callk_0 {f : String} {ks : List String} : Wp0 (ev P K MK (.callk f es ks ves) E S) Q = Wp0 (evs P K MK es E S) (fun l E S => Wp0 (evs P K MK ves E S) fun v E S => WO0 (notP l) fun l => WO0 (notP v) fun v => WO0 (P.fn f) fun c => WO0 (arrange c.ps l ks v) fun a => Wc0 (K f a S) fun r S => Q r E S) := by simp only [ev, wp_bnd_0, wp_opt_0, wp_callM_0]
theorem w_makek_0 {f : String} {ks : List String} : Wp0 (ev P K MK (.makek f es ks ves) E S) Q = Wp0 (evs P K MK es E S) (fun l E S => Wp0 (evs P K MK ves E S) fun v E S => WO0 (notP l) fun l => WO0 (notP v) fun v => WO0 ((P.cl f).bind (·.init)) fun g => WO0 (P.fn g) fun c => WO0 (arrange (c.ps.drop 1) l ks v) fun a => Wc0 (MK f a S) fun r S => Q (r, .v) E S) := by simp only [ev, wp_bnd_0, wp_opt_0, wp_makeM_0]
theorem w_meth_0 {m : String} : Wp0 (ev P K MK (.meth o m es) E S) Q = Wp0 (ev P K MK o E S) (fun x E S => WO0 (one x) fun d => WO0 (methF P d S m) fun f => Wp0 (evs P K MK es E S) fun l E S => WO0 (notP l) fun l => Wc0 (K f (d :: l) S) fun r S => Q r E S) := by simp only [ev, wp_bnd_0, wp_opt_0, wp_callM_0]
theorem wt_callk_0 {f : String} {ks : List String} {Q : Bool → Env → Sto → Prop} : Wp0 (tst P K MK (.callk f es ks ves) E S) Q = Wp0 (ev P K MK (.callk f es ks ves) E S) (fun x E S => WO0 (truth x.1) fun b => Q b E S) := by simp only [tst, wp_bnd_0, wp_opt_0, wp_ok_0]
theorem wt_meth_0 {m : String} {Q : Bool → Env → Sto → Prop} : Wp0 (tst P K MK (.meth o m es) E S) Q = Wp0 (ev P K MK (.meth o m es) E S) (fun x E S => WO0 (truth x.1) fun b => Q b E S) := by simp only [tst, wp_bnd_0, wp_opt_0, wp_ok_0]
theorem ws_star_0 {Q : List (D × Fl) → Env → Sto → Prop} : Wp0 (evs P K MK (.star e es) E S) Q = Wp0 (ev P K MK e E S) (fun x E S => WO0 (starItems x) fun l => Wp0 (evs P K MK es E S) fun xs E S => l.length + xs.length ≤ LIM ∧ Q (l.map (fun d => (d, .v)) ++ xs) E S) := by
  simp only [evs, wp_bnd_0, wp_opt_0]
  congr 1; funext x E S
  congr 1; funext l
  congr 1; funext xs E S
  by_cases h : l.length + xs.length ≤ LIM
  · simp only [h, if_true, wp_ok_0, true_and]
  · simp [h, Wp0]
theorem wi_items_0 {P : Prg} {K : Calls} {MK : String → List D → Sto → Option (Res D × Sto)} {E : Env} {S : Sto} {Q : List D → Env → Sto → Prop} {a : CE} : Wp0 (itr P K MK (.items a) E S) Q = Wp0 (ev P K MK a E S) (fun x E S => WO0 (itemsO x) fun r => Q r E S) := by simp only [itr, wp_bnd_0, wp_opt_0, wp_ok_0]
theorem wi_zip_0 : Wp0 (itr P K MK (.zip a b) E S) QL = Wp0 (ev P K MK a E S) (fun x E S => Wp0 (ev P K MK b E S) fun y E S => WO0 (zipO x y) fun r => QL r E S) := by simp only [itr, wp_bnd_0, wp_opt_0, wp_ok_0]
theorem wx_app_0 {i : Nat} : Wp0 (ex P K MK W own (.app i e) E S) QO = WO0 (ownL E[i]?) (fun _ => Wp0 (ev P K MK e E S) fun x E S => WO0 (one x) fun d => WO0 (appO E[i]? d) fun l => QO .nx (setE E i (.lst l, true)) S) := by simp only [ex, wp_bnd_0, wp_opt_0, wp_ok_0]
theorem wx_ext_0 {i : Nat} : Wp0 (ex P K MK W own (.ext i e) E S) QO = WO0 (ownL E[i]?) (fun _ => Wp0 (ev P K MK e E S) fun x E S => WO0 (extO E[i]? x) fun l => QO .nx (setE E i (.lst l, true)) S) := by simp only [ex, wp_bnd_0, wp_opt_0, wp_ok_0]
theorem wx_par_0 {i j : Nat} : Wp0 (ex P K MK W own (.par2 i j a b) E S) QO = Wp0 (ev P K MK a E S) (fun x E S => Wp0 (ev P K MK b E S) fun y E S => WO0 (asgN own i x E) fun E1 => WO0 (asgN own j y E1) fun E2 => QO .nx E2 S) := by simp only [ex, wp_bnd_0, wp_opt_0, wp_ok_0]
end
end Dk
end
/-! W -/
section
set_option maxRecDepth 100000
set_option linter.all false
/-! Wishes of runs of the small language: each construct gives its part; for the pure half of a proof. -/
namespace Dk
/-- holds a thing fast: simp does not go into it -/
inductive Fix.{u} {β : Sort u} (x : β) : Type | mk
/-- the run ends well, as wished -/
def Wp {α : Type} (m : Ot α) (Q : α → Env → Sto → Prop) (_ : Fix Q := .mk) : Prop := Wp0 m Q
def Wc {α : Type} (m : Option (Res α × Sto)) (Q : α → Sto → Prop) (_ : Fix Q := .mk) : Prop := Wc0 m Q
def WO {α : Type} (m : Option α) (k : α → Prop) (_ : Fix k := .mk) : Prop := WO0 m k
def WG (o : Option (Option (D × Bool))) (k : D → Fl → Prop) (_ : Fix k := .mk) : Prop := WG0 o k
def WT (o : Option Bool) (k : Bool → Prop) (_ : Fix k := .mk) : Prop := WT0 o k
def WI (d : D) (k : Int → Prop) (_ : Fix k := .mk) : Prop := WI0 d k
def WB (d : D) (k : Bool → Prop) (_ : Fix k := .mk) : Prop := WB0 d k
theorem wi_int {i : Int} {k : Int → Prop} : WI (.int i) k = k i := wi_int_0
theorem wb_bl {i : Bool} {k : Bool → Prop} : WB (.bl i) k = k i := wb_bl_0
section
variable {α β : Type}
theorem Wp.mono {m : Ot α} {Q Q' : α → Env → Sto → Prop} (h : Wp m Q) (g : ∀ a E S, Q a E S → Q' a E S) : Wp m Q' := let ⟨a, E, S, e, q⟩ := h; ⟨a, E, S, e, g _ _ _ q⟩
theorem Wc.mono {m : Option (Res α × Sto)} {Q Q' : α → Sto → Prop} (h : Wc m Q) (g : ∀ a S, Q a S → Q' a S) : Wc m Q' := let ⟨a, S, e, q⟩ := h; ⟨a, S, e, g _ _ q⟩
theorem Wc.of {m : Option (Res α × Sto)} {Q : α → Sto → Prop} {a : α} {S : Sto} (h : m = some (.ok a, S)) (q : Q a S) : Wc m Q := ⟨a, S, h, q⟩
theorem wp_ok {a : α} {E : Env} {S : Sto} {Q : α → Env → Sto → Prop} : Wp (some (.ok a, E, S)) Q = Q a E S := wp_ok_0
theorem wc_ok {a : α} {S : Sto} {Q : α → Sto → Prop} : Wc (some (.ok a, S)) Q = Q a S := wc_ok_0
theorem wo_some {a : α} {k : α → Prop} : WO (some a) k = k a := wo_some_0
theorem wo_if {c : Prop} [Decidable c] {a : α} {k : α → Prop} : WO (if c then some a else none) k = (c ∧ k a) := wo_if_0
theorem wg_v {d : D} {k : D → Fl → Prop} : WG (some (some (d, false))) k = k d .v := wg_v_0
theorem wg_p {d : D} {k : D → Fl → Prop} : WG (some (some (d, true))) k = k d .p := wg_p_0
theorem wt_some {b : Bool} {k : Bool → Prop} : WT (some b) k = k b := wt_some_0
theorem wp_bnd {m : Ot α} {f : α → Env → Sto → Ot β} {Q : β → Env → Sto → Prop} : Wp (bnd m f) Q = Wp m (fun a E S => Wp (f a E S) Q) := wp_bnd_0
theorem wp_opt {m : Option α} {f : α → Ot β} {Q : β → Env → Sto → Prop} : Wp (opt m f) Q = WO m (fun a => Wp (f a) Q) := wp_opt_0
theorem wp_callM {m : Option (Res (D × Fl) × Sto)} {E : Env} {Q : D × Fl → Env → Sto → Prop} : Wp (callM m E) Q = Wc m (fun r S => Q r E S) := wp_callM_0
theorem wp_makeM {m : Option (Res D × Sto)} {E : Env} {Q : D × Fl → Env → Sto → Prop} : Wp (makeM m E) Q = Wc m (fun r S => Q (r, .v) E S) := wp_makeM_0
end

def noneE (E : Env) (v : Nat) : Env := E.set v none
/-- the pairs of a display, put one by one -/
def foldP (l ps : List (D × D)) : List (D × D) := ps.foldl (fun l p => putD p.1 p.2 l) l
theorem fp0 {l : List (D × D)} : foldP l [] = l := rfl
theorem fp1 {l ps : List (D × D)} {a b : D} : foldP l ((a, b) :: ps) = foldP (putD a b l) ps := rfl
section
variable {P : Prg} {K : Calls} {MK : String → List D → Sto → Option (Res D × Sto)} {E : Env} {S : Sto} {Q : D × Fl → Env → Sto → Prop} {a b c o i lo hi e : CE} {es : CEs}
theorem w_k {d : D} : Wp (ev P K MK (.k d) E S) Q = Q (d, .v) E S := w_k_0
theorem w_loc {i : Nat} : Wp (ev P K MK (.loc i) E S) Q = WG E[i]? (fun d f => Q (d, f) E S) := w_loc_0
theorem w_glob {x : String} : Wp (ev P K MK (.glob x) E S) Q = WO (P.gl x) (fun d => Q (d, .v) E S) := w_glob_0
theorem w_bin {p : Bop} : Wp (ev P K MK (.bin p a b) E S) Q = Wp (ev P K MK a E S) (fun x E S => Wp (ev P K MK b E S) fun y E S => WO (rf a x E) fun x => WO (binD p (lookC x.1 S) (lookC y.1 S)) fun r => Q r E S) := w_bin_0
theorem w_neg : Wp (ev P K MK (.neg a) E S) Q = Wp (ev P K MK a E S) (fun x E S => WI x.1 fun i => Q (.int (-i), .v) E S) := w_neg_0
theorem w_not : Wp (ev P K MK (.not a) E S) Q = Wp (ev P K MK a E S) (fun x E S => WO (truth x.1) fun b => Q (.bl (!b), .v) E S) := w_not_0
theorem w_and : Wp (ev P K MK (.and a b) E S) Q = Wp (ev P K MK a E S) (fun x E S => Wp (andV x (ev P K MK b E S) E S) Q) := w_and_0
theorem w_or : Wp (ev P K MK (.or a b) E S) Q = Wp (ev P K MK a E S) (fun x E S => Wp (orV x (ev P K MK b E S) E S) Q) := w_or_0
theorem w_cmp {p : Cop} : Wp (ev P K MK (.cmp p a b) E S) Q = Wp (ev P K MK a E S) (fun x E S => Wp (ev P K MK b E S) fun y E S => WO (rf a x E) fun x => WO (cmpD p x.1 y.1) fun r => Q (.bl r, .v) E S) := w_cmp_0
theorem w_chain {p p' : Cop} : Wp (ev P K MK (.chain p p' a b c) E S) Q = Wp (ev P K MK a E S) (fun x E S => Wp (ev P K MK b E S) fun y E S => WO (rf a x E) fun x => WO (one y) fun y => WO (cmpD p x.1 y) fun r =>
    Wp (if r then bnd (ev P K MK c E S) fun z E S => opt (cmpD p' y z.1) fun r => some (.ok (.bl r, .v), E, S) else some (.ok (.bl false, .v), E, S)) Q) := w_chain_0
theorem w_chain2 {p' : Cop} {y : D} : Wp (bnd (ev P K MK c E S) fun z E S => opt (cmpD p' y z.1) fun r => some (.ok (.bl r, .v), E, S)) Q = Wp (ev P K MK c E S) (fun z E S => WO (cmpD p' y z.1) fun r => Q (.bl r, .v) E S) := w_chain2_0
theorem w_ife : Wp (ev P K MK (.ife c a b) E S) Q = Wp (tst P K MK c E S) (fun t E S => Wp (if t then ev P K MK a E S else ev P K MK b E S) Q) := w_ife_0
theorem w_tup : Wp (ev P K MK (.tup es) E S) Q = Wp (evs P K MK es E S) (fun l E S => WO (notP l) fun l => Q (.tup l, .v) E S) := w_tup_0
theorem w_lst : Wp (ev P K MK (.lst es) E S) Q = Wp (evs P K MK es E S) (fun l E S => WO (notP l) fun l => Q (.lst l, .f) E S) := w_lst_0
theorem w_dct0 : Wp (ev P K MK (.dct .nil .nil) E S) Q = Q (.dct [], .f) E S := w_dct0_0
theorem w_newcell : Wp (ev P K MK (.newcell es) E S) Q = Wp (evs P K MK es E S) (fun l E S => WO (notP l) fun l => Q (.cell S.length, .v) E (S ++ [.lst l])) := w_newcell_0
theorem w_call {f : String} : Wp (ev P K MK (.call f es) E S) Q = Wp (evs P K MK es E S) (fun l E S => WO (notP l) fun l => Wc (K f l S) fun r S => Q r E S) := w_call_0
theorem w_make {f : String} : Wp (ev P K MK (.make f es) E S) Q = Wp (evs P K MK es E S) (fun l E S => WO (notP l) fun l => Wc (MK f l S) fun r S => Q (r, .v) E S) := w_make_0
theorem w_bi {f : String} : Wp (ev P K MK (.bi f es) E S) Q = Wp (evs P K MK es E S) (fun l E S => WO (callD f (l.map (·.1))) fun r => Q r E S) := w_bi_0
theorem w_isi {t : String} {own : Bool} : Wp (ev P K MK (.isi a t own) E S) Q = Wp (ev P K MK a E S) (fun x E S => WO (isiD P x.1 S t own) fun b => Q (.bl b, .v) E S) := w_isi_0
theorem w_idx : Wp (ev P K MK (.idx o i) E S) Q = Wp (ev P K MK o E S) (fun x E S => Wp (ev P K MK i E S) fun y E S => WO (rf o x E) fun x => WO (idxD (lookC x.1 S) y.1) fun d => Q (d, .v) E S) := w_idx_0
theorem w_sl : Wp (ev P K MK (.sl o lo hi) E S) Q = Wp (ev P K MK o E S) (fun x E S => Wp (ev P K MK lo E S) fun a E S => Wp (ev P K MK hi E S) fun b E S => WO (rf o x E) fun x => WO (boundO lo a.1) fun l => WO (boundO hi b.1) fun u => WO (sliceD x.1 l u) fun r => Q r E S) := w_sl_0
theorem w_attr {f : String} : Wp (ev P K MK (.attr a f) E S) Q = Wp (ev P K MK a E S) (fun x E S => WO (attrD P x.1 S f) fun d => Q (d, .v) E S) := w_attr_0
theorem w_lco {elt : CE} {tg : Tg} {i : Nat} {cond : CEs} : Wp (ev P K MK (.lco elt tg i cond) E S) Q = WO (ownL E[i]?) (fun l => (clearE E (slots tg) && !(slots tg).contains i) = true ∧
      Wp (lcL (slots tg) (tgt tg) (conds P K MK cond) (fun E S acc => bnd (ev P K MK elt E S) (pushL acc)) l [] (noneE E i) S) fun r E' S' => Q (.lst r, .f) (setE (backE (noneE E i) E' (slots tg)) i (.lst l, true)) S') := w_lco_0
theorem w_lc2 {elt : CE} {tg tg1 : Tg} {it it1 : CI} {cond cond1 : CEs} : Wp (ev P K MK (.lc2 elt tg it cond tg1 it1 cond1) E S) Q = Wp (itr P K MK it E S) (fun g E S => clearE E (slots tg ++ slots tg1) = true ∧
      Wp (lcL (slots tg ++ slots tg1) (tgt tg) (conds P K MK cond) (fun E S acc => bnd (itr P K MK it1 E S) fun g1 E S => lcL (slots tg1) (tgt tg1) (conds P K MK cond1) (fun E S acc => bnd (ev P K MK elt E S) (pushL acc)) g1 acc E S) g [] E S) fun l E' S' => Q (.lst l, .f) (backE E E' (slots tg ++ slots tg1)) S') := w_lc2_0
theorem w_rpr : Wp (ev P K MK (.rpr a) E S) Q = Wp (ev P K MK a E S) (fun x E S => WO (showN x.1) fun n => (n ≤ LIM ∧ depth x.1 ≤ 60) ∧ Q (.str (P.shw x.1), .v) E S) := w_rpr_0
theorem w_prop {f : String} : Wp (ev P K MK (.prop a f) E S) Q = Wp (ev P K MK a E S) (fun x E S => WO (one x) fun d => WO (propF P d S f) fun g => Wc (K g [d] S) fun r S => Q r E S) := w_prop_0
theorem w_dcs : Wp (ev P K MK (.dcs a b c) E S) Q = Wp (ev P K MK a E S) (fun x E S => Wp (ev P K MK b E S) fun y E S => Wp (ev P K MK c E S) fun z E S => WO (one y) fun y => WO (one z) fun z => WO (overD x y z) fun l => Q (.dct l, .f) E S) := w_dcs_0
theorem w_mk0 {f : String} : Wp (ev P K MK (.mk0 f) E S) Q = WO (bare P f) (fun d => Q (d, .v) E S) := w_mk0_0
theorem w_frz {i : Nat} : Wp (ev P K MK (.frz i) E S) Q = WG E[i]? (fun d _ => Q (d, .v) (setE E i (d, false)) S) := w_frz_0
theorem w_bm {m : String} : Wp (ev P K MK (.bm o m es) E S) Q = Wp (ev P K MK o E S) (fun x E S => WO (one x) fun d => Wp (evs P K MK es E S) fun l E S => WO (notP l) fun l => WO (methD d m l) fun r => Q r E S) := w_bm_0
theorem w_sls {n : Nat} {st : Int} : Wp (ev P K MK (.sls o n st) E S) Q = Wp (ev P K MK o E S) (fun x E S => WO (stepD (lookC x.1 S) n st) fun r => Q r E S) := w_sls_0
theorem w_dctp {r : CEs} : Wp (ev P K MK (.dct (.cons a r) .nil) E S) Q = Wp (evd P K MK (.cons a r) E S) (fun ps E S => ps.length ≤ 15 ∧ Q (.dct (foldP [] ps), .f) E S) := w_dctp_0
theorem wd_nil {Q : List (D × D) → Env → Sto → Prop} : Wp (evd P K MK .nil E S) Q = Q [] E S := wd_nil_0
theorem wd_cons {r : CEs} {Q : List (D × D) → Env → Sto → Prop} : Wp (evd P K MK (.cons a (.cons b r)) E S) Q = Wp (ev P K MK a E S) (fun x E S => Wp (ev P K MK b E S) fun y E S => WO (one x) fun x => WO (one y) fun y => keyOk x = true ∧ Wp (evd P K MK r E S) fun l E S => Q ((x, y) :: l) E S) := wd_cons_0
theorem w_lc {elt : CE} {tg : Tg} {it : CI} {cond : CEs} : Wp (ev P K MK (.lc elt tg it cond) E S) Q = Wp (itr P K MK it E S) (fun g E S => clearE E (slots tg) = true ∧
      Wp (lcL (slots tg) (tgt tg) (conds P K MK cond) (fun E S acc => bnd (ev P K MK elt E S) (pushL acc)) g [] E S) fun l E' S => Q (.lst l, .f) (backE E E' (slots tg)) S) := w_lc_0
theorem ws_nil {Q : List (D × Fl) → Env → Sto → Prop} : Wp (evs P K MK .nil E S) Q = Q [] E S := ws_nil_0
theorem ws_cons {Q : List (D × Fl) → Env → Sto → Prop} : Wp (evs P K MK (.cons e es) E S) Q = Wp (ev P K MK e E S) (fun x E S => Wp (consF x es (evs P K MK es E S) E S) Q) := ws_cons_0
theorem ws_v {d : D} {m : Ot (List (D × Fl))} {Q : List (D × Fl) → Env → Sto → Prop} : Wp (consF (d, .v) es m E S) Q = Wp m (fun xs E S => Q ((d, .v) :: xs) E S) := ws_v_0
theorem ws_f {d : D} {m : Ot (List (D × Fl))} {Q : List (D × Fl) → Env → Sto → Prop} : Wp (consF (d, .f) es m E S) Q = Wp m (fun xs E S => Q ((d, .v) :: xs) E S) := ws_f_0
theorem ws_p {d : D} {m : Ot (List (D × Fl))} {Q : List (D × Fl) → Env → Sto → Prop} : Wp (consF (d, .p) .nil m E S) Q = Q [(d, .p)] E S := ws_p_0
end
/-! ### tests -/
section
variable {P : Prg} {K : Calls} {MK : String → List D → Sto → Option (Res D × Sto)} {E : Env} {S : Sto} {Q : Bool → Env → Sto → Prop} {a b c o i lo hi e : CE} {es : CEs}
theorem wt_not : Wp (tst P K MK (.not a) E S) Q = Wp (tst P K MK a E S) (fun b E S => Q (!b) E S) := wt_not_0
theorem wt_and : Wp (tst P K MK (.and a b) E S) Q = Wp (tst P K MK a E S) (fun t E S => Wp (if t then tst P K MK b E S else some (.ok false, E, S)) Q) := wt_and_0
theorem wt_or : Wp (tst P K MK (.or a b) E S) Q = Wp (tst P K MK a E S) (fun t E S => Wp (if t then some (.ok true, E, S) else tst P K MK b E S) Q) := wt_or_0
theorem wt_k {d : D} : Wp (tst P K MK (.k d) E S) Q = WO (truth d) (fun b => Q b E S) := wt_k_0
theorem wt_loc {j : Nat} : Wp (tst P K MK (.loc j) E S) Q = Wp (ev P K MK (.loc j) E S) (fun x E S => WO (truth x.1) fun b => Q b E S) := wt_loc_0
theorem wt_glob {x : String} : Wp (tst P K MK (.glob x) E S) Q = Wp (ev P K MK (.glob x) E S) (fun x E S => WO (truth x.1) fun b => Q b E S) := wt_glob_0
theorem wt_bin {p : Bop} : Wp (tst P K MK (.bin p a b) E S) Q = Wp (ev P K MK (.bin p a b) E S) (fun x E S => WO (truth x.1) fun b => Q b E S) := wt_bin_0
theorem wt_cmp {p : Cop} : Wp (tst P K MK (.cmp p a b) E S) Q = Wp (ev P K MK (.cmp p a b) E S) (fun x E S => WO (truth x.1) fun b => Q b E S) := wt_cmp_0
theorem wt_chain {p p' : Cop} : Wp (tst P K MK (.chain p p' a b c) E S) Q = Wp (ev P K MK (.chain p p' a b c) E S) (fun x E S => WO (truth x.1) fun b => Q b E S) := wt_chain_0
theorem wt_call {f : String} : Wp (tst P K MK (.call f es) E S) Q = Wp (ev P K MK (.call f es) E S) (fun x E S => WO (truth x.1) fun b => Q b E S) := wt_call_0
theorem wt_bi {f : String} : Wp (tst P K MK (.bi f es) E S) Q = Wp (ev P K MK (.bi f es) E S) (fun x E S => WO (truth x.1) fun b => Q b E S) := wt_bi_0
theorem wt_isi {t : String} {own : Bool} : Wp (tst P K MK (.isi a t own) E S) Q = Wp (ev P K MK (.isi a t own) E S) (fun x E S => WO (truth x.1) fun b => Q b E S) := wt_isi_0
theorem wt_idx : Wp (tst P K MK (.idx o i) E S) Q = Wp (ev P K MK (.idx o i) E S) (fun x E S => WO (truth x.1) fun b => Q b E S) := wt_idx_0
theorem wt_attr {f : String} : Wp (tst P K MK (.attr o f) E S) Q = Wp (ev P K MK (.attr o f) E S) (fun x E S => WO (truth x.1) fun b => Q b E S) := wt_attr_0
theorem wc_nil : Wp (conds P K MK .nil E S) Q = Q true E S := wc_nil_0
theorem wc_one : Wp (conds P K MK (.cons c .nil) E S) Q = Wp (tst P K MK c E S) Q := wc_one_0
end
/-! ### what is walked -/
section
variable {P : Prg} {K : Calls} {MK : String → List D → Sto → Option (Res D × Sto)} {E : Env} {S : Sto} {Q : List D → Env → Sto → Prop} {a b : CE}
theorem wi_seq : Wp (itr P K MK (.seq a) E S) Q = Wp (ev P K MK a E S) (fun x E S => WO (seqItems x) fun r => Q r E S) := wi_seq_0
theorem wi_rng : Wp (itr P K MK (.rng a) E S) Q = Wp (ev P K MK a E S) (fun x E S => WI x.1 fun i => Q (rngL 0 i) E S) := wi_rng_0
theorem wi_rng2 : Wp (itr P K MK (.rng2 a b) E S) Q = Wp (ev P K MK a E S) (fun x E S => Wp (ev P K MK b E S) fun y E S => WI x.1 fun i => WI y.1 fun j => Q (rngL i j) E S) := wi_rng2_0
theorem wi_items : Wp (itr P K MK (.items a) E S) Q = Wp (ev P K MK a E S) (fun x E S => WO (itemsO x) fun r => Q r E S) := wi_items_0
theorem wi_enum : Wp (itr P K MK (.enum a) E S) Q = Wp (ev P K MK a E S) (fun x E S => WO (enumO x) fun r => Q r E S) := wi_enum_0
end
/-! ### statements -/
section
variable {P : Prg} {K : Calls} {MK : String → List D → Sto → Option (Res D × Sto)} {W : Nat} {own : List Nat} {E : Env} {S : Sto} {Q : Out → Env → Sto → Prop} {QU : Unit → Env → Sto → Prop} {o i c e : CE} {s : CS} {ss aa bb body : CSs} {tg : Tg} {it : CI} {t : CT} {x : D × Fl}
theorem wx_nil : Wp (exs P K MK W own .nil E S) Q = Q .nx E S := wx_nil_0
theorem wx_cons : Wp (exs P K MK W own (.cons s ss) E S) Q = Wp (ex P K MK W own s E S) (fun r E S => Wp (nxt r (exs P K MK W own ss E S) E S) Q) := wx_cons_0
theorem wx_nx {m : Ot Out} : Wp (nxt .nx m E S) Q = Wp m Q := wx_nx_0
theorem wx_rt {m : Ot Out} : Wp (nxt (.ret x) m E S) Q = Q (.ret x) E S := wx_rt_0
theorem wx_asg : Wp (ex P K MK W own (.asg t e) E S) Q = Wp (ev P K MK e E S) (fun x E S => Wp (asgT P K MK own t x E S) fun _ E S => Q .nx E S) := wx_asg_0
theorem wx_expr : Wp (ex P K MK W own (.expr e) E S) Q = Wp (ev P K MK e E S) (fun x E S => Q .nx E S) := wx_expr_0
theorem wx_ret : Wp (ex P K MK W own (.ret e) E S) Q = Wp (ev P K MK e E S) (fun x E S => Q (.ret (handed x)) E S) := wx_ret_0
theorem wx_retN : Wp (ex P K MK W own .retN E S) Q = Q (.ret (.non, .v)) E S := wx_retN_0
theorem wx_pass : Wp (ex P K MK W own .pass E S) Q = Q .nx E S := wx_pass_0
theorem wx_ite : Wp (ex P K MK W own (.ite c aa bb) E S) Q = Wp (tst P K MK c E S) (fun t E S => Wp (if t then exs P K MK W own aa E S else exs P K MK W own bb E S) Q) := wx_ite_0
theorem wx_for : Wp (ex P K MK W own (.for_ tg it body) E S) Q = Wp (itr P K MK it E S) (fun g E S => Wp (forL (tgt tg) (exs P K MK W own body) g E S) Q) := wx_for_0
theorem wx_wh : Wp (ex P K MK W own (.wh c body) E S) Q = Wp (whL (tst P K MK c) (exs P K MK W own body) W E S) Q := wx_wh_0
theorem wx_raise : Wp (ex P K MK W own (.raise e) E S) Q = False := wx_raise_0
theorem wa_nm {j : Nat} : Wp (asgT P K MK own (.nm j) x E S) QU = WO (asgN own j x E) (fun E' => QU () E' S) := wa_nm_0
theorem wa_tp {ts : List CT} {l : List D} {fl : Fl} : Wp (asgT P K MK own (.tp ts) (.tup l, fl) E S) QU = Wp (asgT.go P K MK own ts l E S) QU := wa_tp_0
theorem wa_go0 : Wp (asgT.go P K MK own [] [] E S) QU = QU () E S := wa_go0_0
theorem wa_go1 {ts : List CT} {d : D} {l : List D} : Wp (asgT.go P K MK own (t :: ts) (d :: l) E S) QU = Wp (asgT P K MK own t (d, .v) E S) (fun _ E S => Wp (asgT.go P K MK own ts l E S) QU) := wa_go1_0
theorem wa_sub : Wp (asgT P K MK own (.sub o i) x E S) QU = Wp (ev P K MK o E S) (fun ov E S => Wp (ev P K MK i E S) fun iv E S => WO (one x) fun d => Wp (subS o ov iv d E S) QU) := wa_sub_0
theorem wa_fld {f : String} : Wp (asgT P K MK own (.fld o f) x E S) QU = Wp (ev P K MK o E S) (fun ov E S => WO (one x) fun d => Wp (fldS P o ov f d E S) QU) := wa_fld_0
theorem wc_fnEnd {m : Ot Out} {QC : D × Fl → Sto → Prop} : Wc (fnEnd m) QC = Wp m (fun o E S => endQ QC o S) := wc_fnEnd_0
theorem end_nx {QC : D × Fl → Sto → Prop} : endQ QC .nx S = QC (.non, .v) S := end_nx_0
theorem end_rt {QC : D × Fl → Sto → Prop} : endQ QC (.ret x) S = QC x S := end_rt_0
end
theorem wc_call {P : Prg} {F n : Nat} {x : String} {c : Fn} {l : List D} {S : Sto} {Q : D × Fl → Sto → Prop} (h : P.fn x = some c) (hl : l.length = c.ps.length)
    (g : Wp (exs P (cm P F n).call (cm P F n).make F c.own c.body (entry c l) S) (fun o E S => endQ Q o S)) : Wc ((cm P F (n+1)).call x l S) Q := by
  rw [← wc_fnEnd] at g
  simpa [cm, h, hl] using g
theorem wc_make {P : Prg} {F n : Nat} {x y : String} {k : Cls} {c : Fn} {l : List D} {S : Sto} {Q : D → Sto → Prop} (hk : P.cl x = some k) (hy : k.init = some y) (h : P.fn y = some c) (hl : l.length + 1 = c.ps.length)
    (g : Wp (exs P (cm P F n).call (cm P F n).make F c.own c.body (some (.ins x [], true) :: l.map (fun d => some (d, false)) ++ List.replicate (c.ns - (l.length + 1)) none) S) (fun o E S => insQ k.cells Q o E S)) : Wc ((cm P F (n+1)).make x l S) Q := by
  obtain ⟨o, E, S', h1, h2⟩ := g
  simp only [cm, hk, hy, Option.bind_some, h, hl, if_true]
  rw [hl] at h1
  rw [h1]
  unfold insQ at h2
  split at h2
  · rename_i e0 hE
    unfold mkEnd
    simp only [hE]
    cases hc : k.cells with
    | true => rw [hc] at h2; exact ⟨_, _, rfl, h2⟩
    | false => rw [hc] at h2; exact ⟨_, _, rfl, h2⟩
  · exact h2.elim
theorem wo_none {α : Type} {k : α → Prop} : WO none k = False := by simp [WO, WO0]
theorem wp_none {α : Type} {Q : α → Env → Sto → Prop} : Wp none Q = False := by simp [Wp, Wp0]
theorem wp_optok {α β : Type} {m : Option α} {f : α → β} {g : α → Env} {h : α → Sto} {Q : β → Env → Sto → Prop} : Wp (opt m fun a => some (.ok (f a), g a, h a)) Q = WO m (fun a => Q (f a) (g a) (h a)) := by
  cases m with
  | none => rw [wo_none]; exact wp_none
  | some a => rw [wo_some]; exact wp_ok
section
variable {P : Prg} {K : Calls} {MK : String → List D → Sto → Option (Res D × Sto)} {W : Nat} {own : List Nat} {E : Env} {S : Sto} {Q : D × Fl → Env → Sto → Prop} {QO : Out → Env → Sto → Prop} {QL : List D → Env → Sto → Prop} {a b o e : CE} {es ves : CEs}
theorem w_callk {f : String} {ks : List String} : Wp (ev P K MK (.callk f es ks ves) E S) Q = Wp (evs P K MK es E S) (fun l E S => Wp (evs P K MK ves E S) fun v E S => WO (notP l) fun l => WO (notP v) fun v => WO (P.fn f) fun c => WO (arrange c.ps l ks v) fun a => Wc (K f a S) fun r S => Q r E S) := w_callk_0
theorem w_makek {f : String} {ks : List String} : Wp (ev P K MK (.makek f es ks ves) E S) Q = Wp (evs P K MK es E S) (fun l E S => Wp (evs P K MK ves E S) fun v E S => WO (notP l) fun l => WO (notP v) fun v => WO ((P.cl f).bind (·.init)) fun g => WO (P.fn g) fun c => WO (arrange (c.ps.drop 1) l ks v) fun a => Wc (MK f a S) fun r S => Q (r, .v) E S) := w_makek_0
theorem w_meth {m : String} : Wp (ev P K MK (.meth o m es) E S) Q = Wp (ev P K MK o E S) (fun x E S => WO (one x) fun d => WO (methF P d S m) fun f => Wp (evs P K MK es E S) fun l E S => WO (notP l) fun l => Wc (K f (d :: l) S) fun r S => Q r E S) := w_meth_0
theorem wt_callk {f : String} {ks : List String} {Q : Bool → Env → Sto → Prop} : Wp (tst P K MK (.callk f es ks ves) E S) Q = Wp (ev P K MK (.callk f es ks ves) E S) (fun x E S => WO (truth x.1) fun b => Q b E S) := wt_callk_0
theorem wt_meth {m : String} {Q : Bool → Env → Sto → Prop} : Wp (tst P K MK (.meth o m es) E S) Q = Wp (ev P K MK (.meth o m es) E S) (fun x E S => WO (truth x.1) fun b => Q b E S) := wt_meth_0
theorem ws_star {Q : List (D × Fl) → Env → Sto → Prop} : Wp (evs P K MK (.star e es) E S) Q = Wp (ev P K MK e E S) (fun x E S => WO (starItems x) fun l => Wp (evs P K MK es E S) fun xs E S => l.length + xs.length ≤ LIM ∧ Q (l.map (fun d => (d, .v)) ++ xs) E S) := ws_star_0
theorem wi_zip : Wp (itr P K MK (.zip a b) E S) QL = Wp (ev P K MK a E S) (fun x E S => Wp (ev P K MK b E S) fun y E S => WO (zipO x y) fun r => QL r E S) := wi_zip_0
theorem wx_app {i : Nat} : Wp (ex P K MK W own (.app i e) E S) QO = WO (ownL E[i]?) (fun _ => Wp (ev P K MK e E S) fun x E S => WO (one x) fun d => WO (appO E[i]? d) fun l => QO .nx (setE E i (.lst l, true)) S) := wx_app_0
theorem wx_ext {i : Nat} : Wp (ex P K MK W own (.ext i e) E S) QO = WO (ownL E[i]?) (fun _ => Wp (ev P K MK e E S) fun x E S => WO (extO E[i]? x) fun l => QO .nx (setE E i (.lst l, true)) S) := wx_ext_0
theorem wx_par {i j : Nat} : Wp (ex P K MK W own (.par2 i j a b) E S) QO = Wp (ev P K MK a E S) (fun x E S => Wp (ev P K MK b E S) fun y E S => WO (asgN own i x E) fun E1 => WO (asgN own j y E1) fun E2 => QO .nx E2 S) := wx_par_0
end
end Dk
end
/-! W2 -/
section
set_option maxRecDepth 100000
set_option linter.all false
namespace Dk
/-! ### values under wishes -/
section
variable {d e : D} {fl : Fl} {E : Env} {S : Sto} {k : D × Fl → Prop} {kd : D → Prop} {i j : Int} {l m : List D} {s t : List Nat} {b c : Bool} {n : Nat}
theorem rf_v {a : CE} : rf a (d, .v) E = some (d, .v) := rfl
theorem rf_f {a : CE} : rf a (d, .f) E = some (d, .v) := rfl
def WGp (o : Option (Option (D × Bool))) (k : D → Prop) (_ : Fix k := .mk) : Prop := ∃ d, o = some (some (d, true)) ∧ k d
theorem wgp_p {k : D → Prop} : WGp (some (some (d, true))) k = k d := propext ⟨fun ⟨_, e, q⟩ => by cases e; exact q, fun q => ⟨_, rfl, q⟩⟩
theorem rf_p {i : Nat} : WO (rf (.loc i) (d, .p) E) k = WGp E[i]? (fun d => k (d, .p)) := by
  simp only [rf]
  refine propext ⟨fun ⟨x, h, q⟩ => ?_, fun ⟨d, h, q⟩ => ⟨_, by rw [h], q⟩⟩
  split at h
  · cases h; exact ⟨_, by assumption, q⟩
  · cases h
theorem one_v : one (d, .v) = some d := rfl
theorem one_f : one (d, .f) = some d := rfl
theorem notP_nil : notP [] = some [] := rfl
theorem notP_v {r : List (D × Fl)} {k : List D → Prop} : WO (notP ((d, .v) :: r)) k = WO (notP r) (fun l => k (d :: l)) := by
  simp only [notP, List.all_cons]
  by_cases h : (r.all fun x => decide (x.2 ≠ Fl.p)) = true
  · simp only [h, Bool.and_true]; simp [wo_some]
  · simp only [h, Bool.and_false]; simp [wo_none]
theorem handed_v : handed (d, .v) = (d, .v) := rfl
theorem handed_f : handed (d, .f) = (d, .f) := rfl
theorem handed_p : handed (d, .p) = (d, .f) := rfl
theorem lookC_non : lookC .non S = .non := rfl
theorem lookC_bl : lookC (.bl b) S = .bl b := rfl
theorem lookC_int : lookC (.int i) S = .int i := rfl
theorem lookC_str : lookC (.str s) S = .str s := rfl
theorem lookC_tup : lookC (.tup l) S = .tup l := rfl
theorem lookC_lst : lookC (.lst l) S = .lst l := rfl
theorem lookC_dct {l : List (D × D)} : lookC (.dct l) S = .dct l := rfl
theorem lookC_ins {c : String} {l : List (String × D)} : lookC (.ins c l) S = .ins c l := rfl
def lookL (d : D) (o : Option CO) : D := match o with
  | some (.lst l) => .lst l
  | _ => d
theorem lookC_cell : lookC (.cell n) S = lookL (.cell n) S[n]? := by
  simp only [lookC, lookL] <;> rfl
theorem lookL_lst : lookL d (some (.lst l)) = .lst l := rfl
theorem tr_non : truth .non = some false := rfl
theorem tr_bl : truth (.bl b) = some b := rfl
theorem tr_int : truth (.int i) = some (i != 0) := rfl
theorem tr_lst : truth (.lst l) = some (!l.isEmpty) := rfl
theorem tr_tup : truth (.tup l) = some (!l.isEmpty) := rfl
/-! names -/
def inO (own : List Nat) (i : Nat) : Bool := own.contains i
theorem inO_0 {i : Nat} : inO [] i = false := rfl
theorem inO_1 {a i : Nat} {l : List Nat} : inO (a :: l) i = (i == a || inO l i) := by simp only [inO, List.contains_cons]
theorem as_cv {a i : Nat} {own : List Nat} : asgN (a :: own) i (d, .v) E = some (setE E i (d, false)) := by
  unfold asgN
  cases h : (a :: own).contains i
  · rfl
  · cases d <;> rfl
theorem as_cl {a i : Nat} {own : List Nat} : asgN (a :: own) i (.lst l, .f) E = some (setE E i (.lst l, inO (a :: own) i)) := by
  unfold asgN inO
  cases h : (a :: own).contains i <;> rfl
theorem as_cd {a i : Nat} {own : List Nat} {l : List (D × D)} : asgN (a :: own) i (.dct l, .f) E = some (setE E i (.dct l, inO (a :: own) i)) := by
  unfold asgN inO
  cases h : (a :: own).contains i <;> rfl
theorem as_nil {i : Nat} : asgN [] i (d, .v) E = some (setE E i (d, false)) := rfl
theorem as_nil_f {i : Nat} : asgN [] i (d, .f) E = some (setE E i (d, false)) := rfl
theorem items_v {l : List (D × D)} : itemsO (.dct l, .v) = some (itemsD l) := rfl
theorem over_v {l : List (D × D)} {k v : D} : overD (.dct l, .v) k v = if keyOk k = true ∧ l.length < LIM then some (putD k v l) else none := rfl
theorem as_v {own : List Nat} {i : Nat} (h : own.contains i = false) : asgN own i (d, .v) E = some (setE E i (d, false)) := by simp only [asgN, h]; rfl
theorem as_f {own : List Nat} {i : Nat} (h : own.contains i = false) : asgN own i (d, .f) E = some (setE E i (d, false)) := by simp only [asgN, h]; rfl
theorem as_ol {own : List Nat} {i : Nat} (h : own.contains i = true) : asgN own i (.lst l, .f) E = some (setE E i (.lst l, true)) := by simp only [asgN, h]; rfl
theorem as_od {own : List Nat} {i : Nat} {l : List (D × D)} (h : own.contains i = true) : asgN own i (.dct l, .f) E = some (setE E i (.dct l, true)) := by simp only [asgN, h]; rfl
/-! operators -/
theorem b_add : binD .add (.int i) (.int j) = some (.int (i + j), .v) := rfl
theorem b_sub : binD .sub (.int i) (.int j) = some (.int (i - j), .v) := rfl
theorem b_mul : binD .mul (.int i) (.int j) = if i.natAbs < BIG ∧ j.natAbs < BIG then some (.int (i * j), .v) else none := rfl
theorem b_mod : binD .mod (.int i) (.int j) = if 0 < j then some (.int (i % j), .v) else none := rfl
theorem b_fdiv : binD .fdiv (.int i) (.int j) = if 0 < j ∧ j.natAbs < BIG then some (.int (i / j), .v) else none := rfl
def powOk (i j : Int) : Bool := decide (0 ≤ j ∧ j ≤ 10000 ∧ i.natAbs < 2 ^ 64)
theorem powOk_10 (h : 0 ≤ j) (h2 : j ≤ 10000) : powOk 10 j = true := by simp [powOk, h, h2]
theorem powOk_2 (h : 0 ≤ j) (h2 : j ≤ 10000) : powOk 2 j = true := by simp [powOk, h, h2]
theorem powOk_3 (h : 0 ≤ j) (h2 : j ≤ 10000) : powOk 3 j = true := by simp [powOk, h, h2]
theorem powOk_1 (h : 0 ≤ j) (h2 : j ≤ 10000) : powOk 1 j = true := by simp [powOk, h, h2]
theorem b_pow : binD .pow (.int i) (.int j) = if powOk i j = true then some (.int (i ^ j.toNat), .v) else none := by simp only [binD, powOk, decide_eq_true_eq]
theorem b_shl : binD .shl (.int i) (.int j) = if powOk i j = true then some (.int (i * 2 ^ j.toNat), .v) else none := by simp only [binD, powOk, decide_eq_true_eq]
theorem b_addl : binD .add (.lst l) (.lst m) = if l.length + m.length ≤ LIM then some (.lst (l ++ m), .f) else none := rfl
theorem b_addt : binD .add (.tup l) (.tup m) = if l.length + m.length ≤ LIM then some (.tup (l ++ m), .v) else none := rfl
theorem b_adds : binD .add (.str s) (.str t) = if s.length + t.length ≤ LIM then some (.str (s ++ t), .v) else none := rfl
theorem b_mull : binD .mul (.lst l) (.int j) = if 0 ≤ j ∧ j ≤ 100 ∧ l.length ≤ 100 then some (.lst ((List.replicate j.toNat l).flatten), .f) else none := rfl
/-! comparisons -/
theorem c_eqr0 : cmpD .eq d (.int i) = if (okD d && okD (.int i)) = true then some (eqD d (.int i)) else none := by unfold cmpD; cases d <;> rfl
theorem c_eql0 : cmpD .eq (.int i) d = if (okD (.int i) && okD d) = true then some (eqD (.int i) d) else none := by unfold cmpD; cases d <;> rfl
theorem c_eqr1 : cmpD .eq d (.bl b) = if (okD d && okD (.bl b)) = true then some (eqD d (.bl b)) else none := by unfold cmpD; cases d <;> rfl
theorem c_eql1 : cmpD .eq (.bl b) d = if (okD (.bl b) && okD d) = true then some (eqD (.bl b) d) else none := by unfold cmpD; cases d <;> rfl
theorem c_eqr2 : cmpD .eq d .non = if (okD d && okD .non) = true then some (eqD d .non) else none := by unfold cmpD; cases d <;> rfl
theorem c_eql2 : cmpD .eq .non d = if (okD .non && okD d) = true then some (eqD .non d) else none := by unfold cmpD; cases d <;> rfl
theorem c_eqr3 : cmpD .eq d (.str s) = if (okD d && okD (.str s)) = true then some (eqD d (.str s)) else none := by unfold cmpD; cases d <;> rfl
theorem c_eql3 : cmpD .eq (.str s) d = if (okD (.str s) && okD d) = true then some (eqD (.str s) d) else none := by unfold cmpD; cases d <;> rfl
theorem c_eqr4 : cmpD .eq d (.lst l) = if (okD d && okD (.lst l)) = true then some (eqD d (.lst l)) else none := by unfold cmpD; cases d <;> rfl
theorem c_eql4 : cmpD .eq (.lst l) d = if (okD (.lst l) && okD d) = true then some (eqD (.lst l) d) else none := by unfold cmpD; cases d <;> rfl
theorem isE (l : List D) : eqDs l [] = l.isEmpty := by cases l <;> simp [eqDs]
theorem c_eqt0 : cmpD .eq (.tup l) (.tup []) = some l.isEmpty := by
  have e : eqD (.tup l) (.tup []) = l.isEmpty := by simp only [eqD, isE]
  show (if (okD (.tup l) && okD (.tup [])) = true then some (eqD (.tup l) (.tup [])) else emptyT (.tup l) (.tup [])) = _
  rw [e]
  by_cases h : (okD (.tup l) && okD (.tup [])) = true
  · rw [if_pos h]
  · rw [if_neg h]; rfl
theorem c_eqt1 : cmpD .eq (.tup l) (.tup (d :: m)) = if (okD (.tup l) && okD (.tup (d :: m))) = true then some (eqD (.tup l) (.tup (d :: m))) else none := by unfold cmpD; rfl
theorem c_eqok (h : (okD d && okD e) = true) : cmpD .eq d e = some (eqD d e) := by
  show (if (okD d && okD e) = true then some (eqD d e) else emptyT d e) = _
  rw [if_pos h]
theorem c_ne : cmpD .ne d e = if (okD d && okD e) = true then some (!eqD d e) else none := rfl
theorem c_nes {s t : List Nat} : cmpD .nes (.str s) (.str t) = some (!(s == t)) := rfl
theorem c_nel : cmpD .nel (.lst l) (.lst []) = some (!l.isEmpty) := rfl
theorem c_lt : cmpD .lt (.int i) (.int j) = some (decide (i < j)) := rfl
theorem c_le : cmpD .le (.int i) (.int j) = some (decide (i ≤ j)) := rfl
theorem c_gt : cmpD .gt (.int i) (.int j) = some (decide (j < i)) := rfl
theorem c_ge : cmpD .ge (.int i) (.int j) = some (decide (j ≤ i)) := rfl
theorem c_is : cmpD .is d .non = some (isNon d) := rfl
theorem c_isnot : cmpD .isnot d .non = some (!isNon d) := rfl
theorem n_non : isNon .non = true := rfl
theorem n_int : isNon (.int i) = false := rfl
theorem n_bl : isNon (.bl b) = false := rfl
theorem n_tup : isNon (.tup l) = false := rfl
theorem n_lst : isNon (.lst l) = false := rfl
theorem n_str : isNon (.str s) = false := rfl
theorem n_ins {c : String} {l : List (String × D)} : isNon (.ins c l) = false := rfl
theorem c_inl : cmpD .in_ d (.lst l) = if (okD d && okD (.lst l)) = true then some (l.any fun z => eqD z d) else none := rfl
theorem c_inI : cmpD .in_ (.int i) (.tup l) = if l.all flat = true then some (l.any fun z => eqD z (.int i)) else none := by simp [cmpD, flat]
theorem c_notinI : cmpD .notin (.int i) (.tup l) = if l.all flat = true then some (!(l.any fun z => eqD z (.int i))) else none := by simp [cmpD, flat]
theorem c_notinl : cmpD .notin d (.lst l) = if (okD d && okD (.lst l)) = true then some (!(l.any fun z => eqD z d)) else none := rfl
theorem c_inD {l : List (D × D)} : cmpD .in_ (.int i) (.dct l) = some (lookD (.int i) l).isSome := rfl
theorem c_notinD {l : List (D × D)} : cmpD .notin (.int i) (.dct l) = some (!(lookD (.int i) l).isSome) := rfl
theorem ok_non : okD .non = true := rfl
theorem ok_int : okD (.int i) = true := rfl
theorem ok_bl : okD (.bl b) = true := rfl
theorem e_int : eqD (.int i) (.int j) = decide (i = j) := by simp only [eqD]; rfl
theorem e_bl : eqD (.bl b) (.bl c) = (b == c) := by simp only [eqD]
theorem e_non : eqD .non .non = true := by simp only [eqD]
theorem e_nonI : eqD .non (.int i) = false := by simp only [eqD]
theorem e_Inon : eqD (.int i) .non = false := by simp only [eqD]
theorem e_tup : eqD (.tup l) (.tup m) = eqDs l m := by simp only [eqD]
theorem e_lst : eqD (.lst l) (.lst m) = eqDs l m := by simp only [eqD]
theorem e_tupN : eqD (.tup l) .non = false := by simp only [eqD]
theorem e_nil : eqDs [] [] = true := by simp only [eqDs]
theorem e_nilc : eqDs [] (d :: l) = false := by simp only [eqDs]
theorem e_cnil : eqDs (d :: l) [] = false := by simp only [eqDs]
theorem e_cons : eqDs (d :: l) (e :: m) = (eqD d e && eqDs l m) := by simp only [eqDs]
/-! built-in calls -/
theorem f_lenl : callD "len" [.lst l] = some (.int l.length, .v) := by simp only [callD]
theorem f_lent : callD "len" [.tup l] = some (.int l.length, .v) := by simp only [callD]
theorem f_lend {l : List (D × D)} : callD "len" [.dct l] = some (.int l.length, .v) := by simp only [callD]
theorem f_tupl : callD "tuple" [.lst l] = some (.tup l, .v) := by simp only [callD]
theorem f_tupt : callD "tuple" [.tup l] = some (.tup l, .v) := by simp only [callD]
theorem f_lstl : callD "list" [.lst l] = some (.lst l, .f) := by simp only [callD]
theorem f_lstt : callD "list" [.tup l] = some (.lst l, .f) := by simp only [callD]
theorem f_lstd {l : List (D × D)} : callD "list" [.dct l] = some (.lst (l.map (·.1)), .f) := by simp only [callD]
theorem f_max2 : callD "max" [.int i, .int j] = some (.int (if j > i then j else i), .v) := by simp only [callD]
theorem f_min2 : callD "min" [.int i, .int j] = some (.int (if j < i then j else i), .v) := by simp only [callD]
theorem f_abs : callD "abs" [.int i] = some (.int (if i < 0 then -i else i), .v) := by simp only [callD]
theorem f_int : callD "int" [.int i] = some (.int i, .v) := by simp only [callD]
theorem f_intb : callD "int" [.bl b] = some (.int (b2i b), .v) := by simp only [callD]
theorem f_divmod : callD "divmod" [.int i, .int j] = if 0 < j ∧ j.natAbs < BIG then some (.tup [.int (i / j), .int (i % j)], .v) else none := by simp only [callD]
theorem intsOf_map (l : List Int) : intsOf (l.map .int) = some l := by
  induction l with
  | nil => rfl
  | cons a l ih => simp [intsOf, ih]
theorem blsOf_map (l : List Bool) : blsOf (l.map .bl) = some l := by
  induction l with
  | nil => rfl
  | cons a l ih => simp [blsOf, ih]
theorem f_sorted {l : List Int} : callD "sorted" [.lst (l.map .int)] = if l.length < 64 then some (.lst ((sortI l).map .int), .f) else none := by simp only [callD, intsOf_map, List.length_map]
theorem f_sum {l : List Int} : callD "sum" [.lst (l.map .int)] = some (.int l.sum, .v) := by simp only [callD, intsOf_map]; rfl
theorem f_any {l : List Bool} : callD "any" [.lst (l.map .bl)] = some (.bl (l.any id), .v) := by simp only [callD, blsOf_map]; rfl
theorem f_all {l : List Bool} : callD "all" [.lst (l.map .bl)] = some (.bl (l.all id), .v) := by simp only [callD, blsOf_map]; rfl
/-! items -/
theorem x_lst : idxD (.lst l) (.int i) = atL l i := rfl
theorem x_tup : idxD (.tup l) (.int i) = atL l i := rfl
theorem at0 {α : Type} {a : α} {l : List α} : atL (a :: l) 0 = some a := rfl
theorem at1 {α : Type} {a b : α} {l : List α} : atL (a :: b :: l) 1 = some b := rfl
theorem at2 {α : Type} {a b c : α} {l : List α} : atL (a :: b :: c :: l) 2 = some c := rfl
theorem at3 {α : Type} {a b c d : α} {l : List α} : atL (a :: b :: c :: d :: l) 3 = some d := rfl
theorem atL_map {α β : Type} (f : α → β) {l : List α} {i : Int} : atL (l.map f) i = (atL l i).map f := by
  unfold atL
  simp only [List.length_map, List.getElem?_map]
  split
  · rfl
  · split <;> rfl
theorem atL_nat {α : Type} {l : List α} {i : Nat} (h : i < l.length) : atL l (i : Int) = some l[i] := by
  unfold atL
  rw [if_pos (by omega)]
  simp [h]
theorem atL_of {α : Type} {l : List α} {i : Int} (h0 : 0 ≤ i) (h : i < l.length) : atL l i = some (l[i.toNat]'(by omega)) := by
  unfold atL
  rw [if_pos h0]
  simp [show i.toNat < l.length by omega]
/-! kinds -/
theorem i_non {P : Prg} {t : String} : isiD P .non S t false = some false := by simp only [isiD, insC, isTy]; rfl
theorem i_bl {P : Prg} {t : String} : isiD P (.bl b) S t false = some (t == "bool" || t == "int") := by simp only [isiD, insC, isTy]; rfl
theorem i_int {P : Prg} {t : String} : isiD P (.int i) S t false = some (t == "int") := by simp only [isiD, insC, isTy]; rfl
theorem i_str {P : Prg} {t : String} : isiD P (.str s) S t false = some (t == "str") := by simp only [isiD, insC, isTy]; rfl
theorem i_tup {P : Prg} {t : String} : isiD P (.tup l) S t false = some (t == "tuple") := by simp only [isiD, insC, isTy]; rfl
theorem i_lst {P : Prg} {t : String} : isiD P (.lst l) S t false = some (t == "list") := by simp only [isiD, insC, isTy]; rfl
theorem i_ins {P : Prg} {c t : String} {fs : List (String × D)} : isiD P (.ins c fs) S t true = (P.cl c).map fun k => c == t || k.above.contains t := by simp only [isiD, insC]; rfl
theorem y_ii : ("int" == "int") = true := by decide
theorem y_ib : ("int" == "bool") = false := by decide
theorem y_bb : ("bool" == "bool") = true := by decide
theorem y_bi : ("bool" == "int") = false := by decide
theorem y_tt : ("tuple" == "tuple") = true := by decide
theorem y_ti : ("tuple" == "int") = false := by decide
theorem y_tb : ("tuple" == "bool") = false := by decide
theorem y_ss : ("str" == "str") = true := by decide
/-! parts -/
theorem o_non : boundO (.k .non) d = some none := rfl
theorem o_k {i : Int} : boundO (.k (.int i)) (.int j) = some (some j) := rfl
theorem o_loc {i : Nat} : boundO (.loc i) (.int j) = some (some j) := rfl
theorem o_bin {p : Bop} {x y : CE} : boundO (.bin p x y) (.int j) = some (some j) := rfl
theorem o_neg {x : CE} : boundO (.neg x) (.int j) = some (some j) := rfl
theorem o_bi {x : String} {y : CEs} : boundO (.bi x y) (.int j) = some (some j) := rfl
theorem o_call {x : String} {y : CEs} : boundO (.call x y) (.int j) = some (some j) := rfl
def cutD {α : Type} (l : List α) (lo hi : Option Int) : List α := cutL l (clamp l.length 0 lo) (clamp l.length l.length hi)
theorem p_lst {lo hi : Option Int} : sliceD (.lst l) lo hi = some (.lst (cutD l lo hi), .f) := rfl
theorem p_tup {lo hi : Option Int} : sliceD (.tup l) lo hi = some (.tup (cutD l lo hi), .v) := rfl
theorem cut_first {α : Type} {l : List α} {n : Int} (h : 0 ≤ n) : cutD l none (some n) = l.take n.toNat := by
  unfold cutD cutL clamp
  simp only [show ¬ (n < 0) by omega, if_false, List.drop_zero, Nat.sub_zero]
  rw [List.take_eq_take_iff]; omega
theorem cut_from {α : Type} {l : List α} {n : Int} (h : 0 ≤ n) : cutD l (some n) none = l.drop n.toNat := by
  unfold cutD cutL clamp
  simp only [show ¬ (n < 0) by omega, if_false]
  by_cases h : n.toNat ≤ l.length
  · rw [Nat.min_eq_left h, List.take_of_length_le (by simp)]
  · rw [Nat.min_eq_right (by omega), List.drop_of_length_le (by omega), List.drop_of_length_le (by omega)]; simp
theorem cut_all {α : Type} {l : List α} : cutD l none none = l := by
  unfold cutD cutL clamp; simp
theorem cut_back {α : Type} {l : List α} {n : Int} (h : n < 0) : cutD l (some n) none = l.drop (l.length - n.natAbs) := by
  unfold cutD cutL clamp
  simp only [h, if_true]
  rw [List.take_of_length_le (by simp)]
  congr 1; omega
theorem q_l : seqItems (.lst l, .v) = some l := rfl
theorem q_lf : seqItems (.lst l, .f) = some l := rfl
theorem q_t : seqItems (.tup l, .v) = some l := rfl
theorem n_tupE : enumO (.tup l, fl) = some (enumL 0 l) := rfl
theorem n_lstE : enumO (.lst l, .v) = some (enumL 0 l) := rfl
theorem n_lstF : enumO (.lst l, .f) = some (enumL 0 l) := rfl
/-! stores -/
def WL (o : CO) (k : List D → Prop) (_ : Fix k := .mk) : Prop := ∃ l, o = .lst l ∧ k l
theorem wl_lst {k : List D → Prop} : WL (.lst l) k = k l := by simp [WL]
theorem sb_cell {o : CE} {Q : Unit → Env → Sto → Prop} : Wp (subS o (.cell n, .v) (.int j, fl) d E S) Q = WO S[n]? (fun c => WL c fun l => WO (putAt l j d) fun l' => Q () E (S.set n (.lst l'))) := by
  simp only [subS]
  cases h : S[n]? with
  | none => simp only [wo_none]; exact wp_none
  | some c =>
    cases c with
    | lst l => simp only [wp_optok, wo_some, wl_lst]
    | ins => simp only [wo_some]; simp [wp_none, WL]
theorem sb_lst {i : Nat} {Q : Unit → Env → Sto → Prop} : Wp (subS (.loc i) (.lst l, .p) (.int j, fl) d E S) Q = WGp E[i]? (fun x => WO (match x with | .lst l => putAt l j d | _ => none) fun l' => Q () (setE E i (.lst l', true)) S) := by
  simp only [subS]
  refine propext ⟨fun h => ?_, fun ⟨x, h, q⟩ => ?_⟩
  · split at h
    · rename_i l e
      rw [wp_optok] at h
      exact ⟨_, e, h⟩
    · exact (wp_none ▸ h : False).elim
  · rw [h]
    cases x <;> first | (simp only [wp_optok]; exact q) | exact (wo_none ▸ q : False).elim
theorem sb_dct {i : Nat} {m : List (D × D)} {key : D} {Q : Unit → Env → Sto → Prop} : Wp (subS (.loc i) (.dct m, .p) (key, fl) d E S) Q = WGp E[i]? (fun x => WO (match x with | .dct l => if keyOk key ∧ l.length < LIM then some (putD key d l) else none | _ => none) fun l' => Q () (setE E i (.dct l', true)) S) := by
  simp only [subS]
  refine propext ⟨fun h => ?_, fun ⟨x, h, q⟩ => ?_⟩
  · split at h
    · rename_i l e
      refine ⟨_, e, ?_⟩
      by_cases hc : keyOk key ∧ l.length < LIM
      · simp only [hc, and_self, if_true, wp_ok, wo_some] at h ⊢; exact h
      · rw [if_neg hc] at h; exact (wp_none ▸ h : False).elim
    · exact (wp_none ▸ h : False).elim
  · rw [h]
    cases x <;> first | exact (wo_none ▸ q : False).elim | skip
    rename_i l
    by_cases hc : keyOk key ∧ l.length < LIM
    · simp only [hc, and_self, if_true, wp_ok, wo_some] at q ⊢; exact q
    · simp only [if_neg hc] at q; exact (wo_none ▸ q : False).elim
theorem fs_own {P : Prg} {i : Nat} {c f : String} {fs : List (String × D)} {Q : Unit → Env → Sto → Prop} : Wp (fldS P (.loc i) (.ins c fs, .p) f d E S) Q = WGp E[i]? (fun x => WO (match x with | .ins c fs => if (fldOk P c f && decide (fs.length < 100)) = true then some (D.ins c (setF f d fs)) else none | _ => none) fun x' => Q () (setE E i (x', true)) S) := by
  simp only [fldS]
  refine propext ⟨fun h => ?_, fun ⟨x, h, q⟩ => ?_⟩
  · split at h
    · rename_i c fs e
      refine ⟨_, e, ?_⟩
      by_cases hc : (fldOk P c f && decide (fs.length < 100)) = true
      · simp only [hc, if_true, wp_ok, wo_some] at h ⊢; exact h
      · rw [if_neg hc] at h; exact (wp_none ▸ h : False).elim
    · exact (wp_none ▸ h : False).elim
  · rw [h]
    cases x <;> first | exact (wo_none ▸ q : False).elim | skip
    rename_i c fs
    by_cases hc : (fldOk P c f && decide (fs.length < 100)) = true
    · simp only [hc, if_true, wp_ok, wo_some] at q ⊢; exact q
    · simp only [if_neg hc] at q; exact (wo_none ▸ q : False).elim
end
section
variable {l : List D}
theorem ow_l {l : List D} : ownL (some (some (.lst l, true))) = some l := rfl
theorem ap_l {l : List D} {d : D} : appO (some (some (.lst l, true))) d = if l.length < LIM then some (l ++ [d]) else none := rfl
theorem c_isb {b c : Bool} : cmpD .is (.bl b) (.bl c) = some (b == c) := rfl
theorem c_isn {c : Bool} : cmpD .is .non (.bl c) = some false := rfl
theorem c_nob {b c : Bool} : cmpD .isnot (.bl b) (.bl c) = some (!(b == c)) := rfl
theorem c_non {c : Bool} : cmpD .isnot .non (.bl c) = some true := rfl
theorem ex_lv {l m : List D} : extO (some (some (.lst l, true))) (.lst m, .v) = if l.length + m.length ≤ LIM then some (l ++ m) else none := rfl
theorem st_rv {l : List D} : stepD (.lst l) 0 (-1) = some (.lst l.reverse, .f) := rfl
theorem st_ev {l : List D} : stepD (.lst l) 0 2 = some (.lst (everyL l), .f) := rfl
theorem st_od {l : List D} : stepD (.lst l) 1 2 = some (.lst (everyL (l.drop 1)), .f) := rfl
theorem mt_ct {l : List D} {x : D} : methD (.lst l) "count" [x] = if (okD x && okD (.lst l)) = true then some (.int (l.countP fun z => eqD z x), .v) else none := by simp only [methD]
theorem mt_ix {l : List D} {x : D} : methD (.lst l) "index" [x] = if (okD x && okD (.lst l)) = true then (l.findIdx? fun z => eqD z x).map (fun (j : Nat) => (D.int j, Fl.v)) else none := by simp only [methD]
theorem mt_gt {l : List (D × D)} {k x : D} : methD (.dct l) "get" [k, x] = if keyOk k = true then some ((lookD k l).getD x, .v) else none := by simp only [methD]
theorem kO_i {i : Int} : keyOk (.int i) = true := rfl
theorem kO_s {s : List Nat} : keyOk (.str s) = true := rfl
theorem ex_l {l m : List D} : extO (some (some (.lst l, true))) (.lst m, .f) = if l.length + m.length ≤ LIM then some (l ++ m) else none := rfl
end
section
variable {P : Prg} {K : Calls} {MK : String → List D → Sto → Option (Res D × Sto)} {own : List Nat} {E : Env} {S : Sto} {QU : Unit → Env → Sto → Prop} {t : Bool} {fl : Fl} {i : Int} {l : List D} {m : Ot (D × Fl)}
theorem av_bl : andV (.bl t, fl) m E S = if t = true then m else some (.ok (.bl false, .v), E, S) := rfl
theorem av_non : andV (.non, .v) m E S = some (.ok (.non, .v), E, S) := rfl
theorem av_int : andV (.int i, .v) m E S = if (i != 0) = true then m else some (.ok (.int i, .v), E, S) := rfl
theorem av_lv : andV (.lst l, .v) m E S = if (!l.isEmpty) = true then m else some (.ok (.lst l, .v), E, S) := rfl
theorem av_lf : andV (.lst l, .f) m E S = if (!l.isEmpty) = true then m else some (.ok (.lst l, .v), E, S) := rfl
theorem ov_bl : orV (.bl t, fl) m E S = if t = true then some (.ok (.bl true, .v), E, S) else m := rfl
theorem ov_non : orV (.non, .v) m E S = m := rfl
theorem ov_int : orV (.int i, .v) m E S = if (i != 0) = true then some (.ok (.int i, .v), E, S) else m := rfl
theorem ov_lv : orV (.lst l, .v) m E S = if (!l.isEmpty) = true then some (.ok (.lst l, .v), E, S) else m := rfl
theorem ov_lf : orV (.lst l, .f) m E S = if (!l.isEmpty) = true then some (.ok (.lst l, .v), E, S) else m := rfl
theorem wa_tpv {ts : List CT} : Wp (asgT P K MK own (.tp ts) (.lst l, .v) E S) QU = Wp (asgT.go P K MK own ts l E S) QU := by simp only [asgT]; rfl
theorem wa_tpf {ts : List CT} : Wp (asgT P K MK own (.tp ts) (.lst l, .f) E S) QU = Wp (asgT.go P K MK own ts l E S) QU := by simp only [asgT]; rfl
end
end Dk
end
/-! W3 -/
section
set_option maxRecDepth 100000
set_option linter.all false
namespace Dk
/-! ### loops -/
def forQ (I : Env → Sto → Prop) (Q : Out → Env → Sto → Prop) (o : Out) (E : Env) (S : Sto) : Prop := match o with
  | .nx => I E S
  | .ret x => Q (.ret x) E S
theorem forQ_nx {I : Env → Sto → Prop} {Q : Out → Env → Sto → Prop} {E : Env} {S : Sto} : forQ I Q .nx E S = I E S := rfl
theorem forQ_rt {I : Env → Sto → Prop} {Q : Out → Env → Sto → Prop} {E : Env} {S : Sto} {x : D × Fl} : forQ I Q (.ret x) E S = Q (.ret x) E S := rfl
section
variable {asg : D → Env → Option Env} {body : Env → Sto → Ot Out} {E : Env} {S : Sto} {Q : Out → Env → Sto → Prop}
theorem wp_for {xs : List D} (I : List D → Env → Sto → Prop) (h0 : I xs E S) (step : ∀ x r E S, I (x :: r) E S → WO (asg x E) fun E1 => Wp (body E1 S) (forQ (I r) Q)) (done : ∀ E S, I [] E S → Q .nx E S) : Wp (forL asg body xs E S) Q := by
  induction xs generalizing E S with
  | nil => exact ⟨.nx, E, S, rfl, done E S h0⟩
  | cons x r ih =>
    obtain ⟨E1, e1, o, E2, S2, e2, q⟩ := step x r E S h0
    simp only [forL, e1, e2]
    cases o with
    | nx => exact ih q
    | ret x => exact ⟨.ret x, E2, S2, rfl, q⟩
theorem wp_for_ix {α : Type} (emb : α → D) (xs : List α) (I : Nat → Env → Sto → Prop) (h0 : I 0 E S) (step : ∀ i (h : i < xs.length) E S, I i E S → WO (asg (emb xs[i]) E) fun E1 => Wp (body E1 S) (forQ (I (i + 1)) Q)) (done : ∀ E S, I xs.length E S → Q .nx E S) : Wp (forL asg body (xs.map emb) E S) Q := by
  refine wp_for (fun r E S => ∃ i, i ≤ xs.length ∧ r = (xs.drop i).map emb ∧ I i E S) ⟨0, by omega, by simp, h0⟩ ?_ ?_
  · rintro x r E S ⟨i, hi, hr, hI⟩
    have hlt : i < xs.length := by
      rcases Nat.lt_or_ge i xs.length with h | h
      · exact h
      · rw [List.drop_of_length_le h] at hr; cases hr
    rw [List.drop_eq_getElem_cons hlt, List.map_cons] at hr
    cases hr
    obtain ⟨E1, e1, o, E2, S2, e2, q⟩ := step i hlt E S hI
    refine ⟨E1, e1, o, E2, S2, e2, ?_⟩
    cases o with
    | nx => exact ⟨i + 1, by omega, rfl, q⟩
    | ret x => exact q
  · rintro E S ⟨i, hi, hr, hI⟩
    have : i = xs.length := by
      rcases Nat.lt_or_ge i xs.length with h | h
      · rw [List.drop_eq_getElem_cons h] at hr; cases hr
      · omega
    subst this
    exact done E S hI
theorem rngL_map (lo hi : Int) : rngL lo hi = (List.range (hi - lo).toNat).map fun (k : Nat) => D.int (lo + (k : Int)) := rfl
theorem wp_for_rng {lo hi : Int} (I : Int → Env → Sto → Prop) (h0 : I lo E S) (step : ∀ i E S, lo ≤ i → i < hi → I i E S → WO (asg (.int i) E) fun E1 => Wp (body E1 S) (forQ (I (i + 1)) Q)) (done : ∀ E S, I (max lo hi) E S → Q .nx E S) : Wp (forL asg body (rngL lo hi) E S) Q := by
  rw [rngL_map]
  refine wp_for_ix (fun (k : Nat) => D.int (lo + (k : Int))) (List.range (hi - lo).toNat) (fun i => I (lo + i)) (by simpa using h0) ?_ ?_
  · intro i h E S hI
    simp only [List.length_range] at h
    simp only [List.getElem_range]
    have := step (lo + i) E S (by omega) (by omega) hI
    rw [show lo + (i : Int) + 1 = lo + ((i + 1 : Nat) : Int) by omega] at this
    exact this
  · intro E S hI
    simp only [List.length_range] at hI
    rw [show lo + (((hi - lo).toNat : Nat) : Int) = max lo hi by omega] at hI
    exact done E S hI
def whQ (I : Env → Sto → Prop) (Q : Out → Env → Sto → Prop) (o : Out) (E : Env) (S : Sto) : Prop := forQ I Q o E S
theorem wp_wh {c : Env → Sto → Ot Bool} (I : Nat → Env → Sto → Prop) : ∀ {W m : Nat} {E : Env} {S : Sto}, I m E S → m < W →
    (∀ m E S, I m E S → Wp (c E S) (fun b E1 S1 => (b = true → Wp (body E1 S1) (forQ (fun E2 S2 => ∃ m', m' < m ∧ I m' E2 S2) Q)) ∧ (b = false → Q .nx E1 S1))) → Wp (whL c body W E S) Q
  | 0, m, E, S, _, h, _ => by omega
  | W + 1, m, E, S, h0, hm, step => by
    obtain ⟨b, E1, S1, e1, q1, q2⟩ := step m E S h0
    simp only [whL, e1, bnd]
    cases b with
    | true =>
      obtain ⟨o, E2, S2, e2, q⟩ := q1 rfl
      simp only [if_true, e2]
      cases o with
      | nx =>
        obtain ⟨m', hm', q⟩ := q
        exact wp_wh I q (by omega) step
      | ret x => exact ⟨.ret x, E2, S2, rfl, q⟩
    | false => exact ⟨.nx, E1, S1, rfl, q2 rfl⟩
end
/-! ### comprehensions -/
theorem back_wipe (E E' : Env) : ∀ vs : List Nat, wipeE E' vs = wipeE E vs → backE E E' vs = E := by
  have len : ∀ (vs : List Nat) (E : Env), (wipeE E vs).length = E.length := by
    intro vs; induction vs with
    | nil => intro E; rfl
    | cons v vs ih => intro E; simp only [wipeE, List.length_set, ih]
  have blen : ∀ (vs : List Nat), (backE E E' vs).length = E'.length := by
    intro vs; induction vs with
    | nil => rfl
    | cons v vs ih => simp only [backE, List.length_set, ih]
  intro vs h
  have hl : E'.length = E.length := by rw [← len vs E', h, len]
  have wne : ∀ (vs : List Nat) (E : Env) (i : Nat), i ∉ vs → (wipeE E vs)[i]? = E[i]? := by
    intro vs; induction vs with
    | nil => intro E i _; rfl
    | cons v vs ih =>
      intro E i hi
      rw [List.mem_cons, not_or] at hi
      simp only [wipeE]
      rw [List.getElem?_set_ne (Ne.symm hi.1), ih E i hi.2]
  have b : ∀ (vs : List Nat) (i : Nat), (backE E E' vs)[i]? = if i ∈ vs then (if i < E'.length then some (E[i]?.getD none) else none) else E'[i]? := by
    intro vs; induction vs with
    | nil => intro i; simp [backE]
    | cons v vs ih =>
      intro i
      simp only [backE]
      by_cases hv : v = i
      · subst hv
        by_cases hi : v < E'.length
        · rw [List.getElem?_set_self (by rw [blen]; exact hi)]; simp [hi]
        · rw [List.getElem?_eq_none (by rw [List.length_set, blen]; omega)]; simp [hi]
      · rw [List.getElem?_set_ne hv, ih i]
        simp [Ne.symm hv, show (i = v) = False by simp [Ne.symm hv]]
  refine List.ext_getElem? fun i => ?_
  rw [b]
  by_cases hi : i ∈ vs
  · rw [if_pos hi]
    by_cases hlt : i < E'.length
    · rw [if_pos hlt, List.getElem?_eq_getElem (by omega)]; rfl
    · rw [if_neg hlt, List.getElem?_eq_none (by omega)]
  · rw [if_neg hi, ← wne vs E' i hi, h, wne vs E i hi]
section
variable {P : Prg} {K : Calls} {MK : String → List D → Sto → Option (Res D × Sto)} {vs : List Nat} {asg : D → Env → Option Env} {cond : Env → Sto → Ot Bool} {c : CE} {E E0 : Env} {S : Sto}
/-- turn by turn; the store may change -/
theorem wp_lc_st {α : Type} (emb : α → D) (xs : List α) {Q : List D → Env → Sto → Prop} {Ew : Env} (hw : wipeE E0 vs = Ew) (I : Nat → List D → Sto → Prop) (hl : xs.length ≤ LIM) (h0 : I 0 [] S)
    (turn : ∀ i (h : i < xs.length) acc S, I i acc S → WO (asg (emb xs[i]) Ew) fun E1 => Wp (cond E1 S) fun b E2 S2 => (b = true → Wp (ev P K MK c E2 S2) fun r E3 S3 => wipeE E3 vs = Ew ∧ WO (one r) fun d => I (i + 1) (acc ++ [d]) S3) ∧ (b = false → wipeE E2 vs = Ew ∧ I (i + 1) acc S2))
    (done : ∀ acc S E', backE E0 E' vs = E0 → I xs.length acc S → Q acc E' S) : Wp (lcL vs asg cond (fun E S acc => bnd (ev P K MK c E S) (pushL acc)) (xs.map emb) [] E0 S) Q := by
  have main : ∀ (n i : Nat) (acc : List D) (E : Env) (S : Sto), n + i = xs.length → acc.length ≤ i → wipeE E vs = Ew → I i acc S → Wp (lcL vs asg cond (fun E S acc => bnd (ev P K MK c E S) (pushL acc)) ((xs.drop i).map emb) acc E S) Q := by
    intro n
    induction n with
    | zero =>
      intro i acc E S hn ha hE hI
      have : i = xs.length := by omega
      subst this
      rw [List.drop_length]
      exact ⟨acc, E, S, rfl, done _ _ _ (back_wipe E0 E vs (by rw [hE, hw])) hI⟩
    | succ n ih =>
      intro i acc E S hn ha hE hI
      have hlt : i < xs.length := by omega
      rw [List.drop_eq_getElem_cons hlt, List.map_cons]
      obtain ⟨E1, e1, b, E2, S2, e2, q1, q2⟩ := turn i hlt acc S hI
      simp only [lcL, hE, e1, e2, bnd]
      cases b with
      | true =>
        obtain ⟨r, E3, S3, e3, w3, d, e4, hI'⟩ := q1 rfl
        simp only [if_true, e3, pushL, e4]
        rw [if_pos (by omega)]
        exact ih (i + 1) (acc ++ [d]) E3 S3 (by omega) (by simp; omega) w3 hI'
      | false =>
        obtain ⟨w2, hI'⟩ := q2 rfl
        exact ih (i + 1) acc E2 S2 (by omega) (by omega) w2 hI'
  have := main xs.length 0 [] E0 S (by omega) (by simp) hw h0
  simpa using this
/-- each turn gives an item that is known, the store stays -/
theorem wp_lc {α : Type} (emb : α → D) (xs : List α) (p : α → Bool) (g : α → D) {Q : List D → Env → Sto → Prop} {Ew : Env} (hw : wipeE E0 vs = Ew) (hl : xs.length ≤ LIM)
    (turn : ∀ x ∈ xs, WO (asg (emb x) Ew) fun E1 => Wp (cond E1 S) fun b E2 S2 => b = p x ∧ S2 = S ∧ (b = true → Wp (ev P K MK c E2 S2) fun r E3 S3 => wipeE E3 vs = Ew ∧ S3 = S ∧ one r = some (g x)) ∧ (b = false → wipeE E2 vs = Ew))
    (done : ∀ E', backE E0 E' vs = E0 → Q ((xs.filter p).map g) E' S) : Wp (lcL vs asg cond (fun E S acc => bnd (ev P K MK c E S) (pushL acc)) (xs.map emb) [] E0 S) Q := by
  refine wp_lc_st emb xs hw (fun i acc S' => S' = S ∧ acc = ((xs.take i).filter p).map g) hl ⟨rfl, by simp⟩ ?_ ?_
  · rintro i h acc _ ⟨rfl, rfl⟩
    obtain ⟨E1, e1, b, E2, S2, e2, hb, hS, q1, q2⟩ := turn xs[i] (List.getElem_mem h)
    have tk : xs.take (i + 1) = xs.take i ++ [xs[i]] := by simp
    refine ⟨E1, e1, b, E2, S2, e2, fun hb' => ?_, fun hb' => ⟨q2 hb', hS, ?_⟩⟩
    · obtain ⟨r, E3, S3, e3, w3, hs3, o3⟩ := q1 hb'
      exact ⟨r, E3, S3, e3, w3, _, o3, hs3, by rw [tk, List.filter_append, List.map_append]; simp [← hb, hb']⟩
    · rw [tk, List.filter_append, List.map_append]; simp [← hb, hb']
  · rintro acc _ E' hE ⟨rfl, rfl⟩
    rw [List.take_length]
    exact done E' hE
/-- .. without a condition -/
theorem wp_lcm {α : Type} (emb : α → D) (xs : List α) (g : α → D) {Q : List D → Env → Sto → Prop} {Ew : Env} (hw : wipeE E0 vs = Ew) (hl : xs.length ≤ LIM)
    (turn : ∀ x ∈ xs, WO (asg (emb x) Ew) fun E1 => Wp (ev P K MK c E1 S) fun r E3 S3 => wipeE E3 vs = Ew ∧ S3 = S ∧ one r = some (g x))
    (done : ∀ E', backE E0 E' vs = E0 → Q (xs.map g) E' S) : Wp (lcL vs asg (conds P K MK .nil) (fun E S acc => bnd (ev P K MK c E S) (pushL acc)) (xs.map emb) [] E0 S) Q := by
  refine wp_lc emb xs (fun _ => true) g hw hl (fun x hx => ?_) (fun E' hE => by rw [List.filter_eq_self.mpr (fun _ _ => rfl)]; exact done E' hE)
  obtain ⟨E1, e1, q⟩ := turn x hx
  refine ⟨E1, e1, ?_⟩
  simp only [wc_nil]
  exact ⟨trivial, trivial, fun _ => q, fun h => by cases h⟩
end
section
variable {P : Prg} {K : Calls} {MK : String → List D → Sto → Option (Res D × Sto)} {vs vs1 : List Nat} {asg asg1 : D → Env → Option Env} {cond cond1 : Env → Sto → Ot Bool} {c : CE} {it1 : CI} {E E0 : Env} {S : Sto}
/-- a walk that goes on behind what is there -/
theorem wp_lcA {β : Type} (emb : β → D) (p : β → Bool) (g : β → D) {Ew : Env} (xs : List β) : ∀ {acc : List D} {E : Env}, wipeE E vs = Ew → acc.length + xs.length ≤ LIM →
    (∀ x ∈ xs, WO (asg (emb x) Ew) fun E1 => Wp (cond E1 S) fun b E2 S2 => b = p x ∧ S2 = S ∧ (b = true → Wp (ev P K MK c E2 S2) fun r E3 S3 => wipeE E3 vs = Ew ∧ S3 = S ∧ one r = some (g x)) ∧ (b = false → wipeE E2 vs = Ew)) →
    Wp (lcL vs asg cond (fun E S acc => bnd (ev P K MK c E S) (pushL acc)) (xs.map emb) acc E S) fun l E' S' => l = acc ++ (xs.filter p).map g ∧ S' = S ∧ wipeE E' vs = Ew := by
  induction xs with
  | nil => intro acc E hE _ _; exact ⟨acc, E, S, rfl, by simp, rfl, hE⟩
  | cons x xs ih =>
    intro acc E hE hl turn
    obtain ⟨E1, e1, b, E2, S2, e2, hb, hS, q1, q2⟩ := turn x (by simp)
    subst hS
    simp only [List.length_cons] at hl
    rw [List.map_cons]
    simp only [lcL, hE, e1, e2, bnd]
    cases b with
    | true =>
      obtain ⟨r, E3, S3, e3, w3, rfl, e4⟩ := q1 rfl
      simp only [if_true, e3, pushL, e4]
      rw [if_pos (by omega)]
      obtain ⟨l, E', S', e5, h5, h6, h7⟩ := ih (acc := acc ++ [g x]) (E := E3) w3 (by simp; omega) (fun y hy => turn y (List.mem_cons_of_mem _ hy))
      refine ⟨l, E', S', e5, ?_, h6, h7⟩
      rw [h5, List.filter_cons, ← hb]
      simp
    | false =>
      obtain ⟨l, E', S', e5, h5, h6, h7⟩ := ih (acc := acc) (E := E2) (q2 rfl) (by omega) (fun y hy => turn y (List.mem_cons_of_mem _ hy))
      refine ⟨l, E', S', e5, ?_, h6, h7⟩
      rw [h5, List.filter_cons, ← hb]
      simp
theorem bnd_some {α β : Type} {a : α} {E : Env} {S : Sto} {k : α → Env → Sto → Ot β} : bnd (some (.ok a, E, S)) k = k a E S := rfl
/-- two clauses: each turn of the outer one walks a known row -/
theorem wp_lc2 {α β : Type} (emb : α → D) (xs : List α) (p : α → Bool) (emb1 : α → β → D) (ys : α → List β) (p1 : α → β → Bool) (g : α → β → D) {Q : List D → Env → Sto → Prop} {Ew : Env} (hw : wipeE E0 vs = Ew) (n : Nat) (hn : ∀ x ∈ xs, (ys x).length ≤ n) (hl : n * xs.length ≤ LIM)
    (turn : ∀ x ∈ xs, WO (asg (emb x) Ew) fun E1 => Wp (cond E1 S) fun b E2 S2 => b = p x ∧ S2 = S ∧ (b = true → Wp (itr P K MK it1 E2 S2) fun l E3 S3 => S3 = S ∧ l = (ys x).map (emb1 x) ∧
      (∀ y ∈ ys x, WO (asg1 (emb1 x y) (wipeE E3 vs1)) fun E4 => Wp (cond1 E4 S) fun b1 E5 S5 => b1 = p1 x y ∧ S5 = S ∧ (b1 = true → Wp (ev P K MK c E5 S5) fun r E6 S6 => wipeE E6 vs1 = wipeE E3 vs1 ∧ S6 = S ∧ one r = some (g x y)) ∧ (b1 = false → wipeE E5 vs1 = wipeE E3 vs1)) ∧ ∀ E' : Env, wipeE E' vs1 = wipeE E3 vs1 → wipeE E' vs = Ew) ∧ (b = false → wipeE E2 vs = Ew))
    (done : ∀ E', backE E0 E' vs = E0 → Q ((xs.filter p).flatMap fun x => ((ys x).filter (p1 x)).map (g x)) E' S) :
    Wp (lcL vs asg cond (fun E S acc => bnd (itr P K MK it1 E S) fun g1 E S => lcL vs1 asg1 cond1 (fun E S acc => bnd (ev P K MK c E S) (pushL acc)) g1 acc E S) (xs.map emb) [] E0 S) Q := by
  have main : ∀ (m : Nat) (xs : List α), xs.length = m → (∀ x ∈ xs, (ys x).length ≤ n) → (∀ x ∈ xs, WO (asg (emb x) Ew) fun E1 => Wp (cond E1 S) fun b E2 S2 => b = p x ∧ S2 = S ∧ (b = true → Wp (itr P K MK it1 E2 S2) fun l E3 S3 => S3 = S ∧ l = (ys x).map (emb1 x) ∧
      (∀ y ∈ ys x, WO (asg1 (emb1 x y) (wipeE E3 vs1)) fun E4 => Wp (cond1 E4 S) fun b1 E5 S5 => b1 = p1 x y ∧ S5 = S ∧ (b1 = true → Wp (ev P K MK c E5 S5) fun r E6 S6 => wipeE E6 vs1 = wipeE E3 vs1 ∧ S6 = S ∧ one r = some (g x y)) ∧ (b1 = false → wipeE E5 vs1 = wipeE E3 vs1)) ∧ ∀ E' : Env, wipeE E' vs1 = wipeE E3 vs1 → wipeE E' vs = Ew) ∧ (b = false → wipeE E2 vs = Ew)) →
      ∀ (acc : List D) (E : Env), wipeE E vs = Ew → acc.length + n * m ≤ LIM → Wp (lcL vs asg cond (fun E S acc => bnd (itr P K MK it1 E S) fun g1 E S => lcL vs1 asg1 cond1 (fun E S acc => bnd (ev P K MK c E S) (pushL acc)) g1 acc E S) (xs.map emb) acc E S) fun l E' S' => l = acc ++ (xs.filter p).flatMap (fun x => ((ys x).filter (p1 x)).map (g x)) ∧ S' = S ∧ wipeE E' vs = Ew := by
    intro m
    induction m with
    | zero =>
      intro xs hx _ _ acc E hE _
      obtain rfl := List.length_eq_zero_iff.mp hx
      exact ⟨acc, E, S, rfl, by simp, rfl, hE⟩
    | succ m ih =>
      intro xs hx hn turn acc E hE hl
      obtain ⟨x, xs, rfl⟩ : ∃ a r, xs = a :: r := by cases xs with
        | nil => simp at hx
        | cons a r => exact ⟨a, r, rfl⟩
      simp only [List.length_cons, Nat.add_right_cancel_iff] at hx
      obtain ⟨E1, e1, b, E2, S2, e2, hb, rfl, q1, q2⟩ := turn x (by simp)
      have hnx := hn x (by simp)
      rw [Nat.mul_succ] at hl
      rw [List.map_cons]
      simp only [lcL, hE, e1, e2, bnd_some]
      cases b with
      | true =>
        obtain ⟨l1, E3, S3, e3, rfl, rfl, t1, w3⟩ := q1 rfl
        simp only [if_true, e3, bnd_some]
        obtain ⟨l2, E4, S4, e4, rfl, rfl, w4⟩ := wp_lcA (P := P) (K := K) (MK := MK) (c := c) (S := S3) (vs := vs1) (asg := asg1) (cond := cond1) (emb1 x) (p1 x) (g x) (Ew := wipeE E3 vs1) (ys x) (acc := acc) (E := E3) rfl (by omega) t1
        have lf : (List.filter (p1 x) (ys x)).length ≤ n := Nat.le_trans (List.length_filter_le _ _) hnx
        obtain ⟨l, E', S', e5, h5, h6, h7⟩ := ih xs hx (fun y hy => hn y (List.mem_cons_of_mem _ hy)) (fun y hy => turn y (List.mem_cons_of_mem _ hy)) (acc ++ ((ys x).filter (p1 x)).map (g x)) E4 (w3 E4 w4) (by rw [List.length_append, List.length_map]; omega)
        refine ⟨l, E', S', ?_, ?_, h6, h7⟩
        · simp only [e4, bnd_some]
          exact e5
        · rw [h5, List.filter_cons, ← hb]
          simp
      | false =>
        obtain ⟨l, E', S', e5, h5, h6, h7⟩ := ih xs hx (fun y hy => hn y (List.mem_cons_of_mem _ hy)) (fun y hy => turn y (List.mem_cons_of_mem _ hy)) acc E2 (q2 rfl) (by omega)
        refine ⟨l, E', S', e5, ?_, h6, h7⟩
        rw [h5, List.filter_cons, ← hb]
        simp
  obtain ⟨l, E', S', e, h1, h2, h3⟩ := main xs.length xs rfl hn turn [] E0 hw (by simpa using hl)
  subst h2
  refine ⟨l, E', S', e, ?_⟩
  rw [h1, List.nil_append]
  exact done E' (back_wipe E0 E' vs (by rw [h3, hw]))
end
/-! ### small things -/
theorem big_of {i : Int} (h1 : -10 ^ 200 ≤ i) (h2 : i ≤ 10 ^ 200) : i.natAbs < BIG := by
  have : i.natAbs ≤ 10 ^ 200 := by omega
  exact Nat.lt_of_le_of_lt this (by unfold BIG; decide +kernel)
theorem wp_ite {α : Type} {c : Prop} [Decidable c] {A B : Ot α} {Q : α → Env → Sto → Prop} (h1 : c → Wp A Q) (h2 : ¬ c → Wp B Q) : Wp (if c then A else B) Q := by
  by_cases h : c
  · rw [if_pos h]; exact h1 h
  · rw [if_neg h]; exact h2 h
/-- a value by a condition: whichever way, it is r, and nothing else is changed -/
theorem wp_ife {c : Prop} [Decidable c] {P : Prg} {K : Calls} {MK : String → List D → Sto → Option (Res D × Sto)} {a b : CE} {E : Env} {S : Sto} {Q : D × Fl → Env → Sto → Prop} (r : D × Fl)
    (h1 : c → Wp (ev P K MK a E S) fun x E' S' => x = r ∧ E = E' ∧ S = S') (h2 : ¬ c → Wp (ev P K MK b E S) fun x E' S' => x = r ∧ E = E' ∧ S = S') (h : Q r E S) : Wp (if c then ev P K MK a E S else ev P K MK b E S) Q := by
  refine Wp.mono (wp_ite h1 h2) ?_
  rintro _ _ _ ⟨rfl, rfl, rfl⟩
  exact h
theorem tgt_nm {i : Nat} {d : D} {E : Env} : tgt (.nm i) d E = some (setE E i (d, false)) := rfl
theorem tgt_tp {ts : List Tg} {l : List D} {E : Env} : tgt (.tp ts) (.tup l) E = tgt.go ts l E := rfl
theorem tgo_nil {E : Env} : tgt.go [] [] E = some E := rfl
theorem tgo_cons {t : Tg} {ts : List Tg} {d : D} {l : List D} {E : Env} {k : Env → Prop} : WO (tgt.go (t :: ts) (d :: l) E) k = WO (tgt t d E) (fun E => WO (tgt.go ts l E) k) := by
  simp only [tgt.go]
  cases h : tgt t d E with
  | none => simp only [wo_none]
  | some E' => simp only [wo_some]
theorem setE_0 {x : Option (D × Bool)} {y : D × Bool} {E : Env} : setE (x :: E) 0 y = some y :: E := rfl
theorem setE_s {x : Option (D × Bool)} {y : D × Bool} {E : Env} {i : Nat} : setE (x :: E) (i + 1) y = x :: setE E i y := rfl
theorem getE_0 {x : Option (D × Bool)} {E : Env} : (x :: E)[0]? = some x := rfl
theorem getE_s {x : Option (D × Bool)} {E : Env} {i : Nat} : (x :: E)[i + 1]? = E[i]? := rfl
theorem sl_nm {i : Nat} : slots (.nm i) = [i] := rfl
theorem sl_tp {ts : List Tg} : slots (.tp ts) = slots.go ts := rfl
theorem sl_go0 : slots.go [] = [] := rfl
theorem sl_go1 {t : Tg} {ts : List Tg} : slots.go (t :: ts) = slots t ++ slots.go ts := rfl
theorem app_nil {α : Type} {l : List α} : [] ++ l = l := rfl
theorem app_cons {α : Type} {a : α} {l m : List α} : a :: l ++ m = a :: (l ++ m) := rfl
theorem wipe_0 {E : Env} : wipeE E [] = E := rfl
theorem wipe_1 {E : Env} {v : Nat} {vs : List Nat} : wipeE E (v :: vs) = noneE (wipeE E vs) v := rfl
theorem noneE_0 {x : Option (D × Bool)} {E : Env} : noneE (x :: E) 0 = none :: E := rfl
theorem noneE_s {x : Option (D × Bool)} {E : Env} {i : Nat} : noneE (x :: E) (i + 1) = x :: noneE E i := rfl
theorem clr_0 {E : Env} : clearE E [] = true := rfl
def clr1 : Option (Option (D × Bool)) → Bool
  | some (some (_, true)) => false
  | _ => true
theorem clr_1 {E : Env} {v : Nat} {vs : List Nat} : clearE E (v :: vs) = (clr1 E[v]? && clearE E vs) := by
  simp only [clearE, List.all_cons]
  congr 1
theorem ctn_0 {i : Nat} : List.contains ([] : List Nat) i = false := rfl
theorem ctn_1 {i a : Nat} {l : List Nat} : List.contains (a :: l) i = (i == a || List.contains l i) := by simp only [List.contains_cons]
theorem clr1_n : clr1 (some none) = true := rfl
theorem clr1_v {d : D} : clr1 (some (some (d, false))) = true := rfl
theorem ent {c : Fn} {l : List D} : entry c l = l.map (fun d => some (d, false)) ++ List.replicate (c.ns - l.length) none := rfl
theorem mp0 {α β : Type} {f : α → β} : List.map f [] = [] := rfl
theorem mp1 {α β : Type} {f : α → β} {a : α} {l : List α} : List.map f (a :: l) = f a :: List.map f l := rfl
theorem ln0 {α : Type} : List.length ([] : List α) = 0 := rfl
theorem ln1 {α : Type} {a : α} {l : List α} : List.length (a :: l) = l.length + 1 := rfl
theorem flt0 {α : Type} : List.flatten ([] : List (List α)) = [] := rfl
theorem flt1 {α : Type} {a : List α} {l : List (List α)} : List.flatten (a :: l) = a ++ List.flatten l := rfl
theorem rp0 {α : Type} {a : α} : List.replicate 0 a = [] := rfl
theorem rp1 {α : Type} {a : α} {n : Nat} : List.replicate (n + 1) a = a :: List.replicate n a := rfl
theorem ptA0 {a d : D} {l : List D} : putAt (a :: l) 0 d = some (d :: l) := by simp [putAt]
theorem ptA1 {a b d : D} {l : List D} : putAt (a :: b :: l) 1 d = some (a :: d :: l) := by simp [putAt]; omega
theorem ptA2 {a b c d : D} {l : List D} : putAt (a :: b :: c :: l) 2 d = some (a :: b :: d :: l) := by simp [putAt]; omega
theorem st_st {α : Type} {l : List α} {k : Nat} {a b : α} : (l.set k a).set k b = l.set k b := List.set_set ..
theorem ins_nx {cells : Bool} {Q : D → Sto → Prop} {c : String} {fs : List (String × D)} {E : Env} {S : Sto} : insQ cells Q .nx (some (.ins c fs, true) :: E) S = if cells = true then Q (.cell S.length) (S ++ [.ins c fs]) else Q (.ins c fs) S := rfl
theorem setF_nil {f : String} {v : D} : setF f v [] = [(f, v)] := rfl
theorem setF_cons {f g : String} {v x : D} {r : List (String × D)} : setF f v ((g, x) :: r) = if g = f then (f, v) :: r else (g, x) :: setF f v r := rfl
end Dk
end
/-! Lamps -/
section
set_option maxRecDepth 100000
set_option linter.all false
set_option maxHeartbeats 1000000
namespace Dk
theorem eq_of_wc {α : Type} {m : Option (Res α × Sto)} {a : α} {S : Sto} (h : Wc m fun r S' => r = a ∧ S' = S) : m = some (.ok a, S) := by
  obtain ⟨_, _, e, rfl, rfl⟩ := h; exact e
/-- a lamp -/
@[reducible] def lampD (p : Int) (ls : List Int) : D := .ins "Lamp" [("round", .int p), ("on", .tup (ls.map .int))]
structure Lights (p : Int) (ls : List Int) : Prop where
  ne : ls ≠ []
  len : ls.length ≤ 8
  lo : ∀ x ∈ ls, 0 ≤ x
  hi : ∀ x ∈ ls, x < p
  asc : ls.Pairwise (· < ·)
theorem Lights.pos {p : Int} {ls : List Int} (h : Lights p ls) : 0 < p := by
  obtain ⟨x, r, rfl⟩ := List.exists_cons_of_ne_nil h.ne
  have := h.lo x (by simp); have := h.hi x (by simp); omega
section
variable {P : Prg} [Fns P] {F n : Nat} {S : Sto}
local macro_rules | `(tactic| decreasing_trivial_pre_omega) => `(tactic| simp only [Dk.wi_int, Dk.wb_bl, Dk.wp_ok, Dk.wc_ok, Dk.wo_some, Dk.wo_if, Dk.wg_v, Dk.wg_p, Dk.wt_some, Dk.fp0, Dk.fp1, Dk.w_k, Dk.w_loc, Dk.w_glob, Dk.w_bin, Dk.w_neg, Dk.w_not, Dk.w_and, Dk.w_or, Dk.w_cmp, Dk.w_chain, Dk.w_chain2, Dk.w_ife, Dk.w_tup, Dk.w_lst, Dk.w_dct0, Dk.w_newcell, Dk.w_call, Dk.w_make, Dk.w_bi, Dk.w_isi, Dk.w_idx, Dk.w_sl, Dk.w_attr, Dk.w_lco, Dk.w_lc2, Dk.w_rpr, Dk.w_prop, Dk.w_dcs, Dk.w_mk0, Dk.w_frz, Dk.w_bm, Dk.w_sls, Dk.w_dctp, Dk.wd_nil, Dk.wd_cons, Dk.w_lc, Dk.ws_nil, Dk.ws_cons, Dk.ws_v, Dk.ws_f, Dk.ws_p, Dk.wt_not, Dk.wt_and, Dk.wt_or, Dk.wt_k, Dk.wt_loc, Dk.wt_glob, Dk.wt_bin, Dk.wt_cmp, Dk.wt_chain, Dk.wt_call, Dk.wt_bi, Dk.wt_isi, Dk.wt_idx, Dk.wt_attr, Dk.wc_nil, Dk.wc_one, Dk.wi_seq, Dk.wi_rng, Dk.wi_rng2, Dk.wi_items, Dk.wi_enum, Dk.wx_nil, Dk.wx_cons, Dk.wx_nx, Dk.wx_rt, Dk.wx_asg, Dk.wx_expr, Dk.wx_ret, Dk.wx_retN, Dk.wx_pass, Dk.wx_ite, Dk.wx_for, Dk.wx_wh, Dk.wx_raise, Dk.wa_nm, Dk.wa_tp, Dk.wa_go0, Dk.wa_go1, Dk.wa_sub, Dk.wa_fld, Dk.wc_fnEnd, Dk.end_nx, Dk.end_rt, Dk.w_callk, Dk.w_makek, Dk.w_meth, Dk.wt_callk, Dk.wt_meth, Dk.ws_star, Dk.wi_zip, Dk.wx_app, Dk.wx_ext, Dk.wx_par, Dk.rf_v, Dk.rf_f, Dk.wgp_p, Dk.rf_p, Dk.one_v, Dk.one_f, Dk.notP_nil, Dk.notP_v, Dk.handed_v, Dk.handed_f, Dk.handed_p, Dk.lookC_non, Dk.lookC_bl, Dk.lookC_int, Dk.lookC_str, Dk.lookC_tup, Dk.lookC_lst, Dk.lookC_dct, Dk.lookC_ins, Dk.lookC_cell, Dk.lookL_lst, Dk.tr_non, Dk.tr_bl, Dk.tr_int, Dk.tr_lst, Dk.tr_tup, Dk.inO_0, Dk.inO_1, Dk.as_cv, Dk.as_cl, Dk.as_cd, Dk.as_nil, Dk.as_nil_f, Dk.items_v, Dk.over_v, Dk.b_add, Dk.b_sub, Dk.b_mul, Dk.b_mod, Dk.b_fdiv, Dk.powOk_10, Dk.powOk_2, Dk.powOk_3, Dk.powOk_1, Dk.b_pow, Dk.b_shl, Dk.b_addl, Dk.b_addt, Dk.b_adds, Dk.b_mull, Dk.c_eqr0, Dk.c_eql0, Dk.c_eqr1, Dk.c_eql1, Dk.c_eqr2, Dk.c_eql2, Dk.c_eqr3, Dk.c_eql3, Dk.c_eqr4, Dk.c_eql4, Dk.c_eqt0, Dk.c_eqt1, Dk.c_eqok, Dk.c_ne, Dk.c_nes, Dk.c_nel, Dk.c_lt, Dk.c_le, Dk.c_gt, Dk.c_ge, Dk.c_is, Dk.c_isnot, Dk.n_non, Dk.n_int, Dk.n_bl, Dk.n_tup, Dk.n_lst, Dk.n_str, Dk.n_ins, Dk.c_inl, Dk.c_inI, Dk.c_notinI, Dk.c_notinl, Dk.c_inD, Dk.c_notinD, Dk.ok_non, Dk.ok_int, Dk.ok_bl, Dk.e_int, Dk.e_bl, Dk.e_non, Dk.e_nonI, Dk.e_Inon, Dk.e_tup, Dk.e_lst, Dk.e_tupN, Dk.e_nil, Dk.e_nilc, Dk.e_cnil, Dk.e_cons, Dk.f_lenl, Dk.f_lent, Dk.f_lend, Dk.f_tupl, Dk.f_tupt, Dk.f_lstl, Dk.f_lstt, Dk.f_lstd, Dk.f_max2, Dk.f_min2, Dk.f_abs, Dk.f_int, Dk.f_intb, Dk.f_divmod, Dk.f_sorted, Dk.f_sum, Dk.f_any, Dk.f_all, Dk.x_lst, Dk.x_tup, Dk.at0, Dk.at1, Dk.at2, Dk.at3, Dk.i_non, Dk.i_bl, Dk.i_int, Dk.i_str, Dk.i_tup, Dk.i_lst, Dk.i_ins, Dk.y_ii, Dk.y_ib, Dk.y_bb, Dk.y_bi, Dk.y_tt, Dk.y_ti, Dk.y_tb, Dk.y_ss, Dk.o_non, Dk.o_k, Dk.o_loc, Dk.o_bin, Dk.o_neg, Dk.o_bi, Dk.o_call, Dk.p_lst, Dk.p_tup, Dk.cut_first, Dk.cut_from, Dk.cut_all, Dk.q_l, Dk.q_lf, Dk.q_t, Dk.n_tupE, Dk.n_lstE, Dk.n_lstF, Dk.wl_lst, Dk.sb_cell, Dk.sb_lst, Dk.sb_dct, Dk.fs_own, Dk.ow_l, Dk.ap_l, Dk.c_isb, Dk.c_isn, Dk.c_nob, Dk.c_non, Dk.ex_lv, Dk.st_rv, Dk.st_ev, Dk.st_od, Dk.mt_ct, Dk.mt_ix, Dk.mt_gt, Dk.kO_i, Dk.kO_s, Dk.ex_l, Dk.av_bl, Dk.av_non, Dk.av_int, Dk.av_lv, Dk.av_lf, Dk.ov_bl, Dk.ov_non, Dk.ov_int, Dk.ov_lv, Dk.ov_lf, Dk.wa_tpv, Dk.wa_tpf, Dk.forQ_nx, Dk.forQ_rt, Dk.tgt_nm, Dk.tgt_tp, Dk.tgo_nil, Dk.tgo_cons, Dk.setE_0, Dk.setE_s, Dk.getE_0, Dk.getE_s, Dk.sl_nm, Dk.sl_tp, Dk.sl_go0, Dk.sl_go1, Dk.app_nil, Dk.app_cons, Dk.wipe_0, Dk.wipe_1, Dk.noneE_0, Dk.noneE_s, Dk.clr_0, Dk.clr_1, Dk.ctn_0, Dk.ctn_1, Dk.clr1_n, Dk.clr1_v, Dk.ent, Dk.mp0, Dk.mp1, Dk.ln0, Dk.ln1, Dk.flt0, Dk.flt1, Dk.rp0, Dk.rp1, Dk.ptA0, Dk.ptA1, Dk.ptA2, Dk.st_st, Dk.ins_nx, Dk.setF_nil, Dk.setF_cons, Dk.pf, Dk.pk, Nat.reduceAdd, Nat.reduceLeDiff, Nat.reduceSub, Nat.reduceBEq, Nat.reduceLT, Int.reduceLE, Int.reduceLT, Int.reduceToNat, String.reduceEq, String.reduceBEq, gt_iff_lt, ge_iff_le, decide_eq_true_eq, decide_eq_false_iff_not, decide_true, decide_false, Bool.true_eq_false, Bool.false_eq_true, Bool.not_eq_true', Bool.not_eq_false', Bool.not_true, Bool.not_false, if_true, if_false, Bool.and_true, Bool.true_and, Bool.and_false, Bool.false_and, Bool.or_false, Bool.or_true, Bool.true_or, Bool.false_or, true_and, and_true, ne_eq, not_true_eq_false, not_false_eq_true, implies_true, and_self, beq_self_eq_true, List.length_map, Option.map_some, Option.map_none, Option.isSome_some, Option.isSome_none, *])
local macro_rules | `(tactic| decreasing_trivial) => `(tactic| first | exact Dk.big_of (by omega) (by omega) | omega | (refine And.intro ?_ ?_ <;> first | exact Dk.big_of (by omega) (by omega) | omega))
theorem e_is_integer {i : Int} : (cm P F (n+1)).call "is_integer" [.int i] S = some (.ok (.bl true, .v), S) := by
  refine eq_of_wc (wc_call pf rfl ?_)
  simp only [f_is_integer]
  decreasing_trivial_pre_omega
local macro_rules | `(tactic| decreasing_trivial_pre_omega) => `(tactic| simp only [Dk.wi_int, Dk.wb_bl, Dk.wp_ok, Dk.wc_ok, Dk.wo_some, Dk.wo_if, Dk.wg_v, Dk.wg_p, Dk.wt_some, Dk.fp0, Dk.fp1, Dk.w_k, Dk.w_loc, Dk.w_glob, Dk.w_bin, Dk.w_neg, Dk.w_not, Dk.w_and, Dk.w_or, Dk.w_cmp, Dk.w_chain, Dk.w_chain2, Dk.w_ife, Dk.w_tup, Dk.w_lst, Dk.w_dct0, Dk.w_newcell, Dk.w_call, Dk.w_make, Dk.w_bi, Dk.w_isi, Dk.w_idx, Dk.w_sl, Dk.w_attr, Dk.w_lco, Dk.w_lc2, Dk.w_rpr, Dk.w_prop, Dk.w_dcs, Dk.w_mk0, Dk.w_frz, Dk.w_bm, Dk.w_sls, Dk.w_dctp, Dk.wd_nil, Dk.wd_cons, Dk.w_lc, Dk.ws_nil, Dk.ws_cons, Dk.ws_v, Dk.ws_f, Dk.ws_p, Dk.wt_not, Dk.wt_and, Dk.wt_or, Dk.wt_k, Dk.wt_loc, Dk.wt_glob, Dk.wt_bin, Dk.wt_cmp, Dk.wt_chain, Dk.wt_call, Dk.wt_bi, Dk.wt_isi, Dk.wt_idx, Dk.wt_attr, Dk.wc_nil, Dk.wc_one, Dk.wi_seq, Dk.wi_rng, Dk.wi_rng2, Dk.wi_items, Dk.wi_enum, Dk.wx_nil, Dk.wx_cons, Dk.wx_nx, Dk.wx_rt, Dk.wx_asg, Dk.wx_expr, Dk.wx_ret, Dk.wx_retN, Dk.wx_pass, Dk.wx_ite, Dk.wx_for, Dk.wx_wh, Dk.wx_raise, Dk.wa_nm, Dk.wa_tp, Dk.wa_go0, Dk.wa_go1, Dk.wa_sub, Dk.wa_fld, Dk.wc_fnEnd, Dk.end_nx, Dk.end_rt, Dk.w_callk, Dk.w_makek, Dk.w_meth, Dk.wt_callk, Dk.wt_meth, Dk.ws_star, Dk.wi_zip, Dk.wx_app, Dk.wx_ext, Dk.wx_par, Dk.rf_v, Dk.rf_f, Dk.wgp_p, Dk.rf_p, Dk.one_v, Dk.one_f, Dk.notP_nil, Dk.notP_v, Dk.handed_v, Dk.handed_f, Dk.handed_p, Dk.lookC_non, Dk.lookC_bl, Dk.lookC_int, Dk.lookC_str, Dk.lookC_tup, Dk.lookC_lst, Dk.lookC_dct, Dk.lookC_ins, Dk.lookC_cell, Dk.lookL_lst, Dk.tr_non, Dk.tr_bl, Dk.tr_int, Dk.tr_lst, Dk.tr_tup, Dk.inO_0, Dk.inO_1, Dk.as_cv, Dk.as_cl, Dk.as_cd, Dk.as_nil, Dk.as_nil_f, Dk.items_v, Dk.over_v, Dk.b_add, Dk.b_sub, Dk.b_mul, Dk.b_mod, Dk.b_fdiv, Dk.powOk_10, Dk.powOk_2, Dk.powOk_3, Dk.powOk_1, Dk.b_pow, Dk.b_shl, Dk.b_addl, Dk.b_addt, Dk.b_adds, Dk.b_mull, Dk.c_eqr0, Dk.c_eql0, Dk.c_eqr1, Dk.c_eql1, Dk.c_eqr2, Dk.c_eql2, Dk.c_eqr3, Dk.c_eql3, Dk.c_eqr4, Dk.c_eql4, Dk.c_eqt0, Dk.c_eqt1, Dk.c_eqok, Dk.c_ne, Dk.c_nes, Dk.c_nel, Dk.c_lt, Dk.c_le, Dk.c_gt, Dk.c_ge, Dk.c_is, Dk.c_isnot, Dk.n_non, Dk.n_int, Dk.n_bl, Dk.n_tup, Dk.n_lst, Dk.n_str, Dk.n_ins, Dk.c_inl, Dk.c_inI, Dk.c_notinI, Dk.c_notinl, Dk.c_inD, Dk.c_notinD, Dk.ok_non, Dk.ok_int, Dk.ok_bl, Dk.e_int, Dk.e_bl, Dk.e_non, Dk.e_nonI, Dk.e_Inon, Dk.e_tup, Dk.e_lst, Dk.e_tupN, Dk.e_nil, Dk.e_nilc, Dk.e_cnil, Dk.e_cons, Dk.f_lenl, Dk.f_lent, Dk.f_lend, Dk.f_tupl, Dk.f_tupt, Dk.f_lstl, Dk.f_lstt, Dk.f_lstd, Dk.f_max2, Dk.f_min2, Dk.f_abs, Dk.f_int, Dk.f_intb, Dk.f_divmod, Dk.f_sorted, Dk.f_sum, Dk.f_any, Dk.f_all, Dk.x_lst, Dk.x_tup, Dk.at0, Dk.at1, Dk.at2, Dk.at3, Dk.i_non, Dk.i_bl, Dk.i_int, Dk.i_str, Dk.i_tup, Dk.i_lst, Dk.i_ins, Dk.y_ii, Dk.y_ib, Dk.y_bb, Dk.y_bi, Dk.y_tt, Dk.y_ti, Dk.y_tb, Dk.y_ss, Dk.o_non, Dk.o_k, Dk.o_loc, Dk.o_bin, Dk.o_neg, Dk.o_bi, Dk.o_call, Dk.p_lst, Dk.p_tup, Dk.cut_first, Dk.cut_from, Dk.cut_all, Dk.q_l, Dk.q_lf, Dk.q_t, Dk.n_tupE, Dk.n_lstE, Dk.n_lstF, Dk.wl_lst, Dk.sb_cell, Dk.sb_lst, Dk.sb_dct, Dk.fs_own, Dk.ow_l, Dk.ap_l, Dk.c_isb, Dk.c_isn, Dk.c_nob, Dk.c_non, Dk.ex_lv, Dk.st_rv, Dk.st_ev, Dk.st_od, Dk.mt_ct, Dk.mt_ix, Dk.mt_gt, Dk.kO_i, Dk.kO_s, Dk.ex_l, Dk.av_bl, Dk.av_non, Dk.av_int, Dk.av_lv, Dk.av_lf, Dk.ov_bl, Dk.ov_non, Dk.ov_int, Dk.ov_lv, Dk.ov_lf, Dk.wa_tpv, Dk.wa_tpf, Dk.forQ_nx, Dk.forQ_rt, Dk.tgt_nm, Dk.tgt_tp, Dk.tgo_nil, Dk.tgo_cons, Dk.setE_0, Dk.setE_s, Dk.getE_0, Dk.getE_s, Dk.sl_nm, Dk.sl_tp, Dk.sl_go0, Dk.sl_go1, Dk.app_nil, Dk.app_cons, Dk.wipe_0, Dk.wipe_1, Dk.noneE_0, Dk.noneE_s, Dk.clr_0, Dk.clr_1, Dk.ctn_0, Dk.ctn_1, Dk.clr1_n, Dk.clr1_v, Dk.ent, Dk.mp0, Dk.mp1, Dk.ln0, Dk.ln1, Dk.flt0, Dk.flt1, Dk.rp0, Dk.rp1, Dk.ptA0, Dk.ptA1, Dk.ptA2, Dk.st_st, Dk.ins_nx, Dk.setF_nil, Dk.setF_cons, Dk.pf, Dk.pk, Dk.e_is_integer, Nat.reduceAdd, Nat.reduceLeDiff, Nat.reduceSub, Nat.reduceBEq, Nat.reduceLT, Int.reduceLE, Int.reduceLT, Int.reduceToNat, String.reduceEq, String.reduceBEq, gt_iff_lt, ge_iff_le, decide_eq_true_eq, decide_eq_false_iff_not, decide_true, decide_false, Bool.true_eq_false, Bool.false_eq_true, Bool.not_eq_true', Bool.not_eq_false', Bool.not_true, Bool.not_false, if_true, if_false, Bool.and_true, Bool.true_and, Bool.and_false, Bool.false_and, Bool.or_false, Bool.or_true, Bool.true_or, Bool.false_or, true_and, and_true, ne_eq, not_true_eq_false, not_false_eq_true, implies_true, and_self, beq_self_eq_true, List.length_map, Option.map_some, Option.map_none, Option.isSome_some, Option.isSome_none, *])
local macro_rules | `(tactic| decreasing_trivial) => `(tactic| first | exact Dk.big_of (by omega) (by omega) | omega | (refine And.intro ?_ ?_ <;> first | exact Dk.big_of (by omega) (by omega) | omega))
theorem e_is_between {i a b : Int} : (cm P F (n+2)).call "is_between" [.int i, .int a, .int b] S = some (.ok (.bl (decide (a ≤ i) && decide (i ≤ b)), .v), S) := by
  refine eq_of_wc (wc_call pf rfl ?_)
  simp only [f_is_between]
  decreasing_trivial_pre_omega
  refine wp_ite (fun h => ?_) (fun h => ?_) <;> decreasing_trivial_pre_omega <;> simp [h]
local macro_rules | `(tactic| decreasing_trivial_pre_omega) => `(tactic| simp only [Dk.wi_int, Dk.wb_bl, Dk.wp_ok, Dk.wc_ok, Dk.wo_some, Dk.wo_if, Dk.wg_v, Dk.wg_p, Dk.wt_some, Dk.fp0, Dk.fp1, Dk.w_k, Dk.w_loc, Dk.w_glob, Dk.w_bin, Dk.w_neg, Dk.w_not, Dk.w_and, Dk.w_or, Dk.w_cmp, Dk.w_chain, Dk.w_chain2, Dk.w_ife, Dk.w_tup, Dk.w_lst, Dk.w_dct0, Dk.w_newcell, Dk.w_call, Dk.w_make, Dk.w_bi, Dk.w_isi, Dk.w_idx, Dk.w_sl, Dk.w_attr, Dk.w_lco, Dk.w_lc2, Dk.w_rpr, Dk.w_prop, Dk.w_dcs, Dk.w_mk0, Dk.w_frz, Dk.w_bm, Dk.w_sls, Dk.w_dctp, Dk.wd_nil, Dk.wd_cons, Dk.w_lc, Dk.ws_nil, Dk.ws_cons, Dk.ws_v, Dk.ws_f, Dk.ws_p, Dk.wt_not, Dk.wt_and, Dk.wt_or, Dk.wt_k, Dk.wt_loc, Dk.wt_glob, Dk.wt_bin, Dk.wt_cmp, Dk.wt_chain, Dk.wt_call, Dk.wt_bi, Dk.wt_isi, Dk.wt_idx, Dk.wt_attr, Dk.wc_nil, Dk.wc_one, Dk.wi_seq, Dk.wi_rng, Dk.wi_rng2, Dk.wi_items, Dk.wi_enum, Dk.wx_nil, Dk.wx_cons, Dk.wx_nx, Dk.wx_rt, Dk.wx_asg, Dk.wx_expr, Dk.wx_ret, Dk.wx_retN, Dk.wx_pass, Dk.wx_ite, Dk.wx_for, Dk.wx_wh, Dk.wx_raise, Dk.wa_nm, Dk.wa_tp, Dk.wa_go0, Dk.wa_go1, Dk.wa_sub, Dk.wa_fld, Dk.wc_fnEnd, Dk.end_nx, Dk.end_rt, Dk.w_callk, Dk.w_makek, Dk.w_meth, Dk.wt_callk, Dk.wt_meth, Dk.ws_star, Dk.wi_zip, Dk.wx_app, Dk.wx_ext, Dk.wx_par, Dk.rf_v, Dk.rf_f, Dk.wgp_p, Dk.rf_p, Dk.one_v, Dk.one_f, Dk.notP_nil, Dk.notP_v, Dk.handed_v, Dk.handed_f, Dk.handed_p, Dk.lookC_non, Dk.lookC_bl, Dk.lookC_int, Dk.lookC_str, Dk.lookC_tup, Dk.lookC_lst, Dk.lookC_dct, Dk.lookC_ins, Dk.lookC_cell, Dk.lookL_lst, Dk.tr_non, Dk.tr_bl, Dk.tr_int, Dk.tr_lst, Dk.tr_tup, Dk.inO_0, Dk.inO_1, Dk.as_cv, Dk.as_cl, Dk.as_cd, Dk.as_nil, Dk.as_nil_f, Dk.items_v, Dk.over_v, Dk.b_add, Dk.b_sub, Dk.b_mul, Dk.b_mod, Dk.b_fdiv, Dk.powOk_10, Dk.powOk_2, Dk.powOk_3, Dk.powOk_1, Dk.b_pow, Dk.b_shl, Dk.b_addl, Dk.b_addt, Dk.b_adds, Dk.b_mull, Dk.c_eqr0, Dk.c_eql0, Dk.c_eqr1, Dk.c_eql1, Dk.c_eqr2, Dk.c_eql2, Dk.c_eqr3, Dk.c_eql3, Dk.c_eqr4, Dk.c_eql4, Dk.c_eqt0, Dk.c_eqt1, Dk.c_eqok, Dk.c_ne, Dk.c_nes, Dk.c_nel, Dk.c_lt, Dk.c_le, Dk.c_gt, Dk.c_ge, Dk.c_is, Dk.c_isnot, Dk.n_non, Dk.n_int, Dk.n_bl, Dk.n_tup, Dk.n_lst, Dk.n_str, Dk.n_ins, Dk.c_inl, Dk.c_inI, Dk.c_notinI, Dk.c_notinl, Dk.c_inD, Dk.c_notinD, Dk.ok_non, Dk.ok_int, Dk.ok_bl, Dk.e_int, Dk.e_bl, Dk.e_non, Dk.e_nonI, Dk.e_Inon, Dk.e_tup, Dk.e_lst, Dk.e_tupN, Dk.e_nil, Dk.e_nilc, Dk.e_cnil, Dk.e_cons, Dk.f_lenl, Dk.f_lent, Dk.f_lend, Dk.f_tupl, Dk.f_tupt, Dk.f_lstl, Dk.f_lstt, Dk.f_lstd, Dk.f_max2, Dk.f_min2, Dk.f_abs, Dk.f_int, Dk.f_intb, Dk.f_divmod, Dk.f_sorted, Dk.f_sum, Dk.f_any, Dk.f_all, Dk.x_lst, Dk.x_tup, Dk.at0, Dk.at1, Dk.at2, Dk.at3, Dk.i_non, Dk.i_bl, Dk.i_int, Dk.i_str, Dk.i_tup, Dk.i_lst, Dk.i_ins, Dk.y_ii, Dk.y_ib, Dk.y_bb, Dk.y_bi, Dk.y_tt, Dk.y_ti, Dk.y_tb, Dk.y_ss, Dk.o_non, Dk.o_k, Dk.o_loc, Dk.o_bin, Dk.o_neg, Dk.o_bi, Dk.o_call, Dk.p_lst, Dk.p_tup, Dk.cut_first, Dk.cut_from, Dk.cut_all, Dk.q_l, Dk.q_lf, Dk.q_t, Dk.n_tupE, Dk.n_lstE, Dk.n_lstF, Dk.wl_lst, Dk.sb_cell, Dk.sb_lst, Dk.sb_dct, Dk.fs_own, Dk.ow_l, Dk.ap_l, Dk.c_isb, Dk.c_isn, Dk.c_nob, Dk.c_non, Dk.ex_lv, Dk.st_rv, Dk.st_ev, Dk.st_od, Dk.mt_ct, Dk.mt_ix, Dk.mt_gt, Dk.kO_i, Dk.kO_s, Dk.ex_l, Dk.av_bl, Dk.av_non, Dk.av_int, Dk.av_lv, Dk.av_lf, Dk.ov_bl, Dk.ov_non, Dk.ov_int, Dk.ov_lv, Dk.ov_lf, Dk.wa_tpv, Dk.wa_tpf, Dk.forQ_nx, Dk.forQ_rt, Dk.tgt_nm, Dk.tgt_tp, Dk.tgo_nil, Dk.tgo_cons, Dk.setE_0, Dk.setE_s, Dk.getE_0, Dk.getE_s, Dk.sl_nm, Dk.sl_tp, Dk.sl_go0, Dk.sl_go1, Dk.app_nil, Dk.app_cons, Dk.wipe_0, Dk.wipe_1, Dk.noneE_0, Dk.noneE_s, Dk.clr_0, Dk.clr_1, Dk.ctn_0, Dk.ctn_1, Dk.clr1_n, Dk.clr1_v, Dk.ent, Dk.mp0, Dk.mp1, Dk.ln0, Dk.ln1, Dk.flt0, Dk.flt1, Dk.rp0, Dk.rp1, Dk.ptA0, Dk.ptA1, Dk.ptA2, Dk.st_st, Dk.ins_nx, Dk.setF_nil, Dk.setF_cons, Dk.pf, Dk.pk, Dk.e_is_integer, Dk.e_is_between, Nat.reduceAdd, Nat.reduceLeDiff, Nat.reduceSub, Nat.reduceBEq, Nat.reduceLT, Int.reduceLE, Int.reduceLT, Int.reduceToNat, String.reduceEq, String.reduceBEq, gt_iff_lt, ge_iff_le, decide_eq_true_eq, decide_eq_false_iff_not, decide_true, decide_false, Bool.true_eq_false, Bool.false_eq_true, Bool.not_eq_true', Bool.not_eq_false', Bool.not_true, Bool.not_false, if_true, if_false, Bool.and_true, Bool.true_and, Bool.and_false, Bool.false_and, Bool.or_false, Bool.or_true, Bool.true_or, Bool.false_or, true_and, and_true, ne_eq, not_true_eq_false, not_false_eq_true, implies_true, and_self, beq_self_eq_true, List.length_map, Option.map_some, Option.map_none, Option.isSome_some, Option.isSome_none, *])
local macro_rules | `(tactic| decreasing_trivial) => `(tactic| first | exact Dk.big_of (by omega) (by omega) | omega | (refine And.intro ?_ ?_ <;> first | exact Dk.big_of (by omega) (by omega) | omega))
theorem e_check_minute (g : P.gl "MOST_MINUTE" = some (.int (10 ^ 40))) {i : Int} (h : 0 ≤ i ∧ i ≤ 10 ^ 40) : (cm P F (n+3)).call "check_minute" [.int i] S = some (.ok (.non, .v), S) := by
  refine eq_of_wc (wc_call pf rfl ?_)
  obtain ⟨h1, h2⟩ := h
  simp only [f_check_minute]
  decreasing_trivial_pre_omega
theorem flat_ints (l : List Int) : (l.map D.int).all flat = true := by simp [flat]
theorem any_ints (l : List Int) (i : Int) : ((l.map D.int).any fun z => eqD z (.int i)) = decide (i ∈ l) := by
  induction l with
  | nil => simp
  | cons a l ih =>
    simp only [List.map_cons, List.any_cons, ih, e_int, List.mem_cons]
    by_cases h : a = i
    · simp [h]
    · simp [h, Ne.symm h]
theorem plains_ints (l : List Int) : plains (l.map D.int) = true := by
  induction l with
  | nil => rfl
  | cons a l ih => simp [plains, plain, ih]
theorem depths_ints (l : List Int) : depths (l.map D.int) = 0 := by
  induction l with
  | nil => rfl
  | cons a l ih => simp [depths, depth, ih]
theorem ok_tints {l : List Int} : okD (.tup (l.map .int)) = true := by simp [okD, plain, depth, plains_ints, depths_ints]
theorem ok_lints {l : List Int} : okD (.lst (l.map .int)) = true := by simp [okD, plain, depth, plains_ints, depths_ints]
theorem ok_tnil : okD (.tup []) = true := rfl
theorem ok_lnil : okD (.lst []) = true := rfl
theorem eqDs_ints (l m : List Int) : eqDs (l.map D.int) (m.map D.int) = decide (l = m) := by
  induction l generalizing m with
  | nil => cases m <;> simp [eqDs]
  | cons a l ih => cases m with
    | nil => simp [eqDs]
    | cons b m => simp [eqDs, e_int, ih]
theorem eqDs_nil {l : List Int} : eqDs (l.map D.int) [] = decide (l = []) := eqDs_ints l []
theorem attr_round {p : Int} {ls : List Int} [Fns P] : attrD P (lampD p ls) S "round" = some (.int p) := by
  simp only [attrD, insC, Option.bind_some, pk]; rfl
theorem attr_on {p : Int} {ls : List Int} [Fns P] : attrD P (lampD p ls) S "on" = some (.tup (ls.map .int)) := by
  simp only [attrD, insC, Option.bind_some, pk]; rfl
theorem is_Lamp {p : Int} {ls : List Int} : isiD P (lampD p ls) S "Lamp" true = some true := by
  simp only [i_ins, pk]; rfl
local macro_rules | `(tactic| decreasing_trivial_pre_omega) => `(tactic| simp only [Dk.wi_int, Dk.wb_bl, Dk.wp_ok, Dk.wc_ok, Dk.wo_some, Dk.wo_if, Dk.wg_v, Dk.wg_p, Dk.wt_some, Dk.fp0, Dk.fp1, Dk.w_k, Dk.w_loc, Dk.w_glob, Dk.w_bin, Dk.w_neg, Dk.w_not, Dk.w_and, Dk.w_or, Dk.w_cmp, Dk.w_chain, Dk.w_chain2, Dk.w_ife, Dk.w_tup, Dk.w_lst, Dk.w_dct0, Dk.w_newcell, Dk.w_call, Dk.w_make, Dk.w_bi, Dk.w_isi, Dk.w_idx, Dk.w_sl, Dk.w_attr, Dk.w_lco, Dk.w_lc2, Dk.w_rpr, Dk.w_prop, Dk.w_dcs, Dk.w_mk0, Dk.w_frz, Dk.w_bm, Dk.w_sls, Dk.w_dctp, Dk.wd_nil, Dk.wd_cons, Dk.w_lc, Dk.ws_nil, Dk.ws_cons, Dk.ws_v, Dk.ws_f, Dk.ws_p, Dk.wt_not, Dk.wt_and, Dk.wt_or, Dk.wt_k, Dk.wt_loc, Dk.wt_glob, Dk.wt_bin, Dk.wt_cmp, Dk.wt_chain, Dk.wt_call, Dk.wt_bi, Dk.wt_isi, Dk.wt_idx, Dk.wt_attr, Dk.wc_nil, Dk.wc_one, Dk.wi_seq, Dk.wi_rng, Dk.wi_rng2, Dk.wi_items, Dk.wi_enum, Dk.wx_nil, Dk.wx_cons, Dk.wx_nx, Dk.wx_rt, Dk.wx_asg, Dk.wx_expr, Dk.wx_ret, Dk.wx_retN, Dk.wx_pass, Dk.wx_ite, Dk.wx_for, Dk.wx_wh, Dk.wx_raise, Dk.wa_nm, Dk.wa_tp, Dk.wa_go0, Dk.wa_go1, Dk.wa_sub, Dk.wa_fld, Dk.wc_fnEnd, Dk.end_nx, Dk.end_rt, Dk.w_callk, Dk.w_makek, Dk.w_meth, Dk.wt_callk, Dk.wt_meth, Dk.ws_star, Dk.wi_zip, Dk.wx_app, Dk.wx_ext, Dk.wx_par, Dk.rf_v, Dk.rf_f, Dk.wgp_p, Dk.rf_p, Dk.one_v, Dk.one_f, Dk.notP_nil, Dk.notP_v, Dk.handed_v, Dk.handed_f, Dk.handed_p, Dk.lookC_non, Dk.lookC_bl, Dk.lookC_int, Dk.lookC_str, Dk.lookC_tup, Dk.lookC_lst, Dk.lookC_dct, Dk.lookC_ins, Dk.lookC_cell, Dk.lookL_lst, Dk.tr_non, Dk.tr_bl, Dk.tr_int, Dk.tr_lst, Dk.tr_tup, Dk.inO_0, Dk.inO_1, Dk.as_cv, Dk.as_cl, Dk.as_cd, Dk.as_nil, Dk.as_nil_f, Dk.items_v, Dk.over_v, Dk.b_add, Dk.b_sub, Dk.b_mul, Dk.b_mod, Dk.b_fdiv, Dk.powOk_10, Dk.powOk_2, Dk.powOk_3, Dk.powOk_1, Dk.b_pow, Dk.b_shl, Dk.b_addl, Dk.b_addt, Dk.b_adds, Dk.b_mull, Dk.c_eqr0, Dk.c_eql0, Dk.c_eqr1, Dk.c_eql1, Dk.c_eqr2, Dk.c_eql2, Dk.c_eqr3, Dk.c_eql3, Dk.c_eqr4, Dk.c_eql4, Dk.c_eqt0, Dk.c_eqt1, Dk.c_eqok, Dk.c_ne, Dk.c_nes, Dk.c_nel, Dk.c_lt, Dk.c_le, Dk.c_gt, Dk.c_ge, Dk.c_is, Dk.c_isnot, Dk.n_non, Dk.n_int, Dk.n_bl, Dk.n_tup, Dk.n_lst, Dk.n_str, Dk.n_ins, Dk.c_inl, Dk.c_inI, Dk.c_notinI, Dk.c_notinl, Dk.c_inD, Dk.c_notinD, Dk.ok_non, Dk.ok_int, Dk.ok_bl, Dk.e_int, Dk.e_bl, Dk.e_non, Dk.e_nonI, Dk.e_Inon, Dk.e_tup, Dk.e_lst, Dk.e_tupN, Dk.e_nil, Dk.e_nilc, Dk.e_cnil, Dk.e_cons, Dk.f_lenl, Dk.f_lent, Dk.f_lend, Dk.f_tupl, Dk.f_tupt, Dk.f_lstl, Dk.f_lstt, Dk.f_lstd, Dk.f_max2, Dk.f_min2, Dk.f_abs, Dk.f_int, Dk.f_intb, Dk.f_divmod, Dk.f_sorted, Dk.f_sum, Dk.f_any, Dk.f_all, Dk.x_lst, Dk.x_tup, Dk.at0, Dk.at1, Dk.at2, Dk.at3, Dk.i_non, Dk.i_bl, Dk.i_int, Dk.i_str, Dk.i_tup, Dk.i_lst, Dk.i_ins, Dk.y_ii, Dk.y_ib, Dk.y_bb, Dk.y_bi, Dk.y_tt, Dk.y_ti, Dk.y_tb, Dk.y_ss, Dk.o_non, Dk.o_k, Dk.o_loc, Dk.o_bin, Dk.o_neg, Dk.o_bi, Dk.o_call, Dk.p_lst, Dk.p_tup, Dk.cut_first, Dk.cut_from, Dk.cut_all, Dk.q_l, Dk.q_lf, Dk.q_t, Dk.n_tupE, Dk.n_lstE, Dk.n_lstF, Dk.wl_lst, Dk.sb_cell, Dk.sb_lst, Dk.sb_dct, Dk.fs_own, Dk.ow_l, Dk.ap_l, Dk.c_isb, Dk.c_isn, Dk.c_nob, Dk.c_non, Dk.ex_lv, Dk.st_rv, Dk.st_ev, Dk.st_od, Dk.mt_ct, Dk.mt_ix, Dk.mt_gt, Dk.kO_i, Dk.kO_s, Dk.ex_l, Dk.av_bl, Dk.av_non, Dk.av_int, Dk.av_lv, Dk.av_lf, Dk.ov_bl, Dk.ov_non, Dk.ov_int, Dk.ov_lv, Dk.ov_lf, Dk.wa_tpv, Dk.wa_tpf, Dk.forQ_nx, Dk.forQ_rt, Dk.tgt_nm, Dk.tgt_tp, Dk.tgo_nil, Dk.tgo_cons, Dk.setE_0, Dk.setE_s, Dk.getE_0, Dk.getE_s, Dk.sl_nm, Dk.sl_tp, Dk.sl_go0, Dk.sl_go1, Dk.app_nil, Dk.app_cons, Dk.wipe_0, Dk.wipe_1, Dk.noneE_0, Dk.noneE_s, Dk.clr_0, Dk.clr_1, Dk.ctn_0, Dk.ctn_1, Dk.clr1_n, Dk.clr1_v, Dk.ent, Dk.mp0, Dk.mp1, Dk.ln0, Dk.ln1, Dk.flt0, Dk.flt1, Dk.rp0, Dk.rp1, Dk.ptA0, Dk.ptA1, Dk.ptA2, Dk.st_st, Dk.ins_nx, Dk.setF_nil, Dk.setF_cons, Dk.pf, Dk.pk, Dk.e_is_integer, Dk.e_is_between, Dk.ok_tints, Dk.ok_lints, Dk.ok_tnil, Dk.ok_lnil, Dk.eqDs_nil, Nat.reduceAdd, Nat.reduceLeDiff, Nat.reduceSub, Nat.reduceBEq, Nat.reduceLT, Int.reduceLE, Int.reduceLT, Int.reduceToNat, String.reduceEq, String.reduceBEq, gt_iff_lt, ge_iff_le, decide_eq_true_eq, decide_eq_false_iff_not, decide_true, decide_false, Bool.true_eq_false, Bool.false_eq_true, Bool.not_eq_true', Bool.not_eq_false', Bool.not_true, Bool.not_false, if_true, if_false, Bool.and_true, Bool.true_and, Bool.and_false, Bool.false_and, Bool.or_false, Bool.or_true, Bool.true_or, Bool.false_or, true_and, and_true, ne_eq, not_true_eq_false, not_false_eq_true, implies_true, and_self, beq_self_eq_true, List.length_map, Option.map_some, Option.map_none, Option.isSome_some, Option.isSome_none, *])
local macro_rules | `(tactic| decreasing_trivial) => `(tactic| first | exact Dk.big_of (by omega) (by omega) | omega | (refine And.intro ?_ ?_ <;> first | exact Dk.big_of (by omega) (by omega) | omega))
theorem e_check_lamp {p : Int} {ls : List Int} : (cm P F (n+1)).call "check_lamp" [lampD p ls] S = some (.ok (.non, .v), S) := by
  refine eq_of_wc (wc_call pf rfl ?_)
  simp only [f_check_lamp]
  have h := is_Lamp (P := P) (S := S) (p := p) (ls := ls)
  decreasing_trivial_pre_omega
theorem e_lit_by {p f t : Int} {ls : List Int} (hp : 0 < p) : (cm P F (n+1)).call "lit_by" [lampD p ls, .int f, .int t] S = some (.ok (.bl (decide ((t + f) % p ∈ ls)), .v), S) := by
  refine eq_of_wc (wc_call pf rfl ?_)
  simp only [f_lit_by]
  have h1 := attr_round (P := P) (S := S) (p := p) (ls := ls)
  have h2 := attr_on (P := P) (S := S) (p := p) (ls := ls)
  have h3 := flat_ints ls
  have h4 := any_ints ls ((t + f) % p)
  decreasing_trivial_pre_omega
theorem e_is_lit (g : P.gl "MOST_MINUTE" = some (.int (10 ^ 40))) {p f t : Int} {ls : List Int} (hf : 0 ≤ f ∧ f < p) (ht : 0 ≤ t ∧ t ≤ 10 ^ 40) : (cm P F (n+4)).call "is_lit" [lampD p ls, .int f, .int t] S = some (.ok (.bl (decide ((t + f) % p ∈ ls)), .v), S) := by
  refine eq_of_wc (wc_call pf rfl ?_)
  simp only [f_is_lit]
  have h1 := attr_round (P := P) (S := S) (p := p) (ls := ls)
  have h2 := e_check_lamp (P := P) (F := F) (S := S) (p := p) (ls := ls) (n := n + 2)
  have h3 := e_check_minute (P := P) (F := F) (S := S) g ht (n := n)
  have h4 := e_lit_by (P := P) (F := F) (S := S) (p := p) (f := f) (t := t) (ls := ls) (n := n + 2) (by omega)
  have h5 : f ≤ p - 1 := by omega
  obtain ⟨h6, h7⟩ := hf
  decreasing_trivial_pre_omega
theorem enum_map {α : Type} (emb : α → D) (l : List α) (k : Nat) : enumL k (l.map emb) = (l.zipIdx k).map fun q => .tup [.int (q.2 : Nat), emb q.1] := by
  induction l generalizing k with
  | nil => rfl
  | cons a l ih => simp [enumL, ih, List.zipIdx_cons]
theorem e_wrong_light (g : P.gl "MOST_LIGHTS" = some (.int 8)) {p : Int} {ls : List Int} (h : Lights p ls) : (cm P F (n+3)).call "wrong_light" [.int p, .tup (ls.map .int)] S = some (.ok (.lst [], .f), S) := by
  refine eq_of_wc (wc_call pf rfl ?_)
  simp only [f_wrong_light]
  have hne := h.ne
  decreasing_trivial_pre_omega
  rw [enum_map]
  refine wp_for_ix _ _ (fun i E S' => S' = S ∧ ∃ a b, E = [some (.int p, false), some (.tup (ls.map .int), false), a, b]) ⟨rfl, _, _, rfl⟩ ?_ ?_
  · rintro i hi E S' ⟨rfl, a, b, rfl⟩
    simp only [List.length_zipIdx] at hi
    have h8 := h.len
    have n8 : ¬ ((i : Int) = 8) := by omega
    have lo := h.lo _ (List.getElem_mem hi)
    have hi' := h.hi _ (List.getElem_mem hi)
    have hi2 : ls[i] ≤ p - 1 := by omega
    simp only [List.getElem_zipIdx, Nat.zero_add]
    decreasing_trivial_pre_omega
    refine wp_ite (fun h0 => ?_) (fun h0 => ?_)
    · have q := (List.pairwise_iff_getElem.mp h.asc) (i - 1) i (by omega) hi (by omega)
      have q2 : atL (ls.map D.int) ((i : Int) - 1) = some (.int ls[i - 1]) := by
        rw [atL_map, show (i : Int) - 1 = ((i - 1 : Nat) : Int) by omega, atL_nat (by omega)]; rfl
      have q3 : ¬ (ls[i] ≤ ls[i - 1]) := by omega
      decreasing_trivial_pre_omega
      exact ⟨_, _, rfl⟩
    · decreasing_trivial_pre_omega
      exact ⟨_, _, rfl⟩
  · rintro E S' ⟨rfl, a, b, rfl⟩
    decreasing_trivial_pre_omega
theorem m_Lamp (g : P.gl "MOST_LIGHTS" = some (.int 8)) (g2 : P.gl "MOST_PERIOD" = some (.int (10 ^ 30))) {p : Int} {ls : List Int} (h : Lights p ls) (hp : p ≤ 10 ^ 30) : (cm P F (n+4)).make "Lamp" [.int p, .tup (ls.map .int)] S = some (.ok (lampD p ls), S) := by
  refine eq_of_wc (wc_make pk rfl pf rfl ?_)
  simp only [f_Lamp___init__]
  have h0 := h.pos
  have h1 : 1 ≤ p := by omega
  have h2 := e_wrong_light (P := P) (F := F) (S := S) (n := n) g h
  have h3 : fldOk P "Lamp" "round" = true := by simp only [fldOk, pk]; rfl
  have h4 : fldOk P "Lamp" "on" = true := by simp only [fldOk, pk]; rfl
  have h5 : k_Lamp.cells = false := rfl
  decreasing_trivial_pre_omega

end
end Dk
end
/-! Maths -/
section
set_option linter.all false
namespace Dk
theorem nodup_len {α : Type} [DecidableEq α] : ∀ {l m : List α}, l.Nodup → (∀ x ∈ l, x ∈ m) → l.length ≤ m.length
  | [], _, _, _ => Nat.zero_le _
  | a :: l, m, h, s => by
    rw [List.nodup_cons] at h
    have ha := s a (by simp)
    have := nodup_len (m := m.erase a) h.2 fun x hx => by
      have : x ≠ a := fun z => h.1 (z ▸ hx)
      exact (List.mem_erase_of_ne this).mpr (s x (List.mem_cons_of_mem _ hx))
    rw [List.length_erase_of_mem ha] at this
    have := List.length_pos_of_mem ha
    simp only [List.length_cons]
    omega
theorem asc_nodup {l : List Int} (h : l.Pairwise (· < ·)) : l.Nodup := h.imp fun h => by omega
theorem emod_eq_of {a b p : Int} (h : p ∣ a - b) : a % p = b % p := Int.emod_eq_emod_iff_emod_sub_eq_zero.mpr (Int.emod_eq_zero_of_dvd h)
theorem dvd_of_emod {a b p : Int} (h : a % p = b % p) : p ∣ a - b := Int.dvd_of_emod_eq_zero (Int.emod_eq_emod_iff_emod_sub_eq_zero.mp h)
theorem small_eq {a b p : Int} (h : a % p = b % p) (ha : 0 ≤ a ∧ a < p) (hb : 0 ≤ b ∧ b < p) : a = b := by
  rwa [Int.emod_eq_of_lt ha.1 ha.2, Int.emod_eq_of_lt hb.1 hb.2] at h
theorem nodup_map {α β : Type} {f : α → β} : ∀ {l : List α}, l.Nodup → (∀ x ∈ l, ∀ y ∈ l, f x = f y → x = y) → (l.map f).Nodup
  | [], _, _ => by simp
  | a :: l, h, i => by
    rw [List.nodup_cons] at h
    rw [List.map_cons, List.nodup_cons]
    refine ⟨fun z => ?_, nodup_map h.2 fun x hx y hy => i x (List.mem_cons_of_mem _ hx) y (List.mem_cons_of_mem _ hy)⟩
    obtain ⟨y, hy, e⟩ := List.mem_map.mp z
    have := i y (List.mem_cons_of_mem _ hy) a (by simp) e
    exact h.1 (this ▸ hy)
/-- in a round each number comes once -/
theorem round_len {p b : Int} {ls : List Int} (hp : 0 < p) (hn : ls.Nodup) (h0 : ∀ x ∈ ls, 0 ≤ x ∧ x < p) :
    ((List.range p.toNat).filter fun (j : Nat) => decide ((b + j) % p ∈ ls)).length = ls.length := by
  have inj : ∀ i j : Nat, i < p.toNat → j < p.toNat → (b + i) % p = (b + j) % p → i = j := by
    intro i j hi hj e
    have := Int.emod_eq_emod_iff_emod_sub_eq_zero.mp e
    have d := Int.dvd_of_emod_eq_zero this
    have e1 : b + (i : Int) - (b + j) = i - j := by omega
    rw [e1] at d
    obtain ⟨c, hc⟩ := d
    have : c = 0 := by
      rcases Int.lt_trichotomy c 0 with h | h | h
      · have : p * c ≤ p * (-1) := Int.mul_le_mul_of_nonneg_left (by omega) (by omega)
        omega
      · exact h
      · have : p * 1 ≤ p * c := Int.mul_le_mul_of_nonneg_left (by omega) (by omega)
        omega
    subst this
    omega
  have e : ((List.range p.toNat).filter fun (j : Nat) => decide ((b + j) % p ∈ ls)).length = (((List.range p.toNat).filter fun (j : Nat) => decide ((b + j) % p ∈ ls)).map fun (j : Nat) => (b + j) % p).length := by rw [List.length_map]
  rw [e]
  refine Nat.le_antisymm (nodup_len (nodup_map (List.nodup_range.sublist List.filter_sublist) ?_) ?_) (nodup_len hn ?_)
  · intro x hx y hy e
    rw [List.mem_filter, List.mem_range] at hx hy
    exact inj x y hx.1 hy.1 e
  · intro x hx
    obtain ⟨j, hj, rfl⟩ := List.mem_map.mp hx
    rw [List.mem_filter] at hj
    simpa using hj.2
  · intro x hx
    obtain ⟨l0, l1⟩ := h0 x hx
    have q0 := Int.emod_nonneg (x - b) (show p ≠ 0 by omega)
    have q1 := Int.emod_lt_of_pos (x - b) hp
    refine List.mem_map.mpr ⟨((x - b) % p).toNat, ?_, ?_⟩
    · rw [List.mem_filter, List.mem_range]
      refine ⟨by omega, ?_⟩
      rw [decide_eq_true_eq, Int.toNat_of_nonneg q0, Int.add_emod, Int.emod_emod, ← Int.add_emod, show b + (x - b) = x by omega, Int.emod_eq_of_lt l0 l1]
      exact hx
    · rw [Int.toNat_of_nonneg q0, Int.add_emod, Int.emod_emod, ← Int.add_emod, show b + (x - b) = x by omega, Int.emod_eq_of_lt l0 l1]
end Dk
end
/-! FamA -/
section
set_option maxRecDepth 100000
set_option linter.all false
set_option maxHeartbeats 1000000
namespace Dk
/-! Draws of the laws k01 to k24. -/
def MM : Int := 18446744073709551533
/-- a wick: digits, a stirred number, how many draws (c at most) -/
def Wick (S : Sto) (k : Nat) (c : Int) : Prop := ∃ a s t : Int, S[k]? = some (.lst [.int a, .int s, .int t]) ∧ 0 ≤ a ∧ 0 ≤ s ∧ s < MM ∧ 0 ≤ t ∧ t ≤ c
theorem Wick.up {S : Sto} {k : Nat} {c d : Int} (h : Wick S k c) (q : c ≤ d) : Wick S k d := by
  obtain ⟨a, s, t, h1, h2, h3, h4, h5, h6⟩ := h
  exact ⟨a, s, t, h1, h2, h3, h4, h5, by omega⟩
section
variable {P : Prg} {F n : Nat} {S : Sto} {k : Nat} {c m : Int}
section
variable [Has P "_law_burn" f_law_burn_c40a]
local macro_rules | `(tactic| decreasing_trivial_pre_omega) => `(tactic| simp only [Dk.wi_int, Dk.wb_bl, Dk.wp_ok, Dk.wc_ok, Dk.wo_some, Dk.wo_if, Dk.wg_v, Dk.wg_p, Dk.wt_some, Dk.fp0, Dk.fp1, Dk.w_k, Dk.w_loc, Dk.w_glob, Dk.w_bin, Dk.w_neg, Dk.w_not, Dk.w_and, Dk.w_or, Dk.w_cmp, Dk.w_chain, Dk.w_chain2, Dk.w_ife, Dk.w_tup, Dk.w_lst, Dk.w_dct0, Dk.w_newcell, Dk.w_call, Dk.w_make, Dk.w_bi, Dk.w_isi, Dk.w_idx, Dk.w_sl, Dk.w_attr, Dk.w_lco, Dk.w_lc2, Dk.w_rpr, Dk.w_prop, Dk.w_dcs, Dk.w_mk0, Dk.w_frz, Dk.w_bm, Dk.w_sls, Dk.w_dctp, Dk.wd_nil, Dk.wd_cons, Dk.w_lc, Dk.ws_nil, Dk.ws_cons, Dk.ws_v, Dk.ws_f, Dk.ws_p, Dk.wt_not, Dk.wt_and, Dk.wt_or, Dk.wt_k, Dk.wt_loc, Dk.wt_glob, Dk.wt_bin, Dk.wt_cmp, Dk.wt_chain, Dk.wt_call, Dk.wt_bi, Dk.wt_isi, Dk.wt_idx, Dk.wt_attr, Dk.wc_nil, Dk.wc_one, Dk.wi_seq, Dk.wi_rng, Dk.wi_rng2, Dk.wi_items, Dk.wi_enum, Dk.wx_nil, Dk.wx_cons, Dk.wx_nx, Dk.wx_rt, Dk.wx_asg, Dk.wx_expr, Dk.wx_ret, Dk.wx_retN, Dk.wx_pass, Dk.wx_ite, Dk.wx_for, Dk.wx_wh, Dk.wx_raise, Dk.wa_nm, Dk.wa_tp, Dk.wa_go0, Dk.wa_go1, Dk.wa_sub, Dk.wa_fld, Dk.wc_fnEnd, Dk.end_nx, Dk.end_rt, Dk.w_callk, Dk.w_makek, Dk.w_meth, Dk.wt_callk, Dk.wt_meth, Dk.ws_star, Dk.wi_zip, Dk.wx_app, Dk.wx_ext, Dk.wx_par, Dk.rf_v, Dk.rf_f, Dk.wgp_p, Dk.rf_p, Dk.one_v, Dk.one_f, Dk.notP_nil, Dk.notP_v, Dk.handed_v, Dk.handed_f, Dk.handed_p, Dk.lookC_non, Dk.lookC_bl, Dk.lookC_int, Dk.lookC_str, Dk.lookC_tup, Dk.lookC_lst, Dk.lookC_dct, Dk.lookC_ins, Dk.lookC_cell, Dk.lookL_lst, Dk.tr_non, Dk.tr_bl, Dk.tr_int, Dk.tr_lst, Dk.tr_tup, Dk.inO_0, Dk.inO_1, Dk.as_cv, Dk.as_cl, Dk.as_cd, Dk.as_nil, Dk.as_nil_f, Dk.items_v, Dk.over_v, Dk.b_add, Dk.b_sub, Dk.b_mul, Dk.b_mod, Dk.b_fdiv, Dk.powOk_10, Dk.powOk_2, Dk.powOk_3, Dk.powOk_1, Dk.b_pow, Dk.b_shl, Dk.b_addl, Dk.b_addt, Dk.b_adds, Dk.b_mull, Dk.c_eqr0, Dk.c_eql0, Dk.c_eqr1, Dk.c_eql1, Dk.c_eqr2, Dk.c_eql2, Dk.c_eqr3, Dk.c_eql3, Dk.c_eqr4, Dk.c_eql4, Dk.c_eqt0, Dk.c_eqt1, Dk.c_eqok, Dk.c_ne, Dk.c_nes, Dk.c_nel, Dk.c_lt, Dk.c_le, Dk.c_gt, Dk.c_ge, Dk.c_is, Dk.c_isnot, Dk.n_non, Dk.n_int, Dk.n_bl, Dk.n_tup, Dk.n_lst, Dk.n_str, Dk.n_ins, Dk.c_inl, Dk.c_inI, Dk.c_notinI, Dk.c_notinl, Dk.c_inD, Dk.c_notinD, Dk.ok_non, Dk.ok_int, Dk.ok_bl, Dk.e_int, Dk.e_bl, Dk.e_non, Dk.e_nonI, Dk.e_Inon, Dk.e_tup, Dk.e_lst, Dk.e_tupN, Dk.e_nil, Dk.e_nilc, Dk.e_cnil, Dk.e_cons, Dk.f_lenl, Dk.f_lent, Dk.f_lend, Dk.f_tupl, Dk.f_tupt, Dk.f_lstl, Dk.f_lstt, Dk.f_lstd, Dk.f_max2, Dk.f_min2, Dk.f_abs, Dk.f_int, Dk.f_intb, Dk.f_divmod, Dk.f_sorted, Dk.f_sum, Dk.f_any, Dk.f_all, Dk.x_lst, Dk.x_tup, Dk.at0, Dk.at1, Dk.at2, Dk.at3, Dk.i_non, Dk.i_bl, Dk.i_int, Dk.i_str, Dk.i_tup, Dk.i_lst, Dk.i_ins, Dk.y_ii, Dk.y_ib, Dk.y_bb, Dk.y_bi, Dk.y_tt, Dk.y_ti, Dk.y_tb, Dk.y_ss, Dk.o_non, Dk.o_k, Dk.o_loc, Dk.o_bin, Dk.o_neg, Dk.o_bi, Dk.o_call, Dk.p_lst, Dk.p_tup, Dk.cut_first, Dk.cut_from, Dk.cut_all, Dk.q_l, Dk.q_lf, Dk.q_t, Dk.n_tupE, Dk.n_lstE, Dk.n_lstF, Dk.wl_lst, Dk.sb_cell, Dk.sb_lst, Dk.sb_dct, Dk.fs_own, Dk.ow_l, Dk.ap_l, Dk.c_isb, Dk.c_isn, Dk.c_nob, Dk.c_non, Dk.ex_lv, Dk.st_rv, Dk.st_ev, Dk.st_od, Dk.mt_ct, Dk.mt_ix, Dk.mt_gt, Dk.kO_i, Dk.kO_s, Dk.ex_l, Dk.av_bl, Dk.av_non, Dk.av_int, Dk.av_lv, Dk.av_lf, Dk.ov_bl, Dk.ov_non, Dk.ov_int, Dk.ov_lv, Dk.ov_lf, Dk.wa_tpv, Dk.wa_tpf, Dk.forQ_nx, Dk.forQ_rt, Dk.tgt_nm, Dk.tgt_tp, Dk.tgo_nil, Dk.tgo_cons, Dk.setE_0, Dk.setE_s, Dk.getE_0, Dk.getE_s, Dk.sl_nm, Dk.sl_tp, Dk.sl_go0, Dk.sl_go1, Dk.app_nil, Dk.app_cons, Dk.wipe_0, Dk.wipe_1, Dk.noneE_0, Dk.noneE_s, Dk.clr_0, Dk.clr_1, Dk.ctn_0, Dk.ctn_1, Dk.clr1_n, Dk.clr1_v, Dk.ent, Dk.mp0, Dk.mp1, Dk.ln0, Dk.ln1, Dk.flt0, Dk.flt1, Dk.rp0, Dk.rp1, Dk.ptA0, Dk.ptA1, Dk.ptA2, Dk.st_st, Dk.ins_nx, Dk.setF_nil, Dk.setF_cons, Dk.pf, Dk.pk, Dk.e_is_integer, Dk.e_is_between, Dk.ok_tints, Dk.ok_lints, Dk.ok_tnil, Dk.ok_lnil, Dk.eqDs_nil, Nat.reduceAdd, Nat.reduceLeDiff, Nat.reduceSub, Nat.reduceBEq, Nat.reduceLT, Int.reduceLE, Int.reduceLT, Int.reduceToNat, String.reduceEq, String.reduceBEq, gt_iff_lt, ge_iff_le, decide_eq_true_eq, decide_eq_false_iff_not, decide_true, decide_false, Bool.true_eq_false, Bool.false_eq_true, Bool.not_eq_true', Bool.not_eq_false', Bool.not_true, Bool.not_false, if_true, if_false, Bool.and_true, Bool.true_and, Bool.and_false, Bool.false_and, Bool.or_false, Bool.or_true, Bool.true_or, Bool.false_or, true_and, and_true, ne_eq, not_true_eq_false, not_false_eq_true, implies_true, and_self, beq_self_eq_true, List.length_map, Option.map_some, Option.map_none, Option.isSome_some, Option.isSome_none, *])
local macro_rules | `(tactic| decreasing_trivial) => `(tactic| first | exact Dk.big_of (by omega) (by omega) | omega | (refine And.intro ?_ ?_ <;> first | exact Dk.big_of (by omega) (by omega) | omega))
theorem w_burn (h : Wick S k c) (hc : c ≤ 10 ^ 90) (hm : 0 < m ∧ m ≤ 10 ^ 100) :
    Wc ((cm P F (n+1)).call "_law_burn" [.cell k, .int m] S) (fun r S' => ∃ x, r = (.int x, .v) ∧ 0 ≤ x ∧ x < m ∧ Wick S' k (c + 1)) := by
  obtain ⟨a, s, t, hk, ha, hs, hs', ht, ht'⟩ := h
  have hlt := (List.getElem?_eq_some_iff.mp hk).1
  have set_self : ∀ x, (S.set k x)[k]? = some x := fun x => List.getElem?_set_self hlt
  have hMM : MM = 18446744073709551533 := rfl
  obtain ⟨hm0, hm1⟩ := hm
  refine wc_call pf rfl ?_
  simp only [f_law_burn_c40a]
  have b1 : m.natAbs < BIG := (by decreasing_trivial)
  have b2 : s.natAbs < BIG := (by decreasing_trivial)
  have b3 : (t + 1).natAbs < BIG := (by decreasing_trivial)
  have b4 : Int.natAbs 4768777513237032717 < BIG := (by decreasing_trivial)
  have b5 : Int.natAbs 472882027 < BIG := (by decreasing_trivial)
  have b6 : Int.natAbs 134217728 < BIG := (by decreasing_trivial)
  decreasing_trivial_pre_omega
  refine wp_ite (fun h0 => ?_) (fun h0 => ?_)
  · decreasing_trivial_pre_omega
    exact ⟨_, rfl, Int.emod_nonneg _ (by omega), Int.emod_lt_of_pos _ hm0, ⟨_, _, _, set_self _, Int.ediv_nonneg ha (by omega), hs, hs', ht, by omega⟩⟩
  · decreasing_trivial_pre_omega
    have e1 : (s * 4768777513237032717 + 472882027 * (t + 1)) % 18446744073709551533 < 18446744073709551533 := Int.emod_lt_of_pos _ (by decide)
    have e0 : 0 ≤ (s * 4768777513237032717 + 472882027 * (t + 1)) % 18446744073709551533 := Int.emod_nonneg _ (by decide)
    exact ⟨_, rfl, Int.emod_nonneg _ (by omega), Int.emod_lt_of_pos _ hm0, ⟨_, _, _, set_self _, ha, e0, by omega, by omega, by omega⟩⟩
end
section
variable [Has P "_law_burn" f_law_burn_c40a] [Has P "_law_from" f_law_from_4b3d]
local macro_rules | `(tactic| decreasing_trivial_pre_omega) => `(tactic| simp only [Dk.wi_int, Dk.wb_bl, Dk.wp_ok, Dk.wc_ok, Dk.wo_some, Dk.wo_if, Dk.wg_v, Dk.wg_p, Dk.wt_some, Dk.fp0, Dk.fp1, Dk.w_k, Dk.w_loc, Dk.w_glob, Dk.w_bin, Dk.w_neg, Dk.w_not, Dk.w_and, Dk.w_or, Dk.w_cmp, Dk.w_chain, Dk.w_chain2, Dk.w_ife, Dk.w_tup, Dk.w_lst, Dk.w_dct0, Dk.w_newcell, Dk.w_call, Dk.w_make, Dk.w_bi, Dk.w_isi, Dk.w_idx, Dk.w_sl, Dk.w_attr, Dk.w_lco, Dk.w_lc2, Dk.w_rpr, Dk.w_prop, Dk.w_dcs, Dk.w_mk0, Dk.w_frz, Dk.w_bm, Dk.w_sls, Dk.w_dctp, Dk.wd_nil, Dk.wd_cons, Dk.w_lc, Dk.ws_nil, Dk.ws_cons, Dk.ws_v, Dk.ws_f, Dk.ws_p, Dk.wt_not, Dk.wt_and, Dk.wt_or, Dk.wt_k, Dk.wt_loc, Dk.wt_glob, Dk.wt_bin, Dk.wt_cmp, Dk.wt_chain, Dk.wt_call, Dk.wt_bi, Dk.wt_isi, Dk.wt_idx, Dk.wt_attr, Dk.wc_nil, Dk.wc_one, Dk.wi_seq, Dk.wi_rng, Dk.wi_rng2, Dk.wi_items, Dk.wi_enum, Dk.wx_nil, Dk.wx_cons, Dk.wx_nx, Dk.wx_rt, Dk.wx_asg, Dk.wx_expr, Dk.wx_ret, Dk.wx_retN, Dk.wx_pass, Dk.wx_ite, Dk.wx_for, Dk.wx_wh, Dk.wx_raise, Dk.wa_nm, Dk.wa_tp, Dk.wa_go0, Dk.wa_go1, Dk.wa_sub, Dk.wa_fld, Dk.wc_fnEnd, Dk.end_nx, Dk.end_rt, Dk.w_callk, Dk.w_makek, Dk.w_meth, Dk.wt_callk, Dk.wt_meth, Dk.ws_star, Dk.wi_zip, Dk.wx_app, Dk.wx_ext, Dk.wx_par, Dk.rf_v, Dk.rf_f, Dk.wgp_p, Dk.rf_p, Dk.one_v, Dk.one_f, Dk.notP_nil, Dk.notP_v, Dk.handed_v, Dk.handed_f, Dk.handed_p, Dk.lookC_non, Dk.lookC_bl, Dk.lookC_int, Dk.lookC_str, Dk.lookC_tup, Dk.lookC_lst, Dk.lookC_dct, Dk.lookC_ins, Dk.lookC_cell, Dk.lookL_lst, Dk.tr_non, Dk.tr_bl, Dk.tr_int, Dk.tr_lst, Dk.tr_tup, Dk.inO_0, Dk.inO_1, Dk.as_cv, Dk.as_cl, Dk.as_cd, Dk.as_nil, Dk.as_nil_f, Dk.items_v, Dk.over_v, Dk.b_add, Dk.b_sub, Dk.b_mul, Dk.b_mod, Dk.b_fdiv, Dk.powOk_10, Dk.powOk_2, Dk.powOk_3, Dk.powOk_1, Dk.b_pow, Dk.b_shl, Dk.b_addl, Dk.b_addt, Dk.b_adds, Dk.b_mull, Dk.c_eqr0, Dk.c_eql0, Dk.c_eqr1, Dk.c_eql1, Dk.c_eqr2, Dk.c_eql2, Dk.c_eqr3, Dk.c_eql3, Dk.c_eqr4, Dk.c_eql4, Dk.c_eqt0, Dk.c_eqt1, Dk.c_eqok, Dk.c_ne, Dk.c_nes, Dk.c_nel, Dk.c_lt, Dk.c_le, Dk.c_gt, Dk.c_ge, Dk.c_is, Dk.c_isnot, Dk.n_non, Dk.n_int, Dk.n_bl, Dk.n_tup, Dk.n_lst, Dk.n_str, Dk.n_ins, Dk.c_inl, Dk.c_inI, Dk.c_notinI, Dk.c_notinl, Dk.c_inD, Dk.c_notinD, Dk.ok_non, Dk.ok_int, Dk.ok_bl, Dk.e_int, Dk.e_bl, Dk.e_non, Dk.e_nonI, Dk.e_Inon, Dk.e_tup, Dk.e_lst, Dk.e_tupN, Dk.e_nil, Dk.e_nilc, Dk.e_cnil, Dk.e_cons, Dk.f_lenl, Dk.f_lent, Dk.f_lend, Dk.f_tupl, Dk.f_tupt, Dk.f_lstl, Dk.f_lstt, Dk.f_lstd, Dk.f_max2, Dk.f_min2, Dk.f_abs, Dk.f_int, Dk.f_intb, Dk.f_divmod, Dk.f_sorted, Dk.f_sum, Dk.f_any, Dk.f_all, Dk.x_lst, Dk.x_tup, Dk.at0, Dk.at1, Dk.at2, Dk.at3, Dk.i_non, Dk.i_bl, Dk.i_int, Dk.i_str, Dk.i_tup, Dk.i_lst, Dk.i_ins, Dk.y_ii, Dk.y_ib, Dk.y_bb, Dk.y_bi, Dk.y_tt, Dk.y_ti, Dk.y_tb, Dk.y_ss, Dk.o_non, Dk.o_k, Dk.o_loc, Dk.o_bin, Dk.o_neg, Dk.o_bi, Dk.o_call, Dk.p_lst, Dk.p_tup, Dk.cut_first, Dk.cut_from, Dk.cut_all, Dk.q_l, Dk.q_lf, Dk.q_t, Dk.n_tupE, Dk.n_lstE, Dk.n_lstF, Dk.wl_lst, Dk.sb_cell, Dk.sb_lst, Dk.sb_dct, Dk.fs_own, Dk.ow_l, Dk.ap_l, Dk.c_isb, Dk.c_isn, Dk.c_nob, Dk.c_non, Dk.ex_lv, Dk.st_rv, Dk.st_ev, Dk.st_od, Dk.mt_ct, Dk.mt_ix, Dk.mt_gt, Dk.kO_i, Dk.kO_s, Dk.ex_l, Dk.av_bl, Dk.av_non, Dk.av_int, Dk.av_lv, Dk.av_lf, Dk.ov_bl, Dk.ov_non, Dk.ov_int, Dk.ov_lv, Dk.ov_lf, Dk.wa_tpv, Dk.wa_tpf, Dk.forQ_nx, Dk.forQ_rt, Dk.tgt_nm, Dk.tgt_tp, Dk.tgo_nil, Dk.tgo_cons, Dk.setE_0, Dk.setE_s, Dk.getE_0, Dk.getE_s, Dk.sl_nm, Dk.sl_tp, Dk.sl_go0, Dk.sl_go1, Dk.app_nil, Dk.app_cons, Dk.wipe_0, Dk.wipe_1, Dk.noneE_0, Dk.noneE_s, Dk.clr_0, Dk.clr_1, Dk.ctn_0, Dk.ctn_1, Dk.clr1_n, Dk.clr1_v, Dk.ent, Dk.mp0, Dk.mp1, Dk.ln0, Dk.ln1, Dk.flt0, Dk.flt1, Dk.rp0, Dk.rp1, Dk.ptA0, Dk.ptA1, Dk.ptA2, Dk.st_st, Dk.ins_nx, Dk.setF_nil, Dk.setF_cons, Dk.pf, Dk.pk, Dk.e_is_integer, Dk.e_is_between, Dk.ok_tints, Dk.ok_lints, Dk.ok_tnil, Dk.ok_lnil, Dk.eqDs_nil, Nat.reduceAdd, Nat.reduceLeDiff, Nat.reduceSub, Nat.reduceBEq, Nat.reduceLT, Int.reduceLE, Int.reduceLT, Int.reduceToNat, String.reduceEq, String.reduceBEq, gt_iff_lt, ge_iff_le, decide_eq_true_eq, decide_eq_false_iff_not, decide_true, decide_false, Bool.true_eq_false, Bool.false_eq_true, Bool.not_eq_true', Bool.not_eq_false', Bool.not_true, Bool.not_false, if_true, if_false, Bool.and_true, Bool.true_and, Bool.and_false, Bool.false_and, Bool.or_false, Bool.or_true, Bool.true_or, Bool.false_or, true_and, and_true, ne_eq, not_true_eq_false, not_false_eq_true, implies_true, and_self, beq_self_eq_true, List.length_map, Option.map_some, Option.map_none, Option.isSome_some, Option.isSome_none, *])
local macro_rules | `(tactic| decreasing_trivial) => `(tactic| first | exact Dk.big_of (by omega) (by omega) | omega | (refine And.intro ?_ ?_ <;> first | exact Dk.big_of (by omega) (by omega) | omega))
theorem w_from {l : List D} (h : Wick S k c) (hc : c ≤ 10 ^ 90) (hl : l ≠ []) (hl2 : l.length ≤ 10 ^ 9) :
    Wc ((cm P F (n+2)).call "_law_from" [.cell k, .lst l] S) (fun r S' => ∃ x, r = (x, .v) ∧ x ∈ l ∧ Wick S' k (c + 1)) := by
  refine wc_call pf rfl ?_
  simp only [f_law_from_4b3d]
  decreasing_trivial_pre_omega
  have := List.length_pos_iff.mpr hl
  refine (w_burn h hc (by omega)).mono ?_
  rintro _ S' ⟨x, rfl, h0, h1, hk⟩
  have q := atL_of (l := l) h0 h1
  decreasing_trivial_pre_omega
  exact ⟨_, rfl, List.getElem_mem _⟩
end
section
/-! drawn lights -/
theorem lookD_keys (ks : List Int) (x : Int) (v : D) : (lookD (.int x) (ks.map fun k => (D.int k, v))).isSome = decide (x ∈ ks) := by
  induction ks with
  | nil => simp [lookD]
  | cons a r ih =>
    simp only [List.map_cons, lookD, D.beq]
    by_cases h : a = x
    · simp [h]
    · simp [h, ih, Ne.symm h]
theorem putD_keys (ks : List Int) (x : Int) (v : D) : putD (.int x) v (ks.map fun k => (D.int k, v)) = (if x ∈ ks then ks else ks ++ [x]).map fun k => (D.int k, v) := by
  unfold putD
  have h1 : ((ks.map fun k => (D.int k, v)).any fun p => D.beq p.1 (.int x)) = decide (x ∈ ks) := by
    induction ks with
    | nil => simp
    | cons a r ih =>
      simp only [List.map_cons, List.any_cons, ih, D.beq]
      by_cases h : a = x
      · simp [h]
      · simp [h, Ne.symm h]
  rw [h1]
  by_cases h : x ∈ ks
  · simp only [h, decide_true, if_true]
    rw [List.map_map]
    refine List.map_congr_left fun a _ => ?_
    simp only [Function.comp, D.beq]
    split <;> rfl
  · simp only [h, decide_false, Bool.false_eq_true, if_false, List.map_append, List.map_cons, List.map_nil]
theorem insI_mem (x : Int) : ∀ (l : List Int) (y : Int), y ∈ insI x l ↔ y = x ∨ y ∈ l
  | [], y => by simp [insI]
  | a :: r, y => by
    simp only [insI]
    split
    · simp
    · simp only [List.mem_cons, insI_mem x r y]
      constructor <;> (intro h; rcases h with h | h | h <;> simp [h])
theorem insI_len (x : Int) : ∀ l : List Int, (insI x l).length = l.length + 1
  | [] => rfl
  | a :: r => by simp only [insI]; split <;> simp [insI_len x r]
theorem sortI_mem (y : Int) : ∀ l : List Int, y ∈ sortI l ↔ y ∈ l
  | [] => by simp [sortI]
  | a :: r => by simp [sortI, insI_mem, sortI_mem y r]
theorem sortI_len : ∀ l : List Int, (sortI l).length = l.length
  | [] => rfl
  | a :: r => by simp [sortI, insI_len, sortI_len r]
theorem insI_asc (x : Int) : ∀ l : List Int, l.Pairwise (· < ·) → x ∉ l → (insI x l).Pairwise (· < ·)
  | [], _, _ => by simp [insI]
  | a :: r, h, n => by
    simp only [insI]
    rw [List.pairwise_cons] at h
    simp only [List.mem_cons, not_or] at n
    split
    · rename_i hx
      refine List.pairwise_cons.mpr ⟨fun b hb => ?_, List.pairwise_cons.mpr h⟩
      rcases List.mem_cons.mp hb with rfl | hb
      · omega
      · have := h.1 b hb; omega
    · refine List.pairwise_cons.mpr ⟨fun b hb => ?_, insI_asc x r h.2 n.2⟩
      rcases (insI_mem x r b).mp hb with rfl | hb
      · omega
      · exact h.1 b hb
theorem sortI_asc : ∀ l : List Int, l.Nodup → (sortI l).Pairwise (· < ·)
  | [], _ => by simp [sortI]
  | a :: r, h => by
    rw [List.nodup_cons] at h
    exact insI_asc a _ (sortI_asc r h.2) (by rw [sortI_mem]; exact h.1)
/-- two ascending rows with the same numbers are one -/
theorem asc_ext : ∀ {l m : List Int}, l.Pairwise (· < ·) → m.Pairwise (· < ·) → (∀ x, x ∈ l ↔ x ∈ m) → l = m
  | [], [], _, _, _ => rfl
  | [], b :: m, _, _, h => by have := (h b).mpr (by simp); simp at this
  | a :: l, [], _, _, h => by have := (h a).mp (by simp); simp at this
  | a :: l, b :: m, hl, hm, h => by
    rw [List.pairwise_cons] at hl hm
    have e : a = b := by
      rcases List.mem_cons.mp ((h a).mp (by simp)) with q | q
      · exact q
      · rcases List.mem_cons.mp ((h b).mpr (by simp)) with q2 | q2
        · exact q2.symm
        · have := hl.1 b q2; have := hm.1 a q; omega
    subst e
    congr 1
    refine asc_ext hl.2 hm.2 fun x => ?_
    constructor <;> intro q
    · rcases List.mem_cons.mp ((h x).mp (List.mem_cons_of_mem _ q)) with z | z
      · have := hl.1 x q; omega
      · exact z
    · rcases List.mem_cons.mp ((h x).mpr (List.mem_cons_of_mem _ q)) with z | z
      · have := hm.1 x q; omega
      · exact z
end
section
variable [Has P "_law_burn" f_law_burn_c40a] [Has P "_law_glow" f_law_glow_e4a0]
local macro_rules | `(tactic| decreasing_trivial_pre_omega) => `(tactic| simp only [Dk.wi_int, Dk.wb_bl, Dk.wp_ok, Dk.wc_ok, Dk.wo_some, Dk.wo_if, Dk.wg_v, Dk.wg_p, Dk.wt_some, Dk.fp0, Dk.fp1, Dk.w_k, Dk.w_loc, Dk.w_glob, Dk.w_bin, Dk.w_neg, Dk.w_not, Dk.w_and, Dk.w_or, Dk.w_cmp, Dk.w_chain, Dk.w_chain2, Dk.w_ife, Dk.w_tup, Dk.w_lst, Dk.w_dct0, Dk.w_newcell, Dk.w_call, Dk.w_make, Dk.w_bi, Dk.w_isi, Dk.w_idx, Dk.w_sl, Dk.w_attr, Dk.w_lco, Dk.w_lc2, Dk.w_rpr, Dk.w_prop, Dk.w_dcs, Dk.w_mk0, Dk.w_frz, Dk.w_bm, Dk.w_sls, Dk.w_dctp, Dk.wd_nil, Dk.wd_cons, Dk.w_lc, Dk.ws_nil, Dk.ws_cons, Dk.ws_v, Dk.ws_f, Dk.ws_p, Dk.wt_not, Dk.wt_and, Dk.wt_or, Dk.wt_k, Dk.wt_loc, Dk.wt_glob, Dk.wt_bin, Dk.wt_cmp, Dk.wt_chain, Dk.wt_call, Dk.wt_bi, Dk.wt_isi, Dk.wt_idx, Dk.wt_attr, Dk.wc_nil, Dk.wc_one, Dk.wi_seq, Dk.wi_rng, Dk.wi_rng2, Dk.wi_items, Dk.wi_enum, Dk.wx_nil, Dk.wx_cons, Dk.wx_nx, Dk.wx_rt, Dk.wx_asg, Dk.wx_expr, Dk.wx_ret, Dk.wx_retN, Dk.wx_pass, Dk.wx_ite, Dk.wx_for, Dk.wx_wh, Dk.wx_raise, Dk.wa_nm, Dk.wa_tp, Dk.wa_go0, Dk.wa_go1, Dk.wa_sub, Dk.wa_fld, Dk.wc_fnEnd, Dk.end_nx, Dk.end_rt, Dk.w_callk, Dk.w_makek, Dk.w_meth, Dk.wt_callk, Dk.wt_meth, Dk.ws_star, Dk.wi_zip, Dk.wx_app, Dk.wx_ext, Dk.wx_par, Dk.rf_v, Dk.rf_f, Dk.wgp_p, Dk.rf_p, Dk.one_v, Dk.one_f, Dk.notP_nil, Dk.notP_v, Dk.handed_v, Dk.handed_f, Dk.handed_p, Dk.lookC_non, Dk.lookC_bl, Dk.lookC_int, Dk.lookC_str, Dk.lookC_tup, Dk.lookC_lst, Dk.lookC_dct, Dk.lookC_ins, Dk.lookC_cell, Dk.lookL_lst, Dk.tr_non, Dk.tr_bl, Dk.tr_int, Dk.tr_lst, Dk.tr_tup, Dk.inO_0, Dk.inO_1, Dk.as_cv, Dk.as_cl, Dk.as_cd, Dk.as_nil, Dk.as_nil_f, Dk.items_v, Dk.over_v, Dk.b_add, Dk.b_sub, Dk.b_mul, Dk.b_mod, Dk.b_fdiv, Dk.powOk_10, Dk.powOk_2, Dk.powOk_3, Dk.powOk_1, Dk.b_pow, Dk.b_shl, Dk.b_addl, Dk.b_addt, Dk.b_adds, Dk.b_mull, Dk.c_eqr0, Dk.c_eql0, Dk.c_eqr1, Dk.c_eql1, Dk.c_eqr2, Dk.c_eql2, Dk.c_eqr3, Dk.c_eql3, Dk.c_eqr4, Dk.c_eql4, Dk.c_eqt0, Dk.c_eqt1, Dk.c_eqok, Dk.c_ne, Dk.c_nes, Dk.c_nel, Dk.c_lt, Dk.c_le, Dk.c_gt, Dk.c_ge, Dk.c_is, Dk.c_isnot, Dk.n_non, Dk.n_int, Dk.n_bl, Dk.n_tup, Dk.n_lst, Dk.n_str, Dk.n_ins, Dk.c_inl, Dk.c_inI, Dk.c_notinI, Dk.c_notinl, Dk.c_inD, Dk.c_notinD, Dk.ok_non, Dk.ok_int, Dk.ok_bl, Dk.e_int, Dk.e_bl, Dk.e_non, Dk.e_nonI, Dk.e_Inon, Dk.e_tup, Dk.e_lst, Dk.e_tupN, Dk.e_nil, Dk.e_nilc, Dk.e_cnil, Dk.e_cons, Dk.f_lenl, Dk.f_lent, Dk.f_lend, Dk.f_tupl, Dk.f_tupt, Dk.f_lstl, Dk.f_lstt, Dk.f_lstd, Dk.f_max2, Dk.f_min2, Dk.f_abs, Dk.f_int, Dk.f_intb, Dk.f_divmod, Dk.f_sorted, Dk.f_sum, Dk.f_any, Dk.f_all, Dk.x_lst, Dk.x_tup, Dk.at0, Dk.at1, Dk.at2, Dk.at3, Dk.i_non, Dk.i_bl, Dk.i_int, Dk.i_str, Dk.i_tup, Dk.i_lst, Dk.i_ins, Dk.y_ii, Dk.y_ib, Dk.y_bb, Dk.y_bi, Dk.y_tt, Dk.y_ti, Dk.y_tb, Dk.y_ss, Dk.o_non, Dk.o_k, Dk.o_loc, Dk.o_bin, Dk.o_neg, Dk.o_bi, Dk.o_call, Dk.p_lst, Dk.p_tup, Dk.cut_first, Dk.cut_from, Dk.cut_all, Dk.q_l, Dk.q_lf, Dk.q_t, Dk.n_tupE, Dk.n_lstE, Dk.n_lstF, Dk.wl_lst, Dk.sb_cell, Dk.sb_lst, Dk.sb_dct, Dk.fs_own, Dk.ow_l, Dk.ap_l, Dk.c_isb, Dk.c_isn, Dk.c_nob, Dk.c_non, Dk.ex_lv, Dk.st_rv, Dk.st_ev, Dk.st_od, Dk.mt_ct, Dk.mt_ix, Dk.mt_gt, Dk.kO_i, Dk.kO_s, Dk.ex_l, Dk.av_bl, Dk.av_non, Dk.av_int, Dk.av_lv, Dk.av_lf, Dk.ov_bl, Dk.ov_non, Dk.ov_int, Dk.ov_lv, Dk.ov_lf, Dk.wa_tpv, Dk.wa_tpf, Dk.forQ_nx, Dk.forQ_rt, Dk.tgt_nm, Dk.tgt_tp, Dk.tgo_nil, Dk.tgo_cons, Dk.setE_0, Dk.setE_s, Dk.getE_0, Dk.getE_s, Dk.sl_nm, Dk.sl_tp, Dk.sl_go0, Dk.sl_go1, Dk.app_nil, Dk.app_cons, Dk.wipe_0, Dk.wipe_1, Dk.noneE_0, Dk.noneE_s, Dk.clr_0, Dk.clr_1, Dk.ctn_0, Dk.ctn_1, Dk.clr1_n, Dk.clr1_v, Dk.ent, Dk.mp0, Dk.mp1, Dk.ln0, Dk.ln1, Dk.flt0, Dk.flt1, Dk.rp0, Dk.rp1, Dk.ptA0, Dk.ptA1, Dk.ptA2, Dk.st_st, Dk.ins_nx, Dk.setF_nil, Dk.setF_cons, Dk.pf, Dk.pk, Dk.e_is_integer, Dk.e_is_between, Dk.ok_tints, Dk.ok_lints, Dk.ok_tnil, Dk.ok_lnil, Dk.eqDs_nil, Nat.reduceAdd, Nat.reduceLeDiff, Nat.reduceSub, Nat.reduceBEq, Nat.reduceLT, Int.reduceLE, Int.reduceLT, Int.reduceToNat, String.reduceEq, String.reduceBEq, gt_iff_lt, ge_iff_le, decide_eq_true_eq, decide_eq_false_iff_not, decide_true, decide_false, Bool.true_eq_false, Bool.false_eq_true, Bool.not_eq_true', Bool.not_eq_false', Bool.not_true, Bool.not_false, if_true, if_false, Bool.and_true, Bool.true_and, Bool.and_false, Bool.false_and, Bool.or_false, Bool.or_true, Bool.true_or, Bool.false_or, true_and, and_true, ne_eq, not_true_eq_false, not_false_eq_true, implies_true, and_self, beq_self_eq_true, List.length_map, Option.map_some, Option.map_none, Option.isSome_some, Option.isSome_none, *])
local macro_rules | `(tactic| decreasing_trivial) => `(tactic| first | exact Dk.big_of (by omega) (by omega) | omega | (refine And.intro ?_ ?_ <;> first | exact Dk.big_of (by omega) (by omega) | omega))
theorem w_glow {p b : Int} (h : Wick S k c) (hc : c ≤ 10 ^ 80) (hp : 0 < p ∧ p ≤ 10 ^ 50) (hb : 0 < b ∧ b ≤ 8) :
    Wc ((cm P F (n+2)).call "_law_glow" [.cell k, .int p, .int b] S) (fun r S' => ∃ ls, r = (.tup (ls.map .int), .v) ∧ Lights p ls ∧ ls.length ≤ b ∧ Wick S' k (c + 9)) := by
  refine wc_call pf rfl ?_
  simp only [f_law_glow_e4a0]
  decreasing_trivial_pre_omega
  refine (w_burn h (by omega) (by omega)).mono ?_
  rintro _ S' ⟨x, rfl, h0, h1, hk⟩
  decreasing_trivial_pre_omega
  refine wp_for_rng (fun i E S => ∃ (ks : List Int) (e : Option (D × Bool)), E = [some (.cell k, false), some (.int p, false), some (.int b, false), some (.dct (ks.map fun q => (D.int q, D.bl true)), true), e] ∧ Wick S k (c + 1 + i) ∧ ks.Nodup ∧ (∀ q ∈ ks, 0 ≤ q ∧ q < p) ∧ (ks.length : Int) ≤ i ∧ (0 < i → ks ≠ [])) ⟨[], _, rfl, hk.up (by omega), by simp, by simp, by simp, by omega⟩ ?_ ?_
  · rintro i E S hi hi' ⟨ks, e, rfl, hw, hn, hr, hl, he⟩
    decreasing_trivial_pre_omega
    refine (w_burn hw (by omega) (by omega)).mono ?_
    rintro _ S' ⟨y, rfl, hy0, hy1, hk'⟩
    have hL : ks.length < LIM := by unfold LIM; omega
    have hpu := putD_keys ks y (.bl true)
    have hko : keyOk (D.int y) = true := rfl
    decreasing_trivial_pre_omega
    refine ⟨_, _, rfl, hk'.up (by omega), ?_, ?_, ?_, ?_⟩
    · split
      · exact hn
      · rename_i q
        exact List.nodup_append.mpr ⟨hn, by simp, fun a ha b hb => by simp at hb; subst hb; intro z; subst z; exact q ha⟩
    · intro q hq
      split at hq
      · exact hr q hq
      · rcases List.mem_append.mp hq with z | z
        · exact hr q z
        · simp at z; subst z; exact ⟨hy0, hy1⟩
    · split
      · omega
      · simp; omega
    · intro _
      split
      · rename_i q
        intro z; rw [z] at q; simp at q
      · simp
  · rintro E S ⟨ks, e, rfl, hw, hn, hr, hl, he⟩
    rw [show max 0 (1 + x) = 1 + x by omega] at *
    have hmap : (ks.map fun q => (D.int q, D.bl true)).map (·.1) = ks.map .int := by simp
    decreasing_trivial_pre_omega
    have h64 : ks.length < 64 := by omega
    decreasing_trivial_pre_omega
    refine ⟨sortI ks, rfl, ⟨?_, ?_, ?_, ?_, ?_⟩, ?_, hw.up (by omega)⟩
    · intro z
      have := sortI_len ks
      rw [z] at this
      exact he (by omega) (List.length_eq_zero_iff.mp this.symm)
    · rw [sortI_len]; omega
    · intro q hq; exact (hr q ((sortI_mem q ks).mp hq)).1
    · intro q hq; exact (hr q ((sortI_mem q ks).mp hq)).2
    · exact sortI_asc ks hn
    · rw [sortI_len]; omega
end
section
variable [Has P "_law_burn" f_law_burn_c40a] [Has P "_law_from" f_law_from_4b3d] [Has P "_law_size" f_law_size_ec97]
local macro_rules | `(tactic| decreasing_trivial_pre_omega) => `(tactic| simp only [Dk.wi_int, Dk.wb_bl, Dk.wp_ok, Dk.wc_ok, Dk.wo_some, Dk.wo_if, Dk.wg_v, Dk.wg_p, Dk.wt_some, Dk.fp0, Dk.fp1, Dk.w_k, Dk.w_loc, Dk.w_glob, Dk.w_bin, Dk.w_neg, Dk.w_not, Dk.w_and, Dk.w_or, Dk.w_cmp, Dk.w_chain, Dk.w_chain2, Dk.w_ife, Dk.w_tup, Dk.w_lst, Dk.w_dct0, Dk.w_newcell, Dk.w_call, Dk.w_make, Dk.w_bi, Dk.w_isi, Dk.w_idx, Dk.w_sl, Dk.w_attr, Dk.w_lco, Dk.w_lc2, Dk.w_rpr, Dk.w_prop, Dk.w_dcs, Dk.w_mk0, Dk.w_frz, Dk.w_bm, Dk.w_sls, Dk.w_dctp, Dk.wd_nil, Dk.wd_cons, Dk.w_lc, Dk.ws_nil, Dk.ws_cons, Dk.ws_v, Dk.ws_f, Dk.ws_p, Dk.wt_not, Dk.wt_and, Dk.wt_or, Dk.wt_k, Dk.wt_loc, Dk.wt_glob, Dk.wt_bin, Dk.wt_cmp, Dk.wt_chain, Dk.wt_call, Dk.wt_bi, Dk.wt_isi, Dk.wt_idx, Dk.wt_attr, Dk.wc_nil, Dk.wc_one, Dk.wi_seq, Dk.wi_rng, Dk.wi_rng2, Dk.wi_items, Dk.wi_enum, Dk.wx_nil, Dk.wx_cons, Dk.wx_nx, Dk.wx_rt, Dk.wx_asg, Dk.wx_expr, Dk.wx_ret, Dk.wx_retN, Dk.wx_pass, Dk.wx_ite, Dk.wx_for, Dk.wx_wh, Dk.wx_raise, Dk.wa_nm, Dk.wa_tp, Dk.wa_go0, Dk.wa_go1, Dk.wa_sub, Dk.wa_fld, Dk.wc_fnEnd, Dk.end_nx, Dk.end_rt, Dk.w_callk, Dk.w_makek, Dk.w_meth, Dk.wt_callk, Dk.wt_meth, Dk.ws_star, Dk.wi_zip, Dk.wx_app, Dk.wx_ext, Dk.wx_par, Dk.rf_v, Dk.rf_f, Dk.wgp_p, Dk.rf_p, Dk.one_v, Dk.one_f, Dk.notP_nil, Dk.notP_v, Dk.handed_v, Dk.handed_f, Dk.handed_p, Dk.lookC_non, Dk.lookC_bl, Dk.lookC_int, Dk.lookC_str, Dk.lookC_tup, Dk.lookC_lst, Dk.lookC_dct, Dk.lookC_ins, Dk.lookC_cell, Dk.lookL_lst, Dk.tr_non, Dk.tr_bl, Dk.tr_int, Dk.tr_lst, Dk.tr_tup, Dk.inO_0, Dk.inO_1, Dk.as_cv, Dk.as_cl, Dk.as_cd, Dk.as_nil, Dk.as_nil_f, Dk.items_v, Dk.over_v, Dk.b_add, Dk.b_sub, Dk.b_mul, Dk.b_mod, Dk.b_fdiv, Dk.powOk_10, Dk.powOk_2, Dk.powOk_3, Dk.powOk_1, Dk.b_pow, Dk.b_shl, Dk.b_addl, Dk.b_addt, Dk.b_adds, Dk.b_mull, Dk.c_eqr0, Dk.c_eql0, Dk.c_eqr1, Dk.c_eql1, Dk.c_eqr2, Dk.c_eql2, Dk.c_eqr3, Dk.c_eql3, Dk.c_eqr4, Dk.c_eql4, Dk.c_eqt0, Dk.c_eqt1, Dk.c_eqok, Dk.c_ne, Dk.c_nes, Dk.c_nel, Dk.c_lt, Dk.c_le, Dk.c_gt, Dk.c_ge, Dk.c_is, Dk.c_isnot, Dk.n_non, Dk.n_int, Dk.n_bl, Dk.n_tup, Dk.n_lst, Dk.n_str, Dk.n_ins, Dk.c_inl, Dk.c_inI, Dk.c_notinI, Dk.c_notinl, Dk.c_inD, Dk.c_notinD, Dk.ok_non, Dk.ok_int, Dk.ok_bl, Dk.e_int, Dk.e_bl, Dk.e_non, Dk.e_nonI, Dk.e_Inon, Dk.e_tup, Dk.e_lst, Dk.e_tupN, Dk.e_nil, Dk.e_nilc, Dk.e_cnil, Dk.e_cons, Dk.f_lenl, Dk.f_lent, Dk.f_lend, Dk.f_tupl, Dk.f_tupt, Dk.f_lstl, Dk.f_lstt, Dk.f_lstd, Dk.f_max2, Dk.f_min2, Dk.f_abs, Dk.f_int, Dk.f_intb, Dk.f_divmod, Dk.f_sorted, Dk.f_sum, Dk.f_any, Dk.f_all, Dk.x_lst, Dk.x_tup, Dk.at0, Dk.at1, Dk.at2, Dk.at3, Dk.i_non, Dk.i_bl, Dk.i_int, Dk.i_str, Dk.i_tup, Dk.i_lst, Dk.i_ins, Dk.y_ii, Dk.y_ib, Dk.y_bb, Dk.y_bi, Dk.y_tt, Dk.y_ti, Dk.y_tb, Dk.y_ss, Dk.o_non, Dk.o_k, Dk.o_loc, Dk.o_bin, Dk.o_neg, Dk.o_bi, Dk.o_call, Dk.p_lst, Dk.p_tup, Dk.cut_first, Dk.cut_from, Dk.cut_all, Dk.q_l, Dk.q_lf, Dk.q_t, Dk.n_tupE, Dk.n_lstE, Dk.n_lstF, Dk.wl_lst, Dk.sb_cell, Dk.sb_lst, Dk.sb_dct, Dk.fs_own, Dk.ow_l, Dk.ap_l, Dk.c_isb, Dk.c_isn, Dk.c_nob, Dk.c_non, Dk.ex_lv, Dk.st_rv, Dk.st_ev, Dk.st_od, Dk.mt_ct, Dk.mt_ix, Dk.mt_gt, Dk.kO_i, Dk.kO_s, Dk.ex_l, Dk.av_bl, Dk.av_non, Dk.av_int, Dk.av_lv, Dk.av_lf, Dk.ov_bl, Dk.ov_non, Dk.ov_int, Dk.ov_lv, Dk.ov_lf, Dk.wa_tpv, Dk.wa_tpf, Dk.forQ_nx, Dk.forQ_rt, Dk.tgt_nm, Dk.tgt_tp, Dk.tgo_nil, Dk.tgo_cons, Dk.setE_0, Dk.setE_s, Dk.getE_0, Dk.getE_s, Dk.sl_nm, Dk.sl_tp, Dk.sl_go0, Dk.sl_go1, Dk.app_nil, Dk.app_cons, Dk.wipe_0, Dk.wipe_1, Dk.noneE_0, Dk.noneE_s, Dk.clr_0, Dk.clr_1, Dk.ctn_0, Dk.ctn_1, Dk.clr1_n, Dk.clr1_v, Dk.ent, Dk.mp0, Dk.mp1, Dk.ln0, Dk.ln1, Dk.flt0, Dk.flt1, Dk.rp0, Dk.rp1, Dk.ptA0, Dk.ptA1, Dk.ptA2, Dk.st_st, Dk.ins_nx, Dk.setF_nil, Dk.setF_cons, Dk.pf, Dk.pk, Dk.e_is_integer, Dk.e_is_between, Dk.ok_tints, Dk.ok_lints, Dk.ok_tnil, Dk.ok_lnil, Dk.eqDs_nil, Nat.reduceAdd, Nat.reduceLeDiff, Nat.reduceSub, Nat.reduceBEq, Nat.reduceLT, Int.reduceLE, Int.reduceLT, Int.reduceToNat, String.reduceEq, String.reduceBEq, gt_iff_lt, ge_iff_le, decide_eq_true_eq, decide_eq_false_iff_not, decide_true, decide_false, Bool.true_eq_false, Bool.false_eq_true, Bool.not_eq_true', Bool.not_eq_false', Bool.not_true, Bool.not_false, if_true, if_false, Bool.and_true, Bool.true_and, Bool.and_false, Bool.false_and, Bool.or_false, Bool.or_true, Bool.true_or, Bool.false_or, true_and, and_true, ne_eq, not_true_eq_false, not_false_eq_true, implies_true, and_self, beq_self_eq_true, List.length_map, Option.map_some, Option.map_none, Option.isSome_some, Option.isSome_none, *])
local macro_rules | `(tactic| decreasing_trivial) => `(tactic| first | exact Dk.big_of (by omega) (by omega) | omega | (refine And.intro ?_ ?_ <;> first | exact Dk.big_of (by omega) (by omega) | omega))
theorem w_size (h : Wick S k c) (hc : c ≤ 10 ^ 80) :
    Wc ((cm P F (n+3)).call "_law_size" [.cell k] S) (fun r S' => ∃ p, r = (.int p, .v) ∧ 1 ≤ p ∧ p ≤ 10 ^ 30 ∧ Wick S' k (c + 2)) := by
  refine wc_call pf rfl ?_
  simp only [f_law_size_ec97]
  decreasing_trivial_pre_omega
  refine (w_from h (by omega) (by simp) (by simp)).mono ?_
  rintro _ S' ⟨x, rfl, hx, hk⟩
  have hm : ∃ m : Int, x = .int m ∧ 0 < m ∧ m ≤ 10 ^ 30 := by
    simp only [List.mem_cons, List.not_mem_nil, or_false] at hx
    rcases hx with rfl | rfl | rfl | rfl | rfl | rfl <;> exact ⟨_, rfl, by omega, by omega⟩
  obtain ⟨m, rfl, hm0, hm1⟩ := hm
  decreasing_trivial_pre_omega
  refine (w_burn hk (by omega) (by omega)).mono ?_
  rintro _ S2 ⟨y, rfl, h0, h1, hk2⟩
  decreasing_trivial_pre_omega
  exact ⟨_, rfl, by omega, by omega, hk2.up (by omega)⟩
end
section
variable [Has P "_law_wick" f_law_wick_fecc]
local macro_rules | `(tactic| decreasing_trivial_pre_omega) => `(tactic| simp only [Dk.wi_int, Dk.wb_bl, Dk.wp_ok, Dk.wc_ok, Dk.wo_some, Dk.wo_if, Dk.wg_v, Dk.wg_p, Dk.wt_some, Dk.fp0, Dk.fp1, Dk.w_k, Dk.w_loc, Dk.w_glob, Dk.w_bin, Dk.w_neg, Dk.w_not, Dk.w_and, Dk.w_or, Dk.w_cmp, Dk.w_chain, Dk.w_chain2, Dk.w_ife, Dk.w_tup, Dk.w_lst, Dk.w_dct0, Dk.w_newcell, Dk.w_call, Dk.w_make, Dk.w_bi, Dk.w_isi, Dk.w_idx, Dk.w_sl, Dk.w_attr, Dk.w_lco, Dk.w_lc2, Dk.w_rpr, Dk.w_prop, Dk.w_dcs, Dk.w_mk0, Dk.w_frz, Dk.w_bm, Dk.w_sls, Dk.w_dctp, Dk.wd_nil, Dk.wd_cons, Dk.w_lc, Dk.ws_nil, Dk.ws_cons, Dk.ws_v, Dk.ws_f, Dk.ws_p, Dk.wt_not, Dk.wt_and, Dk.wt_or, Dk.wt_k, Dk.wt_loc, Dk.wt_glob, Dk.wt_bin, Dk.wt_cmp, Dk.wt_chain, Dk.wt_call, Dk.wt_bi, Dk.wt_isi, Dk.wt_idx, Dk.wt_attr, Dk.wc_nil, Dk.wc_one, Dk.wi_seq, Dk.wi_rng, Dk.wi_rng2, Dk.wi_items, Dk.wi_enum, Dk.wx_nil, Dk.wx_cons, Dk.wx_nx, Dk.wx_rt, Dk.wx_asg, Dk.wx_expr, Dk.wx_ret, Dk.wx_retN, Dk.wx_pass, Dk.wx_ite, Dk.wx_for, Dk.wx_wh, Dk.wx_raise, Dk.wa_nm, Dk.wa_tp, Dk.wa_go0, Dk.wa_go1, Dk.wa_sub, Dk.wa_fld, Dk.wc_fnEnd, Dk.end_nx, Dk.end_rt, Dk.w_callk, Dk.w_makek, Dk.w_meth, Dk.wt_callk, Dk.wt_meth, Dk.ws_star, Dk.wi_zip, Dk.wx_app, Dk.wx_ext, Dk.wx_par, Dk.rf_v, Dk.rf_f, Dk.wgp_p, Dk.rf_p, Dk.one_v, Dk.one_f, Dk.notP_nil, Dk.notP_v, Dk.handed_v, Dk.handed_f, Dk.handed_p, Dk.lookC_non, Dk.lookC_bl, Dk.lookC_int, Dk.lookC_str, Dk.lookC_tup, Dk.lookC_lst, Dk.lookC_dct, Dk.lookC_ins, Dk.lookC_cell, Dk.lookL_lst, Dk.tr_non, Dk.tr_bl, Dk.tr_int, Dk.tr_lst, Dk.tr_tup, Dk.inO_0, Dk.inO_1, Dk.as_cv, Dk.as_cl, Dk.as_cd, Dk.as_nil, Dk.as_nil_f, Dk.items_v, Dk.over_v, Dk.b_add, Dk.b_sub, Dk.b_mul, Dk.b_mod, Dk.b_fdiv, Dk.powOk_10, Dk.powOk_2, Dk.powOk_3, Dk.powOk_1, Dk.b_pow, Dk.b_shl, Dk.b_addl, Dk.b_addt, Dk.b_adds, Dk.b_mull, Dk.c_eqr0, Dk.c_eql0, Dk.c_eqr1, Dk.c_eql1, Dk.c_eqr2, Dk.c_eql2, Dk.c_eqr3, Dk.c_eql3, Dk.c_eqr4, Dk.c_eql4, Dk.c_eqt0, Dk.c_eqt1, Dk.c_eqok, Dk.c_ne, Dk.c_nes, Dk.c_nel, Dk.c_lt, Dk.c_le, Dk.c_gt, Dk.c_ge, Dk.c_is, Dk.c_isnot, Dk.n_non, Dk.n_int, Dk.n_bl, Dk.n_tup, Dk.n_lst, Dk.n_str, Dk.n_ins, Dk.c_inl, Dk.c_inI, Dk.c_notinI, Dk.c_notinl, Dk.c_inD, Dk.c_notinD, Dk.ok_non, Dk.ok_int, Dk.ok_bl, Dk.e_int, Dk.e_bl, Dk.e_non, Dk.e_nonI, Dk.e_Inon, Dk.e_tup, Dk.e_lst, Dk.e_tupN, Dk.e_nil, Dk.e_nilc, Dk.e_cnil, Dk.e_cons, Dk.f_lenl, Dk.f_lent, Dk.f_lend, Dk.f_tupl, Dk.f_tupt, Dk.f_lstl, Dk.f_lstt, Dk.f_lstd, Dk.f_max2, Dk.f_min2, Dk.f_abs, Dk.f_int, Dk.f_intb, Dk.f_divmod, Dk.f_sorted, Dk.f_sum, Dk.f_any, Dk.f_all, Dk.x_lst, Dk.x_tup, Dk.at0, Dk.at1, Dk.at2, Dk.at3, Dk.i_non, Dk.i_bl, Dk.i_int, Dk.i_str, Dk.i_tup, Dk.i_lst, Dk.i_ins, Dk.y_ii, Dk.y_ib, Dk.y_bb, Dk.y_bi, Dk.y_tt, Dk.y_ti, Dk.y_tb, Dk.y_ss, Dk.o_non, Dk.o_k, Dk.o_loc, Dk.o_bin, Dk.o_neg, Dk.o_bi, Dk.o_call, Dk.p_lst, Dk.p_tup, Dk.cut_first, Dk.cut_from, Dk.cut_all, Dk.q_l, Dk.q_lf, Dk.q_t, Dk.n_tupE, Dk.n_lstE, Dk.n_lstF, Dk.wl_lst, Dk.sb_cell, Dk.sb_lst, Dk.sb_dct, Dk.fs_own, Dk.ow_l, Dk.ap_l, Dk.c_isb, Dk.c_isn, Dk.c_nob, Dk.c_non, Dk.ex_lv, Dk.st_rv, Dk.st_ev, Dk.st_od, Dk.mt_ct, Dk.mt_ix, Dk.mt_gt, Dk.kO_i, Dk.kO_s, Dk.ex_l, Dk.av_bl, Dk.av_non, Dk.av_int, Dk.av_lv, Dk.av_lf, Dk.ov_bl, Dk.ov_non, Dk.ov_int, Dk.ov_lv, Dk.ov_lf, Dk.wa_tpv, Dk.wa_tpf, Dk.forQ_nx, Dk.forQ_rt, Dk.tgt_nm, Dk.tgt_tp, Dk.tgo_nil, Dk.tgo_cons, Dk.setE_0, Dk.setE_s, Dk.getE_0, Dk.getE_s, Dk.sl_nm, Dk.sl_tp, Dk.sl_go0, Dk.sl_go1, Dk.app_nil, Dk.app_cons, Dk.wipe_0, Dk.wipe_1, Dk.noneE_0, Dk.noneE_s, Dk.clr_0, Dk.clr_1, Dk.ctn_0, Dk.ctn_1, Dk.clr1_n, Dk.clr1_v, Dk.ent, Dk.mp0, Dk.mp1, Dk.ln0, Dk.ln1, Dk.flt0, Dk.flt1, Dk.rp0, Dk.rp1, Dk.ptA0, Dk.ptA1, Dk.ptA2, Dk.st_st, Dk.ins_nx, Dk.setF_nil, Dk.setF_cons, Dk.pf, Dk.pk, Dk.e_is_integer, Dk.e_is_between, Dk.ok_tints, Dk.ok_lints, Dk.ok_tnil, Dk.ok_lnil, Dk.eqDs_nil, Nat.reduceAdd, Nat.reduceLeDiff, Nat.reduceSub, Nat.reduceBEq, Nat.reduceLT, Int.reduceLE, Int.reduceLT, Int.reduceToNat, String.reduceEq, String.reduceBEq, gt_iff_lt, ge_iff_le, decide_eq_true_eq, decide_eq_false_iff_not, decide_true, decide_false, Bool.true_eq_false, Bool.false_eq_true, Bool.not_eq_true', Bool.not_eq_false', Bool.not_true, Bool.not_false, if_true, if_false, Bool.and_true, Bool.true_and, Bool.and_false, Bool.false_and, Bool.or_false, Bool.or_true, Bool.true_or, Bool.false_or, true_and, and_true, ne_eq, not_true_eq_false, not_false_eq_true, implies_true, and_self, beq_self_eq_true, List.length_map, Option.map_some, Option.map_none, Option.isSome_some, Option.isSome_none, *])
local macro_rules | `(tactic| decreasing_trivial) => `(tactic| first | exact Dk.big_of (by omega) (by omega) | omega | (refine And.intro ?_ ?_ <;> first | exact Dk.big_of (by omega) (by omega) | omega))
theorem w_wick {ns : List Int} (hl : ns.length ≤ 63) (hk : k ≤ 20) :
    Wc ((cm P F (n+1)).call "_law_wick" [.lst (ns.map .int), .int k] S) (fun r S' => r = (.cell S.length, .v) ∧ S'.length = S.length + 1 ∧ (∀ j, j < S.length → S'[j]? = S[j]?) ∧ Wick S' S.length 0) := by
  refine wc_call pf rfl ?_
  simp only [f_law_wick_fecc]
  have hMM : MM = 18446744073709551533 := rfl
  decreasing_trivial_pre_omega
  have b0 : (k : Int).natAbs < BIG := (by decreasing_trivial)
  have b1 : Int.natAbs 71 < BIG := (by decreasing_trivial)
  have b2 : Int.natAbs 7046029254 < BIG := (by decreasing_trivial)
  have b3 : ((k : Int) + 11).natAbs < BIG := (by decreasing_trivial)
  refine Wp.mono (Q := fun x E S' => ∃ o : Int, x = (.int o, .v) ∧ E = [some (.lst (ns.map .int), false), some (.int k, false), none, none, none] ∧ S = S') (wp_ite (fun h => ?_) (fun h => ?_)) ?_
  · have q : atL (ns.map D.int) (k : Int) = some (.int ns[k]) := by rw [atL_map, atL_nat (by omega)]; rfl
    decreasing_trivial_pre_omega
    exact ⟨_, rfl⟩
  · decreasing_trivial_pre_omega
    exact ⟨_, rfl⟩
  rintro _ _ S' ⟨o, rfl, rfl, rfl⟩
  have l5 : ((ns.map D.int).take 5).length + 1 ≤ LIM := by unfold LIM; simp; omega
  decreasing_trivial_pre_omega
  rw [show (ns.map D.int).take 5 ++ [D.int o] = (ns.take 5 ++ [o]).map D.int by simp]
  refine wp_for_ix D.int _ (fun i E S' => S = S' ∧ ∃ (s : Int) (e : Option (D × Bool)), E = [some (.lst (ns.map .int), false), some (.int k, false), some (.int o, false), some (.int s, false), e] ∧ 0 ≤ s ∧ s ≤ 10 ^ 80 ∧ (0 < i → s < MM)) ⟨rfl, _, _, rfl, by omega, by omega, by omega⟩ ?_ ?_
  · rintro i hi E S' ⟨rfl, s, e, rfl, hs, hs', _⟩
    have b4 : s.natAbs < BIG := (by decreasing_trivial)
    have b5 : Int.natAbs 3935559000370003845 < BIG := (by decreasing_trivial)
    decreasing_trivial_pre_omega
    generalize (ns.take 5 ++ [o])[i] = x
    have e1 : (s * 3935559000370003845 + x) % 18446744073709551533 < 18446744073709551533 := Int.emod_lt_of_pos _ (by decide)
    have e0 : 0 ≤ (s * 3935559000370003845 + x) % 18446744073709551533 := Int.emod_nonneg _ (by decide)
    exact ⟨_, _, rfl, e0, by omega, fun _ => e1⟩
  · rintro E S' ⟨rfl, s, e, rfl, hs, hs', hm⟩
    have hs2 := hm (by simp)
    decreasing_trivial_pre_omega
    refine Wp.mono (Q := fun x E S' => ∃ a : Int, x = (.int a, .v) ∧ E = [some (.lst (ns.map .int), false), some (.int k, false), some (.int o, false), some (.int s, false), e] ∧ S = S' ∧ 0 ≤ a) (wp_ite (fun h => ?_) (fun h => ?_)) ?_
    · decreasing_trivial_pre_omega
      exact ⟨_, rfl, by omega⟩
    · decreasing_trivial_pre_omega
      exact ⟨_, rfl, by omega⟩
    rintro _ _ S' ⟨a, rfl, rfl, rfl, ha⟩
    decreasing_trivial_pre_omega
    refine ⟨by simp, fun j hj => List.getElem?_append_left hj, a, s, 0, by simp, ha, hs, by omega, by omega, by omega⟩
end
end
end Dk
namespace Dk
theorem Lights.move {p : Int} {ls : List Int} (h : Lights p ls) (y : Int) : Lights p (sortI (ls.map fun x => (x + y) % p)) := by
  have hp := h.pos
  refine ⟨?_, ?_, ?_, ?_, ?_⟩
  · intro z
    have := sortI_len (ls.map fun x => (x + y) % p)
    rw [z, List.length_map] at this
    exact h.ne (List.length_eq_zero_iff.mp this.symm)
  · rw [sortI_len, List.length_map]; exact h.len
  · intro x hx
    obtain ⟨a, ha, rfl⟩ := List.mem_map.mp ((sortI_mem _ _).mp hx)
    exact Int.emod_nonneg _ (by omega)
  · intro x hx
    obtain ⟨a, ha, rfl⟩ := List.mem_map.mp ((sortI_mem _ _).mp hx)
    exact Int.emod_lt_of_pos _ hp
  · refine sortI_asc _ (nodup_map (asc_nodup h.asc) fun a ha b hb e => ?_)
    have d := dvd_of_emod e
    rw [show a + y - (b + y) = a - b by omega] at d
    exact small_eq (emod_eq_of d) ⟨h.lo a ha, h.hi a ha⟩ ⟨h.lo b hb, h.hi b hb⟩
theorem Lights.move_mem {p : Int} {ls : List Int} (h : Lights p ls) (y f t : Int) : ((t + (f + y) % p) % p ∈ sortI (ls.map fun x => (x + y) % p)) ↔ (t + f) % p ∈ ls := by
  have hp := h.pos
  have e0 : (t + (f + y) % p) % p = ((t + f) % p + y) % p := by
    rw [Int.add_emod_emod, Int.emod_add_emod]
    congr 1; omega
  rw [e0, sortI_mem, List.mem_map]
  constructor
  · rintro ⟨a, ha, e⟩
    have d := dvd_of_emod e
    rw [show a + y - ((t + f) % p + y) = a - (t + f) % p by omega] at d
    rw [← small_eq (emod_eq_of d) ⟨h.lo a ha, h.hi a ha⟩ ⟨Int.emod_nonneg _ (by omega), Int.emod_lt_of_pos _ hp⟩]
    exact ha
  · intro q
    exact ⟨_, q, rfl⟩
/-- the first numbers that are no lights -/
def restOf (m : Int) (ls : List Int) : List Int := (((List.range m.toNat).filter fun (j : Nat) => !decide (((0 : Int) + (j : Int)) ∈ ls)).map fun (j : Nat) => (0 : Int) + (j : Int)).take 8
theorem restOf_lights {p m : Int} {ls : List Int} (hm : m ≤ p) (h : restOf m ls ≠ []) : Lights p (restOf m ls) ∧ ∀ x ∈ restOf m ls, x ∉ ls := by
  have key : ∀ x ∈ restOf m ls, 0 ≤ x ∧ x < p ∧ x ∉ ls := by
    intro x hx
    obtain ⟨j, hj, rfl⟩ := List.mem_map.mp (List.mem_of_mem_take hx)
    rw [List.mem_filter, List.mem_range] at hj
    have : ((0 : Int) + (j : Int)) ∉ ls := by simpa using hj.2
    exact ⟨by omega, by omega, this⟩
  refine ⟨⟨h, ?_, fun x hx => (key x hx).1, fun x hx => (key x hx).2.1, ?_⟩, fun x hx => (key x hx).2.2⟩
  · unfold restOf; rw [List.length_take]; omega
  · unfold restOf
    refine List.Pairwise.sublist (List.take_sublist _ _) (List.pairwise_map.mpr (List.Pairwise.sublist List.filter_sublist ?_))
    exact List.pairwise_lt_range.imp fun h => by omega
end Dk
end
/-! R_k10 -/
section
set_option maxRecDepth 100000
set_option linter.all false
set_option maxHeartbeats 4000000
namespace Dk
namespace K10
local macro_rules | `(tactic| decreasing_trivial_pre_omega) => `(tactic| simp only [Dk.wi_int, Dk.wb_bl, Dk.wp_ok, Dk.wc_ok, Dk.wo_some, Dk.wo_if, Dk.wg_v, Dk.wg_p, Dk.wt_some, Dk.fp0, Dk.fp1, Dk.w_k, Dk.w_loc, Dk.w_glob, Dk.w_bin, Dk.w_neg, Dk.w_not, Dk.w_and, Dk.w_or, Dk.w_cmp, Dk.w_chain, Dk.w_chain2, Dk.w_ife, Dk.w_tup, Dk.w_lst, Dk.w_dct0, Dk.w_newcell, Dk.w_call, Dk.w_make, Dk.w_bi, Dk.w_isi, Dk.w_idx, Dk.w_sl, Dk.w_attr, Dk.w_lco, Dk.w_lc2, Dk.w_rpr, Dk.w_prop, Dk.w_dcs, Dk.w_mk0, Dk.w_frz, Dk.w_bm, Dk.w_sls, Dk.w_dctp, Dk.wd_nil, Dk.wd_cons, Dk.w_lc, Dk.ws_nil, Dk.ws_cons, Dk.ws_v, Dk.ws_f, Dk.ws_p, Dk.wt_not, Dk.wt_and, Dk.wt_or, Dk.wt_k, Dk.wt_loc, Dk.wt_glob, Dk.wt_bin, Dk.wt_cmp, Dk.wt_chain, Dk.wt_call, Dk.wt_bi, Dk.wt_isi, Dk.wt_idx, Dk.wt_attr, Dk.wc_nil, Dk.wc_one, Dk.wi_seq, Dk.wi_rng, Dk.wi_rng2, Dk.wi_items, Dk.wi_enum, Dk.wx_nil, Dk.wx_cons, Dk.wx_nx, Dk.wx_rt, Dk.wx_asg, Dk.wx_expr, Dk.wx_ret, Dk.wx_retN, Dk.wx_pass, Dk.wx_ite, Dk.wx_for, Dk.wx_wh, Dk.wx_raise, Dk.wa_nm, Dk.wa_tp, Dk.wa_go0, Dk.wa_go1, Dk.wa_sub, Dk.wa_fld, Dk.wc_fnEnd, Dk.end_nx, Dk.end_rt, Dk.w_callk, Dk.w_makek, Dk.w_meth, Dk.wt_callk, Dk.wt_meth, Dk.ws_star, Dk.wi_zip, Dk.wx_app, Dk.wx_ext, Dk.wx_par, Dk.rf_v, Dk.rf_f, Dk.wgp_p, Dk.rf_p, Dk.one_v, Dk.one_f, Dk.notP_nil, Dk.notP_v, Dk.handed_v, Dk.handed_f, Dk.handed_p, Dk.lookC_non, Dk.lookC_bl, Dk.lookC_int, Dk.lookC_str, Dk.lookC_tup, Dk.lookC_lst, Dk.lookC_dct, Dk.lookC_ins, Dk.lookC_cell, Dk.lookL_lst, Dk.tr_non, Dk.tr_bl, Dk.tr_int, Dk.tr_lst, Dk.tr_tup, Dk.inO_0, Dk.inO_1, Dk.as_cv, Dk.as_cl, Dk.as_cd, Dk.as_nil, Dk.as_nil_f, Dk.items_v, Dk.over_v, Dk.b_add, Dk.b_sub, Dk.b_mul, Dk.b_mod, Dk.b_fdiv, Dk.powOk_10, Dk.powOk_2, Dk.powOk_3, Dk.powOk_1, Dk.b_pow, Dk.b_shl, Dk.b_addl, Dk.b_addt, Dk.b_adds, Dk.b_mull, Dk.c_eqr0, Dk.c_eql0, Dk.c_eqr1, Dk.c_eql1, Dk.c_eqr2, Dk.c_eql2, Dk.c_eqr3, Dk.c_eql3, Dk.c_eqr4, Dk.c_eql4, Dk.c_eqt0, Dk.c_eqt1, Dk.c_eqok, Dk.c_ne, Dk.c_nes, Dk.c_nel, Dk.c_lt, Dk.c_le, Dk.c_gt, Dk.c_ge, Dk.c_is, Dk.c_isnot, Dk.n_non, Dk.n_int, Dk.n_bl, Dk.n_tup, Dk.n_lst, Dk.n_str, Dk.n_ins, Dk.c_inl, Dk.c_inI, Dk.c_notinI, Dk.c_notinl, Dk.c_inD, Dk.c_notinD, Dk.ok_non, Dk.ok_int, Dk.ok_bl, Dk.e_int, Dk.e_bl, Dk.e_non, Dk.e_nonI, Dk.e_Inon, Dk.e_tup, Dk.e_lst, Dk.e_tupN, Dk.e_nil, Dk.e_nilc, Dk.e_cnil, Dk.e_cons, Dk.f_lenl, Dk.f_lent, Dk.f_lend, Dk.f_tupl, Dk.f_tupt, Dk.f_lstl, Dk.f_lstt, Dk.f_lstd, Dk.f_max2, Dk.f_min2, Dk.f_abs, Dk.f_int, Dk.f_intb, Dk.f_divmod, Dk.f_sorted, Dk.f_sum, Dk.f_any, Dk.f_all, Dk.x_lst, Dk.x_tup, Dk.at0, Dk.at1, Dk.at2, Dk.at3, Dk.i_non, Dk.i_bl, Dk.i_int, Dk.i_str, Dk.i_tup, Dk.i_lst, Dk.i_ins, Dk.y_ii, Dk.y_ib, Dk.y_bb, Dk.y_bi, Dk.y_tt, Dk.y_ti, Dk.y_tb, Dk.y_ss, Dk.o_non, Dk.o_k, Dk.o_loc, Dk.o_bin, Dk.o_neg, Dk.o_bi, Dk.o_call, Dk.p_lst, Dk.p_tup, Dk.cut_first, Dk.cut_from, Dk.cut_all, Dk.q_l, Dk.q_lf, Dk.q_t, Dk.n_tupE, Dk.n_lstE, Dk.n_lstF, Dk.wl_lst, Dk.sb_cell, Dk.sb_lst, Dk.sb_dct, Dk.fs_own, Dk.ow_l, Dk.ap_l, Dk.c_isb, Dk.c_isn, Dk.c_nob, Dk.c_non, Dk.ex_lv, Dk.st_rv, Dk.st_ev, Dk.st_od, Dk.mt_ct, Dk.mt_ix, Dk.mt_gt, Dk.kO_i, Dk.kO_s, Dk.ex_l, Dk.av_bl, Dk.av_non, Dk.av_int, Dk.av_lv, Dk.av_lf, Dk.ov_bl, Dk.ov_non, Dk.ov_int, Dk.ov_lv, Dk.ov_lf, Dk.wa_tpv, Dk.wa_tpf, Dk.forQ_nx, Dk.forQ_rt, Dk.tgt_nm, Dk.tgt_tp, Dk.tgo_nil, Dk.tgo_cons, Dk.setE_0, Dk.setE_s, Dk.getE_0, Dk.getE_s, Dk.sl_nm, Dk.sl_tp, Dk.sl_go0, Dk.sl_go1, Dk.app_nil, Dk.app_cons, Dk.wipe_0, Dk.wipe_1, Dk.noneE_0, Dk.noneE_s, Dk.clr_0, Dk.clr_1, Dk.ctn_0, Dk.ctn_1, Dk.clr1_n, Dk.clr1_v, Dk.ent, Dk.mp0, Dk.mp1, Dk.ln0, Dk.ln1, Dk.flt0, Dk.flt1, Dk.rp0, Dk.rp1, Dk.ptA0, Dk.ptA1, Dk.ptA2, Dk.st_st, Dk.ins_nx, Dk.setF_nil, Dk.setF_cons, Dk.pf, Dk.pk, Dk.e_is_integer, Dk.e_is_between, Dk.ok_tints, Dk.ok_lints, Dk.ok_tnil, Dk.ok_lnil, Dk.eqDs_nil, Nat.reduceAdd, Nat.reduceLeDiff, Nat.reduceSub, Nat.reduceBEq, Nat.reduceLT, Int.reduceLE, Int.reduceLT, Int.reduceToNat, String.reduceEq, String.reduceBEq, gt_iff_lt, ge_iff_le, decide_eq_true_eq, decide_eq_false_iff_not, decide_true, decide_false, Bool.true_eq_false, Bool.false_eq_true, Bool.not_eq_true', Bool.not_eq_false', Bool.not_true, Bool.not_false, if_true, if_false, Bool.and_true, Bool.true_and, Bool.and_false, Bool.false_and, Bool.or_false, Bool.or_true, Bool.true_or, Bool.false_or, true_and, and_true, ne_eq, not_true_eq_false, not_false_eq_true, implies_true, and_self, beq_self_eq_true, List.length_map, Option.map_some, Option.map_none, Option.isSome_some, Option.isSome_none, *])
local macro_rules | `(tactic| decreasing_trivial) => `(tactic| first | exact Dk.big_of (by omega) (by omega) | omega | (refine And.intro ?_ ?_ <;> first | exact Dk.big_of (by omega) (by omega) | omega))
theorem w_times {F n k : Nat} {S : Sto} {c p f : Int} {ls : List Int} (h : Wick S k c) (hc : c ≤ 10 ^ 60) (hp : 1 ≤ p ∧ p ≤ 10 ^ 30) (hl : Lights p ls) (hl8 : ls.length ≤ 8) :
    Wc ((cm P F (n+2)).call "_law_times" [.cell k, .int p, .tup (ls.map .int), .int f] S) (fun r S' => ∃ ts : List Int, r = (.lst (ts.map .int), .f) ∧ (∀ t ∈ ts, 0 ≤ t ∧ t ≤ 10 ^ 40) ∧ ts.length ≤ 1000 ∧ Wick S' k (c + 100)) := by
  refine wc_call pf rfl ?_
  simp only [f__law_times]
  decreasing_trivial_pre_omega
  refine (w_burn h (by omega) (by omega)).mono ?_
  rintro _ S1 ⟨x, rfl, hx0, hx1, hw1⟩
  have b2 : Int.natAbs 2 < BIG := (by decreasing_trivial)
  have bp : p.natAbs < BIG := (by decreasing_trivial)
  decreasing_trivial_pre_omega
  refine (w_burn hw1 (by omega) (by omega)).mono ?_
  rintro _ S2 ⟨y, rfl, hy0, hy1, hw2⟩
  decreasing_trivial_pre_omega
  refine wp_for_ix D.int ls (fun i E S => ∃ (ts : List Int) (a5 a6 a7 : Option (D × Bool)), E = [some (.cell k, false), some (.int p, false), some (.tup (ls.map .int), false), some (.int f, false), some (.lst (ts.map .int), false), a5, a6, a7, none] ∧ (∀ t ∈ ts, 0 ≤ t) ∧ ts.length = 4 + 3 * i ∧ Wick S k (c + 2 + i)) ⟨[0, 10 ^ 40, x, y], none, none, none, rfl, ?_, rfl, hw2.up (by omega)⟩ ?_ ?_
  · intro t ht
    simp only [List.mem_cons, List.not_mem_nil, or_false] at ht
    rcases ht with rfl | rfl | rfl | rfl <;> omega
  · rintro i hi E S ⟨ts, a5, a6, a7, rfl, hts, hlen, hw⟩
    generalize ls[i] = s
    have hp0 : 0 < p := by omega
    have e0 := Int.emod_nonneg (s - f) (show p ≠ 0 by omega)
    have dv0 : 1 ≤ (10 : Int) ^ 40 / p := (Int.le_ediv_iff_mul_le hp0).mpr (by omega)
    have dv1 : (10 : Int) ^ 40 / p ≤ 10 ^ 40 := Int.ediv_le_self _ (by omega)
    decreasing_trivial_pre_omega
    refine (w_burn hw (by omega) (by omega)).mono ?_
    rintro _ S3 ⟨z, rfl, hz0, hz1, hw3⟩
    have bz : z.natAbs < BIG := (by decreasing_trivial)
    have pz : 0 ≤ p * z := Int.mul_nonneg (by omega) hz0
    have lm : (ts.map D.int).length + 3 ≤ LIM := by unfold LIM; rw [List.length_map]; omega
    decreasing_trivial_pre_omega
    refine ⟨by unfold LIM; omega, ts ++ [(s - f) % p, (s - f) % p + 1, (s - f) % p + p * z], _, _, _, by rw [List.map_append]; rfl, ?_, by rw [List.length_append]; simp; omega, hw3.up (by omega)⟩
    intro t ht
    rcases List.mem_append.mp ht with ht | ht
    · exact hts t ht
    · simp only [List.mem_cons, List.not_mem_nil, or_false] at ht
      rcases ht with rfl | rfl | rfl <;> omega
  · rintro E S ⟨ts, a5, a6, a7, rfl, hts, hlen, hw⟩
    decreasing_trivial_pre_omega
    refine wp_lc D.int ts (fun t => decide (t ≤ 10 ^ 40)) D.int rfl (by unfold LIM; omega) (fun t ht => ?_) (fun E' hE => ?_)
    · decreasing_trivial_pre_omega
    · decreasing_trivial_pre_omega
      refine ⟨ts.filter fun t => decide (t ≤ 10 ^ 40), rfl, fun t ht => ?_, ?_, hw.up (by omega)⟩
      · have := List.mem_filter.mp ht
        exact ⟨hts t this.1, of_decide_eq_true this.2⟩
      · have := List.length_filter_le (fun t : Int => decide (t ≤ 10 ^ 40)) ts
        omega
theorem due_iff {p f t : Int} {ls : List Int} (hl : Lights p ls) : (ls.filter fun s => decide ((t - s + f) % p = 0)) = [] ↔ ¬ (t + f) % p ∈ ls := by
  rw [List.filter_eq_nil_iff]
  have hp := hl.pos
  constructor
  · intro h hm
    refine h _ hm (decide_eq_true ?_)
    have := Int.emod_add_mul_ediv (t + f) p
    rw [show t - (t + f) % p + f = p * ((t + f) / p) by omega]
    exact Int.mul_emod_right _ _
  · intro h s hs hd
    have hd := Int.dvd_of_emod_eq_zero (of_decide_eq_true hd)
    rw [show t - s + f = (t + f) - s by omega] at hd
    have := emod_eq_of hd
    rw [Int.emod_eq_of_lt (hl.lo s hs) (hl.hi s hs)] at this
    rw [this] at h
    exact h hs
theorem w_right {F n k : Nat} {S : Sto} (h : Wick S k 0) : Wc ((cm P F (n+10)).call "_law_right" [.cell k] S) (fun r S' => r = (.bl true, .v)) := by
  refine wc_call pf rfl ?_
  simp only [f__law_right]
  have gm := pg_MOST_MINUTE
  have gp := pg_MOST_PERIOD
  have gl := pg_MOST_LIGHTS
  decreasing_trivial_pre_omega
  refine wp_for_rng (fun i E S => (∃ a1 a2 a3 a4 a5 a6 a7 a8, E = [some (.cell k, false), a1, a2, a3, a4, a5, a6, a7, a8] ∧ clr1 (some a7) = true) ∧ Wick S k (1000 * i)) ⟨⟨_, _, _, _, _, _, _, _, rfl, rfl⟩, by simpa using h⟩ ?_ ?_
  · rintro i E S hi hi' ⟨⟨a1, a2, a3, a4, a5, a6, a7, a8, rfl, c7⟩, hw⟩
    decreasing_trivial_pre_omega
    refine (w_size hw (by omega)).mono ?_
    rintro _ S1 ⟨p, rfl, hp1, hp2, hw1⟩
    decreasing_trivial_pre_omega
    refine (w_glow hw1 (by omega) (by omega) (by omega)).mono ?_
    rintro _ S2 ⟨ls, rfl, hl, hl8, hw2⟩
    decreasing_trivial_pre_omega
    refine (w_burn hw2 (by omega) (by omega)).mono ?_
    rintro _ S3 ⟨y, rfl, hy0, hy1, hw3⟩
    decreasing_trivial_pre_omega
    refine (w_from hw3 (by omega) (by simp) (by simp)).mono ?_
    rintro _ S4 ⟨x, rfl, hx, hw4⟩
    obtain ⟨f, rfl, hf0, hf1⟩ : ∃ f : Int, x = .int f ∧ 0 ≤ f ∧ f < p := by
      simp only [List.mem_cons, List.not_mem_nil, or_false] at hx
      rcases hx with rfl | rfl | rfl <;> exact ⟨_, rfl, by omega, by omega⟩
    have mk := m_Lamp (P := P) (F := F) (n := n + 5) (S := S4) gl gp hl hp2
    clear hx
    decreasing_trivial_pre_omega
    refine (w_times (F := F) (n := n + 7) (f := f) hw4 (by omega) ⟨hp1, hp2⟩ hl (by omega)).mono ?_
    rintro _ S5 ⟨ts, rfl, hts, htl, hw5⟩
    have lit : ∀ (t : Int), 0 ≤ t → t ≤ 10 ^ 40 → (cm P F (n + 9)).call "is_lit" [lampD p ls, .int f, .int t] S5 = some (.ok (.bl (decide ((t + f) % p ∈ ls)), .v), S5) :=
      fun t h3 h4 => e_is_lit (n := n + 5) gm ⟨hf0, hf1⟩ ⟨h3, h4⟩
    clear mk
    have hp0 : 0 < p := by omega
    decreasing_trivial_pre_omega
    refine wp_for_ix D.int ts (fun j E S' => S5 = S' ∧ ∃ b6 b7 b8, E = [some (.cell k, false), some (.int i, false), some (.int p, false), some (.tup (ls.map .int), false), some (.int f, false), some (lampD p ls, false), b6, b7, b8] ∧ clr1 (some b7) = true) ⟨rfl, _, _, _, rfl, c7⟩ ?_ ?_
    · rintro j hj E S' ⟨rfl, b6, b7, b8, rfl, c7⟩
      have ht := hts _ (List.getElem_mem hj)
      generalize ts[j] = t at *
      have q := lit t ht.1 ht.2
      decreasing_trivial_pre_omega
      refine wp_lc D.int ls (fun s => decide ((t - s + f) % p = 0)) D.int rfl (by unfold LIM; omega) (fun s hs => ?_) (fun E' hE => ?_)
      · decreasing_trivial_pre_omega
      · have ar : arrange f_is_lit.ps [] ["minute", "phase", "lamp"] [D.int t, .int f, lampD p ls] = some [lampD p ls, .int f, .int t] := rfl
        have okl := ok_lints (l := ls.filter fun s => decide ((t - s + f) % p = 0))
        have dd : decide ((ls.filter fun s => decide ((t - s + f) % p = 0)) = []) = !decide ((t + f) % p ∈ ls) := by
          rw [Bool.eq_iff_iff]
          simp only [decide_eq_true_eq, Bool.not_eq_true', decide_eq_false_iff_not]
          exact due_iff hl
        have sb : ∀ a b : Bool, showN (.lst [.bl a, .bl b]) = some 17 := fun a b => rfl
        have dp : ∀ a b : Bool, depth (.lst [.bl a, .bl b]) ≤ 60 := fun a b => by simp [depth, depths]
        clear lit hts
        generalize decide ((t + f) % p ∈ ls) = v at *
        decreasing_trivial_pre_omega
        simp only [Bool.not_not]
        decreasing_trivial_pre_omega
        exact ⟨by decide, by decide, _, _, _, rfl, c7⟩
    · rintro E S' ⟨rfl, b6, b7, b8, rfl, c7⟩
      decreasing_trivial_pre_omega
      refine Wp.mono (Q := fun r E S' => r = .nx ∧ S5 = S' ∧ ∃ b6 b7 b8, E = [some (.cell k, false), some (.int i, false), some (.int p, false), some (.tup (ls.map .int), false), some (.int f, false), some (lampD p ls, false), b6, b7, b8] ∧ clr1 (some b7) = true) (wp_ite (fun h40 => ?_) (fun h40 => ?_)) ?_
      · have b3 : Int.natAbs 3 < BIG := (by decreasing_trivial)
        have bp : p.natAbs < BIG := (by decreasing_trivial)
        decreasing_trivial_pre_omega
        refine wp_for_rng (fun j E S' => S5 = S' ∧ ∃ b6, E = [some (.cell k, false), some (.int i, false), some (.int p, false), some (.tup (ls.map .int), false), some (.int f, false), some (lampD p ls, false), b6, some (.int ((f + j) % p), false), b8]) ⟨rfl, b6, by rw [Int.add_zero, Int.emod_eq_of_lt hf0 hf1]⟩ ?_ ?_
        · rintro j E S' hj0 hj1 ⟨rfl, b6, rfl⟩
          have q := lit j hj0 (by omega)
          have fl := flat_ints ls
          have ai := any_ints ls ((f + j) % p)
          have e1 : (j + f) % p = (f + j) % p := by rw [Int.add_comm]
          rw [e1] at q
          have sb : ∀ a : Bool, showN (.bl a) = some 5 := fun a => rfl
          have dp : ∀ a : Bool, depth (.bl a) ≤ 60 := fun a => by simp [depth]
          have nx : (if (f + j) % p + 1 < p then (f + j) % p + 1 else 0) = (f + (j + 1)) % p := by
            have h0 := Int.emod_nonneg (f + j) (show p ≠ 0 by omega)
            have h1 := Int.emod_lt_of_pos (f + j) hp0
            have h2 : (f + (j + 1)) % p = ((f + j) % p + 1) % p := by rw [Int.emod_add_emod]; congr 1; omega
            rw [h2]
            split
            · exact (Int.emod_eq_of_lt (by omega) (by omega)).symm
            · rw [show (f + j) % p + 1 = p by omega, Int.emod_self]
          rw [← nx]
          clear lit hts e1 nx
          generalize (f + j) % p = x at *
          generalize decide (x ∈ ls) = v at *
          decreasing_trivial_pre_omega
          refine ⟨by decide, by decide, ?_⟩
          refine wp_ife (.int (if x + 1 < p then x + 1 else 0), Fl.v) (fun h => ?_) (fun h => ?_) ?_
          · rw [if_pos h]; decreasing_trivial_pre_omega
          · rw [if_neg h]; decreasing_trivial_pre_omega
          · decreasing_trivial_pre_omega
            exact ⟨_, rfl⟩
        · rintro E S' ⟨rfl, b6, rfl⟩
          decreasing_trivial_pre_omega
          exact ⟨_, _, _, rfl, rfl⟩
      · decreasing_trivial_pre_omega
        exact ⟨_, _, _, rfl, c7⟩
      rintro _ _ S' ⟨rfl, rfl, b6, b7, b8, rfl, c7⟩
      decreasing_trivial_pre_omega
      exact ⟨⟨_, _, _, _, _, _, _, _, rfl, c7⟩, hw5.up (by omega)⟩
  · rintro E S ⟨⟨a1, a2, a3, a4, a5, a6, a7, a8, rfl, c7⟩, hw⟩
    decreasing_trivial_pre_omega
theorem run (ns : List Int) (h : ns.length ≤ 63) : ∃ F S', (cm P F (30 + 1)).call "law" [.lst (ns.map .int)] [] = some (.ok (.bl true, .v), S') := by
  have : Wc ((cm P 0 (30 + 1)).call "law" [.lst (ns.map .int)] []) (fun r S' => r = (.bl true, .v)) := by
    refine wc_call pf rfl ?_
    simp only [f_law]
    decreasing_trivial_pre_omega
    refine wp_for_rng (fun i E S => ∃ a, E = [some (.lst (ns.map .int), false), a]) ⟨_, rfl⟩ ?_ ?_
    · rintro i E S hi hi' ⟨a, rfl⟩
      obtain ⟨k, rfl⟩ : ∃ k : Nat, i = k := ⟨i.toNat, by omega⟩
      decreasing_trivial_pre_omega
      refine (w_wick h (by omega)).mono ?_
      rintro _ S1 ⟨rfl, _, _, hw⟩
      decreasing_trivial_pre_omega
      refine (w_right (n := 20) hw).mono ?_
      rintro _ S2 rfl
      decreasing_trivial_pre_omega
      exact ⟨_, rfl⟩
    · rintro E S ⟨a, rfl⟩
      decreasing_trivial_pre_omega
  obtain ⟨r, S', e, rfl⟩ := this
  exact ⟨0, S', e⟩
end K10
end Dk
end
/-! E_k10 -/
set_option linter.all false
open PySem PySem.W PyProof.Rows in
set_option maxRecDepth 100000 in
set_option maxHeartbeats 0 in
theorem PySem.Challenge.cw_darklamps_k10_whole_lamps_lit_holds : PySem.Challenge.rw_darklamps_k10_whole_lamps_lit.Holds := by
  w_on; o_law; k_head; (case hw => w_witness2)
  k_fill
  refine Dk.walk63 (l := PySem.Challenge.rw_darklamps_k10_whole_lamps_lit) (k := 2 * 30 + 2) (x := "_law_script") rfl rfl ⟨rfl, by decide, by decide⟩ (fun w h Y => PySem.W.kIn_of Y) ?F
  case F =>
    intro w mg fa h KX G hmg
    refine' Dk.K10.fin (n := 30) KX G hmg ?e_law ?l_law ?c_law ?k_law ?e__law_right ?l__law_right ?c__law_right ?k__law_right ?e__law_wick ?l__law_wick ?c__law_wick ?k__law_wick ?e__law_size ?l__law_size ?c__law_size ?k__law_size ?e__law_glow ?l__law_glow ?c__law_glow ?k__law_glow ?e__law_from ?l__law_from ?c__law_from ?k__law_from ?e__law_burn ?l__law_burn ?c__law_burn ?k__law_burn ?e__law_times ?l__law_times ?c__law_times ?k__law_times ?e_is_lit ?l_is_lit ?c_is_lit ?k_is_lit ?e_is_between ?l_is_between ?c_is_between ?k_is_between ?e_wrong_light ?l_wrong_light ?c_wrong_light ?k_wrong_light ?e_check_lamp ?l_check_lamp ?c_check_lamp ?k_check_lamp ?e_check_minute ?l_check_minute ?c_check_minute ?k_check_minute ?e_lit_by ?l_lit_by ?c_lit_by ?k_lit_by ?e_is_integer ?l_is_integer ?c_is_integer ?k_is_integer ?e_Lamp ?pg_Lamp ?hd_Lamp ?po_Lamp ?sa_Lamp ?ic_Lamp ?ty_Lamp ?dc_Lamp ?ob_Lamp ?n0_Lamp ?n1_Lamp ?n2_Lamp ?n3_Lamp ?n4_Lamp ?n5_Lamp ?mm_Lamp ?mi_Lamp ?mf_Lamp ?mk_Lamp ?l_Lamp___init__ ?c_Lamp___init__ ?k_Lamp___init__ ?no_Lamp_on ?no_Lamp_round ?m_Lamp_Lamp ?tk1 ?tk2 ?bi0 ?bi1 ?bi2 ?bi3 ?bi4 ?bi5 ?bi6 ?bi7 ?bi8 ?bi9 ?bi10 ?bi11 ?bi12 ?bi13 ?bi14 ?bi15 ?bi16 ?bi17 ?bi18 ?bi19 ?bi20 ?bi21 ?bi22 ?gl_MOST_MINUTE ?gl_MOST_PERIOD ?gl_MOST_LIGHTS ?gl_DIGITS ?hrun
    (case e_law => k_is)
    (case l_law => k_is)
    (case c_law => k_is)
    (case k_law => k_is)
    (case e__law_right => k_is)
    (case l__law_right => k_is)
    (case c__law_right => k_is)
    (case k__law_right => k_is)
    (case e__law_wick => k_is)
    (case l__law_wick => k_is)
    (case c__law_wick => k_is)
    (case k__law_wick => k_is)
    (case e__law_size => k_is)
    (case l__law_size => k_is)
    (case c__law_size => k_is)
    (case k__law_size => k_is)
    (case e__law_glow => k_is)
    (case l__law_glow => k_is)
    (case c__law_glow => k_is)
    (case k__law_glow => k_is)
    (case e__law_from => k_is)
    (case l__law_from => k_is)
    (case c__law_from => k_is)
    (case k__law_from => k_is)
    (case e__law_burn => k_is)
    (case l__law_burn => k_is)
    (case c__law_burn => k_is)
    (case k__law_burn => k_is)
    (case e__law_times => k_is)
    (case l__law_times => k_is)
    (case c__law_times => k_is)
    (case k__law_times => k_is)
    (case e_is_lit => k_is)
    (case l_is_lit => k_is)
    (case c_is_lit => k_is)
    (case k_is_lit => k_is)
    (case e_is_between => k_is)
    (case l_is_between => k_is)
    (case c_is_between => k_is)
    (case k_is_between => k_is)
    (case e_wrong_light => k_is)
    (case l_wrong_light => k_is)
    (case c_wrong_light => k_is)
    (case k_wrong_light => k_is)
    (case e_check_lamp => k_is)
    (case l_check_lamp => k_is)
    (case c_check_lamp => k_is)
    (case k_check_lamp => k_is)
    (case e_check_minute => k_is)
    (case l_check_minute => k_is)
    (case c_check_minute => k_is)
    (case k_check_minute => k_is)
    (case e_lit_by => k_is)
    (case l_lit_by => k_is)
    (case c_lit_by => k_is)
    (case k_lit_by => k_is)
    (case e_is_integer => k_is)
    (case l_is_integer => k_is)
    (case c_is_integer => k_is)
    (case k_is_integer => k_is)
    (case e_Lamp => k_is)
    (case pg_Lamp => k_is)
    (case hd_Lamp => k_is)
    (case po_Lamp => k_is)
    (case sa_Lamp => k_is)
    (case ic_Lamp => k_is)
    (case ty_Lamp => k_is)
    (case dc_Lamp => k_is)
    (case ob_Lamp => k_is)
    (case n0_Lamp => k_is)
    (case n1_Lamp => k_is)
    (case n2_Lamp => k_is)
    (case n3_Lamp => k_is)
    (case n4_Lamp => k_is)
    (case n5_Lamp => k_is)
    (case mm_Lamp => k_is)
    (case mi_Lamp => k_is)
    (case mf_Lamp => k_is)
    (case mk_Lamp => k_is)
    (case l_Lamp___init__ => k_is)
    (case c_Lamp___init__ => k_is)
    (case k_Lamp___init__ => k_is)
    (case no_Lamp_on => k_is)
    (case no_Lamp_round => k_is)
    (case m_Lamp_Lamp => k_is)
    (case tk1 => k_is)
    (case tk2 => k_is)
    (case bi0 => k_is)
    (case bi1 => k_is)
    (case bi2 => k_is)
    (case bi3 => k_is)
    (case bi4 => k_is)
    (case bi5 => k_is)
    (case bi6 => k_is)
    (case bi7 => k_is)
    (case bi8 => k_is)
    (case bi9 => k_is)
    (case bi10 => k_is)
    (case bi11 => k_is)
    (case bi12 => k_is)
    (case bi13 => k_is)
    (case bi14 => k_is)
    (case bi15 => k_is)
    (case bi16 => k_is)
    (case bi17 => k_is)
    (case bi18 => k_is)
    (case bi19 => k_is)
    (case bi20 => k_is)
    (case bi21 => k_is)
    (case bi22 => k_is)
    (case gl_MOST_MINUTE => k_is)
    (case gl_MOST_PERIOD => k_is)
    (case gl_MOST_LIGHTS => k_is)
    (case gl_DIGITS => k_is)
    (case hrun => exact Dk.K10.run)

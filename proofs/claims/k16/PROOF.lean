import PyProof.Rows.All
import Wide.All
import OpenK.AllK
import Wide.FinOn
import HandS.ForMost
import KE.SortData
import HandS.Flow
import HandS.Wide
import HandS.TupAny
import HandS.TupMul
import HandS.TupLe
import HandS.Star
import HandS.Style
import HandS.Deep
import HandS.IsInst
import KE.DataCmp
import KE.GoesEnum
import KE.GoesMore
import HandS.SetFor
import HandS.TupSets
import PyProof.WalkInts
import HandS.Set
import HandS.Walk
import HandS.Rev
import HandS.Zip
import HandS.Conv
import HandS.Words
import KE.KStar
import HandS.Defaults
import HandS.EndBits
import HandS.Head0
import HandS.Head1
import HandS.Head2
import HandS.HeadEnd
import HandS.HeadHook1
import HandS.HeadHook2
import HandS.More
import HandS.WordsExc
import KE.KStateDown
import Lean
import PySem.Challenge.RW_undermasters_k16_what_is_a_door
set_option Elab.async false
set_option linter.all false
set_option maxRecDepth 100000
set_option maxHeartbeats 0
/-! The plain evaluator: values, store, IR, evaluation. No model here. -/
namespace Ev
open PySem

inductive PV where
  | non | bl (b : Bool) | int (i : Int) | str (x : Str)
  | tup (xs : List PV) | lst (xs : List PV) | ref (l : Nat) | arg (xs : List PV)
  deriving Inhabited

mutual
def PV.ground : PV → Bool
  | .tup xs => groundL xs
  | .lst xs => groundL xs
  | .ref _ => false
  | .arg _ => false
  | .non => true
  | .bl _ => true
  | .int _ => true
  | .str _ => true
def groundL : List PV → Bool
  | [] => true
  | x :: xs => x.ground && groundL xs
end
mutual
def PV.dat : PV → PyData
  | .non => .none
  | .bl b => .bool b
  | .int i => .int i
  | .str x => .str x
  | .tup xs => .tuple (datL xs)
  | .lst xs => .list (datL xs)
  | .ref _ => .none
  | .arg _ => .none
def datL : List PV → List PyData
  | [] => []
  | x :: xs => x.dat :: datL xs
end
mutual
def PV.same : PV → PV → Bool
  | .non, .non => true
  | .bl a, .bl b => a == b
  | .int a, .int b => a == b
  | .str a, .str b => decide (a = b)
  | .tup a, .tup b => sameL a b
  | .lst a, .lst b => sameL a b
  | .ref a, .ref b => a == b
  | _, _ => false
def sameL : List PV → List PV → Bool
  | [], [] => true
  | x :: xs, y :: ys => x.same y && sameL xs ys
  | _, _ => false
end
/-- Python's == of plain data -/
def eqP (a b : PV) : Bool := PyData.eqv a.dat b.dat
/-- plain data that == and < can read: no ref, texts as they must be, not too deep -/
def shp (a : PV) : Bool := a.ground && SeqAt.shaped a.dat
def ltP (a b : PV) : Bool := PySem.W.dataLt a.dat b.dat
def alk (a b : PV) : Bool := PySem.W.alike a.dat b.dat

inductive Cell where
  | lst (xs : List PV)
  deriving Inhabited
abbrev Sto := List Cell
abbrev Slots := List (Option PV)

/-- the items of a list in the store -/
def cellAt (st : Sto) (l : Nat) : Option (List PV) := match st[l]? with
  | some (.lst xs) => some xs
  | none => none
/-- a list's or tuple's items -/
def items (v : PV) (st : Sto) : Option (List PV) := match v with
  | .tup xs => some xs
  | .lst xs => some xs
  | .ref l => cellAt st l
  | .arg xs => some xs
  | _ => none
/-- a list's items -/
def litems (v : PV) (st : Sto) : Option (List PV) := match v with
  | .lst xs => some xs
  | .ref l => cellAt st l
  | _ => none
/-- the value by its content -/
def deref (v : PV) (st : Sto) : Option PV := match v with
  | .ref l => (cellAt st l).map .lst
  | v => some v
/-- a new list: frozen, or in the store -/
def mkL (m : Bool) (xs : List PV) (st : Sto) : Option (PV × Sto) :=
  if m then (if groundL xs then some (.ref st.length, st ++ [.lst xs]) else none) else some (.lst xs, st)
def lim : Nat := 16777216

inductive BOp where | add | sub | mul | fdiv | mod | pow
  deriving DecidableEq, Repr
inductive COp where | eq | ne | lt | le | gt | ge | isN | notN | inn | nin
  deriving DecidableEq, Repr
inductive Ty where | int | bool | str | list | tuple | dict
  deriving DecidableEq, Repr
inductive BI where
  | len | abs | int1 | list1 | tuple1 | sorted1 | sortedSet | lenSet | all1 | any1 | sum1 | max1 | min1 | max2 | min2 | count
  deriving DecidableEq, Repr
inductive Tg where
  | one (i : Nat) | many (is : List Nat)
  deriving DecidableEq, Repr
inductive IK where
  | seq | range1 | range2 | enum | zip2 | rev | zipn
  deriving DecidableEq, Repr

inductive E where
  | bad
  | var (i : Nat)
  | cst (c : PV)
  | bin (m : Bool) (o : BOp) (a b : E)
  | cmp (o : COp) (a b : E)
  | chain (o o' : COp) (a b c : E)
  | and (a b : E) | or (a b : E) | not (a : E) | neg (a : E)
  | ite (c a b : E)
  | tup (es : E) | lst (m : Bool) (es : E)
  | nil | cons (e es : E) | star (e es : E)
  | call (f : Nat) (es : E)
  | callz (f : Nat) (es : E)
  | callk (f : Nat) (es ks : E) (n : Nat) (ps kn : List Str)
  | bi (m : Bool) (b : BI) (es : E)
  | listI (m : Bool) (it : E)
  | tupI (it : E)
  | sub (a i : E)
  | slice (m : Bool) (a lo hi : E)
  | revS (m : Bool) (a : E)
  | isi (a : E) (ts : List Ty)
  | lc (m : Bool) (it : E) (t : Tg) (own : List Nat) (c e : E)
  | lc2 (m : Bool) (it : E) (t : Tg) (own : List Nat) (it2 : E) (t2 : Tg) (own2 : List Nat) (c e : E)
  | itr (k : IK) (es : E)
  | append (o e : E) | extend (o e : E) | pop (o i : E) | pop0 (o : E)

inductive S where
  | bad | skip
  | seq (a b : S)
  | asg (t : Tg) (e : E)
  | asgSub (o i e : E)
  | aug (i : Nat) (o : BOp) (e : E)
  | exp (e : E)
  | ite (c : E) (a b : S)
  | for_ (it : E) (t : Tg) (b : S)
  | whl (c : E) (b : S)
  | ret (e : E)
  | brk | cnt

/-! ### values -/
def truth (v : PV) (st : Sto) : Option Bool := match v with
  | .non => some false
  | .bl b => some b
  | .int i => some (i != 0)
  | .str x => if x.length ≤ lim then some (x.length != 0) else none
  | .tup xs => some (!xs.isEmpty)
  | .lst xs => some (!xs.isEmpty)
  | .ref l => (cellAt st l).map fun xs => !xs.isEmpty
  | .arg xs => some (!xs.isEmpty)

def mulOk (i j : Int) : Bool := decide (i.natAbs < 18446744073709551616) || decide (j.natAbs < 18446744073709551616) || decide (i.natAbs.log2 + j.natAbs.log2 < 1000000)

/-- a list or tuple, k times -/
def repL (xs : List PV) (k : Int) : List PV := (List.replicate k.toNat xs).flatten

def binEv (m : Bool) (o : BOp) (a b : PV) (st : Sto) : Option (PV × Sto) := match o, a, b with
  | .add, .int i, .int j => some (.int (i + j), st)
  | .sub, .int i, .int j => some (.int (i - j), st)
  | .mul, .int i, .int j => if mulOk i j then some (.int (i * j), st) else none
  | .fdiv, .int i, .int j => if decide (0 < j) && decide (j.natAbs.log2 < 9000) then some (.int (i / j), st) else none
  | .mod, .int i, .int j => if decide (0 < j) then some (.int (i % j), st) else none
  | .pow, .int i, .int j => if decide (0 ≤ j) && decide (j ≤ 1000000) && decide (i.natAbs < 18446744073709551616) then some (.int (i ^ j.toNat), st) else none
  | .add, .str x, .str y => if x.length + y.length ≤ lim then some (.str (x ++ y), st) else none
  | .add, .tup xs, .tup ys => if xs.length + ys.length ≤ lim then some (.tup (xs ++ ys), st) else none
  | .mul, .tup xs, .int k => if decide (2 ≤ k) && decide (k ≤ 1000) && decide (xs.length ≤ 1000) && !xs.isEmpty then some (.tup (repL xs k), st) else none
  | .mul, v, .int k => (litems v st).bind fun xs => if decide (k < 16777216) && decide (-16777216 < k) && decide (xs.length * k.toNat ≤ lim) then mkL m (repL xs k) st else none
  | .add, v, w => (litems v st).bind fun xs => (litems w st).bind fun ys => if xs.length + ys.length ≤ lim then mkL m (xs ++ ys) st else none
  | _, _, _ => none

def anyEq (xs : List PV) (v : PV) : Bool := xs.any fun x => eqP x v
def cmpEv (o : COp) (a b : PV) (st : Sto) : Option Bool := match o with
  | .isN => match b with
    | .non => some (match a with | .non => true | _ => false)
    | _ => none
  | .notN => match b with
    | .non => some (match a with | .non => false | _ => true)
    | _ => none
  | .eq => (deref a st).bind fun x => (deref b st).bind fun y => if shp x && shp y then some (eqP x y) else none
  | .ne => (deref a st).bind fun x => (deref b st).bind fun y => if shp x && shp y then some (!eqP x y) else none
  | .inn => match b with
    | .str _ => none
    | _ => (deref a st).bind fun x => (deref b st).bind fun y => if shp x && shp y then (items y []).map (anyEq · x) else none
  | .nin => match b with
    | .str _ => none
    | _ => (deref a st).bind fun x => (deref b st).bind fun y => if shp x && shp y then (items y []).map fun ys => !anyEq ys x else none
  | .lt => (deref a st).bind fun x => (deref b st).bind fun y => if shp x && shp y && alk x y && !x.same .non then some (ltP x y) else none
  | .gt => (deref a st).bind fun x => (deref b st).bind fun y => if shp x && shp y && alk x y && !x.same .non then some (ltP y x) else none
  | .le => (deref a st).bind fun x => (deref b st).bind fun y => if shp x && shp y && alk x y && !x.same .non then some (!ltP y x) else none
  | .ge => (deref a st).bind fun x => (deref b st).bind fun y => if shp x && shp y && alk x y && !x.same .non then some (!ltP x y) else none

def subEv (a i : PV) (st : Sto) : Option PV := match i with
  | .int k => (items a st).bind fun xs => L2.atI xs k
  | _ => none
/-- a slice's end: not there, or an int -/
def partOf : List PV → Option (Option Int)
  | [] => some none
  | [.int i] => some (some i)
  | _ => none
def cutP (xs : List PV) (lo hi : Option Int) : List PV := (xs.drop (HT.sIx xs.length 0 lo)).take (HT.sIx xs.length xs.length hi - HT.sIx xs.length 0 lo)
def sliceEv (m : Bool) (a : PV) (lo hi : List PV) (st : Sto) : Option (PV × Sto) := (partOf lo).bind fun i => (partOf hi).bind fun j => match a with
  | .tup xs => some (.tup (cutP xs i j), st)
  | .arg xs => mkL m (cutP xs i j) st
  | v => (litems v st).bind fun xs => mkL m (cutP xs i j) st
def revEv (m : Bool) (a : PV) (st : Sto) : Option (PV × Sto) := match a with
  | .tup xs => some (.tup xs.reverse, st)
  | v => (litems v st).bind fun xs => mkL m xs.reverse st

def isTy (v : PV) : Ty → Bool
  | .int => match v with | .int _ => true | .bl _ => true | _ => false
  | .bool => match v with | .bl _ => true | _ => false
  | .str => match v with | .str _ => true | _ => false
  | .list => match v with | .lst _ => true | .ref _ => true | .arg _ => true | _ => false
  | .tuple => match v with | .tup _ => true | _ => false
  | .dict => false

def asInts : List PV → Option (List Int)
  | [] => some []
  | .int i :: r => (asInts r).map (i :: ·)
  | _ => none
def asBools : List PV → Option (List Bool)
  | [] => some []
  | .bl b :: r => (asBools r).map (b :: ·)
  | _ => none
def insP (x : PV) : List PV → List PV
  | [] => [x]
  | y :: r => if ltP y x then y :: insP x r else x :: y :: r
def sortL : List PV → List PV
  | [] => []
  | x :: r => insP x (sortL r)
def dedup : List PV → List PV
  | [] => []
  | x :: r => if (dedup r).any (fun y => y.same x) then dedup r else x :: dedup r
/-- ints, or non-empty tuples, any two of which can be compared -/
def isInt : PV → Bool
  | .int _ => true
  | _ => false
def isTupN : PV → Bool
  | .tup (_ :: _) => true
  | _ => false
def isStr : PV → Bool
  | .str x => SeqAt.shaped (.str x)
  | _ => false
def intTup : PV → Bool
  | .tup (x :: r) => isInt x && r.all isInt
  | _ => false
def sortable (xs : List PV) : Bool := xs.all isInt || xs.all isStr || xs.all intTup || (xs.all isTupN && xs.all shp && xs.all fun x => xs.all fun y => alk x y)
/-- a tuple of d ints from 0 -/
def natTup (d : Nat) : PV → Bool
  | .tup xs => decide (xs.length = d) && xs.all fun x => match x with
    | .int i => decide (0 ≤ i)
    | _ => false
  | _ => false
def lenT : List PV → Nat
  | .tup xs :: _ => xs.length
  | _ => 1
def setable (xs : List PV) : Bool := decide (xs.length < 64) && decide (1 ≤ lenT xs) && xs.all (natTup (lenT xs))

def maxI : Int → List Int → Int
  | m, [] => m
  | m, x :: r => maxI (if m < x then x else m) r
def minI : Int → List Int → Int
  | m, [] => m
  | m, x :: r => minI (if x < m then x else m) r

/-- few ints -/
def setI (xs : List PV) : Bool := xs.all isInt && (decide (xs.length < 4000) && decide ((dedup xs).length < 60))
def setEvS (m : Bool) (v : PV) (st : Sto) : Option (PV × Sto) := (items v st).bind fun xs => if setI xs then mkL m (sortL (dedup xs)) st else if setable xs then mkL m (sortL (dedup xs)) st else none
def biEv (m : Bool) (b : BI) (vs : List PV) (st : Sto) : Option (PV × Sto) := match b, vs with
  | .len, [v] => (items v st).map fun xs => (.int xs.length, st)
  | .abs, [.int i] => some (.int (if i < 0 then -i else i), st)
  | .int1, [.int i] => some (.int i, st)
  | .int1, [.bl b] => some (.int (if b then 1 else 0), st)
  | .list1, [v] => (items v st).bind fun xs => mkL m xs st
  | .tuple1, [v] => (items v st).map fun xs => (.tup xs, st)
  | .sorted1, [v] => (items v st).bind fun xs => if sortable xs then mkL m (sortL xs) st else none
  | .sortedSet, [v] => setEvS m v st
  | .lenSet, [v] => (items v st).bind fun xs => if setI xs then some (.int (dedup xs).length, st) else none
  | .all1, [v] => (litems v st).bind fun xs => (asBools xs).map fun bs => (.bl (bs.all id), st)
  | .any1, [v] => (litems v st).bind fun xs => (asBools xs).map fun bs => (.bl (bs.any id), st)
  | .sum1, [v] => (litems v st).bind fun xs => (asInts xs).map fun is => (.int is.sum, st)
  | .max1, [v] => (items v st).bind fun xs => (asInts xs).bind fun is => match is with | [] => none | x :: r => some (.int (maxI x r), st)
  | .min1, [v] => (items v st).bind fun xs => (asInts xs).bind fun is => match is with | [] => none | x :: r => some (.int (minI x r), st)
  | .max2, [.int i, .int j] => some (.int (if j > i then j else i), st)
  | .min2, [.int i, .int j] => some (.int (if j < i then j else i), st)
  | .count, [v, .int k] => (litems v st).bind fun xs => (asInts xs).map fun is => (.int (is.count k : Nat), st)
  | _, _ => none

/-! ### slots -/
def setMany : List Nat → List PV → Slots → Option Slots
  | [], [], s => some s
  | i :: is, v :: vs, s => setMany is vs (s.set i (some v))
  | _, _, _ => none
def asgn (t : Tg) (v : PV) (s : Slots) : Option Slots := match t with
  | .one i => some (s.set i (some v))
  | .many is => match v with
    | .tup xs => setMany is xs s
    | _ => none
def wipeS (s : Slots) : List Nat → Slots
  | [] => s
  | v :: vs => (wipeS s vs).set v none
/-- the arguments in the parameters' order: n by place, the others by name -/
def gg {α : Type} (n : Nat) (ps kn : List Str) (us ws : List α) : List α := if us.length = n ∧ ws.length = kn.length then ps.filterMap fun x => (ps.zip us ++ kn.zip ws).lookup x else []

/-! ### walks: a guard (a list of the store that must stay), the items -/
structure Wk where
  g : Option (Nat × List PV)
  xs : List PV
def guardOk (w : Wk) (st : Sto) : Bool := match w.g with
  | none => true
  | some (l, xs) => match cellAt st l with
    | some ys => sameL xs ys
    | none => false
def wkOf (v : PV) (st : Sto) : Option Wk := match v with
  | .tup xs => some ⟨none, xs⟩
  | .lst xs => some ⟨none, xs⟩
  | .arg xs => some ⟨none, xs⟩
  | .ref l => (cellAt st l).map fun xs => ⟨some (l, xs), xs⟩
  | _ => none
def rangeL (lo : Int) (n : Nat) : List PV := (List.range n).map fun (k : Nat) => PV.int (lo + (k : Int))
def enumL : Nat → List PV → List PV
  | _, [] => []
  | k, x :: r => .tup [.int (k : Nat), x] :: enumL (k + 1) r
def zipL : List PV → List PV → List PV
  | x :: r, y :: t => .tup [x, y] :: zipL r t
  | _, _ => []
/-- lists and tuples that are not the caller's own to change -/
def frozenL : PV → Option (List PV)
  | .tup xs => some xs
  | .lst xs => some xs
  | .arg xs => some xs
  | _ => none
def seqsOf : List PV → Option (List (List PV))
  | [] => some []
  | v :: r => (frozenL v).bind fun xs => (seqsOf r).map fun y => xs :: y
def rowAt (xss : List (List PV)) (i : Nat) : PV := .tup (xss.map fun xs => (xs[i]?).getD .non)
def transp : List (List PV) → List PV
  | [] => []
  | xs :: r => (List.range xs.length).map (rowAt (xs :: r))
def evenL : List (List PV) → Bool
  | [] => false
  | xs :: r => r.all (fun y => decide (y.length = xs.length)) && decide (r.length < 1000)
def zipnEv (vs : List PV) : Option Wk := (seqsOf vs).bind fun xss => if evenL xss then some ⟨none, transp xss⟩ else none
def rgOk (i : Int) : Bool := decide (-4611686018427387904 ≤ i) && decide (i < 4611686018427387904)
def wkEv (k : IK) (vs : List PV) (st : Sto) : Option Wk := match k, vs with
  | .seq, [v] => wkOf v st
  | .range1, [.int j] => if rgOk j && decide (j ≤ 16777216) then some ⟨none, rangeL 0 j.toNat⟩ else none
  | .range2, [.int i, .int j] => if rgOk i && rgOk j && decide (j - i ≤ 16777216) then some ⟨none, rangeL i (j - i).toNat⟩ else none
  | .enum, [v] => (wkOf v st).map fun w => ⟨w.g, enumL 0 w.xs⟩
  | .zip2, [v, u] => match v, u with
    | .ref _, _ => none
    | _, .ref _ => none
    | v, u => (items v st).bind fun xs => (items u st).map fun ys => ⟨none, zipL xs ys⟩
  | .rev, [v] => (wkOf v st).map fun w => ⟨w.g, w.xs.reverse⟩
  | .zipn, vs => zipnEv vs
  | _, _ => none

/-- a comprehension's turns -/
def lcM (ok : Sto → Bool) (f : PV → Sto → Option (Option PV × Sto)) : List PV → Sto → Option (List PV × Sto)
  | [], st => if ok st then some ([], st) else none
  | x :: r, st => if ok st then (f x st).bind fun y => (lcM ok f r y.2).map fun z => ((match y.1 with | some v => v :: z.1 | none => z.1), z.2) else none
/-- a comprehension's turns, each giving several -/
def lcMs (ok : Sto → Bool) (f : PV → Sto → Option (List PV × Sto)) : List PV → Sto → Option (List PV × Sto)
  | [], st => if ok st then some ([], st) else none
  | x :: r, st => if ok st then (f x st).bind fun y => (lcMs ok f r y.2).map fun z => (y.1 ++ z.1, z.2) else none

inductive Fl where
  | nx | bk | ct | rt (v : PV)
abbrev CF := Nat → List PV → Sto → Option (PV × Sto)
structure Cf where
  call : CF
  wf : Nat

def appendEv (o v : PV) (st : Sto) : Option (PV × Sto) := match o with
  | .ref l => (cellAt st l).bind fun xs => if v.ground && decide (xs.length < lim) then some (.non, st.set l (.lst (xs ++ [v]))) else none
  | _ => none
def extendEv (o v : PV) (st : Sto) : Option (PV × Sto) := match o with
  | .ref l => (cellAt st l).bind fun xs => match v with
    | .lst ys => if groundL ys && decide (xs.length + ys.length ≤ lim) then some (.non, st.set l (.lst (xs ++ ys))) else none
    | _ => none
  | _ => none
def popEv (o i : PV) (st : Sto) : Option (PV × Sto) := match o, i with
  | .ref l, .int k => (cellAt st l).bind fun xs => (L2.ixN xs.length k).bind fun j => xs[j]?.map fun v => (v, st.set l (.lst (xs.eraseIdx j)))
  | _, _ => none
def pop0Ev (o : PV) (st : Sto) : Option (PV × Sto) := match o with
  | .ref l => (cellAt st l).bind fun xs => xs[xs.length - 1]?.map fun v => (v, st.set l (.lst xs.dropLast))
  | _ => none
def setEv (o i v : PV) (st : Sto) : Option Sto := match o, i with
  | .ref l, .int k => (cellAt st l).bind fun xs => (L2.ixN xs.length k).bind fun j => if v.ground then some (st.set l (.lst (xs.set j v))) else none
  | _, _ => none

mutual
/-- no list in it -/
def noLst : PV → Bool
  | .non => true
  | .bl _ => true
  | .int _ => true
  | .str _ => true
  | .tup xs => noLstL xs
  | _ => false
def noLstL : List PV → Bool
  | [] => true
  | x :: r => noLst x && noLstL r
end
/-- a list in the store, read as it stands -/
def frzV (st : Sto) (v : PV) : Option PV := match v with
  | .ref l => (cellAt st l).map .lst
  | v => if v.ground then some v else none
def frzL (st : Sto) : List PV → Option (List PV)
  | [] => some []
  | v :: r => (frzV st v).bind fun x => (frzL st r).map fun y => x :: y
def callzEv (c : Cf) (f : Nat) (vs : List PV) (st : Sto) : Option (PV × Sto) := if groundL vs then c.call f vs st else (frzL st vs).bind fun ys => (c.call f ys []).bind fun r => if noLst r.1 then some (r.1, st) else none
mutual
def evE (c : Cf) : E → Slots → Sto → Option (PV × Sto)
  | .var i, σ, st => (σ[i]?).bind fun o => o.map fun v => (v, st)
  | .cst v, _, st => some (v, st)
  | .bin m o a b, σ, st => (evE c a σ st).bind fun x => (evE c b σ x.2).bind fun y => binEv m o x.1 y.1 y.2
  | .cmp o a b, σ, st => (evE c a σ st).bind fun x => (evE c b σ x.2).bind fun y => (cmpEv o x.1 y.1 y.2).map fun k => (.bl k, y.2)
  | .chain o o' a b d, σ, st => (evE c a σ st).bind fun x => (evE c b σ x.2).bind fun y => (cmpEv o x.1 y.1 y.2).bind fun k =>
      if k then (evE c d σ y.2).bind fun z => (cmpEv o' y.1 z.1 z.2).map fun k' => (.bl k', z.2) else some (.bl false, y.2)
  | .and a b, σ, st => (evE c a σ st).bind fun x => (truth x.1 x.2).bind fun k => if k then evE c b σ x.2 else some x
  | .or a b, σ, st => (evE c a σ st).bind fun x => (truth x.1 x.2).bind fun k => if k then some x else evE c b σ x.2
  | .not a, σ, st => (evE c a σ st).bind fun x => (truth x.1 x.2).map fun k => (.bl !k, x.2)
  | .neg a, σ, st => (evE c a σ st).bind fun x => match x.1 with | .int i => some (.int (-i), x.2) | _ => none
  | .ite q a b, σ, st => (evE c q σ st).bind fun x => (truth x.1 x.2).bind fun k => if k then evE c a σ x.2 else evE c b σ x.2
  | .tup es, σ, st => (evL c es σ st).bind fun x => if x.1.length ≤ lim then some (.tup x.1, x.2) else none
  | .lst m es, σ, st => (evL c es σ st).bind fun x => if x.1.length ≤ lim then mkL m x.1 x.2 else none
  | .call f es, σ, st => (evL c es σ st).bind fun x => c.call f x.1 x.2
  | .callz f es, σ, st => (evL c es σ st).bind fun x => callzEv c f x.1 x.2
  | .callk f es ks n ps kn, σ, st => (evL c es σ st).bind fun x => (evL c ks σ x.2).bind fun y => c.call f (gg n ps kn x.1 y.1) y.2
  | .bi m b es, σ, st => (evL c es σ st).bind fun x => biEv m b x.1 x.2
  | .listI m it, σ, st => (evI c it σ st).bind fun x => mkL m x.1.xs x.2
  | .tupI it, σ, st => (evI c it σ st).map fun x => (.tup x.1.xs, x.2)
  | .sub a i, σ, st => (evE c a σ st).bind fun x => (evE c i σ x.2).bind fun y => (subEv x.1 y.1 y.2).map fun v => (v, y.2)
  | .slice m a lo hi, σ, st => (evE c a σ st).bind fun x => (evL c lo σ x.2).bind fun y => (evL c hi σ y.2).bind fun z => sliceEv m x.1 y.1 z.1 z.2
  | .revS m a, σ, st => (evE c a σ st).bind fun x => revEv m x.1 x.2
  | .isi a ts, σ, st => (evE c a σ st).bind fun x => match x.1 with
    | .arg _ => none
    | _ => some (.bl (ts.any (isTy x.1)), x.2)
  | .lc m it t own q e, σ, st => (evI c it σ st).bind fun w => (lcM (guardOk w.1) (fun x st => (asgn t x (wipeS σ own)).bind fun σ' =>
      (evE c q σ' st).bind fun k => (truth k.1 k.2).bind fun b => if b then (evE c e σ' k.2).map fun y => (some y.1, y.2) else some (none, k.2)) w.1.xs w.2).bind fun ys => mkL m ys.1 ys.2
  | .lc2 m it t own it2 t2 own2 q e, σ, st => (evI c it σ st).bind fun w => (lcMs (guardOk w.1) (fun x st => (asgn t x (wipeS σ own)).bind fun σ' =>
      (evI c it2 σ' st).bind fun w2 => lcM (guardOk w2.1) (fun x st => (asgn t2 x (wipeS σ' own2)).bind fun σ2 =>
        (evE c q σ2 st).bind fun k => (truth k.1 k.2).bind fun b => if b then (evE c e σ2 k.2).map fun y => (some y.1, y.2) else some (none, k.2)) w2.1.xs w2.2) w.1.xs w.2).bind fun ys => if ys.1.length ≤ lim then mkL m ys.1 ys.2 else none
  | .append o e, σ, st => (evE c o σ st).bind fun x => (evE c e σ x.2).bind fun y => appendEv x.1 y.1 y.2
  | .extend o e, σ, st => (evE c o σ st).bind fun x => (evE c e σ x.2).bind fun y => extendEv x.1 y.1 y.2
  | .pop o i, σ, st => (evE c o σ st).bind fun x => (evE c i σ x.2).bind fun y => popEv x.1 y.1 y.2
  | .pop0 o, σ, st => (evE c o σ st).bind fun x => pop0Ev x.1 x.2
  | .bad, _, _ => none
  | .nil, _, _ => none
  | .cons _ _, _, _ => none
  | .star _ _, _, _ => none
  | .itr _ _, _, _ => none
def evL (c : Cf) : E → Slots → Sto → Option (List PV × Sto)
  | .nil, _, st => some ([], st)
  | .cons e es, σ, st => (evE c e σ st).bind fun x => (evL c es σ x.2).map fun y => (x.1 :: y.1, y.2)
  | .star e es, σ, st => (evE c e σ st).bind fun x => (items x.1 x.2).bind fun xs => (evL c es σ x.2).map fun y => (xs ++ y.1, y.2)
  | _, _, _ => none
def evI (c : Cf) : E → Slots → Sto → Option (Wk × Sto)
  | .itr k es, σ, st => (evL c es σ st).bind fun x => (wkEv k x.1 x.2).map fun w => (w, x.2)
  | _, _, _ => none
end

/-- a for's turns -/
def forM (ok : Sto → Bool) (f : PV → Slots → Sto → Option (Fl × Slots × Sto)) : List PV → Slots → Sto → Option (Fl × Slots × Sto)
  | [], σ, st => if ok st then some (.nx, σ, st) else none
  | x :: r, σ, st => if ok st then (f x σ st).bind fun y => match y.1 with
    | .nx => forM ok f r y.2.1 y.2.2
    | .ct => forM ok f r y.2.1 y.2.2
    | .bk => some (.nx, y.2.1, y.2.2)
    | .rt v => some (.rt v, y.2.1, y.2.2) else none
def whM (q : Slots → Sto → Option (Bool × Sto)) (f : Slots → Sto → Option (Fl × Slots × Sto)) : Nat → Slots → Sto → Option (Fl × Slots × Sto)
  | 0, _, _ => none
  | n + 1, σ, st => (q σ st).bind fun k => if k.1 then (f σ k.2).bind fun y => match y.1 with
    | .nx => whM q f n y.2.1 y.2.2
    | .ct => whM q f n y.2.1 y.2.2
    | .bk => some (.nx, y.2.1, y.2.2)
    | .rt v => some (.rt v, y.2.1, y.2.2) else some (.nx, σ, k.2)

def evS (c : Cf) : S → Slots → Sto → Option (Fl × Slots × Sto)
  | .skip, σ, st => some (.nx, σ, st)
  | .seq a b, σ, st => (evS c a σ st).bind fun x => match x.1 with
    | .nx => evS c b x.2.1 x.2.2
    | _ => some x
  | .asg t e, σ, st => (evE c e σ st).bind fun x => (asgn t x.1 σ).map fun σ' => (.nx, σ', x.2)
  | .asgSub o i e, σ, st => (evE c e σ st).bind fun x => (evE c o σ x.2).bind fun y => (evE c i σ y.2).bind fun z => (setEv y.1 z.1 x.1 z.2).map fun st' => (.nx, σ, st')
  | .aug i o e, σ, st => (σ[i]?).bind fun v => v.bind fun v => (evE c e σ st).bind fun x => match o, v, x.1 with
    | .add, .int a, .int b => some (.nx, σ.set i (some (.int (a + b))), x.2)
    | .sub, .int a, .int b => some (.nx, σ.set i (some (.int (a - b))), x.2)
    | _, _, _ => none
  | .exp e, σ, st => (evE c e σ st).map fun x => (.nx, σ, x.2)
  | .ite q a b, σ, st => (evE c q σ st).bind fun x => (truth x.1 x.2).bind fun k => if k then evS c a σ x.2 else evS c b σ x.2
  | .for_ it t b, σ, st => (evI c it σ st).bind fun w => forM (guardOk w.1) (fun x σ st => (asgn t x σ).bind fun σ' => evS c b σ' st) w.1.xs σ w.2
  | .whl q b, σ, st => whM (fun σ st => (evE c q σ st).bind fun x => (truth x.1 x.2).map fun k => (k, x.2)) (fun σ st => evS c b σ st) c.wf σ st
  | .ret e, σ, st => (evE c e σ st).map fun x => (.rt x.1, σ, x.2)
  | .brk, σ, st => some (.bk, σ, st)
  | .cnt, σ, st => some (.ct, σ, st)
  | .bad, _, _ => none

structure Fn where
  np : Nat
  ns : Nat
  gc : Bool
  body : S
/-- a call's end: what it made is forgotten where the answer is plain -/
def fin (gc : Bool) (v : PV) (st st' : Sto) : PV × Sto := if gc && v.ground then (v, st'.take st.length) else match v with
  | .ref l => if gc && decide (st.length ≤ l) then (match cellAt st' l with
    | some xs => (.lst xs, st'.take st.length)
    | none => (.ref l, st')) else (.ref l, st')
  | v => (v, st')
def callN (fs : List Fn) (wf : Nat) : Nat → CF
  | 0, _, _, _ => none
  | n + 1, f, vs, st => (fs[f]?).bind fun d => if vs.length = d.np then
      (evS ⟨callN fs wf n, wf⟩ d.body (vs.map some ++ List.replicate (d.ns - d.np) none) st).bind fun x => match x.1 with
        | .rt v => some (fin d.gc v st x.2.2)
        | .nx => some (fin d.gc .non st x.2.2)
        | _ => none else none
end Ev

/-! How plain values stand in the abstract heap. -/
namespace Ev
open PySem L2

def KLst (K : PySem.W.Frag) (a : Addr) (xs : List V) : Prop :=
  ∃ (o : Obj) (its : Array Value) (n : Nat), K.lookup a = some o ∧ o.cls = .type "list" ∧ o.dict = none ∧ o.data = .seq its n ∧ its.size ≤ sizeLine ∧ Vals xs its.toList
def KTup (K : PySem.W.Frag) (a : Addr) (xs : List V) : Prop :=
  ∃ (o : Obj) (its : Array Value) (n : Nat), K.lookup a = some o ∧ o.cls = .type "tuple" ∧ o.data = .seq its n ∧ its.size ≤ sizeLine ∧ Vals xs its.toList

/-- the addresses of the store's lists, and addresses that no value means -/
structure Rs where
  ix : List Addr
  ex : List Addr
instance : Membership Addr Rs := ⟨fun rs a => a ∈ rs.ix ∨ a ∈ rs.ex⟩
theorem Rs.nin {rs : Rs} {a : Addr} (h : a ∉ rs) : a ∉ rs.ix := fun z => h (.inl z)
mutual
inductive Rep (K : PySem.W.Frag) (H : Hp) (rs : Rs) : V → PV → Prop
  | non : Rep K H rs .non .non
  | bl (b : Bool) : Rep K H rs (.bl b) (.bl b)
  | int (i : Int) : Rep K H rs (.int i) (.int i)
  | str (x : Str) : Rep K H rs (.str x) (.str x)
  | tup {a : Addr} {xs : List V} {ps : List PV} : ((a ∉ rs ∧ H a = some (HO.tup xs)) ∨ KTup K a xs) → RepL K H rs xs ps → ps.length ≤ sizeLine → Rep K H rs (.ref a) (.tup ps)
  | lst {a : Addr} {xs : List V} {ps : List PV} : (a ∉ rs ∧ H a = some (HO.lst xs)) → RepL K H rs xs ps → ps.length ≤ sizeLine → Rep K H rs (.ref a) (.lst ps)
  | arg {a : Addr} {xs : List V} {ps : List PV} : ((a ∉ rs ∧ Rd H a (.lst xs)) ∨ KLst K a xs) → RepL K H rs xs ps → ps.length ≤ sizeLine → Rep K H rs (.ref a) (.arg ps)
  | ref {a : Addr} {l : Nat} : rs.ix[l]? = some a → Rep K H rs (.ref a) (.ref l)
inductive RepL (K : PySem.W.Frag) (H : Hp) (rs : Rs) : List V → List PV → Prop
  | nil : RepL K H rs [] []
  | cons {v : V} {vs : List V} {p : PV} {ps : List PV} : Rep K H rs v p → RepL K H rs vs ps → RepL K H rs (v :: vs) (p :: ps)
end

structure Ext (rs : Rs) (H : Hp) (rs' : Rs) (H' : Hp) : Prop where
  pre : ∃ new, rs' = ⟨rs.ix ++ new, rs.ex⟩ ∧ ∀ a ∈ new, H a = none
  keep : ∀ a o, H a = some o → a ∉ rs.ix → H' a = some o
  live : ∀ a, H' a = none → H a = none
structure Good (K : PySem.W.Frag) (rs : Rs) (st : Sto) (H : Hp) : Prop where
  len : rs.ix.length = st.length
  nd : rs.ix.Nodup
  exl : ∀ a ∈ rs.ex, H a ≠ none ∧ a ∉ rs.ix
  cell : ∀ (l : Nat) (a : Addr) (xs : List PV), rs.ix[l]? = some a → st[l]? = some (Cell.lst xs) → xs.length ≤ sizeLine ∧ groundL xs = true ∧ ∃ vs, H a = some (HO.lst vs) ∧ RepL K H rs vs xs
structure EnvR (K : PySem.W.Frag) (H : Hp) (rs : Rs) (σ : St) (ρ : Slots) : Prop where
  len : σ.length = ρ.length
  at_ : ∀ (i : Nat) (p : PV), ρ[i]? = some (some p) → ∃ v, σ[i]? = some (some v) ∧ Rep K H rs v p
def Post (K : PySem.W.Frag) (rs : Rs) (H : Hp) (st' : Sto) (v : PV) (Q : VK) : Prop :=
  ∀ w H' rs', Ext rs H rs' H' → Good K rs' st' H' → Rep K H' rs' w v → Q w H'
def PostL (K : PySem.W.Frag) (rs : Rs) (H : Hp) (st' : Sto) (vs : List PV) (Q : List V → Hp → Prop) : Prop :=
  ∀ ws H' rs', Ext rs H rs' H' → Good K rs' st' H' → RepL K H' rs' ws vs → Q ws H'

section
variable {K : PySem.W.Frag} {H H' H'' : Hp} {rs rs' rs'' : Rs} {st st' : Sto} {σ : St} {ρ : Slots}
theorem Ext.refl (H : Hp) (rs : Rs) : Ext rs H rs H := ⟨⟨[], by simp, by simp⟩, fun _ _ h _ => h, fun _ h => h⟩
theorem Ext.trans (a : Ext rs H rs' H') (b : Ext rs' H' rs'' H'') : Ext rs H rs'' H'' := by
  obtain ⟨n1, rfl, f1⟩ := a.pre
  obtain ⟨n2, rfl, f2⟩ := b.pre
  refine ⟨⟨n1 ++ n2, by simp, fun x hx => ?_⟩, fun x o e hx => ?_, fun x h => a.live x (b.live x h)⟩
  · rcases List.mem_append.mp hx with h | h
    · exact f1 x h
    · exact a.live x (f2 x h)
  · refine b.keep x o (a.keep x o e hx) fun h => ?_
    rcases List.mem_append.mp h with h | h
    · exact hx h
    · rw [f1 x h] at e; cases e
/-- the old list of addresses is left -/
theorem Ext.back (a : Ext rs H rs' H') : Ext rs H rs H' := ⟨⟨[], by simp, by simp⟩, a.keep, a.live⟩
theorem Ext.nin (e : Ext rs H rs' H') {a : Addr} (h : a ∉ rs) (ha : H a ≠ none) : a ∉ rs' := by
  obtain ⟨n, rfl, f⟩ := e.pre
  rintro (hm | hm)
  · rcases List.mem_append.mp hm with q | q
    · exact h (.inl q)
    · exact ha (f a q)
  · exact h (.inr hm)
theorem rd_ne {a : Addr} {u : HO} (h : Rd H a u) : H a ≠ none := by
  rcases h with h | ⟨o, h⟩ <;> (rw [h]; simp)
theorem rd_ext {a : Addr} {u : HO} (h : Rd H a u) (e : Ext rs H rs' H') (hn : a ∉ rs.ix) : Rd H' a u := by
  rcases h with h | ⟨o, h⟩
  · exact .inl (e.keep _ _ h hn)
  · exact .inr ⟨o, e.keep _ _ h hn⟩
theorem Ext.ix (e : Ext rs H rs' H') {l : Nat} {a : Addr} (h : rs.ix[l]? = some a) : rs'.ix[l]? = some a := by
  obtain ⟨n, rfl, _⟩ := e.pre
  rw [List.getElem?_append_left (List.getElem?_eq_some_iff.mp h).1]
  exact h
mutual
theorem Rep.ext (e : Ext rs H rs' H') : ∀ (p : PV) (v : V), Rep K H rs v p → Rep K H' rs' v p
  | .non, _, .non => .non
  | .bl _, _, .bl b => .bl b
  | .int _, _, .int i => .int i
  | .str _, _, .str x => .str x
  | .tup ps, _, .tup h r z => .tup (h.imp (fun q => ⟨e.nin q.1 (by rw [q.2]; simp), e.keep _ _ q.2 (Rs.nin q.1)⟩) fun q => q) (RepL.ext e ps _ r) z
  | .lst ps, _, .lst q r z => .lst ⟨e.nin q.1 (by rw [q.2]; simp), e.keep _ _ q.2 (Rs.nin q.1)⟩ (RepL.ext e ps _ r) z
  | .arg ps, _, .arg h r z => .arg (h.imp (fun q => ⟨e.nin q.1 (rd_ne q.2), rd_ext q.2 e (Rs.nin q.1)⟩) fun q => q) (RepL.ext e ps _ r) z
  | .ref _, _, .ref h => .ref (e.ix h)
theorem RepL.ext (e : Ext rs H rs' H') : ∀ (ps : List PV) (vs : List V), RepL K H rs vs ps → RepL K H' rs' vs ps
  | [], _, .nil => .nil
  | p :: ps, _, .cons h r => .cons (Rep.ext e p _ h) (RepL.ext e ps _ r)
end
theorem EnvR.ext (r : EnvR K H rs σ ρ) (e : Ext rs H rs' H') : EnvR K H' rs' σ ρ :=
  ⟨r.len, fun i p h => let ⟨v, h1, h2⟩ := r.at_ i p h; ⟨v, h1, Rep.ext e _ _ h2⟩⟩
mutual
/-- of plain data only what stands counts -/
theorem Rep.plain (hs : ∀ a, a ∈ rs → a ∈ rs') : ∀ (p : PV) (v : V), p.ground = true → Rep K H rs' v p → Rep K H rs v p
  | .non, _, _, .non => .non
  | .bl _, _, _, .bl b => .bl b
  | .int _, _, _, .int i => .int i
  | .str _, _, _, .str x => .str x
  | .tup ps, _, g, .tup h r z => .tup (h.imp (fun q => ⟨fun m => q.1 (hs _ m), q.2⟩) fun q => q) (RepL.plain hs ps _ (by simpa [PV.ground] using g) r) z
  | .lst ps, _, g, .lst q r z => .lst ⟨fun m => q.1 (hs _ m), q.2⟩ (RepL.plain hs ps _ (by simpa [PV.ground] using g) r) z
theorem RepL.plain (hs : ∀ a, a ∈ rs → a ∈ rs') : ∀ (ps : List PV) (vs : List V), groundL ps = true → RepL K H rs' vs ps → RepL K H rs vs ps
  | [], _, _, .nil => .nil
  | p :: ps, _, g, .cons h r => by
    simp only [groundL, Bool.and_eq_true] at g
    exact .cons (Rep.plain hs p _ g.1 h) (RepL.plain hs ps _ g.2 r)
end
mutual
/-- another heap, other addresses: what counts is what a value means -/
theorem Rep.gen (hix : ∀ (l : Nat) (a : Addr), rs.ix[l]? = some a → rs'.ix[l]? = some a) (hs : ∀ a o, a ∉ rs → H a = some o → a ∉ rs' ∧ H' a = some o) : ∀ (p : PV) (v : V), Rep K H rs v p → Rep K H' rs' v p
  | .non, _, .non => .non
  | .bl _, _, .bl b => .bl b
  | .int _, _, .int i => .int i
  | .str _, _, .str x => .str x
  | .tup ps, _, .tup h r z => .tup (h.imp (fun q => hs _ _ q.1 q.2) fun q => q) (RepL.gen hix hs ps _ r) z
  | .lst ps, _, .lst q r z => .lst (hs _ _ q.1 q.2) (RepL.gen hix hs ps _ r) z
  | .arg ps, _, .arg h r z => .arg (h.imp (fun q => by
      rcases q.2 with k | ⟨o, k⟩
      · exact ⟨(hs _ _ q.1 k).1, .inl (hs _ _ q.1 k).2⟩
      · exact ⟨(hs _ _ q.1 k).1, .inr ⟨o, (hs _ _ q.1 k).2⟩⟩) fun q => q) (RepL.gen hix hs ps _ r) z
  | .ref _, _, .ref h => .ref (hix _ _ h)
theorem RepL.gen (hix : ∀ (l : Nat) (a : Addr), rs.ix[l]? = some a → rs'.ix[l]? = some a) (hs : ∀ a o, a ∉ rs → H a = some o → a ∉ rs' ∧ H' a = some o) : ∀ (ps : List PV) (vs : List V), RepL K H rs vs ps → RepL K H' rs' vs ps
  | [], _, .nil => .nil
  | p :: ps, _, .cons h r => .cons (Rep.gen hix hs p _ h) (RepL.gen hix hs ps _ r)
end
theorem EnvR.gen (hix : ∀ (l : Nat) (a : Addr), rs.ix[l]? = some a → rs'.ix[l]? = some a) (hs : ∀ a o, a ∉ rs → H a = some o → a ∉ rs' ∧ H' a = some o) (r : EnvR K H rs σ ρ) : EnvR K H' rs' σ ρ :=
  ⟨r.len, fun i p h => let ⟨v, h1, h2⟩ := r.at_ i p h; ⟨v, h1, Rep.gen hix hs _ _ h2⟩⟩
/-- a later state, maybe with more reserved addresses -/
structure Lat (rs : Rs) (H : Hp) (rs' : Rs) (H' : Hp) : Prop where
  ix : ∀ (l : Nat) (a : Addr), rs.ix[l]? = some a → rs'.ix[l]? = some a
  keep : ∀ a o, a ∉ rs → H a = some o → a ∉ rs' ∧ H' a = some o
theorem Ext.lat (e : Ext rs H rs' H') : Lat rs H rs' H' := ⟨fun l a h => e.ix h, fun a o hn h => ⟨e.nin hn (by rw [h]; simp), e.keep a o h (Rs.nin hn)⟩⟩
theorem Lat.trans (a : Lat rs H rs' H') (b : Lat rs' H' rs'' H'') : Lat rs H rs'' H'' := ⟨fun l x h => b.ix l x (a.ix l x h), fun x o hn h => let ⟨h1, h2⟩ := a.keep x o hn h; b.keep x o h1 h2⟩
theorem Rep.lat (e : Lat rs H rs' H') {p : PV} {v : V} (r : Rep K H rs v p) : Rep K H' rs' v p := Rep.gen e.ix e.keep _ _ r
theorem RepL.lat (e : Lat rs H rs' H') {p : List PV} {v : List V} (r : RepL K H rs v p) : RepL K H' rs' v p := RepL.gen e.ix e.keep _ _ r
theorem EnvR.lat (e : Lat rs H rs' H') (r : EnvR K H rs σ ρ) : EnvR K H' rs' σ ρ := EnvR.gen e.ix e.keep r
theorem RepL.length : ∀ {vs : List V} {ps : List PV}, RepL K H rs vs ps → vs.length = ps.length
  | _, _, .nil => rfl
  | _, _, .cons _ r => by simp [r.length]
theorem RepL.get : ∀ {vs : List V} {ps : List PV} {i : Nat} {p : PV}, RepL K H rs vs ps → ps[i]? = some p → ∃ v, vs[i]? = some v ∧ Rep K H rs v p
  | _, _, _, _, .nil, h => by simp at h
  | _, _, 0, _, .cons q _, h => by simp at h; subst h; exact ⟨_, rfl, q⟩
  | _, _, i + 1, _, .cons _ r, h => by
    obtain ⟨v, h1, h2⟩ := RepL.get (i := i) r (by simpa using h)
    exact ⟨v, by simpa using h1, h2⟩
theorem RepL.get' : ∀ {vs : List V} {ps : List PV} {i : Nat} {v : V}, RepL K H rs vs ps → vs[i]? = some v → ∃ p, ps[i]? = some p ∧ Rep K H rs v p
  | _, _, _, _, .nil, h => by simp at h
  | _, _, 0, _, .cons q _, h => by simp at h; subst h; exact ⟨_, rfl, q⟩
  | _, _, i + 1, _, .cons _ r, h => by
    obtain ⟨v, h1, h2⟩ := RepL.get' (i := i) r (by simpa using h)
    exact ⟨v, by simpa using h1, h2⟩
theorem RepL.append : ∀ {vs ws : List V} {ps qs : List PV}, RepL K H rs vs ps → RepL K H rs ws qs → RepL K H rs (vs ++ ws) (ps ++ qs)
  | _, _, _, _, .nil, s => s
  | _, _, _, _, .cons h r, s => .cons h (r.append s)
theorem RepL.take : ∀ {vs : List V} {ps : List PV} (n : Nat), RepL K H rs vs ps → RepL K H rs (vs.take n) (ps.take n)
  | _, _, 0, _ => .nil
  | _, _, _ + 1, .nil => .nil
  | _, _, n + 1, .cons h r => .cons h (r.take n)
theorem RepL.drop : ∀ {vs : List V} {ps : List PV} (n : Nat), RepL K H rs vs ps → RepL K H rs (vs.drop n) (ps.drop n)
  | _, _, 0, r => r
  | _, _, _ + 1, .nil => .nil
  | _, _, n + 1, .cons h r => r.drop n
theorem RepL.reverse {vs : List V} {ps : List PV} (h : RepL K H rs vs ps) : RepL K H rs vs.reverse ps.reverse := by
  induction ps generalizing vs with
  | nil => cases h; exact .nil
  | cons p ps ih =>
    cases h with
    | cons q r => rw [List.reverse_cons, List.reverse_cons]; exact (ih r).append (.cons q .nil)
theorem RepL.set : ∀ {vs : List V} {ps : List PV} (i : Nat) {v : V} {p : PV}, RepL K H rs vs ps → Rep K H rs v p → RepL K H rs (vs.set i v) (ps.set i p)
  | _, _, _, _, _, .nil, _ => .nil
  | _, _, 0, _, _, .cons _ r, q => .cons q r
  | _, _, i + 1, _, _, .cons h r, q => .cons h (r.set i q)
theorem RepL.erase : ∀ {vs : List V} {ps : List PV} (i : Nat), RepL K H rs vs ps → RepL K H rs (vs.eraseIdx i) (ps.eraseIdx i)
  | _, _, _, .nil => .nil
  | _, _, 0, .cons _ r => r
  | _, _, i + 1, .cons h r => .cons h (r.erase i)
theorem RepL.ints : ∀ {is : List Int} {vs : List V} {ps : List PV}, RepL K H rs vs ps → asInts ps = some is → vs = is.map V.int
  | is, _, _, .nil, h => by simp [asInts] at h; subst h; rfl
  | is, _, _, .cons q r, h => by
    cases q with
    | int i =>
      simp only [asInts, Option.map_eq_some_iff] at h
      obtain ⟨js, h1, rfl⟩ := h
      rw [r.ints h1]; rfl
    | _ => simp [asInts] at h
theorem RepL.bools : ∀ {is : List Bool} {vs : List V} {ps : List PV}, RepL K H rs vs ps → asBools ps = some is → vs = is.map V.bl
  | is, _, _, .nil, h => by simp [asBools] at h; subst h; rfl
  | is, _, _, .cons q r, h => by
    cases q with
    | bl i =>
      simp only [asBools, Option.map_eq_some_iff] at h
      obtain ⟨js, h1, rfl⟩ := h
      rw [r.bools h1]; rfl
    | _ => simp [asBools] at h

/-! reading sequences -/
theorem sqT_of {a : Addr} {xs : List V} (h : (a ∉ rs ∧ H a = some (HO.tup xs)) ∨ KTup K a xs) : SqT K H a xs := h.imp (fun q => .inl q.2) fun q => q
theorem sqL_of {a : Addr} {xs : List V} (h : a ∉ rs ∧ H a = some (HO.lst xs)) : SqL K H a xs := .inl (.inl h.2)
theorem sqA_of {a : Addr} {xs : List V} (h : (a ∉ rs ∧ Rd H a (.lst xs)) ∨ KLst K a xs) : SqL K H a xs := h.imp (fun q => q.2) fun q => q
theorem Good.at2 (g : Good K rs st H) {l : Nat} {a : Addr} {xs : List PV} (h : rs.ix[l]? = some a) (c : cellAt st l = some xs) : xs.length ≤ sizeLine ∧ groundL xs = true ∧ ∃ vs, H a = some (HO.lst vs) ∧ RepL K H rs vs xs := by
  unfold cellAt at c
  split at c
  · rename_i ys e
    cases c
    exact g.cell l a _ h e
  · cases c
theorem Good.at_ (g : Good K rs st H) {l : Nat} {a : Addr} {xs : List PV} (h : rs.ix[l]? = some a) (c : cellAt st l = some xs) : groundL xs = true ∧ ∃ vs, H a = some (HO.lst vs) ∧ RepL K H rs vs xs := (g.at2 h c).2
theorem Good.tracked (g : Good K rs st H) {a : Addr} (h : a ∈ rs.ix) : ∃ vs, H a = some (HO.lst vs) := by
  obtain ⟨l, hl, e⟩ := List.getElem_of_mem h
  have h1 : rs.ix[l]? = some a := by rw [List.getElem?_eq_getElem hl, e]
  have h2 : l < st.length := by rw [← g.len]; exact hl
  cases q : st[l] with
  | lst xs =>
    obtain ⟨_, _, vs, e, _⟩ := g.cell l a xs h1 (by rw [List.getElem?_eq_getElem h2, q])
    exact ⟨vs, e⟩
theorem Good.fresh (g : Good K rs st H) {p : Addr} (h : H p = none) : p ∉ rs := by
  rintro (m | m)
  · obtain ⟨vs, e⟩ := g.tracked m
    rw [h] at e; cases e
  · exact (g.exl p m).1 h
/-- a list value's items -/
theorem Rep.litems (g : Good K rs st H) {v : V} {p : PV} {xs : List PV} (r : Rep K H rs v p) (h : Ev.litems p st = some xs) : ∃ a vs, v = .ref a ∧ H a = some (HO.lst vs) ∧ RepL K H rs vs xs := by
  cases r with
  | lst q rl => simp [Ev.litems] at h; subst h; exact ⟨_, _, rfl, q.2, rl⟩
  | ref q =>
    obtain ⟨_, vs, e, rl⟩ := g.at_ q (by simpa [Ev.litems] using h)
    exact ⟨_, vs, rfl, e, rl⟩
  | _ => simp [Ev.litems] at h
/-- a list's or tuple's items -/
theorem Rep.items (g : Good K rs st H) {v : V} {p : PV} {xs : List PV} (r : Rep K H rs v p) (h : Ev.items p st = some xs) : ∃ a vs, v = .ref a ∧ (SqL K H a vs ∨ SqT K H a vs) ∧ RepL K H rs vs xs := by
  cases r with
  | lst q rl => simp [Ev.items] at h; subst h; exact ⟨_, _, rfl, .inl (sqL_of q), rl⟩
  | tup q rl => simp [Ev.items] at h; subst h; exact ⟨_, _, rfl, .inr (sqT_of q), rl⟩
  | arg q rl => simp [Ev.items] at h; subst h; exact ⟨_, _, rfl, .inl (sqA_of q), rl⟩
  | ref q =>
    obtain ⟨_, vs, e, rl⟩ := g.at_ q (by simpa [Ev.items] using h)
    exact ⟨_, vs, rfl, .inl (.inl (.inl e)), rl⟩
  | _ => simp [Ev.items] at h
theorem Rep.ilen (g : Good K rs st H) {v : V} {p : PV} {xs : List PV} (r : Rep K H rs v p) (h : Ev.items p st = some xs) : xs.length ≤ sizeLine := by
  cases r with
  | lst q rl z => simp [Ev.items] at h; subst h; exact z
  | tup q rl z => simp [Ev.items] at h; subst h; exact z
  | arg q rl z => simp [Ev.items] at h; subst h; exact z
  | ref q => exact (g.at2 q (by simpa [Ev.items] using h)).1
  | _ => simp [Ev.items] at h
theorem Rep.llen (g : Good K rs st H) {v : V} {p : PV} {xs : List PV} (r : Rep K H rs v p) (h : Ev.litems p st = some xs) : xs.length ≤ sizeLine := by
  cases r with
  | lst q rl z => simp [Ev.litems] at h; subst h; exact z
  | ref q => exact (g.at2 q (by simpa [Ev.litems] using h)).1
  | _ => simp [Ev.litems] at h
mutual
theorem Rep.dp : ∀ (p : PV) (v : V), p.ground = true → Rep K H rs v p → Dp K H v p.dat
  | .non, _, _, .non => .non
  | .bl _, _, _, .bl b => .bl b
  | .int _, _, _, .int i => .int i
  | .str _, _, _, .str x => .str x
  | .tup ps, _, g, .tup h r _ => .tup (sqT_of h) (RepL.dp ps _ (by simpa [PV.ground] using g) r)
  | .lst ps, _, g, .lst h r _ => .lst (sqL_of h) (RepL.dp ps _ (by simpa [PV.ground] using g) r)
theorem RepL.dp : ∀ (ps : List PV) (vs : List V), groundL ps = true → RepL K H rs vs ps → DpAll K H vs (datL ps)
  | [], _, _, .nil => .nil
  | p :: ps, _, g, .cons h r => by
    simp only [groundL, Bool.and_eq_true] at g
    exact .cons (Rep.dp p _ g.1 h) (RepL.dp ps _ g.2 r)
end
theorem Rep.deref (g : Good K rs st H) {v : V} {p q : PV} (r : Rep K H rs v p) (h : Ev.deref p st = some q) (hg : q.ground = true) : Dp K H v q.dat := by
  cases r with
  | ref e =>
    simp only [Ev.deref, Option.map_eq_some_iff] at h
    obtain ⟨xs, h1, rfl⟩ := h
    obtain ⟨gx, vs, e2, rl⟩ := g.at_ e h1
    exact .lst (.inl (.inl e2)) (RepL.dp _ _ gx rl)
  | non => simp [Ev.deref] at h; subst h; exact .non
  | bl b => simp [Ev.deref] at h; subst h; exact .bl b
  | int i => simp [Ev.deref] at h; subst h; exact .int i
  | str x => simp [Ev.deref] at h; subst h; exact .str x
  | tup q1 rl z => simp [Ev.deref] at h; subst h; exact Rep.dp _ _ hg (.tup q1 rl z)
  | lst q1 rl z => simp [Ev.deref] at h; subst h; exact Rep.dp _ _ hg (.lst q1 rl z)
  | arg q1 rl => simp [Ev.deref] at h; subst h; simp [PV.ground] at hg

/-! new objects -/
theorem Ext.new {p : Addr} {o : HO} (hp : H p = none) : Ext rs H rs (upd H p o) :=
  ⟨⟨[], by simp, by simp⟩, fun a u e _ => by rw [upd_ne (ne_of_none e hp)]; exact e, fun a h => by
    by_cases e : a = p
    · subst e; exact hp
    · rwa [upd_ne e] at h⟩
theorem Good.new (g : Good K rs st H) {p : Addr} {o : HO} (hp : H p = none) : Good K rs st (upd H p o) :=
  ⟨g.len, g.nd, fun a ha => ⟨fun z => (g.exl a ha).1 ((Ext.new (rs := rs) (o := o) hp).live a z), (g.exl a ha).2⟩, fun l a xs h1 h2 => by
    obtain ⟨h0, h3, vs, h4, h5⟩ := g.cell l a xs h1 h2
    exact ⟨h0, h3, vs, by rw [upd_ne (ne_of_none h4 hp)]; exact h4, RepL.ext (Ext.new hp) _ _ h5⟩⟩
theorem post_tup (g : Good K rs st H) {vs : List V} {xs : List PV} (r : RepL K H rs vs xs) (hz : xs.length ≤ sizeLine) {Q : VK} (q : Post K rs H st (.tup xs) Q) : ∀ p, H p = none → Q (.ref p) (upd H p (.tup vs)) := fun p hp =>
  q _ _ rs (Ext.new hp) (g.new hp) (.tup (.inl ⟨g.fresh hp, upd_same⟩) (RepL.ext (Ext.new hp) _ _ r) hz)
theorem post_mk (g : Good K rs st H) {vs : List V} {xs : List PV} {m : Bool} {v : PV} (r : RepL K H rs vs xs) (hz : xs.length ≤ sizeLine) (e : mkL m xs st = some (v, st')) {Q : VK} (q : Post K rs H st' v Q) : ∀ p, H p = none → Q (.ref p) (upd H p (.lst vs)) := fun p hp => by
  unfold mkL at e
  cases m with
  | false =>
    simp only [Bool.false_eq_true, if_false, Option.some.injEq, Prod.mk.injEq] at e
    obtain ⟨rfl, rfl⟩ := e
    exact q _ _ rs (Ext.new hp) (g.new hp) (.lst ⟨g.fresh hp, upd_same⟩ (RepL.ext (Ext.new hp) _ _ r) hz)
  | true =>
    simp only [if_true] at e
    split at e
    · rename_i hg
      cases e
      have ex : Ext rs H ⟨rs.ix ++ [p], rs.ex⟩ (upd H p (.lst vs)) := ⟨⟨[p], rfl, by simpa using hp⟩, (Ext.new (rs := rs) (o := .lst vs) hp).keep, (Ext.new (rs := rs) (o := .lst vs) hp).live⟩
      have hpn := g.fresh hp
      refine q _ _ ⟨rs.ix ++ [p], rs.ex⟩ ex ⟨by simp [g.len], ?_, fun a ha => ⟨fun z => (g.exl a ha).1 (ex.live a z), fun hm => ?_⟩, fun l a ys h1 h2 => ?_⟩ (.ref (by rw [← g.len]; simp))
      · rw [List.nodup_append]
        exact ⟨g.nd, by simp, fun a ha b hb => by
          simp at hb; subst hb; exact fun e => hpn (.inl (e ▸ ha))⟩
      · rcases List.mem_append.mp hm with z | z
        · exact (g.exl a ha).2 z
        · simp at z
          subst z
          exact (g.exl a ha).1 hp
      · simp only at h1
        by_cases hl : l < rs.ix.length
        · rw [List.getElem?_append_left hl] at h1
          rw [List.getElem?_append_left (by rw [← g.len]; exact hl)] at h2
          obtain ⟨h0, h3, ws, h4, h5⟩ := g.cell l a ys h1 h2
          exact ⟨h0, h3, ws, by rw [upd_ne (ne_of_none h4 hp)]; exact h4, RepL.ext ex _ _ h5⟩
        · have hl2 : l = rs.ix.length := by
            have := (List.getElem?_eq_some_iff.mp h1).1
            simp at this; omega
          subst hl2
          rw [List.getElem?_append_right (Nat.le_refl _)] at h1
          rw [g.len, List.getElem?_append_right (Nat.le_refl _)] at h2
          simp at h1 h2
          subst h1 h2
          exact ⟨hz, hg, vs, upd_same, RepL.ext ex _ _ r⟩
    · cases e
/-- a reserved address may hold anything -/
theorem Good.exupd (g : Good K rs st H) {D : Addr} {o : HO} (hD : D ∈ rs.ex) : Good K rs st (upd H D o) := by
  have hix := (g.exl D hD).2
  refine ⟨g.len, g.nd, fun a ha => ⟨fun z => ?_, (g.exl a ha).2⟩, fun l a xs h1 h2 => ?_⟩
  · by_cases e : a = D
    · subst e; rw [upd_same] at z; cases z
    · rw [upd_ne e] at z; exact (g.exl a ha).1 z
  · obtain ⟨h0, h3, vs, h4, h5⟩ := g.cell l a xs h1 h2
    have ne : a ≠ D := fun e => hix (e ▸ List.mem_of_getElem? h1)
    refine ⟨h0, h3, vs, by rw [upd_ne ne]; exact h4, RepL.gen (fun _ _ h => h) (fun b u hb hu => ⟨hb, ?_⟩) _ _ h5⟩
    rw [upd_ne (show b ≠ D from fun e => hb (.inr (by rw [e]; exact hD)))]
    exact hu
theorem Lat.exupd {D : Addr} {o : HO} (hD : D ∈ rs.ex) : Lat rs H rs (upd H D o) := ⟨fun _ _ h => h, fun a u hn h => ⟨hn, by rw [upd_ne (show a ≠ D from fun e => hn (.inr (by rw [e]; exact hD)))]; exact h⟩⟩
/-- other reserved addresses, the same heap -/
theorem Good.exch {ix ex ex' : List Addr} (g : Good K ⟨ix, ex⟩ st H) (hs : ∀ a ∈ ex', a ∈ ex) : Good K ⟨ix, ex'⟩ st H :=
  ⟨g.len, g.nd, fun a ha => g.exl a (hs a ha), fun l a xs h1 h2 => by
    obtain ⟨h0, h3, vs, h4, h5⟩ := g.cell l a xs h1 h2
    exact ⟨h0, h3, vs, h4, RepL.gen (rs := ⟨ix, ex⟩) (rs' := ⟨ix, ex'⟩) (fun _ _ h => h) (fun b u hb hu => ⟨fun z => hb (Or.imp id (hs b) z), hu⟩) _ _ h5⟩⟩
/-- a list of the store is changed -/
theorem post_set (g : Good K rs st H) {l : Nat} {a : Addr} {vs ws : List V} {xs : List PV} (h : rs.ix[l]? = some a) (ho : H a = some (HO.lst ws)) (hg : groundL xs = true) (hz : xs.length ≤ sizeLine) (r : RepL K H rs vs xs) : Ext rs H rs (upd H a (.lst vs)) ∧ Good K rs (st.set l (Cell.lst xs)) (upd H a (.lst vs)) := by
  have ha : a ∈ rs.ix := List.mem_of_getElem? h
  have ex : Ext rs H rs (upd H a (.lst vs)) := ⟨⟨[], by simp, by simp⟩, fun b o e hb => by rw [upd_ne (show b ≠ a from fun z => hb (by rw [z]; exact ha))]; exact e, fun b e => by
    by_cases z : b = a
    · subst z; rw [upd_same] at e; cases e
    · rwa [upd_ne z] at e⟩
  refine ⟨ex, by simp [g.len], g.nd, fun b hb => ⟨fun z => (g.exl b hb).1 (ex.live b z), (g.exl b hb).2⟩, fun j b ys h1 h2 => ?_⟩
  by_cases z : j = l
  · subst z
    rw [h] at h1; cases h1
    have hl : j < st.length := by rw [← g.len]; exact (List.getElem?_eq_some_iff.mp h).1
    rw [List.getElem?_set_self hl] at h2
    cases h2
    exact ⟨hz, hg, vs, upd_same, RepL.ext ex _ _ r⟩
  · rw [List.getElem?_set_ne (Ne.symm z)] at h2
    obtain ⟨h0, h3, us, h4, h5⟩ := g.cell j b ys h1 h2
    have hb : b ≠ a := fun e => by
      subst e
      obtain ⟨q1, q2⟩ := List.getElem?_eq_some_iff.mp h1
      obtain ⟨q3, q4⟩ := List.getElem?_eq_some_iff.mp h
      exact z ((List.getElem_inj g.nd).mp (q2.trans q4.symm))
    exact ⟨h0, h3, us, by rw [upd_ne hb]; exact h4, RepL.ext ex _ _ h5⟩
end
end Ev

/-! t[::-1] of a tuple -/
namespace HT
open PySem PySem.Calls PyProof.Rows PySem.W
section
variable {prog : Program} {w : World} {A : Around} {E : Value → Shared → Prop} {s : Shared}
theorem places_rev (n : Nat) : Builtin.Slice.slicePlaces ((n : Int) - 1) (-1) (-1) = n := by
  unfold Builtin.Slice.slicePlaces
  rw [if_neg (by decide)]
  by_cases h : (n : Int) - 1 > -1
  · rw [if_pos h, show (- -1 : Int) = 1 by decide, Int.ediv_one]; omega
  · rw [if_neg h]; omega
theorem sliceApplied_rev {sl : Addr} {vl vu vs : Value} {n : Nat} {Q : Int × Int × Nat → Shared → Prop} (hs : s.heap.IsSliceOf sl vl vu vs) (pl : IsPart vl none) (pu : IsPart vu none) (ps : IsPart vs (some (-1)))
    (h : Q ((n : Int) - 1, -1, n) s) : wpAny (model prog w) A (Builtin.Slice.sliceApplied (.ref sl) (pure (n : Int))) Q E s := by
  obtain ⟨os, hos, hcs, hds⟩ := id hs
  unfold Builtin.Slice.sliceApplied Builtin.Slice.sliceFields
  refine wpAny_bind (wpAny_bind (wpAny_field hos hds (x := vl) rfl (wpAny_bind (wpAny_field hos hds (x := vu) rfl (wpAny_bind (wpAny_field hos hds (x := vs) rfl (wpAny_pure ?_)))))))
  refine wpAny_bind (slicePart_ ps ?_)
  show wpAny _ _ (if ((-1 : Int) == 0) = true then _ else _) _ _ s
  rw [if_neg (by decide)]
  refine wpAny_bind (slicePart_ pl (wpAny_bind (slicePart_ pu (wpAny_bind (wpAny_pure ?_)))))
  show wpAny _ _ (pure ((n : Int) - 1, (-1 : Int), Builtin.Slice.slicePlaces ((n : Int) - 1) (-1) (-1))) _ _ s
  rw [places_rev]
  exact wpAny_pure h
theorem pick_rev (xs : Array Value) : ((List.range xs.size).filterMap fun (k : Nat) => xs[((xs.size : Int) - 1 + (k : Int) * -1).toNat]?).toArray = xs.toList.reverse.toArray := by
  congr 1
  have e : ((List.range xs.size).filterMap fun (k : Nat) => xs[((xs.size : Int) - 1 + (k : Int) * -1).toNat]?) = ((List.range xs.size).map fun k => xs.size - 1 - k).filterMap (xs[·]?) := by
    rw [List.filterMap_map]
    apply congrFun
    congr 1
    funext k
    show _ = xs[xs.size - 1 - k]?
    congr 1
    omega
  rw [e, krv_range, List.filterMap_reverse, krv_all]
theorem getItem_tuple_rev {t sl : Addr} {items : Array Value} {vl vu vs : Value} {Q : Value → Shared → Prop} (ht : IsTup s.heap t items) (hs : s.heap.IsSliceOf sl vl vu vs) (pl : IsPart vl none) (pu : IsPart vu none) (ps : IsPart vs (some (-1)))
    (h : Q (.ref s.heap.objs.size) { s with heap := s.heap.push { cls := .type "tuple", data := .seq items.toList.reverse.toArray } })
    (hsz : items.size ≤ sizeLine) : wpAny (model prog w) A (getItem (.ref t) (.ref sl)) Q E s := by
  have htake : sizeOk (.seq items.toList.reverse.toArray) := by
    show items.toList.reverse.toArray.size ≤ sizeLine
    rw [List.size_toArray, List.length_reverse, Array.length_toList]
    exact hsz
  obtain ⟨os, hos, hcs, hds⟩ := id hs
  have hTs : s.TypeIs (.ref sl) "slice" := ⟨os, hos, hcs⟩
  unfold getItem
  try with_reducible refine wpAny_holding ?_
  first | refine wpAny_bind (wpAny_pure ?_) | skip
  refine wpAny_bind (wpAny_sequenceKey ht.typeIs (by decide) ?_)
  refine wpAny_bind (wpAny_callSpecial?_slot (name := Str.ofString "__getitem__") ht.typeIs PyProof.Rows.slot_tuple_getitem
    (wpAny_call_entry PyProof.Rows.slot_tuple_getitem ht.typeIs entry_tuple_getitem ?_ (args_tuple_getitem _ _)))
  show wpAny _ _ (Builtin.Tuple.tupleItemsOf (.ref t) >>= _) _ _ s
  refine wpAny_bind (tupleItemsOf_ ht ?_)
  refine wpAny_bind (wpAny_typeOf hTs ?_)
  rw [if_pos (by decide)]
  refine wpAny_bind (sliceApplied_rev hs pl pu ps ?_)
  have hno : ¬ (((((items.size : Int) - 1) == 0 && (-1 : Int) == 1) && items.size == items.size) = true) := by
    intro q
    rw [Bool.and_eq_true, Bool.and_eq_true] at q
    exact absurd q.1.2 (by decide)
  show wpAny _ _ (if ((((items.size : Int) - 1) == 0 && (-1 : Int) == 1) && items.size == items.size) = true then _ else _) _ _ s
  rw [if_neg hno, pick_rev]
  first
    | exact wpAny_bind (m := Builtin.Tuple.tupleExact _) (wpAny_newObj_type (wpAny_pure ⟨_, rfl, wpAny_pure h⟩) htake)
    | exact wpAny_bind (m := Builtin.Tuple.tupleExact _) (wpAny_newObj_type (wpAny_bind (wpAny_pure (wpAny_pure ⟨_, rfl, wpAny_pure h⟩))) htake)
    | exact wpAny_bind (wpAny_bind (m := Builtin.Tuple.tupleExact _) (wpAny_newObj_type (wpAny_pure (wpAny_pure ⟨_, rfl, wpAny_pure h⟩)) htake))
    | exact wpAny_bind (wpAny_bind (m := Builtin.Tuple.tupleExact _) (wpAny_newObj_type (wpAny_pure ⟨_, rfl, wpAny_pure h⟩) htake))
end
end HT
namespace L2
open PySem PySem.Spec PyProof.Rows
section
variable {X : Cx}
def tRevA (K : PySem.W.Frag) (te : TE) : TE := fun σ H Q => te σ H fun x H1 => (∃ a xs, x = .ref a ∧ SqL K H1 a xs ∧ ∀ p, H1 p = none → Q (.ref p) (upd H1 p (.lst xs.reverse))) ∨ (∃ a xs, x = .ref a ∧ SqT K H1 a xs ∧ ∀ p, H1 p = none → Q (.ref p) (upd H1 p (.tup xs.reverse)))
theorem pe_revA {e : Expr} {te : TE} {k : Nat} {p1 p2 p3 pos : Pos} (he : PE X e te) : PE X (.Subscript e (.Slice none none (some (.UnaryOp .USub (.Constant (.int 1) k p1) p2)) p3) pos) (tRevA X.K te) := by
  refine ⟨fun pins s σ H Q I h => ?_⟩
  refine Subscript_ (thn (he.run pins s σ H _ I h) fun v s1 ⟨x, H1, I1, r1, q1⟩ => ?_)
  have hst : PO X (some (.UnaryOp .USub (.Constant (.int 1) k p1) p2)) (tPart (tUn (rU fun i => .int (-i)) (tC (.int 1)))) := po_some (pe_un un_neg pe_int)
  refine wpAny_Slice (thn (po_none.run pins s1 σ H1 (fun o H2 => o = none ∧ H2 = H1) I1 ⟨rfl, rfl⟩) fun vl s2 ⟨l, H2, I2, pl, el, e2⟩ => ?_)
  subst el e2
  refine thn (po_none.run pins s2 σ H2 (fun o H3 => o = none ∧ H3 = H2) I2 ⟨rfl, rfl⟩) fun vu s3 ⟨u, H3, I3, pu, eu, e3⟩ => ?_
  subst eu e3
  refine thn (hst.run pins s3 σ H3 (fun o H4 => o = some (-1) ∧ H4 = H3) I3 ⟨1, rfl, -1, rfl, rfl, rfl⟩) fun vs s4 ⟨o, H4, I4, ps, eo, e4⟩ => ?_
  subst eo e4
  have I5 : Inv X pins σ H4 { s4 with heap := s4.heap.push { cls := .type "slice", data := .fields #[vl, vu, vs] } } := I4.kept (t' := s4.toks) fun b ob q => Heap.get?_push_of_some _ q
  rcases q1 with ⟨a, xs, rfl, hx, q⟩ | ⟨a, xs, rfl, hx, q⟩
  · cases r1
    obtain ⟨its, r, ht, hz⟩ := I5.list hx
    have hlen := r.length
    show wpAny (model X.prog X.w) X.A (subscriptTail e (.Slice none none (some (.UnaryOp .USub (.Constant (.int 1) k p1) p2)) p3) (.ref a) (.ref s4.heap.objs.size)) (EP X pins σ Q) X.xe { s4 with heap := s4.heap.push { cls := .type "slice", data := .fields #[vl, vu, vs] } }
    refine tail_any (ops := [.ref a, .ref s4.heap.objs.size]) ht.isList.typeIs (PySem.slot_list_getitem.lookup) ?_ (by with_unfolding_all rfl)
    refine wpAny_getItem_list_slice ht.isList (Heap.IsSliceOf.new _ vl vu vs) pl pu ps (by decide) ?_ (by rw [List.size_toArray]; omega)
    rw [PySem.W.krv_pick]
    refine ⟨.ref _, _, I5.laid (t' := s4.toks) (o := .lst xs.reverse) (fun b ob q => Heap.get?_push_of_some _ q) (Nat.le_refl _) ?_, rfl, q _ (I5.hok.fresh (Nat.le_refl _))⟩
    exact ⟨by rw [List.length_reverse]; exact hz, _, 0, r.reverse, Heap.get?_push_size _ rfl⟩
  · cases r1
    obtain ⟨its, r, ht, hz⟩ := I5.tuple hx
    have hlen := r.length
    show wpAny (model X.prog X.w) X.A (subscriptTail e (.Slice none none (some (.UnaryOp .USub (.Constant (.int 1) k p1) p2)) p3) (.ref a) (.ref s4.heap.objs.size)) (EP X pins σ Q) X.xe { s4 with heap := s4.heap.push { cls := .type "slice", data := .fields #[vl, vu, vs] } }
    refine tail_any (ops := [.ref a, .ref s4.heap.objs.size]) ht.typeIs (PyProof.Rows.slot_tuple_getitem.lookup) ?_ (by with_unfolding_all rfl)
    refine HT.getItem_tuple_rev ht (Heap.IsSliceOf.new _ vl vu vs) pl pu ps ?_ (by rw [List.size_toArray]; omega)
    refine ⟨.ref _, _, I5.laid (t' := s4.toks) (o := .tup xs.reverse) (fun b ob q => Heap.get?_push_of_some _ q) (Nat.le_refl _) ?_, rfl, q _ (I5.hok.fresh (Nat.le_refl _))⟩
    exact ⟨by rw [List.length_reverse]; exact hz, _, r.reverse, IsTup.new _ _⟩
end
end L2

/-! Expressions: readings by the evaluator. -/
namespace Ev
open PySem L2

def tE (K : PySem.W.Frag) (c : Cf) (i : E) : TE := fun σ H Q => ∃ rs st ρ v st', Good K rs st H ∧ EnvR K H rs σ ρ ∧ evE c i ρ st = some (v, st') ∧ Post K rs H st' v Q
def tA (K : PySem.W.Frag) (c : Cf) (i : E) : TA := fun σ H Q => ∃ rs st ρ vs st', Good K rs st H ∧ EnvR K H rs σ ρ ∧ evL c i ρ st = some (vs, st') ∧ PostL K rs H st' vs Q
def tT (K : PySem.W.Frag) (c : Cf) (i : E) : TT := fun σ H Q => ∃ rs st ρ v st' k, Good K rs st H ∧ EnvR K H rs σ ρ ∧ evE c i ρ st = some (v, st') ∧ truth v st' = some k ∧ ∀ H' rs', Ext rs H rs' H' → Good K rs' st' H' → Q k H'

section
variable {X : Cx} {K : PySem.W.Frag} {c : Cf} {rs : Rs} {st st' : Sto} {H H1 : Hp} {rs1 : Rs}
theorem pe_wk {e : Expr} {t t' : TE} (h : PE X e t) (w : ∀ σ H Q, t' σ H Q → t σ H Q) : PE X e t' := ⟨fun pins s σ H Q I q => h.run pins s σ H Q I (w σ H Q q)⟩
theorem pt_wk {e : Expr} {t t' : TT} (h : PT X e t) (w : ∀ σ H Q, t' σ H Q → t σ H Q) : PT X e t' := ⟨fun pins s σ H Q I q => h.run pins s σ H Q I (w σ H Q q)⟩
theorem pw_wk {e : Expr} {t t' : TT} (h : PW X e t) (w : ∀ σ H Q, t' σ H Q → t σ H Q) : PW X e t' := ⟨fun wh pins s σ H Q I q => h.run wh pins s σ H Q I (w σ H Q q)⟩
theorem pa_wk {e : List Expr} {t t' : TA} (h : PA X e t) (w : ∀ σ H Q, t' σ H Q → t σ H Q) : PA X e t' := ⟨fun ps pins s σ H Q I q => h.run ps pins s σ H Q I (w σ H Q q)⟩
theorem pe_never {e : Expr} {t : TE} (w : ∀ σ H Q, ¬ t σ H Q) : PE X e t := ⟨fun pins s σ H Q I q => (w σ H Q q).elim⟩
theorem Post.ext {v : PV} {Q : VK} (q : Post K rs H st' v Q) (e : Ext rs H rs1 H1) : Post K rs1 H1 st' v Q := fun w H' rs' e' g r => q w H' rs' (e.trans e') g r
theorem Post.here {v : PV} {w : V} {Q : VK} (q : Post K rs H st' v Q) (g : Good K rs st' H) (r : Rep K H rs w v) : Q w H := q w H rs (Ext.refl H rs) g r
theorem PostL.ext {v : List PV} {Q : List V → Hp → Prop} (q : PostL K rs H st' v Q) (e : Ext rs H rs1 H1) : PostL K rs1 H1 st' v Q := fun w H' rs' e' g r => q w H' rs' (e.trans e') g r
theorem PostL.here {v : List PV} {w : List V} {Q : List V → Hp → Prop} (q : PostL K rs H st' v Q) (g : Good K rs st' H) (r : RepL K H rs w v) : Q w H := q w H rs (Ext.refl H rs) g r

/-! ### operators -/
def opE : BOp → Operator
  | .add => .Add | .sub => .Sub | .mul => .Mult | .fdiv => .FloorDiv | .mod => .Mod | .pow => .Pow
def rB (K : PySem.W.Frag) (m : Bool) (o : BOp) : R2 := fun x y H Q => ∃ rs st a b v st', Good K rs st H ∧ Rep K H rs x a ∧ Rep K H rs y b ∧ binEv m o a b st = some (v, st') ∧ Post K rs H st' v Q
theorem mulC {i j : Int} (h : mulOk i j = true) : CMul i j ∨ CMulW i j := by
  simp only [mulOk, Bool.or_eq_true, decide_eq_true_eq] at h
  rcases h with (h | h) | h
  · exact .inl (.inl ⟨by omega, by omega⟩)
  · exact .inl (.inr ⟨by omega, by omega⟩)
  · exact .inr h
theorem limS : lim = sizeLine := by rw [sizeLine_eq]; rfl
theorem RepL.flat {vs : List V} {xs : List PV} (r : RepL K H rs vs xs) : ∀ k : Nat, RepL K H rs (List.replicate k vs).flatten (List.replicate k xs).flatten
  | 0 => .nil
  | k + 1 => by simpa [List.replicate_succ] using r.append (RepL.flat r k)
theorem len_flat {α : Type} (xs : List α) (k : Nat) : ((List.replicate k xs).flatten).length = xs.length * k := by
  induction k with
  | zero => simp
  | succ k ih => rw [List.replicate_succ, List.flatten_cons, List.length_append, ih, Nat.mul_succ]; omega
theorem flat_len {xs : List PV} {k : Int} (h1 : 2 ≤ k) (h2 : k ≤ 1000) (h3 : xs.length ≤ 1000) : (repL xs k).length ≤ sizeLine := by
  unfold repL
  rw [len_flat, sizeLine_eq]
  have : xs.length * k.toNat ≤ 1000 * 1000 := Nat.mul_le_mul h3 (by omega)
  omega
theorem opB {m : Bool} {o : BOp} : OpR X (binaryOp (opE o)) (rB X.K m o) := by
  intro pins s σ H x y v u Q I rx ry h
  obtain ⟨rs, st, a, b, w, st', g, ra, rb, e, q⟩ := h
  unfold binEv at e
  split at e
  · cases e; cases ra; cases rb
    exact op_add pins s σ H _ _ v u Q I rx ry ⟨_, _, rfl, rfl, q.here g (.int _)⟩
  · cases e; cases ra; cases rb
    exact op_sub pins s σ H _ _ v u Q I rx ry ⟨_, _, rfl, rfl, q.here g (.int _)⟩
  · split at e
    · cases e; cases ra; cases rb
      rename_i hm
      rcases mulC hm with h | h
      · exact op_mul pins s σ H _ _ v u Q I rx ry ⟨_, _, rfl, rfl, h, q.here g (.int _)⟩
      · exact op_mulW pins s σ H _ _ v u Q I rx ry ⟨_, _, rfl, rfl, h, q.here g (.int _)⟩
    · cases e
  · split at e
    · rename_i hm
      simp only [Bool.and_eq_true, decide_eq_true_eq] at hm
      cases e; cases ra; cases rb
      exact op_fdivW pins s σ H _ _ v u Q I rx ry ⟨_, _, rfl, rfl, hm, q.here g (.int _)⟩
    · cases e
  · split at e
    · rename_i hm
      simp only [decide_eq_true_eq] at hm
      cases e; cases ra; cases rb
      exact op_mod pins s σ H _ _ v u Q I rx ry ⟨_, _, rfl, rfl, hm, q.here g (.int _)⟩
    · cases e
  · split at e
    · rename_i hm
      simp only [Bool.and_eq_true, decide_eq_true_eq] at hm
      cases e; cases ra; cases rb
      exact op_pow pins s σ H _ _ v u Q I rx ry ⟨_, _, rfl, rfl, ⟨hm.1.1, hm.1.2, by have := hm.2; omega⟩, q.here g (.int _)⟩
    · cases e
  · split at e
    · rename_i hm
      rw [limS] at hm
      cases e; cases ra; cases rb
      exact op_add_str pins s σ H _ _ v u Q I rx ry ⟨_, _, rfl, rfl, hm, q.here g (.str _)⟩
    · cases e
  · split at e
    · rename_i hm
      rw [limS] at hm
      cases e
      cases ra with
      | tup ha la za =>
        cases rb with
        | tup hb lb zb =>
          refine op_catA pins s σ H _ _ v u Q I rx ry ⟨_, _, _, _, rfl, rfl, sqT_of ha, sqT_of hb, by rw [la.length, lb.length]; exact hm, fun e => ?_, fun e1 e => ?_, fun _ _ => post_tup g (la.append lb) (by rw [List.length_append]; exact hm) q⟩
          · subst e; cases la
            exact q.here g (.tup hb lb zb)
          · subst e; cases lb
            rw [List.append_nil] at q
            exact q.here g (.tup ha la za)
    · cases e
  · split at e
    · rename_i hm
      simp only [Bool.and_eq_true, decide_eq_true_eq, Bool.not_eq_true', List.isEmpty_eq_false_iff] at hm
      obtain ⟨⟨⟨h1, h2⟩, h3⟩, h4⟩ := hm
      cases e
      cases ra with
      | tup ha la =>
        cases rb
        refine op_repT pins s σ H _ _ v u Q I rx ry ⟨_, _, _, rfl, rfl, sqT_of ha, fun z => ?_, h1, h2, by rw [la.length]; exact h3, post_tup g (la.flat _) (flat_len h1 h2 h3) q⟩
        subst z; cases la; exact h4 rfl
    · cases e
  · simp only [Option.bind_eq_some_iff] at e
    obtain ⟨xs, e1, e2⟩ := e
    split at e2
    · rename_i hm
      simp only [Bool.and_eq_true, decide_eq_true_eq] at hm
      obtain ⟨⟨h1, h2⟩, h3⟩ := hm
      rw [limS] at h3
      obtain ⟨l, vs, rfl, hl, rl⟩ := ra.litems g e1
      cases rb
      exact op_rep pins s σ H _ _ v u Q I rx ry ⟨_, _, _, rfl, rfl, hl, by omega, by omega, by rw [rl.length]; exact h3, post_mk g (rl.flat _) (by rw [len_flat]; exact h3) e2 q⟩
    · cases e2
  · simp only [Option.bind_eq_some_iff] at e
    obtain ⟨xs, e1, ys, e2, e3⟩ := e
    split at e3
    · rename_i hm
      rw [limS] at hm
      obtain ⟨l, vs, rfl, hl, rl⟩ := ra.litems g e1
      obtain ⟨b, ws, rfl, hb, rb⟩ := rb.litems g e2
      exact op_cat pins s σ H _ _ v u Q I rx ry ⟨_, _, _, _, rfl, rfl, hl, hb, by rw [rl.length, rb.length]; exact hm, post_mk g (rl.append rb) (by rw [List.length_append]; exact hm) e3 q⟩
    · cases e3
  · cases e

/-! ### comparisons -/
def opC : COp → CmpOp
  | .eq => .Eq | .ne => .NotEq | .lt => .Lt | .le => .LtE | .gt => .Gt | .ge => .GtE | .isN => .Is | .notN => .IsNot | .inn => .In | .nin => .NotIn
def rC (K : PySem.W.Frag) (o : COp) : R2 := fun x y H Q => ∃ rs st a b k, Good K rs st H ∧ Rep K H rs x a ∧ Rep K H rs y b ∧ cmpEv o a b st = some k ∧ Q (.bl k) H
theorem shp_g {a : PV} (h : shp a = true) : a.ground = true := (Bool.and_eq_true_iff.mp h).1
theorem shp_s {a : PV} (h : shp a = true) : SeqAt.shaped a.dat = true := (Bool.and_eq_true_iff.mp h).2
theorem same_non {a : PV} (h : a.same .non = false) : a.dat ≠ .none ∨ a.ground = false := by
  cases a <;> simp [PV.same, PV.dat, PV.ground] at *
theorem min_room {d e : PyData} {A : Around} (h : SeqAt.shaped d = true) (hu : A.units + 64 < cLine) : A.units + min d.depth e.depth < cLine := by
  have := SeqAt.depth_of_shaped h
  omega
theorem anyEq_dat (x : PV) : ∀ ys : List PV, (datL ys).any (fun z => PyData.eqv z x.dat) = anyEq ys x
  | [] => rfl
  | y :: r => by simp only [datL, List.any_cons, anyEq, eqP]; rw [anyEq_dat x r]; rfl
theorem opCmp {o : COp} (hu : X.A.units + 65 < cLine) : OpR X (compareOp (opC o)) (rC X.K o) := by
  intro pins s σ H x y v u Q I rx ry h
  obtain ⟨rs, st, a, b, k, g, ra, rb, e, q⟩ := h
  have hu4 : X.A.units + 64 < cLine := by omega
  cases o with
  | isN =>
    simp only [cmpEv] at e
    split at e
    · cases e
      cases rb
      refine op_isN pins s σ H _ _ v u Q I rx ry ⟨rfl, ?_⟩
      cases ra <;> exact q
    · cases e
  | notN =>
    simp only [cmpEv] at e
    split at e
    · cases e
      cases rb
      refine op_notN pins s σ H _ _ v u Q I rx ry ⟨rfl, ?_⟩
      cases ra <;> exact q
    · cases e
  | eq =>
    simp only [cmpEv, Option.bind_eq_some_iff] at e
    obtain ⟨p, e1, r, e2, e3⟩ := e
    split at e3
    · rename_i hs
      obtain ⟨h1, h2⟩ := Bool.and_eq_true_iff.mp hs
      cases e3
      exact op_eqD hu4 pins s σ H _ _ v u Q I rx ry ⟨_, _, ra.deref g e1 (shp_g h1), rb.deref g e2 (shp_g h2), shp_s h1, shp_s h2, q⟩
    · cases e3
  | ne =>
    simp only [cmpEv, Option.bind_eq_some_iff] at e
    obtain ⟨p, e1, r, e2, e3⟩ := e
    split at e3
    · rename_i hs
      obtain ⟨h1, h2⟩ := Bool.and_eq_true_iff.mp hs
      cases e3
      exact op_neD hu4 pins s σ H _ _ v u Q I rx ry ⟨_, _, ra.deref g e1 (shp_g h1), rb.deref g e2 (shp_g h2), shp_s h1, shp_s h2, q⟩
    · cases e3
  | inn =>
    simp only [cmpEv] at e
    split at e
    · cases e
    · simp only [Option.bind_eq_some_iff] at e
      obtain ⟨p, e1, r, e2, e3⟩ := e
      split at e3
      · rename_i hs
        obtain ⟨h1, h2⟩ := Bool.and_eq_true_iff.mp hs
        simp only [Option.map_eq_some_iff] at e3
        obtain ⟨ys, e4, rfl⟩ := e3
        obtain ⟨as, r1⟩ := Dp.reads I _ _ _ (ra.deref g e1 (shp_g h1)) rx
        obtain ⟨bs, r2⟩ := Dp.reads I _ _ _ (rb.deref g e2 (shp_g h2)) ry
        have s2 := shp_s h2
        cases r with
        | tup zs =>
          simp [items] at e4; subst e4
          simp only [PV.dat] at r2 s2
          exact SeqAt.in_tuple_reads r2 r1 (SeqAt.canLay_of_shaped s2) (SeqAt.canLay_of_shaped (shp_s h1)) (PyProof.Rows.room_in_shaped (shp_s h1) hu) ⟨.bl _, H, I, rfl, by rw [anyEq_dat]; exact q⟩
        | lst zs =>
          simp [items] at e4; subst e4
          simp only [PV.dat] at r2 s2
          exact SeqAt.in_list_reads r2 r1 (SeqAt.canLay_of_shaped s2) (SeqAt.canLay_of_shaped (shp_s h1)) (PyProof.Rows.room_in_shaped (shp_s h1) hu) ⟨.bl _, H, I, rfl, by rw [anyEq_dat]; exact q⟩
        | arg zs => exact absurd (shp_g h2) (by simp [PV.ground])
        | ref l => exact absurd (shp_g h2) (by simp [PV.ground])
        | _ => simp [items] at e4
      · cases e3
  | nin =>
    simp only [cmpEv] at e
    split at e
    · cases e
    · simp only [Option.bind_eq_some_iff] at e
      obtain ⟨p, e1, r, e2, e3⟩ := e
      split at e3
      · rename_i hs
        obtain ⟨h1, h2⟩ := Bool.and_eq_true_iff.mp hs
        simp only [Option.map_eq_some_iff] at e3
        obtain ⟨ys, e4, rfl⟩ := e3
        obtain ⟨as, r1⟩ := Dp.reads I _ _ _ (ra.deref g e1 (shp_g h1)) rx
        obtain ⟨bs, r2⟩ := Dp.reads I _ _ _ (rb.deref g e2 (shp_g h2)) ry
        have s2 := shp_s h2
        cases r with
        | tup zs =>
          simp [items] at e4; subst e4
          simp only [PV.dat] at r2 s2
          exact SeqAt.notIn_tuple_reads r2 r1 (SeqAt.canLay_of_shaped s2) (SeqAt.canLay_of_shaped (shp_s h1)) (PyProof.Rows.room_in_shaped (shp_s h1) hu) ⟨.bl _, H, I, rfl, by rw [anyEq_dat]; exact q⟩
        | lst zs =>
          simp [items] at e4; subst e4
          simp only [PV.dat] at r2 s2
          exact SeqAt.notIn_list_reads r2 r1 (SeqAt.canLay_of_shaped s2) (SeqAt.canLay_of_shaped (shp_s h1)) (PyProof.Rows.room_in_shaped (shp_s h1) hu) ⟨.bl _, H, I, rfl, by rw [anyEq_dat]; exact q⟩
        | arg zs => exact absurd (shp_g h2) (by simp [PV.ground])
        | ref l => exact absurd (shp_g h2) (by simp [PV.ground])
        | _ => simp [items] at e4
      · cases e3
  | lt =>
    simp only [cmpEv, Option.bind_eq_some_iff] at e
    obtain ⟨p, e1, r, e2, e3⟩ := e
    split at e3
    · rename_i hs
      simp only [Bool.and_eq_true, Bool.not_eq_true'] at hs
      obtain ⟨⟨⟨h1, h2⟩, h3⟩, h4⟩ := hs
      cases e3
      obtain ⟨as, r1⟩ := Dp.reads I _ _ _ (ra.deref g e1 (shp_g h1)) rx
      obtain ⟨bs, r2⟩ := Dp.reads I _ _ _ (rb.deref g e2 (shp_g h2)) ry
      have hn : p.dat ≠ .none := (same_non h4).resolve_right (by rw [shp_g h1]; decide)
      exact PySem.W.lt_data r1 r2 h3 hn (min_room (shp_s h1) hu4) ⟨.bl _, H, I, rfl, q⟩
    · cases e3
  | gt =>
    simp only [cmpEv, Option.bind_eq_some_iff] at e
    obtain ⟨p, e1, r, e2, e3⟩ := e
    split at e3
    · rename_i hs
      simp only [Bool.and_eq_true, Bool.not_eq_true'] at hs
      obtain ⟨⟨⟨h1, h2⟩, h3⟩, h4⟩ := hs
      cases e3
      obtain ⟨as, r1⟩ := Dp.reads I _ _ _ (ra.deref g e1 (shp_g h1)) rx
      obtain ⟨bs, r2⟩ := Dp.reads I _ _ _ (rb.deref g e2 (shp_g h2)) ry
      have hn : p.dat ≠ .none := (same_non h4).resolve_right (by rw [shp_g h1]; decide)
      exact PySem.W.gt_data r1 r2 h3 hn (min_room (shp_s h1) hu4) ⟨.bl _, H, I, rfl, q⟩
    · cases e3
  | le =>
    simp only [cmpEv, Option.bind_eq_some_iff] at e
    obtain ⟨p, e1, r, e2, e3⟩ := e
    split at e3
    · rename_i hs
      simp only [Bool.and_eq_true, Bool.not_eq_true'] at hs
      obtain ⟨⟨⟨h1, h2⟩, h3⟩, h4⟩ := hs
      cases e3
      obtain ⟨as, r1⟩ := Dp.reads I _ _ _ (ra.deref g e1 (shp_g h1)) rx
      obtain ⟨bs, r2⟩ := Dp.reads I _ _ _ (rb.deref g e2 (shp_g h2)) ry
      have hn : p.dat ≠ .none := (same_non h4).resolve_right (by rw [shp_g h1]; decide)
      exact PySem.W.le_data r1 r2 h3 hn (min_room (shp_s h1) hu4) ⟨.bl _, H, I, rfl, q⟩
    · cases e3
  | ge =>
    simp only [cmpEv, Option.bind_eq_some_iff] at e
    obtain ⟨p, e1, r, e2, e3⟩ := e
    split at e3
    · rename_i hs
      simp only [Bool.and_eq_true, Bool.not_eq_true'] at hs
      obtain ⟨⟨⟨h1, h2⟩, h3⟩, h4⟩ := hs
      cases e3
      obtain ⟨as, r1⟩ := Dp.reads I _ _ _ (ra.deref g e1 (shp_g h1)) rx
      obtain ⟨bs, r2⟩ := Dp.reads I _ _ _ (rb.deref g e2 (shp_g h2)) ry
      have hn : p.dat ≠ .none := (same_non h4).resolve_right (by rw [shp_g h1]; decide)
      exact PySem.W.ge_data r1 r2 h3 hn (min_room (shp_s h1) hu4) ⟨.bl _, H, I, rfl, q⟩
    · cases e3
end
end Ev

/-! Expressions: a rule a construct. -/
namespace Ev
open PySem L2
section
variable {X : Cx} {K : PySem.W.Frag} {c : Cf} {rs rs1 : Rs} {st st' : Sto} {H H1 : Hp} {pos : Pos} {a b d : Expr} {i j k : E} {σ : L2.St} {ρ : Slots}
theorem two {x y : PV} {s1 s2 : Sto} {R : V → V → Hp → Prop} (g : Good K rs st H) (er : EnvR K H rs σ ρ) (e1 : evE c i ρ st = some (x, s1)) (e2 : evE c j ρ s1 = some (y, s2))
    (k : ∀ u w H2 rs2, Ext rs H rs2 H2 → Good K rs2 s2 H2 → Rep K H2 rs2 u x → Rep K H2 rs2 w y → R u w H2) : tE K c i σ H fun u H1 => tE K c j σ H1 fun w H2 => R u w H2 :=
  ⟨rs, st, ρ, x, s1, g, er, e1, fun u H1 rs1 x1 g1 r1 => ⟨rs1, s1, ρ, y, s2, g1, er.ext x1, e2, fun w H2 rs2 x2 g2 r2 => k u w H2 rs2 (x1.trans x2) g2 (Rep.ext x2 _ _ r1) r2⟩⟩
theorem tru_of (g : Good K rs st H) {v : V} {p : PV} {k : Bool} (r : Rep K H rs v p) (e : truth p st = some k) : TruV K v H k := by
  cases r with
  | non => simp [truth] at e; exact e
  | bl b => simp [truth] at e; exact e.symm
  | int i => simp [truth] at e; exact e.symm
  | str x =>
    simp only [truth] at e
    split at e
    · rename_i h
      rw [limS] at h
      refine ⟨h, ?_⟩
      have e' := (Option.some.inj e).symm
      rw [e']
      cases q : x.length with
      | zero => rfl
      | succ n => simp <;> omega
    · cases e
  | tup h r =>
    simp only [truth, Option.some.injEq] at e
    subst e
    refine .inr (.inl ⟨_, sqT_of h, ?_⟩)
    cases r <;> rfl
  | lst h r =>
    simp only [truth, Option.some.injEq] at e
    subst e
    refine .inl ⟨_, sqL_of h, ?_⟩
    cases r <;> rfl
  | arg h r =>
    simp only [truth, Option.some.injEq] at e
    subst e
    refine .inl ⟨_, sqA_of h, ?_⟩
    cases r <;> rfl
  | ref h =>
    simp only [truth, Option.map_eq_some_iff] at e
    obtain ⟨xs, e1, rfl⟩ := e
    obtain ⟨_, vs, e2, r⟩ := g.at_ h e1
    refine .inl ⟨_, .inl (.inl e2), ?_⟩
    cases r <;> rfl
/-! names, constants -/
theorem xvar {n : Nat} {x : Str} (hN : X.N[n]? = some x) (hv : Vis X.env.scope x) (hd : (x == ("__debug__" : Str)) = false) (hc : (x == ("__classdict__" : Str)) = false) : PE X (.Name x pos) (tE X.K c (.var n)) :=
  pe_wk (pe_var hN hv hd hc) fun σ H Q h => by
    obtain ⟨rs, st, ρ, v, st', g, er, e, q⟩ := h
    simp only [evE, Option.bind_eq_some_iff, Option.map_eq_some_iff] at e
    obtain ⟨o, e1, w, e2, e3⟩ := e
    cases e3
    subst e2
    obtain ⟨u, h1, h2⟩ := er.at_ n _ e1
    exact ⟨u, h1, q.here g h2⟩
theorem xcst {v : V} {p : PV} (h : PE X a (tC v)) (r : ∀ H rs, Rep X.K H rs v p) : PE X a (tE X.K c (.cst p)) :=
  pe_wk h fun σ H Q h => by
    obtain ⟨rs, st, ρ, w, st', g, er, e, q⟩ := h
    simp only [evE] at e
    cases e
    exact q.here g (r _ _)
theorem xbin {m : Bool} {o : BOp} (ha : PE X a (tE X.K c i)) (hb : PE X b (tE X.K c j)) : PE X (.BinOp a (opE o) b pos) (tE X.K c (.bin m o i j)) :=
  pe_wk (pe_op opB ha hb) fun σ H Q h => by
    obtain ⟨rs, st, ρ, v, st', g, er, e, q⟩ := h
    simp only [evE, Option.bind_eq_some_iff] at e
    obtain ⟨⟨x, s1⟩, e1, ⟨y, s2⟩, e2, e3⟩ := e
    exact two g er e1 e2 fun u w H2 rs2 ex g2 r1 r2 => ⟨rs2, s2, x, y, v, st', g2, r1, r2, e3, q.ext ex⟩
theorem cmp_read {o : COp} {σ : L2.St} {H : Hp} {Q : VK} (h : tE K c (.cmp o i j) σ H Q) : tOp (rC K o) (tE K c i) (tE K c j) σ H Q := by
  obtain ⟨rs, st, ρ, v, st', g, er, e, q⟩ := h
  simp only [evE, Option.bind_eq_some_iff, Option.map_eq_some_iff] at e
  obtain ⟨⟨x, s1⟩, e1, ⟨y, s2⟩, e2, k, e3, e4⟩ := e
  cases e4
  exact two g er e1 e2 fun u w H2 rs2 ex g2 r1 r2 => ⟨rs2, s2, x, y, k, g2, r1, r2, e3, (q.ext ex).here g2 (.bl _)⟩
theorem xcmp {o : COp} (hu : X.A.units + 65 < cLine) (ha : PE X a (tE X.K c i)) (hb : PE X b (tE X.K c j)) (hm : behindInMarks (opC o) b = false) : PE X (.Compare a [opC o] [b] pos) (tE X.K c (.cmp o i j)) :=
  pe_wk (pe_cmpR (opCmp hu) ha hb hm) fun σ H Q h => cmp_read h
/-- a test by its value's reading -/
theorem tT_of {t : TE} {σ : L2.St} {H : Hp} {Q : Bool → Hp → Prop} (hb : ∀ {c ρ st v st'}, evE c i ρ st = some (v, st') → ∃ k, v = .bl k) (h : tT K c i σ H Q) (w : ∀ {Q : VK}, tE K c i σ H Q → t σ H Q) : tTest t σ H Q := by
  obtain ⟨rs, st, ρ, v, st', k, g, er, e, e2, q⟩ := h
  refine w ⟨rs, st, ρ, v, st', g, er, e, fun u H' rs' x g' r => ?_⟩
  obtain ⟨k', rfl⟩ := hb e
  cases r
  simp [truth] at e2
  subst e2
  exact ⟨_, rfl, q H' rs' x g'⟩
theorem xcmpT {o : COp} (hu : X.A.units + 65 < cLine) (ha : PE X a (tE X.K c i)) (hb : PE X b (tE X.K c j)) (hm : behindInMarks (opC o) b = false) : PT X (.Compare a [opC o] [b] pos) (tT X.K c (.cmp o i j)) :=
  pt_wk (pt_cmpR (opCmp hu) ha hb hm) fun σ H Q h => tT_of (fun e => by
    simp only [evE, Option.bind_eq_some_iff, Option.map_eq_some_iff] at e
    obtain ⟨_, _, _, _, k, _, e4⟩ := e
    cases e4
    exact ⟨k, rfl⟩) h fun h => cmp_read h
theorem chain_read {o o' : COp} {σ : L2.St} {H : Hp} {Q : VK} (h : tE K c (.chain o o' i j k) σ H Q) : tChain (rC K o) (rC K o') (tE K c i) (tE K c j) (tE K c k) σ H Q := by
  obtain ⟨rs, st, ρ, v, st', g, er, e, q⟩ := h
  simp only [evE, Option.bind_eq_some_iff] at e
  obtain ⟨⟨x, s1⟩, e1, ⟨y, s2⟩, e2, kk, e3, e4⟩ := e
  refine two g er e1 e2 fun u w H2 rs2 ex g2 r1 r2 => ⟨rs2, s2, x, y, kk, g2, r1, r2, e3, kk, rfl, ?_⟩
  cases kk with
  | false =>
    simp only [Bool.false_eq_true, if_false, Option.some.injEq, Prod.mk.injEq] at e4 ⊢
    obtain ⟨rfl, rfl⟩ := e4
    exact (q.ext ex).here g2 (.bl _)
  | true =>
    simp only [if_true, Option.bind_eq_some_iff, Option.map_eq_some_iff] at e4 ⊢
    obtain ⟨⟨z, s3⟩, e5, k2, e6, e7⟩ := e4
    cases e7
    refine ⟨rs2, s2, ρ, z, s3, g2, er.ext ex, e5, fun w' H3 rs3 x3 g3 r3 => ⟨rs3, s3, y, z, k2, g3, Rep.ext x3 _ _ r2, r3, e6, ((q.ext ex).ext x3).here g3 (.bl _)⟩⟩
theorem xchain {o o' : COp} (hu : X.A.units + 65 < cLine) (ha : PE X a (tE X.K c i)) (hb : PE X b (tE X.K c j)) (hd : PE X d (tE X.K c k)) (hm : lastMarks [opC o, opC o'] [b, d] = false) : PE X (.Compare a [opC o, opC o'] [b, d] pos) (tE X.K c (.chain o o' i j k)) :=
  pe_wk (pe_chain (opCmp hu) (opCmp hu) ha hb hd hm) fun σ H Q h => chain_read h
theorem xchainT {o o' : COp} (hu : X.A.units + 65 < cLine) (ha : PE X a (tE X.K c i)) (hb : PE X b (tE X.K c j)) (hd : PE X d (tE X.K c k)) (hm : lastMarks [opC o, opC o'] [b, d] = false) : PT X (.Compare a [opC o, opC o'] [b, d] pos) (tT X.K c (.chain o o' i j k)) :=
  pt_wk (pt_chain (opCmp hu) (opCmp hu) ha hb hd hm) fun σ H Q h => tT_of (fun e => by
    simp only [evE, Option.bind_eq_some_iff] at e
    obtain ⟨_, _, _, _, kk, _, e4⟩ := e
    split at e4
    · simp only [Option.bind_eq_some_iff, Option.map_eq_some_iff] at e4
      obtain ⟨_, _, k2, _, e7⟩ := e4
      cases e7
      exact ⟨k2, rfl⟩
    · cases e4
      exact ⟨_, rfl⟩) h fun h => chain_read h
/-! and, or, not -/
theorem one_and {r : List Expr} (ha : PE X a (tE X.K c i)) (hb : PE X (.BoolOp .And (b :: r) pos) (tE X.K c j)) : PE X (.BoolOp .And (a :: b :: r) pos) (tE X.K c (.and i j)) :=
  pe_wk (pe_andT ha hb) fun σ H Q h => by
    obtain ⟨rs, st, ρ, v, st', g, er, e, q⟩ := h
    simp only [evE, Option.bind_eq_some_iff] at e
    obtain ⟨⟨x, s1⟩, e1, k, e2, e3⟩ := e
    refine ⟨rs, st, ρ, x, s1, g, er, e1, fun u H1 rs1 x1 g1 r1 => ⟨k, tru_of g1 r1 e2, ?_⟩⟩
    cases k with
    | false =>
      simp only [Bool.false_eq_true, if_false, Option.some.injEq, Prod.mk.injEq] at e3 ⊢
      obtain ⟨rfl, rfl⟩ := e3
      exact (q.ext x1).here g1 r1
    | true =>
      simp only [if_true] at e3 ⊢
      exact ⟨rs1, s1, ρ, v, st', g1, er.ext x1, e3, q.ext x1⟩
theorem one_or {r : List Expr} (ha : PE X a (tE X.K c i)) (hb : PE X (.BoolOp .Or (b :: r) pos) (tE X.K c j)) : PE X (.BoolOp .Or (a :: b :: r) pos) (tE X.K c (.or i j)) :=
  pe_wk (pe_orT ha hb) fun σ H Q h => by
    obtain ⟨rs, st, ρ, v, st', g, er, e, q⟩ := h
    simp only [evE, Option.bind_eq_some_iff] at e
    obtain ⟨⟨x, s1⟩, e1, k, e2, e3⟩ := e
    refine ⟨rs, st, ρ, x, s1, g, er, e1, fun u H1 rs1 x1 g1 r1 => ⟨k, tru_of g1 r1 e2, ?_⟩⟩
    cases k with
    | true =>
      simp only [if_true, Option.some.injEq, Prod.mk.injEq] at e3 ⊢
      obtain ⟨rfl, rfl⟩ := e3
      exact (q.ext x1).here g1 r1
    | false =>
      simp only [Bool.false_eq_true, if_false] at e3 ⊢
      exact ⟨rs1, s1, ρ, v, st', g1, er.ext x1, e3, q.ext x1⟩
theorem xnot (ha : PE X a (tE X.K c i)) : PE X (.UnaryOp .Not a pos) (tE X.K c (.not i)) :=
  pe_wk (pe_notT ha) fun σ H Q h => by
    obtain ⟨rs, st, ρ, v, st', g, er, e, q⟩ := h
    simp only [evE, Option.bind_eq_some_iff, Option.map_eq_some_iff] at e
    obtain ⟨⟨x, s1⟩, e1, k, e2, e3⟩ := e
    cases e3
    exact ⟨rs, st, ρ, x, s1, g, er, e1, fun u H1 rs1 x1 g1 r1 => ⟨k, tru_of g1 r1 e2, (q.ext x1).here g1 (.bl _)⟩⟩
theorem xneg (ha : PE X a (tE X.K c i)) : PE X (.UnaryOp .USub a pos) (tE X.K c (.neg i)) :=
  pe_wk (pe_un un_neg ha) fun σ H Q h => by
    obtain ⟨rs, st, ρ, v, st', g, er, e, q⟩ := h
    simp only [evE, Option.bind_eq_some_iff] at e
    obtain ⟨⟨x, s1⟩, e1, e2⟩ := e
    refine ⟨rs, st, ρ, x, s1, g, er, e1, fun u H1 rs1 x1 g1 r1 => ?_⟩
    split at e2
    · rename_i n hn
      cases e2
      simp only at hn
      subst hn
      cases r1
      exact ⟨_, rfl, (q.ext x1).here g1 (.int _)⟩
    · cases e2
/-! tests -/
theorem ttruth (ha : PE X a (tE X.K c i)) (he : ∀ whole, isTrue a X.env whole = (do let v ← whole; standAt a.pos; holding [v] (truthy v))) : PT X a (tT X.K c i) :=
  pt_wk (pt_truth ha he) fun σ H Q h => by
    obtain ⟨rs, st, ρ, v, st', k, g, er, e, e2, q⟩ := h
    exact ⟨rs, st, ρ, v, st', g, er, e, fun u H1 rs1 x1 g1 r1 => ⟨k, tru_of g1 r1 e2, q H1 rs1 x1 g1⟩⟩
theorem tnot (ha : PT X a (tT X.K c i)) : PT X (.UnaryOp .Not a pos) (tT X.K c (.not i)) :=
  pt_wk (pt_not ha) fun σ H Q h => by
    obtain ⟨rs, st, ρ, v, st', k, g, er, e, e2, q⟩ := h
    simp only [evE, Option.bind_eq_some_iff, Option.map_eq_some_iff] at e
    obtain ⟨⟨x, s1⟩, e1, k2, e3, e4⟩ := e
    cases e4
    simp only [truth, Option.some.injEq] at e2
    subst e2
    exact ⟨rs, st, ρ, x, s1, k2, g, er, e1, e3, fun H' rs' x1 g1 => q H' rs' x1 g1⟩
theorem tand {r : List Expr} (ha : PT X a (tT X.K c i)) (hb : PW X (.BoolOp .And (b :: r) pos) (tT X.K c j)) : PW X (.BoolOp .And (a :: b :: r) pos) (tT X.K c (.and i j)) :=
  pw_wk (pw_and ha hb) fun σ H Q h => by
    obtain ⟨rs, st, ρ, v, st', k, g, er, e, e2, q⟩ := h
    simp only [evE, Option.bind_eq_some_iff] at e
    obtain ⟨⟨x, s1⟩, e1, k1, e3, e4⟩ := e
    refine ⟨rs, st, ρ, x, s1, k1, g, er, e1, e3, fun H1 rs1 x1 g1 => ?_⟩
    cases k1 with
    | false =>
      simp only [Bool.false_eq_true, if_false, Option.some.injEq, Prod.mk.injEq] at e4 ⊢
      obtain ⟨rfl, rfl⟩ := e4
      simp only at e3
      rw [e2] at e3
      cases e3
      exact q H1 rs1 x1 g1
    | true =>
      simp only [if_true] at e4 ⊢
      exact ⟨rs1, s1, ρ, v, st', k, g1, er.ext x1, e4, e2, fun H2 rs2 x2 g2 => q H2 rs2 (x1.trans x2) g2⟩
theorem tor {r : List Expr} (ha : PT X a (tT X.K c i)) (hb : PW X (.BoolOp .Or (b :: r) pos) (tT X.K c j)) : PW X (.BoolOp .Or (a :: b :: r) pos) (tT X.K c (.or i j)) :=
  pw_wk (pw_or ha hb) fun σ H Q h => by
    obtain ⟨rs, st, ρ, v, st', k, g, er, e, e2, q⟩ := h
    simp only [evE, Option.bind_eq_some_iff] at e
    obtain ⟨⟨x, s1⟩, e1, k1, e3, e4⟩ := e
    refine ⟨rs, st, ρ, x, s1, k1, g, er, e1, e3, fun H1 rs1 x1 g1 => ?_⟩
    cases k1 with
    | true =>
      simp only [if_true, Option.some.injEq, Prod.mk.injEq] at e4 ⊢
      obtain ⟨rfl, rfl⟩ := e4
      simp only at e3
      rw [e2] at e3
      cases e3
      exact q H1 rs1 x1 g1
    | false =>
      simp only [Bool.false_eq_true, if_false] at e4 ⊢
      exact ⟨rs1, s1, ρ, v, st', k, g1, er.ext x1, e4, e2, fun H2 rs2 x2 g2 => q H2 rs2 (x1.trans x2) g2⟩
theorem xite (hq : PT X d (tT X.K c k)) (ha : PE X a (tE X.K c i)) (hb : PE X b (tE X.K c j)) : PE X (.IfExp d a b pos) (tE X.K c (.ite k i j)) :=
  pe_wk (pe_ifExp hq ha hb) fun σ H Q h => by
    obtain ⟨rs, st, ρ, v, st', g, er, e, q⟩ := h
    simp only [evE, Option.bind_eq_some_iff] at e
    obtain ⟨⟨x, s1⟩, e1, k1, e2, e3⟩ := e
    refine ⟨rs, st, ρ, x, s1, k1, g, er, e1, e2, fun H1 rs1 x1 g1 => ?_⟩
    cases k1 with
    | true =>
      simp only [if_true] at e3 ⊢
      exact ⟨rs1, s1, ρ, v, st', g1, er.ext x1, e3, q.ext x1⟩
    | false =>
      simp only [Bool.false_eq_true, if_false] at e3 ⊢
      exact ⟨rs1, s1, ρ, v, st', g1, er.ext x1, e3, q.ext x1⟩
/-! lists of arguments -/
def isStar : Expr → Bool
  | .Starred _ _ => true
  | _ => false
theorem star_no {e : Expr} {es : List Expr} {env : PySem.Env} (h : isStar e = false) : starEach (e :: es) env = (false, eval e env) :: starEach es env := by
  cases e <;> first | rfl | simp [isStar] at h
theorem stars_no (pos : Pos) (env : PySem.Env) : ∀ {es : List Expr}, es.all (fun e => !isStar e) = true → (backTo pos (starEach es env)).any (·.1) = false
  | [], _ => rfl
  | e :: es, h => by
    simp only [List.all_cons, Bool.and_eq_true, Bool.not_eq_true'] at h
    rw [star_no h.1]
    have := stars_no pos env (es := es) h.2
    simp only [backTo, List.map_cons, List.any_cons, Bool.false_or] at this ⊢
    exact this
theorem anil : PA X [] (tA X.K c .nil) := pa_wk pa_nil fun σ H Q h => by
  obtain ⟨rs, st, ρ, v, st', g, er, e, q⟩ := h
  simp only [evL] at e
  cases e
  exact q.here g .nil
theorem acons {e : Expr} {es : List Expr} (ha : PE X e (tE X.K c i)) (hr : PA X es (tA X.K c j)) (hs : isStar e = false) : PA X (e :: es) (tA X.K c (.cons i j)) :=
  pa_wk (pa_cons ha hr (star_no hs)) fun σ H Q h => by
    obtain ⟨rs, st, ρ, v, st', g, er, e, q⟩ := h
    simp only [evL, Option.bind_eq_some_iff, Option.map_eq_some_iff] at e
    obtain ⟨⟨x, s1⟩, e1, ⟨y, s2⟩, e2, e3⟩ := e
    cases e3
    exact ⟨rs, st, ρ, x, s1, g, er, e1, fun u H1 rs1 x1 g1 r1 => ⟨rs1, s1, ρ, y, s2, g1, er.ext x1, e2, fun w H2 rs2 x2 g2 r2 => q _ H2 rs2 (x1.trans x2) g2 (.cons (Rep.ext x2 _ _ r1) r2)⟩⟩
theorem astar {e : Expr} {es : List Expr} (ha : PE X e (tE X.K c i)) (hr : PA X es (tA X.K c j)) : PA X (.Starred e pos :: es) (tA X.K c (.star i j)) :=
  pa_wk (StX.pa_star ha hr) fun σ H Q h => by
    obtain ⟨rs, st, ρ, v, st', g, er, e, q⟩ := h
    simp only [evL, Option.bind_eq_some_iff, Option.map_eq_some_iff] at e
    obtain ⟨⟨x, s1⟩, e1, xs, e0, ⟨y, s2⟩, e2, e3⟩ := e
    cases e3
    refine ⟨rs, st, ρ, x, s1, g, er, e1, fun u H1 rs1 x1 g1 r1 => ?_⟩
    obtain ⟨p, vs, rfl, hs, rl⟩ := r1.items g1 e0
    exact ⟨p, vs, rfl, hs.symm, rs1, s1, ρ, y, s2, g1, er.ext x1, e2, fun w H2 rs2 x2 g2 r2 => q _ H2 rs2 (x1.trans x2) g2 ((RepL.ext x2 _ _ rl).append r2)⟩
theorem xtup {n : Nat} {es : List Expr} (ha : PA X es (tA X.K c i)) : PE X (.Tuple es n pos) (tE X.K c (.tup i)) :=
  pe_wk (pe_tup ha) fun σ H Q h => by
    obtain ⟨rs, st, ρ, v, st', g, er, e, q⟩ := h
    simp only [evE, Option.bind_eq_some_iff] at e
    obtain ⟨⟨x, s1⟩, e1, e2⟩ := e
    split at e2
    · rename_i hl
      rw [limS] at hl
      cases e2
      exact ⟨rs, st, ρ, x, s1, g, er, e1, fun u H1 rs1 x1 g1 r1 => ⟨by rw [r1.length]; exact hl, post_tup g1 r1 hl (q.ext x1)⟩⟩
    · cases e2
theorem xlst {m : Bool} {es : List Expr} (ha : PA X es (tA X.K c i)) : PE X (.List es pos) (tE X.K c (.lst m i)) :=
  pe_wk (pe_lst ha) fun σ H Q h => by
    obtain ⟨rs, st, ρ, v, st', g, er, e, q⟩ := h
    simp only [evE, Option.bind_eq_some_iff] at e
    obtain ⟨⟨x, s1⟩, e1, e2⟩ := e
    split at e2
    · rename_i hl
      rw [limS] at hl
      exact ⟨rs, st, ρ, x, s1, g, er, e1, fun u H1 rs1 x1 g1 r1 => ⟨by rw [r1.length]; exact hl, post_mk g1 r1 hl e2 (q.ext x1)⟩⟩
    · cases e2
/-! subscripts -/
def isSlice : Expr → Bool
  | .Slice _ _ _ _ => true
  | _ => false
theorem plainIx {e : Expr} (h : isSlice e = false) : PlainIx e := fun o i => by
  cases e <;> first | rfl | simp [isSlice] at h
theorem RepL.atI {vs : List V} {xs : List PV} {n : Int} {p : PV} (r : RepL K H rs vs xs) (h : L2.atI xs n = some p) : ∃ v, L2.atI vs n = some v ∧ Rep K H rs v p := by
  unfold L2.atI at h ⊢
  rw [r.length]
  simp only [Option.bind_eq_some_iff] at h
  obtain ⟨m, e1, e2⟩ := h
  obtain ⟨v, e3, r2⟩ := r.get e2
  exact ⟨v, by rw [e1]; exact e3, r2⟩
theorem xsub (ha : PE X a (tE X.K c i)) (hb : PE X b (tE X.K c j)) (hs : isSlice b = false) : PE X (.Subscript a b pos) (tE X.K c (.sub i j)) :=
  pe_wk (pe_ix ix_seq ha hb (plainIx hs)) fun σ H Q h => by
    obtain ⟨rs, st, ρ, v, st', g, er, e, q⟩ := h
    simp only [evE, Option.bind_eq_some_iff, Option.map_eq_some_iff] at e
    obtain ⟨⟨x, s1⟩, e1, ⟨y, s2⟩, e2, w, e3, e4⟩ := e
    cases e4
    refine two g er e1 e2 fun u t H2 rs2 ex g2 r1 r2 => ?_
    unfold subEv at e3
    split at e3
    · rename_i n hn
      simp only at hn
      subst hn
      simp only [Option.bind_eq_some_iff] at e3
      obtain ⟨xs, e5, e6⟩ := e3
      obtain ⟨p, vs, rfl, hs, rl⟩ := r1.items g2 e5
      obtain ⟨z, e7, rz⟩ := rl.atI e6
      cases r2
      rcases hs with hs | hs
      · exact .inl ⟨_, _, _, z, rfl, rfl, hs, e7, (q.ext ex).here g2 rz⟩
      · exact .inr (.inl ⟨_, _, _, z, rfl, rfl, hs, e7, (q.ext ex).here g2 rz⟩)
    · cases e3
theorem RepL.cut {vs : List V} {xs : List PV} {lo hi : Option Int} (r : RepL K H rs vs xs) : RepL K H rs (cutV vs lo hi) (cutP xs lo hi) := by
  unfold cutV cutP
  rw [r.length]
  exact (r.drop _).take _
theorem cutP_len (xs : List PV) (lo hi : Option Int) : (cutP xs lo hi).length ≤ xs.length := by
  unfold cutP
  rw [List.length_take, List.length_drop]
  omega
def rSlice (K : PySem.W.Frag) (m : Bool) : V → Option Int → Option Int → Hp → VK → Prop := fun x lo hi H Q => ∃ rs st p v st' l h, Good K rs st H ∧ Rep K H rs x p ∧ partOf l = some lo ∧ partOf h = some hi ∧ sliceEv m p l h st = some (v, st') ∧ Post K rs H st' v Q
theorem sl_ev {m : Bool} : SlR X (rSlice X.K m) := by
  intro pins s σ H x v vl vu lo hi sl Q I rx hs pl pu h
  obtain ⟨rs, st, p, w, st', l, hh, g, r, e1, e2, e, q⟩ := h
  unfold sliceEv at e
  rw [e1, e2] at e
  simp only [Option.bind_some] at e
  split at e
  · cases e
    cases r with
    | tup ht rl zt =>
      refine sl_tupA pins s σ H _ v vl vu lo hi sl Q I rx hs pl pu ⟨_, _, rfl, sqT_of ht, fun hw => ?_, fun _ => post_tup g rl.cut (Nat.le_trans (cutP_len _ _ _) zt) q⟩
      have ec : ∀ (n : Nat) (zs : List PV), zs.length = n → (HT.sIx n 0 lo = 0 ∧ HT.sIx n n hi = n) → cutP zs lo hi = zs := fun n zs hz hq => by
        unfold cutP
        rw [hz, hq.1, hq.2, List.drop_zero, Nat.sub_zero]
        exact List.take_of_length_le (by omega)
      rw [ec _ _ rl.length.symm hw] at q
      exact q.here g (.tup ht rl zt)
  · cases r with
    | arg ht rl zt => exact sl_list pins s σ H _ v vl vu lo hi sl Q I rx hs pl pu ⟨_, _, rfl, sqA_of ht, post_mk g rl.cut (Nat.le_trans (cutP_len _ _ _) zt) e q⟩
  · simp only [Option.bind_eq_some_iff] at e
    obtain ⟨xs, e3, e4⟩ := e
    obtain ⟨a, vs, rfl, ha, rl⟩ := r.litems g e3
    exact sl_list pins s σ H _ v vl vu lo hi sl Q I rx hs pl pu ⟨_, _, rfl, .inl (.inl ha), post_mk g rl.cut (Nat.le_trans (cutP_len _ _ _) (r.llen g e3)) e4 q⟩
def tO (K : PySem.W.Frag) (c : Cf) (i : E) : TO := fun σ H Q => ∃ rs st ρ vs st' o, Good K rs st H ∧ EnvR K H rs σ ρ ∧ evL c i ρ st = some (vs, st') ∧ partOf vs = some o ∧ ∀ H' rs', Ext rs H rs' H' → Good K rs' st' H' → Q o H'
theorem po_wk {e : Option Expr} {t t' : TO} (h : PO X e t) (w : ∀ σ H Q, t' σ H Q → t σ H Q) : PO X e t' := ⟨fun pins s σ H Q I q => h.run pins s σ H Q I (w σ H Q q)⟩
theorem onone : PO X none (tO X.K c .nil) := po_wk po_none fun σ H Q h => by
  obtain ⟨rs, st, ρ, v, st', o, g, er, e, e2, q⟩ := h
  simp only [evL] at e
  cases e
  simp [partOf] at e2
  subst e2
  exact q H rs (Ext.refl _ _) g
theorem osome (ha : PE X a (tE X.K c i)) : PO X (some a) (tO X.K c (.cons i .nil)) := po_wk (po_some ha) fun σ H Q h => by
  obtain ⟨rs, st, ρ, v, st', o, g, er, e, e2, q⟩ := h
  simp only [evL, Option.bind_eq_some_iff, Option.map_eq_some_iff] at e
  obtain ⟨⟨x, s1⟩, e1, ⟨y, s2⟩, e3, e4⟩ := e
  cases e3
  cases e4
  refine ⟨rs, st, ρ, x, s1, g, er, e1, fun u H1 rs1 x1 g1 r1 => ?_⟩
  cases r1 with
  | int n =>
    simp [partOf] at e2
    subst e2
    exact ⟨_, rfl, q H1 rs1 x1 g1⟩
  | _ => simp [partOf] at e2
theorem xslice {m : Bool} {lo hi : Option Expr} {p2 : Pos} (ha : PE X a (tE X.K c i)) (hl : PO X lo (tO X.K c j)) (hh : PO X hi (tO X.K c k)) : PE X (.Subscript a (.Slice lo hi none p2) pos) (tE X.K c (.slice m i j k)) :=
  pe_wk (pe_slice (sl_ev (m := m)) ha hl hh) fun σ H Q h => by
    obtain ⟨rs, st, ρ, v, st', g, er, e, q⟩ := h
    simp only [evE, Option.bind_eq_some_iff] at e
    obtain ⟨⟨x, s1⟩, e1, ⟨y, s2⟩, e2, ⟨z, s3⟩, e3, e4⟩ := e
    have e5 := e4
    simp only [sliceEv, Option.bind_eq_some_iff] at e5
    obtain ⟨o1, p1, o2, p2, _⟩ := e5
    exact ⟨rs, st, ρ, x, s1, g, er, e1, fun u H1 rs1 x1 g1 r1 => ⟨rs1, s1, ρ, y, s2, o1, g1, er.ext x1, e2, p1, fun H2 rs2 x2 g2 =>
      ⟨rs2, s2, ρ, z, s3, o2, g2, (er.ext x1).ext x2, e3, p2, fun H3 rs3 x3 g3 => ⟨rs3, s3, x, v, st', y, z, g3, Rep.ext (x2.trans x3) _ _ r1, p1, p2, e4, q.ext ((x1.trans x2).trans x3)⟩⟩⟩⟩
theorem xrev {m : Bool} {n : Nat} {p1 p2 p3 : Pos} (ha : PE X a (tE X.K c i)) : PE X (.Subscript a (.Slice none none (some (.UnaryOp .USub (.Constant (.int 1) n p1) p2)) p3) pos) (tE X.K c (.revS m i)) :=
  pe_wk (pe_revA ha) fun σ H Q h => by
    obtain ⟨rs, st, ρ, v, st', g, er, e, q⟩ := h
    simp only [evE, Option.bind_eq_some_iff] at e
    obtain ⟨⟨x, s1⟩, e1, e2⟩ := e
    refine ⟨rs, st, ρ, x, s1, g, er, e1, fun u H1 rs1 x1 g1 r1 => ?_⟩
    unfold revEv at e2
    dsimp only at e2
    split at e2
    · cases e2
      cases r1 with
      | tup ht rl zt => exact .inr ⟨_, _, rfl, sqT_of ht, post_tup g1 rl.reverse (by rw [List.length_reverse]; exact zt) (q.ext x1)⟩
    · simp only [Option.bind_eq_some_iff] at e2
      obtain ⟨xs, e2, e3⟩ := e2
      obtain ⟨p, vs, rfl, hs, rl⟩ := r1.litems g1 e2
      exact .inl ⟨_, _, rfl, .inl (.inl hs), post_mk g1 rl.reverse (by rw [List.length_reverse]; exact r1.llen g1 e2) e3 (q.ext x1)⟩
end
end Ev

/-! sorted of a list or a tuple of plain data -/
namespace Ev
open PySem L2 PyProof.Rows PySem.W
section
variable {prog : Program} {w : World} {A : Around} {E : Value → Shared → Prop} {s : Shared}
/-- the items of a tuple, collected -/
theorem gather_tup {l : Addr} {vs : List Value} {Q : List Value → Shared → Prop} (ht : IsTup s.heap l vs.toArray) (hz : vs.length ≤ sizeLine)
    (k : Q vs { s with heap := (s.heap.push (seqObj "list" #[] 0)).update s.heap.objs.size (Obj.mapSeq (· ++ vs.toArray)) }) : wpAny (model prog w) A (collect (.ref l)) Q E s := by
  obtain ⟨ob, hob, hcl, n, hda⟩ := id ht
  unfold collect
  refine wpAny_bind (wpAny_runValue (codeAny_builtin entry_proto_collect' ?go))
  case go =>
    show wpAny _ _ (do again (.builtin "list.__iadd__" ⟨[← newList [], .ref l], []⟩)) _ _ s
    refine wpAny_bind (wpAny_newList (wpAny_pure ⟨Code.quiet_builtin _ (by decide +kernel), codeAny_builtin entry_list_iadd' ?in_⟩))
    case in_ =>
      show wpAny _ _ (Builtin.List.listExtendWith (.ref s.heap.objs.size) (.ref l) (.ref s.heap.objs.size)) _ _ { s with heap := s.heap.push (seqObj "list" #[] 0) }
      unfold Builtin.List.listExtendWith
      have hob2 : (s.heap.push (seqObj "list" #[] 0)).get? l = some ob := Heap.get?_push_of_some _ hob
      refine wpAny_bind (wpAny_typeOf (T := "tuple") ⟨ob, hob2, hcl⟩ ?_)
      have tt : (Value.type "tuple" == Value.type "tuple") = true := by rfl
      rw [if_pos (by rw [tt]; simp)]
      refine wpAny_bind (listItems_at hob2 hda ?_)
      refine wpAny_bind (listItems_at (n := 0) (xs := #[]) (Heap.get?_push_size _ rfl) rfl ?_)
      rw [if_neg (by simp)]
      refine wpAny_bind (listUpdate_at (n := 0) (xs := #[]) (Heap.get?_push_size _ rfl) rfl ?_ (Nat.zero_le _) (by show (#[] ++ vs.toArray).size ≤ sizeLine + 1; simp only [Array.size_append, List.size_toArray, List.length_nil]; omega))
      refine wpAny_pure ?_
      show wpAny (model prog w) A (do
          let o ← load s.heap.objs.size
          match o.data with
          | .seq xs _ => pure xs.toList
          | _ => unsupported "internal:collect") Q E { s with heap := (s.heap.push (seqObj "list" #[] 0)).update s.heap.objs.size (Obj.mapSeq (· ++ vs.toArray)) }
      refine wpAny_bind (wpAny_load (get?_update_seq (Heap.get?_push_size _ rfl) _) ?_)
      show wpAny _ _ (pure ((#[] : Array Value) ++ vs.toArray).toList) Q E _
      have ev : ((#[] : Array Value) ++ vs.toArray).toList = vs := by simp
      rw [ev]
      exact wpAny_pure k
/-- sorted of what is collected as vs -/
theorem sorted_by {l : Addr} {vs : List Value} {κ : PyProof.Rows.KeyKind} {Q : Value → Shared → Prop}
    (hc : ∀ (A : Around) (Q' : List Value → Shared → Prop) (E' : Value → Shared → Prop), Q' vs { s with heap := (s.heap.push (seqObj "list" #[] 0)).update s.heap.objs.size (Obj.mapSeq (· ++ vs.toArray)) } → wpAny (model prog w) A (collect (.ref l)) Q' E' s)
    (hz : vs.length ≤ sizeLine) (S : SortsAt prog w A.in1.in1 { s with heap := sortingHeap (copyHeap s.heap vs) (s.heap.objs.size + 1) vs } κ vs)
    (k : Q (.ref (s.heap.objs.size + 1)) { s with heap := sortedAll s.heap vs (sortVals κ false vs vs).toArray }) : wpAny (model prog w) A (call (.builtin "sorted") [.ref l]) Q E s := by
  refine Calls.call_function_entry kind_sorted plain_sorted entry_sorted (args_sorted1 _) ?_
  unfold Builtin.«sorted»
  refine wpAny_bind (m := checkCount "sorted" 1 1 _) (wpAny_pure (wpAny_bind (hc _ _ _ ?_)))
  refine wpAny_bind (wpAny_newList ?_ hz)
  have sz : ((s.heap.push (seqObj "list" #[] 0)).update s.heap.objs.size (Obj.mapSeq (· ++ vs.toArray))).objs.size = s.heap.objs.size + 1 := by
    rw [Heap.size_update, size_push']
  show wpAny _ _ _ _ _ { s with heap := copyHeap s.heap vs }
  rw [sz]
  refine wpAny_bind (wpAny_holding (wpAny_call_entry slot_list_sort ⟨_, copyHeap_at s.heap vs, rfl⟩ entry_list_sort ?body (args_list_sort _)))
  case body =>
    exact list_sort_vals (s := { s with heap := copyHeap s.heap vs }) (copyHeap_at s.heap vs) S hz ⟨_, rfl, wpAny_pure ⟨_, rfl, k⟩⟩
end
section
variable {K : PySem.W.Frag} {H : Hp} {rs : Rs} {st st' : Sto}
theorem lt_irr (x : PV) : ltP x x = false := by
  unfold ltP dataLt
  exact lex_irrefl _
/-- what the sort keeps of its order -/
theorem le_total : TotalLe (dataLe false PV.dat) := sortLe_total _ _ _
theorem le_def (x y : PV) : dataLe false PV.dat x y = !ltP y x := by
  rw [dataLe_eq] <;> rfl
theorem insP_mem (x z : PV) : ∀ l : List PV, z ∈ insP x l ↔ z = x ∨ z ∈ l
  | [] => by simp [insP]
  | y :: r => by
    unfold insP
    split
    · simp only [List.mem_cons, insP_mem x z r]
      constructor
      · rintro (h | h | h) <;> simp [h]
      · rintro (h | h | h) <;> simp [h]
    · simp only [List.mem_cons]
theorem insP_pw (x : PV) : ∀ l : List PV, l.Pairwise (fun a b => dataLe false PV.dat a b = true) → (insP x l).Pairwise (fun a b => dataLe false PV.dat a b = true)
  | [], _ => by simp [insP]
  | y :: r, h => by
    rw [List.pairwise_cons] at h
    unfold insP
    split
    · rename_i c
      refine List.pairwise_cons.mpr ⟨fun z hz => ?_, insP_pw x r h.2⟩
      rcases (insP_mem x z r).mp hz with e | e
      · rw [e, le_def]
        have h2 := (le_total.total y x)
        rw [le_def, le_def] at h2
        rcases h2 with q | q
        · exact q
        · rw [c] at q; cases q
      · exact h.1 z e
    · rename_i c
      have c' : dataLe false PV.dat x y = true := by rw [le_def]; simpa using c
      refine List.pairwise_cons.mpr ⟨fun z hz => ?_, List.pairwise_cons.mpr h⟩
      rcases List.mem_cons.mp hz with e | e
      · rw [e]; exact c'
      · exact le_total.trans _ _ _ c' (h.1 z e)
theorem sortL_pw : ∀ l : List PV, (sortL l).Pairwise (fun a b => dataLe false PV.dat a b = true)
  | [] => List.Pairwise.nil
  | x :: r => insP_pw x _ (sortL_pw r)
theorem insP_fil (x z : PV) : ∀ l : List PV, l.Pairwise (fun a b => dataLe false PV.dat a b = true) → (insP x l).filter (sameRank (dataLe false PV.dat) z) = (x :: l).filter (sameRank (dataLe false PV.dat) z)
  | [], _ => rfl
  | y :: r, h => by
    rw [List.pairwise_cons] at h
    unfold insP
    split
    · rename_i c
      have ih := insP_fil x z r h.2
      rw [List.filter_cons, ih, List.filter_cons, List.filter_cons, List.filter_cons]
      by_cases hx : sameRank (dataLe false PV.dat) z x = true
      · by_cases hy : sameRank (dataLe false PV.dat) z y = true
        · exfalso
          unfold sameRank at hx hy
          rw [Bool.and_eq_true] at hx hy
          have : dataLe false PV.dat x y = true := le_total.trans _ _ _ hx.2 hy.1
          rw [le_def, c] at this
          cases this
        · simp [hx, hy]
      · simp [hx]
    · rfl
theorem sortL_fil (z : PV) : ∀ l : List PV, (sortL l).filter (sameRank (dataLe false PV.dat) z) = l.filter (sameRank (dataLe false PV.dat) z)
  | [] => rfl
  | x :: r => by
    show (insP x (sortL r)).filter _ = _
    rw [insP_fil x z _ (sortL_pw r), List.filter_cons, List.filter_cons, sortL_fil z r]
theorem sortL_eq (l : List PV) : sortL l = l.mergeSort (dataLe false PV.dat) := sort_unique le_total (sortL_pw l) fun z => sortL_fil z l
theorem sortL_perm (l : List PV) : (sortL l).Perm l := by
  rw [sortL_eq]
  exact List.mergeSort_perm _ _
/-- a list's values by their plain values -/
def RV (K : PySem.W.Frag) (H : Hp) (rs : Rs) (u : Value) (p : PV) : Prop := ∃ v, RelV v u ∧ Rep K H rs v p
theorem each_of : ∀ {vs : List V} {us : List Value} {xs : List PV}, Vals vs us → RepL K H rs vs xs → EachIs (RV K H rs) us xs
  | _, _, _, .nil, .nil => .nil
  | _, _, _, .cons r t, .cons q l => .cons ⟨_, r, q⟩ (each_of t l)
theorem of_each : ∀ {us : List Value} {xs : List PV}, EachIs (RV K H rs) us xs → ∃ vs, Vals vs us ∧ RepL K H rs vs xs
  | _, _, .nil => ⟨[], .nil, .nil⟩
  | _, _, .cons ⟨v, r, q⟩ t => by
    obtain ⟨vs, h1, h2⟩ := of_each t
    exact ⟨v :: vs, .cons r h1, .cons q h2⟩
variable {X : Cx} {pins : List (Addr × Obj)} {σ : L2.St} {s : Shared}
theorem each_reads (I : Inv X pins σ H s) : ∀ {vs : List V} {us : List Value} {xs : List PV}, groundL xs = true → Vals vs us → RepL X.K H rs vs xs → EachIs (fun v b => ∃ as, Reads s.heap v (PV.dat b) as) us xs
  | _, _, _, _, .nil, .nil => .nil
  | _, _, _, g, .cons r t, .cons q l => by
    simp only [groundL, Bool.and_eq_true] at g
    exact .cons (Dp.reads I _ _ _ (Rep.dp _ _ g.1 q) r) (each_reads I g.2 t l)
theorem groundL_of : ∀ {xs : List PV}, (∀ x ∈ xs, shp x = true) → groundL xs = true
  | [], _ => rfl
  | x :: r, h => by
    simp only [groundL, Bool.and_eq_true]
    exact ⟨shp_g (h x (by simp)), groundL_of fun y hy => h y (by simp [hy])⟩
/-- what sortable says -/
structure SortOk (xs : List PV) : Prop where
  shp : ∀ x ∈ xs, Ev.shp x = true
  alk : ∀ x ∈ xs, ∀ y ∈ xs, Ev.alk x y = true
  kind : (∀ x ∈ xs, isTupN x = true) ∨ ∀ x ∈ xs, PV.dat x ≠ .none ∧ ∀ ys, PV.dat x ≠ .tuple ys
theorem alike_ints : ∀ (xs ys : List PV), (∀ x ∈ xs, isInt x = true) → (∀ y ∈ ys, isInt y = true) → alikeAll (datL xs) (datL ys) = true
  | [], ys, _, _ => by simp [datL, alikeAll]
  | _ :: _, [], _, _ => by simp [datL, alikeAll]
  | x :: xs, y :: ys, hx, hy => by
    have h1 := hx x (by simp)
    have h2 := hy y (by simp)
    cases x <;> cases y <;> simp [isInt] at h1 h2
    simp only [datL, PV.dat, alikeAll, alike, Bool.true_and]
    exact alike_ints xs ys (fun z hz => hx z (by simp [hz])) fun z hz => hy z (by simp [hz])
theorem ints_lay : ∀ (xs : List PV), (∀ x ∈ xs, isInt x = true) → PyData.canLayAll0 (datL xs) = true ∧ PyData.depthAll (datL xs) = 0 ∧ groundL xs = true
  | [], _ => by simp [datL, PyData.canLayAll0, PyData.depthAll, groundL]
  | x :: xs, h => by
    have h1 := h x (by simp)
    obtain ⟨a, b, c⟩ := ints_lay xs fun z hz => h z (by simp [hz])
    cases x <;> simp [isInt] at h1
    simp [datL, PV.dat, PyData.canLayAll0, PyData.canLay0, PyData.depthAll, PyData.depth, groundL, PV.ground, a, b, c]
theorem shp_ints {xs : List PV} (h : ∀ x ∈ xs, isInt x = true) : Ev.shp (.tup xs) = true := by
  obtain ⟨a, b, c⟩ := ints_lay xs h
  simp [Ev.shp, PV.ground, PV.dat, SeqAt.shaped, PyData.canLay0, PyData.depth, a, b, c]
theorem intTup_shape {x : PV} (h : intTup x = true) : ∃ y r, x = .tup (y :: r) ∧ ∀ z ∈ y :: r, isInt z = true := by
  cases x with
  | tup xs =>
    cases xs with
    | nil => simp [intTup] at h
    | cons y r =>
      simp only [intTup, Bool.and_eq_true, List.all_eq_true] at h
      exact ⟨y, r, rfl, fun z hz => (List.mem_cons.mp hz).elim (fun e => e ▸ h.1) (h.2 z)⟩
  | _ => simp [intTup] at h
theorem sortOk {xs : List PV} (h : sortable xs = true) : SortOk xs := by
  simp only [sortable, Bool.or_eq_true, Bool.and_eq_true, List.all_eq_true] at h
  rcases h with ((h | h) | h) | ⟨⟨h1, h2⟩, h3⟩
  · refine ⟨fun x hx => ?_, fun x hx y hy => ?_, .inr fun x hx => ?_⟩
    · have := h x hx; cases x <;> simp [isInt] at this; rfl
    · have a := h x hx; have b := h y hy
      cases x <;> cases y <;> simp [isInt] at a b; rfl
    · have := h x hx; cases x <;> simp [isInt] at this; simp [PV.dat]
  · refine ⟨fun x hx => ?_, fun x hx y hy => ?_, .inr fun x hx => ?_⟩
    · have := h x hx
      cases x <;> simp [isStr] at this
      exact this
    · have a := h x hx; have b := h y hy
      cases x <;> cases y <;> simp [isStr] at a b; rfl
    · have := h x hx; cases x <;> simp [isStr] at this; simp [PV.dat]
  · refine ⟨fun x hx => ?_, fun x hx y hy => ?_, .inl fun x hx => ?_⟩
    · obtain ⟨y, r, rfl, hi⟩ := intTup_shape (h x hx)
      exact shp_ints hi
    · obtain ⟨y1, r1, rfl, h1⟩ := intTup_shape (h x hx)
      obtain ⟨y2, r2, rfl, h2⟩ := intTup_shape (h y hy)
      simp only [Ev.alk, PV.dat, alike]
      exact alike_ints _ _ h1 h2
    · obtain ⟨y, r, rfl, hi⟩ := intTup_shape (h x hx)
      rfl
  · exact ⟨h2, h3, .inl h1⟩
theorem SortOk.all {xs : List PV} (h : SortOk xs) : AllAlike (xs.map PV.dat) := fun d hd d' hd' => by
  obtain ⟨x, hx, rfl⟩ := List.mem_map.mp hd
  obtain ⟨y, hy, rfl⟩ := List.mem_map.mp hd'
  exact h.alk x hx y hy
theorem SortOk.sortable {xs : List PV} (h : SortOk xs) : Sortable (xs.map PV.dat) := by
  rcases h.kind with k | k
  · refine .inl fun d hd => ?_
    obtain ⟨x, hx, rfl⟩ := List.mem_map.mp hd
    have := k x hx
    cases x with
    | tup ys =>
      cases ys with
      | nil => simp [isTupN] at this
      | cons y r => exact ⟨_, _, rfl⟩
    | _ => simp [isTupN] at this
  · refine .inr fun d hd => ?_
    obtain ⟨x, hx, rfl⟩ := List.mem_map.mp hd
    exact k x hx
def rSrt (K : PySem.W.Frag) : List V → Hp → VK → Prop := fun vs H Q => ∃ rs st x p xs, vs = [x] ∧ Good K rs st H ∧ Rep K H rs x p ∧ items p st = some xs ∧ SortOk xs ∧ ∀ ws a, RepL K H rs ws (sortL xs) → H a = none → Q (.ref a) (upd H a (.lst ws))
theorem cr_srt (hu : X.A.units + 70 < cLine) : CallR X (.builtin "sorted") (rSrt X.K) := by
  intro pins s σ H vs us Q I r h
  obtain ⟨rs, st, x, p, xs, rfl, g, rp, e, so, q⟩ := h
  obtain ⟨a, ws, rfl, hs, rl⟩ := rp.items g e
  cases r with
  | cons r1 r2 =>
    cases r2
    cases r1
    have hg := groundL_of so.shp
    have fin : ∀ {its : List Value}, Vals ws its → its.length ≤ sizeLine →
        (∀ (A : Around) (Q' : List Value → Shared → Prop) (E' : Value → Shared → Prop), Q' its { s with heap := (s.heap.push (seqObj "list" #[] 0)).update s.heap.objs.size (Obj.mapSeq (· ++ its.toArray)) } → wpAny (model X.prog X.w) A (collect (.ref a)) Q' E' s) →
        wpAny (model X.prog X.w) X.A (call (.builtin "sorted") [.ref a]) (EP X pins σ Q) X.xe s := by
      intro its rv hz hc
      have er := each_reads I hg rv rl
      have er' : EachIs (fun v b => ∃ as, Reads (sortingHeap (copyHeap s.heap its) (s.heap.objs.size + 1) its) v (PV.dat b) as) its xs := er.mono fun _ _ ⟨as, r⟩ => ⟨as, PyProof.Rows.Reads.keeps (fun _ _ => sorting_copy_old) r⟩
      refine sorted_by hc hz (SortsAt.data (s := { s with heap := sortingHeap (copyHeap s.heap its) (s.heap.objs.size + 1) its }) (each_map (R := fun v d => ∃ as, Reads (sortingHeap (copyHeap s.heap its) (s.heap.objs.size + 1) its) v d as) PV.dat er') so.all so.sortable fun d hd => ?_) ?_
      · obtain ⟨y, hy, rfl⟩ := List.mem_map.mp hd
        have h1 := SeqAt.depth_of_shaped (shp_s (so.shp y hy))
        show X.A.units + 1 + 1 + (PV.dat y).depth < cLine
        omega
      · have eo := sortVals_data false (each_of (K := X.K) (H := H) (rs := rs) rv rl) er' so.all
        rw [← sortL_eq] at eo
        obtain ⟨zs, hz1, hz2⟩ := of_each eo
        obtain ⟨cc, hcc⟩ := sortedAll_at s.heap its (sortVals (dataKind (sortingHeap (copyHeap s.heap its) (s.heap.objs.size + 1) its) (xs.map PV.dat)) false its its).toArray
        have hl1 := hz2.length
        have hl2 := (sortL_perm xs).length_eq
        have hl3 := rl.length
        have hl4 := rv.length
        refine ⟨.ref (s.heap.objs.size + 1), upd H (s.heap.objs.size + 1) (.lst zs), I.laid (t' := s.toks) (fun b o e => sortedAll_old e) (Nat.le_succ _) ?_, rfl, q zs _ hz2 (I.hok.fresh (Nat.le_succ _))⟩
        exact ⟨by omega, _, cc, hz1, hcc⟩
    rcases hs with hs | hs
    · obtain ⟨its, rv, pl, hz⟩ := I.list hs
      have hl := rv.length
      exact fin rv (by omega) fun A Q' E' k => collect_list pl.isList k (by omega)
    · obtain ⟨its, rv, pl, hz⟩ := I.tuple hs
      have hl := rv.length
      exact fin rv (by omega) fun A Q' E' k => gather_tup pl (by omega) k
end
end Ev

/-! lists and tuples in any mix -/
namespace Ev
open PySem L2
def ObB (b : Bool) (h : Heap) (a : Addr) (its : Array Value) : Prop := match b with
  | true => h.IsTuple a its
  | false => h.IsList a its
def ItB (b : Bool) (h : Heap) (it a : Addr) (i : Nat) : Prop := match b with
  | true => h.IsTupleIter it a i
  | false => h.IsListIter it a i
def itO (b : Bool) (a : Addr) : Obj := match b with
  | true => { cls := .type "tuple_iterator", data := .fields #[.ref a, .int 0 0] }
  | false => { cls := .type "list_iterator", data := .fields #[.ref a, .int 0 0] }
end Ev

/-! set(l) of a list or a tuple, whatever fills it -/
namespace Ev
open PySem L2 PyProof.Rows
abbrev emS (w : World) : Obj := { cls := .type "set", dict := none, data := .set #[] 0 (.fresh 0 0 (!w.params.followText "set-order")) }
section
variable {P : Program} {w : World} {A : Around} {E : Value → Shared → Prop} {s : Shared}
theorem call_set_seq {b : Bool} {l : Addr} {its : Array Value} {G : Shared → Prop} {Q : Value → Shared → Prop} (hh : A.handled = none) (hl : ObB b s.heap l its)
    (loop : ∀ (A' : Around) (R : Result → Shared → Prop), A'.in1.handled = none → A'.in1.units ≤ A.units + 3 → (∀ s', G s' → R (.ok (.ret .none)) s') → codeAny (model P w) A' (.builtin "set.update.loop" ⟨[.ref s.heap.objs.size, .ref (s.heap.push (emS w)).objs.size], []⟩) R { s with heap := (s.heap.push (emS w)).push (itO b l) })
    (h : ∀ s', G s' → Q (.ref s.heap.objs.size) s' ∧ s'.TypeIs (.ref s.heap.objs.size) "set") : wpAny (model P w) A (call (.type "set") [.ref l]) Q E s := by
  obtain ⟨c0, tl, hmro⟩ := F.called_set.mro
  have hmade := F.called_set.made
  have hsub := F.called_set.sub
  refine wpAny_call (codeAny_of_tree ?_)
  show wpAny _ _ (callAny (.type "set") _) _ _ _
  refine wpAny_pure ⟨Code.quiet_builtin _ (by decide +kernel), codeAny_builtin F.entry_type_call ?_⟩
  rw [Around.under_plain (weight_type_call_type "set" [.ref l] []) rfl]
  have f1 := F.called_set.notType
  have f2 := F.called_set.canCreate
  have f3 := F.typeCall_set_1 (.ref l)
  repeat (any_goals (first | assumption | wp_step))
  refine codeAny_mono (code_set_led1 (.ref l) (E := E) (Q₁ := fun ob s1 => ob = .ref s.heap.objs.size ∧ s1 = { s with heap := s.heap.push (emS w) }) ⟨rfl, rfl⟩) fun r s1 hr => ?_
  match r, hr with
  | .error _, hr => exact hr
  | .ok .next, hr => exact hr.elim
  | .ok .brk, hr => exact hr.elim
  | .ok .cont, hr => exact hr.elim
  | .ok (.ret ob), hr =>
    obtain ⟨rfl, rfl⟩ := hr
    have gS : (s.heap.push (emS w)).get? s.heap.objs.size = some (emS w) := Heap.get?_push_size _ rfl
    have gT : Shared.TypeIs { s with heap := s.heap.push (emS w) } (.ref s.heap.objs.size) "set" := ⟨_, gS, rfl⟩
    have f4 := F.called_set.init.lookup
    have f5 := F.called_set.init.bind (.ref s.heap.objs.size)
    repeat (any_goals (first | assumption | wp_step))
    refine codeAny_mono (codeAny_call_builtin (R := wants (fun r2 s2 => r2 = .none ∧ G s2) E) F.called_set.init.plain F.entry_set_init (check_set_init_1 gT ?_)) fun r2 s2 hr2 => ?_
    · have h3 : A.in1.in1.in1.handled = none := by simp [hh]
      have h4 : A.in1.in1.in1.units ≤ A.units + 3 := Nat.le_refl _
      cases b with
      | false =>
        obtain ⟨ol, e1, e2, nl, e3⟩ := id (show s.heap.IsList l its from hl)
        obtain ⟨oc, od, oda, osl⟩ := ol
        simp only at e2 e3
        subst e2; subst e3
        have e4 : (s.heap.push (emS w)).get? l = some { cls := .type "list", dict := od, data := .seq its nl, slots := osl } := Heap.get?_push_of_some _ e1
        have k1 := F.sub_list_set
        have k2 := F.sub_list_frozenset
        have k3 : (Value.type "list" == Value.type "dict") = false := by decide
        unfold Builtin.«set.__init__» noKeywords Builtin.Frozenset.updateFrom
        generalize hPI : pyIter = PI
        wp_walk
        subst hPI
        refine wpAny_pyIter_list (show (s.heap.push (emS w)).IsList l its from ⟨_, e4, rfl, nl, rfl⟩) ?_
        refine wpAny_bind (wpAny_runValue (loop _ _ h3 h4 fun s' g => ?_))
        exact wpAny_pure (wpAny_pure ⟨rfl, g⟩)
      | true =>
        obtain ⟨ol, e1, e2, nl, e3⟩ := id (show s.heap.IsTuple l its from hl)
        obtain ⟨oc, od, oda, osl⟩ := ol
        simp only at e2 e3
        subst e2; subst e3
        have e4 : (s.heap.push (emS w)).get? l = some { cls := .type "tuple", dict := od, data := .seq its nl, slots := osl } := Heap.get?_push_of_some _ e1
        have k1 := F.sub_tuple_set
        have k2 := F.sub_tuple_frozenset
        have k3 : (Value.type "tuple" == Value.type "dict") = false := by decide
        unfold Builtin.«set.__init__» noKeywords Builtin.Frozenset.updateFrom
        generalize hPI : pyIter = PI
        wp_walk
        subst hPI
        refine wpAny_pyIter_tuple (show (s.heap.push (emS w)).IsTuple l its from ⟨_, e4, rfl, nl, rfl⟩) ?_
        refine wpAny_bind (wpAny_runValue (loop _ _ h3 h4 fun s' g => ?_))
        exact wpAny_pure (wpAny_pure ⟨rfl, g⟩)
    · match r2, hr2 with
      | .error _, hr2 => exact hr2
      | .ok .next, hr2 => exact hr2.elim
      | .ok .brk, hr2 => exact hr2.elim
      | .ok .cont, hr2 => exact hr2.elim
      | .ok (.ret r3), hr2 =>
        obtain ⟨rfl, g⟩ := hr2
        have f6 := (h _ g).2
        repeat (any_goals (first | assumption | wp_step))
        exact (h _ g).1
end
end Ev

/-! set(l): ints, tuples of ints -/
namespace Ev
open PySem L2 PyProof.Rows
section
variable {P : Program} {w : World} {A : Around} {E : Value → Shared → Prop} {s : Shared}
theorem walkB {b : Bool} (hh : A.handled = none) (I l : Addr) (hne : l ≠ I) (its : Array Value) : Walks P w A I [I, l] [I] its.size (fun i v => its[i]? = some v) (fun i h => ItB b h I l i ∧ ObB b h l its) := by
  cases b
  · exact Walks.list hh I l hne its
  · exact Walks.tuple hh I l hne its
theorem obB_lt {b : Bool} {h : Heap} {l : Addr} {its : Array Value} (hl : ObB b h l its) : l < h.objs.size := by
  cases b
  · obtain ⟨_, e, _⟩ := hl; exact Heap.lt_size e
  · obtain ⟨_, e, _⟩ := hl; exact Heap.lt_size e
theorem obB_push {b : Bool} {h : Heap} {l : Addr} {its : Array Value} (o : Obj) (hl : ObB b h l its) : ObB b (h.push o) l its := by
  cases b
  · exact Heap.IsList.push hl o
  · exact Heap.IsTuple.push hl o
theorem itB_new {b : Bool} {h : Heap} {l : Addr} : ItB b (h.push (itO b l)) h.objs.size l 0 := by
  cases b
  · exact ⟨_, Heap.get?_push_size _ rfl, rfl, rfl⟩
  · exact ⟨_, Heap.get?_push_size _ rfl, rfl, rfl⟩
theorem set_ints {b : Bool} {l : Addr} {its : Array Value} (ns : List Int) {Q : Value → Shared → Prop} (hh : A.handled = none) (hl : ObB b s.heap l its) (hit : IntsAre its.toList ns) (hb : ns.length + 1 < scanBound)
    (h : ∀ (h' : Heap) (tk c : Nat), SetR w h' s.heap.objs.size (fun j => decide (j ∈ ns)) c → c ≤ ns.length → (∀ b o, s.heap.get? b = some o → h'.get? b = some o) → Q (.ref s.heap.objs.size) { s with heap := h', toks := tk }) :
    wpAny (model P w) A (call (.type "set") [.ref l]) Q E s := by
  have hsz : its.size = ns.length := by have := IntsAre.length hit; simpa using this
  have hlt := obB_lt hl
  have hN : (s.heap.push (emS w)).objs.size = s.heap.objs.size + 1 := Heap.size_push ..
  refine call_set_seq (G := fun s' => ∃ h' tk c, s' = { s with heap := h', toks := tk } ∧ SetR w h' s.heap.objs.size (fun j => decide (j ∈ ns)) c ∧ c ≤ ns.length ∧ ∀ b o, s.heap.get? b = some o → h'.get? b = some o) hh hl (fun A' R h1 _ h2 => ?_) fun s' g => ?_
  · have hne : l ≠ (s.heap.push (emS w)).objs.size := by rw [hN]; exact Nat.ne_of_lt (Nat.lt_succ_of_lt hlt)
    have hSf : s.heap.objs.size ∉ [(s.heap.push (emS w)).objs.size, l] := by
      rw [hN]
      intro z
      rcases (by simpa using z : s.heap.objs.size = s.heap.objs.size + 1 ∨ s.heap.objs.size = l) with e | e
      · omega
      · rw [← e] at hlt; exact absurd hlt (Nat.lt_irrefl _)
    have hval : ∀ (i : Nat) (v : Value), its[i]? = some v → ∃ k t, ns[i]? = some k ∧ v = .int k t := fun i v hv => by
      have hi : i < ns.length := by rw [← hsz]; exact (Array.getElem?_eq_some_iff.mp hv).1
      obtain ⟨t, e⟩ := IntsAre.int_at hit i v (by rw [Array.getElem?_toList]; exact hv)
      rw [List.getD_eq_getElem?_getD, List.getElem?_eq_getElem hi] at e
      exact ⟨ns[i], t, List.getElem?_eq_getElem hi, e⟩
    refine set_update_ints ((walkB (b := b) h1 _ l hne its).toS) s.heap.objs.size hSf ns hsz hb hval (its.size - 0) 0 _ (by omega) (Nat.zero_le _) ⟨itB_new, obB_push _ (obB_push _ hl)⟩ ⟨0, Nat.le_refl 0, setR_new_at (Heap.get?_push_of_some _ (Heap.get?_push_size _ rfl))⟩ fun s' c hm hc hS => h2 s' ?_
    obtain ⟨hp, g2, d2, tk, os2⟩ := s'
    have q1 : g2 = s.gens := hm.gens
    have q2 : d2 = s.drawn := hm.drawn
    have q3 : os2 = s.os := hm.os
    subst q1 q2 q3
    refine ⟨hp, tk, c, rfl, hS, by omega, fun a o e => hm.heap a o (fun z => ?_) (Heap.get?_push_of_some _ (Heap.get?_push_of_some _ e))⟩
    have ha := Heap.lt_size e
    rw [hN] at z
    rcases (by simpa using z : a = s.heap.objs.size ∨ a = s.heap.objs.size + 1) with e | e
    · rw [e] at ha; exact absurd ha (Nat.lt_irrefl _)
    · rw [e] at ha; exact absurd ha (Nat.not_lt_of_le (Nat.le_succ _))
  · obtain ⟨h', tk, c, rfl, h1, h2, h3⟩ := g
    refine ⟨h h' tk c h1 h2 h3, ?_⟩
    obtain ⟨o, _, _, _, ho, hex, _⟩ := h1
    exact ⟨o, ho, hex.1⟩
theorem set_tups {b : Bool} {l : Addr} {its : Array Value} (ks : List (Addr × List Int)) {Q : Value → Shared → Prop} (hh : A.handled = none) (hl : ObB b s.heap l its) (hit : its.toList = ks.map fun p => Value.ref p.1) (hk : ∀ p ∈ ks, IsT P w s.heap p.2 p.1) (hf : ks.length < 64) (hu : A.units + 64 < cLine)
    (h : ∀ h' tk L es ep t, SetTR P w h' s.heap.objs.size L es ep t → Got ks ks.length L → (∀ b o, s.heap.get? b = some o → h'.get? b = some o) → Q (.ref s.heap.objs.size) { s with heap := h', toks := tk }) :
    wpAny (model P w) A (call (.type "set") [.ref l]) Q E s := by
  have hsz : its.size = ks.length := by have := congrArg List.length hit; simpa using this
  have hlt := obB_lt hl
  have hN : (s.heap.push (emS w)).objs.size = s.heap.objs.size + 1 := Heap.size_push ..
  have none_of : ∀ a, s.heap.objs.size ≤ a → s.heap.get? a = none := fun a ha => by
    cases q : s.heap.get? a with
    | none => rfl
    | some o => exact absurd (Nat.lt_of_lt_of_le (Heap.lt_size q) ha) (Nat.lt_irrefl _)
  refine call_set_seq (G := fun s' => ∃ h' tk L es ep t, s' = { s with heap := h', toks := tk } ∧ SetTR P w h' s.heap.objs.size L es ep t ∧ Got ks ks.length L ∧ ∀ b o, s.heap.get? b = some o → h'.get? b = some o) hh hl (fun A' R h1 hu' h2 => ?_) fun s' g => ?_
  · have hne : l ≠ (s.heap.push (emS w)).objs.size := by rw [hN]; exact Nat.ne_of_lt (Nat.lt_succ_of_lt hlt)
    have hSf : s.heap.objs.size ∉ [(s.heap.push (emS w)).objs.size, l] := by
      rw [hN]
      intro z
      rcases (by simpa using z : s.heap.objs.size = s.heap.objs.size + 1 ∨ s.heap.objs.size = l) with e | e
      · omega
      · rw [← e] at hlt; exact absurd hlt (Nat.lt_irrefl _)
    have hval : ∀ (i : Nat) (v : Value), its[i]? = some v → ∃ p, ks[i]? = some p ∧ v = .ref p.1 := fun i v hv => by
      have q : its.toList[i]? = some v := by rw [Array.getElem?_toList]; exact hv
      rw [hit, List.getElem?_map] at q
      obtain ⟨p, e1, e2⟩ := Option.map_eq_some_iff.mp q
      exact ⟨p, e1, e2.symm⟩
    refine set_update_tups ((walkB (b := b) h1 _ l hne its).toS) s.heap.objs.size hSf ks hsz hf hval s.heap hk (none_of _ (Nat.le_refl _)) (fun a ha => none_of a (by rw [List.mem_singleton.mp ha, hN]; exact Nat.le_succ _)) (by omega) (its.size - 0) 0 _ (by omega) (Nat.zero_le _) ⟨itB_new, obB_push _ (obB_push _ hl)⟩ (fun a o e => Heap.get?_push_of_some _ (Heap.get?_push_of_some _ e)) ⟨[], #[], 0, _, setTR_fresh (Heap.get?_push_of_some _ (Heap.get?_push_size _ rfl)), Got.zero ks⟩ fun s' L es ep t hm hS g' hkp => h2 s' ?_
    obtain ⟨hp, g2, d2, tk, os2⟩ := s'
    have q1 : g2 = s.gens := hm.gens
    have q2 : d2 = s.drawn := hm.drawn
    have q3 : os2 = s.os := hm.os
    subst q1 q2 q3
    rw [hsz] at g'
    exact ⟨hp, tk, L, es, ep, t, rfl, hS, g', hkp⟩
  · obtain ⟨h', tk, L, es, ep, t, rfl, h1, h2, h3⟩ := g
    refine ⟨h h' tk L es ep t h1 h2 h3, ?_⟩
    obtain ⟨o, ho, hex, _⟩ := h1.ob
    exact ⟨o, ho, hex.1⟩
end
end Ev

/-! max, min of a tuple of ints; sorted(set(..)) of a tuple of ints; len(set(..)) of a list of ints -/
namespace Ev
open PySem L2 PyProof.Rows
section
variable {prog : Program} {w : World} {A : Around} {E : Value → Shared → Prop} {s : Shared} {l : Addr} {its : List Value} {ns : List Int} {Q : Value → Shared → Prop}
theorem iv_at (hi : IntsAre its ns) (i : Nat) (v : Value) (h : its.toArray[i]? = some v) : ∃ t, v = .int (ns.getD i 0) t := by
  have h' : its[i]? = some v := by simpa using h
  exact IntsAre.int_at hi i v h'
theorem getD_in {k : Nat} (h : k < ns.length) : ns.getD k 0 ∈ ns := by
  rw [List.getD_eq_getElem?_getD, List.getElem?_eq_getElem h]
  exact List.getElem_mem h
theorem tup_kept {h' : Heap} {o : Obj} (hk : ∀ b u, b ∉ [s.heap.objs.size] → (s.heap.push o).get? b = some u → h'.get? b = some u) (b : Addr) (u : Obj) (e : s.heap.get? b = some u) : h'.get? b = some u :=
  hk b u (fun z => by
    have e1 : b = s.heap.objs.size := by simpa using z
    exact absurd (Heap.lt_size e) (by rw [e1]; exact Nat.lt_irrefl _)) (Heap.get?_push_of_some _ e)
theorem tup_fp {o : Obj} (hlt : l < s.heap.objs.size) (b : Addr) (hb : b ∈ [s.heap.objs.size, l]) : b < (s.heap.push o).objs.size := by
  rw [Heap.size_push]
  rcases (by simpa using hb : b = s.heap.objs.size ∨ b = l) with e | e
  · rw [e]; exact Nat.lt_succ_self _
  · rw [e]; exact Nat.lt_succ_of_lt hlt
theorem tup_lt (hl : s.heap.IsTuple l its.toArray) : l < s.heap.objs.size := by
  obtain ⟨_, e, _⟩ := hl
  exact Heap.lt_size e
theorem max_tup (hh : A.handled = none) (hl : s.heap.IsTuple l its.toArray) (hi : IntsAre its ns) (hne : 0 < ns.length)
    (h : ∀ h' tk M t', (∀ b o, s.heap.get? b = some o → h'.get? b = some o) → M ∈ ns → (∀ a, a ∈ ns → a ≤ M) → Q (.int M t') { s with heap := h', toks := tk }) : wpAny (model prog w) A (call (.builtin "max") [.ref l]) Q E s := by
  have hlen := IntsAre.length hi
  have hlt := tup_lt hl
  refine call_max_walk (wpAny_pyIter_tuple hl ?_)
  refine ⟨s.heap.objs.size, _, _, _, _, _, fun i j => decide (ns.getD i 0 > ns.getD j 0), rfl, Walks.tuple (A := A.in1) hh _ l (Nat.ne_of_lt hlt) its.toArray, ⟨⟨_, Heap.get?_push_size _ rfl, rfl, rfl⟩, hl.push _⟩, tup_fp hlt, by simp; omega, CmpOf.ints_gt (fun i => ns.getD i 0) (iv_at hi), fun v h' tk hP hk => ?_⟩
  obtain ⟨t, rfl⟩ := iv_at hi _ v hP
  obtain ⟨h1, h2⟩ := argBest_gt (fun i => ns.getD i 0) (its.toArray.size - 1)
  have hsz : its.toArray.size = ns.length := by simpa using hlen
  refine h h' tk _ t (tup_kept hk) (getD_in (by omega)) fun a ha => ?_
  obtain ⟨j, hj, rfl⟩ := List.getElem_of_mem ha
  have := h2 j (by omega)
  simp only [List.getD_eq_getElem?_getD, List.getElem?_eq_getElem hj, Option.getD_some] at this ⊢
  exact this
theorem min_tup (hh : A.handled = none) (hl : s.heap.IsTuple l its.toArray) (hi : IntsAre its ns) (hne : 0 < ns.length)
    (h : ∀ h' tk M t', (∀ b o, s.heap.get? b = some o → h'.get? b = some o) → M ∈ ns → (∀ a, a ∈ ns → M ≤ a) → Q (.int M t') { s with heap := h', toks := tk }) : wpAny (model prog w) A (call (.builtin "min") [.ref l]) Q E s := by
  have hlen := IntsAre.length hi
  have hlt := tup_lt hl
  refine call_min_walk (wpAny_pyIter_tuple hl ?_)
  refine ⟨s.heap.objs.size, _, _, _, _, _, fun i j => decide (ns.getD i 0 < ns.getD j 0), rfl, Walks.tuple (A := A.in1) hh _ l (Nat.ne_of_lt hlt) its.toArray, ⟨⟨_, Heap.get?_push_size _ rfl, rfl, rfl⟩, hl.push _⟩, tup_fp hlt, by simp; omega, CmpOf.ints_lt (fun i => ns.getD i 0) (iv_at hi), fun v h' tk hP hk => ?_⟩
  obtain ⟨t, rfl⟩ := iv_at hi _ v hP
  obtain ⟨h1, h2⟩ := argBest_lt (fun i => ns.getD i 0) (its.toArray.size - 1)
  have hsz : its.toArray.size = ns.length := by simpa using hlen
  refine h h' tk _ t (tup_kept hk) (getD_in (by omega)) fun a ha => ?_
  obtain ⟨j, hj, rfl⟩ := List.getElem_of_mem ha
  have := h2 j (by omega)
  simp only [List.getD_eq_getElem?_getD, List.getElem?_eq_getElem hj, Option.getD_some] at this ⊢
  exact this
end
section
variable {X : Cx}
theorem cr_maxT (hc : X.calm = true) : CallR X (.builtin "max") (fun vs H Q => ∃ (a : Addr) (ns : List Int), vs = [V.ref a] ∧ SqT X.K H a (ns.map V.int) ∧ 0 < ns.length ∧ ∀ m, m ∈ ns → (∀ y, y ∈ ns → y ≤ m) → Q (.int m) H) := by
  intro pins s σ H vs us Q I r h
  obtain ⟨a, ns, rfl, hs, hne, q⟩ := h
  obtain ⟨its, rv, hl, _⟩ := I.tuple hs
  rw [Vals.ref1 r]
  exact max_tup (I.ok.hd hc) hl rv.ints hne fun h' tk m t' hk h1 h2 => ⟨V.int m, H, I.kept hk, ⟨t', rfl⟩, q m h1 h2⟩
theorem cr_minT (hc : X.calm = true) : CallR X (.builtin "min") (fun vs H Q => ∃ (a : Addr) (ns : List Int), vs = [V.ref a] ∧ SqT X.K H a (ns.map V.int) ∧ 0 < ns.length ∧ ∀ m, m ∈ ns → (∀ y, y ∈ ns → m ≤ y) → Q (.int m) H) := by
  intro pins s σ H vs us Q I r h
  obtain ⟨a, ns, rfl, hs, hne, q⟩ := h
  obtain ⟨its, rv, hl, _⟩ := I.tuple hs
  rw [Vals.ref1 r]
  exact min_tup (I.ok.hd hc) hl rv.ints hne fun h' tk m t' hk h1 h2 => ⟨V.int m, H, I.kept hk, ⟨t', rfl⟩, q m h1 h2⟩
/-- a set of ints in the store -/
def SetRO (w : World) (a : Addr) (ns : List Int) : HO := .ext fun h => ∃ n, n < 64 ∧ SetR w h a (fun j => decide (j ∈ ns)) n
theorem setRO_new {P : Program} {w : World} {H : Hp} {h : Heap} {a : Addr} {ns : List Int} {n : Nat} (hn : n < 64) (R : SetR w h a (fun j => decide (j ∈ ns)) n) : ObjOk P w H h a (SetRO w a ns) := by
  obtain ⟨o, _, _, _, ho, _⟩ := id R
  refine ⟨⟨n, hn, R⟩, ⟨o, ho⟩, fun h1 h2 p k => ?_⟩
  obtain ⟨m, hm, R'⟩ := p
  exact ⟨m, hm, R'.at k⟩
theorem nodup_subI : ∀ {A B : List Int}, A.Nodup → (∀ x ∈ A, x ∈ B) → A.length ≤ B.length
  | [], _, _, _ => by simp
  | a :: r, B, h, hs => by
    rw [List.nodup_cons] at h
    have ha := hs a (by simp)
    have := nodup_subI (B := B.erase a) h.2 fun x hx => (List.mem_erase_of_ne (fun e : x = a => h.1 (e ▸ hx))).mpr (hs x (by simp [hx]))
    rw [List.length_erase_of_mem ha] at this
    have := List.length_pos_of_mem ha
    simp; omega
theorem setR_size {w : World} {h : Heap} {a : Addr} {ns ks : List Int} {c : Nat} (R : SetR w h a (fun j => decide (j ∈ ns)) c) (hk : ∀ j ∈ ns, j ∈ ks) : c ≤ ks.length := by
  obtain ⟨o, es, ep, t, ho, hex, hd, _, nd, hm, _, hf, he, _, _⟩ := R
  have := nodup_subI nd fun x hx => hk x (by simpa using (hm x).mpr hx)
  rw [List.length_map, Array.length_toList] at this
  omega
theorem cr_setI (hc : X.calm = true) : CallR X (.type "set") (fun vs H Q => ∃ (l : Addr) (ns : List Int), vs = [V.ref l] ∧ (SqL X.K H l (ns.map V.int) ∨ SqT X.K H l (ns.map V.int)) ∧ (ns.length < 4000 ∧ ∃ ks : List Int, ks.length < 60 ∧ ∀ j ∈ ns, j ∈ ks) ∧ ∀ a, H a = none → Q (.ref a) (upd H a (SetRO X.w a ns))) := by
  intro pins s σ H vs us Q I r h
  obtain ⟨l, ns, rfl, hs, ⟨hl, ks, hks, hsub⟩, q⟩ := h
  rw [Vals.ref1 r]
  have fin : ∀ (h' : Heap) (tk c : Nat), SetR X.w h' s.heap.objs.size (fun j => decide (j ∈ ns)) c → c ≤ ns.length → (∀ b o, s.heap.get? b = some o → h'.get? b = some o) → EP X pins σ Q (.ref s.heap.objs.size) { s with heap := h', toks := tk } := fun h' tk c R hcn hk =>
    ⟨.ref s.heap.objs.size, _, I.laid (t' := tk) hk (Nat.le_refl _) (setRO_new (by have := setR_size R hsub; omega) R), rfl, q _ (I.hok.fresh (Nat.le_refl _))⟩
  rcases hs with hs | hs
  · obtain ⟨its, rv, hp, _⟩ := I.list hs
    exact set_ints (b := false) (P := X.prog) (w := X.w) ns (I.ok.hd hc) hp.isList (by simpa using rv.ints) (by unfold scanBound; omega) fin
  · obtain ⟨its, rv, hp, _⟩ := I.tuple hs
    exact set_ints (b := true) (P := X.prog) (w := X.w) ns (I.ok.hd hc) hp (by simpa using rv.ints) (by unfold scanBound; omega) fin
theorem cr_setT (hc : X.calm = true) (hu : X.A.units + 64 < cLine) : CallR X (.type "set") (fun xs H Q => ∃ (l : Addr) (ks : List (Addr × List Int)), xs = [V.ref l] ∧ (SqL X.K H l (ks.map fun p => V.ref p.1) ∨ SqT X.K H l (ks.map fun p => V.ref p.1)) ∧ (∀ p ∈ ks, SqT X.K H p.1 (p.2.map V.int)) ∧ ks.length < 64 ∧
    ∀ a L, H a = none → (∀ p ∈ L, p ∈ ks) → (∀ p ∈ ks, p.2 ∈ L.map (·.2)) → Q (.ref a) (upd H a (SetTO X.prog X.w a L))) := by
  intro pins s σ H xs us Q I r h
  obtain ⟨l, ks, rfl, hs, hk, hf, q⟩ := h
  rw [Vals.ref1 r]
  have fin : ∀ h' tk L es ep t, SetTR X.prog X.w h' s.heap.objs.size L es ep t → Got ks ks.length L → (∀ b o, s.heap.get? b = some o → h'.get? b = some o) → EP X pins σ Q (.ref s.heap.objs.size) { s with heap := h', toks := tk } := fun h' tk L es ep t R g k =>
    ⟨.ref s.heap.objs.size, _, I.laid (t' := tk) k (Nat.le_refl _) (setTO_new R.t0), rfl, q _ L (I.hok.fresh (Nat.le_refl _)) (fun p hp => List.mem_of_mem_take (g.sub p hp)) fun p hp => g.all p (by rw [List.take_length]; exact hp)⟩
  rcases hs with hs | hs
  · obtain ⟨its, rv, hp, _⟩ := I.list hs
    exact set_tups (b := false) (P := X.prog) (w := X.w) ks (I.ok.hd hc) hp.isList (by simpa using refs_of_vals rv) (fun p hp => I.isT (hk p hp)) hf hu fin
  · obtain ⟨its, rv, hp, _⟩ := I.tuple hs
    exact set_tups (b := true) (P := X.prog) (w := X.w) ks (I.ok.hd hc) hp (by simpa using refs_of_vals rv) (fun p hp => I.isT (hk p hp)) hf hu fin
theorem cr_sortedSetI (hc : X.calm = true) : CallR X (.builtin "sorted") (fun vs H Q => ∃ (a : Addr) (ns : List Int), vs = [V.ref a] ∧ H a = some (SetRO X.w a ns) ∧ ∀ (ms : List Int) (p : Addr), ms.Pairwise (· < ·) → (∀ k, k ∈ ms ↔ k ∈ ns) → ms.length < 64 → H p = none → Q (.ref p) (upd H p (.lst (ms.map V.int)))) := by
  intro pins s σ H vs us Q I r h
  obtain ⟨a, ns, rfl, ha, q⟩ := h
  obtain ⟨n, hn, R⟩ := (I.hok a _ ha).1
  rw [Vals.ref1 r]
  refine sorted_set R (I.ok.hd hc) hn fun s' p out c ms k g o hp hg hout pw mem hml => ?_
  have hlen : (ms.map V.int).length ≤ sizeLine := by rw [List.length_map, sizeLine_eq]; omega
  have hv : Vals (ms.map V.int) out.toList := vals_ints hout
  have J : Inv X pins σ (upd H p (.lst (ms.map V.int))) { s with heap := s'.heap, gens := s'.gens, drawn := s'.drawn, toks := s'.toks } :=
    I.call (ch := []) (Un.laid k hp (I.hok.fresh hp)) (I.hok.laid k hp ⟨hlen, out.toList, c, hv, hg⟩) (by rw [g]; exact I.bare) (fun _ z => nomatch z)
  have e : s' = { s with heap := s'.heap, gens := s'.gens, drawn := s'.drawn, toks := s'.toks } := by
    obtain ⟨a1, a2, a3, a4, a5⟩ := s'
    have : a5 = s.os := o
    rw [this]
  rw [e]
  exact ⟨.ref p, _, J, rfl, q ms p pw (fun k => by rw [mem k]; simp) (by omega) (I.hok.fresh hp)⟩
end
end Ev

/-! sorted(set(xs)): tuples of ints -/
namespace Ev
open PySem L2 PySem.W PyProof.Rows
mutual
theorem same_eq : ∀ (a b : PV), a.same b = true → a = b
  | .non, .non, _ => rfl
  | .bl a, .bl b, h => by simp [PV.same] at h; rw [h]
  | .int a, .int b, h => by simp [PV.same] at h; rw [h]
  | .str a, .str b, h => by simp [PV.same] at h; rw [h]
  | .ref a, .ref b, h => by simp [PV.same] at h; rw [h]
  | .tup a, .tup b, h => by rw [sameL_eq a b (by simpa [PV.same] using h)]
  | .lst a, .lst b, h => by rw [sameL_eq a b (by simpa [PV.same] using h)]
  | .arg _, b, h => by cases b <;> simp [PV.same] at h
  | .non, .bl _, h => by simp [PV.same] at h
  | .non, .int _, h => by simp [PV.same] at h
  | .non, .str _, h => by simp [PV.same] at h
  | .non, .tup _, h => by simp [PV.same] at h
  | .non, .lst _, h => by simp [PV.same] at h
  | .non, .ref _, h => by simp [PV.same] at h
  | .non, .arg _, h => by simp [PV.same] at h
  | .bl _, .non, h => by simp [PV.same] at h
  | .bl _, .int _, h => by simp [PV.same] at h
  | .bl _, .str _, h => by simp [PV.same] at h
  | .bl _, .tup _, h => by simp [PV.same] at h
  | .bl _, .lst _, h => by simp [PV.same] at h
  | .bl _, .ref _, h => by simp [PV.same] at h
  | .bl _, .arg _, h => by simp [PV.same] at h
  | .int _, .non, h => by simp [PV.same] at h
  | .int _, .bl _, h => by simp [PV.same] at h
  | .int _, .str _, h => by simp [PV.same] at h
  | .int _, .tup _, h => by simp [PV.same] at h
  | .int _, .lst _, h => by simp [PV.same] at h
  | .int _, .ref _, h => by simp [PV.same] at h
  | .int _, .arg _, h => by simp [PV.same] at h
  | .str _, .non, h => by simp [PV.same] at h
  | .str _, .bl _, h => by simp [PV.same] at h
  | .str _, .int _, h => by simp [PV.same] at h
  | .str _, .tup _, h => by simp [PV.same] at h
  | .str _, .lst _, h => by simp [PV.same] at h
  | .str _, .ref _, h => by simp [PV.same] at h
  | .str _, .arg _, h => by simp [PV.same] at h
  | .tup _, .non, h => by simp [PV.same] at h
  | .tup _, .bl _, h => by simp [PV.same] at h
  | .tup _, .int _, h => by simp [PV.same] at h
  | .tup _, .str _, h => by simp [PV.same] at h
  | .tup _, .lst _, h => by simp [PV.same] at h
  | .tup _, .ref _, h => by simp [PV.same] at h
  | .tup _, .arg _, h => by simp [PV.same] at h
  | .lst _, .non, h => by simp [PV.same] at h
  | .lst _, .bl _, h => by simp [PV.same] at h
  | .lst _, .int _, h => by simp [PV.same] at h
  | .lst _, .str _, h => by simp [PV.same] at h
  | .lst _, .tup _, h => by simp [PV.same] at h
  | .lst _, .ref _, h => by simp [PV.same] at h
  | .lst _, .arg _, h => by simp [PV.same] at h
  | .ref _, .non, h => by simp [PV.same] at h
  | .ref _, .bl _, h => by simp [PV.same] at h
  | .ref _, .int _, h => by simp [PV.same] at h
  | .ref _, .str _, h => by simp [PV.same] at h
  | .ref _, .tup _, h => by simp [PV.same] at h
  | .ref _, .lst _, h => by simp [PV.same] at h
  | .ref _, .arg _, h => by simp [PV.same] at h
theorem sameL_eq : ∀ (a b : List PV), sameL a b = true → a = b
  | [], [], _ => rfl
  | x :: xs, y :: ys, h => by
    simp only [sameL, Bool.and_eq_true] at h
    rw [same_eq x y h.1, sameL_eq xs ys h.2]
  | [], _ :: _, h => by simp [sameL] at h
  | _ :: _, [], h => by simp [sameL] at h
end
/-- a tuple of ints -/
def tupI (ns : List Int) : PV := .tup (ns.map .int)
theorem int_eqs {a b : List Int} (h : a.map PV.int = b.map PV.int) : a = b := by
  induction a generalizing b with
  | nil => cases b <;> simp at h; rfl
  | cons x r ih =>
    cases b with
    | nil => simp at h
    | cons y t => simp at h; rw [h.1, ih (by simpa using h.2)]
theorem tupI_inj {a b : List Int} (h : tupI a = tupI b) : a = b := int_eqs (by simpa [tupI] using h)
theorem same_int (a b : List Int) : sameL (a.map .int) (b.map .int) = decide (a = b) := by
  induction a generalizing b with
  | nil => cases b <;> simp [sameL]
  | cons x r ih =>
    cases b with
    | nil => simp [sameL]
    | cons y t =>
      simp only [List.map_cons, sameL, PV.same, ih]
      by_cases h : x = y <;> by_cases h2 : r = t <;> simp [h, h2]
theorem datL_int : ∀ a : List Int, datL (a.map .int) = a.map .int
  | [] => rfl
  | x :: r => by simp [datL, PV.dat, datL_int r]
theorem ltP_int (a b : List Int) : ltP (tupI a) (tupI b) = decide (a < b) := by
  unfold ltP tupI
  simp only [PV.dat, datL_int, dataLt_tuple]
  exact dataLt_ints a b
theorem nat_list : ∀ (xs : List PV), (xs.all fun x => match x with
    | .int i => decide (0 ≤ i)
    | _ => false) = true → ∃ ns : List Int, xs = ns.map .int ∧ ∀ n ∈ ns, 0 ≤ n
  | [], _ => ⟨[], rfl, by simp⟩
  | y :: r, h => by
    simp only [List.all_cons, Bool.and_eq_true] at h
    obtain ⟨ns, e, p⟩ := nat_list r h.2
    cases y with
    | int i =>
      refine ⟨i :: ns, by rw [e] <;> rfl, fun n hn => ?_⟩
      rcases List.mem_cons.mp hn with q | q
      · rw [q]; simpa using h.1
      · exact p n q
    | _ => simp at h
theorem natTup_shape {d : Nat} {x : PV} (h : natTup d x = true) : ∃ ns : List Int, x = tupI ns ∧ ns.length = d ∧ ∀ n ∈ ns, 0 ≤ n := by
  cases x with
  | tup xs =>
    simp only [natTup, Bool.and_eq_true, decide_eq_true_eq] at h
    obtain ⟨ns, e, p⟩ := nat_list xs h.2
    subst e
    exact ⟨ns, rfl, by simpa using h.1, p⟩
  | _ => simp [natTup] at h
section
variable {K : PySem.W.Frag} {H : Hp} {rs : Rs} {st st' : Sto}
theorem rep_ints : ∀ {vs : List V} {ns : List Int}, RepL K H rs vs (ns.map .int) → vs = ns.map V.int
  | _, [], .nil => rfl
  | _, n :: ns, .cons h r => by
    cases h
    rw [rep_ints r] <;> rfl
theorem ints_rep : ∀ ns : List Int, RepL K H rs (ns.map V.int) (ns.map .int)
  | [] => .nil
  | n :: ns => .cons (.int n) (ints_rep ns)
theorem rep_tups {d : Nat} : ∀ {vs : List V} {xs : List PV}, RepL K H rs vs xs → (∀ x ∈ xs, natTup d x = true) →
    ∃ ks : List (Addr × List Int), vs = ks.map (fun p => V.ref p.1) ∧ xs = ks.map (fun p => tupI p.2) ∧ ∀ p ∈ ks, Rep K H rs (.ref p.1) (tupI p.2) ∧ SqT K H p.1 (p.2.map V.int) ∧ p.2.length = d ∧ ∀ n ∈ p.2, 0 ≤ n
  | _, _, .nil, _ => ⟨[], rfl, rfl, by simp⟩
  | _, _, .cons (p := x) h r, hx => by
    obtain ⟨ks, e1, e2, e3⟩ := rep_tups r fun y hy => hx y (by simp [hy])
    obtain ⟨ns, rfl, hl, hp⟩ := natTup_shape (hx x (by simp))
    cases h with
    | tup q rl z0 =>
      refine ⟨(_, ns) :: ks, by rw [e1] <;> rfl, by rw [e2] <;> rfl, fun p hp2 => ?_⟩
      rcases List.mem_cons.mp hp2 with z | z
      · subst z
        exact ⟨.tup q rl z0, by have := sqT_of (K := K) q; rwa [rep_ints rl] at this, hl, hp⟩
      · exact e3 p z
theorem tups_rep : ∀ (L : List (Addr × List Int)), (∀ p ∈ L, Rep K H rs (.ref p.1) (tupI p.2)) → RepL K H rs (L.map fun p => V.ref p.1) (L.map fun p => tupI p.2)
  | [], _ => .nil
  | p :: L, h => .cons (h p (by simp)) (tups_rep L fun q hq => h q (by simp [hq]))
end
theorem dedup_mem : ∀ (xs : List PV) (x : PV), x ∈ dedup xs ↔ x ∈ xs
  | [], x => by simp [dedup]
  | y :: r, x => by
    unfold dedup
    split
    · rename_i h
      rw [dedup_mem r x, List.mem_cons]
      constructor
      · exact .inr
      · rintro (e | e)
        · obtain ⟨z, hz, hs⟩ := List.any_eq_true.mp h
          rw [e, ← same_eq z y hs]
          exact (dedup_mem r z).mp hz
        · exact e
    · rw [List.mem_cons, List.mem_cons, dedup_mem r x]
mutual
theorem same_refl : ∀ a : PV, a.ground = true → a.same a = true
  | .non, _ => rfl
  | .bl a, _ => by simp [PV.same]
  | .int a, _ => by simp [PV.same]
  | .str a, _ => by simp [PV.same]
  | .tup a, h => by simp only [PV.same]; exact sameL_refl a (by simpa [PV.ground] using h)
  | .lst a, h => by simp only [PV.same]; exact sameL_refl a (by simpa [PV.ground] using h)
theorem sameL_refl : ∀ a : List PV, groundL a = true → sameL a a = true
  | [], _ => rfl
  | x :: r, h => by
    simp only [groundL, Bool.and_eq_true] at h
    simp [sameL, same_refl x h.1, sameL_refl r h.2]
end
theorem dedup_nd : ∀ (xs : List PV), (∀ x ∈ xs, x.ground = true) → (dedup xs).Nodup
  | [], _ => List.nodup_nil
  | y :: r, h => by
    have ih := dedup_nd r fun x hx => h x (by simp [hx])
    unfold dedup
    split
    · exact ih
    · rename_i hn
      refine List.nodup_cons.mpr ⟨fun hm => hn (List.any_eq_true.mpr ⟨y, hm, same_refl y (h y (by simp))⟩), ih⟩
theorem ground_int : ∀ a : List Int, groundL (a.map .int) = true
  | [] => rfl
  | x :: r => by simp [groundL, PV.ground, ground_int r]
theorem code_lex {B : Int} : ∀ {a b : List Int}, a.length = b.length → TS.Bd B a → TS.Bd B b → a < b → TS.code B a < TS.code B b
  | [], [], _, _, _, h => absurd h (List.lt_irrefl _)
  | x :: a, y :: b, hl, ha, hb, h => by
    have hl' : a.length = b.length := by simpa using hl
    have ha' : TS.Bd B a := fun m hm => ha m (by simp [hm])
    have hb' : TS.Bd B b := fun m hm => hb m (by simp [hm])
    rcases List.cons_lt_cons_iff.mp h with q | ⟨rfl, q⟩
    · exact TS.code_lt hl' ha' hb' q
    · exact (TS.code_same hl').mpr (code_lex hl' ha' hb' q)
/-- a bound for all -/
theorem bound_of : ∀ (L : List (List Int)), (∀ l ∈ L, ∀ n ∈ l, 0 ≤ n) → ∃ B : Int, ∀ l ∈ L, TS.Bd B l
  | [], _ => ⟨0, by simp⟩
  | l :: L, h => by
    obtain ⟨B, hB⟩ := bound_of L fun m hm => h m (by simp [hm])
    have one : ∀ l : List Int, (∀ n ∈ l, 0 ≤ n) → ∃ B : Int, TS.Bd B l := fun l => by
      induction l with
      | nil => intro _; exact ⟨0, fun m hm => by simp at hm⟩
      | cons x r ih =>
        intro hx
        obtain ⟨B, hB⟩ := ih fun n hn => hx n (by simp [hn])
        refine ⟨max B (x + 1), fun m hm => ?_⟩
        rcases List.mem_cons.mp hm with e | e
        · subst e
          exact ⟨hx m (by simp), by omega⟩
        · have := hB m e
          exact ⟨this.1, by omega⟩
    obtain ⟨C, hC⟩ := one l (h l (by simp))
    refine ⟨max B C, fun m hm k hk => ?_⟩
    rcases List.mem_cons.mp hm with e | e
    · subst e
      have := hC k hk
      exact ⟨this.1, by omega⟩
    · have := hB m e k hk
      exact ⟨this.1, by omega⟩
theorem sort_set {L' : List (Addr × List Int)} {xs : List PV} {B : Int} {d : Nat} (hm : ∀ x, x ∈ xs ↔ ∃ p ∈ L', x = tupI p.2) (nd : (L'.map (·.2)).Nodup) (hb : ∀ p ∈ L', p.2.length = d ∧ TS.Bd B p.2)
    (pw : L'.Pairwise fun q r => TS.code B q.2 ≤ TS.code B r.2) : sortL (dedup xs) = L'.map fun p => tupI p.2 := by
  have hg : ∀ x ∈ xs, x.ground = true := fun x hx => by
    obtain ⟨p, _, rfl⟩ := (hm x).mp hx
    simp only [tupI, PV.ground]; exact ground_int _
  have n1 : (sortL (dedup xs)).Nodup := (sortL_perm _).nodup_iff.mpr (dedup_nd xs hg)
  have n2 : (L'.map fun p => tupI p.2).Nodup := by
    have : (L'.map fun p => tupI p.2) = (L'.map (·.2)).map tupI := by rw [List.map_map] <;> rfl
    rw [this]
    exact List.pairwise_map.mpr (nd.imp fun {a b} hne e => hne (tupI_inj e))
  have mem : ∀ x, x ∈ sortL (dedup xs) ↔ x ∈ L'.map fun p => tupI p.2 := fun x => by
    rw [(sortL_perm _).mem_iff, dedup_mem, hm, List.mem_map]
    constructor
    · rintro ⟨p, h, rfl⟩; exact ⟨p, h, rfl⟩
    · rintro ⟨p, h, rfl⟩; exact ⟨p, h, rfl⟩
  refine List.Perm.eq_of_pairwise (le := fun a b => dataLe false PV.dat a b = true) (fun a b ha hb' h1 h2 => ?_) (sortL_pw _) ?_ ((List.perm_ext_iff_of_nodup n1 n2).mpr mem)
  · obtain ⟨p, _, rfl⟩ := List.mem_map.mp ((mem a).mp ha)
    obtain ⟨q, _, rfl⟩ := List.mem_map.mp hb'
    rw [le_def, ltP_int] at h1 h2
    simp only [Bool.not_eq_true', decide_eq_false_iff_not] at h1 h2
    have : p.2 = q.2 := List.le_antisymm (List.not_lt.mp h1) (List.not_lt.mp h2)
    rw [this]
  · refine List.pairwise_map.mpr (List.Pairwise.imp_of_mem (fun {p q} hp hq hle => ?_) pw)
    rw [le_def, ltP_int]
    simp only [Bool.not_eq_true', decide_eq_false_iff_not]
    intro hlt
    have := code_lex ((hb q hq).1.trans (hb p hp).1.symm) (hb q hq).2 (hb p hp).2 hlt
    omega
theorem ints_all : ∀ {xs : List PV}, xs.all isInt = true → ∃ ns : List Int, xs = ns.map .int
  | [], _ => ⟨[], rfl⟩
  | x :: r, h => by
    simp only [List.all_cons, Bool.and_eq_true] at h
    obtain ⟨ns, rfl⟩ := ints_all h.2
    cases x with
    | int i => exact ⟨i :: ns, rfl⟩
    | _ => simp [isInt] at h
theorem int_nd {ms : List Int} (h : ms.Nodup) : (ms.map PV.int).Nodup := List.pairwise_map.mpr (h.imp fun {a b} hne e => hne (by injection e))
theorem sort_setI {xs : List PV} {ms : List Int} (hm : ∀ x, x ∈ xs ↔ ∃ k ∈ ms, x = .int k) (pw : ms.Pairwise (· < ·)) : sortL (dedup xs) = ms.map .int := by
  have hg : ∀ x ∈ xs, x.ground = true := fun x hx => by
    obtain ⟨p, _, rfl⟩ := (hm x).mp hx
    simp only [PV.ground]
  have n1 : (sortL (dedup xs)).Nodup := (sortL_perm _).nodup_iff.mpr (dedup_nd xs hg)
  have nd : ms.Nodup := pw.imp fun {a b} h e => by omega
  have mem : ∀ x, x ∈ sortL (dedup xs) ↔ x ∈ ms.map PV.int := fun x => by
    rw [(sortL_perm _).mem_iff, dedup_mem, hm, List.mem_map]
    exact ⟨fun ⟨k, hk, e⟩ => ⟨k, hk, e.symm⟩, fun ⟨k, hk, e⟩ => ⟨k, hk, e.symm⟩⟩
  have lt : ∀ a b : Int, ltP (.int a) (.int b) = decide (a < b) := fun a b => PySem.W.dataLt_int a b
  refine List.Perm.eq_of_pairwise (le := fun a b => dataLe false PV.dat a b = true) (fun a b ha hb' h1 h2 => ?_) (sortL_pw _) ?_ ((List.perm_ext_iff_of_nodup n1 (int_nd nd)).mpr mem)
  · obtain ⟨p, _, rfl⟩ := List.mem_map.mp ((mem a).mp ha)
    obtain ⟨q, _, rfl⟩ := List.mem_map.mp hb'
    rw [le_def, lt] at h1 h2
    simp only [Bool.not_eq_true', decide_eq_false_iff_not] at h1 h2
    have : p = q := by omega
    rw [this]
  · refine List.pairwise_map.mpr (pw.imp fun {a b} h => ?_)
    rw [le_def, lt]
    simp only [Bool.not_eq_true', decide_eq_false_iff_not]
    omega
theorem setI_sub {ns : List Int} (h : (ns.map PV.int).length < 4000 ∧ (dedup (ns.map PV.int)).length < 60) : ns.length < 4000 ∧ ∃ ks : List Int, ks.length < 60 ∧ ∀ j ∈ ns, j ∈ ks := by
  refine ⟨by simpa using h.1, (dedup (ns.map PV.int)).map (fun v => match v with | .int i => i | _ => 0), by rw [List.length_map]; exact h.2, fun j hj => ?_⟩
  exact List.mem_map.mpr ⟨.int j, (dedup_mem _ _).mpr (List.mem_map.mpr ⟨j, hj, rfl⟩), rfl⟩
theorem keys_len {ns ks : List Int} (nd : ks.Nodup) (hm : ∀ k, k ∈ ks ↔ k ∈ ns) : (dedup (ns.map .int)).length = ks.length := by
  have hp : (dedup (ns.map PV.int)).Perm (ks.map PV.int) := by
    refine (List.perm_ext_iff_of_nodup (dedup_nd _ fun x hx => ?_) (int_nd nd)).mpr fun x => ?_
    · obtain ⟨k, _, rfl⟩ := List.mem_map.mp hx
      simp only [PV.ground]
    · rw [dedup_mem, List.mem_map, List.mem_map]
      exact ⟨fun ⟨k, hk, e⟩ => ⟨k, (hm k).mpr hk, e⟩, fun ⟨k, hk, e⟩ => ⟨k, (hm k).mp hk, e⟩⟩
  have := hp.length_eq
  rwa [List.length_map] at this
section
variable {X : Cx}
theorem cr_or {f : Value} {r1 r2 : List V → Hp → VK → Prop} (h1 : CallR X f r1) (h2 : CallR X f r2) : CallR X f (fun vs H Q => r1 vs H Q ∨ r2 vs H Q) := fun pins s σ H xs us Q I r h => by
  rcases h with h | h
  · exact h1 pins s σ H xs us Q I r h
  · exact h2 pins s σ H xs us Q I r h
theorem cr_lenSetI : CallR X (.builtin "len") (fun vs H Q => ∃ (a : Addr) (ns : List Int), vs = [V.ref a] ∧ H a = some (SetRO X.w a ns) ∧ Q (.int ((dedup (ns.map .int)).length : Nat)) H) := by
  intro pins s σ H vs us Q I r h
  obtain ⟨a, ns, rfl, ha, q⟩ := h
  obtain ⟨n, hn, R⟩ := (I.hok a _ ha).1
  rw [Vals.ref1 r]
  obtain ⟨o, es, ep, t, ho, hex, hd, _, nd, hm, _, hf, he, _, _⟩ := R
  have hl : (dedup (ns.map PV.int)).length = es.size := by
    rw [keys_len nd (fun k => by rw [← hm k]; simp), List.length_map, Array.length_toList]
  exact call_len_set ho hex hd hf (by omega) ⟨V.int ((dedup (ns.map .int)).length : Nat), H, I.tok _, ⟨s.toks + 1, by rw [hl]⟩, q⟩
end
section
variable {X : Cx} {K : PySem.W.Frag} {c : Cf} {rs rs1 : Rs} {st st' : Sto} {H H1 : Hp} {p1 p2 p3 pos : Pos} {a : Expr} {i : E} {x y : Str}
theorem xsortedSet {m : Bool} (hc : X.calm = true) (hu : X.A.units + 64 < cLine) (ha : PE X a (tE X.K c i)) (hs : isStar a = false) (g1 : Gl X x) (m1 : X.mg x = none) (v1 : bootBuiltins x = some (.builtin "sorted")) (n1 : x ≠ "__name__") (d1 : (x == ("__debug__" : Str)) = false)
    (g2 : Gl X y) (m2 : X.mg y = none) (v2 : bootBuiltins y = some (.type "set")) (n2 : y ≠ "__name__") (d2 : (y == ("__debug__" : Str)) = false) :
    PE X (.Call (.Name x p1) [.Call (.Name y p2) [a] [] p3] [] pos) (tE X.K c (.bi m .sortedSet (.cons i .nil))) := by
  refine pe_wk (pe_callB (cr_or (cr_sortedT hc) (cr_sortedSetI hc)) g1 m1 v1 (pa_cons (pe_callTy (cr_or (cr_setT hc hu) (cr_setI hc)) g2 m2 v2 (pa_cons ha pa_nil (star_no hs)) n2 d2 (star_no hs) rfl) pa_nil) n1 d1) fun σ H Q h => ?_
  obtain ⟨rs, st, ρ, v, st', g, er, e, q⟩ := h
  simp only [evE, evL, Option.bind_eq_some_iff, Option.map_eq_some_iff] at e
  obtain ⟨⟨xs, s1⟩, ⟨⟨w, s2⟩, e1, ⟨z, s3⟩, e2, e3⟩, e4⟩ := e
  cases e2
  cases e3
  simp only [biEv, setEvS, Option.bind_eq_some_iff] at e4
  obtain ⟨xs, e5, e6⟩ := e4
  split at e6
  · rename_i hset
    simp only [setI, Bool.and_eq_true, decide_eq_true_eq] at hset
    obtain ⟨ns, rfl⟩ := ints_all hset.1
    have hnl : ns.length < 4000 ∧ ∃ ks : List Int, ks.length < 60 ∧ ∀ j ∈ ns, j ∈ ks := setI_sub hset.2
    refine ⟨rs, st, ρ, _, _, g, er, e1, fun u H1 rs1 x1 g1 r1 => .inr ?_⟩
    obtain ⟨l, vs, rfl, hL, rl⟩ := r1.items g1 e5
    rw [rep_ints rl] at hL
    refine ⟨l, ns, rfl, hL, hnl, fun sa hsa => .inr ⟨sa, ns, rfl, upd_same, fun ms p pw mem hml hp => ?_⟩⟩
    have es : sortL (dedup (ns.map .int)) = ms.map .int := sort_setI (fun x => by
      rw [List.mem_map]
      exact ⟨fun ⟨k, hk, e⟩ => ⟨k, (mem k).mpr hk, e.symm⟩, fun ⟨k, hk, e⟩ => ⟨k, (mem k).mp hk, e.symm⟩⟩) pw
    rw [es] at e6
    have x2 : Ext rs1 H1 rs1 (upd H1 sa (SetRO X.w sa ns)) := Ext.new hsa
    exact post_mk (g1.new hsa) (ints_rep ms) (by rw [List.length_map, sizeLine_eq]; omega) e6 (q.ext (x1.trans x2)) p hp
  split at e6
  · rename_i hset
    simp only [setable, Bool.and_eq_true, decide_eq_true_eq, List.all_eq_true] at hset
    obtain ⟨⟨hl, hd⟩, ht⟩ := hset
    refine ⟨rs, st, ρ, w, _, g, er, e1, fun u H1 rs1 x1 g1 r1 => .inl ?_⟩
    obtain ⟨l, vs, rfl, hL, rl⟩ := r1.items g1 e5
    obtain ⟨ks, rfl, ex, hk⟩ := rep_tups rl ht
    have hkl : ks.length < 64 := by
      rw [ex, List.length_map] at hl
      exact hl
    refine ⟨l, ks, rfl, hL, fun p hp => (hk p hp).2.1, hkl, fun sa L hsa h1 h2 => .inl ?_⟩
    have x2 : Ext rs1 H1 rs1 (upd H1 sa (SetTO X.prog X.w sa L)) := Ext.new hsa
    have hL2 : ∀ p ∈ L, Rep X.K (upd H1 sa (SetTO X.prog X.w sa L)) rs1 (.ref p.1) (tupI p.2) := fun p hp => Rep.ext x2 _ _ (hk p (h1 p hp)).1
    have hSq : ∀ p ∈ L, SqT X.K (upd H1 sa (SetTO X.prog X.w sa L)) p.1 (p.2.map V.int) := fun p hp => by
      have r := hL2 p hp
      simp only [tupI] at r
      cases r with
      | tup q rl =>
        have := sqT_of (K := X.K) q
        rwa [rep_ints rl] at this
    obtain ⟨B, hB⟩ := bound_of (L.map (·.2)) fun m hm n hn => by
      obtain ⟨p, hp, rfl⟩ := List.mem_map.mp hm
      exact (hk p (h1 p hp)).2.2.2 n hn
    have hBd : ∀ p ∈ L, p.2.length = lenT xs ∧ TS.Bd B p.2 := fun p hp => ⟨(hk p (h1 p hp)).2.2.1, hB _ (List.mem_map.mpr ⟨p, hp, rfl⟩)⟩
    refine ⟨sa, L, lenT xs, B, rfl, upd_same, hSq, hd, hBd, fun L' p pm nd hl64 pw hp => ?_⟩
    have es : sortL (dedup xs) = L'.map fun p => tupI p.2 := by
      refine sort_set (fun z => ?_) nd (fun q hq => hBd q (pm.mem_iff.mp hq)) pw
      rw [ex, List.mem_map]
      constructor
      · rintro ⟨q, hq, rfl⟩
        obtain ⟨r, hr, e⟩ := List.mem_map.mp (h2 q hq)
        exact ⟨r, pm.mem_iff.mpr hr, by rw [e]⟩
      · rintro ⟨q, hq, rfl⟩
        exact ⟨q, h1 q (pm.mem_iff.mp hq), rfl⟩
    rw [es] at e6
    exact post_mk (g1.new hsa) (tups_rep L' fun q hq => hL2 q (pm.mem_iff.mp hq)) (by rw [List.length_map, sizeLine_eq]; omega) e6 (q.ext (x1.trans x2)) p hp
  · cases e6
theorem xlenSet {m : Bool} (hc : X.calm = true) (ha : PE X a (tE X.K c i)) (hs : isStar a = false) (g1 : Gl X x) (m1 : X.mg x = none) (v1 : bootBuiltins x = some (.builtin "len")) (n1 : x ≠ "__name__") (d1 : (x == ("__debug__" : Str)) = false)
    (g2 : Gl X y) (m2 : X.mg y = none) (v2 : bootBuiltins y = some (.type "set")) (n2 : y ≠ "__name__") (d2 : (y == ("__debug__" : Str)) = false) :
    PE X (.Call (.Name x p1) [.Call (.Name y p2) [a] [] p3] [] pos) (tE X.K c (.bi m .lenSet (.cons i .nil))) := by
  refine pe_wk (pe_callB cr_lenSetI g1 m1 v1 (pa_cons (pe_callTy (cr_setI hc) g2 m2 v2 (pa_cons ha pa_nil (star_no hs)) n2 d2 (star_no hs) rfl) pa_nil) n1 d1) fun σ H Q h => ?_
  obtain ⟨rs, st, ρ, v, st', g, er, e, q⟩ := h
  simp only [evE, evL, Option.bind_eq_some_iff, Option.map_eq_some_iff] at e
  obtain ⟨⟨xs, s1⟩, ⟨⟨w, s2⟩, e1, ⟨z, s3⟩, e2, e3⟩, e4⟩ := e
  cases e2
  cases e3
  simp only [biEv, Option.bind_eq_some_iff] at e4
  obtain ⟨xs, e5, e6⟩ := e4
  split at e6
  · rename_i hset
    simp only [setI, Bool.and_eq_true, decide_eq_true_eq] at hset
    cases e6
    obtain ⟨ns, rfl⟩ := ints_all hset.1
    refine ⟨rs, st, ρ, w, _, g, er, e1, fun u H1 rs1 x1 g1 r1 => ?_⟩
    obtain ⟨l, vs, rfl, hL, rl⟩ := r1.items g1 e5
    rw [rep_ints rl] at hL
    have hnl : ns.length < 4000 ∧ ∃ ks : List Int, ks.length < 60 ∧ ∀ j ∈ ns, j ∈ ks := setI_sub hset.2
    refine ⟨l, ns, rfl, hL, hnl, fun sa hsa => ⟨sa, ns, rfl, upd_same, ?_⟩⟩
    exact (q.ext (x1.trans (Ext.new hsa))).here (g1.new hsa) (.int _)
  · cases e6
end
end Ev

/-! calls of built-in functions -/
namespace Ev
open PySem L2
def rBI (K : PySem.W.Frag) (m : Bool) (b : BI) : List V → Hp → VK → Prop := fun vs H Q => ∃ rs st ps v st', Good K rs st H ∧ RepL K H rs vs ps ∧ biEv m b ps st = some (v, st') ∧ Post K rs H st' v Q
def biFn : BI → Value
  | .len => .builtin "len" | .abs => .builtin "abs" | .int1 => .type "int" | .list1 => .type "list" | .tuple1 => .type "tuple" | .sorted1 => .builtin "sorted"
  | .all1 => .builtin "all" | .any1 => .builtin "any" | .sum1 => .builtin "sum" | .max1 => .builtin "max" | .min1 => .builtin "min" | .max2 => .builtin "max" | .min2 => .builtin "min"
  | .sortedSet => .none | .lenSet => .none | .count => .none
section
variable {X : Cx} {K : PySem.W.Frag} {c : Cf} {rs rs1 : Rs} {st st' : Sto} {H H1 : Hp} {pos : Pos}
theorem one_rep {vs : List V} {p : PV} (r : RepL K H rs vs [p]) : ∃ v, vs = [v] ∧ Rep K H rs v p := by
  cases r with
  | cons h t => cases t; exact ⟨_, rfl, h⟩
theorem two_rep {vs : List V} {p q : PV} (r : RepL K H rs vs [p, q]) : ∃ v w, vs = [v, w] ∧ Rep K H rs v p ∧ Rep K H rs w q := by
  cases r with
  | cons h t =>
    obtain ⟨w, rfl, h2⟩ := one_rep t
    exact ⟨_, _, rfl, h, h2⟩
theorem maxI_ge : ∀ (r : List Int) (m : Int), m ≤ maxI m r ∧ (∀ y ∈ r, y ≤ maxI m r) ∧ (maxI m r = m ∨ maxI m r ∈ r)
  | [], m => by simp [maxI]
  | x :: r, m => by
    unfold maxI
    split
    · obtain ⟨h1, h2, h3⟩ := maxI_ge r x
      refine ⟨by omega, fun y hy => ?_, .inr ?_⟩
      · rcases List.mem_cons.mp hy with e | e
        · rw [e]; exact h1
        · exact h2 y e
      · rcases h3 with e | e
        · rw [e]; simp
        · simp [e]
    · obtain ⟨h1, h2, h3⟩ := maxI_ge r m
      refine ⟨h1, fun y hy => ?_, ?_⟩
      · rcases List.mem_cons.mp hy with e | e
        · rw [e]; omega
        · exact h2 y e
      · rcases h3 with e | e
        · exact .inl e
        · exact .inr (by simp [e])
theorem minI_le : ∀ (r : List Int) (m : Int), minI m r ≤ m ∧ (∀ y ∈ r, minI m r ≤ y) ∧ (minI m r = m ∨ minI m r ∈ r)
  | [], m => by simp [minI]
  | x :: r, m => by
    unfold minI
    split
    · obtain ⟨h1, h2, h3⟩ := minI_le r x
      refine ⟨by omega, fun y hy => ?_, .inr ?_⟩
      · rcases List.mem_cons.mp hy with e | e
        · rw [e]; exact h1
        · exact h2 y e
      · rcases h3 with e | e
        · rw [e]; simp
        · simp [e]
    · obtain ⟨h1, h2, h3⟩ := minI_le r m
      refine ⟨h1, fun y hy => ?_, ?_⟩
      · rcases List.mem_cons.mp hy with e | e
        · rw [e]; omega
        · exact h2 y e
      · rcases h3 with e | e
        · exact .inl e
        · exact .inr (by simp [e])
theorem maxI_is {x : Int} {r : List Int} {m : Int} (hm : m ∈ x :: r) (h : ∀ y, y ∈ x :: r → y ≤ m) : m = maxI x r := by
  obtain ⟨h1, h2, h3⟩ := maxI_ge r x
  have a : m ≤ maxI x r := by
    rcases List.mem_cons.mp hm with e | e
    · rw [e]; exact h1
    · exact h2 m e
  have b : maxI x r ≤ m := by
    rcases h3 with e | e
    · rw [e]; exact h x (by simp)
    · exact h _ (by simp [e])
  omega
theorem minI_is {x : Int} {r : List Int} {m : Int} (hm : m ∈ x :: r) (h : ∀ y, y ∈ x :: r → m ≤ y) : m = minI x r := by
  obtain ⟨h1, h2, h3⟩ := minI_le r x
  have a : minI x r ≤ m := by
    rcases List.mem_cons.mp hm with e | e
    · rw [e]; exact h1
    · exact h2 m e
  have b : m ≤ minI x r := by
    rcases h3 with e | e
    · rw [e]; exact h x (by simp)
    · exact h _ (by simp [e])
  omega
theorem cr_ev {m : Bool} {b : BI} (hc : X.calm = true) (hu : X.A.units + 70 < cLine) (h1 : b ≠ .sortedSet) (h2 : b ≠ .lenSet) (h3 : b ≠ .count) : CallR X (biFn b) (rBI X.K m b) := by
  intro pins s σ H vs us Q I r h
  obtain ⟨rs, st, ps, v, st', g, rp, e, q⟩ := h
  unfold biEv at e
  split at e
  · obtain ⟨x, rfl, rx⟩ := one_rep rp
    simp only [Option.map_eq_some_iff] at e
    obtain ⟨xs, e1, e2⟩ := e
    cases e2
    obtain ⟨a, ws, rfl, hs, rl⟩ := rx.items g e1
    exact call_len_seq pins s σ H _ us Q I r ⟨_, _, rfl, hs, by rw [rl.length]; exact q.here g (.int _)⟩
  · obtain ⟨x, rfl, rx⟩ := one_rep rp
    cases e; cases rx
    exact call_abs pins s σ H _ us Q I r ⟨_, rfl, q.here g (.int _)⟩
  · obtain ⟨x, rfl, rx⟩ := one_rep rp
    cases e; cases rx
    exact call_int1 pins s σ H _ us Q I r (.inl ⟨_, rfl, q.here g (.int _)⟩)
  · obtain ⟨x, rfl, rx⟩ := one_rep rp
    cases e; cases rx
    exact call_int1 pins s σ H _ us Q I r (.inr ⟨_, rfl, q.here g (.int _)⟩)
  · obtain ⟨x, rfl, rx⟩ := one_rep rp
    simp only [Option.bind_eq_some_iff] at e
    obtain ⟨xs, e1, e2⟩ := e
    obtain ⟨a, ws, rfl, hs, rl⟩ := rx.items g e1
    exact call_list_of pins s σ H _ us Q I r ⟨_, _, rfl, hs, post_mk g rl (rx.ilen g e1) e2 q⟩
  · obtain ⟨x, rfl, rx⟩ := one_rep rp
    simp only [Option.map_eq_some_iff] at e
    obtain ⟨xs, e1, e2⟩ := e
    cases e2
    cases rx with
    | tup ht rl zt =>
      simp [items] at e1; subst e1
      exact call_tuple_of pins s σ H _ us Q I r ⟨_, _, rfl, .inr ⟨sqT_of ht, q.here g (.tup ht rl zt)⟩⟩
    | lst ht rl zt =>
      simp [items] at e1; subst e1
      exact call_tuple_of pins s σ H _ us Q I r ⟨_, _, rfl, .inl ⟨sqL_of ht, post_tup g rl zt q⟩⟩
    | arg ht rl zt =>
      simp [items] at e1; subst e1
      exact call_tuple_of pins s σ H _ us Q I r ⟨_, _, rfl, .inl ⟨sqA_of ht, post_tup g rl zt q⟩⟩
    | ref hr =>
      obtain ⟨zt, _, ws, e2, rl⟩ := g.at2 hr (by simpa [items] using e1)
      exact call_tuple_of pins s σ H _ us Q I r ⟨_, _, rfl, .inl ⟨.inl (.inl e2), post_tup g rl zt q⟩⟩
    | _ => simp [items] at e1
  · obtain ⟨x, rfl, rx⟩ := one_rep rp
    simp only [Option.bind_eq_some_iff] at e
    obtain ⟨xs, e1, e2⟩ := e
    split at e2
    · rename_i hso
      exact cr_srt hu pins s σ H _ us Q I r ⟨rs, st, _, _, xs, rfl, g, rx, e1, sortOk hso, fun ws a rw ha => post_mk g rw (by rw [(sortL_perm xs).length_eq]; exact rx.ilen g e1) e2 q a ha⟩
    · cases e2
  · exact absurd rfl h1
  · exact absurd rfl h2
  · obtain ⟨x, rfl, rx⟩ := one_rep rp
    simp only [Option.bind_eq_some_iff, Option.map_eq_some_iff] at e
    obtain ⟨xs, e1, bs, e2, e3⟩ := e
    cases e3
    obtain ⟨a, ws, rfl, hs, rl⟩ := rx.litems g e1
    rw [rl.bools e2] at hs
    exact cr_all hc pins s σ H _ us Q I r ⟨_, _, rfl, .inl (.inl hs), q.here g (.bl _)⟩
  · obtain ⟨x, rfl, rx⟩ := one_rep rp
    simp only [Option.bind_eq_some_iff, Option.map_eq_some_iff] at e
    obtain ⟨xs, e1, bs, e2, e3⟩ := e
    cases e3
    obtain ⟨a, ws, rfl, hs, rl⟩ := rx.litems g e1
    rw [rl.bools e2] at hs
    exact cr_any hc pins s σ H _ us Q I r ⟨_, _, rfl, .inl (.inl hs), q.here g (.bl _)⟩
  · obtain ⟨x, rfl, rx⟩ := one_rep rp
    simp only [Option.bind_eq_some_iff, Option.map_eq_some_iff] at e
    obtain ⟨xs, e1, bs, e2, e3⟩ := e
    cases e3
    obtain ⟨a, ws, rfl, hs, rl⟩ := rx.litems g e1
    rw [rl.ints e2] at hs
    exact cr_sum hc pins s σ H _ us Q I r ⟨_, _, rfl, .inl (.inl hs), q.here g (.int _)⟩
  · obtain ⟨x, rfl, rx⟩ := one_rep rp
    simp only [Option.bind_eq_some_iff] at e
    obtain ⟨xs, e1, bs, e2, e3⟩ := e
    split at e3
    · cases e3
    · cases e3
      obtain ⟨a, ws, rfl, hs, rl⟩ := rx.items g e1
      rw [rl.ints e2] at hs
      exact cr_or (cr_max hc) (cr_maxT hc) pins s σ H _ us Q I r (hs.elim (fun hs => .inl ⟨_, _, rfl, hs, by simp, fun m hm hy => by rw [maxI_is hm hy]; exact q.here g (.int _)⟩) fun hs => .inr ⟨_, _, rfl, hs, by simp, fun m hm hy => by rw [maxI_is hm hy]; exact q.here g (.int _)⟩)
  · obtain ⟨x, rfl, rx⟩ := one_rep rp
    simp only [Option.bind_eq_some_iff] at e
    obtain ⟨xs, e1, bs, e2, e3⟩ := e
    split at e3
    · cases e3
    · cases e3
      obtain ⟨a, ws, rfl, hs, rl⟩ := rx.items g e1
      rw [rl.ints e2] at hs
      exact cr_or (cr_min hc) (cr_minT hc) pins s σ H _ us Q I r (hs.elim (fun hs => .inl ⟨_, _, rfl, hs, by simp, fun m hm hy => by rw [minI_is hm hy]; exact q.here g (.int _)⟩) fun hs => .inr ⟨_, _, rfl, hs, by simp, fun m hm hy => by rw [minI_is hm hy]; exact q.here g (.int _)⟩)
  · obtain ⟨x, y, rfl, rx, ry⟩ := two_rep rp
    cases e; cases rx; cases ry
    exact call_max2 hc pins s σ H _ us Q I r ⟨_, _, rfl, q.here g (.int _)⟩
  · obtain ⟨x, y, rfl, rx, ry⟩ := two_rep rp
    cases e; cases rx; cases ry
    exact call_min2 hc pins s σ H _ us Q I r ⟨_, _, rfl, q.here g (.int _)⟩
  · exact absurd rfl h3
  · cases e
variable {e : Expr} {es : List Expr} {i j : E} {x : Str} {p : Pos}
theorem bi_read {m : Bool} {b : BI} {σ : L2.St} {H : Hp} {Q : VK} (h : tE K c (.bi m b i) σ H Q) : tCB (rBI K m b) (tA K c i) σ H Q := by
  obtain ⟨rs, st, ρ, v, st', g, er, e, q⟩ := h
  simp only [evE, Option.bind_eq_some_iff] at e
  obtain ⟨⟨y, s1⟩, e1, e2⟩ := e
  exact ⟨rs, st, ρ, y, s1, g, er, e1, fun ws H1 rs1 x1 g1 r1 => ⟨rs1, s1, y, v, st', g1, r1, e2, q.ext x1⟩⟩
theorem xbi {m : Bool} {b : BI} {id : String} (hb : biFn b = .builtin id) (hc : X.calm = true) (hu : X.A.units + 70 < cLine) (h1 : b ≠ .sortedSet) (h2 : b ≠ .lenSet) (h3 : b ≠ .count) (hg : Gl X x) (hm : X.mg x = none) (hv : bootBuiltins x = some (.builtin id))
    (ha : PA X (e :: es) (tA X.K c i)) (hn : x ≠ "__name__") (hd : (x == ("__debug__" : Str)) = false) (hs : isStar e = false) (hss : es.all (fun e => !isStar e) = true) : PE X (.Call (.Name x p) (e :: es) [] pos) (tE X.K c (.bi m b i)) :=
  pe_wk (pe_callB (by rw [← hb]; exact cr_ev hc hu h1 h2 h3) hg hm hv ha hn hd (star_no hs) (stars_no _ _ hss)) fun σ H Q h => bi_read h
theorem xbiT {m : Bool} {b : BI} {T : String} (hb : biFn b = .type T) (hc : X.calm = true) (hu : X.A.units + 70 < cLine) (h1 : b ≠ .sortedSet) (h2 : b ≠ .lenSet) (h3 : b ≠ .count) (hg : Gl X x) (hm : X.mg x = none) (hv : bootBuiltins x = some (.type T))
    (ha : PA X (e :: es) (tA X.K c i)) (hn : x ≠ "__name__") (hd : (x == ("__debug__" : Str)) = false) (hs : isStar e = false) (hss : es.all (fun e => !isStar e) = true) : PE X (.Call (.Name x p) (e :: es) [] pos) (tE X.K c (.bi m b i)) :=
  pe_wk (pe_callTy (by rw [← hb]; exact cr_ev hc hu h1 h2 h3) hg hm hv ha hn hd (star_no hs) (stars_no _ _ hss)) fun σ H Q h => bi_read h
/-! isinstance -/
def tyS : Ty → String
  | .int => "int" | .bool => "bool" | .str => "str" | .list => "list" | .tuple => "tuple" | .dict => "dict"
def kindS : PV → String
  | .non => "NoneType" | .bl _ => "bool" | .int _ => "int" | .str _ => "str" | .tup _ => "tuple" | .lst _ => "list" | .ref _ => "list" | .arg _ => "list"
theorem kit_table (v : PV) (t : Ty) : kitB (kindS v) (tyS t) = some (isTy v t) := by
  cases v <;> cases t <;> simp only [kindS, tyS, isTy] <;> decide +kernel
theorem tyX_of (g : Good K rs st H) {v : V} {p : PV} (r : Rep K H rs v p) (h : ∀ xs, p ≠ .arg xs) : TyX K H v (.type (kindS p)) := by
  cases r with
  | non => exact .base .non
  | bl b => exact .base (.bl b)
  | int i => exact .base (.int i)
  | str x => exact .base (.str x)
  | tup q _ =>
    rcases q with q | ⟨o, its, n, q, hc, _⟩
    · exact .base (.tup q.2)
    · exact .kTuple q hc
  | lst q _ => exact .base (.lst q.2)
  | ref q =>
    obtain ⟨vs, e⟩ := g.tracked (List.mem_of_getElem? q)
    exact .base (.lst e)
  | arg _ _ => exact absurd rfl (h _)
theorem kitAny_ev (v : PV) : ∀ ts : List Ty, PySem.W.kitAny K (.type (kindS v)) (ts.map fun t => .type (tyS t)) = some (ts.any (isTy v))
  | [] => rfl
  | t :: ts => by
    refine kitAny_cons (kit_ty (kit_table v t)) (fun hf => ?_) fun ht => ?_
    · rw [List.any_cons, hf, Bool.false_or]
      exact kitAny_ev v ts
    · rw [List.any_cons, ht, Bool.true_or]
def strOf (s : String) : Str := Str.ofString s
/-- the built-in classes' names are the built-ins' -/
def TyFree (X : Cx) (ts : List Ty) : Prop := ∀ t ∈ ts, Gl X (strOf (tyS t)) ∧ X.mg (strOf (tyS t)) = none
theorem boot_ty (t : Ty) : bootBuiltins (strOf (tyS t)) = some (.type (tyS t)) := by cases t <;> decide +kernel
theorem ty_name (t : Ty) : strOf (tyS t) ≠ "__name__" := by cases t <;> decide +kernel
theorem ty_debug (t : Ty) : (strOf (tyS t) == ("__debug__" : Str)) = false := by cases t <;> decide +kernel
theorem pe_ty {t : Ty} (h : Gl X (strOf (tyS t)) ∧ X.mg (strOf (tyS t)) = none) : PE X (.Name (strOf (tyS t)) pos) (tC (.ty (tyS t))) := pe_bltn h.1 h.2 (boot_ty t) rfl (ty_name t) (ty_debug t)
theorem isi_read {ts : List Ty} {σ : L2.St} {H : Hp} {Q : VK} (h : tE K c (.isi i ts) σ H Q) : tE K c i σ H fun x H1 => ∃ p, True ∧ TyX K H1 x (.type (kindS p)) ∧ Q (.bl (ts.any (isTy p))) H1 ∧ ∀ (tp : Addr) (o : HO), H1 tp = none → TyX K (upd H1 tp o) x (.type (kindS p)) ∧ Q (.bl (ts.any (isTy p))) (upd H1 tp o) := by
  obtain ⟨rs, st, ρ, v, st', g, er, e, q⟩ := h
  simp only [evE, Option.bind_eq_some_iff] at e
  obtain ⟨⟨y, s1⟩, e1, e2⟩ := e
  refine ⟨rs, st, ρ, y, s1, g, er, e1, fun ws H1 rs1 x1 g1 r1 => ⟨y, trivial, ?_⟩⟩
  split at e2
  · cases e2
  · rename_i hna
    cases e2
    have hn : ∀ xs, y ≠ .arg xs := fun xs z => hna xs z
    refine ⟨tyX_of g1 r1 hn, (q.ext x1).here g1 (.bl _), fun tp o htp => ?_⟩
    have x2 : Ext rs1 H1 rs1 (upd H1 tp o) := Ext.new htp
    exact ⟨tyX_of (g1.new htp) (Rep.ext x2 _ _ r1) hn, ((q.ext x1).ext x2).here (g1.new htp) (.bl _)⟩
theorem xisi1 {t : Ty} {p2 : Pos} (ha : PE X e (tE X.K c i)) (hs : isStar e = false) (hg : Gl X x) (hm : X.mg x = none) (hv : bootBuiltins x = some (.builtin "isinstance")) (hn : x ≠ "__name__") (hd : (x == ("__debug__" : Str)) = false)
    (ht : Gl X (strOf (tyS t)) ∧ X.mg (strOf (tyS t)) = none) : PE X (.Call (.Name x p) [e, .Name (strOf (tyS t)) p2] [] pos) (tE X.K c (.isi i [t])) :=
  pe_wk (pe_callB call_isi hg hm hv (pa_cons ha (pa_cons (pe_ty ht) pa_nil) (star_no hs)) hn hd (star_no hs)) fun σ H Q h => by
    have h2 := isi_read h
    obtain ⟨rs, st, ρ, v, st', g, er, e, q⟩ := h2
    refine ⟨rs, st, ρ, v, st', g, er, e, fun w H1 rs1 x1 g1 r1 => ?_⟩
    obtain ⟨p, _, h1, h2, _⟩ := q w H1 rs1 x1 g1 r1
    refine ⟨_, _, _, _, _, rfl, .ty _, h1, kit_ty (kit_table p t), ?_⟩
    simpa using h2
def tyNames (ps : List Pos) (ts : List Ty) : List Expr := (ts.zip ps).map fun q => .Name (strOf (tyS q.1)) q.2
def tTys : List Ty → TA
  | [] => tNil
  | t :: ts => tCons (tC (.ty (tyS t))) (tTys ts)
theorem pa_tys : ∀ (ps : List Pos) (ts : List Ty), ts.length = ps.length → TyFree X ts → PA X (tyNames ps ts) (tTys ts)
  | [], [], _, _ => pa_nil
  | p :: ps, t :: ts, hl, h => pa_cons (pe_ty (h t (by simp))) (pa_tys ps ts (by simpa using hl) fun u hu => h u (by simp [hu]))
theorem tTys_read {Q : List V → Hp → Prop} {σ : L2.St} : ∀ (ts : List Ty) (H : Hp), Q (ts.map fun t => V.ty (tyS t)) H → tTys ts σ H Q
  | [], _, h => h
  | t :: ts, H, h => tTys_read (Q := fun xs H2 => Q (V.ty (tyS t) :: xs) H2) ts H h
theorem cls_tys : ∀ ts : List Ty, Paired ClsV (ts.map fun t => V.ty (tyS t)) (ts.map fun t => .type (tyS t))
  | [] => .nil
  | t :: ts => .cons (.ty _) (cls_tys ts)
theorem xisiT {ts : List Ty} {ps : List Pos} {n : Nat} {p2 : Pos} (hl : ts.length = ps.length) (hz : ts.length ≤ 10) (ha : PE X e (tE X.K c i)) (hs : isStar e = false) (hg : Gl X x) (hm : X.mg x = none) (hv : bootBuiltins x = some (.builtin "isinstance")) (hn : x ≠ "__name__") (hd : (x == ("__debug__" : Str)) = false)
    (ht : TyFree X ts) : PE X (.Call (.Name x p) [e, .Tuple (tyNames ps ts) n p2] [] pos) (tE X.K c (.isi i ts)) :=
  pe_wk (pe_callB call_isiT hg hm hv (pa_cons ha (pa_cons (pe_tup (pa_tys ps ts hl ht)) pa_nil) (star_no hs)) hn hd (star_no hs)) fun σ H Q h => by
    have h2 := isi_read h
    obtain ⟨rs, st, ρ, v, st', g, er, e, q⟩ := h2
    refine ⟨rs, st, ρ, v, st', g, er, e, fun w H1 rs1 x1 g1 r1 => ?_⟩
    obtain ⟨p, _, h1, h2, h3⟩ := q w H1 rs1 x1 g1 r1
    refine tTys_read (σ := σ) ts H1 ⟨by rw [List.length_map, sizeLine_eq]; omega, fun tp htp => ?_⟩
    obtain ⟨k1, k2⟩ := h3 tp (.tup (ts.map fun t => V.ty (tyS t))) htp
    exact ⟨_, tp, _, _, _, _, rfl, upd_same, cls_tys ts, k1, kitAny_ev p ts, k2⟩
end
end Ev

/-! walks: lists and tuples in any mix -/
namespace Ev
open PySem L2
/-- a list (false) or a tuple (true) -/
def SqB (b : Bool) (K : PySem.W.Frag) (H : Hp) (a : Addr) (xs : List V) : Prop := match b with
  | true => SqT K H a xs
  | false => SqL K H a xs
section
variable {b : Bool} {prog : Program} {w : World} {A : Around} {h h' : Heap} {it a : Addr} {i : Nat} {its : Array Value}
theorem drawB (hh : A.handled = none) (hne : a ≠ it) : Draws prog w A it [it, a] its.size (fun i v => its[i]? = some v) (fun i h => ItB b h it a i ∧ ObB b h a its) := by
  cases b
  · exact Draws.list hh it a hne its
  · exact Draws.tuple hh it a hne its
theorem beginB : Begins (.ref a) (itO b a) fun h => ObB b h a its := by
  cases b
  · exact begins_list a its
  · exact begins_tuple a its
theorem ItB.at_ (st : ItB b h it a i) (k : ∀ o, h.get? it = some o → h'.get? it = some o) : ItB b h' it a i := by
  cases b
  · exact Heap.IsListIter.at st k
  · exact Heap.IsTupleIter.at st k
theorem ItB.obj (st : ItB b h it a i) : ∃ o, h.get? it = some o ∧ ∀ v, o.data ≠ .cell v := by
  cases b
  · obtain ⟨o, e, c, d⟩ := st
    exact ⟨o, e, fun v z => by rw [d] at z; cases z⟩
  · obtain ⟨o, e, c, d⟩ := st
    exact ⟨o, e, fun v z => by rw [d] at z; cases z⟩
theorem ItB.new (e : h.get? it = some (itO b a)) : ItB b h it a 0 := by
  cases b
  · exact ⟨_, e, rfl, rfl⟩
  · exact ⟨_, e, rfl, rfl⟩
theorem ObB.lt (st : ObB b h a its) : a < h.objs.size := by
  cases b
  · obtain ⟨o, e, _⟩ := st; exact Heap.lt_size e
  · obtain ⟨o, e, _⟩ := st; exact Heap.lt_size e
end
section
variable {X : Cx} {pins : List (Addr × Obj)} {σ : L2.St} {H : Hp} {s : Shared} {a : Addr} {xs ys : List V} {b : Bool}
theorem seqB (I : Inv X pins σ H s) (h : SqB b X.K H a xs) : ∃ its : List Value, Vals xs its ∧ ObB b s.heap a its.toArray ∧ xs.length ≤ sizeLine := by
  cases b
  · obtain ⟨its, r, p, z⟩ := I.list h
    exact ⟨its, r, p.isList, z⟩
  · obtain ⟨its, r, p, z⟩ := I.tuple h
    exact ⟨its, r, p, z⟩
theorem seqB_inj (I : Inv X pins σ H s) (h : SqB b X.K H a xs) (h' : SqB b X.K H a ys) : xs = ys := by
  cases b
  · exact I.list_inj h h'
  · exact I.tuple_inj h h'
end
/-- enumerate -/
def ItE (b : Bool) (K : PySem.W.Frag) (a : Addr) : It :=
  ⟨fun i H => ∃ (xs : List V) (x : V), SqB b K H a xs ∧ xs[i]? = some x, fun i H v H' => ∃ T x, v = .ref T ∧ H T = none ∧ H' = upd H T (.tup [.int (i : Nat), x]) ∧ ∀ xs, SqB b K H a xs → xs[i]? = some x, fun i H => ∃ xs : List V, SqB b K H a xs ∧ xs.length = i⟩
theorem turnE {b : Bool} {P : Program} {w : World} {K : PySem.W.Frag} {elts : List Expr} {kk : Nat} {tpos : Pos} (a e it : Addr) (hae : a ≠ e) (hai : a ≠ it) :
    Turn P w K (.Tuple elts kk tpos) (ItE b K a) [e, it] e (fun i h => (∃ old, IsEnum h e it ((i : Nat) : Int) old) ∧ ItB b h it a i ∧ e ≠ it) where
  mem := by simp
  obj := fun i h st c hc => by
    obtain ⟨⟨old, he⟩, hi, _⟩ := st
    rcases (by simpa using hc : c = e ∨ c = it) with z | z
    · subst z; exact ⟨_, he, fun v q => nomatch q⟩
    · subst z; exact hi.obj
  keep := fun i h h' st k => let ⟨⟨old, he⟩, hi, hne⟩ := st; ⟨⟨old, k e (by simp) _ he⟩, hi.at_ fun o q => k it (by simp) o q, hne⟩
  item := by
    intro X hP hw hK hc i pins s σ H E I hf st hg
    subst hP hw hK
    obtain ⟨⟨old, he⟩, hit, hne⟩ := st
    obtain ⟨xs, x, hq, hx⟩ := hg
    obtain ⟨its, rv, p, hz⟩ := seqB I hq
    obtain ⟨u, hu, ru⟩ := rv.get hx
    have hel : e < s.heap.objs.size := Heap.lt_size he
    have hil : it < s.heap.objs.size := by obtain ⟨_, q, _⟩ := hit.obj; exact Heap.lt_size q
    have hlen : i < its.toArray.size := by
      have := (List.getElem?_eq_some_iff.mp hu).1
      simpa using this
    have hh : X.A.in1.handled = none := I.ok.hd hc
    refine wpAny_pyNext_enum_itemD (drawB (b := b) (its := its.toArray) hh hai) he ⟨hit, p⟩ hlen hne (by simp [hne, Ne.symm hae]) fun x' h' tk hP ho hst hT hsz hk => ?_
    have hu' : x' = u := by
      rw [show its.toArray[i]? = some u by simpa using hu] at hP
      exact (Option.some.inj hP).symm
    subst hu'
    refine ⟨_, rfl, wpAny_letOwnedTupleGo_enum (s := { s with heap := h', toks := tk + 1 }) ho fun h'' he' sb => ?_⟩
    have hT2 : h''.get? s.heap.objs.size = some { cls := .type "tuple", data := .seq #[.int i tk, x'] } := (sb.2 _ (Nat.ne_of_gt hel)).trans hT
    have new : ObjOk X.prog X.w (upd H s.heap.objs.size (.tup [.int (i : Nat), x])) h'' s.heap.objs.size (.tup [.int (i : Nat), x]) :=
      ⟨by show 2 ≤ sizeLine; decide, [.int i tk, x'], .cons ⟨_, rfl⟩ (.cons ru .nil), ⟨_, hT2, rfl, _, rfl⟩⟩
    have J : Inv X pins σ (upd H s.heap.objs.size (.tup [.int (i : Nat), x])) { s with heap := h'', toks := tk + 1 } :=
      I.turnedNew (ch := [e, it]) (fun c ob hb q => (sb.2 c (fun z => hb (by simp [z]))).trans (hk c ob (fun z => hb (by simp [z])) (fun z => hb (by simp [z])) q)) hf (Nat.le_refl _) new
    refine ⟨.ref s.heap.objs.size, _, J, rfl, ⟨_, x, rfl, I.hok.fresh (Nat.le_refl _), rfl, fun ys hy => by rw [seqB_inj I hy hq]; exact hx⟩, ⟨⟨x', ?_⟩, hst.1.at_ fun o q => (sb.2 it (Ne.symm hne)).trans q, hne⟩, fun c hb => ?_⟩
    · have e1 : ((i + 1 : Nat) : Int) = (i : Int) + 1 := by omega
      rw [e1]; exact he'
    · have hb' : c < s.heap.objs.size := by
        rcases (by simpa using hb : c = e ∨ c = it) with z | z
        · rw [z]; exact hel
        · rw [z]; exact hil
      rw [upd_ne (Nat.ne_of_lt hb')]
      exact (hf c hb).1
  done := by
    intro X hP hw hK hc i pins s σ H E I hf st hg
    subst hP hw hK
    obtain ⟨⟨old, he⟩, hit, hne⟩ := st
    obtain ⟨xs, hq, hx⟩ := hg
    obtain ⟨its, rv, p, hz⟩ := seqB I hq
    obtain ⟨f0, f1, f2, f3, f4, f5⟩ := hf it (by simp)
    have hl := rv.length
    have hi : i = its.toArray.size := by simp; omega
    have hh : X.A.in1.handled = none := I.ok.hd hc
    exact wpAny_pyNext_enum_endD (drawB (b := b) (its := its.toArray) hh hai) he (by rw [← hi]; exact ⟨hit, p⟩) fun h' eb => ⟨rfl, I.turned (t' := s.toks) (fun c o hb q => eb c o hb q) f0 f1 f3 f4 f5⟩
  self := fun A i s Q E st h => let ⟨⟨_, he⟩, _⟩ := st; wpAny_pyIter_enum he h
/-- enumerate(v) -/
theorem enum_newB {v : Value} {o : Obj} {Z : Heap → Prop} (B : Begins v o Z) :
    Meets (Builtin.«enumerate.__new__» ⟨[.type "enumerate", v], []⟩) (fun _ R s => Z s.heap ∧
      R (.ok (.ret (.ref (s.heap.push o).objs.size))) { s with heap := (s.heap.push o).push { cls := .type "enumerate", data := .fields #[.none, .bool false, .ref s.heap.objs.size, rawInt 0, .none, .none] } }) :=
  .of_wp fun prog w A R s h => by
    obtain ⟨hp, g, d, tk, os⟩ := s; obtain ⟨h1, h⟩ := h
    have hsub := sub_enumerate
    have q1 : ∀ {A' : Around} {E : Value → Shared → Prop} {Q : Value → Shared → Prop}, Q (.ref hp.objs.size) ⟨hp.push o, g, d, tk, os⟩ → wpAny (model prog w) A' (pyIter v) Q E ⟨hp, g, d, tk, os⟩ :=
      fun q => B.iter prog w _ _ ⟨hp, g, d, tk, os⟩ _ h1 q
    wp_walk using q1
    refine wpAny_stack_any fun st => wpAny_pure ?_
    split
    · rename_i cc _ _ _ _ _
      cases (cc == Value.type "enumerate")
      all_goals (wp_walk using q1; exact ⟨_, rfl, h⟩)
    · wp_walk using q1
      exact ⟨_, rfl, h⟩
theorem call_enumB {prog : Program} {w : World} {A : Around} {E : Value → Shared → Prop} {s : Shared} {v : Value} {o : Obj} {Z : Heap → Prop} {Q : Value → Shared → Prop} (B : Begins v o Z) (h1 : Z s.heap)
    (k : ∀ h', IsEnum h' (s.heap.objs.size + 1) s.heap.objs.size 0 .none → h'.get? s.heap.objs.size = some o → (∀ c u, s.heap.get? c = some u → h'.get? c = some u) → Q (.ref (s.heap.objs.size + 1)) { s with heap := h' }) :
    wpAny (model prog w) A (call (.type "enumerate") [v]) Q E s := by
  refine callType_new F.called_enumerate (by decide) (F.typeCall_enumerate_1 _) (F.newCall_enumerate_1 _) (fun obj => F.args_object_init_2 obj _) F.entry_enumerate_new (enum_newB B) ⟨h1, ?_⟩
  have hz : (s.heap.push o).objs.size = s.heap.objs.size + 1 := Heap.size_push ..
  show _ ∧ _
  rw [hz]
  have he : IsEnum ((s.heap.push o).push { cls := .type "enumerate", data := .fields #[.none, .bool false, .ref s.heap.objs.size, rawInt 0, .none, .none] }) (s.heap.objs.size + 1) s.heap.objs.size 0 .none := by
    have q := Heap.get?_push_size (s.heap.push o) (o := { cls := .type "enumerate", data := .fields #[.none, .bool false, .ref s.heap.objs.size, rawInt 0, .none, .none] }) rfl
    rw [hz] at q; exact q
  exact ⟨⟨_, he, rfl⟩, k _ he (Heap.get?_push_of_some _ (Heap.get?_push_size _ B.free)) fun c u x => Heap.get?_push_of_some _ (Heap.get?_push_of_some _ x)⟩
/-- zip of two -/
def ItZ (b d : Bool) (K : PySem.W.Frag) (a c : Addr) : It :=
  ⟨fun i H => ∃ (xs ys : List V) (x y : V), SqB b K H a xs ∧ SqB d K H c ys ∧ xs[i]? = some x ∧ ys[i]? = some y,
    fun i H v H' => ∃ T x y, v = .ref T ∧ H T = none ∧ H' = upd H T (.tup [x, y]) ∧ (∀ xs, SqB b K H a xs → xs[i]? = some x) ∧ ∀ ys, SqB d K H c ys → ys[i]? = some y,
    fun i H => ∃ xs ys : List V, SqB b K H a xs ∧ SqB d K H c ys ∧ i ≤ xs.length ∧ i ≤ ys.length ∧ (xs.length = i ∨ ys.length = i)⟩
theorem turnZ {b d : Bool} {P : Program} {w : World} {K : PySem.W.Frag} {elts : List Expr} {kk : Nat} {tpos : Pos} {a c z TI TO i1 i2 : Addr} (D : ZipSep2 z TI TO i1 i2 [i1, a] [i2, c]) (ha : a ≠ i1) (hc2 : c ≠ i2) :
    Turn P w K (.Tuple elts kk tpos) (ItZ b d K a c) [z, TI, TO, i1, i2] z (fun i h => IsZip h z TI TO .none ∧ IsTupOf2 h TI (.ref i1) (.ref i2) ∧ (∃ x y, IsTupOf2 h TO x y) ∧ ItB b h i1 a i ∧ ItB d h i2 c i) where
  mem := by simp
  obj := fun i h st q hq => by
    obtain ⟨hz, hTI, ⟨x, y, hTO⟩, h1, h2⟩ := st
    rcases (by simpa using hq : q = z ∨ q = TI ∨ q = TO ∨ q = i1 ∨ q = i2) with e | e | e | e | e
    · subst e; exact ⟨_, hz, fun v q => nomatch q⟩
    · subst e; exact ⟨_, hTI, fun v q => nomatch q⟩
    · subst e; exact ⟨_, hTO, fun v q => nomatch q⟩
    · subst e; exact h1.obj
    · subst e; exact h2.obj
  keep := fun i h h' st k => by
    obtain ⟨hz, hTI, ⟨x, y, hTO⟩, h1, h2⟩ := st
    exact ⟨k z (by simp) _ hz, k TI (by simp) _ hTI, ⟨x, y, k TO (by simp) _ hTO⟩, h1.at_ fun o q => k i1 (by simp) o q, h2.at_ fun o q => k i2 (by simp) o q⟩
  item := by
    intro X hP hw hK hc i pins s σ H E I hf st hg
    subst hP hw hK
    obtain ⟨hz, hTI, ⟨x0, y0, hTO⟩, h1, h2⟩ := st
    obtain ⟨xs, ys, x, y, hqx, hqy, hx, hy⟩ := hg
    obtain ⟨its, rv, p, _⟩ := seqB I hqx
    obtain ⟨its2, rv2, p2, _⟩ := seqB I hqy
    obtain ⟨u, hu, ru⟩ := rv.get hx
    obtain ⟨u2, hu2, ru2⟩ := rv2.get hy
    have hzl : z < s.heap.objs.size := Heap.lt_size hz
    have hh : X.A.in1.handled = none := I.ok.hd hc
    have l1 : i < its.toArray.size := by simpa using (List.getElem?_eq_some_iff.mp hu).1
    have l2 : i < its2.toArray.size := by simpa using (List.getElem?_eq_some_iff.mp hu2).1
    refine wpAny_pyNext_zipD2_item D (drawB (b := b) (its := its.toArray) hh ha) (drawB (b := d) (its := its2.toArray) hh hc2) hz hTI hTO ⟨h1, p⟩ ⟨h2, p2⟩ l1 l2 fun v1 v2 h' tk P1 P2 z' TO' s1 s2 hT hsz hk => ?_
    have e1 : v1 = u := by
      rw [show its.toArray[i]? = some u by simpa using hu] at P1
      exact (Option.some.inj P1).symm
    have e2 : v2 = u2 := by
      rw [show its2.toArray[i]? = some u2 by simpa using hu2] at P2
      exact (Option.some.inj P2).symm
    subst e1 e2
    refine ⟨_, rfl, wpAny_letOwnedTupleGo_zip (s := { s with heap := h', toks := tk }) z' fun h'' z'' sb => ?_⟩
    have hT2 : h''.get? s.heap.objs.size = some { cls := .type "tuple", data := .seq #[v1, v2] } := (sb.2 _ (Nat.ne_of_gt hzl)).trans hT
    have new : ObjOk X.prog X.w (upd H s.heap.objs.size (.tup [x, y])) h'' s.heap.objs.size (.tup [x, y]) :=
      ⟨by show 2 ≤ sizeLine; decide, [v1, v2], .cons ru (.cons ru2 .nil), ⟨_, hT2, rfl, _, rfl⟩⟩
    have J : Inv X pins σ (upd H s.heap.objs.size (.tup [x, y])) { s with heap := h'', toks := tk } :=
      I.turnedNew (t' := tk) (ch := [z, TI, TO, i1, i2]) (fun q o hb e => (sb.2 q (fun q' => hb (by simp [q']))).trans (hk q o (fun q' => hb (by simp [q'])) (fun q' => hb (by simp [q'])) (fun q' => hb (by simp [q'])) (fun q' => hb (by simp [q'])) e)) hf (Nat.le_refl _) new
    refine ⟨.ref s.heap.objs.size, _, J, rfl, ⟨_, x, y, rfl, I.hok.fresh (Nat.le_refl _), rfl, fun l hl => by rw [seqB_inj I hl hqx]; exact hx, fun l hl => by rw [seqB_inj I hl hqy]; exact hy⟩, ⟨z'', ?_, ⟨v1, v2, ?_⟩, ?_, ?_⟩, fun q hcm => ?_⟩
    · exact (sb.2 _ D.TIz).trans (hk _ _ D.TIz D.TITO D.TIi1 D.TIi2 hTI)
    · exact (sb.2 _ D.TOz).trans TO'
    · exact s1.1.at_ fun o q => (sb.2 _ (Ne.symm D.zi1)).trans q
    · exact s2.1.at_ fun o q => (sb.2 _ (Ne.symm D.zi2)).trans q
    · have hlt : q < s.heap.objs.size := by
        rcases (by simpa using hcm : q = z ∨ q = TI ∨ q = TO ∨ q = i1 ∨ q = i2) with e | e | e | e | e
        · rw [e]; exact hzl
        · rw [e]; exact Heap.lt_size hTI
        · rw [e]; exact Heap.lt_size hTO
        · rw [e]; obtain ⟨_, e1, _⟩ := h1.obj; exact Heap.lt_size e1
        · rw [e]; obtain ⟨_, e2, _⟩ := h2.obj; exact Heap.lt_size e2
      rw [upd_ne (Nat.ne_of_lt hlt)]
      exact (hf q hcm).1
  done := by
    intro X hP hw hK hc i pins s σ H E I hf st hg
    subst hP hw hK
    obtain ⟨hz, hTI, ⟨x0, y0, hTO⟩, h1, h2⟩ := st
    obtain ⟨xs, ys, hqx, hqy, k1, k2, hend⟩ := hg
    obtain ⟨its, rv, p, _⟩ := seqB I hqx
    obtain ⟨its2, rv2, p2, _⟩ := seqB I hqy
    have l1 := rv.length
    have l2 := rv2.length
    have hh : X.A.in1.handled = none := I.ok.hd hc
    exact wpAny_pyNext_zipD2_end D (drawB (b := b) (its := its.toArray) hh ha) (drawB (b := d) (its := its2.toArray) hh hc2) hz hTI hTO ⟨h1, p⟩ ⟨h2, p2⟩ (by simp; omega) (by simp; omega) (by simp; omega) fun h' tk hk => ⟨rfl, I.turnedL (t' := tk) (ch := [z, TI, TO, i1, i2]) (fun q o hb e =>
      hk q o (fun q' => hb (by simp [q'])) (fun q' => hb (by simp [q'])) (fun q' => hb (by simp [q'])) (fun q' => hb (by simp [q'])) e) hf⟩
  self := fun A i s Q E st h => wpAny_pyIter_zip st.1 h
section
variable {X : Cx} {tg e e2 : Expr} {x : Str} {p pos tpos : Pos} {elts : List Expr} {kk : Nat} {ta : TA}
def iEn (K : PySem.W.Frag) (ta : TA) : TI := fun σ H R => ta σ H fun vs H1 => ∃ b a xs, vs = [.ref a] ∧ SqB b K H1 a xs ∧ R (ItE b K a) H1
theorem pi_en (hg : Gl X x) (hm : X.mg x = none) (hv : bootBuiltins x = some (.type "enumerate")) (hn : x ≠ "__name__") (hd : (x == ("__debug__" : Str)) = false) (ha : PA X [e] ta) (hs : isStar e = false) :
    PI X (.Tuple elts kk tpos) (.Call (.Name x p) [e] [] pos) (iEn X.K ta) := by
  refine ⟨fun pins s σ H R I h => ?_⟩
  refine PyProof.Rows.Call_ (ld_blt I hg hm hv (PyProof.Rows.callWith_type1 (thn (ha.run pos pins s σ H _ I h) fun us s1 ⟨vs, H1, I1, r1, q1⟩ => ?_) (star_no hs) (by rfl)) hn hd)
  obtain ⟨b, a, xs, ex, hq, q⟩ := q1
  subst ex
  cases r1 with
  | cons r rr =>
    cases rr
    cases r
    obtain ⟨its, rv, p', hz⟩ := seqB I1 hq
    have hlt := p'.lt
    refine call_enumB (beginB (b := b) (its := its.toArray)) p' fun h' he hit hk => wpAny_pyIter_enum he ?_
    have I2 : Inv X pins σ H1 { s1 with heap := h' } := I1.kept (t' := s1.toks) hk
    refine ⟨s1.heap.objs.size + 1, [s1.heap.objs.size + 1, s1.heap.objs.size], _, _, H1, rfl, I2, turnE (b := b) a (s1.heap.objs.size + 1) s1.heap.objs.size (Nat.ne_of_lt (Nat.lt_succ_of_lt hlt)) (Nat.ne_of_lt hlt), ⟨⟨.none, he⟩, ItB.new hit, Nat.succ_ne_self _⟩, fun c hc => ?_, q⟩
    have hle : s1.heap.objs.size ≤ c := by
      rcases (by simpa using hc : c = s1.heap.objs.size + 1 ∨ c = s1.heap.objs.size) with z | z
      · rw [z]; exact Nat.le_add_right _ _
      · rw [z]; exact Nat.le_refl _
    exact I1.fpOk hle (I1.hok.fresh hle)
def iZp (K : PySem.W.Frag) (ta : TA) : TI := fun σ H R => ta σ H fun vs H1 => ∃ b d a c xs ys, vs = [.ref a, .ref c] ∧ SqB b K H1 a xs ∧ SqB d K H1 c ys ∧ R (ItZ b d K a c) H1
theorem pi_zp (hg : Gl X x) (hm : X.mg x = none) (hv : bootBuiltins x = some (.type "zip")) (hn : x ≠ "__name__") (hd : (x == ("__debug__" : Str)) = false) (ha : PA X [e, e2] ta) (hs : isStar e = false) (hs2 : isStar e2 = false) :
    PI X (.Tuple elts kk tpos) (.Call (.Name x p) [e, e2] [] pos) (iZp X.K ta) := by
  refine ⟨fun pins s σ H R I h => ?_⟩
  refine PyProof.Rows.Call_ (ld_blt I hg hm hv (PyProof.Rows.callWith_type1 (thn (ha.run pos pins s σ H _ I h) fun us s1 ⟨vs, H1, I1, r1, q1⟩ => ?_) (star_no hs) (stars_no _ _ (by simp [hs2]))) hn hd)
  obtain ⟨b, d, a, c, xs, ys, ex, hqx, hqy, q⟩ := q1
  subst ex
  cases r1 with
  | cons r rr =>
    cases rr with
    | cons r' rr =>
      cases rr
      cases r
      cases r'
      obtain ⟨its, rv, p1, _⟩ := seqB I1 hqx
      obtain ⟨its2, rv2, p2, _⟩ := seqB I1 hqy
      have la := p1.lt
      have lc := p2.lt
      refine zip_begins2 (beginB (b := b) (its := its.toArray)) (beginB (b := d) (its := its2.toArray)) p1 p2 fun h' hz hTI hTO h1 h2 hsz hk => wpAny_pyIter_zip hz ?_
      have I2 : Inv X pins σ H1 { s1 with heap := h' } := I1.kept (t' := s1.toks) hk
      refine ⟨s1.heap.objs.size + 4, [s1.heap.objs.size + 4, s1.heap.objs.size + 2, s1.heap.objs.size + 3, s1.heap.objs.size, s1.heap.objs.size + 1], _, _, H1, rfl, I2,
        turnZ (b := b) (d := d) (a := a) (c := c) (zip_sep2 (N := s1.heap.objs.size) (fp1 := [a]) (fp2 := [c]) (by simpa using la) (by simpa using lc)) (Nat.ne_of_lt la) (Nat.ne_of_lt (Nat.lt_succ_of_lt lc)), ⟨hz, hTI, ⟨_, _, hTO⟩, ItB.new h1, ItB.new h2⟩, fun q hcm => ?_, q⟩
      have hle : s1.heap.objs.size ≤ q := by
        rcases (by simpa using hcm : q = s1.heap.objs.size + 4 ∨ q = s1.heap.objs.size + 2 ∨ q = s1.heap.objs.size + 3 ∨ q = s1.heap.objs.size ∨ q = s1.heap.objs.size + 1) with z | z | z | z | z
        all_goals (rw [z]; first | exact Nat.le_refl _ | exact Nat.le_add_right _ _)
      exact I1.fpOk hle (I1.hok.fresh hle)
end
end Ev

/-! walks by the evaluator -/
namespace Ev
open PySem L2
structure WkOf (K : PySem.W.Frag) (J : It) (w : Wk) (rs : Rs) (H : Hp) : Prop where
  go : ∀ (i : Nat) (p : PV) rs2 H2 st2, w.xs[i]? = some p → Lat rs H rs2 H2 → Good K rs2 st2 H2 → guardOk w st2 = true → J.go i H2 ∧ ∀ x H3, J.yld i H2 x H3 → Ext rs2 H2 rs2 H3 ∧ Good K rs2 st2 H3 ∧ Rep K H3 rs2 x p
  stop : ∀ rs2 H2 st2, Lat rs H rs2 H2 → Good K rs2 st2 H2 → guardOk w st2 = true → J.stop w.xs.length H2
  len : w.xs.length ≤ sizeLine
def tI (K : PySem.W.Frag) (c : Cf) (i : E) : TI := fun σ H R => ∃ rs st ρ w st', Good K rs st H ∧ EnvR K H rs σ ρ ∧ evI c i ρ st = some (w, st') ∧ ∀ J H' rs', Ext rs H rs' H' → Good K rs' st' H' → WkOf K J w rs' H' → R J H'
section
variable {X : Cx} {K : PySem.W.Frag} {c : Cf} {rs rs1 : Rs} {st st' : Sto} {H H1 : Hp} {pos p tpos : Pos} {a e e2 tg : Expr} {es elts : List Expr} {i j : E} {σ : L2.St} {ρ : Slots} {x : Str} {kk : Nat}
theorem pi_wk {it : Expr} {t t' : TI} (h : PI X tg it t) (w : ∀ σ H Q, t' σ H Q → t σ H Q) : PI X tg it t' := ⟨fun pins s σ H Q I q => h.run pins s σ H Q I (w σ H Q q)⟩
/-- the addresses of a walked list or tuple as they stand later -/
theorem wk_src (g : Good K rs st H) {v : V} {q : PV} {w : Wk} (r : Rep K H rs v q) (e : wkOf q st = some w) : ∃ (b : Bool) (a : Addr) (vs : List V), v = .ref a ∧ SqB b K H a vs ∧ RepL K H rs vs w.xs ∧
    (∀ rs2 H2 st2, Lat rs H rs2 H2 → Good K rs2 st2 H2 → guardOk w st2 = true → ∃ us, SqB b K H2 a us ∧ RepL K H2 rs2 us w.xs) := by
  cases r with
  | tup h rl z =>
    simp [wkOf] at e; subst e
    exact ⟨true, _, _, rfl, sqT_of h, rl, fun rs2 H2 st2 x2 g2 _ => by
      cases Rep.lat x2 (.tup h rl z) with
      | tup h2 rl2 _ => exact ⟨_, sqT_of h2, rl2⟩⟩
  | lst h rl z =>
    simp [wkOf] at e; subst e
    exact ⟨false, _, _, rfl, sqL_of h, rl, fun rs2 H2 st2 x2 g2 _ => by
      cases Rep.lat x2 (.lst h rl z) with
      | lst h2 rl2 _ => exact ⟨_, sqL_of h2, rl2⟩⟩
  | arg h rl z =>
    simp [wkOf] at e; subst e
    exact ⟨false, _, _, rfl, sqA_of h, rl, fun rs2 H2 st2 x2 g2 _ => by
      cases Rep.lat x2 (.arg h rl z) with
      | arg h2 rl2 _ => exact ⟨_, sqA_of h2, rl2⟩⟩
  | ref h =>
    simp only [wkOf, Option.map_eq_some_iff] at e
    obtain ⟨xs, e1, rfl⟩ := e
    obtain ⟨_, vs, e2, rl⟩ := g.at_ h e1
    refine ⟨false, _, vs, rfl, .inl (.inl e2), rl, fun rs2 H2 st2 x2 g2 hg => ?_⟩
    simp only [guardOk] at hg
    split at hg
    · rename_i ys e3
      have := sameL_eq _ _ hg
      subst this
      obtain ⟨_, us, e4, r4⟩ := g2.at_ (x2.ix _ _ h) e3
      exact ⟨us, .inl (.inl e4), r4⟩
    · cases hg
  | _ => simp [wkOf] at e
/-- a list or a tuple walked -/
def ItS (b : Bool) (K : PySem.W.Frag) (a : Addr) : It := match b with
  | true => Itt K a
  | false => Itl K a
def iSq (K : PySem.W.Frag) (tl : TE) : TI := fun σ H R => tl σ H fun x H1 => ∃ b a xs, x = .ref a ∧ SqB b K H1 a xs ∧ R (ItS b K a) H1
theorem pi_sq {tl : TE} (hl : PE X a tl) : PI X tg a (iSq X.K tl) := by
  refine ⟨fun pins s σ H R I h => ?_⟩
  refine thn (hl.run pins s σ H _ I h) fun v s1 ⟨x, H1, I1, r1, q1⟩ => ?_
  obtain ⟨b, ad, xs, ex, hq, q⟩ := q1
  subst ex
  cases r1
  cases b
  · obtain ⟨its, rv, pl, hz⟩ := I1.list hq
    refine wpAny_pyIter_list pl.isList ?_
    refine ⟨s1.heap.objs.size, [s1.heap.objs.size], _, _, H1, rfl, I1.kept (t' := s1.toks) fun b o e => Heap.get?_push_of_some _ e, turn_list ad _, ⟨_, Heap.get?_push_size _ rfl, rfl, rfl⟩, fun c hc => ?_, q⟩
    have ec : c = s1.heap.objs.size := by simpa using hc
    rw [ec]
    exact I1.fpOk (Nat.le_refl _) (I1.hok.fresh (Nat.le_refl _))
  · obtain ⟨its, rv, pl, hz⟩ := I1.tuple hq
    refine wpAny_pyIter_tuple (show s1.heap.IsTuple ad its.toArray from pl) ?_
    refine ⟨s1.heap.objs.size, [s1.heap.objs.size], _, _, H1, rfl, I1.kept (t' := s1.toks) fun b o e => Heap.get?_push_of_some _ e, turn_tuple ad _, ⟨_, Heap.get?_push_size _ rfl, rfl, rfl⟩, fun c hc => ?_, q⟩
    have ec : c = s1.heap.objs.size := by simpa using hc
    rw [ec]
    exact I1.fpOk (Nat.le_refl _) (I1.hok.fresh (Nat.le_refl _))
theorem itS_go {b : Bool} {ad : Addr} {n : Nat} {us : List V} {v : V} (h : SqB b K H ad us) (hv : us[n]? = some v) : (ItS b K ad).go n H := by
  cases b <;> exact ⟨us, v, h, hv⟩
theorem itS_stop {b : Bool} {ad : Addr} {us : List V} (h : SqB b K H ad us) : (ItS b K ad).stop us.length H := by
  cases b <;> exact ⟨us, h, Nat.le_refl _⟩
theorem itS_yld {b : Bool} {ad : Addr} {n : Nat} {us : List V} {v : V} {H3 : Hp} (y : (ItS b K ad).yld n H v H3) (h : SqB b K H ad us) : H3 = H ∧ us[n]? = some v := by
  cases b
  · exact ⟨y.1, y.2 us h⟩
  · exact ⟨y.1, y.2 us h⟩
theorem wk_len (g : Good K rs st H) {v : V} {q : PV} {w : Wk} (r : Rep K H rs v q) (e : wkOf q st = some w) : w.xs.length ≤ sizeLine := by
  cases r with
  | tup h rl z => simp [wkOf] at e; subst e; exact z
  | lst h rl z => simp [wkOf] at e; subst e; exact z
  | arg h rl z => simp [wkOf] at e; subst e; exact z
  | ref h =>
    simp only [wkOf, Option.map_eq_some_iff] at e
    obtain ⟨xs, e1, rfl⟩ := e
    exact (g.at2 h e1).1
  | _ => simp [wkOf] at e
theorem iseq (ha : PE X a (tE X.K c i)) : PI X tg a (tI X.K c (.itr .seq (.cons i .nil))) :=
  pi_wk (pi_sq ha) fun σ H R h => by
    obtain ⟨rs, st, ρ, w, st', g, er, e, q⟩ := h
    simp only [evI, evL, Option.bind_eq_some_iff, Option.map_eq_some_iff] at e
    obtain ⟨⟨y, s1⟩, ⟨⟨z, s2⟩, e1, ⟨z2, s3⟩, e2, e3⟩, w', e4, e5⟩ := e
    cases e2; cases e3; cases e5
    refine ⟨rs, st, ρ, z, _, g, er, e1, fun u H1 rs1 x1 g1 r1 => ?_⟩
    simp only [wkEv] at e4
    obtain ⟨b, ad, vs, rfl, hs, rl, later⟩ := wk_src g1 r1 e4
    refine ⟨b, ad, vs, rfl, hs, q _ H1 rs1 x1 g1 ⟨fun n p rs2 H2 st2 hp x2 g2 hg => ?_, fun rs2 H2 st2 x2 g2 hg => ?_, wk_len g1 r1 e4⟩⟩
    · obtain ⟨us, hu, ru⟩ := later rs2 H2 st2 x2 g2 hg
      obtain ⟨v, hv, rv⟩ := ru.get hp
      refine ⟨itS_go hu hv, fun x H3 y => ?_⟩
      obtain ⟨rfl, hx⟩ := itS_yld y hu
      rw [hv] at hx
      cases hx
      exact ⟨Ext.refl _ _, g2, rv⟩
    · obtain ⟨us, hu, ru⟩ := later rs2 H2 st2 x2 g2 hg
      rw [← ru.length]
      exact itS_stop hu
theorem rangeL_get (lo : Int) (n k : Nat) : (rangeL lo n)[k]? = if k < n then some (.int (lo + k)) else none := by
  unfold rangeL
  by_cases h : k < n
  · rw [List.getElem?_map, List.getElem?_range h, if_pos h]; rfl
  · rw [if_neg h, List.getElem?_eq_none (by simpa using h)]
theorem rangeL_len (lo : Int) (n : Nat) : (rangeL lo n).length = n := by simp [rangeL]
theorem wk_range {lo : Int} {n : Nat} (hn : n ≤ sizeLine) : WkOf K (Itr lo n) ⟨none, rangeL lo n⟩ rs H := by
  refine ⟨fun k p rs2 H2 st2 hp x2 g2 hg => ?_, fun rs2 H2 st2 x2 g2 hg => ?_, by rw [rangeL_len]; exact hn⟩
  · rw [rangeL_get] at hp
    split at hp
    · rename_i hk
      cases hp
      refine ⟨hk, fun x H3 y => ?_⟩
      obtain ⟨rfl, rfl⟩ := y
      exact ⟨Ext.refl _ _, g2, .int _⟩
    · cases hp
  · rw [rangeL_len]
    exact Nat.le_refl n
theorem rg_bounds {n : Int} (h : rgOk n = true) : -(2 ^ 62) ≤ n ∧ n < 2 ^ 62 := by
  simp only [rgOk, Bool.and_eq_true, decide_eq_true_eq] at h
  omega
theorem wk_r1 {vs : List PV} {w : Wk} (h : wkEv .range1 vs st = some w) : ∃ n, vs = [.int n] ∧ rgOk n = true ∧ n ≤ 16777216 ∧ w = ⟨none, rangeL 0 n.toNat⟩ := by
  match vs, h with
  | [], h => simp [wkEv] at h
  | v :: u :: r, h => simp [wkEv] at h
  | [.int n], h =>
    simp only [wkEv] at h
    split at h
    · rename_i hr
      simp only [Bool.and_eq_true, decide_eq_true_eq] at hr
      cases h
      exact ⟨n, rfl, hr.1, hr.2, rfl⟩
    · cases h
  | [.non], h => simp [wkEv] at h
  | [.bl _], h => simp [wkEv] at h
  | [.str _], h => simp [wkEv] at h
  | [.tup _], h => simp [wkEv] at h
  | [.lst _], h => simp [wkEv] at h
  | [.ref _], h => simp [wkEv] at h
  | [.arg _], h => simp [wkEv] at h
theorem wk_r2 {vs : List PV} {w : Wk} (h : wkEv .range2 vs st = some w) : ∃ m n, vs = [.int m, .int n] ∧ rgOk m = true ∧ rgOk n = true ∧ n - m ≤ 16777216 ∧ w = ⟨none, rangeL m (n - m).toNat⟩ := by
  unfold wkEv at h
  split at h <;> first | (rename_i k; cases k; done) | skip
  all_goals first
    | (rename_i k _; cases k; done)
    | (rename_i k _ _; cases k; done)
    | (cases h; done)
    | skip
  all_goals first
    | (split at h
       · rename_i hr
         simp only [Bool.and_eq_true, decide_eq_true_eq] at hr
         cases h
         exact ⟨_, _, rfl, hr.1.1, hr.1.2, hr.2, rfl⟩
       · cases h)
    | cases h
theorem wk_en {vs : List PV} {w : Wk} (h : wkEv .enum vs st = some w) : ∃ v w0, vs = [v] ∧ wkOf v st = some w0 ∧ w = ⟨w0.g, enumL 0 w0.xs⟩ := by
  match vs, h with
  | [], h => simp [wkEv] at h
  | v :: u :: r, h => simp [wkEv] at h
  | [v], h =>
    simp only [wkEv, Option.map_eq_some_iff] at h
    obtain ⟨w0, h1, rfl⟩ := h
    exact ⟨v, w0, rfl, h1, rfl⟩
theorem wk_z2 {vs : List PV} {w : Wk} (h : wkEv .zip2 vs st = some w) : ∃ v u xs ys, vs = [v, u] ∧ (∀ l, v ≠ .ref l) ∧ (∀ l, u ≠ .ref l) ∧ items v st = some xs ∧ items u st = some ys ∧ w = ⟨none, zipL xs ys⟩ := by
  match vs, h with
  | [], h => simp [wkEv] at h
  | [v], h => simp [wkEv] at h
  | v :: u :: t :: r, h => simp [wkEv] at h
  | [v, u], h =>
    simp only [wkEv] at h
    split at h
    · cases h
    · cases h
    · rename_i n1 n2
      simp only [Option.bind_eq_some_iff, Option.map_eq_some_iff] at h
      obtain ⟨xs, h1, ys, h2, rfl⟩ := h
      refine ⟨v, u, xs, ys, rfl, fun l z => ?_, fun l z => ?_, h1, h2, rfl⟩
      · subst z; exact n1 l rfl
      · subst z; exact n2 l rfl
theorem irange1 (hg : Gl X "range") (hm : X.mg "range" = none) (ha : PE X a (tE X.K c i)) (hs : isStar a = false) : PI X tg (.Call (.Name "range" p) [a] [] pos) (tI X.K c (.itr .range1 (.cons i .nil))) :=
  pi_wk (pi_range1 hg hm (acons ha anil hs) (star_no hs)) fun σ H R h => by
    obtain ⟨rs, st, ρ, w, st', g, er, e, q⟩ := h
    simp only [evI, Option.bind_eq_some_iff, Option.map_eq_some_iff] at e
    obtain ⟨⟨y, s1⟩, e1, w', e4, e5⟩ := e
    cases e5
    refine ⟨rs, st, ρ, y, s1, g, er, e1, fun us H1 rs1 x1 g1 r1 => ?_⟩
    obtain ⟨n, rfl, h1, h2, rfl⟩ := wk_r1 e4
    obtain ⟨v, rfl, rv⟩ := one_rep r1
    cases rv
    obtain ⟨b1, b2⟩ := rg_bounds h1
    exact ⟨_, rfl, b1, b2, q _ H1 rs1 x1 g1 (wk_range (by rw [sizeLine_eq]; omega))⟩
theorem irange2 (hg : Gl X "range") (hm : X.mg "range" = none) (ha : PE X a (tE X.K c i)) (hb : PE X e (tE X.K c j)) (hs : isStar a = false) (hs2 : isStar e = false) : PI X tg (.Call (.Name "range" p) [a, e] [] pos) (tI X.K c (.itr .range2 (.cons i (.cons j .nil)))) :=
  pi_wk (pi_range2 hg hm (acons ha (acons hb anil hs2) hs) (by rw [star_no hs, star_no hs2]; rfl) (by rw [star_no hs2]; rfl)) fun σ H R h => by
    obtain ⟨rs, st, ρ, w, st', g, er, e, q⟩ := h
    simp only [evI, Option.bind_eq_some_iff, Option.map_eq_some_iff] at e
    obtain ⟨⟨y, s1⟩, e1, w', e4, e5⟩ := e
    cases e5
    refine ⟨rs, st, ρ, y, s1, g, er, e1, fun us H1 rs1 x1 g1 r1 => ?_⟩
    obtain ⟨m, n, rfl, h1, h2, h3, rfl⟩ := wk_r2 e4
    obtain ⟨v, v2, rfl, rv, rv2⟩ := two_rep r1
    cases rv
    cases rv2
    obtain ⟨b1, b2⟩ := rg_bounds h1
    obtain ⟨b3, b4⟩ := rg_bounds h2
    exact ⟨_, _, rfl, ⟨b1, b2, b3, b4⟩, q _ H1 rs1 x1 g1 (wk_range (by rw [sizeLine_eq]; omega))⟩
theorem enumL_get : ∀ (xs : List PV) (k n : Nat), (enumL k xs)[n]? = xs[n]?.map fun x => PV.tup [.int ((k + n : Nat) : Int), x]
  | [], k, n => by simp [enumL]
  | x :: r, k, 0 => by simp [enumL]
  | x :: r, k, n + 1 => by
    simp only [enumL, List.getElem?_cons_succ]
    rw [enumL_get r (k + 1) n]
    congr 1
    funext y
    have : k + 1 + n = k + (n + 1) := by omega
    rw [this]
theorem enumL_len : ∀ (xs : List PV) (k : Nat), (enumL k xs).length = xs.length
  | [], _ => rfl
  | x :: r, k => by simp [enumL, enumL_len r (k + 1)]
theorem pair_new {T : Addr} {v1 v2 : V} {q1 q2 : PV} (g : Good K rs st H) (hT : H T = none) (r1 : Rep K H rs v1 q1) (r2 : Rep K H rs v2 q2) : Ext rs H rs (upd H T (.tup [v1, v2])) ∧ Good K rs st (upd H T (.tup [v1, v2])) ∧ Rep K (upd H T (.tup [v1, v2])) rs (.ref T) (.tup [q1, q2]) :=
  ⟨Ext.new hT, g.new hT, .tup (.inl ⟨g.fresh hT, upd_same⟩) (.cons (Rep.ext (Ext.new hT) _ _ r1) (.cons (Rep.ext (Ext.new hT) _ _ r2) .nil)) (by rw [sizeLine_eq]; simp)⟩
theorem ienum (hg : Gl X x) (hm : X.mg x = none) (hv : bootBuiltins x = some (.type "enumerate")) (hn : x ≠ "__name__") (hd : (x == ("__debug__" : Str)) = false) (ha : PE X a (tE X.K c i)) (hs : isStar a = false) :
    PI X (.Tuple elts kk tpos) (.Call (.Name x p) [a] [] pos) (tI X.K c (.itr .enum (.cons i .nil))) :=
  pi_wk (pi_en hg hm hv hn hd (acons ha anil hs) hs) fun σ H R h => by
    obtain ⟨rs, st, ρ, w, st', g, er, e, q⟩ := h
    simp only [evI, Option.bind_eq_some_iff, Option.map_eq_some_iff] at e
    obtain ⟨⟨y, s1⟩, e1, w', e4, e5⟩ := e
    cases e5
    refine ⟨rs, st, ρ, y, s1, g, er, e1, fun us H1 rs1 x1 g1 r1 => ?_⟩
    obtain ⟨v0, w0, rfl, e6, rfl⟩ := wk_en e4
    obtain ⟨v, rfl, rv⟩ := one_rep r1
    obtain ⟨b, ad, vs, rfl, hsq, rl, later⟩ := wk_src g1 rv e6
    have hl := wk_len g1 rv e6
    refine ⟨b, ad, vs, rfl, hsq, q _ H1 rs1 x1 g1 ⟨fun n p rs2 H2 st2 hp x2 g2 hg => ?_, fun rs2 H2 st2 x2 g2 hg => ?_, by rw [enumL_len]; exact hl⟩⟩
    · obtain ⟨us, hu, ru⟩ := later rs2 H2 st2 x2 g2 (by simpa [guardOk] using hg)
      rw [enumL_get] at hp
      simp only [Option.map_eq_some_iff] at hp
      obtain ⟨p0, hp0, rfl⟩ := hp
      obtain ⟨v, hv, rv2⟩ := ru.get hp0
      refine ⟨⟨us, v, hu, hv⟩, fun x H3 y => ?_⟩
      obtain ⟨T, x0, rfl, hT, rfl, hx⟩ := y
      have := hx us hu
      rw [hv] at this
      cases this
      rw [Nat.zero_add]
      exact pair_new g2 hT (.int _) rv2
    · obtain ⟨us, hu, ru⟩ := later rs2 H2 st2 x2 g2 (by simpa [guardOk] using hg)
      rw [enumL_len, ← ru.length]
      exact ⟨us, hu, rfl⟩
theorem zipL_get : ∀ (xs ys : List PV) (n : Nat) (p : PV), (zipL xs ys)[n]? = some p → ∃ x y, xs[n]? = some x ∧ ys[n]? = some y ∧ p = .tup [x, y]
  | [], _, n, p, h => by simp [zipL] at h
  | _ :: _, [], n, p, h => by simp [zipL] at h
  | x :: r, y :: t, 0, p, h => by simp [zipL] at h; exact ⟨x, y, rfl, rfl, h.symm⟩
  | x :: r, y :: t, n + 1, p, h => by
    simp only [zipL, List.getElem?_cons_succ] at h ⊢
    exact zipL_get r t n p h
theorem zipL_len : ∀ (xs ys : List PV), (zipL xs ys).length = min xs.length ys.length
  | [], _ => by simp [zipL]
  | _ :: _, [] => by simp [zipL]
  | x :: r, y :: t => by simp [zipL, zipL_len r t] <;> omega
theorem wkOf_items {q : PV} {xs : List PV} (h : items q st = some xs) (hn : ∀ l, q ≠ .ref l) : wkOf q st = some ⟨none, xs⟩ := by
  cases q with
  | ref l => exact absurd rfl (hn l)
  | tup ys => simpa [wkOf, items] using h
  | lst ys => simpa [wkOf, items] using h
  | arg ys => simpa [wkOf, items] using h
  | _ => simp [items] at h
theorem izip (hg : Gl X x) (hm : X.mg x = none) (hv : bootBuiltins x = some (.type "zip")) (hn : x ≠ "__name__") (hd : (x == ("__debug__" : Str)) = false) (ha : PE X a (tE X.K c i)) (hb : PE X e (tE X.K c j)) (hs : isStar a = false) (hs2 : isStar e = false) :
    PI X (.Tuple elts kk tpos) (.Call (.Name x p) [a, e] [] pos) (tI X.K c (.itr .zip2 (.cons i (.cons j .nil)))) :=
  pi_wk (pi_zp hg hm hv hn hd (acons ha (acons hb anil hs2) hs) hs hs2) fun σ H R h => by
    obtain ⟨rs, st, ρ, w, st', g, er, e, q⟩ := h
    simp only [evI, Option.bind_eq_some_iff, Option.map_eq_some_iff] at e
    obtain ⟨⟨y, s1⟩, e1, w', e4, e5⟩ := e
    cases e5
    refine ⟨rs, st, ρ, y, s1, g, er, e1, fun us H1 rs1 x1 g1 r1 => ?_⟩
    obtain ⟨p1, p2, xs, ys, rfl, hn1, hn2, e6, e7, rfl⟩ := wk_z2 e4
    obtain ⟨v, v2, rfl, rv, rv2⟩ := two_rep r1
    · have w1 := wkOf_items e6 hn1
      have w2 := wkOf_items e7 hn2
      obtain ⟨b, ad, vs, rfl, hsq, rl, later⟩ := wk_src g1 rv w1
      obtain ⟨b2, ad2, vs2, rfl, hsq2, rl2, later2⟩ := wk_src g1 rv2 w2
      have hl := wk_len g1 rv w1
      refine ⟨b, b2, ad, ad2, vs, vs2, rfl, hsq, hsq2, q _ H1 rs1 x1 g1 ⟨fun n p rs2 H2 st2 hp x2 g2 hg => ?_, fun rs2 H2 st2 x2 g2 hg => ?_, by rw [zipL_len]; simp only at hl; omega⟩⟩
      · obtain ⟨us, hu, ru⟩ := later rs2 H2 st2 x2 g2 rfl
        obtain ⟨us2, hu2, ru2⟩ := later2 rs2 H2 st2 x2 g2 rfl
        obtain ⟨p1, p2, h1, h2, rfl⟩ := zipL_get _ _ _ _ hp
        obtain ⟨v, hv, rv⟩ := ru.get h1
        obtain ⟨v2, hv2, rv2⟩ := ru2.get h2
        refine ⟨⟨us, us2, v, v2, hu, hu2, hv, hv2⟩, fun x H3 y => ?_⟩
        obtain ⟨T, x0, y0, rfl, hT, rfl, hx, hy⟩ := y
        have k1 := hx us hu
        rw [hv] at k1
        cases k1
        have k2 := hy us2 hu2
        rw [hv2] at k2
        cases k2
        exact pair_new g2 hT rv rv2
      · obtain ⟨us, hu, ru⟩ := later rs2 H2 st2 x2 g2 rfl
        obtain ⟨us2, hu2, ru2⟩ := later2 rs2 H2 st2 x2 g2 rfl
        have l1 := ru.length
        have l2 := ru2.length
        simp only at l1 l2
        refine ⟨us, us2, hu, hu2, ?_, ?_, ?_⟩
        · rw [zipL_len]; omega
        · rw [zipL_len]; omega
        · rw [zipL_len]; omega
theorem irev (hg : Gl X "reversed") (hm : X.mg "reversed" = none) (ha : PE X a (tE X.K c i)) (hs : isStar a = false) : PI X tg (.Call (.Name "reversed" p) [a] [] pos) (tI X.K c (.itr .rev (.cons i .nil))) :=
  pi_wk (RT.pi_revA hg hm ha (star_no hs)) fun σ H R h => by
    obtain ⟨rs, st, ρ, w, st', g, er, e, q⟩ := h
    simp only [evI, evL, Option.bind_eq_some_iff, Option.map_eq_some_iff] at e
    obtain ⟨⟨y, s1⟩, ⟨⟨z, s2⟩, e1, ⟨z2, s3⟩, e2, e3⟩, w', e4, e5⟩ := e
    cases e2; cases e3; cases e5
    refine ⟨rs, st, ρ, z, _, g, er, e1, fun u H1 rs1 x1 g1 r1 => ?_⟩
    simp only [wkEv, Option.map_eq_some_iff] at e4
    obtain ⟨w0, e6, rfl⟩ := e4
    obtain ⟨b, ad, vs, rfl, hs, rl, later⟩ := wk_src g1 r1 e6
    have hl := wk_len g1 r1 e6
    have hlv := rl.length
    cases b
    · refine ⟨ad, vs, rfl, .inl ⟨hs, q _ H1 rs1 x1 g1 ⟨fun n p rs2 H2 st2 hp x2 g2 hg => ?_, fun rs2 H2 st2 x2 g2 hg => ?_, by rw [List.length_reverse]; exact hl⟩⟩⟩
      · obtain ⟨us, hu, ru⟩ := later rs2 H2 st2 x2 g2 (by simpa [guardOk] using hg)
        have lu := ru.length
        have hn : n < w0.xs.length := by
          have := (List.getElem?_eq_some_iff.mp hp).1
          simpa using this
        rw [List.getElem?_reverse hn] at hp
        obtain ⟨v, hv, rv⟩ := ru.get hp
        have e7 : us[vs.length - 1 - n]? = some v := by
          rw [hlv, ← hv]
        refine ⟨⟨by omega, us, v, hu, e7⟩, fun x H3 y => ?_⟩
        obtain ⟨rfl, hx⟩ := y
        have := hx us hu
        rw [e7] at this
        cases this
        exact ⟨Ext.refl _ _, g2, rv⟩
      · show vs.length ≤ _
        rw [List.length_reverse]
        omega
    · refine ⟨ad, vs, rfl, .inr ⟨hs, q _ H1 rs1 x1 g1 ⟨fun n p rs2 H2 st2 hp x2 g2 hg => ?_, fun rs2 H2 st2 x2 g2 hg => ?_, by rw [List.length_reverse]; exact hl⟩⟩⟩
      · obtain ⟨us, hu, ru⟩ := later rs2 H2 st2 x2 g2 (by simpa [guardOk] using hg)
        have lu := ru.length
        have hn : n < w0.xs.length := by
          have := (List.getElem?_eq_some_iff.mp hp).1
          simpa using this
        rw [List.getElem?_reverse hn] at hp
        obtain ⟨v, hv, rv⟩ := ru.get hp
        have e7 : us[vs.length - 1 - n]? = some v := by
          rw [hlv, ← hv]
        refine ⟨⟨by omega, us, v, hu, e7⟩, fun x H3 y => ?_⟩
        obtain ⟨rfl, hx⟩ := y
        have := hx us hu
        rw [e7] at this
        cases this
        exact ⟨Ext.refl _ _, g2, rv⟩
      · show vs.length ≤ _
        rw [List.length_reverse]
        omega
end
end Ev

/-! targets and comprehensions -/
namespace Ev
open PySem L2
def gNames : List Nat → TGs
  | [] => gNil
  | i :: is => gCons (gName i) (gNames is)
def rawG (K : PySem.W.Frag) : Tg → TG
  | .one i => gName i
  | .many is => gTup K is.length (gNames is)
def tgs : Tg → List Nat
  | .one i => [i]
  | .many is => is
/-! slots -/
theorem wipe_set (σ : L2.St) (i : Nat) (o : Option V) : ∀ vs : List Nat, wipe (σ.set i o) vs = if i ∈ vs then wipe σ vs else (wipe σ vs).set i o
  | [] => by simp [wipe]
  | v :: vs => by
    unfold wipe
    rw [wipe_set σ i o vs]
    by_cases h : i = v
    · subst h
      by_cases h2 : i ∈ vs
      · simp [h2]
      · simp [h2]
    · by_cases h2 : i ∈ vs
      · simp [h2]
      · simp [h, h2, List.set_comm _ _ h]
theorem wipe_idem (σ : L2.St) : ∀ vs : List Nat, wipe (wipe σ vs) vs = wipe σ vs := fun vs => by
  have gen : ∀ us : List Nat, (∀ u ∈ us, u ∈ vs) → wipe (wipe σ us) vs = wipe σ vs := fun us => by
    induction us with
    | nil => intro _; rfl
    | cons u us ih =>
      intro h
      show wipe ((wipe σ us).set u none) vs = wipe σ vs
      rw [wipe_set, if_pos (h u (by simp))]
      exact ih fun w hw => h w (by simp [hw])
  exact gen vs fun _ h => h
section
variable {X : Cx} {K : PySem.W.Frag} {c : Cf} {rs rs1 rs2 : Rs} {st st' : Sto} {H H1 : Hp} {σ σ' : L2.St} {ρ ρ' : Slots}
theorem EnvR.put (r : EnvR K H rs σ ρ) {v : V} {p : PV} (h : Rep K H rs v p) (i : Nat) : EnvR K H rs (σ.set i (some v)) (ρ.set i (some p)) := by
  refine ⟨by simp [r.len], fun j q e => ?_⟩
  by_cases hj : i = j
  · subst hj
    have hl : i < ρ.length := by
      have := (List.getElem?_eq_some_iff.mp e).1
      simpa using this
    rw [List.getElem?_set_self hl] at e
    cases e
    exact ⟨v, by rw [List.getElem?_set_self (by rw [r.len]; exact hl)], h⟩
  · rw [List.getElem?_set_ne hj] at e
    obtain ⟨w, h1, h2⟩ := r.at_ j q e
    exact ⟨w, by rw [List.getElem?_set_ne hj]; exact h1, h2⟩
theorem EnvR.drop (r : EnvR K H rs σ ρ) (i : Nat) : EnvR K H rs (σ.set i none) (ρ.set i none) := by
  refine ⟨by simp [r.len], fun j q e => ?_⟩
  by_cases hj : i = j
  · subst hj
    have hl : i < ρ.length := by
      have := (List.getElem?_eq_some_iff.mp e).1
      simpa using this
    rw [List.getElem?_set_self hl] at e
    cases e
  · rw [List.getElem?_set_ne hj] at e
    obtain ⟨w, h1, h2⟩ := r.at_ j q e
    exact ⟨w, by rw [List.getElem?_set_ne hj]; exact h1, h2⟩
theorem EnvR.wipe (r : EnvR K H rs σ ρ) : ∀ vs : List Nat, EnvR K H rs (L2.wipe σ vs) (wipeS ρ vs)
  | [] => r
  | v :: vs => (EnvR.wipe r vs).drop v
theorem gNames_ok : ∀ (is : List Nat) (xs : List V) (ps : List PV) (σ : L2.St) (ρ ρ' : Slots) (Q : L2.St → Hp → Prop), EnvR K H rs σ ρ → RepL K H rs xs ps → setMany is ps ρ = some ρ' →
    (∀ σ', EnvR K H rs σ' ρ' → (∀ vs, (∀ i ∈ is, i ∈ vs) → wipe σ' vs = wipe σ vs) → Q σ' H) → gNames is xs σ H Q
  | [], _, _, σ, ρ, ρ', Q, er, .nil, e, h => by
    simp [setMany] at e
    subst e
    exact ⟨rfl, h σ er fun _ _ => rfl⟩
  | i :: is, _, _, σ, ρ, ρ', Q, er, .cons r rl, e, h => by
    simp only [setMany] at e
    refine ⟨_, _, rfl, gNames_ok is _ _ _ _ ρ' Q (er.put r i) rl e fun σ' er' hw => h σ' er' fun vs hv => ?_⟩
    rw [hw vs fun j hj => hv j (by simp [hj]), wipe_set, if_pos (hv i (by simp))]
  | [], _, _, _, _, _, _, _, .cons _ _, e, _ => by simp [setMany] at e
  | _ :: _, _, _, _, _, _, _, _, .nil, e, _ => by simp [setMany] at e
theorem setMany_len : ∀ (is : List Nat) (ps : List PV) (ρ ρ' : Slots), setMany is ps ρ = some ρ' → ps.length = is.length
  | [], [], _, _, _ => rfl
  | i :: is, p :: ps, ρ, ρ', h => by simp [setMany_len is ps _ ρ' (by simpa [setMany] using h)]
  | [], _ :: _, _, _, h => by simp [setMany] at h
  | _ :: _, [], _, _, h => by simp [setMany] at h
theorem rawG_ok {t : Tg} {v : V} {p : PV} {Q : L2.St → Hp → Prop} (er : EnvR K H rs σ ρ) (r : Rep K H rs v p) (e : asgn t p ρ = some ρ')
    (h : ∀ σ', EnvR K H rs σ' ρ' → (∀ vs, (∀ i ∈ tgs t, i ∈ vs) → wipe σ' vs = wipe σ vs) → Q σ' H) : rawG K t v σ H Q := by
  cases t with
  | one i =>
    simp [asgn] at e
    subst e
    exact h _ (er.put r i) fun vs hv => by rw [wipe_set, if_pos (hv i (by simp [tgs]))]
  | many is =>
    cases r with
    | tup q rl z =>
      simp only [asgn] at e
      exact ⟨_, _, rfl, sqT_of q, by rw [rl.length]; exact setMany_len _ _ _ _ e, gNames_ok is _ _ σ ρ ρ' Q er rl e h⟩
    | _ => simp [asgn] at e
/-- a test's reading -/
def TTok (K : PySem.W.Frag) (c : Cf) (tt : TT) (q : E) : Prop := ∀ (σ : L2.St) (H : Hp) (Q : Bool → Hp → Prop) rs st ρ v st' k, Good K rs st H → EnvR K H rs σ ρ → evE c q ρ st = some (v, st') → truth v st' = some k → (∀ H' rs', Ext rs H rs' H' → Good K rs' st' H' → Q k H') → tt σ H Q
theorem tt_T (q : E) : TTok K c (tT K c q) q := fun σ H Q rs st ρ v st' k g er e e2 h => ⟨rs, st, ρ, v, st', k, g, er, e, e2, h⟩
theorem tt_Y : TTok K c tYes (.cst (.bl true)) := fun σ H Q rs st ρ v st' k g er e e2 h => by
  simp only [evE] at e
  cases e
  simp [truth] at e2
  subst e2
  exact h H rs (Ext.refl _ _) g
/-- what stands while a comprehension runs -/
structure LcI (K : PySem.W.Frag) (D : Addr) (rs1 : Rs) (H1 : Hp) (rs2 : Rs) (st2 : Sto) (Hc : Hp) (acc : List PV) : Prop where
  ex : rs2.ex = D :: rs1.ex
  lat : Lat rs1 H1 rs2 Hc
  good : Good K rs2 st2 Hc
  new : ∃ new, rs2.ix = rs1.ix ++ new ∧ ∀ a ∈ new, H1 a = none
  keep : ∀ a o, H1 a = some o → a ∉ rs1.ix → Hc a = some o
  live : ∀ a, Hc a = none → H1 a = none
  at_ : ∃ vs, Hc D = some (.lst vs) ∧ RepL K Hc rs2 vs acc
theorem LcI.start {D : Addr} (g : Good K rs1 st H1) (hD : H1 D = none) : LcI K D rs1 H1 ⟨rs1.ix, D :: rs1.ex⟩ st (upd H1 D (.lst [])) [] := by
  have nD := g.fresh hD
  have lat : Lat rs1 H1 ⟨rs1.ix, D :: rs1.ex⟩ (upd H1 D (.lst [])) := ⟨fun _ _ h => h, fun a o hn h => by
    have ne : a ≠ D := ne_of_none h hD
    refine ⟨?_, by rw [upd_ne ne]; exact h⟩
    rintro (z | z)
    · exact hn (.inl z)
    · rcases List.mem_cons.mp z with e | e
      · exact ne e
      · exact hn (.inr e)⟩
  refine ⟨rfl, lat, ⟨g.len, g.nd, fun a ha => ?_, fun l a xs h1 h2 => ?_⟩, ⟨[], by simp, by simp⟩, fun a o h hn => by rw [upd_ne (ne_of_none h hD)]; exact h, fun a h => ?_, [], upd_same, .nil⟩
  · rcases List.mem_cons.mp ha with e | e
    · subst e
      exact ⟨by rw [upd_same]; simp, fun z => nD (.inl z)⟩
    · obtain ⟨k1, k2⟩ := g.exl a e
      refine ⟨?_, k2⟩
      by_cases z : a = D
      · subst z; rw [upd_same]; simp
      · rw [upd_ne z]; exact k1
  · obtain ⟨h0, h3, vs, h4, h5⟩ := g.cell l a xs h1 h2
    exact ⟨h0, h3, vs, by rw [upd_ne (ne_of_none h4 hD)]; exact h4, h5.lat lat⟩
  · by_cases z : a = D
    · subst z; exact hD
    · rwa [upd_ne z] at h
theorem LcI.step {D : Addr} {H2 H3 : Hp} {rs3 : Rs} {st3 : Sto} {acc : List PV} (L : LcI K D rs1 H1 rs2 st H2 acc) (x : Ext rs2 H2 rs3 H3) (g : Good K rs3 st3 H3) : LcI K D rs1 H1 rs3 st3 H3 acc := by
  obtain ⟨n1, e1, f1⟩ := L.new
  obtain ⟨n2, e2, f2⟩ := x.pre
  obtain ⟨vs, hD, rl⟩ := L.at_
  have hDx : D ∈ rs2.ex := by rw [L.ex]; simp
  refine ⟨by rw [e2]; exact L.ex, L.lat.trans x.lat, g, ⟨n1 ++ n2, by rw [e2, e1]; simp, fun a ha => ?_⟩, fun a o h hn => ?_, fun a h => L.live a (x.live a h), vs, x.keep _ _ hD (L.good.exl D hDx).2, rl.lat x.lat⟩
  · rcases List.mem_append.mp ha with z | z
    · exact f1 a z
    · exact L.live a (f2 a z)
  · refine x.keep a o (L.keep a o h hn) ?_
    rw [e1]
    intro z
    rcases List.mem_append.mp z with z | z
    · exact hn z
    · rw [f1 a z] at h; cases h
theorem LcI.push {D : Addr} {H2 : Hp} {acc : List PV} {vs : List V} {y : V} {p : PV} (L : LcI K D rs1 H1 rs2 st H2 acc) (hD1 : H1 D = none) (hD : H2 D = some (.lst vs)) (r : Rep K H2 rs2 y p) : LcI K D rs1 H1 rs2 st (upd H2 D (.lst (vs ++ [y]))) (acc ++ [p]) := by
  have hDx : D ∈ rs2.ex := by rw [L.ex]; simp
  obtain ⟨vs', hD', rl⟩ := L.at_
  rw [hD] at hD'
  cases hD'
  have la : Lat rs2 H2 rs2 (upd H2 D (.lst (vs ++ [y]))) := Lat.exupd hDx
  refine ⟨L.ex, L.lat.trans la, L.good.exupd hDx, L.new, fun a o h hn => ?_, fun a h => ?_, _, upd_same, (rl.lat la).append (.cons (r.lat la) .nil)⟩
  · rw [upd_ne (ne_of_none h hD1)]
    exact L.keep a o h hn
  · by_cases z : a = D
    · subst z; exact hD1
    · rw [upd_ne z] at h; exact L.live a h
/-- the comprehension's end: the list is the caller's -/
theorem LcI.fin {D : Addr} {H2 : Hp} {acc : List PV} {m : Bool} {v : PV} {Q : VK} (L : LcI K D rs1 H1 rs2 st H2 acc) (hD1 : H1 D = none) (nD : D ∉ rs1) (hz : acc.length ≤ sizeLine) (e : mkL m acc st = some (v, st')) (q : Post K rs1 H1 st' v Q) : Q (.ref D) H2 := by
  obtain ⟨vs, hD, rl⟩ := L.at_
  obtain ⟨ix2, ex2⟩ := rs2
  obtain ⟨n1, e1, f1⟩ := L.new
  have ee : ex2 = D :: rs1.ex := L.ex
  subst ee
  simp only at e1
  subst e1
  have hDix := (L.good.exl D (by simp)).2
  have hnD : D ∉ (⟨rs1.ix ++ n1, rs1.ex⟩ : Rs) := by
    rintro (z | z)
    · exact hDix z
    · exact nD (.inr z)
  have rl1 : RepL K H2 ⟨rs1.ix ++ n1, rs1.ex⟩ vs acc := RepL.gen (rs := ⟨rs1.ix ++ n1, D :: rs1.ex⟩) (rs' := ⟨rs1.ix ++ n1, rs1.ex⟩) (fun _ _ h => h) (fun b u hb hu => ⟨fun z => hb (Or.imp id (List.mem_cons_of_mem _) z), hu⟩) _ _ rl
  have g1 : Good K ⟨rs1.ix ++ n1, rs1.ex⟩ st H2 := L.good.exch (by simp; exact fun a h => .inr h)
  unfold mkL at e
  cases m with
  | false =>
    simp only [Bool.false_eq_true, if_false, Option.some.injEq, Prod.mk.injEq] at e
    obtain ⟨rfl, rfl⟩ := e
    exact q _ _ ⟨rs1.ix ++ n1, rs1.ex⟩ ⟨⟨n1, rfl, f1⟩, L.keep, L.live⟩ g1 (.lst ⟨hnD, hD⟩ rl1 hz)
  | true =>
    simp only [if_true] at e
    split at e
    · rename_i hg
      cases e
      have lat : ∀ (ps : List PV) (ws : List V), RepL K H2 ⟨rs1.ix ++ n1, D :: rs1.ex⟩ ws ps → RepL K H2 ⟨rs1.ix ++ n1 ++ [D], rs1.ex⟩ ws ps := RepL.gen (fun l a h => by
        show (rs1.ix ++ n1 ++ [D])[l]? = some a
        rw [List.getElem?_append_left (List.getElem?_eq_some_iff.mp h).1]; exact h) (fun b u hb hu => ⟨fun z => hb (by
          rcases z with z | z
          · rcases List.mem_append.mp z with z | z
            · exact .inl z
            · exact .inr (by simp at z; subst z; simp)
          · exact .inr (List.mem_cons_of_mem _ z)), hu⟩)
      refine q _ _ ⟨rs1.ix ++ n1 ++ [D], rs1.ex⟩ ⟨⟨n1 ++ [D], by simp, fun a ha => ?_⟩, L.keep, L.live⟩ ⟨by have := g1.len; simp at this ⊢; omega, ?_, fun a ha => ⟨(L.good.exl a (List.mem_cons_of_mem _ ha)).1, fun hm => ?_⟩, fun l a ys h1 h2 => ?_⟩ (.ref (by
        have := g1.len
        show (rs1.ix ++ n1 ++ [D])[st.length]? = some D
        rw [← show (rs1.ix ++ n1).length = st.length from this]; simp))
      · rcases List.mem_append.mp ha with z | z
        · exact f1 a z
        · simp at z; subst z; exact hD1
      · show (rs1.ix ++ n1 ++ [D]).Nodup
        rw [List.nodup_append]
        exact ⟨g1.nd, by simp, fun a ha b hb => by
          simp at hb; subst hb; exact fun e => hDix (e ▸ ha)⟩
      · rcases List.mem_append.mp hm with z | z
        · exact (L.good.exl a (List.mem_cons_of_mem _ ha)).2 z
        · simp at z
          subst z
          exact nD (.inr ha)
      · have h1' : (rs1.ix ++ n1 ++ [D])[l]? = some a := h1
        have gl : (rs1.ix ++ n1).length = st.length := g1.len
        by_cases hl : l < (rs1.ix ++ n1).length
        · rw [List.getElem?_append_left hl] at h1'
          rw [List.getElem?_append_left (by rw [← gl]; exact hl)] at h2
          obtain ⟨h0, h3, ws, h4, h5⟩ := L.good.cell l a ys h1' h2
          exact ⟨h0, h3, ws, h4, lat _ _ h5⟩
        · have hl2 : l = (rs1.ix ++ n1).length := by
            have := (List.getElem?_eq_some_iff.mp h1').1
            rw [List.length_append] at this
            simp at this hl ⊢; omega
          subst hl2
          rw [List.getElem?_append_right (Nat.le_refl _)] at h1'
          rw [gl, List.getElem?_append_right (Nat.le_refl _)] at h2
          simp at h1' h2
          subst h1' h2
          exact ⟨hz, hg, vs, hD, lat _ _ rl⟩
    · cases e

/-- a turn's own work, told by what stands behind it -/
def lcF (c : Cf) (t : Tg) (own : List Nat) (q e : E) (ρ : Slots) : PV → Sto → Option (Option PV × Sto) := fun x st => (asgn t x (wipeS ρ own)).bind fun σ' =>
  (evE c q σ' st).bind fun k => (truth k.1 k.2).bind fun b => if b then (evE c e σ' k.2).map fun y => (some y.1, y.2) else some (none, k.2)
def lcN (acc : List PV) : Option PV → List PV
  | some v => acc ++ [v]
  | none => acc
theorem lc_turn {D : Addr} {t : Tg} {own : List Nat} {q e : E} {tt : TT} {x : V} {p : PV} {y : Option PV} {st2 st3 : Sto} {H2 : Hp} {acc : List PV} {Nx : Hp → Prop} (ht : TTok K c tt q) (hown : ∀ i ∈ tgs t, i ∈ own)
    (hD1 : H1 D = none) (L : LcI K D rs1 H1 rs2 st2 H2 acc) (hz : y ≠ none → acc.length < sizeLine) (er : EnvR K H2 rs2 σ ρ) (r : Rep K H2 rs2 x p) (ef : lcF c t own q e ρ p st2 = some (y, st3))
    (nx : ∀ H3 rs3, LcI K D rs1 H1 rs3 st3 H3 (lcN acc y) → Lat rs2 H2 rs3 H3 → Nx H3) :
    rawG K t x (L2.wipe σ own) H2 fun σ2 H2 => L2.wipe σ2 own = L2.wipe σ own ∧ tt σ2 H2 fun b H3 =>
      if b = true then tE K c e σ2 H3 fun y H4 => ∃ acc, H4 D = some (.lst acc) ∧ acc.length < sizeLine ∧ Nx (upd H4 D (.lst (acc ++ [y]))) else Nx H3 := by
  simp only [lcF, Option.bind_eq_some_iff] at ef
  obtain ⟨ρ2, ea, ⟨k, sk⟩, ek, b, eb, ef⟩ := ef
  refine rawG_ok (er.wipe own) r ea fun σ2 er2 hw => ⟨?_, ?_⟩
  · rw [hw own hown, wipe_idem]
  · refine ht σ2 H2 _ rs2 st2 ρ2 k sk b L.good er2 ek eb fun H3 rs3 x3 g3 => ?_
    have L3 := L.step x3 g3
    cases b with
    | false =>
      simp only [Bool.false_eq_true, if_false] at ef ⊢
      cases ef
      exact nx H3 rs3 L3 x3.lat
    | true =>
      simp only [if_true] at ef ⊢
      obtain ⟨⟨v, sv⟩, ev, ef⟩ := Option.map_eq_some_iff.mp ef
      cases ef
      refine ⟨rs3, sk, ρ2, v, sv, g3, er2.ext x3, ev, fun w H4 rs4 x4 g4 r4 => ?_⟩
      have L4 := L3.step x4 g4
      obtain ⟨vs, hD, rl⟩ := L4.at_
      refine ⟨vs, hD, by rw [rl.length]; exact hz (by simp), ?_⟩
      exact nx _ rs4 (L4.push hD1 hD r4) ((x3.lat.trans x4.lat).trans (Lat.exupd (by rw [L4.ex]; simp)))
theorem drop_at {α : Type} {xs : List α} {i : Nat} (h : i < xs.length) : ∃ p, xs[i]? = some p ∧ xs.drop i = p :: xs.drop (i + 1) := ⟨xs[i], List.getElem?_eq_getElem h, List.drop_eq_getElem_cons h⟩
theorem lc_ok {m : Bool} {it : E} {t : Tg} {own : List Nat} {q e : E} {tt : TT} {Q : VK} (ht : TTok K c tt q) (hown : ∀ i ∈ tgs t, i ∈ own) (h : tE K c (.lc m it t own q e) σ H Q) : tLc (tI K c it) (rawG K t) tt (tE K c e) own σ H Q := by
  obtain ⟨rs, st, ρ, v, st', g, er, ev, post⟩ := h
  simp only [evE, Option.bind_eq_some_iff] at ev
  obtain ⟨⟨w, s1⟩, e1, ⟨ys, s2⟩, e2, e3⟩ := ev
  refine ⟨rs, st, ρ, w, s1, g, er, e1, fun J H1 rs1 x1 g1 wk => fun D hD => ?_⟩
  refine ⟨fun i n Hc => ∃ rs2 st2 acc rest, LcI K D rs1 H1 rs2 st2 Hc acc ∧ n = w.xs.length - i ∧ i ≤ w.xs.length ∧ lcM (guardOk w) (lcF c t own q e ρ) (w.xs.drop i) st2 = some (rest, s2) ∧ acc ++ rest = ys ∧ acc.length ≤ i, ⟨w.xs.length, _, s1, [], ys, LcI.start g1 hD, by simp, by simp, e2, by simp, by simp⟩, ?_⟩
  rintro i n Hc ⟨rs2, st2, acc, rest, L, hn, hi, el, ea, hl⟩
  by_cases hlt : i < w.xs.length
  · obtain ⟨p, hp, hd⟩ := drop_at hlt
    rw [hd] at el
    simp only [lcM] at el
    split at el
    · rename_i hg
      obtain ⟨⟨y, s3⟩, ef, el⟩ := Option.bind_eq_some_iff.mp el
      obtain ⟨⟨zs, s4⟩, er3, el⟩ := Option.map_eq_some_iff.mp el
      obtain ⟨hgo, hy⟩ := wk.go i p rs2 Hc st2 hp L.lat L.good hg
      refine .inr ⟨hgo, fun H3 => ∃ rs3, LcI K D rs1 H1 rs3 s3 H3 (lcN acc y), fun H3 ⟨rs3, L3⟩ => ?_, fun x H3 yl => ?_⟩
      · refine ⟨w.xs.length - (i + 1), by omega, rs3, s3, lcN acc y, zs, L3, rfl, hlt, ?_, ?_, ?_⟩
        · cases y <;> (simp only at el; cases el; exact er3)
        · cases y <;> (simp only at el; cases el; simp [lcN, ← ea])
        · cases y <;> simp [lcN] <;> omega
      · obtain ⟨x3, g3, r3⟩ := hy x H3 yl
        have L3 := L.step x3 g3
        exact lc_turn ht hown hD L3 (fun _ => by have := wk.len; omega) ((er.ext x1).lat L3.lat) r3 ef fun H4 rs4 L4 _ => ⟨rs4, L4⟩
    · cases el
  · have hie : i = w.xs.length := by omega
    subst hie
    rw [List.drop_length] at el
    simp only [lcM] at el
    split at el
    · rename_i hg
      cases el
      refine .inl ⟨wk.stop rs2 Hc _ L.lat L.good hg, ?_⟩
      rw [List.append_nil] at ea
      subst ea
      exact L.fin hD (g1.fresh hD) (by have := wk.len; omega) e3 (post.ext x1)
    · cases el

theorem lcN_len (acc : List PV) (y : Option PV) : (lcN acc y).length = acc.length + (if y = none then 0 else 1) := by cases y <;> simp [lcN]
theorem lc2_ok {m : Bool} {it it2 : E} {t t2 : Tg} {own own2 : List Nat} {q e : E} {tt : TT} {Q : VK} (ht : TTok K c tt q) (hown : ∀ i ∈ tgs t, i ∈ own) (hown2 : ∀ i ∈ tgs t2, i ∈ own2) (h : tE K c (.lc2 m it t own it2 t2 own2 q e) σ H Q) :
    tLc2 (tI K c it) (rawG K t) tYes (tI K c it2) (rawG K t2) tt (tE K c e) own own2 σ H Q := by
  obtain ⟨rs, st, ρ, v, st', g, er, ev, post⟩ := h
  simp only [evE, Option.bind_eq_some_iff] at ev
  obtain ⟨⟨w, s1⟩, e1, ⟨ys, s2⟩, e2, e3⟩ := ev
  split at e3
  rotate_left
  · cases e3
  rename_i hlim
  simp only [limS] at hlim
  have e3 : mkL m ys s2 = some (v, st') := e3
  refine ⟨rs, st, ρ, w, s1, g, er, e1, fun J H1 rs1 x1 g1 wk => fun D hD => ?_⟩
  refine ⟨fun i n Hc => ∃ rs2 st2 acc rest, LcI K D rs1 H1 rs2 st2 Hc acc ∧ n = w.xs.length - i ∧ i ≤ w.xs.length ∧ lcMs (guardOk w) (fun x st => (asgn t x (wipeS ρ own)).bind fun σ' =>
      (evI c it2 σ' st).bind fun w2 => lcM (guardOk w2.1) (lcF c t2 own2 q e σ') w2.1.xs w2.2) (w.xs.drop i) st2 = some (rest, s2) ∧ acc ++ rest = ys, ⟨w.xs.length, _, s1, [], ys, LcI.start g1 hD, by simp, by simp, e2, by simp⟩, ?_⟩
  rintro i n Hc ⟨rs2, st2, acc, rest, L, hn, hi, el, ea⟩
  by_cases hlt : i < w.xs.length
  · obtain ⟨p, hp, hd⟩ := drop_at hlt
    rw [hd] at el
    simp only [lcMs] at el
    split at el
    · rename_i hg
      obtain ⟨⟨y, s3⟩, ef, el⟩ := Option.bind_eq_some_iff.mp el
      obtain ⟨⟨zs, s4⟩, er3, el⟩ := Option.map_eq_some_iff.mp el
      simp only [Option.some.injEq, Prod.mk.injEq] at el
      obtain ⟨el1, el2⟩ := el
      subst el1 el2
      obtain ⟨ρ2, ea2, ef⟩ := Option.bind_eq_some_iff.mp ef
      obtain ⟨⟨w2, s5⟩, ew, ef⟩ := Option.bind_eq_some_iff.mp ef
      simp only at ef er3
      obtain ⟨hgo, hy⟩ := wk.go i p rs2 Hc st2 hp L.lat L.good hg
      refine .inr ⟨hgo, fun H3 => ∃ rs3, LcI K D rs1 H1 rs3 s3 H3 (acc ++ y), fun H3 ⟨rs3, L3⟩ => ?_, fun x H3 yl => ?_⟩
      · exact ⟨w.xs.length - (i + 1), by omega, rs3, s3, acc ++ y, zs, L3, rfl, hlt, er3, by rw [← ea]; simp⟩
      · obtain ⟨x3, g3, r3⟩ := hy x H3 yl
        have L3 := L.step x3 g3
        refine rawG_ok (((er.ext x1).lat L3.lat).wipe own) r3 ea2 fun σ2 er2 hw => ⟨by rw [hw own hown, wipe_idem], ?_⟩
        show tI K c it2 σ2 H3 _
        refine ⟨rs2, st2, ρ2, w2, s5, g3, er2, ew, fun J4 H4 rs4 x4 g4 wk4 => ?_⟩
        have L4 := L3.step x4 g4
        refine ⟨fun j k Hd => ∃ rs6 st6 acc6 rest6, LcI K D rs1 H1 rs6 st6 Hd acc6 ∧ Lat rs4 H4 rs6 Hd ∧ k = w2.xs.length - j ∧ j ≤ w2.xs.length ∧ lcM (guardOk w2) (lcF c t2 own2 q e ρ2) (w2.xs.drop j) st6 = some (rest6, s3) ∧ acc6 ++ rest6 = acc ++ y, ⟨w2.xs.length, rs4, s5, acc, y, L4, ⟨fun _ _ h => h, fun _ _ h k => ⟨h, k⟩⟩, by simp, by simp, ef, rfl⟩, ?_⟩
        rintro j k Hd ⟨rs6, st6, acc6, rest6, L6, la6, hk, hj, el6, ea6⟩
        by_cases hlt6 : j < w2.xs.length
        · obtain ⟨p6, hp6, hd6⟩ := drop_at hlt6
          rw [hd6] at el6
          simp only [lcM] at el6
          split at el6
          · rename_i hg6
            obtain ⟨⟨y6, s6⟩, ef6, el6⟩ := Option.bind_eq_some_iff.mp el6
            obtain ⟨⟨zs6, s7⟩, er6, el6⟩ := Option.map_eq_some_iff.mp el6
            obtain ⟨hgo6, hy6⟩ := wk4.go j p6 rs6 Hd st6 hp6 la6 L6.good hg6
            have hacc : lcN acc6 y6 ++ zs6 = acc ++ y := by
              cases y6 <;> (simp only at el6; cases el6; simp [lcN, ← ea6])
            refine .inr ⟨hgo6, fun H7 => ∃ rs7, LcI K D rs1 H1 rs7 s6 H7 (lcN acc6 y6) ∧ Lat rs4 H4 rs7 H7, fun H7 ⟨rs7, L7, la7⟩ => ?_, fun x6 H7 yl6 => ?_⟩
            · refine ⟨w2.xs.length - (j + 1), by omega, rs7, s6, lcN acc6 y6, zs6, L7, la7, rfl, hlt6, ?_, hacc⟩
              cases y6 <;> (simp only at el6; cases el6; exact er6)
            · obtain ⟨x7, g7, r7⟩ := hy6 x6 H7 yl6
              have L7 := L6.step x7 g7
              refine lc_turn ht hown2 hD L7 (fun hne => ?_) ((er2.ext x4).lat (la6.trans x7.lat)) r7 ef6 fun H8 rs8 L8 la8 => ⟨rs8, L8, (la6.trans x7.lat).trans la8⟩
              have h1 : (lcN acc6 y6 ++ zs6).length ≤ ys.length := by rw [hacc, ← ea]; simp
              rw [List.length_append, lcN_len, if_neg hne] at h1
              omega
          · cases el6
        · have hje : j = w2.xs.length := by omega
          subst hje
          rw [List.drop_length] at el6
          simp only [lcM] at el6
          split at el6
          · rename_i hg6
            simp only [Option.some.injEq, Prod.mk.injEq] at el6
            obtain ⟨q1, q2⟩ := el6
            subst q1 q2
            rw [List.append_nil] at ea6
            subst ea6
            exact .inl ⟨wk4.stop rs6 Hd st6 la6 L6.good hg6, rs6, L6⟩
          · cases el6
    · cases el
  · have hie : i = w.xs.length := by omega
    subst hie
    rw [List.drop_length] at el
    simp only [lcMs] at el
    split at el
    · rename_i hg
      simp only [Option.some.injEq, Prod.mk.injEq] at el
      obtain ⟨q1, q2⟩ := el
      subst q1 q2
      refine .inl ⟨wk.stop rs2 Hc _ L.lat L.good hg, ?_⟩
      rw [List.append_nil] at ea
      subst ea
      exact L.fin hD (g1.fresh hD) hlim e3 (post.ext x1)
    · cases el
end
end Ev

/-! methods, own calls, statements -/
namespace Ev
open PySem L2
section
variable {X : Cx} {K : PySem.W.Frag} {c : Cf} {rs rs1 : Rs} {st st' : Sto} {H H1 : Hp} {pos p apos : Pos} {a b e : Expr} {es : List Expr} {i j k : E} {σ : L2.St} {ρ : Slots} {x : Str}
/-! ### methods of a list in the store -/
theorem ref_tyV {ad : Addr} {vs : List V} (h : H ad = some (HO.lst vs)) : tyV K "list" (.ref ad) H := Or.inl ⟨rfl, vs, Or.inl (Or.inl h)⟩
theorem cell_ex (g : Good K rs st H) {l : Nat} {ad : Addr} (h : rs.ix[l]? = some ad) : ∃ vs, H ad = some (HO.lst vs) := g.tracked (List.mem_of_getElem? h)
theorem ground_app {xs : List PV} {v : PV} (h1 : groundL xs = true) (h2 : v.ground = true) : groundL (xs ++ [v]) = true := by
  induction xs with
  | nil => simp [groundL, h2]
  | cons y r ih =>
    simp only [groundL, Bool.and_eq_true, List.cons_append] at h1 ⊢
    exact ⟨h1.1, ih h1.2⟩
theorem ground_apps {xs ys : List PV} (h1 : groundL xs = true) (h2 : groundL ys = true) : groundL (xs ++ ys) = true := by
  induction xs with
  | nil => simpa using h2
  | cons y r ih =>
    simp only [groundL, Bool.and_eq_true, List.cons_append] at h1 ⊢
    exact ⟨h1.1, ih h1.2⟩
theorem ground_mem {xs : List PV} (h : groundL xs = true) : ∀ x ∈ xs, x.ground = true := by
  induction xs with
  | nil => intro x hx; cases hx
  | cons y r ih =>
    simp only [groundL, Bool.and_eq_true] at h
    intro x hx
    rcases List.mem_cons.mp hx with rfl | hx
    · exact h.1
    · exact ih h.2 x hx
theorem ground_all {xs : List PV} (h : ∀ x ∈ xs, x.ground = true) : groundL xs = true := by
  induction xs with
  | nil => rfl
  | cons y r ih =>
    simp only [groundL, Bool.and_eq_true]
    exact ⟨h y (by simp), ih fun x hx => h x (by simp [hx])⟩
theorem append_inv {o v : PV} {r : PV × Sto} (h : appendEv o v st = some r) : ∃ l xs, o = .ref l ∧ cellAt st l = some xs ∧ v.ground = true ∧ xs.length < lim ∧ r = (.non, st.set l (.lst (xs ++ [v]))) := by
  cases o <;> simp only [appendEv] at h <;> try (cases h; done)
  rename_i l
  obtain ⟨xs, ec, h⟩ := Option.bind_eq_some_iff.mp h
  split at h
  · rename_i hg
    simp only [Bool.and_eq_true, decide_eq_true_eq] at hg
    cases h
    exact ⟨l, xs, rfl, ec, hg.1, hg.2, rfl⟩
  · cases h
theorem extend_inv {o v : PV} {r : PV × Sto} (h : extendEv o v st = some r) : ∃ l xs ys, o = .ref l ∧ v = .lst ys ∧ cellAt st l = some xs ∧ groundL ys = true ∧ xs.length + ys.length ≤ lim ∧ r = (.non, st.set l (.lst (xs ++ ys))) := by
  cases o <;> simp only [extendEv] at h <;> try (cases h; done)
  rename_i l
  obtain ⟨xs, ec, h2⟩ := Option.bind_eq_some_iff.mp h
  clear h
  cases v with
  | lst ys =>
    simp only at h2
    split at h2
    · rename_i hg
      simp only [Bool.and_eq_true, decide_eq_true_eq] at hg
      cases h2
      exact ⟨l, xs, ys, rfl, rfl, ec, hg.1, hg.2, rfl⟩
    · cases h2
  | _ => simp at h2
theorem pop_inv {o v : PV} {r : PV × Sto} (h : popEv o v st = some r) : ∃ l n xs d u, o = .ref l ∧ v = .int n ∧ cellAt st l = some xs ∧ ixN xs.length n = some d ∧ xs[d]? = some u ∧ r = (u, st.set l (.lst (xs.eraseIdx d))) := by
  cases o <;> cases v <;> simp only [popEv] at h <;> try (cases h; done)
  simp only [Option.bind_eq_some_iff, Option.map_eq_some_iff] at h
  obtain ⟨xs, ec, d, ed, u, eu, rfl⟩ := h
  exact ⟨_, _, xs, d, u, rfl, rfl, ec, ed, eu, rfl⟩
theorem pop0_inv {o : PV} {r : PV × Sto} (h : pop0Ev o st = some r) : ∃ l xs u, o = .ref l ∧ cellAt st l = some xs ∧ xs[xs.length - 1]? = some u ∧ r = (u, st.set l (.lst xs.dropLast)) := by
  cases o <;> simp only [pop0Ev] at h <;> try (cases h; done)
  simp only [Option.bind_eq_some_iff, Option.map_eq_some_iff] at h
  obtain ⟨xs, ec, u, eu, rfl⟩ := h
  exact ⟨_, xs, u, rfl, ec, eu, rfl⟩
theorem set_inv {o v w : PV} {r : Sto} (h : setEv o v w st = some r) : ∃ l n xs d, o = .ref l ∧ v = .int n ∧ cellAt st l = some xs ∧ ixN xs.length n = some d ∧ w.ground = true ∧ r = st.set l (.lst (xs.set d w)) := by
  cases o <;> cases v <;> simp only [setEv] at h <;> try (cases h; done)
  simp only [Option.bind_eq_some_iff] at h
  obtain ⟨xs, ec, d, ed, h⟩ := h
  split at h
  · rename_i hg
    cases h
    exact ⟨_, _, xs, d, rfl, rfl, ec, ed, hg, rfl⟩
  · cases h
theorem count_inv {m : Bool} {z y v : PV} {st st' : Sto} (h : biEv m .count [z, y] st = some (v, st')) : ∃ k xs is, y = .int k ∧ litems z st = some xs ∧ asInts xs = some is ∧ v = .int (is.count k : Nat) ∧ st' = st := by
  cases y with
  | int k =>
    simp only [biEv, Option.bind_eq_some_iff, Option.map_eq_some_iff] at h
    obtain ⟨xs, h1, is, h2, h3⟩ := h
    cases h3
    exact ⟨k, xs, is, rfl, h1, h2, rfl, rfl⟩
  | _ => simp [biEv] at h
theorem lst_ty (g : Good K rs st H) {u : V} {z : PV} (r : Rep K H rs u z) (h : ∃ st2 xs, litems z st2 = some xs) : tyV K "list" u H := by
  obtain ⟨st2, xs, h⟩ := h
  cases r with
  | lst q rl z0 => exact ref_tyV q.2
  | ref hix =>
    obtain ⟨vs0, hv0⟩ := cell_ex g hix
    exact ref_tyV hv0
  | _ => simp [litems] at h
theorem xcount {px : Pos} (ha : PE X (.Name x px) (tE X.K c i)) (hb : PE X e (tE X.K c j)) (hs : isStar e = false) (hl : (apos.endLine == pos.line) = true) : PE X (.Call (.Attribute (.Name x px) "count" apos) [e] [] pos) (tE X.K c (.bi false .count (.cons i (.cons j .nil)))) :=
  pe_wk (pe_bm PySem.F.plainAttrs_list PySem.F.slot_list_count PySem.F.type_list_count mt_lcount ha (acons hb anil hs) rfl (by rw [star_no hs]; rfl) hl (star_no hs) rfl) fun σ H Q h => by
    obtain ⟨rs, st, ρ, v, st', g, er, ev, q⟩ := h
    simp only [evE, evL, Option.bind_eq_some_iff, Option.map_eq_some_iff] at ev
    obtain ⟨⟨y, s1⟩, ⟨⟨z, s2⟩, e1, ⟨z2, s3⟩, ⟨⟨z3, s4⟩, e2, ⟨z4, s5⟩, e3, e4⟩, e5⟩, e6⟩ := ev
    cases e3; cases e4; cases e5
    obtain ⟨k, xs, is, hk, hli, hai, hv, hst⟩ := count_inv e6
    simp only at hk hli hst e2
    subst hk hv hst
    refine ⟨rs, st, ρ, z, s2, g, er, e1, fun u H1 rs1 x1 g1 r1 => ?_⟩
    refine ⟨lst_ty g1 r1 ⟨_, _, hli⟩, rs1, s2, ρ, [.int k], st', g1, er.ext x1, by simp [evL, e2], fun ws H2 rs2 x2 g2 r2 => ?_⟩
    obtain ⟨w, rfl, rw'⟩ := one_rep r2
    cases rw'
    obtain ⟨ad, vs, hu, hL, rl⟩ := (Rep.ext x2 _ _ r1).litems g2 hli
    rw [rl.ints hai] at hL
    exact ⟨ad, is, k, hu, rfl, .inl (.inl hL), (q.ext (x1.trans x2)).here g2 (.int _)⟩
theorem xappend {px : Pos} (ha : PE X (.Name x px) (tE X.K c i)) (hb : PE X e (tE X.K c j)) (hs : isStar e = false) (hl : (apos.endLine == pos.line) = true) : PE X (.Call (.Attribute (.Name x px) "append" apos) [e] [] pos) (tE X.K c (.append i j)) :=
  pe_wk (pe_bm PySem.F.plainAttrs_list PySem.F.slot_list_append PySem.F.type_list_append mt_append ha (acons hb anil hs) rfl (by rw [star_no hs]; rfl) hl (star_no hs) rfl) fun σ H Q h => by
    obtain ⟨rs, st, ρ, v, st', g, er, ev, q⟩ := h
    simp only [evE, Option.bind_eq_some_iff] at ev
    obtain ⟨⟨y, s1⟩, e1, ⟨z, s2⟩, e2, e3⟩ := ev
    obtain ⟨l, xs, rfl, ec, hg, hz1, e4⟩ := append_inv e3
    cases e4
    refine ⟨rs, st, ρ, _, s1, g, er, e1, fun u H1 rs1 x1 g1 r1 => ?_⟩
    cases r1 with
    | ref hix =>
      obtain ⟨vs0, hv0⟩ := cell_ex g1 hix
      refine ⟨ref_tyV hv0, rs1, s1, ρ, [z], s2, g1, er.ext x1, by simp [evL, e2], fun ws H2 rs2 x2 g2 r2 => ?_⟩
      obtain ⟨w, rfl, rw'⟩ := one_rep r2
      obtain ⟨hz, hgr, vs, hv, rl⟩ := g2.at2 (x2.ix hix) ec
      refine ⟨_, vs, w, rfl, rfl, hv, by rw [rl.length, ← limS]; exact hz1, ?_⟩
      obtain ⟨x3, g3⟩ := post_set (xs := xs ++ [z]) g2 (x2.ix hix) hv (ground_app hgr hg) (by rw [List.length_append, ← limS]; exact hz1) (rl.append (.cons rw' .nil))
      exact q _ _ rs2 ((x1.trans x2).trans x3) g3 .non
theorem xextend {px : Pos} (ha : PE X (.Name x px) (tE X.K c i)) (hb : PE X e (tE X.K c j)) (hs : isStar e = false) (hl : (apos.endLine == pos.line) = true) : PE X (.Call (.Attribute (.Name x px) "extend" apos) [e] [] pos) (tE X.K c (.extend i j)) :=
  pe_wk (pe_bm PySem.F.plainAttrs_list PySem.F.slot_list_extend PySem.F.type_list_extend mt_extend ha (acons hb anil hs) rfl (by rw [star_no hs]; rfl) hl (star_no hs) rfl) fun σ H Q h => by
    obtain ⟨rs, st, ρ, v, st', g, er, ev, q⟩ := h
    simp only [evE, Option.bind_eq_some_iff] at ev
    obtain ⟨⟨y, s1⟩, e1, ⟨z, s2⟩, e2, e3⟩ := ev
    obtain ⟨l, xs, ys, hy, hw, ec, hg, hz1, e4⟩ := extend_inv e3
    simp only at hy hw
    subst hy hw
    cases e4
    refine ⟨rs, st, ρ, _, s1, g, er, e1, fun u H1 rs1 x1 g1 r1 => ?_⟩
    cases r1 with
    | ref hix =>
      obtain ⟨vs0, hv0⟩ := cell_ex g1 hix
      refine ⟨ref_tyV hv0, rs1, s1, ρ, [.lst ys], s2, g1, er.ext x1, by simp [evL, e2], fun ws H2 rs2 x2 g2 r2 => ?_⟩
      obtain ⟨w, rfl, rw'⟩ := one_rep r2
      obtain ⟨hz, hgr, vs, hv, rl⟩ := g2.at2 (x2.ix hix) ec
      cases rw' with
      | lst hq rl2 z2 =>
        refine ⟨_, _, vs, _, rfl, rfl, hv, hq.2, by rw [rl.length, rl2.length, ← limS]; exact hz1, ?_⟩
        obtain ⟨x3, g3⟩ := post_set (xs := xs ++ ys) g2 (x2.ix hix) hv (ground_apps hgr hg) (by rw [List.length_append, ← limS]; exact hz1) (rl.append rl2)
        exact q _ _ rs2 ((x1.trans x2).trans x3) g3 .non
theorem ground_erase {xs : List PV} (h : groundL xs = true) (n : Nat) : groundL (xs.eraseIdx n) = true := ground_all fun x hx => ground_mem h x (List.mem_of_mem_eraseIdx hx)
theorem ground_set {xs : List PV} (h : groundL xs = true) {w : PV} (hw : w.ground = true) (n : Nat) : groundL (xs.set n w) = true := ground_all fun x hx => by
  rcases List.mem_or_eq_of_mem_set hx with z | z
  · exact ground_mem h x z
  · rw [z]; exact hw
theorem xpop {px : Pos} (ha : PE X (.Name x px) (tE X.K c i)) (hb : PE X e (tE X.K c j)) (hs : isStar e = false) (hl : (apos.endLine == pos.line) = true) : PE X (.Call (.Attribute (.Name x px) "pop" apos) [e] [] pos) (tE X.K c (.pop i j)) :=
  pe_wk (pe_bm PySem.F.plainAttrs_list PySem.F.slot_list_pop PySem.F.type_list_pop mt_popAt ha (acons hb anil hs) rfl (by rw [star_no hs]; rfl) hl (star_no hs) rfl) fun σ H Q h => by
    obtain ⟨rs, st, ρ, v, st', g, er, ev, q⟩ := h
    simp only [evE, Option.bind_eq_some_iff] at ev
    obtain ⟨⟨y, s1⟩, e1, ⟨z, s2⟩, e2, e3⟩ := ev
    obtain ⟨l, n, xs, d, u2, hy, hw, ec, ed, eu, e4⟩ := pop_inv e3
    simp only at hy hw
    subst hy hw
    cases e4
    refine ⟨rs, st, ρ, _, s1, g, er, e1, fun u H1 rs1 x1 g1 r1 => ?_⟩
    cases r1 with
    | ref hix =>
      obtain ⟨vs0, hv0⟩ := cell_ex g1 hix
      refine ⟨ref_tyV hv0, rs1, s1, ρ, [.int n], s2, g1, er.ext x1, by simp [evL, e2], fun ws H2 rs2 x2 g2 r2 => ?_⟩
      obtain ⟨w, rfl, rw'⟩ := one_rep r2
      cases rw'
      obtain ⟨hz, hgr, vs, hv, rl⟩ := g2.at2 (x2.ix hix) ec
      obtain ⟨k1, k2, k3, k4⟩ := ixN_seq ed
      obtain ⟨w, hw, rw2⟩ := rl.get eu
      rw [sizeLine_eq] at hz
      refine ⟨_, vs, n, d, w, rfl, rfl, hv, by omega, by omega, by rw [rl.length]; exact k1, hw, ?_⟩
      obtain ⟨x3, g3⟩ := post_set (xs := xs.eraseIdx d) g2 (x2.ix hix) hv (ground_erase hgr d) (Nat.le_trans (len_erase xs d) (by rw [sizeLine_eq]; exact hz)) (rl.erase d)
      exact q _ _ rs2 ((x1.trans x2).trans x3) g3 (Rep.ext x3 _ _ rw2)
theorem RepL.dropLast {vs : List V} {xs : List PV} (r : RepL K H rs vs xs) : RepL K H rs vs.dropLast xs.dropLast := by
  rw [List.dropLast_eq_take, List.dropLast_eq_take, r.length]
  exact r.take _
theorem xpop0 {px : Pos} (ha : PE X (.Name x px) (tE X.K c i)) (hl : (apos.endLine == pos.line) = true) : PE X (.Call (.Attribute (.Name x px) "pop" apos) [] [] pos) (tE X.K c (.pop0 i)) :=
  pe_wk (pe_bm0 PySem.F.plainAttrs_list PySem.F.slot_list_pop PySem.F.type_list_pop mt_pop ha rfl hl) fun σ H Q h => by
    obtain ⟨rs, st, ρ, v, st', g, er, ev, q⟩ := h
    simp only [evE, Option.bind_eq_some_iff] at ev
    obtain ⟨⟨y, s1⟩, e1, e3⟩ := ev
    obtain ⟨l, xs, u2, hy, ec, eu, e4⟩ := pop0_inv e3
    simp only at hy
    subst hy
    cases e4
    refine ⟨rs, st, ρ, _, s1, g, er, e1, fun u H1 rs1 x1 g1 r1 => ?_⟩
    cases r1 with
    | ref hix =>
      obtain ⟨hz, hgr, vs, hv, rl⟩ := g1.at2 hix ec
      obtain ⟨w, hw, rw2⟩ := rl.get eu
      refine ⟨ref_tyV hv, _, vs, w, rfl, rfl, hv, by rw [rl.length]; exact hw, ?_⟩
      obtain ⟨x3, g3⟩ := post_set (xs := xs.dropLast) g1 hix hv (ground_all fun x hx => ground_mem hgr x (List.dropLast_subset _ hx)) (by rw [List.length_dropLast]; omega) rl.dropLast
      exact q _ _ rs1 (x1.trans x3) g3 (Rep.ext x3 _ _ rw2)
/-! ### own calls -/
def spF (K : PySem.W.Frag) (cf : CF) (f np : Nat) : Sp := fun vs H Q _ => vs.length = np ∧ ∃ rs st ps v st', Good K rs st H ∧ RepL K H rs vs ps ∧ cf f ps st = some (v, st') ∧ Post K rs H st' v Q
structure CallOk (X : Cx) (c : Cf) (f : Nat) (x : Str) (ps : List Str) : Prop where
  ex : ∃ (k : Nat) (fa : Addr) (fd : FuncData), FnOk X.prog X.w X.K X.mg X.base CX0 k fa fd ps (spF X.K c.call f ps.length) ∧ Room k X.A ∧ X.mg x = some (.ref fa) ∧ PySem.W.keepIn X.K (.ref fa) = true ∧ Binds X.K fd ps [] ∧
    ∀ n ks, ps ≠ [] → n ≤ ps.length → (ps.take n ++ ks).Nodup → (∀ k ∈ ks, k ∈ ps) → KBinds X.K fd ps ks (gg n ps ks) (gg n ps ks)
  len : ∀ vs st r, c.call f vs st = some r → vs.length = ps.length
theorem call_read {f : Nat} {ps : List Str} {Q : VK} (hl : ∀ vs st r, c.call f vs st = some r → vs.length = ps.length) (h : tE K c (.call f i) σ H Q) : tCall (spF K c.call f ps.length) [] E0 (tA K c i) σ H Q := by
  obtain ⟨rs, st, ρ, v, st', g, er, ev, q⟩ := h
  simp only [evE, Option.bind_eq_some_iff] at ev
  obtain ⟨⟨vs, s1⟩, e1, e2⟩ := ev
  refine ⟨rs, st, ρ, vs, s1, g, er, e1, fun ws H1 rs1 x1 g1 r1 => ?_⟩
  show spF K c.call f ps.length (ws ++ []) H1 Q E0
  rw [List.append_nil]
  exact ⟨by rw [r1.length]; exact hl _ _ _ e2, rs1, s1, vs, v, st', g1, r1, e2, q.ext x1⟩
theorem xcall {f : Nat} {ps : List Str} (C : CallOk X c f x ps) (hg : Gl X x) (hd : (x == ("__debug__" : Str)) = false) (ha : PA X es (tA X.K c i)) (hi : es = [] → i = .nil) (hs : es.all (fun e => !isStar e) = true) : PE X (.Call (.Name x p) es [] pos) (tE X.K c (.call f i)) := by
  obtain ⟨k, fa, fd, F, hr, hm, hk, hb, _⟩ := C.ex
  cases es with
  | nil =>
    cases hi rfl
    refine pe_wk (pe_call0 F hr hg hm hk hb .nil pass0 hd) fun σ H Q h => ?_
    obtain ⟨rs, st, ρ, v, st', g, er, ev, q⟩ := h
    simp only [evE, evL, Option.bind_eq_some_iff] at ev
    obtain ⟨⟨vs, s1⟩, e1, e2⟩ := ev
    cases e1
    exact ⟨C.len _ _ _ e2, rs, st, [], v, st', g, .nil, e2, q⟩
  | cons e es =>
    simp only [List.all_cons, Bool.and_eq_true, Bool.not_eq_true'] at hs
    exact pe_wk (pe_call F hr hg hm hk hb .nil pass0 ha hd (star_no hs.1) (stars_no pos X.env hs.2)) fun σ H Q h => call_read C.len h
theorem frz_rep {rs rz : Rs} {H : Hp} {st : Sto} (g : Good K rs st H) (h0 : rz.ix = []) (h1 : rz.ex = rs.ex) : ∀ {vs ys : List PV} {ws : List V}, RepL K H rs ws vs → frzL st vs = some ys → RepL K H rz ws ys := by
  have sub : ∀ a, a ∈ rz → a ∈ rs := fun a ha => by
    rcases ha with q | q
    · rw [h0] at q; cases q
    · exact .inr (h1 ▸ q)
  intro vs
  induction vs with
  | nil => intro ys ws r e; cases r; cases e; exact .nil
  | cons v vs ih =>
    intro ys ws r e
    cases r with
    | cons r1 r2 =>
      simp only [frzL, Option.bind_eq_some_iff, Option.map_eq_some_iff] at e
      obtain ⟨x, e1, zs, e2, rfl⟩ := e
      refine .cons ?_ (ih r2 e2)
      unfold frzV at e1
      split at e1
      · rename_i l
        simp only [Option.map_eq_some_iff] at e1
        obtain ⟨xs, ec, rfl⟩ := e1
        have hst : st[l]? = some (Cell.lst xs) := by
          unfold cellAt at ec
          split at ec
          · rename_i hy; cases ec; exact hy
          · cases ec
        cases r1 with
        | ref ha =>
          obtain ⟨c1, c2, us, c3, c4⟩ := g.cell l _ xs ha hst
          refine .lst ⟨fun hm => ?_, c3⟩ (RepL.plain sub _ _ c2 c4) c1
          rcases hm with q | q
          · rw [h0] at q; cases q
          · exact (g.exl _ (h1 ▸ q)).2 (List.mem_of_getElem? ha)
      · split at e1
        · rename_i hg
          cases e1
          exact Rep.plain sub _ _ hg r1
        · cases e1
mutual
theorem Rep.nol {rs rs1 : Rs} {H : Hp} (hs : ∀ a xs, a ∉ rs → H a = some (HO.tup xs) → a ∉ rs1) : ∀ (p : PV) (v : V), noLst p = true → Rep K H rs v p → Rep K H rs1 v p
  | .non, _, _, .non => .non
  | .bl _, _, _, .bl b => .bl b
  | .int _, _, _, .int i => .int i
  | .str _, _, _, .str x => .str x
  | .tup ps, _, g, .tup h r z => .tup (h.imp (fun q => ⟨hs _ _ q.1 q.2, q.2⟩) fun q => q) (RepL.nol hs ps _ (by simpa [noLst] using g) r) z
theorem RepL.nol {rs rs1 : Rs} {H : Hp} (hs : ∀ a xs, a ∉ rs → H a = some (HO.tup xs) → a ∉ rs1) : ∀ (ps : List PV) (vs : List V), noLstL ps = true → RepL K H rs vs ps → RepL K H rs1 vs ps
  | [], _, _, .nil => .nil
  | p :: ps, _, g, .cons h r => by
    simp only [noLstL, Bool.and_eq_true] at g
    exact .cons (Rep.nol hs p _ g.1 h) (RepL.nol hs ps _ g.2 r)
end
theorem frz_len {st : Sto} : ∀ {vs ys : List PV}, frzL st vs = some ys → ys.length = vs.length
  | [], ys, e => by cases e; rfl
  | v :: vs, ys, e => by
    simp only [frzL, Option.bind_eq_some_iff, Option.map_eq_some_iff] at e
    obtain ⟨x, _, zs, e2, rfl⟩ := e
    simp [frz_len e2]
theorem callz_read {f : Nat} {ps : List Str} {Q : VK} (hl : ∀ vs st r, c.call f vs st = some r → vs.length = ps.length) (h : tE K c (.callz f i) σ H Q) : tCall (spF K c.call f ps.length) [] E0 (tA K c i) σ H Q := by
  obtain ⟨rs, st, ρ, v, st', g, er, ev, q⟩ := h
  simp only [evE, Option.bind_eq_some_iff] at ev
  obtain ⟨⟨vs, s1⟩, e1, e2⟩ := ev
  refine ⟨rs, st, ρ, vs, s1, g, er, e1, fun ws H1 rs1 x1 g1 r1 => ?_⟩
  show spF K c.call f ps.length (ws ++ []) H1 Q E0
  rw [List.append_nil]
  unfold callzEv at e2
  split at e2
  · exact ⟨by rw [r1.length]; exact hl _ _ _ e2, rs1, s1, vs, v, st', g1, r1, e2, q.ext x1⟩
  · simp only [Option.bind_eq_some_iff] at e2
    obtain ⟨ys, e3, ⟨r, st2⟩, e4, e5⟩ := e2
    split at e5
    · rename_i hno
      cases e5
      refine ⟨by rw [r1.length, ← frz_len e3]; exact hl _ _ _ e4, ⟨[], rs1.ex⟩, [], ys, r, st2, ⟨rfl, .nil, fun a ha => ⟨(g1.exl a ha).1, by simp⟩, fun l a xs hz => by simp at hz⟩, frz_rep (rz := ⟨[], rs1.ex⟩) g1 rfl rfl r1 e3, e4, ?_⟩
      intro w H' rs' ex' g' rp
      have ex1 : Ext rs1 H1 rs1 H' := ⟨⟨[], by simp, by simp⟩, fun a o ha _ => ex'.keep a o ha (by simp), ex'.live⟩
      have g2 : Good K rs1 st' H' := ⟨g1.len, g1.nd, fun a ha => ⟨fun hz => (g1.exl a ha).1 (ex'.live a hz), (g1.exl a ha).2⟩, fun l a xs h1 h2 => by
        obtain ⟨c1, c2, us, c3, c4⟩ := g1.cell l a xs h1 h2
        exact ⟨c1, c2, us, ex'.keep a _ c3 (by simp), RepL.ext ex1 _ _ c4⟩⟩
      obtain ⟨new, hrs, _⟩ := ex'.pre
      refine q.ext x1 w H' rs1 ex1 g2 (Rep.nol (fun a xs ha htup => ?_) _ _ hno rp)
      rintro (hm | hm)
      · obtain ⟨l, hl', e⟩ := List.mem_iff_getElem.mp hm
        have hix : rs1.ix[l]? = some a := by rw [List.getElem?_eq_getElem hl', e]
        have hs : l < st'.length := by have := g1.len; omega
        cases hc : st'[l]? with
        | none => rw [List.getElem?_eq_none_iff] at hc; omega
        | some cl =>
          cases cl with
          | lst xs' =>
            obtain ⟨_, _, us, c3, _⟩ := g2.cell l a xs' hix hc
            rw [c3] at htup
            cases htup
      · exact ha (.inr (by rw [hrs]; exact hm))
    · cases e5
theorem xcallz {f : Nat} {ps : List Str} (C : CallOk X c f x ps) (hg : Gl X x) (hd : (x == ("__debug__" : Str)) = false) (ha : PA X es (tA X.K c i)) (hi : es ≠ []) (hs : es.all (fun e => !isStar e) = true) : PE X (.Call (.Name x p) es [] pos) (tE X.K c (.callz f i)) := by
  obtain ⟨k, fa, fd, F, hr, hm, hk, hb, _⟩ := C.ex
  cases es with
  | nil => exact absurd rfl hi
  | cons e es =>
    simp only [List.all_cons, Bool.and_eq_true, Bool.not_eq_true'] at hs
    exact pe_wk (pe_call F hr hg hm hk hb .nil pass0 ha hd (star_no hs.1) (stars_no pos X.env hs.2)) fun σ H Q h => callz_read C.len h
end
end Ev

/-! keywords, statements -/
namespace Ev
open PySem L2
section
variable {X : Cx} {K : PySem.W.Frag} {c : Cf} {rs rs1 : Rs} {st st' : Sto} {H H1 : Hp} {pos p apos kpos : Pos} {a b e : Expr} {es : List Expr} {i j k : E} {σ : L2.St} {ρ ρ' : Slots} {x : Str} {kws : List Keyword} {nm : Option Str}
theorem pk_wk {t t' : TA} (h : PK X kws t) (w : ∀ σ H Q, t' σ H Q → t σ H Q) : PK X kws t' := ⟨fun ps pins s σ H Q I q => h.run ps pins s σ H Q I (w σ H Q q)⟩
theorem knil : PK X [] (tA X.K c .nil) := pk_wk pk_nil fun σ H Q h => by
  obtain ⟨rs, st, ρ, vs, st', g, er, e, q⟩ := h
  simp only [evL] at e
  cases e
  exact q.here g .nil
theorem kcons (ha : PE X e (tE X.K c i)) (hr : PK X kws (tA X.K c j)) : PK X (⟨nm, e, kpos⟩ :: kws) (tA X.K c (.cons i j)) :=
  pk_wk (pk_cons ha hr) fun σ H Q h => by
    obtain ⟨rs, st, ρ, vs, st', g, er, e, q⟩ := h
    simp only [evL, Option.bind_eq_some_iff, Option.map_eq_some_iff] at e
    obtain ⟨⟨y, s1⟩, e1, ⟨ys, s2⟩, e2, e3⟩ := e
    cases e3
    refine ⟨rs, st, ρ, y, s1, g, er, e1, fun u H1 rs1 x1 g1 r1 => ⟨rs1, s1, ρ, ys, s2, g1, er.ext x1, e2, fun us H2 rs2 x2 g2 r2 => ?_⟩⟩
    exact q _ _ rs2 (x1.trans x2) g2 (.cons (Rep.ext x2 _ _ r1) r2)
def kwNames (kws : List Keyword) : List Str := kws.filterMap (·.arg)
theorem kw_facts (pos : Pos) (env : PySem.Env) : ∀ kws : List Keyword, kws.all (·.arg.isSome) = true →
    (backToKw pos (keywordEach kws env)).all (·.1.isSome) = true ∧ (backToKw pos (keywordEach kws env)).filterMap (·.1) = kwNames kws ∧ (backToKw pos (keywordEach kws env)).any (·.1.isNone) = false
  | [], _ => ⟨rfl, rfl, rfl⟩
  | ⟨none, v, q⟩ :: r, h => by simp at h
  | ⟨some n, v, q⟩ :: r, h => by
    obtain ⟨h1, h2, h3⟩ := kw_facts pos env r (by simpa using h)
    refine ⟨?_, ?_, ?_⟩
    · show (true && (backToKw pos (keywordEach r env)).all (·.1.isSome)) = true
      rw [h1]; rfl
    · show n :: (backToKw pos (keywordEach r env)).filterMap (·.1) = n :: kwNames r
      rw [h2]
    · show (false || (backToKw pos (keywordEach r env)).any (·.1.isNone)) = false
      rw [h3]; rfl
theorem callk_read {f n : Nat} {ps kn : List Str} {Q : VK} (hl : ∀ vs st r, c.call f vs st = some r → vs.length = ps.length) (hg : ∀ {vs : List V} {xs : List PV} {zs : List V} {ys : List PV} {H rs}, RepL K H rs vs xs → RepL K H rs zs ys → RepL K H rs (gg n ps kn vs zs) (gg n ps kn xs ys))
    (h : tE K c (.callk f i j n ps kn) σ H Q) : tCallK (spF K c.call f ps.length) (gg n ps kn) E0 (tA K c i) (tA K c j) σ H Q := by
  obtain ⟨rs, st, ρ, v, st', g, er, ev, q⟩ := h
  simp only [evE, Option.bind_eq_some_iff] at ev
  obtain ⟨⟨vs, s1⟩, e1, ⟨zs, s2⟩, e2, e3⟩ := ev
  refine ⟨rs, st, ρ, vs, s1, g, er, e1, fun ws H1 rs1 x1 g1 r1 => ⟨rs1, s1, ρ, zs, s2, g1, er.ext x1, e2, fun us H2 rs2 x2 g2 r2 => ?_⟩⟩
  have r3 := hg (RepL.ext x2 _ _ r1) r2
  exact ⟨by rw [r3.length]; exact hl _ _ _ e3, rs2, s2, _, v, st', g2, r3, e3, q.ext (x1.trans x2)⟩
theorem look_rep {xs ys : List PV} : ∀ {vs zs : List V} {ps kn : List Str} (z : Str), RepL K H rs vs xs → RepL K H rs zs ys →
    ((ps.zip vs ++ kn.zip zs).lookup z = none ∧ (ps.zip xs ++ kn.zip ys).lookup z = none) ∨ ∃ v p, (ps.zip vs ++ kn.zip zs).lookup z = some v ∧ (ps.zip xs ++ kn.zip ys).lookup z = some p ∧ Rep K H rs v p := by
  have one : ∀ {ps : List Str} {vs : List V} {xs : List PV} (z : Str), RepL K H rs vs xs → ((ps.zip vs).lookup z = none ∧ (ps.zip xs).lookup z = none) ∨ ∃ v p, (ps.zip vs).lookup z = some v ∧ (ps.zip xs).lookup z = some p ∧ Rep K H rs v p := by
    intro ps
    induction ps with
    | nil => intro vs xs z r; exact .inl ⟨by simp, by simp⟩
    | cons q ps ih =>
      intro vs xs z r
      cases r with
      | nil => exact .inl ⟨by simp, by simp⟩
      | cons h r =>
        simp only [List.zip_cons_cons, List.lookup_cons]
        cases z == q with
        | true => exact .inr ⟨_, _, rfl, rfl, h⟩
        | false => exact ih z r
  intro vs zs ps kn z r1 r2
  rcases one (ps := ps) z r1 with ⟨h1, h2⟩ | ⟨v, p, h1, h2, h3⟩
  · rw [List.lookup_append, List.lookup_append, h1, h2]
    exact one z r2
  · refine .inr ⟨v, p, ?_, ?_, h3⟩
    · rw [List.lookup_append, h1]; rfl
    · rw [List.lookup_append, h2]; rfl
theorem gg_rep {n : Nat} {ps kn : List Str} {vs zs : List V} {xs ys : List PV} (r1 : RepL K H rs vs xs) (r2 : RepL K H rs zs ys) : RepL K H rs (gg n ps kn vs zs) (gg n ps kn xs ys) := by
  unfold gg
  rw [r1.length, r2.length]
  split
  · have gen : ∀ qs : List Str, RepL K H rs (qs.filterMap fun x => (ps.zip vs ++ kn.zip zs).lookup x) (qs.filterMap fun x => (ps.zip xs ++ kn.zip ys).lookup x) := by
      intro qs
      induction qs with
      | nil => exact .nil
      | cons q qs ih =>
        rcases look_rep (ps := ps) (kn := kn) q r1 r2 with ⟨h1, h2⟩ | ⟨v, p, h1, h2, h3⟩
        · simp only [List.filterMap_cons, h1, h2]; exact ih
        · simp only [List.filterMap_cons, h1, h2]; exact .cons h3 ih
    exact gen ps
  · exact .nil
theorem xcallk {f n : Nat} {ps : List Str} (C : CallOk X c f x ps) (hg : Gl X x) (hd : (x == ("__debug__" : Str)) = false) (ha : PA X es (tA X.K c i)) (hi : es = [] → i = .nil) (hs : es.all (fun e => !isStar e) = true)
    (hk : PK X kws (tA X.K c j)) (hkw : kws.all (·.arg.isSome) = true) (hne : ps ≠ []) (hnl : n ≤ ps.length) (hnd : (ps.take n ++ kwNames kws).Nodup) (hin : ∀ k ∈ kwNames kws, k ∈ ps) : PE X (.Call (.Name x p) es kws pos) (tE X.K c (.callk f i j n ps (kwNames kws))) := by
  obtain ⟨k, fa, fd, F, hr, hm, hkp, _, hb⟩ := C.ex
  obtain ⟨k1, k2, k3⟩ := kw_facts pos X.env kws hkw
  have kb := hb n (kwNames kws) hne hnl hnd hin
  cases es with
  | nil =>
    cases hi rfl
    refine ⟨fun pins s σ H Q I h => ?_⟩
    refine wpAny_Call_Name_kw (ld_glob I hg hm ?_ hd)
    have h2 := callk_read C.len (fun r1 r2 => gg_rep r1 r2) h
    obtain ⟨rs, st, ρ, vs, s1, g, er, e1, q1⟩ := h2
    simp only [evL] at e1
    cases e1
    have q2 := q1.here g .nil
    refine PySem.W.callWith_KW0 (first := []) (h₀ := X.base) I.ok.mod.kin hkp k1 (thn (hk.run pos pins s σ H _ I q2) fun ws s2 ⟨zs, H2, I2, rz, q3⟩ => ⟨I2.kIn, ?_⟩) (by rw [k3]; rfl)
    rw [k2]
    exact run_fnk (us := []) (vs := []) F hr kb pass0 I2 .nil rz q3
  | cons e es =>
    simp only [List.all_cons, Bool.and_eq_true, Bool.not_eq_true'] at hs
    refine pe_wk (pe_callK F hr hg hm hkp kb pass0 ha hk k1 k2 hd (star_no hs.1) ?_) fun σ H Q h => callk_read C.len (fun r1 r2 => gg_rep r1 r2) h
    rw [k3, Bool.or_false]
    exact stars_no pos X.env (by simp [hs.1, hs.2])
/-! ### statements -/
def PostS (K : PySem.W.Frag) (rs : Rs) (H : Hp) (st' : Sto) (f : Fl) (ρ' : Slots) (D : Ends) : Prop := match f with
  | .nx => ∀ σ' H' rs', Ext rs H rs' H' → Good K rs' st' H' → EnvR K H' rs' σ' ρ' → D.nx σ' H'
  | .bk => ∀ σ' H' rs', Ext rs H rs' H' → Good K rs' st' H' → EnvR K H' rs' σ' ρ' → D.bk σ' H'
  | .ct => ∀ σ' H' rs', Ext rs H rs' H' → Good K rs' st' H' → EnvR K H' rs' σ' ρ' → D.ct σ' H'
  | .rt v => ∀ w H' rs', Ext rs H rs' H' → Good K rs' st' H' → Rep K H' rs' w v → D.rt w H'
theorem PostS.ext {f : Fl} {D : Ends} (q : PostS K rs H st' f ρ' D) (e : Ext rs H rs1 H1) : PostS K rs1 H1 st' f ρ' D := by
  cases f with
  | rt v => exact fun w H' rs' e' g r => q w H' rs' (e.trans e') g r
  | _ => exact fun σ' H' rs' e' g r => q σ' H' rs' (e.trans e') g r
def tS (K : PySem.W.Frag) (c : Cf) (i : S) : TS := fun D σ H => ∃ rs st ρ f ρ' st', Good K rs st H ∧ EnvR K H rs σ ρ ∧ evS c i ρ st = some (f, ρ', st') ∧ PostS K rs H st' f ρ' D
variable {s t : Stmt} {sts : List Stmt} {u v : S}
theorem ps_wk {t t' : TS} (h : PS X s t) (w : ∀ D σ H, t' D σ H → t D σ H) : PS X s t' := ⟨fun pins s σ H D I q => h.run pins s σ H D I (w D σ H q)⟩
theorem pss_wk {t t' : TS} (h : PSs X sts t) (w : ∀ D σ H, t' D σ H → t D σ H) : PSs X sts t' := ⟨fun pins s σ H D I q => h.run pins s σ H D I (w D σ H q)⟩
theorem snil : PSs X [] (tS X.K c .skip) := pss_wk pss_nil fun D σ H h => by
  obtain ⟨rs, st, ρ, f, ρ', st', g, er, e, q⟩ := h
  simp only [evS] at e
  cases e
  exact q σ H rs (Ext.refl _ _) g er
theorem scons (h1 : PS X s (tS X.K c u)) (h2 : PSs X sts (tS X.K c v)) : PSs X (s :: sts) (tS X.K c (.seq u v)) :=
  pss_wk (pss_cons h1 h2) fun D σ H h => by
    obtain ⟨rs, st, ρ, f, ρ', st', g, er, e, q⟩ := h
    simp only [evS, Option.bind_eq_some_iff] at e
    obtain ⟨⟨f1, ρ1, s1⟩, e1, e2⟩ := e
    refine ⟨rs, st, ρ, f1, ρ1, s1, g, er, e1, ?_⟩
    cases f1 with
    | nx => exact fun σ1 H1 rs1 x1 g1 er1 => ⟨rs1, s1, ρ1, f, ρ', st', g1, er1, e2, q.ext x1⟩
    | bk => simp only at e2; cases e2; exact q
    | ct => simp only at e2; cases e2; exact q
    | rt w => simp only at e2; cases e2; exact q
theorem spass : PS X (.Pass pos) (tS X.K c .skip) := ps_wk ps_pass fun D σ H h => by
  obtain ⟨rs, st, ρ, f, ρ', st', g, er, e, q⟩ := h
  simp only [evS] at e
  cases e
  exact q σ H rs (Ext.refl _ _) g er
theorem sdoc {z : Str} {n : Nat} {p2 : Pos} : PS X (.Expr (.Constant (.str z) n p) p2) (tS X.K c .skip) := ps_wk ps_doc fun D σ H h => by
  obtain ⟨rs, st, ρ, f, ρ', st', g, er, e, q⟩ := h
  simp only [evS] at e
  cases e
  exact q σ H rs (Ext.refl _ _) g er
theorem sbreak : PS X (.Break pos) (tS X.K c .brk) := ps_wk ps_break fun D σ H h => by
  obtain ⟨rs, st, ρ, f, ρ', st', g, er, e, q⟩ := h
  simp only [evS] at e
  cases e
  exact q σ H rs (Ext.refl _ _) g er
theorem scont : PS X (.Continue pos) (tS X.K c .cnt) := ps_wk ps_continue fun D σ H h => by
  obtain ⟨rs, st, ρ, f, ρ', st', g, er, e, q⟩ := h
  simp only [evS] at e
  cases e
  exact q σ H rs (Ext.refl _ _) g er
theorem sbad : PS X s (tS X.K c .bad) := ⟨fun _ _ _ _ _ _ h => by
  obtain ⟨rs, st, ρ, f, ρ', st', g, er, e, q⟩ := h
  simp [evS] at e⟩
theorem sexp (he : PE X e (tE X.K c i)) (hs : swapsWith e none pos.line X.env = pure false) : PS X (.Expr e pos) (tS X.K c (.exp i)) := ps_wk (ps_expr he hs) fun D σ H h => by
  obtain ⟨rs, st, ρ, f, ρ', st', g, er, e, q⟩ := h
  simp only [evS, Option.map_eq_some_iff] at e
  obtain ⟨⟨w, s1⟩, e1, e2⟩ := e
  cases e2
  exact ⟨rs, st, ρ, w, s1, g, er, e1, fun u H1 rs1 x1 g1 r1 => q σ H1 rs1 x1 g1 (er.ext x1)⟩
theorem sret (he : PE X e (tE X.K c i)) : PS X (.Return (some e) pos) (tS X.K c (.ret i)) := ps_wk (ps_ret he) fun D σ H h => by
  obtain ⟨rs, st, ρ, f, ρ', st', g, er, e, q⟩ := h
  simp only [evS, Option.map_eq_some_iff] at e
  obtain ⟨⟨w, s1⟩, e1, e2⟩ := e
  cases e2
  exact ⟨rs, st, ρ, w, s1, g, er, e1, fun u H1 rs1 x1 g1 r1 => q u H1 rs1 x1 g1 r1⟩
theorem sretN : PS X (.Return none pos) (tS X.K c (.ret (.cst .non))) := ps_wk ps_retN fun D σ H h => by
  obtain ⟨rs, st, ρ, f, ρ', st', g, er, e, q⟩ := h
  simp only [evS, evE, Option.map_eq_some_iff] at e
  obtain ⟨⟨w, s1⟩, e1, e2⟩ := e
  cases e1
  cases e2
  exact q .non H rs (Ext.refl _ _) g .non
theorem sif {q : E} {A B : List Stmt} (hc : PT X a (tT X.K c q)) (ha : PSs X A (tS X.K c u)) (hb : PSs X B (tS X.K c v)) : PS X (.If a A B pos) (tS X.K c (.ite q u v)) := ps_wk (ps_if hc ha hb) fun D σ H h => by
  obtain ⟨rs, st, ρ, f, ρ', st', g, er, e, q⟩ := h
  simp only [evS, Option.bind_eq_some_iff] at e
  obtain ⟨⟨w, s1⟩, e1, k, e2, e3⟩ := e
  refine ⟨rs, st, ρ, w, s1, k, g, er, e1, e2, fun H1 rs1 x1 g1 => ?_⟩
  cases k with
  | true =>
    simp only [if_true] at e3 ⊢
    exact ⟨rs1, s1, ρ, f, ρ', st', g1, er.ext x1, e3, q.ext x1⟩
  | false =>
    simp only [Bool.false_eq_true, if_false] at e3 ⊢
    exact ⟨rs1, s1, ρ, f, ρ', st', g1, er.ext x1, e3, q.ext x1⟩
theorem asg_read {t : Tg} {D : Ends} (h : tS K c (.asg t i) D σ H) : tAsg (tE K c i) (rawG K t) D σ H := by
  obtain ⟨rs, st, ρ, f, ρ', st', g, er, e, q⟩ := h
  simp only [evS, Option.bind_eq_some_iff, Option.map_eq_some_iff] at e
  obtain ⟨⟨w, s1⟩, e1, ρ1, e2, e3⟩ := e
  cases e3
  exact ⟨rs, st, ρ, w, s1, g, er, e1, fun u H1 rs1 x1 g1 r1 => rawG_ok (er.ext x1) r1 e2 fun σ' er' _ => q σ' H1 rs1 x1 g1 er'⟩
theorem sset {n : Nat} {p2 : Pos} (hN : X.N.Nodup) (hi : X.N[n]? = some x) (hx : Loc X.env.scope x) (he : PE X e (tE X.K c i)) (hs : swapsWith e (some (.Name x p2)) pos.line X.env = pure false) (hf : X.fn x = true ∨ X.env.scope.names.lookup x = some .local) :
    PS X (.Assign [.Name x p2] e pos) (tS X.K c (.asg (.one n) i)) := ps_wk (ps_set hN hi hx he hs hf) fun D σ H h => asg_read h
theorem sasg {t : Tg} {tg : Expr} (he : PE X e (tE X.K c i)) (hg : PG X tg (rawG X.K t)) (hs : swapsWithSole [tg] e pos.line X.env = pure false) (hw : swappedStores [tg] e X.env = pure none) (h1 : (assignEach [tg] X.env).map (·.2) = [assign tg X.env]) :
    PS X (.Assign [tg] e pos) (tS X.K c (.asg t i)) := ps_wk (ps_asg he hg hs hw h1) fun D σ H h => asg_read h
theorem spar {m n : Nat} {y : Str} {px py pt : Pos} {kt k2 : Nat} {pt2 : Pos} (hc : X.calm = true) (hN : X.N.Nodup) (hi : X.N[m]? = some x) (hj : X.N[n]? = some y) (hij : m ≠ n)
    (hx : X.env.scope.names.lookup x = some .local) (hy : X.env.scope.names.lookup y = some .local) (ha : PA X [a, b] (tA X.K c i))
    (hw : swappedStores [.Tuple [.Name x px, .Name y py] kt pt] (.Tuple [a, b] k2 pt2) X.env = pure (some [x, y])) :
    PS X (.Assign [.Tuple [.Name x px, .Name y py] kt pt] (.Tuple [a, b] k2 pt2) pos) (tS X.K c (.asg (.many [m, n]) (.tup i))) := ps_wk (ps_par hc hN hi hj hij hx hy ha hw rfl) fun D σ H h => by
  obtain ⟨rs, st, ρ, f, ρ', st', g, er, e, q⟩ := h
  simp only [evS, evE, Option.bind_eq_some_iff, Option.map_eq_some_iff] at e
  obtain ⟨⟨w, s1⟩, ⟨⟨vs, s2⟩, e1, e4⟩, ρ1, e2, e3⟩ := e
  split at e4
  · cases e4
    cases e3
    simp only [asgn] at e2
    have hl := setMany_len _ _ _ _ e2
    refine ⟨rs, st, ρ, vs, _, g, er, e1, fun us H1 rs1 x1 g1 r1 => ?_⟩
    match vs, hl with
    | [q1, q2], _ =>
      obtain ⟨v1, v2, rfl, h1, h2⟩ := two_rep r1
      refine ⟨v1, v2, rfl, ?_⟩
      simp only [setMany, Option.some.injEq] at e2
      subst e2
      exact q _ H1 rs1 x1 g1 (((er.ext x1).put h1 m).put h2 n)
  · cases e4
theorem three_rep {vs : List V} {p q r : PV} (h : RepL K H rs vs [p, q, r]) : ∃ v w z, vs = [v, w, z] ∧ Rep K H rs v p ∧ Rep K H rs w q ∧ Rep K H rs z r := by
  cases h with
  | cons h1 t =>
    obtain ⟨w, z, rfl, h2, h3⟩ := two_rep t
    exact ⟨_, _, _, rfl, h1, h2, h3⟩
theorem spar3 {m n l : Nat} {y z : Str} {d : Expr} {px py pz pt : Pos} {kt k2 : Nat} {pt2 : Pos} (hc : X.calm = true) (hN : X.N.Nodup) (hi : X.N[m]? = some x) (hj : X.N[n]? = some y) (hl : X.N[l]? = some z) (hij : m ≠ n) (hil : m ≠ l) (hjl : n ≠ l)
    (hx : X.env.scope.names.lookup x = some .local) (hy : X.env.scope.names.lookup y = some .local) (hz : X.env.scope.names.lookup z = some .local) (ha : PA X [a, b, d] (tA X.K c i))
    (hw : swappedStores [.Tuple [.Name x px, .Name y py, .Name z pz] kt pt] (.Tuple [a, b, d] k2 pt2) X.env = pure (some [x, y, z])) :
    PS X (.Assign [.Tuple [.Name x px, .Name y py, .Name z pz] kt pt] (.Tuple [a, b, d] k2 pt2) pos) (tS X.K c (.asg (.many [m, n, l]) (.tup i))) := ps_wk (ps_par3 hc hN hi hj hl hij hil hjl hx hy hz ha hw rfl) fun D σ H h => by
  obtain ⟨rs, st, ρ, f, ρ', st', g, er, e, q⟩ := h
  simp only [evS, evE, Option.bind_eq_some_iff, Option.map_eq_some_iff] at e
  obtain ⟨⟨w, s1⟩, ⟨⟨vs, s2⟩, e1, e4⟩, ρ1, e2, e3⟩ := e
  split at e4
  · cases e4
    cases e3
    simp only [asgn] at e2
    have hl := setMany_len _ _ _ _ e2
    refine ⟨rs, st, ρ, vs, _, g, er, e1, fun us H1 rs1 x1 g1 r1 => ?_⟩
    match vs, hl with
    | [q1, q2, q3], _ =>
      obtain ⟨v1, v2, v3, rfl, h1, h2, h3⟩ := three_rep r1
      refine ⟨v1, v2, v3, rfl, ?_⟩
      simp only [setMany, Option.some.injEq] at e2
      subst e2
      exact q _ H1 rs1 x1 g1 ((((er.ext x1).put h1 m).put h2 n).put h3 l)
  · cases e4
theorem ssub {o d : Expr} {p2 : Pos} (ho : PE X o (tE X.K c i)) (hd : PE X d (tE X.K c j)) (he : PE X e (tE X.K c k)) (hs : isSlice d = false) (h0 : swapsWithSole [.Subscript o d p2] e pos.line X.env = pure false) (hw : swappedStores [.Subscript o d p2] e X.env = pure none) :
    PS X (.Assign [.Subscript o d p2] e pos) (tS X.K c (.asgSub i j k)) := ps_wk (ps_asg he (pg_sub ho hd set_list (by intro v; cases d <;> first | rfl | cases hs)) h0 hw rfl) fun D σ H h => by
  obtain ⟨rs, st, ρ, f, ρ', st', g, er, e, q⟩ := h
  simp only [evS, Option.bind_eq_some_iff, Option.map_eq_some_iff] at e
  obtain ⟨⟨w, s1⟩, e1, ⟨y, s2⟩, e2, ⟨z, s3⟩, e3, s4, e4, e5⟩ := e
  cases e5
  obtain ⟨l, n, xs, d, hy, hz, ec, ed, hg, rfl⟩ := set_inv e4
  simp only at hy hz
  subst hy hz
  refine ⟨rs, st, ρ, w, s1, g, er, e1, fun u H1 rs1 x1 g1 r1 => ⟨rs1, s1, ρ, _, s2, g1, er.ext x1, e2, fun u2 H2 rs2 x2 g2 r2 => ⟨rs2, s2, ρ, _, s3, g2, er.ext (x1.trans x2), e3, fun u3 H3 rs3 x3 g3 r3 => ?_⟩⟩⟩
  cases r2 with
  | ref hix =>
    cases r3
    obtain ⟨hz, hgr, vs, hv, rl⟩ := g3.at2 (x3.ix hix) ec
    refine ⟨_, vs, n, d, rfl, rfl, hv, by rw [rl.length]; exact ed, ?_⟩
    have rw' := Rep.ext (x2.trans x3) _ _ r1
    obtain ⟨x4, g4⟩ := post_set (xs := xs.set d w) g3 (x3.ix hix) hv (ground_set hgr hg d) (by rw [List.length_set]; exact hz) (rl.set d rw')
    exact q σ _ rs3 (((x1.trans x2).trans x3).trans x4) g4 (er.ext (((x1.trans x2).trans x3).trans x4))
theorem saug {n : Nat} {p2 : Pos} {o : BOp} (ho : o = .add ∨ o = .sub) (hN : X.N.Nodup) (hi : X.N[n]? = some x) (hx : Loc X.env.scope x) (he : PE X e (tE X.K c i)) (hf : X.fn x = true ∨ X.env.scope.names.lookup x = some .local) :
    PS X (.AugAssign (.Name x p2) (opE o) e pos) (tS X.K c (.aug n o i)) := by
  have rd : ∀ D σ H, tS X.K c (.aug n o i) D σ H → tAug n (tE X.K c i) (ipI fun a b => if o = .add then a + b else a - b) D σ H := fun D σ H h => by
    obtain ⟨rs, st, ρ, f, ρ', st', g, er, e, q⟩ := h
    simp only [evS, Option.bind_eq_some_iff] at e
    obtain ⟨ov, e0, w, e1, ⟨y, s1⟩, e2, e3⟩ := e
    subst e1
    obtain ⟨w', hw, rw'⟩ := er.at_ n w e0
    refine ⟨w', hw, rs, st, ρ, y, s1, g, er, e2, fun u H1 rs1 x1 g1 r1 => ?_⟩
    have rw2 := Rep.ext x1 _ _ rw'
    rcases ho with rfl | rfl
    · cases w <;> cases y <;> simp only at e3 <;> try (cases e3; done)
      cases e3
      cases rw2; cases r1
      exact ⟨_, _, rfl, rfl, q _ H1 rs1 x1 g1 ((er.ext x1).put (.int _) n)⟩
    · cases w <;> cases y <;> simp only at e3 <;> try (cases e3; done)
      cases e3
      cases rw2; cases r1
      exact ⟨_, _, rfl, rfl, q _ H1 rs1 x1 g1 ((er.ext x1).put (.int _) n)⟩
  rcases ho with rfl | rfl
  · exact ps_wk (ps_aug hN hi hx he ip_add hf) rd
  · exact ps_wk (ps_aug hN hi hx he ip_sub hf) rd
theorem sfor {t : Tg} {tg it : Expr} {B : List Stmt} (hp : PassesOwn (model X.prog X.w) X.A X.env X.xe) (hc : X.calm = true) (hi : PI X tg it (tI X.K c i)) (hg : PG X tg (rawG X.K t)) (hb : PSs X B (tS X.K c u))
    (hs : ∀ x, foldedSetIterable it X.env x = pure x) : PS X (.For tg it B [] pos) (tS X.K c (.for_ i t u)) := ps_wk (ps_for hp hc hi hg hb hs) fun D σ H h => by
  obtain ⟨rs, st, ρ, f, ρ', st', g, er, e, q⟩ := h
  simp only [evS, Option.bind_eq_some_iff] at e
  obtain ⟨⟨w, s1⟩, e1, e2⟩ := e
  refine ⟨rs, st, ρ, w, s1, g, er, e1, fun J H1 rs1 x1 g1 wk => ?_⟩
  refine ⟨fun n m σ2 H2 => ∃ rs2 st2 ρ2, Ext rs1 H1 rs2 H2 ∧ Good X.K rs2 st2 H2 ∧ EnvR X.K H2 rs2 σ2 ρ2 ∧ m = w.xs.length - n ∧ n ≤ w.xs.length ∧ forM (guardOk w) (fun x σ st => (asgn t x σ).bind fun σ' => evS c u σ' st) (w.xs.drop n) ρ2 st2 = some (f, ρ', st'),
    ⟨w.xs.length, rs1, s1, ρ, Ext.refl _ _, g1, er.ext x1, by simp, by simp, e2⟩, ?_⟩
  rintro n m σ2 H2 ⟨rs2, st2, ρ2, x2, g2, er2, hm, hn, ef⟩
  by_cases hlt : n < w.xs.length
  · obtain ⟨p, hp, hd⟩ := drop_at hlt
    rw [hd] at ef
    simp only [forM] at ef
    split at ef
    · rename_i hg
      obtain ⟨⟨y, ρ3, s3⟩, ey, ef⟩ := Option.bind_eq_some_iff.mp ef
      obtain ⟨ρ4, ea, eb⟩ := Option.bind_eq_some_iff.mp ey
      obtain ⟨hgo, hy⟩ := wk.go n p rs2 H2 st2 hp x2.lat g2 hg
      refine .inr ⟨hgo, fun σ3 H3 => (y = .nx ∨ y = .ct) ∧ ∃ rs3, Ext rs1 H1 rs3 H3 ∧ Good X.K rs3 s3 H3 ∧ EnvR X.K H3 rs3 σ3 ρ3, fun σ3 H3 ⟨hy3, rs3, x3, g3, er3⟩ => ?_, fun x H3 yl => ?_⟩
      · refine ⟨w.xs.length - (n + 1), by omega, rs3, s3, ρ3, x3, g3, er3, rfl, hlt, ?_⟩
        rcases hy3 with rfl | rfl <;> exact ef
      · obtain ⟨x3, g3, r3⟩ := hy x H3 yl
        refine rawG_ok (er2.ext x3) r3 ea fun σ4 er4 _ => ?_
        refine ⟨rs2, st2, ρ4, y, ρ3, s3, g3, er4, eb, ?_⟩
        have x13 := x2.trans x3
        cases y with
        | nx => exact fun σ5 H5 rs5 x5 g5 er5 => ⟨.inl rfl, rs5, x13.trans x5, g5, er5⟩
        | ct => exact fun σ5 H5 rs5 x5 g5 er5 => ⟨.inr rfl, rs5, x13.trans x5, g5, er5⟩
        | bk =>
          simp only at ef
          cases ef
          exact fun σ5 H5 rs5 x5 g5 er5 => q σ5 H5 rs5 (x1.trans (x13.trans x5)) g5 er5
        | rt v =>
          simp only at ef
          cases ef
          exact fun u5 H5 rs5 x5 g5 r5 => q u5 H5 rs5 (x1.trans (x13.trans x5)) g5 r5
    · cases ef
  · have hie : n = w.xs.length := by omega
    subst hie
    rw [List.drop_length] at ef
    simp only [forM] at ef
    split at ef
    · rename_i hg
      cases ef
      exact .inl ⟨wk.stop rs2 H2 _ x2.lat g2 hg, q σ2 H2 rs2 (x1.trans x2) g2 er2⟩
    · cases ef
theorem swhile {q : E} {B : List Stmt} (hp : PassesOwn (model X.prog X.w) X.A X.env X.xe) (hc : PT X a (tT X.K c q)) (hb : PSs X B (tS X.K c u)) : PS X (.While a B [] pos) (tS X.K c (.whl q u)) := ps_wk (ps_while hp hc hb) fun D σ H h => by
  obtain ⟨rs, st, ρ, f, ρ', st', g, er, e, q⟩ := h
  simp only [evS] at e
  refine ⟨fun m σ2 H2 => ∃ rs2 st2 ρ2, Ext rs H rs2 H2 ∧ Good X.K rs2 st2 H2 ∧ EnvR X.K H2 rs2 σ2 ρ2 ∧ whM (fun σ st => (evE c _ σ st).bind fun x => (truth x.1 x.2).map fun k => (k, x.2)) (fun σ st => evS c u σ st) m ρ2 st2 = some (f, ρ', st'), ⟨c.wf, rs, st, ρ, Ext.refl _ _, g, er, e⟩, ?_⟩
  rintro m σ2 H2 ⟨rs2, st2, ρ2, x2, g2, er2, ew⟩
  cases m with
  | zero => simp [whM] at ew
  | succ m =>
    simp only [whM, Option.bind_eq_some_iff, Option.map_eq_some_iff] at ew
    obtain ⟨⟨k, s3⟩, ⟨⟨w, s4⟩, e1, k', e2, e3⟩, e4⟩ := ew
    simp only [Prod.mk.injEq] at e3
    obtain ⟨e31, e32⟩ := e3
    subst e31 e32
    refine ⟨rs2, st2, ρ2, w, s4, k', g2, er2, e1, e2, fun H3 rs3 x3 g3 => ?_⟩
    cases k' with
    | true =>
      simp only [if_true, Option.bind_eq_some_iff] at e4 ⊢
      obtain ⟨⟨y, ρ5, s5⟩, e5, e6⟩ := e4
      refine ⟨fun σ6 H6 => (y = .nx ∨ y = .ct) ∧ ∃ rs6, Ext rs H rs6 H6 ∧ Good X.K rs6 s5 H6 ∧ EnvR X.K H6 rs6 σ6 ρ5, fun σ6 H6 ⟨hy, rs6, x6, g6, er6⟩ => ⟨m, by omega, rs6, s5, ρ5, x6, g6, er6, ?_⟩, rs3, s4, ρ2, y, ρ5, s5, g3, er2.ext x3, e5, ?_⟩
      · rcases hy with rfl | rfl <;> exact e6
      · have x23 := x2.trans x3
        cases y with
        | nx => exact fun σ5 H5 rs5 x5 g5 er5 => ⟨.inl rfl, rs5, x23.trans x5, g5, er5⟩
        | ct => exact fun σ5 H5 rs5 x5 g5 er5 => ⟨.inr rfl, rs5, x23.trans x5, g5, er5⟩
        | bk =>
          simp only at e6
          cases e6
          exact fun σ5 H5 rs5 x5 g5 er5 => q σ5 H5 rs5 (x23.trans x5) g5 er5
        | rt v =>
          simp only at e6
          cases e6
          exact fun u5 H5 rs5 x5 g5 r5 => q u5 H5 rs5 (x23.trans x5) g5 r5
    | false =>
      simp only [Bool.false_eq_true, if_false] at e4 ⊢
      cases e4
      exact q σ2 H3 rs3 (x2.trans x3) g3 (er2.ext x3)
end
end Ev

/-! list(range(..)), tuple(range(..)) -/
namespace Ev
open PySem L2
section
variable {X : Cx} {K : PySem.W.Frag} {c : Cf} {rs rs1 : Rs} {st st' : Sto} {H H1 : Hp} {pos p p2 p3 : Pos} {a b : Expr} {i j it : E} {σ : L2.St}
def tRg (K : PySem.W.Frag) (c : Cf) (it : E) : L2.St → Hp → (Int → Int → Hp → Prop) → Prop := fun σ H Q => ∃ rs st ρ w st', Good K rs st H ∧ EnvR K H rs σ ρ ∧ evI c it ρ st = some (w, st') ∧
  ∀ lo hi H' rs', Ext rs H rs' H' → Good K rs' st' H' → RgOk lo hi → w.xs = rangeL lo (hi - lo).toNat → Q lo hi H'
theorem prg_wk {e : Expr} {t t' : L2.St → Hp → (Int → Int → Hp → Prop) → Prop} (h : PRg X e t) (w : ∀ σ H Q, t' σ H Q → t σ H Q) : PRg X e t' := fun pins s σ H Q I q => h pins s σ H Q I (w σ H Q q)
theorem rg1 (hg : Gl X "range") (hm : X.mg "range" = none) (ha : PE X a (tE X.K c i)) (hs : isStar a = false) : PRg X (.Call (.Name "range" p) [a] [] pos) (tRg X.K c (.itr .range1 (.cons i .nil))) :=
  prg_wk (prg_1 hg hm ha (star_no hs)) fun σ H Q h => by
    obtain ⟨rs, st, ρ, w, st', g, er, e, q⟩ := h
    simp only [evI, evL, Option.bind_eq_some_iff, Option.map_eq_some_iff] at e
    obtain ⟨⟨ys, s1⟩, ⟨⟨z, s2⟩, e1, ⟨z2, s3⟩, e2, e3⟩, w', e4, e5⟩ := e
    cases e2; cases e3; cases e5
    obtain ⟨n, hv, h1, h2, rfl⟩ := wk_r1 e4
    simp only [List.cons.injEq, and_true] at hv
    subst hv
    refine ⟨rs, st, ρ, _, _, g, er, e1, fun u H1 rs1 x1 g1 r1 => ?_⟩
    cases r1
    obtain ⟨b1, b2⟩ := rg_bounds h1
    exact ⟨n, rfl, q 0 n H1 rs1 x1 g1 ⟨by omega, by omega, b1, b2, by omega⟩ (by simp)⟩
theorem rg2 (hg : Gl X "range") (hm : X.mg "range" = none) (ha : PE X a (tE X.K c i)) (hb : PE X b (tE X.K c j)) (hs : isStar a = false) (hs2 : isStar b = false) : PRg X (.Call (.Name "range" p) [a, b] [] pos) (tRg X.K c (.itr .range2 (.cons i (.cons j .nil)))) :=
  prg_wk (prg_2 hg hm ha hb (star_no hs) (star_no hs2) (stars_no _ _ (by simp [hs2]))) fun σ H Q h => by
    obtain ⟨rs, st, ρ, w, st', g, er, e, q⟩ := h
    simp only [evI, evL, Option.bind_eq_some_iff, Option.map_eq_some_iff] at e
    obtain ⟨⟨ys, s1⟩, ⟨⟨z, s2⟩, e1, ⟨z2, s3⟩, ⟨⟨z4, s4⟩, e2, ⟨z5, s5⟩, e6, e7⟩, e3⟩, w', e4, e5⟩ := e
    cases e6; cases e7; cases e3; cases e5
    obtain ⟨m, n, hv, h1, h1', h2, rfl⟩ := wk_r2 e4
    simp only [List.cons.injEq, and_true] at hv
    obtain ⟨hv1, hv2⟩ := hv
    subst hv1 hv2
    refine ⟨rs, st, ρ, _, _, g, er, e1, fun u H1 rs1 x1 g1 r1 => ⟨rs1, _, ρ, _, _, g1, er.ext x1, e2, fun u2 H2 rs2 x2 g2 r2 => ?_⟩⟩
    cases r1; cases r2
    obtain ⟨b1, b2⟩ := rg_bounds h1
    obtain ⟨b3, b4⟩ := rg_bounds h1'
    exact ⟨m, n, rfl, rfl, q m n H2 rs2 (x1.trans x2) g2 ⟨b1, b2, b3, b4, by omega⟩ rfl⟩
theorem rgV_rep (lo hi : Int) : RepL K H rs (rgV lo hi) (rangeL lo (hi - lo).toNat) := by
  unfold rgV rangeL
  generalize List.range (hi - lo).toNat = l
  induction l with
  | nil => exact .nil
  | cons n l ih => exact .cons (.int _) ih
theorem xlistI {m : Bool} {e : Expr} (hc : X.calm = true) (hg : Gl X "list") (hm : X.mg "list" = none) (he : PRg X e (tRg X.K c it)) (hs : isStar e = false) : PE X (.Call (.Name "list" p) [e] [] pos) (tE X.K c (.listI m it)) :=
  pe_wk (pe_listRg hc hg hm he (star_no hs)) fun σ H Q h => by
    obtain ⟨rs, st, ρ, v, st', g, er, e, q⟩ := h
    simp only [evE, Option.bind_eq_some_iff] at e
    obtain ⟨⟨w, s1⟩, e1, e2⟩ := e
    refine ⟨rs, st, ρ, w, s1, g, er, e1, fun lo hi H1 rs1 x1 g1 ok hx => ⟨ok, ?_⟩⟩
    simp only [hx] at e2
    exact post_mk g1 (rgV_rep lo hi) (by rw [rangeL_len, sizeLine_eq]; have := ok.2.2.2.2; omega) e2 (q.ext x1)
theorem xtupI {e : Expr} (hc : X.calm = true) (hg : Gl X "tuple") (hm : X.mg "tuple" = none) (he : PRg X e (tRg X.K c it)) (hs : isStar e = false) : PE X (.Call (.Name "tuple" p) [e] [] pos) (tE X.K c (.tupI it)) :=
  pe_wk (pe_tupRg hc hg hm he (star_no hs)) fun σ H Q h => by
    obtain ⟨rs, st, ρ, v, st', g, er, e, q⟩ := h
    simp only [evE, Option.map_eq_some_iff] at e
    obtain ⟨⟨w, s1⟩, e1, e2⟩ := e
    cases e2
    refine ⟨rs, st, ρ, w, s1, g, er, e1, fun lo hi H1 rs1 x1 g1 ok hx => ⟨ok, ?_⟩⟩
    simp only [hx] at q
    exact post_tup g1 (rgV_rep lo hi) (by rw [rangeL_len, sizeLine_eq]; have := ok.2.2.2.2; omega) (q.ext x1)
end
end Ev

/-! zip of any number of lists and tuples, starred ones too -/
namespace Ev
open PySem L2
/-! ### zip of any number -/
abbrev ZL := List (Bool × Addr × Array Value)
def zVals (L : ZL) : List Value := L.map fun p => .ref p.2.1
def zHeap (h : Heap) : ZL → Heap
  | [] => h
  | p :: L => zHeap (h.push (itO p.1 p.2.1)) L
def zRefs (N : Nat) : ZL → List Value
  | [] => []
  | _ :: L => .ref N :: zRefs (N + 1) L
theorem zHeap_size : ∀ (L : ZL) (h : Heap), (zHeap h L).objs.size = h.objs.size + L.length
  | [], h => rfl
  | p :: L, h => by rw [zHeap, zHeap_size L, Heap.size_push, List.length_cons]; omega
theorem zHeap_keep : ∀ (L : ZL) (h : Heap) (c : Addr) (o : Obj), h.get? c = some o → (zHeap h L).get? c = some o
  | [], h, c, o, e => e
  | p :: L, h, c, o, e => zHeap_keep L _ c o (Heap.get?_push_of_some _ e)
theorem zHeap_at : ∀ (L : ZL) (h : Heap) (j : Nat) (p : Bool × Addr × Array Value), L[j]? = some p → (zHeap h L).get? (h.objs.size + j) = some (itO p.1 p.2.1)
  | [], h, j, p, e => by simp at e
  | q :: L, h, 0, p, e => by
    simp at e; subst e
    exact zHeap_keep L _ _ _ (Heap.get?_push_size _ (by cases q.1 <;> rfl))
  | q :: L, h, j + 1, p, e => by
    have := zHeap_at L (h.push (itO q.1 q.2.1)) j p (by simpa using e)
    rw [Heap.size_push] at this
    rwa [show h.objs.size + (j + 1) = h.objs.size + 1 + j by omega]
section
variable {prog : Program} {w : World} {A : Around} {E : Value → Shared → Prop}
theorem iterAll_wp {f : Value → Array Value → Sem (ForInStep (Array Value))} (hf : ∀ v r, f v r = (do let t ← holding r.toList (pyIter v); pure (ForInStep.yield (r.push t)))) : ∀ (L : ZL) (acc : Array Value) (s : Shared) (Q : Array Value → Shared → Prop), (∀ p ∈ L, ObB p.1 s.heap p.2.1 p.2.2) → Q (acc ++ (zRefs s.heap.objs.size L).toArray) { s with heap := zHeap s.heap L } → wpAny (model prog w) A (forIn (zVals L) acc f) Q E s
  | [], acc, s, Q, _, h => by
    simp only [zVals, List.map_nil, List.forIn_nil]
    exact wpAny_pure (by simpa [zRefs, zHeap] using h)
  | p :: L, acc, s, Q, ho, h => by
    simp only [zVals, List.map_cons, List.forIn_cons, hf]
    refine wpAny_bind (wpAny_bind (wpAny_holding ((beginB (b := p.1) (its := p.2.2)).iter prog w _ _ s _ (ho p (by simp)) (wpAny_pure ?_))))
    refine iterAll_wp hf L _ { s with heap := s.heap.push (itO p.1 p.2.1) } Q (fun q hq => (beginB (b := q.1) (its := q.2.2)).keeps _ _ (ho q (by simp [hq])) fun b o e => Heap.get?_push_of_some _ e) ?_
    have e : acc.push (.ref s.heap.objs.size) ++ (zRefs (s.heap.objs.size + 1) L).toArray = acc ++ (zRefs s.heap.objs.size (p :: L)).toArray := by
      rw [zRefs, List.toArray_cons, ← Array.append_assoc]; rfl
    show Q (acc.push (.ref s.heap.objs.size) ++ (zRefs (s.heap.push (itO p.1 p.2.1)).objs.size L).toArray) _
    rw [Heap.size_push, e]
    exact h
theorem zRefs_len : ∀ (L : ZL) (N : Nat), (zRefs N L).length = L.length
  | [], _ => rfl
  | _ :: L, N => by rw [zRefs, List.length_cons, zRefs_len L, List.length_cons]
theorem zRefs_at : ∀ (L : ZL) (N j : Nat), j < L.length → (zRefs N L)[j]? = some (.ref (N + j))
  | [], _, _, h => by simp at h
  | _ :: L, N, 0, _ => rfl
  | _ :: L, N, j + 1, h => by
    rw [zRefs, List.getElem?_cons_succ, zRefs_at L (N + 1) j (by simpa using h), show N + 1 + j = N + (j + 1) by omega]
abbrev zT (h : Heap) (L : ZL) : Heap := (zHeap h L).push { cls := .type "tuple", data := .seq (zRefs h.objs.size L).toArray }
abbrev zO (h : Heap) (L : ZL) : Heap := (zT h L).push { cls := .type "tuple", data := .seq ((zRefs h.objs.size L).map fun _ => Value.none).toArray }
abbrev zZ (h : Heap) (L : ZL) : Heap := (zO h L).push { cls := .type "zip", data := .fields #[.none, .bool false, .bool false, .ref (zHeap h L).objs.size, .ref (zT h L).objs.size] }
theorem meets_zipN (L : ZL) (hl : L.length ≤ sizeLine) : Meets (Builtin.«zip.__new__» ⟨.type "zip" :: zVals L, []⟩) (fun _ R s => (∀ p ∈ L, ObB p.1 s.heap p.2.1 p.2.2) ∧
      R (.ok (.ret (.ref (zO s.heap L).objs.size))) { s with heap := zZ s.heap L }) :=
  .of_wp fun prog w A R s h => by
    obtain ⟨hp, g, d, tk, os⟩ := s; obtain ⟨h1, h⟩ := h
    have hsub := sub_zip
    have q1 : ∀ {A' : Around} {E : Value → Shared → Prop} {Q : List Value → Shared → Prop}, Q (zRefs hp.objs.size L) ⟨zHeap hp L, g, d, tk, os⟩ → wpAny (model prog w) A' (Builtin.SmallTypes.iterAll (zVals L)) Q E ⟨hp, g, d, tk, os⟩ := fun q => by
      unfold Builtin.SmallTypes.iterAll
      refine wpAny_bind (iterAll_wp (fun v r => rfl) L #[] _ _ h1 (wpAny_pure ?_))
      simpa using q
    have hz1 : (zRefs hp.objs.size L).length ≤ sizeLine := by rw [zRefs_len]; exact hl
    have hz2 : ((zRefs hp.objs.size L).map fun _ => Value.none).length ≤ sizeLine := by rw [List.length_map, zRefs_len]; exact hl
    have q2 : ∀ {A' : Around} {E : Value → Shared → Prop} {Q : Value → Shared → Prop}, Q (.ref (zHeap hp L).objs.size) ⟨zT hp L, g, d, tk, os⟩ → wpAny (model prog w) A' (newTuple (zRefs hp.objs.size L)) Q E ⟨zHeap hp L, g, d, tk, os⟩ := fun q => wpAny_newTuple q hz1
    have q3 : ∀ {A' : Around} {E : Value → Shared → Prop} {Q : Value → Shared → Prop}, Q (.ref (zT hp L).objs.size) ⟨zO hp L, g, d, tk, os⟩ → wpAny (model prog w) A' (newTuple ((zRefs hp.objs.size L).map fun _ => Value.none)) Q E ⟨zT hp L, g, d, tk, os⟩ := fun q => wpAny_newTuple q hz2
    wp_walk using q1, q2, q3
    exact ⟨_, rfl, h⟩
/-- the zip's record -/
abbrev IsZ (h : Heap) (z TI TO : Addr) (f0 : Value) (fl : Bool) : Prop := h.get? z = some { cls := .type "zip", dict := none, data := .fields #[f0, .bool fl, .bool false, .ref TI, .ref TO], slots := #[] }
abbrev IsTup (h : Heap) (T : Addr) (xs : List Value) : Prop := h.get? T = some { cls := .type "tuple", data := .seq xs.toArray }
theorem zc1 (a : Value) (r : List Value) : checkTypeCall "zip" ⟨a :: r, []⟩ = pure () := by kernel_rfl
theorem zc2 (a : Value) (r : List Value) : checkBuiltinCall "zip.__new__" ⟨.type "zip" :: a :: r, []⟩ = pure () := by kernel_rfl
theorem zc3 (o a : Value) (r : List Value) : argsOk "object.__init__" ⟨o :: a :: r, []⟩ := by unfold argsOk; kernel_rfl
theorem zip_beginsN {s : Shared} {L : ZL} {Q : Value → Shared → Prop} (hne : L ≠ []) (hl : L.length ≤ sizeLine) (ho : ∀ p ∈ L, ObB p.1 s.heap p.2.1 p.2.2)
    (h : ∀ h', IsZ h' (s.heap.objs.size + L.length + 2) (s.heap.objs.size + L.length) (s.heap.objs.size + L.length + 1) .none false → IsTup h' (s.heap.objs.size + L.length) (zRefs s.heap.objs.size L) →
      IsTup h' (s.heap.objs.size + L.length + 1) ((zRefs s.heap.objs.size L).map fun _ => Value.none) → (∀ j p, L[j]? = some p → h'.get? (s.heap.objs.size + j) = some (itO p.1 p.2.1)) → h'.objs.size = s.heap.objs.size + L.length + 3 →
      (∀ c o, s.heap.get? c = some o → h'.get? c = some o) → Q (.ref (s.heap.objs.size + L.length + 2)) { s with heap := h' }) :
    wpAny (model prog w) A (call (.type "zip") (zVals L)) Q E s := by
  obtain ⟨p, L, rfl⟩ : ∃ p L', L = p :: L' := by cases L with
    | nil => exact absurd rfl hne
    | cons p L => exact ⟨p, L, rfl⟩
  refine callType_new F.called_zip (by decide) (zc1 _ _) (zc2 _ _) (fun obj => zc3 obj _ _) F.entry_zip_new (meets_zipN (p :: L) hl) ⟨ho, ?_⟩
  have z1 : (zHeap s.heap (p :: L)).objs.size = s.heap.objs.size + (p :: L).length := zHeap_size _ _
  have z2 : (zT s.heap (p :: L)).objs.size = s.heap.objs.size + (p :: L).length + 1 := by rw [Heap.size_push, z1]
  have z3 : (zO s.heap (p :: L)).objs.size = s.heap.objs.size + (p :: L).length + 2 := by rw [Heap.size_push, z2]
  have z4 : (zZ s.heap (p :: L)).objs.size = s.heap.objs.size + (p :: L).length + 3 := by rw [Heap.size_push, z3]
  have gZ : (zZ s.heap (p :: L)).get? (zO s.heap (p :: L)).objs.size = some { cls := .type "zip", data := .fields #[.none, .bool false, .bool false, .ref (zHeap s.heap (p :: L)).objs.size, .ref (zT s.heap (p :: L)).objs.size] } := Heap.get?_push_size _ rfl
  have gO : (zZ s.heap (p :: L)).get? (zT s.heap (p :: L)).objs.size = some { cls := .type "tuple", data := .seq ((zRefs s.heap.objs.size (p :: L)).map fun _ => Value.none).toArray } := Heap.get?_push_of_some _ (Heap.get?_push_size _ rfl)
  have gT : (zZ s.heap (p :: L)).get? (zHeap s.heap (p :: L)).objs.size = some { cls := .type "tuple", data := .seq (zRefs s.heap.objs.size (p :: L)).toArray } := Heap.get?_push_of_some _ (Heap.get?_push_of_some _ (Heap.get?_push_size _ rfl))
  rw [z3, z2, z1] at gZ
  rw [z2] at gO
  rw [z1] at gT
  show _ ∧ _
  rw [z3]
  exact ⟨⟨_, gZ, rfl⟩, h _ gZ gT gO (fun j q hj => Heap.get?_push_of_some _ (Heap.get?_push_of_some _ (Heap.get?_push_of_some _ (zHeap_at _ _ j q hj)))) z4 fun c o e => Heap.get?_push_of_some _ (Heap.get?_push_of_some _ (Heap.get?_push_of_some _ (zHeap_keep _ _ c o e)))⟩
theorem forIn_wp {M : Model} {β : Type} {f : Value × Nat → β → Sem (ForInStep β)} {r : Nat → β} {I : Nat → Shared → Prop} {Q : β → Shared → Prop} : ∀ (l : List Value) (k : Nat) (s : Shared), I k s →
    (∀ j v s, l[j]? = some v → I (k + j) s → wpAny M A (f (v, k + j) (r (k + j))) (fun st s' => st = .yield (r (k + j + 1)) ∧ I (k + j + 1) s') E s) → (∀ s', I (k + l.length) s' → Q (r (k + l.length)) s') → wpAny M A (forIn (l.zipIdx k) (r k) f) Q E s
  | [], k, s, hi, _, hq => by
    simp only [List.zipIdx_nil, List.forIn_nil]
    exact wpAny_pure (hq s hi)
  | v :: l, k, s, hi, hf, hq => by
    simp only [List.zipIdx_cons, List.forIn_cons]
    refine wpAny_bind (wpAny_mono (hf 0 v s rfl hi) (fun st s' h => ?_) fun _ _ x => x)
    obtain ⟨rfl, h⟩ := h
    refine forIn_wp l (k + 1) s' h (fun j v s e h => ?_) fun s' h => ?_
    · have := hf (j + 1) v s (by simpa using e) (by rw [show k + (j + 1) = k + 1 + j by omega]; exact h)
      rw [show k + (j + 1) = k + 1 + j by omega] at this
      exact this
    · have := hq s' (by rw [List.length_cons, show k + (l.length + 1) = k + 1 + l.length by omega]; exact h)
      rw [List.length_cons, show k + (l.length + 1) = k + 1 + l.length by omega] at this
      exact this
theorem forIn_wp2 {M : Model} {β : Type} {f : Value → β → Sem (ForInStep β)} {r : Nat → β} {I : Nat → Shared → Prop} {Q : β → Shared → Prop} : ∀ (l : List Value) (k : Nat) (s : Shared), I k s →
    (∀ j v s, l[j]? = some v → I (k + j) s → wpAny M A (f v (r (k + j))) (fun st s' => st = .yield (r (k + j + 1)) ∧ I (k + j + 1) s') E s) → (∀ s', I (k + l.length) s' → Q (r (k + l.length)) s') → wpAny M A (forIn l (r k) f) Q E s
  | [], k, s, hi, _, hq => by
    simp only [List.forIn_nil]
    exact wpAny_pure (hq s hi)
  | v :: l, k, s, hi, hf, hq => by
    simp only [List.forIn_cons]
    refine wpAny_bind (wpAny_mono (hf 0 v s rfl hi) (fun st s' h => ?_) fun _ _ x => x)
    obtain ⟨rfl, h⟩ := h
    refine forIn_wp2 l (k + 1) s' h (fun j v s e h => ?_) fun s' h => ?_
    · have := hf (j + 1) v s (by simpa using e) (by rw [show k + (j + 1) = k + 1 + j by omega]; exact h)
      rw [show k + (j + 1) = k + 1 + j by omega] at this
      exact this
    · have := hq s' (by rw [List.length_cons, show k + (l.length + 1) = k + 1 + l.length by omega]; exact h)
      rw [List.length_cons, show k + (l.length + 1) = k + 1 + l.length by omega] at this
      exact this
theorem alive_wp {s : Shared} {a : Addr} {Q : Option Obj → Shared → Prop} (h : Q (s.heap.get? a) s) : wpAny (model prog w) A (loadIfAlive a) Q E s := fun _ _ _ => h
theorem owned_wp {s : Shared} {z TI TO : Addr} {f0 : Value} {fl : Bool} {Q : Bool → Shared → Prop} (hz : IsZ s.heap z TI TO f0 fl) (hf : f0 = .none ∨ ∃ T : Nat, f0 = rawInt T) (h1 : Q true s) (h2 : ∀ h', IsZ h' z TI TO f0 true → Heap.SameBut z s.heap h' → Q false { s with heap := h' }) :
    wpAny (model prog w) A (Builtin.SmallTypes.ownedTupleIsFree (.ref z)) Q E s := by
  unfold Builtin.SmallTypes.ownedTupleIsFree
  rcases hf with rfl | ⟨T, rfl⟩
  · exact wpAny_bind (wpAny_field hz rfl (x := .none) rfl (wpAny_pure h1))
  · refine wpAny_bind (wpAny_field hz rfl (x := rawInt T) rfl ?_)
    show wpAny _ _ (loadIfAlive ((T : Int).toNat) >>= _) _ _ _
    rw [Int.toNat_natCast]
    refine wpAny_bind (alive_wp ?_)
    cases hT : s.heap.get? T with
    | none => simp only [Option.isNone_none, if_true]; exact wpAny_pure h1
    | some o =>
      simp only [Option.isNone_some, Bool.false_eq_true, if_false]
      refine wpAny_bind (wpAny_field hz rfl (x := .bool fl) rfl ?_)
      cases fl with
      | true =>
        rw [if_neg (show ¬ ((Value.bool true != Value.bool true) = true) from Bool.false_ne_true)]
        exact wpAny_pure (h2 s.heap hz (Heap.SameBut.refl _ _))
      | false =>
        rw [if_pos (show (Value.bool false != Value.bool true) = true from rfl)]
        exact wpAny_bind (wpAny_setField_rec hz (by simp) fun h₁ hz₁ hs₁ => wpAny_pure (h2 h₁ hz₁ hs₁))

/-- what is drawn at turn i -/
def xv (L : ZL) (i : Nat) : List Value := L.map fun p => (p.2.2[i]?).getD .none
def ZMid (L : ZL) (N i k : Nat) (h : Heap) : Prop := ∀ j p, L[j]? = some p → ItB p.1 h (N + j) p.2.1 (if j < k then i + 1 else i) ∧ ObB p.1 h p.2.1 p.2.2
theorem ObB.at_ {b : Bool} {h h' : Heap} {a : Addr} {its : Array Value} (st : ObB b h a its) (k : ∀ o, h.get? a = some o → h'.get? a = some o) : ObB b h' a its := by
  cases b
  · exact Heap.IsList.at st k
  · exact Heap.IsTuple.at st k
theorem ZMid.keep {L : ZL} {N i k : Nat} {h h' : Heap} (hL : ∀ p ∈ L, LT.lt (α := Nat) p.2.1 N) (m : ZMid L N i k h) (hk : ∀ (c : Nat) (o : Obj), c < N + L.length → h.get? c = some o → h'.get? c = some o) : ZMid L N i k h' := fun j p e => by
  obtain ⟨m1, m2⟩ := m j p e
  have := (List.getElem?_eq_some_iff.mp e).1
  have := hL p (List.mem_of_getElem? e)
  exact ⟨m1.at_ fun o q => hk _ o (by omega) q, m2.at_ fun o q => hk _ o (by omega) q⟩
theorem updTup {s : Shared} {T : Addr} {os : List Value} {x : Value} {k : Nat} {Q : Unit → Shared → Prop} (hT : IsTup s.heap T os) (hs : os.length ≤ 1000)
    (h : ∀ h', IsTup h' T (os.set k x) → Heap.SameBut T s.heap h' → Q () { s with heap := h' }) : wpAny (model prog w) A (updateSeq T (·.setIfInBounds k x)) Q E s := by
  have z : sizeLine = 16777216 := by decide
  refine wpAny_updateSeq hT rfl (h _ ?_ (Heap.SameBut.update ..)) (by rw [List.size_toArray, z]; omega) (by rw [Array.size_setIfInBounds, List.size_toArray, z]; omega)
  rw [IsTup, Heap.get?_update_self _ hT rfl]
  simp [Obj.mapSeq]
theorem xv_at {L : ZL} {i j : Nat} {p : Bool × Addr × Array Value} {x : Value} (e : L[j]? = some p) (hx : p.2.2[i]? = some x) : (xv L i)[j]? = some x := by
  unfold xv
  rw [List.getElem?_map, e]
  simp [hx]
theorem sbk {x c : Nat} {h h' : Heap} {o : Obj} (hs : Heap.SameBut x h h') (hc : c ≠ x) (e : h.get? c = some o) : h'.get? c = some o := hs.extBut _ _ hc e
def ZFr (N n : Nat) (h h' : Heap) : Prop := ∀ (c : Nat) (o : Obj), (c < N ∨ c = N + n ∨ N + n + 2 < c) → h.get? c = some o → h'.get? c = some o
theorem ZFr.same {N n : Nat} {h h1 h2 : Heap} {x : Nat} (f : ZFr N n h h1) (hs : Heap.SameBut x h1 h2) (hx : N ≤ x ∧ x ≤ N + n + 2 ∧ x ≠ N + n) : ZFr N n h h2 := fun c o hc e => sbk hs (by omega) (f c o hc e)
/-- one draw -/
theorem ZMid.draw {L : ZL} {N i k : Nat} {s : Shared} {p : Bool × Addr × Array Value} {Q : Value → Shared → Prop} (hh : A.handled = none) (hL : ∀ p ∈ L, LT.lt (α := Nat) p.2.1 N) (hi : ∀ p ∈ L, i < p.2.2.size) (m : ZMid L N i k s.heap) (e : L[k]? = some p)
    (hQ : ∀ x h' tk, (xv L i)[k]? = some x → ZMid L N i (k + 1) h' → Heap.SameBut (N + k) s.heap h' → Q x { s with heap := h', toks := tk }) : wpAny (model prog w) A (Builtin.SmallTypes.nextOf (.ref (N + k))) Q E s := by
  have hp := hL p (List.mem_of_getElem? e)
  have hpk : (p.2.1 : Nat) ≠ N + k := by
    have : LT.lt (α := Nat) p.2.1 N := hp
    exact Nat.ne_of_lt (Nat.lt_of_lt_of_le this (Nat.le_add_right _ _))
  obtain ⟨m1, m2⟩ := m k p e
  rw [if_neg (Nat.lt_irrefl k)] at m1
  refine (drawB (b := p.1) (its := p.2.2) hh hpk).item i s Q E (hi p (List.mem_of_getElem? e)) ⟨m1, m2⟩ fun x h' tk hx st hs => hQ x h' tk (xv_at e hx) (fun j q ej => ?_) hs
  obtain ⟨n1, n2⟩ := m j q ej
  have hq := hL q (List.mem_of_getElem? ej)
  by_cases hjk : j = k
  · subst hjk
    rw [e] at ej; cases ej
    rw [if_pos (Nat.lt_succ_self j)]
    exact st
  · have hqk : (q.2.1 : Nat) ≠ N + k := Nat.ne_of_lt (Nat.lt_of_lt_of_le hq (Nat.le_add_right _ _))
    have hjk2 : N + j ≠ N + k := fun z => hjk (Nat.add_left_cancel z)
    have e1 : (if j < k + 1 then i + 1 else i) = if j < k then i + 1 else i := by
      by_cases hlt : j < k
      · rw [if_pos hlt, if_pos (Nat.lt_succ_of_lt hlt)]
      · rw [if_neg hlt, if_neg (fun z => hlt (Nat.lt_of_le_of_ne (Nat.le_of_lt_succ z) hjk))]
    rw [e1]
    exact ⟨n1.at_ fun o q => sbk hs hjk2 q, n2.at_ fun o q => sbk hs hqk q⟩
theorem take_set_eq {os xs : List Value} {k : Nat} {x : Value} (h : os.take k = xs.take k) (hk : k < os.length) (hx : xs[k]? = some x) : (os.set k x).take (k + 1) = xs.take (k + 1) := by
  rw [List.take_succ_eq_append_getElem (by simpa using hk), List.take_set_of_le (Nat.le_refl k), h]
  obtain ⟨hl, e⟩ := List.getElem?_eq_some_iff.mp hx
  rw [List.take_succ_eq_append_getElem hl, e]
  simp
/-- the state of a zip -/
def ZSt (L : ZL) (N i : Nat) (h : Heap) : Prop := (∃ f0 fl, IsZ h (N + L.length + 2) (N + L.length) (N + L.length + 1) f0 fl ∧ (f0 = .none ∨ ∃ T : Nat, f0 = rawInt T)) ∧ IsTup h (N + L.length) (zRefs N L) ∧ (∃ os : List Value, os.length = L.length ∧ IsTup h (N + L.length + 1) os) ∧ ZMid L N i 0 h
theorem ZMid.all {L : ZL} {N i : Nat} {h : Heap} (m : ZMid L N i L.length h) : ZMid L N (i + 1) 0 h := fun j p e => by
  have := m j p e
  rw [if_pos (List.getElem?_eq_some_iff.mp e).1] at this
  rw [if_neg (Nat.not_lt_zero j)]
  exact this
theorem zipN_next_item {L : ZL} {N i : Nat} {s : Shared} {Q : Value → Shared → Prop} (hh : A.handled = none) (hne : L ≠ []) (hlen : L.length ≤ 1000) (hL : ∀ p ∈ L, LT.lt (α := Nat) p.2.1 N) (hi : ∀ p ∈ L, i < p.2.2.size) (st : ZSt L N i s.heap)
    (hQ : ∀ h' tk, ZSt L N (i + 1) h' → IsTup h' s.heap.objs.size (xv L i) → h'.objs.size = s.heap.objs.size + 1 → ZFr N L.length s.heap h' → Q (.ref s.heap.objs.size) { s with heap := h', toks := tk }) :
    wpAny (model prog w) A (Builtin.«zip.__next__» ⟨[.ref (N + L.length + 2)], []⟩) (fun fin s' => ∃ v, fin = .done (.ret v) ∧ Q v s') E s := by
  have zl : sizeLine = 16777216 := by decide
  obtain ⟨hp, g, d, tk0, os0⟩ := s
  obtain ⟨⟨f0, fl, hz, hf⟩, hTI, ⟨os, hol, hTO⟩, hm⟩ := st
  have hrl := zRefs_len L N
  have hxl : (xv L i).length = L.length := by simp [xv]
  have hpos : 0 < L.length := List.length_pos_iff.mpr hne
  show wpAny _ _ (field (.ref _) 2 >>= _) _ _ _
  refine wpAny_bind (wpAny_field hz rfl (x := .bool false) rfl ?_)
  show wpAny _ _ (field (.ref _) 3 >>= _) _ _ _
  refine wpAny_bind (wpAny_field hz rfl (x := .ref (N + L.length)) rfl ?_)
  refine wpAny_bind (wpAny_seqItems hTI rfl ?_)
  have hem : (zRefs N L).toArray.isEmpty = false := by
    cases L with
    | nil => exact absurd rfl hne
    | cons p L => rfl
  simp only [hem, Bool.false_eq_true, if_false]
  show wpAny _ _ (Builtin.SmallTypes.ownedTupleIsFree (.ref _) >>= _) _ _ _
  refine wpAny_bind (owned_wp hz hf ?_ fun h1 hz1 hs1 => ?_)
  · simp only [if_true]
    refine wpAny_bind (wpAny_rule ?_)
    refine wpAny_bind (wpAny_field hz rfl (x := .ref (N + L.length + 1)) rfl ?_)
    refine wpAny_bind (wpAny_setField_rec hz (by simp) fun g0 hz0 hs0 => ?_)
    replace hz0 : IsZ g0 (N + L.length + 2) (N + L.length) (N + L.length + 1) .ellipsis fl := hz0
    replace hs0 : Heap.SameBut (N + L.length + 2) hp g0 := hs0
    refine wpAny_bind ?_
    refine forIn_wp (r := fun _ => _) (I := fun k s => ∃ h tk os, s = ⟨h, g, d, tk, os0⟩ ∧ IsZ h (N + L.length + 2) (N + L.length) (N + L.length + 1) .ellipsis fl ∧ IsTup h (N + L.length + 1) os ∧ os.length = L.length ∧ os.take k = (xv L i).take k ∧ ZMid L N i k h ∧ ZFr N L.length hp h ∧ h.objs.size = hp.objs.size) (zRefs N L) 0 _ ?_ ?_ ?_
    · exact ⟨g0, tk0, os, rfl, hz0, sbk hs0 (by omega) hTO, hol, by simp, hm.keep hL fun c o hc e => sbk hs0 (by omega) e, ZFr.same (fun c o _ e => e) hs0 (by omega), hs0.1⟩
    · intro j v s ej hI
      obtain ⟨h, tk, os, rfl, iz, it, il, ix, im, ifr, isz⟩ := hI
      rw [Nat.zero_add] at im ix ⊢
      have hj : j < L.length := by have := (List.getElem?_eq_some_iff.mp ej).1; omega
      rw [zRefs_at L N j hj] at ej
      cases ej
      refine wpAny_bind (wpAny_onRaise ?_)
      show wpAny _ _ (Builtin.SmallTypes.nextOf (.ref (N + j)) >>= _) _ _ ⟨h, g, d, tk, os0⟩
      refine wpAny_bind (im.draw hh hL hi (List.getElem?_eq_getElem hj) fun x h2 tk2 hx m2 s2 => wpAny_pure ?_)
      replace s2 : Heap.SameBut (N + j) h h2 := s2
      have it2 : IsTup h2 (N + L.length + 1) os := sbk s2 (by omega) it
      refine wpAny_bind (wpAny_seqItems (s := ⟨h2, g, d, tk2, os0⟩) it2 rfl ?_)
      refine wpAny_bind (updTup (s := ⟨h2, g, d, tk2, os0⟩) it2 (by omega) fun h3 it3 s3 => ?_)
      replace s3 : Heap.SameBut (N + L.length + 1) h2 h3 := s3
      refine wpAny_bind (wpAny_letGo (wpAny_pure ?_))
      exact ⟨rfl, h3, tk2, _, rfl, sbk s3 (by omega) (sbk s2 (by omega) iz), it3, by simpa using il, take_set_eq ix (by omega) hx, m2.keep hL fun c o hc e => sbk s3 (by omega) e, (ifr.same s2 (by omega)).same s3 (by omega), by rw [s3.1, s2.1, isz]⟩
    · intro s' hI
      obtain ⟨h, tk, os, rfl, iz, it, il, ix, im, ifr, isz⟩ := hI
      rw [Nat.zero_add, hrl] at ix im
      rw [List.take_of_length_le (by omega), List.take_of_length_le (by omega)] at ix
      subst ix
      show wpAny _ _ (seqItems? (.ref (N + L.length + 1)) >>= _) _ _ ⟨h, g, d, tk, os0⟩
      refine wpAny_bind (wpAny_seqItems (s := ⟨h, g, d, tk, os0⟩) it rfl ?_)
      refine wpAny_bind (wpAny_newTuple ?_ (by show (xv L i).length ≤ _; omega))
      have hzlt : N + L.length + 2 < h.objs.size := Heap.lt_size iz
      show wpAny _ _ (Builtin.SmallTypes.ownedTupleHandOut (.ref (N + L.length + 2)) (.ref h.objs.size) >>= _) _ _ ⟨h.push { cls := .type "tuple", data := .seq (xv L i).toArray }, g, d, tk, os0⟩
      refine wpAny_bind ?_
      unfold Builtin.SmallTypes.ownedTupleHandOut
      have hz₆ : IsZ (h.push { cls := .type "tuple", data := .seq (xv L i).toArray }) (N + L.length + 2) (N + L.length) (N + L.length + 1) .ellipsis fl := Heap.get?_push_of_some _ iz
      refine wpAny_bind (wpAny_setField_rec hz₆ (by simp) fun h₇ hz₇ hs₇ => ?_)
      replace hz₇ : IsZ h₇ (N + L.length + 2) (N + L.length) (N + L.length + 1) (rawInt h.objs.size) fl := hz₇
      refine wpAny_setField_rec hz₇ (by simp) fun h₈ hz₈ hs₈ => ?_
      replace hz₈ : IsZ h₈ (N + L.length + 2) (N + L.length) (N + L.length + 1) (rawInt h.objs.size) false := hz₈
      replace hs₇ : Heap.SameBut (N + L.length + 2) (h.push { cls := .type "tuple", data := .seq (xv L i).toArray }) h₇ := hs₇
      replace hs₈ : Heap.SameBut (N + L.length + 2) h₇ h₈ := hs₈
      have up : ∀ (c : Nat) (o : Obj), c ≠ N + L.length + 2 → h.get? c = some o → h₈.get? c = some o := fun c o c1 e => sbk hs₈ c1 (sbk hs₇ c1 (Heap.get?_push_of_some _ e))
      have hT₈ : IsTup h₈ h.objs.size (xv L i) := hs₈.extBut _ _ (Nat.ne_of_gt hzlt) (hs₇.extBut _ _ (Nat.ne_of_gt hzlt) (Heap.get?_push_size _ rfl))
      have hz8 : h₈.objs.size = h.objs.size + 1 := by rw [hs₈.1, hs₇.1, Heap.size_push]
      refine wpAny_pure ⟨_, rfl, ?_⟩
      have hq := hQ h₈ tk ⟨⟨_, _, hz₈, .inr ⟨_, rfl⟩⟩, up _ _ (by omega) (ifr _ _ (by omega) hTI), ⟨_, hxl, up _ _ (by omega) it⟩, (im.keep hL fun c o hc e => up c o (by omega) e).all⟩ (by rw [show (Shared.mk hp g d tk0 os0).heap.objs.size = h.objs.size from isz.symm]; exact hT₈) (by rw [hz8, isz]) (fun c o hc e => up c o (by omega) (ifr c o hc e))
      rw [show (Shared.mk hp g d tk0 os0).heap.objs.size = h.objs.size from isz.symm] at hq
      exact hq
  · simp only [Bool.false_eq_true, if_false]
    replace hs1 : Heap.SameBut (N + L.length + 2) hp h1 := hs1
    refine wpAny_bind ?_
    rw [← Array.forIn_toList]
    show wpAny _ _ (forIn (zRefs N L) _ _) _ _ _
    refine forIn_wp2 (r := fun k => (none, ((xv L i).take k).toArray)) (I := fun k s => ∃ h tk, s = ⟨h, g, d, tk, os0⟩ ∧ IsZ h (N + L.length + 2) (N + L.length) (N + L.length + 1) f0 true ∧ ZMid L N i k h ∧ ZFr N L.length hp h ∧ (∀ (c : Nat) (o : Obj), N + L.length ≤ c → c ≠ N + L.length + 2 → hp.get? c = some o → h.get? c = some o) ∧ h.objs.size = hp.objs.size) (zRefs N L) 0 _ ?_ ?_ ?_
    · exact ⟨h1, tk0, rfl, hz1, hm.keep hL fun c o hc e => sbk hs1 (by omega) e, ZFr.same (fun c o _ e => e) hs1 (by omega), fun c o _ c2 e => sbk hs1 c2 e, hs1.1⟩
    · intro j v s ej hI
      obtain ⟨h, tk, rfl, iz, im, ifr, ik, isz⟩ := hI
      rw [Nat.zero_add] at im ⊢
      have hj : j < L.length := by have := (List.getElem?_eq_some_iff.mp ej).1; omega
      rw [zRefs_at L N j hj] at ej
      cases ej
      refine wpAny_bind (wpAny_holding ?_)
      show wpAny _ _ (Builtin.SmallTypes.nextOf (.ref (N + j)) >>= _) _ _ ⟨h, g, d, tk, os0⟩
      refine wpAny_bind (im.draw hh hL hi (List.getElem?_eq_getElem hj) fun x h2 tk2 hx m2 s2 => wpAny_pure ?_)
      replace s2 : Heap.SameBut (N + j) h h2 := s2
      refine wpAny_pure ⟨?_, h2, tk2, rfl, sbk s2 (by omega) iz, m2, ifr.same s2 (by omega), fun c o c1 c2 e => sbk s2 (by omega) (ik c o c1 c2 e), by rw [s2.1, isz]⟩
      obtain ⟨hxj, ex⟩ := List.getElem?_eq_some_iff.mp hx
      rw [List.take_succ_eq_append_getElem hxj, ex]
      simp
    · intro s' hI
      obtain ⟨h, tk, rfl, iz, im, ifr, ik, isz⟩ := hI
      rw [Nat.zero_add, hrl] at im ⊢
      rw [List.take_of_length_le (by omega)]
      show wpAny _ _ (newTuple (xv L i) >>= _) _ _ ⟨h, g, d, tk, os0⟩
      refine wpAny_bind (wpAny_newTuple ?_ (by show (xv L i).length ≤ _; omega))
      refine wpAny_pure ⟨_, rfl, ?_⟩
      have up : ∀ (c : Nat) (o : Obj), h.get? c = some o → (h.push { cls := .type "tuple", data := .seq (xv L i).toArray }).get? c = some o := fun c o e => Heap.get?_push_of_some _ e
      have hT : IsTup (h.push { cls := .type "tuple", data := .seq (xv L i).toArray }) h.objs.size (xv L i) := Heap.get?_push_size _ rfl
      have hq := hQ (h.push { cls := .type "tuple", data := .seq (xv L i).toArray }) tk ⟨⟨_, _, up _ _ iz, hf⟩, up _ _ (ifr _ _ (by omega) hTI), ⟨_, hol, up _ _ (ik _ _ (by omega) (by omega) hTO)⟩, (im.keep hL fun c o hc e => up c o e).all⟩ (by rw [show (Shared.mk hp g d tk0 os0).heap.objs.size = h.objs.size from isz.symm]; exact hT) (by rw [Heap.size_push, isz]) (fun c o hc e => up c o (ifr c o hc e))
      rw [show (Shared.mk hp g d tk0 os0).heap.objs.size = h.objs.size from isz.symm] at hq
      exact hq
theorem zipN_next_end {L : ZL} {N i : Nat} {s : Shared} {Q : Fin → Shared → Prop} (hh : A.handled = none) (hne : L ≠ []) (hL : ∀ p ∈ L, LT.lt (α := Nat) p.2.1 N) (hi : ∀ p ∈ L, i = p.2.2.size) (st : ZSt L N i s.heap)
    (hE : ∀ h' tk e, ZFr N L.length s.heap h' → (∃ o, h'.get? e = some o ∧ o.cls = .type "StopIteration") → E (.ref e) { s with heap := h', toks := tk }) :
    wpAny (model prog w) A (Builtin.«zip.__next__» ⟨[.ref (N + L.length + 2)], []⟩) Q E s := by
  obtain ⟨hp, g, d, tk0, os0⟩ := s
  obtain ⟨⟨f0, fl, hz, hf⟩, hTI, ⟨os, hol, hTO⟩, hm⟩ := st
  obtain ⟨p, L', rfl⟩ : ∃ p L', L = p :: L' := by cases L with
    | nil => exact absurd rfl hne
    | cons p L => exact ⟨p, L, rfl⟩
  have hpN := hL p (by simp)
  have hpk : (p.2.1 : Nat) ≠ N := Nat.ne_of_lt hpN
  obtain ⟨m1, m2⟩ := hm 0 p rfl
  simp only [Nat.add_zero, Nat.lt_irrefl, if_false] at m1
  have hD := drawB (prog := prog) (w := w) (b := p.1) (its := p.2.2) hh hpk
  rw [hi p (by simp)] at m1
  show wpAny _ _ (field (.ref _) 2 >>= _) _ _ _
  refine wpAny_bind (wpAny_field hz rfl (x := .bool false) rfl ?_)
  show wpAny _ _ (field (.ref _) 3 >>= _) _ _ _
  refine wpAny_bind (wpAny_field hz rfl (x := .ref (N + (p :: L').length)) rfl ?_)
  refine wpAny_bind (wpAny_seqItems hTI rfl ?_)
  have hem : (zRefs N (p :: L')).toArray.isEmpty = false := rfl
  simp only [hem, Bool.false_eq_true, if_false]
  show wpAny _ _ (Builtin.SmallTypes.ownedTupleIsFree (.ref _) >>= _) _ _ _
  refine wpAny_bind (owned_wp hz hf ?_ fun h1 hz1 hs1 => ?_)
  · simp only [if_true]
    refine wpAny_bind (wpAny_rule ?_)
    refine wpAny_bind (wpAny_field hz rfl (x := .ref (N + (p :: L').length + 1)) rfl ?_)
    refine wpAny_bind (wpAny_setField_rec hz (by simp) fun g0 hz0 hs0 => ?_)
    replace hz0 : IsZ g0 (N + (p :: L').length + 2) (N + (p :: L').length) (N + (p :: L').length + 1) .ellipsis fl := hz0
    replace hs0 : Heap.SameBut (N + (p :: L').length + 2) hp g0 := hs0
    refine wpAny_bind ?_
    simp only [zRefs, List.zipIdx_cons, List.forIn_cons]
    refine wpAny_bind (wpAny_bind (wpAny_onRaise ?_))
    show wpAny _ _ (Builtin.SmallTypes.nextOf (.ref N) >>= _) _ _ ⟨g0, g, d, tk0, os0⟩
    refine wpAny_bind (hD.done ⟨g0, g, d, tk0, os0⟩ _ _ ⟨m1.at_ fun o q => sbk hs0 (by omega) q, m2.at_ fun o q => sbk hs0 (Nat.ne_of_lt (Nat.lt_of_lt_of_le hpN (by omega))) q⟩ fun q e hq he => ?_)
    replace hq : Heap.ExtBut N g0 q := hq
    obtain ⟨oe, hoe, hce⟩ := he
    replace hoe : q.get? e = some oe := hoe
    have hnz : (N + (p :: L').length + 2 : Nat) ≠ N := by rw [List.length_cons]; omega
    have hzq : IsZ q (N + (p :: L').length + 2) (N + (p :: L').length) (N + (p :: L').length + 1) .ellipsis fl := hq _ _ hnz hz0
    have hez : e ≠ (N + (p :: L').length + 2 : Nat) := fun x => by subst x; rw [hzq] at hoe; cases hoe; simp at hce
    refine wpAny_setField_rec (s := ⟨q, g, d, tk0, os0⟩) hzq (by simp) fun q' _ hq' => ?_
    replace hq' : Heap.SameBut (N + (p :: L').length + 2) q q' := hq'
    refine hE q' tk0 e (fun c o hc x => ?_) ⟨oe, hq'.extBut _ _ hez hoe, hce⟩
    have c1 : c ≠ N + (p :: L').length + 2 := by omega
    have c2 : c ≠ N := by simp only [List.length_cons] at hc; omega
    exact sbk hq' c1 (hq c o c2 (sbk hs0 c1 x))
  · simp only [Bool.false_eq_true, if_false]
    replace hs1 : Heap.SameBut (N + (p :: L').length + 2) hp h1 := hs1
    refine wpAny_bind ?_
    rw [← Array.forIn_toList]
    show wpAny _ _ (forIn (zRefs N (p :: L')) _ _) _ _ _
    simp only [zRefs, List.forIn_cons]
    refine wpAny_bind (wpAny_bind (wpAny_holding ?_))
    show wpAny _ _ (Builtin.SmallTypes.nextOf (.ref N) >>= _) _ _ ⟨h1, g, d, tk0, os0⟩
    refine wpAny_bind (hD.done ⟨h1, g, d, tk0, os0⟩ _ _ ⟨m1.at_ fun o q => sbk hs1 (by omega) q, m2.at_ fun o q => sbk hs1 (Nat.ne_of_lt (Nat.lt_of_lt_of_le hpN (by omega))) q⟩ fun q e hq he => ?_)
    replace hq : Heap.ExtBut N h1 q := hq
    refine hE q tk0 e (fun c o hc x => ?_) he
    have c1 : c ≠ N + (p :: L').length + 2 := by omega
    have c2 : c ≠ N := by simp only [List.length_cons] at hc; omega
    exact hq c o c2 (sbk hs1 c1 x)
theorem tyZ {s : Shared} {z TI TO : Addr} {f0 : Value} {fl : Bool} (hz : IsZ s.heap z TI TO f0 fl) : s.TypeIs (.ref z) "zip" := ⟨_, hz, rfl⟩
theorem pyNext_zipN_item {L : ZL} {N i : Nat} {s : Shared} {Q : Option Value → Shared → Prop} (hh : A.in1.handled = none) (hne : L ≠ []) (hlen : L.length ≤ 1000) (hL : ∀ p ∈ L, LT.lt (α := Nat) p.2.1 N) (hi : ∀ p ∈ L, i < p.2.2.size) (st : ZSt L N i s.heap)
    (hQ : ∀ h' tk, ZSt L N (i + 1) h' → IsTup h' s.heap.objs.size (xv L i) → h'.objs.size = s.heap.objs.size + 1 → ZFr N L.length s.heap h' → Q (some (.ref s.heap.objs.size)) { s with heap := h', toks := tk }) :
    wpAny (model prog w) A (pyNext (.ref (N + L.length + 2))) Q E s := by
  obtain ⟨f0, fl, hz, _⟩ := st.1
  unfold pyNext
  exact wpAny_bind (wpAny_attempt (wpAny_callSpecial?_slot (name := Str.ofString "__next__") (tyZ hz) F.slot_zip_next
    (wpAny_call_entry F.slot_zip_next (tyZ hz) F.entry_zip_next (zipN_next_item hh hne hlen hL hi st fun h' tk a1 a2 a3 a4 => wpAny_pure (hQ h' tk a1 a2 a3 a4)) (F.args_zip_next_1 _))))
theorem pyNext_zipN_end {L : ZL} {N i : Nat} {s : Shared} {Q : Option Value → Shared → Prop} (hh : A.in1.handled = none) (hne : L ≠ []) (hL : ∀ p ∈ L, LT.lt (α := Nat) p.2.1 N) (hi : ∀ p ∈ L, i = p.2.2.size) (st : ZSt L N i s.heap)
    (hQ : ∀ h' tk, ZFr N L.length s.heap h' → Q none { s with heap := h', toks := tk }) : wpAny (model prog w) A (pyNext (.ref (N + L.length + 2))) Q E s := by
  obtain ⟨f0, fl, hz, _⟩ := st.1
  unfold pyNext
  refine wpAny_bind (wpAny_attempt (wpAny_callSpecial?_slot (name := Str.ofString "__next__") (tyZ hz) F.slot_zip_next
    (wpAny_call_entry F.slot_zip_next (tyZ hz) F.entry_zip_next (zipN_next_end hh hne hL hi st fun h' tk e hk he => ?_) (F.args_zip_next_1 _))))
  obtain ⟨o, ho, hc⟩ := he
  refine wpAny_bind (wpAny_isInstance (T := "StopIteration") (b := true) ⟨o, ho, hc⟩ isSubtype_stop ?_)
  exact wpAny_pure (hQ _ _ hk)
theorem letGoZ {s : Shared} {tg : Expr} {z TI TO T : Addr} {f0 : Value} {fl : Bool} {Q : Unit → Shared → Prop} (hz : IsZ s.heap z TI TO f0 fl) (hf : f0 = .none ∨ ∃ T : Nat, f0 = rawInt T)
    (hQ : ∀ h' f1, IsZ h' z TI TO f1 fl → (f1 = .none ∨ ∃ T : Nat, f1 = rawInt T) → Heap.SameBut z s.heap h' → Q () { s with heap := h' }) : wpAny (model prog w) A (letOwnedTupleGo tg (.ref z) (.ref T)) Q E s := by
  have hz0 : wpAny (model prog w) A (pure ()) Q E s := wpAny_pure (hQ s.heap f0 hz hf (Heap.SameBut.refl _ _))
  have main : wpAny (model prog w) A (do
      let o ← load z
      match o.cls, o.data with
      | .type n, .fields vs =>
        if ["enumerate", "zip", "dict_itemiterator", "dict_reverseitemiterator", "odict_iterator", "itertools.zip_longest", "itertools.pairwise"].contains n && vs[0]? == some (rawInt T) then
          rule "for.unpacks-the-owned-tuple"
          updateField z 0 .none
      | _, _ => pure ()) Q E s := by
    refine wpAny_bind (wpAny_load hz ?_)
    dsimp only
    split
    · refine wpAny_bind (wpAny_rule ?_)
      show wpAny _ _ (setField (.ref z) 0 .none) Q E s
      exact wpAny_setField_rec hz (by simp) fun h' hz' hs' => hQ h' .none hz' (.inl rfl) hs'
    · exact hz0
  cases tg with
  | Tuple => exact main
  | List => exact main
  | _ => exact hz0
theorem pyIter_zipN {s : Shared} {z TI TO : Addr} {f0 : Value} {fl : Bool} {Q : Value → Shared → Prop} (hz : IsZ s.heap z TI TO f0 fl) (h : Q (.ref z) s) : wpAny (model prog w) A (pyIter (.ref z)) Q E s := by
  refine wpAny_pyIter_slot (tyZ hz) F.slot_zip_iter (wpAny_call_entry F.slot_zip_iter (tyZ hz) F.entry_zip_iter ?_ (F.args_zip_iter_1 _))
  show wpAny _ _ (ret (.ref z)) _ _ s
  exact wpAny_pure ⟨_, rfl, "zip", _, tyZ hz, F.slot_zip_next.lookup, h⟩
end

inductive SqsB (K : PySem.W.Frag) (H : Hp) : List (Bool × Addr) → List (List V) → Prop
  | nil : SqsB K H [] []
  | cons {b : Bool} {a : Addr} {xs : List V} {L : List (Bool × Addr)} {xss : List (List V)} : SqB b K H a xs → SqsB K H L xss → SqsB K H ((b, a) :: L) (xs :: xss)
inductive ZV : ZL → List (List V) → Prop
  | nil : ZV [] []
  | cons {b : Bool} {a : Addr} {its : Array Value} {xs : List V} {L : ZL} {xss : List (List V)} : Vals xs its.toList → ZV L xss → ZV ((b, a, its) :: L) (xs :: xss)
def vx (xss : List (List V)) (i : Nat) : List V := xss.map fun l => (l[i]?).getD .non
def zForg (L : ZL) : List (Bool × Addr) := L.map fun p => (p.1, p.2.1)
theorem zForg_len (L : ZL) : (zForg L).length = L.length := by simp [zForg]
def aRefs (N : Nat) : List (Bool × Addr) → List Value
  | [] => []
  | _ :: L => .ref N :: aRefs (N + 1) L
theorem aRefs_eq : ∀ (L : ZL) (N : Nat), aRefs N (zForg L) = zRefs N L
  | [], _ => rfl
  | _ :: L, N => by rw [zRefs, ← aRefs_eq L (N + 1)]; rfl
/-- the state of a zip, without the lists -/
def ZSa (L : List (Bool × Addr)) (N i : Nat) (h : Heap) : Prop := (∃ f0 fl, IsZ h (N + L.length + 2) (N + L.length) (N + L.length + 1) f0 fl ∧ (f0 = .none ∨ ∃ T : Nat, f0 = rawInt T)) ∧ IsTup h (N + L.length) (aRefs N L) ∧ (∃ os : List Value, os.length = L.length ∧ IsTup h (N + L.length + 1) os) ∧ ∀ j p, L[j]? = some p → ItB p.1 h (N + j) p.2 i
theorem ZSt.forg {L : ZL} {N i : Nat} {h : Heap} (st : ZSt L N i h) : ZSa (zForg L) N i h := by
  obtain ⟨h1, h2, h3, h4⟩ := st
  unfold ZSa
  rw [zForg_len, aRefs_eq]
  refine ⟨h1, h2, h3, fun j p e => ?_⟩
  rw [zForg, List.getElem?_map, Option.map_eq_some_iff] at e
  obtain ⟨q, e1, rfl⟩ := e
  have := (h4 j q e1).1
  rwa [if_neg (Nat.not_lt_zero j)] at this
theorem ZSa.with {L : ZL} {N i : Nat} {h : Heap} (st : ZSa (zForg L) N i h) (ho : ∀ p ∈ L, ObB p.1 h p.2.1 p.2.2) : ZSt L N i h := by
  unfold ZSa at st
  rw [zForg_len, aRefs_eq] at st
  obtain ⟨h1, h2, h3, h4⟩ := st
  refine ⟨h1, h2, h3, fun j p e => ⟨?_, ho p (List.mem_of_getElem? e)⟩⟩
  rw [if_neg (Nat.not_lt_zero j)]
  exact h4 j (p.1, p.2.1) (by rw [zForg, List.getElem?_map, e]; rfl)
section
variable {X : Cx} {pins : List (Addr × Obj)} {σ : L2.St} {H : Hp} {s : Shared}
theorem zl_of (I : Inv X pins σ H s) : ∀ {L : List (Bool × Addr)} {xss : List (List V)}, SqsB X.K H L xss → ∃ Z : ZL, zForg Z = L ∧ (∀ p ∈ Z, ObB p.1 s.heap p.2.1 p.2.2) ∧ ZV Z xss
  | _, _, .nil => ⟨[], rfl, by simp, .nil⟩
  | _, _, .cons (b := b) (a := a) h r => by
    obtain ⟨Z, e, o, v⟩ := zl_of I r
    obtain ⟨its, rv, p, hz⟩ := seqB I h
    refine ⟨(b, a, its.toArray) :: Z, by rw [← e]; rfl, fun q hq => ?_, .cons (by simpa using rv) v⟩
    rcases List.mem_cons.mp hq with z | z
    · subst z; exact p
    · exact o q z
theorem sqs_inj (I : Inv X pins σ H s) : ∀ {L : List (Bool × Addr)} {xss yss : List (List V)}, SqsB X.K H L xss → SqsB X.K H L yss → xss = yss
  | _, _, _, .nil, .nil => rfl
  | _, _, _, .cons h r, .cons h' r' => by rw [seqB_inj I h h', sqs_inj I r r']
end
theorem zv_size : ∀ {Z : ZL} {xss : List (List V)} {i : Nat}, ZV Z xss → (∀ xs ∈ xss, i < xs.length) → ∀ p ∈ Z, i < p.2.2.size
  | _, _, _, .nil, _, p, hp => by simp at hp
  | _, _, i, .cons (its := its) (xs := xs) v r, h, p, hp => by
    rcases List.mem_cons.mp hp with z | z
    · subst z
      have := v.length
      have := h xs (by simp)
      simp only [Array.length_toList] at *
      omega
    · exact zv_size r (fun y hy => h y (by simp [hy])) p z
theorem zv_end : ∀ {Z : ZL} {xss : List (List V)} {i : Nat}, ZV Z xss → (∀ xs ∈ xss, xs.length = i) → ∀ p ∈ Z, i = p.2.2.size
  | _, _, _, .nil, _, p, hp => by simp at hp
  | _, _, i, .cons (its := its) (xs := xs) v r, h, p, hp => by
    rcases List.mem_cons.mp hp with z | z
    · subst z
      have := v.length
      have := h xs (by simp)
      simp only [Array.length_toList] at *
      omega
    · exact zv_end r (fun y hy => h y (by simp [hy])) p z
theorem zv_vals : ∀ {Z : ZL} {xss : List (List V)} {i : Nat}, ZV Z xss → (∀ xs ∈ xss, i < xs.length) → Vals (vx xss i) (xv Z i)
  | _, _, _, .nil, _ => .nil
  | _, _, i, .cons (its := its) (xs := xs) v r, h => by
    refine .cons ?_ (zv_vals r fun y hy => h y (by simp [hy]))
    have hi := h xs (by simp)
    obtain ⟨u, hu, ru⟩ := v.get (List.getElem?_eq_getElem hi)
    show RelV (xs[i]?.getD .non) (its[i]?.getD .none)
    rw [List.getElem?_eq_getElem hi, Option.getD_some]
    have : its[i]? = some u := by simpa using hu
    show RelV xs[i] (its[i]?.getD .none)
    rw [this]
    exact ru
/-- the walk of a zip -/
def ItZn (K : PySem.W.Frag) (L : List (Bool × Addr)) : It :=
  ⟨fun i H => ∃ xss : List (List V), SqsB K H L xss ∧ ∀ xs ∈ xss, i < xs.length,
    fun i H v H' => ∃ T xs, v = .ref T ∧ H T = none ∧ H' = upd H T (.tup xs) ∧ ∀ xss, SqsB K H L xss → xs = vx xss i,
    fun i H => ∃ xss : List (List V), SqsB K H L xss ∧ ∀ xs ∈ xss, xs.length = i⟩
def zFp (N n : Nat) : List Addr := (List.range (n + 3)).map (N + ·)
theorem zFp_mem {N n : Nat} {c : Nat} : c ∈ zFp N n ↔ N ≤ c ∧ c < N + n + 3 := by
  unfold zFp
  rw [List.mem_map]
  constructor
  · rintro ⟨a, ha, rfl⟩
    have := List.mem_range.mp ha
    omega
  · intro h
    exact ⟨c - N, List.mem_range.mpr (by omega), by omega⟩
theorem zFp_nmem {N n : Nat} {c : Nat} (h : ¬ c ∈ zFp N n) : c < N ∨ c = N + n ∨ N + n + 2 < c := by
  rw [zFp_mem] at h
  omega
theorem sqs_len {K : PySem.W.Frag} {H : Hp} : ∀ {L : List (Bool × Addr)} {xss : List (List V)}, SqsB K H L xss → xss.length = L.length
  | _, _, .nil => rfl
  | _, _, .cons _ r => by simp [sqs_len r]
theorem turnZn {P : Program} {w : World} {K : PySem.W.Frag} {tg : Expr} {L : List (Bool × Addr)} {N : Nat} (hne : L ≠ []) (hlen : L.length ≤ 1000) (hL : ∀ p ∈ L, LT.lt (α := Nat) p.2 N) :
    Turn P w K tg (ItZn K L) (zFp N L.length) (N + L.length + 2) (ZSa L N) where
  mem := zFp_mem.mpr (by omega)
  obj := fun i h st q hq => by
    obtain ⟨⟨f0, fl, hz, _⟩, hTI, ⟨os, _, hTO⟩, hm⟩ := st
    have hq' := zFp_mem.mp hq
    by_cases e1 : q = (N + L.length + 2 : Nat)
    · subst e1; exact ⟨_, hz, fun v q => nomatch q⟩
    by_cases e2 : q = (N + L.length : Nat)
    · subst e2; exact ⟨_, hTI, fun v q => nomatch q⟩
    by_cases e3 : q = (N + L.length + 1 : Nat)
    · subst e3; exact ⟨_, hTO, fun v q => nomatch q⟩
    have hj : @HSub.hSub Nat Nat Nat _ q N < L.length := by
      have f1 : @Ne Nat q (N + L.length + 2) := e1
      have f2 : @Ne Nat q (N + L.length) := e2
      have f3 : @Ne Nat q (N + L.length + 1) := e3
      omega
    have := (hm ((q : Nat) - N) _ (List.getElem?_eq_getElem hj)).obj
    have e4 : N + ((q : Nat) - N) = q := by omega
    rwa [e4] at this
  keep := fun i h h' st k => by
    obtain ⟨⟨f0, fl, hz, hf⟩, hTI, ⟨os, ho, hTO⟩, hm⟩ := st
    refine ⟨⟨f0, fl, k _ (zFp_mem.mpr (by omega)) _ hz, hf⟩, k _ (zFp_mem.mpr (by omega)) _ hTI, ⟨os, ho, k _ (zFp_mem.mpr (by omega)) _ hTO⟩, fun j p e => (hm j p e).at_ fun o q => k _ (zFp_mem.mpr ?_) o q⟩
    have := (List.getElem?_eq_some_iff.mp e).1
    omega
  item := by
    intro X hP hw hK hc i pins s σ H E I hf st hg
    subst hP hw hK
    obtain ⟨xss, hq, hx⟩ := hg
    obtain ⟨Z, rfl, ho, hv⟩ := zl_of I hq
    have hh : X.A.in1.handled = none := I.ok.hd hc
    have hZne : Z ≠ [] := fun z => hne (by rw [z]; rfl)
    rw [zForg_len] at hlen hf
    have hZL : ∀ p ∈ Z, LT.lt (α := Nat) p.2.1 N := fun p hp => hL (p.1, p.2.1) (List.mem_map.mpr ⟨p, hp, rfl⟩)
    have st' := st.with ho
    have hZi := zv_size hv hx
    have vl := zv_vals hv hx
    have hxl : (vx xss i).length ≤ sizeLine := by
      have := sqs_len hq
      have z : sizeLine = 16777216 := by decide
      rw [zForg_len] at this
      unfold vx
      rw [List.length_map]
      omega
    have hzl : N + Z.length + 2 < s.heap.objs.size := by
      obtain ⟨f0, fl, hz, _⟩ := st'.1
      exact Heap.lt_size hz
    rw [zForg_len]
    refine pyNext_zipN_item hh hZne hlen hZL hZi st' fun h' tk st2 hT hsz hk => ⟨_, rfl, ?_⟩
    obtain ⟨⟨f0, fl, hz, hf0⟩, hTI, hTO, hm⟩ := st2
    refine letGoZ (s := { s with heap := h', toks := tk }) hz hf0 fun h'' f1 hz' hf1 sb => ?_
    replace sb : Heap.SameBut (N + Z.length + 2) h' h'' := sb
    have hT2 : IsTup h'' s.heap.objs.size (xv Z i) := sbk sb (Nat.ne_of_gt hzl) hT
    have new : ObjOk X.prog X.w (upd H s.heap.objs.size (.tup (vx xss i))) h'' s.heap.objs.size (.tup (vx xss i)) := ⟨hxl, xv Z i, vl, ⟨_, hT2, rfl, _, rfl⟩⟩
    have J : Inv X pins σ (upd H s.heap.objs.size (.tup (vx xss i))) { s with heap := h'', toks := tk } :=
      I.turnedNew (t' := tk) (ch := zFp N Z.length) (fun c ob hb q => by
        have h1 : (c : Nat) ≠ N + Z.length + 2 := fun z => hb (zFp_mem.mpr (by rw [z]; omega))
        exact sbk sb h1 (hk c ob (zFp_nmem hb) q)) hf (Nat.le_refl _) new
    obtain ⟨os, hol, hTO⟩ := hTO
    refine ⟨.ref s.heap.objs.size, _, J, rfl, ⟨_, _, rfl, I.hok.fresh (Nat.le_refl _), rfl, fun yss hy => by rw [sqs_inj I hy hq]⟩, ?_, fun c hb => ?_⟩
    · refine ZSt.forg ⟨⟨f1, fl, hz', hf1⟩, sbk sb (by omega) hTI, ⟨os, hol, sbk sb (by omega) hTO⟩, hm.keep hZL fun c o hc e => sbk sb (by omega) e⟩
    · have hb' := zFp_mem.mp hb
      have hlt : LT.lt (α := Nat) c s.heap.objs.size := Nat.lt_of_lt_of_le hb'.2 hzl
      rw [upd_ne (Nat.ne_of_lt hlt)]
      exact (hf c hb).1
  done := by
    intro X hP hw hK hc i pins s σ H E I hf st hg
    subst hP hw hK
    obtain ⟨xss, hq, hx⟩ := hg
    obtain ⟨Z, rfl, ho, hv⟩ := zl_of I hq
    have hh : X.A.in1.handled = none := I.ok.hd hc
    have hZne : Z ≠ [] := fun z => hne (by rw [z]; rfl)
    rw [zForg_len] at hlen hf
    have hZL : ∀ p ∈ Z, LT.lt (α := Nat) p.2.1 N := fun p hp => hL (p.1, p.2.1) (List.mem_map.mpr ⟨p, hp, rfl⟩)
    rw [zForg_len]
    exact pyNext_zipN_end hh hZne hZL (zv_end hv hx) (st.with ho) fun h' tk hk => ⟨rfl, I.turnedL (t' := tk) (ch := zFp N Z.length) (fun q o hb e => hk q o (zFp_nmem hb) e) hf⟩
  self := fun A i s Q E st h => by
    obtain ⟨f0, fl, hz, _⟩ := st.1
    exact pyIter_zipN hz h
section
variable {X : Cx} {tg e : Expr} {es : List Expr} {x : Str} {p sp pos : Pos} {ta : TA} {te : TE}
def ZSrc (K : PySem.W.Frag) (vs : List V) (H1 : Hp) (R : It → Hp → Prop) : Prop := ∃ (L : List (Bool × Addr)) (xss : List (List V)), vs = (L.map fun p => V.ref p.2) ∧ SqsB K H1 L xss ∧ L ≠ [] ∧ L.length ≤ 1000 ∧ R (ItZn K L) H1
theorem zv_of : ∀ {Z : ZL} {us : List Value}, Vals ((zForg Z).map fun p => V.ref p.2) us → us = zVals Z
  | [], _, .nil => rfl
  | q :: Z, _, .cons h r => by
    cases h
    rw [zv_of r]; rfl
theorem zip_run {pins : List (Addr × Obj)} {s : Shared} {σ : L2.St} {H : Hp} {R : It → Hp → Prop} {us : List Value} {vs : List V} (I : Inv X pins σ H s) (r : Vals vs us) (h : ZSrc X.K vs H R) :
    wpAny (model X.prog X.w) X.A (call (.type "zip") us) (fun v s1 => wpAny (model X.prog X.w) X.A (pyIter v) (PIE X pins σ tg R) X.xe s1) X.xe s := by
  obtain ⟨L, xss, rfl, hq, hne, hlen, hR⟩ := h
  obtain ⟨Z, rfl, ho, hv⟩ := zl_of I hq
  have hZne : Z ≠ [] := fun z => hne (by rw [z]; rfl)
  rw [zForg_len] at hlen
  have z : sizeLine = 16777216 := by decide
  rw [zv_of r]
  refine zip_beginsN hZne (by omega) ho fun h' hz hTI hTO hit hsz hk => pyIter_zipN hz ?_
  have I2 : Inv X pins σ H { s with heap := h' } := I.kept (t' := s.toks) hk
  have hlt : ∀ p ∈ zForg Z, LT.lt (α := Nat) p.2 s.heap.objs.size := fun p hp => by
    obtain ⟨q, hq, rfl⟩ := List.mem_map.mp hp
    exact (ho q hq).lt
  have hT := turnZn (P := X.prog) (w := X.w) (K := X.K) (tg := tg) (N := s.heap.objs.size) hne (by rw [zForg_len]; exact hlen) hlt
  rw [zForg_len] at hT
  refine ⟨s.heap.objs.size + Z.length + 2, zFp s.heap.objs.size Z.length, _, _, H, rfl, I2, hT, ?_, fun q hcm => ?_, hR⟩
  · refine ZSt.forg ⟨⟨_, _, hz, .inl rfl⟩, hTI, ⟨_, by rw [List.length_map, zRefs_len], hTO⟩, fun j q e => ?_⟩
    rw [if_neg (Nat.not_lt_zero j)]
    exact ⟨ItB.new (hit j q e), (ho q (List.mem_of_getElem? e)).at_ fun o e => hk _ o e⟩
  · have hle : s.heap.objs.size ≤ q := (zFp_mem.mp hcm).1
    exact I.fpOk hle (I.hok.fresh hle)
theorem keep_zip (M : Model) (h : Heap) (_ : True) : ∃ k, (k = Keeper.frame ∨ k = Keeper.machine ∨ k = Keeper.boundFrame) ∧ PySem.W.Looks M h (keeperOf (.type "zip")) k := ⟨.machine, .inr (.inl rfl), PySem.W.Looks.of_pure rfl⟩
theorem pi_zs (hg : Gl X x) (hm : X.mg x = none) (hv : bootBuiltins x = some (.type "zip")) (hn : x ≠ "__name__") (hd : (x == ("__debug__" : Str)) = false) (he : PE X e te) :
    PI X tg (.Call (.Name x p) [.Starred e sp] [] pos) (fun σ H R => te σ H fun y H1 => ∃ a vs, y = V.ref a ∧ (SqT X.K H1 a vs ∨ SqL X.K H1 a vs) ∧ ZSrc X.K vs H1 R) := by
  refine ⟨fun pins s σ H R I h => ?_⟩
  refine PyProof.Rows.Call_ (ld_blt I hg hm hv ?_ hn hd)
  refine PySem.W.ks_call (P := fun _ => True) rfl (keep_zip _) (PySem.W.ks_lone (thn (he.run pins s σ H _ I h) fun v s1 ⟨y, H1, I1, ry, a, vs, ey, hxs, q⟩ => ?_))
  subst ey
  obtain rfl : v = Value.ref a := ry
  exact StX.star_any I1 hxs fun us s2 I2 rv => ⟨trivial, zip_run I2 rv q⟩
theorem pi_zn (hg : Gl X x) (hm : X.mg x = none) (hv : bootBuiltins x = some (.type "zip")) (hn : x ≠ "__name__") (hd : (x == ("__debug__" : Str)) = false) (ha : PA X (e :: es) ta) (hs : isStar e = false) :
    PI X tg (.Call (.Name x p) (e :: es) [] pos) (fun σ H R => ta σ H fun vs H1 => ZSrc X.K vs H1 R) := by
  refine ⟨fun pins s σ H R I h => ?_⟩
  refine PyProof.Rows.Call_ (ld_blt I hg hm hv ?_ hn hd)
  have hr := thn (ha.run pos pins s σ H _ I h) fun us s1 ⟨vs, H1, I1, r1, q1⟩ => zip_run (tg := tg) I1 r1 q1
  cases hst : (backTo pos (starEach es X.env)).any (·.1) with
  | false => exact PyProof.Rows.callWith_type1 hr (star_no hs) hst
  | true =>
    have hr2 := thn (ha.run pos pins s σ H _ I h) fun us s1 ⟨vs, H1, I1, r1, q1⟩ => (⟨trivial, zip_run (tg := tg) I1 r1 q1⟩ : True ∧ _)
    rw [star_no hs] at hr2 ⊢
    exact PySem.W.ks_call (P := fun _ => True) (by show (false || (backTo pos (starEach es X.env)).any (·.1)) = true; rw [hst]; rfl) (keep_zip _) (PySem.Calls.evalArgs_plain hr2)
end
/-! by the evaluator -/
inductive RepLL (K : PySem.W.Frag) (H : Hp) (rs : Rs) : List (List V) → List (List PV) → Prop
  | nil : RepLL K H rs [] []
  | cons {us : List V} {xs : List PV} {uss : List (List V)} {xss : List (List PV)} : RepL K H rs us xs → RepLL K H rs uss xss → RepLL K H rs (us :: uss) (xs :: xss)
section
variable {X : Cx} {K : PySem.W.Frag} {c : Cf} {rs rs1 : Rs} {st st' : Sto} {H H1 : Hp} {pos p sp : Pos} {a tg : Expr} {es : List Expr} {i j : E} {x : Str}
theorem frozen_wk {v : PV} {xs : List PV} (h : frozenL v = some xs) : wkOf v st = some ⟨none, xs⟩ := by
  cases v <;> simp [frozenL] at h <;> subst h <;> rfl
theorem seqs_src (g : Good K rs st H) : ∀ {vs : List V} {ps : List PV} {pss : List (List PV)}, RepL K H rs vs ps → seqsOf ps = some pss → ∃ L : List (Bool × Addr), vs = L.map (fun p => V.ref p.2) ∧ L.length = pss.length ∧ (∀ xs ∈ pss, xs.length ≤ sizeLine) ∧
    ∀ rs2 H2 st2, Lat rs H rs2 H2 → Good K rs2 st2 H2 → ∃ uss, SqsB K H2 L uss ∧ RepLL K H2 rs2 uss pss
  | _, _, pss, .nil, h => by
    simp [seqsOf] at h; subst h
    exact ⟨[], rfl, rfl, by simp, fun _ _ _ _ _ => ⟨[], .nil, .nil⟩⟩
  | _, _, pss, .cons r rl, h => by
    simp only [seqsOf, Option.bind_eq_some_iff, Option.map_eq_some_iff] at h
    obtain ⟨xs, e1, yss, e2, rfl⟩ := h
    obtain ⟨L, h1, h2, h3, h4⟩ := seqs_src g rl e2
    obtain ⟨b, ad, us, rfl, hs, ru, later⟩ := wk_src g r (frozen_wk (st := st) e1)
    have hz := wk_len g r (frozen_wk (st := st) e1)
    refine ⟨(b, ad) :: L, by rw [h1]; rfl, by simp [h2], fun ys hy => ?_, fun rs2 H2 st2 x2 g2 => ?_⟩
    · rcases List.mem_cons.mp hy with e | e
      · rw [e]; exact hz
      · exact h3 ys e
    · obtain ⟨us2, k1, k2⟩ := later rs2 H2 st2 x2 g2 rfl
      obtain ⟨uss, k3, k4⟩ := h4 rs2 H2 st2 x2 g2
      exact ⟨us2 :: uss, .cons k1 k3, .cons k2 k4⟩
theorem repLL_lt : ∀ {uss : List (List V)} {pss : List (List PV)} {n : Nat}, RepLL K H rs uss pss → (∀ xs ∈ pss, xs.length = n) → ∀ us ∈ uss, us.length = n
  | _, _, _, .nil, _, us, h => by simp at h
  | _, _, _, .cons r rl, hp, us, h => by
    rcases List.mem_cons.mp h with e | e
    · rw [e, r.length]; exact hp _ (by simp)
    · exact repLL_lt rl (fun xs hx => hp xs (by simp [hx])) us e
theorem repLL_row : ∀ {uss : List (List V)} {pss : List (List PV)} {n k : Nat}, RepLL K H rs uss pss → (∀ xs ∈ pss, xs.length = n) → k < n → RepL K H rs (vx uss k) (pss.map fun xs => (xs[k]?).getD .non)
  | _, _, _, _, .nil, _, _ => .nil
  | _, _, n, k, .cons (us := us) (xs := xs) r rl, hp, hk => by
    have hx := hp xs (by simp)
    have hkx : k < xs.length := by omega
    obtain ⟨v, hv, rv⟩ := r.get (List.getElem?_eq_getElem hkx)
    refine .cons ?_ (repLL_row rl (fun ys hy => hp ys (by simp [hy])) hk)
    show Rep K H rs ((us[k]?).getD .non) ((xs[k]?).getD .non)
    rw [hv, List.getElem?_eq_getElem hkx]
    exact rv
theorem tup_new {T : Addr} {vs : List V} {ps : List PV} (g : Good K rs st H) (hT : H T = none) (r : RepL K H rs vs ps) (hl : ps.length ≤ sizeLine) : Ext rs H rs (upd H T (.tup vs)) ∧ Good K rs st (upd H T (.tup vs)) ∧ Rep K (upd H T (.tup vs)) rs (.ref T) (.tup ps) :=
  ⟨Ext.new hT, g.new hT, .tup (.inl ⟨g.fresh hT, upd_same⟩) (RepL.ext (Ext.new hT) _ _ r) hl⟩
theorem even_all : ∀ {pss : List (List PV)}, evenL pss = true → pss ≠ [] ∧ pss.length ≤ 1000 ∧ ∃ n, (∀ xs ∈ pss, xs.length = n) ∧ transp pss = (List.range n).map (rowAt pss)
  | [], h => by simp [evenL] at h
  | xs :: r, h => by
    simp only [evenL, Bool.and_eq_true, decide_eq_true_eq, List.all_eq_true] at h
    refine ⟨by simp, by simp; omega, xs.length, fun ys hy => ?_, rfl⟩
    rcases List.mem_cons.mp hy with e | e
    · rw [e]
    · exact h.1 ys e
theorem zipn_src {vs : List V} {ps : List PV} {w : Wk} {R : It → Hp → Prop} (g1 : Good K rs1 st' H1) (r1 : RepL K H1 rs1 vs ps) (e : zipnEv ps = some w) (q : ∀ J, WkOf K J w rs1 H1 → R J H1) : ZSrc K vs H1 R := by
  simp only [zipnEv, Option.bind_eq_some_iff] at e
  obtain ⟨pss, e1, e2⟩ := e
  split at e2
  · rename_i he
    cases e2
    obtain ⟨hne, hlen, n, hn, ht⟩ := even_all he
    obtain ⟨L, rfl, hL, hz, later⟩ := seqs_src g1 r1 e1
    obtain ⟨uss, h1, h2⟩ := later rs1 H1 st' (Ext.refl _ _).lat g1
    have hnz : n ≤ sizeLine := by
      cases pss with
      | nil => exact absurd rfl hne
      | cons xs r => have := hz xs (by simp); have := hn xs (by simp); omega
    refine ⟨L, uss, rfl, h1, fun z => hne (List.length_eq_zero_iff.mp (by rw [← hL, z]; rfl)), by omega, q _ ⟨fun k p rs2 H2 st2 hp x2 g2 _ => ?_, fun rs2 H2 st2 x2 g2 _ => ?_, ?_⟩⟩
    · obtain ⟨us2, k1, k2⟩ := later rs2 H2 st2 x2 g2
      rw [ht, List.getElem?_map] at hp
      obtain ⟨k', hk', rfl⟩ := Option.map_eq_some_iff.mp hp
      have hkn : k < n := by
        have := (List.getElem?_eq_some_iff.mp hk').1
        simpa using this
      rw [List.getElem?_range hkn] at hk'
      cases hk'
      have hl2 := repLL_lt k2 hn
      refine ⟨⟨us2, k1, fun us hu => by rw [hl2 us hu]; exact hkn⟩, fun x H3 y => ?_⟩
      obtain ⟨T, xs, rfl, hT, rfl, hx⟩ := y
      rw [hx us2 k1]
      have z : sizeLine = 16777216 := by decide
      exact tup_new g2 hT (repLL_row k2 hn hkn) (by rw [List.length_map]; omega)
    · obtain ⟨us2, k1, k2⟩ := later rs2 H2 st2 x2 g2
      refine ⟨us2, k1, fun us hu => ?_⟩
      show us.length = (transp pss).length
      rw [ht, List.length_map, List.length_range]
      exact repLL_lt k2 hn us hu
    · show (transp pss).length ≤ _
      rw [ht, List.length_map, List.length_range]
      exact hnz
  · cases e2
theorem izipS (hg : Gl X x) (hm : X.mg x = none) (hv : bootBuiltins x = some (.type "zip")) (hn : x ≠ "__name__") (hd : (x == ("__debug__" : Str)) = false) (ha : PE X a (tE X.K c i)) :
    PI X tg (.Call (.Name x p) [.Starred a sp] [] pos) (tI X.K c (.itr .zipn (.star i .nil))) :=
  pi_wk (pi_zs hg hm hv hn hd ha) fun σ H R h => by
    obtain ⟨rs, st, ρ, w, st', g, er, e, q⟩ := h
    simp only [evI, evL, Option.bind_eq_some_iff, Option.map_eq_some_iff] at e
    obtain ⟨⟨y, s1⟩, ⟨⟨z, s2⟩, e1, xs, e0, ⟨z2, s3⟩, e2, e3⟩, w', e4, e5⟩ := e
    cases e2; cases e3; cases e5
    refine ⟨rs, st, ρ, z, _, g, er, e1, fun u H1 rs1 x1 g1 r1 => ?_⟩
    obtain ⟨ad, vs, rfl, hs, rl⟩ := r1.items g1 e0
    simp only [wkEv, List.append_nil] at e4
    exact ⟨ad, vs, rfl, hs.symm, zipn_src g1 rl e4 fun J hJ => q J H1 rs1 x1 g1 hJ⟩
theorem izipN (hg : Gl X x) (hm : X.mg x = none) (hv : bootBuiltins x = some (.type "zip")) (hn : x ≠ "__name__") (hd : (x == ("__debug__" : Str)) = false) (ha : PA X (a :: es) (tA X.K c i)) (hs : isStar a = false) :
    PI X tg (.Call (.Name x p) (a :: es) [] pos) (tI X.K c (.itr .zipn i)) :=
  pi_wk (pi_zn hg hm hv hn hd ha hs) fun σ H R h => by
    obtain ⟨rs, st, ρ, w, st', g, er, e, q⟩ := h
    simp only [evI, Option.bind_eq_some_iff, Option.map_eq_some_iff] at e
    obtain ⟨⟨y, s1⟩, e1, w', e4, e5⟩ := e
    cases e5
    refine ⟨rs, st, ρ, y, s1, g, er, e1, fun us H1 rs1 x1 g1 r1 => ?_⟩
    simp only [wkEv] at e4
    exact zipn_src g1 r1 e4 fun J hJ => q J H1 rs1 x1 g1 hJ
end
end Ev

/-! from the text to the IR, and that the IR tells the text's meaning -/
namespace Ev
open PySem L2
structure Cc where
  N : List Str
  sc : Scope
  fn : Str → Bool
  fs : List (Str × List Str)
  free : List Str
  mu : List Str
  mr : Bool
def slotOf (N : List Str) (x : Str) : Option Nat := (N.findIdx? fun y => decide (y = x)).bind fun i => if N[i]? = some x then some i else none
theorem slot_at {N : List Str} {x : Str} {i : Nat} (h : slotOf N x = some i) : N[i]? = some x := by
  unfold slotOf at h
  obtain ⟨j, _, h⟩ := Option.bind_eq_some_iff.mp h
  split at h
  · rename_i hh; cases h; exact hh
  · cases h
def visB (sc : Scope) (x : Str) : Bool := match sc.names.lookup x with
  | some .local => true
  | some .cell => true
  | some .free => true
  | _ => false
theorem vis_of {sc : Scope} {x : Str} (h : visB sc x = true) : Vis sc x := by
  unfold visB at h
  split at h
  · exact .inl (by assumption)
  · exact .inr (.inl (by assumption))
  · exact .inr (.inr (by assumption))
  · cases h
def glB (sc : Scope) (x : Str) : Bool := decide (sc.names.lookup x = some .globalImplicit)
def isDebug (x : Str) : Bool := x == ("__debug__" : Str) || x == ("__classdict__" : Str)
/-- where a name may be stored -/
def storeB (cc : Cc) (x : Str) : Bool := match cc.sc.names.lookup x with
  | some .local => true
  | some .cell => cc.fn x
  | _ => false
def opOf : Operator → Option BOp
  | .Add => some .add | .Sub => some .sub | .Mult => some .mul | .FloorDiv => some .fdiv | .Mod => some .mod | .Pow => some .pow
  | _ => none
theorem op_of {o : Operator} {b : BOp} (h : opOf o = some b) : opE b = o := by cases o <;> simp [opOf] at h <;> subst h <;> rfl
def isNone : Expr → Bool
  | .Constant .none _ _ => true
  | _ => false
def cmpOf (o : CmpOp) (e : Expr) : Option COp := match o with
  | .Eq => some .eq | .NotEq => some .ne | .Lt => some .lt | .LtE => some .le | .Gt => some .gt | .GtE => some .ge
  | .Is => some .isN | .IsNot => some .notN | .In => some .inn | .NotIn => some .nin
theorem cmp_of {o : CmpOp} {e : Expr} {b : COp} (h : cmpOf o e = some b) : opC b = o := by cases o <;> simp [cmpOf] at h <;> subst h <;> rfl
def isSetE : Expr → Bool
  | .Set _ _ _ => true
  | _ => false
def cstOf : Const → Option PV
  | .none => some .non
  | .bool b => some (.bl b)
  | .int i => some (.int i)
  | .str x => some (.str x)
  | _ => none
/-- an argument list -/
def argsC (f : Expr → E) : List Expr → E
  | [] => .nil
  | .Starred e _ :: r => .star (f e) (argsC f r)
  | e :: r => .cons (f e) (argsC f r)
def noStar (es : List Expr) : Bool := es.all fun e => !isStar e
def boolC (op : BoolOp) (f : Expr → E) : List Expr → E
  | [] => .bad
  | [a] => f a
  | a :: b :: r => match op with
    | .And => .and (f a) (boolC op f (b :: r))
    | .Or => .or (f a) (boolC op f (b :: r))
def optC (f : Expr → E) : Option Expr → E
  | none => .nil
  | some e => .cons (f e) .nil
def isM1 : Expr → Bool
  | .UnaryOp .USub (.Constant (.int 1) _ _) _ => true
  | _ => false
def subC (f : Expr → E) (m : Bool) (a : Expr) : Expr → E
  | .Slice lo hi none _ => .slice m (f a) (optC f lo) (optC f hi)
  | .Slice none none (some s) _ => if isM1 s then .revS m (f a) else .bad
  | .Slice _ _ _ _ => .bad
  | i => .sub (f a) (f i)
def freeB (cc : Cc) (x : Str) : Bool := glB cc.sc x && decide (x ∈ cc.free) && !isDebug x && decide (x ≠ ("__name__" : Str))
def tyOf (cc : Cc) : Expr → Option Ty
  | .Name x _ => if x = "int" then some .int else if x = "bool" then some .bool else if x = "str" then some .str else if x = "list" then some .list else if x = "tuple" then some .tuple else if x = "dict" then some .dict else none
  | _ => none
def tyB (cc : Cc) (t : Ty) : Bool := freeB cc (strOf (tyS t))
def isiC (cc : Cc) (i : E) : Expr → E
  | .Name x p => match tyOf cc (.Name x p) with
    | some t => if tyB cc t then .isi i [t] else .bad
    | none => .bad
  | .Tuple es _ _ => let ts := es.filterMap (tyOf cc)
    if ts.length = es.length ∧ ts.length ≤ 10 ∧ ts.all (tyB cc) then .isi i ts else .bad
  | _ => .bad
def biOf (x : Str) (n : Nat) : Option BI :=
  if x = "len" then some .len else if x = "abs" then some .abs else if x = "int" then some .int1 else if x = "list" then some .list1 else if x = "tuple" then some .tuple1 else if x = "sorted" then some .sorted1 else if x = "all" then some .all1 else if x = "any" then some .any1 else if x = "sum" then some .sum1
  else if x = "max" then (if n = 1 then some .max1 else some .max2) else if x = "min" then (if n = 1 then some .min1 else some .min2) else none
/-- a range's walk -/
def rgC (cc : Cc) (f : Expr → E) : Expr → Option E
  | .Call (.Name x _) args kws _ => if x = "range" ∧ freeB cc x ∧ noStar args ∧ kws.isEmpty then
      (match args with
        | [a] => some (.itr .range1 (.cons (f a) .nil))
        | [a, b] => some (.itr .range2 (.cons (f a) (.cons (f b) .nil)))
        | _ => none) else none
  | _ => none
/-- what a for walks -/
def isTupE : Expr → Bool
  | .Tuple _ _ _ => true
  | _ => false
def iterC (cc : Cc) (f : Expr → E) (tg e : Expr) : E := match rgC cc f e with
  | some i => i
  | none => match e with
    | .Call (.Name x _) args kws _ => if freeB cc x ∧ noStar args ∧ kws.isEmpty then
        (match args with
          | [a] => if x = "enumerate" ∧ isTupE tg then .itr .enum (.cons (f a) .nil) else if x = "reversed" then .itr .rev (.cons (f a) .nil) else .itr .seq (.cons (f e) .nil)
          | [a, b] => if x = "zip" ∧ isTupE tg then .itr .zip2 (.cons (f a) (.cons (f b) .nil)) else .itr .seq (.cons (f e) .nil)
          | a :: r => if x = "zip" then .itr .zipn (argsC f (a :: r)) else .itr .seq (.cons (f e) .nil)
          | [] => .itr .seq (.cons (f e) .nil)) else
        (match args with
          | [.Starred a _] => if x = "zip" ∧ freeB cc x ∧ kws.isEmpty then .itr .zipn (.star (f a) .nil) else .itr .seq (.cons (f e) .nil)
          | a :: r => if x = "zip" ∧ freeB cc x ∧ kws.isEmpty ∧ !isStar a then .itr .zipn (argsC f (a :: r)) else .itr .seq (.cons (f e) .nil)
          | [] => .itr .seq (.cons (f e) .nil))
    | e => .itr .seq (.cons (f e) .nil)
/-- set(a), written so -/
def setArg (cc : Cc) : Expr → Option Expr
  | .Call (.Name x _) [a] [] _ => if x = "set" ∧ freeB cc x ∧ !isStar a then some a else none
  | _ => none
def builtinC (cc : Cc) (f : Expr → E) (m : Bool) (x : Str) (args : List Expr) : E :=
  match args with
  | [] => .bad
  | a :: r => if x = "isinstance" then (match r with
      | [t] => isiC cc (f a) t
      | _ => .bad)
    else match (if r = [] then setArg cc a else none) with
      | some b => if x = "sorted" then .bi m .sortedSet (.cons (f b) .nil) else if x = "len" then .bi m .lenSet (.cons (f b) .nil) else .bad
      | none => match (if r = [] then rgC cc f a else none) with
        | some it => if x = "list" then .listI m it else if x = "tuple" then .tupI it else .bad
        | none => match biOf x (a :: r).length with
          | some b => .bi m b (argsC f (a :: r))
          | none => .bad
def kwC (f : Expr → E) : List Keyword → E
  | [] => .nil
  | ⟨_, e, _⟩ :: r => .cons (f e) (kwC f r)
def fnIdx (x : Str) : List (Str × List Str) → Nat → Option (Nat × List Str)
  | [], _ => none
  | (y, ps) :: r, i => if y = x then some (i, ps) else fnIdx x r (i + 1)
def methC (f : Expr → E) (x : Str) (px : Pos) (meth : Str) (apos pos : Pos) (args : List Expr) : E :=
  if apos.endLine == pos.line && noStar args then
    (match args with
      | [] => if meth = "pop" then .pop0 (f (.Name x px)) else .bad
      | [a] => if meth = "append" then .append (f (.Name x px)) (f a) else if meth = "extend" then .extend (f (.Name x px)) (f a) else if meth = "pop" then .pop (f (.Name x px)) (f a) else if meth = "count" then .bi false .count (.cons (f (.Name x px)) (.cons (f a) .nil)) else .bad
      | _ => .bad) else .bad
def isMu (cc : Cc) : Expr → Bool
  | .Name x _ => decide (x ∈ cc.mu)
  | _ => false
def callC (cc : Cc) (f : Expr → E) (m : Bool) (func : Expr) (args : List Expr) (kws : List Keyword) (pos : Pos) : E := match func with
  | .Name x _ => if noStar args then
      (match fnIdx x cc.fs 0 with
        | some (i, ps) => if glB cc.sc x && !isDebug x then
            (if kws.isEmpty then (if args.any (isMu cc) then .callz i (argsC f args) else .call i (argsC f args))
             else if kws.all (·.arg.isSome) && !ps.isEmpty && decide (args.length ≤ ps.length) && decide ((ps.take args.length ++ kwNames kws).Nodup) && (kwNames kws).all (fun k => decide (k ∈ ps)) then .callk i (argsC f args) (kwC f kws) args.length ps (kwNames kws) else .bad)
          else .bad
        | none => if freeB cc x && kws.isEmpty then builtinC cc f m x args else .bad) else .bad
  | .Attribute (.Name x px) meth apos => if kws.isEmpty then methC f x px meth apos pos args else .bad
  | _ => .bad
/-! targets -/
def namesC (cc : Cc) : List Expr → Option (List Nat)
  | [] => some []
  | .Name x _ :: r => if storeB cc x then (slotOf cc.N x).bind fun i => (namesC cc r).map (i :: ·) else none
  | _ => none
def tgC (cc : Cc) : Expr → Option Tg
  | .Name x _ => if storeB cc x then (slotOf cc.N x).map .one else none
  | .Tuple es _ _ => (namesC cc es).map .many
  | _ => none
def ownOf (N : List Str) (scope : Scope) : List (Str × Nat) := scope.names.filterMap fun y => match y.2 with
  | .local => (slotOf N y.1).map fun i => (y.1, i)
  | .cell => (slotOf N y.1).map fun i => (y.1, i)
  | _ => none
def blkCc (cc : Cc) (scope : Scope) : Cc := { cc with sc := relS scope cc.sc, fn := fun x => scope.names.lookup x == some .cell }
def ifC (f : Expr → E) : List Expr → E
  | [] => .cst (.bl true)
  | [q] => f q
  | _ => .bad
def subN (a b : List Nat) : Bool := a.all fun i => decide (i ∈ b)
def lcC (F : Cc → Bool → Expr → E) (cc : Cc) (m : Bool) (elt : Expr) (gens : List Comprehension) (scope : Scope) : E :=
  let own := ownOf cc.N scope
  let cb := blkCc cc scope
  if blkC cc.N cc.sc scope own then
    (match gens with
      | [⟨tg, it, ifs, as⟩] => if as = 0 ∧ !isSetE it ∧ ifs.length ≤ 1 then
          (match tgC cb tg with
            | some t => if subN (tgs t) (own.map (·.2)) then .lc m (iterC cc (F cc false) tg it) t (own.map (·.2)) (ifC (F cb false) ifs) (F cb false elt) else .bad
            | none => .bad) else .bad
      | [⟨tg, it, [], as⟩, ⟨tg1, it1, ifs1, as1⟩] => if as = 0 ∧ as1 = 0 ∧ !isSetE it ∧ !isSetE it1 ∧ ifs1.length ≤ 1 then
          (match tgC cb tg, tgC cb tg1 with
            | some t, some t1 => if subN (tgs t) (own.map (·.2)) && subN (tgs t1) (own.map (·.2)) then .lc2 m (iterC cc (F cc false) tg it) t (own.map (·.2)) (iterC cb (F cb false) tg1 it1) t1 (tgs t1) (ifC (F cb false) ifs1) (F cb false elt) else .bad
            | _, _ => .bad) else .bad
      | _ => .bad) else .bad
def compE : Nat → Cc → Bool → Expr → E
  | 0, _, _, _ => .bad
  | n + 1, cc, m, e => match e with
    | .Name x _ => match slotOf cc.N x with
      | some i => if visB cc.sc x && !isDebug x then .var i else .bad
      | none => .bad
    | .Constant k _ _ => match cstOf k with
      | some v => .cst v
      | none => .bad
    | .BinOp a op b _ => match opOf op with
      | some o => .bin m o (compE n cc false a) (compE n cc false b)
      | none => .bad
    | .UnaryOp .Not a _ => .not (compE n cc false a)
    | .UnaryOp .USub a _ => .neg (compE n cc false a)
    | .BoolOp op es _ => boolC op (compE n cc m) es
    | .Compare a [o] [b] _ => if isSetE b then .bad else match cmpOf o b with
      | some k => .cmp k (compE n cc false a) (compE n cc false b)
      | none => .bad
    | .Compare a [o, o'] [b, d] _ => if isSetE b || isSetE d then .bad else match cmpOf o b, cmpOf o' d with
      | some k, some k' => .chain k k' (compE n cc false a) (compE n cc false b) (compE n cc false d)
      | _, _ => .bad
    | .IfExp q a b _ => .ite (compE n cc false q) (compE n cc m a) (compE n cc m b)
    | .Tuple es _ _ => .tup (argsC (compE n cc false) es)
    | .List es _ => .lst m (argsC (compE n cc false) es)
    | .Subscript a i _ => subC (compE n cc false) m a i
    | .ListComp elt gens scope _ => lcC (compE n) cc m elt gens scope
    | .Call f args kws pos => callC cc (compE n cc false) m f args kws pos
    | _ => .bad
end Ev

/-! the IR tells the text's meaning: expressions -/
namespace Ev
open PySem L2
structure Ok (X : Cx) (cc : Cc) (c : Cf) : Prop where
  N : X.N = cc.N
  nd : X.N.Nodup
  sc : X.env.scope = cc.sc
  fn : X.fn = cc.fn
  calm : X.calm = true
  units : X.A.units + 70 < cLine
  free : ∀ x ∈ cc.free, X.mg x = none
  fs : ∀ (i : Nat) (x : Str) (ps : List Str), cc.fs[i]? = some (x, ps) → CallOk X c i x ps
structure Snd (X : Cx) (c : Cf) (e : Expr) (i : E) : Prop where
  pe : PE X e (tE X.K c i)
  pt : PT X e (tT X.K c i)
section
variable {X : Cx} {cc : Cc} {c : Cf} {e a b : Expr} {es : List Expr} {i j k : E} {pos p p2 : Pos} {x : Str}
theorem pe_bad : PE X e (tE X.K c .bad) := ⟨fun _ _ _ _ _ _ h => by
  obtain ⟨rs, st, ρ, v, st', g, er, ev, q⟩ := h
  simp [evE] at ev⟩
theorem pt_bad : PT X e (tT X.K c .bad) := ⟨fun _ _ _ _ _ _ h => by
  obtain ⟨rs, st, ρ, v, st', k, g, er, ev, e2, q⟩ := h
  simp [evE] at ev⟩
theorem snd_bad : Snd X c e .bad := ⟨pe_bad, pt_bad⟩
def PlainT : Expr → Bool
  | .UnaryOp .Not _ _ => false
  | .BoolOp _ _ _ => false
  | .IfExp _ _ _ _ => false
  | .Compare _ _ _ _ => false
  | _ => true
theorem plainT {env : PySem.Env} (h : PlainT e = true) : ∀ whole, isTrue e env whole = (do let v ← whole; standAt e.pos; holding [v] (truthy v)) := by
  intro whole
  cases e <;> first | rfl | (simp [PlainT] at h; done) | skip
  rename_i op _ _
  cases op <;> first | rfl | (simp [PlainT] at h; done)
theorem snd_of (h : PE X e (tE X.K c i)) (hp : PlainT e = true) : Snd X c e i := ⟨h, ttruth h (plainT hp)⟩
theorem Ok.gl (o : Ok X cc c) (h : glB cc.sc x = true) : Gl X x := by
  have h := of_decide_eq_true h
  show X.env.scope.names.lookup x = _
  rw [o.sc]; exact h
theorem Ok.vis (o : Ok X cc c) (h : visB cc.sc x = true) : Vis X.env.scope x := by rw [o.sc]; exact vis_of h
theorem Ok.at_ (o : Ok X cc c) {n : Nat} (h : slotOf cc.N x = some n) : X.N[n]? = some x := by rw [o.N]; exact slot_at h
theorem Ok.store (o : Ok X cc c) (h : storeB cc x = true) : Loc X.env.scope x ∧ (X.fn x = true ∨ X.env.scope.names.lookup x = some .local) := by
  unfold storeB at h
  rw [o.sc, o.fn]
  split at h
  · exact ⟨.inl (by assumption), .inr (by assumption)⟩
  · exact ⟨.inr (by assumption), .inl h⟩
  · cases h
structure FreeOk (X : Cx) (x : Str) : Prop where
  gl : Gl X x
  mg : X.mg x = none
  dbg : (x == ("__debug__" : Str)) = false
  nm : x ≠ "__name__"
theorem Ok.freeOk (o : Ok X cc c) (h : freeB cc x = true) : FreeOk X x := by
  simp only [freeB, isDebug, Bool.and_eq_true, Bool.not_eq_true', Bool.or_eq_false_iff, decide_eq_true_eq] at h
  exact ⟨o.gl h.1.1.1, o.free x h.1.1.2, h.1.2.1, h.2⟩
theorem ssname {n : Nat} (o : Ok X cc c) (h : slotOf cc.N x = some n) (hv : visB cc.sc x = true) (hd : isDebug x = false) : Snd X c (.Name x pos) (.var n) := by
  simp only [isDebug, Bool.or_eq_false_iff] at hd
  exact snd_of (xvar (o.at_ h) (o.vis hv) hd.1 hd.2) rfl
theorem sscst {q : Const} {v : PV} {n : Nat} (h : cstOf q = some v) : Snd X c (.Constant q n pos) (.cst v) := by
  refine snd_of ?_ rfl
  cases q <;> simp [cstOf] at h <;> subst h
  · exact xcst pe_non fun _ _ => .non
  · exact xcst pe_bl fun _ _ => .bl _
  · exact xcst pe_int fun _ _ => .int _
  · exact xcst pe_str fun _ _ => .str _
theorem notMarks {o : CmpOp} (h : isSetE b = false) : behindInMarks o b = false := by
  cases b <;> first | rfl | (simp [isSetE] at h; done)
theorem ssbool {f : Expr → E} {op : BoolOp} (hf : ∀ e, Snd X c e (f e)) : ∀ es : List Expr, PE X (.BoolOp op es pos) (tE X.K c (boolC op f es)) ∧ PW X (.BoolOp op es pos) (tT X.K c (boolC op f es))
  | [] => ⟨pe_bad, ⟨fun _ _ _ _ _ _ _ h => by
      obtain ⟨rs, st, ρ, v, st', k, g, er, ev, e2, q⟩ := h
      simp [boolC, evE] at ev⟩⟩
  | [a] => by
    cases op
    · exact ⟨pe_one (hf a).pe, pw_and1 (hf a).pt⟩
    · exact ⟨pe_one (hf a).pe, pw_or1 (hf a).pt⟩
  | a :: b :: r => by
    have ih := ssbool (op := op) hf (b :: r)
    cases op
    · exact ⟨one_and (hf a).pe ih.1, tand (hf a).pt ih.2⟩
    · exact ⟨one_or (hf a).pe ih.1, tor (hf a).pt ih.2⟩
theorem ssargs {f : Expr → E} (hf : ∀ e, PE X e (tE X.K c (f e))) : ∀ es : List Expr, PA X es (tA X.K c (argsC f es))
  | [] => anil
  | e :: r => by
    have ih := ssargs hf r
    cases e <;> first | exact acons (hf _) ih rfl | exact astar (hf _) ih
theorem ite_pt {q : E} {d : Expr} (hq : PT X d (tT X.K c q)) (ha : PT X a (tT X.K c i)) (hb : PT X b (tT X.K c j)) : PT X (.IfExp d a b pos) (tT X.K c (.ite q i j)) := by
  refine ⟨fun pins s σ H Q I h => ?_⟩
  obtain ⟨rs, st, ρ, v, st', k, g, er, ev, e2, qq⟩ := h
  simp only [evE, Option.bind_eq_some_iff] at ev
  obtain ⟨⟨y, s1⟩, e1, k1, e3, e4⟩ := ev
  show wpAny _ _ (do if ← isTrue d X.env (eval d X.env) then isTrue a X.env (eval a X.env) else isTrue b X.env (eval b X.env)) _ _ s
  have h1 : tT X.K c q σ H (fun bb H1 => bb = k1 ∧ ∃ rs1, Ext rs H rs1 H1 ∧ Good X.K rs1 s1 H1) := ⟨rs, st, ρ, y, s1, k1, g, er, e1, e3, fun H1 rs1 x1 g1 => ⟨rfl, rs1, x1, g1⟩⟩
  refine wpAny_bind (thn (hq.run pins s σ H _ I h1) fun bb s2 ⟨H2, I2, hbb, rs2, x2, g2⟩ => ?_)
  subst hbb
  cases bb with
  | true =>
    simp only [if_true] at e4 ⊢
    exact ha.run pins s2 σ H2 Q I2 ⟨rs2, s1, ρ, v, st', k, g2, er.ext x2, e4, e2, fun H3 rs3 x3 g3 => qq H3 rs3 (x2.trans x3) g3⟩
  | false =>
    simp only [Bool.false_eq_true, if_false] at e4 ⊢
    exact hb.run pins s2 σ H2 Q I2 ⟨rs2, s1, ρ, v, st', k, g2, er.ext x2, e4, e2, fun H3 rs3 x3 g3 => qq H3 rs3 (x2.trans x3) g3⟩
theorem po_of {f : Expr → E} (hf : ∀ e, PE X e (tE X.K c (f e))) : ∀ o : Option Expr, PO X o (tO X.K c (optC f o))
  | none => onone
  | some e => osome (hf e)
theorem sssub {f : Expr → E} {m : Bool} (hf : ∀ e, PE X e (tE X.K c (f e))) : PE X (.Subscript a b pos) (tE X.K c (subC f m a b)) := by
  unfold subC
  split
  · exact xslice (hf a) (po_of hf _) (po_of hf _)
  · split
    · rename_i s _ h
      unfold isM1 at h
      split at h
      · exact xrev (hf a)
      · cases h
    · exact pe_bad
  · exact pe_bad
  · rename_i h1 h2 h3
    refine xsub (hf a) (hf b) ?_
    cases b <;> first | rfl | (exact absurd rfl (h3 _ _ _ _))
theorem ty_of {t : Ty} (h : tyOf cc (.Name x p) = some t) : x = strOf (tyS t) := by
  simp only [tyOf] at h
  split at h
  · cases h; subst x; decide +kernel
  split at h
  · cases h; subst x; decide +kernel
  split at h
  · cases h; subst x; decide +kernel
  split at h
  · cases h; subst x; decide +kernel
  split at h
  · cases h; subst x; decide +kernel
  split at h
  · cases h; subst x; decide +kernel
  cases h
theorem tys_of : ∀ {es : List Expr}, (es.filterMap (tyOf cc)).length = es.length → ∃ ps, es = tyNames ps (es.filterMap (tyOf cc)) ∧ (es.filterMap (tyOf cc)).length = ps.length
  | [], _ => ⟨[], rfl, rfl⟩
  | e :: r, h => by
    cases ht : tyOf cc e with
    | none =>
      rw [List.filterMap_cons, ht] at h
      have := List.length_filterMap_le (tyOf cc) r
      simp at h; omega
    | some t =>
      rw [List.filterMap_cons, ht] at h ⊢
      simp only [List.length_cons, Nat.add_right_cancel_iff] at h
      obtain ⟨ps, h1, h2⟩ := tys_of h
      cases e <;> try (simp [tyOf] at ht; done)
      rename_i y q
      refine ⟨q :: ps, ?_, by simp [h2]⟩
      rw [ty_of ht]
      show _ = Expr.Name (strOf (tyS t)) q :: tyNames ps _
      rw [← h1]
theorem Ok.ty (o : Ok X cc c) {t : Ty} (h : tyB cc t = true) : Gl X (strOf (tyS t)) ∧ X.mg (strOf (tyS t)) = none := ⟨(o.freeOk h).gl, (o.freeOk h).mg⟩
theorem ssisi (o : Ok X cc c) (ha : PE X a (tE X.K c i)) (hs : isStar a = false) (hx : FreeOk X "isinstance") : PE X (.Call (.Name "isinstance" p) [a, b] [] pos) (tE X.K c (isiC cc i b)) := by
  unfold isiC
  split
  · split
    · rename_i t ht
      split
      · rename_i hb
        have e := ty_of ht
        subst e
        exact xisi1 ha hs hx.gl hx.mg (by decide +kernel) hx.nm hx.dbg (o.ty hb)
      · exact pe_bad
    · exact pe_bad
  · rename_i es n q
    simp only
    split
    · rename_i h
      obtain ⟨h1, h2, h3⟩ := h
      obtain ⟨ps, e1, e2⟩ := tys_of h1
      generalize es.filterMap (tyOf cc) = ts at *
      subst e1
      exact xisiT e2 h2 ha hs hx.gl hx.mg (by decide +kernel) hx.nm hx.dbg fun t ht => o.ty (List.all_eq_true.mp h3 t ht)
    · exact pe_bad
  · exact pe_bad
theorem bi_of {n : Nat} {bb : BI} (h : biOf x n = some bb) : bb ≠ .sortedSet ∧ bb ≠ .lenSet ∧ bb ≠ .count ∧ ((∃ id, biFn bb = .builtin id ∧ bootBuiltins x = some (.builtin id)) ∨ ∃ T, biFn bb = .type T ∧ bootBuiltins x = some (.type T)) := by
  unfold biOf at h
  split at h
  · cases h; subst x; exact ⟨by simp, by simp, by simp, .inl ⟨_, rfl, by decide +kernel⟩⟩
  split at h
  · cases h; subst x; exact ⟨by simp, by simp, by simp, .inl ⟨_, rfl, by decide +kernel⟩⟩
  split at h
  · cases h; subst x; exact ⟨by simp, by simp, by simp, .inr ⟨_, rfl, by decide +kernel⟩⟩
  split at h
  · cases h; subst x; exact ⟨by simp, by simp, by simp, .inr ⟨_, rfl, by decide +kernel⟩⟩
  split at h
  · cases h; subst x; exact ⟨by simp, by simp, by simp, .inr ⟨_, rfl, by decide +kernel⟩⟩
  split at h
  · cases h; subst x; exact ⟨by simp, by simp, by simp, .inl ⟨_, rfl, by decide +kernel⟩⟩
  split at h
  · cases h; subst x; exact ⟨by simp, by simp, by simp, .inl ⟨_, rfl, by decide +kernel⟩⟩
  split at h
  · cases h; subst x; exact ⟨by simp, by simp, by simp, .inl ⟨_, rfl, by decide +kernel⟩⟩
  split at h
  · cases h; subst x; exact ⟨by simp, by simp, by simp, .inl ⟨_, rfl, by decide +kernel⟩⟩
  split at h
  · subst x
    split at h
    · cases h; exact ⟨by simp, by simp, by simp, .inl ⟨_, rfl, by decide +kernel⟩⟩
    · cases h; exact ⟨by simp, by simp, by simp, .inl ⟨_, rfl, by decide +kernel⟩⟩
  split at h
  · subst x
    split at h
    · cases h; exact ⟨by simp, by simp, by simp, .inl ⟨_, rfl, by decide +kernel⟩⟩
    · cases h; exact ⟨by simp, by simp, by simp, .inl ⟨_, rfl, by decide +kernel⟩⟩
  cases h
theorem noStar1 (h : noStar [a] = true) : isStar a = false := by simpa [noStar] using h
theorem noStar2 (h : noStar [a, b] = true) : isStar a = false ∧ isStar b = false := by simpa [noStar] using h
theorem ssrg {f : Expr → E} (o : Ok X cc c) (hf : ∀ e, PE X e (tE X.K c (f e))) (h : rgC cc f e = some i) : PRg X e (tRg X.K c i) ∧ (∀ tg, PI X tg e (tI X.K c i)) ∧ isStar e = false := by
  unfold rgC at h
  split at h
  · split at h
    · rename_i hx
      obtain ⟨h1, h2, h3, h4⟩ := hx
      subst h1
      have fo := o.freeOk h2
      rw [List.isEmpty_iff] at h4
      subst h4
      split at h
      · cases h
        exact ⟨rg1 fo.gl fo.mg (hf _) (noStar1 h3), fun tg => irange1 fo.gl fo.mg (hf _) (noStar1 h3), rfl⟩
      · cases h
        exact ⟨rg2 fo.gl fo.mg (hf _) (hf _) (noStar2 h3).1 (noStar2 h3).2, fun tg => irange2 fo.gl fo.mg (hf _) (hf _) (noStar2 h3).1 (noStar2 h3).2, rfl⟩
      · cases h
    · cases h
  · cases h
theorem isTup_ex {tg : Expr} (h : isTupE tg = true) : ∃ es n q, tg = .Tuple es n q := by
  cases tg <;> first | exact ⟨_, _, _, rfl⟩ | (simp [isTupE] at h; done)
theorem ssiter {f : Expr → E} {tg : Expr} (o : Ok X cc c) (hf : ∀ e, PE X e (tE X.K c (f e))) : PI X tg e (tI X.K c (iterC cc f tg e)) := by
  unfold iterC
  split
  · rename_i h
    exact (ssrg o hf h).2.1 tg
  · split
    · split
      · rename_i hx
        obtain ⟨h2, h3, h4⟩ := hx
        rw [List.isEmpty_iff] at h4
        subst h4
        have fo := o.freeOk h2
        split
        · split
          · rename_i he
            obtain ⟨he, ht⟩ := he
            obtain ⟨es, n, q, rfl⟩ := isTup_ex ht
            subst he
            exact ienum fo.gl fo.mg (by decide +kernel) fo.nm fo.dbg (hf _) (noStar1 h3)
          · split
            · rename_i he
              subst he
              exact irev fo.gl fo.mg (hf _) (noStar1 h3)
            · exact iseq (hf _)
        · split
          · rename_i he
            obtain ⟨he, ht⟩ := he
            obtain ⟨es, n, q, rfl⟩ := isTup_ex ht
            subst he
            exact izip fo.gl fo.mg (by decide +kernel) fo.nm fo.dbg (hf _) (hf _) (noStar2 h3).1 (noStar2 h3).2
          · exact iseq (hf _)
        · split
          · rename_i he
            subst he
            exact izipN fo.gl fo.mg (by decide +kernel) fo.nm fo.dbg (ssargs hf _) (by
              simp only [noStar, List.all_cons, Bool.and_eq_true, Bool.not_eq_true'] at h3
              exact h3.1)
          · exact iseq (hf _)
        · exact iseq (hf _)
      · split
        · split
          · rename_i he
            obtain ⟨he, h2, h4⟩ := he
            rw [List.isEmpty_iff] at h4
            subst h4
            subst he
            have fo := o.freeOk h2
            exact izipS fo.gl fo.mg (by decide +kernel) fo.nm fo.dbg (hf _)
          · exact iseq (hf _)
        · split
          · rename_i he
            obtain ⟨he, h2, h4, h5⟩ := he
            rw [List.isEmpty_iff] at h4
            subst h4
            subst he
            have fo := o.freeOk h2
            exact izipN fo.gl fo.mg (by decide +kernel) fo.nm fo.dbg (ssargs hf _) (by simpa using h5)
          · exact iseq (hf _)
        · exact iseq (hf _)
    · exact iseq (hf _)
theorem set_arg {b : Expr} (o : Ok X cc c) (h : setArg cc a = some b) : ∃ p q, a = .Call (.Name "set" p) [b] [] q ∧ FreeOk X "set" ∧ isStar b = false := by
  unfold setArg at h
  split at h
  · split at h
    · rename_i hx
      obtain ⟨h1, h2, h3⟩ := hx
      cases h
      subst h1
      exact ⟨_, _, rfl, o.freeOk h2, by simpa using h3⟩
    · cases h
  · cases h
theorem ssbuiltin {f : Expr → E} {m : Bool} (o : Ok X cc c) (hf : ∀ e, PE X e (tE X.K c (f e))) (hx : FreeOk X x) (hs : noStar es = true) : PE X (.Call (.Name x p) es [] pos) (tE X.K c (builtinC cc f m x es)) := by
  unfold builtinC
  split
  · exact pe_bad
  · rename_i a r
    have hs1 : isStar a = false ∧ noStar r = true := by simpa [noStar] using hs
    split
    · rename_i e
      subst e
      split
      · exact ssisi o (hf a) hs1.1 hx
      · exact pe_bad
    · split
      · rename_i b hb
        split at hb
        · rename_i hr
          subst hr
          obtain ⟨q1, q2, rfl, fo, hsb⟩ := set_arg o hb
          split
          · rename_i e
            subst e
            exact xsortedSet o.calm (by have := o.units; omega) (hf b) hsb hx.gl hx.mg (by decide +kernel) hx.nm hx.dbg fo.gl fo.mg (by decide +kernel) fo.nm fo.dbg
          · split
            · rename_i e
              subst e
              exact xlenSet o.calm (hf b) hsb hx.gl hx.mg (by decide +kernel) hx.nm hx.dbg fo.gl fo.mg (by decide +kernel) fo.nm fo.dbg
            · exact pe_bad
        · cases hb
      · split
        · rename_i it hit
          split at hit
          · rename_i hr
            subst hr
            obtain ⟨h1, _, h3⟩ := ssrg o hf hit
            split
            · rename_i e
              subst e
              exact xlistI o.calm hx.gl hx.mg h1 h3
            · split
              · rename_i e
                subst e
                exact xtupI o.calm hx.gl hx.mg h1 h3
              · exact pe_bad
          · cases hit
        · split
          · rename_i bb hbb
            obtain ⟨n1, n2, n3, h⟩ := bi_of hbb
            rcases h with ⟨id, k1, k2⟩ | ⟨T, k1, k2⟩
            · exact xbi k1 o.calm o.units n1 n2 n3 hx.gl hx.mg k2 (ssargs hf (a :: r)) hx.nm hx.dbg hs1.1 hs1.2
            · exact xbiT k1 o.calm o.units n1 n2 n3 hx.gl hx.mg k2 (ssargs hf (a :: r)) hx.nm hx.dbg hs1.1 hs1.2
          · exact pe_bad
theorem sskw {f : Expr → E} (hf : ∀ e, PE X e (tE X.K c (f e))) : ∀ kws : List Keyword, PK X kws (tA X.K c (kwC f kws))
  | [] => knil
  | ⟨_, e, _⟩ :: r => kcons (hf e) (sskw hf r)
theorem fnIdx_at : ∀ {fs : List (Str × List Str)} {k n : Nat} {ps : List Str}, fnIdx x fs k = some (n, ps) → ∃ j, n = k + j ∧ fs[j]? = some (x, ps)
  | [], _, _, _, h => by simp [fnIdx] at h
  | (y, qs) :: r, k, n, ps, h => by
    unfold fnIdx at h
    split at h
    · rename_i e
      cases h
      subst e
      exact ⟨0, rfl, rfl⟩
    · obtain ⟨j, h1, h2⟩ := fnIdx_at h
      exact ⟨j + 1, by omega, by simpa using h2⟩
theorem ssmeth {f : Expr → E} {y meth : Str} {px apos : Pos} (hf : ∀ e, PE X e (tE X.K c (f e))) : PE X (.Call (.Attribute (.Name y px) meth apos) es [] pos) (tE X.K c (methC f y px meth apos pos es)) := by
  unfold methC
  split
  · rename_i h
    simp only [Bool.and_eq_true] at h
    split
    · split
      · rename_i e
        subst e
        exact xpop0 (hf _) h.1
      · exact pe_bad
    · have hs := noStar1 h.2
      split
      · rename_i e
        subst e
        exact xappend (hf _) (hf _) hs h.1
      · split
        · rename_i e
          subst e
          exact xextend (hf _) (hf _) hs h.1
        · split
          · rename_i e
            subst e
            exact xpop (hf _) (hf _) hs h.1
          · split
            · rename_i e
              subst e
              exact xcount (hf _) (hf _) hs h.1
            · exact pe_bad
    · exact pe_bad
  · exact pe_bad
theorem sscall {f : Expr → E} {m : Bool} {func : Expr} {kws : List Keyword} (o : Ok X cc c) (hf : ∀ e, PE X e (tE X.K c (f e))) : PE X (.Call func es kws pos) (tE X.K c (callC cc f m func es kws pos)) := by
  unfold callC
  split
  · split
    · rename_i hs
      split
      · rename_i i ps hi
        obtain ⟨j, h1, h2⟩ := fnIdx_at hi
        rw [Nat.zero_add] at h1
        subst h1
        have C := o.fs _ _ _ h2
        split
        · rename_i hg
          simp only [Bool.and_eq_true, Bool.not_eq_true', isDebug, Bool.or_eq_false_iff] at hg
          split
          · rename_i hk
            rw [List.isEmpty_iff] at hk
            subst hk
            split
            · rename_i hz
              exact xcallz C (o.gl hg.1) hg.2.1 (ssargs hf es) (by rintro rfl; simp at hz) hs
            · exact xcall C (o.gl hg.1) hg.2.1 (ssargs hf es) (by rintro rfl; rfl) hs
          · split
            · rename_i hk
              simp only [Bool.and_eq_true, decide_eq_true_eq, List.all_eq_true, Bool.not_eq_true', List.isEmpty_eq_false_iff] at hk
              exact xcallk C (o.gl hg.1) hg.2.1 (ssargs hf es) (by rintro rfl; rfl) hs (sskw hf kws) (List.all_eq_true.mpr hk.1.1.1.1) hk.1.1.1.2 hk.1.1.2 hk.1.2 hk.2
            · exact pe_bad
        · exact pe_bad
      · split
        · rename_i hg
          simp only [Bool.and_eq_true] at hg
          have hk := hg.2
          rw [List.isEmpty_iff] at hk
          subst hk
          exact ssbuiltin o hf (o.freeOk hg.1) hs
        · exact pe_bad
    · exact pe_bad
  · split
    · rename_i hk
      rw [List.isEmpty_iff] at hk
      subst hk
      exact ssmeth hf
    · exact pe_bad
  · exact pe_bad
/-! targets -/
theorem names_pgs (o : Ok X cc c) : ∀ {es : List Expr} {is : List Nat}, namesC cc es = some is → PGs X es (gNames is) ∧ (assignEach es X.env).length = is.length ∧ (assignEach es X.env).findIdx? (·.1) = none
  | [], is, h => by
    simp [namesC] at h
    subst h
    exact ⟨pgs_nil, rfl, rfl⟩
  | e :: r, is, h => by
    unfold namesC at h
    split at h
    · rename_i q
      cases q
    · split at h
      · rename_i hx
        obtain ⟨n, hn, h⟩ := Option.bind_eq_some_iff.mp h
        obtain ⟨js, hj, rfl⟩ := Option.map_eq_some_iff.mp h
        rename_i heq _
        cases heq
        obtain ⟨h1, h2, h3⟩ := names_pgs o hj
        obtain ⟨l, fl⟩ := o.store hx
        refine ⟨pgs_cons (pg_name o.nd (o.at_ hn) l fl) h1 rfl, ?_, ?_⟩
        · show (assignEach r X.env).length + 1 = js.length + 1
          rw [h2]
        · show List.findIdx? (·.1) ((false, _) :: assignEach r X.env) = none
          rw [List.findIdx?_cons, h3]
          rfl
      · cases h
    · cases h
theorem tg_ok {tg : Expr} {t : Tg} (o : Ok X cc c) (h : tgC cc tg = some t) : PG X tg (rawG X.K t) := by
  unfold tgC at h
  split at h
  · split at h
    · rename_i hx
      obtain ⟨n, hn, rfl⟩ := Option.map_eq_some_iff.mp h
      obtain ⟨l, fl⟩ := o.store hx
      exact pg_name o.nd (o.at_ hn) l fl
    · cases h
  · obtain ⟨is, hi, rfl⟩ := Option.map_eq_some_iff.mp h
    obtain ⟨h1, h2, h3⟩ := names_pgs o hi
    exact pg_tup o.calm h1 h2 h3
  · cases h
/-! comprehensions -/
theorem Ok.blk (o : Ok X cc c) (s : Shared) (H : Hp) (scope : Scope) (C : Addr) (cl : List (Str × Addr)) (fp : List Addr) : Ok (X.blk s H scope (compEnvC scope cl C X.env) fp) (blkCc cc scope) c :=
  ⟨o.N, o.nd, by show relS scope X.env.scope = relS scope cc.sc; rw [o.sc], rfl, o.calm, o.units, o.free, fun i x ps h => ⟨(o.fs i x ps h).ex, (o.fs i x ps h).len⟩⟩
theorem notSet (h : isSetE a = false) (env : PySem.Env) : ∀ x, foldedSetIterable a env x = pure x := by
  intro x
  cases a <;> first | rfl | (simp [isSetE] at h; done)
def ttOf (K : PySem.W.Frag) (c : Cf) (f : Expr → E) (ifs : List Expr) : TT := match ifs with | [] => tYes | _ => tT K c (ifC f ifs)
theorem ifs_ok {Y : Cx} {f : Expr → E} {ifs : List Expr} (hf : ∀ e, Snd Y c e (f e)) (h : ifs.length ≤ 1) : PTs Y ifs (ttOf Y.K c f ifs) := by
  match ifs, h with
  | [], _ => exact pts_nil
  | [q], _ => exact pts_one (hf q).pt
theorem tt_ok {K : PySem.W.Frag} {f : Expr → E} {ifs : List Expr} (h : ifs.length ≤ 1) : TTok K c (ttOf K c f ifs) (ifC f ifs) := by
  match ifs, h with
  | [], _ => exact tt_Y
  | [q], _ => exact tt_T _
theorem sub_of {a b : List Nat} (h : subN a b = true) : ∀ i ∈ a, i ∈ b := fun i hi => by
  have := List.all_eq_true.mp h i hi
  simpa using this
/-- what a comprehension's compilation tells -/
theorem sslc {F : Cc → Bool → Expr → E} {m : Bool} {elt : Expr} {gens : List Comprehension} {scope : Scope} (o : Ok X cc c) (hF : ∀ (Y : Cx) (cd : Cc) (m : Bool) (e : Expr), Ok Y cd c → Snd Y c e (F cd m e)) : PE X (.ListComp elt gens scope pos) (tE X.K c (lcC F cc m elt gens scope)) := by
  unfold lcC
  simp only
  split
  · rename_i hb
    have ok : BlkOk X.N X.env.scope scope (ownOf cc.N scope) := by rw [o.N, o.sc]; exact blkOk_by hb
    split
    · rename_i tg it ifs as
      split
      · rename_i hc
        obtain ⟨has, hset, hif⟩ := hc
        subst has
        split
        · rename_i t ht
          split
          · rename_i hown
            refine pe_wk (pe_lc (g := rawG X.K t) (tt := ttOf X.K c (F (blkCc cc scope) false) ifs) (te := tE X.K c (F (blkCc cc scope) false elt)) o.calm o.nd (ssiter o fun e => (hF X cc false e o).pe) ok (fun s H C cl fp => tg_ok (o.blk s H scope C cl fp) ht)
              (fun s H C cl fp => ifs_ok (fun e => hF _ _ false e (o.blk s H scope C cl fp)) hif) (fun s H C cl fp => (hF _ _ false elt (o.blk s H scope C cl fp)).pe) (notSet (by simpa using hset) _)) fun σ H Q h => ?_
            exact lc_ok (tt := ttOf X.K c _ ifs) (tt_ok hif) (sub_of hown) h
          · exact pe_bad
        · exact pe_bad
      · exact pe_bad
    · rename_i tg it as tg1 it1 ifs1 as1
      split
      · rename_i hc
        obtain ⟨has, has1, hset, hset1, hif⟩ := hc
        subst has has1
        split
        · rename_i t t1 ht ht1
          split
          · rename_i hown
            simp only [Bool.and_eq_true] at hown
            refine pe_wk (pe_lc2 (vs1 := tgs t1) (g := rawG X.K t) (g1 := rawG X.K t1) (wi1 := tI X.K c (iterC (blkCc cc scope) (F (blkCc cc scope) false) tg1 it1)) (tt1 := ttOf X.K c (F (blkCc cc scope) false) ifs1) (te := tE X.K c (F (blkCc cc scope) false elt)) o.calm o.nd (ssiter o fun e => (hF X cc false e o).pe) ok (sub_of hown.2) (fun s H C cl fp => tg_ok (o.blk s H scope C cl fp) ht) (fun s H C cl fp => pts_nil)
              (fun s H C cl fp => ssiter (o.blk s H scope C cl fp) fun e => (hF _ _ false e (o.blk s H scope C cl fp)).pe) (fun s H C cl fp => tg_ok (o.blk s H scope C cl fp) ht1)
              (fun s H C cl fp => ifs_ok (fun e => hF _ _ false e (o.blk s H scope C cl fp)) hif) (fun s H C cl fp => (hF _ _ false elt (o.blk s H scope C cl fp)).pe) (notSet (by simpa using hset) _) (fun env x => notSet (by simpa using hset1) env x)) fun σ H Q h => ?_
            exact lc2_ok (tt := ttOf X.K c _ ifs1) (tt_ok hif) (sub_of hown.1) (fun i hi => hi) h
          · exact pe_bad
        · exact pe_bad
      · exact pe_bad
    · exact pe_bad
  · exact pe_bad
end
theorem compE_ok (c : Cf) : ∀ (n : Nat) (X : Cx) (cc : Cc) (m : Bool) (e : Expr), Ok X cc c → Snd X c e (compE n cc m e)
  | 0, _, _, _, _, _ => snd_bad
  | n + 1, X, cc, m, e, o => by
    have ih : ∀ m e, Snd X c e (compE n cc m e) := fun m e => compE_ok c n X cc m e o
    have ihp : ∀ e, PE X e (tE X.K c (compE n cc false e)) := fun e => (ih false e).pe
    have hu : X.A.units + 65 < cLine := by have := o.units; omega
    unfold compE
    split
    · split
      · rename_i i hi
        split
        · rename_i h
          simp only [Bool.and_eq_true, Bool.not_eq_true'] at h
          exact ssname o hi h.1 h.2
        · exact snd_bad
      · exact snd_bad
    · split
      · exact sscst (by assumption)
      · exact snd_bad
    · split
      · rename_i op _ _ o hop
        rw [← op_of hop]
        exact snd_of (xbin (ih _ _).pe (ih _ _).pe) rfl
      · exact snd_bad
    · exact ⟨xnot (ih _ _).pe, tnot (ih _ _).pt⟩
    · exact snd_of (xneg (ih _ _).pe) rfl
    · rename_i op es _
      have h := ssbool (pos := ‹Pos›) (op := op) (fun e => ih m e) es
      exact ⟨h.1, h.2.pt⟩
    · split
      · exact snd_bad
      · rename_i hs
        split
        · rename_i k hk
          rw [← cmp_of hk]
          have hm := notMarks (o := opC k) (by simpa using hs)
          exact ⟨xcmp hu (ih _ _).pe (ih _ _).pe hm, xcmpT hu (ih _ _).pe (ih _ _).pe hm⟩
        · exact snd_bad
    · split
      · exact snd_bad
      · rename_i hs
        simp only [Bool.or_eq_true, not_or, Bool.not_eq_true] at hs
        split
        · rename_i k k' hk hk'
          rw [← cmp_of hk, ← cmp_of hk']
          have hm : ∀ bb dd, isSetE dd = false → lastMarks [opC k, opC k'] [bb, dd] = false := fun _ _ h => notMarks (o := opC k') h
          exact ⟨xchain hu (ih _ _).pe (ih _ _).pe (ih _ _).pe (hm _ _ hs.2), xchainT hu (ih _ _).pe (ih _ _).pe (ih _ _).pe (hm _ _ hs.2)⟩
        · exact snd_bad
    · exact ⟨xite (ih _ _).pt (ih _ _).pe (ih _ _).pe, ite_pt (ih _ _).pt (ih _ _).pt (ih _ _).pt⟩
    · exact snd_of (xtup (ssargs ihp _)) rfl
    · exact snd_of (xlst (ssargs ihp _)) rfl
    · exact snd_of (sssub ihp) rfl
    · exact snd_of (sslc o fun Y cd m e oY => compE_ok c n Y cd m e oY) rfl
    · exact snd_of (sscall o ihp) rfl
    · exact snd_bad
end Ev

/-! statements: compilation, soundness -/
namespace Ev
open PySem L2
/-- depth of expressions that is read -/
def dE : Nat := 60
def swB (sc : Scope) (e : Expr) (x : Str) (p : Pos) : Bool := match e with
  | .ListComp _ _ s q => decide (sc.names.lookup x = some .local) && p.line == q.line && !(s.names.any fun (n, k) => n == x && (k == .local || k == .cell))
  | .SetComp _ _ s q => decide (sc.names.lookup x = some .local) && p.line == q.line && !(s.names.any fun (n, k) => n == x && (k == .local || k == .cell))
  | .DictComp _ _ _ s q => decide (sc.names.lookup x = some .local) && p.line == q.line && !(s.names.any fun (n, k) => n == x && (k == .local || k == .cell))
  | _ => false
def isComp : Expr → Bool
  | .ListComp _ _ _ _ => true
  | .SetComp _ _ _ _ => true
  | .DictComp _ _ _ _ _ => true
  | _ => false
/-- names of a swapped store -/
def nmOf (sc : Scope) (line : Nat) : Expr → Option Str
  | .Name id pos => if sc.names.lookup id == some .local && pos.line == line then some id else none
  | _ => none
/-- none: not supported; some none: stored as it stands -/
def swS (sc : Scope) (ts vs : List Expr) : Option (Option (List Str)) :=
  if !(ts.length == 2 || ts.length == 3) || vs.length != ts.length then some none
  else if vs.any isStar then some none
  else
    let line := (ts.head?.map (·.pos.line)).getD 0
    let names := ts.filterMap (nmOf sc line)
    if names.length != ts.length || names.eraseDups.length != names.length then some none
    else if vs.all (foldedForSure 8) then some none
    else if vs.all (constantsAlone 8) then none
    else some (some names)
def asgC (cc : Cc) (tg e : Expr) : S := match tg with
  | .Name x p => if storeB cc x then (match slotOf cc.N x with
      | some i => if swB cc.sc e x p then (match e with
          | .ListComp elt gens scope q => .asg (.one i) (lcC (compE dE) cc (decide (x ∈ cc.mu)) elt gens scope)
          | _ => .bad)
        else .asg (.one i) (compE dE cc (decide (x ∈ cc.mu)) e)
      | none => .bad) else .bad
  | .Tuple ts _ _ => (match e with
    | .Tuple vs _ _ => (match swS cc.sc ts vs with
        | some none => (match tgC cc tg with
            | some t => .asg t (compE dE cc false e)
            | none => .bad)
        | some (some _) => (match ts, vs with
            | [.Name x _, .Name y _], [a, b] => (match slotOf cc.N x, slotOf cc.N y with
                | some i, some j => if i = j then .bad else .asg (.many [i, j]) (.tup (.cons (compE dE cc (decide (x ∈ cc.mu)) a) (.cons (compE dE cc (decide (y ∈ cc.mu)) b) .nil)))
                | _, _ => .bad)
            | [.Name x _, .Name y _, .Name z _], [a, b, d] => (match slotOf cc.N x, slotOf cc.N y, slotOf cc.N z with
                | some i, some j, some k => if i = j ∨ i = k ∨ j = k then .bad else .asg (.many [i, j, k]) (.tup (.cons (compE dE cc (decide (x ∈ cc.mu)) a) (.cons (compE dE cc (decide (y ∈ cc.mu)) b) (.cons (compE dE cc (decide (z ∈ cc.mu)) d) .nil))))
                | _, _, _ => .bad)
            | _, _ => .bad)
        | none => .bad)
    | _ => (match tgC cc tg with
        | some t => .asg t (compE dE cc false e)
        | none => .bad))
  | .Subscript o i _ => if isSlice i || isComp e then .bad else .asgSub (compE dE cc false o) (compE dE cc false i) (compE dE cc false e)
  | _ => .bad
def isDoc : Expr → Bool
  | .Constant (.str _) _ _ => true
  | _ => false
def blockC (g : Stmt → S) : List Stmt → S
  | [] => .skip
  | s :: r => .seq (g s) (blockC g r)
def compS : Nat → Cc → Stmt → S
  | 0, _, _ => .bad
  | n + 1, cc, s => match s with
    | .Return (some e) _ => .ret (compE dE cc cc.mr e)
    | .Return none _ => .ret (.cst .non)
    | .Pass _ => .skip
    | .Break _ => .brk
    | .Continue _ => .cnt
    | .Expr e _ => if isDoc e then .skip else if isComp e then .bad else .exp (compE dE cc false e)
    | .Assign [tg] e _ => asgC cc tg e
    | .AugAssign (.Name x _) .Add e _ => if storeB cc x then (match slotOf cc.N x with
        | some i => .aug i .add (compE dE cc false e)
        | none => .bad) else .bad
    | .AugAssign (.Name x _) .Sub e _ => if storeB cc x then (match slotOf cc.N x with
        | some i => .aug i .sub (compE dE cc false e)
        | none => .bad) else .bad
    | .If q a b _ => .ite (compE dE cc false q) (blockC (compS n cc) a) (blockC (compS n cc) b)
    | .For tg it b [] _ => if isSetE it then .bad else (match tgC cc tg with
        | some t => .for_ (iterC cc (compE dE cc false) tg it) t (blockC (compS n cc) b)
        | none => .bad)
    | .While q b [] _ => .whl (compE dE cc false q) (blockC (compS n cc) b)
    | _ => .bad
structure OkS (X : Cx) (cc : Cc) (c : Cf) : Prop extends Ok X cc c where
  xe : X.xe = fun _ _ => False
  kind : X.env.scope.kind = .function
section
variable {X : Cx} {cc : Cc} {c : Cf} {e a b : Expr} {es : List Expr} {i j k : E} {pos p p2 : Pos} {x : Str}
theorem OkS.block (o : OkS X cc c) : X.env.blockKind = .function := by unfold Env.blockKind; rw [o.kind]; rfl
theorem sw_eq (o : OkS X cc c) (l : Nat) : swapsWith e (some (.Name x p)) l X.env = pure (swB cc.sc e x p) := by
  have hk : X.env.kindOf x = cc.sc.names.lookup x := by show X.env.scope.names.lookup x = _; rw [o.sc]
  cases e <;> first | rfl | skip
  all_goals
    unfold swapsWith swB
    simp only [o.block, hk, Expr.pos]
    congr 1
    cases h : cc.sc.names.lookup x with
    | none => simp
    | some q => cases q <;> simp
theorem sw_tup {ts : List Expr} {n : Nat} (l : Nat) : swapsWithSole [.Tuple ts n p] e l X.env = pure false := by
  cases e <;> rfl
theorem sw_sub {o d : Expr} (l : Nat) : swapsWithSole [.Subscript o d p] e l X.env = pure false := by
  cases e <;> rfl
theorem sw_none (h : isComp e = false) (l : Nat) : swapsWith e none l X.env = pure false := by
  cases e <;> first | rfl | (simp [isComp] at h; done)
theorem st_none {ts : List Expr} {n : Nat} (h : isTupE e = false) : swappedStores [.Tuple ts n p] e X.env = pure none := by
  cases e <;> first | rfl | (simp [isTupE] at h; done)
theorem st_sub {o d : Expr} : swappedStores [.Subscript o d p] e X.env = pure none := by
  cases e <;> rfl
theorem st_eq {ts vs : List Expr} {n n2 : Nat} {r : Option (List Str)} (o : OkS X cc c) (h : swS cc.sc ts vs = some r) : swappedStores [.Tuple ts n p] (.Tuple vs n2 p2) X.env = pure r := by
  rw [← o.sc] at h
  have key : swappedStores [.Tuple ts n p] (.Tuple vs n2 p2) X.env = (if (!(ts.length == 2 || ts.length == 3) || vs.length != ts.length) = true then pure none else if vs.any isStar = true then pure none else
      if ((ts.filterMap (nmOf X.env.scope ((ts.head?.map (·.pos.line)).getD 0))).length != ts.length || (ts.filterMap (nmOf X.env.scope ((ts.head?.map (·.pos.line)).getD 0))).eraseDups.length != (ts.filterMap (nmOf X.env.scope ((ts.head?.map (·.pos.line)).getD 0))).length) = true then pure none else
      if vs.all (foldedForSure 8) = true then pure none else if vs.all (constantsAlone 8) = true then (do unsupported "assign.tuple-of-constant-expressions:order-of-the-stores"; pure (some (ts.filterMap (nmOf X.env.scope ((ts.head?.map (·.pos.line)).getD 0)))))
      else pure (some (ts.filterMap (nmOf X.env.scope ((ts.head?.map (·.pos.line)).getD 0))))) := by
    unfold swappedStores
    simp only [o.block, bne_self_eq_false, Bool.or_false]
    rfl
  rw [key]
  unfold swS at h
  split at h
  · rename_i h1
    cases h
    rw [if_pos h1]
  rename_i h1
  rw [if_neg h1]
  split at h
  · rename_i h2
    cases h
    rw [if_pos h2]
  rename_i h2
  rw [if_neg h2]
  simp only at h
  split at h
  · rename_i h3
    cases h
    rw [if_pos h3]
  rename_i h3
  rw [if_neg h3]
  split at h
  · rename_i h4
    cases h
    rw [if_pos h4]
  rename_i h4
  rw [if_neg h4]
  split at h
  · cases h
  rename_i h5
  cases h
  rw [if_neg h5]
theorem nm_name {sc : Scope} {l : Nat} {z : Str} (h : nmOf sc l e = some z) : sc.names.lookup z = some .local ∧ ∃ q, e = .Name z q := by
  unfold nmOf at h
  split at h
  · split at h
    · rename_i hh
      cases h
      simp only [Bool.and_eq_true, beq_iff_eq] at hh
      exact ⟨hh.1, _, rfl⟩
    · cases h
  · cases h
/-- swapped stores: the names are the targets', all of them locals -/
theorem swS_names {sc : Scope} {ts vs : List Expr} {ns : List Str} (h : swS sc ts vs = some (some ns)) : ns.length = ts.length ∧ ns = ts.filterMap (nmOf sc ((ts.head?.map (·.pos.line)).getD 0)) ∧ vs.any isStar = false := by
  unfold swS at h
  split at h
  · cases h
  split at h
  · cases h
  rename_i h2
  simp only at h
  split at h
  · cases h
  rename_i h3
  split at h
  · cases h
  split at h
  · cases h
  cases h
  simp only [Bool.or_eq_true, bne_iff_ne, ne_eq, not_or, Decidable.not_not] at h3
  exact ⟨h3.1, rfl, by simpa using h2⟩
theorem asg_bad {s : Stmt} {t : Tg} : PS X s (tS X.K c (.asg t .bad)) := ⟨fun _ _ _ _ _ _ h => by
  obtain ⟨rs, st, ρ, f, ρ', st', g, er, e, q⟩ := h
  simp [evS, evE] at e⟩
theorem ps_no {s : Stmt} : PS X s (tS X.K c .bad) := sbad
theorem sssetlc {n : Nat} {m : Bool} {elt : Expr} {gens : List Comprehension} {scope : Scope} {py : Pos} (o : OkS X cc c) (hn : slotOf cc.N x = some n) (hl : X.env.scope.names.lookup x = some .local) (hsw : swB cc.sc (.ListComp elt gens scope p) x py = true) :
    PS X (.Assign [.Name x py] (.ListComp elt gens scope p) pos) (tS X.K c (.asg (.one n) (lcC (compE dE) cc m elt gens scope))) := by
  have hw := (sw_eq (x := x) (p := py) (e := .ListComp elt gens scope p) o pos.line).trans (by rw [hsw])
  have hF : ∀ (Y : Cx) (cd : Cc) (m : Bool) (e : Expr), Ok Y cd c → Snd Y c e (compE dE cd m e) := fun Y cd m e oY => compE_ok c dE Y cd m e oY
  have oo := o.toOk
  unfold lcC
  simp only
  split
  · rename_i hb
    have ok : BlkOk X.N X.env.scope scope (ownOf cc.N scope) := by rw [o.N, o.sc]; exact blkOk_by hb
    split
    · rename_i tg it ifs as
      split
      · rename_i hc
        obtain ⟨has, hset, hif⟩ := hc
        subst has
        split
        · rename_i t ht
          split
          · rename_i hown
            refine ps_wk (ps_setLc (g := rawG X.K t) (tt := ttOf X.K c (compE dE (blkCc cc scope) false) ifs) (te := tE X.K c (compE dE (blkCc cc scope) false elt)) o.calm o.nd (o.at_ hn) hl hw (ssiter oo fun e => (hF X cc false e oo).pe) ok (fun s H C cl fp => tg_ok (oo.blk s H scope C cl fp) ht)
              (fun s H C cl fp => ifs_ok (fun e => hF _ _ false e (oo.blk s H scope C cl fp)) hif) (fun s H C cl fp => (hF _ _ false elt (oo.blk s H scope C cl fp)).pe) (notSet (by simpa using hset) _)) fun D σ H h => ?_
            exact lc_ok (tt := ttOf X.K c _ ifs) (tt_ok hif) (sub_of hown) (asg_read h)
          · exact asg_bad
        · exact asg_bad
      · exact asg_bad
    · rename_i tg it as tg1 it1 ifs1 as1
      split
      · rename_i hc
        obtain ⟨has, has1, hset, hset1, hif⟩ := hc
        subst has has1
        split
        · rename_i t t1 ht ht1
          split
          · rename_i hown
            simp only [Bool.and_eq_true] at hown
            refine ps_wk (ps_setLc2 (vs1 := tgs t1) (g := rawG X.K t) (g1 := rawG X.K t1) (wi1 := tI X.K c (iterC (blkCc cc scope) (compE dE (blkCc cc scope) false) tg1 it1)) (tt1 := ttOf X.K c (compE dE (blkCc cc scope) false) ifs1) (te := tE X.K c (compE dE (blkCc cc scope) false elt)) o.calm o.nd (o.at_ hn) hl hw (ssiter oo fun e => (hF X cc false e oo).pe) ok (sub_of hown.2) (fun s H C cl fp => tg_ok (oo.blk s H scope C cl fp) ht) (fun s H C cl fp => pts_nil)
              (fun s H C cl fp => ssiter (oo.blk s H scope C cl fp) fun e => (hF _ _ false e (oo.blk s H scope C cl fp)).pe) (fun s H C cl fp => tg_ok (oo.blk s H scope C cl fp) ht1)
              (fun s H C cl fp => ifs_ok (fun e => hF _ _ false e (oo.blk s H scope C cl fp)) hif) (fun s H C cl fp => (hF _ _ false elt (oo.blk s H scope C cl fp)).pe) (notSet (by simpa using hset) _) (fun env x => notSet (by simpa using hset1) env x)) fun D σ H h => ?_
            exact lc2_ok (tt := ttOf X.K c _ ifs1) (tt_ok hif) (sub_of hown.1) (fun i hi => hi) (asg_read h)
          · exact asg_bad
        · exact asg_bad
      · exact asg_bad
    · exact asg_bad
  · exact asg_bad
theorem swB_local {sc : Scope} (h : swB sc e x p = true) : sc.names.lookup x = some .local := by
  cases e <;> simp [swB] at h <;> exact h.1.1
theorem cmpE_pe (o : OkS X cc c) (m : Bool) (e : Expr) : PE X e (tE X.K c (compE dE cc m e)) := (compE_ok c dE X cc m e o.toOk).pe
theorem noStar_of {a : Expr} {r : List Expr} (h : (a :: r).any isStar = false) : isStar a = false ∧ r.any isStar = false := by simpa using h
theorem ssasg (o : OkS X cc c) {tg : Expr} : PS X (.Assign [tg] e pos) (tS X.K c (asgC cc tg e)) := by
  unfold asgC
  split
  · rename_i x q
    split
    · rename_i hst
      obtain ⟨l, fl⟩ := o.store hst
      split
      · rename_i n hn
        split
        · rename_i hsw
          split
          · exact sssetlc o hn (by rw [o.sc]; exact swB_local hsw) hsw
          · exact sbad
        · rename_i hsw
          exact sset o.nd (o.at_ hn) l (cmpE_pe o _ e) ((sw_eq o pos.line).trans (by rw [Bool.not_eq_true] at hsw; rw [hsw])) fl
      · exact sbad
    · exact sbad
  · rename_i ts n q
    split
    · rename_i vs n2 q2
      split
      · rename_i hsw
        split
        · rename_i t ht
          exact sasg (cmpE_pe o _ _) (tg_ok o.toOk ht) (sw_tup _) (st_eq o hsw) rfl
        · exact sbad
      · rename_i ns hsw
        split
        · rename_i x px y py a b
          obtain ⟨h1, h2, h3⟩ := swS_names hsw
          split
          · rename_i i j hi hj
            split
            · exact sbad
            · rename_i hij
              have ex : nmOf cc.sc ((([Expr.Name x px, Expr.Name y py] : List Expr).head?.map (·.pos.line)).getD 0) (.Name x px) ≠ none := fun z => by
                rw [h2, List.filterMap_cons, z] at h1
                have := List.length_filterMap_le (nmOf cc.sc ((([Expr.Name x px, Expr.Name y py] : List Expr).head?.map (·.pos.line)).getD 0)) [Expr.Name y py]
                simp only [List.length_cons, List.length_nil] at h1 this
                omega
              obtain ⟨x', ex'⟩ := Option.ne_none_iff_exists'.mp ex
              obtain ⟨lx, _, ee⟩ := nm_name ex'
              cases ee
              have ey : nmOf cc.sc ((([Expr.Name x px, Expr.Name y py] : List Expr).head?.map (·.pos.line)).getD 0) (.Name y py) ≠ none := fun z => by
                rw [h2, List.filterMap_cons, ex', List.filterMap_cons, z] at h1
                simp at h1
              obtain ⟨y', ey'⟩ := Option.ne_none_iff_exists'.mp ey
              obtain ⟨ly, _, ee⟩ := nm_name ey'
              cases ee
              have hns : ns = [x, y] := by rw [h2, List.filterMap_cons, ex', List.filterMap_cons, ey']; rfl
              subst hns
              obtain ⟨s1, s2⟩ := noStar_of h3
              exact spar o.calm o.nd (o.at_ hi) (o.at_ hj) hij (by rw [o.sc]; exact lx) (by rw [o.sc]; exact ly) (acons (cmpE_pe o _ _) (acons (cmpE_pe o _ _) anil (noStar_of s2).1) s1) (st_eq o hsw)
          · exact sbad
        · rename_i x px y py z pz a b d
          obtain ⟨h1, h2, h3⟩ := swS_names hsw
          split
          · rename_i i j k hi hj hk
            split
            · exact sbad
            · rename_i hij
              simp only [not_or] at hij
              generalize hln : ((([Expr.Name x px, Expr.Name y py, Expr.Name z pz] : List Expr).head?.map (·.pos.line)).getD 0) = ln at h2
              have ex : nmOf cc.sc ln (.Name x px) ≠ none := fun w => by
                rw [h2, List.filterMap_cons, w] at h1
                have := List.length_filterMap_le (nmOf cc.sc ln) [Expr.Name y py, Expr.Name z pz]
                simp only [List.length_cons, List.length_nil] at h1 this
                omega
              obtain ⟨x', ex'⟩ := Option.ne_none_iff_exists'.mp ex
              obtain ⟨lx, _, ee⟩ := nm_name ex'
              cases ee
              have ey : nmOf cc.sc ln (.Name y py) ≠ none := fun w => by
                rw [h2, List.filterMap_cons, ex', List.filterMap_cons, w] at h1
                have := List.length_filterMap_le (nmOf cc.sc ln) [Expr.Name z pz]
                simp only [List.length_cons, List.length_nil] at h1 this
                omega
              obtain ⟨y', ey'⟩ := Option.ne_none_iff_exists'.mp ey
              obtain ⟨ly, _, ee⟩ := nm_name ey'
              cases ee
              have ez : nmOf cc.sc ln (.Name z pz) ≠ none := fun w => by
                rw [h2, List.filterMap_cons, ex', List.filterMap_cons, ey', List.filterMap_cons, w] at h1
                simp at h1
              obtain ⟨z', ez'⟩ := Option.ne_none_iff_exists'.mp ez
              obtain ⟨lz, _, ee⟩ := nm_name ez'
              cases ee
              have hns : ns = [x, y, z] := by rw [h2, List.filterMap_cons, ex', List.filterMap_cons, ey', List.filterMap_cons, ez']; rfl
              subst hns
              obtain ⟨s1, s2⟩ := noStar_of h3
              obtain ⟨s2, s3⟩ := noStar_of s2
              exact spar3 o.calm o.nd (o.at_ hi) (o.at_ hj) (o.at_ hk) hij.1 hij.2.1 hij.2.2 (by rw [o.sc]; exact lx) (by rw [o.sc]; exact ly) (by rw [o.sc]; exact lz) (acons (cmpE_pe o _ _) (acons (cmpE_pe o _ _) (acons (cmpE_pe o _ _) anil (noStar_of s3).1) s2) s1) (st_eq o hsw)
          · exact sbad
        · exact sbad
      · exact sbad
    · rename_i hne
      split
      · rename_i t ht
        refine sasg (cmpE_pe o _ _) (tg_ok o.toOk ht) (sw_tup _) (st_none ?_) rfl
        cases e <;> first | rfl | exact (hne _ _ _ rfl).elim
      · exact sbad
  · split
    · exact sbad
    · rename_i h
      simp only [Bool.or_eq_true, not_or, Bool.not_eq_true] at h
      exact ssub (cmpE_pe o _ _) (cmpE_pe o _ _) (cmpE_pe o _ _) h.1 (sw_sub _) st_sub
  · exact sbad
theorem ssblock {g : Stmt → S} (hg : ∀ s, PS X s (tS X.K c (g s))) : ∀ sts : List Stmt, PSs X sts (tS X.K c (blockC g sts))
  | [] => snil
  | s :: r => scons (hg s) (ssblock hg r)
theorem doc_ex (h : isDoc e = true) : ∃ z n q, e = .Constant (.str z) n q := by
  unfold isDoc at h
  split at h
  · exact ⟨_, _, _, rfl⟩
  · cases h
theorem compS_ok (o : OkS X cc c) : ∀ (n : Nat) (s : Stmt), PS X s (tS X.K c (compS n cc s))
  | 0, _ => sbad
  | n + 1, s => by
    have ih := compS_ok o n
    have hp : PassesOwn (model X.prog X.w) X.A X.env X.xe := by rw [o.xe]; exact PassesOwn.never
    unfold compS
    split
    · exact sret (cmpE_pe o _ _)
    · exact sretN
    · exact spass
    · exact sbreak
    · exact scont
    · split
      · rename_i h
        obtain ⟨z, k, q, rfl⟩ := doc_ex h
        exact sdoc
      · split
        · exact sbad
        · rename_i h
          exact sexp (cmpE_pe o _ _) (sw_none (by simpa using h) _)
    · exact ssasg o
    · split
      · rename_i hst
        obtain ⟨l, fl⟩ := o.store hst
        split
        · rename_i i hi
          exact saug (o := .add) (.inl rfl) o.nd (o.at_ hi) l (cmpE_pe o _ _) fl
        · exact sbad
      · exact sbad
    · split
      · rename_i hst
        obtain ⟨l, fl⟩ := o.store hst
        split
        · rename_i i hi
          exact saug (o := .sub) (.inr rfl) o.nd (o.at_ hi) l (cmpE_pe o _ _) fl
        · exact sbad
      · exact sbad
    · exact sif (compE_ok c dE X cc _ _ o.toOk).pt (ssblock ih _) (ssblock ih _)
    · split
      · exact sbad
      · rename_i h
        split
        · rename_i t ht
          exact sfor hp o.calm (ssiter o.toOk fun e => cmpE_pe o _ e) (tg_ok o.toOk ht) (ssblock ih _) (notSet (by simpa using h) _)
        · exact sbad
    · exact swhile hp (compE_ok c dE X cc _ _ o.toOk).pt (ssblock ih _)
    · exact sbad
end
end Ev

/-! how arguments bind: plain parameters alone -/
namespace Ev
open PySem L2
theorem kw_loop {ps : List Str} (f : Str × Value → List (Str × Value) × List (Str × Value) → Sem (ForInStep (List (Str × Value) × List (Str × Value))))
    (hf : ∀ k v s, ps.contains k = true → s.1.lookup k = none → f (k, v) s = pure (.yield (s.1 ++ [(k, v)], s.2))) :
    ∀ (kw : List (Str × Value)) (s : List (Str × Value) × List (Str × Value)), (∀ k ∈ kw.map (·.1), k ∈ ps) → (s.1.map (·.1) ++ kw.map (·.1)).Nodup → forIn kw s f = pure (s.1 ++ kw, s.2)
  | [], s, _, _ => by rw [List.forIn_nil]; simp
  | (k, v) :: r, s, h1, h2 => by
    rw [List.forIn_cons]
    have hk : ps.contains k = true := by simpa using h1 k (by simp)
    have hn : s.1.lookup k = none := by
      rw [List.lookup_eq_none_iff]
      intro p hp
      have h3 : k ∉ s.1.map (·.1) := by
        rw [List.nodup_append] at h2
        exact fun hm => h2.2.2 k hm k (by simp) rfl
      have : p.1 ≠ k := fun e => h3 (List.mem_map.mpr ⟨p, hp, e⟩)
      simpa using fun e => this e.symm
    rw [hf k v s hk hn, pure_bind]
    have := kw_loop f hf r (s.1 ++ [(k, v)], s.2) (fun q hq => h1 q (by simp at hq ⊢; exact .inr hq)) (by simpa using h2)
    simpa using this
theorem zip_keys : ∀ (ps : List Str) (us : List Value), (ps.zip us).map (·.1) = ps.take us.length
  | [], us => by simp
  | p :: ps, [] => by simp
  | p :: ps, u :: us => by simp [zip_keys ps us]
theorem bind_kw {args : List Arg} {name qual : Str} {body : List Stmt} {sc : Scope} {kV doc pm : Value} {an : Option Addr} {cdv ct : Value} {us : List Value} {kw : List (Str × Value)} {ps : List Str} (hps : args.map (·.arg) = ps)
    (h1 : us.length ≤ ps.length) (h2 : ∀ k ∈ kw.map (·.1), k ∈ ps) (h3 : (ps.take us.length ++ kw.map (·.1)).Nodup) (h4 : ∀ n ∈ ps, ((ps.zip us ++ kw).lookup n).isSome = true) :
    bindArgs (PySem.W.fnOf name qual ⟨[], args, none, [], [], none, []⟩ body sc .none kV doc pm an cdv ct) ⟨us, kw⟩ = pure (ps.filterMap fun n => ((ps.zip us ++ kw).lookup n).map (n, ·)) := by
  unfold bindArgs
  simp only [PySem.W.fnOf, List.map_nil, List.nil_append, hps]
  rw [kw_loop (ps := ps) _ (fun k v s hk hn => by
    simp only [hk, Bool.true_or, if_true, hn, Option.isSome_none, Bool.false_eq_true, if_false]) kw _ h2 (by rw [zip_keys]; exact h3)]
  rw [pure_bind]
  have e : seqItems? Value.none = pure none := rfl
  rw [e, pure_bind]
  have hm : (ps.take ps.length).filter (fun n => ((ps.zip us ++ kw).lookup n).isNone) = [] := by
    rw [List.filter_eq_nil_iff]
    intro n hn
    have := h4 n (by simpa using hn)
    rw [Option.isNone_iff_eq_none]
    intro z
    rw [z] at this
    cases this
  have hg : decide (us.length > ps.length) = false := decide_eq_false (by omega)
  simp only [hg, Bool.false_and, Bool.false_eq_true, if_false, Option.getD_none, List.length_nil, Nat.zero_sub, List.drop_zero, Nat.sub_zero, hm, List.isEmpty_nil, Bool.not_true, List.drop_nil, List.zip_nil_right, List.forIn_nil, pure_bind, List.append_nil]
theorem fm_zip {f : Str → Option Value} : ∀ {ps : List Str}, (∀ n ∈ ps, (f n).isSome = true) → (ps.filterMap fun n => (f n).map (n, ·)) = ps.zip (ps.filterMap f)
  | [], _ => rfl
  | p :: ps, h => by
    obtain ⟨v, hv⟩ := Option.isSome_iff_exists.mp (h p (by simp))
    rw [List.filterMap_cons, List.filterMap_cons, hv]
    simp only [Option.map_some, List.zip_cons_cons]
    rw [fm_zip fun n hn => h n (by simp [hn])]
theorem fm_len {f : Str → Option Value} : ∀ {ps : List Str}, (ps.filterMap f).length = ps.length → ∀ n ∈ ps, (f n).isSome = true
  | [], _, _, hn => by cases hn
  | p :: ps, h, n, hn => by
    cases hp : f p with
    | none =>
      rw [List.filterMap_cons, hp] at h
      have := List.length_filterMap_le f ps
      simp only [List.length_cons] at h
      omega
    | some v =>
      rw [List.filterMap_cons, hp] at h
      simp only [List.length_cons, Nat.add_right_cancel_iff] at h
      rcases List.mem_cons.mp hn with rfl | hn
      · rw [hp]; rfl
      · exact fm_len h n hn
theorem fm_congr {f g : Str → Option Value} : ∀ {ps : List Str}, (∀ n ∈ ps, f n = g n) → ps.filterMap f = ps.filterMap g
  | [], _ => rfl
  | p :: ps, h => by rw [List.filterMap_cons, List.filterMap_cons, h p (by simp), fm_congr fun n hn => h n (by simp [hn])]
theorem look_zip : ∀ {ps : List Str} {us : List Value}, ps.Nodup → us.length = ps.length → (ps.filterMap fun n => (ps.zip us).lookup n) = us
  | [], us, _, h => by
    have := List.length_eq_zero_iff.mp h
    subst this
    rfl
  | p :: ps, [], _, h => by simp at h
  | p :: ps, u :: us, nd, h => by
    rw [List.nodup_cons] at nd
    have h1 : (((p :: ps).zip (u :: us)).lookup p) = some u := by simp [List.lookup_cons]
    have h2 : (ps.filterMap fun n => ((p :: ps).zip (u :: us)).lookup n) = ps.filterMap fun n => (ps.zip us).lookup n := fm_congr fun n hn => by
      have : (n == p) = false := by
        rw [beq_eq_false_iff_ne]
        exact fun e => nd.1 (e ▸ hn)
      simp only [List.zip_cons_cons, List.lookup_cons, this]
    rw [List.filterMap_cons, h1]
    simp only
    rw [h2, look_zip nd.2 (by simpa using h)]
/-- plain parameters: no default, no star -/
def plainA (a : Arguments) : Bool := match a with
  | ⟨po, _, va, ko, kd, kg, de⟩ => po.isEmpty && va.isNone && ko.isEmpty && kd.isEmpty && kg.isNone && de.isEmpty
theorem plain_eq {a : Arguments} (h : plainA a = true) : a = ⟨[], a.args, none, [], [], none, []⟩ := by
  obtain ⟨po, ar, va, ko, kd, kg, de⟩ := a
  simp only [plainA, Bool.and_eq_true, List.isEmpty_iff, Option.isNone_iff_eq_none] at h
  obtain ⟨⟨⟨⟨⟨rfl, rfl⟩, rfl⟩, rfl⟩, rfl⟩, rfl⟩ := h
  rfl
section
variable {K : PySem.W.Frag} {x qual : Str} {params : Arguments} {body : List Stmt} {scope : Scope} {kws : List (Str × V)} {f : Addr} {fd : FuncData} {ps : List Str}
theorem bind_all (hp : plainA params = true) (hps : params.args.map (·.arg) = ps) (nd : ps.Nodup) (kV doc pm : Value) (an : Option Addr) (cdv ct : Value) (us : List Value) (hl : us.length = ps.length) :
    bindArgs (PySem.W.fnOf x qual params body scope .none kV doc pm an cdv ct) ⟨us, []⟩ = pure (ps.zip us) := by
  rw [plain_eq hp]
  have hz : (ps.filterMap fun n => (ps.zip us).lookup n) = us := look_zip nd hl
  have h4 : ∀ n ∈ ps, ((ps.zip us).lookup n).isSome = true := fm_len (f := fun n => (ps.zip us).lookup n) (by rw [hz, hl])
  have := bind_kw (name := x) (qual := qual) (body := body) (sc := scope) (kV := kV) (doc := doc) (pm := pm) (an := an) (cdv := cdv) (ct := ct) (kw := []) hps (Nat.le_of_eq hl) (by simp) (by rw [hl]; simpa using nd) (by simpa using h4)
  rw [this, List.append_nil, fm_zip h4, hz]
theorem binds_of (F : FunD K x qual params body scope [] kws f fd) (hp : plainA params = true) (hps : params.args.map (·.arg) = ps) (nd : ps.Nodup) : Binds K fd ps [] :=
  F.bindsN fun kV doc pm an cdv ct us hl => bind_all hp hps nd kV doc pm an cdv ct us hl
theorem gg_vals {n : Nat} {ks : List Str} {vs zs : List V} {us ws : List Value} (r1 : Vals vs us) (r2 : Vals zs ws) : Vals (gg n ps ks vs zs) (gg n ps ks us ws) := by
  have one : ∀ {qs : List Str} {vs : List V} {us : List Value} (z : Str), Vals vs us → ((qs.zip vs).lookup z = none ∧ (qs.zip us).lookup z = none) ∨ ∃ v u, (qs.zip vs).lookup z = some v ∧ (qs.zip us).lookup z = some u ∧ RelV v u := by
    intro qs
    induction qs with
    | nil => intro vs us z r; exact .inl ⟨by simp, by simp⟩
    | cons q qs ih =>
      intro vs us z r
      cases r with
      | nil => exact .inl ⟨by simp, by simp⟩
      | cons h r =>
        simp only [List.zip_cons_cons, List.lookup_cons]
        cases z == q with
        | true => exact .inr ⟨_, _, rfl, rfl, h⟩
        | false => exact ih z r
  unfold gg
  rw [r1.length, r2.length]
  split
  · have gen : ∀ qs : List Str, Vals (qs.filterMap fun x => (ps.zip vs ++ ks.zip zs).lookup x) (qs.filterMap fun x => (ps.zip us ++ ks.zip ws).lookup x) := by
      intro qs
      induction qs with
      | nil => exact .nil
      | cons q qs ih =>
        have hv : ((ps.zip vs ++ ks.zip zs).lookup q = none ∧ (ps.zip us ++ ks.zip ws).lookup q = none) ∨ ∃ v u, (ps.zip vs ++ ks.zip zs).lookup q = some v ∧ (ps.zip us ++ ks.zip ws).lookup q = some u ∧ RelV v u := by
          rcases one (qs := ps) q r1 with ⟨h1, h2⟩ | ⟨v, u, h1, h2, h3⟩
          · rw [List.lookup_append, List.lookup_append, h1, h2]
            exact one q r2
          · refine .inr ⟨v, u, ?_, ?_, h3⟩
            · rw [List.lookup_append, h1]; rfl
            · rw [List.lookup_append, h2]; rfl
        rcases hv with ⟨h1, h2⟩ | ⟨v, u, h1, h2, h3⟩
        · simp only [List.filterMap_cons, h1, h2]; exact ih
        · simp only [List.filterMap_cons, h1, h2]; exact .cons h3 ih
    exact gen ps
  · exact .nil
theorem kbinds_of (F : FunD K x qual params body scope [] kws f fd) (hp : plainA params = true) (hps : params.args.map (·.arg) = ps) (hne : ps ≠ []) (n : Nat) (ks : List Str) (hnl : n ≤ ps.length) (hnd : (ps.take n ++ ks).Nodup) (hin : ∀ k ∈ ks, k ∈ ps) : KBinds K fd ps ks (gg n ps ks) (gg n ps ks) := by
  obtain ⟨oc, od, dV, kV, doc, pm, an, cdv, ct, osl, rfl, lk, hcd, hD, hK⟩ := F.ex
  rcases hD with ⟨_, rfl⟩ | ⟨e, _⟩
  · refine ⟨fun s us ws _ hl => .of_eq ?_, fun r1 r2 => gg_vals r1 r2⟩
    unfold gg at hl ⊢
    split at hl
    · rename_i hc
      rw [if_pos hc]
      obtain ⟨c1, c2⟩ := hc
      have h4 := fm_len hl
      have hk : (ks.zip ws).map (·.1) = ks := by rw [zip_keys, c2, List.take_length]
      have hle : us.length ≤ ps.length := by omega
      rw [plain_eq hp, bind_kw hps hle (by rw [hk]; exact hin) (by rw [hk, c1]; exact hnd) h4, fm_zip h4]
    · simp at hl
      exact absurd hl.symm (by simpa using hne)
  · exact absurd rfl e
end
end Ev

/-! defs: each keeps the promise that the evaluator tells -/
namespace Ev
open PySem L2
structure Df where
  name : Str
  ps : List Str
  N : List Str
  mu : List Str
  mr : Bool
  gc : Bool
  st : Stmt
def ccOf (fs : List (Str × List Str)) (free : List Str) (d : Df) : Cc := ⟨d.N, defScope d.st, fun _ => true, fs, free, d.mu, d.mr⟩
def fsOf (ds : List Df) : List (Str × List Str) := ds.map fun d => (d.name, d.ps)
def fnOfD (fs : List (Str × List Str)) (free : List Str) (d : Df) : Fn := ⟨d.ps.length, d.N.length, d.gc, blockC (compS 40 (ccOf fs free d)) (defBody d.st)⟩
def fnsOf (free : List Str) (ds : List Df) : List Fn := ds.map (fnOfD (fsOf ds) free)
def scB (N P : List Str) (sc : Scope) : Bool :=
  decide (sc.kind = .function) && !sc.isCoroutine && !sc.isGenerator && decide N.Nodup && decide (N.take P.length = P) && P.all (fun x => storeB ⟨[], sc, fun _ => true, [], [], [], false⟩ x) && sc.names.all (fun y => !decide (y.2 = .free))
theorem scB_ok {N P : List Str} {sc : Scope} (h : scB N P sc = true) : FnScope N P sc := by
  unfold scB at h
  simp only [Bool.and_eq_true, Bool.not_eq_true', decide_eq_true_eq, List.all_eq_true, decide_eq_false_iff_not] at h
  obtain ⟨⟨⟨⟨⟨⟨h1, h2⟩, h3⟩, h4⟩, h5⟩, h6⟩, h7⟩ := h
  refine ⟨h1, h2, h3, h4, h5, fun x hx => ?_, h7⟩
  have := h6 x hx
  unfold storeB at this
  split at this
  · exact .inl (by assumption)
  · exact .inr (by assumption)
  · cases this
def dfB (d : Df) : Bool := plainA (defArgs d.st) && decide ((defArgs d.st).args.map (·.arg) = d.ps) && decide d.ps.Nodup && scB d.N d.ps (defScope d.st)
structure FnsOk (K : PySem.W.Frag) (mg : Str → Option Value) (ds : List Df) (free : List Str) : Prop where
  fn : ∀ (i : Nat) (d : Df), ds[i]? = some d → ∃ (f : Addr) (fd : FuncData), FunD K d.name d.name (defArgs d.st) (defBody d.st) (defScope d.st) [] [] f fd ∧ mg d.name = some (.ref f)
  ok : ds.all dfB = true
  free : ∀ x ∈ free, mg x = none
theorem Good.back {K : PySem.W.Frag} {rs rs' : Rs} {st st' : Sto} {H H' : Hp} (g : Good K rs st H) (e : Ext rs H rs' H') (g' : Good K rs' st' H') : Good K rs (st'.take st.length) H' := by
  obtain ⟨n, rfl, fr⟩ := e.pre
  have hl := g'.len
  simp only [List.length_append] at hl
  refine ⟨by rw [List.length_take]; have := g.len; omega, g.nd, fun a ha => ⟨(g'.exl a ha).1, fun hm => (g'.exl a ha).2 (List.mem_append_left _ hm)⟩, fun l a xs h1 h2 => ?_⟩
  have h2' : st'[l]? = some (Cell.lst xs) := by
    rw [List.getElem?_take] at h2
    split at h2
    · exact h2
    · cases h2
  obtain ⟨h0, h3, vs, h4, h5⟩ := g'.cell l a xs (e.ix h1) h2'
  exact ⟨h0, h3, vs, h4, RepL.plain (rs' := ⟨rs.ix ++ n, rs.ex⟩) (fun b hb => hb.imp (fun z => List.mem_append_left _ z) id) _ _ h3 h5⟩
theorem fin_post {K : PySem.W.Frag} {rs rs' : Rs} {st st' : Sto} {H H' : Hp} {gc : Bool} {v : PV} {w : V} {Q : VK} (g : Good K rs st H) (e : Ext rs H rs' H') (g' : Good K rs' st' H') (r : Rep K H' rs' w v) (q : Post K rs H (fin gc v st st').2 (fin gc v st st').1 Q) : Q w H' := by
  unfold fin at q
  split at q
  · rename_i h
    simp only [Bool.and_eq_true] at h
    obtain ⟨n, rfl, fr⟩ := e.pre
    exact q w H' rs e.back (g.back e g') (Rep.plain (rs' := ⟨rs.ix ++ n, rs.ex⟩) (fun b hb => hb.imp (fun z => List.mem_append_left _ z) id) _ _ h.2 r)
  · split at q
    · split at q
      · rename_i l _ h
        simp only [Bool.and_eq_true, decide_eq_true_eq] at h
        split at q
        · rename_i xs hc
          obtain ⟨n, rfl, fr⟩ := e.pre
          cases r with
          | ref ha =>
            rename_i a
            have hst : st'[l]? = some (Cell.lst xs) := by
              unfold cellAt at hc
              split at hc
              · rename_i ys hy; cases hc; exact hy
              · cases hc
            obtain ⟨c1, c2, vs, c3, c4⟩ := g'.cell l a xs ha hst
            have hix : a ∈ rs.ix ++ n := List.mem_of_getElem? ha
            have hn : a ∉ rs.ix := fun hm => by
              have hnd : (rs.ix ++ n).Nodup := g'.nd
              have hl : rs.ix.length ≤ l := by rw [g.len]; exact h.2
              have ha' : (rs.ix ++ n)[l]? = some a := ha
              rw [List.getElem?_append_right hl] at ha'
              exact (List.nodup_append.mp hnd).2.2 a hm a (List.mem_of_getElem? ha') rfl
            exact q _ H' rs e.back (g.back e g') (.lst ⟨fun hm => hm.elim hn fun z => (g'.exl a z).2 hix, c3⟩ (RepL.plain (rs' := ⟨rs.ix ++ n, rs.ex⟩) (fun b hb => hb.imp (fun z => List.mem_append_left _ z) id) _ _ c2 c4) c1)
        · exact q w H' rs' e g' r
      · exact q w H' rs' e g' r
    · exact q w H' rs' e g' r
section
variable {P : Program} {w : World} {K : PySem.W.Frag} {mg : Str → Option Value} {base : Heap} {ds : List Df} {free : List Str} {wf : Nat}
theorem call_len {n i : Nat} {d : Df} (hi : ds[i]? = some d) {vs : List PV} {st : Sto} {r : PV × Sto} (h : callN (fnsOf free ds) wf n i vs st = some r) : vs.length = d.ps.length := by
  cases n with
  | zero => simp [callN] at h
  | succ n =>
    simp only [callN, Option.bind_eq_some_iff] at h
    obtain ⟨f, hf, h⟩ := h
    have : (fnsOf free ds)[i]? = some (fnOfD (fsOf ds) free d) := by simp [fnsOf, hi]
    rw [this] at hf
    cases hf
    split at h
    · assumption
    · cases h
theorem start_env {rs : Rs} {H : Hp} {vs : List V} {ps : List PV} {N : List Str} (r : RepL K H rs vs ps) (k : Nat) : EnvR K H rs (vs.map some ++ List.replicate k none) (ps.map some ++ List.replicate k none) := by
  refine ⟨by simp [r.length], fun i p h => ?_⟩
  by_cases hi : i < ps.length
  · rw [List.getElem?_append_left (by simpa using hi), List.getElem?_map] at h
    rw [List.getElem?_append_left (by rw [List.length_map, r.length]; exact hi), List.getElem?_map]
    cases hp : ps[i]? with
    | none => rw [hp] at h; cases h
    | some q =>
      rw [hp] at h
      cases h
      obtain ⟨v, hv, rv⟩ := r.get hp
      exact ⟨v, by rw [hv]; rfl, rv⟩
  · rw [List.getElem?_append_right (by simpa using hi)] at h
    rw [List.getElem?_replicate] at h
    split at h <;> cases h
theorem fns_ok (F : FnsOk K mg ds free) : ∀ (n i : Nat) (d : Df) (f : Addr) (fd : FuncData), ds[i]? = some d → FunD K d.name d.name (defArgs d.st) (defBody d.st) (defScope d.st) [] [] f fd →
    FnOk P w K mg base CX0 n f fd d.ps (spF K (callN (fnsOf free ds) wf n) i d.ps.length)
  | 0, i, d, f, fd, hi, _ => ⟨fun vs H Q E h => h.1, fun A outer s H args us vs Q E _ _ _ _ h => by
      obtain ⟨_, rs, st, ps, v, st', g, r, e, q⟩ := h
      simp [callN] at e⟩
  | n + 1, i, d, f, fd, hi, hF => by
    have ih := fns_ok F n
    have hd := List.all_eq_true.mp F.ok d (List.mem_of_getElem? hi)
    simp only [dfB, Bool.and_eq_true, decide_eq_true_eq] at hd
    obtain ⟨⟨⟨hp, hps⟩, hnd⟩, hsc⟩ := hd
    have S := scB_ok hsc
    refine hF.ok S (fun vs H Q E h => h.1) fun cdv A outer s H vs Q E hr h => ⟨tS K ⟨callN (fnsOf free ds) wf n, wf⟩ (blockC (compS 40 (ccOf (fsOf ds) free d)) (defBody d.st)), PSs.nox ?_, ?_⟩
    · have o : OkS (cxOf CX0 P w K mg base d.N d.name (defScope d.st) f cdv A outer s H E).nox (ccOf (fsOf ds) free d) ⟨callN (fnsOf free ds) wf n, wf⟩ := {
        N := rfl
        nd := S.nd
        sc := rfl
        fn := rfl
        calm := rfl
        units := by
          have := hr.un
          refine Nat.lt_of_le_of_lt ?_ this
          show _ + 70 ≤ _ + 16 * n + 200
          exact Nat.le_trans (Nat.add_le_add_left (by omega : 70 ≤ 16 * n + 200) _) (Nat.le_of_eq (Nat.add_assoc _ _ _).symm)
        free := F.free
        fs := fun j x ps hj => by
          simp only [ccOf, fsOf, List.getElem?_map, Option.map_eq_some_iff, Prod.mk.injEq] at hj
          obtain ⟨d2, h2, rfl, rfl⟩ := hj
          obtain ⟨f2, fd2, F2, m2⟩ := F.fn j d2 h2
          have hd2 := List.all_eq_true.mp F.ok d2 (List.mem_of_getElem? h2)
          simp only [dfB, Bool.and_eq_true, decide_eq_true_eq] at hd2
          obtain ⟨⟨⟨hp2, hps2⟩, hnd2⟩, _⟩ := hd2
          exact ⟨⟨n, f2, fd2, ih j d2 f2 fd2 h2 F2, hr, m2, F2.kp, binds_of F2 hp2 hps2 hnd2, fun k ks hne hnl hk hin => kbinds_of F2 hp2 hps2 hne k ks hnl hk hin⟩, fun vs st r h => call_len h2 h⟩
        xe := rfl
        kind := S.kind }
      exact ssblock (compS_ok o 40) _
    · obtain ⟨hl, rs, st, ps, v, st', g, r, e, q⟩ := h
      simp only [callN, Option.bind_eq_some_iff] at e
      obtain ⟨fn, hf, e⟩ := e
      have : (fnsOf free ds)[i]? = some (fnOfD (fsOf ds) free d) := by simp [fnsOf, hi]
      rw [this] at hf
      cases hf
      split at e
      · rename_i hlen
        obtain ⟨⟨fl, ρ1, s1⟩, e1, e2⟩ := Option.bind_eq_some_iff.mp e
        refine ⟨rs, st, _, fl, ρ1, s1, g, ?_, e1, ?_⟩
        · show EnvR K H rs (vs.map some ++ List.replicate (d.N.length - vs.length) none) (ps.map some ++ List.replicate (d.N.length - d.ps.length) none)
          rw [hl]
          exact start_env (N := d.N) r _
        · cases fl with
          | rt z =>
            simp only [Option.some.injEq] at e2
            have q2 : Post K rs H (fin d.gc z st s1).2 (fin d.gc z st s1).1 Q := by
              rw [show fin d.gc z st s1 = (v, st') from e2]; exact q
            exact fun u H' rs' x' g' r' => fin_post g x' g' r' q2
          | nx =>
            simp only [Option.some.injEq] at e2
            have q2 : Post K rs H (fin d.gc .non st s1).2 (fin d.gc .non st s1).1 Q := by
              rw [show fin d.gc .non st s1 = (v, st') from e2]; exact q
            exact fun σ' H' rs' x' g' r' => fin_post g x' g' (.non : Rep K H' rs' .non .non) q2
          | bk => simp at e2
          | ct => simp at e2
      · cases e
end
end Ev

/-! the law by the evaluator alone -/
namespace Ev
open PySem L2
def ddOf (d : Df) : He.DefD := ⟨(d.name, none), d.name, d.name, defArgs d.st, defBody d.st, defScope d.st, [], []⟩
def faOf (free : List Str) (ds : List Df) : List He.Fa := (ds.map fun d => He.Fa.glo d.name) ++ free.map He.Fa.free
theorem fnsOk_of {K : PySem.W.Frag} {h : Heap} {mg : Str → Option Value} {free : List Str} {ds : List Df} (X : K.In h) (G : h.Ns mainGlobals mg) (c : He.SaysD (faOf free ds) (ds.map ddOf) K) (ok : ds.all dfB = true) : FnsOk K mg ds free := by
  refine ⟨fun i d hi => ?_, ok, fun x hx => ?_⟩
  · obtain ⟨fd, F⟩ := c.def_ i (d := ddOf d) (by rw [List.getElem?_map, hi]; rfl)
    refine ⟨_, fd, F, ?_⟩
    have hg := He.glo_ok X G (c.fact i (f := .glo d.name) (by
      unfold faOf
      rw [List.getElem?_append_left (by rw [List.length_map]; exact (List.getElem?_eq_some_iff.mp hi).1), List.getElem?_map, hi]; rfl))
    exact hg
  · obtain ⟨j, hj, e⟩ := List.mem_iff_getElem.mp hx
    exact He.free_ok X G (c.fact (ds.length + j) (f := .free x) (by
      unfold faOf
      rw [List.getElem?_append_right (by rw [List.length_map]; omega), List.length_map, Nat.add_sub_cancel_left, List.getElem?_map, List.getElem?_eq_getElem hj, e]; rfl))
def bitsOk (ns : List Int) : Prop := ∀ z ∈ ns, Builtin.Int.intBits z ≤ 1048576
theorem law_walk {l : PySem.W.OpenLaw} {q : Program} {loose : List Str} {XP : (Str → Option Value) → Heap → Prop} {d : DefRec} {x : Str} {m wf n i : Nat} {free : List Str} {ds : List Df} {dl : Df}
    (hn : l.most = some 63) (hdf : d.params.defaults = []) (hi : ds[i]? = some dl) (hnm : d.name = dl.name) (hps : dl.ps = [x]) (hr : Room n PySem.callerA) (ok : ds.all dfB = true)
    (L : ∀ ns : List Int, ns.length ≤ 63 → bitsOk ns → ∃ st', callN (fnsOf free ds) wf n i [.arg (ns.map .int)] [] = some (.bl true, st')) :
    PySem.W.WalkO q loose XP (He.hookD m (faOf free ds) (ds.map ddOf)).says l.row.toRowW d [] (fun f vs => PySem.call f vs) := by
  refine Att.attach_callB hn hdf fun w s₀ s₁ mg mb fa o pm cd doc a vs ns G Y ho hd hcd hmg hobj hints hlen hbits hg => ?_
  obtain ⟨K, KX, c⟩ := Y
  have F := fnsOk_of KX G.T.g c ok
  obtain ⟨f, fd, F1, m1⟩ := F.fn i dl hi
  rw [hnm, m1] at hmg
  cases hmg
  have hd := List.all_eq_true.mp ok dl (List.mem_of_getElem? hi)
  simp only [dfB, Bool.and_eq_true, decide_eq_true_eq] at hd
  obtain ⟨⟨⟨hp, hps2⟩, hnd⟩, _⟩ := hd
  have hb : ∀ (s : Shared) (u : Value), BindsTo s fd ⟨[u], []⟩ [(x, u)] := fun s u => by
    have := F1.bindsA (ps := dl.ps) (fun kV doc pm an cdv ct us hl => bind_all hp hps2 hnd kV doc pm an cdv ct us hl) s [u] (by rw [hps]; rfl)
    rw [hps] at this
    exact this
  have hF : ∀ base : Heap, K.In base → base.Ns mainGlobals mg → FnOk l.prog w K mg base CX0 n fa fd [x] (spF K (callN (fnsOf free ds) wf n) i [x].length) := fun base _ _ => by
    have := fns_ok (P := l.prog) (w := w) (base := base) (wf := wf) F n i dl fa fd hi F1
    rw [hps] at this
    exact this
  refine law_call KX G.T.g G.T.b G.T.builtins G.T.nolimit hg hobj hints (Nat.le_trans hlen (by decide)) hr hF hb (fun H hO hS => ?_) fun H e s' z => z
  obtain ⟨st', hL⟩ := L ns hlen hbits
  refine ⟨rfl, ⟨[], []⟩, [], [.arg (ns.map .int)], .bl true, st', ⟨rfl, by simp, by simp, by simp⟩, .cons (.arg ?_ (ints_rep ns) ?_) .nil, hL, fun w H' rs' _ _ r => ?_⟩
  · rcases hS with hS | hS
    · have hn : a ∉ (⟨[], []⟩ : Rs) := by
        rintro (z | z)
        · cases z
        · cases z
      exact .inl ⟨hn, hS⟩
    · exact .inr hS
  · rw [List.length_map, sizeLine_eq]; omega
  · cases r; rfl
end Ev

/-! the evaluator by equations that simp can follow (no binder stands in them) -/
namespace Ev
open PySem
def kBin (m : Bool) (o : BOp) (c : Cf) (b : E) (σ : Slots) : Option (PV × Sto) → Option (PV × Sto)
  | some (x, s) => (evE c b σ s).bind fun y => binEv m o x y.1 y.2
  | none => none
def kBin2 (m : Bool) (o : BOp) (x : PV) : Option (PV × Sto) → Option (PV × Sto)
  | some (y, s) => binEv m o x y s
  | none => none
@[simp] theorem evE_bin (c : Cf) (m : Bool) (o : BOp) (a b : E) (σ : Slots) (st : Sto) : evE c (.bin m o a b) σ st = kBin m o c b σ (evE c a σ st) := by
  simp only [evE]; cases evE c a σ st <;> rfl
@[simp] theorem kBin_some (m : Bool) (o : BOp) (c : Cf) (b : E) (σ : Slots) (x : PV) (s : Sto) : kBin m o c b σ (some (x, s)) = kBin2 m o x (evE c b σ s) := by
  simp only [kBin]; cases evE c b σ s <;> rfl
@[simp] theorem kBin2_some (m : Bool) (o : BOp) (x y : PV) (s : Sto) : kBin2 m o x (some (y, s)) = binEv m o x y s := rfl
/-- a truth as a result -/
def kB (s : Sto) : Option Bool → Option (PV × Sto)
  | some k => some (.bl k, s)
  | none => none
@[simp] theorem kB_some (s : Sto) (k : Bool) : kB s (some k) = some (.bl k, s) := rfl
def kCmp (o : COp) (c : Cf) (b : E) (σ : Slots) : Option (PV × Sto) → Option (PV × Sto)
  | some (x, s) => (evE c b σ s).bind fun y => (cmpEv o x y.1 y.2).map fun k => (.bl k, y.2)
  | none => none
def kCmp2 (o : COp) (x : PV) : Option (PV × Sto) → Option (PV × Sto)
  | some (y, s) => kB s (cmpEv o x y s)
  | none => none
@[simp] theorem evE_cmp (c : Cf) (o : COp) (a b : E) (σ : Slots) (st : Sto) : evE c (.cmp o a b) σ st = kCmp o c b σ (evE c a σ st) := by
  simp only [evE]; cases evE c a σ st <;> rfl
@[simp] theorem kCmp_some (o : COp) (c : Cf) (b : E) (σ : Slots) (x : PV) (s : Sto) : kCmp o c b σ (some (x, s)) = kCmp2 o x (evE c b σ s) := by
  simp only [kCmp]
  cases evE c b σ s with
  | none => rfl
  | some y => obtain ⟨y, s2⟩ := y; simp only [kCmp2, Option.bind]; cases cmpEv o x y s2 <;> rfl
@[simp] theorem kCmp2_some (o : COp) (x y : PV) (s : Sto) : kCmp2 o x (some (y, s)) = kB s (cmpEv o x y s) := rfl
/-- a choice by a truth -/
def kIf (c : Cf) (a b : E) (σ : Slots) (s : Sto) : Option Bool → Option (PV × Sto)
  | some true => evE c a σ s
  | some false => evE c b σ s
  | none => none
def kIte (c : Cf) (a b : E) (σ : Slots) : Option (PV × Sto) → Option (PV × Sto)
  | some (x, s) => kIf c a b σ s (truth x s)
  | none => none
@[simp] theorem evE_ite (c : Cf) (q a b : E) (σ : Slots) (st : Sto) : evE c (.ite q a b) σ st = kIte c a b σ (evE c q σ st) := by
  simp only [evE]
  cases evE c q σ st with
  | none => rfl
  | some x => obtain ⟨x, s⟩ := x; simp only [kIte, Option.bind]; cases truth x s with
    | none => rfl
    | some k => cases k <;> rfl
@[simp] theorem kIte_some (c : Cf) (a b : E) (σ : Slots) (x : PV) (s : Sto) : kIte c a b σ (some (x, s)) = kIf c a b σ s (truth x s) := rfl
@[simp] theorem kIf_true (c : Cf) (a b : E) (σ : Slots) (s : Sto) : kIf c a b σ s (some true) = evE c a σ s := rfl
@[simp] theorem kIf_false (c : Cf) (a b : E) (σ : Slots) (s : Sto) : kIf c a b σ s (some false) = evE c b σ s := rfl
/-- and, or: the left value stays -/
def kAnd2 (c : Cf) (b : E) (σ : Slots) (x : PV) (s : Sto) : Option Bool → Option (PV × Sto)
  | some true => evE c b σ s
  | some false => some (x, s)
  | none => none
def kAnd (c : Cf) (b : E) (σ : Slots) : Option (PV × Sto) → Option (PV × Sto)
  | some (x, s) => kAnd2 c b σ x s (truth x s)
  | none => none
@[simp] theorem evE_and (c : Cf) (a b : E) (σ : Slots) (st : Sto) : evE c (.and a b) σ st = kAnd c b σ (evE c a σ st) := by
  simp only [evE]
  cases evE c a σ st with
  | none => rfl
  | some x => obtain ⟨x, s⟩ := x; simp only [kAnd, Option.bind]; cases truth x s with
    | none => rfl
    | some k => cases k <;> rfl
@[simp] theorem kAnd_some (c : Cf) (b : E) (σ : Slots) (x : PV) (s : Sto) : kAnd c b σ (some (x, s)) = kAnd2 c b σ x s (truth x s) := rfl
@[simp] theorem kAnd2_true (c : Cf) (b : E) (σ : Slots) (x : PV) (s : Sto) : kAnd2 c b σ x s (some true) = evE c b σ s := rfl
@[simp] theorem kAnd2_false (c : Cf) (b : E) (σ : Slots) (x : PV) (s : Sto) : kAnd2 c b σ x s (some false) = some (x, s) := rfl
def kOr2 (c : Cf) (b : E) (σ : Slots) (x : PV) (s : Sto) : Option Bool → Option (PV × Sto)
  | some true => some (x, s)
  | some false => evE c b σ s
  | none => none
def kOr (c : Cf) (b : E) (σ : Slots) : Option (PV × Sto) → Option (PV × Sto)
  | some (x, s) => kOr2 c b σ x s (truth x s)
  | none => none
@[simp] theorem evE_or (c : Cf) (a b : E) (σ : Slots) (st : Sto) : evE c (.or a b) σ st = kOr c b σ (evE c a σ st) := by
  simp only [evE]
  cases evE c a σ st with
  | none => rfl
  | some x => obtain ⟨x, s⟩ := x; simp only [kOr, Option.bind]; cases truth x s with
    | none => rfl
    | some k => cases k <;> rfl
@[simp] theorem kOr_some (c : Cf) (b : E) (σ : Slots) (x : PV) (s : Sto) : kOr c b σ (some (x, s)) = kOr2 c b σ x s (truth x s) := rfl
@[simp] theorem kOr2_true (c : Cf) (b : E) (σ : Slots) (x : PV) (s : Sto) : kOr2 c b σ x s (some true) = some (x, s) := rfl
@[simp] theorem kOr2_false (c : Cf) (b : E) (σ : Slots) (x : PV) (s : Sto) : kOr2 c b σ x s (some false) = evE c b σ s := rfl
def kNot : Option (PV × Sto) → Option (PV × Sto)
  | some (x, s) => kB s ((truth x s).map not)
  | none => none
@[simp] theorem evE_not (c : Cf) (a : E) (σ : Slots) (st : Sto) : evE c (.not a) σ st = kNot (evE c a σ st) := by
  simp only [evE]
  cases evE c a σ st with
  | none => rfl
  | some x => obtain ⟨x, s⟩ := x; simp only [kNot, Option.bind]; cases truth x s <;> rfl
@[simp] theorem kNot_some (x : PV) (s : Sto) : kNot (some (x, s)) = kB s ((truth x s).map not) := rfl
def kNeg : Option (PV × Sto) → Option (PV × Sto)
  | some (.int i, s) => some (.int (-i), s)
  | _ => none
@[simp] theorem evE_neg (c : Cf) (a : E) (σ : Slots) (st : Sto) : evE c (.neg a) σ st = kNeg (evE c a σ st) := by
  simp only [evE]
  cases evE c a σ st with
  | none => rfl
  | some x => obtain ⟨x, s⟩ := x; cases x <;> rfl
@[simp] theorem kNeg_some (i : Int) (s : Sto) : kNeg (some (.int i, s)) = some (.int (-i), s) := rfl
/-! lists of arguments -/
def kCons (x : PV) : Option (List PV × Sto) → Option (List PV × Sto)
  | some (ys, s) => some (x :: ys, s)
  | none => none
def kArg (c : Cf) (es : E) (σ : Slots) : Option (PV × Sto) → Option (List PV × Sto)
  | some (x, s) => kCons x (evL c es σ s)
  | none => none
@[simp] theorem evL_nil (c : Cf) (σ : Slots) (st : Sto) : evL c .nil σ st = some ([], st) := by simp only [evL]
@[simp] theorem evL_cons (c : Cf) (e es : E) (σ : Slots) (st : Sto) : evL c (.cons e es) σ st = kArg c es σ (evE c e σ st) := by
  simp only [evL]
  cases evE c e σ st with
  | none => rfl
  | some x => obtain ⟨x, s⟩ := x; simp only [kArg, Option.bind]; cases evL c es σ s <;> rfl
@[simp] theorem kArg_some (c : Cf) (es : E) (σ : Slots) (x : PV) (s : Sto) : kArg c es σ (some (x, s)) = kCons x (evL c es σ s) := rfl
@[simp] theorem kCons_some (x : PV) (ys : List PV) (s : Sto) : kCons x (some (ys, s)) = some (x :: ys, s) := rfl
def kApp (xs : List PV) : Option (List PV × Sto) → Option (List PV × Sto)
  | some (ys, s) => some (xs ++ ys, s)
  | none => none
def kStar2 (c : Cf) (es : E) (σ : Slots) (s : Sto) : Option (List PV) → Option (List PV × Sto)
  | some xs => kApp xs (evL c es σ s)
  | none => none
def kStar (c : Cf) (es : E) (σ : Slots) : Option (PV × Sto) → Option (List PV × Sto)
  | some (x, s) => kStar2 c es σ s (items x s)
  | none => none
@[simp] theorem evL_star (c : Cf) (e es : E) (σ : Slots) (st : Sto) : evL c (.star e es) σ st = kStar c es σ (evE c e σ st) := by
  simp only [evL]
  cases evE c e σ st with
  | none => rfl
  | some x => obtain ⟨x, s⟩ := x; simp only [kStar, Option.bind]; cases items x s with
    | none => rfl
    | some xs => simp only [kStar2]; cases evL c es σ s <;> rfl
@[simp] theorem kStar_some (c : Cf) (es : E) (σ : Slots) (x : PV) (s : Sto) : kStar c es σ (some (x, s)) = kStar2 c es σ s (items x s) := rfl
@[simp] theorem kStar2_some (c : Cf) (es : E) (σ : Slots) (s : Sto) (xs : List PV) : kStar2 c es σ s (some xs) = kApp xs (evL c es σ s) := rfl
@[simp] theorem kApp_some (xs ys : List PV) (s : Sto) : kApp xs (some (ys, s)) = some (xs ++ ys, s) := rfl
@[simp] theorem evE_var (c : Cf) (i : Nat) (σ : Slots) (st : Sto) : evE c (.var i) σ st = (match σ[i]? with | some (some v) => some (v, st) | _ => none) := by
  simp only [evE]
  cases σ[i]? with
  | none => rfl
  | some o => cases o <;> rfl
@[simp] theorem evE_cst (c : Cf) (v : PV) (σ : Slots) (st : Sto) : evE c (.cst v) σ st = some (v, st) := by simp only [evE]
def kTup : Option (List PV × Sto) → Option (PV × Sto)
  | some (xs, s) => if xs.length ≤ lim then some (.tup xs, s) else none
  | none => none
@[simp] theorem evE_tup (c : Cf) (es : E) (σ : Slots) (st : Sto) : evE c (.tup es) σ st = kTup (evL c es σ st) := by
  simp only [evE]; cases evL c es σ st <;> rfl
@[simp] theorem kTup_some (xs : List PV) (s : Sto) : kTup (some (xs, s)) = if xs.length ≤ lim then some (.tup xs, s) else none := rfl
def kLst (m : Bool) : Option (List PV × Sto) → Option (PV × Sto)
  | some (xs, s) => if xs.length ≤ lim then mkL m xs s else none
  | none => none
@[simp] theorem evE_lst (c : Cf) (m : Bool) (es : E) (σ : Slots) (st : Sto) : evE c (.lst m es) σ st = kLst m (evL c es σ st) := by
  simp only [evE]; cases evL c es σ st <;> rfl
@[simp] theorem kLst_some (m : Bool) (xs : List PV) (s : Sto) : kLst m (some (xs, s)) = if xs.length ≤ lim then mkL m xs s else none := rfl
@[simp] theorem mkL_f (xs : List PV) (s : Sto) : mkL false xs s = some (.lst xs, s) := rfl
@[simp] theorem mkL_t (xs : List PV) (s : Sto) : mkL true xs s = if groundL xs then some (.ref s.length, s ++ [.lst xs]) else none := rfl
def kCall (c : Cf) (f : Nat) : Option (List PV × Sto) → Option (PV × Sto)
  | some (xs, s) => c.call f xs s
  | none => none
@[simp] theorem evE_call (c : Cf) (f : Nat) (es : E) (σ : Slots) (st : Sto) : evE c (.call f es) σ st = kCall c f (evL c es σ st) := by
  simp only [evE]; cases evL c es σ st <;> rfl
@[simp] theorem kCall_some (c : Cf) (f : Nat) (xs : List PV) (s : Sto) : kCall c f (some (xs, s)) = c.call f xs s := rfl
def kBi (m : Bool) (b : BI) : Option (List PV × Sto) → Option (PV × Sto)
  | some (xs, s) => biEv m b xs s
  | none => none
@[simp] theorem evE_bi (c : Cf) (m : Bool) (b : BI) (es : E) (σ : Slots) (st : Sto) : evE c (.bi m b es) σ st = kBi m b (evL c es σ st) := by
  simp only [evE]; cases evL c es σ st <;> rfl
@[simp] theorem kBi_some (m : Bool) (b : BI) (xs : List PV) (s : Sto) : kBi m b (some (xs, s)) = biEv m b xs s := rfl
/-- a plain value as a result -/
def kV (s : Sto) : Option PV → Option (PV × Sto)
  | some v => some (v, s)
  | none => none
@[simp] theorem kV_some (s : Sto) (v : PV) : kV s (some v) = some (v, s) := rfl
def kSub2 (x : PV) : Option (PV × Sto) → Option (PV × Sto)
  | some (y, s) => kV s (subEv x y s)
  | none => none
def kSub (c : Cf) (b : E) (σ : Slots) : Option (PV × Sto) → Option (PV × Sto)
  | some (x, s) => kSub2 x (evE c b σ s)
  | none => none
@[simp] theorem evE_sub (c : Cf) (a b : E) (σ : Slots) (st : Sto) : evE c (.sub a b) σ st = kSub c b σ (evE c a σ st) := by
  simp only [evE]
  cases evE c a σ st with
  | none => rfl
  | some x => obtain ⟨x, s⟩ := x; simp only [kSub, Option.bind]; cases evE c b σ s with
    | none => rfl
    | some y => obtain ⟨y, s2⟩ := y; simp only [kSub2]; cases subEv x y s2 <;> rfl
@[simp] theorem kSub_some (c : Cf) (b : E) (σ : Slots) (x : PV) (s : Sto) : kSub c b σ (some (x, s)) = kSub2 x (evE c b σ s) := rfl
@[simp] theorem kSub2_some (x y : PV) (s : Sto) : kSub2 x (some (y, s)) = kV s (subEv x y s) := rfl
def kSlice3 (m : Bool) (x : PV) (lo : List PV) : Option (List PV × Sto) → Option (PV × Sto)
  | some (hi, s) => sliceEv m x lo hi s
  | none => none
def kSlice2 (m : Bool) (c : Cf) (hi : E) (σ : Slots) (x : PV) : Option (List PV × Sto) → Option (PV × Sto)
  | some (lo, s) => kSlice3 m x lo (evL c hi σ s)
  | none => none
def kSlice (m : Bool) (c : Cf) (lo hi : E) (σ : Slots) : Option (PV × Sto) → Option (PV × Sto)
  | some (x, s) => kSlice2 m c hi σ x (evL c lo σ s)
  | none => none
@[simp] theorem evE_slice (c : Cf) (m : Bool) (a lo hi : E) (σ : Slots) (st : Sto) : evE c (.slice m a lo hi) σ st = kSlice m c lo hi σ (evE c a σ st) := by
  simp only [evE]
  cases evE c a σ st with
  | none => rfl
  | some x => obtain ⟨x, s⟩ := x; simp only [kSlice, Option.bind]; cases evL c lo σ s with
    | none => rfl
    | some y => obtain ⟨y, s2⟩ := y; simp only [kSlice2]; cases evL c hi σ s2 <;> rfl
@[simp] theorem kSlice_some (m : Bool) (c : Cf) (lo hi : E) (σ : Slots) (x : PV) (s : Sto) : kSlice m c lo hi σ (some (x, s)) = kSlice2 m c hi σ x (evL c lo σ s) := rfl
@[simp] theorem kSlice2_some (m : Bool) (c : Cf) (hi : E) (σ : Slots) (x : PV) (lo : List PV) (s : Sto) : kSlice2 m c hi σ x (some (lo, s)) = kSlice3 m x lo (evL c hi σ s) := rfl
@[simp] theorem kSlice3_some (m : Bool) (x : PV) (lo hi : List PV) (s : Sto) : kSlice3 m x lo (some (hi, s)) = sliceEv m x lo hi s := rfl
def kRev (m : Bool) : Option (PV × Sto) → Option (PV × Sto)
  | some (x, s) => revEv m x s
  | none => none
@[simp] theorem evE_revS (c : Cf) (m : Bool) (a : E) (σ : Slots) (st : Sto) : evE c (.revS m a) σ st = kRev m (evE c a σ st) := by
  simp only [evE]; cases evE c a σ st <;> rfl
@[simp] theorem kRev_some (m : Bool) (x : PV) (s : Sto) : kRev m (some (x, s)) = revEv m x s := rfl
def kIsi (ts : List Ty) : Option (PV × Sto) → Option (PV × Sto)
  | some (.arg _, _) => none
  | some (x, s) => some (.bl (ts.any (isTy x)), s)
  | none => none
@[simp] theorem evE_isi (c : Cf) (a : E) (ts : List Ty) (σ : Slots) (st : Sto) : evE c (.isi a ts) σ st = kIsi ts (evE c a σ st) := by
  simp only [evE]
  cases evE c a σ st with
  | none => rfl
  | some x => obtain ⟨x, s⟩ := x; cases x <;> rfl
@[simp] theorem kIsi_non (ts : List Ty) (s : Sto) : kIsi ts (some (.non, s)) = some (.bl (ts.any (isTy .non)), s) := rfl
@[simp] theorem kIsi_bl (ts : List Ty) (b : Bool) (s : Sto) : kIsi ts (some (.bl b, s)) = some (.bl (ts.any (isTy (.bl b))), s) := rfl
@[simp] theorem kIsi_int (ts : List Ty) (i : Int) (s : Sto) : kIsi ts (some (.int i, s)) = some (.bl (ts.any (isTy (.int i))), s) := rfl
@[simp] theorem kIsi_str (ts : List Ty) (x : Str) (s : Sto) : kIsi ts (some (.str x, s)) = some (.bl (ts.any (isTy (.str x))), s) := rfl
@[simp] theorem kIsi_tup (ts : List Ty) (xs : List PV) (s : Sto) : kIsi ts (some (.tup xs, s)) = some (.bl (ts.any (isTy (.tup xs))), s) := rfl
@[simp] theorem kIsi_lst (ts : List Ty) (xs : List PV) (s : Sto) : kIsi ts (some (.lst xs, s)) = some (.bl (ts.any (isTy (.lst xs))), s) := rfl
@[simp] theorem kIsi_ref (ts : List Ty) (l : Nat) (s : Sto) : kIsi ts (some (.ref l, s)) = some (.bl (ts.any (isTy (.ref l))), s) := rfl
/-! walks, comprehensions -/
def kW (s : Sto) : Option Wk → Option (Wk × Sto)
  | some w => some (w, s)
  | none => none
@[simp] theorem kW_some (s : Sto) (w : Wk) : kW s (some w) = some (w, s) := rfl
def kItr (k : IK) : Option (List PV × Sto) → Option (Wk × Sto)
  | some (xs, s) => kW s (wkEv k xs s)
  | none => none
@[simp] theorem evI_itr (c : Cf) (k : IK) (es : E) (σ : Slots) (st : Sto) : evI c (.itr k es) σ st = kItr k (evL c es σ st) := by
  simp only [evI]
  cases evL c es σ st with
  | none => rfl
  | some x => obtain ⟨x, s⟩ := x; simp only [kItr, Option.bind]; cases wkEv k x s <;> rfl
@[simp] theorem kItr_some (k : IK) (xs : List PV) (s : Sto) : kItr k (some (xs, s)) = kW s (wkEv k xs s) := rfl
def kMk (m : Bool) : Option (List PV × Sto) → Option (PV × Sto)
  | some (xs, s) => mkL m xs s
  | none => none
@[simp] theorem kMk_some (m : Bool) (xs : List PV) (s : Sto) : kMk m (some (xs, s)) = mkL m xs s := rfl
def kLc (m : Bool) (c : Cf) (t : Tg) (own : List Nat) (q e : E) (σ : Slots) : Option (Wk × Sto) → Option (PV × Sto)
  | some (w, s) => kMk m (lcM (guardOk w) (lcF c t own q e σ) w.xs s)
  | none => none
@[simp] theorem evE_lc (c : Cf) (m : Bool) (it : E) (t : Tg) (own : List Nat) (q e : E) (σ : Slots) (st : Sto) : evE c (.lc m it t own q e) σ st = kLc m c t own q e σ (evI c it σ st) := by
  simp only [evE]
  cases evI c it σ st with
  | none => rfl
  | some x =>
    obtain ⟨x, s⟩ := x
    show (lcM (guardOk x) (lcF c t own q e σ) x.xs s).bind _ = kMk m _
    cases lcM (guardOk x) (lcF c t own q e σ) x.xs s <;> rfl
@[simp] theorem kLc_some (m : Bool) (c : Cf) (t : Tg) (own : List Nat) (q e : E) (σ : Slots) (w : Wk) (s : Sto) : kLc m c t own q e σ (some (w, s)) = kMk m (lcM (guardOk w) (lcF c t own q e σ) w.xs s) := rfl
@[simp] theorem evE_listI (c : Cf) (m : Bool) (it : E) (σ : Slots) (st : Sto) : evE c (.listI m it) σ st = (match evI c it σ st with | some (w, s) => mkL m w.xs s | none => none) := by
  simp only [evE]; cases evI c it σ st <;> rfl
@[simp] theorem evE_tupI (c : Cf) (it : E) (σ : Slots) (st : Sto) : evE c (.tupI it) σ st = (match evI c it σ st with | some (w, s) => some (.tup w.xs, s) | none => none) := by
  simp only [evE]; cases evI c it σ st <;> rfl
/-- a turn of a comprehension, by equations -/
def kTurn3 : Option (PV × Sto) → Option (Option PV × Sto)
  | some (y, s) => some (some y, s)
  | none => none
def kTurn2 (c : Cf) (e : E) (σ : Slots) (s : Sto) : Option Bool → Option (Option PV × Sto)
  | some true => kTurn3 (evE c e σ s)
  | some false => some (none, s)
  | none => none
def kTurn1 (c : Cf) (e : E) (σ : Slots) : Option (PV × Sto) → Option (Option PV × Sto)
  | some (k, s) => kTurn2 c e σ s (truth k s)
  | none => none
def kTurn (c : Cf) (q e : E) (s : Sto) : Option Slots → Option (Option PV × Sto)
  | some σ => kTurn1 c e σ (evE c q σ s)
  | none => none
@[simp] theorem lcF_eq (c : Cf) (t : Tg) (own : List Nat) (q e : E) (σ : Slots) (x : PV) (st : Sto) : lcF c t own q e σ x st = kTurn c q e st (asgn t x (wipeS σ own)) := by
  simp only [lcF]
  cases asgn t x (wipeS σ own) with
  | none => rfl
  | some σ' =>
    simp only [kTurn, Option.bind]
    cases evE c q σ' st with
    | none => rfl
    | some k =>
      obtain ⟨k, s⟩ := k
      simp only [kTurn1]
      cases truth k s with
      | none => rfl
      | some b =>
        cases b with
        | false => rfl
        | true => simp only [kTurn2, if_true]; cases evE c e σ' s <;> rfl
@[simp] theorem kTurn_some (c : Cf) (q e : E) (s : Sto) (σ : Slots) : kTurn c q e s (some σ) = kTurn1 c e σ (evE c q σ s) := rfl
@[simp] theorem kTurn1_some (c : Cf) (e : E) (σ : Slots) (k : PV) (s : Sto) : kTurn1 c e σ (some (k, s)) = kTurn2 c e σ s (truth k s) := rfl
@[simp] theorem kTurn2_true (c : Cf) (e : E) (σ : Slots) (s : Sto) : kTurn2 c e σ s (some true) = kTurn3 (evE c e σ s) := rfl
@[simp] theorem kTurn2_false (c : Cf) (e : E) (σ : Slots) (s : Sto) : kTurn2 c e σ s (some false) = some (none, s) := rfl
@[simp] theorem kTurn3_some (y : PV) (s : Sto) : kTurn3 (some (y, s)) = some (some y, s) := rfl
/-! methods -/
def kMe2 (f : PV → PV → Sto → Option (PV × Sto)) (x : PV) : Option (PV × Sto) → Option (PV × Sto)
  | some (y, s) => f x y s
  | none => none
def kMe (f : PV → PV → Sto → Option (PV × Sto)) (c : Cf) (e : E) (σ : Slots) : Option (PV × Sto) → Option (PV × Sto)
  | some (x, s) => kMe2 f x (evE c e σ s)
  | none => none
@[simp] theorem kMe_some (f : PV → PV → Sto → Option (PV × Sto)) (c : Cf) (e : E) (σ : Slots) (x : PV) (s : Sto) : kMe f c e σ (some (x, s)) = kMe2 f x (evE c e σ s) := rfl
@[simp] theorem kMe2_some (f : PV → PV → Sto → Option (PV × Sto)) (x y : PV) (s : Sto) : kMe2 f x (some (y, s)) = f x y s := rfl
@[simp] theorem evE_append (c : Cf) (o e : E) (σ : Slots) (st : Sto) : evE c (.append o e) σ st = kMe appendEv c e σ (evE c o σ st) := by
  simp only [evE]
  cases evE c o σ st with
  | none => rfl
  | some x => obtain ⟨x, s⟩ := x; simp only [kMe, Option.bind]; cases evE c e σ s <;> rfl
@[simp] theorem evE_extend (c : Cf) (o e : E) (σ : Slots) (st : Sto) : evE c (.extend o e) σ st = kMe extendEv c e σ (evE c o σ st) := by
  simp only [evE]
  cases evE c o σ st with
  | none => rfl
  | some x => obtain ⟨x, s⟩ := x; simp only [kMe, Option.bind]; cases evE c e σ s <;> rfl
@[simp] theorem evE_pop (c : Cf) (o e : E) (σ : Slots) (st : Sto) : evE c (.pop o e) σ st = kMe popEv c e σ (evE c o σ st) := by
  simp only [evE]
  cases evE c o σ st with
  | none => rfl
  | some x => obtain ⟨x, s⟩ := x; simp only [kMe, Option.bind]; cases evE c e σ s <;> rfl
/-! statements -/
def kSeq (c : Cf) (b : S) : Option (Fl × Slots × Sto) → Option (Fl × Slots × Sto)
  | some (.nx, σ, s) => evS c b σ s
  | some x => some x
  | none => none
@[simp] theorem evS_seq (c : Cf) (a b : S) (σ : Slots) (st : Sto) : evS c (.seq a b) σ st = kSeq c b (evS c a σ st) := by
  simp only [evS]
  cases evS c a σ st with
  | none => rfl
  | some x => obtain ⟨f, ρ, s⟩ := x; cases f <;> rfl
@[simp] theorem kSeq_nx (c : Cf) (b : S) (σ : Slots) (s : Sto) : kSeq c b (some (.nx, σ, s)) = evS c b σ s := rfl
@[simp] theorem kSeq_rt (c : Cf) (b : S) (v : PV) (σ : Slots) (s : Sto) : kSeq c b (some (.rt v, σ, s)) = some (.rt v, σ, s) := rfl
@[simp] theorem kSeq_bk (c : Cf) (b : S) (σ : Slots) (s : Sto) : kSeq c b (some (.bk, σ, s)) = some (.bk, σ, s) := rfl
@[simp] theorem kSeq_ct (c : Cf) (b : S) (σ : Slots) (s : Sto) : kSeq c b (some (.ct, σ, s)) = some (.ct, σ, s) := rfl
@[simp] theorem evS_skip (c : Cf) (σ : Slots) (st : Sto) : evS c .skip σ st = some (.nx, σ, st) := by simp only [evS]
@[simp] theorem evS_brk (c : Cf) (σ : Slots) (st : Sto) : evS c .brk σ st = some (.bk, σ, st) := by simp only [evS]
@[simp] theorem evS_cnt (c : Cf) (σ : Slots) (st : Sto) : evS c .cnt σ st = some (.ct, σ, st) := by simp only [evS]
def kAsg2 (s : Sto) : Option Slots → Option (Fl × Slots × Sto)
  | some σ => some (.nx, σ, s)
  | none => none
def kAsg (t : Tg) (σ : Slots) : Option (PV × Sto) → Option (Fl × Slots × Sto)
  | some (v, s) => kAsg2 s (asgn t v σ)
  | none => none
@[simp] theorem evS_asg (c : Cf) (t : Tg) (e : E) (σ : Slots) (st : Sto) : evS c (.asg t e) σ st = kAsg t σ (evE c e σ st) := by
  simp only [evS]
  cases evE c e σ st with
  | none => rfl
  | some x => obtain ⟨x, s⟩ := x; simp only [kAsg, Option.bind]; cases asgn t x σ <;> rfl
@[simp] theorem kAsg_some (t : Tg) (σ : Slots) (v : PV) (s : Sto) : kAsg t σ (some (v, s)) = kAsg2 s (asgn t v σ) := rfl
@[simp] theorem kAsg2_some (s : Sto) (σ : Slots) : kAsg2 s (some σ) = some (.nx, σ, s) := rfl
def kAs4 (σ : Slots) : Option Sto → Option (Fl × Slots × Sto)
  | some s => some (.nx, σ, s)
  | none => none
def kAs3 (σ : Slots) (v o : PV) : Option (PV × Sto) → Option (Fl × Slots × Sto)
  | some (i, s) => kAs4 σ (setEv o i v s)
  | none => none
def kAs2 (c : Cf) (i : E) (σ : Slots) (v : PV) : Option (PV × Sto) → Option (Fl × Slots × Sto)
  | some (o, s) => kAs3 σ v o (evE c i σ s)
  | none => none
def kAs1 (c : Cf) (o i : E) (σ : Slots) : Option (PV × Sto) → Option (Fl × Slots × Sto)
  | some (v, s) => kAs2 c i σ v (evE c o σ s)
  | none => none
@[simp] theorem evS_asgSub (c : Cf) (o i e : E) (σ : Slots) (st : Sto) : evS c (.asgSub o i e) σ st = kAs1 c o i σ (evE c e σ st) := by
  simp only [evS]
  cases evE c e σ st with
  | none => rfl
  | some x => obtain ⟨x, s⟩ := x; simp only [kAs1, Option.bind]; cases evE c o σ s with
    | none => rfl
    | some y => obtain ⟨y, s2⟩ := y; simp only [kAs2]; cases evE c i σ s2 with
      | none => rfl
      | some z => obtain ⟨z, s3⟩ := z; simp only [kAs3]; cases setEv y z x s3 <;> rfl
@[simp] theorem kAs1_some (c : Cf) (o i : E) (σ : Slots) (v : PV) (s : Sto) : kAs1 c o i σ (some (v, s)) = kAs2 c i σ v (evE c o σ s) := rfl
@[simp] theorem kAs2_some (c : Cf) (i : E) (σ : Slots) (v o : PV) (s : Sto) : kAs2 c i σ v (some (o, s)) = kAs3 σ v o (evE c i σ s) := rfl
@[simp] theorem kAs3_some (σ : Slots) (v o i : PV) (s : Sto) : kAs3 σ v o (some (i, s)) = kAs4 σ (setEv o i v s) := rfl
@[simp] theorem kAs4_some (σ : Slots) (s : Sto) : kAs4 σ (some s) = some (.nx, σ, s) := rfl
def kExp (σ : Slots) : Option (PV × Sto) → Option (Fl × Slots × Sto)
  | some (_, s) => some (.nx, σ, s)
  | none => none
@[simp] theorem evS_exp (c : Cf) (e : E) (σ : Slots) (st : Sto) : evS c (.exp e) σ st = kExp σ (evE c e σ st) := by
  simp only [evS]; cases evE c e σ st <;> rfl
@[simp] theorem kExp_some (σ : Slots) (v : PV) (s : Sto) : kExp σ (some (v, s)) = some (.nx, σ, s) := rfl
def kRet (σ : Slots) : Option (PV × Sto) → Option (Fl × Slots × Sto)
  | some (v, s) => some (.rt v, σ, s)
  | none => none
@[simp] theorem evS_ret (c : Cf) (e : E) (σ : Slots) (st : Sto) : evS c (.ret e) σ st = kRet σ (evE c e σ st) := by
  simp only [evS]; cases evE c e σ st <;> rfl
@[simp] theorem kRet_some (σ : Slots) (v : PV) (s : Sto) : kRet σ (some (v, s)) = some (.rt v, σ, s) := rfl
def kIfS2 (c : Cf) (a b : S) (σ : Slots) (s : Sto) : Option Bool → Option (Fl × Slots × Sto)
  | some true => evS c a σ s
  | some false => evS c b σ s
  | none => none
def kIfS (c : Cf) (a b : S) (σ : Slots) : Option (PV × Sto) → Option (Fl × Slots × Sto)
  | some (v, s) => kIfS2 c a b σ s (truth v s)
  | none => none
@[simp] theorem evS_ite (c : Cf) (q : E) (a b : S) (σ : Slots) (st : Sto) : evS c (.ite q a b) σ st = kIfS c a b σ (evE c q σ st) := by
  simp only [evS]
  cases evE c q σ st with
  | none => rfl
  | some x => obtain ⟨x, s⟩ := x; simp only [kIfS, Option.bind]; cases truth x s with
    | none => rfl
    | some k => cases k <;> rfl
@[simp] theorem kIfS_some (c : Cf) (a b : S) (σ : Slots) (v : PV) (s : Sto) : kIfS c a b σ (some (v, s)) = kIfS2 c a b σ s (truth v s) := rfl
@[simp] theorem kIfS2_true (c : Cf) (a b : S) (σ : Slots) (s : Sto) : kIfS2 c a b σ s (some true) = evS c a σ s := rfl
@[simp] theorem kIfS2_false (c : Cf) (a b : S) (σ : Slots) (s : Sto) : kIfS2 c a b σ s (some false) = evS c b σ s := rfl
def kFor2 (c : Cf) (b : S) (s : Sto) : Option Slots → Option (Fl × Slots × Sto)
  | some σ => evS c b σ s
  | none => none
@[simp] theorem kFor2_some (c : Cf) (b : S) (s : Sto) (σ : Slots) : kFor2 c b s (some σ) = evS c b σ s := rfl
/-- a for's turn -/
def forF (c : Cf) (t : Tg) (b : S) : PV → Slots → Sto → Option (Fl × Slots × Sto) := fun x σ st => kFor2 c b st (asgn t x σ)
@[simp] theorem forF_eq (c : Cf) (t : Tg) (b : S) (x : PV) (σ : Slots) (st : Sto) : forF c t b x σ st = kFor2 c b st (asgn t x σ) := rfl
def kFor (c : Cf) (t : Tg) (b : S) (σ : Slots) : Option (Wk × Sto) → Option (Fl × Slots × Sto)
  | some (w, s) => forM (guardOk w) (forF c t b) w.xs σ s
  | none => none
@[simp] theorem evS_for (c : Cf) (it : E) (t : Tg) (b : S) (σ : Slots) (st : Sto) : evS c (.for_ it t b) σ st = kFor c t b σ (evI c it σ st) := by
  simp only [evS]
  cases evI c it σ st with
  | none => rfl
  | some x =>
    obtain ⟨x, s⟩ := x
    simp only [kFor, Option.bind]
    congr 1
    funext y σ' s'
    simp only [forF]
    cases asgn t y σ' <;> rfl
@[simp] theorem kFor_some (c : Cf) (t : Tg) (b : S) (σ : Slots) (w : Wk) (s : Sto) : kFor c t b σ (some (w, s)) = forM (guardOk w) (forF c t b) w.xs σ s := rfl
/-! calls -/
def kFin (gc : Bool) (st : Sto) : Option (Fl × Slots × Sto) → Option (PV × Sto)
  | some (.rt v, _, s) => some (fin gc v st s)
  | some (.nx, _, s) => some (fin gc .non st s)
  | _ => none
theorem call_eq {fs : List Fn} {wf n i : Nat} {d : Fn} {vs : List PV} {st : Sto} (h : fs[i]? = some d) (hl : vs.length = d.np) (hn : 1 ≤ n) : callN fs wf n i vs st = kFin d.gc st (evS ⟨callN fs wf (n - 1), wf⟩ d.body (vs.map some ++ List.replicate (d.ns - d.np) none) st) := by
  obtain ⟨n, rfl⟩ : ∃ k, n = k + 1 := ⟨n - 1, by omega⟩
  simp only [callN, h, Option.bind, hl, if_true, Nat.add_sub_cancel]
  cases evS ⟨callN fs wf n, wf⟩ d.body (vs.map some ++ List.replicate (d.ns - d.np) none) st with
  | none => rfl
  | some x => obtain ⟨f, ρ, s⟩ := x; cases f <;> rfl
@[simp] theorem kFin_rt (gc : Bool) (st : Sto) (v : PV) (σ : Slots) (s : Sto) : kFin gc st (some (.rt v, σ, s)) = some (fin gc v st s) := rfl
@[simp] theorem kFin_nx (gc : Bool) (st : Sto) (σ : Slots) (s : Sto) : kFin gc st (some (.nx, σ, s)) = some (fin gc .non st s) := rfl
theorem fin_g {v : PV} {st s : Sto} (h : v.ground = true) : fin true v st s = (v, s.take st.length) := by simp [fin, h]
theorem fin_n (v : PV) (st s : Sto) : fin false v st s = (v, s) := by cases v <;> simp [fin]
theorem take_same {st s : Sto} (h : s.length = st.length) : s.take st.length = s := by rw [← h, List.take_length]
@[simp] theorem take_self (st : Sto) : st.take st.length = st := List.take_length
/-! turns -/
theorem lcM_map {ok : Sto → Bool} {f : PV → Sto → Option (Option PV × Sto)} {g : PV → PV} {st : Sto} (hok : ok st = true) : ∀ xs : List PV, (∀ x ∈ xs, f x st = some (some (g x), st)) → lcM ok f xs st = some (xs.map g, st)
  | [], _ => by simp [lcM, hok]
  | x :: r, h => by
    simp only [lcM, hok, if_true, h x (by simp), Option.bind, lcM_map hok r fun y hy => h y (by simp [hy]), Option.map, List.map_cons]
theorem lcM_filter {ok : Sto → Bool} {f : PV → Sto → Option (Option PV × Sto)} {p : PV → Bool} {g : PV → PV} {st : Sto} (hok : ok st = true) : ∀ xs : List PV, (∀ x ∈ xs, f x st = some (if p x then some (g x) else none, st)) → lcM ok f xs st = some ((xs.filter p).map g, st)
  | [], _ => by simp [lcM, hok]
  | x :: r, h => by
    simp only [lcM, hok, if_true, h x (by simp), Option.bind, lcM_filter hok r fun y hy => h y (by simp [hy]), Option.map]
    cases hp : p x <;> simp [hp]
theorem forM_nil {ok : Sto → Bool} {f : PV → Slots → Sto → Option (Fl × Slots × Sto)} {σ : Slots} {st : Sto} (hok : ok st = true) : forM ok f [] σ st = some (.nx, σ, st) := by simp [forM, hok]
theorem forM_nx {ok : Sto → Bool} {f : PV → Slots → Sto → Option (Fl × Slots × Sto)} {σ σ' : Slots} {st st' : Sto} {x : PV} {r : List PV} (hok : ok st = true) (h : f x σ st = some (.nx, σ', st')) : forM ok f (x :: r) σ st = forM ok f r σ' st' := by
  simp [forM, hok, h]
theorem forM_ct {ok : Sto → Bool} {f : PV → Slots → Sto → Option (Fl × Slots × Sto)} {σ σ' : Slots} {st st' : Sto} {x : PV} {r : List PV} (hok : ok st = true) (h : f x σ st = some (.ct, σ', st')) : forM ok f (x :: r) σ st = forM ok f r σ' st' := by
  simp [forM, hok, h]
theorem forM_rt {ok : Sto → Bool} {f : PV → Slots → Sto → Option (Fl × Slots × Sto)} {σ σ' : Slots} {st st' : Sto} {x v : PV} {r : List PV} (hok : ok st = true) (h : f x σ st = some (.rt v, σ', st')) : forM ok f (x :: r) σ st = some (.rt v, σ', st') := by
  simp [forM, hok, h]
end Ev

/-! the evaluator's answer as total words: values (d..), what must hold for them (s..) -/
namespace Dn
open PySem Ev
def itemsT : PV → List PV
  | .tup xs => xs
  | .lst xs => xs
  | .arg xs => xs
  | _ => []
def isSeq : PV → Bool
  | .tup _ => true
  | .lst _ => true
  | .arg _ => true
  | _ => false
def isLst : PV → Bool
  | .lst _ => true
  | .arg _ => true
  | _ => false
/-- a list in the store, by its content -/
def dr : PV → PV
  | .arg xs => .lst xs
  | v => v
def truthT : PV → Bool
  | .non => false
  | .bl b => b
  | .int i => i != 0
  | .str x => x.length != 0
  | .tup xs => !xs.isEmpty
  | .lst xs => !xs.isEmpty
  | .arg xs => !xs.isEmpty
  | .ref _ => false
def truthS : PV → Prop
  | .str x => x.length ≤ lim
  | .ref _ => False
  | _ => True
def intT : PV → Int
  | .int i => i
  | _ => 0
def mkT (m : Bool) (xs : List PV) : PV := match m with
  | true => .arg xs
  | false => .lst xs
def binT (m : Bool) (o : BOp) (a b : PV) : PV := match o, a, b with
  | .add, .int i, .int j => .int (i + j)
  | .sub, .int i, .int j => .int (i - j)
  | .mul, .int i, .int j => .int (i * j)
  | .fdiv, .int i, .int j => .int (i / j)
  | .mod, .int i, .int j => .int (i % j)
  | .pow, .int i, .int j => .int (i ^ j.toNat)
  | .add, .str x, .str y => .str (x ++ y)
  | .add, .tup xs, .tup ys => .tup (xs ++ ys)
  | .mul, .tup xs, .int k => .tup (repL xs k)
  | .mul, v, .int k => mkT m (repL (itemsT v) k)
  | .add, v, w => mkT m (itemsT v ++ itemsT w)
  | _, _, _ => .non
def binS (o : BOp) (a b : PV) : Prop := match o, a, b with
  | .add, .int _, .int _ => True
  | .sub, .int _, .int _ => True
  | .mul, .int i, .int j => mulOk i j = true
  | .fdiv, .int _, .int j => 0 < j ∧ j.natAbs.log2 < 9000
  | .mod, .int _, .int j => 0 < j
  | .pow, .int i, .int j => 0 ≤ j ∧ j ≤ 1000000 ∧ i.natAbs < 18446744073709551616
  | .add, .str x, .str y => x.length + y.length ≤ lim
  | .add, .tup xs, .tup ys => xs.length + ys.length ≤ lim
  | .mul, .tup xs, .int k => 2 ≤ k ∧ k ≤ 1000 ∧ xs.length ≤ 1000 ∧ xs ≠ []
  | .mul, v, .int k => isLst v = true ∧ k < 16777216 ∧ -16777216 < k ∧ (itemsT v).length * k.toNat ≤ lim
  | .add, v, w => isLst v = true ∧ isLst w = true ∧ (itemsT v).length + (itemsT w).length ≤ lim
  | _, _, _ => False
def cmpT (o : COp) (a b : PV) : Bool := match o with
  | .isN => match a with | .non => true | _ => false
  | .notN => match a with | .non => false | _ => true
  | .eq => eqP (dr a) (dr b)
  | .ne => !eqP (dr a) (dr b)
  | .inn => anyEq (itemsT b) (dr a)
  | .nin => !anyEq (itemsT b) (dr a)
  | .lt => ltP (dr a) (dr b)
  | .gt => ltP (dr b) (dr a)
  | .le => !ltP (dr b) (dr a)
  | .ge => !ltP (dr a) (dr b)
def cmpS (o : COp) (a b : PV) : Prop := match o with
  | .isN => b = .non
  | .notN => b = .non
  | .eq => shp (dr a) = true ∧ shp (dr b) = true
  | .ne => shp (dr a) = true ∧ shp (dr b) = true
  | .inn => shp (dr a) = true ∧ shp (dr b) = true ∧ isSeq b = true
  | .nin => shp (dr a) = true ∧ shp (dr b) = true ∧ isSeq b = true
  | .lt => shp (dr a) = true ∧ shp (dr b) = true ∧ alk (dr a) (dr b) = true ∧ a ≠ .non
  | .gt => shp (dr a) = true ∧ shp (dr b) = true ∧ alk (dr a) (dr b) = true ∧ a ≠ .non
  | .le => shp (dr a) = true ∧ shp (dr b) = true ∧ alk (dr a) (dr b) = true ∧ a ≠ .non
  | .ge => shp (dr a) = true ∧ shp (dr b) = true ∧ alk (dr a) (dr b) = true ∧ a ≠ .non
def atT (xs : List PV) (k : Int) : PV := (L2.atI xs k).getD (.int 0)
def revT (m : Bool) : PV → PV
  | .tup xs => .tup xs.reverse
  | v => mkT m (itemsT v).reverse
def partT : List PV → Option Int
  | [.int i] => some i
  | _ => none
def partS : List PV → Prop
  | [] => True
  | [.int _] => True
  | _ => False
def sliceT (m : Bool) (a : PV) (lo hi : List PV) : PV := match a with
  | .tup xs => .tup (cutP xs (partT lo) (partT hi))
  | v => mkT m (cutP (itemsT v) (partT lo) (partT hi))
def andT (x y : PV) : PV := if truthT x then y else x
def orT (x y : PV) : PV := if truthT x then x else y
def iteT (x a b : PV) : PV := if truthT x then a else b
def intsT (xs : List PV) : List Int := xs.map intT
def maxT (xs : List PV) : Int := match intsT xs with
  | [] => 0
  | x :: r => maxI x r
def minT (xs : List PV) : Int := match intsT xs with
  | [] => 0
  | x :: r => minI x r
def biT (m : Bool) (b : BI) (vs : List PV) : PV := match b, vs with
  | .len, [v] => .int (itemsT v).length
  | .abs, [v] => .int (if intT v < 0 then -intT v else intT v)
  | .int1, [.int i] => .int i
  | .int1, [.bl b] => .int (if b then 1 else 0)
  | .list1, [v] => mkT m (itemsT v)
  | .tuple1, [v] => .tup (itemsT v)
  | .sorted1, [v] => mkT m (sortL (itemsT v))
  | .sortedSet, [v] => mkT m (sortL (dedup (itemsT v)))
  | .lenSet, [v] => .int (dedup (itemsT v)).length
  | .all1, [v] => .bl ((itemsT v).all truthT)
  | .any1, [v] => .bl ((itemsT v).any truthT)
  | .sum1, [v] => .int (intsT (itemsT v)).sum
  | .max1, [v] => .int (maxT (itemsT v))
  | .min1, [v] => .int (minT (itemsT v))
  | .max2, [.int i, .int j] => .int (if j > i then j else i)
  | .min2, [.int i, .int j] => .int (if j < i then j else i)
  | .count, [v, .int k] => .int ((intsT (itemsT v)).count k : Nat)
  | _, _ => .non
def isBl : PV → Bool
  | .bl _ => true
  | _ => false
def setS (v : PV) : Prop := isSeq v = true ∧ (setI (itemsT v) = true ∨ setable (itemsT v) = true)
def biS (b : BI) (vs : List PV) : Prop := match b, vs with
  | .len, [v] => isSeq v = true
  | .abs, [v] => isInt v = true
  | .int1, [.int _] => True
  | .int1, [.bl _] => True
  | .list1, [v] => isSeq v = true
  | .tuple1, [v] => isSeq v = true
  | .sorted1, [v] => isSeq v = true ∧ sortable (itemsT v) = true
  | .sortedSet, [v] => setS v
  | .lenSet, [v] => isSeq v = true ∧ setI (itemsT v) = true
  | .all1, [v] => isLst v = true ∧ (itemsT v).all isBl = true
  | .any1, [v] => isLst v = true ∧ (itemsT v).all isBl = true
  | .sum1, [v] => isLst v = true ∧ (itemsT v).all isInt = true
  | .max1, [v] => isSeq v = true ∧ (itemsT v).all isInt = true ∧ itemsT v ≠ []
  | .min1, [v] => isSeq v = true ∧ (itemsT v).all isInt = true ∧ itemsT v ≠ []
  | .max2, [.int _, .int _] => True
  | .min2, [.int _, .int _] => True
  | .count, [v, .int _] => isLst v = true ∧ (itemsT v).all isInt = true
  | _, _ => False
def setManyT : List Nat → List PV → Slots → Slots
  | i :: is, v :: vs, s => setManyT is vs (s.set i (some v))
  | _, _, s => s
def asT (t : Tg) (v : PV) (s : Slots) : Slots := match t with
  | .one i => s.set i (some v)
  | .many is => setManyT is (itemsT v) s
def asS (t : Tg) (v : PV) : Prop := match t with
  | .one _ => True
  | .many is => match v with
    | .tup xs => xs.length = is.length
    | _ => False
def slotT (ρ : Slots) (i : Nat) : PV := match ρ[i]? with
  | some (some v) => v
  | _ => .non
def slotS (ρ : Slots) (i : Nat) : Prop := match ρ[i]? with
  | some (some _) => True
  | _ => False
def wkT (k : IK) (vs : List PV) : List PV := match k, vs with
  | .seq, [v] => itemsT v
  | .range1, [.int j] => rangeL 0 j.toNat
  | .range2, [.int i, .int j] => rangeL i (j - i).toNat
  | .enum, [v] => enumL 0 (itemsT v)
  | .zip2, [v, u] => zipL (itemsT v) (itemsT u)
  | .rev, [v] => (itemsT v).reverse
  | .zipn, vs => transp (vs.map itemsT)
  | _, _ => []
def wkS (k : IK) (vs : List PV) : Prop := match k, vs with
  | .seq, [v] => isSeq v = true
  | .range1, [.int j] => rgOk j = true ∧ j ≤ 16777216
  | .range2, [.int i, .int j] => rgOk i = true ∧ rgOk j = true ∧ j - i ≤ 16777216
  | .enum, [v] => isSeq v = true
  | .zip2, [v, u] => isSeq v = true ∧ isSeq u = true ∧ v.ground = true ∧ u.ground = true
  | .rev, [v] => isSeq v = true
  | .zipn, vs => vs.all isSeq = true ∧ groundL vs = true ∧ evenL (vs.map itemsT) = true
  | _, _ => False
def frz : PV → PV
  | .arg xs => .lst xs
  | v => v
mutual
def dE (F : Nat → List PV → PV) : E → Slots → PV
  | .var i, ρ => slotT ρ i
  | .cst v, _ => v
  | .bin m o a b, ρ => binT m o (dE F a ρ) (dE F b ρ)
  | .cmp o a b, ρ => .bl (cmpT o (dE F a ρ) (dE F b ρ))
  | .chain o o' a b d, ρ => .bl (cmpT o (dE F a ρ) (dE F b ρ) && cmpT o' (dE F b ρ) (dE F d ρ))
  | .and a b, ρ => andT (dE F a ρ) (dE F b ρ)
  | .or a b, ρ => orT (dE F a ρ) (dE F b ρ)
  | .not a, ρ => .bl (!truthT (dE F a ρ))
  | .neg a, ρ => .int (-intT (dE F a ρ))
  | .ite q a b, ρ => iteT (dE F q ρ) (dE F a ρ) (dE F b ρ)
  | .tup es, ρ => .tup (dL F es ρ)
  | .lst m es, ρ => mkT m (dL F es ρ)
  | .call f es, ρ => F f (dL F es ρ)
  | .callz f es, ρ => F f ((dL F es ρ).map frz)
  | .callk f es ks n ps kn, ρ => F f (gg n ps kn (dL F es ρ) (dL F ks ρ))
  | .bi m b es, ρ => biT m b (dL F es ρ)
  | .listI m it, ρ => mkT m (dI F it ρ)
  | .tupI it, ρ => .tup (dI F it ρ)
  | .sub a i, ρ => atT (itemsT (dE F a ρ)) (intT (dE F i ρ))
  | .slice m a lo hi, ρ => sliceT m (dE F a ρ) (dL F lo ρ) (dL F hi ρ)
  | .revS m a, ρ => revT m (dE F a ρ)
  | .isi a ts, ρ => .bl (ts.any (isTy (dE F a ρ)))
  | .lc m it t own q e, ρ => mkT m (((dI F it ρ).filter fun x => truthT (dE F q (asT t x (wipeS ρ own)))).map fun x => dE F e (asT t x (wipeS ρ own)))
  | .lc2 m it t own it2 t2 own2 q e, ρ => mkT m ((dI F it ρ).flatMap fun x => ((dI F it2 (asT t x (wipeS ρ own))).filter fun y => truthT (dE F q (asT t2 y (wipeS (asT t x (wipeS ρ own)) own2)))).map fun y => dE F e (asT t2 y (wipeS (asT t x (wipeS ρ own)) own2)))
  | .append _ _, _ => .non
  | .extend _ _, _ => .non
  | .pop _ _, _ => .non
  | .pop0 _, _ => .non
  | .bad, _ => .non
  | .nil, _ => .non
  | .cons _ _, _ => .non
  | .star _ _, _ => .non
  | .itr _ _, _ => .non
def dL (F : Nat → List PV → PV) : E → Slots → List PV
  | .nil, _ => []
  | .cons e es, ρ => dE F e ρ :: dL F es ρ
  | .star e es, ρ => itemsT (dE F e ρ) ++ dL F es ρ
  | _, _ => []
def dI (F : Nat → List PV → PV) : E → Slots → List PV
  | .itr k es, ρ => wkT k (dL F es ρ)
  | _, _ => []
end
mutual
def sE (F : Nat → List PV → PV) (P : Nat → List PV → Prop) : E → Slots → Prop
  | .var i, ρ => slotS ρ i
  | .cst v, _ => v.ground = true
  | .bin _ o a b, ρ => sE F P a ρ ∧ sE F P b ρ ∧ binS o (dE F a ρ) (dE F b ρ)
  | .cmp o a b, ρ => sE F P a ρ ∧ sE F P b ρ ∧ cmpS o (dE F a ρ) (dE F b ρ)
  | .chain o o' a b d, ρ => sE F P a ρ ∧ sE F P b ρ ∧ cmpS o (dE F a ρ) (dE F b ρ) ∧ (cmpT o (dE F a ρ) (dE F b ρ) = true → sE F P d ρ ∧ cmpS o' (dE F b ρ) (dE F d ρ))
  | .and a b, ρ => sE F P a ρ ∧ truthS (dE F a ρ) ∧ (truthT (dE F a ρ) = true → sE F P b ρ)
  | .or a b, ρ => sE F P a ρ ∧ truthS (dE F a ρ) ∧ (truthT (dE F a ρ) = false → sE F P b ρ)
  | .not a, ρ => sE F P a ρ ∧ truthS (dE F a ρ)
  | .neg a, ρ => sE F P a ρ ∧ isInt (dE F a ρ) = true
  | .ite q a b, ρ => sE F P q ρ ∧ truthS (dE F q ρ) ∧ (truthT (dE F q ρ) = true → sE F P a ρ) ∧ (truthT (dE F q ρ) = false → sE F P b ρ)
  | .tup es, ρ => sL F P es ρ ∧ groundL (dL F es ρ) = true ∧ (dL F es ρ).length ≤ lim
  | .lst _ es, ρ => sL F P es ρ ∧ groundL (dL F es ρ) = true ∧ (dL F es ρ).length ≤ lim
  | .call f es, ρ => sL F P es ρ ∧ groundL (dL F es ρ) = true ∧ P f (dL F es ρ)
  | .callz f es, ρ => sL F P es ρ ∧ groundL ((dL F es ρ).map frz) = true ∧ P f ((dL F es ρ).map frz) ∧ (groundL (dL F es ρ) = true ∨ noLst (F f ((dL F es ρ).map frz)) = true)
  | .callk f es ks n ps kn, ρ => sL F P es ρ ∧ sL F P ks ρ ∧ groundL (dL F es ρ) = true ∧ groundL (dL F ks ρ) = true ∧ P f (gg n ps kn (dL F es ρ) (dL F ks ρ))
  | .bi _ b es, ρ => sL F P es ρ ∧ biS b (dL F es ρ)
  | .listI _ it, ρ => sI F P it ρ
  | .tupI it, ρ => sI F P it ρ
  | .sub a i, ρ => sE F P a ρ ∧ sE F P i ρ ∧ isSeq (dE F a ρ) = true ∧ isInt (dE F i ρ) = true ∧ (L2.atI (itemsT (dE F a ρ)) (intT (dE F i ρ))).isSome = true
  | .slice _ a lo hi, ρ => sE F P a ρ ∧ sL F P lo ρ ∧ sL F P hi ρ ∧ isSeq (dE F a ρ) = true ∧ partS (dL F lo ρ) ∧ partS (dL F hi ρ)
  | .revS _ a, ρ => sE F P a ρ ∧ isSeq (dE F a ρ) = true
  | .isi a _, ρ => sE F P a ρ
  | .lc _ it t own q e, ρ => sI F P it ρ ∧ ∀ x ∈ dI F it ρ, asS t x ∧ sE F P q (asT t x (wipeS ρ own)) ∧ truthS (dE F q (asT t x (wipeS ρ own))) ∧ (truthT (dE F q (asT t x (wipeS ρ own))) = true → sE F P e (asT t x (wipeS ρ own)) ∧ (dE F e (asT t x (wipeS ρ own))).ground = true)
  | .lc2 _ it t own it2 t2 own2 q e, ρ => sI F P it ρ ∧ (∀ x ∈ dI F it ρ, asS t x ∧ sI F P it2 (asT t x (wipeS ρ own)) ∧ ∀ y ∈ dI F it2 (asT t x (wipeS ρ own)), asS t2 y ∧ sE F P q (asT t2 y (wipeS (asT t x (wipeS ρ own)) own2)) ∧ truthS (dE F q (asT t2 y (wipeS (asT t x (wipeS ρ own)) own2))) ∧ (truthT (dE F q (asT t2 y (wipeS (asT t x (wipeS ρ own)) own2))) = true → sE F P e (asT t2 y (wipeS (asT t x (wipeS ρ own)) own2)) ∧ (dE F e (asT t2 y (wipeS (asT t x (wipeS ρ own)) own2))).ground = true)) ∧
      ((dI F it ρ).flatMap fun x => ((dI F it2 (asT t x (wipeS ρ own))).filter fun y => truthT (dE F q (asT t2 y (wipeS (asT t x (wipeS ρ own)) own2)))).map fun y => dE F e (asT t2 y (wipeS (asT t x (wipeS ρ own)) own2))).length ≤ lim
  | .append _ _, _ => False
  | .extend _ _, _ => False
  | .pop _ _, _ => False
  | .pop0 _, _ => False
  | .bad, _ => False
  | .nil, _ => False
  | .cons _ _, _ => False
  | .star _ _, _ => False
  | .itr _ _, _ => False
def sL (F : Nat → List PV → PV) (P : Nat → List PV → Prop) : E → Slots → Prop
  | .nil, _ => True
  | .cons e es, ρ => sE F P e ρ ∧ sL F P es ρ
  | .star e es, ρ => sE F P e ρ ∧ isSeq (dE F e ρ) = true ∧ sL F P es ρ
  | _, _ => False
def sI (F : Nat → List PV → PV) (P : Nat → List PV → Prop) : E → Slots → Prop
  | .itr k es, ρ => sL F P es ρ ∧ wkS k (dL F es ρ)
  | _, _ => False
end
end Dn

/-! how the evaluator's values stand to the total ones -/
namespace Dn
open PySem Ev
theorem ground_get {xs : List PV} (h : groundL xs = true) : ∀ x ∈ xs, x.ground = true := by
  induction xs with
  | nil => simp
  | cons y r ih =>
    simp only [groundL, Bool.and_eq_true] at h
    intro x hx
    rcases List.mem_cons.mp hx with e | e
    · rw [e]; exact h.1
    · exact ih h.2 x e
theorem groundL_of {xs : List PV} (h : ∀ x ∈ xs, x.ground = true) : groundL xs = true := by
  induction xs with
  | nil => rfl
  | cons y r ih => simp only [groundL, Bool.and_eq_true]; exact ⟨h y (by simp), ih fun x hx => h x (by simp [hx])⟩
theorem groundL_iff {xs : List PV} : groundL xs = true ↔ ∀ x ∈ xs, x.ground = true := ⟨ground_get, groundL_of⟩
theorem gt_tup {xs : List PV} (h : (PV.tup xs).ground = true) : groundL xs = true := by simpa [PV.ground] using h
theorem gt_lst {xs : List PV} (h : (PV.lst xs).ground = true) : groundL xs = true := by simpa [PV.ground] using h
theorem tg_tup {xs : List PV} (h : groundL xs = true) : (PV.tup xs).ground = true := by simpa [PV.ground] using h
theorem tg_lst {xs : List PV} (h : groundL xs = true) : (PV.lst xs).ground = true := by simpa [PV.ground] using h
inductive RV (n0 lb : Nat) (st : Sto) : PV → PV → Prop
  | g {v : PV} : v.ground = true → RV n0 lb st v v
  | m {l : Nat} {xs : List PV} : n0 ≤ l → st[l]? = some (.lst xs) → groundL xs = true → RV n0 lb st (.arg xs) (.ref l)
  | b : RV n0 lb st (.ref 0) (.ref lb)
inductive RVL (n0 lb : Nat) (st : Sto) : List PV → List PV → Prop
  | nil : RVL n0 lb st [] []
  | cons {v u : PV} {vs us : List PV} : RV n0 lb st v u → RVL n0 lb st vs us → RVL n0 lb st (v :: vs) (u :: us)
def Grow (st st' : Sto) : Prop := ∃ new, st' = st ++ new
theorem Grow.refl (st : Sto) : Grow st st := ⟨[], by simp⟩
theorem Grow.trans {a b c : Sto} (h : Grow a b) (h' : Grow b c) : Grow a c := by
  obtain ⟨x, rfl⟩ := h; obtain ⟨y, rfl⟩ := h'; exact ⟨x ++ y, by simp⟩
theorem Grow.get {a b : Sto} (h : Grow a b) {l : Nat} {c : Cell} (e : a[l]? = some c) : b[l]? = some c := by
  obtain ⟨x, rfl⟩ := h
  rw [List.getElem?_append_left (List.getElem?_eq_some_iff.mp e).1]; exact e
theorem Grow.len {a b : Sto} (h : Grow a b) : a.length ≤ b.length := by obtain ⟨x, rfl⟩ := h; simp
section
variable {n0 lb : Nat} {st st' : Sto} {v u x y a b : PV} {vs us xs ys : List PV}
theorem RV.grow (h : RV n0 lb st v u) (g : Grow st st') : RV n0 lb st' v u := by
  cases h with
  | g h => exact .g h
  | m h1 h2 h3 => exact .m h1 (g.get h2) h3
  | b => exact .b
theorem RVL.grow (h : RVL n0 lb st vs us) (g : Grow st st') : RVL n0 lb st' vs us := by
  induction h with
  | nil => exact .nil
  | cons h _ ih => exact .cons (h.grow g) ih
theorem RV.eq (h : RV n0 lb st v u) (hg : v.ground = true) : u = v := by
  cases h with
  | g _ => rfl
  | m _ _ _ => simp [PV.ground] at hg
  | b => simp [PV.ground] at hg
theorem RVL.eq (h : RVL n0 lb st vs us) (hg : groundL vs = true) : us = vs := by
  induction h with
  | nil => rfl
  | cons h _ ih =>
    simp only [groundL, Bool.and_eq_true] at hg
    rw [h.eq hg.1, ih hg.2]
theorem RVL.one (h : RVL n0 lb st [v] us) : ∃ u, us = [u] ∧ RV n0 lb st v u := by
  cases h with
  | cons h1 h2 => cases h2; exact ⟨_, rfl, h1⟩
theorem RVL.app (h : RVL n0 lb st vs us) (h' : RVL n0 lb st xs ys) : RVL n0 lb st (vs ++ xs) (us ++ ys) := by
  induction h with
  | nil => exact h'
  | cons h _ ih => exact .cons h ih
theorem RVL.of (h : groundL vs = true) : RVL n0 lb st vs vs := by
  induction vs with
  | nil => exact .nil
  | cons x r ih =>
    simp only [groundL, Bool.and_eq_true] at h
    exact .cons (.g h.1) (ih h.2)
theorem cell_get {l : Nat} (h : st[l]? = some (.lst xs)) : cellAt st l = some xs := by simp [cellAt, h]
theorem items_rv (h : RV n0 lb st v u) (hs : isSeq v = true) : items u st = some (itemsT v) ∧ groundL (itemsT v) = true := by
  cases h with
  | g h => cases v <;> simp_all [isSeq, items, itemsT, PV.ground]
  | m h1 h2 h3 => exact ⟨by simp only [items, itemsT, cell_get h2], h3⟩
  | b => simp [isSeq] at hs
theorem litems_rv (h : RV n0 lb st v u) (hs : isLst v = true) : litems u st = some (itemsT v) ∧ groundL (itemsT v) = true := by
  cases h with
  | g h => cases v <;> simp_all [isLst, litems, itemsT, PV.ground]
  | m h1 h2 h3 => exact ⟨by simp only [litems, itemsT, cell_get h2], h3⟩
  | b => simp [isLst] at hs
theorem lst_seq (h : isLst v = true) : isSeq v = true := by cases v <;> simp_all [isLst, isSeq]
theorem deref_rv (h : RV n0 lb st v u) (hs : (dr v).ground = true) : deref u st = some (dr v) := by
  cases h with
  | g h => cases v <;> simp_all [deref, dr, PV.ground]
  | m h1 h2 h3 => simp only [deref, dr, cell_get h2, Option.map]
  | b => simp [dr, PV.ground] at hs
theorem shp_gr (h : shp v = true) : v.ground = true := by simp only [shp, Bool.and_eq_true] at h; exact h.1
theorem truth_rv (h : RV n0 lb st v u) (hs : truthS v) : truth u st = some (truthT v) := by
  cases h with
  | g h => cases v <;> simp_all [truth, truthT, truthS, PV.ground]
  | m h1 h2 h3 => simp only [truth, truthT, cell_get h2, Option.map]
  | b => simp [truthS] at hs
theorem mk_rv (m : Bool) (hn : n0 ≤ st.length) (hg : groundL xs = true) : ∃ u st', mkL m xs st = some (u, st') ∧ Grow st st' ∧ RV n0 lb st' (mkT m xs) u ∧ ∀ l, u = .ref l → st.length ≤ l := by
  cases m with
  | false => exact ⟨.lst xs, st, rfl, .refl st, .g (tg_lst hg), fun l h => by cases h⟩
  | true =>
    refine ⟨.ref st.length, st ++ [.lst xs], by simp [mkL, hg], ⟨_, rfl⟩, .m hn (by simp) hg, fun l h => by cases h; exact Nat.le_refl _⟩
theorem rep_ground {xs : List PV} (h : groundL xs = true) (k : Int) : groundL (repL xs k) = true := by
  refine groundL_of fun x hx => ?_
  unfold repL at hx
  obtain ⟨l, hl, hx⟩ := List.mem_flatten.mp hx
  rw [(List.mem_replicate.mp hl).2] at hx
  exact ground_get h x hx
theorem app_ground (h : groundL xs = true) (h' : groundL ys = true) : groundL (xs ++ ys) = true := groundL_of fun x hx => by
  rcases List.mem_append.mp hx with q | q
  · exact ground_get h x q
  · exact ground_get h' x q
/-- an operation's outcome -/
def Out (n0 lb : Nat) (st : Sto) (r : Option (PV × Sto)) (v : PV) : Prop := ∃ u st', r = some (u, st') ∧ Grow st st' ∧ RV n0 lb st' v u ∧ ∀ l, u = .ref l → st.length ≤ l
theorem Out.g (hv : v.ground = true) : Out n0 lb st (some (v, st)) v := ⟨v, st, rfl, .refl st, .g hv, fun l h => by subst h; simp [PV.ground] at hv⟩
theorem bin_rv {m : Bool} {o : BOp} (hn : n0 ≤ st.length) (ha : RV n0 lb st a x) (hb : RV n0 lb st b y) (hs : binS o a b) : Out n0 lb st (binEv m o x y st) (binT m o a b) := by
  unfold binS at hs
  split at hs
  · cases ha.eq rfl; cases hb.eq rfl; exact .g rfl
  · cases ha.eq rfl; cases hb.eq rfl; exact .g rfl
  · cases ha.eq rfl; cases hb.eq rfl
    simp only [binEv, hs, if_true, binT]; exact .g rfl
  · cases ha.eq rfl; cases hb.eq rfl
    simp only [binEv, hs.1, hs.2, decide_true, Bool.and_self, if_true, binT]; exact .g rfl
  · cases ha.eq rfl; cases hb.eq rfl
    simp only [binEv, hs, decide_true, if_true, binT]; exact .g rfl
  · cases ha.eq rfl; cases hb.eq rfl
    simp only [binEv, hs.1, hs.2.1, hs.2.2, decide_true, Bool.and_self, if_true, binT]; exact .g rfl
  · cases ha.eq rfl; cases hb.eq rfl
    simp only [binEv, hs, if_true, binT]; exact .g rfl
  · rename_i xs ys
    cases ha with
    | g ga => cases hb with
      | g gb =>
        simp only [binEv, hs, if_true, binT]
        exact .g (tg_tup (app_ground (gt_tup ga) (gt_tup gb)))
  · rename_i xs k
    cases ha with
    | g ga =>
      cases hb.eq rfl
      have : xs.isEmpty = false := by cases xs <;> simp_all
      simp only [binEv, hs.1, hs.2.1, hs.2.2.1, decide_true, Bool.and_self, this, Bool.not_false, if_true, binT]
      exact .g (tg_tup (rep_ground (gt_tup ga) _))
  · rename_i k h1 h2
    cases hb.eq rfl
    obtain ⟨i1, i2⟩ := litems_rv ha hs.1
    have e1 : binEv m .mul x (.int k) st = (litems x st).bind fun xs => if decide (k < 16777216) && decide (-16777216 < k) && decide (xs.length * k.toNat ≤ lim) then mkL m (repL xs k) st else none := by
      cases ha with
      | g _ => cases x <;> simp_all [isLst, binEv]
      | m _ _ _ => rfl
      | b => simp [isLst] at hs
    have e2 : binT m .mul a (.int k) = mkT m (repL (itemsT a) k) := by
      clear e1 i1 i2 ha
      cases a <;> simp_all [isLst, binT]
    rw [e1, e2, i1]
    simp only [Option.bind, hs.2.1, hs.2.2.1, hs.2.2.2, decide_true, Bool.and_self, if_true]
    exact mk_rv m hn (rep_ground i2 k)
  · rename_i h1 h2 h3
    obtain ⟨i1, i2⟩ := litems_rv ha hs.1
    obtain ⟨j1, j2⟩ := litems_rv hb hs.2.1
    have e1 : binEv m .add x y st = (litems x st).bind fun xs => (litems y st).bind fun ys => if xs.length + ys.length ≤ lim then mkL m (xs ++ ys) st else none := by
      cases ha with
      | g _ => cases hb with
        | g _ => cases x <;> cases y <;> simp_all [isLst, binEv]
        | m _ _ _ => cases x <;> simp_all [isLst, binEv]
        | b => simp [isLst] at hs
      | m _ _ _ => cases hb with
        | g _ => cases y <;> simp_all [isLst, binEv]
        | m _ _ _ => rfl
        | b => simp [isLst] at hs
      | b => simp [isLst] at hs
    have e2 : binT m .add a b = mkT m (itemsT a ++ itemsT b) := by
      clear e1 i1 i2 ha j1 j2 hb
      cases a <;> cases b <;> simp_all [isLst, binT]
    rw [e1, e2, i1, j1]
    simp only [Option.bind, hs.2.2, if_true]
    exact mk_rv m hn (app_ground i2 j2)
  · cases hs
theorem same_non (h : v ≠ .non) : v.same .non = false := by cases v <;> simp_all [PV.same]
theorem dr_non (h : v ≠ .non) : dr v ≠ .non := by cases v <;> simp_all [dr]
theorem dr_items (h : isSeq v = true) : items (dr v) [] = some (itemsT v) := by cases v <;> simp_all [isSeq, dr, items, itemsT]
theorem cmp_rv {o : COp} (ha : RV n0 lb st a x) (hb : RV n0 lb st b y) (hs : cmpS o a b) : cmpEv o x y st = some (cmpT o a b) := by
  cases o with
  | isN =>
    simp only [cmpS] at hs; subst hs; cases hb.eq rfl
    cases ha with
    | g h => cases x <;> simp_all [cmpEv, cmpT, PV.ground]
    | m _ _ _ => rfl
    | b => rfl
  | notN =>
    simp only [cmpS] at hs; subst hs; cases hb.eq rfl
    cases ha with
    | g h => cases x <;> simp_all [cmpEv, cmpT, PV.ground]
    | m _ _ _ => rfl
    | b => rfl
  | eq => simp only [cmpS] at hs; simp only [cmpEv, cmpT, deref_rv ha (shp_gr hs.1), deref_rv hb (shp_gr hs.2), Option.bind, hs.1, hs.2, Bool.and_self, if_true]
  | ne => simp only [cmpS] at hs; simp only [cmpEv, cmpT, deref_rv ha (shp_gr hs.1), deref_rv hb (shp_gr hs.2), Option.bind, hs.1, hs.2, Bool.and_self, if_true]
  | inn =>
    simp only [cmpS] at hs
    have e : cmpEv .inn x y st = (deref x st).bind fun x => (deref y st).bind fun y => if shp x && shp y then (items y []).map (anyEq · x) else none := by
      cases hb with
      | g h => cases y <;> simp_all [cmpEv, isSeq]
      | m _ _ _ => rfl
      | b => rfl
    rw [e]
    simp only [cmpT, deref_rv ha (shp_gr hs.1), deref_rv hb (shp_gr hs.2.1), Option.bind, hs.1, hs.2.1, Bool.and_self, if_true, dr_items hs.2.2, Option.map]
  | nin =>
    simp only [cmpS] at hs
    have e : cmpEv .nin x y st = (deref x st).bind fun x => (deref y st).bind fun y => if shp x && shp y then (items y []).map fun ys => !anyEq ys x else none := by
      cases hb with
      | g h => cases y <;> simp_all [cmpEv, isSeq]
      | m _ _ _ => rfl
      | b => rfl
    rw [e]
    simp only [cmpT, deref_rv ha (shp_gr hs.1), deref_rv hb (shp_gr hs.2.1), Option.bind, hs.1, hs.2.1, Bool.and_self, if_true, dr_items hs.2.2, Option.map]
  | lt => simp only [cmpS] at hs; simp only [cmpEv, cmpT, deref_rv ha (shp_gr hs.1), deref_rv hb (shp_gr hs.2.1), Option.bind, hs.1, hs.2.1, hs.2.2.1, same_non (dr_non hs.2.2.2), Bool.and_self, Bool.not_false, if_true]
  | gt => simp only [cmpS] at hs; simp only [cmpEv, cmpT, deref_rv ha (shp_gr hs.1), deref_rv hb (shp_gr hs.2.1), Option.bind, hs.1, hs.2.1, hs.2.2.1, same_non (dr_non hs.2.2.2), Bool.and_self, Bool.not_false, if_true]
  | le => simp only [cmpS] at hs; simp only [cmpEv, cmpT, deref_rv ha (shp_gr hs.1), deref_rv hb (shp_gr hs.2.1), Option.bind, hs.1, hs.2.1, hs.2.2.1, same_non (dr_non hs.2.2.2), Bool.and_self, Bool.not_false, if_true]
  | ge => simp only [cmpS] at hs; simp only [cmpEv, cmpT, deref_rv ha (shp_gr hs.1), deref_rv hb (shp_gr hs.2.1), Option.bind, hs.1, hs.2.1, hs.2.2.1, same_non (dr_non hs.2.2.2), Bool.and_self, Bool.not_false, if_true]
theorem cut_ground (h : groundL xs = true) (i j : Option Int) : groundL (cutP xs i j) = true := groundL_of fun x hx => ground_get h x (List.mem_of_mem_drop (List.mem_of_mem_take hx))
theorem part_of (h : partS vs) : partOf vs = some (partT vs) := by
  unfold partS at h
  split at h
  · rfl
  · rfl
  · cases h
theorem part_gr (h : partS vs) : groundL vs = true := by
  unfold partS at h
  split at h
  · rfl
  · rfl
  · cases h
theorem slice_rv {m : Bool} {lo hi : List PV} (hn : n0 ≤ st.length) (ha : RV n0 lb st a x) (hs : isSeq a = true) (h1 : partS lo) (h2 : partS hi) : Out n0 lb st (sliceEv m x lo hi st) (sliceT m a lo hi) := by
  obtain ⟨i1, i2⟩ := items_rv ha hs
  cases ha with
  | g h =>
    cases x with
    | tup xs => simp only [sliceEv, sliceT, part_of h1, part_of h2, Option.bind]; exact .g (tg_tup (cut_ground i2 _ _))
    | lst xs => simp only [sliceEv, sliceT, part_of h1, part_of h2, Option.bind, litems, itemsT]; exact mk_rv m hn (cut_ground i2 _ _)
    | _ => simp_all [isSeq, PV.ground]
  | m g1 g2 g3 => simp only [sliceEv, sliceT, part_of h1, part_of h2, Option.bind, litems, itemsT, cell_get g2]; exact mk_rv m hn (cut_ground g3 _ _)
  | b => simp [isSeq] at hs
theorem rev_rv {m : Bool} (hn : n0 ≤ st.length) (ha : RV n0 lb st a x) (hs : isSeq a = true) : Out n0 lb st (revEv m x st) (revT m a) := by
  obtain ⟨i1, i2⟩ := items_rv ha hs
  have hg : ∀ {xs : List PV}, groundL xs = true → groundL xs.reverse = true := fun h => groundL_of fun x hx => ground_get h x (List.mem_reverse.mp hx)
  cases ha with
  | g h =>
    cases x with
    | tup xs => simp only [revEv, revT]; exact .g (tg_tup (hg i2))
    | lst xs => simp only [revEv, revT, Option.bind, litems, itemsT]; exact mk_rv m hn (hg i2)
    | _ => simp_all [isSeq, PV.ground]
  | m g1 g2 g3 => simp only [revEv, revT, Option.bind, litems, itemsT, cell_get g2]; exact mk_rv m hn (hg g3)
  | b => simp [isSeq] at hs
theorem ins_mem {x y : PV} : ∀ {l : List PV}, y ∈ insP x l → y = x ∨ y ∈ l
  | [], h => by simp [insP] at h; exact .inl h
  | z :: r, h => by
    unfold insP at h
    split at h
    · rcases List.mem_cons.mp h with e | e
      · exact .inr (by simp [e])
      · rcases ins_mem e with q | q
        · exact .inl q
        · exact .inr (by simp [q])
    · rcases List.mem_cons.mp h with e | e
      · exact .inl e
      · exact .inr e
theorem sort_mem {y : PV} : ∀ {l : List PV}, y ∈ sortL l → y ∈ l
  | [], h => by simp [sortL] at h
  | z :: r, h => by
    rcases ins_mem h with e | e
    · simp [e]
    · simp [sort_mem e]
theorem dedup_mem {y : PV} : ∀ {l : List PV}, y ∈ dedup l → y ∈ l
  | [], h => by simp [dedup] at h
  | z :: r, h => by
    unfold dedup at h
    split at h
    · simp [dedup_mem h]
    · rcases List.mem_cons.mp h with e | e
      · simp [e]
      · simp [dedup_mem e]
theorem sort_ground (h : groundL xs = true) : groundL (sortL xs) = true := groundL_of fun x hx => ground_get h x (sort_mem hx)
theorem dedup_ground (h : groundL xs = true) : groundL (dedup xs) = true := groundL_of fun x hx => ground_get h x (dedup_mem hx)
theorem asBools_T : ∀ {xs : List PV}, xs.all isBl = true → asBools xs = some (xs.map truthT)
  | [], _ => rfl
  | x :: r, h => by
    simp only [List.all_cons, Bool.and_eq_true] at h
    have ih := asBools_T h.2
    obtain ⟨h, _⟩ := h
    cases x <;> first | (simp [isBl] at h; done) | simp [asBools, ih, truthT]
theorem asInts_T : ∀ {xs : List PV}, xs.all isInt = true → asInts xs = some (intsT xs)
  | [], _ => rfl
  | x :: r, h => by
    simp only [List.all_cons, Bool.and_eq_true] at h
    have ih := asInts_T h.2
    obtain ⟨h, _⟩ := h
    cases x <;> first | (simp [isInt] at h; done) | simp [asInts, ih, intsT, intT]
theorem bi_rv {m : Bool} {bi : BI} (hn : n0 ≤ st.length) (ha : RVL n0 lb st vs us) (hs : biS bi vs) : Out n0 lb st (biEv m bi us st) (biT m bi vs) := by
  unfold biS at hs
  split at hs
  case h_1 =>
    obtain ⟨u, rfl, h1⟩ := ha.one
    obtain ⟨i1, i2⟩ := items_rv h1 hs
    simp only [biEv, biT, i1, Option.map]; exact .g rfl
  case h_2 =>
    obtain ⟨u, rfl, h1⟩ := ha.one
    rename_i v
    cases v <;> simp [isInt] at hs
    cases h1.eq rfl
    exact .g rfl
  case h_3 => cases ha with | cons h1 h2 => cases h2; cases h1.eq rfl; exact .g rfl
  case h_4 => cases ha with | cons h1 h2 => cases h2; cases h1.eq rfl; exact .g rfl
  case h_5 =>
    obtain ⟨u, rfl, h1⟩ := ha.one
    obtain ⟨i1, i2⟩ := items_rv h1 hs
    simp only [biEv, biT, i1, Option.bind]; exact mk_rv m hn i2
  case h_6 =>
    obtain ⟨u, rfl, h1⟩ := ha.one
    obtain ⟨i1, i2⟩ := items_rv h1 hs
    simp only [biEv, biT, i1, Option.map]; exact .g (tg_tup i2)
  case h_7 =>
    obtain ⟨u, rfl, h1⟩ := ha.one
    obtain ⟨i1, i2⟩ := items_rv h1 hs.1
    simp only [biEv, biT, i1, Option.bind, hs.2, if_true]; exact mk_rv m hn (sort_ground i2)
  case h_8 =>
    obtain ⟨u, rfl, h1⟩ := ha.one
    obtain ⟨i1, i2⟩ := items_rv h1 hs.1
    rename_i v
    simp only [biEv, biT, setEvS, i1, Option.bind]
    by_cases hI : setI (itemsT v) = true
    · rw [if_pos hI]; exact mk_rv m hn (sort_ground (dedup_ground i2))
    · rw [if_neg hI, if_pos (hs.2.resolve_left hI)]; exact mk_rv m hn (sort_ground (dedup_ground i2))
  case h_9 =>
    obtain ⟨u, rfl, h1⟩ := ha.one
    obtain ⟨i1, i2⟩ := items_rv h1 hs.1
    simp only [biEv, biT, i1, Option.bind, hs.2, if_true]; exact .g rfl
  case h_10 =>
    obtain ⟨u, rfl, h1⟩ := ha.one
    obtain ⟨i1, i2⟩ := litems_rv h1 hs.1
    simp only [biEv, biT, i1, Option.bind, asBools_T hs.2, Option.map]
    simp only [List.all_map, Function.id_comp]; exact .g rfl
  case h_11 =>
    obtain ⟨u, rfl, h1⟩ := ha.one
    obtain ⟨i1, i2⟩ := litems_rv h1 hs.1
    simp only [biEv, biT, i1, Option.bind, asBools_T hs.2, Option.map]
    simp only [List.any_map, Function.id_comp]; exact .g rfl
  case h_12 =>
    obtain ⟨u, rfl, h1⟩ := ha.one
    obtain ⟨i1, i2⟩ := litems_rv h1 hs.1
    simp only [biEv, biT, i1, Option.bind, asInts_T hs.2, Option.map]; exact .g rfl
  case h_13 =>
    obtain ⟨u, rfl, h1⟩ := ha.one
    obtain ⟨i1, i2⟩ := items_rv h1 hs.1
    simp only [biEv, biT, i1, Option.bind, asInts_T hs.2.1, maxT]
    rename_i v
    cases hv : itemsT v with
    | nil => exact absurd hv hs.2.2
    | cons z r => simp only [intsT, List.map_cons]; exact .g rfl
  case h_14 =>
    obtain ⟨u, rfl, h1⟩ := ha.one
    obtain ⟨i1, i2⟩ := items_rv h1 hs.1
    simp only [biEv, biT, i1, Option.bind, asInts_T hs.2.1, minT]
    rename_i v
    cases hv : itemsT v with
    | nil => exact absurd hv hs.2.2
    | cons z r => simp only [intsT, List.map_cons]; exact .g rfl
  case h_15 => cases ha with | cons h1 h2 => cases h2 with | cons h2 h3 => cases h3; cases h1.eq rfl; cases h2.eq rfl; exact .g rfl
  case h_16 => cases ha with | cons h1 h2 => cases h2 with | cons h2 h3 => cases h3; cases h1.eq rfl; cases h2.eq rfl; exact .g rfl
  case h_17 =>
    cases ha with | cons h1 h2 =>
    obtain ⟨u, rfl, h2⟩ := h2.one
    cases h2.eq rfl
    obtain ⟨i1, i2⟩ := litems_rv h1 hs.1
    simp only [biEv, biT, i1, Option.bind, asInts_T hs.2, Option.map]; exact .g rfl
  case h_18 => cases hs
end
end Dn

/-! expressions: the evaluator gives what the total words tell -/
namespace Dn
open PySem Ev
structure SR (n0 lb : Nat) (st : Sto) (ρ σ : Slots) : Prop where
  len : ρ.length = σ.length
  at_ : ∀ (i : Nat) (v : PV), ρ[i]? = some (some v) → ∃ u, σ[i]? = some (some u) ∧ RV n0 lb st v u
  dis : ∀ (i j : Nat) (xs ys : List PV) (l : Nat), i ≠ j → ρ[i]? = some (some (.arg xs)) → ρ[j]? = some (some (.arg ys)) → σ[i]? = some (some (.ref l)) → σ[j]? = some (some (.ref l)) → False
def frE : E → Bool
  | .lst _ _ => true
  | .bin _ _ _ _ => true
  | .bi _ _ _ => true
  | .lc _ _ _ _ _ _ => true
  | .lc2 _ _ _ _ _ _ _ _ _ => true
  | .listI _ _ => true
  | .slice _ _ _ _ => true
  | .revS _ _ => true
  | .ite _ a b => frE a && frE b
  | _ => false
section
variable {n0 lb : Nat} {st st' : Sto} {ρ σ : Slots} {v u : PV} {vs us xs : List PV}
theorem SR.grow (h : SR n0 lb st ρ σ) (g : Grow st st') : SR n0 lb st' ρ σ :=
  ⟨h.len, fun i v e => let ⟨u, h1, h2⟩ := h.at_ i v e; ⟨u, h1, h2.grow g⟩, h.dis⟩
theorem SR.set (h : SR n0 lb st ρ σ) (i : Nat) (hv : v.ground = true) : SR n0 lb st (ρ.set i (some v)) (σ.set i (some v)) := by
  refine ⟨by simp [h.len], fun j w e => ?_, fun j k xs ys l hjk e1 e2 e3 e4 => ?_⟩
  · by_cases hij : i = j
    · subst hij
      rw [List.getElem?_set] at e
      simp only [if_true] at e
      split at e
      · rename_i hl
        cases e
        exact ⟨v, by rw [List.getElem?_set_self (by rw [← h.len]; exact hl)], .g hv⟩
      · cases e
    · rw [List.getElem?_set_ne hij] at e
      obtain ⟨u, h1, h2⟩ := h.at_ j w e
      exact ⟨u, by rw [List.getElem?_set_ne hij]; exact h1, h2⟩
  · have nj : i ≠ j := fun z => by
      subst z
      rw [List.getElem?_set] at e1
      simp only [if_true] at e1
      split at e1
      · cases e1; simp [PV.ground] at hv
      · cases e1
    have nk : i ≠ k := fun z => by
      subst z
      rw [List.getElem?_set] at e2
      simp only [if_true] at e2
      split at e2
      · cases e2; simp [PV.ground] at hv
      · cases e2
    rw [List.getElem?_set_ne nj] at e1 e3
    rw [List.getElem?_set_ne nk] at e2 e4
    exact h.dis j k xs ys l hjk e1 e2 e3 e4
theorem SR.wipe1 (h : SR n0 lb st ρ σ) (i : Nat) (o : Option PV) : SR n0 lb st (ρ.set i none) (σ.set i o) := by
  have key : ∀ j w, (ρ.set i none)[j]? = some (some w) → i ≠ j ∧ ρ[j]? = some (some w) := fun j w e => by
    by_cases hij : i = j
    · subst hij
      rw [List.getElem?_set] at e
      simp only [if_true] at e
      split at e <;> cases e
    · rw [List.getElem?_set_ne hij] at e
      exact ⟨hij, e⟩
  refine ⟨by simp [h.len], fun j w e => ?_, fun j k xs ys l hjk e1 e2 e3 e4 => ?_⟩
  · obtain ⟨hij, e⟩ := key j w e
    obtain ⟨u, h1, h2⟩ := h.at_ j w e
    exact ⟨u, by rw [List.getElem?_set_ne hij]; exact h1, h2⟩
  · obtain ⟨nj, e1⟩ := key j _ e1
    obtain ⟨nk, e2⟩ := key k _ e2
    rw [List.getElem?_set_ne nj] at e3
    rw [List.getElem?_set_ne nk] at e4
    exact h.dis j k xs ys l hjk e1 e2 e3 e4
theorem SR.wipe0 (h : SR n0 lb st ρ σ) (i : Nat) : SR n0 lb st (ρ.set i none) σ := by
  have key : ∀ j w, (ρ.set i none)[j]? = some (some w) → ρ[j]? = some (some w) := fun j w e => by
    by_cases hij : i = j
    · subst hij
      rw [List.getElem?_set] at e
      simp only [if_true] at e
      split at e <;> cases e
    · rw [List.getElem?_set_ne hij] at e
      exact e
  refine ⟨by simp [h.len], fun j w e => h.at_ j w (key j w e), fun j k xs ys l hjk e1 e2 e3 e4 => h.dis j k xs ys l hjk (key j _ e1) (key k _ e2) e3 e4⟩
theorem SR.wipe (h : SR n0 lb st ρ σ) : ∀ own : List Nat, SR n0 lb st (wipeS ρ own) (wipeS σ own)
  | [] => h
  | i :: r => (SR.wipe h r).wipe1 i none
theorem SR.wipeL (h : SR n0 lb st ρ σ) : ∀ own : List Nat, SR n0 lb st (wipeS ρ own) σ
  | [] => h
  | i :: r => (SR.wipeL h r).wipe0 i
theorem SR.many : ∀ (is : List Nat) (xs : List PV) {ρ σ : Slots}, SR n0 lb st ρ σ → xs.length = is.length → groundL xs = true → ∃ σ', setMany is xs σ = some σ' ∧ SR n0 lb st (setManyT is xs ρ) σ'
  | [], [], ρ, σ, h, _, _ => ⟨σ, rfl, h⟩
  | i :: is, x :: xs, ρ, σ, h, hl, hg => by
    simp only [groundL, Bool.and_eq_true] at hg
    exact SR.many is xs (h.set i hg.1) (by simpa using hl) hg.2
  | [], _ :: _, _, _, _, hl, _ => by simp at hl
  | _ :: _, [], _, _, _, hl, _ => by simp at hl
theorem SR.asgn (h : SR n0 lb st ρ σ) {t : Tg} (hs : asS t v) (hv : v.ground = true) : ∃ σ', asgn t v σ = some σ' ∧ SR n0 lb st (asT t v ρ) σ' := by
  cases t with
  | one i => exact ⟨_, rfl, h.set i hv⟩
  | many is =>
    cases v with
    | tup xs => exact SR.many is xs h hs (gt_tup hv)
    | _ => cases hs
theorem zip_ground : ∀ {xs ys : List PV}, groundL xs = true → groundL ys = true → groundL (zipL xs ys) = true
  | [], _, _, _ => by simp [zipL, groundL]
  | _ :: _, [], _, _ => by simp [zipL, groundL]
  | x :: xs, y :: ys, h1, h2 => by
    simp only [groundL, Bool.and_eq_true] at h1 h2
    simp only [zipL, groundL, Bool.and_eq_true, PV.ground]
    exact ⟨by simp [h1.1, h2.1], zip_ground h1.2 h2.2⟩
theorem enum_ground : ∀ {xs : List PV} (k : Nat), groundL xs = true → groundL (enumL k xs) = true
  | [], _, _ => by simp [enumL, groundL]
  | x :: xs, k, h1 => by
    simp only [groundL, Bool.and_eq_true] at h1
    simp only [enumL, groundL, Bool.and_eq_true, PV.ground]
    exact ⟨by simp [h1.1], enum_ground (k + 1) h1.2⟩
theorem range_ground (i : Int) (n : Nat) : groundL (rangeL i n) = true := groundL_of fun x hx => by
  obtain ⟨k, _, rfl⟩ := List.mem_map.mp hx
  rfl
mutual
theorem same_refl : ∀ v : PV, v.ground = true → v.same v = true
  | .non, _ => rfl
  | .bl b, _ => by simp [PV.same]
  | .int i, _ => by simp [PV.same]
  | .str x, _ => by simp [PV.same]
  | .tup xs, h => by simp only [PV.same]; exact sameL_refl xs (gt_tup h)
  | .lst xs, h => by simp only [PV.same]; exact sameL_refl xs (gt_lst h)
  | .ref _, h => by simp [PV.ground] at h
  | .arg _, h => by simp [PV.ground] at h
theorem sameL_refl : ∀ xs : List PV, groundL xs = true → sameL xs xs = true
  | [], _ => rfl
  | x :: r, h => by
    simp only [groundL, Bool.and_eq_true] at h
    simp only [sameL, same_refl x h.1, sameL_refl r h.2, Bool.and_self]
end
/-- a walk's outcome -/
def OutW (st : Sto) (r : Option Wk) (xs : List PV) : Prop := ∃ w, r = some w ∧ w.xs = xs ∧ groundL xs = true ∧ ∀ st2, Grow st st2 → guardOk w st2 = true
theorem wkOf_rv (h : RV n0 lb st v u) (hs : isSeq v = true) : ∃ w, wkOf u st = some w ∧ w.xs = itemsT v ∧ groundL (itemsT v) = true ∧ (∀ st2, Grow st st2 → guardOk w st2 = true) ∧ (v.ground = true → w.g = none) := by
  obtain ⟨_, ig⟩ := items_rv h hs
  cases h with
  | g h =>
    cases v with
    | tup xs => exact ⟨⟨none, xs⟩, rfl, rfl, ig, fun _ _ => rfl, fun _ => rfl⟩
    | lst xs => exact ⟨⟨none, xs⟩, rfl, rfl, ig, fun _ _ => rfl, fun _ => rfl⟩
    | _ => simp_all [isSeq, PV.ground]
  | @m l xs h1 h2 h3 =>
    refine ⟨⟨some (l, xs), xs⟩, by simp only [wkOf, cell_get h2, Option.map], rfl, h3, fun st2 g => ?_, fun z => by simp [PV.ground] at z⟩
    simp only [guardOk, cell_get (g.get h2), sameL_refl xs h3]
  | b => simp [isSeq] at hs
theorem guard_xs {w : Wk} {ys : List PV} (st2 : Sto) : guardOk ⟨w.g, ys⟩ st2 = guardOk w st2 := rfl
theorem seqs_T : ∀ {vs : List PV}, vs.all isSeq = true → groundL vs = true → seqsOf vs = some (vs.map itemsT)
  | [], _, _ => rfl
  | v :: r, h, g => by
    simp only [List.all_cons, Bool.and_eq_true] at h
    simp only [groundL, Bool.and_eq_true] at g
    have ih := seqs_T h.2 g.2
    have hv : frozenL v = some (itemsT v) := by
      have h1 := h.1
      cases v <;> first | rfl | (simp [isSeq] at h1; done)
    simp only [seqsOf, hv, ih, Option.bind, Option.map, List.map_cons]
theorem row_ground {xss : List (List PV)} (h : ∀ xs ∈ xss, groundL xs = true) (k : Nat) : (rowAt xss k).ground = true := by
  unfold rowAt
  simp only [PV.ground]
  refine groundL_of fun x hx => ?_
  obtain ⟨xs, hxs, rfl⟩ := List.mem_map.mp hx
  cases e : xs[k]? with
  | none => rfl
  | some y => exact ground_get (h xs hxs) y (List.mem_of_getElem? e)
theorem transp_ground {xss : List (List PV)} (h : ∀ xs ∈ xss, groundL xs = true) : groundL (transp xss) = true := by
  cases xss with
  | nil => rfl
  | cons xs r =>
    unfold transp
    refine groundL_of fun x hx => ?_
    obtain ⟨k, _, rfl⟩ := List.mem_map.mp hx
    exact row_ground h k
theorem items_ground {v : PV} (h : v.ground = true) : groundL (itemsT v) = true := by
  cases v with
  | tup xs => exact gt_tup h
  | lst xs => exact gt_lst h
  | arg xs => simp [PV.ground] at h
  | _ => rfl
theorem wk_rv {k : IK} (ha : RVL n0 lb st vs us) (hs : wkS k vs) : ∃ w, wkEv k us st = some w ∧ w.xs = wkT k vs ∧ groundL (wkT k vs) = true ∧ (∀ st2, Grow st st2 → guardOk w st2 = true) ∧ (groundL vs = true → w.g = none) := by
  unfold wkS at hs
  split at hs
  case h_1 =>
    obtain ⟨u, rfl, h1⟩ := ha.one
    obtain ⟨w, e1, e2, e3, e4, e5⟩ := wkOf_rv h1 hs
    exact ⟨w, e1, e2, e3, e4, fun z => e5 (by simpa [groundL] using z)⟩
  case h_2 =>
    obtain ⟨u, rfl, h1⟩ := ha.one
    cases h1.eq rfl
    exact ⟨_, by simp only [wkEv, hs.1, hs.2, decide_true, Bool.and_self, if_true]; rfl, rfl, range_ground _ _, fun _ _ => rfl, fun _ => rfl⟩
  case h_3 =>
    cases ha with | cons h1 h2 =>
    obtain ⟨u, rfl, h2⟩ := h2.one
    cases h1.eq rfl
    cases h2.eq rfl
    exact ⟨_, by simp only [wkEv, hs.1, hs.2.1, hs.2.2, decide_true, Bool.and_self, if_true]; rfl, rfl, range_ground _ _, fun _ _ => rfl, fun _ => rfl⟩
  case h_4 =>
    obtain ⟨u, rfl, h1⟩ := ha.one
    obtain ⟨w, e1, e2, e3, e4, e5⟩ := wkOf_rv h1 hs
    exact ⟨⟨w.g, enumL 0 w.xs⟩, by simp only [wkEv, e1, Option.map], by rw [e2]; rfl, enum_ground 0 e3, e4, fun z => e5 (by simpa [groundL] using z)⟩
  case h_5 =>
    rename_i v1 v2
    cases ha with | cons h1 h2 =>
    obtain ⟨u, rfl, h3⟩ := h2.one
    obtain ⟨s1, s2, g1, g2⟩ := hs
    clear h2
    have h2 := h3
    cases h1.eq g1
    cases h2.eq g2
    obtain ⟨i1, i2⟩ := items_rv h1 s1
    obtain ⟨j1, j2⟩ := items_rv h2 s2
    refine ⟨⟨none, zipL (itemsT v1) (itemsT v2)⟩, ?_, rfl, zip_ground i2 j2, fun _ _ => rfl, fun _ => rfl⟩
    have e : wkEv .zip2 [v1, v2] st = (items v1 st).bind fun xs => (items v2 st).map fun ys => ⟨none, zipL xs ys⟩ := by
      cases v1 <;> cases v2 <;> simp_all [isSeq, PV.ground, wkEv]
    rw [e, i1, j1]; rfl
  case h_6 =>
    obtain ⟨u, rfl, h1⟩ := ha.one
    obtain ⟨w, e1, e2, e3, e4, e5⟩ := wkOf_rv h1 hs
    exact ⟨⟨w.g, w.xs.reverse⟩, by simp only [wkEv, e1, Option.map], by rw [e2]; rfl, groundL_of fun x hx => ground_get e3 x (List.mem_reverse.mp hx), e4, fun z => e5 (by simpa [groundL] using z)⟩
  case h_7 =>
    cases ha.eq hs.2.1
    refine ⟨⟨none, transp (vs.map itemsT)⟩, ?_, rfl, ?_, fun _ _ => rfl, fun _ => rfl⟩
    · simp only [wkEv, zipnEv, seqs_T hs.1 hs.2.1, Option.bind, hs.2.2, if_true]
    · show groundL (transp (vs.map itemsT)) = true
      refine transp_ground fun xs hx => ?_
      obtain ⟨v, hv, rfl⟩ := List.mem_map.mp hx
      exact items_ground (ground_get hs.2.1 v hv)
  case h_8 => cases hs
theorem lc_rv {st0 : Sto} {ok : Sto → Bool} {f : PV → Sto → Option (Option PV × Sto)} {p : PV → Bool} {g : PV → PV} (hok : ∀ st2, Grow st0 st2 → ok st2 = true) : ∀ (xs : List PV) (st1 : Sto), Grow st0 st1 →
    (∀ x ∈ xs, ∀ st1, Grow st0 st1 → ∃ st2, f x st1 = some (if p x then some (g x) else none, st2) ∧ Grow st1 st2) → ∃ st2, lcM ok f xs st1 = some ((xs.filter p).map g, st2) ∧ Grow st1 st2
  | [], st1, g1, _ => ⟨st1, by simp [lcM, hok st1 g1], .refl _⟩
  | x :: r, st1, g1, h => by
    obtain ⟨st2, e, g2⟩ := h x (by simp) st1 g1
    obtain ⟨st3, e3, g3⟩ := lc_rv hok r st2 (g1.trans g2) fun y hy => h y (by simp [hy])
    refine ⟨st3, ?_, g2.trans g3⟩
    simp only [lcM, hok st1 g1, if_true, e, Option.bind, e3, Option.map]
    cases hp : p x <;> simp [hp]
theorem lcs_rv {st0 : Sto} {ok : Sto → Bool} {f : PV → Sto → Option (List PV × Sto)} {g : PV → List PV} (hok : ∀ st2, Grow st0 st2 → ok st2 = true) : ∀ (xs : List PV) (st1 : Sto), Grow st0 st1 →
    (∀ x ∈ xs, ∀ st1, Grow st0 st1 → ∃ st2, f x st1 = some (g x, st2) ∧ Grow st1 st2) → ∃ st2, lcMs ok f xs st1 = some (xs.flatMap g, st2) ∧ Grow st1 st2
  | [], st1, g1, _ => ⟨st1, by simp [lcMs, hok st1 g1], .refl _⟩
  | x :: r, st1, g1, h => by
    obtain ⟨st2, e, g2⟩ := h x (by simp) st1 g1
    obtain ⟨st3, e3, g3⟩ := lcs_rv hok r st2 (g1.trans g2) fun y hy => h y (by simp [hy])
    refine ⟨st3, ?_, g2.trans g3⟩
    simp only [lcMs, hok st1 g1, if_true, e, Option.bind, e3, Option.map, List.flatMap_cons]
theorem filt_ground {xs : List PV} {p : PV → Bool} {g : PV → PV} (h : ∀ x ∈ xs, p x = true → (g x).ground = true) : groundL ((xs.filter p).map g) = true := groundL_of fun y hy => by
  obtain ⟨x, hx, rfl⟩ := List.mem_map.mp hy
  obtain ⟨h1, h2⟩ := List.mem_filter.mp hx
  exact h x h1 h2
end
section
variable {c : Cf} {F : Nat → List PV → PV} {P : Nat → List PV → Prop} {n0 lb : Nat}
/-- what calls tell -/
def CallOk (c : Cf) (F : Nat → List PV → PV) (P : Nat → List PV → Prop) : Prop := ∀ f vs st, groundL vs = true → P f vs → c.call f vs st = some (F f vs, st) ∧ (F f vs).ground = true
def AE (c : Cf) (F : Nat → List PV → PV) (P : Nat → List PV → Prop) (n0 lb : Nat) (e : E) : Prop := ∀ ρ σ st, n0 ≤ st.length → SR n0 lb st ρ σ → sE F P e ρ →
  ∃ u st', evE c e σ st = some (u, st') ∧ Grow st st' ∧ RV n0 lb st' (dE F e ρ) u ∧ (frE e = true → ∀ l, u = .ref l → st.length ≤ l)
def AL (c : Cf) (F : Nat → List PV → PV) (P : Nat → List PV → Prop) (n0 lb : Nat) (e : E) : Prop := ∀ ρ σ st, n0 ≤ st.length → SR n0 lb st ρ σ → sL F P e ρ →
  ∃ us st', evL c e σ st = some (us, st') ∧ Grow st st' ∧ RVL n0 lb st' (dL F e ρ) us
def AI (c : Cf) (F : Nat → List PV → PV) (P : Nat → List PV → Prop) (n0 lb : Nat) (e : E) : Prop := ∀ ρ σ st, n0 ≤ st.length → SR n0 lb st ρ σ → sI F P e ρ →
  ∃ w st', evI c e σ st = some (w, st') ∧ Grow st st' ∧ w.xs = dI F e ρ ∧ groundL (dI F e ρ) = true ∧ (∀ st2, Grow st' st2 → guardOk w st2 = true) ∧ ((match e with | .itr _ es => groundL (dL F es ρ) = true | _ => True) → w.g = none)
theorem gg_ground {n : Nat} {ps kn : List Str} {us ws : List PV} (h1 : groundL us = true) (h2 : groundL ws = true) : groundL (gg n ps kn us ws) = true := by
  unfold gg
  split
  · refine groundL_of fun x hx => ?_
    obtain ⟨y, hy, e⟩ := List.mem_filterMap.mp hx
    have hm : (y, x) ∈ ps.zip us ++ kn.zip ws := by
      revert e
      generalize ps.zip us ++ kn.zip ws = L
      induction L with
      | nil => intro e; simp at e
      | cons a r ih =>
        intro e
        obtain ⟨a1, a2⟩ := a
        rw [List.lookup_cons] at e
        split at e
        · rename_i hq
          cases e
          have : y = a1 := by simpa using hq
          simp [this]
        · exact List.mem_cons_of_mem _ (ih e)
    rcases List.mem_append.mp hm with q | q
    · exact ground_get h1 x (List.of_mem_zip q).2
    · exact ground_get h2 x (List.of_mem_zip q).2
  · rfl
theorem frz_gr {v : PV} (h : v.ground = true) : frz v = v := by cases v <;> first | rfl | simp [PV.ground] at h
theorem frzV_g {st : Sto} {v : PV} (h : v.ground = true) : frzV st v = some v := by
  cases v <;> first | (simp [PV.ground] at h; done) | simp [frzV, h]
theorem RVL.frzG {st : Sto} {vs us : List PV} (h : RVL n0 lb st vs us) (hg : groundL us = true) : us = vs.map frz := by
  induction h with
  | nil => rfl
  | cons h _ ih =>
    simp only [groundL, Bool.and_eq_true] at hg
    rw [List.map_cons, ← ih hg.2]
    cases h with
    | g hv => rw [frz_gr hv]
    | m _ _ _ => have := hg.1; simp [PV.ground] at this
    | b => have := hg.1; simp [PV.ground] at this
theorem RVL.frzL {st : Sto} {vs us : List PV} (h : RVL n0 lb st vs us) (hg : groundL (vs.map frz) = true) : frzL st us = some (vs.map frz) := by
  induction h with
  | nil => rfl
  | cons h _ ih =>
    simp only [List.map_cons, groundL, Bool.and_eq_true] at hg
    have ih := ih hg.2
    cases h with
    | g hv => simp [Ev.frzL, frzV_g hv, ih, frz_gr hv]
    | m _ h2 _ => simp [Ev.frzL, frzV, ih, frz, cell_get h2]
    | b => have := hg.1; simp [frz, PV.ground] at this
theorem den_ok (hc : CallOk c F P) : ∀ e : E, AE c F P n0 lb e ∧ AL c F P n0 lb e ∧ AI c F P n0 lb e := by
  have nL : ∀ e : E, (∀ ρ, ¬ sL F P e ρ) → AL c F P n0 lb e := fun e h ρ σ st _ _ hs => absurd hs (h ρ)
  have nI : ∀ e : E, (∀ ρ, ¬ sI F P e ρ) → AI c F P n0 lb e := fun e h ρ σ st _ _ hs => absurd hs (h ρ)
  have nE : ∀ e : E, (∀ ρ, ¬ sE F P e ρ) → AE c F P n0 lb e := fun e h ρ σ st _ _ hs => absurd hs (h ρ)
  intro e
  induction e with
  | bad => exact ⟨nE _ fun ρ h => by simp [sE] at h, nL _ fun ρ h => by simp [sL] at h, nI _ fun ρ h => by simp [sI] at h⟩
  | var i =>
    refine ⟨fun ρ σ st hn hr hs => ?_, nL _ fun ρ h => by simp [sL] at h, nI _ fun ρ h => by simp [sI] at h⟩
    simp only [sE, slotS] at hs
    split at hs
    · rename_i v hv
      obtain ⟨u, h1, h2⟩ := hr.at_ i v hv
      exact ⟨u, st, by simp only [evE, h1, Option.bind, Option.map], .refl _, by simp only [dE, slotT, hv]; exact h2, fun z => by simp [frE] at z⟩
    · cases hs
  | cst v => exact ⟨fun ρ σ st hn hr hs => ⟨v, st, by simp only [evE], .refl _, by simp only [dE]; simp only [sE] at hs; exact .g hs, fun z => by simp [frE] at z⟩, nL _ fun ρ h => by simp [sL] at h, nI _ fun ρ h => by simp [sI] at h⟩
  | bin m o a b iha ihb =>
    refine ⟨fun ρ σ st hn hr hs => ?_, nL _ fun ρ h => by simp [sL] at h, nI _ fun ρ h => by simp [sI] at h⟩
    simp only [sE] at hs
    obtain ⟨u1, s1, e1, g1, r1, _⟩ := iha.1 ρ σ st hn hr hs.1
    obtain ⟨u2, s2, e2, g2, r2, _⟩ := ihb.1 ρ σ s1 (Nat.le_trans hn g1.len) (hr.grow g1) hs.2.1
    obtain ⟨u3, s3, e3, g3, r3, f3⟩ := bin_rv (m := m) (Nat.le_trans hn (g1.trans g2).len) (r1.grow g2) r2 hs.2.2
    exact ⟨u3, s3, by simp only [evE, e1, e2, Option.bind, e3], (g1.trans g2).trans g3, by simp only [dE]; exact r3, fun _ l hl => Nat.le_trans (g1.trans g2).len (f3 l hl)⟩
  | cmp o a b iha ihb =>
    refine ⟨fun ρ σ st hn hr hs => ?_, nL _ fun ρ h => by simp [sL] at h, nI _ fun ρ h => by simp [sI] at h⟩
    simp only [sE] at hs
    obtain ⟨u1, s1, e1, g1, r1, _⟩ := iha.1 ρ σ st hn hr hs.1
    obtain ⟨u2, s2, e2, g2, r2, _⟩ := ihb.1 ρ σ s1 (Nat.le_trans hn g1.len) (hr.grow g1) hs.2.1
    exact ⟨_, s2, by simp only [evE, e1, e2, Option.bind, cmp_rv (r1.grow g2) r2 hs.2.2, Option.map]; rfl, g1.trans g2, by simp only [dE]; exact .g rfl, fun z => by simp [frE] at z⟩
  | chain o o' a b d iha ihb ihd =>
    refine ⟨fun ρ σ st hn hr hs => ?_, nL _ fun ρ h => by simp [sL] at h, nI _ fun ρ h => by simp [sI] at h⟩
    simp only [sE] at hs
    obtain ⟨u1, s1, e1, g1, r1, _⟩ := iha.1 ρ σ st hn hr hs.1
    obtain ⟨u2, s2, e2, g2, r2, _⟩ := ihb.1 ρ σ s1 (Nat.le_trans hn g1.len) (hr.grow g1) hs.2.1
    have c1 := cmp_rv (r1.grow g2) r2 hs.2.2.1
    cases hk : cmpT o (dE F a ρ) (dE F b ρ) with
    | false =>
      exact ⟨.bl false, s2, by simp only [evE, e1, e2, Option.bind, c1, hk]; rfl, g1.trans g2, by simp only [dE, hk, Bool.false_and]; exact .g rfl, fun z => by simp [frE] at z⟩
    | true =>
      obtain ⟨hd, hd2⟩ := hs.2.2.2 hk
      obtain ⟨u3, s3, e3, g3, r3, _⟩ := ihd.1 ρ σ s2 (Nat.le_trans hn (g1.trans g2).len) (hr.grow (g1.trans g2)) hd
      have c2 := cmp_rv (r2.grow g3) r3 hd2
      exact ⟨_, s3, by simp only [evE, e1, e2, Option.bind, c1, hk, if_true, e3, c2, Option.map]; rfl, (g1.trans g2).trans g3, by simp only [dE, hk, Bool.true_and]; exact .g rfl, fun z => by simp [frE] at z⟩
  | and a b iha ihb =>
    refine ⟨fun ρ σ st hn hr hs => ?_, nL _ fun ρ h => by simp [sL] at h, nI _ fun ρ h => by simp [sI] at h⟩
    simp only [sE] at hs
    obtain ⟨u1, s1, e1, g1, r1, _⟩ := iha.1 ρ σ st hn hr hs.1
    have t1 := truth_rv r1 hs.2.1
    cases hk : truthT (dE F a ρ) with
    | false => exact ⟨u1, s1, by simp only [evE, e1, Option.bind, t1, hk]; rfl, g1, by simp only [dE, andT, hk]; exact r1, fun z => by simp [frE] at z⟩
    | true =>
      obtain ⟨u2, s2, e2, g2, r2, _⟩ := ihb.1 ρ σ s1 (Nat.le_trans hn g1.len) (hr.grow g1) (hs.2.2 hk)
      exact ⟨u2, s2, by simp only [evE, e1, Option.bind, t1, hk, if_true, e2], g1.trans g2, by simp only [dE, andT, hk, if_true]; exact r2, fun z => by simp [frE] at z⟩
  | or a b iha ihb =>
    refine ⟨fun ρ σ st hn hr hs => ?_, nL _ fun ρ h => by simp [sL] at h, nI _ fun ρ h => by simp [sI] at h⟩
    simp only [sE] at hs
    obtain ⟨u1, s1, e1, g1, r1, _⟩ := iha.1 ρ σ st hn hr hs.1
    have t1 := truth_rv r1 hs.2.1
    cases hk : truthT (dE F a ρ) with
    | true => exact ⟨u1, s1, by simp only [evE, e1, Option.bind, t1, hk]; rfl, g1, by simp only [dE, orT, hk, if_true]; exact r1, fun z => by simp [frE] at z⟩
    | false =>
      obtain ⟨u2, s2, e2, g2, r2, _⟩ := ihb.1 ρ σ s1 (Nat.le_trans hn g1.len) (hr.grow g1) (hs.2.2 hk)
      exact ⟨u2, s2, by simp only [evE, e1, Option.bind, t1, hk, e2]; rfl, g1.trans g2, by simp only [dE, orT, hk]; exact r2, fun z => by simp [frE] at z⟩
  | not a iha =>
    refine ⟨fun ρ σ st hn hr hs => ?_, nL _ fun ρ h => by simp [sL] at h, nI _ fun ρ h => by simp [sI] at h⟩
    simp only [sE] at hs
    obtain ⟨u1, s1, e1, g1, r1, _⟩ := iha.1 ρ σ st hn hr hs.1
    exact ⟨_, s1, by simp only [evE, e1, Option.bind, truth_rv r1 hs.2, Option.map]; rfl, g1, by simp only [dE]; exact .g rfl, fun z => by simp [frE] at z⟩
  | neg a iha =>
    refine ⟨fun ρ σ st hn hr hs => ?_, nL _ fun ρ h => by simp [sL] at h, nI _ fun ρ h => by simp [sI] at h⟩
    simp only [sE] at hs
    obtain ⟨u1, s1, e1, g1, r1, _⟩ := iha.1 ρ σ st hn hr hs.1
    cases hv : dE F a ρ with
    | int i =>
      rw [hv] at r1
      cases r1.eq rfl
      exact ⟨.int (-i), s1, by simp only [evE, e1, Option.bind], g1, by simp only [dE, hv, intT]; exact .g rfl, fun z => by simp [frE] at z⟩
    | _ => rw [hv] at hs; simp [isInt] at hs
  | ite q a b ihq iha ihb =>
    refine ⟨fun ρ σ st hn hr hs => ?_, nL _ fun ρ h => by simp [sL] at h, nI _ fun ρ h => by simp [sI] at h⟩
    simp only [sE] at hs
    obtain ⟨u1, s1, e1, g1, r1, _⟩ := ihq.1 ρ σ st hn hr hs.1
    have t1 := truth_rv r1 hs.2.1
    cases hk : truthT (dE F q ρ) with
    | true =>
      obtain ⟨u2, s2, e2, g2, r2, f2⟩ := iha.1 ρ σ s1 (Nat.le_trans hn g1.len) (hr.grow g1) (hs.2.2.1 hk)
      exact ⟨u2, s2, by simp only [evE, e1, Option.bind, t1, hk, if_true, e2], g1.trans g2, by simp only [dE, iteT, hk, if_true]; exact r2, fun z l hl => by
        simp only [frE, Bool.and_eq_true] at z
        exact Nat.le_trans g1.len (f2 z.1 l hl)⟩
    | false =>
      obtain ⟨u2, s2, e2, g2, r2, f2⟩ := ihb.1 ρ σ s1 (Nat.le_trans hn g1.len) (hr.grow g1) (hs.2.2.2 hk)
      exact ⟨u2, s2, by simp only [evE, e1, Option.bind, t1, hk, e2]; rfl, g1.trans g2, by simp only [dE, iteT, hk]; exact r2, fun z l hl => by
        simp only [frE, Bool.and_eq_true] at z
        exact Nat.le_trans g1.len (f2 z.2 l hl)⟩
  | tup es ih =>
    refine ⟨fun ρ σ st hn hr hs => ?_, nL _ fun ρ h => by simp [sL] at h, nI _ fun ρ h => by simp [sI] at h⟩
    simp only [sE] at hs
    obtain ⟨us, s1, e1, g1, r1⟩ := ih.2.1 ρ σ st hn hr hs.1
    cases r1.eq hs.2.1
    exact ⟨_, s1, by simp only [evE, e1, Option.bind, hs.2.2, if_true]; rfl, g1, by simp only [dE]; exact .g (tg_tup hs.2.1), fun z => by simp [frE] at z⟩
  | lst m es ih =>
    refine ⟨fun ρ σ st hn hr hs => ?_, nL _ fun ρ h => by simp [sL] at h, nI _ fun ρ h => by simp [sI] at h⟩
    simp only [sE] at hs
    obtain ⟨us, s1, e1, g1, r1⟩ := ih.2.1 ρ σ st hn hr hs.1
    cases r1.eq hs.2.1
    obtain ⟨u, s2, e2, g2, r2, f2⟩ := mk_rv (lb := lb) m (Nat.le_trans hn g1.len) hs.2.1
    exact ⟨u, s2, by simp only [evE, e1, Option.bind, hs.2.2, if_true, e2], g1.trans g2, by simp only [dE]; exact r2, fun _ l hl => Nat.le_trans g1.len (f2 l hl)⟩
  | nil => exact ⟨nE _ fun ρ h => by simp [sE] at h, fun ρ σ st hn hr hs => ⟨[], st, by simp only [evL], .refl _, by simp only [dL]; exact .nil⟩, nI _ fun ρ h => by simp [sI] at h⟩
  | cons e es ihe ihs =>
    refine ⟨nE _ fun ρ h => by simp [sE] at h, fun ρ σ st hn hr hs => ?_, nI _ fun ρ h => by simp [sI] at h⟩
    simp only [sL] at hs
    obtain ⟨u1, s1, e1, g1, r1, _⟩ := ihe.1 ρ σ st hn hr hs.1
    obtain ⟨us, s2, e2, g2, r2⟩ := ihs.2.1 ρ σ s1 (Nat.le_trans hn g1.len) (hr.grow g1) hs.2
    exact ⟨u1 :: us, s2, by simp only [evL, e1, Option.bind, e2, Option.map], g1.trans g2, by simp only [dL]; exact .cons (r1.grow g2) r2⟩
  | star e es ihe ihs =>
    refine ⟨nE _ fun ρ h => by simp [sE] at h, fun ρ σ st hn hr hs => ?_, nI _ fun ρ h => by simp [sI] at h⟩
    simp only [sL] at hs
    obtain ⟨u1, s1, e1, g1, r1, _⟩ := ihe.1 ρ σ st hn hr hs.1
    obtain ⟨i1, i2⟩ := items_rv r1 hs.2.1
    obtain ⟨us, s2, e2, g2, r2⟩ := ihs.2.1 ρ σ s1 (Nat.le_trans hn g1.len) (hr.grow g1) hs.2.2
    exact ⟨_, s2, by simp only [evL, e1, Option.bind, i1, e2, Option.map]; rfl, g1.trans g2, by simp only [dL]; exact (RVL.of i2).app r2⟩
  | call f es ih =>
    refine ⟨fun ρ σ st hn hr hs => ?_, nL _ fun ρ h => by simp [sL] at h, nI _ fun ρ h => by simp [sI] at h⟩
    simp only [sE] at hs
    obtain ⟨us, s1, e1, g1, r1⟩ := ih.2.1 ρ σ st hn hr hs.1
    cases r1.eq hs.2.1
    obtain ⟨h1, h2⟩ := hc f _ s1 hs.2.1 hs.2.2
    exact ⟨_, s1, by simp only [evE, e1, Option.bind, h1]; rfl, g1, by simp only [dE]; exact .g h2, fun z => by simp [frE] at z⟩
  | callz f es ih =>
    refine ⟨fun ρ σ st hn hr hs => ?_, nL _ fun ρ h => by simp [sL] at h, nI _ fun ρ h => by simp [sI] at h⟩
    simp only [sE] at hs
    obtain ⟨us, s1, e1, g1, r1⟩ := ih.2.1 ρ σ st hn hr hs.1
    obtain ⟨h1, h2⟩ := hc f _ s1 hs.2.1 hs.2.2.1
    cases hg : groundL us with
    | true =>
      have hv : us = (dL F es ρ).map frz := r1.frzG hg
      have hg2 : groundL ((dL F es ρ).map frz) = true := hs.2.1
      exact ⟨_, s1, by simp only [evE, e1, Option.bind, callzEv]; rw [hv]; simp only [hg2, if_true, h1]; rfl, g1, by simp only [dE]; exact .g h2, fun z => by simp [frE] at z⟩
    | false =>
      have hn2 : noLst (F f ((dL F es ρ).map frz)) = true := hs.2.2.2.resolve_left fun z => by rw [r1.eq z, z] at hg; cases hg
      have h3 := (hc f _ [] hs.2.1 hs.2.2.1).1
      have hf := r1.frzL hs.2.1
      exact ⟨_, s1, by simp only [evE, e1, Option.bind, callzEv, hg, hf, h3, hn2, if_true]; rfl, g1, by simp only [dE]; exact .g h2, fun z => by simp [frE] at z⟩
  | callk f es ks n ps kn ih1 ih2 =>
    refine ⟨fun ρ σ st hn hr hs => ?_, nL _ fun ρ h => by simp [sL] at h, nI _ fun ρ h => by simp [sI] at h⟩
    simp only [sE] at hs
    obtain ⟨us, s1, e1, g1, r1⟩ := ih1.2.1 ρ σ st hn hr hs.1
    obtain ⟨ws, s2, e2, g2, r2⟩ := ih2.2.1 ρ σ s1 (Nat.le_trans hn g1.len) (hr.grow g1) hs.2.1
    cases r1.eq hs.2.2.1
    cases r2.eq hs.2.2.2.1
    obtain ⟨h1, h2⟩ := hc f _ s2 (gg_ground hs.2.2.1 hs.2.2.2.1) hs.2.2.2.2
    exact ⟨_, s2, by simp only [evE, e1, e2, Option.bind, h1]; rfl, g1.trans g2, by simp only [dE]; exact .g h2, fun z => by simp [frE] at z⟩
  | bi m b es ih =>
    refine ⟨fun ρ σ st hn hr hs => ?_, nL _ fun ρ h => by simp [sL] at h, nI _ fun ρ h => by simp [sI] at h⟩
    simp only [sE] at hs
    obtain ⟨us, s1, e1, g1, r1⟩ := ih.2.1 ρ σ st hn hr hs.1
    obtain ⟨u, s2, e2, g2, r2, f2⟩ := bi_rv (m := m) (Nat.le_trans hn g1.len) r1 hs.2
    exact ⟨u, s2, by simp only [evE, e1, Option.bind, e2], g1.trans g2, by simp only [dE]; exact r2, fun _ l hl => Nat.le_trans g1.len (f2 l hl)⟩
  | listI m it ih =>
    refine ⟨fun ρ σ st hn hr hs => ?_, nL _ fun ρ h => by simp [sL] at h, nI _ fun ρ h => by simp [sI] at h⟩
    simp only [sE] at hs
    obtain ⟨w, s1, e1, g1, w1, w2, _⟩ := ih.2.2 ρ σ st hn hr hs
    obtain ⟨u, s2, e2, g2, r2, f2⟩ := mk_rv (lb := lb) m (Nat.le_trans hn g1.len) w2
    exact ⟨u, s2, by simp only [evE, e1, Option.bind, w1, e2], g1.trans g2, by simp only [dE]; exact r2, fun _ l hl => Nat.le_trans g1.len (f2 l hl)⟩
  | tupI it ih =>
    refine ⟨fun ρ σ st hn hr hs => ?_, nL _ fun ρ h => by simp [sL] at h, nI _ fun ρ h => by simp [sI] at h⟩
    simp only [sE] at hs
    obtain ⟨w, s1, e1, g1, w1, w2, _⟩ := ih.2.2 ρ σ st hn hr hs
    exact ⟨_, s1, by simp only [evE, e1, Option.map, w1]; rfl, g1, by simp only [dE]; exact .g (tg_tup w2), fun z => by simp [frE] at z⟩
  | sub a i iha ihi =>
    refine ⟨fun ρ σ st hn hr hs => ?_, nL _ fun ρ h => by simp [sL] at h, nI _ fun ρ h => by simp [sI] at h⟩
    simp only [sE] at hs
    obtain ⟨u1, s1, e1, g1, r1, _⟩ := iha.1 ρ σ st hn hr hs.1
    obtain ⟨u2, s2, e2, g2, r2, _⟩ := ihi.1 ρ σ s1 (Nat.le_trans hn g1.len) (hr.grow g1) hs.2.1
    obtain ⟨i1, i2⟩ := items_rv (r1.grow g2) hs.2.2.1
    cases hv : dE F i ρ with
    | int k =>
      rw [hv] at r2
      cases r2.eq rfl
      have hsome := hs.2.2.2.2
      rw [hv] at hsome
      obtain ⟨z, hz⟩ := Option.isSome_iff_exists.mp hsome
      simp only [intT] at hz
      have hzm : z ∈ itemsT (dE F a ρ) := by
        unfold L2.atI at hz
        cases hq : L2.ixN (itemsT (dE F a ρ)).length k with
        | none => rw [hq] at hz; cases hz
        | some j => rw [hq] at hz; exact List.mem_of_getElem? hz
      exact ⟨z, s2, by simp only [evE, e1, e2, Option.bind, subEv, i1, hz, Option.map], g1.trans g2, by simp only [dE, hv, intT, atT, hz, Option.getD]; exact .g (ground_get i2 z hzm), fun z => by simp [frE] at z⟩
    | _ => rw [hv] at hs; simp [isInt] at hs
  | slice m a lo hi iha ihl ihh =>
    refine ⟨fun ρ σ st hn hr hs => ?_, nL _ fun ρ h => by simp [sL] at h, nI _ fun ρ h => by simp [sI] at h⟩
    simp only [sE] at hs
    obtain ⟨u1, s1, e1, g1, r1, _⟩ := iha.1 ρ σ st hn hr hs.1
    obtain ⟨u2, s2, e2, g2, r2⟩ := ihl.2.1 ρ σ s1 (Nat.le_trans hn g1.len) (hr.grow g1) hs.2.1
    obtain ⟨u3, s3, e3, g3, r3⟩ := ihh.2.1 ρ σ s2 (Nat.le_trans hn (g1.trans g2).len) (hr.grow (g1.trans g2)) hs.2.2.1
    cases r2.eq (part_gr hs.2.2.2.2.1)
    cases r3.eq (part_gr hs.2.2.2.2.2)
    obtain ⟨u, s4, e4, g4, r4, f4⟩ := slice_rv (m := m) (Nat.le_trans hn ((g1.trans g2).trans g3).len) (r1.grow (g2.trans g3)) hs.2.2.2.1 hs.2.2.2.2.1 hs.2.2.2.2.2
    exact ⟨u, s4, by simp only [evE, e1, e2, e3, Option.bind, e4], ((g1.trans g2).trans g3).trans g4, by simp only [dE]; exact r4, fun _ l hl => Nat.le_trans ((g1.trans g2).trans g3).len (f4 l hl)⟩
  | revS m a iha =>
    refine ⟨fun ρ σ st hn hr hs => ?_, nL _ fun ρ h => by simp [sL] at h, nI _ fun ρ h => by simp [sI] at h⟩
    simp only [sE] at hs
    obtain ⟨u1, s1, e1, g1, r1, _⟩ := iha.1 ρ σ st hn hr hs.1
    obtain ⟨u, s2, e2, g2, r2, f2⟩ := rev_rv (m := m) (Nat.le_trans hn g1.len) r1 hs.2
    exact ⟨u, s2, by simp only [evE, e1, Option.bind, e2], g1.trans g2, by simp only [dE]; exact r2, fun _ l hl => Nat.le_trans g1.len (f2 l hl)⟩
  | isi a ts iha =>
    refine ⟨fun ρ σ st hn hr hs => ?_, nL _ fun ρ h => by simp [sL] at h, nI _ fun ρ h => by simp [sI] at h⟩
    simp only [sE] at hs
    obtain ⟨u1, s1, e1, g1, r1, _⟩ := iha.1 ρ σ st hn hr hs
    refine ⟨.bl (ts.any (isTy (dE F a ρ))), s1, ?_, g1, by simp only [dE]; exact .g rfl, fun z => by simp [frE] at z⟩
    simp only [evE, e1, Option.bind]
    generalize dE F a ρ = w at r1
    cases r1 with
    | g h => cases u1 <;> first | rfl | simp [PV.ground] at h
    | @m l xs _ _ _ =>
      have : isTy (.ref l) = isTy (.arg xs) := funext fun t => by cases t <;> rfl
      simp only [this]
    | b => rfl
  | lc m it t own q e ihi ihq ihe =>
    refine ⟨fun ρ σ st hn hr hs => ?_, nL _ fun ρ h => by simp [sL] at h, nI _ fun ρ h => by simp [sI] at h⟩
    simp only [sE] at hs
    obtain ⟨w, s1, e1, g1, w1, w2, w3, _⟩ := ihi.2.2 ρ σ st hn hr hs.1
    have hb : ∀ x ∈ dI F it ρ, ∀ st1, Grow s1 st1 → ∃ st2, lcF c t own q e σ x st1 = some (if truthT (dE F q (asT t x (wipeS ρ own))) then some (dE F e (asT t x (wipeS ρ own))) else none, st2) ∧ Grow st1 st2 := fun x hx st1 g2 => by
      obtain ⟨h1, h2, h3, h4⟩ := hs.2 x hx
      obtain ⟨σ', a1, a2⟩ := ((hr.grow (g1.trans g2)).wipe own).asgn h1 (ground_get w2 x hx)
      obtain ⟨u2, s2, e2, g3, r2, _⟩ := ihq.1 _ σ' st1 (Nat.le_trans hn (g1.trans g2).len) a2 h2
      have t2 := truth_rv r2 h3
      cases hk : truthT (dE F q (asT t x (wipeS ρ own))) with
      | false => exact ⟨s2, by simp only [lcF, a1, Option.bind, e2, t2, hk]; rfl, g3⟩
      | true =>
        obtain ⟨h5, h6⟩ := h4 hk
        obtain ⟨u3, s3, e3, g4, r3, _⟩ := ihe.1 _ σ' s2 (Nat.le_trans hn ((g1.trans g2).trans g3).len) (a2.grow g3) h5
        cases r3.eq h6
        exact ⟨s3, by simp only [lcF, a1, Option.bind, e2, t2, hk, if_true, e3, Option.map], g3.trans g4⟩
    obtain ⟨s2, e2, g2⟩ := lc_rv w3 (dI F it ρ) s1 (.refl s1) hb
    obtain ⟨u, s3, e3, g3, r3, f3⟩ := mk_rv (lb := lb) m (Nat.le_trans hn (g1.trans g2).len) (filt_ground (xs := dI F it ρ) fun x hx hp => ((hs.2 x hx).2.2.2 hp).2)
    refine ⟨u, s3, ?_, (g1.trans g2).trans g3, by simp only [dE]; exact r3, fun _ l hl => Nat.le_trans (g1.trans g2).len (f3 l hl)⟩
    rw [evE_lc, e1, kLc_some, w1, e2, kMk_some, e3]
  | lc2 m it t own it2 t2 own2 q e ihi ihi2 ihq ihe =>
    refine ⟨fun ρ σ st hn hr hs => ?_, nL _ fun ρ h => by simp [sL] at h, nI _ fun ρ h => by simp [sI] at h⟩
    simp only [sE] at hs
    obtain ⟨w, s1, e1, g1, w1, w2, w3, _⟩ := ihi.2.2 ρ σ st hn hr hs.1
    have hb : ∀ x ∈ dI F it ρ, ∀ st1, Grow s1 st1 → ∃ st2, (asgn t x (wipeS σ own)).bind (fun σ' => (evI c it2 σ' st1).bind fun w2 => lcM (guardOk w2.1) (lcF c t2 own2 q e σ') w2.1.xs w2.2) = some (((dI F it2 (asT t x (wipeS ρ own))).filter fun y => truthT (dE F q (asT t2 y (wipeS (asT t x (wipeS ρ own)) own2)))).map fun y => dE F e (asT t2 y (wipeS (asT t x (wipeS ρ own)) own2)), st2) ∧ Grow st1 st2 := fun x hx st1 g2 => by
      obtain ⟨h1, h2, h3⟩ := hs.2.1 x hx
      obtain ⟨σ', a1, a2⟩ := ((hr.grow (g1.trans g2)).wipe own).asgn h1 (ground_get w2 x hx)
      obtain ⟨wi, s2, ei, gi, wi1, wi2, wi3, _⟩ := ihi2.2.2 _ σ' st1 (Nat.le_trans hn (g1.trans g2).len) a2 h2
      have hb2 : ∀ y ∈ dI F it2 (asT t x (wipeS ρ own)), ∀ st1, Grow s2 st1 → ∃ st2, lcF c t2 own2 q e σ' y st1 = some (if truthT (dE F q (asT t2 y (wipeS (asT t x (wipeS ρ own)) own2))) then some (dE F e (asT t2 y (wipeS (asT t x (wipeS ρ own)) own2))) else none, st2) ∧ Grow st1 st2 := fun y hy st3 g4 => by
        obtain ⟨k1, k2, k3, k4⟩ := h3 y hy
        obtain ⟨σ2, b1, b2⟩ := ((a2.grow (gi.trans g4)).wipe own2).asgn k1 (ground_get wi2 y hy)
        have hn3 : n0 ≤ st3.length := Nat.le_trans hn (((g1.trans g2).trans gi).trans g4).len
        obtain ⟨u2, s4, e2, g5, r2, _⟩ := ihq.1 _ σ2 st3 hn3 b2 k2
        have t2' := truth_rv r2 k3
        cases hk : truthT (dE F q (asT t2 y (wipeS (asT t x (wipeS ρ own)) own2))) with
        | false => exact ⟨s4, by simp only [lcF, b1, Option.bind, e2, t2', hk]; rfl, g5⟩
        | true =>
          obtain ⟨h5, h6⟩ := k4 hk
          obtain ⟨u3, s5, e3, g6, r3, _⟩ := ihe.1 _ σ2 s4 (Nat.le_trans hn3 g5.len) (b2.grow g5) h5
          cases r3.eq h6
          exact ⟨s5, by simp only [lcF, b1, Option.bind, e2, t2', hk, if_true, e3, Option.map], g5.trans g6⟩
      obtain ⟨s3, e3, g3⟩ := lc_rv wi3 (dI F it2 (asT t x (wipeS ρ own))) s2 (.refl s2) hb2
      exact ⟨s3, by simp only [a1, Option.bind, ei, wi1, e3], gi.trans g3⟩
    obtain ⟨s2, e2, g2⟩ := lcs_rv w3 (dI F it ρ) s1 (.refl s1) hb
    have hgr : groundL ((dI F it ρ).flatMap fun x => ((dI F it2 (asT t x (wipeS ρ own))).filter fun y => truthT (dE F q (asT t2 y (wipeS (asT t x (wipeS ρ own)) own2)))).map fun y => dE F e (asT t2 y (wipeS (asT t x (wipeS ρ own)) own2))) = true := groundL_of fun z hz => by
      obtain ⟨x, hx, hz⟩ := List.mem_flatMap.mp hz
      exact ground_get (filt_ground fun y hy hp => (((hs.2.1 x hx).2.2 y hy).2.2.2 hp).2) z hz
    obtain ⟨u, s3, e3, g3, r3, f3⟩ := mk_rv (lb := lb) m (Nat.le_trans hn (g1.trans g2).len) hgr
    refine ⟨u, s3, ?_, (g1.trans g2).trans g3, by simp only [dE]; exact r3, fun _ l hl => Nat.le_trans (g1.trans g2).len (f3 l hl)⟩
    have e2' := e2
    rw [← w1] at e2'
    simp only [evE, e1, Option.bind]
    have e4 := e2'
    unfold lcF at e4
    simp only [Option.bind] at e4 ⊢
    rw [e4]
    simp only [w1, hs.2.2, if_true, e3]
  | itr k es ih =>
    refine ⟨nE _ fun ρ h => by simp [sE] at h, nL _ fun ρ h => by simp [sL] at h, fun ρ σ st hn hr hs => ?_⟩
    simp only [sI] at hs
    obtain ⟨us, s1, e1, g1, r1⟩ := ih.2.1 ρ σ st hn hr hs.1
    obtain ⟨w, h1, h2, h3, h4, h5⟩ := wk_rv r1 hs.2
    exact ⟨w, s1, by simp only [evI, e1, Option.bind, h1, Option.map], g1, by simp only [dI]; exact h2, by simp only [dI]; exact h3, h4, h5⟩
  | append o e _ _ => exact ⟨nE _ fun ρ h => by simp [sE] at h, nL _ fun ρ h => by simp [sL] at h, nI _ fun ρ h => by simp [sI] at h⟩
  | extend o e _ _ => exact ⟨nE _ fun ρ h => by simp [sE] at h, nL _ fun ρ h => by simp [sL] at h, nI _ fun ρ h => by simp [sI] at h⟩
  | pop o e _ _ => exact ⟨nE _ fun ρ h => by simp [sE] at h, nL _ fun ρ h => by simp [sL] at h, nI _ fun ρ h => by simp [sI] at h⟩
  | pop0 o _ => exact ⟨nE _ fun ρ h => by simp [sE] at h, nL _ fun ρ h => by simp [sL] at h, nI _ fun ρ h => by simp [sI] at h⟩
end
end Dn

/-! statements: the total words, what must hold -/
namespace Dn
open PySem Ev
inductive T where
  | bad | skip
  | seq (a b : T)
  | asg (t : Tg) (e : E)
  | set_ (i : Nat) (x e : E)
  | aug (i : Nat) (o : BOp) (e : E)
  | app (i : Nat) (e : E)
  | ext (i : Nat) (e : E)
  | pop (t : Tg) (i : Nat) (x : E)
  | pop0 (t : Tg) (i : Nat)
  | appPop (i j : Nat) (x : E)
  | asgM (is : List Nat) (es : E)
  | exp (e : E)
  | ite (c : E) (a b : T)
  | for_ (it : E) (t : Tg) (b : T) (fg : List Nat)
  | whl (c : E) (b : T) (fg : List Nat)
  | ret (e : E)
  | brk | cnt
/-! which names a loop may forget (no proof rests on it) -/
def vsE : E → List Nat
  | .var i => [i]
  | .bin _ _ a b => vsE a ++ vsE b
  | .cmp _ a b => vsE a ++ vsE b
  | .chain _ _ a b c => vsE a ++ vsE b ++ vsE c
  | .and a b => vsE a ++ vsE b
  | .or a b => vsE a ++ vsE b
  | .not a => vsE a
  | .neg a => vsE a
  | .ite c a b => vsE c ++ vsE a ++ vsE b
  | .tup es => vsE es
  | .lst _ es => vsE es
  | .cons e es => vsE e ++ vsE es
  | .star e es => vsE e ++ vsE es
  | .call _ es => vsE es
  | .callz _ es => vsE es
  | .callk _ es ks _ _ _ => vsE es ++ vsE ks
  | .bi _ _ es => vsE es
  | .listI _ it => vsE it
  | .tupI it => vsE it
  | .sub a i => vsE a ++ vsE i
  | .slice _ a lo hi => vsE a ++ vsE lo ++ vsE hi
  | .revS _ a => vsE a
  | .isi a _ => vsE a
  | .lc _ it _ own q e => vsE it ++ (vsE q ++ vsE e).filter fun i => !own.contains i
  | .lc2 _ it _ own it2 _ own2 q e => vsE it ++ (vsE it2 ++ vsE q ++ vsE e).filter fun i => !(own ++ own2).contains i
  | .itr _ es => vsE es
  | .append o e => vsE o ++ vsE e
  | .extend o e => vsE o ++ vsE e
  | .pop o i => vsE o ++ vsE i
  | .pop0 o => vsE o
  | _ => []
def dfS : S → List Nat
  | .seq a b => dfS a ++ dfS b
  | .asg t _ => tgs t
  | .ite _ a b => (dfS a).filter fun i => (dfS b).contains i
  | _ => []
def ueS : S → List Nat
  | .seq a b => ueS a ++ (ueS b).filter fun i => !(dfS a).contains i
  | .asg _ e => vsE e
  | .asgSub o i e => vsE o ++ vsE i ++ vsE e
  | .aug i _ e => i :: vsE e
  | .exp e => vsE e
  | .ite c a b => vsE c ++ ueS a ++ ueS b
  | .for_ it t b => vsE it ++ (ueS b).filter fun i => !(tgs t).contains i
  | .whl c b => vsE c ++ ueS b
  | .ret e => vsE e
  | _ => []
def asgS : S → List Nat
  | .seq a b => asgS a ++ asgS b
  | .asg t _ => tgs t
  | .aug i _ _ => [i]
  | .ite _ a b => asgS a ++ asgS b
  | .for_ _ t b => tgs t ++ asgS b
  | .whl _ b => asgS b
  | _ => []
def nub : List Nat → List Nat
  | [] => []
  | x :: r => if (nub r).contains x then nub r else x :: nub r
def mE : E → Bool
  | .lst m _ => m
  | .bin m _ _ _ => m
  | .bi m _ _ => m
  | .lc m _ _ _ _ _ => m
  | .lc2 m _ _ _ _ _ _ _ _ => m
  | .listI m _ => m
  | .slice m _ _ _ => m
  | .revS m _ => m
  | .ite _ a b => mE a || mE b
  | _ => false
def hasM : E → Bool
  | .cons e es => mE e || hasM es
  | _ => false
def ann : List Nat → S → T
  | _, .bad => .bad
  | _, .skip => .skip
  | lo, .seq a b => .seq (ann (ueS b ++ lo) a) (ann lo b)
  | _, .asg t e => match e with
    | .pop0 o => match o with
      | .var i => .pop0 t i
      | _ => .bad
    | .pop o x => match o with
      | .var i => .pop t i x
      | _ => .bad
    | .tup es => match t with
      | .many is => if hasM es then .asgM is es else .asg (.many is) (.tup es)
      | .one i => .asg (.one i) (.tup es)
    | e => .asg t e
  | _, .asgSub o x e => match o with
    | .var i => .set_ i x e
    | _ => .bad
  | _, .aug i o e => .aug i o e
  | _, .exp e => match e with
    | .append o e => match o with
      | .var i => match e with
        | .pop o2 x => match o2 with
          | .var j => .appPop i j x
          | _ => .bad
        | e => .app i e
      | _ => .bad
    | .extend o e => match o with
      | .var i => .ext i e
      | _ => .bad
    | e => .exp e
  | lo, .ite c a b => .ite c (ann lo a) (ann lo b)
  | lo, .for_ it t b => let H := ((ueS b).filter fun i => !(tgs t).contains i) ++ lo
    .for_ it t (ann H b) (nub ((tgs t ++ asgS b).filter fun i => !H.contains i))
  | lo, .whl c b => let H := vsE c ++ ueS b ++ lo
    .whl c (ann H b) (nub ((asgS b).filter fun i => !H.contains i))
  | _, .ret e => .ret e
  | _, .brk => .brk
  | _, .cnt => .cnt
abbrev R := Fl × Slots
def seqT (r : R) (k : Slots → R) : R := match r with
  | (.nx, ρ) => k ρ
  | r => r
def nxS (r : R) (k : Slots → Prop) : Prop := match r with
  | (.nx, ρ) => k ρ
  | _ => True
/-- a turn's end -/
def nrm (fg : List Nat) (r : R) : R := match r with
  | (.nx, ρ) => (.nx, wipeS ρ fg)
  | (.ct, ρ) => (.nx, wipeS ρ fg)
  | (.bk, ρ) => (.bk, wipeS ρ fg)
  | (.rt v, _) => (.rt v, [])
def forT (fg : List Nat) (f : PV → Slots → R) : List PV → Slots → R
  | [], ρ => (.nx, ρ)
  | x :: r, ρ => match nrm fg (f x ρ) with
    | (.nx, ρ') => forT fg f r ρ'
    | (.ct, ρ') => (.nx, ρ')
    | (.bk, ρ') => (.nx, ρ')
    | (.rt v, ρ') => (.rt v, ρ')
def forS (fg : List Nat) (f : PV → Slots → R) (g : PV → Slots → Prop) : List PV → Slots → Prop
  | [], _ => True
  | x :: r, ρ => g x ρ ∧ match nrm fg (f x ρ) with
    | (.nx, ρ') => forS fg f g r ρ'
    | _ => True
def whT (fg : List Nat) (q : Slots → Bool) (f : Slots → R) : Nat → Slots → R
  | 0, ρ => (.nx, ρ)
  | n + 1, ρ => if q ρ then (match nrm fg (f ρ) with
    | (.nx, ρ') => whT fg q f n ρ'
    | (.ct, ρ') => (.nx, ρ')
    | (.bk, ρ') => (.nx, ρ')
    | (.rt v, ρ') => (.rt v, ρ')) else (.nx, ρ)
def whS (fg : List Nat) (q : Slots → Bool) (qs : Slots → Prop) (f : Slots → R) (g : Slots → Prop) : Nat → Slots → Prop
  | 0, _ => False
  | n + 1, ρ => qs ρ ∧ (q ρ = true → g ρ ∧ match nrm fg (f ρ) with
    | (.nx, ρ') => whS fg q qs f g n ρ'
    | _ => True)
def argT : PV → List PV
  | .arg xs => xs
  | _ => []
def isArg : PV → Bool
  | .arg _ => true
  | _ => false
def augT (o : BOp) (a b : PV) : PV := match o, a, b with
  | .add, .int i, .int j => .int (i + j)
  | .sub, .int i, .int j => .int (i - j)
  | _, _, _ => .non
def augS (o : BOp) (a b : PV) : Prop := match o, a, b with
  | .add, .int _, .int _ => True
  | .sub, .int _, .int _ => True
  | _, _, _ => False
section
variable (F : Nat → List PV → PV) (P : Nat → List PV → Prop) (wf : Nat)
def sM : E → Slots → Prop
  | .nil, _ => True
  | .cons e es, ρ => sE F P e ρ ∧ ((dE F e ρ).ground = true ∨ (frE e = true ∧ isArg (dE F e ρ) = true)) ∧ sM es ρ
  | _, _ => False
def dT : T → Slots → R
  | .bad, ρ => (.nx, ρ)
  | .skip, ρ => (.nx, ρ)
  | .seq a b, ρ => seqT (dT a ρ) (dT b)
  | .asg t e, ρ => (.nx, asT t (dE F e ρ) ρ)
  | .set_ i x e, ρ => (.nx, ρ.set i (some (.arg ((argT (slotT ρ i)).set ((L2.ixN (argT (slotT ρ i)).length (intT (dE F x ρ))).getD 0) (dE F e ρ)))))
  | .aug i o e, ρ => (.nx, ρ.set i (some (augT o (slotT ρ i) (dE F e ρ))))
  | .app i e, ρ => (.nx, ρ.set i (some (.arg (argT (slotT ρ i) ++ [dE F e ρ]))))
  | .ext i e, ρ => (.nx, ρ.set i (some (.arg (argT (slotT ρ i) ++ itemsT (dE F e ρ)))))
  | .pop t i x, ρ => (.nx, asT t (atT (argT (slotT ρ i)) (intT (dE F x ρ))) (ρ.set i (some (.arg ((argT (slotT ρ i)).eraseIdx ((L2.ixN (argT (slotT ρ i)).length (intT (dE F x ρ))).getD 0))))))
  | .pop0 t i, ρ => (.nx, asT t (atT (argT (slotT ρ i)) (-1)) (ρ.set i (some (.arg (argT (slotT ρ i)).dropLast))))
  | .asgM is es, ρ => (.nx, setManyT is (dL F es ρ) ρ)
  | .appPop i j x, ρ => (.nx, (ρ.set j (some (.arg ((argT (slotT ρ j)).eraseIdx ((L2.ixN (argT (slotT ρ j)).length (intT (dE F x ρ))).getD 0))))).set i (some (.arg (argT (slotT ρ i) ++ [atT (argT (slotT ρ j)) (intT (dE F x ρ))]))))
  | .exp _, ρ => (.nx, ρ)
  | .ite c a b, ρ => if truthT (dE F c ρ) then dT a ρ else dT b ρ
  | .for_ it t b fg, ρ => forT fg (fun x ρ => dT b (asT t x ρ)) (dI F it ρ) (wipeS ρ fg)
  | .whl c b fg, ρ => whT fg (fun ρ => truthT (dE F c ρ)) (fun ρ => dT b ρ) wf (wipeS ρ fg)
  | .ret e, ρ => (.rt (dE F e ρ), [])
  | .brk, ρ => (.bk, ρ)
  | .cnt, ρ => (.ct, ρ)
def sT : T → Slots → Prop
  | .bad, _ => False
  | .skip, _ => True
  | .seq a b, ρ => sT a ρ ∧ nxS (dT F wf a ρ) (sT b)
  | .asg t e, ρ => sE F P e ρ ∧ asS t (dE F e ρ) ∧ ((dE F e ρ).ground = true ∨ (frE e = true ∧ isArg (dE F e ρ) = true ∧ ∃ i, t = .one i))
  | .set_ i x e, ρ => sE F P e ρ ∧ (dE F e ρ).ground = true ∧ isArg (slotT ρ i) = true ∧ sE F P x ρ ∧ isInt (dE F x ρ) = true ∧ (L2.ixN (argT (slotT ρ i)).length (intT (dE F x ρ))).isSome = true
  | .aug i o e, ρ => slotS ρ i ∧ sE F P e ρ ∧ augS o (slotT ρ i) (dE F e ρ)
  | .app i e, ρ => isArg (slotT ρ i) = true ∧ sE F P e ρ ∧ (dE F e ρ).ground = true ∧ (argT (slotT ρ i)).length < lim
  | .ext i e, ρ => isArg (slotT ρ i) = true ∧ sE F P e ρ ∧ (dE F e ρ).ground = true ∧ isLst (dE F e ρ) = true ∧ (argT (slotT ρ i)).length + (itemsT (dE F e ρ)).length ≤ lim
  | .pop t i x, ρ => isArg (slotT ρ i) = true ∧ sE F P x ρ ∧ isInt (dE F x ρ) = true ∧ (L2.ixN (argT (slotT ρ i)).length (intT (dE F x ρ))).isSome = true ∧ asS t (atT (argT (slotT ρ i)) (intT (dE F x ρ)))
  | .pop0 t i, ρ => isArg (slotT ρ i) = true ∧ argT (slotT ρ i) ≠ [] ∧ asS t (atT (argT (slotT ρ i)) (-1))
  | .asgM is es, ρ => sM F P es ρ ∧ (dL F es ρ).length = is.length ∧ is.length ≤ lim
  | .appPop i j x, ρ => i ≠ j ∧ isArg (slotT ρ i) = true ∧ isArg (slotT ρ j) = true ∧ sE F P x ρ ∧ isInt (dE F x ρ) = true ∧ (L2.ixN (argT (slotT ρ j)).length (intT (dE F x ρ))).isSome = true ∧ (argT (slotT ρ i)).length < lim
  | .exp e, ρ => sE F P e ρ
  | .ite c a b, ρ => sE F P c ρ ∧ truthS (dE F c ρ) ∧ (truthT (dE F c ρ) = true → sT a ρ) ∧ (truthT (dE F c ρ) = false → sT b ρ)
  | .for_ it t b fg, ρ => sI F P it ρ ∧ (match it with | .itr _ es => groundL (dL F es ρ) = true | _ => True) ∧ forS fg (fun x ρ => dT F wf b (asT t x ρ)) (fun x ρ => asS t x ∧ sT b (asT t x ρ)) (dI F it ρ) (wipeS ρ fg)
  | .whl c b fg, ρ => whS fg (fun ρ => truthT (dE F c ρ)) (fun ρ => sE F P c ρ ∧ truthS (dE F c ρ)) (fun ρ => dT F wf b ρ) (fun ρ => sT b ρ) wf (wipeS ρ fg)
  | .ret e, ρ => sE F P e ρ
  | .brk, _ => True
  | .cnt, _ => True
end
structure Gn where
  np : Nat
  ns : Nat
  body : T
def finT (r : R) : PV := match r with
  | (.rt v, _) => frz v
  | _ => .non
def finS (r : R) : Prop := match r with
  | (.rt v, _) => isArg v = true ∨ v.ground = true
  | (.nx, _) => True
  | _ => False
def startS (g : Gn) (vs : List PV) : Slots := vs.map some ++ List.replicate (g.ns - g.np) none
def dCall (gs : List Gn) (wf : Nat) : Nat → Nat → List PV → PV
  | 0, _, _ => .non
  | n + 1, f, vs => match gs[f]? with
    | some g => finT (dT (dCall gs wf n) wf g.body (startS g vs))
    | none => .non
def sCall (gs : List Gn) (wf : Nat) : Nat → Nat → List PV → Prop
  | 0, _, _ => False
  | n + 1, f, vs => match gs[f]? with
    | some g => vs.length = g.np ∧ groundL vs = true ∧ sT (dCall gs wf n) (sCall gs wf n) wf g.body (startS g vs) ∧ finS (dT (dCall gs wf n) wf g.body (startS g vs))
    | none => False
def toG (d : Fn) : Gn := if d.gc then ⟨d.np, d.ns, ann [] d.body⟩ else ⟨d.np, d.ns, .bad⟩
end Dn

/-! statements: the evaluator gives what the total words tell -/
namespace Dn
open PySem Ev
structure Kp (n0 : Nat) (st st' : Sto) : Prop where
  len : st.length ≤ st'.length
  low : ∀ l, l < n0 → st'[l]? = st[l]?
theorem Kp.refl (n0 : Nat) (st : Sto) : Kp n0 st st := ⟨Nat.le_refl _, fun _ _ => rfl⟩
theorem Kp.trans {n0 : Nat} {a b c : Sto} (h : Kp n0 a b) (h' : Kp n0 b c) : Kp n0 a c := ⟨Nat.le_trans h.len h'.len, fun l hl => (h'.low l hl).trans (h.low l hl)⟩
theorem Grow.kp {n0 : Nat} {a b : Sto} (h : Grow a b) (hn : n0 ≤ a.length) : Kp n0 a b := by
  refine ⟨h.len, fun l hl => ?_⟩
  obtain ⟨x, rfl⟩ := h
  rw [List.getElem?_append_left (by omega)]
def OutT (n0 lb : Nat) (st' : Sto) (r : R) (fl : Fl) (σ' : Slots) : Prop := match r, fl with
  | (.nx, ρ'), .nx => SR n0 lb st' ρ' σ'
  | (.bk, ρ'), .bk => SR n0 lb st' ρ' σ'
  | (.ct, ρ'), .ct => SR n0 lb st' ρ' σ'
  | (.rt v, _), .rt u => RV n0 lb st' v u
  | _, _ => False
section
variable {n0 lb : Nat} {st st' : Sto} {ρ σ : Slots} {v u : PV} {vs us xs ys : List PV}
theorem slot_some {i : Nat} (h : slotS ρ i) : ρ[i]? = some (some (slotT ρ i)) := by
  unfold slotS at h
  split at h
  · rename_i v hv; simp only [slotT, hv]
  · cases h
theorem arg_some {i : Nat} (h : isArg (slotT ρ i) = true) : ρ[i]? = some (some (.arg (argT (slotT ρ i)))) := by
  unfold slotT at h ⊢
  split at h
  · rename_i v hv
    cases v <;> simp [isArg] at h
    simpa [argT] using hv
  · simp [isArg] at h
theorem SR.fresh (h : SR n0 lb st ρ σ) (g : Grow st st') (i l : Nat) (hl : st.length ≤ l) (hr : RV n0 lb st' (.arg xs) (.ref l)) : SR n0 lb st' (ρ.set i (some (.arg xs))) (σ.set i (some (.ref l))) := by
  have h' := h.grow g
  have key : ∀ (j : Nat) w, (ρ.set i (some (.arg xs)))[j]? = some (some w) → (i = j ∧ w = .arg xs ∧ i < ρ.length) ∨ (i ≠ j ∧ ρ[j]? = some (some w)) := fun j w e => by
    by_cases hij : i = j
    · subst hij
      rw [List.getElem?_set] at e
      simp only [if_true] at e
      split at e
      · rename_i hl; cases e; exact .inl ⟨rfl, rfl, hl⟩
      · cases e
    · rw [List.getElem?_set_ne hij] at e
      exact .inr ⟨hij, e⟩
  have old : ∀ (j : Nat) ys l', ρ[j]? = some (some (.arg ys)) → σ[j]? = some (some (.ref l')) → l' < st.length := fun j ys l' e1 e2 => by
    obtain ⟨u, h1, h2⟩ := h.at_ j _ e1
    rw [e2] at h1
    cases h1
    cases h2 with
    | m _ hm _ => exact (List.getElem?_eq_some_iff.mp hm).1
  refine ⟨by simp [h.len], fun j w e => ?_, fun j k xs' ys l' hjk e1 e2 e3 e4 => ?_⟩
  · rcases key j w e with ⟨rfl, rfl, hlt⟩ | ⟨hij, e⟩
    · exact ⟨.ref l, by rw [List.getElem?_set_self (by rw [← h.len]; exact hlt)], hr⟩
    · obtain ⟨u, h1, h2⟩ := h'.at_ j w e
      exact ⟨u, by rw [List.getElem?_set_ne hij]; exact h1, h2⟩
  · rcases key j _ e1 with ⟨rfl, _, hlt⟩ | ⟨hij, e1⟩
    · rcases key k _ e2 with ⟨rfl, _, _⟩ | ⟨hik, e2⟩
      · exact hjk rfl
      · rw [List.getElem?_set_self (by rw [← h.len]; exact hlt)] at e3
        cases e3
        rw [List.getElem?_set_ne hik] at e4
        have := old k ys l e2 e4
        omega
    · rw [List.getElem?_set_ne hij] at e3
      rcases key k _ e2 with ⟨rfl, _, hlt⟩ | ⟨hik, e2⟩
      · rw [List.getElem?_set_self (by rw [← h.len]; exact hlt)] at e4
        cases e4
        have := old j xs' l e1 e3
        omega
      · rw [List.getElem?_set_ne hik] at e4
        exact h.dis j k xs' ys l' hjk e1 e2 e3 e4
theorem SR.fresh2 (h : SR n0 lb st ρ σ) (i l : Nat) (hl : ∀ (j : Nat) ys l', ρ[j]? = some (some (.arg ys)) → σ[j]? = some (some (.ref l')) → l' ≠ l) (hr : RV n0 lb st (.arg xs) (.ref l)) : SR n0 lb st (ρ.set i (some (.arg xs))) (σ.set i (some (.ref l))) := by
  have h' := h
  have key : ∀ (j : Nat) w, (ρ.set i (some (.arg xs)))[j]? = some (some w) → (i = j ∧ w = .arg xs ∧ i < ρ.length) ∨ (i ≠ j ∧ ρ[j]? = some (some w)) := fun j w e => by
    by_cases hij : i = j
    · subst hij
      rw [List.getElem?_set] at e
      simp only [if_true] at e
      split at e
      · rename_i hl; cases e; exact .inl ⟨rfl, rfl, hl⟩
      · cases e
    · rw [List.getElem?_set_ne hij] at e
      exact .inr ⟨hij, e⟩
  refine ⟨by simp [h.len], fun j w e => ?_, fun j k xs' ys l' hjk e1 e2 e3 e4 => ?_⟩
  · rcases key j w e with ⟨rfl, rfl, hlt⟩ | ⟨hij, e⟩
    · exact ⟨.ref l, by rw [List.getElem?_set_self (by rw [← h.len]; exact hlt)], hr⟩
    · obtain ⟨u, h1, h2⟩ := h'.at_ j w e
      exact ⟨u, by rw [List.getElem?_set_ne hij]; exact h1, h2⟩
  · rcases key j _ e1 with ⟨rfl, _, hlt⟩ | ⟨hij, e1⟩
    · rcases key k _ e2 with ⟨rfl, _, _⟩ | ⟨hik, e2⟩
      · exact hjk rfl
      · rw [List.getElem?_set_self (by rw [← h.len]; exact hlt)] at e3
        cases e3
        rw [List.getElem?_set_ne hik] at e4
        exact hl k ys l e2 e4 rfl
    · rw [List.getElem?_set_ne hij] at e3
      rcases key k _ e2 with ⟨rfl, _, hlt⟩ | ⟨hik, e2⟩
      · rw [List.getElem?_set_self (by rw [← h.len]; exact hlt)] at e4
        cases e4
        exact hl j xs' l e1 e3 rfl
      · rw [List.getElem?_set_ne hik] at e4
        exact h.dis j k xs' ys l' hjk e1 e2 e3 e4
theorem SR.mut (h : SR n0 lb st ρ σ) {i l : Nat} (hi : ρ[i]? = some (some (.arg xs))) (hs : σ[i]? = some (some (.ref l))) (hl : n0 ≤ l) (hll : l < st.length) (hg : groundL ys = true) :
    SR n0 lb (st.set l (.lst ys)) (ρ.set i (some (.arg ys))) σ := by
  have hil : i < ρ.length := (List.getElem?_eq_some_iff.mp hi).1
  have key : ∀ (j : Nat) w, (ρ.set i (some (.arg ys)))[j]? = some (some w) → (i = j ∧ w = .arg ys) ∨ (i ≠ j ∧ ρ[j]? = some (some w)) := fun j w e => by
    by_cases hij : i = j
    · subst hij
      rw [List.getElem?_set_self hil] at e
      cases e; exact .inl ⟨rfl, rfl⟩
    · rw [List.getElem?_set_ne hij] at e
      exact .inr ⟨hij, e⟩
  refine ⟨by simp [h.len], fun j w e => ?_, fun j k xs' ys' l' hjk e1 e2 e3 e4 => ?_⟩
  · rcases key j w e with ⟨rfl, rfl⟩ | ⟨hij, e⟩
    · exact ⟨.ref l, hs, .m hl (by rw [List.getElem?_set_self hll]) hg⟩
    · obtain ⟨u, h1, h2⟩ := h.at_ j w e
      refine ⟨u, h1, ?_⟩
      cases h2 with
      | g hg => exact .g hg
      | @m l2 xs2 a1 a2 a3 =>
        have : l2 ≠ l := fun z => by subst z; exact h.dis i j xs xs2 l2 hij hi e hs h1
        exact .m a1 (by rw [List.getElem?_set_ne (Ne.symm this)]; exact a2) a3
      | b => exact .b
  · have g1 : ∃ zs, ρ[j]? = some (some (.arg zs)) := by
      rcases key j _ e1 with ⟨rfl, _⟩ | ⟨_, e1⟩
      · exact ⟨xs, hi⟩
      · exact ⟨xs', e1⟩
    have g2 : ∃ zs, ρ[k]? = some (some (.arg zs)) := by
      rcases key k _ e2 with ⟨rfl, _⟩ | ⟨_, e2⟩
      · exact ⟨xs, hi⟩
      · exact ⟨ys', e2⟩
    obtain ⟨z1, q1⟩ := g1
    obtain ⟨z2, q2⟩ := g2
    exact h.dis j k z1 z2 l' hjk q1 q2 e3 e4
/-- a mutable name -/
theorem SR.argAt (h : SR n0 lb st ρ σ) {i : Nat} (hi : ρ[i]? = some (some (.arg xs))) : ∃ l, σ[i]? = some (some (.ref l)) ∧ n0 ≤ l ∧ st[l]? = some (.lst xs) ∧ groundL xs = true ∧ l < st.length := by
  obtain ⟨u, h1, h2⟩ := h.at_ i _ hi
  cases h2 with
  | g hg => simp [PV.ground] at hg
  | m a1 a2 a3 => exact ⟨_, h1, a1, a2, a3, (List.getElem?_eq_some_iff.mp a2).1⟩
theorem kp_set {l : Nat} (c : Cell) (hl : n0 ≤ l) : Kp n0 st (st.set l c) := ⟨by simp, fun j hj => by rw [List.getElem?_set_ne (by omega)]⟩
theorem nrm_out {fg : List Nat} {r : R} {fl : Fl} (h : OutT n0 lb st r fl σ) : (∃ ρ', nrm fg r = (.nx, ρ') ∧ (fl = .nx ∨ fl = .ct) ∧ SR n0 lb st ρ' σ) ∨ (∃ ρ', nrm fg r = (.bk, ρ') ∧ fl = .bk ∧ SR n0 lb st ρ' σ) ∨ (∃ v u, nrm fg r = (.rt v, []) ∧ fl = .rt u ∧ RV n0 lb st v u) := by
  obtain ⟨rf, ρ'⟩ := r
  cases rf <;> cases fl <;> simp only [OutT] at h
  · exact .inl ⟨_, rfl, .inl rfl, h.wipeL fg⟩
  · exact .inr (.inl ⟨_, rfl, rfl, h.wipeL fg⟩)
  · exact .inl ⟨_, rfl, .inr rfl, h.wipeL fg⟩
  · exact .inr (.inr ⟨_, _, rfl, rfl, h⟩)
theorem for_rv {ok : Sto → Bool} {f : PV → Slots → Sto → Option (Fl × Slots × Sto)} {fg : List Nat} {fT : PV → Slots → R} {gT : PV → Slots → Prop} (hok : ∀ s, ok s = true)
    (hf : ∀ x ρ σ st, n0 ≤ st.length → x.ground = true → SR n0 lb st ρ σ → gT x ρ → ∃ fl σ' st', f x σ st = some (fl, σ', st') ∧ Kp n0 st st' ∧ OutT n0 lb st' (fT x ρ) fl σ') :
    ∀ (xs : List PV) (ρ σ : Slots) (st : Sto), n0 ≤ st.length → groundL xs = true → SR n0 lb st ρ σ → forS fg fT gT xs ρ → ∃ fl σ' st', forM ok f xs σ st = some (fl, σ', st') ∧ Kp n0 st st' ∧ OutT n0 lb st' (forT fg fT xs ρ) fl σ'
  | [], ρ, σ, st, _, _, hr, _ => ⟨.nx, σ, st, by simp [Ev.forM, hok], .refl _ _, hr⟩
  | x :: r, ρ, σ, st, hn, hg, hr, hs => by
    simp only [groundL, Bool.and_eq_true] at hg
    obtain ⟨h1, h2⟩ := hs
    obtain ⟨fl, σ1, s1, e1, k1, o1⟩ := hf x ρ σ st hn hg.1 hr h1
    rcases nrm_out (fg := fg) o1 with ⟨ρ', n1, n2, n3⟩ | ⟨ρ', n1, n2, n3⟩ | ⟨v, u, n1, n2, n3⟩
    · rw [n1] at h2
      obtain ⟨fl2, σ2, s2, e2, k2, o2⟩ := for_rv hok hf r ρ' σ1 s1 (Nat.le_trans hn k1.len) hg.2 n3 h2
      refine ⟨fl2, σ2, s2, ?_, k1.trans k2, by simp only [forT, n1]; exact o2⟩
      rcases n2 with rfl | rfl <;> simp only [Ev.forM, hok, if_true, e1, Option.bind, e2]
    · subst n2
      exact ⟨.nx, σ1, s1, by simp only [Ev.forM, hok, if_true, e1, Option.bind], k1, by simp only [forT, n1]; exact n3⟩
    · subst n2
      exact ⟨.rt u, σ1, s1, by simp only [Ev.forM, hok, if_true, e1, Option.bind], k1, by simp only [forT, n1]; exact n3⟩
theorem wh_rv {q : Slots → Sto → Option (Bool × Sto)} {f : Slots → Sto → Option (Fl × Slots × Sto)} {fg : List Nat} {qT : Slots → Bool} {qS : Slots → Prop} {fT : Slots → R} {gT : Slots → Prop}
    (hq : ∀ ρ σ st, n0 ≤ st.length → SR n0 lb st ρ σ → qS ρ → ∃ st', q σ st = some (qT ρ, st') ∧ Grow st st')
    (hf : ∀ ρ σ st, n0 ≤ st.length → SR n0 lb st ρ σ → gT ρ → ∃ fl σ' st', f σ st = some (fl, σ', st') ∧ Kp n0 st st' ∧ OutT n0 lb st' (fT ρ) fl σ') :
    ∀ (n : Nat) (ρ σ : Slots) (st : Sto), n0 ≤ st.length → SR n0 lb st ρ σ → whS fg qT qS fT gT n ρ → ∃ fl σ' st', whM q f n σ st = some (fl, σ', st') ∧ Kp n0 st st' ∧ OutT n0 lb st' (whT fg qT fT n ρ) fl σ'
  | 0, _, _, _, _, _, hs => hs.elim
  | n + 1, ρ, σ, st, hn, hr, hs => by
    obtain ⟨h1, h2⟩ := hs
    obtain ⟨s1, e1, g1⟩ := hq ρ σ st hn hr h1
    cases hk : qT ρ with
    | false => exact ⟨.nx, σ, s1, by simp only [whM, e1, Option.bind, hk]; rfl, g1.kp hn, by simp only [whT, hk]; exact hr.grow g1⟩
    | true =>
      obtain ⟨h3, h4⟩ := h2 hk
      obtain ⟨fl, σ1, s2, e2, k2, o2⟩ := hf ρ σ s1 (Nat.le_trans hn g1.len) (hr.grow g1) h3
      have k12 := (g1.kp hn).trans k2
      rcases nrm_out (fg := fg) o2 with ⟨ρ', n1, n2, n3⟩ | ⟨ρ', n1, n2, n3⟩ | ⟨v, u, n1, n2, n3⟩
      · rw [n1] at h4
        obtain ⟨fl2, σ2, s3, e3, k3, o3⟩ := wh_rv hq hf n ρ' σ1 s2 (Nat.le_trans hn k12.len) n3 h4
        refine ⟨fl2, σ2, s3, ?_, k12.trans k3, by simp only [whT, hk, if_true, n1]; exact o3⟩
        rcases n2 with rfl | rfl <;> simp only [whM, e1, Option.bind, hk, if_true, e2, e3]
      · subst n2
        exact ⟨.nx, σ1, s2, by simp only [whM, e1, Option.bind, hk, if_true, e2], k12, by simp only [whT, hk, if_true, n1]; exact n3⟩
      · subst n2
        exact ⟨.rt u, σ1, s2, by simp only [whM, e1, Option.bind, hk, if_true, e2], k12, by simp only [whT, hk, if_true, n1]; exact n3⟩
end
section
variable {c : Cf} {F : Nat → List PV → PV} {P : Nat → List PV → Prop} {n0 lb : Nat}
def AT (c : Cf) (F : Nat → List PV → PV) (P : Nat → List PV → Prop) (n0 lb : Nat) (s : S) : Prop := ∀ lo ρ σ st, n0 ≤ st.length → SR n0 lb st ρ σ → sT F P c.wf (ann lo s) ρ →
  ∃ fl σ' st', evS c s σ st = some (fl, σ', st') ∧ Kp n0 st st' ∧ OutT n0 lb st' (dT F c.wf (ann lo s) ρ) fl σ'
theorem asg_ok (hc : CallOk c F P) {t : Tg} {e : E} {ρ σ : Slots} {st : Sto} (hn : n0 ≤ st.length) (hr : SR n0 lb st ρ σ) (hs : sT F P c.wf (.asg t e) ρ) :
    ∃ fl σ' st', evS c (.asg t e) σ st = some (fl, σ', st') ∧ Kp n0 st st' ∧ OutT n0 lb st' (dT F c.wf (.asg t e) ρ) fl σ' := by
  simp only [sT] at hs
  obtain ⟨u, s1, e1, g1, r1, f1⟩ := (den_ok (n0 := n0) (lb := lb) hc e).1 ρ σ st hn hr hs.1
  rcases hs.2.2 with hg | ⟨h1, h2, i, rfl⟩
  · cases r1.eq hg
    obtain ⟨σ', a1, a2⟩ := (hr.grow g1).asgn hs.2.1 hg
    exact ⟨.nx, σ', s1, by simp only [evS, e1, Option.bind, a1, Option.map], g1.kp hn, by simp only [dT, OutT]; exact a2⟩
  · cases hv : dE F e ρ with
    | arg xs =>
      rw [hv] at r1
      cases r1 with
      | g hg => simp [PV.ground] at hg
      | @m l _ m1 m2 m3 =>
        refine ⟨.nx, σ.set i (some (.ref l)), s1, by simp only [evS, e1, Option.bind, asgn, Option.map], g1.kp hn, ?_⟩
        simp only [dT, asT, hv, OutT]
        exact hr.fresh g1 i l (f1 h1 l rfl) (.m m1 m2 m3)
    | _ => rw [hv] at h2; simp [isArg] at h2
theorem exp_ok (hc : CallOk c F P) {e : E} {ρ σ : Slots} {st : Sto} (hn : n0 ≤ st.length) (hr : SR n0 lb st ρ σ) (hs : sT F P c.wf (.exp e) ρ) :
    ∃ fl σ' st', evS c (.exp e) σ st = some (fl, σ', st') ∧ Kp n0 st st' ∧ OutT n0 lb st' (dT F c.wf (.exp e) ρ) fl σ' := by
  simp only [sT] at hs
  obtain ⟨u, s1, e1, g1, r1, f1⟩ := (den_ok (n0 := n0) (lb := lb) hc e).1 ρ σ st hn hr hs
  exact ⟨.nx, σ, s1, by simp only [evS, e1, Option.map], g1.kp hn, by simp only [dT, OutT]; exact hr.grow g1⟩
theorem erase_ground {xs : List PV} (h : groundL xs = true) (j : Nat) : groundL (xs.eraseIdx j) = true := groundL_of fun x hx => ground_get h x (List.mem_of_mem_eraseIdx hx)
theorem appPop_run {i j : Nat} {k : Int} {ρ σ : Slots} {st : Sto} (hr : SR n0 lb st ρ σ) (h0 : i ≠ j) (h1 : isArg (slotT ρ i) = true) (h1' : isArg (slotT ρ j) = true) (h4 : (L2.ixN (argT (slotT ρ j)).length (intT (.int k))).isSome = true) (h6 : (argT (slotT ρ i)).length < lim) :
    ∃ q, (∃ li lj, σ[i]? = some (some (.ref li)) ∧ σ[j]? = some (some (.ref lj)) ∧ ∃ z s2, popEv (.ref lj) (.int k) st = some (z, s2) ∧ appendEv (.ref li) z s2 = some (.non, q)) ∧ q.length = st.length ∧ Kp n0 st q ∧
      SR n0 lb q ((ρ.set j (some (.arg ((argT (slotT ρ j)).eraseIdx ((L2.ixN (argT (slotT ρ j)).length (intT (.int k))).getD 0))))).set i (some (.arg (argT (slotT ρ i) ++ [atT (argT (slotT ρ j)) (intT (.int k))])))) σ := by
  have hi := arg_some h1
  have hj := arg_some h1'
  obtain ⟨li, l1, l2, l3, l4, l5⟩ := hr.argAt hi
  obtain ⟨lj, k1, k2, k3, k4, k5⟩ := hr.argAt hj
  obtain ⟨p, hp⟩ := Option.isSome_iff_exists.mp h4
  simp only [intT] at hp
  have hpl : p < (argT (slotT ρ j)).length := by
    unfold L2.ixN at hp
    split at hp
    · split at hp
      · cases hp; omega
      · cases hp
    · split at hp
      · cases hp; omega
      · cases hp
  have hz : atT (argT (slotT ρ j)) k = (argT (slotT ρ j))[p] := by
    unfold atT L2.atI
    rw [hp]
    simp only [Option.bind]
    rw [List.getElem?_eq_getElem hpl]; rfl
  have zg : ((argT (slotT ρ j))[p]).ground = true := ground_get k4 _ (List.getElem_mem hpl)
  have m1 := hr.mut hj k1 k2 k5 (erase_ground k4 p)
  have hne : li ≠ lj := fun z => by subst z; exact hr.dis i j _ _ li h0 hi hj l1 k1
  have hi2 : (ρ.set j (some (.arg ((argT (slotT ρ j)).eraseIdx p))))[i]? = some (some (.arg (argT (slotT ρ i)))) := by rw [List.getElem?_set_ne (Ne.symm h0)]; exact hi
  have m2 := m1.mut hi2 l1 l2 (by simpa using l5) (ys := argT (slotT ρ i) ++ [(argT (slotT ρ j))[p]]) (app_ground l4 (by simp [groundL, zg]))
  have l3' : (st.set lj (.lst ((argT (slotT ρ j)).eraseIdx p)))[li]? = some (.lst (argT (slotT ρ i))) := by rw [List.getElem?_set_ne (Ne.symm hne)]; exact l3
  refine ⟨_, ⟨li, lj, l1, k1, (argT (slotT ρ j))[p], st.set lj (.lst ((argT (slotT ρ j)).eraseIdx p)), by simp only [popEv, cell_get k3, hp, Option.bind, List.getElem?_eq_getElem hpl, Option.map], by simp only [appendEv, cell_get l3', zg, h6, decide_true, Bool.and_self, if_true, Option.bind]; rfl⟩, by simp, (kp_set _ k2).trans (kp_set _ l2), ?_⟩
  simp only [intT, hp, hz, Option.getD]
  exact m2
theorem appPop_ok (hc : CallOk c F P) {i j : Nat} {x : E} {ρ σ : Slots} {st : Sto} (hn : n0 ≤ st.length) (hr : SR n0 lb st ρ σ) (h0 : i ≠ j) (h1 : isArg (slotT ρ i) = true) (h1' : isArg (slotT ρ j) = true) (h2 : sE F P x ρ) (h3 : isInt (dE F x ρ) = true) (h4 : (L2.ixN (argT (slotT ρ j)).length (intT (dE F x ρ))).isSome = true) (h6 : (argT (slotT ρ i)).length < lim) :
    ∃ fl σ' st', evS c (.exp (.append (.var i) (.pop (.var j) x))) σ st = some (fl, σ', st') ∧ Kp n0 st st' ∧ OutT n0 lb st' (dT F c.wf (.appPop i j x) ρ) fl σ' := by
  obtain ⟨u, s1, e1, g1, r1, f1⟩ := (den_ok (n0 := n0) (lb := lb) hc x).1 ρ σ st hn hr h2
  have hr1 := hr.grow g1
  cases hv : dE F x ρ with
  | int k =>
    rw [hv] at r1 h4
    cases r1.eq rfl
    obtain ⟨q, o1, o2, o3, o4⟩ := appPop_run (n0 := n0) (lb := lb) hr1 h0 h1 h1' h4 h6
    obtain ⟨li, lj, a1, a2, a3⟩ := o1
    refine ⟨.nx, σ, q, ?_, (g1.kp hn).trans o3, ?_⟩
    · simp only [evS, evE, a1, a2, Option.bind, Option.map, e1]
      obtain ⟨z, s2, p1, p2⟩ := a3
      simp only [p1, p2]
    · simp only [dT, OutT, hv]; exact o4
  | _ => rw [hv] at h3; simp [isInt] at h3
theorem many_ok (hc : CallOk c F P) {ρ σ : Slots} : ∀ (es : E) (is : List Nat) (ρa σa : Slots) (st : Sto), n0 ≤ st.length → SR n0 lb st ρ σ → SR n0 lb st ρa σa → sM F P es ρ → (dL F es ρ).length = is.length →
    ∃ us st' σ', evL c es σ st = some (us, st') ∧ Grow st st' ∧ us.length = is.length ∧ setMany is us σa = some σ' ∧ SR n0 lb st' (setManyT is (dL F es ρ) ρa) σ' := by
  intro es
  induction es with
  | nil =>
    intro is ρa σa st hn hr ha hs hl
    simp only [dL, List.length_nil] at hl
    obtain rfl := List.length_eq_zero_iff.mp hl.symm
    exact ⟨[], st, σa, by simp only [evL], .refl _, rfl, rfl, by simp only [dL]; exact ha⟩
  | cons e es ihe ihs =>
    intro is ρa σa st hn hr ha hs hl
    simp only [sM] at hs
    simp only [dL, List.length_cons] at hl
    cases is with
    | nil => simp at hl
    | cons i is =>
      obtain ⟨u, s1, e1, g1, r1, f1⟩ := (den_ok (n0 := n0) (lb := lb) hc e).1 ρ σ st hn hr hs.1
      have hset : ∃ σ1, σ1 = σa.set i (some u) ∧ SR n0 lb s1 (ρa.set i (some (dE F e ρ))) σ1 := by
        rcases hs.2.1 with hg | ⟨h1, h2⟩
        · cases r1.eq hg
          exact ⟨_, rfl, (ha.grow g1).set i hg⟩
        · cases hv : dE F e ρ with
          | arg xs =>
            rw [hv] at r1
            cases r1 with
            | g hg => simp [PV.ground] at hg
            | @m l _ m1 m2 m3 => exact ⟨_, rfl, ha.fresh g1 i l (f1 h1 l rfl) (.m m1 m2 m3)⟩
          | _ => rw [hv] at h2; simp [isArg] at h2
      obtain ⟨σ1, rfl, hr1⟩ := hset
      obtain ⟨us, s2, σ2, e2, g2, l2, m2, r2⟩ := ihs is _ _ s1 (Nat.le_trans hn g1.len) (hr.grow g1) hr1 hs.2.2 (by simpa using hl)
      exact ⟨u :: us, s2, σ2, by simp only [evL, e1, Option.bind, e2, Option.map], g1.trans g2, by simp [l2], by simp only [setMany]; exact m2, by simp only [dL, setManyT]; exact r2⟩
  | _ => intro is ρa σa st hn hr ha hs hl; simp [sM] at hs
theorem stm_ok (hc : CallOk c F P) : ∀ s : S, AT c F P n0 lb s := by
  have dn := den_ok (n0 := n0) (lb := lb) hc
  intro s
  induction s with
  | bad => intro lo ρ σ st hn hr hs; simp [ann, sT] at hs
  | skip => intro lo ρ σ st hn hr hs; exact ⟨.nx, σ, st, by simp only [evS], .refl _ _, by simp only [ann, dT, OutT]; exact hr⟩
  | seq a b iha ihb =>
    intro lo ρ σ st hn hr hs
    simp only [ann, sT] at hs
    obtain ⟨fl, σ1, s1, e1, k1, o1⟩ := iha _ ρ σ st hn hr hs.1
    have h2 := hs.2
    simp only [ann, dT]
    generalize hd : dT F c.wf (ann (ueS b ++ lo) a) ρ = r at o1 h2
    obtain ⟨rf, ρ1⟩ := r
    cases rf <;> cases fl <;> simp only [OutT] at o1
    · obtain ⟨fl2, σ2, s2, e2, k2, o2⟩ := ihb lo ρ1 σ1 s1 (Nat.le_trans hn k1.len) o1 h2
      exact ⟨fl2, σ2, s2, by simp only [evS, e1, Option.bind, e2], k1.trans k2, o2⟩
    · exact ⟨.bk, σ1, s1, by simp only [evS, e1, Option.bind], k1, o1⟩
    · exact ⟨.ct, σ1, s1, by simp only [evS, e1, Option.bind], k1, o1⟩
    · rename_i _ u
      exact ⟨.rt u, σ1, s1, by simp only [evS, e1, Option.bind], k1, by simp only [seqT, OutT]; exact o1⟩
  | asg t e =>
    intro lo ρ σ st hn hr hs
    unfold ann at hs ⊢
    split at hs
    · split at hs
      · rename_i i
        simp only [sT] at hs
        obtain ⟨h1, h2, h3⟩ := hs
        have ha := arg_some h1
        obtain ⟨l, l1, l2, l3, l4, l5⟩ := hr.argAt ha
        have hx : ∃ z, (argT (slotT ρ i))[(argT (slotT ρ i)).length - 1]? = some z ∧ atT (argT (slotT ρ i)) (-1) = z := by
          have hl : (argT (slotT ρ i)).length ≠ 0 := fun z => h2 (List.length_eq_zero_iff.mp z)
          refine ⟨(argT (slotT ρ i))[(argT (slotT ρ i)).length - 1]'(by omega), by rw [List.getElem?_eq_getElem], ?_⟩
          unfold atT L2.atI L2.ixN
          rw [if_neg (by omega), if_pos (by omega)]
          simp only [Option.bind]
          rw [show (-1 : Int) + ((argT (slotT ρ i)).length : Int) = (((argT (slotT ρ i)).length - 1 : Nat) : Int) by omega]
          simp only [Int.toNat_natCast]
          rw [List.getElem?_eq_getElem (by omega)]; rfl
        obtain ⟨z, z1, z2⟩ := hx
        have zg : z.ground = true := ground_get l4 z (List.mem_of_getElem? z1)
        have dg : groundL (argT (slotT ρ i)).dropLast = true := groundL_of fun x hx => ground_get l4 x ((List.dropLast_sublist _).subset hx)
        have hm := hr.mut ha l1 l2 l5 dg
        rw [z2] at h3
        obtain ⟨σ', a1, a2⟩ := hm.asgn h3 zg
        exact ⟨.nx, σ', _, by simp only [evS, evE, l1, Option.bind, Option.map, pop0Ev, cell_get l3, z1, a1]; rfl, kp_set _ l2, by simp only [dT, OutT, z2]; exact a2⟩
      · simp [sT] at hs
    · split at hs
      · rename_i x _ i
        simp only [sT] at hs
        obtain ⟨h1, h2, h3, h4, h5⟩ := hs
        have ha := arg_some h1
        obtain ⟨l, l1, l2, l3, l4, l5⟩ := hr.argAt ha
        obtain ⟨u, s1, e1, g1, r1, f1⟩ := (dn x).1 ρ σ st hn hr h2
        have hr1 := hr.grow g1
        cases hv : dE F x ρ with
        | int k =>
          rw [hv] at r1 h4 h5
          cases r1.eq rfl
          obtain ⟨j, hj⟩ := Option.isSome_iff_exists.mp h4
          simp only [intT] at hj h5
          have hjl : j < (argT (slotT ρ i)).length := by
            unfold L2.ixN at hj
            split at hj
            · split at hj
              · cases hj; omega
              · cases hj
            · split at hj
              · cases hj; omega
              · cases hj
          have hz : atT (argT (slotT ρ i)) k = (argT (slotT ρ i))[j] := by
            unfold atT L2.atI
            rw [hj]
            simp only [Option.bind]
            rw [List.getElem?_eq_getElem hjl]; rfl
          have zg : ((argT (slotT ρ i))[j]).ground = true := ground_get l4 _ (List.getElem_mem hjl)
          have hm := hr1.mut ha l1 l2 (Nat.lt_of_lt_of_le l5 g1.len) (erase_ground l4 j)
          rw [hz] at h5
          obtain ⟨σ', a1, a2⟩ := hm.asgn h5 zg
          refine ⟨.nx, σ', _, by simp only [evS, evE, l1, Option.bind, Option.map, e1, popEv, cell_get (g1.get l3), hj, List.getElem?_eq_getElem hjl, a1]; rfl, (g1.kp hn).trans (kp_set _ l2), ?_⟩
          simp only [dT, OutT, hv, intT, hj, hz, Option.getD]
          exact a2
        | _ => rw [hv] at h3; simp [isInt] at h3
      · simp [sT] at hs
    · split at hs
      · rename_i es _ is
        split at hs
        · rename_i hM
          simp only [hM, if_true]
          simp only [sT] at hs
          obtain ⟨us, s1, σ1, e1, g1, l1, m1, r1⟩ := many_ok (n0 := n0) (lb := lb) hc es is ρ σ st hn hr hr hs.1 hs.2.1
          refine ⟨.nx, σ1, s1, ?_, g1.kp hn, by simp only [dT, OutT]; exact r1⟩
          have : us.length ≤ lim := by rw [l1]; exact hs.2.2
          simp only [evS, evE, e1, Option.bind, this, if_true, asgn, m1, Option.map]
        · rename_i hM
          simp only [hM, if_false]
          exact asg_ok hc hn hr hs
      · exact asg_ok hc hn hr hs
    · exact asg_ok hc hn hr hs
  | asgSub o x e =>
    intro lo ρ σ st hn hr hs
    unfold ann at hs ⊢
    split at hs
    · rename_i i
      simp only [sT] at hs
      obtain ⟨h1, h2, h3, h4, h5, h6⟩ := hs
      have ha := arg_some h3
      obtain ⟨u, s1, e1, g1, r1, f1⟩ := (dn e).1 ρ σ st hn hr h1
      cases r1.eq h2
      have hr1 := hr.grow g1
      obtain ⟨u2, s2, e2, g2, r2, f2⟩ := (dn x).1 ρ σ s1 (Nat.le_trans hn g1.len) hr1 h4
      have hr2 := hr1.grow g2
      obtain ⟨l, l1, l2, l3, l4, l5⟩ := hr2.argAt ha
      cases hv : dE F x ρ with
      | int k =>
        rw [hv] at r2 h6
        cases r2.eq rfl
        obtain ⟨j, hj⟩ := Option.isSome_iff_exists.mp h6
        simp only [intT] at hj
        have sg : groundL ((argT (slotT ρ i)).set j (dE F e ρ)) = true := groundL_of fun x hx => by
          rcases List.mem_or_eq_of_mem_set hx with q | q
          · exact ground_get l4 x q
          · rw [q]; exact h2
        have hm := hr2.mut ha l1 l2 l5 sg
        refine ⟨.nx, σ, _, by simp only [evS, evE, e1, Option.bind, l1, Option.map, e2, setEv, cell_get l3, hj, h2, if_true]; rfl, ((g1.trans g2).kp hn).trans (kp_set _ l2), ?_⟩
        simp only [dT, OutT, hv, intT, hj, Option.getD]
        exact hm
      | _ => rw [hv] at h5; simp [isInt] at h5
    · simp [sT] at hs
  | aug i o e =>
    intro lo ρ σ st hn hr hs
    simp only [ann, sT] at hs
    obtain ⟨h1, h2, h3⟩ := hs
    obtain ⟨w, w1, w2⟩ := hr.at_ i _ (slot_some h1)
    obtain ⟨u, s1, e1, g1, r1, f1⟩ := (dn e).1 ρ σ st hn hr h2
    simp only [ann, dT]
    unfold augS at h3
    split at h3
    · rename_i _ _ a b ha hb
      rw [ha] at w2
      rw [hb] at r1
      cases w2.eq rfl
      cases r1.eq rfl
      exact ⟨.nx, _, s1, by simp only [evS, w1, Option.bind, e1]; rfl, g1.kp hn, by rw [ha, hb]; exact (hr.grow g1).set i rfl⟩
    · rename_i _ _ a b ha hb
      rw [ha] at w2
      rw [hb] at r1
      cases w2.eq rfl
      cases r1.eq rfl
      exact ⟨.nx, _, s1, by simp only [evS, w1, Option.bind, e1]; rfl, g1.kp hn, by rw [ha, hb]; exact (hr.grow g1).set i rfl⟩
    · cases h3
  | exp e =>
    intro lo ρ σ st hn hr hs
    unfold ann at hs ⊢
    split at hs
    · split at hs
      · split at hs
        · split at hs
          · rename_i i _ _ x _ j
            simp only [sT] at hs
            obtain ⟨h0, h1, h1', h2, h3, h4, h6⟩ := hs
            exact appPop_ok hc hn hr h0 h1 h1' h2 h3 h4 h6
          · simp [sT] at hs
        · rename_i e _ i _ _
          simp only [sT] at hs
          obtain ⟨h1, h2, h3, h4⟩ := hs
          have ha := arg_some h1
          obtain ⟨l, l1, l2, l3, l4, l5⟩ := hr.argAt ha
          obtain ⟨u, s1, e1, g1, r1, f1⟩ := (dn e).1 ρ σ st hn hr h2
          cases r1.eq h3
          have hm := (hr.grow g1).mut ha l1 l2 (Nat.lt_of_lt_of_le l5 g1.len) (ys := argT (slotT ρ i) ++ [dE F e ρ]) (app_ground l4 (by simp [groundL, h3]))
          refine ⟨.nx, σ, _, by simp only [evS, evE, l1, Option.bind, Option.map, e1, appendEv, cell_get (g1.get l3), h3, h4, decide_true, Bool.and_self, if_true]; rfl, (g1.kp hn).trans (kp_set _ l2), ?_⟩
          simp only [dT, OutT]
          exact hm
      · simp [sT] at hs
    · split at hs
      · rename_i e _ i
        simp only [sT] at hs
        obtain ⟨h1, h2, h3, h4, h5⟩ := hs
        have ha := arg_some h1
        obtain ⟨l, l1, l2, l3, l4, l5⟩ := hr.argAt ha
        obtain ⟨u, s1, e1, g1, r1, f1⟩ := (dn e).1 ρ σ st hn hr h2
        cases r1.eq h3
        cases hv : dE F e ρ with
        | lst zs =>
          rw [hv] at h3 h5 e1
          have zg := gt_lst h3
          have hm := (hr.grow g1).mut ha l1 l2 (Nat.lt_of_lt_of_le l5 g1.len) (ys := argT (slotT ρ i) ++ zs) (app_ground l4 zg)
          simp only [itemsT] at h5
          refine ⟨.nx, σ, _, by simp only [evS, evE, l1, Option.bind, Option.map, e1, extendEv, cell_get (g1.get l3), zg, h5, decide_true, Bool.and_self, if_true]; rfl, (g1.kp hn).trans (kp_set _ l2), ?_⟩
          simp only [dT, OutT, hv, itemsT]
          exact hm
        | arg zs => rw [hv] at h3; simp [PV.ground] at h3
        | _ => rw [hv] at h4; simp [isLst] at h4
      · simp [sT] at hs
    · exact exp_ok hc hn hr hs
  | ite q a b iha ihb =>
    intro lo ρ σ st hn hr hs
    simp only [ann, sT] at hs
    obtain ⟨h1, h2, h3, h4⟩ := hs
    obtain ⟨u, s1, e1, g1, r1, f1⟩ := (dn q).1 ρ σ st hn hr h1
    have t1 := truth_rv r1 h2
    cases hk : truthT (dE F q ρ) with
    | true =>
      obtain ⟨fl, σ2, s2, e2, k2, o2⟩ := iha lo ρ σ s1 (Nat.le_trans hn g1.len) (hr.grow g1) (h3 hk)
      exact ⟨fl, σ2, s2, by simp only [evS, e1, Option.bind, t1, hk, if_true, e2], (g1.kp hn).trans k2, by simp only [ann, dT, hk, if_true]; exact o2⟩
    | false =>
      obtain ⟨fl, σ2, s2, e2, k2, o2⟩ := ihb lo ρ σ s1 (Nat.le_trans hn g1.len) (hr.grow g1) (h4 hk)
      exact ⟨fl, σ2, s2, by simp only [evS, e1, Option.bind, t1, hk, e2]; rfl, (g1.kp hn).trans k2, by simp only [ann, dT, hk]; exact o2⟩
  | for_ it t b ih =>
    intro lo ρ σ st hn hr hs
    simp only [ann, sT] at hs
    obtain ⟨h1, h2, h3⟩ := hs
    obtain ⟨w, s1, e1, g1, w1, w2, w3, w4⟩ := (dn it).2.2 ρ σ st hn hr h1
    have w5 := w4 h2
    have hok : ∀ s, guardOk w s = true := fun s => by simp only [guardOk, w5]
    obtain ⟨fl, σ2, s2, e2, k2, o2⟩ := for_rv (n0 := n0) (lb := lb) (f := fun x σ st => (asgn t x σ).bind fun σ' => evS c b σ' st) hok (fun x ρ σ st hn hx hr hg => by
      obtain ⟨σ', a1, a2⟩ := hr.asgn hg.1 hx
      obtain ⟨fl, σ2, s2, e2, k2, o2⟩ := ih _ _ σ' st hn a2 hg.2
      exact ⟨fl, σ2, s2, by simp only [a1, Option.bind, e2], k2, o2⟩) (dI F it ρ) _ σ s1 (Nat.le_trans hn g1.len) w2 ((hr.grow g1).wipeL _) h3
    refine ⟨fl, σ2, s2, ?_, (g1.kp hn).trans k2, by simp only [ann, dT]; exact o2⟩
    rw [← w1] at e2
    simp only [evS, e1, Option.bind] at e2 ⊢
    exact e2
  | whl q b ih =>
    intro lo ρ σ st hn hr hs
    simp only [ann, sT] at hs
    obtain ⟨fl, σ2, s2, e2, k2, o2⟩ := wh_rv (n0 := n0) (lb := lb) (q := fun σ st => (evE c q σ st).bind fun x => (truth x.1 x.2).map fun k => (k, x.2)) (f := fun σ st => evS c b σ st) (fun ρ σ st hn hr hq => by
      obtain ⟨u, s1, e1, g1, r1, f1⟩ := (dn q).1 ρ σ st hn hr hq.1
      exact ⟨s1, by simp only [e1, Option.bind, truth_rv r1 hq.2, Option.map], g1⟩) (fun ρ σ st hn hr hg => ih _ ρ σ st hn hr hg) c.wf _ σ st hn (hr.wipeL _) hs
    exact ⟨fl, σ2, s2, by simp only [evS]; exact e2, k2, by simp only [ann, dT]; exact o2⟩
  | ret e =>
    intro lo ρ σ st hn hr hs
    simp only [ann, sT] at hs
    obtain ⟨u, s1, e1, g1, r1, f1⟩ := (dn e).1 ρ σ st hn hr hs
    exact ⟨.rt u, σ, s1, by simp only [evS, e1, Option.map], g1.kp hn, by simp only [ann, dT, OutT]; exact r1⟩
  | brk => intro lo ρ σ st hn hr hs; exact ⟨.bk, σ, st, by simp only [evS], .refl _ _, by simp only [ann, dT, OutT]; exact hr⟩
  | cnt => intro lo ρ σ st hn hr hs; exact ⟨.ct, σ, st, by simp only [evS], .refl _ _, by simp only [ann, dT, OutT]; exact hr⟩
theorem start_sr {st : Sto} {vs : List PV} (k : Nat) (hg : groundL vs = true) : SR n0 lb st (vs.map some ++ List.replicate k none) (vs.map some ++ List.replicate k none) := by
  have key : ∀ (i : Nat) v, (vs.map some ++ List.replicate k none)[i]? = some (some v) → v ∈ vs := fun i v e => by
    have := List.mem_of_getElem? e
    rcases List.mem_append.mp this with q | q
    · obtain ⟨x, hx, e⟩ := List.mem_map.mp q
      cases e; exact hx
    · cases (List.mem_replicate.mp q).2
  exact ⟨rfl, fun i v e => ⟨v, e, .g (ground_get hg v (key i v e))⟩, fun i j xs ys l _ e1 _ _ _ => by
    have := ground_get hg _ (key i _ e1)
    simp [PV.ground] at this⟩
theorem frz_g {v : PV} (h : v.ground = true) : frz v = v := by cases v <;> first | rfl | simp [PV.ground] at h
theorem call_ok {fs : List Fn} {gs : List Gn} {wf : Nat} (hgs : fs.map toG = gs) : ∀ n, CallOk ⟨callN fs wf n, wf⟩ (dCall gs wf n) (sCall gs wf n) := by
  intro n
  induction n with
  | zero => intro f vs st _ h; exact h.elim
  | succ n ih =>
    intro f vs st hg hs
    simp only [sCall] at hs
    split at hs
    · rename_i g hgf
      have : ∃ d, fs[f]? = some d ∧ toG d = g := by
        rw [← hgs, List.getElem?_map] at hgf
        cases hd : fs[f]? with
        | none => rw [hd] at hgf; cases hgf
        | some d => rw [hd] at hgf; cases hgf; exact ⟨d, rfl, rfl⟩
      obtain ⟨d, hd, rfl⟩ := this
      obtain ⟨h1, _, h3, h4⟩ := hs
      have hgc : d.gc = true := by
        cases hq : d.gc with
        | true => rfl
        | false =>
          unfold toG at h3
          rw [hq] at h3
          simp [sT] at h3
      have ht : toG d = ⟨d.np, d.ns, ann [] d.body⟩ := by unfold toG; rw [hgc]; rfl
      rw [ht] at h1 h3 h4
      simp only [startS] at h1 h3 h4
      obtain ⟨fl, σ', st', e1, k1, o1⟩ := stm_ok (c := ⟨callN fs wf n, wf⟩) (n0 := st.length) (lb := 0) ih d.body [] _ _ st (Nat.le_refl _) (start_sr (d.ns - d.np) hg) h3
      have htk : st'.take st.length = st := by
        apply List.ext_getElem?
        intro l
        rw [List.getElem?_take]
        split
        · rename_i hl; exact k1.low l hl
        · rename_i hl; exact (List.getElem?_eq_none (by omega)).symm
      have e2 : callN fs wf (n + 1) f vs st = kFin d.gc st (some (fl, σ', st')) := by
        rw [call_eq hd h1 (by omega), Nat.add_sub_cancel, e1]
      have e3 : dCall gs wf (n + 1) f vs = finT (dT (dCall gs wf n) wf (ann [] d.body) (vs.map some ++ List.replicate (d.ns - d.np) none)) := by
        simp only [dCall, hgf, ht, startS]
      show callN fs wf (n + 1) f vs st = some (dCall gs wf (n + 1) f vs, st) ∧ (dCall gs wf (n + 1) f vs).ground = true
      rw [e2, e3]
      simp only at o1
      generalize dT (dCall gs wf n) wf (ann [] d.body) (vs.map some ++ List.replicate (d.ns - d.np) none) = r at o1 h4
      obtain ⟨rf, ρ1⟩ := r
      cases rf <;> cases fl <;> simp only [OutT] at o1 <;> simp only [finS] at h4
      · simp [finT, kFin, fin, hgc, PV.ground, htk]
      · cases o1 with
        | g hv =>
          have this := frz_g hv
          simp only [finT, kFin, this, fin, hgc, hv, Bool.and_self, if_true, htk, and_self]
        | @m l xs m1 m2 m3 =>
          refine ⟨?_, by simp only [finT, frz]; exact tg_lst m3⟩
          simp [finT, kFin, frz, fin, hgc, PV.ground, m1, cell_get m2, htk]
        | b => simp [isArg, PV.ground] at h4
    · exact hs.elim
end
end Dn

/-! operators on plain values, by equations -/
namespace Ev
open PySem
@[simp] theorem lim_eq : lim = 16777216 := by unfold lim; rfl
@[simp] theorem gr_int (i : Int) : (PV.int i).ground = true := by simp only [PV.ground]
@[simp] theorem gr_bl (i : Bool) : (PV.bl i).ground = true := by simp only [PV.ground]
@[simp] theorem gr_non : PV.non.ground = true := by simp only [PV.ground]
@[simp] theorem gr_str (x : Str) : (PV.str x).ground = true := by simp only [PV.ground]
@[simp] theorem gr_tup (xs : List PV) : (PV.tup xs).ground = groundL xs := by simp [PV.ground]
@[simp] theorem gr_lst (xs : List PV) : (PV.lst xs).ground = groundL xs := by simp [PV.ground]
@[simp] theorem gr_ref (l : Nat) : (PV.ref l).ground = false := by simp only [PV.ground]
@[simp] theorem gr_arg (xs : List PV) : (PV.arg xs).ground = false := by simp only [PV.ground]
@[simp] theorem gr_nil : groundL [] = true := by simp only [groundL]
@[simp] theorem gr_cons (x : PV) (xs : List PV) : groundL (x :: xs) = (x.ground && groundL xs) := by simp [groundL]
@[simp] theorem gr_tupI (a : List Int) : (tupI a).ground = true := by simp [tupI, ground_int]
@[simp] theorem gr_ints (a : List Int) : groundL (a.map .int) = true := ground_int a
@[simp] theorem shp_int (i : Int) : shp (.int i) = true := rfl
@[simp] theorem shp_bl (b : Bool) : shp (.bl b) = true := rfl
@[simp] theorem shp_non : shp .non = true := rfl
theorem shp_tupI (a : List Int) : shp (tupI a) = true := shp_ints fun x hx => by
  obtain ⟨i, _, rfl⟩ := List.mem_map.mp hx
  rfl
theorem ltP_i (i j : Int) : ltP (.int i) (.int j) = decide (i < j) := PySem.W.dataLt_int i j
@[simp] theorem cmp_gt (i j : Int) (st : Sto) : cmpEv .gt (.int i) (.int j) st = some (decide (j < i)) := by
  show some (ltP (.int j) (.int i)) = _
  rw [ltP_i]
@[simp] theorem cmp_lt (i j : Int) (st : Sto) : cmpEv .lt (.int i) (.int j) st = some (decide (i < j)) := by
  show some (ltP (.int i) (.int j)) = _
  rw [ltP_i]
@[simp] theorem cmp_ge (i j : Int) (st : Sto) : cmpEv .ge (.int i) (.int j) st = some (decide (j ≤ i)) := by
  show some (!ltP (.int i) (.int j)) = _
  rw [ltP_i]
  congr 1
  by_cases h : i < j
  · simp [h]
  · simp [h]; omega
@[simp] theorem cmp_le (i j : Int) (st : Sto) : cmpEv .le (.int i) (.int j) st = some (decide (i ≤ j)) := by
  show some (!ltP (.int j) (.int i)) = _
  rw [ltP_i]
  congr 1
  by_cases h : j < i
  · simp [h]
  · simp [h]; omega
@[simp] theorem cmp_eqI (i j : Int) (st : Sto) : cmpEv .eq (.int i) (.int j) st = some (decide (i = j)) := by
  show some (i == j) = _
  congr 1
@[simp] theorem cmp_neI (i j : Int) (st : Sto) : cmpEv .ne (.int i) (.int j) st = some (!decide (i = j)) := by
  show some (!(i == j)) = _
  congr 1
@[simp] theorem cmp_eqB (i j : Bool) (st : Sto) : cmpEv .eq (.bl i) (.bl j) st = some (i == j) := rfl
@[simp] theorem cmp_neB (i j : Bool) (st : Sto) : cmpEv .ne (.bl i) (.bl j) st = some (!(i == j)) := rfl
@[simp] theorem cmp_eqN (st : Sto) : cmpEv .eq .non .non st = some true := rfl
@[simp] theorem cmp_isN_non (st : Sto) : cmpEv .isN .non .non st = some true := rfl
@[simp] theorem cmp_isN_bl (b : Bool) (st : Sto) : cmpEv .isN (.bl b) .non st = some false := rfl
@[simp] theorem cmp_isN_int (b : Int) (st : Sto) : cmpEv .isN (.int b) .non st = some false := rfl
@[simp] theorem cmp_isN_str (b : Str) (st : Sto) : cmpEv .isN (.str b) .non st = some false := rfl
@[simp] theorem cmp_isN_tup (b : List PV) (st : Sto) : cmpEv .isN (.tup b) .non st = some false := rfl
@[simp] theorem cmp_isN_lst (b : List PV) (st : Sto) : cmpEv .isN (.lst b) .non st = some false := rfl
@[simp] theorem cmp_notN_non (st : Sto) : cmpEv .notN .non .non st = some false := rfl
@[simp] theorem cmp_notN_int (b : Int) (st : Sto) : cmpEv .notN (.int b) .non st = some true := rfl
@[simp] theorem cmp_notN_tup (b : List PV) (st : Sto) : cmpEv .notN (.tup b) .non st = some true := rfl
@[simp] theorem truth_bl (b : Bool) (st : Sto) : truth (.bl b) st = some b := rfl
@[simp] theorem truth_int (i : Int) (st : Sto) : truth (.int i) st = some (i != 0) := rfl
@[simp] theorem truth_lst (xs : List PV) (st : Sto) : truth (.lst xs) st = some (!xs.isEmpty) := rfl
@[simp] theorem truth_tup (xs : List PV) (st : Sto) : truth (.tup xs) st = some (!xs.isEmpty) := rfl
@[simp] theorem bin_add (m : Bool) (i j : Int) (st : Sto) : binEv m .add (.int i) (.int j) st = some (.int (i + j), st) := rfl
@[simp] theorem bin_sub (m : Bool) (i j : Int) (st : Sto) : binEv m .sub (.int i) (.int j) st = some (.int (i - j), st) := rfl
theorem bin_mul {m : Bool} {i j : Int} {st : Sto} (h : mulOk i j = true) : binEv m .mul (.int i) (.int j) st = some (.int (i * j), st) := by
  simp only [binEv, h, if_true]
theorem bin_mod {m : Bool} {i j : Int} {st : Sto} (h : 0 < j) : binEv m .mod (.int i) (.int j) st = some (.int (i % j), st) := by
  simp only [binEv, decide_eq_true h, if_true]
theorem bin_fdiv {m : Bool} {i j : Int} {st : Sto} (h : 0 < j) (h2 : j.natAbs.log2 < 9000) : binEv m .fdiv (.int i) (.int j) st = some (.int (i / j), st) := by
  simp only [binEv, decide_eq_true h, decide_eq_true h2, Bool.and_self, if_true]
theorem log_small {j : Int} (h1 : 0 < j) (h2 : j < 1152921504606846976) : j.natAbs.log2 < 9000 := by
  have : j.natAbs < 2 ^ 60 := by omega
  have h3 : j.natAbs ≠ 0 := by omega
  have := (Nat.log2_lt h3).mpr this
  omega
theorem mul_r {i j : Int} (h1 : -1152921504606846976 < j) (h2 : j < 1152921504606846976) : mulOk i j = true := by
  have : j.natAbs < 18446744073709551616 := by omega
  simp [mulOk, this]
theorem mul_l {i j : Int} (h1 : -1152921504606846976 < i) (h2 : i < 1152921504606846976) : mulOk i j = true := by
  have : i.natAbs < 18446744073709551616 := by omega
  simp [mulOk, this]
@[simp] theorem bin_cat (m : Bool) (xs ys : List PV) (st : Sto) : binEv m .add (.lst xs) (.lst ys) st = if xs.length + ys.length ≤ lim then mkL m (xs ++ ys) st else none := rfl
@[simp] theorem bin_catT (m : Bool) (xs ys : List PV) (st : Sto) : binEv m .add (.tup xs) (.tup ys) st = if xs.length + ys.length ≤ lim then some (.tup (xs ++ ys), st) else none := rfl
@[simp] theorem bi_int (m : Bool) (i : Int) (st : Sto) : biEv m .int1 [.int i] st = some (.int i, st) := rfl
@[simp] theorem bi_intB (m : Bool) (b : Bool) (st : Sto) : biEv m .int1 [.bl b] st = some (.int (if b then 1 else 0), st) := rfl
@[simp] theorem bi_abs (m : Bool) (i : Int) (st : Sto) : biEv m .abs [.int i] st = some (.int (if i < 0 then -i else i), st) := rfl
@[simp] theorem bi_lenT (m : Bool) (xs : List PV) (st : Sto) : biEv m .len [.tup xs] st = some (.int xs.length, st) := rfl
@[simp] theorem bi_lenL (m : Bool) (xs : List PV) (st : Sto) : biEv m .len [.lst xs] st = some (.int xs.length, st) := rfl
@[simp] theorem bi_lenA (m : Bool) (xs : List PV) (st : Sto) : biEv m .len [.arg xs] st = some (.int xs.length, st) := rfl
theorem bi_lenR {m : Bool} {l : Nat} {xs : List PV} {st : Sto} (h : cellAt st l = some xs) : biEv m .len [.ref l] st = some (.int xs.length, st) := by simp [biEv, items, h]
@[simp] theorem bi_tupT (m : Bool) (xs : List PV) (st : Sto) : biEv m .tuple1 [.tup xs] st = some (.tup xs, st) := rfl
@[simp] theorem bi_tupL (m : Bool) (xs : List PV) (st : Sto) : biEv m .tuple1 [.lst xs] st = some (.tup xs, st) := rfl
@[simp] theorem bi_lstT (m : Bool) (xs : List PV) (st : Sto) : biEv m .list1 [.tup xs] st = mkL m xs st := rfl
@[simp] theorem bi_lstL (m : Bool) (xs : List PV) (st : Sto) : biEv m .list1 [.lst xs] st = mkL m xs st := rfl
theorem asBools_bl (bs : List Bool) : asBools (bs.map PV.bl) = some bs := by
  induction bs with
  | nil => rfl
  | cons b r ih => simp [asBools, ih]
theorem asInts_int (is : List Int) : asInts (is.map PV.int) = some is := by
  induction is with
  | nil => rfl
  | cons b r ih => simp [asInts, ih]
@[simp] theorem bi_all (m : Bool) (bs : List Bool) (st : Sto) : biEv m .all1 [.lst (bs.map PV.bl)] st = some (.bl (bs.all id), st) := by simp [biEv, litems, asBools_bl]
@[simp] theorem bi_any (m : Bool) (bs : List Bool) (st : Sto) : biEv m .any1 [.lst (bs.map PV.bl)] st = some (.bl (bs.any id), st) := by simp [biEv, litems, asBools_bl]
@[simp] theorem sub_tup (xs : List PV) (k : Int) (st : Sto) : subEv (.tup xs) (.int k) st = L2.atI xs k := rfl
@[simp] theorem sub_lst (xs : List PV) (k : Int) (st : Sto) : subEv (.lst xs) (.int k) st = L2.atI xs k := rfl
@[simp] theorem sub_arg (xs : List PV) (k : Int) (st : Sto) : subEv (.arg xs) (.int k) st = L2.atI xs k := rfl
theorem sub_ref {l : Nat} {xs : List PV} {k : Int} {st : Sto} (h : cellAt st l = some xs) : subEv (.ref l) (.int k) st = L2.atI xs k := by simp [subEv, items, h]
theorem at_nat {α : Type} (xs : List α) (k : Nat) : L2.atI xs (k : Int) = xs[k]? := by
  unfold L2.atI L2.ixN
  by_cases h : (k : Int) < xs.length
  · rw [if_pos (by omega), if_pos h]; simp
  · rw [if_pos (by omega), if_neg h]; simp; omega
theorem at_int {α : Type} {xs : List α} {k : Int} (h : 0 ≤ k) : L2.atI xs k = xs[k.toNat]? := by
  obtain ⟨n, rfl⟩ := Int.eq_ofNat_of_zero_le h
  rw [at_nat]; rfl
@[simp] theorem at_0 {α : Type} (x : α) (r : List α) : L2.atI (x :: r) 0 = some x := at_nat (x :: r) 0
@[simp] theorem at_1 {α : Type} (x y : α) (r : List α) : L2.atI (x :: y :: r) 1 = some y := at_nat (x :: y :: r) 1
@[simp] theorem at_2 {α : Type} (x y z : α) (r : List α) : L2.atI (x :: y :: z :: r) 2 = some z := at_nat (x :: y :: z :: r) 2
theorem ix_nat {n k : Nat} (h : k < n) : L2.ixN n (k : Int) = some k := by
  unfold L2.ixN
  rw [if_pos (by omega), if_pos (by omega)]; simp
@[simp] theorem asgn_one (i : Nat) (v : PV) (σ : Slots) : asgn (.one i) v σ = some (σ.set i (some v)) := rfl
@[simp] theorem asgn_many (is : List Nat) (xs : List PV) (σ : Slots) : asgn (.many is) (.tup xs) σ = setMany is xs σ := rfl
@[simp] theorem setMany_nil (σ : Slots) : setMany [] [] σ = some σ := rfl
@[simp] theorem setMany_cons (i : Nat) (is : List Nat) (v : PV) (vs : List PV) (σ : Slots) : setMany (i :: is) (v :: vs) σ = setMany is vs (σ.set i (some v)) := rfl
@[simp] theorem wipeS_nil (σ : Slots) : wipeS σ [] = σ := rfl
@[simp] theorem wipeS_cons (σ : Slots) (v : Nat) (vs : List Nat) : wipeS σ (v :: vs) = (wipeS σ vs).set v none := rfl
@[simp] theorem wk_tup (xs : List PV) (st : Sto) : wkEv .seq [.tup xs] st = some ⟨none, xs⟩ := rfl
@[simp] theorem wk_lst (xs : List PV) (st : Sto) : wkEv .seq [.lst xs] st = some ⟨none, xs⟩ := rfl
@[simp] theorem wk_enT (xs : List PV) (st : Sto) : wkEv .enum [.tup xs] st = some ⟨none, enumL 0 xs⟩ := rfl
@[simp] theorem wk_enL (xs : List PV) (st : Sto) : wkEv .enum [.lst xs] st = some ⟨none, enumL 0 xs⟩ := rfl
@[simp] theorem wk_zTT (xs ys : List PV) (st : Sto) : wkEv .zip2 [.tup xs, .tup ys] st = some ⟨none, zipL xs ys⟩ := rfl
@[simp] theorem wk_zLL (xs ys : List PV) (st : Sto) : wkEv .zip2 [.lst xs, .lst ys] st = some ⟨none, zipL xs ys⟩ := rfl
@[simp] theorem wk_zTL (xs ys : List PV) (st : Sto) : wkEv .zip2 [.tup xs, .lst ys] st = some ⟨none, zipL xs ys⟩ := rfl
@[simp] theorem wk_zLT (xs ys : List PV) (st : Sto) : wkEv .zip2 [.lst xs, .tup ys] st = some ⟨none, zipL xs ys⟩ := rfl
theorem wk_range1 {j : Int} {st : Sto} (h1 : -1 ≤ j) (h2 : j ≤ 16777216) : wkEv .range1 [.int j] st = some ⟨none, rangeL 0 j.toNat⟩ := by
  have a : rgOk j = true := by simp [rgOk]; omega
  simp [wkEv, a, h2]
@[simp] theorem guard_none (xs : List PV) (st : Sto) : guardOk ⟨none, xs⟩ st = true := by simp only [guardOk]
theorem cell_of {st : Sto} {l : Nat} {xs : List PV} (h : st[l]? = some (.lst xs)) : cellAt st l = some xs := by simp [cellAt, h]
end Ev

/-! the laws' draws: a box in the store, numbers taken from it -/
namespace Ev
open PySem
/-- a box at l, from which fewer than B numbers were drawn by the counter -/
def Bx (st : Sto) (l B : Nat) : Prop := ∃ g b1 b2 : Int, st[l]? = some (.lst [.int g, .int b1, .int b2]) ∧ 0 ≤ g ∧ 0 ≤ b2 ∧ b2 ≤ B
/-- only the box has changed -/
structure Up (l : Nat) (st st' : Sto) (B : Nat) : Prop where
  len : st'.length = st.length
  same : ∀ j, j ≠ l → st'[j]? = st[j]?
  box : Bx st' l B
theorem Up.refl {l : Nat} {st : Sto} {B : Nat} (h : Bx st l B) : Up l st st B := ⟨rfl, fun _ _ => rfl, h⟩
theorem Up.trans {l : Nat} {s1 s2 s3 : Sto} {B B' : Nat} (a : Up l s1 s2 B) (b : Up l s2 s3 B') : Up l s1 s3 B' := ⟨b.len.trans a.len, fun j hj => (b.same j hj).trans (a.same j hj), b.box⟩
theorem Bx.mono {st : Sto} {l B B' : Nat} (h : Bx st l B) (hB : B ≤ B') : Bx st l B' := by
  obtain ⟨g, b1, b2, h1, h2, h3, h4⟩ := h
  exact ⟨g, b1, b2, h1, h2, h3, by omega⟩
theorem Up.mono {l : Nat} {s1 s2 : Sto} {B B' : Nat} (a : Up l s1 s2 B) (hB : B ≤ B') : Up l s1 s2 B' := ⟨a.len, a.same, a.box.mono hB⟩
theorem set_up {l : Nat} {st : Sto} {g b1 b2 : Int} {c : Cell} {B : Nat} (h : st[l]? = some c) (h1 : 0 ≤ g) (h2 : 0 ≤ b2) (h3 : b2 ≤ B) : Up l st (st.set l (.lst [.int g, .int b1, .int b2])) B := by
  have hl : l < st.length := (List.getElem?_eq_some_iff.mp h).1
  refine ⟨by simp, fun j hj => by rw [List.getElem?_set_ne (Ne.symm hj)], g, b1, b2, by rw [List.getElem?_set_self hl], h1, h2, h3⟩
def takeFn : Fn := ⟨2, 6, true, (.seq (.ite (.cmp .gt (.sub (.var 0) (.cst (.int 0))) (.cst (.int 0))) (.seq (.asg (.one 5) (.bin false .mod (.bi false .int1 (.cons (.sub (.var 0) (.cst (.int 0))) .nil)) (.var 1))) (.seq (.asgSub (.var 0) (.cst (.int 0)) (.bin false .fdiv (.sub (.var 0) (.cst (.int 0))) (.var 1))) (.seq (.ret (.var 5)) .skip))) .skip) (.seq (.asgSub (.var 0) (.cst (.int 2)) (.bin false .add (.sub (.var 0) (.cst (.int 2))) (.cst (.int 1)))) (.seq (.asg (.one 2) (.bin false .mod (.bi false .int1 (.cons (.bin false .mul (.bin false .add (.sub (.var 0) (.cst (.int 1))) (.bin false .mul (.cst (.int 48271)) (.sub (.var 0) (.cst (.int 2))))) (.bin false .add (.cst (.int 39373)) (.sub (.var 0) (.cst (.int 2))))) .nil)) (.cst (.int 2147483647)))) (.seq (.asg (.one 3) (.bin false .add (.bin false .mod (.bi false .int1 (.cons (.var 2) .nil)) (.cst (.int 40009))) (.cst (.int 7)))) (.seq (.asg (.one 4) (.bin false .mod (.bi false .int1 (.cons (.bin false .mul (.bin false .add (.bin false .add (.var 2) (.sub (.var 0) (.cst (.int 2)))) (.bin false .fdiv (.sub (.var 0) (.cst (.int 1))) (.cst (.int 1000003)))) (.var 3)) .nil)) (.cst (.int 2147483629)))) (.seq (.ret (.bin false .mod (.bi false .int1 (.cons (.bin false .fdiv (.bin false .mod (.bi false .int1 (.cons (.bin false .add (.bin false .mul (.var 4) (.cst (.int 48271))) (.var 2)) .nil)) (.cst (.int 2147483587))) (.cst (.int 64))) .nil)) (.var 1))) .skip))))))⟩
theorem set0 {st : Sto} {l : Nat} {x y z v : PV} (h : cellAt st l = some [x, y, z]) (hv : v.ground = true) : setEv (.ref l) (.int 0) v st = some (st.set l (.lst [v, y, z])) := by
  simp [setEv, h, L2.ixN, hv]
theorem set2 {st : Sto} {l : Nat} {x y z v : PV} (h : cellAt st l = some [x, y, z]) (hv : v.ground = true) : setEv (.ref l) (.int 2) v st = some (st.set l (.lst [x, y, v])) := by
  simp [setEv, h, L2.ixN, hv]
theorem cell_set {st : Sto} {l : Nat} {xs : List PV} (hl : l < st.length) : cellAt (st.set l (.lst xs)) l = some xs := cell_of (by rw [List.getElem?_set_self hl])
section
variable {fs : List Fn} {wf it m l B : Nat} {st : Sto} {t : Int}
theorem take_ok (hf : fs[it]? = some takeFn) (hm : 1 ≤ m) (hx : Bx st l B) (hB : B < 1000000000000) (ht : 0 < t) (ht2 : t < 1152921504606846976) :
    ∃ r st', callN fs wf m it [.ref l, .int t] st = some (.int r, st') ∧ 0 ≤ r ∧ r < t ∧ Up l st st' (B + 1) := by
  obtain ⟨g, b1, b2, hc, h0, h1, h2⟩ := hx
  have hl : l < st.length := (List.getElem?_eq_some_iff.mp hc).1
  have hc' := cell_of hc
  by_cases hg : 0 < g
  · refine ⟨g % t, st.set l (.lst [.int (g / t), .int b1, .int b2]), ?_, Int.emod_nonneg _ (by omega), Int.emod_lt_of_pos _ ht, set_up hc (Int.ediv_nonneg h0 (by omega)) h1 (by omega)⟩
    rw [call_eq hf rfl hm]
    have s0 : setEv (.ref l) (.int 0) (.int (g / t)) st = some (st.set l (.lst [.int (g / t), .int b1, .int b2])) := set0 hc' rfl
    simp [takeFn, sub_ref hc', bin_mod ht, bin_fdiv ht (log_small ht ht2), hg, s0, fin_g, take_same]
  · have hc2 : cellAt (st.set l (.lst [.int g, .int b1, .int (b2 + 1)])) l = some [.int g, .int b1, .int (b2 + 1)] := cell_set hl
    suffices hz : ∃ z : Int, callN fs wf m it [.ref l, .int t] st = some (.int (z % t), st.set l (.lst [.int g, .int b1, .int (b2 + 1)])) by
      obtain ⟨z, hz⟩ := hz
      exact ⟨z % t, _, hz, Int.emod_nonneg _ (by omega), Int.emod_lt_of_pos _ ht, set_up hc h0 (by omega) (by omega)⟩
    · apply Exists.intro
      rw [call_eq hf rfl hm]
      have m1 : mulOk 48271 (b2 + 1) = true := mul_l (by omega) (by omega)
      have m2 : ∀ z, mulOk z (39373 + (b2 + 1)) = true := fun z => mul_r (by omega) (by omega)
      have m3 : ∀ z y : Int, mulOk z (y % 40009 + 7) = true := fun z y => mul_r (by omega) (by omega)
      have m4 : ∀ z : Int, mulOk z 48271 = true := fun z => mul_r (by omega) (by omega)
      have d1 : (1000003 : Int).natAbs.log2 < 9000 := log_small (by omega) (by omega)
      have d2 : (64 : Int).natAbs.log2 < 9000 := log_small (by omega) (by omega)
      simp only [takeFn, sub_ref hc', sub_ref hc2, bin_mod ht, hg, set2 hc', gr_int, fin_g, take_same, List.length_set, evS_seq, evS_ite, evE_cmp, evE_sub, evE_var, evE_cst, List.map_cons, List.map_nil, List.cons_append, List.nil_append, List.getElem?_cons_zero, List.getElem?_cons_succ, kSub_some, kSub2_some, at_0, at_1, at_2, kV_some, kCmp_some, kCmp2_some, cmp_gt, decide_false, kB_some, kIfS_some, truth_bl, kIfS2_false, evS_skip, kSeq_nx, evS_asgSub, evE_bin, kBin_some, kBin2_some, bin_add, kAs1_some, kAs2_some, kAs3_some, kAs4_some, evS_asg, evE_bi, evL_cons, evL_nil, kArg_some, kCons_some, kBi_some, bi_int, bin_mul m1, bin_mul (m2 _), bin_mul (m3 _ _), bin_mul (m4 _), bin_fdiv (show (0 : Int) < 1000003 by omega) d1, bin_fdiv (show (0 : Int) < 64 by omega) d2, bin_mod (show (0 : Int) < 2147483647 by omega), bin_mod (show (0 : Int) < 40009 by omega), bin_mod (show (0 : Int) < 2147483629 by omega), bin_mod (show (0 : Int) < 2147483587 by omega), kAsg_some, kAsg2_some, asgn_one, List.set_cons_succ, List.set_cons_zero, List.replicate, evS_ret, kRet_some, kSeq_rt, kFin_rt]
      rfl
end
end Ev

/-! words with draws: what must hold ahead for something to hold behind (.ref 0 stands for the box) -/
namespace Dn
open PySem Ev
def isRef : PV → Bool
  | .ref _ => true
  | _ => false
/-- the box is not named here -/
def bf (ρ : Slots) : E → Bool
  | .var i => !isRef (slotT ρ i)
  | .bin _ _ a b => bf ρ a && bf ρ b
  | .cmp _ a b => bf ρ a && bf ρ b
  | .chain _ _ a b c => bf ρ a && bf ρ b && bf ρ c
  | .and a b => bf ρ a && bf ρ b
  | .or a b => bf ρ a && bf ρ b
  | .not a => bf ρ a
  | .neg a => bf ρ a
  | .ite c a b => bf ρ c && bf ρ a && bf ρ b
  | .tup es => bf ρ es
  | .lst _ es => bf ρ es
  | .cons e es => bf ρ e && bf ρ es
  | .star e es => bf ρ e && bf ρ es
  | .call _ es => bf ρ es
  | .callz _ es => bf ρ es
  | .callk _ es ks _ _ _ => bf ρ es && bf ρ ks
  | .bi _ _ es => bf ρ es
  | .listI _ it => bf ρ it
  | .tupI it => bf ρ it
  | .sub a i => bf ρ a && bf ρ i
  | .slice _ a lo hi => bf ρ a && bf ρ lo && bf ρ hi
  | .revS _ a => bf ρ a
  | .isi a _ => bf ρ a
  | .lc _ it _ _ q e => bf ρ it && bf ρ q && bf ρ e
  | .lc2 _ it _ _ it2 _ _ q e => bf ρ it && bf ρ it2 && bf ρ q && bf ρ e
  | .itr _ es => bf ρ es
  | .append o e => bf ρ o && bf ρ e
  | .extend o e => bf ρ o && bf ρ e
  | .pop o i => bf ρ o && bf ρ i
  | .pop0 o => bf ρ o
  | _ => true
def bfT (ρ : Slots) : T → Bool
  | .seq a b => bfT ρ a && bfT ρ b
  | .asg _ e => bf ρ e
  | .set_ _ x e => bf ρ x && bf ρ e
  | .aug _ _ e => bf ρ e
  | .app _ e => bf ρ e
  | .ext _ e => bf ρ e
  | .pop _ _ x => bf ρ x
  | .appPop _ _ x => bf ρ x
  | .asgM _ es => bf ρ es
  | .exp e => bf ρ e
  | .ite c a b => bf ρ c && bfT ρ a && bfT ρ b
  | .for_ it _ b _ => bf ρ it && bfT ρ b
  | .whl c b _ => bf ρ c && bfT ρ b
  | .ret e => bf ρ e
  | _ => true
def Bz (st : Sto) (lb b : Nat) : Prop := ∃ B, Bx st lb B ∧ B + b ≤ 999999999999
structure GB (lb : Nat) (st st' : Sto) : Prop where
  len : st.length ≤ st'.length
  same : ∀ l, l < st.length → l ≠ lb → st'[l]? = st[l]?
theorem GB.refl (lb : Nat) (st : Sto) : GB lb st st := ⟨Nat.le_refl _, fun _ _ _ => rfl⟩
theorem GB.trans {lb : Nat} {a b c : Sto} (h : GB lb a b) (h' : GB lb b c) : GB lb a c := ⟨Nat.le_trans h.len h'.len, fun l hl hn => (h'.same l (Nat.lt_of_lt_of_le hl h.len) hn).trans (h.same l hl hn)⟩
theorem Grow.gb {a b : Sto} (h : Grow a b) (lb : Nat) : GB lb a b := by
  refine ⟨h.len, fun l hl _ => ?_⟩
  obtain ⟨x, rfl⟩ := h
  rw [List.getElem?_append_left hl]
theorem Bz.grow {a b : Sto} {lb k : Nat} (h : Bz a lb k) (g : Grow a b) : Bz b lb k := by
  obtain ⟨B, ⟨g1, b1, b2, h1, h2⟩, h3⟩ := h
  exact ⟨B, ⟨g1, b1, b2, g.get h1, h2⟩, h3⟩
theorem Bz.mono {a : Sto} {lb k k' : Nat} (h : Bz a lb k) (hk : k' ≤ k) : Bz a lb k' := by
  obtain ⟨B, h1, h2⟩ := h
  exact ⟨B, h1, by omega⟩
theorem RV.gb {n0 lb : Nat} {st st' : Sto} {v u : PV} (h : RV n0 lb st v u) (g : GB lb st st') (hl : lb < n0) : RV n0 lb st' v u := by
  cases h with
  | g h => exact .g h
  | m h1 h2 h3 => exact .m h1 (by rw [g.same _ (List.getElem?_eq_some_iff.mp h2).1 (by omega)]; exact h2) h3
  | b => exact .b
theorem RVL.gb {n0 lb : Nat} {st st' : Sto} {vs us : List PV} (h : RVL n0 lb st vs us) (g : GB lb st st') (hl : lb < n0) : RVL n0 lb st' vs us := by
  induction h with
  | nil => exact .nil
  | cons h _ ih => exact .cons (h.gb g hl) ih
theorem SR.gb {n0 lb : Nat} {st st' : Sto} {ρ σ : Slots} (h : SR n0 lb st ρ σ) (g : GB lb st st') (hl : lb < n0) : SR n0 lb st' ρ σ :=
  ⟨h.len, fun i v e => let ⟨u, h1, h2⟩ := h.at_ i v e; ⟨u, h1, h2.gb g hl⟩, h.dis⟩
abbrev PT := Nat → List PV → Nat → (PV → Nat → Prop) → Prop
inductive Pw (R : PV → PV → Prop) : List PV → List PV → Prop
  | nil : Pw R [] []
  | cons {x y : PV} {xs ys : List PV} : R x y → Pw R xs ys → Pw R (x :: xs) (y :: ys)
section
variable (F : Nat → List PV → PV) (P : Nat → List PV → Prop) (W : PT)
mutual
def wE : E → Slots → Nat → (PV → Nat → Prop) → Prop
  | .call f es, ρ, b, Q => if bf ρ es then sE F P (.call f es) ρ ∧ Q (F f (dL F es ρ)) b else wL es ρ b fun vs b' => W f vs b' Q
  | .callk f es ks n ps kn, ρ, b, Q => bf ρ es = true ∧ bf ρ ks = true ∧ sE F P (.callk f es ks n ps kn) ρ ∧ Q (F f (gg n ps kn (dL F es ρ) (dL F ks ρ))) b
  | .bin m o x y, ρ, b, Q => if bf ρ x && bf ρ y then sE F P (.bin m o x y) ρ ∧ Q (binT m o (dE F x ρ) (dE F y ρ)) b else wE x ρ b fun v b1 => wE y ρ b1 fun w b2 => binS o v w ∧ Q (binT m o v w) b2
  | .cmp o x y, ρ, b, Q => if bf ρ x && bf ρ y then sE F P (.cmp o x y) ρ ∧ Q (.bl (cmpT o (dE F x ρ) (dE F y ρ))) b else wE x ρ b fun v b1 => wE y ρ b1 fun w b2 => cmpS o v w ∧ Q (.bl (cmpT o v w)) b2
  | .and x y, ρ, b, Q => if bf ρ x && bf ρ y then sE F P (.and x y) ρ ∧ Q (andT (dE F x ρ) (dE F y ρ)) b else wE x ρ b fun v b1 => truthS v ∧ (truthT v = true → wE y ρ b1 Q) ∧ (truthT v = false → Q v b1)
  | .or x y, ρ, b, Q => if bf ρ x && bf ρ y then sE F P (.or x y) ρ ∧ Q (orT (dE F x ρ) (dE F y ρ)) b else wE x ρ b fun v b1 => truthS v ∧ (truthT v = false → wE y ρ b1 Q) ∧ (truthT v = true → Q v b1)
  | .not x, ρ, b, Q => if bf ρ x then sE F P (.not x) ρ ∧ Q (.bl (!truthT (dE F x ρ))) b else wE x ρ b fun v b1 => truthS v ∧ Q (.bl (!truthT v)) b1
  | .ite q x y, ρ, b, Q => if bf ρ q && bf ρ x && bf ρ y then sE F P (.ite q x y) ρ ∧ Q (iteT (dE F q ρ) (dE F x ρ) (dE F y ρ)) b else wE q ρ b fun v b1 => truthS v ∧ (truthT v = true → wE x ρ b1 Q) ∧ (truthT v = false → wE y ρ b1 Q)
  | .tup es, ρ, b, Q => if bf ρ es then sE F P (.tup es) ρ ∧ Q (.tup (dL F es ρ)) b else wL es ρ b fun vs b' => groundL vs = true ∧ vs.length ≤ lim ∧ Q (.tup vs) b'
  | .lst m es, ρ, b, Q => if bf ρ es then sE F P (.lst m es) ρ ∧ Q (mkT m (dL F es ρ)) b else wL es ρ b fun vs b' => groundL vs = true ∧ vs.length ≤ lim ∧ Q (mkT m vs) b'
  | .bi m o es, ρ, b, Q => if bf ρ es then sE F P (.bi m o es) ρ ∧ Q (biT m o (dL F es ρ)) b else wL es ρ b fun vs b' => biS o vs ∧ Q (biT m o vs) b'
  | .sub x i, ρ, b, Q => if bf ρ x && bf ρ i then sE F P (.sub x i) ρ ∧ Q (atT (itemsT (dE F x ρ)) (intT (dE F i ρ))) b else wE x ρ b fun v b1 => wE i ρ b1 fun w b2 => isSeq v = true ∧ isInt w = true ∧ (L2.atI (itemsT v) (intT w)).isSome = true ∧ Q (atT (itemsT v) (intT w)) b2
  | .lc m it t own q e, ρ, b, Q => if bf ρ it && bf ρ q && bf ρ e then sE F P (.lc m it t own q e) ρ ∧ Q (dE F (.lc m it t own q e) ρ) b
      else q = .cst (.bl true) ∧ wI it ρ b fun xs b0 => ∃ (cost : Nat) (R : PV → PV → Prop), xs.length * cost ≤ b0 ∧
        (∀ x ∈ xs, ∀ b1, cost ≤ b1 → asS t x ∧ wE e (asT t x (wipeS ρ own)) b1 fun y b2 => y.ground = true ∧ R x y ∧ b1 ≤ b2 + cost) ∧
        ∀ ys b', Pw R xs ys → b0 ≤ b' + xs.length * cost → Q (mkT m ys) b'
  | e, ρ, b, Q => sE F P e ρ ∧ Q (dE F e ρ) b
def wL : E → Slots → Nat → (List PV → Nat → Prop) → Prop
  | .nil, _, b, Q => Q [] b
  | .cons e es, ρ, b, Q => wE e ρ b fun v b1 => wL es ρ b1 fun vs b2 => Q (v :: vs) b2
  | .star e es, ρ, b, Q => wE e ρ b fun v b1 => isSeq v = true ∧ wL es ρ b1 fun vs b2 => Q (itemsT v ++ vs) b2
  | _, _, _, _ => False
def wI : E → Slots → Nat → (List PV → Nat → Prop) → Prop
  | .itr k es, ρ, b, Q => if bf ρ es then sI F P (.itr k es) ρ ∧ groundL (dL F es ρ) = true ∧ Q (wkT k (dL F es ρ)) b else wL es ρ b fun vs b' => groundL vs = true ∧ wkS k vs ∧ Q (wkT k vs) b'
  | _, _, _, _ => False
end
abbrev QT := Fl → Slots → Nat → Prop
variable (wf : Nat)
def wT : T → Slots → Nat → QT → Prop
  | .seq x y, ρ, b, Q => wT x ρ b fun fl ρ' b' => match fl with
    | .nx => wT y ρ' b' Q
    | fl => Q fl ρ' b'
  | .asg t e, ρ, b, Q => wE F P W e ρ b fun v b' => asS t v ∧ (v.ground = true ∨ (frE e = true ∧ isArg v = true ∧ ∃ i, t = .one i)) ∧ Q .nx (asT t v ρ) b'
  | .app i e, ρ, b, Q => isArg (slotT ρ i) = true ∧ wE F P W e ρ b fun v b' => v.ground = true ∧ (argT (slotT ρ i)).length < lim ∧ Q .nx (ρ.set i (some (.arg (argT (slotT ρ i) ++ [v])))) b'
  | .appPop i j x, ρ, b, Q => i ≠ j ∧ isArg (slotT ρ i) = true ∧ isArg (slotT ρ j) = true ∧ (argT (slotT ρ i)).length < lim ∧ wE F P W x ρ b fun v b' => isInt v = true ∧ (L2.ixN (argT (slotT ρ j)).length (intT v)).isSome = true ∧ Q .nx ((ρ.set j (some (.arg ((argT (slotT ρ j)).eraseIdx ((L2.ixN (argT (slotT ρ j)).length (intT v)).getD 0))))).set i (some (.arg (argT (slotT ρ i) ++ [atT (argT (slotT ρ j)) (intT v)])))) b'
  | .set_ i x e, ρ, b, Q => if bf ρ e then sT F P wf (.set_ i x e) ρ ∧ Q (dT F wf (.set_ i x e) ρ).1 (dT F wf (.set_ i x e) ρ).2 b
      else isArg (slotT ρ i) = true ∧ wE F P W e ρ b fun v b' => v.ground = true ∧ sE F P x ρ ∧ isInt (dE F x ρ) = true ∧ (L2.ixN (argT (slotT ρ i)).length (intT (dE F x ρ))).isSome = true ∧ Q .nx (ρ.set i (some (.arg ((argT (slotT ρ i)).set ((L2.ixN (argT (slotT ρ i)).length (intT (dE F x ρ))).getD 0) v)))) b'
  | .ite c x y, ρ, b, Q => wE F P W c ρ b fun v b' => truthS v ∧ (truthT v = true → wT x ρ b' Q) ∧ (truthT v = false → wT y ρ b' Q)
  | .for_ it t s fg, ρ, b, Q => if bfT ρ (.for_ it t s fg) then sT F P wf (.for_ it t s fg) ρ ∧ Q (dT F wf (.for_ it t s fg) ρ).1 (dT F wf (.for_ it t s fg) ρ).2 b
      else wI F P W it ρ b fun xs b0 => ∃ (cost : Nat) (I : Nat → Slots → Prop) (Rt : PV → Prop), xs.length * cost ≤ b0 ∧ I 0 (wipeS ρ fg) ∧
        (∀ k x, xs[k]? = some x → ∀ ρ' b1, I k ρ' → cost ≤ b1 → asS t x ∧ wT s (asT t x ρ') b1 fun fl ρ2 b2 => b1 ≤ b2 + cost ∧ match fl with
          | .nx => I (k + 1) (wipeS ρ2 fg)
          | .ct => I (k + 1) (wipeS ρ2 fg)
          | .bk => I xs.length (wipeS ρ2 fg)
          | .rt v => Rt v) ∧
        (∀ ρ' b', I xs.length ρ' → b0 ≤ b' + xs.length * cost → Q .nx ρ' b') ∧ (∀ v ρ' b', Rt v → b0 ≤ b' + xs.length * cost → Q (.rt v) ρ' b')
  | .ret e, ρ, b, Q => wE F P W e ρ b fun v b' => Q (.rt v) [] b'
  | .brk, ρ, b, Q => Q .bk ρ b
  | .cnt, ρ, b, Q => Q .ct ρ b
  | .skip, ρ, b, Q => Q .nx ρ b
  | .exp e, ρ, b, Q => wE F P W e ρ b fun _ b' => Q .nx ρ b'
  | s, ρ, b, Q => sT F P wf s ρ ∧ Q (dT F wf s ρ).1 (dT F wf s ρ).2 b
end
section
variable {c : Cf} {F : Nat → List PV → PV} {P : Nat → List PV → Prop} {W : PT} {n0 lb : Nat}
def WOk (c : Cf) (W : PT) : Prop := ∀ f vs us st n0 lb b Q, lb < n0 → n0 ≤ st.length → RVL n0 lb st vs us → Bz st lb b → W f vs b Q →
  ∃ v st' b', c.call f us st = some (v, st') ∧ st'.length = st.length ∧ GB lb st st' ∧ v.ground = true ∧ Bz st' lb b' ∧ Q v b'
def SemE (c : Cf) (n0 lb : Nat) (e : E) (ρ : Slots) (b : Nat) (Q : PV → Nat → Prop) : Prop := ∀ σ st, lb < n0 → n0 ≤ st.length → SR n0 lb st ρ σ → Bz st lb b →
  ∃ u st' v b', evE c e σ st = some (u, st') ∧ GB lb st st' ∧ RV n0 lb st' v u ∧ Bz st' lb b' ∧ Q v b' ∧ (frE e = true → ∀ l, u = .ref l → st.length ≤ l)
def SemL (c : Cf) (n0 lb : Nat) (e : E) (ρ : Slots) (b : Nat) (Q : List PV → Nat → Prop) : Prop := ∀ σ st, lb < n0 → n0 ≤ st.length → SR n0 lb st ρ σ → Bz st lb b →
  ∃ us st' vs b', evL c e σ st = some (us, st') ∧ GB lb st st' ∧ RVL n0 lb st' vs us ∧ Bz st' lb b' ∧ Q vs b'
def SemI (c : Cf) (n0 lb : Nat) (e : E) (ρ : Slots) (b : Nat) (Q : List PV → Nat → Prop) : Prop := ∀ σ st, lb < n0 → n0 ≤ st.length → SR n0 lb st ρ σ → Bz st lb b →
  ∃ w st' b', evI c e σ st = some (w, st') ∧ GB lb st st' ∧ w.g = none ∧ groundL w.xs = true ∧ Bz st' lb b' ∧ Q w.xs b'
theorem pure_sem (hc : CallOk c F P) {e : E} {ρ : Slots} {b : Nat} {Q : PV → Nat → Prop} (hs : sE F P e ρ) (hq : Q (dE F e ρ) b) : SemE c n0 lb e ρ b Q := fun σ st hl hn hr hb => by
  obtain ⟨u, s1, e1, g1, r1, f1⟩ := (den_ok (n0 := n0) (lb := lb) hc e).1 ρ σ st hn hr hs
  exact ⟨u, s1, _, b, e1, g1.gb lb, r1, hb.grow g1, hq, f1⟩
theorem mul_succ_le {n cost b : Nat} (h : (n + 1) * cost ≤ b) : cost ≤ b ∧ n * cost ≤ b - cost := by
  rw [Nat.add_mul, Nat.one_mul] at h; omega
theorem lcw_ok {f : PV → Sto → Option (Option PV × Sto)} {R : PV → PV → Prop} {ok : Sto → Bool} {cost : Nat} {X : Sto → Prop} (hok : ∀ s, ok s = true) : ∀ (xs : List PV),
    (∀ x ∈ xs, ∀ st b1, X st → cost ≤ b1 → Bz st lb b1 → ∃ y st' b2, f x st = some (some y, st') ∧ X st' ∧ GB lb st st' ∧ y.ground = true ∧ R x y ∧ Bz st' lb b2 ∧ b1 ≤ b2 + cost) →
    ∀ st b1, X st → xs.length * cost ≤ b1 → Bz st lb b1 → ∃ ys st' b2, lcM ok f xs st = some (ys, st') ∧ X st' ∧ GB lb st st' ∧ groundL ys = true ∧ Pw R xs ys ∧ Bz st' lb b2 ∧ b1 ≤ b2 + xs.length * cost
  | [], _, st, b1, hx, _, hb => ⟨[], st, b1, by simp [lcM, hok], hx, .refl _ _, rfl, .nil, hb, by omega⟩
  | x :: r, hf, st, b1, hx, hc, hb => by
    rw [List.length_cons] at hc ⊢
    obtain ⟨c1, c2⟩ := mul_succ_le hc
    obtain ⟨y, s1, b2, e1, x1, g1, y1, r1, z1, l1⟩ := hf x (by simp) st b1 hx c1 hb
    obtain ⟨ys, s2, b3, e2, x2, g2, y2, r2, z2, l2⟩ := lcw_ok hok r (fun x hx => hf x (by simp [hx])) s1 b2 x1 (by omega) z1
    refine ⟨y :: ys, s2, b3, ?_, x2, g1.trans g2, by simp [groundL, y1, y2], .cons r1 r2, z2, by rw [Nat.add_mul, Nat.one_mul]; omega⟩
    simp only [lcM, hok, if_true, e1, Option.bind, e2, Option.map]
theorem wE_ok (hc : CallOk c F P) (hw : WOk c W) : ∀ e : E, (∀ ρ b Q, wE F P W e ρ b Q → SemE c n0 lb e ρ b Q) ∧ (∀ ρ b Q, wL F P W e ρ b Q → SemL c n0 lb e ρ b Q) ∧ (∀ ρ b Q, wI F P W e ρ b Q → SemI c n0 lb e ρ b Q) := by
  have ps : ∀ {e : E} {ρ : Slots} {b : Nat} {Q : PV → Nat → Prop}, sE F P e ρ → Q (dE F e ρ) b → SemE c n0 lb e ρ b Q := fun hs hq => pure_sem hc hs hq
  have nL : ∀ e : E, (∀ ρ b Q, ¬ wL F P W e ρ b Q) → ∀ ρ b Q, wL F P W e ρ b Q → SemL c n0 lb e ρ b Q := fun e h ρ b Q hs => absurd hs (h ρ b Q)
  have nI : ∀ e : E, (∀ ρ b Q, ¬ wI F P W e ρ b Q) → ∀ ρ b Q, wI F P W e ρ b Q → SemI c n0 lb e ρ b Q := fun e h ρ b Q hs => absurd hs (h ρ b Q)
  intro e
  induction e with
  | call f es ih =>
    refine ⟨fun ρ b Q h => ?_, nL _ fun ρ b Q h => by simp [wL] at h, nI _ fun ρ b Q h => by simp [wI] at h⟩
    unfold wE at h
    split at h
    · exact ps h.1 (by simp only [dE]; exact h.2)
    · intro σ st hl hn hr hb
      obtain ⟨us, s1, vs, b1, e1, g1, r1, z1, q1⟩ := ih.2.1 ρ b _ h σ st hl hn hr hb
      obtain ⟨v, s2, b2, e2, l2, g2, v2, z2, q2⟩ := hw f vs us s1 n0 lb b1 Q hl (Nat.le_trans hn g1.len) r1 z1 q1
      exact ⟨v, s2, v, b2, by simp only [evE, e1, Option.bind, e2], g1.trans g2, .g v2, z2, q2, fun z => by simp [frE] at z⟩
  | callk f es ks n ps' kn ih1 ih2 =>
    refine ⟨fun ρ b Q h => ?_, nL _ fun ρ b Q h => by simp [wL] at h, nI _ fun ρ b Q h => by simp [wI] at h⟩
    unfold wE at h
    exact ps h.2.2.1 (by simp only [dE]; exact h.2.2.2)
  | bin m o x y ihx ihy =>
    refine ⟨fun ρ b Q h => ?_, nL _ fun ρ b Q h => by simp [wL] at h, nI _ fun ρ b Q h => by simp [wI] at h⟩
    unfold wE at h
    split at h
    · exact ps h.1 (by simp only [dE]; exact h.2)
    · intro σ st hl hn hr hb
      obtain ⟨u1, s1, v1, b1, e1, g1, r1, z1, q1, _⟩ := ihx.1 ρ b _ h σ st hl hn hr hb
      obtain ⟨u2, s2, v2, b2, e2, g2, r2, z2, q2, _⟩ := ihy.1 ρ b1 _ q1 σ s1 hl (Nat.le_trans hn g1.len) (hr.gb g1 hl) z1
      obtain ⟨u3, s3, e3, g3, r3, f3⟩ := bin_rv (m := m) (Nat.le_trans hn (g1.trans g2).len) (r1.gb g2 hl) r2 q2.1
      exact ⟨u3, s3, _, b2, by simp only [evE, e1, e2, Option.bind, e3], (g1.trans g2).trans (g3.gb lb), r3, z2.grow g3, q2.2, fun _ l hl' => Nat.le_trans (g1.trans g2).len (f3 l hl')⟩
  | cmp o x y ihx ihy =>
    refine ⟨fun ρ b Q h => ?_, nL _ fun ρ b Q h => by simp [wL] at h, nI _ fun ρ b Q h => by simp [wI] at h⟩
    unfold wE at h
    split at h
    · exact ps h.1 (by simp only [dE]; exact h.2)
    · intro σ st hl hn hr hb
      obtain ⟨u1, s1, v1, b1, e1, g1, r1, z1, q1, _⟩ := ihx.1 ρ b _ h σ st hl hn hr hb
      obtain ⟨u2, s2, v2, b2, e2, g2, r2, z2, q2, _⟩ := ihy.1 ρ b1 _ q1 σ s1 hl (Nat.le_trans hn g1.len) (hr.gb g1 hl) z1
      exact ⟨_, s2, _, b2, by simp only [evE, e1, e2, Option.bind, cmp_rv (r1.gb g2 hl) r2 q2.1, Option.map], g1.trans g2, .g rfl, z2, q2.2, fun z => by simp [frE] at z⟩
  | and x y ihx ihy =>
    refine ⟨fun ρ b Q h => ?_, nL _ fun ρ b Q h => by simp [wL] at h, nI _ fun ρ b Q h => by simp [wI] at h⟩
    unfold wE at h
    split at h
    · exact ps h.1 (by simp only [dE]; exact h.2)
    · intro σ st hl hn hr hb
      obtain ⟨u1, s1, v1, b1, e1, g1, r1, z1, q1, _⟩ := ihx.1 ρ b _ h σ st hl hn hr hb
      have t1 := truth_rv r1 q1.1
      cases hk : truthT v1 with
      | true =>
        obtain ⟨u2, s2, v2, b2, e2, g2, r2, z2, q2, _⟩ := ihy.1 ρ b1 _ (q1.2.1 hk) σ s1 hl (Nat.le_trans hn g1.len) (hr.gb g1 hl) z1
        exact ⟨u2, s2, v2, b2, by simp only [evE, e1, Option.bind, t1, hk, if_true, e2], g1.trans g2, r2, z2, q2, fun z => by simp [frE] at z⟩
      | false => exact ⟨u1, s1, v1, b1, by simp only [evE, e1, Option.bind, t1, hk]; rfl, g1, r1, z1, q1.2.2 hk, fun z => by simp [frE] at z⟩
  | or x y ihx ihy =>
    refine ⟨fun ρ b Q h => ?_, nL _ fun ρ b Q h => by simp [wL] at h, nI _ fun ρ b Q h => by simp [wI] at h⟩
    unfold wE at h
    split at h
    · exact ps h.1 (by simp only [dE]; exact h.2)
    · intro σ st hl hn hr hb
      obtain ⟨u1, s1, v1, b1, e1, g1, r1, z1, q1, _⟩ := ihx.1 ρ b _ h σ st hl hn hr hb
      have t1 := truth_rv r1 q1.1
      cases hk : truthT v1 with
      | false =>
        obtain ⟨u2, s2, v2, b2, e2, g2, r2, z2, q2, _⟩ := ihy.1 ρ b1 _ (q1.2.1 hk) σ s1 hl (Nat.le_trans hn g1.len) (hr.gb g1 hl) z1
        exact ⟨u2, s2, v2, b2, by simp only [evE, e1, Option.bind, t1, hk, e2]; rfl, g1.trans g2, r2, z2, q2, fun z => by simp [frE] at z⟩
      | true => exact ⟨u1, s1, v1, b1, by simp only [evE, e1, Option.bind, t1, hk]; rfl, g1, r1, z1, q1.2.2 hk, fun z => by simp [frE] at z⟩
  | not x ihx =>
    refine ⟨fun ρ b Q h => ?_, nL _ fun ρ b Q h => by simp [wL] at h, nI _ fun ρ b Q h => by simp [wI] at h⟩
    unfold wE at h
    split at h
    · exact ps h.1 (by simp only [dE]; exact h.2)
    · intro σ st hl hn hr hb
      obtain ⟨u1, s1, v1, b1, e1, g1, r1, z1, q1, _⟩ := ihx.1 ρ b _ h σ st hl hn hr hb
      exact ⟨_, s1, _, b1, by simp only [evE, e1, Option.bind, truth_rv r1 q1.1, Option.map], g1, .g rfl, z1, q1.2, fun z => by simp [frE] at z⟩
  | ite q x y ihq ihx ihy =>
    refine ⟨fun ρ b Q h => ?_, nL _ fun ρ b Q h => by simp [wL] at h, nI _ fun ρ b Q h => by simp [wI] at h⟩
    unfold wE at h
    split at h
    · exact ps h.1 (by simp only [dE]; exact h.2)
    · intro σ st hl hn hr hb
      obtain ⟨u1, s1, v1, b1, e1, g1, r1, z1, q1, _⟩ := ihq.1 ρ b _ h σ st hl hn hr hb
      have t1 := truth_rv r1 q1.1
      cases hk : truthT v1 with
      | true =>
        obtain ⟨u2, s2, v2, b2, e2, g2, r2, z2, q2, f2⟩ := ihx.1 ρ b1 _ (q1.2.1 hk) σ s1 hl (Nat.le_trans hn g1.len) (hr.gb g1 hl) z1
        exact ⟨u2, s2, v2, b2, by simp only [evE, e1, Option.bind, t1, hk, if_true, e2], g1.trans g2, r2, z2, q2, fun z l hl' => by
          simp only [frE, Bool.and_eq_true] at z
          exact Nat.le_trans g1.len (f2 z.1 l hl')⟩
      | false =>
        obtain ⟨u2, s2, v2, b2, e2, g2, r2, z2, q2, f2⟩ := ihy.1 ρ b1 _ (q1.2.2 hk) σ s1 hl (Nat.le_trans hn g1.len) (hr.gb g1 hl) z1
        exact ⟨u2, s2, v2, b2, by simp only [evE, e1, Option.bind, t1, hk, e2]; rfl, g1.trans g2, r2, z2, q2, fun z l hl' => by
          simp only [frE, Bool.and_eq_true] at z
          exact Nat.le_trans g1.len (f2 z.2 l hl')⟩
  | tup es ih =>
    refine ⟨fun ρ b Q h => ?_, nL _ fun ρ b Q h => by simp [wL] at h, nI _ fun ρ b Q h => by simp [wI] at h⟩
    unfold wE at h
    split at h
    · exact ps h.1 (by simp only [dE]; exact h.2)
    · intro σ st hl hn hr hb
      obtain ⟨us, s1, vs, b1, e1, g1, r1, z1, q1⟩ := ih.2.1 ρ b _ h σ st hl hn hr hb
      cases r1.eq q1.1
      exact ⟨_, s1, _, b1, by simp only [evE, e1, Option.bind, q1.2.1, if_true], g1, .g (tg_tup q1.1), z1, q1.2.2, fun z => by simp [frE] at z⟩
  | lst m es ih =>
    refine ⟨fun ρ b Q h => ?_, nL _ fun ρ b Q h => by simp [wL] at h, nI _ fun ρ b Q h => by simp [wI] at h⟩
    unfold wE at h
    split at h
    · exact ps h.1 (by simp only [dE]; exact h.2)
    · intro σ st hl hn hr hb
      obtain ⟨us, s1, vs, b1, e1, g1, r1, z1, q1⟩ := ih.2.1 ρ b _ h σ st hl hn hr hb
      cases r1.eq q1.1
      obtain ⟨u, s2, e2, g2, r2, f2⟩ := mk_rv (lb := lb) m (Nat.le_trans hn g1.len) q1.1
      exact ⟨u, s2, _, b1, by simp only [evE, e1, Option.bind, q1.2.1, if_true, e2], g1.trans (g2.gb lb), r2, z1.grow g2, q1.2.2, fun _ l hl' => Nat.le_trans g1.len (f2 l hl')⟩
  | bi m o es ih =>
    refine ⟨fun ρ b Q h => ?_, nL _ fun ρ b Q h => by simp [wL] at h, nI _ fun ρ b Q h => by simp [wI] at h⟩
    unfold wE at h
    split at h
    · exact ps h.1 (by simp only [dE]; exact h.2)
    · intro σ st hl hn hr hb
      obtain ⟨us, s1, vs, b1, e1, g1, r1, z1, q1⟩ := ih.2.1 ρ b _ h σ st hl hn hr hb
      obtain ⟨u, s2, e2, g2, r2, f2⟩ := bi_rv (m := m) (Nat.le_trans hn g1.len) r1 q1.1
      exact ⟨u, s2, _, b1, by simp only [evE, e1, Option.bind, e2], g1.trans (g2.gb lb), r2, z1.grow g2, q1.2, fun _ l hl' => Nat.le_trans g1.len (f2 l hl')⟩
  | sub x i ihx ihy =>
    refine ⟨fun ρ b Q h => ?_, nL _ fun ρ b Q h => by simp [wL] at h, nI _ fun ρ b Q h => by simp [wI] at h⟩
    unfold wE at h
    split at h
    · exact ps h.1 (by simp only [dE]; exact h.2)
    · intro σ st hl hn hr hb
      obtain ⟨u1, s1, v1, b1, e1, g1, r1, z1, q1, _⟩ := ihx.1 ρ b _ h σ st hl hn hr hb
      obtain ⟨u2, s2, v2, b2, e2, g2, r2, z2, q2, _⟩ := ihy.1 ρ b1 _ q1 σ s1 hl (Nat.le_trans hn g1.len) (hr.gb g1 hl) z1
      obtain ⟨i1, i2⟩ := items_rv (r1.gb g2 hl) q2.1
      cases v2 with
      | int k =>
        cases r2.eq rfl
        obtain ⟨z, hz⟩ := Option.isSome_iff_exists.mp q2.2.2.1
        simp only [intT] at hz
        have hzm : z ∈ itemsT v1 := by
          unfold L2.atI at hz
          cases hq : L2.ixN (itemsT v1).length k with
          | none => rw [hq] at hz; cases hz
          | some j => rw [hq] at hz; exact List.mem_of_getElem? hz
        have hat : atT (itemsT v1) (intT (.int k)) = z := by simp only [atT, intT, hz, Option.getD]
        exact ⟨z, s2, z, b2, by simp only [evE, e1, e2, Option.bind, subEv, i1, hz, Option.map], g1.trans g2, .g (ground_get i2 z hzm), z2, hat ▸ q2.2.2.2, fun z => by simp [frE] at z⟩
      | _ => have := q2.2.1; simp [isInt] at this
  | lc m it t own q e ihi ihq ihe =>
    refine ⟨fun ρ b Q h => ?_, nL _ fun ρ b Q h => by simp [wL] at h, nI _ fun ρ b Q h => by simp [wI] at h⟩
    unfold wE at h
    split at h
    · exact ps h.1 h.2
    · intro σ st hl hn hr hb
      obtain ⟨rfl, h⟩ := h
      obtain ⟨w, s1, b0, e1, g1, w1, w2, z1, cost, R, c1, c2, c3⟩ := ihi.2.2 ρ b _ h σ st hl hn hr hb
      have hok : ∀ s, guardOk w s = true := fun s => by simp only [guardOk, w1]
      obtain ⟨ys, s2, b2, e2, _, g2, y2, r2, z2, l2⟩ := lcw_ok (lb := lb) (X := fun s => n0 ≤ s.length ∧ SR n0 lb s ρ σ) hok w.xs (f := lcF c t own (.cst (.bl true)) e σ) (R := R) (cost := cost) (fun x hx s b1 hX hb1 hz => by
        obtain ⟨a1, a2⟩ := c2 x hx b1 hb1
        obtain ⟨σ', k1, k2⟩ := (hX.2.wipe own).asgn a1 (ground_get w2 x hx)
        obtain ⟨u, s3, v, b3, e3, g3, r3, z3, q3, _⟩ := ihe.1 _ b1 _ a2 σ' s hl hX.1 k2 hz
        cases r3.eq q3.1
        exact ⟨u, s3, b3, by simp only [lcF, k1, Option.bind, evE, truth, if_true, e3, Option.map], ⟨Nat.le_trans hX.1 g3.len, hX.2.gb g3 hl⟩, g3, q3.1, q3.2.1, z3, q3.2.2⟩)
        s1 b0 ⟨Nat.le_trans hn g1.len, hr.gb g1 hl⟩ c1 z1
      obtain ⟨u, s3, e3, g3, r3, f3⟩ := mk_rv (lb := lb) m (Nat.le_trans hn (g1.trans g2).len) y2
      refine ⟨u, s3, _, b2, ?_, (g1.trans g2).trans (g3.gb lb), r3, z2.grow g3, c3 ys b2 r2 l2, fun _ l hl' => Nat.le_trans (g1.trans g2).len (f3 l hl')⟩
      rw [evE_lc, e1, kLc_some, e2, kMk_some, e3]
  | nil =>
    refine ⟨fun ρ b Q h => ?_, fun ρ b Q h σ st hl hn hr hb => ⟨[], st, [], b, by simp only [evL], .refl _ _, .nil, hb, by unfold wL at h; exact h⟩, nI _ fun ρ b Q h => by simp [wI] at h⟩
    unfold wE at h; exact ps h.1 h.2
  | cons e es ihe ihs =>
    refine ⟨fun ρ b Q h => ?_, fun ρ b Q h σ st hl hn hr hb => ?_, nI _ fun ρ b Q h => by simp [wI] at h⟩
    · unfold wE at h; exact ps h.1 h.2
    · unfold wL at h
      obtain ⟨u1, s1, v1, b1, e1, g1, r1, z1, q1, _⟩ := ihe.1 ρ b _ h σ st hl hn hr hb
      obtain ⟨us, s2, vs, b2, e2, g2, r2, z2, q2⟩ := ihs.2.1 ρ b1 _ q1 σ s1 hl (Nat.le_trans hn g1.len) (hr.gb g1 hl) z1
      exact ⟨u1 :: us, s2, v1 :: vs, b2, by simp only [evL, e1, Option.bind, e2, Option.map], g1.trans g2, .cons (r1.gb g2 hl) r2, z2, q2⟩
  | star e es ihe ihs =>
    refine ⟨fun ρ b Q h => ?_, fun ρ b Q h σ st hl hn hr hb => ?_, nI _ fun ρ b Q h => by simp [wI] at h⟩
    · unfold wE at h; exact ps h.1 h.2
    · unfold wL at h
      obtain ⟨u1, s1, v1, b1, e1, g1, r1, z1, q1, _⟩ := ihe.1 ρ b _ h σ st hl hn hr hb
      obtain ⟨i1, i2⟩ := items_rv r1 q1.1
      obtain ⟨us, s2, vs, b2, e2, g2, r2, z2, q2⟩ := ihs.2.1 ρ b1 _ q1.2 σ s1 hl (Nat.le_trans hn g1.len) (hr.gb g1 hl) z1
      exact ⟨_, s2, itemsT v1 ++ vs, b2, by simp only [evL, e1, Option.bind, i1, e2, Option.map], g1.trans g2, (RVL.of i2).app r2, z2, q2⟩
  | itr k es ih =>
    refine ⟨fun ρ b Q h => ?_, nL _ fun ρ b Q h => by simp [wL] at h, fun ρ b Q h σ st hl hn hr hb => ?_⟩
    · unfold wE at h; exact ps h.1 h.2
    · unfold wI at h
      split at h
      · obtain ⟨w, s1, e1, g1, w1, w2, w3, w4⟩ := (den_ok (n0 := n0) (lb := lb) hc (.itr k es)).2.2 ρ σ st hn hr h.1
        exact ⟨w, s1, b, e1, g1.gb lb, w4 h.2.1, by rw [w1]; exact w2, hb.grow g1, by rw [w1]; simp only [dI]; exact h.2.2⟩
      · obtain ⟨us, s1, vs, b1, e1, g1, r1, z1, q1⟩ := ih.2.1 ρ b _ h σ st hl hn hr hb
        obtain ⟨w, h1, h2, h3, h4, h5⟩ := wk_rv r1 q1.2.1
        exact ⟨w, s1, b1, by simp only [evI, e1, Option.bind, h1, Option.map], g1, h5 q1.1, by rw [h2]; exact h3, z1, by rw [h2]; exact q1.2.2⟩
  | _ =>
    refine ⟨fun ρ b Q h => ?_, nL _ fun ρ b Q h => by simp [wL] at h, nI _ fun ρ b Q h => by simp [wI] at h⟩
    unfold wE at h; exact ps h.1 h.2
structure KB (n0 lb : Nat) (st st' : Sto) : Prop where
  len : st.length ≤ st'.length
  low : ∀ l, l < n0 → l ≠ lb → st'[l]? = st[l]?
theorem KB.trans {n0 lb : Nat} {a b c : Sto} (h : KB n0 lb a b) (h' : KB n0 lb b c) : KB n0 lb a c := ⟨Nat.le_trans h.len h'.len, fun l hl hn => (h'.low l hl hn).trans (h.low l hl hn)⟩
theorem GB.kb {n0 lb : Nat} {a b : Sto} (h : GB lb a b) (hn : n0 ≤ a.length) : KB n0 lb a b := ⟨h.len, fun l hl hz => h.same l (by omega) hz⟩
theorem Kp.kb {n0 lb : Nat} {a b : Sto} (h : Kp n0 a b) : KB n0 lb a b := ⟨h.len, fun l hl _ => h.low l hl⟩
theorem Bz.kp {n0 lb k : Nat} {a b : Sto} (h : Bz a lb k) (g : Kp n0 a b) (hl : lb < n0) : Bz b lb k := by
  obtain ⟨B, ⟨g1, b1, b2, h1, h2⟩, h3⟩ := h
  exact ⟨B, ⟨g1, b1, b2, by rw [g.low lb hl]; exact h1, h2⟩, h3⟩
def SemT (c : Cf) (n0 lb : Nat) (s : S) (ρ : Slots) (b : Nat) (Q : QT) : Prop := ∀ σ st, lb < n0 → n0 ≤ st.length → SR n0 lb st ρ σ → Bz st lb b →
  ∃ fl σ' st' fl' ρ' b', evS c s σ st = some (fl, σ', st') ∧ KB n0 lb st st' ∧ OutT n0 lb st' (fl', ρ') fl σ' ∧ Bz st' lb b' ∧ Q fl' ρ' b'
theorem pure_semT (hc : CallOk c F P) {s : S} {lo : List Nat} {ρ : Slots} {b : Nat} {Q : QT} (hs : sT F P c.wf (ann lo s) ρ) (hq : Q (dT F c.wf (ann lo s) ρ).1 (dT F c.wf (ann lo s) ρ).2 b) : SemT c n0 lb s ρ b Q := fun σ st hl hn hr hb => by
  obtain ⟨fl, σ', st', e1, k1, o1⟩ := stm_ok (n0 := n0) (lb := lb) hc s lo ρ σ st hn hr hs
  exact ⟨fl, σ', st', _, _, b, e1, k1.kb, o1, hb.kp k1 hl, hq⟩
theorem forW_ok {f : PV → Slots → Sto → Option (Fl × Slots × Sto)} {ok : Sto → Bool} {cost N : Nat} {fg : List Nat} {I : Nat → Slots → Prop} {Rt : PV → Prop} (hl : lb < n0) (hok : ∀ s, ok s = true) : ∀ (xs : List PV) (k : Nat), k + xs.length = N →
    (∀ j x, xs[j]? = some x → ∀ ρ σ st b1, n0 ≤ st.length → SR n0 lb st ρ σ → Bz st lb b1 → I (k + j) ρ → cost ≤ b1 → ∃ fl σ' st' fl' ρ' b2, f x σ st = some (fl, σ', st') ∧ KB n0 lb st st' ∧ OutT n0 lb st' (fl', ρ') fl σ' ∧ Bz st' lb b2 ∧ b1 ≤ b2 + cost ∧ (match (generalizing := false) fl' with
          | .nx => I (k + j + 1) (wipeS ρ' fg)
          | .ct => I (k + j + 1) (wipeS ρ' fg)
          | .bk => I N (wipeS ρ' fg)
          | .rt v => Rt v)) →
    ∀ ρ σ st b1, n0 ≤ st.length → SR n0 lb st ρ σ → Bz st lb b1 → I k ρ → xs.length * cost ≤ b1 → ∃ fl σ' st' fl' ρ' b2, forM ok f xs σ st = some (fl, σ', st') ∧ KB n0 lb st st' ∧ OutT n0 lb st' (fl', ρ') fl σ' ∧ Bz st' lb b2 ∧ b1 ≤ b2 + xs.length * cost ∧ ((fl' = .nx ∧ I N ρ') ∨ ∃ v, fl' = .rt v ∧ Rt v)
  | [], k, hk, _, ρ, σ, st, b1, hn, hr, hb, hi, _ => ⟨.nx, σ, st, .nx, ρ, b1, by simp [Ev.forM, hok], ⟨Nat.le_refl _, fun _ _ _ => rfl⟩, hr, hb, by omega, .inl ⟨rfl, by simp at hk; rw [← hk]; exact hi⟩⟩
  | x :: r, k, hk, hf, ρ, σ, st, b1, hn, hr, hb, hi, hc => by
    rw [List.length_cons] at hc hk ⊢
    obtain ⟨c1, c2⟩ := mul_succ_le hc
    obtain ⟨fl, σ1, s1, fl', ρ1, b2, e1, k1, o1, z1, l1, q1⟩ := hf 0 x rfl ρ σ st b1 hn hr hb hi c1
    have rest : ∀ ρ2, SR n0 lb s1 ρ2 σ1 → I (k + 1) ρ2 → _ := fun ρ2 hr2 hi2 => forW_ok (N := N) (cost := cost) (fg := fg) (I := I) (Rt := Rt) (ok := ok) (f := f) hl hok r (k + 1) (by omega) (fun j y hy => by
      have := hf (j + 1) y (by simpa using hy)
      rw [show k + (j + 1) = k + 1 + j by omega] at this
      exact this) ρ2 σ1 s1 b2 (Nat.le_trans hn k1.len) hr2 z1 hi2 (by omega)
    have fin : b2 + cost ≥ b1 := l1
    cases fl' with
    | nx =>
      cases fl <;> simp only [OutT] at o1
      obtain ⟨f2, σ2, s2, f2', ρ2, b3, e2, k2, o2, z2, l2, q2⟩ := rest _ (o1.wipeL fg) q1
      exact ⟨f2, σ2, s2, f2', ρ2, b3, by simp only [Ev.forM, hok, if_true, e1, Option.bind, e2], k1.trans k2, o2, z2, by rw [Nat.add_mul, Nat.one_mul]; omega, q2⟩
    | ct =>
      cases fl <;> simp only [OutT] at o1
      obtain ⟨f2, σ2, s2, f2', ρ2, b3, e2, k2, o2, z2, l2, q2⟩ := rest _ (o1.wipeL fg) q1
      exact ⟨f2, σ2, s2, f2', ρ2, b3, by simp only [Ev.forM, hok, if_true, e1, Option.bind, e2], k1.trans k2, o2, z2, by rw [Nat.add_mul, Nat.one_mul]; omega, q2⟩
    | bk =>
      cases fl <;> simp only [OutT] at o1
      exact ⟨.nx, σ1, s1, .nx, _, b2, by simp only [Ev.forM, hok, if_true, e1, Option.bind], k1, o1.wipeL fg, z1, by rw [Nat.add_mul, Nat.one_mul]; omega, .inl ⟨rfl, q1⟩⟩
    | rt v =>
      cases fl <;> simp only [OutT] at o1
      exact ⟨.rt _, σ1, s1, .rt v, ρ1, b2, by simp only [Ev.forM, hok, if_true, e1, Option.bind], k1, o1, z1, by rw [Nat.add_mul, Nat.one_mul]; omega, .inr ⟨v, rfl, q1⟩⟩
theorem wT_ok (hc : CallOk c F P) (hw : WOk c W) : ∀ (s : S) (lo : List Nat) (ρ : Slots) (b : Nat) (Q : QT), wT F P W c.wf (ann lo s) ρ b Q → SemT c n0 lb s ρ b Q := by
  have we := wE_ok (n0 := n0) (lb := lb) hc hw
  have asg_case : ∀ (t : Tg) (e : E) (ρ : Slots) (b : Nat) (Q : QT), (wE F P W e ρ b fun v b' => asS t v ∧ (v.ground = true ∨ (frE e = true ∧ isArg v = true ∧ ∃ i, t = .one i)) ∧ Q .nx (asT t v ρ) b') → SemT c n0 lb (.asg t e) ρ b Q := fun t e ρ b Q h σ st hl hn hr hb => by
    obtain ⟨u, s1, v, b1, e1, g1, r1, z1, q1, f1⟩ := (we e).1 ρ b _ h σ st hl hn hr hb
    rcases q1.2.1 with hg | ⟨h1, h2, i, rfl⟩
    · cases r1.eq hg
      obtain ⟨σ', a1, a2⟩ := (hr.gb g1 hl).asgn q1.1 hg
      exact ⟨.nx, σ', s1, .nx, _, b1, by simp only [evS, e1, Option.bind, a1, Option.map], g1.kb hn, a2, z1, q1.2.2⟩
    · cases v with
      | arg xs =>
        cases r1 with
        | g hg => simp [PV.ground] at hg
        | @m l _ m1 m2 m3 =>
          refine ⟨.nx, σ.set i (some (.ref l)), s1, .nx, _, b1, by simp only [evS, e1, Option.bind, asgn, Option.map], g1.kb hn, ?_, z1, q1.2.2⟩
          have hll := f1 h1 l rfl
          obtain ⟨sL, hsL⟩ : ∃ sL : Sto, sL = s1 := ⟨s1, rfl⟩
          have hold : SR n0 lb s1 ρ σ := hr.gb g1 hl
          have old : ∀ (j : Nat) ys l', ρ[j]? = some (some (.arg ys)) → σ[j]? = some (some (.ref l')) → l' < st.length := fun j ys l' e1 e2 => by
            obtain ⟨u, h1, h2⟩ := hr.at_ j _ e1
            rw [e2] at h1
            cases h1
            cases h2 with
            | m _ hm _ => exact (List.getElem?_eq_some_iff.mp hm).1
          exact hold.fresh2 i l (fun j ys l' x1 x2 => by have := old j ys l' x1 x2; omega) (.m m1 m2 m3)
      | _ => simp [isArg] at h2
  intro s
  induction s with
  | bad => intro lo ρ b Q h; simp [ann, wT, sT] at h
  | skip => intro lo ρ b Q h σ st hl hn hr hb; simp only [ann, wT] at h; exact ⟨.nx, σ, st, .nx, ρ, b, by simp only [evS], ⟨Nat.le_refl _, fun _ _ _ => rfl⟩, hr, hb, h⟩
  | brk => intro lo ρ b Q h σ st hl hn hr hb; simp only [ann, wT] at h; exact ⟨.bk, σ, st, .bk, ρ, b, by simp only [evS], ⟨Nat.le_refl _, fun _ _ _ => rfl⟩, hr, hb, h⟩
  | cnt => intro lo ρ b Q h σ st hl hn hr hb; simp only [ann, wT] at h; exact ⟨.ct, σ, st, .ct, ρ, b, by simp only [evS], ⟨Nat.le_refl _, fun _ _ _ => rfl⟩, hr, hb, h⟩
  | seq x y ihx ihy =>
    intro lo ρ b Q h σ st hl hn hr hb
    simp only [ann, wT] at h
    obtain ⟨fl, σ1, s1, fl', ρ1, b1, e1, k1, o1, z1, q1⟩ := ihx _ ρ b _ h σ st hl hn hr hb
    cases fl' with
    | nx =>
      cases fl <;> simp only [OutT] at o1
      obtain ⟨f2, σ2, s2, f2', ρ2, b2, e2, k2, o2, z2, q2⟩ := ihy lo ρ1 b1 _ q1 σ1 s1 hl (Nat.le_trans hn k1.len) o1 z1
      exact ⟨f2, σ2, s2, f2', ρ2, b2, by simp only [evS, e1, Option.bind, e2], k1.trans k2, o2, z2, q2⟩
    | bk => cases fl <;> simp only [OutT] at o1; exact ⟨.bk, σ1, s1, .bk, ρ1, b1, by simp only [evS, e1, Option.bind], k1, o1, z1, q1⟩
    | ct => cases fl <;> simp only [OutT] at o1; exact ⟨.ct, σ1, s1, .ct, ρ1, b1, by simp only [evS, e1, Option.bind], k1, o1, z1, q1⟩
    | rt v => cases fl <;> simp only [OutT] at o1; exact ⟨.rt _, σ1, s1, .rt v, ρ1, b1, by simp only [evS, e1, Option.bind], k1, o1, z1, q1⟩
  | asg t e =>
    intro lo ρ b Q h
    by_cases hq : ∃ is es, t = .many is ∧ e = .tup es ∧ hasM es = true
    · obtain ⟨is, es, rfl, rfl, hM⟩ := hq
      have ha : ann lo (.asg (.many is) (.tup es)) = .asgM is es := by simp [ann, hM]
      rw [ha] at h
      simp only [wT] at h
      exact pure_semT (lo := lo) hc (by rw [ha]; exact h.1) (by rw [ha]; exact h.2)
    by_cases hp : (∃ o, e = .pop0 o) ∨ (∃ o x, e = .pop o x)
    · have : wT F P W c.wf (ann lo (.asg t e)) ρ b Q → sT F P c.wf (ann lo (.asg t e)) ρ ∧ Q (dT F c.wf (ann lo (.asg t e)) ρ).1 (dT F c.wf (ann lo (.asg t e)) ρ).2 b := by
        rcases hp with ⟨o, rfl⟩ | ⟨o, x, rfl⟩ <;> cases o <;> simp [ann, wT]
      exact pure_semT hc (this h).1 (this h).2
    · have ha : ann lo (.asg t e) = .asg t e := by
        cases e with
        | tup es =>
          cases t with
          | one i => rfl
          | many is =>
            cases hM : hasM es with
            | true => exact absurd ⟨is, es, rfl, rfl, hM⟩ hq
            | false => simp [ann, hM]
        | pop0 o => exact absurd (.inl ⟨_, rfl⟩) hp
        | pop o x => exact absurd (.inr ⟨_, _, rfl⟩) hp
        | _ => rfl
      rw [ha] at h
      simp only [wT] at h
      exact asg_case t e ρ b Q h
  | asgSub o x e =>
    intro lo ρ b Q h
    cases o with
    | var i =>
      simp only [ann, wT] at h
      by_cases hbf : bf ρ e = true
      · rw [if_pos hbf] at h
        exact pure_semT (lo := lo) hc h.1 h.2
      · rw [if_neg hbf] at h
        intro σ st hl hn hr hb
        obtain ⟨h1, h2⟩ := h
        have ha := arg_some h1
        obtain ⟨u, s1, v, b1, e1, g1, r1, z1, q1, f1⟩ := (we e).1 ρ b _ h2 σ st hl hn hr hb
        obtain ⟨hg, hx, hi, hj, hQ⟩ := q1
        cases r1.eq hg
        have hr1 := hr.gb g1 hl
        obtain ⟨u2, s2, v2, b2, e2, g2, r2, z2, q2, f2⟩ := pure_sem (n0 := n0) (lb := lb) hc (b := b1) (Q := fun v b => v = dE F x ρ ∧ b = b1) hx ⟨rfl, rfl⟩ σ s1 hl (Nat.le_trans hn g1.len) hr1 z1
        obtain ⟨rfl, rfl⟩ := q2
        have hr2 := hr1.gb g2 hl
        obtain ⟨l, l1, l2, l3, l4, l5⟩ := hr2.argAt ha
        cases hv : dE F x ρ with
        | int k =>
          rw [hv] at r2 hj hQ
          cases r2.eq rfl
          obtain ⟨j, hj⟩ := Option.isSome_iff_exists.mp hj
          simp only [intT] at hj
          have sg : groundL ((argT (slotT ρ i)).set j u) = true := groundL_of fun x hx => by
            rcases List.mem_or_eq_of_mem_set hx with q | q
            · exact ground_get l4 x q
            · rw [q]; exact hg
          have hm := hr2.mut ha l1 l2 l5 sg
          simp only [intT, hj, Option.getD] at hQ
          exact ⟨.nx, σ, _, .nx, _, b2, by simp only [evS, evE, e1, Option.bind, l1, Option.map, e2, setEv, cell_get l3, hj, hg, if_true], ((g1.kb hn).trans (g2.kb (Nat.le_trans hn g1.len))).trans (kp_set _ l2).kb, hm, z2.kp (kp_set _ l2) hl, hQ⟩
        | _ => rw [hv] at hi; simp [isInt] at hi
    | _ => simp [ann, wT, sT] at h
  | aug i o e =>
    intro lo ρ b Q h
    simp only [ann, wT] at h
    exact pure_semT (lo := lo) hc h.1 h.2
  | exp e =>
    intro lo ρ b Q h
    by_cases hp : (∃ o x, e = .append o x) ∨ (∃ o x, e = .extend o x)
    · rcases hp with ⟨o, x, rfl⟩ | ⟨o, x, rfl⟩
      · cases o with
        | var i =>
          by_cases hpp : ∃ o2 y, x = .pop o2 y
          · obtain ⟨o2, y, rfl⟩ := hpp
            cases o2 with
            | var j =>
              simp only [ann, wT] at h
              intro σ st hl hn hr hb
              obtain ⟨h0, h1, h1', h6, h2⟩ := h
              obtain ⟨u, s1, v, b1, e1, g1, r1, z1, q1, f1⟩ := (we y).1 ρ b _ h2 σ st hl hn hr hb
              have hr1 := hr.gb g1 hl
              cases v with
              | int k =>
                cases r1.eq rfl
                obtain ⟨q, o1, o2, o3, o4⟩ := appPop_run (n0 := n0) (lb := lb) hr1 h0 h1 h1' q1.2.1 h6
                obtain ⟨li, lj, a1, a2, z, s2, p1, p2⟩ := o1
                refine ⟨.nx, σ, q, .nx, _, b1, ?_, (g1.kb hn).trans o3.kb, o4, z1.kp o3 hl, q1.2.2⟩
                simp only [evS, evE, a1, a2, Option.bind, Option.map, e1, p1, p2]
              | _ => have := q1.1; simp [isInt] at this
            | _ => simp [ann, wT, sT] at h
          · have hax : ann lo (.exp (.append (.var i) x)) = .app i x := by
              cases x <;> first | rfl | (exfalso; exact hpp ⟨_, _, rfl⟩)
            rw [hax] at h
            simp only [wT] at h
            intro σ st hl hn hr hb
            obtain ⟨h1, h2⟩ := h
            have ha := arg_some h1
            obtain ⟨l, l1, l2, l3, l4, l5⟩ := hr.argAt ha
            obtain ⟨u, s1, v, b1, e1, g1, r1, z1, q1, f1⟩ := (we x).1 ρ b _ h2 σ st hl hn hr hb
            cases r1.eq q1.1
            have hr1 := hr.gb g1 hl
            have l3' : s1[l]? = some (.lst (argT (slotT ρ i))) := by rw [g1.same l l5 (by omega)]; exact l3
            have hm := hr1.mut ha l1 l2 (Nat.lt_of_lt_of_le l5 g1.len) (ys := argT (slotT ρ i) ++ [u]) (app_ground l4 (by simp [groundL, q1.1]))
            refine ⟨.nx, σ, _, .nx, _, b1, by simp only [evS, evE, l1, Option.bind, Option.map, e1, appendEv, cell_get l3', q1.1, q1.2.1, decide_true, Bool.and_self, if_true], (g1.kb hn).trans (kp_set _ l2).kb, hm, z1.kp (kp_set _ l2) hl, q1.2.2⟩
        | _ => simp [ann, wT, sT] at h
      · cases o with
        | var i => simp only [ann, wT] at h; exact pure_semT (lo := lo) hc h.1 h.2
        | _ => simp [ann, wT, sT] at h
    · have ha : ann lo (.exp e) = .exp e := by
        cases e <;> first | rfl | (exfalso; exact hp (.inl ⟨_, _, rfl⟩)) | (exfalso; exact hp (.inr ⟨_, _, rfl⟩))
      rw [ha] at h
      simp only [wT] at h
      intro σ st hl hn hr hb
      obtain ⟨u, s1, v, b1, e1, g1, r1, z1, q1, f1⟩ := (we e).1 ρ b _ h σ st hl hn hr hb
      exact ⟨.nx, σ, s1, .nx, ρ, b1, by simp only [evS, e1, Option.map], g1.kb hn, hr.gb g1 hl, z1, q1⟩
  | ite q x y ihx ihy =>
    intro lo ρ b Q h σ st hl hn hr hb
    simp only [ann, wT] at h
    obtain ⟨u, s1, v, b1, e1, g1, r1, z1, q1, f1⟩ := (we q).1 ρ b _ h σ st hl hn hr hb
    have t1 := truth_rv r1 q1.1
    cases hk : truthT v with
    | true =>
      obtain ⟨f2, σ2, s2, f2', ρ2, b2, e2, k2, o2, z2, q2⟩ := ihx lo ρ b1 _ (q1.2.1 hk) σ s1 hl (Nat.le_trans hn g1.len) (hr.gb g1 hl) z1
      exact ⟨f2, σ2, s2, f2', ρ2, b2, by simp only [evS, e1, Option.bind, t1, hk, if_true, e2], (g1.kb hn).trans k2, o2, z2, q2⟩
    | false =>
      obtain ⟨f2, σ2, s2, f2', ρ2, b2, e2, k2, o2, z2, q2⟩ := ihy lo ρ b1 _ (q1.2.2 hk) σ s1 hl (Nat.le_trans hn g1.len) (hr.gb g1 hl) z1
      exact ⟨f2, σ2, s2, f2', ρ2, b2, by simp only [evS, e1, Option.bind, t1, hk, e2]; rfl, (g1.kb hn).trans k2, o2, z2, q2⟩
  | for_ it t s ih =>
    intro lo ρ b Q h
    simp only [ann] at h
    unfold wT at h
    split at h
    · exact pure_semT (lo := lo) hc h.1 h.2
    · intro σ st hl hn hr hb
      obtain ⟨w, s1, b0, e1, g1, w1, w2, z1, cost, I, Rt, c1, c2, c3, c4, c5⟩ := (we it).2.2 ρ b _ h σ st hl hn hr hb
      have hok : ∀ s, guardOk w s = true := fun s => by simp only [guardOk, w1]
      obtain ⟨fl, σ2, s2, fl', ρ2, b2, e2, k2, o2, z2, l2, q2⟩ := forW_ok (n0 := n0) (lb := lb) (f := fun x σ st => (asgn t x σ).bind fun σ' => evS c s σ' st) (N := w.xs.length) (I := I) (Rt := Rt) (cost := cost) hl hok w.xs 0 (by omega) (fun j x hx ρ' σ' st' b1 hn' hr' hb' hi hc' => by
        rw [Nat.zero_add] at hi
        obtain ⟨a1, a2⟩ := c3 j x hx ρ' b1 hi hc'
        obtain ⟨σ3, k3, k4⟩ := hr'.asgn a1 (ground_get w2 x (List.mem_of_getElem? hx))
        obtain ⟨fl, σ4, s4, fl', ρ4, b4, e4, k5, o4, z4, q4⟩ := ih _ _ b1 _ a2 σ3 st' hl hn' k4 hb'
        refine ⟨fl, σ4, s4, fl', ρ4, b4, by simp only [k3, Option.bind, e4], k5, o4, z4, q4.1, ?_⟩
        rw [Nat.zero_add]
        cases fl' <;> exact q4.2) (wipeS ρ _) σ s1 b0 (Nat.le_trans hn g1.len) ((hr.gb g1 hl).wipeL _) z1 c2 c1
      refine ⟨fl, σ2, s2, fl', ρ2, b2, by simp only [evS, e1, Option.bind]; exact e2, (g1.kb hn).trans k2, o2, z2, ?_⟩
      rcases q2 with ⟨rfl, hi⟩ | ⟨v, rfl, hv⟩
      · exact c4 _ _ hi l2
      · exact c5 _ _ _ hv l2
  | whl q s ih =>
    intro lo ρ b Q h
    simp only [ann, wT] at h
    exact pure_semT (lo := lo) hc h.1 h.2
  | ret e =>
    intro lo ρ b Q h σ st hl hn hr hb
    simp only [ann, wT] at h
    obtain ⟨u, s1, v, b1, e1, g1, r1, z1, q1, f1⟩ := (we e).1 ρ b _ h σ st hl hn hr hb
    exact ⟨.rt u, σ, s1, .rt v, [], b1, by simp only [evS, e1, Option.map], g1.kb hn, r1, z1, q1⟩
end
end Dn

/-! calls with draws -/
namespace Dn
open PySem Ev
def okA : PV → Bool
  | .ref l => l == 0
  | v => v.ground
def WQ (Q : PV → Nat → Prop) : QT := fun fl _ b' => match fl with
  | .rt v => (isArg v = true ∨ v.ground = true) ∧ Q (frz v) b'
  | .nx => Q .non b'
  | _ => False
def wCall (gs : List Gn) (wf tk : Nat) : Nat → PT
  | 0, _, _, _, _ => False
  | n + 1, f, vs, b, Q => if f = tk then ∃ t : Int, vs = [.ref 0, .int t] ∧ 0 < t ∧ t < 1152921504606846976 ∧ 1 ≤ b ∧ ∀ r, 0 ≤ r → r < t → Q (.int r) (b - 1)
    else match gs[f]? with
      | some g => vs.length = g.np ∧ vs.all okA = true ∧ wT (dCall gs wf n) (sCall gs wf n) (wCall gs wf tk n) wf g.body (startS g vs) b (WQ Q)
      | none => False
section
variable {n0 lb : Nat}
theorem okA_rv {st : Sto} {v u : PV} (h : RV n0 lb st v u) (ho : okA v = true) : (v.ground = true ∧ u = v) ∨ (v = .ref 0 ∧ u = .ref lb) := by
  cases h with
  | g h => exact .inl ⟨h, rfl⟩
  | m _ _ _ => simp [okA, PV.ground] at ho
  | b => exact .inr ⟨rfl, rfl⟩
theorem rv_again {st : Sto} {n1 : Nat} {v u : PV} (h : RV n0 lb st v u) (ho : okA v = true) : RV n1 lb st v u := by
  rcases okA_rv h ho with ⟨h1, rfl⟩ | ⟨rfl, rfl⟩
  · exact .g h1
  · exact .b
theorem start_w {st : Sto} {n1 : Nat} (k : Nat) : ∀ {vs us : List PV}, RVL n0 lb st vs us → vs.all okA = true → SR n1 lb st (vs.map some ++ List.replicate k none) (us.map some ++ List.replicate k none) := by
  intro vs us h ho
  have hlen : vs.length = us.length := by
    clear ho
    induction h with
    | nil => rfl
    | cons _ _ ih => simp [ih]
  have key : ∀ (i : Nat) v, (vs.map some ++ List.replicate k none)[i]? = some (some v) → vs[i]? = some v := fun i v e => by
    by_cases hi : i < vs.length
    · rw [List.getElem?_append_left (by simpa using hi), List.getElem?_map] at e
      cases hv : vs[i]? with
      | none => rw [hv] at e; cases e
      | some w => rw [hv] at e; cases e; rfl
    · rw [List.getElem?_append_right (by simpa using hi), List.getElem?_replicate] at e
      split at e <;> cases e
  have get : ∀ (i : Nat) v, vs[i]? = some v → ∃ u, us[i]? = some u ∧ RV n0 lb st v u ∧ okA v = true := by
    intro i v hv
    have hok := List.all_eq_true.mp ho v (List.mem_of_getElem? hv)
    clear ho key
    induction h generalizing i with
    | nil => simp at hv
    | cons h _ ih =>
      cases i with
      | zero => simp at hv; subst hv; exact ⟨_, rfl, h, hok⟩
      | succ i => simp at hv; obtain ⟨u, h1, h2⟩ := ih (by simpa using hlen) i hv; exact ⟨u, by simpa using h1, h2⟩
  refine ⟨by simp [hlen], fun i v e => ?_, fun i j xs ys l _ e1 _ _ _ => ?_⟩
  · obtain ⟨u, h1, h2, h3⟩ := get i v (key i v e)
    refine ⟨u, ?_, rv_again h2 h3⟩
    have hi : i < us.length := (List.getElem?_eq_some_iff.mp h1).1
    rw [List.getElem?_append_left (by simpa using hi), List.getElem?_map, h1]; rfl
  · obtain ⟨u, _, _, h3⟩ := get i _ (key i _ e1)
    simp [okA, PV.ground] at h3
theorem fin_arg {gc : Bool} {st st' : Sto} {l : Nat} {xs : List PV} (hg : gc = true) (h1 : st.length ≤ l) (h2 : st'[l]? = some (.lst xs)) : fin gc (.ref l) st st' = (.lst xs, st'.take st.length) := by
  simp [fin, hg, PV.ground, h1, cell_get h2]
theorem fin_gr {gc : Bool} {st st' : Sto} {v : PV} (hg : gc = true) (h : v.ground = true) : fin gc v st st' = (v, st'.take st.length) := by
  simp [fin, hg, h]
theorem wcall_ok {fs : List Fn} {gs : List Gn} {wf tk : Nat} (hgs : fs.map toG = gs) (ht : fs[tk]? = some takeFn) : ∀ n, WOk ⟨callN fs wf n, wf⟩ (wCall gs wf tk n) := by
  intro n
  induction n with
  | zero => intro f vs us st n0 lb b Q _ _ _ _ h; exact h.elim
  | succ n ih =>
    intro f vs us st n0 lb b Q hl hn hr hb h
    unfold wCall at h
    split at h
    · rename_i hf
      subst hf
      obtain ⟨t, rfl, t1, t2, b1, q⟩ := h
      cases hr with | cons r1 r2 =>
      obtain ⟨u2, rfl, r2⟩ := r2.one
      cases r2.eq rfl
      cases r1 with
      | g h => simp [PV.ground] at h
      | b =>
        obtain ⟨B, hx, hB⟩ := hb
        obtain ⟨r, st', e1, r1, r2, u1⟩ := take_ok (m := n + 1) (wf := wf) ht (by omega) hx (by omega) t1 t2
        exact ⟨.int r, st', b - 1, e1, u1.len, ⟨by rw [u1.len]; exact Nat.le_refl _, fun l _ hne => u1.same l hne⟩, rfl, ⟨B + 1, u1.box, by omega⟩, q r r1 r2⟩
    · split at h
      · rename_i g hgf
        have : ∃ d, fs[f]? = some d ∧ toG d = g := by
          rw [← hgs, List.getElem?_map] at hgf
          cases hd : fs[f]? with
          | none => rw [hd] at hgf; cases hgf
          | some d => rw [hd] at hgf; cases hgf; exact ⟨d, rfl, rfl⟩
        obtain ⟨d, hd, rfl⟩ := this
        obtain ⟨h1, h2, h3⟩ := h
        have hgc : d.gc = true := by
          cases hq : d.gc with
          | true => rfl
          | false =>
            unfold toG at h3
            rw [hq] at h3
            simp [wT, sT] at h3
        have htg : toG d = ⟨d.np, d.ns, ann [] d.body⟩ := by unfold toG; rw [hgc]; rfl
        rw [htg] at h1 h3
        simp only [startS] at h1 h3
        obtain ⟨fl, σ', st', fl', ρ', b', e1, k1, o1, z1, q1⟩ := wT_ok (c := ⟨callN fs wf n, wf⟩) (n0 := st.length) (lb := lb) (call_ok hgs n) ih d.body [] _ b _ h3 (us.map some ++ List.replicate (d.ns - d.np) none) st (by omega) (Nat.le_refl _) (start_w _ hr h2) hb
        have hul : us.length = d.np := by
          rw [← h1]
          clear h2 h1 h3 o1 e1
          induction hr with
          | nil => rfl
          | cons _ _ ih => simp [ih]
        have hlen : (st'.take st.length).length = st.length := by rw [List.length_take]; have := k1.len; omega
        have hgb : GB lb st (st'.take st.length) := ⟨by rw [hlen]; exact Nat.le_refl _, fun l hl hne => by
          rw [List.getElem?_take, if_pos hl]; exact k1.low l hl hne⟩
        have hbz : Bz (st'.take st.length) lb b' := by
          obtain ⟨B, ⟨g1, x1, x2, y1, y2⟩, y3⟩ := z1
          exact ⟨B, ⟨g1, x1, x2, by rw [List.getElem?_take, if_pos (by omega)]; exact y1, y2⟩, y3⟩
        have e2 : callN fs wf (n + 1) f us st = kFin d.gc st (some (fl, σ', st')) := by
          rw [call_eq hd hul (by omega), Nat.add_sub_cancel, e1]
        show ∃ v st' b', callN fs wf (n + 1) f us st = some (v, st') ∧ _
        rw [e2]
        cases fl' with
        | nx =>
          cases fl <;> simp only [OutT] at o1
          exact ⟨.non, _, b', by rw [kFin_nx, fin_gr hgc rfl], hlen, hgb, rfl, hbz, q1⟩
        | rt v =>
          cases fl <;> simp only [OutT] at o1
          obtain ⟨q2, q3⟩ := q1
          cases o1 with
          | g hv => exact ⟨_, _, b', by rw [kFin_rt, fin_gr hgc hv], hlen, hgb, hv, hbz, by rw [frz_g hv] at q3; exact q3⟩
          | @m l xs m1 m2 m3 => exact ⟨.lst xs, _, b', by rw [kFin_rt, fin_arg hgc m1 m2], hlen, hgb, tg_lst m3, hbz, q3⟩
          | b => simp [isArg, PV.ground] at q2
        | _ => exact q1.elim
      · exact h.elim
end
end Dn

/-! helpers that walk data: tupled, lists, same -/
namespace Ev
open PySem
mutual
def dep : PV → Nat
  | .tup xs => depL xs + 1
  | .lst xs => depL xs + 1
  | .non => 0
  | .bl _ => 0
  | .int _ => 0
  | .str _ => 0
  | .ref _ => 0
  | .arg _ => 0
def depL : List PV → Nat
  | [] => 0
  | x :: xs => max (dep x) (depL xs)
end
theorem dep_mem {x : PV} : ∀ {xs : List PV}, x ∈ xs → dep x ≤ depL xs
  | y :: xs, h => by
    simp only [depL]
    rcases List.mem_cons.mp h with rfl | h
    · omega
    · have := dep_mem h; omega
mutual
def toTup : PV → PV
  | .tup xs => .tup (toTupL xs)
  | .lst xs => .tup (toTupL xs)
  | .non => .non
  | .bl b => .bl b
  | .int i => .int i
  | .str x => .str x
  | .ref l => .ref l
  | .arg xs => .arg xs
def toTupL : List PV → List PV
  | [] => []
  | x :: xs => toTup x :: toTupL xs
end
theorem toTupL_map : ∀ xs : List PV, toTupL xs = xs.map toTup
  | [] => by simp only [toTupL, List.map_nil]
  | x :: xs => by simp only [toTupL, List.map_cons, toTupL_map xs]
mutual
def toLst : PV → PV
  | .tup xs => .lst (toLstL xs)
  | .lst xs => .lst (toLstL xs)
  | .non => .non
  | .bl b => .bl b
  | .int i => .int i
  | .str x => .str x
  | .ref l => .ref l
  | .arg xs => .arg xs
def toLstL : List PV → List PV
  | [] => []
  | x :: xs => toLst x :: toLstL xs
end
theorem toLstL_map : ∀ xs : List PV, toLstL xs = xs.map toLst
  | [] => by simp only [toLstL, List.map_nil]
  | x :: xs => by simp only [toLstL, List.map_cons, toLstL_map xs]
theorem map_ground {f : PV → PV} {xs : List PV} (h : groundL xs = true) (hf : ∀ x ∈ xs, x.ground = true → (f x).ground = true) : groundL (xs.map f) = true := ground_all fun y hy => by
  obtain ⟨x, hx, rfl⟩ := List.mem_map.mp hy
  exact hf x hx (ground_mem h x hx)
theorem toTup_ground : ∀ (n : Nat) (v : PV), dep v < n → v.ground = true → (toTup v).ground = true
  | 0, _, h, _ => absurd h (by omega)
  | n + 1, v, h, g => by
    cases v with
    | tup xs =>
      simp only [dep] at h
      simp only [toTup, toTupL_map, gr_tup] at g ⊢
      exact map_ground g fun x hx gx => toTup_ground n x (by have := dep_mem hx; omega) gx
    | lst xs =>
      simp only [dep] at h
      simp only [toTup, toTupL_map, gr_tup, gr_lst] at g ⊢
      exact map_ground g fun x hx gx => toTup_ground n x (by have := dep_mem hx; omega) gx
    | ref l => simp at g
    | arg l => simp at g
    | _ => simp only [toTup, gr_int, gr_bl, gr_non, gr_str]
theorem toLst_ground : ∀ (n : Nat) (v : PV), dep v < n → v.ground = true → (toLst v).ground = true
  | 0, _, h, _ => absurd h (by omega)
  | n + 1, v, h, g => by
    cases v with
    | tup xs =>
      simp only [dep] at h
      simp only [toLst, toLstL_map, gr_tup, gr_lst] at g ⊢
      exact map_ground g fun x hx gx => toLst_ground n x (by have := dep_mem hx; omega) gx
    | lst xs =>
      simp only [dep] at h
      simp only [toLst, toLstL_map, gr_lst] at g ⊢
      exact map_ground g fun x hx gx => toLst_ground n x (by have := dep_mem hx; omega) gx
    | ref l => simp at g
    | arg l => simp at g
    | _ => simp only [toLst, gr_int, gr_bl, gr_non, gr_str]
def tupledFn (i : Nat) : Fn := ⟨1, 2, true, (.seq (.ret (.ite (.isi (.var 0) [.list, .tuple]) (.bi false .tuple1 (.cons (.lc false (.itr .seq (.cons (.var 0) .nil)) (.one 1) [1] (.cst (.bl true)) (.call i (.cons (.var 1) .nil))) .nil)) (.var 0))) .skip)⟩
def listsFn (i : Nat) : Fn := ⟨1, 2, true, (.seq (.ret (.ite (.isi (.var 0) [.list, .tuple]) (.lc false (.itr .seq (.cons (.var 0) .nil)) (.one 1) [1] (.cst (.bl true)) (.call i (.cons (.var 1) .nil))) (.var 0))) .skip)⟩
section
variable {fs : List Fn} {wf i : Nat} {st : Sto}
theorem tupled_ok (hf : fs[i]? = some (tupledFn i)) : ∀ (m : Nat) (v : PV), v.ground = true → dep v < m → callN fs wf m i [v] st = some (toTup v, st)
  | 0, _, _, h => absurd h (by omega)
  | m + 1, v, g, h => by
    have ih := tupled_ok hf m
    rw [call_eq hf rfl (by omega)]
    have hfin : fin true (toTup v) st st = (toTup v, st) := by rw [fin_g (toTup_ground _ v h g)]; simp
    cases v with
    | tup xs =>
      simp only [dep] at h
      have hl := lcM_map (ok := guardOk ⟨none, xs⟩) (f := lcF ⟨callN fs wf m, wf⟩ (.one 1) [1] (.cst (.bl true)) (.call i (.cons (.var 1) .nil)) [some (.tup xs), none]) (g := toTup) (st := st) rfl xs fun x hx => by
        have := ih x (ground_mem (by simpa using g) x hx) (by have := dep_mem hx; omega)
        simp [this]
      simp only [toTup, toTupL_map] at hfin
      simp [tupledFn, isTy, hl, hfin, toTup, toTupL_map]
    | lst xs =>
      simp only [dep] at h
      have hl := lcM_map (ok := guardOk ⟨none, xs⟩) (f := lcF ⟨callN fs wf m, wf⟩ (.one 1) [1] (.cst (.bl true)) (.call i (.cons (.var 1) .nil)) [some (.lst xs), none]) (g := toTup) (st := st) rfl xs fun x hx => by
        have := ih x (ground_mem (by simpa using g) x hx) (by have := dep_mem hx; omega)
        simp [this]
      simp only [toTup, toTupL_map] at hfin
      simp [tupledFn, isTy, hl, hfin, toTup, toTupL_map]
    | ref l => simp at g
    | arg l => simp at g
    | non => simp only [toTup] at hfin ⊢; simp [tupledFn, isTy, hfin]
    | bl b => simp only [toTup] at hfin ⊢; simp [tupledFn, isTy, hfin]
    | int b => simp only [toTup] at hfin ⊢; simp [tupledFn, isTy, hfin]
    | str b => simp only [toTup] at hfin ⊢; simp [tupledFn, isTy, hfin]
theorem lists_ok (hf : fs[i]? = some (listsFn i)) : ∀ (m : Nat) (v : PV), v.ground = true → dep v < m → callN fs wf m i [v] st = some (toLst v, st)
  | 0, _, _, h => absurd h (by omega)
  | m + 1, v, g, h => by
    have ih := lists_ok hf m
    rw [call_eq hf rfl (by omega)]
    have hfin : fin true (toLst v) st st = (toLst v, st) := by rw [fin_g (toLst_ground _ v h g)]; simp
    cases v with
    | tup xs =>
      simp only [dep] at h
      have hl := lcM_map (ok := guardOk ⟨none, xs⟩) (f := lcF ⟨callN fs wf m, wf⟩ (.one 1) [1] (.cst (.bl true)) (.call i (.cons (.var 1) .nil)) [some (.tup xs), none]) (g := toLst) (st := st) rfl xs fun x hx => by
        have := ih x (ground_mem (by simpa using g) x hx) (by have := dep_mem hx; omega)
        simp [this]
      simp only [toLst, toLstL_map] at hfin
      simp [listsFn, isTy, hl, hfin, toLst, toLstL_map]
    | lst xs =>
      simp only [dep] at h
      have hl := lcM_map (ok := guardOk ⟨none, xs⟩) (f := lcF ⟨callN fs wf m, wf⟩ (.one 1) [1] (.cst (.bl true)) (.call i (.cons (.var 1) .nil)) [some (.lst xs), none]) (g := toLst) (st := st) rfl xs fun x hx => by
        have := ih x (ground_mem (by simpa using g) x hx) (by have := dep_mem hx; omega)
        simp [this]
      simp only [toLst, toLstL_map] at hfin
      simp [listsFn, isTy, hl, hfin, toLst, toLstL_map]
    | ref l => simp at g
    | arg l => simp at g
    | non => simp only [toLst] at hfin ⊢; simp [listsFn, isTy, hfin]
    | bl b => simp only [toLst] at hfin ⊢; simp [listsFn, isTy, hfin]
    | int b => simp only [toLst] at hfin ⊢; simp [listsFn, isTy, hfin]
    | str b => simp only [toLst] at hfin ⊢; simp [listsFn, isTy, hfin]
def sameFn (i : Nat) : Fn := ⟨2, 5, true, (.seq (.ite (.isi (.var 1) [.list, .tuple]) (.seq (.ite (.or (.cmp .ne (.isi (.var 0) [.list]) (.isi (.var 1) [.list])) (.cmp .ne (.isi (.var 0) [.tuple]) (.isi (.var 1) [.tuple]))) (.seq (.ret (.cst (.bl false))) .skip) .skip) (.seq (.ret (.and (.cmp .eq (.bi false .len (.cons (.var 0) .nil)) (.bi false .len (.cons (.var 1) .nil))) (.bi false .all1 (.cons (.lc false (.itr .zip2 (.cons (.var 0) (.cons (.var 1) .nil))) (.many [3, 4]) [3, 4] (.cst (.bl true)) (.call i (.cons (.var 3) (.cons (.var 4) .nil)))) .nil)))) .skip)) .skip) (.seq (.ite (.isi (.var 1) [.dict]) (.seq (.ite (.or (.not (.isi (.var 0) [.dict])) (.cmp .ne (.bi false .sorted1 (.cons (.var 0) .nil)) (.bi false .sorted1 (.cons (.var 1) .nil)))) (.seq (.ret (.cst (.bl false))) .skip) .skip) (.seq (.ret (.bi false .all1 (.cons (.lc false (.itr .seq (.cons (.var 1) .nil)) (.one 2) [2] (.cst (.bl true)) (.call i (.cons (.sub (.var 0) (.var 2)) (.cons (.sub (.var 1) (.var 2)) .nil)))) .nil))) .skip)) .skip) (.seq (.ite (.or (.cmp .isN (.var 1) (.cst (.non))) (.isi (.var 1) [.bool, .str])) (.seq (.ret (.and (.cmp .eq (.var 0) (.var 1)) (.and (.cmp .eq (.isi (.var 0) [.bool]) (.isi (.var 1) [.bool])) (.cmp .eq (.cmp .isN (.var 0) (.cst (.non))) (.cmp .isN (.var 1) (.cst (.non))))))) .skip) .skip) (.seq (.ret (.and (.isi (.var 0) [.int]) (.and (.not (.isi (.var 0) [.bool])) (.cmp .eq (.var 0) (.var 1))))) .skip))))⟩
mutual
def noStr : PV → Bool
  | .tup xs => noStrL xs
  | .lst xs => noStrL xs
  | .non => true
  | .bl _ => true
  | .int _ => true
  | .str x => SeqAt.shaped (.str x)
  | .ref _ => false
  | .arg _ => false
def noStrL : List PV → Bool
  | [] => true
  | x :: xs => noStr x && noStrL xs
end
theorem noStr_mem {x : PV} : ∀ {xs : List PV}, noStrL xs = true → x ∈ xs → noStr x = true
  | y :: xs, h, hx => by
    simp only [noStrL, Bool.and_eq_true] at h
    rcases List.mem_cons.mp hx with rfl | hx
    · exact h.1
    · exact noStr_mem h.2 hx
theorem zipL_self : ∀ xs : List PV, zipL xs xs = xs.map fun x => .tup [x, x]
  | [] => rfl
  | x :: xs => by simp [zipL, zipL_self xs]
theorem all_true (n : Nat) : (List.replicate n true).all id = true := by
  induction n with
  | zero => rfl
  | succ n ih => simp [List.replicate_succ, ih]
theorem bi_allR (m : Bool) (n : Nat) (st : Sto) : biEv m .all1 [.lst (List.replicate n (.bl true))] st = some (.bl true, st) := by
  have := bi_all m (List.replicate n true) st
  rw [all_true] at this
  simpa using this
theorem cmp_eqS {x : Str} (h : SeqAt.shaped (.str x) = true) : cmpEv .eq (.str x) (.str x) st = some true := by
  have hs : shp (.str x) = true := by show (true && SeqAt.shaped (.str x)) = true; rw [h]; rfl
  have he : eqP (.str x) (.str x) = true := by show (x == x) = true; simp
  simp [cmpEv, deref, hs, he]
theorem same_ok (hf : fs[i]? = some (sameFn i)) : ∀ (m : Nat) (v : PV), noStr v = true → dep v < m → callN fs wf m i [v, v] st = some (.bl true, st)
  | 0, _, _, h => absurd h (by omega)
  | m + 1, v, g, h => by
    have ih := same_ok hf m
    rw [call_eq hf rfl (by omega)]
    cases v with
    | tup xs =>
      simp only [dep] at h
      simp only [noStr] at g
      have hl := lcM_map (ok := guardOk ⟨none, zipL xs xs⟩) (f := lcF ⟨callN fs wf m, wf⟩ (.many [3, 4]) [3, 4] (.cst (.bl true)) (.call i (.cons (.var 3) (.cons (.var 4) .nil))) [some (.tup xs), some (.tup xs), none, none, none]) (g := fun _ => .bl true) (st := st) rfl (zipL xs xs) fun y hy => by
        rw [zipL_self] at hy
        obtain ⟨x, hx, rfl⟩ := List.mem_map.mp hy
        have := ih x (noStr_mem g hx) (by have := dep_mem hx; omega)
        simp [this]
      have hb : (zipL xs xs).map (fun _ => PV.bl true) = (List.replicate xs.length true).map PV.bl := by
        rw [zipL_self]; simp [Function.comp_def, List.map_const']
      rw [hb] at hl
      simp [sameFn, isTy, hl, bi_allR, fin_g]
    | lst xs =>
      simp only [dep] at h
      simp only [noStr] at g
      have hl := lcM_map (ok := guardOk ⟨none, zipL xs xs⟩) (f := lcF ⟨callN fs wf m, wf⟩ (.many [3, 4]) [3, 4] (.cst (.bl true)) (.call i (.cons (.var 3) (.cons (.var 4) .nil))) [some (.lst xs), some (.lst xs), none, none, none]) (g := fun _ => .bl true) (st := st) rfl (zipL xs xs) fun y hy => by
        rw [zipL_self] at hy
        obtain ⟨x, hx, rfl⟩ := List.mem_map.mp hy
        have := ih x (noStr_mem g hx) (by have := dep_mem hx; omega)
        simp [this]
      have hb : (zipL xs xs).map (fun _ => PV.bl true) = (List.replicate xs.length true).map PV.bl := by
        rw [zipL_self]; simp [Function.comp_def, List.map_const']
      rw [hb] at hl
      simp [sameFn, isTy, hl, bi_allR, fin_g]
    | ref l => simp [noStr] at g
    | arg l => simp [noStr] at g
    | non => simp [sameFn, isTy, fin_g]
    | bl b => simp [sameFn, isTy, fin_g]
    | int b => simp [sameFn, isTy, fin_g]
    | str x =>
      simp only [noStr] at g
      simp [sameFn, isTy, fin_g, cmp_eqS g]
end
end Ev

/-! draws: depths, keys, boxes, cells -/
namespace Ev
open PySem
def All2 {α β : Type} (P : α → β → Prop) : List α → List β → Prop
  | [], [] => True
  | x :: xs, y :: ys => P x y ∧ All2 P xs ys
  | _, _ => False
theorem All2.length {α β : Type} {P : α → β → Prop} : ∀ {xs : List α} {ys : List β}, All2 P xs ys → ys.length = xs.length
  | [], [], _ => rfl
  | _ :: _, _ :: _, h => by simp [All2.length h.2]
  | [], _ :: _, h => h.elim
  | _ :: _, [], h => h.elim
theorem All2.imp {α β : Type} {P Q : α → β → Prop} (hpq : ∀ x y, P x y → Q x y) : ∀ {xs : List α} {ys : List β}, All2 P xs ys → All2 Q xs ys
  | [], [], _ => trivial
  | _ :: _, _ :: _, h => ⟨hpq _ _ h.1, All2.imp hpq h.2⟩
  | [], _ :: _, h => h.elim
  | _ :: _, [], h => h.elim
theorem All2.right {α β : Type} {P : α → β → Prop} {Q : β → Prop} (hpq : ∀ x y, P x y → Q y) : ∀ {xs : List α} {ys : List β}, All2 P xs ys → ∀ y ∈ ys, Q y
  | [], [], _, y, hy => by cases hy
  | x :: xs, z :: ys, h, y, hy => by
    rcases List.mem_cons.mp hy with rfl | hy
    · exact hpq _ _ h.1
    · exact All2.right hpq h.2 y hy
  | [], _ :: _, h, _, _ => h.elim
  | _ :: _, [], h, _, _ => h.elim
/-- turns that draw from a box -/
theorem lcM_draw {ok : Sto → Bool} {f : PV → Sto → Option (Option PV × Sto)} {l c : Nat} {P : PV → PV → Prop} (hok : ∀ st, ok st = true) :
    ∀ (xs : List PV) (st : Sto) (B : Nat), Bx st l B → (∀ x ∈ xs, ∀ st B', Bx st l B' → B' ≤ B + c * xs.length → ∃ y st', f x st = some (some y, st') ∧ P x y ∧ Up l st st' (B' + c)) →
    ∃ ys st', lcM ok f xs st = some (ys, st') ∧ All2 P xs ys ∧ Up l st st' (B + c * xs.length)
  | [], st, B, hx, _ => ⟨[], st, by simp [lcM, hok], trivial, by simpa using Up.refl hx⟩
  | x :: r, st, B, hx, h => by
    obtain ⟨y, s1, e1, p1, u1⟩ := h x (by simp) st B hx (by omega)
    obtain ⟨ys, s2, e2, p2, u2⟩ := lcM_draw hok r s1 (B + c) u1.box fun z hz s B' hb hle => h z (by simp [hz]) s B' hb (by simp only [List.length_cons, Nat.mul_add, Nat.mul_one]; omega)
    refine ⟨y :: ys, s2, ?_, ⟨p1, p2⟩, (u1.trans u2).mono (by simp only [List.length_cons, Nat.mul_add, Nat.mul_one]; omega)⟩
    simp [lcM, hok, e1, e2]
theorem ints_of {Q : Int → Prop} : ∀ {ys : List PV}, (∀ y ∈ ys, ∃ d : Int, y = .int d ∧ Q d) → ∃ ds : List Int, ys = ds.map .int ∧ ∀ d ∈ ds, Q d
  | [], _ => ⟨[], rfl, by simp⟩
  | y :: ys, h => by
    obtain ⟨d, rfl, hd⟩ := h y (by simp)
    obtain ⟨ds, rfl, hds⟩ := ints_of (Q := Q) (ys := ys) fun z hz => h z (by simp [hz])
    exact ⟨d :: ds, rfl, fun e he => (List.mem_cons.mp he).elim (fun z => z ▸ hd) (hds e)⟩
theorem ints_of2 {P : Int → Int → Prop} : ∀ {ds : List Int} {ys : List PV}, All2 (fun x y => ∃ d e : Int, x = .int d ∧ y = .int e ∧ P d e) (ds.map PV.int) ys → ∃ ts : List Int, ys = ts.map .int ∧ All2 P ds ts
  | [], [], _ => ⟨[], rfl, trivial⟩
  | d :: ds, y :: ys, h => by
    obtain ⟨⟨d', e, h1, rfl, h2⟩, h3⟩ := h
    cases h1
    obtain ⟨ts, rfl, h4⟩ := ints_of2 h3
    exact ⟨e :: ts, rfl, h2, h4⟩
  | [], _ :: _, h => h.elim
  | _ :: _, [], h => h.elim
def deepFn (it : Nat) : Fn := ⟨3, 4, true, (.seq (.ret (.bi false .tuple1 (.cons (.lc false (.itr .range1 (.cons (.bin false .add (.cst (.int 1)) (.call it (.cons (.var 0) (.cons (.var 1) .nil)))) .nil)) (.one 3) [3] (.cst (.bl true)) (.bin false .add (.cst (.int 2)) (.call it (.cons (.var 0) (.cons (.bin false .sub (.var 2) (.cst (.int 1))) .nil))))) .nil))) .skip)⟩
def toothFn (it : Nat) : Fn := ⟨2, 3, true, (.seq (.ret (.bi false .tuple1 (.cons (.lc false (.itr .seq (.cons (.var 1) .nil)) (.one 2) [2] (.cst (.bl true)) (.call it (.cons (.var 0) (.cons (.var 2) .nil)))) .nil))) .skip)⟩
def ofFn (it : Nat) : Fn := ⟨2, 2, true, (.seq (.ret (.sub (.var 1) (.call it (.cons (.var 0) (.cons (.bi false .len (.cons (.var 1) .nil)) .nil))))) .skip)⟩
section
variable {fs : List Fn} {wf it m l B : Nat} {st : Sto} {t : Int} {id : Nat}
theorem deep_ok (hf : fs[it]? = some takeFn) (hd : fs[id]? = some (deepFn it)) (hm : 2 ≤ m) (hx : Bx st l B) (hB : B < 100000000000) {pins most : Int} (hp : 1 ≤ pins) (hp2 : pins ≤ 1000) (hq : 2 ≤ most) (hq2 : most ≤ 1000000) :
    ∃ ds st', callN fs wf m id [.ref l, .int pins, .int most] st = some (tupI ds, st') ∧ 1 ≤ ds.length ∧ (ds.length : Int) ≤ pins ∧ (∀ d ∈ ds, 2 ≤ d ∧ d ≤ most) ∧ Up l st st' (B + 1001) := by
  obtain ⟨r, s1, e1, r0, r1, u1⟩ := take_ok (wf := wf) (m := m - 1) (t := pins) hf (by omega) hx (by omega) (by omega) (by omega)
  rw [call_eq hd rfl (by omega)]
  have hw := wk_range1 (j := 1 + r) (st := s1) (by omega) (by omega)
  obtain ⟨ys, s2, e2, a2, u2⟩ := lcM_draw (ok := guardOk ⟨none, rangeL 0 (1 + r).toNat⟩) (f := lcF ⟨callN fs wf (m - 1), wf⟩ (.one 3) [3] (.cst (.bl true)) (.bin false .add (.cst (.int 2)) (.call it (.cons (.var 0) (.cons (.bin false .sub (.var 2) (.cst (.int 1))) .nil)))) [some (.ref l), some (.int pins), some (.int most), none])
    (l := l) (c := 1) (P := fun _ y => ∃ d : Int, y = .int d ∧ 2 ≤ d ∧ d ≤ most) (fun _ => rfl) (rangeL 0 (1 + r).toNat) s1 (B + 1) u1.box fun x hx s B' hb hle => by
      rw [rangeL_len] at hle
      obtain ⟨z, s', e, z0, z1, u⟩ := take_ok (wf := wf) (m := m - 1) (t := most - 1) hf (by omega) hb (by omega) (by omega) (by omega)
      exact ⟨.int (2 + z), s', by simp [e], ⟨2 + z, rfl, by omega, by omega⟩, u⟩
  obtain ⟨ds, rfl, hds⟩ := ints_of (Q := fun d => 2 ≤ d ∧ d ≤ most) (All2.right (Q := fun y : PV => ∃ d : Int, y = PV.int d ∧ 2 ≤ d ∧ d ≤ most) (fun _ _ h => h) a2)
  have hlen := a2.length
  rw [rangeL_len, List.length_map] at hlen
  refine ⟨ds, s2, ?_, by omega, by omega, hds, (u1.trans u2).mono (by rw [rangeL_len]; omega)⟩
  simp [deepFn, e1, hw, e2, fin_g, take_same, (u1.trans u2).len, tupI]
theorem tooth_ok (hf : fs[it]? = some takeFn) (hd : fs[id]? = some (toothFn it)) (hm : 2 ≤ m) (hx : Bx st l B) (hB : B < 100000000000) {ds : List Int} (h1 : ∀ d ∈ ds, 1 ≤ d ∧ d ≤ 1000000) (h2 : ds.length ≤ 1000) :
    ∃ ts st', callN fs wf m id [.ref l, tupI ds] st = some (tupI ts, st') ∧ All2 (fun d t => 0 ≤ t ∧ t < d) ds ts ∧ Up l st st' (B + 1000) := by
  rw [call_eq hd rfl (by omega)]
  obtain ⟨ys, s2, e2, a2, u2⟩ := lcM_draw (ok := guardOk ⟨none, ds.map .int⟩) (f := lcF ⟨callN fs wf (m - 1), wf⟩ (.one 2) [2] (.cst (.bl true)) (.call it (.cons (.var 0) (.cons (.var 2) .nil))) [some (.ref l), some (tupI ds), none])
    (l := l) (c := 1) (P := fun x y => ∃ d e : Int, x = .int d ∧ y = .int e ∧ 0 ≤ e ∧ e < d) (fun _ => rfl) (ds.map .int) st B hx fun x hx s B' hb hle => by
      obtain ⟨d, hd, rfl⟩ := List.mem_map.mp hx
      rw [List.length_map] at hle
      obtain ⟨z, s', e, z0, z1, u⟩ := take_ok (wf := wf) (m := m - 1) (t := d) hf (by omega) hb (by omega) (by have := h1 d hd; omega) (by have := h1 d hd; omega)
      exact ⟨.int z, s', by simp [e], ⟨d, z, rfl, rfl, z0, z1⟩, u⟩
  obtain ⟨ts, rfl, hts⟩ := ints_of2 a2
  refine ⟨ts, s2, ?_, hts, u2.mono (by rw [List.length_map]; omega)⟩
  have hw : wkEv .seq [tupI ds] st = some ⟨none, ds.map .int⟩ := rfl
  simp [toothFn, hw, e2, fin_g, take_same, u2.len]
  rfl
theorem of_ok (hf : fs[it]? = some takeFn) (hd : fs[id]? = some (ofFn it)) (hm : 2 ≤ m) (hx : Bx st l B) (hB : B < 100000000000) {xs : List PV} (h1 : xs ≠ []) (h2 : xs.length ≤ 16777216) (hg : groundL xs = true) :
    ∃ x st', callN fs wf m id [.ref l, .tup xs] st = some (x, st') ∧ x ∈ xs ∧ Up l st st' (B + 1) := by
  have hl : 0 < xs.length := List.length_pos_iff.mpr h1
  obtain ⟨z, s1, e, z0, z1, u⟩ := take_ok (wf := wf) (m := m - 1) (t := (xs.length : Int)) hf (by omega) hx (by omega) (by omega) (by omega)
  rw [call_eq hd rfl (by omega)]
  have hz : z.toNat < xs.length := by omega
  refine ⟨xs[z.toNat], s1, ?_, List.getElem_mem hz, u⟩
  have ha : L2.atI xs z = some xs[z.toNat] := by rw [at_int z0, List.getElem?_eq_getElem hz]
  have hgx : xs[z.toNat].ground = true := ground_mem hg _ (List.getElem_mem hz)
  simp [ofFn, e, ha, fin_g hgx, take_same, u.len]
def boxFn (k0 : Int) : Fn := ⟨2, 3, false, (.seq (.asg (.one 2) (.ite (.cmp .lt (.var 1) (.bi false .len (.cons (.var 0) .nil))) (.sub (.var 0) (.var 1)) (.cst (.int 0)))) (.seq (.ret (.lst true (.cons (.bin false .mul (.bi false .abs (.cons (.var 2) .nil)) (.bi false .int1 (.cons (.cmp .ge (.bi false .abs (.cons (.var 2) .nil)) (.bin false .pow (.cst (.int 10)) (.cst (.int 18)))) .nil))) (.cons (.bin false .add (.bin false .add (.bin false .mod (.bi false .int1 (.cons (.var 2) .nil)) (.cst (.int 2305843009213693951))) (.bin false .mul (.cst (.int 39373)) (.var 1))) (.cst (.int k0))) (.cons (.cst (.int 0)) .nil))))) .skip))⟩
theorem bin_pow18 {b : Bool} : binEv b .pow (.int 10) (.int 18) st = some (.int 1000000000000000000, st) := by
  have e : (10 : Int) ^ (18 : Int).toNat = 1000000000000000000 := by decide
  simp only [binEv, e]
  rfl
theorem box_ok {k0 : Int} {cs : List Int} {k : Nat} (hd : fs[id]? = some (boxFn k0)) (hm : 1 ≤ m) (hk : k < cs.length) (hk2 : k < 1000000) :
    ∃ st', callN fs wf m id [.lst (cs.map .int), .int k] st = some (.ref st.length, st') ∧ st'.length = st.length + 1 ∧ (∀ j, j < st.length → st'[j]? = st[j]?) ∧ Bx st' st.length 0 := by
  have hl : biEv false .len [.lst (cs.map .int)] st = some (.int ((cs.map PV.int).length : Nat), st) := rfl
  have hlt : (k : Int) < ((cs.map PV.int).length : Nat) := by rw [List.length_map]; omega
  have ha : L2.atI (cs.map PV.int) (k : Int) = some (.int cs[k]) := by rw [at_nat]; simp [hk]
  have hs : subEv (.lst (cs.map .int)) (.int (k : Int)) st = some (.int cs[k]) := ha
  generalize cs[k] = z at hs
  have m1 : ∀ y : Int, ∀ b : Bool, mulOk y (if b = true then 1 else 0) = true := fun y b => mul_r (by split <;> omega) (by split <;> omega)
  have m2 : mulOk 39373 (k : Int) = true := mul_l (by omega) (by omega)
  have hmod : ∀ y : Int, binEv false .mod (.int y) (.int 2305843009213693951) st = some (.int (y % 2305843009213693951), st) := fun y => bin_mod (by omega)
  suffices hz : ∃ g b1 : Int, callN fs wf m id [.lst (cs.map .int), .int k] st = some (.ref st.length, st ++ [.lst [.int g, .int b1, .int 0]]) ∧ 0 ≤ g by
    obtain ⟨g, b1, e, hg⟩ := hz
    exact ⟨_, e, by simp, fun j hj => by rw [List.getElem?_append_left hj], g, b1, 0, by simp, hg, by omega, by omega⟩
  refine ⟨(if z < 0 then -z else z) * (if decide ((1000000000000000000 : Int) ≤ (if z < 0 then -z else z)) = true then 1 else 0), z % 2305843009213693951 + 39373 * k + k0, ?_, ?_⟩
  · rw [call_eq hd rfl hm]
    simp only [boxFn, evS_seq, evS_asg, evE_ite, evE_cmp, evE_var, evE_bi, evL_cons, evL_nil, List.map_cons, List.map_nil, List.cons_append, List.nil_append, List.getElem?_cons_zero, List.getElem?_cons_succ, kArg_some, kCons_some, kBi_some, hl, kCmp_some, kCmp2_some, cmp_lt, decide_eq_true hlt, kB_some, kIte_some, truth_bl, kIf_true, evE_sub, kSub_some, kSub2_some, hs, kV_some, kAsg_some, asgn_one, kAsg2_some, kSeq_nx, evS_ret, evE_lst, evE_bin, bi_abs, kBin_some, evE_cst, kBin2_some, bin_pow18, cmp_ge, bi_intB, bin_mul (m1 _ _), bi_int, hmod, bin_mul m2, bin_add, List.set_cons_succ, List.set_cons_zero, List.replicate, kLst_some, mkL_t, gr_cons, gr_int, gr_nil, Bool.and_self, if_true, List.length_cons, List.length_nil, kRet_some, kSeq_rt, kFin_rt, fin, gr_ref, Bool.and_false, Bool.false_eq_true, if_false]
    rfl
  · refine Int.mul_nonneg ?_ ?_
    · split <;> omega
    · split <;> omega
end
end Ev

/-! slices, cells -/
namespace Ev
open PySem
theorem cut_to (xs : List PV) (k : Nat) : cutP xs none (some (k : Int)) = xs.take k := by
  unfold cutP
  rw [HT.sIx_none, HT.sIx_nat, List.drop_zero, Nat.sub_zero]
  rcases Nat.le_total k xs.length with h | h
  · rw [Nat.min_eq_left h]
  · rw [Nat.min_eq_right h, List.take_length, List.take_of_length_le h]
theorem cut_from (xs : List PV) (k : Nat) : cutP xs (some (k : Int)) none = xs.drop k := by
  unfold cutP
  rw [HT.sIx_none, HT.sIx_nat]
  rcases Nat.le_total k xs.length with h | h
  · rw [Nat.min_eq_left h, List.take_of_length_le (by simp)]
  · rw [Nat.min_eq_right h, List.drop_length, List.drop_eq_nil_of_le h]; simp
theorem cut_mid (xs : List PV) (a b : Nat) : cutP xs (some (a : Int)) (some (b : Int)) = (xs.drop a).take (b - a) := by
  unfold cutP
  rw [HT.sIx_nat, HT.sIx_nat]
  rcases Nat.le_total a xs.length with h | h
  · rw [Nat.min_eq_left h]
    rcases Nat.le_total b xs.length with h2 | h2
    · rw [Nat.min_eq_left h2]
    · rw [Nat.min_eq_right h2, List.take_of_length_le (by simp), List.take_of_length_le (by rw [List.length_drop]; omega)]
  · rw [Nat.min_eq_right h, List.drop_length, List.drop_eq_nil_of_le h]; simp
@[simp] theorem part_nil : partOf [] = some none := rfl
@[simp] theorem part_int (i : Int) : partOf [.int i] = some (some i) := rfl
theorem slice_arg {m : Bool} {xs : List PV} {lo hi : List PV} {a b : Option Int} {st : Sto} (h1 : partOf lo = some a) (h2 : partOf hi = some b) : sliceEv m (.arg xs) lo hi st = mkL m (cutP xs a b) st := by
  simp [sliceEv, h1, h2]
theorem slice_tup {m : Bool} {xs : List PV} {lo hi : List PV} {a b : Option Int} {st : Sto} (h1 : partOf lo = some a) (h2 : partOf hi = some b) : sliceEv m (.tup xs) lo hi st = some (.tup (cutP xs a b), st) := by
  simp [sliceEv, h1, h2]
theorem slice_lst {m : Bool} {xs : List PV} {lo hi : List PV} {a b : Option Int} {st : Sto} (h1 : partOf lo = some a) (h2 : partOf hi = some b) : sliceEv m (.lst xs) lo hi st = mkL m (cutP xs a b) st := by
  simp [sliceEv, h1, h2, litems]
def cellsB : S := (.seq (.asg (.one 5) (.bin false .mod (.bi false .int1 (.cons (.var 3) .nil)) (.var 1))) (.seq (.asgSub (.var 2) (.var 5) (.bin false .add (.sub (.var 2) (.var 5)) (.bin false .mul (.var 4) (.bin false .add (.var 3) (.cst (.int 2)))))) .skip))
def cellsFn : Fn := ⟨2, 6, true, (.seq (.asg (.one 2) (.or (.bi true .list1 (.cons (.slice false (.var 0) .nil (.cons (.var 1) .nil)) .nil)) (.lst true (.cons (.cst (.int 0)) .nil)))) (.seq (.for_ (.itr .enum (.cons (.slice false (.var 0) (.cons (.var 1) .nil) (.cons (.cst (.int 63)) .nil)) .nil)) (.many [3, 4]) cellsB) (.seq (.ret (.var 2)) .skip)))⟩
theorem cells_loop {c : Cf} {lc most : Nat} {v : PV} {ok : Sto → Bool} (hok : ∀ st, ok st = true) (hm : 1 ≤ most) : ∀ (xs : List Int) (k : Nat) (st : Sto) (cs : List Int) (a b d : Option PV), k + xs.length ≤ 1000 → st[lc]? = some (.lst (cs.map .int)) → cs.length = most →
    ∃ (cs' : List Int) (st' : Sto) (a' b' d' : Option PV), forM ok (forF c (.many [3, 4]) cellsB) (enumL k (xs.map .int)) [some v, some (.int most), some (.ref lc), a, b, d] st = some (.nx, [some v, some (.int most), some (.ref lc), a', b', d'], st') ∧ st'[lc]? = some (.lst (cs'.map .int)) ∧ cs'.length = most
  | [], k, st, cs, a, b, d, _, h, hl => ⟨cs, st, a, b, d, forM_nil (hok _), h, hl⟩
  | x :: xs, k, st, cs, a, b, d, hk, h, hl => by
    have hc := cell_of h
    have hlc : lc < st.length := (List.getElem?_eq_some_iff.mp h).1
    have hmod : binEv false .mod (.int (k : Int)) (.int (most : Int)) st = some (.int (((k % most : Nat) : Int)), st) := by
      rw [bin_mod (by omega)]; rfl
    have hlt : k % most < cs.length := by rw [hl]; exact Nat.mod_lt _ (by omega)
    have hs := sub_ref (k := ((k % most : Nat) : Int)) hc
    rw [at_nat] at hs
    have hg : (cs.map PV.int)[k % most]? = some (.int cs[k % most]) := by simp [hlt]
    rw [hg] at hs
    have hmul : mulOk x ((k : Int) + 2) = true := mul_r (by omega) (by simp only [List.length_cons] at hk; omega)
    have hset : ∀ z : Int, setEv (.ref lc) (.int ((k % most : Nat) : Int)) (.int z) st = some (st.set lc (.lst ((cs.set (k % most) z).map .int))) := fun z => by
      have hix : L2.ixN (cs.map PV.int).length ((k % most : Nat) : Int) = some (k % most) := ix_nat (by rw [List.length_map]; exact hlt)
      simp [setEv, hc, hix, List.map_set] <;> simp_all
    obtain ⟨cs', st', a', b', d', e, h1, h2⟩ := cells_loop (c := c) (v := v) hok hm xs (k + 1) (st.set lc (.lst ((cs.set (k % most) (cs[k % most] + x * ((k : Int) + 2))).map .int))) (cs.set (k % most) (cs[k % most] + x * ((k : Int) + 2))) (some (.int k)) (some (.int x)) (some (.int ((k % most : Nat) : Int))) (by simp only [List.length_cons] at hk; omega) (by rw [List.getElem?_set_self hlc]) (by simp [hl])
    refine ⟨cs', st', a', b', d', ?_, h1, h2⟩
    rw [← e]
    simp only [List.map_cons, enumL]
    refine forM_nx (hok _) ?_
    simp only [forF_eq, asgn_many, setMany_cons, setMany_nil, List.set_cons_succ, List.set_cons_zero, kFor2_some, cellsB, evS_seq, evS_asg, evE_bin, evE_bi, evL_cons, evL_nil, evE_var, List.getElem?_cons_zero, List.getElem?_cons_succ, kArg_some, kCons_some, kBi_some, bi_int, kBin_some, kBin2_some, hmod, kAsg_some, asgn_one, kAsg2_some, kSeq_nx, evS_asgSub, evE_sub, kSub_some, kSub2_some, hs, kV_some, evE_cst, bin_add, bin_mul hmul, kAs1_some, kAs2_some, kAs3_some, hset, kAs4_some, evS_skip]
theorem cells_ok {fs : List Fn} {wf m id most : Nat} {ns : List Int} (hd : fs[id]? = some cellsFn) (hm : 1 ≤ m) (h1 : 1 ≤ most) (h2 : most ≤ 63) :
    ∃ (cs : List Int), callN fs wf m id [.arg (ns.map .int), .int most] [] = some (.lst (cs.map .int), []) ∧ 1 ≤ cs.length ∧ cs.length ≤ most := by
  obtain ⟨st, hst⟩ : ∃ st : Sto, st = [] := ⟨[], rfl⟩
  rw [← hst]
  rw [call_eq hd rfl hm]
  have sl1 : ∀ s : Sto, sliceEv false (.arg (ns.map .int)) [] [.int (most : Int)] s = some (.lst ((ns.take most).map .int), s) := fun s => by
    rw [slice_arg (a := none) (b := some (most : Int)) rfl rfl, cut_to, ← List.map_take]; rfl
  have sl2 : ∀ s : Sto, sliceEv false (.arg (ns.map .int)) [.int (most : Int)] [.int 63] s = some (.lst (((ns.drop most).take (63 - most)).map .int), s) := fun s => by
    rw [slice_arg (a := some (most : Int)) (b := some ((63 : Nat) : Int)) rfl rfl, cut_mid, ← List.map_drop, ← List.map_take]; rfl
  have hen : ∀ (xs : List PV) (s : Sto), wkEv .enum [.lst xs] s = some ⟨none, enumL 0 xs⟩ := fun _ _ => rfl
  have hT : (ns.take most).length = 0 → ns.drop most = [] := fun h => by
    rw [List.length_take] at h
    exact List.drop_eq_nil_of_le (by omega)
  have hT2 : ns.drop most ≠ [] → (ns.take most).length = most := fun h => by
    rw [List.length_take]
    have : ¬ ns.length ≤ most := fun z => h (List.drop_eq_nil_of_le z)
    omega
  have hT3 : (ns.take most).length ≤ most := by rw [List.length_take]; omega
  generalize ns.take most = T at sl1 hT hT2 hT3
  generalize ns.drop most = D at sl2 hT hT2
  generalize ns.map PV.int = N at sl1 sl2
  cases T with
  | nil =>
    have hD := hT rfl
    subst hD
    refine ⟨[0], ?_, by simp, by simp; omega⟩
    have e1 : truth (.ref st.length) (st ++ [.lst []]) = some false := by simp [truth, cellAt]
    simp only [List.map_nil, List.take_nil] at sl1 sl2
    simp [cellsFn, sl1, sl2, e1, enumL, forM_nil, fin, cellAt]
  | cons t T =>
    have e1 : truth (.ref st.length) (st ++ [.lst ((t :: T).map .int)]) = some true := by simp [truth, cellAt]
    generalize hTT : t :: T = TT at *
    have hpos : 1 ≤ TT.length := by rw [← hTT]; simp
    cases D with
    | nil =>
      refine ⟨TT, ?_, hpos, hT3⟩
      simp only [List.take_nil, List.map_nil] at sl2
      simp [cellsFn, sl1, sl2, e1, enumL, forM_nil, fin, cellAt]
    | cons d D =>
      have hl := hT2 (by simp)
      generalize hDD : (d :: D).take (63 - most) = DD at sl2
      have hdl : DD.length ≤ 63 := by rw [← hDD, List.length_take]; omega
      obtain ⟨cs', st', a', b', d', e, k1, k2⟩ := cells_loop (c := ⟨callN fs wf (m - 1), wf⟩) (v := .arg N) (ok := guardOk ⟨none, enumL 0 (DD.map .int)⟩) (lc := st.length) (fun _ => rfl) h1 DD 0 (st ++ [.lst (TT.map .int)]) TT none none none (by omega) (by simp) hl
      refine ⟨cs', ?_, by omega, by omega⟩
      have k3 := cell_of k1
      simp [cellsFn, sl1, sl2, e1, e, fin, k3]
      simp [hst]
end Ev

/-! the laws' last words -/
namespace Dn
open PySem Ev
/-- what the law asks of a box -/
def RightC (gs : List Gn) (wf tk i m cost : Nat) : Prop := ∀ n, m ≤ n → ∀ b, cost ≤ b → wCall gs wf tk n i [.ref 0] b fun v b' => v = .bl true ∧ b ≤ b' + cost
def lawA (h c r x : Nat) : Fn := ⟨1, 3, true, (.seq (.ite (.not (.call h .nil)) (.seq (.ret (.cst (.bl false))) .skip) .skip) (.seq (.asg (.one 1) (.call c (.cons (.var 0) (.cons (.cst (.int 3)) .nil)))) (.seq (.ret (.bi false .all1 (.cons (.lc false (.itr .range1 (.cons (.bi false .len (.cons (.var 1) .nil)) .nil)) (.one 2) [2] (.cst (.bl true)) (.call r (.cons (.call x (.cons (.var 1) (.cons (.var 2) .nil))) .nil))) .nil))) .skip)))⟩
def lawB (h c r x : Nat) : Fn := ⟨1, 4, true, (.seq (.ite (.not (.call h .nil)) (.seq (.ret (.cst (.bl false))) .skip) .skip) (.seq (.asg (.one 1) (.call c (.cons (.var 0) (.cons (.cst (.int 3)) .nil)))) (.seq (.for_ (.itr .range1 (.cons (.bi false .len (.cons (.var 1) .nil)) .nil)) (.one 2) (.seq (.asg (.one 3) (.call x (.cons (.var 1) (.cons (.var 2) .nil)))) (.seq (.ite (.or (.not (.call r (.cons (.var 3) .nil))) (.not (.call r (.cons (.var 3) .nil)))) (.seq (.ret (.cst (.bl false))) .skip) .skip) .skip))) (.seq (.ret (.cst (.bl true))) .skip))))⟩
section
variable {fs : List Fn} {gs : List Gn} {wf tk m m0 h c r x cost : Nat} {k0 : Int}
theorem right_run (hgs : fs.map toG = gs) (ht : fs[tk]? = some takeFn) (hr : RightC gs wf tk r m0 cost) {n : Nat} (hn : m0 ≤ n) {st : Sto} {lb b : Nat} (hl : lb < st.length) (hb : Bz st lb b) (hc : cost ≤ b) :
    ∃ st', callN fs wf n r [.ref lb] st = some (.bl true, st') ∧ st'.length = st.length ∧ GB lb st st' ∧ Bz st' lb (b - cost) := by
  obtain ⟨v, st', b', e1, l1, g1, _, z1, q1, q2⟩ := wcall_ok (wf := wf) hgs ht n r [.ref 0] [.ref lb] st st.length lb b _ hl (Nat.le_refl _) (.cons .b .nil) hb (hr n hn b hc)
  subst q1
  exact ⟨st', e1, l1, g1, z1.mono (by omega)⟩
theorem range_map (n : Nat) : rangeL 0 ((n : Nat) : Int).toNat = (List.range n).map fun p : Nat => PV.int ((0 : Int) + (p : Int)) := by
  unfold rangeL; simp
theorem lawA_turns (hgs : fs.map toG = gs) (ht : fs[tk]? = some takeFn) (hx : fs[x]? = some (boxFn k0)) (hr : RightC gs wf tk r m0 cost) (hcost : cost ≤ 999999999999) (hm : m0 ≤ m) (hm1 : 1 ≤ m) {cs : List Int} (hcl : cs.length ≤ 63) {ok : Sto → Bool} (hok : ∀ st, ok st = true) (σ : Slots) (h1 : σ[1]? = some (some (.lst (cs.map .int)))) (h3 : 2 < σ.length) :
    ∀ (xs : List Nat) (st : Sto), (∀ k ∈ xs, k < cs.length) → ∃ st', lcM ok (lcF ⟨callN fs wf m, wf⟩ (.one 2) [2] (.cst (.bl true)) (.call r (.cons (.call x (.cons (.var 1) (.cons (.var 2) .nil))) .nil)) σ) (xs.map fun k : Nat => PV.int ((0 : Int) + (k : Int))) st = some (List.replicate xs.length (.bl true), st')
  | [], st, _ => ⟨st, by simp [lcM, hok]⟩
  | k :: xs, st, hk => by
    have hkl := hk k (by simp)
    obtain ⟨s1, e1, l1, p1, b1⟩ := box_ok (wf := wf) (m := m) (st := st) (cs := cs) (k := k) hx hm1 hkl (by omega)
    obtain ⟨s2, e2, l2, g2, z2⟩ := right_run hgs ht hr hm (st := s1) (lb := st.length) (b := 999999999999) (by omega) ⟨0, b1, by omega⟩ hcost
    obtain ⟨s3, e3⟩ := lawA_turns hgs ht hx hr hcost hm hm1 hcl hok σ h1 h3 xs s2 fun q hq => hk q (by simp [hq])
    refine ⟨s3, ?_⟩
    have s1' : ((σ.set 2 none).set 2 (some (PV.int ((0 : Int) + (k : Int)))))[1]? = some (some (.lst (cs.map .int))) := by
      rw [List.getElem?_set_ne (by omega), List.getElem?_set_ne (by omega)]; exact h1
    have s2' : ((σ.set 2 none).set 2 (some (PV.int ((0 : Int) + (k : Int)))))[2]? = some (some (PV.int ((0 : Int) + (k : Int)))) := by
      rw [List.getElem?_set_self (by simpa using h3)]
    have e1' : callN fs wf m x [.lst (cs.map .int), .int ((0 : Int) + (k : Int))] st = some (.ref st.length, s1) := by rw [Int.zero_add]; exact e1
    have step : lcF ⟨callN fs wf m, wf⟩ (.one 2) [2] (.cst (.bl true)) (.call r (.cons (.call x (.cons (.var 1) (.cons (.var 2) .nil))) .nil)) σ (PV.int ((0 : Int) + (k : Int))) st = some (some (.bl true), s2) := by
      simp only [lcF_eq, wipeS_cons, wipeS_nil, asgn_one, kTurn_some, evE_cst, kTurn1_some, truth_bl, kTurn2_true, evE_call, evL_cons, evL_nil, evE_var, s1', s2', kArg_some, kCons_some, kCall_some, e1', e2, kTurn3_some]
    simp only [List.map_cons, lcM, hok, if_true, step, Option.bind, e3, Option.map, List.length_cons, List.replicate_succ]
theorem lawA_ok {i : Nat} (hgs : fs.map toG = gs) (ht : fs[tk]? = some takeFn) (hi : fs[i]? = some (lawA h c r x)) (hc : fs[c]? = some cellsFn) (hx : fs[x]? = some (boxFn k0)) (hr : RightC gs wf tk r m0 cost) (hcost : cost ≤ 999999999999) (hh : callN fs wf (m - 1) h [] [] = some (.bl true, [])) (hm : m0 + 2 ≤ m) (ns : List Int) : ∃ st', callN fs wf m i [.arg (ns.map .int)] [] = some (.bl true, st') := by
  obtain ⟨cs, e1, c1, c2⟩ := cells_ok (wf := wf) (m := m - 1) (id := c) (most := 3) (ns := ns) hc (by omega) (by omega) (by omega)
  have e1 : callN fs wf (m - 1) c [.arg (ns.map .int), .int 3] [] = some (.lst (cs.map .int), []) := e1
  have hw := wk_range1 (j := ((cs.map PV.int).length : Nat)) (st := []) (by omega) (by rw [List.length_map]; omega)
  rw [range_map, List.length_map] at hw
  obtain ⟨s3, e3⟩ := lawA_turns (wf := wf) (m := m - 1) hgs ht hx hr hcost (by omega) (by omega) (cs := cs) (by omega) (ok := guardOk ⟨none, (List.range cs.length).map fun p : Nat => PV.int ((0 : Int) + (p : Int))⟩) (fun _ => by simp) [some (.arg (ns.map .int)), some (.lst (cs.map .int)), none] rfl (by simp) (List.range cs.length) [] fun k hk => List.mem_range.mp hk
  refine ⟨s3.take 0, ?_⟩
  rw [call_eq hi rfl (by omega)]
  have ha : ∀ s : Sto, biEv false .all1 [.lst (List.replicate (List.range cs.length).length (.bl true))] s = some (.bl true, s) := fun s => bi_allR false _ s
  simp only [lawA, List.map_cons, List.map_nil, List.cons_append, List.nil_append, List.replicate, evS_seq, evS_ite, evE_not, evE_call, evL_nil, kCall_some, hh, kNot_some, truth_bl, Option.map_some, Bool.not_true, kB_some, kIfS_some, kIfS2_false, evS_skip, kSeq_nx, evS_asg, evL_cons, evE_var, evE_cst, List.getElem?_cons_zero, List.getElem?_cons_succ, kArg_some, kCons_some, e1, kAsg_some, asgn_one, kAsg2_some, List.set_cons_succ, List.set_cons_zero, evS_ret, evE_bi, evE_lc, evI_itr, kBi_some, bi_lenL, kItr_some, List.length_map, hw, kW_some, kLc_some, e3, kMk_some, mkL_f, ha, kRet_some, kSeq_rt, kFin_rt, fin_g, gr_bl, List.length_nil]
theorem lawB_turns (hgs : fs.map toG = gs) (ht : fs[tk]? = some takeFn) (hx : fs[x]? = some (boxFn k0)) (hr : RightC gs wf tk r m0 cost) (hcost : cost + cost ≤ 999999999999) (hm : m0 ≤ m) (hm1 : 1 ≤ m) {cs : List Int} (hcl : cs.length ≤ 63) {ok : Sto → Bool} (hok : ∀ st, ok st = true) (v : PV) :
    ∀ (xs : List Nat) (st : Sto) (a b : Option PV), (∀ k ∈ xs, k < cs.length) →
    ∃ a' b' st', forM ok (forF ⟨callN fs wf m, wf⟩ (.one 2) (.seq (.asg (.one 3) (.call x (.cons (.var 1) (.cons (.var 2) .nil)))) (.seq (.ite (.or (.not (.call r (.cons (.var 3) .nil))) (.not (.call r (.cons (.var 3) .nil)))) (.seq (.ret (.cst (.bl false))) .skip) .skip) .skip))) (xs.map fun k : Nat => PV.int ((0 : Int) + (k : Int))) [some v, some (.lst (cs.map .int)), a, b] st = some (.nx, [some v, some (.lst (cs.map .int)), a', b'], st')
  | [], st, a, b, _ => ⟨a, b, st, forM_nil (hok st)⟩
  | k :: xs, st, a, b, hk => by
    have hkl := hk k (by simp)
    obtain ⟨s1, e1, l1, p1, b1⟩ := box_ok (wf := wf) (m := m) (st := st) (cs := cs) (k := k) hx hm1 hkl (by omega)
    obtain ⟨s2, e2, l2, g2, z2⟩ := right_run hgs ht hr hm (st := s1) (lb := st.length) (b := 999999999999) (by omega) ⟨0, b1, by omega⟩ (by omega)
    obtain ⟨s3, e3, l3, g3, z3⟩ := right_run hgs ht hr hm (st := s2) (lb := st.length) (by omega) z2 (by omega)
    obtain ⟨a', b', s4, e4⟩ := lawB_turns hgs ht hx hr hcost hm hm1 hcl hok v xs s3 (some (.int ((0 : Int) + (k : Int)))) (some (.ref st.length)) (fun q hq => hk q (by simp [hq]))
    refine ⟨a', b', s4, ?_⟩
    rw [List.map_cons, forM_nx (hok st) (σ' := [some v, some (.lst (cs.map .int)), some (.int ((0 : Int) + (k : Int))), some (.ref st.length)]) (st' := s3), e4]
    have e1' : callN fs wf m x [.lst (cs.map .int), .int ((0 : Int) + (k : Int))] st = some (.ref st.length, s1) := by rw [Int.zero_add]; exact e1
    simp only [forF_eq, asgn_one, List.set_cons_succ, List.set_cons_zero, kFor2_some, evS_seq, evS_asg, evE_call, evL_cons, evL_nil, evE_var, List.getElem?_cons_zero, List.getElem?_cons_succ, kArg_some, kCons_some, kCall_some, e1', kAsg_some, kAsg2_some, kSeq_nx, evS_ite, evE_or, evE_not, e2, kNot_some, truth_bl, Option.map_some, Bool.not_true, kB_some, kOr_some, kOr2_false, e3, kIfS_some, kIfS2_false, evS_skip]
theorem lawB_ok {i : Nat} (hgs : fs.map toG = gs) (ht : fs[tk]? = some takeFn) (hi : fs[i]? = some (lawB h c r x)) (hc : fs[c]? = some cellsFn) (hx : fs[x]? = some (boxFn k0)) (hr : RightC gs wf tk r m0 cost) (hcost : cost + cost ≤ 999999999999) (hh : callN fs wf (m - 1) h [] [] = some (.bl true, [])) (hm : m0 + 2 ≤ m) (ns : List Int) : ∃ st', callN fs wf m i [.arg (ns.map .int)] [] = some (.bl true, st') := by
  obtain ⟨cs, e1, c1, c2⟩ := cells_ok (wf := wf) (m := m - 1) (id := c) (most := 3) (ns := ns) hc (by omega) (by omega) (by omega)
  have e1 : callN fs wf (m - 1) c [.arg (ns.map .int), .int 3] [] = some (.lst (cs.map .int), []) := e1
  have hw := wk_range1 (j := ((cs.map PV.int).length : Nat)) (st := []) (by omega) (by rw [List.length_map]; omega)
  rw [range_map, List.length_map] at hw
  obtain ⟨a', b', s4, e4⟩ := lawB_turns (wf := wf) (m := m - 1) hgs ht hx hr hcost (by omega) (by omega) (cs := cs) (by omega) (ok := guardOk ⟨none, (List.range cs.length).map fun p : Nat => PV.int ((0 : Int) + (p : Int))⟩) (fun _ => by simp) (.arg (ns.map .int)) (List.range cs.length) [] none none fun k hk => List.mem_range.mp hk
  refine ⟨s4.take 0, ?_⟩
  rw [call_eq hi rfl (by omega)]
  simp only [lawB, List.map_cons, List.map_nil, List.cons_append, List.nil_append, List.replicate, evS_seq, evS_ite, evE_not, evE_call, evL_nil, kCall_some, hh, kNot_some, truth_bl, Option.map_some, Bool.not_true, kB_some, kIfS_some, kIfS2_false, evS_skip, kSeq_nx, evS_asg, evL_cons, evE_var, evE_cst, List.getElem?_cons_zero, List.getElem?_cons_succ, kArg_some, kCons_some, e1, kAsg_some, asgn_one, kAsg2_some, List.set_cons_succ, List.set_cons_zero, evS_for, evI_itr, evE_bi, kBi_some, bi_lenL, kItr_some, List.length_map, hw, kW_some, kFor_some, e4, evS_ret, kRet_some, kSeq_rt, kFin_rt, fin_g, gr_bl, List.length_nil]
end
end Dn

/-! keys: rows of ints, their order, sorted sets of them -/
namespace Ev
open PySem
/-! ### order of rows -/
theorem row_tri : ∀ a b : List Int, ¬ b < a → a ≠ b → a < b
  | [], [], _, h => absurd rfl h
  | [], b :: bs, _, _ => List.nil_lt_cons b bs
  | a :: as, [], h, _ => absurd (List.nil_lt_cons a as) h
  | a :: as, b :: bs, h, hn => by
    rw [List.cons_lt_cons_iff] at h ⊢
    simp only [not_or, not_and] at h
    by_cases e : a = b
    · subst e
      exact .inr ⟨rfl, row_tri as bs (h.2 rfl) fun z => hn (by rw [z])⟩
    · exact .inl (by have := h.1; omega)
theorem row_irr (a : List Int) : ¬ a < a := List.lt_irrefl a
theorem row_asym {a b : List Int} (h : a < b) : ¬ b < a := fun z => row_irr a (List.lt_trans h z)
theorem rows_of {ys : List PV} {L : List (List Int)} : (∀ y ∈ ys, y ∈ L.map tupI) → ∃ ks : List (List Int), ys = ks.map tupI ∧ ∀ k ∈ ks, k ∈ L := by
  induction ys with
  | nil => intro _; exact ⟨[], rfl, by simp⟩
  | cons y ys ih =>
    intro h
    obtain ⟨k, hk, rfl⟩ := List.mem_map.mp (h y (by simp))
    obtain ⟨ks, rfl, hks⟩ := ih fun z hz => h z (by simp [hz])
    exact ⟨k :: ks, rfl, fun z hz => (List.mem_cons.mp hz).elim (fun e => e ▸ hk) (hks z)⟩
theorem sortL_id : ∀ {xs : List PV}, xs.Pairwise (fun a b => ltP b a = false) → sortL xs = xs
  | [], _ => rfl
  | [x], _ => rfl
  | x :: y :: r, h => by
    rw [List.pairwise_cons] at h
    show insP x (sortL (y :: r)) = x :: y :: r
    rw [sortL_id h.2]
    show (if ltP y x then y :: insP x r else x :: y :: r) = _
    rw [h.1 y (by simp)]
    rfl
theorem sort_rows {ks : List (List Int)} (h : ks.Pairwise (· < ·)) : sortL (ks.map tupI) = ks.map tupI := by
  refine sortL_id ?_
  rw [List.pairwise_map]
  refine h.imp fun hab => ?_
  rw [ltP_int]
  exact decide_eq_false (row_asym hab)
theorem set_rows (L : List (List Int)) : ∃ ks : List (List Int), sortL (dedup (L.map tupI)) = ks.map tupI ∧ ks.Pairwise (· < ·) ∧ ∀ k, k ∈ ks ↔ k ∈ L := by
  have hp := sortL_perm (dedup (L.map tupI))
  obtain ⟨ks, e, hk⟩ := rows_of (L := L) (ys := sortL (dedup (L.map tupI))) fun y hy => (dedup_mem _ _).mp (hp.mem_iff.mp hy)
  have hnd : (ks.map tupI).Nodup := by
    rw [← e]
    refine hp.nodup_iff.mpr (dedup_nd _ fun x hx => ?_)
    obtain ⟨k, _, rfl⟩ := List.mem_map.mp hx
    simp
  have hpw := sortL_pw (dedup (L.map tupI))
  rw [e, List.pairwise_map] at hpw
  refine ⟨ks, e, ?_, fun k => ⟨hk k, fun h => ?_⟩⟩
  · have hnd2 : ks.Pairwise (· ≠ ·) := by
      rw [List.Nodup, List.pairwise_map] at hnd
      exact hnd.imp fun h z => h (by rw [z])
    refine List.Pairwise.imp₂ (fun a b h1 h2 => ?_) hpw hnd2
    rw [le_def, ltP_int] at h1
    exact row_tri a b (by simpa using h1) h2
  · have : tupI k ∈ sortL (dedup (L.map tupI)) := hp.mem_iff.mpr ((dedup_mem _ _).mpr (List.mem_map.mpr ⟨k, h, rfl⟩))
    rw [e] at this
    obtain ⟨k', hk', e'⟩ := List.mem_map.mp this
    rw [← tupI_inj e']; exact hk'
theorem sortable_rows {ks : List (List Int)} (h : ∀ k ∈ ks, k ≠ []) : sortable (ks.map tupI) = true := by
  have : (ks.map tupI).all intTup = true := by
    rw [List.all_eq_true]
    intro x hx
    obtain ⟨k, hk, rfl⟩ := List.mem_map.mp hx
    cases k with
    | nil => exact absurd rfl (h _ hk)
    | cons a r => simp [tupI, intTup, isInt]
  simp only [sortable, this, Bool.or_true, Bool.true_or]
theorem setable_rows {L : List (List Int)} {d : Nat} (h1 : L.length < 64) (hd : 1 ≤ d) (h2 : ∀ k ∈ L, k.length = d ∧ ∀ n ∈ k, 0 ≤ n) : setable (L.map tupI) = true := by
  have hl : lenT (L.map tupI) = d ∨ L = [] := by
    cases L with
    | nil => exact .inr rfl
    | cons k r => exact .inl (by simp [lenT, tupI, (h2 k (by simp)).1])
  simp only [setable, Bool.and_eq_true, decide_eq_true_eq, List.all_eq_true, List.length_map]
  rcases hl with hl | rfl
  · rw [hl]
    refine ⟨⟨h1, hd⟩, fun x hx => ?_⟩
    obtain ⟨k, hk, rfl⟩ := List.mem_map.mp hx
    simp only [tupI, natTup, Bool.and_eq_true, decide_eq_true_eq, List.length_map, List.all_eq_true]
    refine ⟨(h2 k hk).1, fun y hy => ?_⟩
    obtain ⟨n, hn, rfl⟩ := List.mem_map.mp hy
    simpa using (h2 k hk).2 n hn
  · simp [lenT]
/-! ### the shape of data -/
theorem datL_map : ∀ xs : List PV, datL xs = xs.map PV.dat
  | [] => by simp only [datL, List.map_nil]
  | x :: xs => by simp only [datL, List.map_cons, datL_map xs]
theorem lay_all {f : PV → Prop} : ∀ (xs : List PV), (∀ x ∈ xs, PyData.canLay0 x.dat = true ∧ x.dat.depth ≤ dep x ∧ x.ground = true) → PyData.canLayAll0 (datL xs) = true ∧ PyData.depthAll (datL xs) ≤ depL xs ∧ groundL xs = true
  | [], _ => by simp [datL, PyData.canLayAll0, PyData.depthAll]
  | x :: xs, h => by
    obtain ⟨a1, a2, a3⟩ := h x (by simp)
    obtain ⟨b1, b2, b3⟩ := lay_all (f := f) xs fun y hy => h y (by simp [hy])
    simp only [datL, PyData.canLayAll0, PyData.depthAll, depL, a1, b1, gr_cons, a3, b3, Bool.and_self, true_and, and_true]
    omega
theorem shp_lay : ∀ (n : Nat) (v : PV), dep v < n → noStr v = true → PyData.canLay0 v.dat = true ∧ v.dat.depth ≤ dep v ∧ v.ground = true
  | 0, _, h, _ => absurd h (by omega)
  | n + 1, v, h, g => by
    cases v with
    | tup xs =>
      simp only [dep] at h
      simp only [noStr] at g
      obtain ⟨a, b, c⟩ := lay_all (f := fun _ => True) xs fun x hx => shp_lay n x (by have := dep_mem hx; omega) (noStr_mem g hx)
      simp only [PV.dat, PyData.canLay0, PyData.depth, dep, gr_tup, a, c, true_and, and_true]
      omega
    | lst xs =>
      simp only [dep] at h
      simp only [noStr] at g
      obtain ⟨a, b, c⟩ := lay_all (f := fun _ => True) xs fun x hx => shp_lay n x (by have := dep_mem hx; omega) (noStr_mem g hx)
      simp only [PV.dat, PyData.canLay0, PyData.depth, dep, gr_lst, a, c, true_and, and_true]
      omega
    | ref l => simp [noStr] at g
    | arg l => simp [noStr] at g
    | str x =>
      simp only [noStr, SeqAt.shaped, Bool.and_eq_true] at g
      simp only [PV.dat, PyData.depth, dep, gr_str, g.1, and_true, true_and]
      omega
    | _ => simp [PV.dat, PyData.canLay0, PyData.depth, dep]
theorem shp_of {v : PV} (h : noStr v = true) (hd : dep v ≤ 64) : shp v = true := by
  obtain ⟨a, b, c⟩ := shp_lay (dep v + 1) v (by omega) h
  simp only [shp, SeqAt.shaped, a, c, Bool.true_and, decide_eq_true_eq]
  omega
theorem noStrL_all {xs : List PV} (h : ∀ x ∈ xs, noStr x = true) : noStrL xs = true := by
  induction xs with
  | nil => rfl
  | cons x r ih => simp only [noStrL, h x (by simp), ih fun y hy => h y (by simp [hy]), Bool.and_self]
theorem depL_le {xs : List PV} {n : Nat} (h : ∀ x ∈ xs, dep x ≤ n) : depL xs ≤ n := by
  induction xs with
  | nil => simp [depL]
  | cons x r ih =>
    simp only [depL]
    have h1 := h x (by simp)
    have h2 := ih fun y hy => h y (by simp [hy])
    omega
@[simp] theorem noStr_tupI (a : List Int) : noStr (tupI a) = true := by
  simp only [tupI, noStr]
  refine noStrL_all fun x hx => ?_
  obtain ⟨i, _, rfl⟩ := List.mem_map.mp hx
  simp [noStr]
theorem dep_tupI (a : List Int) : dep (tupI a) ≤ 1 := by
  simp only [tupI, dep]
  have : depL (a.map .int) ≤ 0 := depL_le fun x hx => by
    obtain ⟨i, _, rfl⟩ := List.mem_map.mp hx
    simp [dep]
  omega
theorem noStr_rows (L : List (List Int)) : noStrL (L.map tupI) = true := noStrL_all fun x hx => by
  obtain ⟨i, _, rfl⟩ := List.mem_map.mp hx
  simp
theorem dep_rows (L : List (List Int)) : depL (L.map tupI) ≤ 1 := depL_le fun x hx => by
  obtain ⟨i, _, rfl⟩ := List.mem_map.mp hx
  exact dep_tupI i
theorem gr_rows (L : List (List Int)) : groundL (L.map tupI) = true := ground_all fun x hx => by
  obtain ⟨i, _, rfl⟩ := List.mem_map.mp hx
  simp
theorem eqL_nil (xs : List PV) : eqP (.lst xs) (.lst []) = xs.isEmpty := by
  cases xs with
  | nil => rfl
  | cons x r => simp [eqP, PV.dat, datL, PyData.eqv, PyData.eqvAll]
theorem cmp_eq_nil {xs : List PV} {st : Sto} (h : noStrL xs = true) (hd : depL xs ≤ 60) : cmpEv .eq (.lst xs) (.lst []) st = some xs.isEmpty := by
  have h1 : shp (.lst xs) = true := shp_of (by simpa [noStr] using h) (by simp only [dep]; omega)
  have h2 : shp (.lst []) = true := rfl
  simp only [cmpEv, deref, Option.bind, h1, h2, Bool.and_self, if_true, eqL_nil]
theorem cmp_ne_nil {xs : List PV} {st : Sto} (h : noStrL xs = true) (hd : depL xs ≤ 60) : cmpEv .ne (.lst xs) (.lst []) st = some (!xs.isEmpty) := by
  have h1 : shp (.lst xs) = true := shp_of (by simpa [noStr] using h) (by simp only [dep]; omega)
  have h2 : shp (.lst []) = true := rfl
  simp only [cmpEv, deref, Option.bind, h1, h2, Bool.and_self, if_true, eqL_nil]
theorem eqv_ints : ∀ a b : List Int, PyData.eqvAll (a.map .int) (b.map .int) = decide (a = b)
  | [], [] => by simp [PyData.eqvAll]
  | [], _ :: _ => by simp [PyData.eqvAll]
  | _ :: _, [] => by simp [PyData.eqvAll]
  | x :: xs, y :: ys => by
    simp only [List.map_cons, PyData.eqvAll, PyData.eqv, eqv_ints xs ys]
    by_cases h : x = y <;> by_cases h2 : xs = ys <;> simp [h, h2]
theorem eqP_tupI (a b : List Int) : eqP (tupI a) (tupI b) = decide (a = b) := by
  simp only [eqP, tupI, PV.dat, datL_int, PyData.eqv, eqv_ints]
@[simp] theorem cmp_eqT (a b : List Int) (st : Sto) : cmpEv .eq (tupI a) (tupI b) st = some (decide (a = b)) := by
  have h1 := shp_tupI a
  have h2 := shp_tupI b
  have e : ∀ v st, Ev.deref (tupI v) st = some (tupI v) := fun _ _ => rfl
  simp only [cmpEv, e, Option.bind, h1, h2, Bool.and_self, if_true, eqP_tupI]
@[simp] theorem cmp_neT (a b : List Int) (st : Sto) : cmpEv .ne (tupI a) (tupI b) st = some (!decide (a = b)) := by
  have h1 := shp_tupI a
  have h2 := shp_tupI b
  have e : ∀ v st, Ev.deref (tupI v) st = some (tupI v) := fun _ _ => rfl
  simp only [cmpEv, e, Option.bind, h1, h2, Bool.and_self, if_true, eqP_tupI]
end Ev

/-! free pins, rooms that a key opens: the program's words and the laws' words -/
namespace Ev
open PySem
theorem lcM_mapL {α : Type} {ok : Sto → Bool} {f : PV → Sto → Option (Option PV × Sto)} {h g : α → PV} {st : Sto} (hok : ok st = true) : ∀ L : List α, (∀ x ∈ L, f (h x) st = some (some (g x), st)) → lcM ok f (L.map h) st = some (L.map g, st)
  | [], _ => by simp [lcM, hok]
  | x :: r, hf => by
    simp only [List.map_cons, lcM, hok, if_true, hf x (by simp), Option.bind, lcM_mapL hok r fun y hy => hf y (by simp [hy]), Option.map]
theorem lcM_filterL {α : Type} {ok : Sto → Bool} {f : PV → Sto → Option (Option PV × Sto)} {p : α → Bool} {h g : α → PV} {st : Sto} (hok : ok st = true) : ∀ L : List α, (∀ x ∈ L, f (h x) st = some (if p x then some (g x) else none, st)) → lcM ok f (L.map h) st = some ((L.filter p).map g, st)
  | [], _ => by simp [lcM, hok]
  | x :: r, hf => by
    simp only [List.map_cons, lcM, hok, if_true, hf x (by simp), Option.bind, lcM_filterL hok r fun y hy => hf y (by simp [hy]), Option.map]
    cases hp : p x <;> simp [hp]
def cv (b : Bool) (xs : List PV) : PV := match b with
  | true => .lst xs
  | false => .tup xs
@[simp] theorem cv_seq (b : Bool) (xs : List PV) (st : Sto) : wkEv .seq [cv b xs] st = some ⟨none, xs⟩ := by cases b <;> rfl
@[simp] theorem cv_sub (b : Bool) (xs : List PV) (k : Int) (st : Sto) : subEv (cv b xs) (.int k) st = L2.atI xs k := by cases b <;> rfl
@[simp] theorem cv_len (m b : Bool) (xs : List PV) (st : Sto) : biEv m .len [cv b xs] st = some (.int xs.length, st) := by cases b <;> rfl
@[simp] theorem cv_gr (b : Bool) (xs : List PV) : (cv b xs).ground = groundL xs := by cases b <;> simp [cv]
@[simp] theorem cv_en (b : Bool) (xs : List PV) (st : Sto) : wkEv .enum [cv b xs] st = some ⟨none, enumL 0 xs⟩ := by cases b <;> rfl
abbrev keyV (b : Bool) (k : List Int) : PV := cv b (k.map .int)
abbrev rowsV (b c : Bool) (cs : List (List Int)) : PV := cv b (cs.map (keyV c))
theorem tupI_cv (k : List Int) : tupI k = keyV false k := rfl
theorem at_row {k : List Int} {p : Nat} (h : p < k.length) : L2.atI (k.map PV.int) (p : Int) = some (.int k[p]) := by rw [at_nat]; simp [h]
def freeP (cs : List (List Int)) (k : List Int) (p : Nat) : Bool := cs.all fun o => !decide (o[p]? = k[p]?)
def pinsOf (cs : List (List Int)) (k : List Int) : List Nat := (List.range k.length).filter (freeP cs k)
def roomB (cs : List (List Int)) (one other : List Int) : Bool := (pinsOf cs one).all fun p => decide (one[p]? = other[p]?)
def isFreeFn : Fn := ⟨3, 4, true, (.seq (.ret (.bi false .all1 (.cons (.lc false (.itr .seq (.cons (.var 0) .nil)) (.one 3) [3] (.cst (.bl true)) (.cmp .ne (.sub (.var 3) (.var 2)) (.sub (.var 1) (.var 2)))) .nil))) .skip)⟩
def freePinsFn (i : Nat) : Fn := ⟨2, 3, true, (.seq (.ret (.bi false .tuple1 (.cons (.lc false (.itr .range1 (.cons (.bi false .len (.cons (.var 1) .nil)) .nil)) (.one 2) [2] (.call i (.cons (.var 0) (.cons (.var 1) (.cons (.var 2) .nil)))) (.var 2)) .nil))) .skip)⟩
def barB : S := (.seq (.ite (.cmp .ne (.sub (.var 1) (.var 3)) (.sub (.var 2) (.var 3))) (.seq (.ret (.var 3)) .skip) .skip) .skip)
def barringFn (i : Nat) : Fn := ⟨3, 4, true, (.seq (.for_ (.itr .seq (.cons (.call i (.cons (.var 0) (.cons (.var 1) .nil))) .nil)) (.one 3) barB) (.seq (.ret (.cst (.non))) .skip))⟩
def opensFn (i : Nat) : Fn := ⟨3, 3, true, (.seq (.ret (.cmp .isN (.call i (.cons (.var 0) (.cons (.var 1) (.cons (.var 2) .nil)))) (.cst (.non)))) .skip)⟩
section
variable {fs : List Fn} {wf m i1 i2 i3 i4 : Nat} {st : Sto} {b c d e : Bool} {cs : List (List Int)} {k one other : List Int} {p : Nat}
theorem some_ne {x y : Int} {o k : List Int} {p : Nat} (h1 : p < o.length) (h2 : p < k.length) : (decide (o[p] = k[p])) = decide (o[p]? = k[p]?) := by
  rw [List.getElem?_eq_getElem h1, List.getElem?_eq_getElem h2]
  simp
theorem isfree_ok (hf : fs[i1]? = some isFreeFn) (hm : 1 ≤ m) (hk : p < k.length) (hc : ∀ o ∈ cs, p < o.length) : callN fs wf m i1 [rowsV b c cs, keyV d k, .int p] st = some (.bl (freeP cs k p), st) := by
  rw [call_eq hf rfl hm]
  have hl := lcM_mapL (ok := guardOk ⟨none, cs.map (keyV c)⟩) (f := lcF ⟨callN fs wf (m - 1), wf⟩ (.one 3) [3] (.cst (.bl true)) (.cmp .ne (.sub (.var 3) (.var 2)) (.sub (.var 1) (.var 2))) [some (rowsV b c cs), some (keyV d k), some (.int p), none]) (h := keyV c) (g := fun o => .bl (!decide (o[p]? = k[p]?))) (st := st) (by simp) cs fun o ho => by
    simp [at_row (hc o ho), at_row hk, some_ne (x := 0) (y := 0) (hc o ho) hk]
  have e : (cs.map fun o => PV.bl (!decide (o[p]? = k[p]?))) = (cs.map fun o => !decide (o[p]? = k[p]?)).map PV.bl := by simp
  rw [e] at hl
  have ha : biEv false .all1 [.lst ((cs.map fun o => !decide (o[p]? = k[p]?)).map PV.bl)] st = some (.bl (freeP cs k p), st) := by
    rw [bi_all]
    simp [freeP, List.all_map, Function.comp_def]
  simp only [isFreeFn, List.map_cons, List.map_nil, List.cons_append, List.nil_append, List.replicate, evS_seq, evS_ret, evE_bi, evL_cons, evL_nil, evE_lc, evI_itr, evE_var, List.getElem?_cons_zero, List.getElem?_cons_succ, kArg_some, kCons_some, kItr_some, cv_seq, kW_some, kLc_some, hl, kMk_some, mkL_f, kBi_some, ha, kRet_some, kSeq_rt, kFin_rt, fin_g, gr_bl, take_self]
theorem freepins_ok (hf : fs[i1]? = some isFreeFn) (hg : fs[i2]? = some (freePinsFn i1)) (hm : 2 ≤ m) (hk : k.length ≤ 1000) (hc : ∀ o ∈ cs, o.length = k.length) : callN fs wf m i2 [rowsV b c cs, keyV d k] st = some (.tup ((pinsOf cs k).map fun p => .int (p : Nat)), st) := by
  rw [call_eq hg rfl (by omega)]
  have hw := wk_range1 (j := ((k.map PV.int).length : Nat)) (st := st) (by omega) (by rw [List.length_map]; omega)
  have hl := lcM_filterL (ok := guardOk ⟨none, rangeL 0 ((k.map PV.int).length : Int).toNat⟩) (f := lcF ⟨callN fs wf (m - 1), wf⟩ (.one 2) [2] (.call i1 (.cons (.var 0) (.cons (.var 1) (.cons (.var 2) .nil)))) (.var 2) [some (rowsV b c cs), some (keyV d k), none])
    (p := freeP cs k) (h := fun p : Nat => .int ((0 : Int) + (p : Int))) (g := fun p => .int (p : Nat)) (st := st) (by simp) (List.range k.length) fun p hp => by
      have hp := List.mem_range.mp hp
      have := isfree_ok (wf := wf) (m := m - 1) (b := b) (c := c) (d := d) (st := st) hf (by omega) hp fun o ho => by rw [hc o ho]; exact hp
      simp only [lcF_eq, asgn_one, wipeS_cons, wipeS_nil, List.set_cons_succ, List.set_cons_zero, kTurn_some, evE_call, evL_cons, evL_nil, evE_var, List.getElem?_cons_zero, List.getElem?_cons_succ, kArg_some, kCons_some, kCall_some, Int.zero_add, this, kTurn1_some, truth_bl]
      cases freeP cs k p <;> simp
  have hr : rangeL 0 ((k.map PV.int).length : Int).toNat = (List.range k.length).map fun p : Nat => PV.int ((0 : Int) + (p : Int)) := by
    unfold rangeL
    simp
  rw [hr] at hw hl
  have hgr : groundL ((pinsOf cs k).map fun p => PV.int (p : Nat)) = true := ground_all fun x hx => by
    obtain ⟨q, _, rfl⟩ := List.mem_map.mp hx
    simp
  simp only [freePinsFn, List.map_cons, List.map_nil, List.cons_append, List.nil_append, List.replicate, evS_seq, evS_ret, evE_bi, evL_cons, evL_nil, evE_lc, evI_itr, evE_var, List.getElem?_cons_zero, List.getElem?_cons_succ, kArg_some, kCons_some, kBi_some, cv_len, kItr_some, hw, kW_some, kLc_some, hl, kMk_some, mkL_f, bi_tupL, kRet_some, kSeq_rt, kFin_rt]
  rw [fin_g (by rw [gr_tup]; exact hgr)]
  simp [pinsOf]
theorem bar_loop {cf : Cf} {v : PV} {ok : Sto → Bool} (hok : ok st = true) : ∀ (ps : List Nat) (a : Option PV), (∀ p ∈ ps, p < one.length ∧ p < other.length) →
    (ps.all (fun p => decide (one[p]? = other[p]?)) = true → ∃ a', forM ok (forF cf (.one 3) barB) (ps.map fun p => .int (p : Nat)) [some v, some (keyV d one), some (keyV e other), a] st = some (.nx, [some v, some (keyV d one), some (keyV e other), a'], st)) ∧
    (ps.all (fun p => decide (one[p]? = other[p]?)) = false → ∃ z σ, forM ok (forF cf (.one 3) barB) (ps.map fun p => .int (p : Nat)) [some v, some (keyV d one), some (keyV e other), a] st = some (.rt (.int z), σ, st))
  | [], a, _ => ⟨fun _ => ⟨a, forM_nil hok⟩, fun h => by simp at h⟩
  | p :: ps, a, h => by
    obtain ⟨h1, h2⟩ := h p (by simp)
    have ih := bar_loop (cf := cf) (v := v) hok ps (some (.int p)) fun q hq => h q (by simp [hq])
    have step : forF cf (.one 3) barB (.int (p : Nat)) [some v, some (keyV d one), some (keyV e other), a] st = if one[p]? = other[p]? then some (.nx, [some v, some (keyV d one), some (keyV e other), some (.int p)], st) else some (.rt (.int p), [some v, some (keyV d one), some (keyV e other), some (.int p)], st) := by
      simp only [forF_eq, asgn_one, List.set_cons_succ, List.set_cons_zero, kFor2_some, barB, evS_seq, evS_ite, evE_cmp, evE_sub, evE_var, List.getElem?_cons_zero, List.getElem?_cons_succ, kSub_some, kSub2_some, cv_sub, at_row h1, at_row h2, kV_some, kCmp_some, kCmp2_some, cmp_neI, kB_some, kIfS_some, truth_bl, some_ne (x := 0) (y := 0) h1 h2]
      by_cases hq : one[p]? = other[p]?
      · simp [hq]
      · simp [hq]
    by_cases hq : one[p]? = other[p]?
    · rw [if_pos hq] at step
      simp only [List.map_cons, forM_nx hok step, List.all_cons, decide_eq_true hq, Bool.true_and]
      exact ih
    · rw [if_neg hq] at step
      simp only [List.map_cons, forM_rt hok step, List.all_cons, decide_eq_false hq, Bool.false_and]
      exact ⟨fun z => absurd z (by simp), fun _ => ⟨_, _, rfl⟩⟩
theorem pins_lt {p : Nat} (h : p ∈ pinsOf cs one) : p < one.length := List.mem_range.mp (List.mem_filter.mp h).1
theorem opens_ok (hf : fs[i1]? = some isFreeFn) (hg : fs[i2]? = some (freePinsFn i1)) (h3 : fs[i3]? = some (barringFn i2)) (h4 : fs[i4]? = some (opensFn i3)) (hm : 4 ≤ m) (hk : one.length ≤ 1000) (hc : ∀ o ∈ cs, o.length = one.length) (ho : other.length = one.length) :
    callN fs wf m i4 [rowsV b c cs, keyV d one, keyV e other] st = some (.bl (roomB cs one other), st) := by
  have hbar : ∃ v, callN fs wf (m - 1) i3 [rowsV b c cs, keyV d one, keyV e other] st = some (v, st) ∧ cmpEv .isN v .non st = some (roomB cs one other) := by
    rw [call_eq h3 rfl (by omega)]
    have hfp := freepins_ok (wf := wf) (m := m - 1 - 1) (b := b) (c := c) (d := d) (st := st) hf hg (by omega) hk hc
    obtain ⟨l1, l2⟩ := bar_loop (cf := ⟨callN fs wf (m - 1 - 1), wf⟩) (v := rowsV b c cs) (d := d) (e := e) (ok := guardOk ⟨none, (pinsOf cs one).map fun p => .int (p : Nat)⟩) (st := st) (by simp) (pinsOf cs one) none fun p hp => ⟨pins_lt hp, by rw [ho]; exact pins_lt hp⟩
    cases hr : roomB cs one other with
    | true =>
      obtain ⟨a', e1⟩ := l1 hr
      exact ⟨.non, by simp [barringFn, hfp, e1, fin_g], rfl⟩
    | false =>
      obtain ⟨z, σ, e1⟩ := l2 hr
      exact ⟨.int z, by simp [barringFn, hfp, e1, fin_g], rfl⟩
  obtain ⟨v, e1, e2⟩ := hbar
  rw [call_eq h4 rfl (by omega)]
  simp [opensFn, e1, e2, fin_g]
end
end Ev

/-! the laws' words: stars, lets, loud -/
namespace Ev
open PySem
theorem enum_map (f : Int → PV) : ∀ (k : List Int) (n : Nat), enumL n (k.map f) = (List.range k.length).map fun p => PV.tup [.int ((n + p : Nat) : Int), f (k.getD p 0)]
  | [], n => rfl
  | x :: r, n => by
    rw [List.map_cons, enumL, enum_map f r (n + 1), List.length_cons, List.range_succ_eq_map, List.map_cons, List.map_map]
    simp only [Function.comp_def, List.getD_cons_zero, List.getD_cons_succ, Nat.add_zero, List.cons.injEq, true_and]
    refine List.map_congr_left fun p _ => ?_
    rw [show n + 1 + p = n + (p + 1) by omega]
def starsQ : E := (.cmp .eq (.lc false (.itr .seq (.cons (.var 0) .nil)) (.one 4) [4] (.cmp .eq (.sub (.var 4) (.var 2)) (.var 3)) (.var 4)) (.lst false .nil))
def starsFn : Fn := ⟨2, 5, true, (.seq (.ret (.lc false (.itr .enum (.cons (.var 1) .nil)) (.many [2, 3]) [2, 3] starsQ (.tup (.cons (.var 2) (.cons (.var 3) .nil))))) .skip)⟩
def letsFn (i : Nat) : Fn := ⟨3, 4, true, (.seq (.ret (.cmp .eq (.lc false (.itr .seq (.cons (.call i (.cons (.var 0) (.cons (.var 1) .nil))) .nil)) (.one 3) [3] (.cmp .ne (.sub (.var 2) (.sub (.var 3) (.cst (.int 0)))) (.sub (.var 3) (.cst (.int 1)))) (.var 3)) (.lst false .nil))) .skip)⟩
section
variable {fs : List Fn} {wf m i1 i2 i3 : Nat} {st : Sto} {b c d e : Bool} {cs : List (List Int)} {k one two : List Int} {p : Nat}
theorem getD_at {k : List Int} {p : Nat} (h : p < k.length) : k.getD p 0 = k[p] := by rw [List.getD_eq_getElem?_getD, List.getElem?_eq_getElem h]; rfl
theorem noStr_keyV (b : Bool) (k : List Int) : noStr (keyV b k) = true := by
  have h : noStrL (k.map .int) = true := noStrL_all fun x hx => by
    obtain ⟨i, _, rfl⟩ := List.mem_map.mp hx
    simp [noStr]
  cases b <;> (simp only [keyV, cv, noStr]; exact h)
theorem filt_free (k : List Int) (p : Nat) : ∀ cs : List (List Int), (cs.filter fun o : List Int => decide (o[p]? = k[p]?)).isEmpty = freeP cs k p
  | [] => rfl
  | o :: r => by
    have ih := filt_free k p r
    unfold freeP at ih ⊢
    rw [List.filter_cons, List.all_cons, ← ih]
    cases decide (o[p]? = k[p]?) <;> rfl
theorem filt_room (one two : List Int) : ∀ ps : List Nat, (ps.filter fun p : Nat => !decide (one[p]? = two[p]?)).isEmpty = ps.all fun p => decide (one[p]? = two[p]?)
  | [] => rfl
  | q :: r => by
    rw [List.filter_cons, List.all_cons, ← filt_room one two r]
    cases decide (one[q]? = two[q]?) <;> rfl
theorem dep_keyV (b : Bool) (k : List Int) : dep (keyV b k) ≤ 1 := by
  have : depL (k.map .int) ≤ 0 := depL_le fun x hx => by
    obtain ⟨i, _, rfl⟩ := List.mem_map.mp hx
    simp [dep]
  cases b <;> (simp only [keyV, cv, dep]; omega)
theorem noStr_keys (b : Bool) (L : List (List Int)) : noStrL (L.map (keyV b)) = true := noStrL_all fun x hx => by
  obtain ⟨i, _, rfl⟩ := List.mem_map.mp hx
  exact noStr_keyV b i
theorem dep_keys (b : Bool) (L : List (List Int)) : depL (L.map (keyV b)) ≤ 1 := depL_le fun x hx => by
  obtain ⟨i, _, rfl⟩ := List.mem_map.mp hx
  exact dep_keyV b i
theorem stars_ok (hf : fs[i1]? = some starsFn) (hm : 1 ≤ m) (hc : ∀ o ∈ cs, o.length = k.length) : callN fs wf m i1 [rowsV b c cs, keyV d k] st = some (.lst ((pinsOf cs k).map fun p : Nat => tupI [(p : Int), k.getD p 0]), st) := by
  rw [call_eq hf rfl hm]
  have hl := lcM_filterL (ok := guardOk ⟨none, enumL 0 (k.map .int)⟩) (f := lcF ⟨callN fs wf (m - 1), wf⟩ (.many [2, 3]) [2, 3] starsQ (.tup (.cons (.var 2) (.cons (.var 3) .nil))) [some (rowsV b c cs), some (keyV d k), none, none, none])
    (p := freeP cs k) (h := fun p : Nat => PV.tup [.int ((0 + p : Nat) : Int), .int (k.getD p 0)]) (g := fun p : Nat => tupI [(p : Int), k.getD p 0]) (st := st) (by simp) (List.range k.length) fun p hp => by
      have hp := List.mem_range.mp hp
      have hi := lcM_filterL (ok := guardOk ⟨none, cs.map (keyV c)⟩) (f := lcF ⟨callN fs wf (m - 1), wf⟩ (.one 4) [4] (.cmp .eq (.sub (.var 4) (.var 2)) (.var 3)) (.var 4) [some (rowsV b c cs), some (keyV d k), some (.int (p : Nat)), some (.int (k.getD p 0)), none])
        (p := fun o : List Int => decide (o[p]? = k[p]?)) (h := keyV c) (g := keyV c) (st := st) (by simp) cs fun o ho => by
          have h1 : p < o.length := by rw [hc o ho]; exact hp
          simp only [lcF_eq, asgn_one, wipeS_cons, wipeS_nil, List.set_cons_succ, List.set_cons_zero, kTurn_some, evE_cmp, evE_sub, evE_var, List.getElem?_cons_zero, List.getElem?_cons_succ, kSub_some, kSub2_some, cv_sub, at_row h1, kV_some, kCmp_some, kCmp2_some, cmp_eqI, getD_at hp, some_ne (x := 0) (y := 0) h1 hp, kB_some, kTurn1_some, truth_bl]
          cases decide (o[p]? = k[p]?) <;> simp
      have hn := cmp_eq_nil (st := st) (noStr_keys c (cs.filter fun o : List Int => decide (o[p]? = k[p]?))) (Nat.le_trans (dep_keys c _) (by omega))
      have he : (((cs.filter fun o : List Int => decide (o[p]? = k[p]?)).map (keyV c)).isEmpty) = freeP cs k p := by
        rw [List.isEmpty_map, filt_free]
      rw [he] at hn
      simp only [Nat.zero_add, lcF_eq, asgn_many, setMany_cons, setMany_nil, wipeS_cons, wipeS_nil, List.set_cons_succ, List.set_cons_zero, kTurn_some, starsQ, evE_cmp, evE_lc, evI_itr, evL_cons, evL_nil, evE_var, List.getElem?_cons_zero, List.getElem?_cons_succ, kArg_some, kCons_some, kItr_some, cv_seq, kW_some, kLc_some, hi, kMk_some, mkL_f, kCmp_some, evE_lst, kLst_some, List.length_nil, lim_eq, Nat.zero_le, if_true, kCmp2_some, hn, kB_some, kTurn1_some, truth_bl]
      cases freeP cs k p
      · simp
      · simp [tupI]
  rw [enum_map] at hl
  simp only [starsFn, List.map_cons, List.map_nil, List.cons_append, List.nil_append, List.replicate, evS_seq, evS_ret, evE_lc, evI_itr, evL_cons, evL_nil, evE_var, List.getElem?_cons_zero, List.getElem?_cons_succ, kArg_some, kCons_some, kItr_some, cv_en, kW_some, kLc_some, enum_map, hl, kMk_some, mkL_f, kRet_some, kSeq_rt, kFin_rt]
  have hgr : groundL ((pinsOf cs k).map fun p : Nat => tupI [(p : Int), k.getD p 0]) = true := ground_all fun x hx => by
    obtain ⟨q, _, rfl⟩ := List.mem_map.mp hx
    simp
  rw [show (List.range k.length).filter (freeP cs k) = pinsOf cs k from rfl, fin_g (by rw [gr_lst]; exact hgr), take_self]
theorem lets_ok (hf : fs[i1]? = some starsFn) (hg : fs[i2]? = some (letsFn i1)) (hm : 2 ≤ m) (hc : ∀ o ∈ cs, o.length = one.length) (ho : two.length = one.length) : callN fs wf m i2 [rowsV b c cs, keyV d one, keyV e two] st = some (.bl (roomB cs one two), st) := by
  rw [call_eq hg rfl (by omega)]
  have hs := stars_ok (wf := wf) (m := m - 1) (b := b) (c := c) (d := d) (st := st) hf (by omega) hc
  have hl := lcM_filterL (ok := guardOk ⟨none, (pinsOf cs one).map fun p : Nat => tupI [(p : Int), one.getD p 0]⟩) (f := lcF ⟨callN fs wf (m - 1), wf⟩ (.one 3) [3] (.cmp .ne (.sub (.var 2) (.sub (.var 3) (.cst (.int 0)))) (.sub (.var 3) (.cst (.int 1)))) (.var 3) [some (rowsV b c cs), some (keyV d one), some (keyV e two), none])
    (p := fun p : Nat => !decide (one[p]? = two[p]?)) (h := fun p : Nat => tupI [(p : Int), one.getD p 0]) (g := fun p : Nat => tupI [(p : Int), one.getD p 0]) (st := st) (by simp) (pinsOf cs one) fun p hp => by
      have h1 : p < one.length := pins_lt hp
      have h2 : p < two.length := by rw [ho]; exact h1
      have hsub : ∀ x y q : Int, subEv (tupI [x, y]) (.int q) st = L2.atI [PV.int x, .int y] q := fun x y q => rfl
      have hsw : decide (two[p] = one[p]) = decide (one[p]? = two[p]?) := by
        rw [List.getElem?_eq_getElem h1, List.getElem?_eq_getElem h2]
        simp [eq_comm]
      simp only [lcF_eq, asgn_one, wipeS_cons, wipeS_nil, List.set_cons_succ, List.set_cons_zero, kTurn_some, evE_cmp, evE_sub, evE_var, evE_cst, List.getElem?_cons_zero, List.getElem?_cons_succ, kSub_some, kSub2_some, hsub, at_0, at_1, kV_some, cv_sub, at_row h2, kCmp_some, kCmp2_some, cmp_neI, getD_at h1, hsw, kB_some, kTurn1_some, truth_bl]
      cases decide (one[p]? = two[p]?) <;> simp
  have hn := cmp_eq_nil (xs := ((pinsOf cs one).filter fun p : Nat => !decide (one[p]? = two[p]?)).map fun p : Nat => tupI [(p : Int), one.getD p 0]) (st := st) (noStrL_all fun x hx => by
      obtain ⟨q, _, rfl⟩ := List.mem_map.mp hx
      simp) (Nat.le_trans (depL_le (n := 1) fun x hx => by
      obtain ⟨q, _, rfl⟩ := List.mem_map.mp hx
      exact dep_tupI _) (by omega))
  have he : (((pinsOf cs one).filter fun p : Nat => !decide (one[p]? = two[p]?)).map fun p : Nat => tupI [(p : Int), one.getD p 0]).isEmpty = roomB cs one two := by
    rw [List.isEmpty_map, filt_room]
    rfl
  rw [he] at hn
  simp only [letsFn, List.map_cons, List.map_nil, List.cons_append, List.nil_append, List.replicate, evS_seq, evS_ret, evE_cmp, evE_lc, evI_itr, evE_call, evL_cons, evL_nil, evE_var, List.getElem?_cons_zero, List.getElem?_cons_succ, kArg_some, kCons_some, kCall_some, hs, kItr_some, wk_lst, kW_some, kLc_some, hl, kMk_some, mkL_f, kCmp_some, evE_lst, kLst_some, List.length_nil, lim_eq, Nat.zero_le, if_true, kCmp2_some, hn, kB_some, kRet_some, kSeq_rt, kFin_rt, fin_g, gr_bl, take_self]
/-! ### pairs -/
def pairV (x : List Int × List Int) : PV := .tup [tupI x.1, tupI x.2]
def mates (cs : List (List Int)) (ks : List (List Int)) (a : List Int) : List (List Int × List Int) := (ks.filter fun q => !decide (a = q) && roomB cs a q).map fun q => (a, q)
def pairsOf (cs ks as : List (List Int)) : List (List Int × List Int) := as.flatMap (mates cs ks)
theorem alk_ints (a b : List Int) : alk (tupI a) (tupI b) = true := by
  simp only [alk, tupI, PV.dat, PySem.W.alike]
  exact alike_ints _ _ (fun x hx => by obtain ⟨i, _, rfl⟩ := List.mem_map.mp hx; rfl) fun x hx => by obtain ⟨i, _, rfl⟩ := List.mem_map.mp hx; rfl
theorem alk_pair (x y : List Int × List Int) : alk (pairV x) (pairV y) = true := by
  have h1 := alk_ints x.1 y.1
  have h2 := alk_ints x.2 y.2
  simp only [alk] at h1 h2
  simp only [alk, pairV, PV.dat, datL, PySem.W.alike, PySem.W.alikeAll, h1, h2, Bool.and_self]
theorem noStr_pair (x : List Int × List Int) : noStr (pairV x) = true := by simp [pairV, noStr, noStrL]
theorem dep_pair (x : List Int × List Int) : dep (pairV x) ≤ 2 := by
  have h1 := dep_tupI x.1
  have h2 := dep_tupI x.2
  simp only [pairV, dep, depL]; omega
theorem gr_pair (x : List Int × List Int) : (pairV x).ground = true := by simp [pairV]
theorem ltP_pair (x y : List Int × List Int) : ltP (pairV x) (pairV y) = if x.1 = y.1 then decide (x.2 < y.2) else decide (x.1 < y.1) := by
  have a1 := alk_ints x.1 y.1
  have a2 := alk_ints x.2 y.2
  simp only [alk] at a1 a2
  have e1 := eqP_tupI x.1 y.1
  have e2 := eqP_tupI x.2 y.2
  simp only [eqP] at e1 e2
  have l1 := ltP_int x.1 y.1
  have l2 := ltP_int x.2 y.2
  simp only [ltP] at l1 l2
  simp only [ltP, pairV, PV.dat, datL, PySem.W.dataLt_tuple]
  by_cases h : x.1 = y.1
  · rw [if_pos h, PySem.W.dataLt_all_yes a1 (by rw [e1]; exact decide_eq_true h)]
    by_cases h2 : x.2 = y.2
    · rw [PySem.W.dataLt_all_yes a2 (by rw [e2]; exact decide_eq_true h2), h2]
      exact (decide_eq_false (row_irr _)).symm ▸ rfl
    · rw [PySem.W.dataLt_all_no a2 (by rw [e2]; exact decide_eq_false h2)]
      exact l2
  · rw [if_neg h, PySem.W.dataLt_all_no a1 (by rw [e1]; exact decide_eq_false h)]
    exact l1
theorem sortable_pairs (ps : List (List Int × List Int)) : sortable (ps.map pairV) = true := by
  have h1 : (ps.map pairV).all isTupN = true := by
    rw [List.all_eq_true]; intro x hx; obtain ⟨q, _, rfl⟩ := List.mem_map.mp hx; rfl
  have h2 : (ps.map pairV).all shp = true := by
    rw [List.all_eq_true]; intro x hx; obtain ⟨q, _, rfl⟩ := List.mem_map.mp hx
    exact shp_of (noStr_pair q) (Nat.le_trans (dep_pair q) (by omega))
  have h3 : ((ps.map pairV).all fun x => (ps.map pairV).all fun y => alk x y) = true := by
    rw [List.all_eq_true]; intro x hx; obtain ⟨q, _, rfl⟩ := List.mem_map.mp hx
    rw [List.all_eq_true]; intro y hy; obtain ⟨r, _, rfl⟩ := List.mem_map.mp hy
    exact alk_pair q r
  simp only [sortable, h1, h2, h3, Bool.and_self, Bool.or_true]
theorem pairs_sorted {cs ks : List (List Int)} (hk : ks.Pairwise (· < ·)) : ∀ {as : List (List Int)}, as.Pairwise (· < ·) → ((pairsOf cs ks as).map pairV).Pairwise (fun x y => ltP y x = false)
  | [], _ => by simp [pairsOf]
  | a :: as, h => by
    rw [List.pairwise_cons] at h
    have ih := pairs_sorted (cs := cs) hk h.2
    rw [List.pairwise_map] at ih ⊢
    show (mates cs ks a ++ pairsOf cs ks as).Pairwise _
    rw [List.pairwise_append]
    refine ⟨?_, ih, fun x hx y hy => ?_⟩
    · unfold mates
      rw [List.pairwise_map]
      refine (hk.filter _).imp fun hab => ?_
      rw [ltP_pair, if_pos rfl]
      exact decide_eq_false (row_asym hab)
    · unfold mates at hx
      obtain ⟨q, _, rfl⟩ := List.mem_map.mp hx
      unfold pairsOf at hy
      obtain ⟨a2, ha2, hy⟩ := List.mem_flatMap.mp hy
      unfold mates at hy
      obtain ⟨q2, _, rfl⟩ := List.mem_map.mp hy
      have hlt := h.1 a2 ha2
      rw [ltP_pair, if_neg (fun z : a2 = a => row_irr a (z ▸ hlt))]
      exact decide_eq_false (row_asym hlt)
end
end Ev

/-! loud -/
namespace Ev
open PySem
def loudE (i : Nat) : E := (.lc false (.itr .seq (.cons (.var 1) .nil)) (.one 4) [4] (.and (.cmp .ne (.var 4) (.var 3)) (.call i (.cons (.var 0) (.cons (.var 3) (.cons (.var 4) .nil))))) (.tup (.cons (.var 3) (.cons (.var 4) .nil))))
def loudB (i : Nat) : S := (.seq (.asg (.one 2) (.bin false .add (.var 2) (loudE i))) .skip)
def loudFn (i : Nat) : Fn := ⟨2, 5, true, (.seq (.asg (.one 2) (.lst false .nil)) (.seq (.for_ (.itr .seq (.cons (.var 1) .nil)) (.one 3) (loudB i)) (.seq (.ret (.bi false .sorted1 (.cons (.var 2) .nil))) .skip)))⟩
section
variable {fs : List Fn} {wf m i1 i2 i3 : Nat} {st : Sto} {cs ks : List (List Int)} {n : Nat}
theorem mates_len (cs ks : List (List Int)) (a : List Int) : (mates cs ks a).length ≤ ks.length := by
  unfold mates
  rw [List.length_map]
  exact List.length_filter_le _ _
theorem pairs_len (cs ks : List (List Int)) : ∀ as : List (List Int), (pairsOf cs ks as).length ≤ as.length * ks.length
  | [] => by simp [pairsOf]
  | a :: as => by
    have h1 := mates_len cs ks a
    have h2 := pairs_len cs ks as
    show (mates cs ks a ++ pairsOf cs ks as).length ≤ _
    rw [List.length_append, List.length_cons, Nat.add_mul, Nat.one_mul]
    omega
theorem loudE_ok (hf : fs[i1]? = some starsFn) (hg : fs[i2]? = some (letsFn i1)) (hm : 2 ≤ m) (hc : ∀ o ∈ cs, o.length = n) (hk : ∀ k ∈ ks, k.length = n) {a : List Int} (ha : a.length = n) (z : Option PV) (f : Option PV) :
    evE ⟨callN fs wf m, wf⟩ (loudE i2) [some (rowsV false false cs), some (.tup (ks.map tupI)), f, some (tupI a), z] st = some (.lst ((mates cs ks a).map pairV), st) := by
  have hl := lcM_filterL (ok := guardOk ⟨none, ks.map tupI⟩) (f := lcF ⟨callN fs wf m, wf⟩ (.one 4) [4] (.and (.cmp .ne (.var 4) (.var 3)) (.call i2 (.cons (.var 0) (.cons (.var 3) (.cons (.var 4) .nil))))) (.tup (.cons (.var 3) (.cons (.var 4) .nil))) [some (rowsV false false cs), some (.tup (ks.map tupI)), f, some (tupI a), z])
    (p := fun q : List Int => !decide (a = q) && roomB cs a q) (h := tupI) (g := fun q => pairV (a, q)) (st := st) (by simp) ks fun q hq => by
      have hr : callN fs wf m i2 [rowsV false false cs, tupI a, tupI q] st = some (.bl (roomB cs a q), st) := lets_ok (b := false) (c := false) (d := false) (e := false) hf hg hm (by rw [ha]; exact hc) (by rw [ha]; exact hk q hq)
      have hcm : decide (q = a) = decide (a = q) := by simp [eq_comm]
      simp only [lcF_eq, asgn_one, wipeS_cons, wipeS_nil, List.set_cons_succ, List.set_cons_zero, kTurn_some, evE_and, evE_cmp, evE_var, List.getElem?_cons_zero, List.getElem?_cons_succ, kCmp_some, kCmp2_some, cmp_neT, hcm, kB_some, kAnd_some, truth_bl]
      by_cases hz : a = q
      · simp [hz]
      · simp only [hz, decide_false, Bool.not_false, kAnd2_true, evE_call, evL_cons, evL_nil, evE_var, List.getElem?_cons_zero, List.getElem?_cons_succ, kArg_some, kCons_some, kCall_some, hr, kTurn1_some, truth_bl, Bool.true_and]
        cases roomB cs a q
        · simp
        · simp [pairV]
  have e : (ks.filter fun q : List Int => !decide (a = q) && roomB cs a q).map (fun q => pairV (a, q)) = (mates cs ks a).map pairV := by
    unfold mates
    rw [List.map_map]; rfl
  rw [e] at hl
  simp only [loudE, evE_lc, evI_itr, evL_cons, evL_nil, evE_var, List.getElem?_cons_zero, List.getElem?_cons_succ, kArg_some, kCons_some, kItr_some, wk_tup, kW_some, kLc_some, hl, kMk_some, mkL_f]
theorem loud_loop (hf : fs[i1]? = some starsFn) (hg : fs[i2]? = some (letsFn i1)) (hm : 2 ≤ m) (hc : ∀ o ∈ cs, o.length = n) (hk : ∀ k ∈ ks, k.length = n) {ok : Sto → Bool} (hok : ok st = true) :
    ∀ (as : List (List Int)) (ps : List (List Int × List Int)) (x z : Option PV), (∀ a ∈ as, a.length = n) → ps.length + as.length * ks.length ≤ 1000000 →
    ∃ x', forM ok (forF ⟨callN fs wf m, wf⟩ (.one 3) (loudB i2)) (as.map tupI) [some (rowsV false false cs), some (.tup (ks.map tupI)), some (.lst (ps.map pairV)), x, z] st = some (.nx, [some (rowsV false false cs), some (.tup (ks.map tupI)), some (.lst ((ps ++ pairsOf cs ks as).map pairV)), x', z], st)
  | [], ps, x, z, _, _ => ⟨x, by simp [pairsOf, forM_nil, hok]⟩
  | a :: as, ps, x, z, h, hl => by
    have hml := mates_len cs ks a
    rw [List.length_cons, Nat.add_mul, Nat.one_mul] at hl
    obtain ⟨x', e⟩ := loud_loop hf hg hm hc hk hok as (ps ++ mates cs ks a) (some (tupI a)) z (fun q hq => h q (by simp [hq])) (by rw [List.length_append]; omega)
    refine ⟨x', ?_⟩
    have hE := loudE_ok (wf := wf) (st := st) hf hg hm hc hk (h a (by simp)) z (some (.lst (ps.map pairV)))
    have hlen : (ps.map pairV).length + ((mates cs ks a).map pairV).length ≤ 16777216 := by rw [List.length_map, List.length_map]; omega
    have step : forF ⟨callN fs wf m, wf⟩ (.one 3) (loudB i2) (tupI a) [some (rowsV false false cs), some (.tup (ks.map tupI)), some (.lst (ps.map pairV)), x, z] st = some (.nx, [some (rowsV false false cs), some (.tup (ks.map tupI)), some (.lst ((ps ++ mates cs ks a).map pairV)), some (tupI a), z], st) := by
      simp only [forF_eq, asgn_one, List.set_cons_succ, List.set_cons_zero, kFor2_some, loudB, evS_seq, evS_asg, evE_bin, evE_var, List.getElem?_cons_zero, List.getElem?_cons_succ, kBin_some, hE, kBin2_some, bin_cat, lim_eq, hlen, if_true, mkL_f, kAsg_some, kAsg2_some, kSeq_nx, evS_skip, List.map_append]
    rw [List.map_cons, forM_nx hok step, e]
    simp [pairsOf]
theorem loud_ok (hf : fs[i1]? = some starsFn) (hg : fs[i2]? = some (letsFn i1)) (h3 : fs[i3]? = some (loudFn i2)) (hm : 3 ≤ m) (hc : ∀ o ∈ cs, o.length = n) (hk : ∀ k ∈ ks, k.length = n) (hp : ks.Pairwise (· < ·)) (hl : ks.length ≤ 1000) :
    callN fs wf m i3 [rowsV false false cs, .tup (ks.map tupI)] st = some (.lst ((pairsOf cs ks ks).map pairV), st) := by
  rw [call_eq h3 rfl (by omega)]
  obtain ⟨x', e⟩ := loud_loop (wf := wf) (m := m - 1) (st := st) hf hg (by omega) hc hk (ok := guardOk ⟨none, ks.map tupI⟩) (by simp) ks [] none none hk (by
    have : ks.length * ks.length ≤ 1000 * 1000 := Nat.mul_le_mul hl hl
    simp; omega)
  simp only [List.map_nil, List.nil_append] at e
  have hs : biEv false .sorted1 [.lst ((pairsOf cs ks ks).map pairV)] st = some (.lst ((pairsOf cs ks ks).map pairV), st) := by
    simp only [biEv, items, Option.bind, sortable_pairs, if_true, sortL_id (pairs_sorted (cs := cs) hp hp), mkL_f]
  have hgr : groundL ((pairsOf cs ks ks).map pairV) = true := ground_all fun y hy => by
    obtain ⟨q, _, rfl⟩ := List.mem_map.mp hy
    exact gr_pair q
  simp only [loudFn, List.map_cons, List.map_nil, List.cons_append, List.nil_append, List.replicate, evS_seq, evS_asg, evE_lst, evL_nil, kLst_some, List.length_nil, lim_eq, Nat.zero_le, if_true, mkL_f, kAsg_some, asgn_one, kAsg2_some, List.set_cons_succ, List.set_cons_zero, kSeq_nx, evS_for, evI_itr, evL_cons, evE_var, List.getElem?_cons_zero, List.getElem?_cons_succ, kArg_some, kCons_some, kItr_some, wk_tup, kW_some, kFor_some, e, evS_ret, evE_bi, kBi_some, hs, kRet_some, kSeq_rt, kFin_rt]
  rw [fin_g (by rw [gr_lst]; exact hgr), take_self]
end
end Ev

/-! the total words by equations -/
namespace Dn
open PySem Ev
/-! a loop's turn: opened only where it is applied -/
def bodyT (F : Nat → List PV → PV) (wf : Nat) (t : Tg) (b : T) : PV → Slots → R := fun x ρ => dT F wf b (asT t x ρ)
def bodyS (F : Nat → List PV → PV) (P : Nat → List PV → Prop) (wf : Nat) (t : Tg) (b : T) : PV → Slots → Prop := fun x ρ => asS t x ∧ sT F P wf b (asT t x ρ)
def whQ (F : Nat → List PV → PV) (c : E) : Slots → Bool := fun ρ => truthT (dE F c ρ)
def whQS (F : Nat → List PV → PV) (P : Nat → List PV → Prop) (c : E) : Slots → Prop := fun ρ => sE F P c ρ ∧ truthS (dE F c ρ)
def whB (F : Nat → List PV → PV) (wf : Nat) (b : T) : Slots → R := fun ρ => dT F wf b ρ
def whBS (F : Nat → List PV → PV) (P : Nat → List PV → Prop) (wf : Nat) (b : T) : Slots → Prop := fun ρ => sT F P wf b ρ
@[simp] theorem bodyT_eq (F : Nat → List PV → PV) (wf : Nat) (t : Tg) (b : T) (x : PV) (ρ : Slots) : bodyT F wf t b x ρ = dT F wf b (asT t x ρ) := rfl
@[simp] theorem bodyS_eq (F : Nat → List PV → PV) (P : Nat → List PV → Prop) (wf : Nat) (t : Tg) (b : T) (x : PV) (ρ : Slots) : bodyS F P wf t b x ρ = (asS t x ∧ sT F P wf b (asT t x ρ)) := rfl
@[simp] theorem whQ_eq (F : Nat → List PV → PV) (c : E) (ρ : Slots) : whQ F c ρ = truthT (dE F c ρ) := rfl
@[simp] theorem whQS_eq (F : Nat → List PV → PV) (P : Nat → List PV → Prop) (c : E) (ρ : Slots) : whQS F P c ρ = (sE F P c ρ ∧ truthS (dE F c ρ)) := rfl
@[simp] theorem whB_eq (F : Nat → List PV → PV) (wf : Nat) (b : T) (ρ : Slots) : whB F wf b ρ = dT F wf b ρ := rfl
@[simp] theorem whBS_eq (F : Nat → List PV → PV) (P : Nat → List PV → Prop) (wf : Nat) (b : T) (ρ : Slots) : whBS F P wf b ρ = sT F P wf b ρ := rfl
section
variable (F : Nat → List PV → PV) (P : Nat → List PV → Prop) (W : PT) (wf : Nat) (ρ : Slots)

@[simp] theorem dE_var (i : Nat) : dE F (.var i) ρ = slotT ρ i := by simp only [dE]
@[simp] theorem sE_var (i : Nat) : sE F P (.var i) ρ = slotS ρ i := by simp only [sE]
@[simp] theorem dE_cst (v : PV) : dE F (.cst v) ρ = v := by simp only [dE]
@[simp] theorem sE_cst (v : PV) : sE F P (.cst v) ρ = (v.ground = true) := by simp only [sE]
@[simp] theorem dE_bin (m : Bool) (o : BOp) (a b : E) : dE F (.bin m o a b) ρ = binT m o (dE F a ρ) (dE F b ρ) := by simp only [dE]
@[simp] theorem sE_bin (m : Bool) (o : BOp) (a b : E) : sE F P (.bin m o a b) ρ = (sE F P a ρ ∧ sE F P b ρ ∧ binS o (dE F a ρ) (dE F b ρ)) := by simp only [sE]
@[simp] theorem dE_cmp (o : COp) (a b : E) : dE F (.cmp o a b) ρ = .bl (cmpT o (dE F a ρ) (dE F b ρ)) := by simp only [dE]
@[simp] theorem sE_cmp (o : COp) (a b : E) : sE F P (.cmp o a b) ρ = (sE F P a ρ ∧ sE F P b ρ ∧ cmpS o (dE F a ρ) (dE F b ρ)) := by simp only [sE]
@[simp] theorem dE_chain (o o' : COp) (a b d : E) : dE F (.chain o o' a b d) ρ = .bl (cmpT o (dE F a ρ) (dE F b ρ) && cmpT o' (dE F b ρ) (dE F d ρ)) := by simp only [dE]
@[simp] theorem sE_chain (o o' : COp) (a b d : E) : sE F P (.chain o o' a b d) ρ = (sE F P a ρ ∧ sE F P b ρ ∧ cmpS o (dE F a ρ) (dE F b ρ) ∧ (cmpT o (dE F a ρ) (dE F b ρ) = true → sE F P d ρ ∧ cmpS o' (dE F b ρ) (dE F d ρ))) := by simp only [sE]
@[simp] theorem dE_and (a b : E) : dE F (.and a b) ρ = andT (dE F a ρ) (dE F b ρ) := by simp only [dE]
@[simp] theorem sE_and (a b : E) : sE F P (.and a b) ρ = (sE F P a ρ ∧ truthS (dE F a ρ) ∧ (truthT (dE F a ρ) = true → sE F P b ρ)) := by simp only [sE]
@[simp] theorem dE_or (a b : E) : dE F (.or a b) ρ = orT (dE F a ρ) (dE F b ρ) := by simp only [dE]
@[simp] theorem sE_or (a b : E) : sE F P (.or a b) ρ = (sE F P a ρ ∧ truthS (dE F a ρ) ∧ (truthT (dE F a ρ) = false → sE F P b ρ)) := by simp only [sE]
@[simp] theorem dE_not (a : E) : dE F (.not a) ρ = .bl (!truthT (dE F a ρ)) := by simp only [dE]
@[simp] theorem sE_not (a : E) : sE F P (.not a) ρ = (sE F P a ρ ∧ truthS (dE F a ρ)) := by simp only [sE]
@[simp] theorem dE_neg (a : E) : dE F (.neg a) ρ = .int (-intT (dE F a ρ)) := by simp only [dE]
@[simp] theorem sE_neg (a : E) : sE F P (.neg a) ρ = (sE F P a ρ ∧ isInt (dE F a ρ) = true) := by simp only [sE]
@[simp] theorem dE_ite (q a b : E) : dE F (.ite q a b) ρ = iteT (dE F q ρ) (dE F a ρ) (dE F b ρ) := by simp only [dE]
@[simp] theorem sE_ite (q a b : E) : sE F P (.ite q a b) ρ = (sE F P q ρ ∧ truthS (dE F q ρ) ∧ (truthT (dE F q ρ) = true → sE F P a ρ) ∧ (truthT (dE F q ρ) = false → sE F P b ρ)) := by simp only [sE]
@[simp] theorem dE_tup (es : E) : dE F (.tup es) ρ = .tup (dL F es ρ) := by simp only [dE]
@[simp] theorem sE_tup (es : E) : sE F P (.tup es) ρ = (sL F P es ρ ∧ groundL (dL F es ρ) = true ∧ (dL F es ρ).length ≤ lim) := by simp only [sE]
@[simp] theorem dE_lst (m : Bool) (es : E) : dE F (.lst m es) ρ = mkT m (dL F es ρ) := by simp only [dE]
@[simp] theorem sE_lst (m : Bool) (es : E) : sE F P (.lst m es) ρ = (sL F P es ρ ∧ groundL (dL F es ρ) = true ∧ (dL F es ρ).length ≤ lim) := by simp only [sE]
@[simp] theorem dE_call (f : Nat) (es : E) : dE F (.call f es) ρ = F f (dL F es ρ) := by simp only [dE]
@[simp] theorem sE_call (f : Nat) (es : E) : sE F P (.call f es) ρ = (sL F P es ρ ∧ groundL (dL F es ρ) = true ∧ P f (dL F es ρ)) := by simp only [sE]
@[simp] theorem dE_callz (f : Nat) (es : E) : dE F (.callz f es) ρ = F f ((dL F es ρ).map frz) := by simp only [dE]
@[simp] theorem sE_callz (f : Nat) (es : E) : sE F P (.callz f es) ρ = (sL F P es ρ ∧ groundL ((dL F es ρ).map frz) = true ∧ P f ((dL F es ρ).map frz) ∧ (groundL (dL F es ρ) = true ∨ noLst (F f ((dL F es ρ).map frz)) = true)) := by simp only [sE]
@[simp] theorem noLst_bl (b : Bool) : noLst (.bl b) = true := rfl
@[simp] theorem noLst_int (b : Int) : noLst (.int b) = true := rfl
@[simp] theorem noLst_non : noLst .non = true := rfl
@[simp] theorem dE_callk (f : Nat) (es ks : E) (n : Nat) (ps kn : List Str) : dE F (.callk f es ks n ps kn) ρ = F f (gg n ps kn (dL F es ρ) (dL F ks ρ)) := by simp only [dE]
@[simp] theorem sE_callk (f : Nat) (es ks : E) (n : Nat) (ps kn : List Str) : sE F P (.callk f es ks n ps kn) ρ = (sL F P es ρ ∧ sL F P ks ρ ∧ groundL (dL F es ρ) = true ∧ groundL (dL F ks ρ) = true ∧ P f (gg n ps kn (dL F es ρ) (dL F ks ρ))) := by simp only [sE]
@[simp] theorem dE_bi (m : Bool) (b : BI) (es : E) : dE F (.bi m b es) ρ = biT m b (dL F es ρ) := by simp only [dE]
@[simp] theorem sE_bi (m : Bool) (b : BI) (es : E) : sE F P (.bi m b es) ρ = (sL F P es ρ ∧ biS b (dL F es ρ)) := by simp only [sE]
@[simp] theorem dE_listI (m : Bool) (it : E) : dE F (.listI m it) ρ = mkT m (dI F it ρ) := by simp only [dE]
@[simp] theorem sE_listI (m : Bool) (it : E) : sE F P (.listI m it) ρ = (sI F P it ρ) := by simp only [sE]
@[simp] theorem dE_tupI (it : E) : dE F (.tupI it) ρ = .tup (dI F it ρ) := by simp only [dE]
@[simp] theorem sE_tupI (it : E) : sE F P (.tupI it) ρ = (sI F P it ρ) := by simp only [sE]
@[simp] theorem dE_sub (a i : E) : dE F (.sub a i) ρ = atT (itemsT (dE F a ρ)) (intT (dE F i ρ)) := by simp only [dE]
@[simp] theorem sE_sub (a i : E) : sE F P (.sub a i) ρ = (sE F P a ρ ∧ sE F P i ρ ∧ isSeq (dE F a ρ) = true ∧ isInt (dE F i ρ) = true ∧ (L2.atI (itemsT (dE F a ρ)) (intT (dE F i ρ))).isSome = true) := by simp only [sE]
@[simp] theorem dE_slice (m : Bool) (a lo hi : E) : dE F (.slice m a lo hi) ρ = sliceT m (dE F a ρ) (dL F lo ρ) (dL F hi ρ) := by simp only [dE]
@[simp] theorem sE_slice (m : Bool) (a lo hi : E) : sE F P (.slice m a lo hi) ρ = (sE F P a ρ ∧ sL F P lo ρ ∧ sL F P hi ρ ∧ isSeq (dE F a ρ) = true ∧ partS (dL F lo ρ) ∧ partS (dL F hi ρ)) := by simp only [sE]
@[simp] theorem dE_revS (m : Bool) (a : E) : dE F (.revS m a) ρ = revT m (dE F a ρ) := by simp only [dE]
@[simp] theorem revT_lst (m : Bool) (xs : List PV) : revT m (.lst xs) = mkT m xs.reverse := rfl
@[simp] theorem revT_arg (m : Bool) (xs : List PV) : revT m (.arg xs) = mkT m xs.reverse := rfl
@[simp] theorem revT_tup (m : Bool) (xs : List PV) : revT m (.tup xs) = .tup xs.reverse := rfl
@[simp] theorem revT_tupI (m : Bool) (k : List Int) : revT m (tupI k) = tupI k.reverse := by show PV.tup _ = PV.tup _; rw [List.map_reverse]
@[simp] theorem sE_revS (m : Bool) (a : E) : sE F P (.revS m a) ρ = (sE F P a ρ ∧ isSeq (dE F a ρ) = true) := by simp only [sE]
@[simp] theorem dE_isi (a : E) (ts : List Ty) : dE F (.isi a ts) ρ = .bl (ts.any (isTy (dE F a ρ))) := by simp only [dE]
@[simp] theorem sE_isi (a : E) (ts : List Ty) : sE F P (.isi a ts) ρ = (sE F P a ρ) := by simp only [sE]
@[simp] theorem dE_lc (m : Bool) (it : E) (t : Tg) (own : List Nat) (q e : E) : dE F (.lc m it t own q e) ρ = mkT m (((dI F it ρ).filter fun x => truthT (dE F q (asT t x (wipeS ρ own)))).map fun x => dE F e (asT t x (wipeS ρ own))) := by simp only [dE]
@[simp] theorem sE_lc (m : Bool) (it : E) (t : Tg) (own : List Nat) (q e : E) : sE F P (.lc m it t own q e) ρ = (sI F P it ρ ∧ ∀ x ∈ dI F it ρ, asS t x ∧ sE F P q (asT t x (wipeS ρ own)) ∧ truthS (dE F q (asT t x (wipeS ρ own))) ∧ (truthT (dE F q (asT t x (wipeS ρ own))) = true → sE F P e (asT t x (wipeS ρ own)) ∧ (dE F e (asT t x (wipeS ρ own))).ground = true)) := by simp only [sE]
@[simp] theorem dE_lc2 (m : Bool) (it : E) (t : Tg) (own : List Nat) (it2 : E) (t2 : Tg) (own2 : List Nat) (q e : E) : dE F (.lc2 m it t own it2 t2 own2 q e) ρ = mkT m ((dI F it ρ).flatMap fun x => ((dI F it2 (asT t x (wipeS ρ own))).filter fun y => truthT (dE F q (asT t2 y (wipeS (asT t x (wipeS ρ own)) own2)))).map fun y => dE F e (asT t2 y (wipeS (asT t x (wipeS ρ own)) own2))) := by simp only [dE]
@[simp] theorem dL_nil : dL F .nil ρ = [] := by simp only [dL]
@[simp] theorem dL_cons (e es : E) : dL F (.cons e es) ρ = dE F e ρ :: dL F es ρ := by simp only [dL]
@[simp] theorem dL_star (e es : E) : dL F (.star e es) ρ = itemsT (dE F e ρ) ++ dL F es ρ := by simp only [dL]
@[simp] theorem sL_nil : sL F P .nil ρ = True := by simp only [sL]
@[simp] theorem sL_cons (e es : E) : sL F P (.cons e es) ρ = (sE F P e ρ ∧ sL F P es ρ) := by simp only [sL]
@[simp] theorem sL_star (e es : E) : sL F P (.star e es) ρ = (sE F P e ρ ∧ isSeq (dE F e ρ) = true ∧ sL F P es ρ) := by simp only [sL]
@[simp] theorem dI_itr (k : IK) (es : E) : dI F (.itr k es) ρ = wkT k (dL F es ρ) := by simp only [dI]
@[simp] theorem sI_itr (k : IK) (es : E) : sI F P (.itr k es) ρ = (sL F P es ρ ∧ wkS k (dL F es ρ)) := by simp only [sI]
@[simp] theorem dT_skip : dT F wf .skip ρ = (.nx, ρ) := by simp only [dT]
@[simp] theorem dT_seq (a b : T) : dT F wf (.seq a b) ρ = seqT (dT F wf a ρ) (dT F wf b) := by simp only [dT]
@[simp] theorem dT_asg (t : Tg) (e : E) : dT F wf (.asg t e) ρ = (.nx, asT t (dE F e ρ) ρ) := by simp only [dT]
@[simp] theorem dT_asgM (is : List Nat) (es : E) : dT F wf (.asgM is es) ρ = (.nx, setManyT is (dL F es ρ) ρ) := by simp only [dT]
@[simp] theorem sT_asgM (is : List Nat) (es : E) : sT F P wf (.asgM is es) ρ = (sM F P es ρ ∧ (dL F es ρ).length = is.length ∧ is.length ≤ lim) := by simp only [sT]
@[simp] theorem sM_nil : sM F P .nil ρ = True := by simp only [sM]
@[simp] theorem sM_cons (e es : E) : sM F P (.cons e es) ρ = (sE F P e ρ ∧ ((dE F e ρ).ground = true ∨ (frE e = true ∧ isArg (dE F e ρ) = true)) ∧ sM F P es ρ) := by simp only [sM]
@[simp] theorem dT_pop (t : Tg) (i : Nat) (x : E) : dT F wf (.pop t i x) ρ = (.nx, asT t (atT (argT (slotT ρ i)) (intT (dE F x ρ))) (ρ.set i (some (.arg ((argT (slotT ρ i)).eraseIdx ((L2.ixN (argT (slotT ρ i)).length (intT (dE F x ρ))).getD 0)))))) := by simp only [dT]
@[simp] theorem dT_pop0 (t : Tg) (i : Nat) : dT F wf (.pop0 t i) ρ = (.nx, asT t (atT (argT (slotT ρ i)) (-1)) (ρ.set i (some (.arg (argT (slotT ρ i)).dropLast)))) := by simp only [dT]
@[simp] theorem dT_set (i : Nat) (x e : E) : dT F wf (.set_ i x e) ρ = (.nx, ρ.set i (some (.arg ((argT (slotT ρ i)).set ((L2.ixN (argT (slotT ρ i)).length (intT (dE F x ρ))).getD 0) (dE F e ρ))))) := by simp only [dT]
@[simp] theorem dT_aug (i : Nat) (o : BOp) (e : E) : dT F wf (.aug i o e) ρ = (.nx, ρ.set i (some (augT o (slotT ρ i) (dE F e ρ)))) := by simp only [dT]
@[simp] theorem dT_app (i : Nat) (e : E) : dT F wf (.app i e) ρ = (.nx, ρ.set i (some (.arg (argT (slotT ρ i) ++ [dE F e ρ])))) := by simp only [dT]
@[simp] theorem dT_ext (i : Nat) (e : E) : dT F wf (.ext i e) ρ = (.nx, ρ.set i (some (.arg (argT (slotT ρ i) ++ itemsT (dE F e ρ))))) := by simp only [dT]
@[simp] theorem dT_exp (e : E) : dT F wf (.exp e) ρ = (.nx, ρ) := by simp only [dT]
@[simp] theorem dT_ite (c : E) (a b : T) : dT F wf (.ite c a b) ρ = if truthT (dE F c ρ) then dT F wf a ρ else dT F wf b ρ := by simp only [dT]
@[simp] theorem dT_for (it : E) (t : Tg) (b : T) (fg : List Nat) : dT F wf (.for_ it t b fg) ρ = forT fg (bodyT F wf t b) (dI F it ρ) (wipeS ρ fg) := by simp only [dT]; rfl
@[simp] theorem dT_whl (c : E) (b : T) (fg : List Nat) : dT F wf (.whl c b fg) ρ = whT fg (whQ F c) (whB F wf b) wf (wipeS ρ fg) := by simp only [dT]; rfl
@[simp] theorem dT_ret (e : E) : dT F wf (.ret e) ρ = (.rt (dE F e ρ), []) := by simp only [dT]
@[simp] theorem dT_brk : dT F wf .brk ρ = (.bk, ρ) := by simp only [dT]
@[simp] theorem dT_cnt : dT F wf .cnt ρ = (.ct, ρ) := by simp only [dT]
@[simp] theorem sT_skip : sT F P wf .skip ρ = True := by simp only [sT]
@[simp] theorem sT_brk : sT F P wf .brk ρ = True := by simp only [sT]
@[simp] theorem sT_cnt : sT F P wf .cnt ρ = True := by simp only [sT]
@[simp] theorem sT_bad : sT F P wf .bad ρ = False := by simp only [sT]
@[simp] theorem sT_seq (a b : T) : sT F P wf (.seq a b) ρ = (sT F P wf a ρ ∧ nxS (dT F wf a ρ) (sT F P wf b)) := by simp only [sT]
@[simp] theorem sT_asg (t : Tg) (e : E) : sT F P wf (.asg t e) ρ = (sE F P e ρ ∧ asS t (dE F e ρ) ∧ ((dE F e ρ).ground = true ∨ (frE e = true ∧ isArg (dE F e ρ) = true ∧ ∃ i, t = .one i))) := by simp only [sT]
@[simp] theorem sT_set (i : Nat) (x e : E) : sT F P wf (.set_ i x e) ρ = (sE F P e ρ ∧ (dE F e ρ).ground = true ∧ isArg (slotT ρ i) = true ∧ sE F P x ρ ∧ isInt (dE F x ρ) = true ∧ (L2.ixN (argT (slotT ρ i)).length (intT (dE F x ρ))).isSome = true) := by simp only [sT]
@[simp] theorem sT_aug (i : Nat) (o : BOp) (e : E) : sT F P wf (.aug i o e) ρ = (slotS ρ i ∧ sE F P e ρ ∧ augS o (slotT ρ i) (dE F e ρ)) := by simp only [sT]
@[simp] theorem sT_app (i : Nat) (e : E) : sT F P wf (.app i e) ρ = (isArg (slotT ρ i) = true ∧ sE F P e ρ ∧ (dE F e ρ).ground = true ∧ (argT (slotT ρ i)).length < lim) := by simp only [sT]
@[simp] theorem sT_ext (i : Nat) (e : E) : sT F P wf (.ext i e) ρ = (isArg (slotT ρ i) = true ∧ sE F P e ρ ∧ (dE F e ρ).ground = true ∧ isLst (dE F e ρ) = true ∧ (argT (slotT ρ i)).length + (itemsT (dE F e ρ)).length ≤ lim) := by simp only [sT]
@[simp] theorem sT_exp (e : E) : sT F P wf (.exp e) ρ = sE F P e ρ := by simp only [sT]
@[simp] theorem sT_ite (c : E) (a b : T) : sT F P wf (.ite c a b) ρ = (sE F P c ρ ∧ truthS (dE F c ρ) ∧ (truthT (dE F c ρ) = true → sT F P wf a ρ) ∧ (truthT (dE F c ρ) = false → sT F P wf b ρ)) := by simp only [sT]
@[simp] theorem sT_for (k : IK) (es : E) (t : Tg) (b : T) (fg : List Nat) : sT F P wf (.for_ (.itr k es) t b fg) ρ = (sI F P (.itr k es) ρ ∧ groundL (dL F es ρ) = true ∧ forS fg (bodyT F wf t b) (bodyS F P wf t b) (wkT k (dL F es ρ)) (wipeS ρ fg)) := by simp only [sT, dI_itr]; rfl
@[simp] theorem sT_whl (c : E) (b : T) (fg : List Nat) : sT F P wf (.whl c b fg) ρ = whS fg (whQ F c) (whQS F P c) (whB F wf b) (whBS F P wf b) wf (wipeS ρ fg) := by simp only [sT]; rfl
@[simp] theorem sT_ret (e : E) : sT F P wf (.ret e) ρ = sE F P e ρ := by simp only [sT]
end
/-! flows -/
@[simp] theorem seqT_nx (ρ : Slots) (k : Slots → R) : seqT (.nx, ρ) k = k ρ := rfl
@[simp] theorem seqT_rt (v : PV) (ρ : Slots) (k : Slots → R) : seqT (.rt v, ρ) k = (.rt v, ρ) := rfl
@[simp] theorem seqT_bk (ρ : Slots) (k : Slots → R) : seqT (.bk, ρ) k = (.bk, ρ) := rfl
@[simp] theorem seqT_ct (ρ : Slots) (k : Slots → R) : seqT (.ct, ρ) k = (.ct, ρ) := rfl
@[simp] theorem seqT_ite (c : Prop) [Decidable c] (a b : R) (k : Slots → R) : seqT (if c then a else b) k = if c then seqT a k else seqT b k := by split <;> rfl
@[simp] theorem nxS_nx (ρ : Slots) (k : Slots → Prop) : nxS (.nx, ρ) k = k ρ := rfl
@[simp] theorem nxS_rt (v : PV) (ρ : Slots) (k : Slots → Prop) : nxS (.rt v, ρ) k = True := rfl
@[simp] theorem nxS_bk (ρ : Slots) (k : Slots → Prop) : nxS (.bk, ρ) k = True := rfl
@[simp] theorem nxS_ct (ρ : Slots) (k : Slots → Prop) : nxS (.ct, ρ) k = True := rfl
@[simp] theorem nxS_ite (c : Prop) [Decidable c] (a b : R) (k : Slots → Prop) : nxS (if c then a else b) k = if c then nxS a k else nxS b k := by split <;> rfl
@[simp] theorem nrm_nx (fg : List Nat) (ρ : Slots) : nrm fg (.nx, ρ) = (.nx, wipeS ρ fg) := rfl
@[simp] theorem nrm_ct (fg : List Nat) (ρ : Slots) : nrm fg (.ct, ρ) = (.nx, wipeS ρ fg) := rfl
@[simp] theorem nrm_bk (fg : List Nat) (ρ : Slots) : nrm fg (.bk, ρ) = (.bk, wipeS ρ fg) := rfl
@[simp] theorem nrm_rt (fg : List Nat) (v : PV) (ρ : Slots) : nrm fg (.rt v, ρ) = (.rt v, []) := rfl
@[simp] theorem nrm_ite (fg : List Nat) (c : Prop) [Decidable c] (a b : R) : nrm fg (if c then a else b) = if c then nrm fg a else nrm fg b := by split <;> rfl
@[simp] theorem finT_rt (v : PV) (ρ : Slots) : finT (.rt v, ρ) = frz v := rfl
@[simp] theorem finT_nx (ρ : Slots) : finT (.nx, ρ) = .non := rfl
@[simp] theorem finT_ite (c : Prop) [Decidable c] (a b : R) : finT (if c then a else b) = if c then finT a else finT b := by split <;> rfl
@[simp] theorem finS_rt (v : PV) (ρ : Slots) : finS (.rt v, ρ) = (isArg v = true ∨ v.ground = true) := rfl
@[simp] theorem finS_nx (ρ : Slots) : finS (.nx, ρ) = True := rfl
@[simp] theorem finS_ite (c : Prop) [Decidable c] (a b : R) : finS (if c then a else b) = if c then finS a else finS b := by split <;> rfl
@[simp] theorem frz_arg (xs : List PV) : frz (.arg xs) = .lst xs := rfl
@[simp] theorem frz_tup (xs : List PV) : frz (.tup xs) = .tup xs := rfl
@[simp] theorem frz_lst (xs : List PV) : frz (.lst xs) = .lst xs := rfl
@[simp] theorem frz_int (i : Int) : frz (.int i) = .int i := rfl
@[simp] theorem frz_bl (i : Bool) : frz (.bl i) = .bl i := rfl
@[simp] theorem frz_non : frz .non = .non := rfl
@[simp] theorem frz_str (x : Str) : frz (.str x) = .str x := rfl
@[simp] theorem frz_ite (c : Prop) [Decidable c] (a b : PV) : frz (if c then a else b) = if c then frz a else frz b := by split <;> rfl
/-! slots -/
@[simp] theorem slotT_0 (v : PV) (r : Slots) : slotT (some v :: r) 0 = v := rfl
@[simp] theorem slotT_s (o : Option PV) (r : Slots) (i : Nat) : slotT (o :: r) (i + 1) = slotT r i := by simp only [slotT, List.getElem?_cons_succ]
@[simp] theorem slotS_0 (v : PV) (r : Slots) : slotS (some v :: r) 0 = True := rfl
@[simp] theorem slotS_s (o : Option PV) (r : Slots) (i : Nat) : slotS (o :: r) (i + 1) = slotS r i := by simp only [slotS, List.getElem?_cons_succ]
@[simp] theorem asT_one (i : Nat) (v : PV) (ρ : Slots) : asT (.one i) v ρ = ρ.set i (some v) := rfl
@[simp] theorem asT_many (is : List Nat) (v : PV) (ρ : Slots) : asT (.many is) v ρ = setManyT is (itemsT v) ρ := rfl
@[simp] theorem setManyT_nil (xs : List PV) (ρ : Slots) : setManyT [] xs ρ = ρ := by cases xs <;> rfl
@[simp] theorem setManyT_cons (i : Nat) (is : List Nat) (x : PV) (xs : List PV) (ρ : Slots) : setManyT (i :: is) (x :: xs) ρ = setManyT is xs (ρ.set i (some x)) := rfl
@[simp] theorem asS_one (i : Nat) (v : PV) : asS (.one i) v = True := rfl
@[simp] theorem asS_many (is : List Nat) (xs : List PV) : asS (.many is) (.tup xs) = (xs.length = is.length) := rfl
@[simp] theorem startS_eq (np ns : Nat) (b : T) (vs : List PV) : startS ⟨np, ns, b⟩ vs = vs.map some ++ List.replicate (ns - np) none := rfl
/-! values -/
@[simp] theorem itemsT_tup (xs : List PV) : itemsT (.tup xs) = xs := rfl
@[simp] theorem itemsT_lst (xs : List PV) : itemsT (.lst xs) = xs := rfl
@[simp] theorem itemsT_arg (xs : List PV) : itemsT (.arg xs) = xs := rfl
@[simp] theorem itemsT_cv (b : Bool) (xs : List PV) : itemsT (cv b xs) = xs := by cases b <;> rfl
@[simp] theorem isSeq_tup (xs : List PV) : isSeq (.tup xs) = true := rfl
@[simp] theorem isSeq_lst (xs : List PV) : isSeq (.lst xs) = true := rfl
@[simp] theorem isSeq_arg (xs : List PV) : isSeq (.arg xs) = true := rfl
@[simp] theorem isSeq_cv (b : Bool) (xs : List PV) : isSeq (cv b xs) = true := by cases b <;> rfl
@[simp] theorem isLst_lst (xs : List PV) : isLst (.lst xs) = true := rfl
@[simp] theorem isLst_arg (xs : List PV) : isLst (.arg xs) = true := rfl
@[simp] theorem isInt_int (i : Int) : isInt (.int i) = true := rfl
@[simp] theorem isBl_bl (b : Bool) : isBl (.bl b) = true := rfl
@[simp] theorem isArg_arg (xs : List PV) : isArg (.arg xs) = true := rfl
@[simp] theorem isArg_tup (xs : List PV) : isArg (.tup xs) = false := rfl
@[simp] theorem isArg_lst (xs : List PV) : isArg (.lst xs) = false := rfl
@[simp] theorem isArg_int (i : Int) : isArg (.int i) = false := rfl
@[simp] theorem isArg_bl (b : Bool) : isArg (.bl b) = false := rfl
@[simp] theorem isArg_non : isArg .non = false := rfl
@[simp] theorem argT_arg (xs : List PV) : argT (.arg xs) = xs := rfl
@[simp] theorem intT_int (i : Int) : intT (.int i) = i := rfl
@[simp] theorem mkT_t (xs : List PV) : mkT true xs = .arg xs := rfl
@[simp] theorem mkT_f (xs : List PV) : mkT false xs = .lst xs := rfl
@[simp] theorem dr_tup (xs : List PV) : dr (.tup xs) = .tup xs := rfl
@[simp] theorem dr_lst (xs : List PV) : dr (.lst xs) = .lst xs := rfl
@[simp] theorem dr_arg (xs : List PV) : dr (.arg xs) = .lst xs := rfl
@[simp] theorem dr_int (i : Int) : dr (.int i) = .int i := rfl
@[simp] theorem dr_bl (i : Bool) : dr (.bl i) = .bl i := rfl
@[simp] theorem dr_nonV : dr .non = .non := rfl
@[simp] theorem dr_str (x : Str) : dr (.str x) = .str x := rfl
@[simp] theorem dr_cv (b : Bool) (xs : List PV) : dr (cv b xs) = cv b xs := by cases b <;> rfl
@[simp] theorem truthT_bl (b : Bool) : truthT (.bl b) = b := rfl
@[simp] theorem truthT_int (i : Int) : truthT (.int i) = (i != 0) := rfl
@[simp] theorem truthT_tup (xs : List PV) : truthT (.tup xs) = !xs.isEmpty := rfl
@[simp] theorem truthT_lst (xs : List PV) : truthT (.lst xs) = !xs.isEmpty := rfl
@[simp] theorem truthT_arg (xs : List PV) : truthT (.arg xs) = !xs.isEmpty := rfl
@[simp] theorem truthT_non : truthT .non = false := rfl
@[simp] theorem truthS_bl (b : Bool) : truthS (.bl b) = True := rfl
@[simp] theorem truthS_int (b : Int) : truthS (.int b) = True := rfl
@[simp] theorem truthS_tup (b : List PV) : truthS (.tup b) = True := rfl
@[simp] theorem truthS_lst (b : List PV) : truthS (.lst b) = True := rfl
@[simp] theorem truthS_arg (b : List PV) : truthS (.arg b) = True := rfl
@[simp] theorem truthS_non : truthS .non = True := rfl
@[simp] theorem andT_bl (p : Bool) (v : PV) : andT (.bl p) v = if p then v else .bl false := by cases p <;> rfl
@[simp] theorem orT_bl (p : Bool) (v : PV) : orT (.bl p) v = if p then .bl true else v := by cases p <;> rfl
@[simp] theorem iteT_bl (p : Bool) (v w : PV) : iteT (.bl p) v w = if p then v else w := rfl
@[simp] theorem ite_bl (c : Prop) [Decidable c] (q r : Bool) : (if c then PV.bl q else .bl r) = .bl (if c then q else r) := by split <;> rfl
@[simp] theorem ite_int (c : Prop) [Decidable c] (q r : Int) : (if c then PV.int q else .int r) = .int (if c then q else r) := by split <;> rfl
@[simp] theorem binT_add (m : Bool) (i j : Int) : binT m .add (.int i) (.int j) = .int (i + j) := rfl
@[simp] theorem binT_sub (m : Bool) (i j : Int) : binT m .sub (.int i) (.int j) = .int (i - j) := rfl
@[simp] theorem binT_mul (m : Bool) (i j : Int) : binT m .mul (.int i) (.int j) = .int (i * j) := rfl
@[simp] theorem binT_fdiv (m : Bool) (i j : Int) : binT m .fdiv (.int i) (.int j) = .int (i / j) := rfl
@[simp] theorem binT_mod (m : Bool) (i j : Int) : binT m .mod (.int i) (.int j) = .int (i % j) := rfl
@[simp] theorem binT_pow (m : Bool) (i j : Int) : binT m .pow (.int i) (.int j) = .int (i ^ j.toNat) := rfl
@[simp] theorem binT_addT (m : Bool) (x y : List PV) : binT m .add (.tup x) (.tup y) = .tup (x ++ y) := rfl
@[simp] theorem binT_addL (m : Bool) (x y : List PV) : binT m .add (.lst x) (.lst y) = mkT m (x ++ y) := rfl
@[simp] theorem binT_addA (m : Bool) (x y : List PV) : binT m .add (.arg x) (.lst y) = mkT m (x ++ y) := rfl
@[simp] theorem binT_mulT (m : Bool) (x : List PV) (k : Int) : binT m .mul (.tup x) (.int k) = .tup (repL x k) := rfl
@[simp] theorem binT_mulL (m : Bool) (x : List PV) (k : Int) : binT m .mul (.lst x) (.int k) = mkT m (repL x k) := rfl
@[simp] theorem binS_add (i j : Int) : binS .add (.int i) (.int j) = True := rfl
@[simp] theorem binS_sub (i j : Int) : binS .sub (.int i) (.int j) = True := rfl
@[simp] theorem binS_mul (i j : Int) : binS .mul (.int i) (.int j) = (mulOk i j = true) := rfl
@[simp] theorem binS_fdiv (i j : Int) : binS .fdiv (.int i) (.int j) = (0 < j ∧ j.natAbs.log2 < 9000) := rfl
@[simp] theorem binS_mod (i j : Int) : binS .mod (.int i) (.int j) = (0 < j) := rfl
@[simp] theorem binS_addT (x y : List PV) : binS .add (.tup x) (.tup y) = (x.length + y.length ≤ lim) := rfl
@[simp] theorem binS_addL (x y : List PV) : binS .add (.lst x) (.lst y) = (x.length + y.length ≤ lim) := by simp [binS]
@[simp] theorem binS_addA (x y : List PV) : binS .add (.arg x) (.lst y) = (x.length + y.length ≤ lim) := by simp [binS]
@[simp] theorem binS_mulT (x : List PV) (k : Int) : binS .mul (.tup x) (.int k) = (2 ≤ k ∧ k ≤ 1000 ∧ x.length ≤ 1000 ∧ x ≠ []) := rfl
@[simp] theorem binS_mulL (x : List PV) (k : Int) : binS .mul (.lst x) (.int k) = (k < 16777216 ∧ -16777216 < k ∧ x.length * k.toNat ≤ lim) := by simp [binS]
/-! comparing -/
theorem eqP_i (i j : Int) : eqP (.int i) (.int j) = decide (i = j) := rfl
@[simp] theorem cmpT_eqI (i j : Int) : cmpT .eq (.int i) (.int j) = decide (i = j) := rfl
@[simp] theorem cmpT_neI (i j : Int) : cmpT .ne (.int i) (.int j) = !decide (i = j) := rfl
@[simp] theorem cmpT_eqB (i j : Bool) : cmpT .eq (.bl i) (.bl j) = (i == j) := rfl
@[simp] theorem cmpT_neB (i j : Bool) : cmpT .ne (.bl i) (.bl j) = !(i == j) := rfl
@[simp] theorem cmpT_ltI (i j : Int) : cmpT .lt (.int i) (.int j) = decide (i < j) := ltP_i i j
@[simp] theorem cmpT_gtI (i j : Int) : cmpT .gt (.int i) (.int j) = decide (j < i) := ltP_i j i
@[simp] theorem cmpT_leI (i j : Int) : cmpT .le (.int i) (.int j) = decide (i ≤ j) := by
  show (!ltP (.int j) (.int i)) = _
  rw [ltP_i]
  by_cases h : j < i
  · simp [h]
  · simp [h]; omega
@[simp] theorem cmpT_geI (i j : Int) : cmpT .ge (.int i) (.int j) = decide (j ≤ i) := by
  show (!ltP (.int i) (.int j)) = _
  rw [ltP_i]
  by_cases h : i < j
  · simp [h]
  · simp [h]; omega
@[simp] theorem cmpT_isN_non (v : PV) : cmpT .isN .non v = true := rfl
@[simp] theorem cmpT_isN_int (i : Int) (v : PV) : cmpT .isN (.int i) v = false := rfl
@[simp] theorem cmpT_isN_tup (i : List PV) (v : PV) : cmpT .isN (.tup i) v = false := rfl
@[simp] theorem cmpT_isN_lst (i : List PV) (v : PV) : cmpT .isN (.lst i) v = false := rfl
@[simp] theorem cmpT_isN_bl (i : Bool) (v : PV) : cmpT .isN (.bl i) v = false := rfl
@[simp] theorem cmpT_isN_str (i : Str) (v : PV) : cmpT .isN (.str i) v = false := rfl
@[simp] theorem cmpT_notN_non (v : PV) : cmpT .notN .non v = false := rfl
@[simp] theorem cmpT_notN_int (i : Int) (v : PV) : cmpT .notN (.int i) v = true := rfl
@[simp] theorem cmpT_notN_tup (i : List PV) (v : PV) : cmpT .notN (.tup i) v = true := rfl
@[simp] theorem cmpT_notN_lst (i : List PV) (v : PV) : cmpT .notN (.lst i) v = true := rfl
@[simp] theorem cmpS_isN (a : PV) : cmpS .isN a .non = True := by simp [cmpS]
@[simp] theorem cmpS_notN (a : PV) : cmpS .notN a .non = True := by simp [cmpS]
@[simp] theorem cmpS_eqI (i j : Int) : cmpS .eq (.int i) (.int j) = True := by simp [cmpS]
@[simp] theorem cmpS_neI (i j : Int) : cmpS .ne (.int i) (.int j) = True := by simp [cmpS]
@[simp] theorem cmpS_eqB (i j : Bool) : cmpS .eq (.bl i) (.bl j) = True := by simp [cmpS]
@[simp] theorem cmpS_neB (i j : Bool) : cmpS .ne (.bl i) (.bl j) = True := by simp [cmpS]
theorem alk_i (i j : Int) : alk (.int i) (.int j) = true := rfl
@[simp] theorem cmpS_ltI (i j : Int) : cmpS .lt (.int i) (.int j) = True := by simp [cmpS, alk_i]
@[simp] theorem cmpS_gtI (i j : Int) : cmpS .gt (.int i) (.int j) = True := by simp [cmpS, alk_i]
@[simp] theorem cmpS_leI (i j : Int) : cmpS .le (.int i) (.int j) = True := by simp [cmpS, alk_i]
@[simp] theorem cmpS_geI (i j : Int) : cmpS .ge (.int i) (.int j) = True := by simp [cmpS, alk_i]
/-! index -/
theorem atT_nat (xs : List PV) (k : Nat) : atT xs (k : Int) = xs.getD k (.int 0) := by
  unfold atT; rw [at_nat]; rw [List.getD_eq_getElem?_getD]
/-- an index of a row -/
def gI (k : List Int) (p : Int) : Int := (L2.atI k p).getD 0
theorem atI_map (k : List Int) (p : Int) : L2.atI (k.map PV.int) p = (L2.atI k p).map .int := by
  unfold L2.atI
  rw [List.length_map]
  cases L2.ixN k.length p <;> simp
@[simp] theorem atT_ints (k : List Int) (p : Int) : atT (k.map .int) p = .int (gI k p) := by
  unfold atT gI
  rw [atI_map]
  cases L2.atI k p <;> rfl
@[simp] theorem atT_0 (x : PV) (r : List PV) : atT (x :: r) 0 = x := by simp [atT]
@[simp] theorem atT_1 (x y : PV) (r : List PV) : atT (x :: y :: r) 1 = y := by simp [atT]
@[simp] theorem atT_2 (x y z : PV) (r : List PV) : atT (x :: y :: z :: r) 2 = z := by simp [atT]
theorem gI_nat (k : List Int) (p : Nat) : gI k (p : Int) = k.getD p 0 := by
  unfold gI; rw [at_nat, List.getD_eq_getElem?_getD]
theorem gI_lt {k : List Int} {p : Nat} (h : p < k.length) : gI k (p : Int) = k[p] := by
  rw [gI_nat, List.getD_eq_getElem?_getD, List.getElem?_eq_getElem h]; rfl
theorem at_some {xs : List PV} {p : Nat} (h : p < xs.length) : (L2.atI xs (p : Int)).isSome = true := by rw [at_nat]; simp [h]
theorem at_someI {α : Type} {xs : List α} {p : Int} (h0 : 0 ≤ p) (h : p < xs.length) : (L2.atI xs p).isSome = true := by
  rw [at_int h0]
  have : p.toNat < xs.length := by omega
  simp [this]
/-! builtins -/
@[simp] theorem biT_len (m : Bool) (v : PV) : biT m .len [v] = .int (itemsT v).length := rfl
@[simp] theorem biT_abs (m : Bool) (i : Int) : biT m .abs [.int i] = .int (if i < 0 then -i else i) := rfl
@[simp] theorem biT_int (m : Bool) (i : Int) : biT m .int1 [.int i] = .int i := rfl
@[simp] theorem biT_intB (m : Bool) (b : Bool) : biT m .int1 [.bl b] = .int (if b then 1 else 0) := rfl
@[simp] theorem biT_list (m : Bool) (v : PV) : biT m .list1 [v] = mkT m (itemsT v) := rfl
@[simp] theorem biT_tuple (m : Bool) (v : PV) : biT m .tuple1 [v] = .tup (itemsT v) := rfl
@[simp] theorem biT_sorted (m : Bool) (v : PV) : biT m .sorted1 [v] = mkT m (sortL (itemsT v)) := rfl
@[simp] theorem biT_set (m : Bool) (v : PV) : biT m .sortedSet [v] = mkT m (sortL (dedup (itemsT v))) := rfl
@[simp] theorem biT_all (m : Bool) (v : PV) : biT m .all1 [v] = .bl ((itemsT v).all truthT) := rfl
@[simp] theorem biT_any (m : Bool) (v : PV) : biT m .any1 [v] = .bl ((itemsT v).any truthT) := rfl
@[simp] theorem biT_sum (m : Bool) (v : PV) : biT m .sum1 [v] = .int (intsT (itemsT v)).sum := rfl
@[simp] theorem biT_max (m : Bool) (v : PV) : biT m .max1 [v] = .int (maxT (itemsT v)) := rfl
@[simp] theorem biT_min (m : Bool) (v : PV) : biT m .min1 [v] = .int (minT (itemsT v)) := rfl
@[simp] theorem biS_len (v : PV) : biS .len [v] = (isSeq v = true) := rfl
@[simp] theorem biS_abs (v : PV) : biS .abs [v] = (isInt v = true) := rfl
@[simp] theorem biS_int (i : Int) : biS .int1 [.int i] = True := rfl
@[simp] theorem biS_intB (i : Bool) : biS .int1 [.bl i] = True := rfl
@[simp] theorem biS_list (v : PV) : biS .list1 [v] = (isSeq v = true) := rfl
@[simp] theorem biS_tuple (v : PV) : biS .tuple1 [v] = (isSeq v = true) := rfl
@[simp] theorem biS_sorted (v : PV) : biS .sorted1 [v] = (isSeq v = true ∧ sortable (itemsT v) = true) := rfl
@[simp] theorem biS_set (v : PV) : biS .sortedSet [v] = (isSeq v = true ∧ (setI (itemsT v) = true ∨ setable (itemsT v) = true)) := rfl
@[simp] theorem biT_lenSet (m : Bool) (v : PV) : biT m .lenSet [v] = .int (dedup (itemsT v)).length := rfl
@[simp] theorem biS_lenSet (v : PV) : biS .lenSet [v] = (isSeq v = true ∧ setI (itemsT v) = true) := rfl
@[simp] theorem biT_count (m : Bool) (v : PV) (k : Int) : biT m .count [v, .int k] = .int ((intsT (itemsT v)).count k : Nat) := rfl
@[simp] theorem biS_count (v : PV) (k : Int) : biS .count [v, .int k] = (isLst v = true ∧ (itemsT v).all isInt = true) := rfl
@[simp] theorem biS_all (v : PV) : biS .all1 [v] = (isLst v = true ∧ (itemsT v).all isBl = true) := rfl
@[simp] theorem biS_any (v : PV) : biS .any1 [v] = (isLst v = true ∧ (itemsT v).all isBl = true) := rfl
@[simp] theorem biS_sum (v : PV) : biS .sum1 [v] = (isLst v = true ∧ (itemsT v).all isInt = true) := rfl
@[simp] theorem biS_max (v : PV) : biS .max1 [v] = (isSeq v = true ∧ (itemsT v).all isInt = true ∧ itemsT v ≠ []) := rfl
@[simp] theorem biS_min (v : PV) : biS .min1 [v] = (isSeq v = true ∧ (itemsT v).all isInt = true ∧ itemsT v ≠ []) := rfl
/-! walks -/
@[simp] theorem wkT_seq (v : PV) : wkT .seq [v] = itemsT v := rfl
@[simp] theorem wkT_r1 (j : Int) : wkT .range1 [.int j] = rangeL 0 j.toNat := rfl
@[simp] theorem wkT_r2 (i j : Int) : wkT .range2 [.int i, .int j] = rangeL i (j - i).toNat := rfl
@[simp] theorem wkT_en (v : PV) : wkT .enum [v] = enumL 0 (itemsT v) := rfl
@[simp] theorem wkT_zip (v u : PV) : wkT .zip2 [v, u] = zipL (itemsT v) (itemsT u) := rfl
@[simp] theorem wkT_rev (v : PV) : wkT .rev [v] = (itemsT v).reverse := rfl
@[simp] theorem wkS_seq (v : PV) : wkS .seq [v] = (isSeq v = true) := rfl
@[simp] theorem wkS_r1 (j : Int) : wkS .range1 [.int j] = (rgOk j = true ∧ j ≤ 16777216) := rfl
@[simp] theorem wkS_r2 (i j : Int) : wkS .range2 [.int i, .int j] = (rgOk i = true ∧ rgOk j = true ∧ j - i ≤ 16777216) := rfl
@[simp] theorem wkS_en (v : PV) : wkS .enum [v] = (isSeq v = true) := rfl
@[simp] theorem wkS_zip (v u : PV) : wkS .zip2 [v, u] = (isSeq v = true ∧ isSeq u = true ∧ v.ground = true ∧ u.ground = true) := rfl
theorem wkT_zipn (vs : List PV) : wkT .zipn vs = transp (vs.map itemsT) := by
  cases vs with
  | nil => rfl
  | cons a r => cases r with
    | nil => rfl
    | cons b r => rfl
theorem wkS_zipn (vs : List PV) : wkS .zipn vs = (vs.all isSeq = true ∧ groundL vs = true ∧ evenL (vs.map itemsT) = true) := by
  cases vs with
  | nil => rfl
  | cons a r => cases r with
    | nil => rfl
    | cons b r => rfl
@[simp] theorem wkS_rev (v : PV) : wkS .rev [v] = (isSeq v = true) := rfl
theorem rg_nat {n : Nat} (h : n ≤ 16777216) : rgOk (n : Int) = true := by simp [rgOk]; omega
@[simp] theorem range_nat (n : Nat) : rangeL 0 ((n : Nat) : Int).toNat = (List.range n).map fun p : Nat => PV.int (p : Int) := by
  unfold rangeL; simp
@[simp] theorem range_0 (n : Nat) : rangeL 0 n = (List.range n).map fun p : Nat => PV.int (p : Int) := by
  unfold rangeL; simp
theorem gr_map {α : Type} (L : List α) (g : α → PV) : groundL (L.map g) = L.all fun x => (g x).ground := by
  induction L with
  | nil => rfl
  | cons x r ih => simp [groundL, ih]
@[simp] theorem gr_mapT {α : Type} {L : List α} {g : α → PV} : (groundL (L.map g) = true) = ∀ x ∈ L, (g x).ground = true := by
  rw [gr_map, List.all_eq_true]
@[simp] theorem gr_app (xs ys : List PV) : groundL (xs ++ ys) = (groundL xs && groundL ys) := by
  induction xs with
  | nil => simp
  | cons x r ih => simp [ih, Bool.and_assoc]
@[simp] theorem filt_true {α : Type} (xs : List α) : xs.filter (fun _ => true) = xs := by induction xs <;> simp_all
/-! loops -/
theorem forT_fold {α β : Type} {fg : List Nat} {f : PV → Slots → R} {h : β → PV} {sl : α → Slots} {step : α → β → α} : ∀ (L : List β) (a : α), (∀ a, ∀ x ∈ L, nrm fg (f (h x) (sl a)) = (.nx, sl (step a x))) → forT fg f (L.map h) (sl a) = (.nx, sl (L.foldl step a))
  | [], a, _ => rfl
  | x :: r, a, hs => by
    simp only [List.map_cons, forT, hs a x (by simp), List.foldl_cons]
    exact forT_fold r (step a x) fun a y hy => hs a y (by simp [hy])
theorem forS_fold {α β : Type} {fg : List Nat} {f : PV → Slots → R} {g : PV → Slots → Prop} {h : β → PV} {sl : α → Slots} {step : α → β → α} {I : α → Prop} : ∀ (L : List β) (a : α), I a → (∀ a, ∀ x ∈ L, I a → nrm fg (f (h x) (sl a)) = (.nx, sl (step a x)) ∧ g (h x) (sl a) ∧ I (step a x)) → forS fg f g (L.map h) (sl a)
  | [], a, _, _ => trivial
  | x :: r, a, hi, hs => by
    obtain ⟨h1, h2, h3⟩ := hs a x (by simp) hi
    simp only [List.map_cons, forS, h1]
    exact ⟨h2, forS_fold r (step a x) h3 fun a y hy => hs a y (by simp [hy])⟩
theorem forS_foldN {α β : Type} {fg : List Nat} {f : PV → Slots → R} {g : PV → Slots → Prop} {h : β → PV} {sl : α → Slots} {step : α → β → α} {I : Nat → α → Prop} : ∀ (L : List β) (a : α) (k : Nat), I k a → (∀ j a x, L[j]? = some x → I (k + j) a → nrm fg (f (h x) (sl a)) = (.nx, sl (step a x)) ∧ g (h x) (sl a) ∧ I (k + j + 1) (step a x)) → forS fg f g (L.map h) (sl a)
  | [], a, k, _, _ => trivial
  | x :: r, a, k, hi, hs => by
    obtain ⟨h1, h2, h3⟩ := hs 0 a x rfl hi
    simp only [List.map_cons, forS, h1]
    refine ⟨h2, forS_foldN (step := step) (I := I) r (step a x) (k + 1) h3 fun j a y hy hj => ?_⟩
    have := hs (j + 1) a y (by simpa using hy) (by rw [show k + (j + 1) = k + 1 + j by omega]; exact hj)
    rw [show k + (j + 1) = k + 1 + j by omega] at this
    exact this
/-- a loop that looks for the first one -/
theorem forT_find {β : Type} {fg : List Nat} {f : PV → Slots → R} {h : β → PV} {ρ : Slots} {p : β → Bool} {v : β → PV} : ∀ (L : List β), (∀ x ∈ L, nrm fg (f (h x) ρ) = if p x then (.rt (v x), []) else (.nx, ρ)) → forT fg f (L.map h) ρ = match L.find? p with
    | some x => (.rt (v x), [])
    | none => (.nx, ρ)
  | [], _ => rfl
  | x :: r, hs => by
    have ih := forT_find r fun y hy => hs y (by simp [hy])
    simp only [List.map_cons, forT, hs x (by simp), List.find?_cons]
    cases hp : p x with
    | true => simp [hp]
    | false => simpa [hp] using ih
theorem forS_find {β : Type} {fg : List Nat} {f : PV → Slots → R} {g : PV → Slots → Prop} {h : β → PV} {ρ : Slots} {p : β → Bool} {v : β → PV} : ∀ (L : List β), (∀ x ∈ L, nrm fg (f (h x) ρ) = if p x then (.rt (v x), []) else (.nx, ρ)) → (∀ x ∈ L, g (h x) ρ) → forS fg f g (L.map h) ρ
  | [], _, _ => trivial
  | x :: r, hs, hg => by
    have ih := forS_find (g := g) r (fun y hy => hs y (by simp [hy])) fun y hy => hg y (by simp [hy])
    simp only [List.map_cons, forS, hs x (by simp)]
    refine ⟨hg x (by simp), ?_⟩
    cases hp : p x with
    | true => simp
    | false => simpa using ih
theorem foldl_app1 {α : Type} {β : Type} (g : β → α) : ∀ (L : List β) (a : List α), L.foldl (fun a k => a ++ [g k]) a = a ++ L.map g
  | [], a => by simp
  | x :: r, a => by simp [foldl_app1 g r]
/-! calls -/
section
variable {gs : List Gn} {wf n i np ns : Nat} {b : T} {vs : List PV}
theorem dcall_eq (h : gs[i]? = some ⟨np, ns, b⟩) (hn : 1 ≤ n) : dCall gs wf n i vs = finT (dT (dCall gs wf (n - 1)) wf b (vs.map some ++ List.replicate (ns - np) none)) := by
  obtain ⟨n, rfl⟩ : ∃ k, n = k + 1 := ⟨n - 1, by omega⟩
  simp only [dCall, h, startS, Nat.add_sub_cancel]
theorem scall_eq (h : gs[i]? = some ⟨np, ns, b⟩) (hn : 1 ≤ n) : sCall gs wf n i vs = (vs.length = np ∧ groundL vs = true ∧ sT (dCall gs wf (n - 1)) (sCall gs wf (n - 1)) wf b (vs.map some ++ List.replicate (ns - np) none) ∧ finS (dT (dCall gs wf (n - 1)) wf b (vs.map some ++ List.replicate (ns - np) none))) := by
  obtain ⟨n, rfl⟩ : ∃ k, n = k + 1 := ⟨n - 1, by omega⟩
  simp only [sCall, h, startS, Nat.add_sub_cancel]
theorem wcall_eq {tk bb : Nat} {Q : PV → Nat → Prop} (h : gs[i]? = some ⟨np, ns, b⟩) (hn : 1 ≤ n) (ht : i ≠ tk) : wCall gs wf tk n i vs bb Q = (vs.length = np ∧ vs.all okA = true ∧ wT (dCall gs wf (n - 1)) (sCall gs wf (n - 1)) (wCall gs wf tk (n - 1)) wf b (vs.map some ++ List.replicate (ns - np) none) bb (WQ Q)) := by
  obtain ⟨n, rfl⟩ : ∃ k, n = k + 1 := ⟨n - 1, by omega⟩
  simp only [wCall, h, startS, Nat.add_sub_cancel, if_neg ht]
end
end Dn

/-! words with draws, by equations -/
namespace Dn
open PySem Ev
def nxQ (k : Slots → Nat → Prop) (Q : QT) : QT := fun fl ρ b => match fl with
  | .nx => k ρ b
  | fl => Q fl ρ b
@[simp] theorem nxQ_nx (k : Slots → Nat → Prop) (Q : QT) (ρ : Slots) (b : Nat) : nxQ k Q .nx ρ b = k ρ b := rfl
@[simp] theorem nxQ_rt (k : Slots → Nat → Prop) (Q : QT) (v : PV) (ρ : Slots) (b : Nat) : nxQ k Q (.rt v) ρ b = Q (.rt v) ρ b := rfl
@[simp] theorem nxQ_bk (k : Slots → Nat → Prop) (Q : QT) (ρ : Slots) (b : Nat) : nxQ k Q .bk ρ b = Q .bk ρ b := rfl
@[simp] theorem nxQ_ct (k : Slots → Nat → Prop) (Q : QT) (ρ : Slots) (b : Nat) : nxQ k Q .ct ρ b = Q .ct ρ b := rfl
@[simp] theorem WQ_rt (Q : PV → Nat → Prop) (v : PV) (ρ : Slots) (b : Nat) : WQ Q (.rt v) ρ b = ((isArg v = true ∨ v.ground = true) ∧ Q (frz v) b) := rfl
@[simp] theorem WQ_nx (Q : PV → Nat → Prop) (ρ : Slots) (b : Nat) : WQ Q .nx ρ b = Q .non b := rfl
def LcW (xs : List PV) (b0 : Nat) (f : PV → Nat → (PV → Nat → Prop) → Prop) (Q : List PV → Nat → Prop) : Prop := ∃ (cost : Nat) (R : PV → PV → Prop), xs.length * cost ≤ b0 ∧
  (∀ x ∈ xs, ∀ b1, cost ≤ b1 → f x b1 fun y b2 => y.ground = true ∧ R x y ∧ b1 ≤ b2 + cost) ∧ ∀ ys b', Pw R xs ys → b0 ≤ b' + xs.length * cost → Q ys b'
theorem lcW {xs : List PV} {b0 : Nat} {f : PV → Nat → (PV → Nat → Prop) → Prop} {Q : List PV → Nat → Prop} (cost : Nat) (R : PV → PV → Prop) (h1 : xs.length * cost ≤ b0)
    (h2 : ∀ x ∈ xs, ∀ b1, cost ≤ b1 → f x b1 fun y b2 => y.ground = true ∧ R x y ∧ b1 ≤ b2 + cost) (h3 : ∀ ys b', Pw R xs ys → b0 ≤ b' + xs.length * cost → Q ys b') : LcW xs b0 f Q := ⟨cost, R, h1, h2, h3⟩
/-- a loop's rule -/
def forQ (I : Nat → Slots → Prop) (Rt : PV → Prop) (N k cost b1 : Nat) (fg : List Nat) : QT := fun fl ρ2 b2 => b1 ≤ b2 + cost ∧ match fl with
  | .nx => I (k + 1) (wipeS ρ2 fg)
  | .ct => I (k + 1) (wipeS ρ2 fg)
  | .bk => I N (wipeS ρ2 fg)
  | .rt v => Rt v
def ForW (xs : List PV) (b0 : Nat) (fg : List Nat) (ρ : Slots) (f : PV → Slots → Nat → QT → Prop) (q : QT) : Prop := ∃ (cost : Nat) (I : Nat → Slots → Prop) (Rt : PV → Prop), xs.length * cost ≤ b0 ∧ I 0 ρ ∧
        (∀ k x, xs[k]? = some x → ∀ ρ' b1, I k ρ' → cost ≤ b1 → f x ρ' b1 (forQ I Rt xs.length k cost b1 fg)) ∧
        (∀ ρ' b', I xs.length ρ' → b0 ≤ b' + xs.length * cost → q .nx ρ' b') ∧ (∀ v ρ' b', Rt v → b0 ≤ b' + xs.length * cost → q (.rt v) ρ' b')
theorem forW {xs : List PV} {b0 : Nat} {fg : List Nat} {ρ : Slots} {f : PV → Slots → Nat → QT → Prop} {q : QT} (cost : Nat) (I : Nat → Slots → Prop) (Rt : PV → Prop) (h1 : xs.length * cost ≤ b0) (h2 : I 0 ρ)
        (h3 : ∀ k x, xs[k]? = some x → ∀ ρ' b1, I k ρ' → cost ≤ b1 → f x ρ' b1 (forQ I Rt xs.length k cost b1 fg))
        (h4 : ∀ ρ' b', I xs.length ρ' → b0 ≤ b' + xs.length * cost → q .nx ρ' b') (h5 : ∀ v ρ' b', Rt v → b0 ≤ b' + xs.length * cost → q (.rt v) ρ' b') : ForW xs b0 fg ρ f q := ⟨cost, I, Rt, h1, h2, h3, h4, h5⟩
/-- a loop whose names all stay but those that it forgets -/
theorem forK {xs : List PV} {b0 : Nat} {fg : List Nat} {ρ : Slots} {f : PV → Slots → Nat → QT → Prop} {q : QT} (cost : Nat) (Rt : PV → Prop) (h1 : xs.length * cost ≤ b0)
        (h3 : ∀ x ∈ xs, ∀ b1, cost ≤ b1 → f x ρ b1 (forQ (fun _ ρ' => ρ' = ρ) Rt xs.length 0 cost b1 fg))
        (h4 : ∀ b', b0 ≤ b' + xs.length * cost → q .nx ρ b') (h5 : ∀ v ρ' b', Rt v → b0 ≤ b' + xs.length * cost → q (.rt v) ρ' b') : ForW xs b0 fg ρ f q :=
  ⟨cost, fun _ ρ' => ρ' = ρ, Rt, h1, rfl, fun k x hx ρ' b1 hi hb => by subst hi; exact h3 x (List.mem_of_getElem? hx) b1 hb, fun ρ' b' hi hb => by subst hi; exact h4 b' hb, h5⟩
def lcB (F : Nat → List PV → PV) (P : Nat → List PV → Prop) (W : PT) (t : Tg) (own : List Nat) (e : E) (ρ : Slots) : PV → Nat → (PV → Nat → Prop) → Prop := fun x b1 K => asS t x ∧ wE F P W e (asT t x (wipeS ρ own)) b1 K
def forB (F : Nat → List PV → PV) (P : Nat → List PV → Prop) (W : PT) (wf : Nat) (t : Tg) (s : T) : PV → Slots → Nat → QT → Prop := fun x ρ' b1 K => asS t x ∧ wT F P W wf s (asT t x ρ') b1 K
@[simp] theorem lcB_eq (F : Nat → List PV → PV) (P : Nat → List PV → Prop) (W : PT) (t : Tg) (own : List Nat) (e : E) (ρ : Slots) (x : PV) (b1 : Nat) (K : PV → Nat → Prop) : lcB F P W t own e ρ x b1 K = (asS t x ∧ wE F P W e (asT t x (wipeS ρ own)) b1 K) := rfl
@[simp] theorem forB_eq (F : Nat → List PV → PV) (P : Nat → List PV → Prop) (W : PT) (wf : Nat) (t : Tg) (s : T) (x : PV) (ρ' : Slots) (b1 : Nat) (K : QT) : forB F P W wf t s x ρ' b1 K = (asS t x ∧ wT F P W wf s (asT t x ρ') b1 K) := rfl
def kW1 (W : PT) (f : Nat) (Q : PV → Nat → Prop) (vs : List PV) (b' : Nat) : Prop := W f vs b' Q
@[simp] theorem kW1_eq (W : PT) (f : Nat) (Q : PV → Nat → Prop) (vs : List PV) (b' : Nat) : kW1 W f Q vs b' = (W f vs b' Q) := rfl
def kBin2 (m : Bool) (o : BOp) (v : PV) (Q : PV → Nat → Prop) (w : PV) (b2 : Nat) : Prop := binS o v w ∧ Q (binT m o v w) b2
@[simp] theorem kBin2_eq (m : Bool) (o : BOp) (v : PV) (Q : PV → Nat → Prop) (w : PV) (b2 : Nat) : kBin2 m o v Q w b2 = (binS o v w ∧ Q (binT m o v w) b2) := rfl
def kBin1 (F : Nat → List PV → PV) (P : Nat → List PV → Prop) (W : PT) (m : Bool) (o : BOp) (y : E) (ρ : Slots) (Q : PV → Nat → Prop) (v : PV) (b1 : Nat) : Prop := wE F P W y ρ b1 (kBin2 m o v Q)
@[simp] theorem kBin1_eq (F : Nat → List PV → PV) (P : Nat → List PV → Prop) (W : PT) (m : Bool) (o : BOp) (y : E) (ρ : Slots) (Q : PV → Nat → Prop) (v : PV) (b1 : Nat) : kBin1 F P W m o y ρ Q v b1 = (wE F P W y ρ b1 (kBin2 m o v Q)) := rfl
def kCmp2 (o : COp) (v : PV) (Q : PV → Nat → Prop) (w : PV) (b2 : Nat) : Prop := cmpS o v w ∧ Q (.bl (cmpT o v w)) b2
@[simp] theorem kCmp2_eq (o : COp) (v : PV) (Q : PV → Nat → Prop) (w : PV) (b2 : Nat) : kCmp2 o v Q w b2 = (cmpS o v w ∧ Q (.bl (cmpT o v w)) b2) := rfl
def kCmp1 (F : Nat → List PV → PV) (P : Nat → List PV → Prop) (W : PT) (o : COp) (y : E) (ρ : Slots) (Q : PV → Nat → Prop) (v : PV) (b1 : Nat) : Prop := wE F P W y ρ b1 (kCmp2 o v Q)
@[simp] theorem kCmp1_eq (F : Nat → List PV → PV) (P : Nat → List PV → Prop) (W : PT) (o : COp) (y : E) (ρ : Slots) (Q : PV → Nat → Prop) (v : PV) (b1 : Nat) : kCmp1 F P W o y ρ Q v b1 = (wE F P W y ρ b1 (kCmp2 o v Q)) := rfl
def kAndW (F : Nat → List PV → PV) (P : Nat → List PV → Prop) (W : PT) (y : E) (ρ : Slots) (Q : PV → Nat → Prop) (v : PV) (b1 : Nat) : Prop := truthS v ∧ (truthT v = true → wE F P W y ρ b1 Q) ∧ (truthT v = false → Q v b1)
@[simp] theorem kAndW_eq (F : Nat → List PV → PV) (P : Nat → List PV → Prop) (W : PT) (y : E) (ρ : Slots) (Q : PV → Nat → Prop) (v : PV) (b1 : Nat) : kAndW F P W y ρ Q v b1 = (truthS v ∧ (truthT v = true → wE F P W y ρ b1 Q) ∧ (truthT v = false → Q v b1)) := rfl
def kOrW (F : Nat → List PV → PV) (P : Nat → List PV → Prop) (W : PT) (y : E) (ρ : Slots) (Q : PV → Nat → Prop) (v : PV) (b1 : Nat) : Prop := truthS v ∧ (truthT v = false → wE F P W y ρ b1 Q) ∧ (truthT v = true → Q v b1)
@[simp] theorem kOrW_eq (F : Nat → List PV → PV) (P : Nat → List PV → Prop) (W : PT) (y : E) (ρ : Slots) (Q : PV → Nat → Prop) (v : PV) (b1 : Nat) : kOrW F P W y ρ Q v b1 = (truthS v ∧ (truthT v = false → wE F P W y ρ b1 Q) ∧ (truthT v = true → Q v b1)) := rfl
def kNotW (Q : PV → Nat → Prop) (v : PV) (b1 : Nat) : Prop := truthS v ∧ Q (.bl (!truthT v)) b1
@[simp] theorem kNotW_eq (Q : PV → Nat → Prop) (v : PV) (b1 : Nat) : kNotW Q v b1 = (truthS v ∧ Q (.bl (!truthT v)) b1) := rfl
def kIteW (F : Nat → List PV → PV) (P : Nat → List PV → Prop) (W : PT) (x y : E) (ρ : Slots) (Q : PV → Nat → Prop) (v : PV) (b1 : Nat) : Prop := truthS v ∧ (truthT v = true → wE F P W x ρ b1 Q) ∧ (truthT v = false → wE F P W y ρ b1 Q)
@[simp] theorem kIteW_eq (F : Nat → List PV → PV) (P : Nat → List PV → Prop) (W : PT) (x y : E) (ρ : Slots) (Q : PV → Nat → Prop) (v : PV) (b1 : Nat) : kIteW F P W x y ρ Q v b1 = (truthS v ∧ (truthT v = true → wE F P W x ρ b1 Q) ∧ (truthT v = false → wE F P W y ρ b1 Q)) := rfl
def kTupW (Q : PV → Nat → Prop) (vs : List PV) (b' : Nat) : Prop := groundL vs = true ∧ vs.length ≤ lim ∧ Q (.tup vs) b'
@[simp] theorem kTupW_eq (Q : PV → Nat → Prop) (vs : List PV) (b' : Nat) : kTupW Q vs b' = (groundL vs = true ∧ vs.length ≤ lim ∧ Q (.tup vs) b') := rfl
def kLstW (m : Bool) (Q : PV → Nat → Prop) (vs : List PV) (b' : Nat) : Prop := groundL vs = true ∧ vs.length ≤ lim ∧ Q (mkT m vs) b'
@[simp] theorem kLstW_eq (m : Bool) (Q : PV → Nat → Prop) (vs : List PV) (b' : Nat) : kLstW m Q vs b' = (groundL vs = true ∧ vs.length ≤ lim ∧ Q (mkT m vs) b') := rfl
def kBiW (m : Bool) (o : BI) (Q : PV → Nat → Prop) (vs : List PV) (b' : Nat) : Prop := biS o vs ∧ Q (biT m o vs) b'
@[simp] theorem kBiW_eq (m : Bool) (o : BI) (Q : PV → Nat → Prop) (vs : List PV) (b' : Nat) : kBiW m o Q vs b' = (biS o vs ∧ Q (biT m o vs) b') := rfl
def kSub2 (v : PV) (Q : PV → Nat → Prop) (w : PV) (b2 : Nat) : Prop := isSeq v = true ∧ isInt w = true ∧ (L2.atI (itemsT v) (intT w)).isSome = true ∧ Q (atT (itemsT v) (intT w)) b2
@[simp] theorem kSub2_eq (v : PV) (Q : PV → Nat → Prop) (w : PV) (b2 : Nat) : kSub2 v Q w b2 = (isSeq v = true ∧ isInt w = true ∧ (L2.atI (itemsT v) (intT w)).isSome = true ∧ Q (atT (itemsT v) (intT w)) b2) := rfl
def kSub1 (F : Nat → List PV → PV) (P : Nat → List PV → Prop) (W : PT) (i : E) (ρ : Slots) (Q : PV → Nat → Prop) (v : PV) (b1 : Nat) : Prop := wE F P W i ρ b1 (kSub2 v Q)
@[simp] theorem kSub1_eq (F : Nat → List PV → PV) (P : Nat → List PV → Prop) (W : PT) (i : E) (ρ : Slots) (Q : PV → Nat → Prop) (v : PV) (b1 : Nat) : kSub1 F P W i ρ Q v b1 = (wE F P W i ρ b1 (kSub2 v Q)) := rfl
def kLc2 (m : Bool) (Q : PV → Nat → Prop) (ys : List PV) (b' : Nat) : Prop := Q (mkT m ys) b'
@[simp] theorem kLc2_eq (m : Bool) (Q : PV → Nat → Prop) (ys : List PV) (b' : Nat) : kLc2 m Q ys b' = (Q (mkT m ys) b') := rfl
def kLc1 (F : Nat → List PV → PV) (P : Nat → List PV → Prop) (W : PT) (m : Bool) (t : Tg) (own : List Nat) (e : E) (ρ : Slots) (Q : PV → Nat → Prop) (xs : List PV) (b0 : Nat) : Prop := LcW xs b0 (lcB F P W t own e ρ) (kLc2 m Q)
@[simp] theorem kLc1_eq (F : Nat → List PV → PV) (P : Nat → List PV → Prop) (W : PT) (m : Bool) (t : Tg) (own : List Nat) (e : E) (ρ : Slots) (Q : PV → Nat → Prop) (xs : List PV) (b0 : Nat) : kLc1 F P W m t own e ρ Q xs b0 = (LcW xs b0 (lcB F P W t own e ρ) (kLc2 m Q)) := rfl
def kL2 (v : PV) (Q : List PV → Nat → Prop) (vs : List PV) (b2 : Nat) : Prop := Q (v :: vs) b2
@[simp] theorem kL2_eq (v : PV) (Q : List PV → Nat → Prop) (vs : List PV) (b2 : Nat) : kL2 v Q vs b2 = (Q (v :: vs) b2) := rfl
def kL1 (F : Nat → List PV → PV) (P : Nat → List PV → Prop) (W : PT) (es : E) (ρ : Slots) (Q : List PV → Nat → Prop) (v : PV) (b1 : Nat) : Prop := wL F P W es ρ b1 (kL2 v Q)
@[simp] theorem kL1_eq (F : Nat → List PV → PV) (P : Nat → List PV → Prop) (W : PT) (es : E) (ρ : Slots) (Q : List PV → Nat → Prop) (v : PV) (b1 : Nat) : kL1 F P W es ρ Q v b1 = (wL F P W es ρ b1 (kL2 v Q)) := rfl
def kL4 (xs : List PV) (Q : List PV → Nat → Prop) (vs : List PV) (b2 : Nat) : Prop := Q (xs ++ vs) b2
@[simp] theorem kL4_eq (xs : List PV) (Q : List PV → Nat → Prop) (vs : List PV) (b2 : Nat) : kL4 xs Q vs b2 = (Q (xs ++ vs) b2) := rfl
def kL3 (F : Nat → List PV → PV) (P : Nat → List PV → Prop) (W : PT) (es : E) (ρ : Slots) (Q : List PV → Nat → Prop) (v : PV) (b1 : Nat) : Prop := isSeq v = true ∧ wL F P W es ρ b1 (kL4 (itemsT v) Q)
@[simp] theorem kL3_eq (F : Nat → List PV → PV) (P : Nat → List PV → Prop) (W : PT) (es : E) (ρ : Slots) (Q : List PV → Nat → Prop) (v : PV) (b1 : Nat) : kL3 F P W es ρ Q v b1 = (isSeq v = true ∧ wL F P W es ρ b1 (kL4 (itemsT v) Q)) := rfl
def kI1 (k : IK) (Q : List PV → Nat → Prop) (vs : List PV) (b' : Nat) : Prop := groundL vs = true ∧ wkS k vs ∧ Q (wkT k vs) b'
@[simp] theorem kI1_eq (k : IK) (Q : List PV → Nat → Prop) (vs : List PV) (b' : Nat) : kI1 k Q vs b' = (groundL vs = true ∧ wkS k vs ∧ Q (wkT k vs) b') := rfl
def kTT (F : Nat → List PV → PV) (P : Nat → List PV → Prop) (W : PT) (wf : Nat) (y : T) (q : QT) (ρ' : Slots) (b' : Nat) : Prop := wT F P W wf y ρ' b' q
@[simp] theorem kTT_eq (F : Nat → List PV → PV) (P : Nat → List PV → Prop) (W : PT) (wf : Nat) (y : T) (q : QT) (ρ' : Slots) (b' : Nat) : kTT F P W wf y q ρ' b' = (wT F P W wf y ρ' b' q) := rfl
def kAsgW (t : Tg) (e : E) (ρ : Slots) (q : QT) (v : PV) (b' : Nat) : Prop := asS t v ∧ (v.ground = true ∨ (frE e = true ∧ isArg v = true ∧ ∃ i, t = .one i)) ∧ q .nx (asT t v ρ) b'
@[simp] theorem kAsgW_eq (t : Tg) (e : E) (ρ : Slots) (q : QT) (v : PV) (b' : Nat) : kAsgW t e ρ q v b' = (asS t v ∧ (v.ground = true ∨ (frE e = true ∧ isArg v = true ∧ ∃ i, t = .one i)) ∧ q .nx (asT t v ρ) b') := rfl
def kAppW (i : Nat) (ρ : Slots) (q : QT) (v : PV) (b' : Nat) : Prop := v.ground = true ∧ (argT (slotT ρ i)).length < lim ∧ q .nx (ρ.set i (some (.arg (argT (slotT ρ i) ++ [v])))) b'
@[simp] theorem kAppW_eq (i : Nat) (ρ : Slots) (q : QT) (v : PV) (b' : Nat) : kAppW i ρ q v b' = (v.ground = true ∧ (argT (slotT ρ i)).length < lim ∧ q .nx (ρ.set i (some (.arg (argT (slotT ρ i) ++ [v])))) b') := rfl
def kPopW (i j : Nat) (ρ : Slots) (q : QT) (v : PV) (b' : Nat) : Prop := isInt v = true ∧ (L2.ixN (argT (slotT ρ j)).length (intT v)).isSome = true ∧ q .nx ((ρ.set j (some (.arg ((argT (slotT ρ j)).eraseIdx ((L2.ixN (argT (slotT ρ j)).length (intT v)).getD 0))))).set i (some (.arg (argT (slotT ρ i) ++ [atT (argT (slotT ρ j)) (intT v)])))) b'
@[simp] theorem kPopW_eq (i j : Nat) (ρ : Slots) (q : QT) (v : PV) (b' : Nat) : kPopW i j ρ q v b' = (isInt v = true ∧ (L2.ixN (argT (slotT ρ j)).length (intT v)).isSome = true ∧ q .nx ((ρ.set j (some (.arg ((argT (slotT ρ j)).eraseIdx ((L2.ixN (argT (slotT ρ j)).length (intT v)).getD 0))))).set i (some (.arg (argT (slotT ρ i) ++ [atT (argT (slotT ρ j)) (intT v)])))) b') := rfl
def kIteT (F : Nat → List PV → PV) (P : Nat → List PV → Prop) (W : PT) (wf : Nat) (x y : T) (ρ : Slots) (q : QT) (v : PV) (b' : Nat) : Prop := truthS v ∧ (truthT v = true → wT F P W wf x ρ b' q) ∧ (truthT v = false → wT F P W wf y ρ b' q)
@[simp] theorem kIteT_eq (F : Nat → List PV → PV) (P : Nat → List PV → Prop) (W : PT) (wf : Nat) (x y : T) (ρ : Slots) (q : QT) (v : PV) (b' : Nat) : kIteT F P W wf x y ρ q v b' = (truthS v ∧ (truthT v = true → wT F P W wf x ρ b' q) ∧ (truthT v = false → wT F P W wf y ρ b' q)) := rfl
def kForW (F : Nat → List PV → PV) (P : Nat → List PV → Prop) (W : PT) (wf : Nat) (fg : List Nat) (ρ : Slots) (t : Tg) (s : T) (q : QT) (xs : List PV) (b0 : Nat) : Prop := ForW xs b0 fg ρ (forB F P W wf t s) q
@[simp] theorem kForW_eq (F : Nat → List PV → PV) (P : Nat → List PV → Prop) (W : PT) (wf : Nat) (fg : List Nat) (ρ : Slots) (t : Tg) (s : T) (q : QT) (xs : List PV) (b0 : Nat) : kForW F P W wf fg ρ t s q xs b0 = (ForW xs b0 fg ρ (forB F P W wf t s) q) := rfl
def kRetW (q : QT) (v : PV) (b' : Nat) : Prop := q (.rt v) [] b'
@[simp] theorem kRetW_eq (q : QT) (v : PV) (b' : Nat) : kRetW q v b' = (q (.rt v) [] b') := rfl
def kExpW (ρ : Slots) (q : QT) (v : PV) (b' : Nat) : Prop := q .nx ρ b'
@[simp] theorem kExpW_eq (ρ : Slots) (q : QT) (v : PV) (b' : Nat) : kExpW ρ q v b' = (q .nx ρ b') := rfl
section
variable (F : Nat → List PV → PV) (P : Nat → List PV → Prop) (W : PT) (wf : Nat) (ρ : Slots) (b : Nat) (Q : PV → Nat → Prop) (q : QT)
@[simp] theorem wE_var (i : Nat) : wE F P W (.var i) ρ b Q = (slotS ρ i ∧ Q (slotT ρ i) b) := by simp only [wE, sE, dE]
@[simp] theorem wE_cst (v : PV) : wE F P W (.cst v) ρ b Q = (v.ground = true ∧ Q v b) := by simp only [wE, sE, dE]
@[simp] theorem wE_call (f : Nat) (es : E) : wE F P W (.call f es) ρ b Q = if bf ρ es then sE F P (.call f es) ρ ∧ Q (F f (dL F es ρ)) b else wL F P W es ρ b (kW1 W f Q) := by simp only [wE]; rfl
@[simp] theorem wE_callz (f : Nat) (es : E) : wE F P W (.callz f es) ρ b Q = (sE F P (.callz f es) ρ ∧ Q (dE F (.callz f es) ρ) b) := by simp only [wE]
@[simp] theorem wE_callk (f : Nat) (es ks : E) (n : Nat) (ps kn : List Str) : wE F P W (.callk f es ks n ps kn) ρ b Q = (bf ρ es = true ∧ bf ρ ks = true ∧ sE F P (.callk f es ks n ps kn) ρ ∧ Q (F f (gg n ps kn (dL F es ρ) (dL F ks ρ))) b) := by simp only [wE]
@[simp] theorem wE_bin (m : Bool) (o : BOp) (x y : E) : wE F P W (.bin m o x y) ρ b Q = if bf ρ x && bf ρ y then sE F P (.bin m o x y) ρ ∧ Q (binT m o (dE F x ρ) (dE F y ρ)) b else wE F P W x ρ b (kBin1 F P W m o y ρ Q) := by simp only [wE]; rfl
@[simp] theorem wE_cmp (o : COp) (x y : E) : wE F P W (.cmp o x y) ρ b Q = if bf ρ x && bf ρ y then sE F P (.cmp o x y) ρ ∧ Q (.bl (cmpT o (dE F x ρ) (dE F y ρ))) b else wE F P W x ρ b (kCmp1 F P W o y ρ Q) := by simp only [wE]; rfl
@[simp] theorem wE_and (x y : E) : wE F P W (.and x y) ρ b Q = if bf ρ x && bf ρ y then sE F P (.and x y) ρ ∧ Q (andT (dE F x ρ) (dE F y ρ)) b else wE F P W x ρ b (kAndW F P W y ρ Q) := by simp only [wE]; rfl
@[simp] theorem wE_or (x y : E) : wE F P W (.or x y) ρ b Q = if bf ρ x && bf ρ y then sE F P (.or x y) ρ ∧ Q (orT (dE F x ρ) (dE F y ρ)) b else wE F P W x ρ b (kOrW F P W y ρ Q) := by simp only [wE]; rfl
@[simp] theorem wE_not (x : E) : wE F P W (.not x) ρ b Q = if bf ρ x then sE F P (.not x) ρ ∧ Q (.bl (!truthT (dE F x ρ))) b else wE F P W x ρ b (kNotW Q) := by simp only [wE]; rfl
@[simp] theorem wE_ite (c x y : E) : wE F P W (.ite c x y) ρ b Q = if bf ρ c && bf ρ x && bf ρ y then sE F P (.ite c x y) ρ ∧ Q (iteT (dE F c ρ) (dE F x ρ) (dE F y ρ)) b else wE F P W c ρ b (kIteW F P W x y ρ Q) := by simp only [wE]; rfl
@[simp] theorem wE_tup (es : E) : wE F P W (.tup es) ρ b Q = if bf ρ es then sE F P (.tup es) ρ ∧ Q (.tup (dL F es ρ)) b else wL F P W es ρ b (kTupW Q) := by simp only [wE]; rfl
@[simp] theorem wE_lst (m : Bool) (es : E) : wE F P W (.lst m es) ρ b Q = if bf ρ es then sE F P (.lst m es) ρ ∧ Q (mkT m (dL F es ρ)) b else wL F P W es ρ b (kLstW m Q) := by simp only [wE]; rfl
@[simp] theorem wE_bi (m : Bool) (o : BI) (es : E) : wE F P W (.bi m o es) ρ b Q = if bf ρ es then sE F P (.bi m o es) ρ ∧ Q (biT m o (dL F es ρ)) b else wL F P W es ρ b (kBiW m o Q) := by simp only [wE]; rfl
@[simp] theorem wE_sub (x i : E) : wE F P W (.sub x i) ρ b Q = if bf ρ x && bf ρ i then sE F P (.sub x i) ρ ∧ Q (atT (itemsT (dE F x ρ)) (intT (dE F i ρ))) b else wE F P W x ρ b (kSub1 F P W i ρ Q) := by simp only [wE]; rfl
@[simp] theorem wE_lc (m : Bool) (it : E) (t : Tg) (own : List Nat) (c e : E) : wE F P W (.lc m it t own c e) ρ b Q = if bf ρ it && bf ρ c && bf ρ e then sE F P (.lc m it t own c e) ρ ∧ Q (dE F (.lc m it t own c e) ρ) b else c = .cst (.bl true) ∧ wI F P W it ρ b (kLc1 F P W m t own e ρ Q) := by simp only [wE]; rfl
@[simp] theorem wE_neg (x : E) : wE F P W (.neg x) ρ b Q = (sE F P (.neg x) ρ ∧ Q (dE F (.neg x) ρ) b) := by simp only [wE]
@[simp] theorem wE_chain (o o' : COp) (x y z : E) : wE F P W (.chain o o' x y z) ρ b Q = (sE F P (.chain o o' x y z) ρ ∧ Q (dE F (.chain o o' x y z) ρ) b) := by simp only [wE]
@[simp] theorem wE_listI (m : Bool) (it : E) : wE F P W (.listI m it) ρ b Q = (sE F P (.listI m it) ρ ∧ Q (dE F (.listI m it) ρ) b) := by simp only [wE]
@[simp] theorem wE_tupI (it : E) : wE F P W (.tupI it) ρ b Q = (sE F P (.tupI it) ρ ∧ Q (dE F (.tupI it) ρ) b) := by simp only [wE]
@[simp] theorem wE_slice (m : Bool) (x lo hi : E) : wE F P W (.slice m x lo hi) ρ b Q = (sE F P (.slice m x lo hi) ρ ∧ Q (dE F (.slice m x lo hi) ρ) b) := by simp only [wE]
@[simp] theorem wE_revS (m : Bool) (x : E) : wE F P W (.revS m x) ρ b Q = (sE F P (.revS m x) ρ ∧ Q (dE F (.revS m x) ρ) b) := by simp only [wE]
@[simp] theorem wE_isi (x : E) (ts : List Ty) : wE F P W (.isi x ts) ρ b Q = (sE F P (.isi x ts) ρ ∧ Q (dE F (.isi x ts) ρ) b) := by simp only [wE]
@[simp] theorem wE_lc2 (m : Bool) (it : E) (t : Tg) (own : List Nat) (it2 : E) (t2 : Tg) (own2 : List Nat) (c e : E) : wE F P W (.lc2 m it t own it2 t2 own2 c e) ρ b Q = (sE F P (.lc2 m it t own it2 t2 own2 c e) ρ ∧ Q (dE F (.lc2 m it t own it2 t2 own2 c e) ρ) b) := by simp only [wE]
@[simp] theorem wL_nil (Q : List PV → Nat → Prop) : wL F P W .nil ρ b Q = Q [] b := by simp only [wL]
@[simp] theorem wL_cons (e es : E) (Q : List PV → Nat → Prop) : wL F P W (.cons e es) ρ b Q = wE F P W e ρ b (kL1 F P W es ρ Q) := by simp only [wL]; rfl
@[simp] theorem wL_star (e es : E) (Q : List PV → Nat → Prop) : wL F P W (.star e es) ρ b Q = wE F P W e ρ b (kL3 F P W es ρ Q) := by simp only [wL]; rfl
@[simp] theorem wI_itr (k : IK) (es : E) (Q : List PV → Nat → Prop) : wI F P W (.itr k es) ρ b Q = if bf ρ es then sI F P (.itr k es) ρ ∧ groundL (dL F es ρ) = true ∧ Q (wkT k (dL F es ρ)) b else wL F P W es ρ b (kI1 k Q) := by simp only [wI]; rfl
@[simp] theorem wT_seq (x y : T) : wT F P W wf (.seq x y) ρ b q = wT F P W wf x ρ b (nxQ (kTT F P W wf y q) q) := by
  simp only [wT]; rfl
@[simp] theorem wT_asg (t : Tg) (e : E) : wT F P W wf (.asg t e) ρ b q = wE F P W e ρ b (kAsgW t e ρ q) := by simp only [wT]; rfl
@[simp] theorem wT_app (i : Nat) (e : E) : wT F P W wf (.app i e) ρ b q = (isArg (slotT ρ i) = true ∧ wE F P W e ρ b (kAppW i ρ q)) := by simp only [wT]; rfl
@[simp] theorem wT_ite (c : E) (x y : T) : wT F P W wf (.ite c x y) ρ b q = wE F P W c ρ b (kIteT F P W wf x y ρ q) := by simp only [wT]; rfl
@[simp] theorem wT_asgM (is : List Nat) (es : E) : wT F P W wf (.asgM is es) ρ b q = (sM F P es ρ ∧ (dL F es ρ).length = is.length ∧ is.length ≤ lim ∧ q .nx (setManyT is (dL F es ρ) ρ) b) := by simp only [wT, sT, dT, and_assoc]
def kSetW (F : Nat → List PV → PV) (P : Nat → List PV → Prop) (i : Nat) (x : E) (ρ : Slots) (q : QT) (v : PV) (b' : Nat) : Prop := v.ground = true ∧ sE F P x ρ ∧ isInt (dE F x ρ) = true ∧ (L2.ixN (argT (slotT ρ i)).length (intT (dE F x ρ))).isSome = true ∧ q .nx (ρ.set i (some (.arg ((argT (slotT ρ i)).set ((L2.ixN (argT (slotT ρ i)).length (intT (dE F x ρ))).getD 0) v)))) b'
@[simp] theorem kSetW_eq (F : Nat → List PV → PV) (P : Nat → List PV → Prop) (i : Nat) (x : E) (ρ : Slots) (q : QT) (v : PV) (b' : Nat) : kSetW F P i x ρ q v b' = (v.ground = true ∧ sE F P x ρ ∧ isInt (dE F x ρ) = true ∧ (L2.ixN (argT (slotT ρ i)).length (intT (dE F x ρ))).isSome = true ∧ q .nx (ρ.set i (some (.arg ((argT (slotT ρ i)).set ((L2.ixN (argT (slotT ρ i)).length (intT (dE F x ρ))).getD 0) v)))) b') := rfl
@[simp] theorem wT_set (i : Nat) (x e : E) : wT F P W wf (.set_ i x e) ρ b q = if bf ρ e then sT F P wf (.set_ i x e) ρ ∧ q (dT F wf (.set_ i x e) ρ).1 (dT F wf (.set_ i x e) ρ).2 b else isArg (slotT ρ i) = true ∧ wE F P W e ρ b (kSetW F P i x ρ q) := by simp only [wT]; rfl
@[simp] theorem wT_appPop (i j : Nat) (x : E) : wT F P W wf (.appPop i j x) ρ b q = (i ≠ j ∧ isArg (slotT ρ i) = true ∧ isArg (slotT ρ j) = true ∧ (argT (slotT ρ i)).length < lim ∧ wE F P W x ρ b (kPopW i j ρ q)) := by simp only [wT]; rfl
@[simp] theorem forQ_nx (I : Nat → Slots → Prop) (Rt : PV → Prop) (N k cost b1 : Nat) (fg : List Nat) (ρ2 : Slots) (b2 : Nat) : forQ I Rt N k cost b1 fg .nx ρ2 b2 = (b1 ≤ b2 + cost ∧ I (k + 1) (wipeS ρ2 fg)) := rfl
@[simp] theorem forQ_ct (I : Nat → Slots → Prop) (Rt : PV → Prop) (N k cost b1 : Nat) (fg : List Nat) (ρ2 : Slots) (b2 : Nat) : forQ I Rt N k cost b1 fg .ct ρ2 b2 = (b1 ≤ b2 + cost ∧ I (k + 1) (wipeS ρ2 fg)) := rfl
@[simp] theorem forQ_bk (I : Nat → Slots → Prop) (Rt : PV → Prop) (N k cost b1 : Nat) (fg : List Nat) (ρ2 : Slots) (b2 : Nat) : forQ I Rt N k cost b1 fg .bk ρ2 b2 = (b1 ≤ b2 + cost ∧ I N (wipeS ρ2 fg)) := rfl
@[simp] theorem forQ_rt (I : Nat → Slots → Prop) (Rt : PV → Prop) (N k cost b1 : Nat) (fg : List Nat) (v : PV) (ρ2 : Slots) (b2 : Nat) : forQ I Rt N k cost b1 fg (.rt v) ρ2 b2 = (b1 ≤ b2 + cost ∧ Rt v) := rfl
@[simp] theorem wT_for (it : E) (t : Tg) (s : T) (fg : List Nat) : wT F P W wf (.for_ it t s fg) ρ b q = if bfT ρ (.for_ it t s fg) then sT F P wf (.for_ it t s fg) ρ ∧ q (dT F wf (.for_ it t s fg) ρ).1 (dT F wf (.for_ it t s fg) ρ).2 b
      else wI F P W it ρ b (kForW F P W wf fg (wipeS ρ fg) t s q) := by
  have e : ∀ (I : Nat → Slots → Prop) (Rt : PV → Prop) (N k cost b1 : Nat), forQ I Rt N k cost b1 fg = fun fl ρ2 b2 => b1 ≤ b2 + cost ∧ match fl with
    | .nx => I (k + 1) (wipeS ρ2 fg)
    | .ct => I (k + 1) (wipeS ρ2 fg)
    | .bk => I N (wipeS ρ2 fg)
    | .rt v => Rt v := fun I Rt N k cost b1 => by funext fl ρ2 b2; cases fl <;> rfl
  have e2 : kForW F P W wf fg (wipeS ρ fg) t s q = fun xs b0 => ForW xs b0 fg (wipeS ρ fg) (forB F P W wf t s) q := rfl
  simp only [wT, e2, ForW, e]
  rfl
@[simp] theorem wT_ret (e : E) : wT F P W wf (.ret e) ρ b q = wE F P W e ρ b (kRetW q) := by simp only [wT]; rfl
@[simp] theorem wT_brk : wT F P W wf .brk ρ b q = q .bk ρ b := by simp only [wT]
@[simp] theorem wT_cnt : wT F P W wf .cnt ρ b q = q .ct ρ b := by simp only [wT]
@[simp] theorem wT_skip : wT F P W wf .skip ρ b q = q .nx ρ b := by simp only [wT]
@[simp] theorem wT_exp (e : E) : wT F P W wf (.exp e) ρ b q = wE F P W e ρ b (kExpW ρ q) := by simp only [wT]; rfl
@[simp] theorem wT_aug (i : Nat) (o : BOp) (e : E) : wT F P W wf (.aug i o e) ρ b q = (sT F P wf (.aug i o e) ρ ∧ q .nx (ρ.set i (some (augT o (slotT ρ i) (dE F e ρ)))) b) := by simp only [wT, dT]
end
/-! draws -/
theorem w_take {gs : List Gn} {wf tk n b : Nat} {Q : PV → Nat → Prop} {t : Int} (hn : 1 ≤ n) (h1 : 0 < t) (h2 : t < 1152921504606846976) (hb : 1 ≤ b) (hq : ∀ r, 0 ≤ r → r < t → Q (.int r) (b - 1)) : wCall gs wf tk n tk [.ref 0, .int t] b Q := by
  obtain ⟨n, rfl⟩ : ∃ k, n = k + 1 := ⟨n - 1, by omega⟩
  simp only [wCall, if_true]
  exact ⟨t, rfl, h1, h2, hb, hq⟩
theorem Pw.len {R : PV → PV → Prop} {xs ys : List PV} (h : Pw R xs ys) : ys.length = xs.length := by
  induction h with
  | nil => rfl
  | cons _ _ ih => simp [ih]
theorem pw_ints {p : Int → Prop} {xs ys : List PV} (h : Pw (fun _ y => ∃ z, y = .int z ∧ p z) xs ys) : ∃ zs : List Int, ys = zs.map .int ∧ zs.length = xs.length ∧ ∀ z ∈ zs, p z := by
  induction h with
  | nil => exact ⟨[], rfl, rfl, by simp⟩
  | cons h _ ih =>
    obtain ⟨z, rfl, hz⟩ := h
    obtain ⟨zs, rfl, h1, h2⟩ := ih
    exact ⟨z :: zs, rfl, by simp [h1], fun y hy => by
      rcases List.mem_cons.mp hy with e | e
      · rw [e]; exact hz
      · exact h2 y e⟩
theorem pw_of {α : Type} {p : α → Prop} {g : α → PV} {xs ys : List PV} (h : Pw (fun _ y => ∃ z, y = g z ∧ p z) xs ys) : ∃ zs : List α, ys = zs.map g ∧ zs.length = xs.length ∧ ∀ z ∈ zs, p z := by
  induction h with
  | nil => exact ⟨[], rfl, rfl, by simp⟩
  | cons h _ ih =>
    obtain ⟨z, rfl, hz⟩ := h
    obtain ⟨zs, rfl, h1, h2⟩ := ih
    exact ⟨z :: zs, rfl, by simp [h1], fun y hy => by
      rcases List.mem_cons.mp hy with e | e
      · rw [e]; exact hz
      · exact h2 y e⟩
/-- a KEY for DEPTHS -/
def KeyOk : List Int → List Int → Prop
  | [], [] => True
  | d :: ds, k :: ks => 0 ≤ k ∧ k < d ∧ KeyOk ds ks
  | _, _ => False
theorem KeyOk.len : ∀ {ds ks : List Int}, KeyOk ds ks → ks.length = ds.length
  | [], [], _ => rfl
  | d :: ds, k :: ks, h => by simp [KeyOk.len h.2.2]
  | [], _ :: _, h => h.elim
  | _ :: _, [], h => h.elim
theorem KeyOk.nn : ∀ {ds ks : List Int}, KeyOk ds ks → ∀ z ∈ ks, 0 ≤ z
  | [], [], _, z, hz => by simp at hz
  | d :: ds, k :: ks, h, z, hz => by
    rcases List.mem_cons.mp hz with e | e
    · rw [e]; exact h.1
    · exact KeyOk.nn h.2.2 z e
theorem pw_key {ds : List Int} : ∀ {xs ys : List PV}, Pw (fun x y => ∃ d z : Int, x = .int d ∧ y = .int z ∧ 0 ≤ z ∧ z < d) xs ys → xs = ds.map .int → ∃ k : List Int, ys = k.map .int ∧ KeyOk ds k := by
  induction ds with
  | nil => intro xs ys h e; subst e; cases h; exact ⟨[], rfl, trivial⟩
  | cons d ds ih =>
    intro xs ys h e
    subst e
    cases h with
    | cons h1 h2 =>
      obtain ⟨d', z, e1, rfl, z1, z2⟩ := h1
      cases e1
      obtain ⟨k, rfl, hk⟩ := ih h2 rfl
      exact ⟨z :: k, rfl, z1, z2, hk⟩
@[simp] theorem okA_ref : okA (.ref 0) = true := rfl
@[simp] theorem okA_int (i : Int) : okA (.int i) = true := rfl
@[simp] theorem okA_bl (i : Bool) : okA (.bl i) = true := rfl
@[simp] theorem okA_non : okA .non = true := rfl
@[simp] theorem okA_tup (xs : List PV) : okA (.tup xs) = groundL xs := by simp [okA]
@[simp] theorem okA_lst (xs : List PV) : okA (.lst xs) = groundL xs := by simp [okA]
@[simp] theorem okA_cv (b : Bool) (xs : List PV) : okA (cv b xs) = groundL xs := by cases b <;> simp [cv]
@[simp] theorem isRef_ref (l : Nat) : isRef (.ref l) = true := rfl
@[simp] theorem isRef_int (l : Int) : isRef (.int l) = false := rfl
@[simp] theorem isRef_bl (l : Bool) : isRef (.bl l) = false := rfl
@[simp] theorem isRef_tup (l : List PV) : isRef (.tup l) = false := rfl
@[simp] theorem isRef_lst (l : List PV) : isRef (.lst l) = false := rfl
@[simp] theorem isRef_arg (l : List PV) : isRef (.arg l) = false := rfl
@[simp] theorem isRef_non : isRef .non = false := rfl
@[simp] theorem isRef_str (x : Str) : isRef (.str x) = false := rfl
@[simp] theorem isRef_cv (b : Bool) (l : List PV) : isRef (cv b l) = false := by cases b <;> rfl
@[simp] theorem itemsT_tupI (k : List Int) : itemsT (Ev.tupI k) = k.map .int := rfl
@[simp] theorem isSeq_tupI (k : List Int) : isSeq (Ev.tupI k) = true := rfl
@[simp] theorem okA_tupI (k : List Int) : okA (Ev.tupI k) = true := by simp [Ev.tupI]
@[simp] theorem isRef_tupI (k : List Int) : isRef (Ev.tupI k) = false := rfl
@[simp] theorem isArg_tupI (k : List Int) : isArg (Ev.tupI k) = false := rfl
@[simp] theorem dr_tupI (k : List Int) : dr (Ev.tupI k) = Ev.tupI k := rfl
@[simp] theorem frz_tupI (k : List Int) : frz (Ev.tupI k) = Ev.tupI k := rfl
@[simp] theorem frz_cv (b : Bool) (xs : List PV) : frz (cv b xs) = cv b xs := by cases b <;> rfl
@[simp] theorem isArg_cv (b : Bool) (xs : List PV) : isArg (cv b xs) = false := by cases b <;> rfl
@[simp] theorem slotT_n (r : Slots) : slotT (none :: r) 0 = .non := rfl
end Dn

/-! tupled, lists, same -/
namespace Dn
open PySem Ev
def t_tupled (itupled : Nat) : T := (.seq (.ret (.ite (.isi (.var 0) [.list, .tuple]) (.bi false .tuple1 (.cons (.lc false (.itr .seq (.cons (.var 0) .nil)) (.one 1) [1] (.cst (.bl true)) (.call itupled (.cons (.var 1) .nil))) .nil)) (.var 0))) .skip)
def t_w_lists (i_law_lists : Nat) : T := (.seq (.ret (.ite (.isi (.var 0) [.list, .tuple]) (.lc false (.itr .seq (.cons (.var 0) .nil)) (.one 1) [1] (.cst (.bl true)) (.call i_law_lists (.cons (.var 1) .nil))) (.var 0))) .skip)
def t_w_same (i_law_same : Nat) : T := (.seq (.ite (.isi (.var 1) [.list, .tuple]) (.seq (.ite (.or (.cmp .ne (.isi (.var 0) [.list]) (.isi (.var 1) [.list])) (.cmp .ne (.isi (.var 0) [.tuple]) (.isi (.var 1) [.tuple]))) (.seq (.ret (.cst (.bl false))) .skip) .skip) (.seq (.ret (.and (.cmp .eq (.bi false .len (.cons (.var 0) .nil)) (.bi false .len (.cons (.var 1) .nil))) (.bi false .all1 (.cons (.lc false (.itr .zip2 (.cons (.var 0) (.cons (.var 1) .nil))) (.many [3, 4]) [3, 4] (.cst (.bl true)) (.call i_law_same (.cons (.var 3) (.cons (.var 4) .nil)))) .nil)))) .skip)) .skip) (.seq (.ite (.isi (.var 1) [.dict]) (.seq (.ite (.or (.not (.isi (.var 0) [.dict])) (.cmp .ne (.bi false .sorted1 (.cons (.var 0) .nil)) (.bi false .sorted1 (.cons (.var 1) .nil)))) (.seq (.ret (.cst (.bl false))) .skip) .skip) (.seq (.ret (.bi false .all1 (.cons (.lc false (.itr .seq (.cons (.var 1) .nil)) (.one 2) [2] (.cst (.bl true)) (.call i_law_same (.cons (.sub (.var 0) (.var 2)) (.cons (.sub (.var 1) (.var 2)) .nil)))) .nil))) .skip)) .skip) (.seq (.ite (.or (.cmp .isN (.var 1) (.cst (.non))) (.isi (.var 1) [.bool, .str])) (.seq (.ret (.and (.cmp .eq (.var 0) (.var 1)) (.and (.cmp .eq (.isi (.var 0) [.bool]) (.isi (.var 1) [.bool])) (.cmp .eq (.cmp .isN (.var 0) (.cst (.non))) (.cmp .isN (.var 1) (.cst (.non))))))) .skip) .skip) (.seq (.ret (.and (.isi (.var 0) [.int]) (.and (.not (.isi (.var 0) [.bool])) (.cmp .eq (.var 0) (.var 1))))) .skip))))
def t_set_of : T := (.seq (.ret (.bi false .tuple1 (.cons (.bi false .sortedSet (.cons (.var 0) .nil)) .nil))) .skip)
section
variable {gs : List Gn} {wf i : Nat}
def TupledC (gs : List Gn) (wf i : Nat) : Prop := ∀ n v, v.ground = true → dep v < n → dCall gs wf n i [v] = toTup v ∧ sCall gs wf n i [v]
def ListsC (gs : List Gn) (wf i : Nat) : Prop := ∀ n v, v.ground = true → dep v < n → dCall gs wf n i [v] = toLst v ∧ sCall gs wf n i [v]
def SameC (gs : List Gn) (wf i : Nat) : Prop := ∀ n v, noStr v = true → dep v < n → dCall gs wf n i [v, v] = .bl true ∧ sCall gs wf n i [v, v]
theorem tupled_ok (h : gs[i]? = some ⟨1, 2, t_tupled i⟩) : TupledC gs wf i := by
  intro n
  induction n with
  | zero => intro v _ hd; omega
  | succ n ih =>
    intro v hg hd
    rw [dcall_eq h (by omega), scall_eq h (by omega)]
    cases v with
    | tup xs =>
      have hx := gt_tup hg
      have hd' : ∀ x ∈ xs, dep x < n := fun x hx => by have := dep_mem hx; simp only [dep] at hd; omega
      have e : xs.map (fun x => dCall gs wf n i [x]) = xs.map toTup := List.map_congr_left fun x hm => (ih x (ground_get hx x hm) (hd' x hm)).1
      have e2 : ∀ x ∈ xs, (toTup x).ground = true := fun x hm => toTup_ground n x (hd' x hm) (ground_get hx x hm)
      have s : ∀ x ∈ xs, sCall gs wf n i [x] := fun x hm => (ih x (ground_get hx x hm) (hd' x hm)).2
      have d : ∀ x ∈ xs, dCall gs wf n i [x] = toTup x := fun x hm => (ih x (ground_get hx x hm) (hd' x hm)).1
      have g : ∀ x ∈ xs, x.ground = true := ground_get hx
      have hxs : groundL xs = true := hx
      simp [t_tupled, isTy, e, toTup, toTupL_map, hxs]
      exact ⟨fun x hm => ⟨⟨g x hm, s x hm⟩, by rw [d x hm]; exact e2 x hm⟩, e2⟩
    | lst xs =>
      have hx := gt_lst hg
      have hd' : ∀ x ∈ xs, dep x < n := fun x hx => by have := dep_mem hx; simp only [dep] at hd; omega
      have e : xs.map (fun x => dCall gs wf n i [x]) = xs.map toTup := List.map_congr_left fun x hm => (ih x (ground_get hx x hm) (hd' x hm)).1
      have e2 : ∀ x ∈ xs, (toTup x).ground = true := fun x hm => toTup_ground n x (hd' x hm) (ground_get hx x hm)
      have s : ∀ x ∈ xs, sCall gs wf n i [x] := fun x hm => (ih x (ground_get hx x hm) (hd' x hm)).2
      have d : ∀ x ∈ xs, dCall gs wf n i [x] = toTup x := fun x hm => (ih x (ground_get hx x hm) (hd' x hm)).1
      have g : ∀ x ∈ xs, x.ground = true := ground_get hx
      have hxs : groundL xs = true := hx
      simp [t_tupled, isTy, e, toTup, toTupL_map, hxs]
      exact ⟨fun x hm => ⟨⟨g x hm, s x hm⟩, by rw [d x hm]; exact e2 x hm⟩, e2⟩
    | ref l => simp [PV.ground] at hg
    | arg l => simp [PV.ground] at hg
    | _ => simp [t_tupled, isTy, toTup, frz]
theorem lists_ok (h : gs[i]? = some ⟨1, 2, t_w_lists i⟩) : ListsC gs wf i := by
  intro n
  induction n with
  | zero => intro v _ hd; omega
  | succ n ih =>
    intro v hg hd
    rw [dcall_eq h (by omega), scall_eq h (by omega)]
    cases v with
    | tup xs =>
      have hx := gt_tup hg
      have hd' : ∀ x ∈ xs, dep x < n := fun x hx => by have := dep_mem hx; simp only [dep] at hd; omega
      have e : xs.map (fun x => dCall gs wf n i [x]) = xs.map toLst := List.map_congr_left fun x hm => (ih x (ground_get hx x hm) (hd' x hm)).1
      have e2 : ∀ x ∈ xs, (toLst x).ground = true := fun x hm => toLst_ground n x (hd' x hm) (ground_get hx x hm)
      have s : ∀ x ∈ xs, sCall gs wf n i [x] := fun x hm => (ih x (ground_get hx x hm) (hd' x hm)).2
      have d : ∀ x ∈ xs, dCall gs wf n i [x] = toLst x := fun x hm => (ih x (ground_get hx x hm) (hd' x hm)).1
      have g : ∀ x ∈ xs, x.ground = true := ground_get hx
      have hxs : groundL xs = true := hx
      simp [t_w_lists, isTy, e, toLst, toLstL_map, hxs]
      exact ⟨fun x hm => ⟨⟨g x hm, s x hm⟩, by rw [d x hm]; exact e2 x hm⟩, e2⟩
    | lst xs =>
      have hx := gt_lst hg
      have hd' : ∀ x ∈ xs, dep x < n := fun x hx => by have := dep_mem hx; simp only [dep] at hd; omega
      have e : xs.map (fun x => dCall gs wf n i [x]) = xs.map toLst := List.map_congr_left fun x hm => (ih x (ground_get hx x hm) (hd' x hm)).1
      have e2 : ∀ x ∈ xs, (toLst x).ground = true := fun x hm => toLst_ground n x (hd' x hm) (ground_get hx x hm)
      have s : ∀ x ∈ xs, sCall gs wf n i [x] := fun x hm => (ih x (ground_get hx x hm) (hd' x hm)).2
      have d : ∀ x ∈ xs, dCall gs wf n i [x] = toLst x := fun x hm => (ih x (ground_get hx x hm) (hd' x hm)).1
      have g : ∀ x ∈ xs, x.ground = true := ground_get hx
      have hxs : groundL xs = true := hx
      simp [t_w_lists, isTy, e, toLst, toLstL_map, hxs]
      exact ⟨fun x hm => ⟨⟨g x hm, s x hm⟩, by rw [d x hm]; exact e2 x hm⟩, e2⟩
    | ref l => simp [PV.ground] at hg
    | arg l => simp [PV.ground] at hg
    | _ => simp [t_w_lists, isTy, toLst, frz]
theorem zip_self (xs : List PV) : zipL xs xs = xs.map fun x => .tup [x, x] := zipL_self xs
theorem same_ok (h : gs[i]? = some ⟨2, 5, t_w_same i⟩) : SameC gs wf i := by
  intro n
  induction n with
  | zero => intro v _ hd; omega
  | succ n ih =>
    intro v hg hd
    rw [dcall_eq h (by omega), scall_eq h (by omega)]
    cases v with
    | tup xs =>
      have hx : noStrL xs = true := by simpa [noStr] using hg
      have hgr : groundL xs = true := groundL_of fun x hm => (shp_lay (dep x + 1) x (by omega) (noStr_mem hx hm)).2.2
      have hd' : ∀ x ∈ xs, dep x < n := fun x hx => by have := dep_mem hx; simp only [dep] at hd; omega
      have d : ∀ x ∈ xs, dCall gs wf n i [x, x] = .bl true := fun x hm => (ih x (noStr_mem hx hm) (hd' x hm)).1
      have s : ∀ x ∈ xs, sCall gs wf n i [x, x] := fun x hm => (ih x (noStr_mem hx hm) (hd' x hm)).2
      have g : ∀ x ∈ xs, x.ground = true := ground_get hgr
      have e : xs.map (fun x => dCall gs wf n i [x, x]) = xs.map fun _ => .bl true := List.map_congr_left fun x hm => d x hm
      simp [t_w_same, isTy, zip_self, hgr, Function.comp_def, e, List.all_map]
      exact fun x hm => ⟨⟨g x hm, s x hm⟩, by rw [d x hm]; rfl⟩
    | lst xs =>
      have hx : noStrL xs = true := by simpa [noStr] using hg
      have hgr : groundL xs = true := groundL_of fun x hm => (shp_lay (dep x + 1) x (by omega) (noStr_mem hx hm)).2.2
      have hd' : ∀ x ∈ xs, dep x < n := fun x hx => by have := dep_mem hx; simp only [dep] at hd; omega
      have d : ∀ x ∈ xs, dCall gs wf n i [x, x] = .bl true := fun x hm => (ih x (noStr_mem hx hm) (hd' x hm)).1
      have s : ∀ x ∈ xs, sCall gs wf n i [x, x] := fun x hm => (ih x (noStr_mem hx hm) (hd' x hm)).2
      have g : ∀ x ∈ xs, x.ground = true := ground_get hgr
      have e : xs.map (fun x => dCall gs wf n i [x, x]) = xs.map fun _ => .bl true := List.map_congr_left fun x hm => d x hm
      simp [t_w_same, isTy, zip_self, hgr, Function.comp_def, e, List.all_map]
      exact fun x hm => ⟨⟨g x hm, s x hm⟩, by rw [d x hm]; rfl⟩
    | non => simp [t_w_same, isTy, cmpT, eqP, PV.dat, PyData.eqv, cmpS]
    | bl b => simp [t_w_same, isTy]
    | int b => simp [t_w_same, isTy]
    | str x =>
      have hg : SeqAt.shaped (.str x) = true := by simpa [noStr] using hg
      simp [t_w_same, isTy, cmpT, cmpS, eqP, PV.dat, PyData.eqv, shp, hg]
      rfl
    | _ => simp [noStr] at hg
end
end Dn

/-! draws: depths, keys, one of several -/
namespace Dn
open PySem Ev
def t_w_deep (i_law_take : Nat) : T := (.seq (.ret (.bi false .tuple1 (.cons (.lc false (.itr .range1 (.cons (.bin false .add (.cst (.int 1)) (.call i_law_take (.cons (.var 0) (.cons (.var 1) .nil)))) .nil)) (.one 3) [3] (.cst (.bl true)) (.bin false .add (.cst (.int 2)) (.call i_law_take (.cons (.var 0) (.cons (.bin false .sub (.var 2) (.cst (.int 1))) .nil))))) .nil))) .skip)
def t_w_tooth (i_law_take : Nat) : T := (.seq (.ret (.bi false .tuple1 (.cons (.lc false (.itr .seq (.cons (.var 1) .nil)) (.one 2) [2] (.cst (.bl true)) (.call i_law_take (.cons (.var 0) (.cons (.var 2) .nil)))) .nil))) .skip)
def t_w_of (i_law_take : Nat) : T := (.seq (.ret (.sub (.var 1) (.call i_law_take (.cons (.var 0) (.cons (.bi false .len (.cons (.var 1) .nil)) .nil))))) .skip)
def t_w_pick (i_law_take : Nat) : T := (.seq (.asgM [4, 5] (.cons (.bi true .list1 (.cons (.var 1) .nil)) (.cons (.lst true .nil) .nil))) (.seq (.for_ (.itr .range1 (.cons (.bi false .min2 (.cons (.var 2) (.cons (.bi false .len (.cons (.var 4) .nil)) .nil))) .nil)) (.one 3) (.seq (.appPop 5 4 (.call i_law_take (.cons (.var 0) (.cons (.bi false .len (.cons (.var 4) .nil)) .nil)))) .skip) [3]) (.seq (.ret (.var 5)) .skip)))
section
variable {gs : List Gn} {wf tk i m : Nat}
def DeepC (gs : List Gn) (wf tk i : Nat) : Prop := ∀ n, 2 ≤ n → ∀ (b pins : Nat) (most : Int) Q, 1 ≤ pins → pins ≤ 1000 → 2 ≤ most → most ≤ 1000000000 → pins + 1 ≤ b →
  (∀ ds b', 1 ≤ ds.length → ds.length ≤ pins → (∀ d ∈ ds, 2 ≤ d ∧ d ≤ most) → b ≤ b' + (pins + 1) → Q (tupI ds) b') → wCall gs wf tk n i [.ref 0, .int pins, .int most] b Q
theorem deep_ok (h : gs[i]? = some ⟨3, 4, t_w_deep tk⟩) (ht : i ≠ tk) : DeepC gs wf tk i := by
  intro n hn b pins most Q h1 h2 h3 h4 hb hq
  rw [wcall_eq h (by omega) ht]
  simp [t_w_deep, bf]
  refine w_take (by omega) (by omega) (by omega) (by omega) fun r r1 r2 => ?_
  obtain ⟨K, hK⟩ : ∃ K : Nat, 1 + r = (K : Int) := ⟨(1 + r).toNat, by omega⟩
  simp [hK]
  refine ⟨⟨rg_nat (by omega), by omega⟩, lcW 1 (fun _ y => ∃ z : Int, y = PV.int z ∧ (2 ≤ z ∧ z ≤ most)) (by simp; omega) ?_ ?_⟩
  · intro x hx b1 hb1
    simp [bf]
    refine w_take (by omega) (by omega) (by omega) (by omega) fun r r1 r2 => ?_
    simp; omega
  · intro ys b' hp hb'
    simp at hb'
    obtain ⟨zs, rfl, l1, l2⟩ := pw_ints hp
    simp at l1
    simp
    exact hq zs b' (by omega) (by omega) l2 (by omega)
def ToothC (gs : List Gn) (wf tk i : Nat) : Prop := ∀ n, 2 ≤ n → ∀ (b : Nat) (ds : List Int) Q, ds.length ≤ 1000 → (∀ d ∈ ds, 1 ≤ d ∧ d ≤ 1000000000) → ds.length ≤ b →
  (∀ k b', KeyOk ds k → b ≤ b' + ds.length → Q (tupI k) b') → wCall gs wf tk n i [.ref 0, tupI ds] b Q
theorem tooth_ok (h : gs[i]? = some ⟨2, 3, t_w_tooth tk⟩) (ht : i ≠ tk) : ToothC gs wf tk i := by
  intro n hn b ds Q h1 h2 hb hq
  rw [wcall_eq h (by omega) ht]
  simp [t_w_tooth, bf, tupI]
  refine lcW 1 (fun x y => ∃ d z : Int, x = PV.int d ∧ y = PV.int z ∧ 0 ≤ z ∧ z < d) (by simp; omega) ?_ ?_
  · intro x hx b1 hb1
    obtain ⟨d, hd, rfl⟩ := List.mem_map.mp hx
    have := h2 d hd
    simp [bf]
    refine w_take (by omega) (by omega) (by omega) (by omega) fun r r1 r2 => ?_
    simp; omega
  · intro ys b' hp hb'
    obtain ⟨k, rfl, hk⟩ := pw_key hp rfl
    simp at hb'
    simp
    exact hq k b' hk (by omega)
def OfC (gs : List Gn) (wf tk i : Nat) : Prop := ∀ n, 2 ≤ n → ∀ (b : Nat) (v : PV) Q, v.ground = true → isSeq v = true → isRef v = false → itemsT v ≠ [] → (itemsT v).length ≤ 1000000000 → 1 ≤ b →
  (∀ x ∈ itemsT v, x.ground = true → Q x (b - 1)) → wCall gs wf tk n i [.ref 0, v] b Q
theorem of_ok (h : gs[i]? = some ⟨2, 2, t_w_of tk⟩) (ht : i ≠ tk) : OfC gs wf tk i := by
  intro n hn b v Q h1 h2 h3 h4 h5 hb hq
  have hl : 0 < (itemsT v).length := by
    cases hv : itemsT v with
    | nil => exact absurd hv h4
    | cons _ _ => simp
  have ho : okA v = true := by cases v <;> simp_all [okA, PV.ground]
  have hg : groundL (itemsT v) = true := by cases v <;> simp_all [isSeq, PV.ground]
  rw [wcall_eq h (by omega) ht]
  simp [t_w_of, bf, ho, h2, h3]
  refine w_take (by omega) (by omega) (by omega) (by omega) fun r r1 r2 => ?_
  obtain ⟨k, rfl⟩ := Int.eq_ofNat_of_zero_le r1
  have hk : k < (itemsT v).length := by omega
  have hx : (itemsT v)[k].ground = true := ground_get hg _ (List.getElem_mem hk)
  have e : atT (itemsT v) (k : Int) = (itemsT v)[k] := by
    rw [atT_nat, List.getD_eq_getElem?_getD, List.getElem?_eq_getElem hk]; rfl
  simp [at_some hk, e, hx, h2, frz_g hx]
  exact hq _ (List.getElem_mem hk) hx
theorem erase_perm {α : Type} : ∀ (zs : List α) (j : Nat) (h : j < zs.length), (zs[j] :: zs.eraseIdx j).Perm zs
  | z :: zs, 0, _ => by simp
  | z :: zs, j + 1, h => by
    have := erase_perm zs j (by simpa using h)
    simp only [List.getElem_cons_succ, List.eraseIdx_cons_succ]
    exact (List.Perm.swap _ _ _).trans (this.cons z)
/-- some of several, in a drawn order -/
def PickC (gs : List Gn) (wf tk i : Nat) : Prop := ∀ n, 2 ≤ n → ∀ (b : Nat) (v : PV) (s : Int) Q, v.ground = true → isSeq v = true → isRef v = false → (itemsT v).length ≤ 1000 → 0 ≤ s → s ≤ 1000000 → (itemsT v).length ≤ b →
  (∀ ys zs b', (ys ++ zs).Perm (itemsT v) → ys.length = min s.toNat (itemsT v).length → b ≤ b' + (itemsT v).length → Q (.lst ys) b') → wCall gs wf tk n i [.ref 0, v, .int s] b Q
theorem pick_ok (h : gs[i]? = some ⟨3, 6, t_w_pick tk⟩) (ht : i ≠ tk) : PickC gs wf tk i := by
  intro n hn b v s Q h1 h2 h3 h4 h5 h6 hb hq
  have ho : okA v = true := by cases v <;> simp_all [okA, PV.ground]
  have hg : groundL (itemsT v) = true := by cases v <;> simp_all [isSeq, PV.ground]
  have hm : (if (itemsT v).length < s then ((itemsT v).length : Int) else s) = ((min s.toNat (itemsT v).length : Nat) : Int) := by split <;> omega
  generalize hN : min s.toNat (itemsT v).length = N at hm hq
  have hNl : N ≤ (itemsT v).length := by omega
  rw [wcall_eq h (by omega) ht]
  simp [t_w_pick, bf, bfT, ho, h2, h3, frE, biT, biS, hm]
  refine ⟨⟨rg_nat (by omega), by omega⟩, forW 1 (fun k ρ' => ∃ ys zs : List PV, ρ' = [some (.ref 0), some v, some (.int s), none, some (.arg zs), some (.arg ys)] ∧ (ys ++ zs).Perm (itemsT v) ∧ ys.length = k) (fun _ => False) (by simp; omega) ?_ ?_ ?_ ?_⟩
  · exact ⟨[], itemsT v, by simp, by simp, rfl⟩
  · intro k x hx ρ' b1 hI hb1
    obtain ⟨ys, zs, rfl, hp, hl⟩ := hI
    have hk : k < N := by
      have := (List.getElem?_eq_some_iff.mp hx).1
      simpa using this
    have hlen := hp.length_eq
    rw [List.length_append] at hlen
    simp [bf]
    refine ⟨by omega, w_take (by omega) (by omega) (by omega) (by omega) fun r r1 r2 => ?_⟩
    obtain ⟨j, rfl⟩ := Int.eq_ofNat_of_zero_le r1
    have hj : j < zs.length := by omega
    simp [ix_nat hj]
    refine ⟨by omega, ys ++ [atT zs j], zs.eraseIdx j, by simp, ?_, by simp [hl]⟩
    have e : atT zs (j : Int) = zs[j] := by rw [atT_nat, List.getD_eq_getElem?_getD, List.getElem?_eq_getElem hj]; rfl
    rw [e, List.append_assoc]
    refine (List.Perm.append_left ys ?_).trans hp
    exact erase_perm zs j hj
  · intro ρ' b' hI hb'
    obtain ⟨ys, zs, rfl, hp, hl⟩ := hI
    simp
    exact hq ys zs b' hp (by simpa using hl) (by simp at hb'; omega)
  · intro v' ρ' b' hf; exact hf.elim
end
end Dn

/-! rows, slices, sets, by plain lists -/
namespace Dn
open PySem Ev
@[simp] theorem toTup_int (i : Int) : toTup (.int i) = .int i := by simp only [toTup]
@[simp] theorem toTup_cv (b : Bool) (xs : List PV) : toTup (cv b xs) = .tup (xs.map toTup) := by cases b <;> simp [cv, toTup, toTupL_map]
@[simp] theorem toLst_int (i : Int) : toLst (.int i) = .int i := by simp only [toLst]
@[simp] theorem toLst_cv (b : Bool) (xs : List PV) : toLst (cv b xs) = .lst (xs.map toLst) := by cases b <;> simp [cv, toLst, toLstL_map]
@[simp] theorem toTup_tup (xs : List PV) : toTup (.tup xs) = .tup (xs.map toTup) := by simp [toTup, toTupL_map]
@[simp] theorem toTup_lst (xs : List PV) : toTup (.lst xs) = .tup (xs.map toTup) := by simp [toTup, toTupL_map]
@[simp] theorem toLst_tup (xs : List PV) : toLst (.tup xs) = .lst (xs.map toLst) := by simp [toLst, toLstL_map]
@[simp] theorem toLst_lst (xs : List PV) : toLst (.lst xs) = .lst (xs.map toLst) := by simp [toLst, toLstL_map]
@[simp] theorem toTup_ints (k : List Int) : (k.map PV.int).map toTup = k.map PV.int := by simp [Function.comp_def]
@[simp] theorem toLst_ints (k : List Int) : (k.map PV.int).map toLst = k.map PV.int := by simp [Function.comp_def]
theorem toTup_rows (b c : Bool) (ks : List (List Int)) : toTup (rowsV b c ks) = .tup (ks.map tupI) := by
  simp [Function.comp_def, tupI]
theorem toTup_key (b : Bool) (k : List Int) : toTup (keyV b k) = tupI k := by simp [Function.comp_def, tupI]
theorem toLst_rows (b c : Bool) (ks : List (List Int)) : toLst (rowsV b c ks) = rowsV true true ks := by
  simp [Function.comp_def, cv]
theorem gr_key (b : Bool) (k : List Int) : (keyV b k).ground = true := by simp
theorem gr_rowsV (b c : Bool) (ks : List (List Int)) : (rowsV b c ks).ground = true := by simp
theorem dep_cv (b : Bool) (xs : List PV) : dep (cv b xs) = depL xs + 1 := by cases b <;> simp [cv, dep]
theorem dep_rowsV (b c : Bool) (ks : List (List Int)) : dep (rowsV b c ks) ≤ 2 := by
  have := dep_keys c ks
  rw [dep_cv]; omega
theorem noStr_cv (b : Bool) (xs : List PV) : noStr (cv b xs) = noStrL xs := by cases b <;> simp [cv, noStr]
theorem noStr_rowsV (b c : Bool) (ks : List (List Int)) : noStr (rowsV b c ks) = true := by
  rw [noStr_cv]; exact noStr_keys c ks
/-! slices -/
@[simp] theorem sliceT_tup (m : Bool) (xs : List PV) (lo hi : List PV) : sliceT m (.tup xs) lo hi = .tup (cutP xs (partT lo) (partT hi)) := rfl
@[simp] theorem sliceT_lst (m : Bool) (xs : List PV) (lo hi : List PV) : sliceT m (.lst xs) lo hi = mkT m (cutP xs (partT lo) (partT hi)) := rfl
@[simp] theorem sliceT_cv (b : Bool) (xs : List PV) (lo hi : List PV) : sliceT false (cv b xs) lo hi = cv b (cutP xs (partT lo) (partT hi)) := by cases b <;> rfl
@[simp] theorem partT_nil : partT [] = none := rfl
@[simp] theorem partT_int (i : Int) : partT [.int i] = some i := rfl
@[simp] theorem partS_nil : partS [] = True := rfl
@[simp] theorem partS_int (i : Int) : partS [.int i] = True := rfl
@[simp] theorem cut_to_n (xs : List PV) (n : Nat) : cutP xs none (some (n : Int)) = xs.take n := by
  unfold cutP HT.sIx
  simp only [List.drop_zero, Nat.sub_zero]
  rw [if_neg (by omega), Int.toNat_natCast]
  by_cases h : n ≤ xs.length
  · rw [Nat.min_eq_left h]
  · rw [Nat.min_eq_right (by omega), List.take_length, List.take_of_length_le (by omega)]
@[simp] theorem cut_from_n (xs : List PV) (n : Nat) : cutP xs (some (n : Int)) none = xs.drop n := by
  unfold cutP HT.sIx
  simp only []
  rw [if_neg (by omega), Int.toNat_natCast]
  by_cases h : n ≤ xs.length
  · rw [Nat.min_eq_left h]
    rw [List.take_of_length_le (by simp)]
  · rw [Nat.min_eq_right (by omega), List.drop_eq_nil_of_le (Nat.le_refl _), List.drop_eq_nil_of_le (by omega)]; simp
@[simp] theorem cut_from_n1 (xs : List PV) (n : Nat) : cutP xs (some ((n : Int) + 1)) none = xs.drop (n + 1) := by
  rw [show (n : Int) + 1 = ((n + 1 : Nat) : Int) by omega, cut_from_n]
@[simp] theorem gr_takeI (k : List Int) (p : Nat) : groundL ((k.map PV.int).take p) = true := groundL_of fun x hx => by
  obtain ⟨i, _, rfl⟩ := List.mem_map.mp (List.mem_of_mem_take hx); rfl
@[simp] theorem gr_dropI (k : List Int) (p : Nat) : groundL ((k.map PV.int).drop p) = true := groundL_of fun x hx => by
  obtain ⟨i, _, rfl⟩ := List.mem_map.mp (List.mem_of_mem_drop hx); rfl
theorem at_mapI {k : List Int} {p : Int} (h0 : 0 ≤ p) (h : p < k.length) : (L2.atI (k.map PV.int) p).isSome = true := at_someI h0 (by rw [List.length_map]; exact h)
theorem at_mapN {k : List Int} {p : Nat} (h : p < k.length) : (L2.atI (k.map PV.int) (p : Int)).isSome = true := at_some (by rw [List.length_map]; exact h)
/-! sets -/
def SetOfC (gs : List Gn) (wf i : Nat) : Prop := ∀ n, 1 ≤ n → ∀ xs, dCall gs wf n i [.lst xs] = .tup (sortL (dedup xs)) ∧ (setable xs = true → groundL xs = true → sCall gs wf n i [.lst xs])
theorem set_of_ok {gs : List Gn} {wf i : Nat} (h : gs[i]? = some ⟨1, 1, t_set_of⟩) : SetOfC gs wf i := by
  intro n hn xs
  rw [dcall_eq h hn, scall_eq h hn]
  simp [t_set_of]
  intro h1 h2
  exact ⟨h2, .inr h1, sort_ground (dedup_ground h2)⟩
/-- set_of, whatever it gets -/
def SetAnyC (gs : List Gn) (wf i : Nat) : Prop := ∀ n, 1 ≤ n → ∀ (b : Bool) xs, dCall gs wf n i [cv b xs] = .tup (sortL (dedup xs)) ∧ (setI xs = true ∨ setable xs = true → groundL xs = true → sCall gs wf n i [cv b xs])
theorem set_any_ok {gs : List Gn} {wf i : Nat} (h : gs[i]? = some ⟨1, 1, t_set_of⟩) : SetAnyC gs wf i := by
  intro n hn b xs
  rw [dcall_eq h hn, scall_eq h hn]
  simp [t_set_of]
  intro h1 h2
  exact ⟨h2, h1, sort_ground (dedup_ground h2)⟩
theorem same_tupI (a b : List Int) : (tupI a).same (tupI b) = decide (a = b) := by
  simp only [tupI, PV.same]
  induction a generalizing b with
  | nil => cases b <;> simp [sameL]
  | cons x r ih => cases b with
    | nil => simp [sameL]
    | cons y s => simp [sameL, PV.same, ih]; rfl
theorem dedup_rows : ∀ {L : List (List Int)}, L.Nodup → dedup (L.map tupI) = L.map tupI
  | [], _ => rfl
  | x :: r, h => by
    rw [List.nodup_cons] at h
    simp only [List.map_cons, dedup, dedup_rows h.2]
    rw [if_neg]
    simp only [List.any_map, List.any_eq_true, Function.comp_def, same_tupI, decide_eq_true_eq]
    rintro ⟨y, hy, rfl⟩
    exact h.1 hy
theorem nodup_of_lt {L : List (List Int)} (h : L.Pairwise (· < ·)) : L.Nodup := List.Pairwise.imp (fun {a b} (hab : a < b) (e : a = b) => row_irr b (e ▸ hab)) h
theorem nodup_map {α β : Type} {f : α → β} {L : List α} (h : L.Nodup) (hf : ∀ x ∈ L, ∀ y ∈ L, f x = f y → x = y) : (L.map f).Nodup := by
  induction L with
  | nil => simp
  | cons a r ih =>
    rw [List.nodup_cons] at h
    rw [List.map_cons, List.nodup_cons]
    refine ⟨fun hm => ?_, ih h.2 fun x hx y hy => hf x (by simp [hx]) y (by simp [hy])⟩
    obtain ⟨b, hb, e⟩ := List.mem_map.mp hm
    exact h.1 (hf a (by simp) b (by simp [hb]) e.symm ▸ hb)
theorem ins_len (x : PV) : ∀ l : List PV, (insP x l).length = l.length + 1
  | [] => rfl
  | y :: r => by unfold insP; split <;> simp [ins_len x r]
theorem sort_len : ∀ l : List PV, (sortL l).length = l.length
  | [] => rfl
  | x :: r => by simp [sortL, ins_len, sort_len r]
theorem dedup_len : ∀ l : List PV, (dedup l).length ≤ l.length
  | [] => Nat.le_refl _
  | x :: r => by
    have := dedup_len r
    unfold dedup
    split
    · simp; omega
    · simp; omega
theorem setI_len {xs : List PV} (h1 : xs.all isInt = true) (h2 : xs.length < 60) : setI xs = true := by
  have := dedup_len xs
  simp only [setI, h1, Bool.true_and, Bool.and_eq_true, decide_eq_true_eq]
  omega
theorem bunch_set {ds : List Int} {L : List (List Int)} (h1 : 1 ≤ ds.length) (h2 : L.length < 64) (h3 : ∀ k ∈ L, KeyOk ds k) : setable (L.map tupI) = true ∧ ∃ ks : List (List Int), sortL (dedup (L.map tupI)) = ks.map tupI ∧ ks.Pairwise (· < ·) ∧ (∀ k ∈ ks, KeyOk ds k) ∧ ks.length ≤ L.length ∧ ∀ k, k ∈ ks ↔ k ∈ L := by
  refine ⟨setable_rows h2 h1 fun k hk => ⟨(h3 k hk).len, (h3 k hk).nn⟩, ?_⟩
  obtain ⟨ks, e, k1, k2⟩ := set_rows L
  refine ⟨ks, e, k1, fun k hk => h3 k ((k2 k).mp hk), ?_, k2⟩
  have h := congrArg List.length e
  rw [sort_len, List.length_map] at h
  have := dedup_len (L.map tupI)
  rw [List.length_map] at this
  omega
end Dn

/-! free pins, rooms -/
namespace Dn
open PySem Ev
def t_is_free : T := (.seq (.ret (.bi false .all1 (.cons (.lc false (.itr .seq (.cons (.var 0) .nil)) (.one 3) [3] (.cst (.bl true)) (.cmp .ne (.sub (.var 3) (.var 2)) (.sub (.var 1) (.var 2)))) .nil))) .skip)
def t_free_pins (iis_free : Nat) : T := (.seq (.ret (.bi false .tuple1 (.cons (.lc false (.itr .range1 (.cons (.bi false .len (.cons (.var 1) .nil)) .nil)) (.one 2) [2] (.call iis_free (.cons (.var 0) (.cons (.var 1) (.cons (.var 2) .nil)))) (.var 2)) .nil))) .skip)
def t_barring_pin (ifree_pins : Nat) : T := (.seq (.for_ (.itr .seq (.cons (.call ifree_pins (.cons (.var 0) (.cons (.var 1) .nil))) .nil)) (.one 3) (.seq (.ite (.cmp .ne (.sub (.var 1) (.var 3)) (.sub (.var 2) (.var 3))) (.seq (.ret (.var 3)) .skip) .skip) .skip) [3]) (.seq (.ret (.cst (.non))) .skip))
def t_opens_room (ibarring_pin : Nat) : T := (.seq (.ret (.cmp .isN (.call ibarring_pin (.cons (.var 0) (.cons (.var 1) (.cons (.var 2) .nil)))) (.cst (.non)))) .skip)
def t_w_stars : T := (.seq (.ret (.lc false (.itr .enum (.cons (.var 1) .nil)) (.many [2, 3]) [2, 3] (.cmp .eq (.lc false (.itr .seq (.cons (.var 0) .nil)) (.one 4) [4] (.cmp .eq (.sub (.var 4) (.var 2)) (.var 3)) (.var 4)) (.lst false .nil)) (.tup (.cons (.var 2) (.cons (.var 3) .nil))))) .skip)
def t_w_lets (i_law_stars : Nat) : T := (.seq (.ret (.cmp .eq (.lc false (.itr .seq (.cons (.call i_law_stars (.cons (.var 0) (.cons (.var 1) .nil))) .nil)) (.one 3) [3] (.cmp .ne (.sub (.var 2) (.sub (.var 3) (.cst (.int 0)))) (.sub (.var 3) (.cst (.int 1)))) (.var 3)) (.lst false .nil))) .skip)
def t_w_loud (i_law_lets : Nat) : T := (.seq (.asg (.one 2) (.lst false .nil)) (.seq (.for_ (.itr .seq (.cons (.var 1) .nil)) (.one 3) (.seq (.asg (.one 2) (.bin false .add (.var 2) (.lc false (.itr .seq (.cons (.var 1) .nil)) (.one 4) [4] (.and (.cmp .ne (.var 4) (.var 3)) (.call i_law_lets (.cons (.var 0) (.cons (.var 3) (.cons (.var 4) .nil))))) (.tup (.cons (.var 3) (.cons (.var 4) .nil)))))) .skip) [3]) (.seq (.ret (.bi false .sorted1 (.cons (.var 2) .nil))) .skip)))
def t_w_chief (i_law_take i_law_tooth : Nat) : T := (.seq (.ret (.bi false .tuple1 (.cons (.bi false .sortedSet (.cons (.lc false (.itr .range1 (.cons (.bin false .add (.cst (.int 1)) (.call i_law_take (.cons (.var 0) (.cons (.var 2) .nil)))) .nil)) (.one 3) [3] (.cst (.bl true)) (.call i_law_tooth (.cons (.var 0) (.cons (.var 1) .nil)))) .nil)) .nil))) .skip)
section
variable {gs : List Gn} {wf i j : Nat}
def IsFreeC (gs : List Gn) (wf i : Nat) : Prop := ∀ n, 1 ≤ n → ∀ (b c d : Bool) (cs : List (List Int)) (k : List Int) (p : Nat),
  dCall gs wf n i [rowsV b c cs, keyV d k, .int p] = .bl (cs.all fun o => !decide (gI o p = gI k p)) ∧ (p < k.length → (∀ o ∈ cs, p < o.length) → sCall gs wf n i [rowsV b c cs, keyV d k, .int p])
theorem is_free_ok (h : gs[i]? = some ⟨3, 4, t_is_free⟩) : IsFreeC gs wf i := by
  intro n hn b c d cs k p
  rw [dcall_eq h hn, scall_eq h hn]
  simp [t_is_free, Function.comp_def, List.all_map]
  intro h1 h2 o ho
  exact ⟨at_mapN (h2 o ho), at_mapN h1⟩
def freeB (cs : List (List Int)) (k : List Int) (p : Nat) : Bool := cs.all fun o => !decide (gI o p = gI k p)
def pinsL (cs : List (List Int)) (k : List Int) : List Nat := (List.range k.length).filter (freeB cs k)
def roomL (cs : List (List Int)) (one two : List Int) : Bool := (pinsL cs one).all fun p => decide (gI one p = gI two p)
def barL (cs : List (List Int)) (one two : List Int) : Option Nat := (pinsL cs one).find? fun p => !decide (gI one p = gI two p)
def optN : Option Nat → PV
  | some p => .int p
  | none => .non
theorem pinsL_lt {cs : List (List Int)} {k : List Int} {p : Nat} (h : p ∈ pinsL cs k) : p < k.length := List.mem_range.mp (List.mem_filter.mp h).1
def FreePinsC (gs : List Gn) (wf i : Nat) : Prop := ∀ n, 2 ≤ n → ∀ (b c d : Bool) (cs : List (List Int)) (k : List Int),
  dCall gs wf n i [rowsV b c cs, keyV d k] = .tup ((pinsL cs k).map fun p : Nat => .int p) ∧ (k.length ≤ 1000 → (∀ o ∈ cs, o.length = k.length) → sCall gs wf n i [rowsV b c cs, keyV d k])
theorem free_pins_ok (h : gs[i]? = some ⟨2, 3, t_free_pins j⟩) (hf : IsFreeC gs wf j) : FreePinsC gs wf i := by
  intro n hn b c d cs k
  have e := fun p => (hf (n - 1) (by omega) b c d cs k p).1
  have s := fun p => (hf (n - 1) (by omega) b c d cs k p).2
  rw [dcall_eq h (by omega), scall_eq h (by omega)]
  simp only [rowsV, keyV] at e s
  simp [t_free_pins, e, Function.comp_def, List.filter_map]
  refine ⟨rfl, fun h1 h2 => ⟨⟨rg_nat (by omega), by omega⟩, fun p hp => s p hp fun o ho => by rw [h2 o ho]; exact hp⟩⟩
def BarringC (gs : List Gn) (wf i : Nat) : Prop := ∀ n, 3 ≤ n → ∀ (b c d e : Bool) (cs : List (List Int)) (one two : List Int),
  dCall gs wf n i [rowsV b c cs, keyV d one, keyV e two] = optN (barL cs one two) ∧ (one.length ≤ 1000 → (∀ o ∈ cs, o.length = one.length) → two.length = one.length → sCall gs wf n i [rowsV b c cs, keyV d one, keyV e two])
theorem barring_ok (h : gs[i]? = some ⟨3, 4, t_barring_pin j⟩) (hf : FreePinsC gs wf j) : BarringC gs wf i := by
  intro n hn b c d e cs one two
  obtain ⟨e1, s1⟩ := hf (n - 1) (by omega) b c d cs one
  rw [dcall_eq h (by omega), scall_eq h (by omega)]
  simp only [rowsV, keyV] at e1 s1
  refine ⟨?_, fun h1 h2 h3 => ?_⟩
  · simp [t_barring_pin, e1]
    rw [forT_find (p := fun x : Nat => !decide (gI one x = gI two x)) (v := fun x : Nat => .int x) (pinsL cs one) ?_]
    · unfold barL
      cases (pinsL cs one).find? fun x : Nat => !decide (gI one x = gI two x) <;> rfl
    · intro x hx; simp
  · simp [t_barring_pin, e1, s1 h1 h2]
    rw [forT_find (p := fun x : Nat => !decide (gI one x = gI two x)) (v := fun x : Nat => .int x) (pinsL cs one) ?_]
    · refine ⟨⟨?_, ?_⟩, ?_⟩
      · refine forS_find (p := fun x : Nat => !decide (gI one x = gI two x)) (v := fun x : Nat => .int x) (pinsL cs one) (fun x hx => by simp) fun x hx => ?_
        have := pinsL_lt hx
        simp [at_mapN this, at_mapN (by omega : x < two.length)]
      · cases (pinsL cs one).find? fun x : Nat => !decide (gI one x = gI two x) <;> simp
      · cases (pinsL cs one).find? fun x : Nat => !decide (gI one x = gI two x) <;> simp
    · intro x hx; simp
def OpensC (gs : List Gn) (wf i : Nat) : Prop := ∀ n, 4 ≤ n → ∀ (b c d e : Bool) (cs : List (List Int)) (one two : List Int),
  dCall gs wf n i [rowsV b c cs, keyV d one, keyV e two] = .bl (roomL cs one two) ∧ (one.length ≤ 1000 → (∀ o ∈ cs, o.length = one.length) → two.length = one.length → sCall gs wf n i [rowsV b c cs, keyV d one, keyV e two])
theorem bar_room (cs : List (List Int)) (one two : List Int) : cmpT .isN (optN (barL cs one two)) .non = roomL cs one two := by
  unfold barL roomL
  induction pinsL cs one with
  | nil => rfl
  | cons p r ih =>
    rw [List.find?_cons, List.all_cons]
    cases decide (gI one p = gI two p) with
    | true => simpa using ih
    | false => rfl
theorem opens_ok (h : gs[i]? = some ⟨3, 3, t_opens_room j⟩) (hf : BarringC gs wf j) : OpensC gs wf i := by
  intro n hn b c d e cs one two
  obtain ⟨e1, s1⟩ := hf (n - 1) (by omega) b c d e cs one two
  rw [dcall_eq h (by omega), scall_eq h (by omega)]
  simp only [rowsV, keyV] at e1 s1
  simp [t_opens_room, e1, bar_room]
  exact fun h1 h2 h3 => s1 h1 h2 h3
theorem enum_ints : ∀ (k : List Int) (n : Nat), enumL n (k.map .int) = (List.range k.length).map fun p : Nat => PV.tup [.int ((n + p : Nat) : Int), .int (gI k p)]
  | [], n => rfl
  | x :: r, n => by
    rw [List.map_cons, enumL, enum_ints r (n + 1), List.length_cons, List.range_succ_eq_map, List.map_cons, List.map_map]
    simp only [Function.comp_def, Nat.add_zero, List.cons.injEq]
    refine ⟨by simp [gI], List.map_congr_left fun p _ => ?_⟩
    rw [show n + 1 + p = n + (p + 1) by omega, gI_nat, gI_nat]
    rfl
@[simp] theorem enum_ints0 (k : List Int) : enumL 0 (k.map .int) = (List.range k.length).map fun p : Nat => PV.tup [.int (p : Int), .int (gI k p)] := by
  rw [enum_ints]; simp
@[simp] theorem cmpT_eqnil (xs : List PV) : cmpT .eq (.lst xs) (.lst []) = xs.isEmpty := eqL_nil xs
@[simp] theorem cmpT_nenil (xs : List PV) : cmpT .ne (.lst xs) (.lst []) = !xs.isEmpty := by
  show (!eqP (.lst xs) (.lst [])) = _
  rw [eqL_nil]
theorem shp_nil : shp (.lst []) = true := shp_of (by simp [noStr, noStrL]) (by simp [dep, depL])
theorem cmpS_nil {o : COp} (ho : o = .eq ∨ o = .ne) {xs : List PV} (h1 : noStrL xs = true) (h2 : depL xs ≤ 60) : cmpS o (.lst xs) (.lst []) := by
  have : shp (.lst xs) = true := shp_of (by simpa [noStr] using h1) (by simp only [dep]; omega)
  rcases ho with rfl | rfl <;> exact ⟨this, shp_nil⟩
theorem noStrL_map {α : Type} {L : List α} {g : α → PV} (h : ∀ x ∈ L, noStr (g x) = true) : noStrL (L.map g) = true := noStrL_all fun y hy => by
  obtain ⟨x, hx, rfl⟩ := List.mem_map.mp hy
  exact h x hx
theorem depL_map {α : Type} {L : List α} {g : α → PV} {m : Nat} (h : ∀ x ∈ L, dep (g x) ≤ m) : depL (L.map g) ≤ m := depL_le fun y hy => by
  obtain ⟨x, hx, rfl⟩ := List.mem_map.mp hy
  exact h x hx
def StarsC (gs : List Gn) (wf i : Nat) : Prop := ∀ n, 1 ≤ n → ∀ (b c d : Bool) (cs : List (List Int)) (k : List Int),
  dCall gs wf n i [rowsV b c cs, keyV d k] = .lst ((pinsL cs k).map fun p : Nat => .tup [.int p, .int (gI k p)]) ∧ ((∀ o ∈ cs, o.length = k.length) → sCall gs wf n i [rowsV b c cs, keyV d k])
theorem filt_free (cs : List (List Int)) (k : List Int) (p : Nat) : (cs.filter fun o => decide (gI o p = gI k p)).isEmpty = freeB cs k p := by
  unfold freeB
  induction cs with
  | nil => rfl
  | cons o r ih =>
    rw [List.filter_cons, List.all_cons, ← ih]
    cases decide (gI o p = gI k p) <;> rfl
theorem stars_ok (h : gs[i]? = some ⟨2, 5, t_w_stars⟩) : StarsC gs wf i := by
  intro n hn b c d cs k
  rw [dcall_eq h hn, scall_eq h hn]
  simp [t_w_stars, Function.comp_def, List.filter_map, List.isEmpty_map, filt_free]
  refine ⟨rfl, fun h1 p hp => ⟨fun o ho => at_mapN (by rw [h1 o ho]; exact hp), cmpS_nil (.inl rfl) (noStrL_map fun x _ => noStr_keyV c x) (Nat.le_trans (depL_map fun x _ => dep_keyV c x) (by omega))⟩⟩
def LetsC (gs : List Gn) (wf i : Nat) : Prop := ∀ n, 2 ≤ n → ∀ (b c d e : Bool) (cs : List (List Int)) (one two : List Int),
  dCall gs wf n i [rowsV b c cs, keyV d one, keyV e two] = .bl (roomL cs one two) ∧ ((∀ o ∈ cs, o.length = one.length) → two.length = one.length → sCall gs wf n i [rowsV b c cs, keyV d one, keyV e two])
theorem filt_room (cs : List (List Int)) (one two : List Int) : ((pinsL cs one).filter fun p : Nat => !decide (gI two p = gI one p)).isEmpty = roomL cs one two := by
  unfold roomL
  induction pinsL cs one with
  | nil => rfl
  | cons p r ih =>
    rw [List.filter_cons, List.all_cons, ← ih]
    have : decide (gI two p = gI one p) = decide (gI one p = gI two p) := by simp [eq_comm]
    rw [this]
    cases decide (gI one p = gI two p) <;> rfl
theorem lets_ok (h : gs[i]? = some ⟨3, 4, t_w_lets j⟩) (hf : StarsC gs wf j) : LetsC gs wf i := by
  intro n hn b c d e cs one two
  obtain ⟨e1, s1⟩ := hf (n - 1) (by omega) b c d cs one
  rw [dcall_eq h (by omega), scall_eq h (by omega)]
  simp only [rowsV, keyV] at e1 s1
  simp [t_w_lets, e1, Function.comp_def, List.filter_map, List.isEmpty_map, filt_room]
  refine fun h1 h2 => ⟨⟨s1 h1, fun p hp => at_mapN (by have := pinsL_lt hp; omega)⟩, cmpS_nil (.inl rfl) (noStrL_map fun x _ => by simp [noStr, noStrL]) (Nat.le_trans (depL_map (m := 1) fun x _ => by simp [dep, depL]) (by omega))⟩
@[simp] theorem andT_bb (p q : Bool) : andT (.bl p) (.bl q) = .bl (p && q) := by cases p <;> rfl
@[simp] theorem orT_bb (p q : Bool) : orT (.bl p) (.bl q) = .bl (p || q) := by cases p <;> rfl
@[simp] theorem cmpT_eqT (a b : List Int) : cmpT .eq (tupI a) (tupI b) = decide (a = b) := eqP_tupI a b
@[simp] theorem cmpT_neT (a b : List Int) : cmpT .ne (tupI a) (tupI b) = !decide (a = b) := by
  show (!eqP (tupI a) (tupI b)) = _
  rw [eqP_tupI]
@[simp] theorem cmpS_eqT (a b : List Int) : cmpS .eq (tupI a) (tupI b) = True := by simp [cmpS, shp_tupI]
@[simp] theorem cmpS_neT (a b : List Int) : cmpS .ne (tupI a) (tupI b) = True := by simp [cmpS, shp_tupI]
def matesL (cs ks : List (List Int)) (a : List Int) : List (List Int × List Int) := (ks.filter fun q => !decide (q = a) && roomL cs a q).map fun q => (a, q)
def pairsL (cs ks : List (List Int)) : List (List Int × List Int) := ks.flatMap (matesL cs ks)
theorem foldl_cat {α β : Type} (g : β → List α) : ∀ (L : List β) (a : List α), L.foldl (fun a k => a ++ g k) a = a ++ L.flatMap g
  | [], a => by simp
  | x :: r, a => by simp [foldl_cat g r]
def LoudC (gs : List Gn) (wf i : Nat) : Prop := ∀ n, 3 ≤ n → ∀ (b c : Bool) (cs ks : List (List Int)),
  dCall gs wf n i [rowsV b false cs, cv c (ks.map tupI)] = .lst (sortL ((pairsL cs ks).map pairV)) ∧ (∀ m, ks.length ≤ 1000 → (∀ o ∈ cs, o.length = m) → (∀ k ∈ ks, k.length = m) → sCall gs wf n i [rowsV b false cs, cv c (ks.map tupI)])
theorem loud_ok (h : gs[i]? = some ⟨2, 5, t_w_loud j⟩) (hf : LetsC gs wf j) : LoudC gs wf i := by
  intro n hn b c cs ks
  have e : ∀ one two, dCall gs wf (n - 1) j [rowsV b false cs, tupI one, tupI two] = .bl (roomL cs one two) := fun one two => (hf (n - 1) (by omega) b false false false cs one two).1
  have s : ∀ one two, (∀ o ∈ cs, o.length = one.length) → two.length = one.length → sCall gs wf (n - 1) j [rowsV b false cs, tupI one, tupI two] := fun one two => (hf (n - 1) (by omega) b false false false cs one two).2
  rw [dcall_eq h (by omega), scall_eq h (by omega)]
  refine ⟨?_, fun m h1 h2 h3 => ?_⟩
  · simp [t_w_loud]
    rw [forT_fold (sl := fun a : List PV => [some (rowsV b false cs), some (cv c (ks.map tupI)), some (.lst a), none, none]) (step := fun a k => a ++ (matesL cs ks k).map pairV) ks [] ?_, foldl_cat]
    · simp [pairsL, List.map_flatMap]
    · intro a k hk
      simp [e, matesL, pairV, Function.comp_def, List.filter_map]
  · have hst : ∀ (a : List PV) (k : List Int), k ∈ ks → nrm [3] (bodyT (dCall gs wf (n - 1)) wf (.one 3) (.seq (.asg (.one 2) (.bin false .add (.var 2) (.lc false (.itr .seq (.cons (.var 1) .nil)) (.one 4) [4] (.and (.cmp .ne (.var 4) (.var 3)) (.call j (.cons (.var 0) (.cons (.var 3) (.cons (.var 4) .nil))))) (.tup (.cons (.var 3) (.cons (.var 4) .nil)))))) .skip) (tupI k) [some (rowsV b false cs), some (cv c (ks.map tupI)), some (.lst a), none, none]) = (.nx, [some (rowsV b false cs), some (cv c (ks.map tupI)), some (.lst (a ++ (matesL cs ks k).map pairV)), none, none]) := fun a k hk => by
      simp [e, matesL, pairV, Function.comp_def, List.filter_map]
    simp [t_w_loud]
    rw [forT_fold (sl := fun a : List PV => [some (rowsV b false cs), some (cv c (ks.map tupI)), some (.lst a), none, none]) (step := fun a k => a ++ (matesL cs ks k).map pairV) ks [] hst, foldl_cat]
    have hg : groundL ((pairsL cs ks).map pairV) = true := groundL_of fun y hy => by
      obtain ⟨q, _, rfl⟩ := List.mem_map.mp hy
      exact gr_pair q
    have hso := sortable_pairs (pairsL cs ks)
    have hfm : ks.flatMap (fun k => (matesL cs ks k).map pairV) = (pairsL cs ks).map pairV := by simp [pairsL, List.map_flatMap]
    simp [hfm, hso]
    refine ⟨?_, sort_ground hg⟩
    refine forS_foldN (sl := fun a : List PV => [some (rowsV b false cs), some (cv c (ks.map tupI)), some (.lst a), none, none]) (step := fun a k => a ++ (matesL cs ks k).map pairV) (I := fun j a => a.length ≤ j * 1000 ∧ groundL a = true) ks [] 0 ⟨by simp, rfl⟩ fun q a k hk hj => ?_
    have hkm := List.mem_of_getElem? hk
    have hql := (List.getElem?_eq_some_iff.mp hk).1
    have hml : (matesL cs ks k).length ≤ 1000 := by
      unfold matesL
      rw [List.length_map]
      exact Nat.le_trans (List.length_filter_le _ _) h1
    have hmg : groundL ((matesL cs ks k).map pairV) = true := groundL_of fun y hy => by
      obtain ⟨q, _, rfl⟩ := List.mem_map.mp hy
      exact gr_pair q
    have sk : ∀ z ∈ ks, sCall gs wf (n - 1) j [rowsV b false cs, tupI k, tupI z] := fun z hz => s k z (fun o ho => by rw [h2 o ho, h3 k hkm]) (by rw [h3 z hz, h3 k hkm])
    refine ⟨hst a k hkm, ?_, ?_, ?_⟩
    · simp [e, Function.comp_def, List.filter_map]
      have hl := List.length_filter_le (fun x => !decide (x = k) && roomL cs k x) ks
      have hq : a.length ≤ q * 1000 := by have := hj.1; rwa [Nat.zero_add] at this
      have hq2 : q * 1000 ≤ 1000 * 1000 := Nat.mul_le_mul_right _ (by omega)
      exact ⟨⟨fun z hz _ => sk z hz, by omega⟩, hj.2⟩
    · rw [List.length_append, List.length_map, Nat.add_mul]; omega
    · rw [gr_app, hj.2, hmg]; rfl
def ChiefC (gs : List Gn) (wf tk i : Nat) : Prop := ∀ n, 4 ≤ n → ∀ (b : Nat) (ds : List Int) (most : Nat) Q, 1 ≤ ds.length → ds.length ≤ 100 → (∀ d ∈ ds, 1 ≤ d ∧ d ≤ 1000000000) → 1 ≤ most → most ≤ 50 → 10000 ≤ b →
  (∀ (cs : List (List Int)) b', cs.Pairwise (· < ·) → 1 ≤ cs.length → cs.length ≤ most → (∀ k ∈ cs, KeyOk ds k) → b ≤ b' + 10000 → Q (.tup (cs.map tupI)) b') → wCall gs wf tk n i [.ref 0, tupI ds, .int most] b Q
theorem chief_ok {tk t : Nat} (h : gs[i]? = some ⟨3, 4, t_w_chief tk t⟩) (hi : i ≠ tk) (ht : ToothC gs wf tk t) : ChiefC gs wf tk i := by
  intro n hn b ds most Q d1 d2 d3 m1 m2 hb hq
  rw [wcall_eq h (by omega) hi]
  simp [t_w_chief, bf]
  refine w_take (by omega) (by omega) (by omega) (by omega) fun u u1 u2 => ?_
  obtain ⟨K, hK⟩ : ∃ K : Nat, 1 + u = (K : Int) := ⟨(1 + u).toNat, by omega⟩
  simp [hK]
  refine ⟨⟨rg_nat (by omega), by omega⟩, lcW 100 (fun _ y => ∃ k : List Int, y = tupI k ∧ KeyOk ds k) (by simp; omega) (fun x hx b3 hb3 => ?_) fun ys b3 hp hb3 => ?_⟩
  · simp [bf]
    refine ht (n - 1) (by omega) b3 ds _ (by omega) (fun d hd => by have := d3 d hd; omega) (by omega) fun k b4 hk hb4 => ?_
    simp
    exact ⟨⟨k, rfl, hk⟩, by omega⟩
  · obtain ⟨L, rfl, l1, l2⟩ := pw_of hp
    simp at l1 hb3
    obtain ⟨t1, ks, e, k1, k2, k3, k4⟩ := bunch_set d1 (by omega) l2
    simp [bf, t1, e]
    refine hq ks _ k1 ?_ (by omega) k2 (by omega)
    cases L with
    | nil => simp at l1; omega
    | cons x r =>
      have := (k4 x).mpr (by simp)
      cases ks with
      | nil => simp at this
      | cons _ _ => simp
end
end Dn

/-! openers, opened ones, the first clash -/
namespace Dn
open PySem Ev
def t_openers_of (itupled iopens_room : Nat) : T := (.seq (.ret (.bi false .tuple1 (.cons (.lc false (.itr .seq (.cons (.call itupled (.cons (.var 1) .nil)) .nil)) (.one 3) [3] (.call iopens_room (.cons (.var 0) (.cons (.var 3) (.cons (.var 2) .nil)))) (.var 3)) .nil))) .skip)
def t_opened_by (itupled iopens_room : Nat) : T := (.seq (.ret (.bi false .tuple1 (.cons (.lc false (.itr .seq (.cons (.call itupled (.cons (.var 1) .nil)) .nil)) (.one 3) [3] (.call iopens_room (.cons (.var 0) (.cons (.var 2) (.cons (.var 3) .nil)))) (.var 3)) .nil))) .skip)
def t_clash (itupled iopens_room : Nat) : T := (.seq (.asg (.one 2) (.call itupled (.cons (.var 1) .nil))) (.seq (.for_ (.itr .seq (.cons (.var 2) .nil)) (.one 3) (.seq (.for_ (.itr .seq (.cons (.var 2) .nil)) (.one 4) (.seq (.ite (.and (.cmp .ne (.var 3) (.var 4)) (.call iopens_room (.cons (.var 0) (.cons (.var 3) (.cons (.var 4) .nil))))) (.seq (.ret (.tup (.cons (.var 3) (.cons (.var 4) .nil)))) .skip) .skip) .skip) [4]) .skip) [3, 4]) (.seq (.ret (.cst (.non))) .skip)))
/-- a loop that looks for the first one that tells something -/
theorem forT_fs {β : Type} {fg : List Nat} {f : PV → Slots → R} {h : β → PV} {ρ : Slots} {g : β → Option PV} : ∀ (L : List β), (∀ x ∈ L, nrm fg (f (h x) ρ) = match g x with
    | some v => (.rt v, [])
    | none => (.nx, ρ)) → forT fg f (L.map h) ρ = match L.findSome? g with
    | some v => (.rt v, [])
    | none => (.nx, ρ)
  | [], _ => rfl
  | x :: r, hs => by
    have ih := forT_fs r fun y hy => hs y (by simp [hy])
    simp only [List.map_cons, forT, hs x (by simp), List.findSome?_cons]
    cases hp : g x with
    | some v => simp [hp]
    | none => simpa [hp] using ih
theorem forS_fs {β : Type} {fg : List Nat} {f : PV → Slots → R} {q : PV → Slots → Prop} {h : β → PV} {ρ : Slots} {g : β → Option PV} : ∀ (L : List β), (∀ x ∈ L, nrm fg (f (h x) ρ) = match g x with
    | some v => (.rt v, [])
    | none => (.nx, ρ)) → (∀ x ∈ L, q (h x) ρ) → forS fg f q (L.map h) ρ
  | [], _, _ => trivial
  | x :: r, hs, hg => by
    have ih := forS_fs (q := q) r (fun y hy => hs y (by simp [hy])) fun y hy => hg y (by simp [hy])
    simp only [List.map_cons, forS, hs x (by simp)]
    refine ⟨hg x (by simp), ?_⟩
    cases hp : g x with
    | some v => simp
    | none => simpa using ih
section
variable {gs : List Gn} {wf i j t : Nat}
def OpenersC (gs : List Gn) (wf i : Nat) : Prop := ∀ n, 5 ≤ n → ∀ (b c b' c' d : Bool) (cs ks : List (List Int)) (k : List Int),
  dCall gs wf n i [rowsV b c cs, rowsV b' c' ks, keyV d k] = .tup ((ks.filter fun q => roomL cs q k).map tupI) ∧
  (k.length ≤ 1000 → (∀ o ∈ cs, o.length = k.length) → (∀ o ∈ ks, o.length = k.length) → sCall gs wf n i [rowsV b c cs, rowsV b' c' ks, keyV d k])
theorem openers_ok (h : gs[i]? = some ⟨3, 4, t_openers_of t j⟩) (ht : TupledC gs wf t) (ho : OpensC gs wf j) : OpenersC gs wf i := by
  intro n hn b c b' c' d cs ks k
  have ht' := ht (n - 1) (rowsV b' c' ks) (gr_rowsV b' c' ks) (by have := dep_rowsV b' c' ks; omega)
  have e1 : dCall gs wf (n - 1) t [rowsV b' c' ks] = .tup (ks.map tupI) := by rw [ht'.1, toTup_rows]
  have e2 : ∀ q, dCall gs wf (n - 1) j [rowsV b c cs, tupI q, keyV d k] = .bl (roomL cs q k) := fun q => (ho (n - 1) (by omega) b c false d cs q k).1
  have s2 : ∀ q, q.length ≤ 1000 → (∀ o ∈ cs, o.length = q.length) → k.length = q.length → sCall gs wf (n - 1) j [rowsV b c cs, tupI q, keyV d k] := fun q => (ho (n - 1) (by omega) b c false d cs q k).2
  have s1 := ht'.2
  rw [dcall_eq h (by omega), scall_eq h (by omega)]
  simp only [rowsV, keyV] at e1 s1 e2 s2
  simp [t_openers_of, e1, s1, e2, Function.comp_def, List.filter_map]
  intro h1 h2 h3 q hq
  exact s2 q (by rw [h3 q hq]; exact h1) (fun o ho => by rw [h2 o ho, h3 q hq]) (h3 q hq).symm
def OpenedC (gs : List Gn) (wf i : Nat) : Prop := ∀ n, 5 ≤ n → ∀ (b c b' c' d : Bool) (cs ks : List (List Int)) (k : List Int),
  dCall gs wf n i [rowsV b c cs, rowsV b' c' ks, keyV d k] = .tup ((ks.filter fun q => roomL cs k q).map tupI) ∧
  (k.length ≤ 1000 → (∀ o ∈ cs, o.length = k.length) → (∀ o ∈ ks, o.length = k.length) → sCall gs wf n i [rowsV b c cs, rowsV b' c' ks, keyV d k])
theorem opened_ok (h : gs[i]? = some ⟨3, 4, t_opened_by t j⟩) (ht : TupledC gs wf t) (ho : OpensC gs wf j) : OpenedC gs wf i := by
  intro n hn b c b' c' d cs ks k
  have ht' := ht (n - 1) (rowsV b' c' ks) (gr_rowsV b' c' ks) (by have := dep_rowsV b' c' ks; omega)
  have e1 : dCall gs wf (n - 1) t [rowsV b' c' ks] = .tup (ks.map tupI) := by rw [ht'.1, toTup_rows]
  have e2 : ∀ q, dCall gs wf (n - 1) j [rowsV b c cs, keyV d k, tupI q] = .bl (roomL cs k q) := fun q => (ho (n - 1) (by omega) b c d false cs k q).1
  have s2 : ∀ q, k.length ≤ 1000 → (∀ o ∈ cs, o.length = k.length) → q.length = k.length → sCall gs wf (n - 1) j [rowsV b c cs, keyV d k, tupI q] := fun q => (ho (n - 1) (by omega) b c d false cs k q).2
  have s1 := ht'.2
  rw [dcall_eq h (by omega), scall_eq h (by omega)]
  simp only [rowsV, keyV] at e1 s1 e2 s2
  simp [t_opened_by, e1, s1, e2, Function.comp_def, List.filter_map]
  intro h1 h2 h3 q hq
  exact s2 q h1 h2 (h3 q hq)
def mateO (cs ks : List (List Int)) (a : List Int) : Option (List Int × List Int) := (ks.find? fun q => !decide (a = q) && roomL cs a q).map fun q => (a, q)
def clashL (cs ks : List (List Int)) : Option (List Int × List Int) := ks.findSome? (mateO cs ks)
def optP : Option (List Int × List Int) → PV
  | some x => pairV x
  | none => .non
theorem clash_pairs (cs ks : List (List Int)) : (pairsL cs ks).head? = clashL cs ks := by
  unfold pairsL clashL
  rw [List.head?_flatMap]
  congr 1
  funext a
  unfold matesL mateO
  rw [List.head?_map, List.head?_filter]
  congr 2
  funext q
  simp [eq_comm]
theorem pairsA_sorted {cs ks : List (List Int)} (hk : ks.Pairwise (· < ·)) : ∀ {as : List (List Int)}, as.Pairwise (· < ·) → ((as.flatMap (matesL cs ks)).map pairV).Pairwise (fun x y => ltP y x = false)
  | [], _ => by simp
  | a :: as, h => by
    rw [List.pairwise_cons] at h
    have ih := pairsA_sorted (cs := cs) hk h.2
    rw [List.pairwise_map] at ih ⊢
    rw [List.flatMap_cons, List.pairwise_append]
    refine ⟨?_, ih, fun x hx y hy => ?_⟩
    · unfold matesL
      rw [List.pairwise_map]
      refine (hk.filter _).imp fun hab => ?_
      rw [ltP_pair, if_pos rfl]
      exact decide_eq_false (row_asym hab)
    · unfold matesL at hx
      obtain ⟨q, _, rfl⟩ := List.mem_map.mp hx
      obtain ⟨a2, ha2, hy⟩ := List.mem_flatMap.mp hy
      unfold matesL at hy
      obtain ⟨q2, _, rfl⟩ := List.mem_map.mp hy
      have hlt := h.1 a2 ha2
      rw [ltP_pair, if_neg (fun z : a2 = a => row_irr a (z ▸ hlt))]
      exact decide_eq_false (row_asym hlt)
theorem sort_pairs {cs ks : List (List Int)} (hk : ks.Pairwise (· < ·)) : sortL ((pairsL cs ks).map pairV) = (pairsL cs ks).map pairV := sortL_id (pairsA_sorted hk hk)
def ClashC (gs : List Gn) (wf i : Nat) : Prop := ∀ n, 5 ≤ n → ∀ (b c b' c' : Bool) (cs ks : List (List Int)),
  dCall gs wf n i [rowsV b c cs, rowsV b' c' ks] = optP (clashL cs ks) ∧
  (∀ m, m ≤ 1000 → (∀ o ∈ cs, o.length = m) → (∀ o ∈ ks, o.length = m) → sCall gs wf n i [rowsV b c cs, rowsV b' c' ks])
theorem clash_ok (h : gs[i]? = some ⟨2, 5, t_clash t j⟩) (ht : TupledC gs wf t) (ho : OpensC gs wf j) : ClashC gs wf i := by
  intro n hn b c b' c' cs ks
  have ht' := ht (n - 1) (rowsV b' c' ks) (gr_rowsV b' c' ks) (by have := dep_rowsV b' c' ks; omega)
  have e1 : dCall gs wf (n - 1) t [rowsV b' c' ks] = .tup (ks.map tupI) := by rw [ht'.1, toTup_rows]
  have e2 : ∀ a q, dCall gs wf (n - 1) j [rowsV b c cs, tupI a, tupI q] = .bl (roomL cs a q) := fun a q => (ho (n - 1) (by omega) b c false false cs a q).1
  have s2 : ∀ a q, a.length ≤ 1000 → (∀ o ∈ cs, o.length = a.length) → q.length = a.length → sCall gs wf (n - 1) j [rowsV b c cs, tupI a, tupI q] := fun a q => (ho (n - 1) (by omega) b c false false cs a q).2
  have s1 := ht'.2
  rw [dcall_eq h (by omega), scall_eq h (by omega)]
  simp only [rowsV, keyV] at e1 s1 e2 s2
  have inner : ∀ a : List Int, forT [4] (bodyT (dCall gs wf (n - 1)) wf (.one 4) (.seq (.ite (.and (.cmp .ne (.var 3) (.var 4)) (.call j (.cons (.var 0) (.cons (.var 3) (.cons (.var 4) .nil))))) (.seq (.ret (.tup (.cons (.var 3) (.cons (.var 4) .nil)))) .skip) .skip) .skip)) (ks.map tupI) [some (rowsV b c cs), some (rowsV b' c' ks), some (.tup (ks.map tupI)), some (tupI a), none] = match mateO cs ks a with
      | some x => (.rt (pairV x), [])
      | none => (.nx, [some (rowsV b c cs), some (rowsV b' c' ks), some (.tup (ks.map tupI)), some (tupI a), none]) := fun a => by
    rw [forT_find (p := fun q => !decide (a = q) && roomL cs a q) (v := fun q => pairV (a, q)) ks ?_]
    · unfold mateO
      cases ks.find? fun q => !decide (a = q) && roomL cs a q <;> rfl
    · intro q hq
      simp [e2, pairV]
  have outer : ∀ a ∈ ks, nrm [3, 4] (bodyT (dCall gs wf (n - 1)) wf (.one 3) (.seq (.for_ (.itr .seq (.cons (.var 2) .nil)) (.one 4) (.seq (.ite (.and (.cmp .ne (.var 3) (.var 4)) (.call j (.cons (.var 0) (.cons (.var 3) (.cons (.var 4) .nil))))) (.seq (.ret (.tup (.cons (.var 3) (.cons (.var 4) .nil)))) .skip) .skip) .skip) [4]) .skip) (tupI a) [some (rowsV b c cs), some (rowsV b' c' ks), some (.tup (ks.map tupI)), none, none]) = match (mateO cs ks a).map pairV with
      | some v => (.rt v, [])
      | none => (.nx, [some (rowsV b c cs), some (rowsV b' c' ks), some (.tup (ks.map tupI)), none, none]) := fun a _ => by
    have := inner a
    simp only [rowsV, keyV] at this
    simp [this]
    cases mateO cs ks a <;> simp
  have hfs : ks.findSome? (fun a => (mateO cs ks a).map pairV) = (clashL cs ks).map pairV := by
    unfold clashL
    rw [List.map_findSome?]
    rfl
  simp only [rowsV, keyV] at inner outer
  refine ⟨?_, fun m h1 h2 h3 => ?_⟩
  · simp [t_clash, e1]
    rw [forT_fs (g := fun a => (mateO cs ks a).map pairV) ks outer, hfs]
    cases clashL cs ks <;> simp [optP, pairV]
  · simp [t_clash, e1, s1]
    rw [forT_fs (g := fun a => (mateO cs ks a).map pairV) ks outer, hfs]
    refine ⟨⟨?_, ?_⟩, ?_⟩
    · refine forS_fs (g := fun a => (mateO cs ks a).map pairV) ks outer fun a ha => ?_
      simp [inner]
      refine ⟨forS_find (p := fun q => !decide (a = q) && roomL cs a q) (v := fun q => pairV (a, q)) ks (fun q hq => by simp [e2, pairV]) fun q hq => ?_, ?_⟩
      · simp [e2]
        intro _
        exact s2 a q (by rw [h3 a ha]; exact h1) (fun o ho => by rw [h2 o ho, h3 a ha]) (by rw [h3 q hq, h3 a ha])
      · cases mateO cs ks a <;> simp
    · cases clashL cs ks <;> simp
    · cases clashL cs ks <;> simp [gr_pair]
end
end Dn

/-! all keys, quiet keys -/
namespace Dn
open PySem Ev
def t_w_teeth : T := (.seq (.asg (.one 1) (.lst false (.cons (.tup .nil) .nil))) (.seq (.for_ (.itr .seq (.cons (.var 0) .nil)) (.one 2) (.seq (.asg (.one 3) (.lst false .nil)) (.seq (.for_ (.itr .seq (.cons (.var 1) .nil)) (.one 4) (.seq (.asg (.one 3) (.bin false .add (.var 3) (.lc false (.itr .range1 (.cons (.var 2) .nil)) (.one 5) [5] (.cst (.bl true)) (.bin false .add (.var 4) (.tup (.cons (.var 5) .nil)))))) .skip) [4]) (.seq (.asg (.one 1) (.var 3)) .skip))) [2, 4, 3]) (.seq (.ret (.var 1)) .skip)))
def t_w_quiet (i_law_tooth i_law_loud : Nat) : T := (.seq (.asg (.one 4) (.lst true .nil)) (.seq (.for_ (.itr .range1 (.cons (.bin false .mul (.cst (.int 2)) (.var 3)) .nil)) (.one 5) (.seq (.asg (.one 6) (.call i_law_tooth (.cons (.var 0) (.cons (.var 1) .nil)))) (.seq (.ite (.and (.cmp .lt (.bi false .len (.cons (.var 4) .nil)) (.var 3)) (.and (.cmp .nin (.var 6) (.var 4)) (.cmp .eq (.call i_law_loud (.cons (.var 2) (.cons (.bin false .add (.var 4) (.lst false (.cons (.var 6) .nil))) .nil))) (.lst false .nil)))) (.seq (.app 4 (.var 6)) .skip) .skip) .skip)) [5, 6]) (.seq (.ret (.bi false .tuple1 (.cons (.bi false .sorted1 (.cons (.var 4) .nil)) .nil))) .skip)))
theorem anyEq_rows (ks : List (List Int)) (k : List Int) : anyEq (ks.map tupI) (tupI k) = decide (k ∈ ks) := by
  unfold anyEq
  rw [List.any_map]
  induction ks with
  | nil => rfl
  | cons y r ih =>
    rw [List.any_cons, ih]
    simp only [Function.comp_def, eqP_tupI, List.mem_cons, Bool.decide_or]
    congr 1
    simp [eq_comm]
theorem shp_rows (b : Bool) (ks : List (List Int)) : shp (cv b (ks.map tupI)) = true := shp_of (by rw [noStr_cv]; exact noStr_rows ks) (by rw [dep_cv]; have := dep_rows ks; omega)
theorem cmpT_ninR (k : List Int) (v : PV) (ks : List (List Int)) (h : itemsT v = ks.map tupI) : cmpT .nin (tupI k) v = !decide (k ∈ ks) := by
  show (!anyEq (itemsT v) (tupI k)) = _
  rw [h, anyEq_rows]
theorem cmpT_innR (k : List Int) (v : PV) (ks : List (List Int)) (h : itemsT v = ks.map tupI) : cmpT .inn (tupI k) v = decide (k ∈ ks) := by
  show anyEq (itemsT v) (tupI k) = _
  rw [h, anyEq_rows]
@[simp] theorem cmpT_ninT (k : List Int) (ks : List (List Int)) : cmpT .nin (tupI k) (.tup (ks.map tupI)) = !decide (k ∈ ks) := cmpT_ninR k _ ks rfl
@[simp] theorem cmpT_ninLr (k : List Int) (ks : List (List Int)) : cmpT .nin (tupI k) (.lst (ks.map tupI)) = !decide (k ∈ ks) := cmpT_ninR k _ ks rfl
@[simp] theorem cmpT_ninA (k : List Int) (ks : List (List Int)) : cmpT .nin (tupI k) (.arg (ks.map tupI)) = !decide (k ∈ ks) := cmpT_ninR k _ ks rfl
@[simp] theorem cmpT_innT (k : List Int) (ks : List (List Int)) : cmpT .inn (tupI k) (.tup (ks.map tupI)) = decide (k ∈ ks) := cmpT_innR k _ ks rfl
@[simp] theorem cmpT_innLr (k : List Int) (ks : List (List Int)) : cmpT .inn (tupI k) (.lst (ks.map tupI)) = decide (k ∈ ks) := cmpT_innR k _ ks rfl
@[simp] theorem cmpS_ninT (k : List Int) (ks : List (List Int)) : cmpS .nin (tupI k) (.tup (ks.map tupI)) = True := by
  have : shp (.tup (ks.map tupI)) = true := shp_rows false ks
  simp [cmpS, shp_tupI, this]
@[simp] theorem cmpS_innT (k : List Int) (ks : List (List Int)) : cmpS .inn (tupI k) (.tup (ks.map tupI)) = True := by
  have : shp (.tup (ks.map tupI)) = true := shp_rows false ks
  simp [cmpS, shp_tupI, this]
@[simp] theorem cmpS_ninLr (k : List Int) (ks : List (List Int)) : cmpS .nin (tupI k) (.lst (ks.map tupI)) = True := by
  have : shp (.lst (ks.map tupI)) = true := shp_rows true ks
  simp [cmpS, shp_tupI, this]
@[simp] theorem cmpS_innLr (k : List Int) (ks : List (List Int)) : cmpS .inn (tupI k) (.lst (ks.map tupI)) = True := by
  have : shp (.lst (ks.map tupI)) = true := shp_rows true ks
  simp [cmpS, shp_tupI, this]
@[simp] theorem cmpS_ninA (k : List Int) (ks : List (List Int)) : cmpS .nin (tupI k) (.arg (ks.map tupI)) = True := by
  have : shp (.lst (ks.map tupI)) = true := shp_rows true ks
  simp [cmpS, shp_tupI, this]
/-! all keys -/
def growK (L : List (List Int)) (d : Int) : List (List Int) := L.flatMap fun k => (List.range d.toNat).map fun c : Nat => k ++ [(c : Int)]
def teethL (ds : List Int) : List (List Int) := ds.foldl growK [[]]
theorem grow_mem {ds : List Int} : ∀ {L : List (List Int)} {k : List Int}, k ∈ ds.foldl growK L ↔ ∃ a ∈ L, ∃ b, KeyOk ds b ∧ k = a ++ b := by
  induction ds with
  | nil =>
    intro L k
    simp only [List.foldl_nil]
    constructor
    · intro h; exact ⟨k, h, [], trivial, by simp⟩
    · rintro ⟨a, ha, b, hb, rfl⟩
      cases b with
      | nil => simpa using ha
      | cons _ _ => exact hb.elim
  | cons d ds ih =>
    intro L k
    rw [List.foldl_cons, ih]
    constructor
    · rintro ⟨a, ha, b, hb, rfl⟩
      obtain ⟨a0, ha0, h1⟩ := List.mem_flatMap.mp ha
      obtain ⟨c, hc, rfl⟩ := List.mem_map.mp h1
      have := List.mem_range.mp hc
      exact ⟨a0, ha0, (c : Int) :: b, ⟨by omega, by omega, hb⟩, by simp⟩
    · rintro ⟨a, ha, b, hb, rfl⟩
      cases b with
      | nil => exact hb.elim
      | cons c b =>
        obtain ⟨h1, h2, h3⟩ := hb
        obtain ⟨n, rfl⟩ := Int.eq_ofNat_of_zero_le h1
        exact ⟨a ++ [(n : Int)], List.mem_flatMap.mpr ⟨a, ha, List.mem_map.mpr ⟨n, List.mem_range.mpr (by omega), rfl⟩⟩, b, h3, by simp⟩
theorem teeth_mem {ds k : List Int} : k ∈ teethL ds ↔ KeyOk ds k := by
  unfold teethL
  rw [grow_mem]
  constructor
  · rintro ⟨a, ha, b, hb, rfl⟩
    simp at ha; subst ha; simpa using hb
  · intro h; exact ⟨[], by simp, k, h, by simp⟩
theorem grow_len (L : List (List Int)) (d : Int) : (growK L d).length = L.length * d.toNat := by
  unfold growK
  rw [List.length_flatMap]
  induction L with
  | nil => simp
  | cons a r ih => simp at ih; simp [ih, Nat.add_mul, Nat.add_comm]
theorem grow_mono : ∀ {ds : List Int} {L : List (List Int)}, (∀ d ∈ ds, 1 ≤ d) → L.length ≤ (ds.foldl growK L).length
  | [], L, _ => Nat.le_refl _
  | d :: ds, L, h => by
    rw [List.foldl_cons]
    refine Nat.le_trans ?_ (grow_mono fun x hx => h x (by simp [hx]))
    rw [grow_len]
    have := h d (by simp)
    exact Nat.le_mul_of_pos_right _ (by omega)
theorem teeth_take {ds : List Int} (h : ∀ d ∈ ds, 1 ≤ d) (j : Nat) : (teethL (ds.take j)).length ≤ (teethL ds).length := by
  have e : teethL ds = (ds.drop j).foldl growK (teethL (ds.take j)) := by
    unfold teethL
    rw [← List.foldl_append, List.take_append_drop]
  rw [e]
  exact grow_mono fun d hd => h d (List.mem_of_mem_drop hd)
theorem teeth_max {M : Nat} : ∀ {ds : List Int} {L : List (List Int)}, (∀ d ∈ ds, d ≤ M) → (ds.foldl growK L).length ≤ L.length * M ^ ds.length
  | [], L, _ => by simp
  | d :: ds, L, h => by
    rw [List.foldl_cons]
    refine Nat.le_trans (teeth_max fun x hx => h x (by simp [hx])) ?_
    rw [grow_len, List.length_cons, Nat.pow_succ, Nat.mul_comm (M ^ ds.length) M, ← Nat.mul_assoc]
    refine Nat.mul_le_mul_right _ (Nat.mul_le_mul_left _ ?_)
    have := h d (by simp)
    omega
section
variable {gs : List Gn} {wf i j tk : Nat}
def TeethC (gs : List Gn) (wf i : Nat) : Prop := ∀ n, 1 ≤ n → ∀ (d : Bool) (ds : List Int),
  dCall gs wf n i [keyV d ds] = .lst ((teethL ds).map tupI) ∧ (ds.length ≤ 1000 → (∀ d ∈ ds, 1 ≤ d ∧ d ≤ 1000) → (teethL ds).length ≤ 1000000 → sCall gs wf n i [keyV d ds])
theorem teeth_ok (h : gs[i]? = some ⟨1, 6, t_w_teeth⟩) : TeethC gs wf i := by
  intro n hn d ds
  have inner : ∀ (v : PV) (dd : Int) (L : List (List Int)) (a : List PV), forT [4] (bodyT (dCall gs wf (n - 1)) wf (.one 4) (.seq (.asg (.one 3) (.bin false .add (.var 3) (.lc false (.itr .range1 (.cons (.var 2) .nil)) (.one 5) [5] (.cst (.bl true)) (.bin false .add (.var 4) (.tup (.cons (.var 5) .nil)))))) .skip)) (L.map tupI) [some (keyV d ds), some v, some (.int dd), some (.lst a), none, none] =
      (.nx, [some (keyV d ds), some v, some (.int dd), some (.lst (a ++ (growK L dd).map tupI)), none, none]) := fun v dd L a => by
    rw [forT_fold (sl := fun a : List PV => [some (keyV d ds), some v, some (.int dd), some (.lst a), none, none]) (step := fun a k => a ++ ((List.range dd.toNat).map fun c : Nat => tupI (k ++ [(c : Int)]))) L a ?_, foldl_cat]
    · simp [growK, List.map_flatMap, Function.comp_def]
    · intro a k hk
      simp [tupI, Function.comp_def]
  have turn : ∀ (L : List (List Int)) (dd : Int), dd ∈ ds → nrm [2, 4, 3] (bodyT (dCall gs wf (n - 1)) wf (.one 2) (.seq (.asg (.one 3) (.lst false .nil)) (.seq (.for_ (.itr .seq (.cons (.var 1) .nil)) (.one 4) (.seq (.asg (.one 3) (.bin false .add (.var 3) (.lc false (.itr .range1 (.cons (.var 2) .nil)) (.one 5) [5] (.cst (.bl true)) (.bin false .add (.var 4) (.tup (.cons (.var 5) .nil)))))) .skip) [4]) (.seq (.asg (.one 1) (.var 3)) .skip))) (.int dd) [some (keyV d ds), some (.lst (L.map tupI)), none, none, none, none]) = (.nx, [some (keyV d ds), some (.lst ((growK L dd).map tupI)), none, none, none, none]) := fun L dd _ => by
    have := inner (.lst (L.map tupI)) dd L []
    simp only [keyV] at this
    simp [this]
  rw [dcall_eq h hn, scall_eq h hn]
  have h0 : [PV.tup []] = ([[]] : List (List Int)).map tupI := rfl
  refine ⟨?_, fun h1 h2 h3 => ?_⟩
  · simp [t_w_teeth]
    rw [h0, forT_fold (sl := fun L : List (List Int) => [some (keyV d ds), some (.lst (L.map tupI)), none, none, none, none]) (step := growK) ds [[]] turn]
    simp [teethL]
  · simp [t_w_teeth]
    rw [h0, forT_fold (sl := fun L : List (List Int) => [some (keyV d ds), some (.lst (L.map tupI)), none, none, none, none]) (step := growK) ds [[]] turn]
    refine ⟨⟨?_, ?_⟩, ?_⟩
    · refine forS_foldN (sl := fun L : List (List Int) => [some (keyV d ds), some (.lst (L.map tupI)), none, none, none, none]) (step := growK) (I := fun j L => L = teethL (ds.take j)) ds [[]] 0 rfl fun q L dd hd hj => ?_
      rw [Nat.zero_add] at hj ⊢
      have hdm := List.mem_of_getElem? hd
      have hql := (List.getElem?_eq_some_iff.mp hd)
      have hd2 := h2 dd hdm
      have hnx : growK L dd = teethL (ds.take (q + 1)) := by
        rw [hj]
        unfold teethL
        rw [List.take_succ_eq_append_getElem hql.1, List.foldl_append, hql.2]
        rfl
      refine ⟨turn L dd hdm, ?_, hnx⟩
      have hin := inner (.lst (L.map tupI)) dd L []
      simp only [keyV] at hin
      simp [hin]
      have hLl : ∀ k ∈ L, k.length ≤ 1000 := fun k hk => by
        rw [hj] at hk
        have := (teeth_mem.mp hk).len
        rw [this, List.length_take]
        omega
      have hLen : (growK L dd).length ≤ 1000000 := by
        rw [hnx]
        exact Nat.le_trans (teeth_take (fun d hd => (h2 d hd).1) (q + 1)) h3
      refine forS_foldN (sl := fun a : List PV => [some (keyV d ds), some (.lst (L.map tupI)), some (.int dd), some (.lst a), none, none]) (step := fun a k => a ++ ((List.range dd.toNat).map fun c : Nat => tupI (k ++ [(c : Int)]))) (I := fun j a => a.length = j * dd.toNat ∧ groundL a = true) L [] 0 ⟨by simp, rfl⟩ fun r a k hk hr => ?_
      rw [Nat.zero_add] at hr ⊢
      have hkl := hLl k (List.mem_of_getElem? hk)
      have hrl := (List.getElem?_eq_some_iff.mp hk).1
      refine ⟨by simp [tupI, Function.comp_def], ?_, ?_, ?_⟩
      · have hmul : (r + 1) * dd.toNat ≤ L.length * dd.toNat := Nat.mul_le_mul_right _ hrl
        rw [grow_len] at hLen
        rw [Nat.add_mul] at hmul
        have : rgOk dd = true := by simp [rgOk]; omega
        simp [tupI, hr.2, hr.1, this, Function.comp_def]
        exact ⟨⟨by omega, fun _ _ => by omega⟩, by omega⟩
      · rw [List.length_append, hr.1, List.length_map, List.length_range, Nat.add_mul]; omega
      · rw [gr_app, hr.2]; simp
    · simp
    · simp
theorem pairs_nil {cs ks : List (List Int)} (h : pairsL cs ks = []) : ∀ a ∈ ks, ∀ q ∈ ks, q ≠ a → roomL cs a q = false := fun a ha q hq hne => by
  unfold pairsL at h
  have h1 := List.flatMap_eq_nil_iff.mp h a ha
  unfold matesL at h1
  rw [List.map_eq_nil_iff, List.filter_eq_nil_iff] at h1
  have := h1 q hq
  simpa [hne] using this
theorem pairs_of {cs ks : List (List Int)} (h : ∀ a ∈ ks, ∀ q ∈ ks, q ≠ a → roomL cs a q = false) : pairsL cs ks = [] := by
  unfold pairsL
  refine List.flatMap_eq_nil_iff.mpr fun a ha => ?_
  unfold matesL
  rw [List.map_eq_nil_iff, List.filter_eq_nil_iff]
  intro q hq
  by_cases e : q = a
  · simp [e]
  · simp [e, h a ha q hq e]
theorem sort_nodup {L : List (List Int)} (h : L.Nodup) : ∃ ks : List (List Int), sortL (L.map tupI) = ks.map tupI ∧ ks.Pairwise (· < ·) ∧ (∀ k, k ∈ ks ↔ k ∈ L) ∧ ks.length = L.length := by
  obtain ⟨ks, e, k1, k2⟩ := set_rows L
  rw [dedup_rows h] at e
  refine ⟨ks, e, k1, k2, ?_⟩
  have := congrArg List.length e
  rw [sort_len, List.length_map, List.length_map] at this
  exact this.symm
theorem sort_nil {xs : List PV} : (sortL xs).isEmpty = xs.isEmpty := by
  have := sort_len xs
  cases xs with
  | nil => rfl
  | cons x r =>
    cases h : sortL (x :: r) with
    | nil => rw [h] at this; simp at this
    | cons _ _ => rfl
def QuietC (gs : List Gn) (wf tk i : Nat) : Prop := ∀ n, 5 ≤ n → ∀ (b : Nat) (ds : List Int) (cs : List (List Int)) (most : Nat) Q, 1 ≤ ds.length → ds.length ≤ 100 → (∀ d ∈ ds, 1 ≤ d ∧ d ≤ 1000000000) → (∀ k ∈ cs, k.length = ds.length) → most ≤ 100 → 200 * ds.length ≤ b →
  (∀ (ks : List (List Int)) b', ks.Pairwise (· < ·) → ks.length ≤ most → (∀ k ∈ ks, KeyOk ds k) → pairsL cs ks = [] → b ≤ b' + 200 * ds.length → Q (.tup (ks.map tupI)) b') → wCall gs wf tk n i [.ref 0, tupI ds, .tup (cs.map tupI), .int most] b Q
theorem quiet_ok {t l : Nat} (h : gs[i]? = some ⟨4, 7, t_w_quiet t l⟩) (hi : i ≠ tk) (ht : ToothC gs wf tk t) (hl : LoudC gs wf l) : QuietC gs wf tk i := by
  intro n hn b ds cs most Q d1 d2 d3 c1 m1 hb hq
  rw [wcall_eq h (by omega) hi]
  have hmul : mulOk 2 (most : Int) = true := mul_l (by omega) (by omega)
  obtain ⟨M, h2m⟩ : ∃ M : Nat, (2 : Int) * (most : Int) = (M : Int) := ⟨2 * most, by omega⟩
  simp [t_w_quiet, bf, bfT, frE, hmul, h2m]
  have hle : M * ds.length ≤ 200 * ds.length := Nat.mul_le_mul_right _ (by omega)
  refine ⟨⟨rg_nat (by omega), by omega⟩, forW ds.length (fun k ρ' => ∃ ks : List (List Int), ρ' = [some (.ref 0), some (tupI ds), some (.tup (cs.map tupI)), some (.int most), some (.arg (ks.map tupI)), none, none] ∧ ks.Nodup ∧ ks.length ≤ most ∧ (∀ k ∈ ks, KeyOk ds k) ∧ pairsL cs ks = []) (fun _ => False) (by simp; omega) ?_ ?_ ?_ ?_⟩
  · exact ⟨[], by simp, by simp, by simp, by simp, rfl⟩
  · intro k x hx ρ' b1 hI hb1
    obtain ⟨ks, rfl, h1, h2, h3, h4⟩ := hI
    simp [bf]
    refine ht (n - 1) (by omega) b1 ds _ (by omega) d3 (by omega) fun q b2 hq hb2 => ?_
    have lo : dCall gs wf (n - 1) l [.tup (cs.map tupI), .lst (ks.map tupI ++ [tupI q])] = .lst (sortL ((pairsL cs (ks ++ [q])).map pairV)) := by
      have := (hl (n - 1) (by omega) false true cs (ks ++ [q])).1
      rw [List.map_append] at this
      exact this
    have hkl : ∀ k ∈ ks ++ [q], k.length = ds.length := fun k hk => by
      rcases List.mem_append.mp hk with e | e
      · exact (h3 k e).len
      · simp at e; subst e; exact hq.len
    have los : sCall gs wf (n - 1) l [.tup (cs.map tupI), .lst (ks.map tupI ++ [tupI q])] := by
      have := (hl (n - 1) (by omega) false true cs (ks ++ [q])).2 ds.length (by simp; omega) c1 hkl
      rw [List.map_append] at this
      exact this
    have hps : cmpS .eq (.lst (sortL ((pairsL cs (ks ++ [q])).map pairV))) (.lst []) := by
      refine cmpS_nil (.inl rfl) (noStrL_all fun x hx => ?_) (Nat.le_trans (depL_le (n := 2) fun x hx => ?_) (by omega))
      · obtain ⟨p, _, rfl⟩ := List.mem_map.mp (sort_mem hx); exact noStr_pair p
      · obtain ⟨p, _, rfl⟩ := List.mem_map.mp (sort_mem hx); exact dep_pair p
    have hlk : ks.length + 1 ≤ 16777216 := by omega
    by_cases c1 : ks.length < most
    · by_cases c2 : q ∈ ks
      · simp [bf, c1, c2]
        exact ⟨by omega, ks, by simp, h1, h2, h3, h4⟩
      · by_cases c3 : pairsL cs (ks ++ [q]) = []
        · simp [bf, c1, c2, lo, los, hps, c3, hlk, sortL]
          refine ⟨cmpS_nil (.inl rfl) rfl (by simp [depL]), by omega, by omega, ks ++ [q], by simp, ?_, by simp; omega, fun k hk => ?_, c3⟩
          · rw [List.nodup_append]
            exact ⟨h1, by simp, fun a ha b hb => by simp at hb; subst hb; intro e; subst e; exact c2 ha⟩
          · rcases List.mem_append.mp hk with e | e
            · exact h3 k e
            · simp at e; subst e; exact hq
        · have hne : (sortL ((pairsL cs (ks ++ [q])).map pairV)).isEmpty = false := by
            rw [sort_nil]
            cases hh : pairsL cs (ks ++ [q]) with
            | nil => exact absurd hh c3
            | cons _ _ => rfl
          simp [bf, c1, c2, lo, los, hps, hlk, hne]
          exact ⟨by omega, ks, by simp, h1, h2, h3, h4⟩
    · simp [bf, c1]
      exact ⟨by omega, ks, by simp, h1, h2, h3, h4⟩
  · intro ρ' b' hI hb'
    obtain ⟨ks, rfl, h1, h2, h3, h4⟩ := hI
    obtain ⟨ks', e, k1, k2, k3⟩ := sort_nodup h1
    have hso : sortable (ks.map tupI) = true := sortable_rows fun k hk => by
      have := (h3 k hk).len
      intro z; rw [z] at this; simp at this; omega
    simp [e, hso]
    simp at hb'
    refine hq ks' b' k1 (by omega) (fun k hk => h3 k ((k2 k).mp hk)) (pairs_of fun a ha q hq hne => pairs_nil h4 a ((k2 a).mp ha) q ((k2 q).mp hq) hne) (by omega)
  · intro v' ρ' b' hf; exact hf.elim
/-! a case, and all of several -/
def CaseC (gs : List Gn) (wf tk i m cost : Nat) : Prop := ∀ n, m ≤ n → ∀ b, cost ≤ b → ∀ Q : PV → Nat → Prop, (∀ b', b ≤ b' + cost → Q (.bl true) b') → wCall gs wf tk n i [.ref 0] b Q
theorem CaseC.right {m cost : Nat} (h : CaseC gs wf tk i m cost) : RightC gs wf tk i m cost := fun n hn b hb => h n hn b hb _ fun b' hb' => ⟨rfl, hb'⟩
def allT (N : Int) (c : Nat) : T := (.seq (.ret (.bi false .all1 (.cons (.lc false (.itr .range1 (.cons (.cst (.int N)) .nil)) (.one 1) [1] (.cst (.bl true)) (.call c (.cons (.var 0) .nil))) .nil))) .skip)
theorem pw_true {xs ys : List PV} (h : Pw (fun _ y => y = .bl true) xs ys) : ys = xs.map fun _ => .bl true := by
  induction h with
  | nil => rfl
  | cons h _ ih => rw [h, ih]; rfl
theorem all_ok {m cost c : Nat} {N : Nat} (hN : N ≤ 1000) (hc : CaseC gs wf tk c m cost) (h : gs[i]? = some ⟨1, 2, allT N c⟩) (hi : i ≠ tk) : CaseC gs wf tk i (m + 1) (N * cost) := by
  intro n hn bb hb Q hq
  rw [wcall_eq h (by omega) hi]
  simp [allT, bf]
  refine ⟨⟨rg_nat (by omega), by omega⟩, lcW cost (fun _ y => y = .bl true) (by simp; omega) (fun x hx b1 hb1 => ?_) fun ys b1 hp hb1 => ?_⟩
  · simp [bf]
    exact hc (n - 1) (by omega) b1 hb1 _ fun b' hb' => by simp; exact hb'
  · rw [pw_true hp]
    have e : (List.range N).all (fun _ => true) = true := List.all_eq_true.mpr fun _ _ => rfl
    simp [Function.comp_def, e]
    exact hq b1 (by simpa using hb1)
end
end Dn

/-! common cuts, coefficients, the most rooms -/
namespace Dn
open PySem Ev
def t_common_cuts (iset_of : Nat) : T := (.seq (.ret (.bi false .tuple1 (.cons (.lc false (.itr .zipn (.star (.var 0) .nil)) (.one 1) [1] (.cst (.bl true)) (.call iset_of (.cons (.var 1) .nil))) .nil))) .skip)
def t_free_sizes (icommon_cuts : Nat) : T := (.seq (.ret (.lc false (.itr .zip2 (.cons (.var 0) (.cons (.call icommon_cuts (.cons (.var 1) .nil)) .nil))) (.many [2, 3]) [2, 3] (.cst (.bl true)) (.bin false .sub (.var 2) (.bi false .len (.cons (.var 3) .nil))))) .skip)
def t_coefficients : T := (.seq (.asg (.one 1) (.lst false (.cons (.cst (.int 1)) .nil))) (.seq (.for_ (.itr .seq (.cons (.var 0) .nil)) (.many [2, 3]) (.seq (.asg (.one 4) (.lc false (.itr .seq (.cons (.lst false (.star (.var 1) (.cons (.cst (.int 0)) .nil))) .nil)) (.one 6) [6] (.cst (.bl true)) (.bin false .mul (.var 6) (.var 2)))) (.seq (.asg (.one 5) (.lc false (.itr .seq (.cons (.lst false (.cons (.cst (.int 0)) (.star (.var 1) .nil))) .nil)) (.one 6) [6] (.cst (.bl true)) (.bin false .mul (.var 6) (.var 3)))) (.seq (.asg (.one 1) (.lc false (.itr .zip2 (.cons (.var 4) (.cons (.var 5) .nil))) (.many [7, 8]) [7, 8] (.cst (.bl true)) (.bin false .add (.var 7) (.var 8)))) .skip))) [2, 3, 4, 5]) (.seq (.ret (.var 1)) .skip)))
def t_sizes_from (icoefficients : Nat) : T := (.seq (.ret (.call icoefficients (.cons (.lc false (.itr .seq (.cons (.var 0) .nil)) (.one 1) [1] (.cst (.bl true)) (.tup (.cons (.cst (.int 1)) (.cons (.var 1) .nil)))) .nil))) .skip)
def t_rank_sizes (isizes_from ifree_sizes : Nat) : T := (.seq (.ret (.bi false .tuple1 (.cons (.call isizes_from (.cons (.call ifree_sizes (.cons (.var 0) (.cons (.var 1) .nil))) .nil)) .nil))) .skip)
def t_most_rooms (irank_sizes : Nat) : T := (.seq (.ret (.bi false .max1 (.cons (.call irank_sizes (.cons (.var 0) (.cons (.var 1) .nil))) .nil))) .skip)
def t_w_weights : T := (.seq (.asg (.one 2) (.lst false (.cons (.cst (.int 1)) .nil))) (.seq (.for_ (.itr .enum (.cons (.var 0) .nil)) (.many [3, 4]) (.seq (.asg (.one 5) (.bin false .sub (.var 4) (.bi false .lenSet (.cons (.lc false (.itr .seq (.cons (.var 1) .nil)) (.one 9) [9] (.cst (.bl true)) (.sub (.var 9) (.var 3))) .nil)))) (.seq (.asg (.one 6) (.lc false (.itr .seq (.cons (.var 2) .nil)) (.one 7) [7] (.cst (.bl true)) (.bin false .mul (.var 5) (.var 7)))) (.seq (.asg (.one 2) (.lc false (.itr .zip2 (.cons (.bin false .add (.var 2) (.lst false (.cons (.cst (.int 0)) .nil))) (.cons (.bin false .add (.lst false (.cons (.cst (.int 0)) .nil)) (.var 6)) .nil))) (.many [7, 8]) [7, 8] (.cst (.bl true)) (.bin false .add (.var 7) (.var 8)))) .skip))) [3, 4, 5, 6]) (.seq (.ret (.var 2)) .skip)))
theorem sort_ints_ex (ns : List Int) : ∃ ms : List Int, sortL (dedup (ns.map .int)) = ms.map .int ∧ ∀ k, k ∈ ms ↔ k ∈ ns := by
  have hm : ∀ x, x ∈ sortL (dedup (ns.map .int)) ↔ x ∈ ns.map PV.int := fun x => by rw [(sortL_perm _).mem_iff, Ev.dedup_mem]
  have he : ∃ ms : List Int, sortL (dedup (ns.map .int)) = ms.map .int := by
    refine ints_all ?_
    rw [List.all_eq_true]
    intro x hx
    obtain ⟨k, _, rfl⟩ := List.mem_map.mp ((hm x).mp hx)
    rfl
  obtain ⟨ms, e⟩ := he
  refine ⟨ms, e, fun k => ?_⟩
  have := hm (.int k)
  rw [e] at this
  simpa using this
/-- ints ascending, none twice -/
def sdI (ns : List Int) : List Int := (sortL (dedup (ns.map .int))).map intT
theorem sdI_eq (ns : List Int) : sortL (dedup (ns.map .int)) = (sdI ns).map .int := by
  obtain ⟨ms, e, _⟩ := sort_ints_ex ns
  unfold sdI
  rw [e, List.map_map]
  simp [Function.comp_def]
theorem sdI_mem {ns : List Int} {k : Int} : k ∈ sdI ns ↔ k ∈ ns := by
  obtain ⟨ms, e, h⟩ := sort_ints_ex ns
  unfold sdI
  rw [e, List.map_map, ← h k]
  simp [Function.comp_def]
theorem sd_len (ns : List Int) : (dedup (ns.map .int)).length = (sdI ns).length := by
  unfold sdI
  rw [List.length_map, sort_len]
theorem sdI_nd (ns : List Int) : (sdI ns).Nodup := by
  have h1 : (sortL (dedup (ns.map .int))).Nodup := (sortL_perm _).nodup_iff.mpr (dedup_nd _ fun x hx => by obtain ⟨k, _, rfl⟩ := List.mem_map.mp hx; simp)
  rw [sdI_eq] at h1
  exact List.Pairwise.imp (fun {a b} h e => h (by rw [e])) (List.pairwise_map.mp h1)
theorem sdI_pw (ns : List Int) : (sdI ns).Pairwise (· < ·) := by
  have h1 := sortL_pw (dedup (ns.map PV.int))
  rw [sdI_eq, List.pairwise_map] at h1
  refine (h1.and (sdI_nd ns)).imp fun {a b} h => ?_
  have h2 := h.1
  rw [le_def, ltP_i] at h2
  simp at h2
  have h3 := h.2
  omega
theorem asc_len : ∀ {L : List Int} {lo hi : Int}, L.Pairwise (· < ·) → (∀ x ∈ L, lo ≤ x ∧ x < hi) → lo ≤ hi → (L.length : Int) ≤ hi - lo
  | [], lo, hi, _, _, h => by simp; omega
  | x :: r, lo, hi, hp, hm, h => by
    rw [List.pairwise_cons] at hp
    have h1 := hm x (by simp)
    have h2 := asc_len (lo := x + 1) hp.2 (fun y hy => ⟨by have := hp.1 y hy; omega, (hm y (by simp [hy])).2⟩) (by omega)
    simp; omega
theorem nodup_sub : ∀ {A B : List Int}, A.Nodup → (∀ x ∈ A, x ∈ B) → A.length ≤ B.length
  | [], _, _, _ => by simp
  | a :: r, B, h, hs => by
    rw [List.nodup_cons] at h
    have ha := hs a (by simp)
    have := nodup_sub (B := B.erase a) h.2 fun x hx => (List.mem_erase_of_ne (fun e : x = a => h.1 (e ▸ hx))).mpr (hs x (by simp [hx]))
    rw [List.length_erase_of_mem ha] at this
    have := List.length_pos_of_mem ha
    simp; omega
def col (cs : List (List Int)) (p : Nat) : List Int := cs.map fun o => gI o p
def cutV (cs : List (List Int)) (p : Nat) : PV := .tup ((sdI (col cs p)).map .int)
def freeS (ds : List Int) (cs : List (List Int)) : List Int := (List.range ds.length).map fun p : Nat => gI ds p - (sdI (col cs p)).length
def stepP (L : List Int) (p : Int × Int) : List Int := (((L ++ [0]).map (· * p.1)).zip ((0 :: L).map (· * p.2))).map fun q : Int × Int => q.1 + q.2
def stepF (L : List Int) (f : Int) : List Int := ((L ++ [0]).zip (0 :: L.map (f * ·))).map fun q : Int × Int => q.1 + q.2
def coefF (fs : List Int) : List Int := fs.foldl stepF [1]
theorem stepP_one (L : List Int) (f : Int) : stepP L (1, f) = stepF L f := by
  unfold stepP stepF
  simp [Int.mul_comm]
theorem step_len (L : List Int) (f : Int) : (stepF L f).length = L.length + 1 := by simp [stepF]
theorem stepP_len (L : List Int) (p : Int × Int) : (stepP L p).length = L.length + 1 := by simp [stepP]
theorem zipL_map {α β : Type} (f : α → PV) (g : β → PV) : ∀ (A : List α) (B : List β), zipL (A.map f) (B.map g) = (A.zip B).map fun p => .tup [f p.1, g p.2]
  | [], _ => by simp [zipL]
  | _ :: _, [] => by simp [zipL]
  | a :: A, b :: B => by simp [zipL, zipL_map f g A B]
theorem zip_range (ds : List Int) (g : Nat → PV) : zipL (ds.map .int) ((List.range ds.length).map g) = (List.range ds.length).map fun p : Nat => .tup [.int (gI ds p), g p] := by
  rw [zipL_map]
  apply List.ext_getElem (by simp)
  intro i h1 h2
  have h3 : i < ds.length := by simpa using h2
  simp [gI_lt h3]
theorem transp_rows {cs : List (List Int)} {m : Nat} (hne : cs ≠ []) (hl : ∀ o ∈ cs, o.length = m) : transp (cs.map fun k => k.map PV.int) = (List.range m).map fun p : Nat => PV.tup ((col cs p).map .int) := by
  cases cs with
  | nil => exact absurd rfl hne
  | cons k r =>
    have hk := hl k (by simp)
    rw [List.map_cons, transp, List.length_map, hk]
    refine List.map_congr_left fun p hp => ?_
    have hp := List.mem_range.mp hp
    unfold rowAt col
    rw [← List.map_cons (f := fun k => List.map PV.int k), List.map_map, List.map_map]
    congr 1
    refine List.map_congr_left fun o ho => ?_
    have ho := hl o ho
    simp [gI_lt (show p < o.length by omega), show p < o.length by omega]
theorem even_rows {cs : List (List Int)} {m : Nat} (hne : cs ≠ []) (hl : ∀ o ∈ cs, o.length = m) (h : cs.length ≤ 1000) : evenL (cs.map fun k => k.map PV.int) = true := by
  cases cs with
  | nil => exact absurd rfl hne
  | cons k r =>
    have hk := hl k (by simp)
    simp only [List.map_cons, evenL, Bool.and_eq_true, decide_eq_true_eq, List.all_eq_true, List.length_map]
    refine ⟨fun y hy => ?_, by simp at h; omega⟩
    obtain ⟨o, ho, rfl⟩ := List.mem_map.mp hy
    rw [List.length_map, hl o (by simp [ho]), hk]
section
variable {gs : List Gn} {wf i j t : Nat}
def CommonC (gs : List Gn) (wf i : Nat) : Prop := ∀ n, 2 ≤ n → ∀ (b c : Bool) (cs : List (List Int)) (m : Nat), cs ≠ [] → (∀ o ∈ cs, o.length = m) →
  dCall gs wf n i [rowsV b c cs] = .tup ((List.range m).map (cutV cs)) ∧ (cs.length < 60 → sCall gs wf n i [rowsV b c cs])
theorem items_key (c : Bool) (cs : List (List Int)) : (cs.map (keyV c)).map itemsT = cs.map fun k => k.map PV.int := by
  rw [List.map_map]
  exact List.map_congr_left fun k _ => by simp
theorem common_ok (h : gs[i]? = some ⟨1, 2, t_common_cuts j⟩) (hs : SetAnyC gs wf j) : CommonC gs wf i := by
  intro n hn b c cs m hne hl
  have e1 : ∀ ns : List Int, dCall gs wf (n - 1) j [.tup (ns.map .int)] = .tup ((sdI ns).map .int) := fun ns => by
    have := (hs (n - 1) (by omega) false (ns.map .int)).1
    rw [sdI_eq] at this
    exact this
  have s1 : ∀ ns : List Int, ns.length < 60 → sCall gs wf (n - 1) j [.tup (ns.map .int)] := fun ns hn => (hs (n - 1) (by omega) false (ns.map .int)).2 (.inl (setI_len (by simp) (by simpa using hn))) (by simp)
  rw [dcall_eq h (by omega), scall_eq h (by omega)]
  simp [t_common_cuts, wkT_zipn, wkS_zipn, items_key, transp_rows hne hl, e1, Function.comp_def]
  refine ⟨fun p _ => rfl, fun h1 => ⟨even_rows hne hl (by omega), fun p hp => s1 _ (by simpa [col] using h1)⟩⟩
def FreeSC (gs : List Gn) (wf i : Nat) : Prop := ∀ n, 3 ≤ n → ∀ (b c d : Bool) (ds : List Int) (cs : List (List Int)), cs ≠ [] → (∀ o ∈ cs, o.length = ds.length) →
  dCall gs wf n i [keyV d ds, rowsV b c cs] = .lst ((freeS ds cs).map .int) ∧ (cs.length < 60 → sCall gs wf n i [keyV d ds, rowsV b c cs])
theorem frees_ok (h : gs[i]? = some ⟨2, 4, t_free_sizes j⟩) (hc : CommonC gs wf j) : FreeSC gs wf i := by
  intro n hn b c d ds cs hne hl
  have e := hc (n - 1) (by omega) b c cs ds.length hne hl
  rw [dcall_eq h (by omega), scall_eq h (by omega)]
  simp only [rowsV] at e
  have hg : groundL ((List.range ds.length).map (cutV cs)) = true := by simp [cutV]
  simp [t_free_sizes, e.1, zip_range, Function.comp_def, freeS, cutV]
  exact fun h1 => e.2 h1
theorem small_mul {i j : Int} (h : -1152921504606846976 < j ∧ j < 1152921504606846976) : mulOk i j = true := mul_r h.1 h.2
def pairI (p : Int × Int) : PV := .tup [.int p.1, .int p.2]
def CoefC (gs : List Gn) (wf i : Nat) : Prop := ∀ n, 1 ≤ n → ∀ (b : Bool) (ps : List (Int × Int)),
  dCall gs wf n i [cv b (ps.map pairI)] = .lst ((ps.foldl stepP [1]).map .int) ∧
  (ps.length ≤ 1000 → (∀ p ∈ ps, (-1152921504606846976 < p.1 ∧ p.1 < 1152921504606846976) ∧ -1152921504606846976 < p.2 ∧ p.2 < 1152921504606846976) → sCall gs wf n i [cv b (ps.map pairI)])
theorem zip_add (A B : List Int) : List.map (fun x : Int × Int => PV.int (x.1 + x.2)) (A.zip B) = ((A.zip B).map fun q : Int × Int => q.1 + q.2).map .int := by
  rw [List.map_map]; rfl
theorem coef_turn (F : Nat → List PV → PV) (v : PV) (L : List Int) (p : Int × Int) : nrm [2, 3, 4, 5] (bodyT F wf (.many [2, 3]) (.seq (.asg (.one 4) (.lc false (.itr .seq (.cons (.lst false (.star (.var 1) (.cons (.cst (.int 0)) .nil))) .nil)) (.one 6) [6] (.cst (.bl true)) (.bin false .mul (.var 6) (.var 2)))) (.seq (.asg (.one 5) (.lc false (.itr .seq (.cons (.lst false (.cons (.cst (.int 0)) (.star (.var 1) .nil))) .nil)) (.one 6) [6] (.cst (.bl true)) (.bin false .mul (.var 6) (.var 3)))) (.seq (.asg (.one 1) (.lc false (.itr .zip2 (.cons (.var 4) (.cons (.var 5) .nil))) (.many [7, 8]) [7, 8] (.cst (.bl true)) (.bin false .add (.var 7) (.var 8)))) .skip))) (pairI p) [some v, some (.lst (L.map .int)), none, none, none, none, none, none, none]) = (.nx, [some v, some (.lst ((stepP L p).map .int)), none, none, none, none, none, none, none]) := by
  have h1 : L.map PV.int ++ [PV.int 0] = (L ++ [0]).map .int := by simp
  have h2 : PV.int 0 :: L.map PV.int = (0 :: L).map .int := rfl
  have h3 : ∀ A B : List Int, zipL (A.map PV.int) (B.map PV.int) = (A.zip B).map fun q : Int × Int => .tup [.int q.1, .int q.2] := fun A B => zipL_map _ _ A B
  simp only [pairI, bodyT_eq, asT_many, itemsT_tup, setManyT_cons, setManyT_nil, List.set_cons_succ, List.set_cons_zero, dT_seq, dT_asg, dE_lc, dI_itr, dL_cons, dL_nil, dE_lst, dL_star, dE_var, slotT_0, slotT_s, dE_cst, mkT_f, itemsT_lst, wkT_seq, h1, h2, List.append_nil]
  simp [-List.map_append, -List.map_cons, h2, Function.comp_def, zipL_map, stepP, List.zip_map, Prod.map]
theorem coef_ok (h : gs[i]? = some ⟨1, 9, t_coefficients⟩) : CoefC gs wf i := by
  intro n hn b ps
  rw [dcall_eq h hn, scall_eq h hn]
  have h0 : [PV.int 1] = ([1] : List Int).map .int := rfl
  refine ⟨?_, fun h1 h2 => ?_⟩
  · simp [t_coefficients]
    rw [h0, forT_fold (sl := fun L : List Int => [some (cv b (ps.map pairI)), some (.lst (L.map .int)), none, none, none, none, none, none, none]) (step := stepP) ps [1] (fun L p _ => coef_turn _ _ L p)]
    simp
  · simp [t_coefficients]
    rw [h0, forT_fold (sl := fun L : List Int => [some (cv b (ps.map pairI)), some (.lst (L.map .int)), none, none, none, none, none, none, none]) (step := stepP) ps [1] (fun L p _ => coef_turn _ _ L p)]
    have hg : groundL (ps.map pairI) = true := by simp [pairI]
    simp [hg]
    refine ⟨fun a b _ => by simp [pairI], ?_⟩
    refine forS_foldN (sl := fun L : List Int => [some (cv b (ps.map pairI)), some (.lst (L.map .int)), none, none, none, none, none, none, none]) (step := stepP) (I := fun j L => L.length = j + 1) ps [1] 0 rfl fun q L p hp hj => ?_
    rw [Nat.zero_add] at hj ⊢
    have hql := (List.getElem?_eq_some_iff.mp hp).1
    have hpp := h2 p (List.mem_of_getElem? hp)
    refine ⟨coef_turn _ _ L p, ?_, by rw [stepP_len, hj]⟩
    have h3 : L.map PV.int ++ [PV.int 0] = (L ++ [0]).map .int := by simp
    have h4 : PV.int 0 :: L.map PV.int = (0 :: L).map .int := rfl
    simp only [pairI, bodyS_eq, asT_many, itemsT_tup, setManyT_cons, setManyT_nil, List.set_cons_succ, List.set_cons_zero, sT_seq, sT_asg, sE_lc, sI_itr, sL_cons, sL_nil, sE_lst, sL_star, dT_asg, dE_lc, dI_itr, dL_cons, dL_nil, dE_lst, dL_star, dE_var, slotT_0, slotT_s, dE_cst, mkT_f, itemsT_lst, wkT_seq, h3, h4, List.append_nil]
    simp [-List.map_append, -List.map_cons, -List.mem_append, -List.mem_cons, h3, h4, Function.comp_def, zipL_map, small_mul hpp.1, small_mul hpp.2]
    refine ⟨by omega, ?_⟩
    rintro x a c _ rfl
    simp
def SizesFC (gs : List Gn) (wf i : Nat) : Prop := ∀ n, 2 ≤ n → ∀ (b : Bool) (fs : List Int),
  dCall gs wf n i [keyV b fs] = .lst ((coefF fs).map .int) ∧ (fs.length ≤ 1000 → (∀ f ∈ fs, -1152921504606846976 < f ∧ f < 1152921504606846976) → sCall gs wf n i [keyV b fs])
theorem coef_fs (fs : List Int) : (fs.map fun f => ((1 : Int), f)).foldl stepP [1] = coefF fs := by
  unfold coefF
  rw [List.foldl_map]
  congr 1
  funext L f
  exact stepP_one L f
theorem sizesf_ok (h : gs[i]? = some ⟨1, 2, t_sizes_from j⟩) (hc : CoefC gs wf j) : SizesFC gs wf i := by
  intro n hn b fs
  have e := hc (n - 1) (by omega) true (fs.map fun f => ((1 : Int), f))
  have e1 : dCall gs wf (n - 1) j [.lst (fs.map fun f => .tup [.int 1, .int f])] = .lst ((coefF fs).map .int) := by
    have := e.1
    rw [List.map_map, coef_fs] at this
    exact this
  have s1 : fs.length ≤ 1000 → (∀ f ∈ fs, -1152921504606846976 < f ∧ f < 1152921504606846976) → sCall gs wf (n - 1) j [.lst (fs.map fun f => .tup [.int 1, .int f])] := fun h1 h2 => by
    have := e.2 (by simpa using h1) (fun p hp => by
      obtain ⟨f, hf, rfl⟩ := List.mem_map.mp hp
      exact ⟨⟨by simp, by simp⟩, h2 f hf⟩)
    rw [List.map_map] at this
    exact this
  rw [dcall_eq h (by omega), scall_eq h (by omega)]
  simp [t_sizes_from, e1, Function.comp_def]
  exact fun h1 h2 => s1 h1 fun f hf => h2 f hf
def ranksL (ds : List Int) (cs : List (List Int)) : List Int := coefF (freeS ds cs)
def RankSC (gs : List Gn) (wf i : Nat) : Prop := ∀ n, 4 ≤ n → ∀ (b c d : Bool) (ds : List Int) (cs : List (List Int)), cs ≠ [] → (∀ o ∈ cs, o.length = ds.length) →
  dCall gs wf n i [keyV d ds, rowsV b c cs] = .tup ((ranksL ds cs).map .int) ∧ (ds.length ≤ 1000 → cs.length < 60 → (∀ d ∈ ds, 0 ≤ d ∧ d ≤ 1000000000) → sCall gs wf n i [keyV d ds, rowsV b c cs])
theorem frees_len (ds : List Int) (cs : List (List Int)) : (freeS ds cs).length = ds.length := by simp [freeS]
theorem gI_mem {k : List Int} {p : Nat} (h : p < k.length) : gI k p ∈ k := by rw [gI_lt h]; exact List.getElem_mem h
theorem frees_small {ds : List Int} {cs : List (List Int)} (h1 : ∀ d ∈ ds, 0 ≤ d ∧ d ≤ 1000000000) (h2 : cs.length < 60) : ∀ f ∈ freeS ds cs, -1152921504606846976 < f ∧ f < 1152921504606846976 := fun f hf => by
  obtain ⟨p, hp, rfl⟩ := List.mem_map.mp hf
  have hd := h1 _ (gI_mem (List.mem_range.mp hp))
  have hl : (sdI (col cs p)).length ≤ cs.length := by
    rw [← sd_len]
    refine Nat.le_trans (dedup_len _) ?_
    simp [col]
  omega
theorem ranks_ok (h : gs[i]? = some ⟨2, 2, t_rank_sizes j t⟩) (hc : SizesFC gs wf j) (hf : FreeSC gs wf t) : RankSC gs wf i := by
  intro n hn b c d ds cs hne hl
  have e1 := hf (n - 1) (by omega) b c d ds cs hne hl
  have e2 := hc (n - 1) (by omega) true (freeS ds cs)
  have e3 : dCall gs wf (n - 1) j [.lst ((freeS ds cs).map .int)] = .lst ((ranksL ds cs).map .int) := e2.1
  rw [dcall_eq h (by omega), scall_eq h (by omega)]
  simp only [rowsV, keyV] at e1
  simp [t_rank_sizes, e1.1, e3]
  exact fun h1 h2 h3 => ⟨e1.2 h2, e2.2 (by rw [frees_len]; exact h1) (frees_small h3 h2)⟩
def maxL : List Int → Int
  | [] => 0
  | x :: r => maxI x r
theorem maxT_ints (L : List Int) : maxT (L.map .int) = maxL L := by
  cases L with
  | nil => rfl
  | cons x r =>
    simp only [maxT, intsT, List.map_cons, List.map_map, maxL, intT]
    congr 1
    simp [Function.comp_def]
theorem coef_ne : ∀ (fs : List Int) (L : List Int), L ≠ [] → fs.foldl stepF L ≠ []
  | [], L, h => h
  | f :: r, L, h => by
    rw [List.foldl_cons]
    refine coef_ne r _ fun z => ?_
    have := step_len L f
    rw [z] at this
    simp at this
theorem ranksL_ne (ds : List Int) (cs : List (List Int)) : ranksL ds cs ≠ [] := coef_ne _ _ (by simp)
def MostC (gs : List Gn) (wf i : Nat) : Prop := ∀ n, 5 ≤ n → ∀ (b c d : Bool) (ds : List Int) (cs : List (List Int)), cs ≠ [] → (∀ o ∈ cs, o.length = ds.length) →
  dCall gs wf n i [keyV d ds, rowsV b c cs] = .int (maxL (ranksL ds cs)) ∧ (ds.length ≤ 1000 → cs.length < 60 → (∀ d ∈ ds, 0 ≤ d ∧ d ≤ 1000000000) → sCall gs wf n i [keyV d ds, rowsV b c cs])
theorem most_ok (h : gs[i]? = some ⟨2, 2, t_most_rooms j⟩) (hc : RankSC gs wf j) : MostC gs wf i := by
  intro n hn b c d ds cs hne hl
  have e1 := hc (n - 1) (by omega) b c d ds cs hne hl
  rw [dcall_eq h (by omega), scall_eq h (by omega)]
  simp only [rowsV, keyV] at e1
  simp [t_most_rooms, e1.1, maxT_ints, ranksL_ne, Function.comp_def]
  exact fun h1 h2 h3 => e1.2 h1 h2 h3
/-! the law's own product -/
def WeightsC (gs : List Gn) (wf i : Nat) : Prop := ∀ n, 1 ≤ n → ∀ (ds : List Int) (cs : List (List Int)),
  dCall gs wf n i [tupI ds, .tup (cs.map tupI)] = .lst ((ranksL ds cs).map .int) ∧ (ds.length ≤ 1000 → cs.length < 60 → (∀ o ∈ cs, o.length = ds.length) → (∀ d ∈ ds, 0 ≤ d ∧ d ≤ 1000000000) → sCall gs wf n i [tupI ds, .tup (cs.map tupI)])
theorem zip_ints_mem : ∀ {xs ys : List PV} {x : PV}, x ∈ zipL xs ys → xs.all isInt = true → ys.all isInt = true → ∃ a b : Int, x = .tup [.int a, .int b]
  | [], _, x, h, _, _ => by simp [zipL] at h
  | _ :: _, [], x, h, _, _ => by simp [zipL] at h
  | u :: xs, v :: ys, x, h, h1, h2 => by
    simp only [List.all_cons, Bool.and_eq_true] at h1 h2
    simp only [zipL, List.mem_cons] at h
    rcases h with rfl | h
    · have h3 := h1.1; have h4 := h2.1
      cases u <;> simp [isInt] at h3
      cases v <;> simp [isInt] at h4
      exact ⟨_, _, rfl⟩
    · exact zip_ints_mem h h1.2 h2.2
theorem weight_turn (F : Nat → List PV → PV) (ds : List Int) (cs : List (List Int)) (L : List Int) (p : Nat) : nrm [3, 4, 5, 6] (bodyT F wf (.many [3, 4]) (.seq (.asg (.one 5) (.bin false .sub (.var 4) (.bi false .lenSet (.cons (.lc false (.itr .seq (.cons (.var 1) .nil)) (.one 9) [9] (.cst (.bl true)) (.sub (.var 9) (.var 3))) .nil)))) (.seq (.asg (.one 6) (.lc false (.itr .seq (.cons (.var 2) .nil)) (.one 7) [7] (.cst (.bl true)) (.bin false .mul (.var 5) (.var 7)))) (.seq (.asg (.one 2) (.lc false (.itr .zip2 (.cons (.bin false .add (.var 2) (.lst false (.cons (.cst (.int 0)) .nil))) (.cons (.bin false .add (.lst false (.cons (.cst (.int 0)) .nil)) (.var 6)) .nil))) (.many [7, 8]) [7, 8] (.cst (.bl true)) (.bin false .add (.var 7) (.var 8)))) .skip))) (PV.tup [.int (p : Int), .int (gI ds p)]) [some (tupI ds), some (.tup (cs.map tupI)), some (.lst (L.map .int)), none, none, none, none, none, none, none]) =
    (.nx, [some (tupI ds), some (.tup (cs.map tupI)), some (.lst ((stepF L (gI ds p - (sdI (col cs p)).length)).map .int)), none, none, none, none, none, none, none]) := by
  have hc : (dedup (cs.map fun o => PV.int (gI o p))).length = (sdI (col cs p)).length := by rw [← sd_len, col, List.map_map]; rfl
  have h1 : ∀ M : List Int, M.map PV.int ++ [PV.int 0] = (M ++ [0]).map .int := fun M => by simp
  have h2 : ∀ (g : Int → PV) (M : List Int), (∀ x, g x = .int (intT (g x))) → PV.int 0 :: M.map g = (0 :: M.map fun x => intT (g x)).map .int := fun g M hg => by
    rw [List.map_cons, List.map_map]
    congr 1
    exact List.map_congr_left fun x _ => hg x
  simp [-List.map_append, Function.comp_def, hc, h1]
  rw [h2 _ _ (fun x => rfl), zipL_map]
  simp [-List.map_append, Function.comp_def, stepF]
theorem weights_ok (h : gs[i]? = some ⟨2, 10, t_w_weights⟩) : WeightsC gs wf i := by
  intro n hn ds cs
  rw [dcall_eq h hn, scall_eq h hn]
  have h0 : [PV.int 1] = ([1] : List Int).map .int := rfl
  have hfold : (List.range ds.length).foldl (fun L (p : Nat) => stepF L (gI ds p - (sdI (col cs p)).length)) [1] = ranksL ds cs := by
    unfold ranksL coefF freeS
    rw [List.foldl_map]
  refine ⟨?_, fun h1 h2 h3 h4 => ?_⟩
  · simp [t_w_weights]
    rw [h0, forT_fold (sl := fun L : List Int => [some (tupI ds), some (.tup (cs.map tupI)), some (.lst (L.map .int)), none, none, none, none, none, none, none]) (step := fun L (p : Nat) => stepF L (gI ds p - (sdI (col cs p)).length)) (List.range ds.length) [1] (fun L p _ => weight_turn _ ds cs L p), hfold]
    simp
  · simp [t_w_weights]
    rw [h0, forT_fold (sl := fun L : List Int => [some (tupI ds), some (.tup (cs.map tupI)), some (.lst (L.map .int)), none, none, none, none, none, none, none]) (step := fun L (p : Nat) => stepF L (gI ds p - (sdI (col cs p)).length)) (List.range ds.length) [1] (fun L p _ => weight_turn _ ds cs L p), hfold]
    simp
    refine forS_foldN (sl := fun L : List Int => [some (tupI ds), some (.tup (cs.map tupI)), some (.lst (L.map .int)), none, none, none, none, none, none, none]) (step := fun L (p : Nat) => stepF L (gI ds p - (sdI (col cs p)).length)) (I := fun j L => L.length = j + 1) (List.range ds.length) [1] 0 rfl fun q L p hp hj => ?_
    rw [Nat.zero_add] at hj ⊢
    have hql := (List.getElem?_eq_some_iff.mp hp).1
    have hpm := List.mem_range.mp (List.mem_of_getElem? hp)
    rw [List.length_range] at hql
    refine ⟨weight_turn _ ds cs L p, ?_, by rw [step_len, hj]⟩
    have hd := h4 _ (gI_mem hpm)
    have hdl : (dedup (cs.map fun o => PV.int (gI o p))).length ≤ cs.length := Nat.le_trans (dedup_len _) (by simp)
    have hse : setI (cs.map fun o => PV.int (gI o p)) = true := by
      exact setI_len (by simp [isInt]) (by simpa using h2)
    simp [-List.map_append, Function.comp_def, hse]
    generalize hW : gI ds (p : Int) - ((dedup (cs.map fun o => PV.int (gI o p))).length : Int) = W
    have hz : ∀ x, x ∈ zipL (List.map PV.int L ++ [PV.int 0]) (PV.int 0 :: List.map (fun x => PV.int (W * x)) L) → ∃ a b : Int, x = .tup [.int a, .int b] := fun x hx => zip_ints_mem hx (by simp [isInt]) (by simp [isInt])
    refine ⟨fun o ho => at_mapN (by rw [h3 o ho]; exact hpm), fun a _ => mul_l (by omega) (by omega), ⟨⟨by omega, by omega⟩, fun x hx => ?_⟩, fun x hx => ?_⟩
    · obtain ⟨a, b, rfl⟩ := hz x hx
      simp
    · obtain ⟨a, b, rfl⟩ := hz x hx
      simp
/-! fewer free cuts, fewer rooms -/
inductive Le : List Int → List Int → Prop
  | nil : Le [] []
  | cons {a b : Int} {A B : List Int} : 0 ≤ a → a ≤ b → Le A B → Le (a :: A) (b :: B)
theorem Le.app : ∀ {A B : List Int}, Le A B → Le (A ++ [0]) (B ++ [0])
  | _, _, .nil => .cons (by omega) (by omega) .nil
  | _, _, .cons h1 h2 r => .cons h1 h2 r.app
theorem Le.mul {f g : Int} (h1 : 0 ≤ f) (h2 : f ≤ g) : ∀ {A B : List Int}, Le A B → Le (A.map (f * ·)) (B.map (g * ·))
  | _, _, .nil => .nil
  | _, _, .cons ha hb r => .cons (Int.mul_nonneg h1 ha) (Int.mul_le_mul h2 hb ha (by omega)) (r.mul h1 h2)
theorem Le.add : ∀ {A B C D : List Int}, Le A B → Le C D → Le ((A.zip C).map fun q : Int × Int => q.1 + q.2) ((B.zip D).map fun q : Int × Int => q.1 + q.2)
  | _, _, _, _, .nil, _ => by simp; exact .nil
  | _, _, _, _, .cons _ _ _, .nil => by simp; exact .nil
  | _, _, _, _, .cons h1 h2 r, .cons h3 h4 t => by
    simp only [List.zip_cons_cons, List.map_cons]
    exact .cons (by omega) (by omega) (Le.add r t)
theorem Le.step {A B : List Int} {f g : Int} (h : Le A B) (h1 : 0 ≤ f) (h2 : f ≤ g) : Le (stepF A f) (stepF B g) := Le.add h.app (.cons (by omega) (by omega) (h.mul h1 h2))
theorem Le.coef : ∀ {fs gs' A B : List Int}, Le fs gs' → Le A B → Le (fs.foldl stepF A) (gs'.foldl stepF B)
  | _, _, _, _, .nil, h => h
  | _, _, _, _, .cons h1 h2 r, h => by
    rw [List.foldl_cons, List.foldl_cons]
    exact Le.coef r (h.step h1 h2)
theorem Le.ex : ∀ {A B : List Int}, Le A B → ∀ a ∈ A, ∃ b ∈ B, a ≤ b
  | _, _, .nil, a, h => by simp at h
  | _, _, .cons (a := x) (b := y) h1 h2 r, a, h => by
    rcases List.mem_cons.mp h with e | e
    · exact ⟨y, by simp, by omega⟩
    · obtain ⟨b, hb, hab⟩ := r.ex a e
      exact ⟨b, by simp [hb], hab⟩
theorem maxL_mem {L : List Int} (h : L ≠ []) : maxL L ∈ L := by
  cases L with
  | nil => exact absurd rfl h
  | cons x r =>
    have := (maxI_ge r x).2.2
    simp only [maxL, List.mem_cons]
    exact this
theorem maxL_ge {L : List Int} : ∀ a ∈ L, a ≤ maxL L := by
  cases L with
  | nil => simp
  | cons x r =>
    intro a ha
    rcases List.mem_cons.mp ha with e | e
    · rw [e]; exact (maxI_ge r x).1
    · exact (maxI_ge r x).2.1 a e
theorem Le.max {A B : List Int} (h : Le A B) (hA : A ≠ []) : maxL A ≤ maxL B := by
  obtain ⟨b, hb, hab⟩ := h.ex _ (maxL_mem hA)
  exact Int.le_trans hab (maxL_ge b hb)
theorem le_map {f g : Nat → Int} : ∀ (L : List Nat), (∀ p ∈ L, 0 ≤ f p ∧ f p ≤ g p) → Le (L.map f) (L.map g)
  | [], _ => .nil
  | p :: r, h => .cons (h p (by simp)).1 (h p (by simp)).2 (le_map r fun q hq => h q (by simp [hq]))
theorem KeyOk.at' {ds k : List Int} : ∀ (h : KeyOk ds k) (p : Nat), p < ds.length → 0 ≤ gI k p ∧ gI k p < gI ds p := by
  intro h p hp
  induction ds generalizing k p with
  | nil => simp at hp
  | cons d ds ih => cases k with
    | nil => exact h.elim
    | cons z k => cases p with
      | zero => simp [gI, h.1, h.2.1]
      | succ p =>
        have := ih h.2.2 p (by simpa using hp)
        rw [gI_nat, gI_nat] at this ⊢
        simpa using this
theorem free_nn {ds : List Int} {cs : List (List Int)} (h : ∀ o ∈ cs, KeyOk ds o) (p : Nat) (hp : p < ds.length) (hd : 0 ≤ gI ds p) : 0 ≤ gI ds p - (sdI (col cs p)).length := by
  have := asc_len (lo := 0) (hi := gI ds p) (sdI_pw (col cs p)) (fun x hx => by
    obtain ⟨o, ho, rfl⟩ := List.mem_map.mp (sdI_mem.mp hx)
    exact (h o ho).at' p hp) hd
  omega
theorem more_common {ds : List Int} {cs ks : List (List Int)} (hd : ∀ d ∈ ds, 0 ≤ d) (h : ∀ o ∈ ks, KeyOk ds o) (hs : ∀ o ∈ cs, o ∈ ks) : maxL (ranksL ds ks) ≤ maxL (ranksL ds cs) := by
  refine Le.max (Le.coef (le_map _ fun p hp => ?_) (.cons (by omega) (by omega) .nil)) (ranksL_ne ds ks)
  have hp := List.mem_range.mp hp
  have h1 : (sdI (col cs p)).length ≤ (sdI (col ks p)).length := nodup_sub (sdI_nd _) fun x hx => by
    obtain ⟨o, ho, rfl⟩ := List.mem_map.mp (sdI_mem.mp hx)
    exact sdI_mem.mpr (List.mem_map.mpr ⟨o, hs o ho, rfl⟩)
  exact ⟨free_nn h p hp (hd _ (gI_mem hp)), by omega⟩
end
end Dn

/-! doors -/
namespace Dn
open PySem Ev
def t_both : T := (.seq (.asg (.one 2) (.bi false .tuple1 (.cons (.lc false (.itr .zip2 (.cons (.var 0) (.cons (.var 1) .nil))) (.many [3, 4]) [3, 4] (.cst (.bl true)) (.bi false .tuple1 (.cons (.lc false (.itr .seq (.cons (.var 3) .nil)) (.one 5) [5] (.cmp .inn (.var 5) (.var 4)) (.var 5)) .nil))) .nil))) (.seq (.ret (.ite (.cmp .inn (.tup .nil) (.var 2)) (.cst (.non)) (.var 2))) .skip))
def t_within : T := (.seq (.ret (.bi false .all1 (.cons (.lc false (.itr .zip2 (.cons (.var 0) (.cons (.var 1) .nil))) (.many [2, 3]) [2, 3] (.cst (.bl true)) (.bi false .all1 (.cons (.lc false (.itr .seq (.cons (.var 2) .nil)) (.one 4) [4] (.cst (.bl true)) (.cmp .inn (.var 4) (.var 3))) .nil))) .nil))) .skip)
def t_w_gate (i_law_pick i_law_take : Nat) : T := (.seq (.asg (.one 2) (.lst true .nil)) (.seq (.for_ (.itr .seq (.cons (.var 1) .nil)) (.one 3) (.seq (.app 2 (.bi false .tuple1 (.cons (.bi false .sorted1 (.cons (.call i_law_pick (.cons (.var 0) (.cons (.listI false (.itr .range1 (.cons (.var 3) .nil))) (.cons (.bin false .add (.cst (.int 1)) (.call i_law_take (.cons (.var 0) (.cons (.var 3) .nil)))) .nil)))) .nil)) .nil))) .skip) [3]) (.seq (.ret (.bi false .tuple1 (.cons (.var 2) .nil))) .skip)))
def t_goesD : T := (.seq (.ret (.cmp .eq (.lc false (.itr .enum (.cons (.var 1) .nil)) (.many [2, 3]) [2, 3] (.cmp .nin (.var 3) (.sub (.var 0) (.var 2))) (.var 2)) (.lst false .nil))) .skip)
def t_w_pinned : T := (.seq (.ret (.bi false .tuple1 (.cons (.lc false (.itr .range1 (.cons (.bi false .len (.cons (.sub (.var 0) (.cst (.int 0))) .nil)) .nil)) (.one 1) [1] (.cst (.bl true)) (.bi false .tuple1 (.cons (.bi false .sortedSet (.cons (.lc false (.itr .seq (.cons (.var 0) .nil)) (.one 2) [2] (.cst (.bl true)) (.sub (.var 2) (.var 1))) .nil)) .nil))) .nil))) .skip)
theorem anyEq_is (is : List Int) (x : Int) : anyEq (is.map .int) (.int x) = decide (x ∈ is) := by
  unfold anyEq
  rw [List.any_map]
  induction is with
  | nil => rfl
  | cons y r ih =>
    rw [List.any_cons, ih]
    simp only [Function.comp_def, eqP_i, List.mem_cons, Bool.decide_or]
    congr 1
    simp [eq_comm]
theorem noStr_is (k : List Int) : noStrL (k.map PV.int) = true := noStrL_map fun _ _ => rfl
theorem dep_is (k : List Int) : depL (k.map PV.int) ≤ 0 := depL_map fun _ _ => Nat.le_refl 0
theorem shp_is (b : Bool) (is : List Int) : shp (cv b (is.map .int)) = true := shp_of (by rw [noStr_cv]; exact noStr_is is) (by rw [dep_cv]; have := dep_is is; omega)
theorem cmpT_ninV {v : PV} {is : List Int} (x : Int) (h : itemsT v = is.map .int) : cmpT .nin (.int x) v = !decide (x ∈ is) := by
  show (!anyEq (itemsT v) (.int x)) = _
  rw [h, anyEq_is]
theorem cmpT_innV {v : PV} {is : List Int} (x : Int) (h : itemsT v = is.map .int) : cmpT .inn (.int x) v = decide (x ∈ is) := by
  show (anyEq (itemsT v) (.int x)) = _
  rw [h, anyEq_is]
@[simp] theorem cmpT_ninK (x : Int) (b : Bool) (is : List Int) : cmpT .nin (.int x) (cv b (is.map .int)) = !decide (x ∈ is) := cmpT_ninV x (by simp)
@[simp] theorem cmpT_innK (x : Int) (b : Bool) (is : List Int) : cmpT .inn (.int x) (cv b (is.map .int)) = decide (x ∈ is) := cmpT_innV x (by simp)
@[simp] theorem cmpT_ninI (x : Int) (is : List Int) : cmpT .nin (.int x) (tupI is) = !decide (x ∈ is) := cmpT_ninV x rfl
@[simp] theorem cmpT_innI (x : Int) (is : List Int) : cmpT .inn (.int x) (tupI is) = decide (x ∈ is) := cmpT_innV x rfl
@[simp] theorem cmpS_ninK (x : Int) (b : Bool) (is : List Int) : cmpS .nin (.int x) (cv b (is.map .int)) = True := by
  have := shp_is b is
  cases b <;> simp [cmpS, cv] at this ⊢ <;> simp [this, shp_is]
@[simp] theorem cmpS_innK (x : Int) (b : Bool) (is : List Int) : cmpS .inn (.int x) (cv b (is.map .int)) = True := by
  have := shp_is b is
  cases b <;> simp [cmpS, cv] at this ⊢ <;> simp [this, shp_is]
@[simp] theorem cmpS_ninI (x : Int) (is : List Int) : cmpS .nin (.int x) (tupI is) = True := cmpS_ninK x false is
@[simp] theorem cmpS_innI (x : Int) (is : List Int) : cmpS .inn (.int x) (tupI is) = True := cmpS_innK x false is
/-! what a door is -/
def PartOk (d : Int) (p : List Int) : Prop := p.Pairwise (· < ·) ∧ p ≠ [] ∧ ∀ c ∈ p, 0 ≤ c ∧ c < d
def GateOk : List Int → List (List Int) → Prop
  | [], [] => True
  | d :: ds, p :: ps => PartOk d p ∧ GateOk ds ps
  | _, _ => False
theorem GateOk.len : ∀ {ds : List Int} {ps : List (List Int)}, GateOk ds ps → ps.length = ds.length
  | [], [], _ => rfl
  | d :: ds, p :: ps, h => by simp [GateOk.len h.2]
theorem GateOk.snoc : ∀ {ds : List Int} {ps : List (List Int)} {d : Int} {p : List Int}, GateOk ds ps → PartOk d p → GateOk (ds ++ [d]) (ps ++ [p])
  | [], [], _, _, _, h => ⟨h, trivial⟩
  | d :: ds, p :: ps, _, _, h, h' => ⟨h.1, h.2.snoc h'⟩
theorem GateOk.mem : ∀ {ds : List Int} {ps : List (List Int)}, GateOk ds ps → ∀ p ∈ ps, ∃ d ∈ ds, PartOk d p
  | [], [], _, q, hq => by simp at hq
  | d :: ds, p :: ps, h, q, hq => by
    rcases List.mem_cons.mp hq with e | e
    · subst e; exact ⟨d, by simp, h.1⟩
    · obtain ⟨d', h1, h2⟩ := h.2.mem q e
      exact ⟨d', by simp [h1], h2⟩
def goesL : List (List Int) → List Int → Bool
  | p :: ps, c :: k => decide (c ∈ p) && goesL ps k
  | [], _ :: _ => false
  | _, [] => true
def meetL (ps qs : List (List Int)) : List (List Int) := (ps.zip qs).map fun q => q.1.filter fun c => decide (c ∈ q.2)
def withinL (ps qs : List (List Int)) : Bool := (ps.zip qs).all fun q => q.1.all fun c => decide (c ∈ q.2)
def gP (ps : List (List Int)) (p : Nat) : List Int := ps.getD p []
theorem gP_0 (q : List Int) (ps : List (List Int)) : gP (q :: ps) 0 = q := rfl
theorem gP_s (q : List Int) (ps : List (List Int)) (p : Nat) : gP (q :: ps) (p + 1) = gP ps p := by simp [gP]
theorem gI_0 (c : Int) (k : List Int) : gI (c :: k) ((0 : Nat) : Int) = c := by rw [gI_nat]; rfl
theorem gI_s (c : Int) (k : List Int) (p : Nat) : gI (c :: k) ((p + 1 : Nat) : Int) = gI k p := by rw [gI_nat, gI_nat]; simp
theorem gP_nil (p : Nat) : gP [] p = [] := by simp [gP]
theorem goes_range : ∀ {ps : List (List Int)} {k : List Int}, goesL ps k = ((List.range k.length).filter fun p : Nat => !decide (gI k p ∈ gP ps p)).isEmpty
  | [], [] => rfl
  | _ :: _, [] => rfl
  | [], c :: k => by
    rw [goesL, List.length_cons, List.range_succ_eq_map, List.filter_cons, gP_nil]
    simp
  | p :: ps, c :: k => by
    have ih := goes_range (ps := ps) (k := k)
    rw [goesL, ih, List.length_cons, List.range_succ_eq_map, List.filter_cons, gI_0, gP_0]
    by_cases hc : c ∈ p
    · simp only [hc, decide_true, Bool.true_and, Bool.not_true, Bool.false_eq_true, if_false, List.filter_map, List.isEmpty_map]
      congr 1
      refine List.filter_congr fun x _ => ?_
      simp only [Function.comp_def, Nat.succ_eq_add_one, gI_s, gP_s]
    · simp [hc]
@[simp] theorem cmpT_ninP (x : Int) (ps : List (List Int)) (p : Nat) : cmpT .nin (.int x) (atT (ps.map tupI) (p : Int)) = !decide (x ∈ gP ps p) := by
  refine cmpT_ninV x ?_
  rw [atT_nat, gP]
  by_cases h : p < ps.length
  · simp [List.getElem?_eq_getElem h]
  · simp [List.getElem?_eq_none (Nat.le_of_not_lt h)]
    rfl
theorem at_rowsT {ps : List (List Int)} {p : Nat} (h : p < ps.length) : atT (ps.map tupI) (p : Int) = tupI (gP ps p) := by
  rw [atT_nat, gP]
  simp [List.getElem?_eq_getElem h]
theorem at_rowsS {ps : List (List Int)} {p : Nat} (h : p < ps.length) : (L2.atI (ps.map tupI) (p : Int)).isSome = true := at_some (by rw [List.length_map]; exact h)
section
variable {gs : List Gn} {wf i j t tk : Nat}
def GoesDC (gs : List Gn) (wf i : Nat) : Prop := ∀ n, 1 ≤ n → ∀ (ps : List (List Int)) (k : List Int),
  dCall gs wf n i [.tup (ps.map tupI), tupI k] = .bl (goesL ps k) ∧ (k.length = ps.length → sCall gs wf n i [.tup (ps.map tupI), tupI k])
theorem goesD_ok (h : gs[i]? = some ⟨2, 4, t_goesD⟩) : GoesDC gs wf i := by
  intro n hn ps k
  rw [dcall_eq h hn, scall_eq h hn]
  simp [t_goesD, Function.comp_def, List.filter_map]
  refine ⟨goes_range.symm, fun hk => ⟨fun a ha => ⟨at_rowsS (by omega), by rw [at_rowsT (by omega)]; simp⟩, cmpS_nil (.inl rfl) (noStrL_map fun _ _ => rfl) (Nat.le_trans (depL_map (m := 0) fun _ _ => Nat.le_refl 0) (by omega))⟩⟩
/-- the cuts of some keys, pin by pin -/
def pinnedL (L : List (List Int)) : List (List Int) := (List.range (L.headD []).length).map fun p => sdI (col L p)
def PinnedC (gs : List Gn) (wf i : Nat) : Prop := ∀ n, 1 ≤ n → ∀ (b : Bool) (L : List (List Int)), L ≠ [] → (∀ o ∈ L, o.length = (L.headD []).length) → L.length < 4000 → (∀ p : Nat, (sdI (col L p)).length < 60) → (L.headD []).length ≤ 1000 →
  dCall gs wf n i [rowsV b false L] = .tup ((pinnedL L).map tupI) ∧ sCall gs wf n i [rowsV b false L]
theorem pinned_ok (h : gs[i]? = some ⟨1, 3, t_w_pinned⟩) : PinnedC gs wf i := by
  intro n hn b L hne hl hs h6 hw
  rw [dcall_eq h hn, scall_eq h hn]
  cases L with
  | nil => exact absurd rfl hne
  | cons k r =>
    have hk : ∀ a : Nat, PV.int (gI k a) :: r.map (fun o => PV.int (gI o a)) = (col (k :: r) a).map .int := fun a => by simp [col, Function.comp_def]
    have hc : ∀ a, (col (k :: r) a).length < 4000 := fun a => by simpa [col] using hs
    simp [t_w_pinned, Function.comp_def, hk, sdI_eq, pinnedL]
    refine ⟨fun a _ => rfl, ⟨rg_nat (by simp at hw; omega), by simp at hw; omega⟩, fun a ha => ⟨⟨at_mapN ha, fun o ho => at_mapN (by have := hl o (by simp [ho]); simp at this; omega)⟩, .inl (by simp [setI, hc, sd_len, h6])⟩⟩
def BothC (gs : List Gn) (wf i : Nat) : Prop := ∀ n, 1 ≤ n → ∀ (b c b' c' : Bool) (ps qs : List (List Int)),
  dCall gs wf n i [rowsV b c ps, rowsV b' c' qs] = (if [] ∈ meetL ps qs then .non else .tup ((meetL ps qs).map tupI)) ∧ sCall gs wf n i [rowsV b c ps, rowsV b' c' qs]
theorem both_ok (h : gs[i]? = some ⟨2, 6, t_both⟩) : BothC gs wf i := by
  intro n hn b c b' c' ps qs
  rw [dcall_eq h hn, scall_eq h hn]
  have hF : ∀ A B : List Int, (A.map PV.int).filter (fun x => cmpT .inn x (keyV c' B)) = (A.filter fun x => decide (x ∈ B)).map .int := fun A B => by
    rw [List.filter_map]; simp [Function.comp_def]
  have hM : ∀ v, cmpT .inn (.tup []) v = anyEq (itemsT v) (tupI []) := fun v => rfl
  have hm : (ps.zip qs).map (fun x => PV.tup ((x.1.filter fun c => decide (c ∈ x.2)).map .int)) = (meetL ps qs).map tupI := by
    rw [meetL, List.map_map]; rfl
  have hs : cmpS .inn (.tup []) (.tup ((meetL ps qs).map tupI)) := by
    have := cmpS_innT [] (meetL ps qs)
    rw [show PV.tup [] = tupI [] from rfl, this]
    trivial
  simp [t_both, Function.comp_def, zipL_map, hF, hm, hM, anyEq_rows, hs]
  refine ⟨?_, ?_⟩
  · rintro x A B _ rfl
    simp
  · split <;> simp
def WithinC (gs : List Gn) (wf i : Nat) : Prop := ∀ n, 1 ≤ n → ∀ (b c b' c' : Bool) (ps qs : List (List Int)),
  dCall gs wf n i [rowsV b c ps, rowsV b' c' qs] = .bl (withinL ps qs) ∧ sCall gs wf n i [rowsV b c ps, rowsV b' c' qs]
theorem within_ok (h : gs[i]? = some ⟨2, 5, t_within⟩) : WithinC gs wf i := by
  intro n hn b c b' c' ps qs
  rw [dcall_eq h hn, scall_eq h hn]
  simp [t_within, Function.comp_def, zipL_map]
  refine ⟨rfl, ?_⟩
  rintro x A B _ rfl
  simp
theorem door_some : ∀ {ds : List Int} {ps : List (List Int)}, GateOk ds ps → ∃ k, KeyOk ds k ∧ goesL ps k = true
  | [], [], _ => ⟨[], trivial, rfl⟩
  | d :: ds, [] :: ps, h => absurd rfl h.1.2.1
  | d :: ds, (c :: p) :: ps, h => by
    obtain ⟨k, h1, h2⟩ := door_some h.2
    have hc := h.1.2.2 c (by simp)
    exact ⟨c :: k, ⟨hc.1, hc.2, h1⟩, by simp [goesL, h2]⟩
theorem door_key : ∀ {ds : List Int} {ps : List (List Int)}, GateOk ds ps → ∀ p : Nat, p < ds.length → ∀ c ∈ gP ps p, ∃ k, KeyOk ds k ∧ goesL ps k = true ∧ gI k (p : Int) = c
  | [], [], _, p, hp, _, _ => by simp at hp
  | d :: ds, q :: ps, h, 0, _, c, hc => by
    obtain ⟨k, h1, h2⟩ := door_some h.2
    rw [gP_0] at hc
    have := h.1.2.2 c hc
    exact ⟨c :: k, ⟨this.1, this.2, h1⟩, by simp [goesL, h2, hc], gI_0 c k⟩
  | d :: ds, [] :: ps, h, p + 1, _, _, _ => absurd rfl h.1.2.1
  | d :: ds, (c0 :: q) :: ps, h, p + 1, hp, c, hc => by
    rw [gP_s] at hc
    obtain ⟨k, h1, h2, h3⟩ := door_key h.2 p (by simpa using hp) c hc
    have := h.1.2.2 c0 (by simp)
    exact ⟨c0 :: k, ⟨this.1, this.2, h1⟩, by simp [goesL, h2], by rw [gI_s]; exact h3⟩
theorem goes_at : ∀ {ps : List (List Int)} {k : List Int}, k.length = ps.length → goesL ps k = true → ∀ p : Nat, p < ps.length → gI k (p : Int) ∈ gP ps p
  | [], [], _, _, p, hp => by simp at hp
  | q :: ps, c :: k, h, hg, 0, _ => by
    simp only [goesL, Bool.and_eq_true, decide_eq_true_eq] at hg
    rw [gI_0, gP_0]; exact hg.1
  | q :: ps, c :: k, h, hg, p + 1, hp => by
    simp only [goesL, Bool.and_eq_true, decide_eq_true_eq] at hg
    rw [gI_s, gP_s]
    exact goes_at (by simpa using h) hg.2 p (by simpa using hp)
theorem goes_meet : ∀ {ps qs : List (List Int)} {k : List Int}, ps.length = qs.length → k.length = ps.length → goesL (meetL ps qs) k = (goesL ps k && goesL qs k)
  | [], [], [], _, _ => rfl
  | p :: ps, q :: qs, c :: k, h1, h2 => by
    have ih := goes_meet (ps := ps) (qs := qs) (k := k) (by simpa using h1) (by simpa using h2)
    have e : meetL (p :: ps) (q :: qs) = (p.filter fun c => decide (c ∈ q)) :: meetL ps qs := rfl
    rw [e, goesL, goesL, goesL, ih]
    by_cases a1 : c ∈ p <;> by_cases a2 : c ∈ q <;> simp [a1, a2]
theorem goes_nil : ∀ {ps : List (List Int)} {k : List Int}, k.length = ps.length → [] ∈ ps → goesL ps k = false
  | [], _, _, h => by simp at h
  | p :: ps, c :: k, h, hm => by
    rcases List.mem_cons.mp hm with e | e
    · subst e; simp [goesL]
    · simp [goesL, goes_nil (k := k) (by simpa using h) e]
theorem meet_len {ps qs : List (List Int)} (h : ps.length = qs.length) : (meetL ps qs).length = ps.length := by simp [meetL, h]
theorem meet_ok : ∀ {ds : List Int} {ps qs : List (List Int)}, GateOk ds ps → GateOk ds qs → [] ∉ meetL ps qs → GateOk ds (meetL ps qs)
  | [], [], [], _, _, _ => trivial
  | d :: ds, p :: ps, q :: qs, h1, h2, h => by
    have e : meetL (p :: ps) (q :: qs) = (p.filter fun c => decide (c ∈ q)) :: meetL ps qs := rfl
    rw [e] at h ⊢
    simp only [List.mem_cons, not_or] at h
    exact ⟨⟨h1.1.1.filter _, fun z => h.1 z.symm, fun c hc => h1.1.2.2 c (List.mem_filter.mp hc).1⟩, meet_ok h1.2 h2.2 h.2⟩
theorem asc_eq {A B : List Int} (ha : A.Pairwise (· < ·)) (hb : B.Pairwise (· < ·)) (h : ∀ c, c ∈ A ↔ c ∈ B) : A = B := by
  have na : A.Nodup := ha.imp fun {a b} h e => by omega
  have nb : B.Nodup := hb.imp fun {a b} h e => by omega
  exact List.Perm.eq_of_pairwise (le := fun a b => a < b) (fun a b _ _ h1 h2 => by omega) ha hb ((List.perm_ext_iff_of_nodup na nb).mpr h)
theorem GateOk.at : ∀ {ds : List Int} {ps : List (List Int)}, GateOk ds ps → ∀ p : Nat, p < ds.length → ∃ d, PartOk d (gP ps p)
  | [], [], _, p, hp => by simp at hp
  | d :: ds, q :: ps, h, 0, _ => ⟨d, h.1⟩
  | d :: ds, q :: ps, h, p + 1, hp => by rw [gP_s]; exact h.2.at p (by simpa using hp)
theorem pinned_door {ds : List Int} {ps L : List (List Int)} (h : GateOk ds ps) (hL : ∀ k, k ∈ L ↔ KeyOk ds k ∧ goesL ps k = true) : L ≠ [] ∧ pinnedL L = ps := by
  have hne : L ≠ [] := fun z => by
    obtain ⟨k, h1, h2⟩ := door_some h
    have := (hL k).mpr ⟨h1, h2⟩
    rw [z] at this; simp at this
  refine ⟨hne, ?_⟩
  have hh : (L.headD []).length = ds.length := by
    cases L with
    | nil => exact absurd rfl hne
    | cons k r => exact ((hL k).mp (by simp)).1.len
  unfold pinnedL
  rw [hh]
  apply List.ext_getElem (by simp [h.len])
  intro p h1 h2
  have hp : p < ds.length := by simpa using h1
  have e : ps[p] = gP ps p := by simp [gP, List.getElem?_eq_getElem h2]
  rw [e, List.getElem_map, List.getElem_range]
  obtain ⟨d, hd⟩ := h.at p hp
  refine asc_eq (sdI_pw _) hd.1 fun c => ?_
  rw [sdI_mem, col, List.mem_map]
  constructor
  · rintro ⟨k, hk, rfl⟩
    have := (hL k).mp hk
    exact goes_at (by rw [this.1.len, h.len]) this.2 p h2
  · intro hc
    obtain ⟨k, k1, k2, k3⟩ := door_key h p hp c hc
    exact ⟨k, (hL k).mpr ⟨k1, k2⟩, k3⟩
theorem within_iff : ∀ {ds : List Int} {ps qs : List (List Int)}, GateOk ds ps → GateOk ds qs → (withinL ps qs = true ↔ ∀ k, KeyOk ds k → goesL ps k = true → goesL qs k = true)
  | [], [], [], _, _ => ⟨fun _ k hk _ => by cases k with | nil => rfl | cons _ _ => exact hk.elim, fun _ => rfl⟩
  | d :: ds, p :: ps, q :: qs, h1, h2 => by
    have ih := within_iff h1.2 h2.2
    have e : withinL (p :: ps) (q :: qs) = ((p.all fun c => decide (c ∈ q)) && withinL ps qs) := rfl
    rw [e, Bool.and_eq_true, ih]
    constructor
    · rintro ⟨a, b⟩ k hk hg
      cases k with
      | nil => rfl
      | cons c k =>
        simp only [goesL, Bool.and_eq_true, decide_eq_true_eq] at hg ⊢
        rw [List.all_eq_true] at a
        exact ⟨by simpa using a c hg.1, b k hk.2.2 hg.2⟩
    · intro a
      refine ⟨?_, fun k hk hg => ?_⟩
      · rw [List.all_eq_true]
        intro c hc
        obtain ⟨k, k1, k2⟩ := door_some h1.2
        have hcd := h1.1.2.2 c hc
        have := a (c :: k) ⟨hcd.1, hcd.2, k1⟩ (by simp [goesL, hc, k2])
        simp only [goesL, Bool.and_eq_true, decide_eq_true_eq] at this
        simpa using this.1
      · cases p with
        | nil => exact absurd rfl h1.1.2.1
        | cons c0 p =>
          have hcd := h1.1.2.2 c0 (by simp)
          have := a (c0 :: k) ⟨hcd.1, hcd.2, hk⟩ (by simp [goesL, hg])
          simp only [goesL, Bool.and_eq_true, decide_eq_true_eq] at this
          exact this.2
/-! a drawn door -/
theorem nodup_mapI {is : List Int} (h : is.Nodup) : (is.map PV.int).Nodup := nodup_map h fun x _ y _ e => by simpa using e
theorem dedup_is : ∀ {L : List Int}, L.Nodup → dedup (L.map .int) = L.map .int
  | [], _ => rfl
  | x :: r, h => by
    rw [List.nodup_cons] at h
    simp only [List.map_cons, dedup, dedup_is h.2]
    rw [if_neg]
    simp only [List.any_map, List.any_eq_true, Function.comp_def, PV.same]
    rintro ⟨y, hy, e⟩
    have : y = x := by simpa using e
    exact h.1 (this ▸ hy)
theorem pick_part {is : List Int} (nd : is.Nodup) {ys zs : List PV} (hp : (ys ++ zs).Perm (is.map .int)) : ∃ js : List Int, sortL ys = js.map .int ∧ js.Pairwise (· < ·) ∧ (∀ c ∈ js, c ∈ is) ∧ js.length = ys.length ∧ sortable ys = true := by
  have hm : ∀ x ∈ ys, x ∈ is.map PV.int := fun x hx => hp.mem_iff.mp (by simp [hx])
  obtain ⟨ns, rfl⟩ : ∃ ns : List Int, ys = ns.map .int := ints_all (by
    rw [List.all_eq_true]; intro x hx
    obtain ⟨k, _, rfl⟩ := List.mem_map.mp (hm x hx); rfl)
  have hnd : ns.Nodup := by
    have h1 : (ns.map PV.int ++ zs).Nodup := hp.nodup_iff.mpr (nodup_mapI nd)
    have h2 := (List.nodup_append.mp h1).1
    exact List.Pairwise.imp (fun {a b} h e => h (by rw [e])) (List.pairwise_map.mp h2)
  refine ⟨sdI ns, by rw [← sdI_eq, dedup_is hnd], sdI_pw ns, fun c hc => ?_, ?_, ?_⟩
  · have := hm (.int c) (by simpa using sdI_mem.mp hc)
    simpa using this
  · rw [← sd_len, dedup_is hnd]
  · simp [sortable]
def GateC (gs : List Gn) (wf tk i : Nat) : Prop := ∀ n, 3 ≤ n → ∀ (b M : Nat) (ds : List Int) Q, ds.length ≤ 100 → M ≤ 900 → (∀ d ∈ ds, 1 ≤ d ∧ d ≤ M) → ds.length * (M + 1) ≤ b →
  (∀ ps b', GateOk ds ps → b ≤ b' + ds.length * (M + 1) → Q (.tup (ps.map tupI)) b') → wCall gs wf tk n i [.ref 0, tupI ds] b Q
theorem gate_ok {p : Nat} (h : gs[i]? = some ⟨2, 4, t_w_gate p tk⟩) (hi : i ≠ tk) (hp : PickC gs wf tk p) : GateC gs wf tk i := by
  intro n hn b M ds Q h1 hM h2 hb hq
  rw [wcall_eq h (by omega) hi]
  simp [t_w_gate, bf, bfT, frE]
  refine forW (M + 1) (fun k ρ' => ∃ ps : List (List Int), ρ' = [some (.ref 0), some (tupI ds), some (.arg (ps.map tupI)), none] ∧ GateOk (ds.take k) ps) (fun _ => False) (by simp; omega) ?_ ?_ ?_ ?_
  · exact ⟨[], by simp, trivial⟩
  · intro k x hx ρ' b1 hI hb1
    obtain ⟨ps, rfl, hg⟩ := hI
    have hk : k < ds.length := by have := (List.getElem?_eq_some_iff.mp hx).1; simpa using this
    have hx : x = .int ds[k] := by
      rw [List.getElem?_map, List.getElem?_eq_getElem hk] at hx
      simpa using hx.symm
    subst hx
    have hd := h2 ds[k] (List.getElem_mem hk)
    obtain ⟨D, hD⟩ := Int.eq_ofNat_of_zero_le (show 0 ≤ ds[k] by omega)
    have hgl := hg.len
    simp at hgl
    rw [hD] at hd ⊢
    simp [bf]
    refine ⟨⟨rg_nat (by omega), by omega⟩, w_take (by omega) (by omega) (by omega) (by omega) fun u u1 u2 => ?_⟩
    simp
    refine hp (n - 1) (by omega) _ (.lst ((List.range D).map fun p : Nat => PV.int p)) (1 + u) _ (by simp) rfl rfl (by simp; omega) (by omega) (by omega) (by simp; omega) fun ys zs b2 hpm hyl hb2 => ?_
    obtain ⟨js, e, j1, j2, j3, j4⟩ := pick_part (is := (List.range D).map fun p : Nat => (p : Int)) (nodup_map List.nodup_range fun x _ y _ e => by omega) (ys := ys) (zs := zs) (by simpa [Function.comp_def] using hpm)
    simp at hyl hb2
    simp [e, j4]
    refine ⟨by omega, by omega, ps ++ [js], by simp [tupI], ?_⟩
    rw [List.take_succ_eq_append_getElem hk]
    refine hg.snoc ⟨j1, fun z => ?_, fun c hc => ?_⟩
    · rw [z] at j3; simp at j3; omega
    · obtain ⟨q, hq, rfl⟩ := List.mem_map.mp (j2 c hc)
      have := List.mem_range.mp hq
      omega
  · intro ρ' b' hI hb'
    obtain ⟨ps, rfl, hg⟩ := hI
    simp
    simp at hb' hg
    exact hq ps b' hg hb'
  · intro v' ρ' b' hf; exact hf.elim
end
end Dn

/-! k16: what is a door -/
namespace Dn
open PySem Ev
def t_isnum : T := (.seq (.ret (.and (.isi (.var 0) [.int]) (.not (.isi (.var 0) [.bool])))) .skip)
def t_rises : T := (.seq (.ret (.bi false .all1 (.cons (.lc false (.itr .zip2 (.cons (.var 0) (.cons (.slice false (.var 0) (.cons (.cst (.int 1)) .nil) .nil) .nil))) (.many [1, 2]) [1, 2] (.cst (.bl true)) (.cmp .lt (.var 1) (.var 2))) .nil))) .skip)
def t_is_lets (iis_number irises : Nat) : T := (.seq (.ite (.or (.not (.isi (.var 1) [.tuple])) (.cmp .eq (.bi false .len (.cons (.var 1) .nil)) (.cst (.int 0)))) (.seq (.ret (.cst (.bl false))) .skip) .skip) (.seq (.ret (.and (.bi false .all1 (.cons (.lc false (.itr .seq (.cons (.var 1) .nil)) (.one 2) [2] (.cst (.bl true)) (.and (.call iis_number (.cons (.var 2) .nil)) (.chain .le .lt (.cst (.int 0)) (.var 2) (.var 0)))) .nil)) (.call irises (.cons (.var 1) .nil)))) .skip))
def t_is_door (iis_lets : Nat) : T := (.seq (.ite (.or (.not (.isi (.var 1) [.tuple])) (.cmp .ne (.bi false .len (.cons (.var 1) .nil)) (.bi false .len (.cons (.var 0) .nil)))) (.seq (.ret (.cst (.bl false))) .skip) .skip) (.seq (.ret (.bi false .all1 (.cons (.lc false (.itr .zip2 (.cons (.var 0) (.cons (.var 1) .nil))) (.many [2, 3]) [2, 3] (.cst (.bl true)) (.call iis_lets (.cons (.var 2) (.cons (.var 3) .nil)))) .nil))) .skip))
def t_door_for (iset_of : Nat) : T := (.seq (.ret (.bi false .tuple1 (.cons (.lc false (.itr .zipn (.star (.var 0) .nil)) (.one 1) [1] (.cst (.bl true)) (.call iset_of (.cons (.var 1) .nil))) .nil))) .skip)
def t_lawis : T := (.seq (.ite (.or (.not (.isi (.var 1) [.tuple])) (.cmp .ne (.bi false .len (.cons (.var 1) .nil)) (.bi false .len (.cons (.var 0) .nil)))) (.seq (.ret (.cst (.bl false))) .skip) .skip) (.seq (.for_ (.itr .zip2 (.cons (.var 0) (.cons (.var 1) .nil))) (.many [2, 3]) (.seq (.ite (.or (.not (.isi (.var 3) [.tuple])) (.cmp .eq (.var 3) (.tup .nil))) (.seq (.ret (.cst (.bl false))) .skip) .skip) (.seq (.ite (.cmp .ne (.bi false .list1 (.cons (.var 3) .nil)) (.lc false (.itr .range1 (.cons (.var 2) .nil)) (.one 4) [4] (.cmp .inn (.var 4) (.var 3)) (.var 4))) (.seq (.ret (.cst (.bl false))) .skip) .skip) (.seq (.ite (.cmp .ne (.lc false (.itr .seq (.cons (.var 3) .nil)) (.one 4) [4] (.or (.not (.isi (.var 4) [.int])) (.isi (.var 4) [.bool])) (.var 4)) (.lst false .nil)) (.seq (.ret (.cst (.bl false))) .skip) .skip) .skip))) [2, 3]) (.seq (.ret (.cst (.bl true))) .skip)))
def t_bent16 (i_law_take i_law_of : Nat) : T := (.seq (.asg (.one 2) (.call i_law_take (.cons (.var 0) (.cons (.bi false .len (.cons (.var 1) .nil)) .nil)))) (.seq (.asg (.one 3) (.sub (.var 1) (.var 2))) (.seq (.asg (.one 4) (.lst false (.cons (.tup .nil) (.cons (.bin false .add (.var 3) (.tup (.cons (.sub (.var 3) (.neg (.cst (.int 1)))) .nil))) (.cons (.revS false (.var 3)) (.cons (.bi false .list1 (.cons (.var 3) .nil)) (.cons (.bin false .add (.var 3) (.tup (.cons (.cst (.int 99)) .nil))) (.cons (.bin false .add (.tup (.cons (.neg (.cst (.int 1))) .nil)) (.var 3)) (.cons (.cst (.non)) (.cons (.cst (.int 0)) .nil)))))))))) (.seq (.asg (.one 4) (.bin false .add (.var 4) (.lst false (.cons (.cst (.str "a")) (.cons (.tup (.cons (.cst (.non)) .nil)) (.cons (.tup (.cons (.cst (.str "a")) .nil)) (.cons (.tup (.cons (.cst (.bl true)) .nil)) .nil))))))) (.seq (.asg (.one 4) (.bin false .add (.var 4) (.lst false (.cons (.tup (.cons (.var 3) .nil)) (.cons (.tup (.cons (.cst (.int 0)) (.cons (.cst (.int 1)) (.cons (.cst (.int 2)) (.cons (.cst (.int 3)) (.cons (.cst (.int 4)) (.cons (.cst (.int 5)) .nil))))))) (.cons (.tup (.cons (.cst (.bl false)) (.cons (.cst (.int 1)) .nil))) (.cons (.tup (.cons (.lst false (.cons (.cst (.int 0)) .nil)) .nil)) .nil))))))) (.seq (.asg (.one 5) (.call i_law_of (.cons (.var 0) (.cons (.var 4) .nil)))) (.seq (.asg (.one 4) (.lst false (.cons (.bin false .add (.bin false .add (.slice false (.var 1) .nil (.cons (.var 2) .nil)) (.tup (.cons (.var 5) .nil))) (.slice false (.var 1) (.cons (.bin false .add (.var 2) (.cst (.int 1))) .nil) .nil)) (.cons (.bin false .add (.slice false (.var 1) .nil (.cons (.var 2) .nil)) (.slice false (.var 1) (.cons (.bin false .add (.var 2) (.cst (.int 1))) .nil) .nil)) (.cons (.bin false .add (.var 1) (.tup (.cons (.var 3) .nil))) (.cons (.bi false .list1 (.cons (.var 1) .nil)) .nil)))))) (.seq (.ret (.call i_law_of (.cons (.var 0) (.cons (.bin false .add (.var 4) (.lst false (.cons (.var 1) (.cons (.var 3) .nil)))) .nil)))) .skip))))))))
def t_case16 (i_law_deep i_law_gate i_law_bunch iis_door i_law_bent i_law_same i_law_is i_law_pinned idoor_for i_law_lists : Nat) : T := (.seq (.asg (.one 1) (.call i_law_deep (.cons (.var 0) (.cons (.cst (.int 4)) (.cons (.cst (.int 5)) .nil))))) (.seq (.asg (.many [5, 6]) (.tup (.cons (.call i_law_gate (.cons (.var 0) (.cons (.var 1) .nil))) (.cons (.call i_law_bunch (.cons (.var 0) (.cons (.var 1) (.cons (.cst (.int 6)) .nil)))) .nil)))) (.seq (.ite (.or (.not (.call iis_door (.cons (.var 1) (.cons (.var 5) .nil)))) (.not (.call iis_door (.cons (.bi false .list1 (.cons (.var 1) .nil)) (.cons (.var 5) .nil))))) (.seq (.ret (.cst (.bl false))) .skip) .skip) (.seq (.for_ (.itr .range1 (.cons (.cst (.int 8)) .nil)) (.one 2) (.seq (.asg (.one 7) (.call i_law_bent (.cons (.var 0) (.cons (.var 5) .nil)))) (.seq (.ite (.not (.call i_law_same (.cons (.lst false (.cons (.call iis_door (.cons (.var 1) (.cons (.var 7) .nil))) .nil)) (.cons (.lst false (.cons (.call i_law_is (.cons (.var 1) (.cons (.var 7) .nil))) .nil)) .nil)))) (.seq (.ret (.cst (.bl false))) .skip) .skip) .skip)) [2, 7]) (.seq (.asg (.one 3) (.call i_law_pinned (.cons (.var 6) .nil))) (.seq (.asg (.one 4) (.lst false (.cons (.call idoor_for (.cons (.var 6) .nil)) (.cons (.call idoor_for (.cons (.call i_law_lists (.cons (.var 6) .nil)) .nil)) (.cons (.call iis_door (.cons (.var 1) (.cons (.var 3) .nil))) .nil))))) (.seq (.ret (.call i_law_same (.cons (.var 4) (.cons (.lst false (.cons (.var 3) (.cons (.var 3) (.cons (.cst (.bl true)) .nil)))) .nil)))) .skip)))))))
def numIn (d : Int) : PV → Bool
  | .int c => decide (0 ≤ c) && decide (c < d)
  | _ => false
def risesB (ns : List Int) : Bool := (ns.zip (ns.drop 1)).all fun q => decide (q.1 < q.2)
theorem rises_pw : ∀ {ns : List Int}, risesB ns = true ↔ ns.Pairwise (· < ·)
  | [] => by simp [risesB]
  | [a] => by simp [risesB]
  | a :: b :: r => by
    have ih := rises_pw (ns := b :: r)
    have e : risesB (a :: b :: r) = (decide (a < b) && risesB (b :: r)) := rfl
    rw [e, Bool.and_eq_true, ih, decide_eq_true_eq, List.pairwise_cons (a := a)]
    constructor
    · rintro ⟨h1, h2⟩
      refine ⟨fun c hc => ?_, h2⟩
      rcases List.mem_cons.mp hc with q | q
      · omega
      · have := (List.pairwise_cons.mp h2).1 c q; omega
    · rintro ⟨h1, h2⟩
      exact ⟨h1 b (by simp), h2⟩
def partB (d : Int) : PV → Bool
  | .tup xs => !xs.isEmpty && (xs.all (numIn d) && risesB (xs.map intT))
  | _ => false
def doorB (ds : List Int) : PV → Bool
  | .tup xs => decide (xs.length = ds.length) && (ds.zip xs).all fun q => partB q.1 q.2
  | _ => false
theorem num_ints {d : Int} {xs : List PV} (h : xs.all (numIn d) = true) : ∃ ns : List Int, xs = ns.map .int := ints_all (by
  rw [List.all_eq_true] at h ⊢
  intro x hx
  have := h x hx
  cases x <;> simp_all [numIn, isInt])
theorem part_ints {d : Int} {ns : List Int} : partB d (.tup (ns.map .int)) = true ↔ PartOk d ns := by
  have e1 : (ns.map PV.int).all (numIn d) = true ↔ ∀ c ∈ ns, 0 ≤ c ∧ c < d := by simp [numIn]
  have e2 : (ns.map PV.int).map intT = ns := by simp [Function.comp_def]
  simp only [partB, Bool.and_eq_true, e1, e2, rises_pw, PartOk]
  cases ns <;> simp
  exact ⟨fun h => ⟨h.2, h.1⟩, fun h => ⟨h.2, h.1⟩⟩
/-- the law's own look -/
theorem range_part {d : Int} {ns : List Int} : (((List.range d.toNat).map fun c : Nat => (c : Int)).filter fun c => decide (c ∈ ns)) = ns ↔ ns.Pairwise (· < ·) ∧ ∀ c ∈ ns, 0 ≤ c ∧ c < d := by
  have hp : ((List.range d.toNat).map fun c : Nat => (c : Int)).Pairwise (· < ·) := by
    rw [List.pairwise_map]
    exact List.pairwise_lt_range.imp fun {a b} h => by omega
  have hm : ∀ c, c ∈ ((List.range d.toNat).map fun c : Nat => (c : Int)).filter (fun c => decide (c ∈ ns)) ↔ (0 ≤ c ∧ c < d) ∧ c ∈ ns := fun c => by
    rw [List.mem_filter, decide_eq_true_eq, List.mem_map]
    constructor
    · rintro ⟨⟨a, ha, rfl⟩, h⟩
      have := List.mem_range.mp ha
      exact ⟨by omega, h⟩
    · rintro ⟨h1, h2⟩
      exact ⟨⟨c.toNat, List.mem_range.mpr (by omega), by omega⟩, h2⟩
  constructor
  · intro h
    rw [h] at hm
    refine ⟨?_, fun c hc => ((hm c).mp hc).1⟩
    have := hp.filter fun c => decide (c ∈ ns)
    rw [h] at this
    exact this
  · rintro ⟨h1, h2⟩
    exact asc_eq (hp.filter _) h1 fun c => by rw [hm]; exact ⟨fun q => q.2, fun q => ⟨h2 c q, q⟩⟩
theorem gr_of {v : PV} (h : noStr v = true) : v.ground = true := (shp_lay (dep v + 1) v (by omega) h).2.2
theorem ref_of {v : PV} (h : v.ground = true) : isRef v = false := by cases v <;> simp_all [isRef, PV.ground]
theorem gr_ofL {xs : List PV} (h : noStrL xs = true) : groundL xs = true := groundL_of fun x hx => gr_of (noStr_mem h hx)
theorem cmp_num (d : Int) (x : PV) : (isInt x && (cmpT .le (.int 0) x && cmpT .lt x (.int d))) = numIn d x := by
  cases x <;> simp [isInt, numIn]
theorem eqP_lstI (a b : List Int) : eqP (.lst (a.map .int)) (.lst (b.map .int)) = decide (a = b) := by
  simp only [eqP, PV.dat, datL_int, PyData.eqv, eqv_ints]
theorem eqT_nil (xs : List PV) : eqP (.tup xs) (.tup []) = xs.isEmpty := by
  cases xs with
  | nil => rfl
  | cons x r => simp [eqP, PV.dat, datL, PyData.eqv, PyData.eqvAll]
theorem tyI (x : PV) : (!([Ty.int].any (isTy x)) || [Ty.bool].any (isTy x)) = !isInt x := by cases x <;> rfl
section
variable {gs : List Gn} {wf i j t tk : Nat}
def IsNumC (gs : List Gn) (wf i : Nat) : Prop := ∀ n, 1 ≤ n → ∀ v : PV, dCall gs wf n i [v] = .bl (isInt v) ∧ (v.ground = true → sCall gs wf n i [v])
theorem isnum_ok (h : gs[i]? = some ⟨1, 1, t_isnum⟩) : IsNumC gs wf i := by
  intro n hn v
  rw [dcall_eq h hn, scall_eq h hn]
  cases v <;> simp [t_isnum, isTy, isInt, PV.ground]
def RisesC (gs : List Gn) (wf i : Nat) : Prop := ∀ n, 1 ≤ n → ∀ ns : List Int, dCall gs wf n i [.tup (ns.map .int)] = .bl (risesB ns) ∧ sCall gs wf n i [.tup (ns.map .int)]
theorem rises_ok (h : gs[i]? = some ⟨1, 3, t_rises⟩) : RisesC gs wf i := by
  intro n hn ns
  rw [dcall_eq h hn, scall_eq h hn]
  have hc : cutP (ns.map PV.int) (some 1) none = (ns.drop 1).map .int := by rw [show (1 : Int) = ((1 : Nat) : Int) from rfl, cut_from, List.map_drop]
  simp [t_rises, Function.comp_def, hc, zipL_map, -List.drop_one, -List.map_drop]
  refine ⟨rfl, ?_⟩
  rintro x a b _ rfl
  simp
def LetsDC (gs : List Gn) (wf i : Nat) : Prop := ∀ n, 2 ≤ n → ∀ (d : Int) (v : PV), noStr v = true → dep v ≤ 8 → dCall gs wf n i [.int d, v] = .bl (partB d v) ∧ sCall gs wf n i [.int d, v]
theorem letsD_ok (h : gs[i]? = some ⟨2, 3, t_is_lets j t⟩) (hn' : IsNumC gs wf j) (hr : RisesC gs wf t) : LetsDC gs wf i := by
  intro n hn d v hv hd
  have e1 := fun x => (hn' (n - 1) (by omega) x).1
  have s1 := fun x => (hn' (n - 1) (by omega) x).2
  rw [dcall_eq h (by omega), scall_eq h (by omega)]
  cases v with
  | tup xs =>
    have hx : noStrL xs = true := by simpa [noStr] using hv
    have hg := gr_ofL hx
    have hgx : ∀ x ∈ xs, x.ground = true := fun x hm => gr_of (noStr_mem hx hm)
    have hc : (∀ x, x ∈ xs → isInt x = true ∧ cmpT .le (.int 0) x = true ∧ cmpT .lt x (.int d) = true) ↔ xs.all (numIn d) = true := by
      simp only [List.all_eq_true, ← cmp_num, Bool.and_eq_true]
    have hcs : ∀ x ∈ xs, isInt x = true → cmpS .le (.int 0) x ∧ (cmpT .le (.int 0) x = true → cmpS .lt x (.int d)) := fun x _ h => by
      cases x <;> simp [isInt] at h ⊢
    simp [t_is_lets, isTy, e1, partB, hc]
    refine ⟨?_, hg, fun _ => ⟨fun x hm => ⟨⟨hgx x hm, s1 x (hgx x hm)⟩, hcs x hm⟩, fun ha => ?_⟩, fun _ => ?_⟩
    · by_cases h0 : xs = []
      · simp [h0]
      · have h0' : xs.isEmpty = false := by cases xs <;> simp_all
        by_cases hA : ∀ x ∈ xs, numIn d x = true
        · have ha : xs.all (numIn d) = true := List.all_eq_true.mpr hA
          obtain ⟨ns, rfl⟩ := num_ints ha
          have := (hr (n - 1) (by omega) ns).1
          rw [if_neg h0, if_pos hA, this, h0', ha]
          simp [Function.comp_def]
        · have ha : xs.all (numIn d) = false := by
            cases q : xs.all (numIn d) with
            | false => rfl
            | true => exact absurd (List.all_eq_true.mp q) hA
          rw [if_neg h0, if_neg hA, h0', ha]
          rfl
    · obtain ⟨ns, rfl⟩ := num_ints (List.all_eq_true.mpr ha)
      exact ⟨by simp, (hr (n - 1) (by omega) ns).2⟩
    · right
      by_cases hA : ∀ x ∈ xs, numIn d x = true
      · obtain ⟨ns, rfl⟩ := num_ints (List.all_eq_true.mpr hA)
        have := (hr (n - 1) (by omega) ns).1
        rw [if_pos hA, this]; rfl
      · rw [if_neg hA]; rfl
  | ref l => simp [noStr] at hv
  | arg l => simp [noStr] at hv
  | lst xs => simp [t_is_lets, isTy, partB, gr_ofL (show noStrL xs = true by simpa [noStr] using hv)]
  | _ => simp [t_is_lets, isTy, partB]
def DoorBC (gs : List Gn) (wf i : Nat) : Prop := ∀ n, 3 ≤ n → ∀ (b : Bool) (ds : List Int) (v : PV), noStr v = true → dep v ≤ 8 → dCall gs wf n i [keyV b ds, v] = .bl (doorB ds v) ∧ sCall gs wf n i [keyV b ds, v]
theorem zip_part (ds : List Int) (xs : List PV) : zipL (ds.map .int) xs = (ds.zip xs).map fun q => .tup [.int q.1, q.2] := by
  have := zipL_map PV.int (id : PV → PV) ds xs
  simpa using this
theorem doorB_ok (h : gs[i]? = some ⟨2, 4, t_is_door j⟩) (hl : LetsDC gs wf j) : DoorBC gs wf i := by
  intro n hn b ds v hv hd
  rw [dcall_eq h (by omega), scall_eq h (by omega)]
  cases v with
  | tup xs =>
    have hx : noStrL xs = true := by simpa [noStr] using hv
    have hg := gr_ofL hx
    have hdx : ∀ x ∈ xs, dep x ≤ 8 := fun x hm => by have := dep_mem hm; simp only [dep] at hd; omega
    have hm : ∀ {a : Int} {x : PV}, (a, x) ∈ ds.zip xs → x ∈ xs := fun h => (List.of_mem_zip h).2
    have e : ∀ a x, (a, x) ∈ ds.zip xs → dCall gs wf (n - 1) j [.int a, x] = .bl (partB a x) ∧ sCall gs wf (n - 1) j [.int a, x] := fun a x h => hl (n - 1) (by omega) a x (noStr_mem hx (hm h)) (hdx x (hm h))
    by_cases h0 : xs.length = ds.length
    · simp [t_is_door, isTy, doorB, hg, h0, zip_part, Function.comp_def]
      refine ⟨?_, ?_, fun a x hax => by rw [(e a x hax).1]; rfl⟩
      · rw [Bool.eq_iff_iff, List.all_eq_true, List.all_eq_true]
        exact ⟨fun H q hq => by have := H q hq; rw [(e q.1 q.2 hq).1] at this; simpa using this, fun H q hq => by rw [(e q.1 q.2 hq).1]; simpa using H q hq⟩
      · rintro x a y hay rfl
        have hgy := gr_of (noStr_mem hx (hm hay))
        simp [hgy, e a y hay]
    · have h0' : ¬ ((xs.length : Int) = ds.length) := by omega
      simp [t_is_door, isTy, doorB, hg, h0, h0']
  | ref l => simp [noStr] at hv
  | arg l => simp [noStr] at hv
  | lst xs => simp [t_is_door, isTy, doorB, gr_ofL (show noStrL xs = true by simpa [noStr] using hv)]
  | _ => simp [t_is_door, isTy, doorB]
def LawIsC (gs : List Gn) (wf i : Nat) : Prop := ∀ n, 1 ≤ n → ∀ (ds : List Int) (v : PV), (∀ d ∈ ds, 0 ≤ d ∧ d ≤ 1000) → noStr v = true → dep v ≤ 8 → dCall gs wf n i [tupI ds, v] = .bl (doorB ds v) ∧ sCall gs wf n i [tupI ds, v]
theorem lawis_ok (h : gs[i]? = some ⟨2, 5, t_lawis⟩) : LawIsC gs wf i := by
  intro n hn ds v hds hv hd
  rw [dcall_eq h (by omega), scall_eq h (by omega)]
  cases v with
  | tup xs =>
    have hx : noStrL xs = true := by simpa [noStr] using hv
    have hg := gr_ofL hx
    by_cases h0 : xs.length = ds.length
    · have hm : ∀ {a : Int} {x : PV}, (a, x) ∈ ds.zip xs → a ∈ ds ∧ x ∈ xs := fun h => List.of_mem_zip h
      have hdx : ∀ x ∈ xs, dep x ≤ 8 := fun x hm => by have := dep_mem hm; simp only [dep] at hd; omega
      have hst : ∀ q ∈ ds.zip xs, nrm [2, 3] (bodyT (dCall gs wf (n - 1)) wf (.many [2, 3]) (.seq (.ite (.or (.not (.isi (.var 3) [.tuple])) (.cmp .eq (.var 3) (.tup .nil))) (.seq (.ret (.cst (.bl false))) .skip) .skip) (.seq (.ite (.cmp .ne (.bi false .list1 (.cons (.var 3) .nil)) (.lc false (.itr .range1 (.cons (.var 2) .nil)) (.one 4) [4] (.cmp .inn (.var 4) (.var 3)) (.var 4))) (.seq (.ret (.cst (.bl false))) .skip) .skip) (.seq (.ite (.cmp .ne (.lc false (.itr .seq (.cons (.var 3) .nil)) (.one 4) [4] (.or (.not (.isi (.var 4) [.int])) (.isi (.var 4) [.bool])) (.var 4)) (.lst false .nil)) (.seq (.ret (.cst (.bl false))) .skip) .skip) .skip))) (PV.tup [.int q.1, q.2]) [some (tupI ds), some (PV.tup xs), none, none, none]) = if !partB q.1 q.2 then (.rt (.bl false), []) else (.nx, [some (tupI ds), some (PV.tup xs), none, none, none]) := fun q hq => by
        obtain ⟨a, x⟩ := q
        cases x with
        | tup ys =>
          have c0 : cmpT .eq (.tup ys) (.tup []) = ys.isEmpty := eqT_nil ys
          have hE : (∃ x, x ∈ ys ∧ (isTy x Ty.int = true → isTy x Ty.bool = true)) ↔ ¬ ys.all isInt = true := by
            rw [List.all_eq_true, Classical.not_forall]
            constructor
            · rintro ⟨x, h1, h2⟩
              refine ⟨x, fun H => ?_⟩
              have := H h1
              cases x <;> simp_all [isInt, isTy]
            · rintro ⟨x, h⟩
              rw [Classical.not_imp] at h
              refine ⟨x, h.1, ?_⟩
              cases x <;> simp_all [isInt, isTy]
          have htt : isTy (.tup ys) Ty.tuple = true := rfl
          simp [htt, c0]
          by_cases hy : ys = []
          · simp [hy, partB]
          · by_cases hI : ys.all isInt = true
            · obtain ⟨ns, rfl⟩ := ints_all hI
              have e2 : ((List.range a.toNat).map fun p : Nat => PV.int (p : Int)).filter (fun x => cmpT .inn x (.tup (ns.map .int))) = (((List.range a.toNat).map fun c : Nat => (c : Int)).filter fun c => decide (c ∈ ns)).map .int := by
                rw [List.filter_map, List.filter_map, List.map_map]
                congr 1
                refine List.filter_congr fun p _ => ?_
                exact cmpT_innV _ rfl
              have e3 : cmpT .ne (.lst (ns.map .int)) (.lst ((((List.range a.toNat).map fun c : Nat => (c : Int)).filter fun c => decide (c ∈ ns)).map .int)) = !decide (ns = ((List.range a.toNat).map fun c : Nat => (c : Int)).filter fun c => decide (c ∈ ns)) := by
                show (!eqP (.lst (ns.map .int)) (.lst (List.map PV.int _))) = _
                rw [eqP_lstI]
              have e4 : partB a (.tup (ns.map .int)) = decide (ns = ((List.range a.toNat).map fun c : Nat => (c : Int)).filter fun c => decide (c ∈ ns)) := by
                rw [Bool.eq_iff_iff, part_ints, decide_eq_true_eq, eq_comm, range_part, PartOk]
                have : ns ≠ [] := by simpa using hy
                simp [this]
              rw [e2, e3, e4]
              have : ns ≠ [] := by simpa using hy
              generalize decide (ns = ((List.range a.toNat).map fun c : Nat => (c : Int)).filter fun c => decide (c ∈ ns)) = q
              have ti : ∀ c : Int, isTy (.int c) Ty.int = true ∧ isTy (.int c) Ty.bool = false := fun _ => ⟨rfl, rfl⟩
              cases q <;> simp [this, isInt, ti]
            · have e4 : partB a (.tup ys) = false := by
                cases q : partB a (.tup ys) with
                | false => rfl
                | true =>
                  simp only [partB, Bool.and_eq_true] at q
                  obtain ⟨ns, rfl⟩ := num_ints q.2.1
                  exact absurd (by simp [isInt]) hI
              rw [e4]
              have hy' : ys.isEmpty = false := by cases ys <;> simp_all
              simp [hy']
              exact fun _ _ => hE.mpr hI
        | _ => simp [isTy, partB]
      have hS : ∀ q ∈ ds.zip xs, bodyS (dCall gs wf (n - 1)) (sCall gs wf (n - 1)) wf (.many [2, 3]) (.seq (.ite (.or (.not (.isi (.var 3) [.tuple])) (.cmp .eq (.var 3) (.tup .nil))) (.seq (.ret (.cst (.bl false))) .skip) .skip) (.seq (.ite (.cmp .ne (.bi false .list1 (.cons (.var 3) .nil)) (.lc false (.itr .range1 (.cons (.var 2) .nil)) (.one 4) [4] (.cmp .inn (.var 4) (.var 3)) (.var 4))) (.seq (.ret (.cst (.bl false))) .skip) .skip) (.seq (.ite (.cmp .ne (.lc false (.itr .seq (.cons (.var 3) .nil)) (.one 4) [4] (.or (.not (.isi (.var 4) [.int])) (.isi (.var 4) [.bool])) (.var 4)) (.lst false .nil)) (.seq (.ret (.cst (.bl false))) .skip) .skip) .skip))) (PV.tup [.int q.1, q.2]) [some (tupI ds), some (PV.tup xs), none, none, none] := fun q hq => by
        obtain ⟨a, x⟩ := q
        have hxn := noStr_mem hx (hm hq).2
        have hxd := hdx x (hm hq).2
        have had := hds a (hm hq).1
        have hgx := gr_of hxn
        cases x with
        | tup ys =>
          simp [isTy, hgx]
          have hyn : noStrL ys = true := by simpa [noStr] using hxn
          have hyd : depL ys ≤ 8 := by simp only [dep] at hxd; omega
          have h1 : shp (.tup ys) = true := shp_of hxn (by omega)
          have h2 : shp (.lst ys) = true := shp_of (by simpa [noStr] using hyn) (by simp only [dep]; omega)
          have hf : ∀ x ∈ ((List.range a.toNat).map fun p : Nat => PV.int (p : Int)).filter (fun x => cmpT .inn x (.tup ys)), ∃ c : Int, x = .int c := fun x hx => by
            obtain ⟨p, _, rfl⟩ := List.mem_map.mp (List.mem_filter.mp hx).1
            exact ⟨p, rfl⟩
          have h3 : shp (.lst (((List.range a.toNat).map fun p : Nat => PV.int (p : Int)).filter (fun x => cmpT .inn x (.tup ys)))) = true := shp_of (by
            show noStrL _ = true
            exact noStrL_all fun x hx => by obtain ⟨c, rfl⟩ := hf x hx; rfl) (by
            have := depL_le (n := 0) fun x hx => by obtain ⟨c, rfl⟩ := hf x hx; exact Nat.le_refl 0
            simp only [dep]; omega)
          refine ⟨⟨h1, rfl⟩, fun _ => ⟨⟨⟨⟨by simp [rgOk]; omega, by omega⟩, fun p _ => ⟨rfl, h1, rfl⟩⟩, h2, h3⟩, fun _ => ⟨fun x hx _ => gr_of (noStr_mem hyn hx), cmpS_nil (.inr rfl) ?_ ?_⟩⟩⟩
          · exact noStrL_all fun x hx => noStr_mem hyn (List.mem_filter.mp hx).1
          · exact Nat.le_trans (depL_le (n := 8) fun x hx => Nat.le_trans (dep_mem (List.mem_filter.mp hx).1) hyd) (by omega)
        | _ => simp [isTy, hgx]
      have hD := forT_find (p := fun q : Int × PV => !partB q.1 q.2) (v := fun _ => PV.bl false) (ds.zip xs) hst
      have hall : ((ds.zip xs).all fun q => partB q.1 q.2) = ((ds.zip xs).find? fun q : Int × PV => !partB q.1 q.2).isNone := by
        rw [Bool.eq_iff_iff, List.all_eq_true, Option.isNone_iff_eq_none, List.find?_eq_none]
        simp
      simp [t_lawis, isTy, doorB, hg, h0, zip_part, Function.comp_def]
      rw [hD, hall]
      refine ⟨?_, ⟨forS_find (p := fun q : Int × PV => !partB q.1 q.2) (v := fun _ => PV.bl false) (ds.zip xs) hst hS, ?_⟩, ?_⟩
      all_goals cases (ds.zip xs).find? fun q : Int × PV => !partB q.1 q.2 <;> simp
    · have h0' : ¬ ((xs.length : Int) = ds.length) := by omega
      simp [t_lawis, isTy, doorB, hg, h0, h0']
  | ref l => simp [noStr] at hv
  | arg l => simp [noStr] at hv
  | lst xs => simp [t_lawis, isTy, doorB, gr_ofL (show noStrL xs = true by simpa [noStr] using hv)]
  | _ => simp [t_lawis, isTy, doorB]
def DoorForC (gs : List Gn) (wf i : Nat) : Prop := ∀ n, 2 ≤ n → ∀ (b c : Bool) (cs : List (List Int)) (m : Nat), cs ≠ [] → (∀ o ∈ cs, o.length = m) →
  dCall gs wf n i [rowsV b c cs] = .tup ((pinnedL cs).map tupI) ∧ (cs.length < 60 → sCall gs wf n i [rowsV b c cs])
theorem doorfor_ok (h : gs[i]? = some ⟨1, 2, t_door_for j⟩) (hs : SetAnyC gs wf j) : DoorForC gs wf i := by
  intro n hn b c cs m hne hl
  have hc := common_ok (wf := wf) (gs := gs) (i := i) (j := j) h hs n hn b c cs m hne hl
  have hm : (cs.headD []).length = m := by
    cases cs with
    | nil => exact absurd rfl hne
    | cons k r => exact hl k (by simp)
  refine ⟨?_, hc.2⟩
  rw [hc.1, pinnedL, hm, List.map_map]
  rfl
def Th (v : PV) : Prop := noStr v = true ∧ dep v ≤ 8
def BentC (gs : List Gn) (wf tk i : Nat) : Prop := ∀ n, 3 ≤ n → ∀ (b : Nat) (ga : List (List Int)) Q, 1 ≤ ga.length → ga.length ≤ 1000 → (∀ p ∈ ga, 1 ≤ p.length ∧ p.length ≤ 1000) → 3 ≤ b → (∀ v b', Th v → b ≤ b' + 3 → Q v b') → wCall gs wf tk n i [.ref 0, .tup (ga.map tupI)] b Q
theorem bent_ok {o : Nat} (h : gs[i]? = some ⟨2, 6, t_bent16 tk o⟩) (hi : i ≠ tk) (ho : OfC gs wf tk o) : BentC gs wf tk i := by
  intro n hn b ga Q h1 h2 h3 hb hQ
  rw [wcall_eq h (by omega) hi]
  simp [t_bent16, bf, bfT]
  refine w_take (by omega) (by omega) (by omega) (by omega) fun u u1 u2 => ?_
  obtain ⟨k, rfl⟩ := Int.eq_ofNat_of_zero_le u1
  have hk : k < ga.length := by omega
  have hp := h3 ga[k] (List.getElem_mem hk)
  have hgk : gP ga k = ga[k] := by simp [gP, List.getElem?_eq_getElem hk]
  have hat : atT (ga.map tupI) (k : Int) = .tup ((gP ga k).map .int) := at_rowsT hk
  have hpl : (L2.atI ((gP ga k).map PV.int) (-1)).isSome = true := by
    rw [hgk]
    have : 0 < ga[k].length := by omega
    unfold L2.atI L2.ixN
    rw [List.length_map]
    have h1 : (1 : Int) ≤ ga[k].length := by omega
    have h2 : (-1 + (ga[k].length : Int)).toNat < ga[k].length := by omega
    simp [h1, List.getElem?_eq_getElem h2]
  have hp' : (gP ga k).length ≤ 1000 := by rw [hgk]; exact hp.2
  have hgr : groundL ((gP ga k).map PV.int).reverse = true := groundL_of fun x hx => by
    obtain ⟨c, _, rfl⟩ := List.mem_map.mp (List.mem_reverse.mp hx); rfl
  simp [bf, bfT, hat, at_rowsS hk, hpl, hgr]
  refine ⟨by omega, ho (n - 1) (by omega) _ _ _ (by simp [PV.ground, hgr]) rfl rfl (by simp) (by simp) (by omega) fun x hx hg => ?_⟩
  have hx' : noStr x = true ∧ dep x ≤ 2 := by
    simp at hx
    have hi : noStrL ((gP ga k).map PV.int) = true := noStr_is _
    have hd := dep_is (gP ga k)
    have ha : noStr (.str (Str.ofString "a")) = true := by decide +kernel
    have hN : ∀ xs : List PV, (∀ x ∈ xs, ∃ c : Int, x = .int c) → noStrL xs = true ∧ depL xs ≤ 0 := fun xs h => ⟨noStrL_all fun x hx => by obtain ⟨c, rfl⟩ := h x hx; rfl, depL_le fun x hx => by obtain ⟨c, rfl⟩ := h x hx; exact Nat.le_refl 0⟩
    have n1 := hN ((gP ga k).map PV.int ++ [.int (gI (gP ga k) (-1))]) (by simp; exact fun x h => h.elim (fun ⟨c, _, e⟩ => ⟨c, e.symm⟩) fun e => ⟨_, e⟩)
    have n2 := hN ((gP ga k).map PV.int).reverse (by simp)
    have n3 := hN ((gP ga k).map PV.int ++ [.int 99]) (by simp; exact fun x h => h.elim (fun ⟨c, _, e⟩ => ⟨c, e.symm⟩) fun e => ⟨_, e⟩)
    rcases hx with rfl | rfl | rfl | rfl | rfl | rfl | rfl | rfl | rfl | rfl | rfl | rfl | rfl | rfl | rfl | rfl
    all_goals simp only [noStr, noStrL, dep, depL, hi, ha, n1, n2, n3, Bool.and_self, true_and, Bool.true_and]
    all_goals first | done | omega | (simp; done) | (exact ⟨ha, by omega⟩) | (exact ⟨by rw [Bool.and_true]; exact ha, by decide⟩)
  simp [bf, bfT, hg, ref_of hg]
  have hmm : min k ga.length ≤ 1000 := by omega
  have g1 : groundL ((ga.map tupI).take k) = true := groundL_of fun x hx => ground_get (gr_rows ga) x (List.mem_of_mem_take hx)
  have g2 : groundL ((ga.map tupI).drop (k + 1)) = true := groundL_of fun x hx => ground_get (gr_rows ga) x (List.mem_of_mem_drop hx)
  refine ⟨⟨⟨by omega, by omega, by omega⟩, g1, g2⟩, ⟨g1, g2⟩, ho (n - 1) (by omega) _ _ _ (by simp [PV.ground, g1, g2, hg]) rfl rfl (by simp) (by simp) (by omega) fun y hy hgy => ?_⟩
  simp at hy
  simp [hgy]
  have hfz : frz y = y := by cases y <;> simp_all [frz, PV.ground]
  rw [hfz]
  refine hQ _ (b - 1 - 1 - 1) ?_ (by omega)
  have hr : ∀ x ∈ ga.map tupI, noStr x = true ∧ dep x ≤ 1 := fun x hx => by
    obtain ⟨p, _, rfl⟩ := List.mem_map.mp hx
    exact ⟨noStr_is p, dep_tupI p⟩
  have hT : ∀ xs : List PV, (∀ x ∈ xs, noStr x = true ∧ dep x ≤ 2) → Th (.tup xs) := fun xs h => ⟨by show noStrL xs = true; exact noStrL_all fun x hx => (h x hx).1, by have := depL_le (n := 2) fun x hx => (h x hx).2; simp only [dep]; omega⟩
  have hT' : ∀ xs : List PV, (∀ x ∈ xs, noStr x = true ∧ dep x ≤ 2) → Th (.lst xs) := fun xs h => ⟨by show noStrL xs = true; exact noStrL_all fun x hx => (h x hx).1, by have := depL_le (n := 2) fun x hx => (h x hx).2; simp only [dep]; omega⟩
  have hr2 : ∀ x ∈ ga.map tupI, noStr x = true ∧ dep x ≤ 2 := fun x hx => ⟨(hr x hx).1, by have := (hr x hx).2; omega⟩
  have hpt : noStr (.tup ((gP ga k).map PV.int)) = true ∧ dep (.tup ((gP ga k).map PV.int)) ≤ 2 := ⟨noStr_is _, by have := dep_is (gP ga k); simp only [dep]; omega⟩
  rcases hy with rfl | rfl | rfl | rfl | rfl | rfl
  · refine hT _ fun z hz => ?_
    rcases List.mem_append.mp hz with q | q
    · exact hr2 z (List.mem_of_mem_take q)
    · rcases List.mem_cons.mp q with q | q
      · rw [q]; exact hx'
      · exact hr2 z (List.mem_of_mem_drop q)
  · refine hT _ fun z hz => ?_
    rcases List.mem_append.mp hz with q | q
    · exact hr2 z (List.mem_of_mem_take q)
    · exact hr2 z (List.mem_of_mem_drop q)
  · refine hT _ fun z hz => ?_
    rcases List.mem_append.mp hz with q | q
    · exact hr2 z q
    · simp at q; rw [q]; exact hpt
  · exact hT' _ hr2
  · exact hT _ hr2
  · exact ⟨hpt.1, by omega⟩
theorem gate_range : ∀ {ds : List Int} {f : Nat → List Int}, (∀ p : Nat, p < ds.length → PartOk (gI ds p) (f p)) → GateOk ds ((List.range ds.length).map f)
  | [], _, _ => trivial
  | d :: ds, f, h => by
    rw [List.length_cons, List.range_succ_eq_map, List.map_cons, List.map_map]
    refine ⟨by have := h 0 (by simp); rwa [gI_0] at this, gate_range fun p hp => ?_⟩
    have := h (p + 1) (by simpa using hp)
    rw [gI_s] at this
    exact this
theorem pinned_gate {ds : List Int} {cs : List (List Int)} (hne : cs ≠ []) (h : ∀ o ∈ cs, KeyOk ds o) : GateOk ds (pinnedL cs) := by
  have hm : (cs.headD []).length = ds.length := by
    cases cs with
    | nil => exact absurd rfl hne
    | cons k r => exact (h k (by simp)).len
  unfold pinnedL
  rw [hm]
  refine gate_range fun p hp => ⟨sdI_pw _, fun z => ?_, fun c hc => ?_⟩
  · cases cs with
    | nil => exact hne rfl
    | cons k r =>
      have : gI k p ∈ sdI (col (k :: r) p) := sdI_mem.mpr (by simp [col])
      rw [z] at this
      simp at this
  · obtain ⟨o, ho, rfl⟩ := List.mem_map.mp (sdI_mem.mp hc)
    exact (h o ho).at' p hp
theorem doorB_gate : ∀ {ds : List Int} {ps : List (List Int)}, GateOk ds ps → doorB ds (.tup (ps.map tupI)) = true
  | [], [], _ => rfl
  | d :: ds, p :: ps, h => by
    have ih := doorB_gate h.2
    have hp : partB d (tupI p) = true := part_ints.mpr h.1
    simp only [doorB, Bool.and_eq_true, decide_eq_true_eq, List.map_cons, List.length_cons, List.zip_cons_cons, List.all_cons, hp] at ih ⊢
    exact ⟨by omega, trivial, ih.2⟩
structure Fs16 (gs : List Gn) (wf tk : Nat) (deep gate bunch door bent same lawis pinned doorfor lists : Nat) : Prop where
  deep_ : DeepC gs wf tk deep
  gate_ : GateC gs wf tk gate
  bunch_ : ChiefC gs wf tk bunch
  door_ : DoorBC gs wf door
  bent_ : BentC gs wf tk bent
  same_ : SameC gs wf same
  lawis_ : LawIsC gs wf lawis
  pinned_ : PinnedC gs wf pinned
  doorfor_ : DoorForC gs wf doorfor
  lists_ : ListsC gs wf lists
theorem case16_ok {deep gate bunch door bent same lawis pinned doorfor lists : Nat} (F : Fs16 gs wf tk deep gate bunch door bent same lawis pinned doorfor lists)
    (h : gs[i]? = some ⟨1, 8, t_case16 deep gate bunch door bent same lawis pinned doorfor lists⟩) (hi : i ≠ tk) : CaseC gs wf tk i 12 10200 := by
  intro n hn bb hb Q hQ
  rw [wcall_eq h (by omega) hi]
  simp [t_case16, bf, bfT]
  refine F.deep_ (n - 1) (by omega) bb 4 5 _ (by omega) (by omega) (by omega) (by omega) (by omega) fun ds b1 d1 d2 d3 hb1 => ?_
  have hd6 : ds.length * 6 ≤ 24 := by omega
  simp [bf, bfT]
  refine F.gate_ (n - 1) (by omega) b1 5 ds _ (by omega) (by omega) (fun d hd => by have := d3 d hd; omega) (by omega) fun ga b2 hga hb2 => ?_
  simp [bf, bfT]
  refine F.bunch_ (n - 1) (by omega) b2 ds 6 _ d1 (by omega) (fun d hd => by have := d3 d hd; omega) (by omega) (by omega) (by omega) fun cs b3 c1 c2 c3 c4 hb3 => ?_
  have hcl : ∀ q ∈ cs, q.length = ds.length := fun q hq => (c4 q hq).len
  have hcn : cs ≠ [] := fun z => by rw [z] at c2; simp at c2
  have hh : (cs.headD []).length = ds.length := by
    cases cs with
    | nil => exact absurd rfl hcn
    | cons k r => exact hcl k (by simp)
  have hgl := hga.len
  have hrow : ∀ ps : List (List Int), noStr (.tup (ps.map tupI)) = true ∧ dep (.tup (ps.map tupI)) ≤ 8 := fun ps => ⟨by simp [noStr, noStr_rows], by have := dep_rows ps; simp only [dep]; omega⟩
  have e1 := F.door_ (n - 1) (by omega) false ds (.tup (ga.map tupI)) (hrow ga).1 (hrow ga).2
  have e2 := F.door_ (n - 1) (by omega) true ds (.tup (ga.map tupI)) (hrow ga).1 (hrow ga).2
  rw [doorB_gate hga] at e1 e2
  have e1' : dCall gs wf (n - 1) door [tupI ds, .tup (ga.map tupI)] = .bl true ∧ sCall gs wf (n - 1) door [tupI ds, .tup (ga.map tupI)] := e1
  have e2' : dCall gs wf (n - 1) door [.lst (ds.map .int), .tup (ga.map tupI)] = .bl true ∧ sCall gs wf (n - 1) door [.lst (ds.map .int), .tup (ga.map tupI)] := e2
  simp [bf, bfT, e1', e2']
  refine ⟨by decide, forK 3 (fun _ => False) (by simp [rangeL]; omega) (fun x _ b4 hb4 => ?_) (fun b' hb' => ?_) fun v _ _ hv => hv.elim⟩
  · simp [bf, bfT]
    refine F.bent_ (n - 1) (by omega) b4 ga _ (by omega) (by omega) (fun p hp => ?_) (by omega) fun v b5 hv hb5 => ?_
    · obtain ⟨d, hd, hpo⟩ := hga.mem p hp
      have hdd := d3 d hd
      have hpl := asc_len (lo := 0) (hi := d) hpo.1 hpo.2.2 (by omega)
      refine ⟨?_, by omega⟩
      cases p with
      | nil => exact absurd rfl hpo.2.1
      | cons _ _ => simp
    · have f1 : dCall gs wf (n - 1) door [tupI ds, v] = .bl (doorB ds v) ∧ sCall gs wf (n - 1) door [tupI ds, v] := F.door_ (n - 1) (by omega) false ds v hv.1 hv.2
      have f2 := F.lawis_ (n - 1) (by omega) ds v (fun d hd => by have := d3 d hd; omega) hv.1 hv.2
      have hs := F.same_ (n - 1) (.lst [.bl (doorB ds v)]) (by simp [noStr, noStrL]) (by simp [dep, depL]; omega)
      simp [bf, bfT, f1, f2, hs, gr_of hv.1, ref_of (gr_of hv.1)]
      omega
  · have p1 : dCall gs wf (n - 1) pinned [.tup (cs.map tupI)] = .tup ((pinnedL cs).map tupI) ∧ sCall gs wf (n - 1) pinned [.tup (cs.map tupI)] := F.pinned_ (n - 1) (by omega) false cs hcn (fun o ho => by rw [hh, hcl o ho]) (by omega) (fun p => by
      have h1 : (sdI (col cs p)).length ≤ (col cs p).length := nodup_sub (sdI_nd _) fun x hx => sdI_mem.mp hx
      simp [col] at h1
      simp only [col]
      omega) (by omega)
    have q1 := F.doorfor_ (n - 1) (by omega) false false cs ds.length hcn hcl
    have q2 := F.doorfor_ (n - 1) (by omega) true true cs ds.length hcn hcl
    have q1' : dCall gs wf (n - 1) doorfor [.tup (cs.map tupI)] = .tup ((pinnedL cs).map tupI) ∧ sCall gs wf (n - 1) doorfor [.tup (cs.map tupI)] := ⟨q1.1, q1.2 (by omega)⟩
    have q2' : dCall gs wf (n - 1) doorfor [rowsV true true cs] = .tup ((pinnedL cs).map tupI) ∧ sCall gs wf (n - 1) doorfor [rowsV true true cs] := ⟨q2.1, q2.2 (by omega)⟩
    have q3 : dCall gs wf (n - 1) door [tupI ds, .tup ((pinnedL cs).map tupI)] = .bl true ∧ sCall gs wf (n - 1) door [tupI ds, .tup ((pinnedL cs).map tupI)] := by
      have := F.door_ (n - 1) (by omega) false ds (.tup ((pinnedL cs).map tupI)) (hrow _).1 (hrow _).2
      rw [doorB_gate (pinned_gate hcn c4)] at this
      exact this
    have hl2 := F.lists_ (n - 1) (.tup (cs.map tupI)) (by simp) (by have := dep_rows cs; simp only [dep]; omega)
    have el2 : dCall gs wf (n - 1) lists [.tup (cs.map tupI)] = rowsV true true cs := by rw [hl2.1]; exact toLst_rows false false cs
    have hs := F.same_ (n - 1) (.lst [.tup ((pinnedL cs).map tupI), .tup ((pinnedL cs).map tupI), .bl true]) (by simp [noStr, noStrL, noStr_rows]) (by have := dep_rows (pinnedL cs); simp only [dep, depL]; omega)
    simp only [rowsV] at el2 q2'
    simp [rangeL] at hb'
    simp [bf, bfT, p1, q1', q2', q3, el2, hl2.2, hs]
    exact hQ _ (by omega)
end
end Dn

/-! what is given by hand, statement by statement -/
namespace Ev
open PySem
theorem ret_and {f : CF} {w : Nat} {A : E} {g : Nat} {σ : Slots} {st st1 st2 : Sto} {v : PV} (h1 : evE ⟨f, w⟩ A σ st = some (.bl true, st1)) (h2 : f g [] st1 = some (v, st2)) : evS ⟨f, w⟩ (.ret (.and A (.call g .nil))) σ st = some (.rt v, σ, st2) := by
  simp [evS, evE, evL, h1, h2, truth]
theorem hand_end {fs : List Fn} {wf m i ns : Nat} {b : S} {st st' : Sto} {σ : Slots} (h : fs[i]? = some ⟨0, ns, true, b⟩) (he : evS ⟨callN fs wf m, wf⟩ b (List.replicate ns none) st = some (.rt (.bl true), σ, st')) (ht : st'.take st.length = st) : callN fs wf (m + 1) i [] st = some (.bl true, st) := by
  rw [call_eq h rfl (Nat.succ_le_succ (Nat.zero_le m))]
  show kFin true st (evS ⟨callN fs wf m, wf⟩ b (List.replicate ns none) st) = _
  rw [he, kFin_rt, fin_g (by simp only [PV.ground]), ht]
theorem seq_nx {c : Cf} {a b : S} {σ σ' : Slots} {st st' : Sto} {r : Option (Fl × Slots × Sto)} (h1 : evS c a σ st = some (.nx, σ', st')) (h2 : evS c b σ' st' = r) : evS c (.seq a b) σ st = r := by
  rw [evS_seq, h1, kSeq_nx, h2]
theorem seq_rt {c : Cf} {a b : S} {σ σ' : Slots} {st st' : Sto} {v : PV} (h1 : evS c a σ st = some (.rt v, σ', st')) : evS c (.seq a b) σ st = some (.rt v, σ', st') := by
  rw [evS_seq, h1, kSeq_rt]
def sameSl : Slots → Slots → Bool
  | [], [] => true
  | none :: a, none :: b => sameSl a b
  | some x :: a, some y :: b => x.same y && sameSl a b
  | _, _ => false
def sameSt : Sto → Sto → Bool
  | [], [] => true
  | .lst x :: a, .lst y :: b => sameL x y && sameSt a b
  | _, _ => false
def sameFl : Fl → Fl → Bool
  | .nx, .nx => true
  | .rt v, .rt w => v.same w
  | _, _ => false
theorem sameSl_eq : ∀ {a b : Slots}, sameSl a b = true → a = b
  | [], [], _ => rfl
  | none :: a, none :: b, h => by rw [sameSl_eq (a := a) (b := b) (by simpa [sameSl] using h)]
  | some x :: a, some y :: b, h => by
    simp only [sameSl, Bool.and_eq_true] at h
    rw [same_eq x y h.1, sameSl_eq h.2]
  | [], _ :: _, h => by simp [sameSl] at h
  | none :: _, [], h => by simp [sameSl] at h
  | some _ :: _, [], h => by simp [sameSl] at h
  | none :: _, some _ :: _, h => by simp [sameSl] at h
  | some _ :: _, none :: _, h => by simp [sameSl] at h
theorem sameSt_eq : ∀ {a b : Sto}, sameSt a b = true → a = b
  | [], [], _ => rfl
  | .lst x :: a, .lst y :: b, h => by
    simp only [sameSt, Bool.and_eq_true] at h
    rw [sameL_eq x y h.1, sameSt_eq h.2]
  | [], _ :: _, h => by simp [sameSt] at h
  | .lst _ :: _, [], h => by simp [sameSt] at h
theorem sameFl_eq : ∀ {a b : Fl}, sameFl a b = true → a = b
  | .nx, .nx, _ => rfl
  | .rt v, .rt w, h => by rw [same_eq v w (by simpa [sameFl] using h)]
  | .nx, .bk, h => by simp [sameFl] at h
  | .nx, .ct, h => by simp [sameFl] at h
  | .nx, .rt _, h => by simp [sameFl] at h
  | .bk, _, h => by simp [sameFl] at h
  | .ct, _, h => by simp [sameFl] at h
  | .rt _, .nx, h => by simp [sameFl] at h
  | .rt _, .bk, h => by simp [sameFl] at h
  | .rt _, .ct, h => by simp [sameFl] at h
def chkS (r : Option (Fl × Slots × Sto)) (fl : Fl) (σ : Slots) (st : Sto) : Bool := match r with
  | some (a, b, c) => sameFl a fl && sameSl b σ && sameSt c st
  | none => false
theorem chk_eq {r : Option (Fl × Slots × Sto)} {fl : Fl} {σ : Slots} {st : Sto} (h : chkS r fl σ st = true) : r = some (fl, σ, st) := by
  cases r with
  | none => simp [chkS] at h
  | some x =>
    obtain ⟨a, b, c⟩ := x
    simp only [chkS, Bool.and_eq_true] at h
    rw [sameFl_eq h.1.1, sameSl_eq h.1.2, sameSt_eq h.2]
def chkE (r : Option (PV × Sto)) (v : PV) (st : Sto) : Bool := match r with
  | some (a, c) => a.same v && sameSt c st
  | none => false
theorem chkE_eq {r : Option (PV × Sto)} {v : PV} {st : Sto} (h : chkE r v st = true) : r = some (v, st) := by
  cases r with
  | none => simp [chkE] at h
  | some x =>
    obtain ⟨a, c⟩ := x
    simp only [chkE, Bool.and_eq_true] at h
    rw [same_eq a v h.1, sameSt_eq h.2]
end Ev

namespace K16
open PySem PySem.Spec PyProof.Rows L2 Ev
abbrev prg : Program := PySem.Challenge.pw_undermasters_k16_what_is_a_door
def top (i : Nat) : Stmt := prg.main.body.getD i (.Pass ⟨0, 0, 0, 0⟩)
def ds : List Df := [
  ⟨"is_number", ["thing"], ["thing"], [], false, true, top 1⟩,
  ⟨"rises", ["thing"], ["thing", "one", "other"], [], false, true, top 2⟩,
  ⟨"set_of", ["things"], ["things"], [], false, true, top 3⟩,
  ⟨"is_lets", ["depth", "thing"], ["depth", "thing", "cut"], [], false, true, top 5⟩,
  ⟨"is_door", ["depths", "thing"], ["depths", "thing", "depth", "part"], [], false, true, top 6⟩,
  ⟨"door_for", ["keys"], ["keys", "cuts"], [], false, true, top 7⟩,
  ⟨"_law_box", ["_law_script", "_law_k"], ["_law_script", "_law_k", "_law_great_so"], [], true, false, top 9⟩,
  ⟨"_law_take", ["_law_box_here", "_law_top_so"], ["_law_box_here", "_law_top_so", "_law_once", "_law_far", "_law_twice", "_law_digit_so"], ["_law_box_here"], false, true, top 10⟩,
  ⟨"_law_cells", ["_law_script", "_law_most"], ["_law_script", "_law_most", "_law_cells_here", "_law_k", "_law_great_so", "_law_at_so"], ["_law_cells_here"], false, true, top 11⟩,
  ⟨"_law_of", ["_law_box_here", "_law_some"], ["_law_box_here", "_law_some"], [], false, true, top 12⟩,
  ⟨"_law_pick", ["_law_box_here", "_law_pool", "_law_size_so"], ["_law_box_here", "_law_pool", "_law_size_so", "_law_turn", "_law_rest", "_law_some"], ["_law_some", "_law_rest"], false, true, top 13⟩,
  ⟨"_law_lists", ["_law_matter"], ["_law_matter", "_law_bit"], [], false, true, top 14⟩,
  ⟨"_law_same", ["_law_got", "_law_due"], ["_law_got", "_law_due", "_law_lot_so", "_law_mine", "_law_its"], [], false, true, top 15⟩,
  ⟨"_law_deep", ["_law_box_here", "_law_pins", "_law_most"], ["_law_box_here", "_law_pins", "_law_most", "_law_lap"], [], false, true, top 16⟩,
  ⟨"_law_tooth", ["_law_box_here", "_law_deep_here"], ["_law_box_here", "_law_deep_here", "_law_high_so"], [], false, true, top 17⟩,
  ⟨"_law_gate", ["_law_box_here", "_law_deep_here"], ["_law_box_here", "_law_deep_here", "_law_found", "_law_high_so"], ["_law_found"], false, true, top 18⟩,
  ⟨"_law_pinned", ["_law_bunch_here"], ["_law_bunch_here", "_law_k", "_law_tooth_here"], [], false, true, top 19⟩,
  ⟨"_law_bunch", ["_law_box_here", "_law_deep_here", "_law_most"], ["_law_box_here", "_law_deep_here", "_law_most", "_law_lap"], [], false, true, top 20⟩,
  ⟨"_law_is", ["_law_deep_here", "_law_matter"], ["_law_deep_here", "_law_matter", "_law_high_so", "_law_lot_so", "_law_cut"], [], false, true, top 21⟩,
  ⟨"_law_bent", ["_law_box_here", "_law_gate_here"], ["_law_box_here", "_law_gate_here", "_law_k", "_law_lot_so", "_law_some", "_law_bent_so"], [], false, true, top 22⟩,
  ⟨"_law_hand_right", [], ["_law_good", "_law_bad", "_law_got", "_law_due", "_law_many", "_law_wide", "_law_more", "_law_deep_here", "_law_gate_here", "_law_lot_so", "_law_k", "_law_j"], [], false, true, top 23⟩,
  ⟨"_law_case_right", ["_law_box_here"], ["_law_box_here", "_law_deep_here", "_law_lap", "_law_due", "_law_got", "_law_gate_here", "_law_bunch_here", "_law_bent_so"], [], false, true, top 24⟩,
  ⟨"_law_right", ["_law_box_here"], ["_law_box_here", "_law_turn"], [], false, true, top 25⟩,
  ⟨"law", ["_law_script"], ["_law_script", "_law_cells_here", "_law_k"], [], false, true, top 26⟩]
def free : List Str := ["abs", "all", "bool", "dict", "enumerate", "int", "isinstance", "len", "list", "min", "range", "set", "sorted", "str", "tuple", "zip"]
abbrev R : PySem.W.OpenRow := PySem.W.OpenLaw.row PySem.Challenge.rw_undermasters_k16_what_is_a_door
abbrev hk : PySem.W.Hook := He.hookD 4 (faOf free ds) (ds.map ddOf)
def ob (s : PySem.W.SharedT) : He.AlD := He.obsDG 4 (faOf free ds) (ds.map ddOf) (HandSHeadRun.getT s)
theorem ob_eq (s : PySem.W.SharedT) : ob s = hk.obs s.abs := He.obsDG_eq (HandSHeadRun.getT_eq s)
def loose : List Str := ["is_number", "rises", "set_of", "is_lets", "is_door", "door_for", "_law_box", "_law_take", "_law_cells", "_law_of", "_law_pick", "_law_lists", "_law_same", "_law_deep", "_law_tooth", "_law_gate", "_law_pinned", "_law_bunch", "_law_is", "_law_bent", "_law_hand_right", "_law_case_right", "_law_right"]
theorem run (w : World) : HandSHeadRun.RunEq R (PySem.W.view R.prog [26]) hk ob 4000 loose w := by
  intro os
  kernel_rfl
theorem dsOk : ds.all dfB = true := by decide +kernel
abbrev fns : List Fn := fnsOf free ds
open Dn
def gs : List Gn := fns.map toG
theorem hgs : fns.map toG = gs := rfl
theorem g11 : gs[11]? = some ⟨1, 2, t_w_lists 11⟩ := by kernel_rfl
theorem g12 : gs[12]? = some ⟨2, 5, t_w_same 12⟩ := by kernel_rfl
theorem g10 : gs[10]? = some ⟨3, 6, t_w_pick 7⟩ := by kernel_rfl
theorem g14 : gs[14]? = some ⟨2, 3, t_w_tooth 7⟩ := by kernel_rfl
theorem g2 : gs[2]? = some ⟨1, 1, t_set_of⟩ := by kernel_rfl
theorem g13 : gs[13]? = some ⟨3, 4, t_w_deep 7⟩ := by kernel_rfl
theorem g15 : gs[15]? = some ⟨2, 4, t_w_gate 10 7⟩ := by kernel_rfl
theorem g17 : gs[17]? = some ⟨3, 4, t_w_chief 7 14⟩ := by kernel_rfl
theorem g4 : gs[4]? = some ⟨2, 4, t_is_door 3⟩ := by kernel_rfl
theorem g3 : gs[3]? = some ⟨2, 3, t_is_lets 0 1⟩ := by kernel_rfl
theorem g0 : gs[0]? = some ⟨1, 1, t_isnum⟩ := by kernel_rfl
theorem g1 : gs[1]? = some ⟨1, 3, t_rises⟩ := by kernel_rfl
theorem g19 : gs[19]? = some ⟨2, 6, t_bent16 7 9⟩ := by kernel_rfl
theorem g9 : gs[9]? = some ⟨2, 2, t_w_of 7⟩ := by kernel_rfl
theorem g18 : gs[18]? = some ⟨2, 5, t_lawis⟩ := by kernel_rfl
theorem g16 : gs[16]? = some ⟨1, 3, t_w_pinned⟩ := by kernel_rfl
theorem g5 : gs[5]? = some ⟨1, 2, t_door_for 2⟩ := by kernel_rfl
theorem g21 : gs[21]? = some ⟨1, 8, t_case16 13 15 17 4 19 12 18 16 5 11⟩ := by kernel_rfl
theorem g22 : gs[22]? = some ⟨1, 2, allT 30 21⟩ := by kernel_rfl
def fnL : List Fn := [
⟨1, 1, true, (.seq (.ret (.and (.isi (.var 0) [.int]) (.not (.isi (.var 0) [.bool])))) .skip)⟩,
⟨1, 3, true, (.seq (.ret (.bi false .all1 (.cons (.lc false (.itr .zip2 (.cons (.var 0) (.cons (.slice false (.var 0) (.cons (.cst (.int 1)) .nil) .nil) .nil))) (.many [1, 2]) [1, 2] (.cst (.bl true)) (.cmp .lt (.var 1) (.var 2))) .nil))) .skip)⟩,
⟨1, 1, true, (.seq (.ret (.bi false .tuple1 (.cons (.bi false .sortedSet (.cons (.var 0) .nil)) .nil))) .skip)⟩,
⟨2, 3, true, (.seq (.ite (.or (.not (.isi (.var 1) [.tuple])) (.cmp .eq (.bi false .len (.cons (.var 1) .nil)) (.cst (.int 0)))) (.seq (.ret (.cst (.bl false))) .skip) .skip) (.seq (.ret (.and (.bi false .all1 (.cons (.lc false (.itr .seq (.cons (.var 1) .nil)) (.one 2) [2] (.cst (.bl true)) (.and (.call 0 (.cons (.var 2) .nil)) (.chain .le .lt (.cst (.int 0)) (.var 2) (.var 0)))) .nil)) (.call 1 (.cons (.var 1) .nil)))) .skip))⟩,
⟨2, 4, true, (.seq (.ite (.or (.not (.isi (.var 1) [.tuple])) (.cmp .ne (.bi false .len (.cons (.var 1) .nil)) (.bi false .len (.cons (.var 0) .nil)))) (.seq (.ret (.cst (.bl false))) .skip) .skip) (.seq (.ret (.bi false .all1 (.cons (.lc false (.itr .zip2 (.cons (.var 0) (.cons (.var 1) .nil))) (.many [2, 3]) [2, 3] (.cst (.bl true)) (.call 3 (.cons (.var 2) (.cons (.var 3) .nil)))) .nil))) .skip))⟩,
⟨1, 2, true, (.seq (.ret (.bi false .tuple1 (.cons (.lc false (.itr .zipn (.star (.var 0) .nil)) (.one 1) [1] (.cst (.bl true)) (.call 2 (.cons (.var 1) .nil))) .nil))) .skip)⟩,
⟨2, 3, false, (.seq (.asg (.one 2) (.ite (.cmp .lt (.var 1) (.bi false .len (.cons (.var 0) .nil))) (.sub (.var 0) (.var 1)) (.cst (.int 0)))) (.seq (.ret (.lst true (.cons (.bin false .mul (.bi false .abs (.cons (.var 2) .nil)) (.bi false .int1 (.cons (.cmp .ge (.bi false .abs (.cons (.var 2) .nil)) (.bin false .pow (.cst (.int 10)) (.cst (.int 18)))) .nil))) (.cons (.bin false .add (.bin false .add (.bin false .mod (.bi false .int1 (.cons (.var 2) .nil)) (.cst (.int 2305843009213693951))) (.bin false .mul (.cst (.int 39373)) (.var 1))) (.cst (.int 1199))) (.cons (.cst (.int 0)) .nil))))) .skip))⟩,
⟨2, 6, true, (.seq (.ite (.cmp .gt (.sub (.var 0) (.cst (.int 0))) (.cst (.int 0))) (.seq (.asg (.one 5) (.bin false .mod (.bi false .int1 (.cons (.sub (.var 0) (.cst (.int 0))) .nil)) (.var 1))) (.seq (.asgSub (.var 0) (.cst (.int 0)) (.bin false .fdiv (.sub (.var 0) (.cst (.int 0))) (.var 1))) (.seq (.ret (.var 5)) .skip))) .skip) (.seq (.asgSub (.var 0) (.cst (.int 2)) (.bin false .add (.sub (.var 0) (.cst (.int 2))) (.cst (.int 1)))) (.seq (.asg (.one 2) (.bin false .mod (.bi false .int1 (.cons (.bin false .mul (.bin false .add (.sub (.var 0) (.cst (.int 1))) (.bin false .mul (.cst (.int 48271)) (.sub (.var 0) (.cst (.int 2))))) (.bin false .add (.cst (.int 39373)) (.sub (.var 0) (.cst (.int 2))))) .nil)) (.cst (.int 2147483647)))) (.seq (.asg (.one 3) (.bin false .add (.bin false .mod (.bi false .int1 (.cons (.var 2) .nil)) (.cst (.int 40009))) (.cst (.int 7)))) (.seq (.asg (.one 4) (.bin false .mod (.bi false .int1 (.cons (.bin false .mul (.bin false .add (.bin false .add (.var 2) (.sub (.var 0) (.cst (.int 2)))) (.bin false .fdiv (.sub (.var 0) (.cst (.int 1))) (.cst (.int 1000003)))) (.var 3)) .nil)) (.cst (.int 2147483629)))) (.seq (.ret (.bin false .mod (.bi false .int1 (.cons (.bin false .fdiv (.bin false .mod (.bi false .int1 (.cons (.bin false .add (.bin false .mul (.var 4) (.cst (.int 48271))) (.var 2)) .nil)) (.cst (.int 2147483587))) (.cst (.int 64))) .nil)) (.var 1))) .skip))))))⟩,
⟨2, 6, true, (.seq (.asg (.one 2) (.or (.bi true .list1 (.cons (.slice false (.var 0) .nil (.cons (.var 1) .nil)) .nil)) (.lst true (.cons (.cst (.int 0)) .nil)))) (.seq (.for_ (.itr .enum (.cons (.slice false (.var 0) (.cons (.var 1) .nil) (.cons (.cst (.int 63)) .nil)) .nil)) (.many [3, 4]) (.seq (.asg (.one 5) (.bin false .mod (.bi false .int1 (.cons (.var 3) .nil)) (.var 1))) (.seq (.asgSub (.var 2) (.var 5) (.bin false .add (.sub (.var 2) (.var 5)) (.bin false .mul (.var 4) (.bin false .add (.var 3) (.cst (.int 2)))))) .skip))) (.seq (.ret (.var 2)) .skip)))⟩,
⟨2, 2, true, (.seq (.ret (.sub (.var 1) (.call 7 (.cons (.var 0) (.cons (.bi false .len (.cons (.var 1) .nil)) .nil))))) .skip)⟩,
⟨3, 6, true, (.seq (.asg (.many [4, 5]) (.tup (.cons (.bi true .list1 (.cons (.var 1) .nil)) (.cons (.lst true .nil) .nil)))) (.seq (.for_ (.itr .range1 (.cons (.bi false .min2 (.cons (.var 2) (.cons (.bi false .len (.cons (.var 4) .nil)) .nil))) .nil)) (.one 3) (.seq (.exp (.append (.var 5) (.pop (.var 4) (.call 7 (.cons (.var 0) (.cons (.bi false .len (.cons (.var 4) .nil)) .nil)))))) .skip)) (.seq (.ret (.var 5)) .skip)))⟩,
⟨1, 2, true, (.seq (.ret (.ite (.isi (.var 0) [.list, .tuple]) (.lc false (.itr .seq (.cons (.var 0) .nil)) (.one 1) [1] (.cst (.bl true)) (.call 11 (.cons (.var 1) .nil))) (.var 0))) .skip)⟩,
⟨2, 5, true, (.seq (.ite (.isi (.var 1) [.list, .tuple]) (.seq (.ite (.or (.cmp .ne (.isi (.var 0) [.list]) (.isi (.var 1) [.list])) (.cmp .ne (.isi (.var 0) [.tuple]) (.isi (.var 1) [.tuple]))) (.seq (.ret (.cst (.bl false))) .skip) .skip) (.seq (.ret (.and (.cmp .eq (.bi false .len (.cons (.var 0) .nil)) (.bi false .len (.cons (.var 1) .nil))) (.bi false .all1 (.cons (.lc false (.itr .zip2 (.cons (.var 0) (.cons (.var 1) .nil))) (.many [3, 4]) [3, 4] (.cst (.bl true)) (.call 12 (.cons (.var 3) (.cons (.var 4) .nil)))) .nil)))) .skip)) .skip) (.seq (.ite (.isi (.var 1) [.dict]) (.seq (.ite (.or (.not (.isi (.var 0) [.dict])) (.cmp .ne (.bi false .sorted1 (.cons (.var 0) .nil)) (.bi false .sorted1 (.cons (.var 1) .nil)))) (.seq (.ret (.cst (.bl false))) .skip) .skip) (.seq (.ret (.bi false .all1 (.cons (.lc false (.itr .seq (.cons (.var 1) .nil)) (.one 2) [2] (.cst (.bl true)) (.call 12 (.cons (.sub (.var 0) (.var 2)) (.cons (.sub (.var 1) (.var 2)) .nil)))) .nil))) .skip)) .skip) (.seq (.ite (.or (.cmp .isN (.var 1) (.cst (.non))) (.isi (.var 1) [.bool, .str])) (.seq (.ret (.and (.cmp .eq (.var 0) (.var 1)) (.and (.cmp .eq (.isi (.var 0) [.bool]) (.isi (.var 1) [.bool])) (.cmp .eq (.cmp .isN (.var 0) (.cst (.non))) (.cmp .isN (.var 1) (.cst (.non))))))) .skip) .skip) (.seq (.ret (.and (.isi (.var 0) [.int]) (.and (.not (.isi (.var 0) [.bool])) (.cmp .eq (.var 0) (.var 1))))) .skip))))⟩,
⟨3, 4, true, (.seq (.ret (.bi false .tuple1 (.cons (.lc false (.itr .range1 (.cons (.bin false .add (.cst (.int 1)) (.call 7 (.cons (.var 0) (.cons (.var 1) .nil)))) .nil)) (.one 3) [3] (.cst (.bl true)) (.bin false .add (.cst (.int 2)) (.call 7 (.cons (.var 0) (.cons (.bin false .sub (.var 2) (.cst (.int 1))) .nil))))) .nil))) .skip)⟩,
⟨2, 3, true, (.seq (.ret (.bi false .tuple1 (.cons (.lc false (.itr .seq (.cons (.var 1) .nil)) (.one 2) [2] (.cst (.bl true)) (.call 7 (.cons (.var 0) (.cons (.var 2) .nil)))) .nil))) .skip)⟩,
⟨2, 4, true, (.seq (.asg (.one 2) (.lst true .nil)) (.seq (.for_ (.itr .seq (.cons (.var 1) .nil)) (.one 3) (.seq (.exp (.append (.var 2) (.bi false .tuple1 (.cons (.bi false .sorted1 (.cons (.call 10 (.cons (.var 0) (.cons (.listI false (.itr .range1 (.cons (.var 3) .nil))) (.cons (.bin false .add (.cst (.int 1)) (.call 7 (.cons (.var 0) (.cons (.var 3) .nil)))) .nil)))) .nil)) .nil)))) .skip)) (.seq (.ret (.bi false .tuple1 (.cons (.var 2) .nil))) .skip)))⟩,
⟨1, 3, true, (.seq (.ret (.bi false .tuple1 (.cons (.lc false (.itr .range1 (.cons (.bi false .len (.cons (.sub (.var 0) (.cst (.int 0))) .nil)) .nil)) (.one 1) [1] (.cst (.bl true)) (.bi false .tuple1 (.cons (.bi false .sortedSet (.cons (.lc false (.itr .seq (.cons (.var 0) .nil)) (.one 2) [2] (.cst (.bl true)) (.sub (.var 2) (.var 1))) .nil)) .nil))) .nil))) .skip)⟩,
⟨3, 4, true, (.seq (.ret (.bi false .tuple1 (.cons (.bi false .sortedSet (.cons (.lc false (.itr .range1 (.cons (.bin false .add (.cst (.int 1)) (.call 7 (.cons (.var 0) (.cons (.var 2) .nil)))) .nil)) (.one 3) [3] (.cst (.bl true)) (.call 14 (.cons (.var 0) (.cons (.var 1) .nil)))) .nil)) .nil))) .skip)⟩,
⟨2, 5, true, (.seq (.ite (.or (.not (.isi (.var 1) [.tuple])) (.cmp .ne (.bi false .len (.cons (.var 1) .nil)) (.bi false .len (.cons (.var 0) .nil)))) (.seq (.ret (.cst (.bl false))) .skip) .skip) (.seq (.for_ (.itr .zip2 (.cons (.var 0) (.cons (.var 1) .nil))) (.many [2, 3]) (.seq (.ite (.or (.not (.isi (.var 3) [.tuple])) (.cmp .eq (.var 3) (.tup .nil))) (.seq (.ret (.cst (.bl false))) .skip) .skip) (.seq (.ite (.cmp .ne (.bi false .list1 (.cons (.var 3) .nil)) (.lc false (.itr .range1 (.cons (.var 2) .nil)) (.one 4) [4] (.cmp .inn (.var 4) (.var 3)) (.var 4))) (.seq (.ret (.cst (.bl false))) .skip) .skip) (.seq (.ite (.cmp .ne (.lc false (.itr .seq (.cons (.var 3) .nil)) (.one 4) [4] (.or (.not (.isi (.var 4) [.int])) (.isi (.var 4) [.bool])) (.var 4)) (.lst false .nil)) (.seq (.ret (.cst (.bl false))) .skip) .skip) .skip)))) (.seq (.ret (.cst (.bl true))) .skip)))⟩,
⟨2, 6, true, (.seq (.asg (.one 2) (.call 7 (.cons (.var 0) (.cons (.bi false .len (.cons (.var 1) .nil)) .nil)))) (.seq (.asg (.one 3) (.sub (.var 1) (.var 2))) (.seq (.asg (.one 4) (.lst false (.cons (.tup .nil) (.cons (.bin false .add (.var 3) (.tup (.cons (.sub (.var 3) (.neg (.cst (.int 1)))) .nil))) (.cons (.revS false (.var 3)) (.cons (.bi false .list1 (.cons (.var 3) .nil)) (.cons (.bin false .add (.var 3) (.tup (.cons (.cst (.int 99)) .nil))) (.cons (.bin false .add (.tup (.cons (.neg (.cst (.int 1))) .nil)) (.var 3)) (.cons (.cst (.non)) (.cons (.cst (.int 0)) .nil)))))))))) (.seq (.asg (.one 4) (.bin false .add (.var 4) (.lst false (.cons (.cst (.str "a")) (.cons (.tup (.cons (.cst (.non)) .nil)) (.cons (.tup (.cons (.cst (.str "a")) .nil)) (.cons (.tup (.cons (.cst (.bl true)) .nil)) .nil))))))) (.seq (.asg (.one 4) (.bin false .add (.var 4) (.lst false (.cons (.tup (.cons (.var 3) .nil)) (.cons (.tup (.cons (.cst (.int 0)) (.cons (.cst (.int 1)) (.cons (.cst (.int 2)) (.cons (.cst (.int 3)) (.cons (.cst (.int 4)) (.cons (.cst (.int 5)) .nil))))))) (.cons (.tup (.cons (.cst (.bl false)) (.cons (.cst (.int 1)) .nil))) (.cons (.tup (.cons (.lst false (.cons (.cst (.int 0)) .nil)) .nil)) .nil))))))) (.seq (.asg (.one 5) (.call 9 (.cons (.var 0) (.cons (.var 4) .nil)))) (.seq (.asg (.one 4) (.lst false (.cons (.bin false .add (.bin false .add (.slice false (.var 1) .nil (.cons (.var 2) .nil)) (.tup (.cons (.var 5) .nil))) (.slice false (.var 1) (.cons (.bin false .add (.var 2) (.cst (.int 1))) .nil) .nil)) (.cons (.bin false .add (.slice false (.var 1) .nil (.cons (.var 2) .nil)) (.slice false (.var 1) (.cons (.bin false .add (.var 2) (.cst (.int 1))) .nil) .nil)) (.cons (.bin false .add (.var 1) (.tup (.cons (.var 3) .nil))) (.cons (.bi false .list1 (.cons (.var 1) .nil)) .nil)))))) (.seq (.ret (.call 9 (.cons (.var 0) (.cons (.bin false .add (.var 4) (.lst false (.cons (.var 1) (.cons (.var 3) .nil)))) .nil)))) .skip))))))))⟩,
⟨0, 12, true, (.seq (.asg (.many [7, 8]) (.tup (.cons (.tup (.cons (.cst (.int 3)) (.cons (.cst (.int 3)) .nil))) (.cons (.tup (.cons (.tup (.cons (.cst (.int 0)) (.cons (.cst (.int 1)) .nil))) (.cons (.tup (.cons (.cst (.int 0)) (.cons (.cst (.int 2)) .nil))) .nil))) .nil)))) (.seq (.asg (.one 0) (.lst false (.cons (.var 8) (.cons (.tup (.cons (.tup (.cons (.cst (.int 0)) .nil)) (.cons (.tup (.cons (.cst (.int 0)) .nil)) .nil))) (.cons (.tup (.cons (.tup (.cons (.cst (.int 0)) (.cons (.cst (.int 1)) (.cons (.cst (.int 2)) .nil)))) (.cons (.tup (.cons (.cst (.int 0)) (.cons (.cst (.int 1)) (.cons (.cst (.int 2)) .nil)))) .nil))) (.cons (.tup (.cons (.tup (.cons (.cst (.int 2)) .nil)) (.cons (.tup (.cons (.cst (.int 1)) .nil)) .nil))) .nil)))))) (.seq (.asg (.one 1) (.lst false (.cons (.tup (.cons (.tup (.cons (.cst (.int 0)) (.cons (.cst (.int 3)) .nil))) (.cons (.tup (.cons (.cst (.int 1)) .nil)) .nil))) (.cons (.tup (.cons (.tup (.cons (.cst (.int 0)) .nil)) (.cons (.tup .nil) .nil))) (.cons (.tup (.cons (.tup (.cons (.cst (.int 0)) .nil)) .nil)) (.cons (.tup (.cons (.tup (.cons (.cst (.int 0)) .nil)) (.cons (.tup (.cons (.cst (.int 0)) .nil)) (.cons (.tup (.cons (.cst (.int 0)) .nil)) .nil)))) (.cons (.tup .nil) (.cons (.tup (.cons (.tup (.cons (.cst (.int 1)) (.cons (.cst (.int 0)) .nil))) (.cons (.tup (.cons (.cst (.int 0)) .nil)) .nil))) (.cons (.tup (.cons (.tup (.cons (.cst (.int 0)) (.cons (.cst (.int 0)) .nil))) (.cons (.tup (.cons (.cst (.int 0)) .nil)) .nil))) .nil))))))))) (.seq (.asg (.one 1) (.bin false .add (.var 1) (.lst false (.cons (.tup (.cons (.tup (.cons (.neg (.cst (.int 1))) .nil)) (.cons (.tup (.cons (.cst (.int 0)) .nil)) .nil))) (.cons (.lst false (.cons (.tup (.cons (.cst (.int 0)) .nil)) (.cons (.tup (.cons (.cst (.int 0)) .nil)) .nil))) .nil))))) (.seq (.asg (.one 1) (.bin false .add (.var 1) (.lst false (.cons (.tup (.cons (.lst false (.cons (.cst (.int 0)) .nil)) (.cons (.tup (.cons (.cst (.int 0)) .nil)) .nil))) (.cons (.tup (.cons (.tup (.cons (.cst (.bl true)) .nil)) (.cons (.tup (.cons (.cst (.int 0)) .nil)) .nil))) (.cons (.tup (.cons (.tup (.cons (.cst (.int 0)) .nil)) (.cons (.tup (.cons (.cst (.bl false)) (.cons (.cst (.int 1)) .nil))) .nil))) (.cons (.tup (.cons (.tup (.cons (.cst (.int 0)) .nil)) (.cons (.cst (.non)) .nil))) (.cons (.cst (.non)) (.cons (.cst (.int 0)) (.cons (.cst (.str "ab")) (.cons (.tup (.cons (.cst (.int 0)) (.cons (.cst (.int 0)) .nil))) .nil))))))))))) (.seq (.asg (.one 1) (.bin false .add (.var 1) (.lst false (.cons (.tup (.cons (.tup (.cons (.cst (.int 0)) .nil)) (.cons (.cst (.int 0)) .nil))) (.cons (.tup (.cons (.tup (.cons (.tup (.cons (.cst (.int 0)) .nil)) .nil)) (.cons (.tup (.cons (.cst (.int 0)) .nil)) .nil))) (.cons (.tup (.cons (.tup (.cons (.cst (.non)) .nil)) (.cons (.tup (.cons (.cst (.int 0)) .nil)) .nil))) .nil)))))) (.seq (.asg (.one 2) (.lst false (.cons (.lc false (.itr .seq (.cons (.var 0) .nil)) (.one 9) [9] (.cst (.bl true)) (.call 4 (.cons (.var 7) (.cons (.var 9) .nil)))) (.cons (.lc false (.itr .seq (.cons (.var 1) .nil)) (.one 9) [9] (.cst (.bl true)) (.call 4 (.cons (.var 7) (.cons (.var 9) .nil)))) .nil)))) (.seq (.asg (.one 2) (.bin false .add (.var 2) (.lst false (.cons (.callk 4 .nil (.cons (.var 8) (.cons (.lst false (.cons (.cst (.int 3)) (.cons (.cst (.int 3)) .nil))) .nil)) 0 ["depths", "thing"] ["thing", "depths"]) .nil)))) (.seq (.asg (.one 3) (.lst false (.cons (.bin false .mul (.lst false (.cons (.cst (.bl true)) .nil)) (.bi false .len (.cons (.var 0) .nil))) (.cons (.bin false .mul (.lst false (.cons (.cst (.bl false)) .nil)) (.bi false .len (.cons (.var 1) .nil))) (.cons (.cst (.bl true)) .nil))))) (.seq (.asg (.one 2) (.bin false .add (.var 2) (.lst false (.cons (.call 5 (.cons (.tup (.cons (.tup (.cons (.cst (.int 0)) (.cons (.cst (.int 0)) .nil))) (.cons (.tup (.cons (.cst (.int 1)) (.cons (.cst (.int 2)) .nil))) .nil))) .nil)) (.cons (.call 5 (.cons (.lst false (.cons (.lst false (.cons (.cst (.int 1)) (.cons (.cst (.int 2)) .nil))) .nil)) .nil)) (.cons (.callk 5 .nil (.cons (.lst false (.cons (.lst false (.cons (.cst (.int 0)) (.cons (.cst (.int 0)) .nil))) (.cons (.lst false (.cons (.cst (.int 1)) (.cons (.cst (.int 0)) .nil))) (.cons (.lst false (.cons (.cst (.int 1)) (.cons (.cst (.int 2)) .nil))) .nil)))) .nil) 0 ["keys"] ["keys"]) .nil)))))) (.seq (.asg (.one 2) (.bin false .add (.var 2) (.lst false (.cons (.call 5 (.cons (.tup (.cons (.tup (.cons (.cst (.int 5)) .nil)) .nil)) .nil)) .nil)))) (.seq (.asg (.one 3) (.bin false .add (.var 3) (.lst false (.cons (.var 8) (.cons (.tup (.cons (.tup (.cons (.cst (.int 1)) .nil)) (.cons (.tup (.cons (.cst (.int 2)) .nil)) .nil))) (.cons (.var 8) (.cons (.tup (.cons (.tup (.cons (.cst (.int 5)) .nil)) .nil)) .nil))))))) (.seq (.asg (.one 4) (.bi false .tuple1 (.cons (.lc false (.itr .range1 (.cons (.cst (.int 20)) .nil)) (.one 10) [10] (.cst (.bl true)) (.bi false .tuple1 (.cons (.lc false (.itr .range1 (.cons (.cst (.int 12)) .nil)) (.one 11) [11] (.cst (.bl true)) (.bin false .mod (.bi false .int1 (.cons (.bin false .mul (.var 10) (.bin false .add (.var 11) (.cst (.int 1)))) .nil)) (.cst (.int 20)))) .nil))) .nil))) (.seq (.asg (.one 5) (.call 5 (.cons (.var 4) .nil))) (.seq (.asg (.one 2) (.bin false .add (.var 2) (.lst false (.cons (.lc false (.itr .seq (.cons (.var 5) .nil)) (.one 9) [9] (.cst (.bl true)) (.bi false .len (.cons (.var 9) .nil))) (.cons (.call 4 (.cons (.bin false .mul (.tup (.cons (.cst (.int 20)) .nil)) (.cst (.int 12))) (.cons (.var 5) .nil))) (.cons (.call 4 (.cons (.bin false .add (.bin false .mul (.tup (.cons (.cst (.int 20)) .nil)) (.cst (.int 11))) (.tup (.cons (.cst (.int 19)) .nil))) (.cons (.var 5) .nil))) .nil)))))) (.seq (.asg (.one 3) (.bin false .add (.var 3) (.lst false (.cons (.lst false (.cons (.cst (.int 20)) (.cons (.cst (.int 10)) (.cons (.cst (.int 20)) (.cons (.cst (.int 5)) (.cons (.cst (.int 4)) (.cons (.cst (.int 10)) (.cons (.cst (.int 20)) (.cons (.cst (.int 5)) (.cons (.cst (.int 20)) (.cons (.cst (.int 2)) (.cons (.cst (.int 20)) (.cons (.cst (.int 5)) .nil))))))))))))) (.cons (.cst (.bl true)) (.cons (.cst (.bl true)) .nil)))))) (.seq (.asg (.one 6) (.call 5 (.cons (.bi false .tuple1 (.cons (.bi false .sortedSet (.cons (.bin false .add (.var 4) (.bi false .tuple1 (.cons (.lc false (.itr .range1 (.cons (.cst (.int 20)) .nil)) (.one 10) [10] (.cst (.bl true)) (.bi false .tuple1 (.cons (.lc false (.itr .range1 (.cons (.cst (.int 12)) .nil)) (.one 11) [11] (.cst (.bl true)) (.bin false .mod (.bi false .int1 (.cons (.bin false .add (.var 10) (.var 11)) .nil)) (.cst (.int 20)))) .nil))) .nil))) .nil)) .nil)) .nil))) (.seq (.asg (.one 2) (.bin false .add (.var 2) (.lst false (.cons (.cmp .eq (.var 6) (.bin false .mul (.tup (.cons (.tupI (.itr .range1 (.cons (.cst (.int 20)) .nil))) .nil)) (.cst (.int 12)))) (.cons (.call 4 (.cons (.bin false .add (.bin false .mul (.tup (.cons (.cst (.int 20)) .nil)) (.cst (.int 11))) (.tup (.cons (.cst (.int 19)) .nil))) (.cons (.var 6) .nil))) .nil))))) (.seq (.ret (.call 12 (.cons (.var 2) (.cons (.bin false .add (.var 3) (.lst false (.cons (.cst (.bl true)) (.cons (.cst (.bl false)) .nil)))) .nil)))) .skip)))))))))))))))))))⟩,
⟨1, 8, true, (.seq (.asg (.one 1) (.call 13 (.cons (.var 0) (.cons (.cst (.int 4)) (.cons (.cst (.int 5)) .nil))))) (.seq (.asg (.many [5, 6]) (.tup (.cons (.call 15 (.cons (.var 0) (.cons (.var 1) .nil))) (.cons (.call 17 (.cons (.var 0) (.cons (.var 1) (.cons (.cst (.int 6)) .nil)))) .nil)))) (.seq (.ite (.or (.not (.call 4 (.cons (.var 1) (.cons (.var 5) .nil)))) (.not (.call 4 (.cons (.bi false .list1 (.cons (.var 1) .nil)) (.cons (.var 5) .nil))))) (.seq (.ret (.cst (.bl false))) .skip) .skip) (.seq (.for_ (.itr .range1 (.cons (.cst (.int 8)) .nil)) (.one 2) (.seq (.asg (.one 7) (.call 19 (.cons (.var 0) (.cons (.var 5) .nil)))) (.seq (.ite (.not (.call 12 (.cons (.lst false (.cons (.call 4 (.cons (.var 1) (.cons (.var 7) .nil))) .nil)) (.cons (.lst false (.cons (.call 18 (.cons (.var 1) (.cons (.var 7) .nil))) .nil)) .nil)))) (.seq (.ret (.cst (.bl false))) .skip) .skip) .skip))) (.seq (.asg (.one 3) (.call 16 (.cons (.var 6) .nil))) (.seq (.asg (.one 4) (.lst false (.cons (.call 5 (.cons (.var 6) .nil)) (.cons (.call 5 (.cons (.call 11 (.cons (.var 6) .nil)) .nil)) (.cons (.call 4 (.cons (.var 1) (.cons (.var 3) .nil))) .nil))))) (.seq (.ret (.call 12 (.cons (.var 4) (.cons (.lst false (.cons (.var 3) (.cons (.var 3) (.cons (.cst (.bl true)) .nil)))) .nil)))) .skip)))))))⟩,
⟨1, 2, true, (.seq (.ret (.bi false .all1 (.cons (.lc false (.itr .range1 (.cons (.cst (.int 30)) .nil)) (.one 1) [1] (.cst (.bl true)) (.call 21 (.cons (.var 0) .nil))) .nil))) .skip)⟩,
⟨1, 3, true, (.seq (.ite (.not (.call 20 .nil)) (.seq (.ret (.cst (.bl false))) .skip) .skip) (.seq (.asg (.one 1) (.call 8 (.cons (.var 0) (.cons (.cst (.int 3)) .nil)))) (.seq (.ret (.bi false .all1 (.cons (.lc false (.itr .range1 (.cons (.bi false .len (.cons (.var 1) .nil)) .nil)) (.one 2) [2] (.cst (.bl true)) (.call 22 (.cons (.call 6 (.cons (.var 1) (.cons (.var 2) .nil))) .nil))) .nil))) .skip)))⟩]
theorem fnL_eq : fns = fnL := by kernel_rfl
def h20v1 : PV := .tup [.tup [.int 0, .int 1], .tup [.int 0, .int 2]]
theorem h20s0 : evS ⟨callN fnL 100000 38, 100000⟩ (.asg (.many [7, 8]) (.tup (.cons (.tup (.cons (.cst (.int 3)) (.cons (.cst (.int 3)) .nil))) (.cons (.tup (.cons (.tup (.cons (.cst (.int 0)) (.cons (.cst (.int 1)) .nil))) (.cons (.tup (.cons (.cst (.int 0)) (.cons (.cst (.int 2)) .nil))) .nil))) .nil)))) [none, none, none, none, none, none, none, none, none, none, none, none] [] = some (.nx, [none, none, none, none, none, none, none, some (.tup [.int 3, .int 3]), some h20v1, none, none, none], []) := chk_eq (by kernel_rfl)
def h20v2 : PV := .lst [.tup [.tup [.int 0, .int 1], .tup [.int 0, .int 2]], .tup [.tup [.int 0], .tup [.int 0]], .tup [.tup [.int 0, .int 1, .int 2], .tup [.int 0, .int 1, .int 2]], .tup [.tup [.int 2], .tup [.int 1]]]
theorem h20s1 : evS ⟨callN fnL 100000 38, 100000⟩ (.asg (.one 0) (.lst false (.cons (.var 8) (.cons (.tup (.cons (.tup (.cons (.cst (.int 0)) .nil)) (.cons (.tup (.cons (.cst (.int 0)) .nil)) .nil))) (.cons (.tup (.cons (.tup (.cons (.cst (.int 0)) (.cons (.cst (.int 1)) (.cons (.cst (.int 2)) .nil)))) (.cons (.tup (.cons (.cst (.int 0)) (.cons (.cst (.int 1)) (.cons (.cst (.int 2)) .nil)))) .nil))) (.cons (.tup (.cons (.tup (.cons (.cst (.int 2)) .nil)) (.cons (.tup (.cons (.cst (.int 1)) .nil)) .nil))) .nil)))))) [none, none, none, none, none, none, none, some (.tup [.int 3, .int 3]), some h20v1, none, none, none] [] = some (.nx, [some h20v2, none, none, none, none, none, none, some (.tup [.int 3, .int 3]), some h20v1, none, none, none], []) := chk_eq (by kernel_rfl)
def h20v3 : PV := .lst [.tup [.tup [.int 0, .int 3], .tup [.int 1]], .tup [.tup [.int 0], .tup []], .tup [.tup [.int 0]], .tup [.tup [.int 0], .tup [.int 0], .tup [.int 0]], .tup [], .tup [.tup [.int 1, .int 0], .tup [.int 0]], .tup [.tup [.int 0, .int 0], .tup [.int 0]]]
theorem h20s2 : evS ⟨callN fnL 100000 38, 100000⟩ (.asg (.one 1) (.lst false (.cons (.tup (.cons (.tup (.cons (.cst (.int 0)) (.cons (.cst (.int 3)) .nil))) (.cons (.tup (.cons (.cst (.int 1)) .nil)) .nil))) (.cons (.tup (.cons (.tup (.cons (.cst (.int 0)) .nil)) (.cons (.tup .nil) .nil))) (.cons (.tup (.cons (.tup (.cons (.cst (.int 0)) .nil)) .nil)) (.cons (.tup (.cons (.tup (.cons (.cst (.int 0)) .nil)) (.cons (.tup (.cons (.cst (.int 0)) .nil)) (.cons (.tup (.cons (.cst (.int 0)) .nil)) .nil)))) (.cons (.tup .nil) (.cons (.tup (.cons (.tup (.cons (.cst (.int 1)) (.cons (.cst (.int 0)) .nil))) (.cons (.tup (.cons (.cst (.int 0)) .nil)) .nil))) (.cons (.tup (.cons (.tup (.cons (.cst (.int 0)) (.cons (.cst (.int 0)) .nil))) (.cons (.tup (.cons (.cst (.int 0)) .nil)) .nil))) .nil))))))))) [some h20v2, none, none, none, none, none, none, some (.tup [.int 3, .int 3]), some h20v1, none, none, none] [] = some (.nx, [some h20v2, some h20v3, none, none, none, none, none, some (.tup [.int 3, .int 3]), some h20v1, none, none, none], []) := chk_eq (by kernel_rfl)
def h20v4 : PV := .lst [.tup [.tup [.int 0, .int 3], .tup [.int 1]], .tup [.tup [.int 0], .tup []], .tup [.tup [.int 0]], .tup [.tup [.int 0], .tup [.int 0], .tup [.int 0]], .tup [], .tup [.tup [.int 1, .int 0], .tup [.int 0]], .tup [.tup [.int 0, .int 0], .tup [.int 0]], .tup [.tup [.int (-1)], .tup [.int 0]], .lst [.tup [.int 0], .tup [.int 0]]]
theorem h20s3 : evS ⟨callN fnL 100000 38, 100000⟩ (.asg (.one 1) (.bin false .add (.var 1) (.lst false (.cons (.tup (.cons (.tup (.cons (.neg (.cst (.int 1))) .nil)) (.cons (.tup (.cons (.cst (.int 0)) .nil)) .nil))) (.cons (.lst false (.cons (.tup (.cons (.cst (.int 0)) .nil)) (.cons (.tup (.cons (.cst (.int 0)) .nil)) .nil))) .nil))))) [some h20v2, some h20v3, none, none, none, none, none, some (.tup [.int 3, .int 3]), some h20v1, none, none, none] [] = some (.nx, [some h20v2, some h20v4, none, none, none, none, none, some (.tup [.int 3, .int 3]), some h20v1, none, none, none], []) := chk_eq (by kernel_rfl)
def h20v5 : PV := .lst [.tup [.tup [.int 0, .int 3], .tup [.int 1]], .tup [.tup [.int 0], .tup []], .tup [.tup [.int 0]], .tup [.tup [.int 0], .tup [.int 0], .tup [.int 0]], .tup [], .tup [.tup [.int 1, .int 0], .tup [.int 0]], .tup [.tup [.int 0, .int 0], .tup [.int 0]], .tup [.tup [.int (-1)], .tup [.int 0]], .lst [.tup [.int 0], .tup [.int 0]], .tup [.lst [.int 0], .tup [.int 0]], .tup [.tup [.bl true], .tup [.int 0]], .tup [.tup [.int 0], .tup [.bl false, .int 1]], .tup [.tup [.int 0], .non], .non, .int 0, .str "ab", .tup [.int 0, .int 0]]
theorem h20s4 : evS ⟨callN fnL 100000 38, 100000⟩ (.asg (.one 1) (.bin false .add (.var 1) (.lst false (.cons (.tup (.cons (.lst false (.cons (.cst (.int 0)) .nil)) (.cons (.tup (.cons (.cst (.int 0)) .nil)) .nil))) (.cons (.tup (.cons (.tup (.cons (.cst (.bl true)) .nil)) (.cons (.tup (.cons (.cst (.int 0)) .nil)) .nil))) (.cons (.tup (.cons (.tup (.cons (.cst (.int 0)) .nil)) (.cons (.tup (.cons (.cst (.bl false)) (.cons (.cst (.int 1)) .nil))) .nil))) (.cons (.tup (.cons (.tup (.cons (.cst (.int 0)) .nil)) (.cons (.cst (.non)) .nil))) (.cons (.cst (.non)) (.cons (.cst (.int 0)) (.cons (.cst (.str "ab")) (.cons (.tup (.cons (.cst (.int 0)) (.cons (.cst (.int 0)) .nil))) .nil))))))))))) [some h20v2, some h20v4, none, none, none, none, none, some (.tup [.int 3, .int 3]), some h20v1, none, none, none] [] = some (.nx, [some h20v2, some h20v5, none, none, none, none, none, some (.tup [.int 3, .int 3]), some h20v1, none, none, none], []) := chk_eq (by kernel_rfl)
def h20v6 : PV := .lst [.tup [.tup [.int 0, .int 3], .tup [.int 1]], .tup [.tup [.int 0], .tup []], .tup [.tup [.int 0]], .tup [.tup [.int 0], .tup [.int 0], .tup [.int 0]], .tup [], .tup [.tup [.int 1, .int 0], .tup [.int 0]], .tup [.tup [.int 0, .int 0], .tup [.int 0]], .tup [.tup [.int (-1)], .tup [.int 0]], .lst [.tup [.int 0], .tup [.int 0]], .tup [.lst [.int 0], .tup [.int 0]], .tup [.tup [.bl true], .tup [.int 0]], .tup [.tup [.int 0], .tup [.bl false, .int 1]], .tup [.tup [.int 0], .non], .non, .int 0, .str "ab", .tup [.int 0, .int 0], .tup [.tup [.int 0], .int 0], .tup [.tup [.tup [.int 0]], .tup [.int 0]], .tup [.tup [.non], .tup [.int 0]]]
theorem h20s5 : evS ⟨callN fnL 100000 38, 100000⟩ (.asg (.one 1) (.bin false .add (.var 1) (.lst false (.cons (.tup (.cons (.tup (.cons (.cst (.int 0)) .nil)) (.cons (.cst (.int 0)) .nil))) (.cons (.tup (.cons (.tup (.cons (.tup (.cons (.cst (.int 0)) .nil)) .nil)) (.cons (.tup (.cons (.cst (.int 0)) .nil)) .nil))) (.cons (.tup (.cons (.tup (.cons (.cst (.non)) .nil)) (.cons (.tup (.cons (.cst (.int 0)) .nil)) .nil))) .nil)))))) [some h20v2, some h20v5, none, none, none, none, none, some (.tup [.int 3, .int 3]), some h20v1, none, none, none] [] = some (.nx, [some h20v2, some h20v6, none, none, none, none, none, some (.tup [.int 3, .int 3]), some h20v1, none, none, none], []) := chk_eq (by kernel_rfl)
def h20v7 : PV := .lst [.lst [.bl true, .bl true, .bl true, .bl true], .lst [.bl false, .bl false, .bl false, .bl false, .bl false, .bl false, .bl false, .bl false, .bl false, .bl false, .bl false, .bl false, .bl false, .bl false, .bl false, .bl false, .bl false, .bl false, .bl false, .bl false]]
theorem h20s6 : evS ⟨callN fnL 100000 38, 100000⟩ (.asg (.one 2) (.lst false (.cons (.lc false (.itr .seq (.cons (.var 0) .nil)) (.one 9) [9] (.cst (.bl true)) (.call 4 (.cons (.var 7) (.cons (.var 9) .nil)))) (.cons (.lc false (.itr .seq (.cons (.var 1) .nil)) (.one 9) [9] (.cst (.bl true)) (.call 4 (.cons (.var 7) (.cons (.var 9) .nil)))) .nil)))) [some h20v2, some h20v6, none, none, none, none, none, some (.tup [.int 3, .int 3]), some h20v1, none, none, none] [] = some (.nx, [some h20v2, some h20v6, some h20v7, none, none, none, none, some (.tup [.int 3, .int 3]), some h20v1, none, none, none], []) := chk_eq (by kernel_rfl)
def h20v8 : PV := .lst [.lst [.bl true, .bl true, .bl true, .bl true], .lst [.bl false, .bl false, .bl false, .bl false, .bl false, .bl false, .bl false, .bl false, .bl false, .bl false, .bl false, .bl false, .bl false, .bl false, .bl false, .bl false, .bl false, .bl false, .bl false, .bl false], .bl true]
theorem h20s7 : evS ⟨callN fnL 100000 38, 100000⟩ (.asg (.one 2) (.bin false .add (.var 2) (.lst false (.cons (.callk 4 .nil (.cons (.var 8) (.cons (.lst false (.cons (.cst (.int 3)) (.cons (.cst (.int 3)) .nil))) .nil)) 0 ["depths", "thing"] ["thing", "depths"]) .nil)))) [some h20v2, some h20v6, some h20v7, none, none, none, none, some (.tup [.int 3, .int 3]), some h20v1, none, none, none] [] = some (.nx, [some h20v2, some h20v6, some h20v8, none, none, none, none, some (.tup [.int 3, .int 3]), some h20v1, none, none, none], []) := chk_eq (by kernel_rfl)
theorem h20s8 : evS ⟨callN fnL 100000 38, 100000⟩ (.asg (.one 3) (.lst false (.cons (.bin false .mul (.lst false (.cons (.cst (.bl true)) .nil)) (.bi false .len (.cons (.var 0) .nil))) (.cons (.bin false .mul (.lst false (.cons (.cst (.bl false)) .nil)) (.bi false .len (.cons (.var 1) .nil))) (.cons (.cst (.bl true)) .nil))))) [some h20v2, some h20v6, some h20v8, none, none, none, none, some (.tup [.int 3, .int 3]), some h20v1, none, none, none] [] = some (.nx, [some h20v2, some h20v6, some h20v8, some h20v8, none, none, none, some (.tup [.int 3, .int 3]), some h20v1, none, none, none], []) := chk_eq (by kernel_rfl)
def h20v9 : PV := .lst [.lst [.bl true, .bl true, .bl true, .bl true], .lst [.bl false, .bl false, .bl false, .bl false, .bl false, .bl false, .bl false, .bl false, .bl false, .bl false, .bl false, .bl false, .bl false, .bl false, .bl false, .bl false, .bl false, .bl false, .bl false, .bl false], .bl true, .tup [.tup [.int 0, .int 1], .tup [.int 0, .int 2]], .tup [.tup [.int 1], .tup [.int 2]], .tup [.tup [.int 0, .int 1], .tup [.int 0, .int 2]]]
theorem h20s9 : evS ⟨callN fnL 100000 38, 100000⟩ (.asg (.one 2) (.bin false .add (.var 2) (.lst false (.cons (.call 5 (.cons (.tup (.cons (.tup (.cons (.cst (.int 0)) (.cons (.cst (.int 0)) .nil))) (.cons (.tup (.cons (.cst (.int 1)) (.cons (.cst (.int 2)) .nil))) .nil))) .nil)) (.cons (.call 5 (.cons (.lst false (.cons (.lst false (.cons (.cst (.int 1)) (.cons (.cst (.int 2)) .nil))) .nil)) .nil)) (.cons (.callk 5 .nil (.cons (.lst false (.cons (.lst false (.cons (.cst (.int 0)) (.cons (.cst (.int 0)) .nil))) (.cons (.lst false (.cons (.cst (.int 1)) (.cons (.cst (.int 0)) .nil))) (.cons (.lst false (.cons (.cst (.int 1)) (.cons (.cst (.int 2)) .nil))) .nil)))) .nil) 0 ["keys"] ["keys"]) .nil)))))) [some h20v2, some h20v6, some h20v8, some h20v8, none, none, none, some (.tup [.int 3, .int 3]), some h20v1, none, none, none] [] = some (.nx, [some h20v2, some h20v6, some h20v9, some h20v8, none, none, none, some (.tup [.int 3, .int 3]), some h20v1, none, none, none], []) := chk_eq (by kernel_rfl)
def h20v10 : PV := .lst [.lst [.bl true, .bl true, .bl true, .bl true], .lst [.bl false, .bl false, .bl false, .bl false, .bl false, .bl false, .bl false, .bl false, .bl false, .bl false, .bl false, .bl false, .bl false, .bl false, .bl false, .bl false, .bl false, .bl false, .bl false, .bl false], .bl true, .tup [.tup [.int 0, .int 1], .tup [.int 0, .int 2]], .tup [.tup [.int 1], .tup [.int 2]], .tup [.tup [.int 0, .int 1], .tup [.int 0, .int 2]], .tup [.tup [.int 5]]]
theorem h20s10 : evS ⟨callN fnL 100000 38, 100000⟩ (.asg (.one 2) (.bin false .add (.var 2) (.lst false (.cons (.call 5 (.cons (.tup (.cons (.tup (.cons (.cst (.int 5)) .nil)) .nil)) .nil)) .nil)))) [some h20v2, some h20v6, some h20v9, some h20v8, none, none, none, some (.tup [.int 3, .int 3]), some h20v1, none, none, none] [] = some (.nx, [some h20v2, some h20v6, some h20v10, some h20v8, none, none, none, some (.tup [.int 3, .int 3]), some h20v1, none, none, none], []) := chk_eq (by kernel_rfl)
theorem h20s11 : evS ⟨callN fnL 100000 38, 100000⟩ (.asg (.one 3) (.bin false .add (.var 3) (.lst false (.cons (.var 8) (.cons (.tup (.cons (.tup (.cons (.cst (.int 1)) .nil)) (.cons (.tup (.cons (.cst (.int 2)) .nil)) .nil))) (.cons (.var 8) (.cons (.tup (.cons (.tup (.cons (.cst (.int 5)) .nil)) .nil)) .nil))))))) [some h20v2, some h20v6, some h20v10, some h20v8, none, none, none, some (.tup [.int 3, .int 3]), some h20v1, none, none, none] [] = some (.nx, [some h20v2, some h20v6, some h20v10, some h20v10, none, none, none, some (.tup [.int 3, .int 3]), some h20v1, none, none, none], []) := chk_eq (by kernel_rfl)
def h20v11 : PV := .tup [.tup [.int 0, .int 0, .int 0, .int 0, .int 0, .int 0, .int 0, .int 0, .int 0, .int 0, .int 0, .int 0], .tup [.int 1, .int 2, .int 3, .int 4, .int 5, .int 6, .int 7, .int 8, .int 9, .int 10, .int 11, .int 12], .tup [.int 2, .int 4, .int 6, .int 8, .int 10, .int 12, .int 14, .int 16, .int 18, .int 0, .int 2, .int 4], .tup [.int 3, .int 6, .int 9, .int 12, .int 15, .int 18, .int 1, .int 4, .int 7, .int 10, .int 13, .int 16], .tup [.int 4, .int 8, .int 12, .int 16, .int 0, .int 4, .int 8, .int 12, .int 16, .int 0, .int 4, .int 8], .tup [.int 5, .int 10, .int 15, .int 0, .int 5, .int 10, .int 15, .int 0, .int 5, .int 10, .int 15, .int 0], .tup [.int 6, .int 12, .int 18, .int 4, .int 10, .int 16, .int 2, .int 8, .int 14, .int 0, .int 6, .int 12], .tup [.int 7, .int 14, .int 1, .int 8, .int 15, .int 2, .int 9, .int 16, .int 3, .int 10, .int 17, .int 4], .tup [.int 8, .int 16, .int 4, .int 12, .int 0, .int 8, .int 16, .int 4, .int 12, .int 0, .int 8, .int 16], .tup [.int 9, .int 18, .int 7, .int 16, .int 5, .int 14, .int 3, .int 12, .int 1, .int 10, .int 19, .int 8], .tup [.int 10, .int 0, .int 10, .int 0, .int 10, .int 0, .int 10, .int 0, .int 10, .int 0, .int 10, .int 0], .tup [.int 11, .int 2, .int 13, .int 4, .int 15, .int 6, .int 17, .int 8, .int 19, .int 10, .int 1, .int 12], .tup [.int 12, .int 4, .int 16, .int 8, .int 0, .int 12, .int 4, .int 16, .int 8, .int 0, .int 12, .int 4], .tup [.int 13, .int 6, .int 19, .int 12, .int 5, .int 18, .int 11, .int 4, .int 17, .int 10, .int 3, .int 16], .tup [.int 14, .int 8, .int 2, .int 16, .int 10, .int 4, .int 18, .int 12, .int 6, .int 0, .int 14, .int 8], .tup [.int 15, .int 10, .int 5, .int 0, .int 15, .int 10, .int 5, .int 0, .int 15, .int 10, .int 5, .int 0], .tup [.int 16, .int 12, .int 8, .int 4, .int 0, .int 16, .int 12, .int 8, .int 4, .int 0, .int 16, .int 12], .tup [.int 17, .int 14, .int 11, .int 8, .int 5, .int 2, .int 19, .int 16, .int 13, .int 10, .int 7, .int 4], .tup [.int 18, .int 16, .int 14, .int 12, .int 10, .int 8, .int 6, .int 4, .int 2, .int 0, .int 18, .int 16], .tup [.int 19, .int 18, .int 17, .int 16, .int 15, .int 14, .int 13, .int 12, .int 11, .int 10, .int 9, .int 8]]
theorem h20s12 : evS ⟨callN fnL 100000 38, 100000⟩ (.asg (.one 4) (.bi false .tuple1 (.cons (.lc false (.itr .range1 (.cons (.cst (.int 20)) .nil)) (.one 10) [10] (.cst (.bl true)) (.bi false .tuple1 (.cons (.lc false (.itr .range1 (.cons (.cst (.int 12)) .nil)) (.one 11) [11] (.cst (.bl true)) (.bin false .mod (.bi false .int1 (.cons (.bin false .mul (.var 10) (.bin false .add (.var 11) (.cst (.int 1)))) .nil)) (.cst (.int 20)))) .nil))) .nil))) [some h20v2, some h20v6, some h20v10, some h20v10, none, none, none, some (.tup [.int 3, .int 3]), some h20v1, none, none, none] [] = some (.nx, [some h20v2, some h20v6, some h20v10, some h20v10, some h20v11, none, none, some (.tup [.int 3, .int 3]), some h20v1, none, none, none], []) := chk_eq (by kernel_rfl)
def h20v12 : PV := .tup [.tup [.int 0, .int 1, .int 2, .int 3, .int 4, .int 5, .int 6, .int 7, .int 8, .int 9, .int 10, .int 11, .int 12, .int 13, .int 14, .int 15, .int 16, .int 17, .int 18, .int 19], .tup [.int 0, .int 2, .int 4, .int 6, .int 8, .int 10, .int 12, .int 14, .int 16, .int 18], .tup [.int 0, .int 1, .int 2, .int 3, .int 4, .int 5, .int 6, .int 7, .int 8, .int 9, .int 10, .int 11, .int 12, .int 13, .int 14, .int 15, .int 16, .int 17, .int 18, .int 19], .tup [.int 0, .int 4, .int 8, .int 12, .int 16], .tup [.int 0, .int 5, .int 10, .int 15], .tup [.int 0, .int 2, .int 4, .int 6, .int 8, .int 10, .int 12, .int 14, .int 16, .int 18], .tup [.int 0, .int 1, .int 2, .int 3, .int 4, .int 5, .int 6, .int 7, .int 8, .int 9, .int 10, .int 11, .int 12, .int 13, .int 14, .int 15, .int 16, .int 17, .int 18, .int 19], .tup [.int 0, .int 4, .int 8, .int 12, .int 16], .tup [.int 0, .int 1, .int 2, .int 3, .int 4, .int 5, .int 6, .int 7, .int 8, .int 9, .int 10, .int 11, .int 12, .int 13, .int 14, .int 15, .int 16, .int 17, .int 18, .int 19], .tup [.int 0, .int 10], .tup [.int 0, .int 1, .int 2, .int 3, .int 4, .int 5, .int 6, .int 7, .int 8, .int 9, .int 10, .int 11, .int 12, .int 13, .int 14, .int 15, .int 16, .int 17, .int 18, .int 19], .tup [.int 0, .int 4, .int 8, .int 12, .int 16]]
theorem h20s13 : evS ⟨callN fnL 100000 38, 100000⟩ (.asg (.one 5) (.call 5 (.cons (.var 4) .nil))) [some h20v2, some h20v6, some h20v10, some h20v10, some h20v11, none, none, some (.tup [.int 3, .int 3]), some h20v1, none, none, none] [] = some (.nx, [some h20v2, some h20v6, some h20v10, some h20v10, some h20v11, some h20v12, none, some (.tup [.int 3, .int 3]), some h20v1, none, none, none], []) := chk_eq (by kernel_rfl)
def h20v13 : PV := .lst [.lst [.bl true, .bl true, .bl true, .bl true], .lst [.bl false, .bl false, .bl false, .bl false, .bl false, .bl false, .bl false, .bl false, .bl false, .bl false, .bl false, .bl false, .bl false, .bl false, .bl false, .bl false, .bl false, .bl false, .bl false, .bl false], .bl true, .tup [.tup [.int 0, .int 1], .tup [.int 0, .int 2]], .tup [.tup [.int 1], .tup [.int 2]], .tup [.tup [.int 0, .int 1], .tup [.int 0, .int 2]], .tup [.tup [.int 5]], .lst [.int 20, .int 10, .int 20, .int 5, .int 4, .int 10, .int 20, .int 5, .int 20, .int 2, .int 20, .int 5], .bl true, .bl true]
theorem h20s14 : evS ⟨callN fnL 100000 38, 100000⟩ (.asg (.one 2) (.bin false .add (.var 2) (.lst false (.cons (.lc false (.itr .seq (.cons (.var 5) .nil)) (.one 9) [9] (.cst (.bl true)) (.bi false .len (.cons (.var 9) .nil))) (.cons (.call 4 (.cons (.bin false .mul (.tup (.cons (.cst (.int 20)) .nil)) (.cst (.int 12))) (.cons (.var 5) .nil))) (.cons (.call 4 (.cons (.bin false .add (.bin false .mul (.tup (.cons (.cst (.int 20)) .nil)) (.cst (.int 11))) (.tup (.cons (.cst (.int 19)) .nil))) (.cons (.var 5) .nil))) .nil)))))) [some h20v2, some h20v6, some h20v10, some h20v10, some h20v11, some h20v12, none, some (.tup [.int 3, .int 3]), some h20v1, none, none, none] [] = some (.nx, [some h20v2, some h20v6, some h20v13, some h20v10, some h20v11, some h20v12, none, some (.tup [.int 3, .int 3]), some h20v1, none, none, none], []) := chk_eq (by kernel_rfl)
theorem h20s15 : evS ⟨callN fnL 100000 38, 100000⟩ (.asg (.one 3) (.bin false .add (.var 3) (.lst false (.cons (.lst false (.cons (.cst (.int 20)) (.cons (.cst (.int 10)) (.cons (.cst (.int 20)) (.cons (.cst (.int 5)) (.cons (.cst (.int 4)) (.cons (.cst (.int 10)) (.cons (.cst (.int 20)) (.cons (.cst (.int 5)) (.cons (.cst (.int 20)) (.cons (.cst (.int 2)) (.cons (.cst (.int 20)) (.cons (.cst (.int 5)) .nil))))))))))))) (.cons (.cst (.bl true)) (.cons (.cst (.bl true)) .nil)))))) [some h20v2, some h20v6, some h20v13, some h20v10, some h20v11, some h20v12, none, some (.tup [.int 3, .int 3]), some h20v1, none, none, none] [] = some (.nx, [some h20v2, some h20v6, some h20v13, some h20v13, some h20v11, some h20v12, none, some (.tup [.int 3, .int 3]), some h20v1, none, none, none], []) := chk_eq (by kernel_rfl)
def h20v14 : PV := .tup [.tup [.int 0, .int 1, .int 2, .int 3, .int 4, .int 5, .int 6, .int 7, .int 8, .int 9, .int 10, .int 11, .int 12, .int 13, .int 14, .int 15, .int 16, .int 17, .int 18, .int 19], .tup [.int 0, .int 1, .int 2, .int 3, .int 4, .int 5, .int 6, .int 7, .int 8, .int 9, .int 10, .int 11, .int 12, .int 13, .int 14, .int 15, .int 16, .int 17, .int 18, .int 19], .tup [.int 0, .int 1, .int 2, .int 3, .int 4, .int 5, .int 6, .int 7, .int 8, .int 9, .int 10, .int 11, .int 12, .int 13, .int 14, .int 15, .int 16, .int 17, .int 18, .int 19], .tup [.int 0, .int 1, .int 2, .int 3, .int 4, .int 5, .int 6, .int 7, .int 8, .int 9, .int 10, .int 11, .int 12, .int 13, .int 14, .int 15, .int 16, .int 17, .int 18, .int 19], .tup [.int 0, .int 1, .int 2, .int 3, .int 4, .int 5, .int 6, .int 7, .int 8, .int 9, .int 10, .int 11, .int 12, .int 13, .int 14, .int 15, .int 16, .int 17, .int 18, .int 19], .tup [.int 0, .int 1, .int 2, .int 3, .int 4, .int 5, .int 6, .int 7, .int 8, .int 9, .int 10, .int 11, .int 12, .int 13, .int 14, .int 15, .int 16, .int 17, .int 18, .int 19], .tup [.int 0, .int 1, .int 2, .int 3, .int 4, .int 5, .int 6, .int 7, .int 8, .int 9, .int 10, .int 11, .int 12, .int 13, .int 14, .int 15, .int 16, .int 17, .int 18, .int 19], .tup [.int 0, .int 1, .int 2, .int 3, .int 4, .int 5, .int 6, .int 7, .int 8, .int 9, .int 10, .int 11, .int 12, .int 13, .int 14, .int 15, .int 16, .int 17, .int 18, .int 19], .tup [.int 0, .int 1, .int 2, .int 3, .int 4, .int 5, .int 6, .int 7, .int 8, .int 9, .int 10, .int 11, .int 12, .int 13, .int 14, .int 15, .int 16, .int 17, .int 18, .int 19], .tup [.int 0, .int 1, .int 2, .int 3, .int 4, .int 5, .int 6, .int 7, .int 8, .int 9, .int 10, .int 11, .int 12, .int 13, .int 14, .int 15, .int 16, .int 17, .int 18, .int 19], .tup [.int 0, .int 1, .int 2, .int 3, .int 4, .int 5, .int 6, .int 7, .int 8, .int 9, .int 10, .int 11, .int 12, .int 13, .int 14, .int 15, .int 16, .int 17, .int 18, .int 19], .tup [.int 0, .int 1, .int 2, .int 3, .int 4, .int 5, .int 6, .int 7, .int 8, .int 9, .int 10, .int 11, .int 12, .int 13, .int 14, .int 15, .int 16, .int 17, .int 18, .int 19]]
theorem h20s16 : evS ⟨callN fnL 100000 38, 100000⟩ (.asg (.one 6) (.call 5 (.cons (.bi false .tuple1 (.cons (.bi false .sortedSet (.cons (.bin false .add (.var 4) (.bi false .tuple1 (.cons (.lc false (.itr .range1 (.cons (.cst (.int 20)) .nil)) (.one 10) [10] (.cst (.bl true)) (.bi false .tuple1 (.cons (.lc false (.itr .range1 (.cons (.cst (.int 12)) .nil)) (.one 11) [11] (.cst (.bl true)) (.bin false .mod (.bi false .int1 (.cons (.bin false .add (.var 10) (.var 11)) .nil)) (.cst (.int 20)))) .nil))) .nil))) .nil)) .nil)) .nil))) [some h20v2, some h20v6, some h20v13, some h20v13, some h20v11, some h20v12, none, some (.tup [.int 3, .int 3]), some h20v1, none, none, none] [] = some (.nx, [some h20v2, some h20v6, some h20v13, some h20v13, some h20v11, some h20v12, some h20v14, some (.tup [.int 3, .int 3]), some h20v1, none, none, none], []) := chk_eq (by kernel_rfl)
def h20v15 : PV := .lst [.lst [.bl true, .bl true, .bl true, .bl true], .lst [.bl false, .bl false, .bl false, .bl false, .bl false, .bl false, .bl false, .bl false, .bl false, .bl false, .bl false, .bl false, .bl false, .bl false, .bl false, .bl false, .bl false, .bl false, .bl false, .bl false], .bl true, .tup [.tup [.int 0, .int 1], .tup [.int 0, .int 2]], .tup [.tup [.int 1], .tup [.int 2]], .tup [.tup [.int 0, .int 1], .tup [.int 0, .int 2]], .tup [.tup [.int 5]], .lst [.int 20, .int 10, .int 20, .int 5, .int 4, .int 10, .int 20, .int 5, .int 20, .int 2, .int 20, .int 5], .bl true, .bl true, .bl true, .bl false]
theorem h20s17 : evS ⟨callN fnL 100000 38, 100000⟩ (.asg (.one 2) (.bin false .add (.var 2) (.lst false (.cons (.cmp .eq (.var 6) (.bin false .mul (.tup (.cons (.tupI (.itr .range1 (.cons (.cst (.int 20)) .nil))) .nil)) (.cst (.int 12)))) (.cons (.call 4 (.cons (.bin false .add (.bin false .mul (.tup (.cons (.cst (.int 20)) .nil)) (.cst (.int 11))) (.tup (.cons (.cst (.int 19)) .nil))) (.cons (.var 6) .nil))) .nil))))) [some h20v2, some h20v6, some h20v13, some h20v13, some h20v11, some h20v12, some h20v14, some (.tup [.int 3, .int 3]), some h20v1, none, none, none] [] = some (.nx, [some h20v2, some h20v6, some h20v15, some h20v13, some h20v11, some h20v12, some h20v14, some (.tup [.int 3, .int 3]), some h20v1, none, none, none], []) := chk_eq (by kernel_rfl)
theorem h20s18 : evS ⟨callN fnL 100000 38, 100000⟩ (.ret (.call 12 (.cons (.var 2) (.cons (.bin false .add (.var 3) (.lst false (.cons (.cst (.bl true)) (.cons (.cst (.bl false)) .nil)))) .nil)))) [some h20v2, some h20v6, some h20v15, some h20v13, some h20v11, some h20v12, some h20v14, some (.tup [.int 3, .int 3]), some h20v1, none, none, none] [] = some (.rt (.bl true), [some h20v2, some h20v6, some h20v15, some h20v13, some h20v11, some h20v12, some h20v14, some (.tup [.int 3, .int 3]), some h20v1, none, none, none], []) := chk_eq (by kernel_rfl)
theorem h20f : fnL[20]? = some ⟨0, 12, true, (.seq (.asg (.many [7, 8]) (.tup (.cons (.tup (.cons (.cst (.int 3)) (.cons (.cst (.int 3)) .nil))) (.cons (.tup (.cons (.tup (.cons (.cst (.int 0)) (.cons (.cst (.int 1)) .nil))) (.cons (.tup (.cons (.cst (.int 0)) (.cons (.cst (.int 2)) .nil))) .nil))) .nil)))) (.seq (.asg (.one 0) (.lst false (.cons (.var 8) (.cons (.tup (.cons (.tup (.cons (.cst (.int 0)) .nil)) (.cons (.tup (.cons (.cst (.int 0)) .nil)) .nil))) (.cons (.tup (.cons (.tup (.cons (.cst (.int 0)) (.cons (.cst (.int 1)) (.cons (.cst (.int 2)) .nil)))) (.cons (.tup (.cons (.cst (.int 0)) (.cons (.cst (.int 1)) (.cons (.cst (.int 2)) .nil)))) .nil))) (.cons (.tup (.cons (.tup (.cons (.cst (.int 2)) .nil)) (.cons (.tup (.cons (.cst (.int 1)) .nil)) .nil))) .nil)))))) (.seq (.asg (.one 1) (.lst false (.cons (.tup (.cons (.tup (.cons (.cst (.int 0)) (.cons (.cst (.int 3)) .nil))) (.cons (.tup (.cons (.cst (.int 1)) .nil)) .nil))) (.cons (.tup (.cons (.tup (.cons (.cst (.int 0)) .nil)) (.cons (.tup .nil) .nil))) (.cons (.tup (.cons (.tup (.cons (.cst (.int 0)) .nil)) .nil)) (.cons (.tup (.cons (.tup (.cons (.cst (.int 0)) .nil)) (.cons (.tup (.cons (.cst (.int 0)) .nil)) (.cons (.tup (.cons (.cst (.int 0)) .nil)) .nil)))) (.cons (.tup .nil) (.cons (.tup (.cons (.tup (.cons (.cst (.int 1)) (.cons (.cst (.int 0)) .nil))) (.cons (.tup (.cons (.cst (.int 0)) .nil)) .nil))) (.cons (.tup (.cons (.tup (.cons (.cst (.int 0)) (.cons (.cst (.int 0)) .nil))) (.cons (.tup (.cons (.cst (.int 0)) .nil)) .nil))) .nil))))))))) (.seq (.asg (.one 1) (.bin false .add (.var 1) (.lst false (.cons (.tup (.cons (.tup (.cons (.neg (.cst (.int 1))) .nil)) (.cons (.tup (.cons (.cst (.int 0)) .nil)) .nil))) (.cons (.lst false (.cons (.tup (.cons (.cst (.int 0)) .nil)) (.cons (.tup (.cons (.cst (.int 0)) .nil)) .nil))) .nil))))) (.seq (.asg (.one 1) (.bin false .add (.var 1) (.lst false (.cons (.tup (.cons (.lst false (.cons (.cst (.int 0)) .nil)) (.cons (.tup (.cons (.cst (.int 0)) .nil)) .nil))) (.cons (.tup (.cons (.tup (.cons (.cst (.bl true)) .nil)) (.cons (.tup (.cons (.cst (.int 0)) .nil)) .nil))) (.cons (.tup (.cons (.tup (.cons (.cst (.int 0)) .nil)) (.cons (.tup (.cons (.cst (.bl false)) (.cons (.cst (.int 1)) .nil))) .nil))) (.cons (.tup (.cons (.tup (.cons (.cst (.int 0)) .nil)) (.cons (.cst (.non)) .nil))) (.cons (.cst (.non)) (.cons (.cst (.int 0)) (.cons (.cst (.str "ab")) (.cons (.tup (.cons (.cst (.int 0)) (.cons (.cst (.int 0)) .nil))) .nil))))))))))) (.seq (.asg (.one 1) (.bin false .add (.var 1) (.lst false (.cons (.tup (.cons (.tup (.cons (.cst (.int 0)) .nil)) (.cons (.cst (.int 0)) .nil))) (.cons (.tup (.cons (.tup (.cons (.tup (.cons (.cst (.int 0)) .nil)) .nil)) (.cons (.tup (.cons (.cst (.int 0)) .nil)) .nil))) (.cons (.tup (.cons (.tup (.cons (.cst (.non)) .nil)) (.cons (.tup (.cons (.cst (.int 0)) .nil)) .nil))) .nil)))))) (.seq (.asg (.one 2) (.lst false (.cons (.lc false (.itr .seq (.cons (.var 0) .nil)) (.one 9) [9] (.cst (.bl true)) (.call 4 (.cons (.var 7) (.cons (.var 9) .nil)))) (.cons (.lc false (.itr .seq (.cons (.var 1) .nil)) (.one 9) [9] (.cst (.bl true)) (.call 4 (.cons (.var 7) (.cons (.var 9) .nil)))) .nil)))) (.seq (.asg (.one 2) (.bin false .add (.var 2) (.lst false (.cons (.callk 4 .nil (.cons (.var 8) (.cons (.lst false (.cons (.cst (.int 3)) (.cons (.cst (.int 3)) .nil))) .nil)) 0 ["depths", "thing"] ["thing", "depths"]) .nil)))) (.seq (.asg (.one 3) (.lst false (.cons (.bin false .mul (.lst false (.cons (.cst (.bl true)) .nil)) (.bi false .len (.cons (.var 0) .nil))) (.cons (.bin false .mul (.lst false (.cons (.cst (.bl false)) .nil)) (.bi false .len (.cons (.var 1) .nil))) (.cons (.cst (.bl true)) .nil))))) (.seq (.asg (.one 2) (.bin false .add (.var 2) (.lst false (.cons (.call 5 (.cons (.tup (.cons (.tup (.cons (.cst (.int 0)) (.cons (.cst (.int 0)) .nil))) (.cons (.tup (.cons (.cst (.int 1)) (.cons (.cst (.int 2)) .nil))) .nil))) .nil)) (.cons (.call 5 (.cons (.lst false (.cons (.lst false (.cons (.cst (.int 1)) (.cons (.cst (.int 2)) .nil))) .nil)) .nil)) (.cons (.callk 5 .nil (.cons (.lst false (.cons (.lst false (.cons (.cst (.int 0)) (.cons (.cst (.int 0)) .nil))) (.cons (.lst false (.cons (.cst (.int 1)) (.cons (.cst (.int 0)) .nil))) (.cons (.lst false (.cons (.cst (.int 1)) (.cons (.cst (.int 2)) .nil))) .nil)))) .nil) 0 ["keys"] ["keys"]) .nil)))))) (.seq (.asg (.one 2) (.bin false .add (.var 2) (.lst false (.cons (.call 5 (.cons (.tup (.cons (.tup (.cons (.cst (.int 5)) .nil)) .nil)) .nil)) .nil)))) (.seq (.asg (.one 3) (.bin false .add (.var 3) (.lst false (.cons (.var 8) (.cons (.tup (.cons (.tup (.cons (.cst (.int 1)) .nil)) (.cons (.tup (.cons (.cst (.int 2)) .nil)) .nil))) (.cons (.var 8) (.cons (.tup (.cons (.tup (.cons (.cst (.int 5)) .nil)) .nil)) .nil))))))) (.seq (.asg (.one 4) (.bi false .tuple1 (.cons (.lc false (.itr .range1 (.cons (.cst (.int 20)) .nil)) (.one 10) [10] (.cst (.bl true)) (.bi false .tuple1 (.cons (.lc false (.itr .range1 (.cons (.cst (.int 12)) .nil)) (.one 11) [11] (.cst (.bl true)) (.bin false .mod (.bi false .int1 (.cons (.bin false .mul (.var 10) (.bin false .add (.var 11) (.cst (.int 1)))) .nil)) (.cst (.int 20)))) .nil))) .nil))) (.seq (.asg (.one 5) (.call 5 (.cons (.var 4) .nil))) (.seq (.asg (.one 2) (.bin false .add (.var 2) (.lst false (.cons (.lc false (.itr .seq (.cons (.var 5) .nil)) (.one 9) [9] (.cst (.bl true)) (.bi false .len (.cons (.var 9) .nil))) (.cons (.call 4 (.cons (.bin false .mul (.tup (.cons (.cst (.int 20)) .nil)) (.cst (.int 12))) (.cons (.var 5) .nil))) (.cons (.call 4 (.cons (.bin false .add (.bin false .mul (.tup (.cons (.cst (.int 20)) .nil)) (.cst (.int 11))) (.tup (.cons (.cst (.int 19)) .nil))) (.cons (.var 5) .nil))) .nil)))))) (.seq (.asg (.one 3) (.bin false .add (.var 3) (.lst false (.cons (.lst false (.cons (.cst (.int 20)) (.cons (.cst (.int 10)) (.cons (.cst (.int 20)) (.cons (.cst (.int 5)) (.cons (.cst (.int 4)) (.cons (.cst (.int 10)) (.cons (.cst (.int 20)) (.cons (.cst (.int 5)) (.cons (.cst (.int 20)) (.cons (.cst (.int 2)) (.cons (.cst (.int 20)) (.cons (.cst (.int 5)) .nil))))))))))))) (.cons (.cst (.bl true)) (.cons (.cst (.bl true)) .nil)))))) (.seq (.asg (.one 6) (.call 5 (.cons (.bi false .tuple1 (.cons (.bi false .sortedSet (.cons (.bin false .add (.var 4) (.bi false .tuple1 (.cons (.lc false (.itr .range1 (.cons (.cst (.int 20)) .nil)) (.one 10) [10] (.cst (.bl true)) (.bi false .tuple1 (.cons (.lc false (.itr .range1 (.cons (.cst (.int 12)) .nil)) (.one 11) [11] (.cst (.bl true)) (.bin false .mod (.bi false .int1 (.cons (.bin false .add (.var 10) (.var 11)) .nil)) (.cst (.int 20)))) .nil))) .nil))) .nil)) .nil)) .nil))) (.seq (.asg (.one 2) (.bin false .add (.var 2) (.lst false (.cons (.cmp .eq (.var 6) (.bin false .mul (.tup (.cons (.tupI (.itr .range1 (.cons (.cst (.int 20)) .nil))) .nil)) (.cst (.int 12)))) (.cons (.call 4 (.cons (.bin false .add (.bin false .mul (.tup (.cons (.cst (.int 20)) .nil)) (.cst (.int 11))) (.tup (.cons (.cst (.int 19)) .nil))) (.cons (.var 6) .nil))) .nil))))) (.seq (.ret (.call 12 (.cons (.var 2) (.cons (.bin false .add (.var 3) (.lst false (.cons (.cst (.bl true)) (.cons (.cst (.bl false)) .nil)))) .nil)))) .skip)))))))))))))))))))⟩ := by kernel_rfl
theorem h20e : evS ⟨callN fnL 100000 38, 100000⟩ (.seq (.asg (.many [7, 8]) (.tup (.cons (.tup (.cons (.cst (.int 3)) (.cons (.cst (.int 3)) .nil))) (.cons (.tup (.cons (.tup (.cons (.cst (.int 0)) (.cons (.cst (.int 1)) .nil))) (.cons (.tup (.cons (.cst (.int 0)) (.cons (.cst (.int 2)) .nil))) .nil))) .nil)))) (.seq (.asg (.one 0) (.lst false (.cons (.var 8) (.cons (.tup (.cons (.tup (.cons (.cst (.int 0)) .nil)) (.cons (.tup (.cons (.cst (.int 0)) .nil)) .nil))) (.cons (.tup (.cons (.tup (.cons (.cst (.int 0)) (.cons (.cst (.int 1)) (.cons (.cst (.int 2)) .nil)))) (.cons (.tup (.cons (.cst (.int 0)) (.cons (.cst (.int 1)) (.cons (.cst (.int 2)) .nil)))) .nil))) (.cons (.tup (.cons (.tup (.cons (.cst (.int 2)) .nil)) (.cons (.tup (.cons (.cst (.int 1)) .nil)) .nil))) .nil)))))) (.seq (.asg (.one 1) (.lst false (.cons (.tup (.cons (.tup (.cons (.cst (.int 0)) (.cons (.cst (.int 3)) .nil))) (.cons (.tup (.cons (.cst (.int 1)) .nil)) .nil))) (.cons (.tup (.cons (.tup (.cons (.cst (.int 0)) .nil)) (.cons (.tup .nil) .nil))) (.cons (.tup (.cons (.tup (.cons (.cst (.int 0)) .nil)) .nil)) (.cons (.tup (.cons (.tup (.cons (.cst (.int 0)) .nil)) (.cons (.tup (.cons (.cst (.int 0)) .nil)) (.cons (.tup (.cons (.cst (.int 0)) .nil)) .nil)))) (.cons (.tup .nil) (.cons (.tup (.cons (.tup (.cons (.cst (.int 1)) (.cons (.cst (.int 0)) .nil))) (.cons (.tup (.cons (.cst (.int 0)) .nil)) .nil))) (.cons (.tup (.cons (.tup (.cons (.cst (.int 0)) (.cons (.cst (.int 0)) .nil))) (.cons (.tup (.cons (.cst (.int 0)) .nil)) .nil))) .nil))))))))) (.seq (.asg (.one 1) (.bin false .add (.var 1) (.lst false (.cons (.tup (.cons (.tup (.cons (.neg (.cst (.int 1))) .nil)) (.cons (.tup (.cons (.cst (.int 0)) .nil)) .nil))) (.cons (.lst false (.cons (.tup (.cons (.cst (.int 0)) .nil)) (.cons (.tup (.cons (.cst (.int 0)) .nil)) .nil))) .nil))))) (.seq (.asg (.one 1) (.bin false .add (.var 1) (.lst false (.cons (.tup (.cons (.lst false (.cons (.cst (.int 0)) .nil)) (.cons (.tup (.cons (.cst (.int 0)) .nil)) .nil))) (.cons (.tup (.cons (.tup (.cons (.cst (.bl true)) .nil)) (.cons (.tup (.cons (.cst (.int 0)) .nil)) .nil))) (.cons (.tup (.cons (.tup (.cons (.cst (.int 0)) .nil)) (.cons (.tup (.cons (.cst (.bl false)) (.cons (.cst (.int 1)) .nil))) .nil))) (.cons (.tup (.cons (.tup (.cons (.cst (.int 0)) .nil)) (.cons (.cst (.non)) .nil))) (.cons (.cst (.non)) (.cons (.cst (.int 0)) (.cons (.cst (.str "ab")) (.cons (.tup (.cons (.cst (.int 0)) (.cons (.cst (.int 0)) .nil))) .nil))))))))))) (.seq (.asg (.one 1) (.bin false .add (.var 1) (.lst false (.cons (.tup (.cons (.tup (.cons (.cst (.int 0)) .nil)) (.cons (.cst (.int 0)) .nil))) (.cons (.tup (.cons (.tup (.cons (.tup (.cons (.cst (.int 0)) .nil)) .nil)) (.cons (.tup (.cons (.cst (.int 0)) .nil)) .nil))) (.cons (.tup (.cons (.tup (.cons (.cst (.non)) .nil)) (.cons (.tup (.cons (.cst (.int 0)) .nil)) .nil))) .nil)))))) (.seq (.asg (.one 2) (.lst false (.cons (.lc false (.itr .seq (.cons (.var 0) .nil)) (.one 9) [9] (.cst (.bl true)) (.call 4 (.cons (.var 7) (.cons (.var 9) .nil)))) (.cons (.lc false (.itr .seq (.cons (.var 1) .nil)) (.one 9) [9] (.cst (.bl true)) (.call 4 (.cons (.var 7) (.cons (.var 9) .nil)))) .nil)))) (.seq (.asg (.one 2) (.bin false .add (.var 2) (.lst false (.cons (.callk 4 .nil (.cons (.var 8) (.cons (.lst false (.cons (.cst (.int 3)) (.cons (.cst (.int 3)) .nil))) .nil)) 0 ["depths", "thing"] ["thing", "depths"]) .nil)))) (.seq (.asg (.one 3) (.lst false (.cons (.bin false .mul (.lst false (.cons (.cst (.bl true)) .nil)) (.bi false .len (.cons (.var 0) .nil))) (.cons (.bin false .mul (.lst false (.cons (.cst (.bl false)) .nil)) (.bi false .len (.cons (.var 1) .nil))) (.cons (.cst (.bl true)) .nil))))) (.seq (.asg (.one 2) (.bin false .add (.var 2) (.lst false (.cons (.call 5 (.cons (.tup (.cons (.tup (.cons (.cst (.int 0)) (.cons (.cst (.int 0)) .nil))) (.cons (.tup (.cons (.cst (.int 1)) (.cons (.cst (.int 2)) .nil))) .nil))) .nil)) (.cons (.call 5 (.cons (.lst false (.cons (.lst false (.cons (.cst (.int 1)) (.cons (.cst (.int 2)) .nil))) .nil)) .nil)) (.cons (.callk 5 .nil (.cons (.lst false (.cons (.lst false (.cons (.cst (.int 0)) (.cons (.cst (.int 0)) .nil))) (.cons (.lst false (.cons (.cst (.int 1)) (.cons (.cst (.int 0)) .nil))) (.cons (.lst false (.cons (.cst (.int 1)) (.cons (.cst (.int 2)) .nil))) .nil)))) .nil) 0 ["keys"] ["keys"]) .nil)))))) (.seq (.asg (.one 2) (.bin false .add (.var 2) (.lst false (.cons (.call 5 (.cons (.tup (.cons (.tup (.cons (.cst (.int 5)) .nil)) .nil)) .nil)) .nil)))) (.seq (.asg (.one 3) (.bin false .add (.var 3) (.lst false (.cons (.var 8) (.cons (.tup (.cons (.tup (.cons (.cst (.int 1)) .nil)) (.cons (.tup (.cons (.cst (.int 2)) .nil)) .nil))) (.cons (.var 8) (.cons (.tup (.cons (.tup (.cons (.cst (.int 5)) .nil)) .nil)) .nil))))))) (.seq (.asg (.one 4) (.bi false .tuple1 (.cons (.lc false (.itr .range1 (.cons (.cst (.int 20)) .nil)) (.one 10) [10] (.cst (.bl true)) (.bi false .tuple1 (.cons (.lc false (.itr .range1 (.cons (.cst (.int 12)) .nil)) (.one 11) [11] (.cst (.bl true)) (.bin false .mod (.bi false .int1 (.cons (.bin false .mul (.var 10) (.bin false .add (.var 11) (.cst (.int 1)))) .nil)) (.cst (.int 20)))) .nil))) .nil))) (.seq (.asg (.one 5) (.call 5 (.cons (.var 4) .nil))) (.seq (.asg (.one 2) (.bin false .add (.var 2) (.lst false (.cons (.lc false (.itr .seq (.cons (.var 5) .nil)) (.one 9) [9] (.cst (.bl true)) (.bi false .len (.cons (.var 9) .nil))) (.cons (.call 4 (.cons (.bin false .mul (.tup (.cons (.cst (.int 20)) .nil)) (.cst (.int 12))) (.cons (.var 5) .nil))) (.cons (.call 4 (.cons (.bin false .add (.bin false .mul (.tup (.cons (.cst (.int 20)) .nil)) (.cst (.int 11))) (.tup (.cons (.cst (.int 19)) .nil))) (.cons (.var 5) .nil))) .nil)))))) (.seq (.asg (.one 3) (.bin false .add (.var 3) (.lst false (.cons (.lst false (.cons (.cst (.int 20)) (.cons (.cst (.int 10)) (.cons (.cst (.int 20)) (.cons (.cst (.int 5)) (.cons (.cst (.int 4)) (.cons (.cst (.int 10)) (.cons (.cst (.int 20)) (.cons (.cst (.int 5)) (.cons (.cst (.int 20)) (.cons (.cst (.int 2)) (.cons (.cst (.int 20)) (.cons (.cst (.int 5)) .nil))))))))))))) (.cons (.cst (.bl true)) (.cons (.cst (.bl true)) .nil)))))) (.seq (.asg (.one 6) (.call 5 (.cons (.bi false .tuple1 (.cons (.bi false .sortedSet (.cons (.bin false .add (.var 4) (.bi false .tuple1 (.cons (.lc false (.itr .range1 (.cons (.cst (.int 20)) .nil)) (.one 10) [10] (.cst (.bl true)) (.bi false .tuple1 (.cons (.lc false (.itr .range1 (.cons (.cst (.int 12)) .nil)) (.one 11) [11] (.cst (.bl true)) (.bin false .mod (.bi false .int1 (.cons (.bin false .add (.var 10) (.var 11)) .nil)) (.cst (.int 20)))) .nil))) .nil))) .nil)) .nil)) .nil))) (.seq (.asg (.one 2) (.bin false .add (.var 2) (.lst false (.cons (.cmp .eq (.var 6) (.bin false .mul (.tup (.cons (.tupI (.itr .range1 (.cons (.cst (.int 20)) .nil))) .nil)) (.cst (.int 12)))) (.cons (.call 4 (.cons (.bin false .add (.bin false .mul (.tup (.cons (.cst (.int 20)) .nil)) (.cst (.int 11))) (.tup (.cons (.cst (.int 19)) .nil))) (.cons (.var 6) .nil))) .nil))))) (.seq (.ret (.call 12 (.cons (.var 2) (.cons (.bin false .add (.var 3) (.lst false (.cons (.cst (.bl true)) (.cons (.cst (.bl false)) .nil)))) .nil)))) .skip))))))))))))))))))) [none, none, none, none, none, none, none, none, none, none, none, none] [] = some (.rt (.bl true), [some h20v2, some h20v6, some h20v15, some h20v13, some h20v11, some h20v12, some h20v14, some (.tup [.int 3, .int 3]), some h20v1, none, none, none], []) := seq_nx h20s0 (seq_nx h20s1 (seq_nx h20s2 (seq_nx h20s3 (seq_nx h20s4 (seq_nx h20s5 (seq_nx h20s6 (seq_nx h20s7 (seq_nx h20s8 (seq_nx h20s9 (seq_nx h20s10 (seq_nx h20s11 (seq_nx h20s12 (seq_nx h20s13 (seq_nx h20s14 (seq_nx h20s15 (seq_nx h20s16 (seq_nx h20s17 (seq_rt h20s18))))))))))))))))))
theorem h20 : callN fnL 100000 39 20 [] [] = some (.bl true, []) := hand_end (fs := fnL) (wf := 100000) (m := 38) (i := 20) (ns := 12) h20f h20e (by kernel_rfl)
theorem hand : callN fns 100000 39 20 [] [] = some (.bl true, []) := by rw [fnL_eq]; exact h20
theorem ltake : fns[7]? = some takeFn := by kernel_rfl
theorem llaw : fns[23]? = some (lawA 20 8 22 6) := by kernel_rfl
theorem lcells : fns[8]? = some cellsFn := by kernel_rfl
theorem lbox : fns[6]? = some (boxFn 1199) := by kernel_rfl
theorem right : RightC gs 100000 7 22 13 306000 := (all_ok (N := 30) (by omega) (case16_ok ⟨deep_ok g13 (by decide), gate_ok g15 (by decide) (pick_ok g10 (by decide)), chief_ok g17 (by decide) (tooth_ok g14 (by decide)), doorB_ok g4 (letsD_ok g3 (isnum_ok g0) (rises_ok g1)), bent_ok g19 (by decide) (of_ok g9 (by decide)), same_ok g12, lawis_ok g18, pinned_ok g16, doorfor_ok g5 (set_any_ok g2), lists_ok g11⟩ g21 (by decide)) g22 (by decide)).right
theorem law_any (ns : List Int) : ∃ st', callN fns 100000 40 23 [.arg (ns.map .int)] [] = some (.bl true, st') :=
  lawA_ok (fs := fns) (gs := gs) (wf := 100000) (tk := 7) (m := 40) (m0 := 13) (h := 20) (c := 8) (r := 22) (x := 6) (cost := 306000) (k0 := 1199) (i := 23) hgs ltake llaw lcells lbox right (by omega) hand (by omega) ns

theorem law_true (ns : List Int) (hl : ns.length ≤ 63) (hb : bitsOk ns) : ∃ st', callN fns 100000 40 23 [.arg (ns.map .int)] [] = some (.bl true, st') := by
  exact law_any ns

end K16
open PySem PySem.W PySem.Calls PyProof.Rows
theorem PySem.Challenge.cw_undermasters_k16_what_is_a_door_holds : PySem.Challenge.rw_undermasters_k16_what_is_a_door.Holds := by
  w_on; o_law
  refine HandSHeadRun.head_any (r := OpenLaw.row PySem.Challenge.rw_undermasters_k16_what_is_a_door) (q := view (OpenLaw.row PySem.Challenge.rw_undermasters_k16_what_is_a_door).prog [26]) (H := K16.hk) (ob := K16.ob) (M := 4000) (loose := K16.loose) (d := HandSHeadRun.topDef (OpenLaw.row PySem.Challenge.rw_undermasters_k16_what_is_a_door).prog 26) (kwd := []) K16.ob_eq
    (by kernel_rfl) (fun s => by kernel_rfl) K16.run (by kernel_rfl) (by kernel_rfl) (by kernel_rfl) (by rfl) (by first | assumption | decide +kernel) (by decide +kernel) ⟨rfl, rfl, rfl, rfl, rfl, by decide +kernel⟩ ?hw ?hc
  case hw => w_witness2
  case hc =>
    exact Ev.law_walk (l := PySem.Challenge.rw_undermasters_k16_what_is_a_door) (x := "_law_script") (wf := 100000) (n := 40) (i := 23) (ds := K16.ds) (free := K16.free) rfl (by kernel_rfl) rfl (by kernel_rfl) rfl ⟨rfl, by decide, by decide⟩ K16.dsOk K16.law_true

